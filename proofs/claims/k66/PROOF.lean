import PyProof.Rows.All
import Wide.All
import OpenK.AllK
import Wide.FinOn
import KE.KStateDown
import HandS.ForMost
import HandS.Exc
import HandS.ExcOwn
import HandS.TryMany
import HandS.IsInst
import HandS.Defaults
import HandS.Deep
import HandS.TupAny
import HandS.TupMul
import HandS.Walk
import HandS.Conv
import HandS.Codes
import HandS.Style
import HandS.Flow
import HandS.Strs
import HandS.SetFor
import HandS.SetBool
import HandS.Zip
import HandS.DictComp
import HandS.Lambda
import HandS.OwnEq
import HandS.WordsExc
import HandS.HeadHook4
import HandS.HeadWalk
import HandS.Head2
import KE.SortData
import KE.GoesMore
import KE.GoesEnum
import HandS.ExcSuper
import KE.KSuper
import HandS.Evl
import PySem.Challenge.RW_onceitwas_k66_whole_one_guest_who_comes
set_option Elab.async false
set_option linter.all false
set_option maxRecDepth 100000
set_option maxHeartbeats 8000000
/-! The base: the text by places, a def that may be called (DOk), data in the heap. -/
namespace Kx
open PySem PySem.Spec PyProof.Rows L2
/-! ### the text -/
def topS (i : Nat) : Stmt := PySem.Challenge.pw_onceitwas_k66_whole_one_guest_who_comes.main.body.getD i (.Pass ⟨0, 0, 0, 0⟩)
/-! ### a def that may be called by its name -/
/-- fd is the def's data at f -/
def FdAt (K : PySem.W.Frag) (f : Addr) (fd : FuncData) : Prop := ∃ (oc : Value) (od : Option Addr) (osl : Array (Option Value)), K.lookup f = some ⟨oc, od, .func fd, osl⟩
/-- x names a def that keeps sp; its parameters ps, the last ones filled up by dvs -/
structure DOk (P : Program) (w : World) (K : PySem.W.Frag) (mg : Str → Option Value) (base : Heap) (CX : CXT) (k : Nat) (x : Str) (ps : List Str) (dvs : List V) (sp : Sp) : Prop where
  ex : ∃ (f : Addr) (fd : FuncData) (ds : List Value), mg x = some (.ref f) ∧ PySem.W.keepIn K (.ref f) = true ∧ Binds K fd ps ds ∧ Vals dvs ds ∧ FnOk P w K mg base CX k f fd ps sp ∧ FdAt K f fd
theorem DOk.mono {P : Program} {w : World} {K : PySem.W.Frag} {mg : Str → Option Value} {base : Heap} {CX : CXT} {j k : Nat} {x : Str} {ps : List Str} {dvs : List V} {sp : Sp} (D : DOk P w K mg base CX j x ps dvs sp) (h : j ≤ k) : DOk P w K mg base CX k x ps dvs sp := by
  obtain ⟨f, fd, ds, a, b, c, d, e, z⟩ := D.ex
  exact ⟨f, fd, ds, a, b, c, d, e.mono h, z⟩
theorem DOk.imp {P : Program} {w : World} {K : PySem.W.Frag} {mg : Str → Option Value} {base : Heap} {CX : CXT} {k : Nat} {x : Str} {ps : List Str} {dvs : List V} {sp sp' : Sp} (D : DOk P w K mg base CX k x ps dvs sp) (h : ∀ vs H Q E, sp' vs H Q E → sp vs H Q E) : DOk P w K mg base CX k x ps dvs sp' := by
  obtain ⟨f, fd, ds, a, b, c, d, e, z⟩ := D.ex
  exact ⟨f, fd, ds, a, b, c, d, e.imp h, z⟩
section
variable {X : Cx} {CX : CXT} {k : Nat} {x : Str} {ps : List Str} {dvs : List V} {sp : Sp} {E : XK} {p pos : Pos} {e : Expr} {es : List Expr} {t : TA}
theorem pe_d (D : DOk X.prog X.w X.K X.mg X.base CX k x ps dvs sp) (hr : Room k X.A) (hg : Gl X x) (hx : Passes CX X E) (ha : PA X (e :: es) t)
    (hdb : (x == ("__debug__" : Str)) = false := by decide) (he : starEach (e :: es) X.env = (false, eval e X.env) :: starEach es X.env := by rfl) (hpl : (backTo pos (starEach es X.env)).any (·.1) = false := by rfl) :
    PE X (.Call (.Name x p) (e :: es) [] pos) (tCall sp dvs E t) := by
  obtain ⟨f, fd, ds, a, b, c, d, e, _⟩ := D.ex
  exact pe_call e hr hg a b c d hx ha hdb he hpl
end
theorem FunD.at_ {K : PySem.W.Frag} {x qual : Str} {params : Arguments} {body : List Stmt} {scope : Scope} {dvs : List V} {kws : List (Str × V)} {f : Addr} {fd : FuncData} (F : FunD K x qual params body scope dvs kws f fd) : FdAt K f fd := by
  obtain ⟨oc, od, dV, kV, doc, pm, an, cdv, ct, osl, _, lk, _⟩ := F.ex
  exact ⟨oc, od, osl, lk⟩
/-- a def of the module, as the head tells it -/
abbrev FnP (K : PySem.W.Frag) (x qual : Str) (st : Stmt) (f : Addr) (fd : FuncData) : Prop := FunD K x qual (defArgs st) (defBody st) (defScope st) [] [] f fd
/-- .. under its name -/
structure Gdef (K : PySem.W.Frag) (mg : Str → Option Value) (x : Str) (st : Stmt) (dvs : List V) : Prop where
  ex : ∃ (f : Addr) (fd : FuncData), mg x = some (.ref f) ∧ FunD K x x (defArgs st) (defBody st) (defScope st) dvs [] f fd
/-- THE RULE for a def of the module without defaults: its body -/
theorem Gdef.ok {P : Program} {w : World} {K : PySem.W.Frag} {mg : Str → Option Value} {base : Heap} {x : Str} {st : Stmt} {N ps : List Str} {k : Nat} {sp : Sp} {CX : CXT} (G : Gdef K mg x st []) (S : FnScope N ps (defScope st)) (len : ∀ vs H Q E, sp vs H Q E → vs.length = ps.length)
    (hb : ∀ (kV doc pm : Value) (an : Option Addr) (cdv ct : Value) (us : List Value), us.length = ps.length → bindArgs (PySem.W.fnOf x x (defArgs st) (defBody st) (defScope st) .none kV doc pm an cdv ct) ⟨us, []⟩ = pure (ps.zip us))
    (hbody : ∀ (f : Addr) (cdv : Value) (A : Around) (outer : List Env) (s : Shared) (H : Hp) (vs : List V) (Q : VK) (E : XK), Room k (A.deeper (envOfC x (defScope st) s.heap.objs.size f cdv)) → sp vs H Q E →
      ∃ t, PSs (cxOf CX P w K mg base N x (defScope st) f cdv A outer s H E) (defBody st) t ∧ t { nx := fun _ H' => Q .non H', rt := Q } (start N vs) H) : DOk P w K mg base CX (k + 1) x ps [] sp := by
  obtain ⟨f, fd, a, F⟩ := G.ex
  exact ⟨f, fd, [], a, F.kp, F.bindsN hb, .nil, F.ok S len fun cdv A outer s H vs Q E hr h => hbody f cdv A outer s H vs Q E hr h, FunD.at_ F⟩
/-- .. of which nothing leaves by an exception -/
theorem Gdef.ok0 {P : Program} {w : World} {K : PySem.W.Frag} {mg : Str → Option Value} {base : Heap} {x : Str} {st : Stmt} {N ps : List Str} {k : Nat} {sp : Sp} (G : Gdef K mg x st []) (S : FnScope N ps (defScope st)) (len : ∀ vs H Q E, sp vs H Q E → vs.length = ps.length)
    (hb : ∀ (kV doc pm : Value) (an : Option Addr) (cdv ct : Value) (us : List Value), us.length = ps.length → bindArgs (PySem.W.fnOf x x (defArgs st) (defBody st) (defScope st) .none kV doc pm an cdv ct) ⟨us, []⟩ = pure (ps.zip us))
    (hbody : ∀ (f : Addr) (cdv : Value) (A : Around) (outer : List Env) (s : Shared) (H : Hp) (vs : List V) (Q : VK) (E : XK), Room k (A.deeper (envOfC x (defScope st) s.heap.objs.size f cdv)) → sp vs H Q E →
      ∃ t, PSs (cxOf CX0 P w K mg base N x (defScope st) f cdv A outer s H E).nox (defBody st) t ∧ t { nx := fun _ H' => Q .non H', rt := Q } (start N vs) H) : DOk P w K mg base CX0 (k + 1) x ps [] sp := by
  refine G.ok S len hb fun f cdv A outer s H vs Q E hr h => ?_
  obtain ⟨t, h1, h2⟩ := hbody f cdv A outer s H vs Q E hr h
  exact ⟨t, h1.nox, h2⟩
end Kx
/-! Rules for tuples: told whole (their objects bear no dict), joined, made of lists, searched, summed; data of ints; sorted lists of data. -/
namespace Kx
open PySem PySem.Spec PyProof.Rows L2
/-! ### data -/
/-- at a a tuple of these ints stands, to be read -/
def Tu (H : Hp) (a : Addr) (ns : List Int) : Prop := Rd H a (.tup (ns.map V.int))
theorem Rd.same {H H' : Hp} {a : Addr} {u : HO} (h : Rd H a u) (e : Same H H') : Rd H' a u := h.imp (fun h => e _ _ h) fun ⟨o, h⟩ => ⟨o, e _ _ h⟩
theorem Tu.same {H H' : Hp} {a : Addr} {ns : List Int} (h : Tu H a ns) (e : Same H H') : Tu H' a ns := Rd.same h e
theorem Tu.sqT {K : PySem.W.Frag} {H : Hp} {a : Addr} {ns : List Int} (h : Tu H a ns) : SqT K H a (ns.map V.int) := .inl h
theorem same_new {H : Hp} {p : Addr} {o : HO} (h : H p = none) : Same H (upd H p o) := fun b x e => by
  rw [upd_ne (ne_of_none e h)]
  exact e
abbrev dInts (ns : List Int) : List PyData := ns.map PyData.int
abbrev dTu (ns : List Int) : PyData := .tuple (dInts ns)
theorem dp_ints {K : PySem.W.Frag} {H : Hp} : ∀ ns : List Int, DpAll K H (ns.map V.int) (dInts ns)
  | [] => .nil
  | n :: ns => .cons (.int n) (dp_ints ns)
theorem Tu.dp {K : PySem.W.Frag} {H : Hp} {a : Addr} {ns : List Int} (h : Tu H a ns) : Dp K H (.ref a) (dTu ns) := .tup (.inl h) (dp_ints ns)
theorem eqvAll_ints : ∀ as bs : List Int, PyData.eqvAll (dInts as) (dInts bs) = decide (as = bs)
  | [], [] => by simp [dInts, PyData.eqvAll]
  | [], _ :: _ => by simp [dInts, PyData.eqvAll]
  | _ :: _, [] => by simp [dInts, PyData.eqvAll]
  | a :: as, b :: bs => by
    show PyData.eqvAll (.int a :: dInts as) (.int b :: dInts bs) = _
    rw [PyData.eqvAll, eqvAll_ints as bs]
    show ((a == b) && decide (as = bs)) = _
    by_cases h : a = b
    · by_cases h2 : as = bs
      · simp [h, h2]
      · simp [h, h2]
    · simp [h]
theorem eqv_tu (as bs : List Int) : PyData.eqv (dTu as) (dTu bs) = decide (as = bs) := by
  show PyData.eqv (.tuple (dInts as)) (.tuple (dInts bs)) = _
  rw [PyData.eqv, eqvAll_ints]
theorem depth_ints : ∀ ns : List Int, PyData.depthAll (dInts ns) = 0
  | [] => by simp [dInts, PyData.depthAll]
  | n :: ns => by
    show PyData.depthAll (.int n :: dInts ns) = 0
    rw [PyData.depthAll, depth_ints ns]
    simp [PyData.depth]
theorem lay_ints : ∀ ns : List Int, PyData.canLayAll0 (dInts ns) = true
  | [] => by simp [dInts, PyData.canLayAll0]
  | n :: ns => by
    show PyData.canLayAll0 (.int n :: dInts ns) = true
    rw [PyData.canLayAll0, lay_ints ns]
    simp [PyData.canLay0]
theorem depth_tu (ns : List Int) : (dTu ns).depth = 1 := by
  show (PyData.tuple (dInts ns)).depth = 1
  rw [PyData.depth, depth_ints]
theorem lay_tu (ns : List Int) : (dTu ns).canLay0 = true := by
  show (PyData.tuple (dInts ns)).canLay0 = true
  rw [PyData.canLay0, lay_ints]
theorem shaped_of {d : PyData} (h1 : d.canLay0 = true) (h2 : d.depth ≤ 64) : SeqAt.shaped d = true := by
  show (d.canLay0 && decide (d.depth ≤ 64)) = true
  rw [h1, decide_eq_true h2]
  rfl
theorem shaped_tu (ns : List Int) : SeqAt.shaped (dTu ns) = true := shaped_of (lay_tu ns) (by rw [depth_tu]; decide)
/-- a list, a tuple of tuples of ints -/
abbrev dTus (nss : List (List Int)) : List PyData := nss.map dTu
theorem lay_tus : ∀ nss : List (List Int), PyData.canLayAll0 (dTus nss) = true
  | [] => by simp [dTus, PyData.canLayAll0]
  | ns :: nss => by
    show PyData.canLayAll0 (dTu ns :: dTus nss) = true
    rw [PyData.canLayAll0, lay_tus nss, lay_tu]
    rfl
theorem depth_tus : ∀ nss : List (List Int), PyData.depthAll (dTus nss) ≤ 1
  | [] => by simp [dTus, PyData.depthAll]
  | ns :: nss => by
    show PyData.depthAll (dTu ns :: dTus nss) ≤ 1
    rw [PyData.depthAll, depth_tu]
    have := depth_tus nss
    omega
theorem shaped_tus (nss : List (List Int)) : SeqAt.shaped (.tuple (dTus nss)) = true := shaped_of (by rw [PyData.canLay0, lay_tus]) (by rw [PyData.depth]; have := depth_tus nss; omega)
theorem shaped_tusL (nss : List (List Int)) : SeqAt.shaped (.list (dTus nss)) = true := shaped_of (by rw [PyData.canLay0, lay_tus]) (by rw [PyData.depth]; have := depth_tus nss; omega)
theorem shaped_intsT (ns : List Int) : SeqAt.shaped (.tuple (dInts ns)) = true := shaped_tu ns
theorem shaped_int (i : Int) : SeqAt.shaped (.int i) = true := shaped_of (by simp [PyData.canLay0]) (by simp [PyData.depth])
/-- refs to tuples of ints -/
abbrev Tus (H : Hp) (as : List Addr) (nss : List (List Int)) : Prop := Paired (Tu H) as nss
theorem Tus.same {H H' : Hp} {as : List Addr} {nss : List (List Int)} (h : Tus H as nss) (e : Same H H') : Tus H' as nss := Paired.mapP h fun _ _ t => t.same e
theorem Tus.dp {K : PySem.W.Frag} {H : Hp} : ∀ {as : List Addr} {nss : List (List Int)}, Tus H as nss → DpAll K H (as.map V.ref) (dTus nss)
  | _, _, .nil => .nil
  | _, _, .cons h t => .cons h.dp (Tus.dp t)
theorem paired_get {α β : Type} {F : α → β → Prop} : ∀ {xs : List α} {ys : List β}, Paired F xs ys → ∀ {i : Nat} {x : α} {y : β}, xs[i]? = some x → ys[i]? = some y → F x y
  | _, _, .nil, _, _, _, h, _ => by simp at h
  | _, _, .cons h t, 0, _, _, h1, h2 => by
    cases (Option.some.inj h1)
    cases (Option.some.inj h2)
    exact h
  | _, _, .cons h t, i + 1, _, _, h1, h2 => paired_get t (by simpa using h1) (by simpa using h2)
theorem paired_snoc {α β : Type} {F : α → β → Prop} : ∀ {xs : List α} {ys : List β}, Paired F xs ys → ∀ {x : α} {y : β}, F x y → Paired F (xs ++ [x]) (ys ++ [y])
  | _, _, .nil, _, _, h => .cons h .nil
  | _, _, .cons h t, _, _, h1 => .cons h (paired_snoc t h1)
/-! ### a tuple told whole -/
/-- at a a tuple stands whose object bears no dict -/
def Ft (H : Hp) (a : Addr) (xs : List V) : Prop := ∃ o : Obj, o.dict = none ∧ H a = some (.frz o (.tup xs))
theorem Ft.rd {H : Hp} {a : Addr} {xs : List V} (h : Ft H a xs) : Rd H a (.tup xs) := let ⟨o, _, h⟩ := h; .inr ⟨o, h⟩
theorem Ft.same {H H' : Hp} {a : Addr} {xs : List V} (h : Ft H a xs) (e : Same H H') : Ft H' a xs := let ⟨o, d, h⟩ := h; ⟨o, d, e _ _ h⟩
section
variable {X : Cx}
/-- t + u, u not empty: told whole, if t is not empty -/
def rCatF (K : PySem.W.Frag) : R2 := fun x y H Q => ∃ a b xs ys, x = .ref a ∧ y = .ref b ∧ SqT K H a xs ∧ SqT K H b ys ∧ ys ≠ [] ∧ xs.length + ys.length ≤ sizeLine ∧ (xs = [] → Q (.ref b) H) ∧
  (xs ≠ [] → ∀ (p : Addr) (o : Obj), H p = none → o.dict = none → Q (.ref p) (upd H p (.frz o (.tup (xs ++ ys)))))
theorem op_catF : OpR X (binaryOp .Add) (rCatF X.K) := by
  intro pins s σ H x y v u Q I rx ry h
  obtain ⟨a, b, xs, ys, rfl, rfl, ha, hb, hy, hz, q0, q1⟩ := h
  cases rx
  cases ry
  obtain ⟨its, r1, p1, _⟩ := I.tuple ha
  obtain ⟨its2, r2, p2, _⟩ := I.tuple hb
  by_cases hx : xs = []
  · subst hx
    cases r1
    exact cat_tup0 p1 p2 ⟨.ref b, H, I, rfl, q0 rfl⟩
  · have n1 : its ≠ [] := fun z => hx ((Vals.nil_iff r1).mp z)
    have n2 : its2 ≠ [] := fun z => hy ((Vals.nil_iff r2).mp z)
    have l1 := r1.length
    have l2 := r2.length
    refine HT.cat_tup p1 p2 n1 (fun z => absurd z n2) (fun _ => ?_) (by omega)
    have new : ∀ H' : Hp, ObjOk X.prog X.w H' (s.heap.push { cls := .type "tuple", data := .seq (its ++ its2).toArray }) s.heap.objs.size (.frz { cls := .type "tuple", data := .seq (its ++ its2).toArray } (.tup (xs ++ ys))) := fun H' =>
      ⟨Heap.get?_push_size _ rfl, by rw [List.length_append]; exact hz, its ++ its2, r1.append r2, IsTup.new _ _⟩
    exact ⟨.ref s.heap.objs.size, _, I.laid (t' := s.toks) (fun b o e => Heap.get?_push_of_some _ e) (Nat.le_refl _) (new _), rfl, q1 hx _ _ I.fresh rfl⟩
/-- tuple(xs) of a list: told whole -/
def rTupleF (K : PySem.W.Frag) : List V → Hp → VK → Prop := fun vs H Q => ∃ p ys, vs = [.ref p] ∧ SqL K H p ys ∧ ∀ (l : Addr) (o : Obj), H l = none → o.dict = none → Q (.ref l) (upd H l (.frz o (.tup ys)))
theorem call_tupleF : CallR X (.type "tuple") (rTupleF X.K) := by
  intro pins s σ H xs us Q I r h
  obtain ⟨p, ys, rfl, hq, q⟩ := h
  obtain ⟨u, rfl, rx⟩ := vals1 r
  cases rx
  obtain ⟨its, r', pl, hz⟩ := I.list hq
  have hlen := r'.length
  refine call_tuple_list pl.isList (fun h' kp => ?_) (by simp only [List.size_toArray]; omega)
  have I1 : Inv X pins σ H { s with heap := h' } := I.kept (t' := s.toks) kp
  have new : ∀ H' : Hp, ObjOk X.prog X.w H' (h'.push { cls := .type "tuple", data := .seq its.toArray }) h'.objs.size (.frz { cls := .type "tuple", data := .seq its.toArray } (.tup ys)) := fun H' =>
    ⟨Heap.get?_push_size _ rfl, hz, its, r', IsTup.new _ _⟩
  exact ⟨.ref h'.objs.size, _, I1.laid (t' := s.toks) (fun b o e => Heap.get?_push_of_some _ e) (Nat.le_refl _) (new _), rfl, q _ _ (I1.hok.fresh (Nat.le_refl _)) rfl⟩
/-- t.index(e), t told whole: the first place of an equal one -/
def tTIx (K : PySem.W.Frag) (to : TE) (t : TA) : TE := fun σ H Q => to σ H fun x H1 => ∃ (a : Addr) (xs : List V), x = .ref a ∧ Ft H1 a xs ∧ t σ H1 fun vs H2 => ∃ (y : V) (d : PyData) (ds : List PyData) (j : Nat) (z : PyData), vs = [y] ∧
  SqT K H2 a xs ∧ DpAll K H2 xs ds ∧ Dp K H2 y d ∧ SeqAt.shaped (.tuple ds) = true ∧ SeqAt.shaped d = true ∧ ds[j]? = some z ∧ PyData.eqv z d = true ∧ (∀ (m : Nat) (z' : PyData), m < j → ds[m]? = some z' → PyData.eqv z' d = false) ∧ Q (.int (j : Nat)) H2
theorem pe_tindex {o e : Expr} {to : TE} {t : TA} {apos cpos : Pos} (hu : X.A.units + 65 < cLine) (ho : PE X o to) (ha : PA X [e] t)
    (hbase : attributeBase o "index" X.env (eval o X.env) = eval o X.env := by rfl)
    (hfew : ((backTo cpos (starEach [e] X.env)).all (fun x => !x.1) && (backToKw cpos (keywordEach [] X.env)).all (fun x => x.1.isSome)
      && decide (([e] : List Expr).length + ([] : List Keyword).length + (if ([] : List Keyword).isEmpty then 0 else 1) < 30)) = true := by rfl)
    (hline : (apos.endLine == cpos.line) = true := by rfl) (hs : starEach [e] X.env = (false, eval e X.env) :: starEach [] X.env := by rfl) (hplain : (backTo cpos (starEach [] X.env)).any (·.1) = false := by rfl) :
    PE X (.Call (.Attribute o "index" apos) [e] [] cpos) (tTIx X.K to t) := by
  refine ⟨fun pins s σ H Q I h => ?_⟩
  refine wpAny_Call_method_late hbase hfew hline rfl (thn (ho.run pins s σ H _ I h) fun v s1 hh => ?_)
  obtain ⟨x, H1, I1, r1, a, xs, rfl, ⟨oo, hd, hf⟩, q1⟩ := hh
  obtain rfl : v = Value.ref a := r1
  obtain ⟨hof, _, its0, _, pt0⟩ := I1.hok a _ hf
  refine ⟨"tuple", "tuple.index", PySem.F.plainAttrs_tuple, PySem.F.slot_tuple_index, PySem.F.type_tuple_index, pt0.typeIs, fun b e => ?_, ?_⟩
  · cases e
    exact ⟨oo, hof, hd⟩
  · have hA := ha.run cpos pins s1 σ H1 _ I1 q1
    rw [hs] at hA ⊢
    refine Calls.callWith_builtin (by show (false || (backTo cpos (starEach [] X.env)).any (·.1)) = false; rw [hplain]; rfl) (Calls.evalArgs_plain ?_)
    refine thn hA fun us s2 hh2 => ?_
    obtain ⟨vs, H2, I2, r2, y, d, ds, j, z, rfl, hq, hxs, hy, hsl, hsd, hz, hzj, hno, q⟩ := hh2
    obtain ⟨uy, rfl, ry⟩ := vals1 r2
    obtain ⟨bs, rb⟩ := Dp.reads I2 d y uy hy ry
    obtain ⟨its, rv, ⟨⟨cls, dd, data, sls⟩, hob, hc, n, hdt⟩, hlen⟩ := I2.tuple hq
    simp only at hc hdt
    subst hc hdt
    obtain ⟨as, h4⟩ := Dp.readsAll I2 ds _ its hxs rv
    have hlay : PyData.canLayAll0 ds = true := SeqAt.canLay_of_shaped (d := .tuple ds) hsl
    have hn : its.length = ds.length := SeqAt.ReadsAll.length ds its as h4
    have hmap : its.map (SeqAt.readOf s2.heap) = ds := SeqAt.readsAll_map ds its as hlay h4
    obtain ⟨hjd, _⟩ := List.getElem?_eq_some_iff.mp hz
    have hjl : j < its.length := by omega
    have hj : j < its.toArray.size := by simpa using hjl
    have at_ : ∀ (m : Nat) (hm : m < its.toArray.size) (z' : PyData), ds[m]? = some z' → SeqAt.readOf s2.heap its.toArray[m] = z' := by
      intro m hm z' hz'
      have hml : m < its.length := by simpa using hm
      rw [← hmap, List.getElem?_map, List.getElem?_eq_getElem hml] at hz'
      have e1 : SeqAt.readOf s2.heap its[m] = z' := Option.some.inj (show some (SeqAt.readOf s2.heap its[m]) = some z' from hz')
      simpa using e1
    have hroom : X.A.units + 1 + min (PyData.depthAll ds) d.depth < cLine := room_in_shaped hsd hu
    refine call_meets PySem.F.slot_tuple_index ⟨_, hob, rfl⟩ PySem.F.entry_tuple_index (PySem.F.args_tuple_index_2 _ _)
      (TI.tuple_indexAt a its.toArray n dd sls uy (fun u => PyData.eqv (SeqAt.readOf s2.heap u) d) j hj ?_ ?_) ⟨hob, SeqAt.items_eqAt (vs := its.toArray) (show ReadsAll s2.heap its.toArray.toList ds as from h4) rb hlay (SeqAt.canLay_of_shaped hsd) hroom, ?_⟩
    · show PyData.eqv (SeqAt.readOf s2.heap its.toArray[j]) d = true
      rw [at_ j hj z hz]
      exact hzj
    · intro m hm hmj
      have hmd : m < ds.length := by omega
      have hz' : ds[m]? = some ds[m] := List.getElem?_eq_getElem hmd
      show PyData.eqv (SeqAt.readOf s2.heap its.toArray[m]) d = false
      rw [at_ m hm _ hz']
      exact hno m _ hmj hz'
    · exact ⟨.int (j : Nat), H2, I2.tok _, ⟨_, rfl⟩, q⟩
end
end Kx
/-! Rules: sorted of tuples of ints; sum of a tuple; in a tuple of data; dicts whose keys are tuples of ints, told by their addresses. -/
namespace Kx
open PySem PySem.Spec PyProof.Rows L2
/-! ### sorted of tuples of ints -/
theorem dataLt_tu (xs ys : List Int) : PySem.W.dataLt (dTu xs) (dTu ys) = decide (xs < ys) := by
  rw [← PySem.W.dataLt_ints xs ys]
  unfold PySem.W.dataLt PySem.W.rowLt
  simp only [PySem.W.keyToks]
theorem dataLe_tus {β : Type} (x : β → List Int) : PySem.W.dataLe false (fun b => dTu (x b)) = fun p q => decide (x p ≤ x q) := by
  funext p q
  show (!PySem.W.dataLt (dTu (x q)) (dTu (x p))) = _
  rw [dataLt_tu]
  by_cases h : x q < x p
  · have h' : ¬ x p ≤ x q := fun r => List.not_lt.mpr r h
    simp [h, h']
  · have h' : x p ≤ x q := List.not_lt.mp h
    simp [h, h']
theorem each_refs {h : Heap} : ∀ {as : List Addr} {nss : List (List Int)} {us : List Value}, Vals (as.map V.ref) us → as.length = nss.length → PySem.W.EachIs (fun (u : Value) (b : Addr × List Int) => u = .ref b.1) us (as.zip nss)
  | [], [], _, .nil, _ => .nil
  | [], _ :: _, _, _, l => by simp at l
  | _ :: _, [], _, _, l => by simp at l
  | a :: as, ns :: nss, _, .cons r t, l => .cons r (each_refs (h := h) t (by simpa using l))
theorem each_reads {X : Cx} {pins : List (Addr × Obj)} {σ : L2.St} {H : Hp} {s : Shared} (I : Inv X pins σ H s) : ∀ {as : List Addr} {nss : List (List Int)} {us : List Value}, Vals (as.map V.ref) us → Tus H as nss →
    PySem.W.EachIs (fun (v : Value) (b : Addr × List Int) => ∃ zs, Reads s.heap v (dTu b.2) zs) us (as.zip nss)
  | [], [], _, .nil, .nil => .nil
  | a :: as, ns :: nss, _, .cons r t, .cons h ht => .cons (Dp.reads I _ _ _ (Tu.dp h) r) (each_reads I t ht)
theorem each_map_refs : ∀ {us : List Value} {bs : List (Addr × List Int)}, PySem.W.EachIs (fun (u : Value) (b : Addr × List Int) => u = .ref b.1) us bs → Vals (bs.map fun b => V.ref b.1) us
  | _, _, .nil => .nil
  | _, _, .cons h t => .cons h (each_map_refs t)
theorem le_tot : PySem.W.TotalLe (fun (p q : Addr × List Int) => decide (p.2 ≤ q.2)) :=
  ⟨fun a b c h1 h2 => decide_eq_true (List.le_trans (of_decide_eq_true h1) (of_decide_eq_true h2)), fun a b => (List.le_total a.2 b.2).imp decide_eq_true decide_eq_true⟩
/-- what stands at zs is what stands at as, in order -/
structure SortedTus (H : Hp) (as : List Addr) (nss : List (List Int)) (bs : List Addr) (mss : List (List Int)) : Prop where
  at_ : Tus H bs mss
  perm : (bs.zip mss).Perm (as.zip nss)
  len : bs.length = mss.length
  asc : mss.Pairwise (· ≤ ·)
theorem tus_of_mem {H : Hp} : ∀ {l : List (Addr × List Int)}, (∀ b ∈ l, Tu H b.1 b.2) → Tus H (l.map (·.1)) (l.map (·.2))
  | [], _ => .nil
  | b :: l, h => .cons (h b List.mem_cons_self) (tus_of_mem fun c hc => h c (List.mem_cons_of_mem _ hc))
theorem tus_mem {H : Hp} : ∀ {as : List Addr} {nss : List (List Int)}, Tus H as nss → ∀ b ∈ as.zip nss, Tu H b.1 b.2
  | _, _, .nil, _, hb => by simp at hb
  | _, _, .cons h t, b, hb => by
    rcases List.mem_cons.mp hb with rfl | hb
    · exact h
    · exact tus_mem t b hb
theorem sorted_tus {H : Hp} {as : List Addr} {nss : List (List Int)} (h : Tus H as nss) :
    SortedTus H as nss (((as.zip nss).mergeSort fun p q => decide (p.2 ≤ q.2)).map (·.1)) (((as.zip nss).mergeSort fun p q => decide (p.2 ≤ q.2)).map (·.2)) := by
  have hp := List.mergeSort_perm (as.zip nss) fun p q => decide (p.2 ≤ q.2)
  refine ⟨tus_of_mem fun b hb => tus_mem h b (hp.mem_iff.mp hb), ?_, by simp, ?_⟩
  · rw [← List.zip_of_prod rfl rfl]
    exact hp
  · rw [List.pairwise_map]
    exact (PySem.W.sort_pairwise le_tot (as.zip nss)).imp fun h => of_decide_eq_true h
section
variable {X : Cx}
def rSortTu (K : PySem.W.Frag) : List V → Hp → VK → Prop := fun vs H Q => ∃ (a : Addr) (as : List Addr) (nss : List (List Int)), vs = [V.ref a] ∧ SqL K H a (as.map V.ref) ∧ Tus H as nss ∧ (∀ ns ∈ nss, ns ≠ []) ∧
  ∀ (p : Addr) (bs : List Addr) (mss : List (List Int)), H p = none → SortedTus H as nss bs mss → Q (.ref p) (upd H p (.lst (bs.map V.ref)))
theorem cr_sortTu (hu : X.A.units + 64 < cLine) : CallR X (.builtin "sorted") (rSortTu X.K) := by
  intro pins s σ H vs us Q I r h
  obtain ⟨a, as, nss, rfl, hs, ht, hne, q⟩ := h
  obtain ⟨its, rv, hl, hz⟩ := I.list hs
  rw [Vals.ref1 r]
  have hlen : as.length = nss.length := Paired.length ht
  have hzl : (as.zip nss).length = as.length := by rw [List.length_zip, hlen]; exact Nat.min_self _
  have hz' : as.length ≤ sizeLine := by simpa using hz
  refine PySem.W.sorted_data (enc := fun b : Addr × List Int => dTu b.2) (R := fun u b => u = .ref b.1) (bs := as.zip nss) hl.isList (each_refs (h := s.heap) rv hlen) (each_reads I rv ht) (PySem.W.AllAlike.of fun b b' => ?_) ?_ (by rw [hzl]; exact hz') (fun b _ => ?_) fun out hout hE => ?_
  · show PySem.W.alikeAll (dInts b.2) (dInts b'.2) = true
    exact PySem.W.alike_ints _ _
  · refine .inl fun d hd => ?_
    obtain ⟨b, hb, rfl⟩ := List.mem_map.mp hd
    have hb2 : b.2 ∈ nss := (List.of_mem_zip hb).2
    cases e : b.2 with
    | nil => exact absurd e (hne _ hb2)
    | cons x r => exact ⟨.int x, dInts r, by show PyData.tuple (dInts (x :: r)) = _; rfl⟩
  · show X.A.units + 2 + (dTu b.2).depth < cLine
    rw [depth_tu]
    omega
  · have e1 : PySem.W.dataLe false (fun b : Addr × List Int => dTu b.2) = fun p q => decide (p.2 ≤ q.2) := dataLe_tus (fun b : Addr × List Int => b.2)
    rw [e1] at hE
    obtain ⟨ep, he'⟩ := PyProof.Rows.sortedAll_at s.heap its out.toArray
    have rv' := each_map_refs hE
    have hl2 : (((as.zip nss).mergeSort fun p q => decide (p.2 ≤ q.2)).map fun b => V.ref b.1).length ≤ sizeLine := by
      rw [List.length_map, List.length_mergeSort, hzl]
      exact hz'
    have em : ((((as.zip nss).mergeSort fun p q => decide (p.2 ≤ q.2)).map (·.1)).map V.ref) = ((as.zip nss).mergeSort fun p q => decide (p.2 ≤ q.2)).map fun b => V.ref b.1 := by
      rw [List.map_map]
      rfl
    refine ⟨.ref _, upd H (s.heap.objs.size + 1) (.lst (((as.zip nss).mergeSort fun p q => decide (p.2 ≤ q.2)).map fun b => V.ref b.1)), I.laid (t' := s.toks) (fun _ _ => PyProof.Rows.sortedAll_old) (Nat.le_succ _) ⟨hl2, out, ep, rv', he'⟩, rfl, ?_⟩
    rw [← em]
    exact q _ _ _ (I.hok.fresh (Nat.le_succ _)) (sorted_tus ht)
/-! ### sum of a tuple -/
theorem sum_tupRaw {prog : Program} {w : World} {A : Around} {E : Value → Shared → Prop} {s : Shared} {l : Addr} {its : List Value} {ns : List Int} {Q : Value → Shared → Prop} (hh : A.handled = none) (hl : s.heap.IsTuple l its.toArray) (hi : IntsAre its ns)
    (h : ∀ h' tk t', (∀ b o, s.heap.get? b = some o → h'.get? b = some o) → Q (.int ns.sum t') { s with heap := h', toks := tk }) : wpAny (model prog w) A (call (.builtin "sum") [.ref l]) Q E s := by
  obtain ⟨xs, e⟩ := hi.allInts.items
  have hn : numsOf (intItems xs).toList = ns := by rw [← e]; exact hi.numsOf
  rw [nums_intItems] at hn
  rw [e] at hl
  have hlt : l < s.heap.objs.size := by obtain ⟨_, e, _⟩ := hl; exact Heap.lt_size e
  refine call_sum_walkG (wpAny_pyIter_tuple hl ?_)
  refine ⟨s.heap.objs.size, _, _, _, _, _, numAt xs, rfl, Walks.tuple (A := A.in1) hh _ l (Nat.ne_of_lt hlt) (intItems xs), ⟨⟨_, Heap.get?_push_size _ rfl, rfl, rfl⟩, hl.push _⟩, fun b hb => ?_, (fun _ _ => intItems_at), fun h' tk t' hk => ?_⟩
  · show b < (s.heap.push _).objs.size
    rw [Heap.size_push]
    rcases List.mem_cons.mp hb with rfl | hb
    · exact Nat.lt_succ_self _
    · rcases List.mem_cons.mp hb with rfl | hb
      · exact Nat.lt_succ_of_lt hlt
      · cases hb
  · have q := h h' tk t' fun b o e => hk b o (fun z => by
      have e2 : b = s.heap.objs.size := by simpa using z
      rw [e2] at e
      exact Nat.lt_irrefl _ (Heap.lt_size e)) (Heap.get?_push_of_some _ e)
    have e3 : preSum (numAt xs) (intItems xs).size = ns.sum := by
      rw [show (intItems xs).size = xs.size by simp [intItems], preSum_eq, List.take_of_length_le (by simp), hn]
    rw [e3]
    exact q
def rSumT (K : PySem.W.Frag) : List V → Hp → VK → Prop := fun vs H Q => ∃ (a : Addr) (ns : List Int), vs = [V.ref a] ∧ SqT K H a (ns.map V.int) ∧ Q (.int ns.sum) H
theorem cr_sumT (hc : X.calm = true) : CallR X (.builtin "sum") (rSumT X.K) := by
  intro pins s σ H vs us Q I r h
  obtain ⟨a, ns, rfl, hs, q⟩ := h
  obtain ⟨its, rv, hl, _⟩ := I.tuple hs
  rw [Vals.ref1 r]
  exact sum_tupRaw (I.ok.hd hc) hl rv.ints fun h' tk t' hk => ⟨.int _, H, I.kept hk, ⟨_, rfl⟩, q⟩
/-! ### a tuple of ints in a list, in a tuple of such -/
theorem any_tus (nss : List (List Int)) (ns : List Int) : ((dTus nss).any fun z => PyData.eqv z (dTu ns)) = decide (ns ∈ nss) := by
  show ((nss.map dTu).any fun z => PyData.eqv z (dTu ns)) = _
  rw [List.any_map]
  have e : ((fun z => PyData.eqv z (dTu ns)) ∘ dTu) = fun ms => decide (ms = ns) := by
    funext ms
    exact eqv_tu ms ns
  rw [e]
  by_cases h : ns ∈ nss
  · rw [decide_eq_true h]
    exact List.any_eq_true.mpr ⟨ns, h, decide_eq_true rfl⟩
  · rw [decide_eq_false h]
    refine List.any_eq_false.mpr fun ms hm => ?_
    rw [decide_eq_true_eq]
    intro z
    exact h (z ▸ hm)
/-- x in y (neg: not in) -/
def rInTu (K : PySem.W.Frag) (neg : Bool) : R2 := fun x y H Q => ∃ (a t : Addr) (ns : List Int) (as : List Addr) (nss : List (List Int)), x = .ref a ∧ y = .ref t ∧ Tu H a ns ∧ (SqL K H t (as.map V.ref) ∨ SqT K H t (as.map V.ref)) ∧ Tus H as nss ∧
  Q (.bl (if neg then !decide (ns ∈ nss) else decide (ns ∈ nss))) H
theorem op_inTu (hu : X.A.units + 65 < cLine) : OpR X (compareOp .In) (rInTu X.K false) := by
  intro pins s σ H x y v u Q I rx ry h
  obtain ⟨a, t, ns, as, nss, rfl, rfl, h1, h2, h3, q⟩ := h
  obtain ⟨zs, r1⟩ := Dp.reads I _ _ v (Tu.dp (K := X.K) h1) rx
  rcases h2 with h2 | h2
  · obtain ⟨ws, r2⟩ := Dp.reads I _ _ u (Dp.lst h2 (Tus.dp h3)) ry
    refine SeqAt.in_list_reads r2 r1 (lay_tus nss) (lay_tu ns) ?_ ?_
    · have := Nat.min_le_right (PyData.depthAll (dTus nss)) (dTu ns).depth
      rw [depth_tu] at this ⊢
      omega
    · rw [any_tus]
      exact ⟨.bl _, H, I, rfl, q⟩
  · obtain ⟨ws, r2⟩ := Dp.reads I _ _ u (Dp.tup h2 (Tus.dp h3)) ry
    refine SeqAt.in_tuple_reads r2 r1 (lay_tus nss) (lay_tu ns) ?_ ?_
    · have := Nat.min_le_right (PyData.depthAll (dTus nss)) (dTu ns).depth
      rw [depth_tu] at this ⊢
      omega
    · rw [any_tus]
      exact ⟨.bl _, H, I, rfl, q⟩
theorem op_notInTu (hu : X.A.units + 65 < cLine) : OpR X (compareOp .NotIn) (rInTu X.K true) := by
  intro pins s σ H x y v u Q I rx ry h
  obtain ⟨a, t, ns, as, nss, rfl, rfl, h1, h2, h3, q⟩ := h
  obtain ⟨zs, r1⟩ := Dp.reads I _ _ v (Tu.dp (K := X.K) h1) rx
  rcases h2 with h2 | h2
  · obtain ⟨ws, r2⟩ := Dp.reads I _ _ u (Dp.lst h2 (Tus.dp h3)) ry
    refine SeqAt.notIn_list_reads r2 r1 (lay_tus nss) (lay_tu ns) ?_ ?_
    · have := Nat.min_le_right (PyData.depthAll (dTus nss)) (dTu ns).depth
      rw [depth_tu] at this ⊢
      omega
    · rw [any_tus]
      exact ⟨.bl _, H, I, rfl, q⟩
  · obtain ⟨ws, r2⟩ := Dp.reads I _ _ u (Dp.tup h2 (Tus.dp h3)) ry
    refine SeqAt.notIn_tuple_reads r2 r1 (lay_tus nss) (lay_tu ns) ?_ ?_
    · have := Nat.min_le_right (PyData.depthAll (dTus nss)) (dTu ns).depth
      rw [depth_tu] at this ⊢
      omega
    · rw [any_tus]
      exact ⟨.bl _, H, I, rfl, q⟩
end
end Kx
/-! A comprehension of any kind, its block's step given apart. -/
namespace Kx
open PySem PySem.Spec PyProof.Rows L2
/-- a turn of the clause at depth d -/
def Turns (ce : Expr) (d : Nat) (tg iter : Expr) (ifs : List Expr) (body : Addr → Env → Sem Unit) : Prop := (∀ (prog : Program) (w : World) (it : Value) (D : Addr) (env : Env), (model prog w).den (.compLoop ce d it (.ref D) env) = (compTurn ce d it (.ref D) env).onRaise (fun x => do noteFrame x env; theTreesLotGoes x)) ∧ ∀ (it : Value) (D : Addr) (env : Env), compTurn ce d it (.ref D) env = (do
      standAt iter.pos
      match ← pyNext it with
      | none => pure (.done .next)
      | some v =>
        letOwnedTupleGo tg it v
        assign tg env v
        let mut ok := true
        for c in ifs do
          if ok then ok ← isTrue c env (eval c env)
        if ok then
          body D env
        again (.compLoop ce d it (.ref D) env))
def Starts (ce : Expr) (d : Nat) : Prop := ∀ {prog : Program} {w : World} {A : Around} {R : Result → Shared → Prop} {s : Shared} {it acc : Value} {env : Env},
    codeAny (model prog w) A (.compLoop ce d it acc env) R s → wpAny (model prog w) A (pyIter it) (fun it' s' => codeAny (model prog w) A (.compLoop ce d it' acc env) R s') (notedBy (model prog w) A env fun x s' => R (.error x) s') s →
    codeAny (model prog w) A (.compStart ce d it acc env) R s
section
variable {prog : Program} {w : World} {A : Around} {R : Result → Shared → Prop} {s : Shared} {ce tg iter : Expr} {d : Nat} {ifs : List Expr} {body : Addr → Env → Sem Unit} {it : Value} {D : Addr} {env : Env}
theorem loop_any (hq : (Code.compLoop ce d it (.ref D) env).quiet = true) (hA : A.under (Code.compLoop ce d it (.ref D) env) = A) (F : Turns ce d tg iter ifs body) (I : Nat → Shared → Prop)
    (turn : ∀ n s, I n s → wpAny (model prog w) A (pyNext it) (fun r s₁ => match r with
      | none => R (.ok .next) s₁
      | some v => wpAny (model prog w) A (letOwnedTupleGo tg it v) (fun _ s₁' => wpAny (model prog w) A (assign tg env v) (fun _ s₂ =>
          wpAny (model prog w) A (forIn ifs true fun c r => if r = true then do let ok ← isTrue c env (eval c env); pure (ForInStep.yield ok) else pure (ForInStep.yield r)) (fun ok s₃ =>
            if ok = true then wpAny (model prog w) A (body D env) (fun _ s₆ => ∃ m, m < n ∧ I m s₆) (notedBy (model prog w) A env fun e s' => R (.error e) s') s₃
            else ∃ m, m < n ∧ I m s₃) (notedBy (model prog w) A env fun e s' => R (.error e) s') s₂) (notedBy (model prog w) A env fun e s' => R (.error e) s') s₁') (notedBy (model prog w) A env fun e s' => R (.error e) s') s₁) (notedBy (model prog w) A env fun e s' => R (.error e) s') s)
    (n : Nat) (h : I n s) :
    codeAny (model prog w) A (.compLoop ce d it (.ref D) env) R s := by
  refine codeAny_loop hq I (fun n s hI => ?_) n h
  rw [hA]
  rw [F.1]
  refine wpAny_noted ?_
  rw [F.2]
  refine wpAny_bind (wpAny_standAt (wpAny_bind (wpAny_mono (turn n s hI) (fun r s₁ h₁ => ?_) fun _ _ h' => h')))
  cases r with
  | none => exact wpAny_pure h₁
  | some v =>
    refine wpAny_bind (wpAny_mono h₁ (fun _ s₁' h₁' => ?_) fun _ _ h' => h')
    refine wpAny_bind (wpAny_mono h₁' (fun _ s₂ h₂ => wpAny_bind (wpAny_mono h₂ (fun ok s₃ h₃ => ?_) fun _ _ h' => h')) fun _ _ h' => h')
    cases ok with
    | false => exact wpAny_pure ⟨rfl, h₃⟩
    | true => exact wpAny_bind (wpAny_mono h₃ (fun _ s₄ h₄ => wpAny_pure ⟨rfl, h₄⟩) fun _ _ h' => h')
end
theorem thnX {α : Type} {t : Sem α} {Q Q' : α → Shared → Prop} {M : Model} {A : Around} {E E' : Value → Shared → Prop} {s : Shared} (he : E = fun _ _ => False) (h : wpAny M A t Q E s) (hQ : ∀ a s, Q a s → Q' a s) : wpAny M A t Q' E' s := by
  subst he
  exact thnF h hQ
abbrev TB := L2.St → Hp → (Hp → Prop) → Prop
/-- the block's step: what it does to the heap; the slots apart from vs it keeps -/
structure AddOk (X : Cx) (body : Addr → Env → Sem Unit) (D : Addr) (vs : List Nat) (t : TB) : Prop where
  run : ∀ (pins : List (Addr × Obj)) (s : Shared) (σ : L2.St) (H : Hp) (Q : Hp → Prop), Inv X pins σ H s → t σ H Q →
    wpAny (model X.prog X.w) X.A (body D X.env) (fun _ s' => ∃ σ' H', Inv X pins σ' H' s' ∧ σ.length = σ'.length ∧ (∀ (j : Nat) v, j ∉ vs → σ[j]? = some (some v) → σ'[j]? = some (some v)) ∧ Q H') X.xe s
section
variable {X : Cx}
/-- the turns of one clause: vs what the block's names are -/
def tC1 (wi : TI) (g : TG) (tt : TT) (o0 : Addr → HO) (tb : Addr → TB) (vs : List Nat) : TE := fun σ H Q => wi σ H fun J H1 => ∀ D, H1 D = none → ∃ W : Nat → Nat → Hp → Prop, (∃ m, W 0 m (upd H1 D (o0 D))) ∧ ∀ i m H, W i m H →
  (J.stop i H ∧ Q (.ref D) H) ∨ (J.go i H ∧ ∃ Nx : Hp → Prop, (∀ H', Nx H' → ∃ m', m' < m ∧ W (i + 1) m' H') ∧ ∀ x H', J.yld i H x H' → g x (wipe σ vs) H' fun σ2 H2 => wipe σ2 vs = wipe σ vs ∧ tt σ2 H2 fun b H3 =>
    if b = true then tb D σ2 H3 Nx else Nx H3)
theorem c1_core {pins : List (Addr × Obj)} {s : Shared} {σ : L2.St} {H : Hp} {Q : VK} {ce tg iter : Expr} {ifs : List Expr} {gs : List Comprehension} {body : Addr → Env → Sem Unit} {scope : Scope} {own : List (PySem.Str × Nat)} {vs1 : List Nat} {pos' : Pos} {wi : TI} {g : TG} {tt : TT} {o0 : Addr → HO} {ob0 : Obj} {tb : Addr → TB} {newAcc : Sem Value} {use : Option (Value → Sem Unit)} {Qf : Value → Shared → Prop}
    (hcl : clausesOf ce = ⟨tg, iter, ifs, 0⟩ :: gs) (hq : ∀ it D env, (Code.compLoop ce 0 it (.ref D) env).quiet = true) (hA : ∀ (A : Around) it D env, A.under (Code.compLoop ce 0 it (.ref D) env) = A) (F : Turns ce 0 tg iter ifs body) (G : Starts ce 0)
    (hnew : ∀ {A : Around} {E : Value → Shared → Prop} {s : Shared} {Q : Value → Shared → Prop}, Q (.ref s.heap.objs.size) { s with heap := s.heap.push ob0 } → wpAny (model X.prog X.w) A newAcc Q E s)
    (hob : ∀ (H : Hp) (h : Heap), sysModules < h.objs.size → ObjOk X.prog X.w H (h.push ob0) h.objs.size (o0 h.objs.size))
    (hc : X.calm = true) (hN : X.N.Nodup) (I : Inv X pins σ H s) (hi : PI X tg iter wi) (ok : BlkOk X.N X.env.scope scope own) (hv : ∀ i ∈ vs1, i ∈ own.map (·.2))
    (hg : ∀ (s : Shared) (H : Hp) (C : Addr) (cl : List (PySem.Str × Addr)) (fp : List Addr), PG (X.blk s H scope (compEnvC scope cl C X.env) fp) tg g) (ht : ∀ (s : Shared) (H : Hp) (C : Addr) (cl : List (PySem.Str × Addr)) (fp : List Addr), PTs (X.blk s H scope (compEnvC scope cl C X.env) fp) ifs tt)
    (hb : ∀ (s : Shared) (H : Hp) (C : Addr) (cl : List (PySem.Str × Addr)) (fp : List Addr) (D : Addr), AddOk (X.blk s H scope (compEnvC scope cl C X.env) fp) body D vs1 (tb D)) (hs : ∀ x, foldedSetIterable iter X.env x = pure x)
    (h : tC1 wi g tt o0 tb (own.map (·.2)) σ H Q)
    (hRR : ∀ D C s' m H', Inv X pins σ H' s' → Q (.ref D) H' → s'.heap.Ns C m → FpOk X pins H' C → compPost (model X.prog X.w) X.A X.xe use Qf (.ref D) C (.ok .next) s') :
    wpAny (model X.prog X.w) X.A (comprehension ce scope X.env pos' newAcc false (eval iter X.env) use) Qf X.xe s := by
  have hfree : ∀ y ∈ scope.names, y.2 = .free → ∃ c, X.env.cells.lookup y.1 = some c := fun y hy e => by
    rcases ok.free y hy e with k | k
    · exact I.ok.has _ (.inl k)
    · exact I.ok.has _ (.inr k)
  refine wpAny_comprehension_free (use := use) hcl hs (closure_ok hfree) ok.kind (fun y hy e => by rw [ok.uniq y hy, e])
    (thn (hi.run pins s σ H _ I h) fun xv s1 hx => thn hx fun itv s2 h2 => ?_)
  obtain ⟨it, fp, tn, J, H2, e, I2, T, st2, f2, q⟩ := h2
  subst e
  refine hnew (newEnv_comp ?_)
  generalize hD : s2.heap.objs.size = D
  have hDn : H2 D = none := I2.hok.fresh (Nat.le_of_eq hD)
  obtain ⟨W, ⟨m0, w0⟩, turn⟩ := q D hDn
  generalize hs3 : ({ s2 with heap := s2.heap.push ob0 } : Shared) = s3
  have I3 : Inv X pins σ (upd H2 D (o0 D)) s3 := by
    rw [← hs3]
    refine I2.laid (t' := s2.toks) (fun b o e => Heap.get?_push_of_some _ e) (Nat.le_of_eq hD) ?_
    rw [← hD]
    exact hob _ s2.heap I2.big
  have h3 : s3.heap = s2.heap.push ob0 := by rw [← hs3]
  have sz : ∀ b ∈ fp, b < s2.heap.objs.size := fun b hb => by
    obtain ⟨o, e, _⟩ := T.obj _ _ st2 b hb
    exact Heap.lt_size e
  have f3 : ∀ b ∈ fp, FpOk X pins (upd H2 D (o0 D)) b ∧ b < s3.heap.objs.size := fun b hb => by
    have hlt := sz b hb
    refine ⟨⟨?_, (f2 b hb).2⟩, by rw [h3, Heap.size_push]; exact Nat.lt_succ_of_lt hlt⟩
    rw [upd_ne (by rw [← hD]; exact Nat.ne_of_lt hlt)]
    exact (f2 b hb).1
  have st3 : tn 0 s3.heap := T.keep _ _ _ st2 fun b _ o e => by rw [h3]; exact Heap.get?_push_of_some _ e
  have I4 := block_start I3 ok hN f3
  have pg := hg s3 (upd H2 D (o0 D)) s3.heap.objs.size (cellsFrom (s3.heap.objs.size + 1) scope.names (cloFrom X.env.cells scope.names [])) fp
  have pt := ht s3 (upd H2 D (o0 D)) s3.heap.objs.size (cellsFrom (s3.heap.objs.size + 1) scope.names (cloFrom X.env.cells scope.names [])) fp
  have pb := hb s3 (upd H2 D (o0 D)) s3.heap.objs.size (cellsFrom (s3.heap.objs.size + 1) scope.names (cloFrom X.env.cells scope.names [])) fp D
  show codeAny _ _ (.compStart ce 0 (.ref it) (.ref D) (compEnvC scope (cellsFrom (s3.heap.objs.size + 1) scope.names (cloFrom X.env.cells scope.names [])) s3.heap.objs.size X.env)) (compPost (model X.prog X.w) X.A X.xe use Qf (.ref D) s3.heap.objs.size) { s3 with heap := pushCells (s3.heap.push { cls := .type "dict", data := .dict #[] }) scope.names }
  have nfp : ∀ b ∈ fp, (upd H2 D (o0 D)) b = none := fun b hb => (f3 b hb).1.1
  generalize hce : compEnvC scope (cellsFrom (s3.heap.objs.size + 1) scope.names (cloFrom X.env.cells scope.names [])) s3.heap.objs.size X.env = cenv at I4 pg pt pb ⊢
  have cL : cenv.locals = s3.heap.objs.size := by subst hce; rfl
  generalize hH3 : upd H2 D (o0 D) = H3 at I3 I4 pg pt pb w0 nfp f3
  generalize hs4 : ({ s3 with heap := pushCells (s3.heap.push { cls := .type "dict", data := .dict #[] }) scope.names } : Shared) = s4 at I4 ⊢
  have st4 : tn 0 s4.heap := T.keep _ _ _ st3 fun b _ o e => by rw [← hs4]; exact pushCells_keeps _ _ _ _ (Heap.get?_push_of_some _ e)
  have stat : ∀ {σ' : L2.St} {H' : Hp} {s' : Shared}, Inv (X.blk s3 H3 scope cenv fp) [] σ' H' s' → (∀ b ∈ fp, H' b = none) → ∀ b ∈ fp, FpOk (X.blk s3 H3 scope cenv fp) [] H' b := fun {σ' H' s'} I' hn b hb =>
    ⟨hn b hb, (I'.ok.exf b hb).1, I'.ok.exfs b hb, .inl hb, fun x c e => (I'.ok.exf b hb).2 x c e, fun p hp => absurd (show p ∈ ([] : List (Addr × Obj)) ++ [] from hp) (by simp)⟩
  have loop : codeAny (model X.prog X.w) X.A (.compLoop ce 0 (.ref it) (.ref D) cenv) (compPost (model X.prog X.w) X.A X.xe use Qf (.ref D) s3.heap.objs.size) s4 := by
    refine loop_any (hq _ _ _) (hA _ _ _ _) F (fun n s' => ∃ i H', Inv (X.blk s3 H3 scope cenv fp) [] (wipe σ (own.map (·.2))) H' s' ∧ tn i s'.heap ∧ (∀ b ∈ fp, H' b = none) ∧ W i n H') ?_ m0 ⟨0, H3, I4, st4, nfp, w0⟩
    rintro n s5 ⟨i, H5, I5, st5, n5, w5⟩
    rcases turn i n H5 w5 with ⟨stop, qq⟩ | ⟨go, Nx, hNx, step⟩
    · have td := T.done (X.blk s3 H3 scope cenv fp) rfl rfl rfl hc i [] s5 _ H5 (fun _ _ => False) I5 (stat I5 n5) st5 stop
      refine thnF td fun r s6 ⟨hr, I6⟩ => ?_
      subst hr
      have I7 : Inv X pins σ H5 s6 := I3.call' (ch := fp) I6.os I6.base I6.hok I6.bare fun b hb => ⟨(f3 b hb).1.2.2.2.1, (f3 b hb).1.2.1, (f3 b hb).1.2.2.2.2.1, (f3 b hb).1.2.2.2.2.2⟩
      have nC : H5 s3.heap.objs.size = none := by
        have z : H5 cenv.locals = none := I6.free
        rw [cL] at z
        exact z
      obtain ⟨m, hn, _⟩ := I6.loc
      have hn : s6.heap.Ns cenv.locals m := hn
      rw [cL] at hn
      exact hRR D s3.heap.objs.size s6 m H5 I7 qq hn (I3.fpOk (Nat.le_refl _) nC)
    · have ti := T.item (X.blk s3 H3 scope cenv fp) rfl rfl rfl hc i [] s5 _ H5 (fun _ _ => False) I5 (stat I5 n5) st5 go
      refine thnF ti fun r s6 ⟨u, hr, h6⟩ => ?_
      subst hr
      refine thnF h6 fun _ s7 ⟨x, H7, I7, r7, y7, st7, n7⟩ => ?_
      have I7' := I7.pinned (stat I7 n7) (T.obj _ _ st7)
      refine thnF (pg.run _ s7 _ H7 x u _ I7' r7 (step x H7 y7)) fun _ s8 ⟨σ8, H8, I8, hw8, q8⟩ => ?_
      refine thnF (pt.run _ s8 σ8 H8 _ I8 q8) fun b s9 ⟨H9, I9, q9⟩ => ?_
      have fin : ∀ {σ9 : L2.St} {s' : Shared} {H' : Hp}, Inv (X.blk s3 H3 scope cenv fp) ([] ++ pinsAt fp s7.heap) σ9 H' s' → (wipe σ (own.map (·.2))).length = σ9.length → (∀ (j : Nat) v, (wipe σ (own.map (·.2)))[j]? = some (some v) → σ9[j]? = some (some v)) → Nx H' →
          ∃ m, m < n ∧ ∃ i H', Inv (X.blk s3 H3 scope cenv fp) [] (wipe σ (own.map (·.2))) H' s' ∧ tn i s'.heap ∧ (∀ b ∈ fp, H' b = none) ∧ W i m H' := fun {σ9 s' H'} I' hl hk nx => by
        obtain ⟨m', hm, w'⟩ := hNx H' nx
        have pin' : ∀ b ∈ fp, ∀ o, s7.heap.get? b = some o → s'.heap.get? b = some o ∧ H' b = none := fun b hb o e =>
          let z := I'.pin (b, o) (List.mem_append_right _ (List.mem_append_right _ (mem_pinsAt hb e)))
          ⟨z.1, z.2.1⟩
        refine ⟨m', hm, i + 1, H', (I'.unpinned (pins := [])).weak hl hk, T.keep _ _ _ st7 fun b hb o e => (pin' b hb o e).1, fun b hb => ?_, w'⟩
        obtain ⟨o, e, _⟩ := T.obj _ _ st7 b hb
        exact (pin' b hb o e).2
      have hl8 : (wipe σ (own.map (·.2))).length = σ8.length := by rw [← hw8, wipe_length]
      have hk8 : ∀ (j : Nat) v, (wipe σ (own.map (·.2)))[j]? = some (some v) → σ8[j]? = some (some v) ∧ j ∉ vs1 := fun j v e => by
        rw [← hw8] at e
        exact ⟨(wipe_some e).1, fun z => (wipe_some e).2 (hv j z)⟩
      cases b with
      | false =>
        simp only [Bool.false_eq_true, if_false] at q9 ⊢
        exact fin I9 hl8 (fun j v e => (hk8 j v e).1) q9
      | true =>
        simp only [if_true] at q9 ⊢
        refine thnF (pb.run _ s9 σ8 H9 _ I9 q9) fun _ s10 ⟨σ10, H10, I10, l10, k10, nx⟩ => ?_
        exact fin I10 (hl8.trans l10) (fun j v e => k10 j v (hk8 j v e).2 (hk8 j v e).1) nx
  exact G loop (T.self X.A 0 _ _ _ st4 loop)
/-- what must be seen of a comprehension's text and of its result's kind -/
structure Form (X : Cx) (ce : Expr) (scope : Scope) (tg iter : Expr) (ifs : List Expr) (gs : List Comprehension) (body : Addr → Env → Sem Unit) (newAcc : Sem Value) (ob0 : Obj) (o0 : Addr → HO) : Prop where
  cl : clausesOf ce = ⟨tg, iter, ifs, 0⟩ :: gs
  q : ∀ it D env, (Code.compLoop ce 0 it (.ref D) env).quiet = true
  un : ∀ (A : Around) it D env, A.under (Code.compLoop ce 0 it (.ref D) env) = A
  turn : Turns ce 0 tg iter ifs body
  start : Starts ce 0
  new : ∀ {A : Around} {E : Value → Shared → Prop} {s : Shared} {Q : Value → Shared → Prop}, Q (.ref s.heap.objs.size) { s with heap := s.heap.push ob0 } → wpAny (model X.prog X.w) A newAcc Q E s
  ob : ∀ (H : Hp) (h : Heap), sysModules < h.objs.size → ObjOk X.prog X.w H (h.push ob0) h.objs.size (o0 h.objs.size)
theorem pe_c1 {ce tg iter : Expr} {ifs : List Expr} {gs : List Comprehension} {body : Addr → Env → Sem Unit} {scope : Scope} {own : List (PySem.Str × Nat)} {vs1 : List Nat} {pos' : Pos} {wi : TI} {g : TG} {tt : TT} {o0 : Addr → HO} {ob0 : Obj} {tb : Addr → TB} {newAcc : Sem Value}
    (F : Form X ce scope tg iter ifs gs body newAcc ob0 o0) (hev : eval ce X.env = comprehension ce scope X.env pos' newAcc false (eval iter X.env))
    (hc : X.calm = true) (hN : X.N.Nodup) (hi : PI X tg iter wi) (ok : BlkOk X.N X.env.scope scope own) (hv : ∀ i ∈ vs1, i ∈ own.map (·.2))
    (hg : ∀ (s : Shared) (H : Hp) (C : Addr) (cl : List (PySem.Str × Addr)) (fp : List Addr), PG (X.blk s H scope (compEnvC scope cl C X.env) fp) tg g) (ht : ∀ (s : Shared) (H : Hp) (C : Addr) (cl : List (PySem.Str × Addr)) (fp : List Addr), PTs (X.blk s H scope (compEnvC scope cl C X.env) fp) ifs tt)
    (hb : ∀ (s : Shared) (H : Hp) (C : Addr) (cl : List (PySem.Str × Addr)) (fp : List Addr) (D : Addr), AddOk (X.blk s H scope (compEnvC scope cl C X.env) fp) body D vs1 (tb D)) (hs : ∀ x, foldedSetIterable iter X.env x = pure x := by intro _; rfl) :
    PE X ce (tC1 wi g tt o0 tb (own.map (·.2))) := by
  refine ⟨fun pins s σ H Q I h => ?_⟩
  rw [hev]
  refine c1_core F.cl F.q F.un F.turn F.start F.new F.ob hc hN I hi ok hv hg ht hb hs h fun D C s' m H' I' q hn f => ⟨m, hn, fun h'' sb => ?_⟩
  obtain ⟨f0, f1, f2, f3, f4, f5⟩ := f
  exact ⟨.ref D, H', I'.turned (t' := s'.toks) (fun b o hb e => (sb.2 b hb).trans e) f0 f1 f3 f4 f5, rfl, q⟩
/-- name = comprehension, on one line, the name a local -/
theorem ps_setC1 {i : Nat} {y : PySem.Str} {py : Pos} {ce tg iter : Expr} {ifs : List Expr} {gs : List Comprehension} {body : Addr → Env → Sem Unit} {scope : Scope} {own : List (PySem.Str × Nat)} {vs1 : List Nat} {pos' spos : Pos} {wi : TI} {g : TG} {tt : TT} {o0 : Addr → HO} {ob0 : Obj} {tb : Addr → TB} {newAcc : Sem Value}
    (F : Form X ce scope tg iter ifs gs body newAcc ob0 o0) (hex : exec (.Assign [.Name y py] ce spos) X.env = (do standAt spos; let _ ← (do let _ ← comprehension ce scope X.env pos' newAcc false (eval iter X.env) (some (assign (.Name y py) X.env))); pure .next))
    (hc : X.calm = true) (hN : X.N.Nodup) (hy : X.N[i]? = some y) (hyl : X.env.scope.names.lookup y = some .local) (hi : PI X tg iter wi) (ok : BlkOk X.N X.env.scope scope own) (hv : ∀ i ∈ vs1, i ∈ own.map (·.2))
    (hg : ∀ (s : Shared) (H : Hp) (C : Addr) (cl : List (PySem.Str × Addr)) (fp : List Addr), PG (X.blk s H scope (compEnvC scope cl C X.env) fp) tg g) (ht : ∀ (s : Shared) (H : Hp) (C : Addr) (cl : List (PySem.Str × Addr)) (fp : List Addr), PTs (X.blk s H scope (compEnvC scope cl C X.env) fp) ifs tt)
    (hb : ∀ (s : Shared) (H : Hp) (C : Addr) (cl : List (PySem.Str × Addr)) (fp : List Addr) (D : Addr), AddOk (X.blk s H scope (compEnvC scope cl C X.env) fp) body D vs1 (tb D)) (hs : ∀ x, foldedSetIterable iter X.env x = pure x := by intro _; rfl) :
    PS X (.Assign [.Name y py] ce spos) (tAsg (tC1 wi g tt o0 tb (own.map (·.2))) (gName i)) := by
  refine ⟨fun pins s σ H D I h => ?_⟩
  rw [hex]
  refine wpAny_bind (wpAny_standAt (wpAny_bind ?_))
  have h : tC1 wi g tt o0 tb (own.map (·.2)) σ H (fun x H1 => gName i x σ H1 D.nx) := h
  refine wpAny_bind (thn (c1_core (Qf := fun _ s' => SP X pins D .next s') F.cl F.q F.un F.turn F.start F.new F.ob hc hN I hi ok hv hg ht hb hs h fun L C s' m H' I' q hn f => ?_) fun _ s' hq => wpAny_pure (wpAny_pure hq))
  show wpAny _ _ (assign (.Name y py) X.env (.ref L)) _ _ _
  refine wpAny_assign_Name (store_ok2 (v := V.ref L) I' hN hy (.inl hyl) rfl (fun s2 I2 ⟨a, sb, ha⟩ => ?_) (.inr hyl))
  obtain ⟨f0, f1, f2, f3, f4, f5⟩ := f
  have haC : C ≠ a := by
    rcases ha with z | z
    · rw [z]; exact f1
    · exact fun e => f4 y a z e.symm
  refine ⟨m, hn.sameBut sb haC, fun h3 sb3 => ?_⟩
  exact ⟨_, H', I2.turned (t' := s2.toks) (fun b o hb e => (sb3.2 b hb).trans e) f0 f1 f3 f4 f5, q⟩
/-! ### a second clause as the block's step -/
/-- .. its turns -/
def tIn (wi : TI) (g : TG) (tt : TT) (tb : Addr → TB) (vs1 : List Nat) : Addr → TB := fun D σ H Nx => wi σ H fun J1 H4 => ∃ W1 : Nat → Nat → Hp → Prop, (∃ m, W1 0 m H4) ∧ ∀ j k H, W1 j k H →
      (J1.stop j H ∧ Nx H) ∨ (J1.go j H ∧ ∃ Nx1 : Hp → Prop, (∀ H', Nx1 H' → ∃ k', k' < k ∧ W1 (j + 1) k' H') ∧ ∀ x H', J1.yld j H x H' → g x (wipe σ vs1) H' fun σ3 H5 => wipe σ3 vs1 = wipe σ vs1 ∧ tt σ3 H5 fun b H6 =>
        if b = true then tb D σ3 H6 Nx1 else Nx1 H6)
theorem add_in {ce tg iter : Expr} {d : Nat} {ifs : List Expr} {body : Addr → Env → Sem Unit} {vs1 : List Nat} {wi : TI} {g : TG} {tt : TT} {tb : Addr → TB} {D : Addr}
    (hq : ∀ it D env, (Code.compLoop ce d it (.ref D) env).quiet = true) (hA : ∀ (A : Around) it D env, A.under (Code.compLoop ce d it (.ref D) env) = A) (F : Turns ce d tg iter ifs body) (G : Starts ce d)
    (hc : X.calm = true) (hi : PI X tg iter wi) (hg : PG X tg g) (ht : PTs X ifs tt) (hb : AddOk X body D [] (tb D)) (hs : ∀ x, foldedSetIterable iter X.env x = pure x := by intro _; rfl) (hxe : X.xe = (fun _ _ => False) := by rfl) :
    AddOk X (fun D env => do
        let x ← eval iter env
        standAt iter.pos
        let x ← foldedSetIterable iter env x
        let _ ← runOwn (.compStart ce d (← holding [x] (pyIter x)) (.ref D) env) env) D vs1 (tIn wi g tt tb vs1 D) := by
  refine ⟨fun pins s σ8 H Q I q9 => ?_⟩
  obtain ⟨w, hw⟩ : ∃ w : L2.St → L2.St, w = fun σ => wipe σ vs1 := ⟨_, rfl⟩
  refine wpAny_bind (thn (hi.run pins s σ8 H _ I q9) fun xv s10 hx => ?_)
  refine wpAny_bind (wpAny_standAt (wpAny_bind (wpAny_of_eq (hs xv) (wpAny_bind (wpAny_holding (thn hx fun itv s11 h11 => ?_))))))
  obtain ⟨it1, fp1, tn1, J1, H11, e1, I11, T1, st11, f11, W1, ⟨m1, w1⟩, turn1⟩ := h11
  subst e1
  have stat1 : ∀ {H' : Hp}, (∀ b ∈ fp1, H' b = none) → ∀ b ∈ fp1, FpOk X pins H' b := fun hn b hb => ⟨hn b hb, (f11 b hb).2⟩
  have loop1 : codeAny (model X.prog X.w) X.A (.compLoop ce d (.ref it1) (.ref D) X.env)
      (fun r s' => match r with
        | .ok _ => ∃ σ' H', Inv X pins σ' H' s' ∧ σ8.length = σ'.length ∧ (∀ (j : Nat) v, j ∉ vs1 → σ8[j]? = some (some v) → σ'[j]? = some (some v)) ∧ Q H'
        | .error _ => False) s11 := by
    refine loop_any (hq _ _ _) (hA _ _ _ _) F (fun k s' => ∃ j H', Inv X pins (wipe σ8 vs1) H' s' ∧ tn1 j s'.heap ∧ (∀ b ∈ fp1, H' b = none) ∧ W1 j k H') ?_ m1 ⟨0, H11, I11.weak (wipe_length _ _) (fun j v e => (wipe_some e).1), st11, fun b hb => (f11 b hb).1, w1⟩
    rintro k s12 ⟨j, H12, I12, st12, n12, w12⟩
    rcases turn1 j k H12 w12 with ⟨stop1, nx1⟩ | ⟨go1, Nx1, hNx1, step1⟩
    · refine thnF (T1.done X rfl rfl rfl hc j _ s12 (wipe σ8 vs1) H12 (fun _ _ => False) I12 (stat1 n12) st12 stop1) fun r s13 ⟨hr, I13⟩ => ?_
      subst hr
      refine ⟨_, _, I13, (wipe_length _ _).symm, fun j v hj e => ?_, nx1⟩
      rw [wipe_out hj]
      exact e
    · refine thnF (T1.item X rfl rfl rfl hc j _ s12 (wipe σ8 vs1) H12 (fun _ _ => False) I12 (stat1 n12) st12 go1) fun r s13 ⟨u1, hr, h13⟩ => ?_
      subst hr
      refine thnF h13 fun _ s14 ⟨x1, H14, I14, r14, y14, st14, n14⟩ => ?_
      have I14' := I14.pinned (stat1 n14) (T1.obj _ _ st14)
      refine thnX hxe (hg.run _ s14 (wipe σ8 vs1) H14 x1 u1 _ I14' r14 (step1 x1 H14 y14)) fun _ s15 ⟨σ15, H15, I15, hw15, q15⟩ => ?_
      refine thnX hxe (ht.run _ s15 σ15 H15 _ I15 q15) fun b1 s16 ⟨H16, I16, q16⟩ => ?_
      have fin1 : ∀ {σ16 : L2.St} {s' : Shared} {H' : Hp}, Inv X (pins ++ pinsAt fp1 s14.heap) σ16 H' s' → σ15.length = σ16.length → (∀ (j : Nat) v, σ15[j]? = some (some v) → σ16[j]? = some (some v)) → Nx1 H' → ∃ m, m < k ∧ ∃ j H', Inv X pins (wipe σ8 vs1) H' s' ∧ tn1 j s'.heap ∧ (∀ b ∈ fp1, H' b = none) ∧ W1 j m H' := fun {σ16 s' H'} I' hl hk nx => by
        obtain ⟨m', hm, w'⟩ := hNx1 H' nx
        have pin' : ∀ b ∈ fp1, ∀ o, s14.heap.get? b = some o → s'.heap.get? b = some o ∧ H' b = none := fun b hb o e =>
          let z := I'.pin (b, o) (List.mem_append_right _ (List.mem_append_right _ (mem_pinsAt hb e)))
          ⟨z.1, z.2.1⟩
        refine ⟨m', hm, j + 1, H', I'.unpinned.weak (by rw [← hw15, wipe_length]; exact hl) (fun j v e => by rw [← hw15] at e; exact hk j v (wipe_some e).1), T1.keep _ _ _ st14 fun b hb o e => (pin' b hb o e).1, fun b hb => ?_, w'⟩
        obtain ⟨o, e, _⟩ := T1.obj _ _ st14 b hb
        exact (pin' b hb o e).2
      cases b1 with
      | false =>
        simp only [Bool.false_eq_true, if_false] at q16 ⊢
        exact fin1 I16 rfl (fun _ _ e => e) q16
      | true =>
        simp only [if_true] at q16 ⊢
        refine thnX hxe (hb.run _ s16 σ15 H16 _ I16 q16) fun _ s17 ⟨σ17, H17, I17, l17, k17, nx⟩ => ?_
        exact fin1 I17 l17 (fun j v e => k17 j v (by simp) e) nx
  refine wpAny_bind (wpAny_runOwn ?_)
  rw [Around.mark_none]
  refine codeAny_mono (G loop1 (T1.self X.A 0 _ _ _ st11 loop1)) fun r s' hr => ?_
  cases r with
  | ok f =>
    first
      | exact wpAny_pure hr
      | exact wpAny_bind (wpAny_pure (wpAny_pure hr))
  | error e => exact hr.elim
end
end Kx
/-! Dicts whose keys are tuples of ints (told by Tu); the dict and set comprehensions. -/
namespace Kx
open PySem PySem.Spec PyProof.Rows L2
abbrev kI (ns : List Int) : List Key := ns.map Sum.inl
theorem kI_map (ns : List Int) : (kI ns).map kV = ns.map V.int := by
  show (ns.map Sum.inl).map kV = _
  rw [List.map_map]
  rfl
theorem kI_inj {a b : List Int} (e : kI a = kI b) : a = b := by
  have h := congrArg (List.map kV) e
  rw [kI_map, kI_map] at h
  exact List.map_inj_right (f := V.int) (fun x y h => by injection h) |>.mp h
/-- the table of a dict, keys tuples of ints -/
abbrev KTo : List (List Int × V) → List (List Key × Addr × Value) → Prop := Paired fun p q => kI p.1 = q.1 ∧ RelV p.2 q.2.2
theorem KTo.val {kvs : List (List Int × V)} {xs : List (List Key × Addr × Value)} (r : KTo kvs xs) (k : List Int) : RelO (valV kvs k) ((atKey xs (kI k)).map (·.2)) := by
  induction r with
  | nil => exact True.intro
  | @cons p q ps qs h t ih =>
    obtain ⟨h1, h2⟩ := h
    by_cases e : p.1 = k
    · have e' : q.1 = kI k := by rw [← h1, e]
      have b : atKey (q :: qs) (kI k) = some q.2 := by simp [atKey, List.find?_cons, e']
      rw [valV_pos e, b]; exact h2
    · have e' : ¬ q.1 = kI k := fun z => e (kI_inj (h1.trans z))
      have b : atKey (q :: qs) (kI k) = atKey qs (kI k) := by simp [atKey, List.find?_cons, e']
      rw [valV_neg e, b]; exact ih
def dtP (P : Program) (w : World) (a : Addr) (kvs : List (List Int × V)) (bs : List Addr) : Heap → Prop := fun h => kvs.length ≤ sizeLine ∧ (a == sysModules) = false ∧ ∃ xs : List (List Key × Addr × Value), KTo kvs xs ∧ xs.map (·.2.1) = bs ∧
  ∃ o es ep, h.get? a = some o ∧ o.ExactDict ∧ o.data = .dict es ep ∧ es.toList = xs.map (entryOfKey (tupleKind (mixKind P w))) ∧ (xs.map (·.1)).Nodup
def dtO (P : Program) (w : World) (a : Addr) (kvs : List (List Int × V)) (bs : List Addr) : HO := .ext (dtP P w a kvs bs)
theorem dtO_ok {P : Program} {w : World} {H : Hp} {h : Heap} {a : Addr} {kvs : List (List Int × V)} {bs : List Addr} (x : dtP P w a kvs bs h) : ObjOk P w H h a (dtO P w a kvs bs) :=
  ⟨x, let ⟨_, _, _, _, _, o, _, _, e, _⟩ := x; ⟨o, e⟩, fun _ _ ⟨z, y, xs, r, rb, o, es, ep, e, c⟩ k => ⟨z, y, xs, r, rb, o, es, ep, k _ e, c⟩⟩
/-- at a such a dict stands, its keys at bs -/
structure DTO (P : Program) (w : World) (H : Hp) (a : Addr) (kvs : List (List Int × V)) (bs : List Addr) : Prop where
  at_ : H a = some (dtO P w a kvs bs)
  keys : Tus H bs (kvs.map (·.1))
theorem DTO.same {P : Program} {w : World} {H H' : Hp} {a : Addr} {kvs : List (List Int × V)} {bs : List Addr} (d : DTO P w H a kvs bs) (e : Same H H') : DTO P w H' a kvs bs := ⟨e _ _ d.at_, d.keys.same e⟩
section
variable {P : Program} {w : World} {H : Hp} {h : Heap} {a : Addr}
theorem tu_key {ns : List Int} (ok : HOk P w H h) (e : Tu H a ns) : (tupleKind (mixKind P w)).is h (kI ns) a := by
  obtain ⟨_, its, r, o, h1, h2, n, h3⟩ := (show ObjOk P w H h a (.tup (ns.map V.int)) from rd_of ok e)
  rw [← kI_map] at r
  exact ⟨o, its.toArray, n, h1, h2, h3, by simpa using items_are r⟩
theorem keys_is (ok : HOk P w H h) : ∀ {kvs : List (List Int × V)} {xs : List (List Key × Addr × Value)}, KTo kvs xs → Tus H (xs.map (·.2.1)) (kvs.map (·.1)) → ∀ x ∈ xs, (tupleKind (mixKind P w)).is h x.1 x.2.1
  | _, _, .nil, _, x, hx => nomatch hx
  | p :: ps, q :: qs, .cons r t, k, x, hx => by
    rw [List.map_cons, List.map_cons] at k
    cases k with
    | cons k1 k2 =>
      rcases List.mem_cons.mp hx with e | hx
      · subst e
        rw [← r.1]
        exact tu_key ok k1
      · exact keys_is ok t k2 x hx
theorem dtO_of {kvs : List (List Int × V)} {bs : List Addr} (ok : HOk P w H h) (d : DTO P w H a kvs bs) : kvs.length ≤ sizeLine ∧ (a == sysModules) = false ∧ ∃ xs, KTo kvs xs ∧ xs.map (·.2.1) = bs ∧ h.DictOfH (tupleKind (mixKind P w)) a xs := by
  obtain ⟨⟨z, y, xs, r, rb, o, es, ep, h1, h2, h3, h4, h5⟩, _, _⟩ := (show ObjOk P w H h a (.ext (dtP P w a kvs bs)) from ok a _ d.at_)
  subst rb
  exact ⟨z, y, xs, r, rfl, o, es, ep, h1, h2, h3, h4, keys_is ok r d.keys, h5⟩
end
section
variable {X : Cx} {pins : List (Addr × Obj)} {σ : L2.St} {H : Hp} {s : Shared} {a b : Addr} {v : V} {u r : Value} {A : Around} {E : Value → Shared → Prop} {kvs : List (List Int × V)} {bs : List Addr} {ns : List Int}
theorem o_getItem {Q : Value → Shared → Prop} (hu : A.units + 1 < cLine) (I : Inv X pins σ H s) (g : DTO X.prog X.w H a kvs bs) (hb : Tu H b ns) (hv : valV kvs ns = some v) (h : ∀ w' s', Inv X pins σ H s' → RelV v w' → Q w' s') :
    wpAny (model X.prog X.w) A (getItem (.ref a) (.ref b)) Q E s := by
  obtain ⟨z, hd, xs, rel, _, dd⟩ := dtO_of I.hok g
  obtain ⟨w', hw, rw'⟩ := RelO.some_of (v := v) (o := (atKey xs (kI ns)).map (·.2)) (by rw [← hv]; exact rel.val ns)
  obtain ⟨p, hp, hp2⟩ := Option.map_eq_some_iff.mp hw
  refine wpAny_getItem_heap (tupleKind_room_in1 hu) (tu_key I.hok hb) dd hp ?_
  rw [hp2]
  exact h w' _ (I.tok _) rw'
theorem o_in {Q : Value → Shared → Prop} (hu : A.units + 1 < cLine) (I : Inv X pins σ H s) (g : DTO X.prog X.w H a kvs bs) (hb : Tu H b ns) (h : ∀ s', Inv X pins σ H s' → Q (.bool (valV kvs ns).isSome) s') :
    wpAny (model X.prog X.w) A (compareOp .In (.ref b) (.ref a)) Q E s := by
  obtain ⟨z, hd, xs, rel, _, dd⟩ := dtO_of I.hok g
  refine wpAny_in_heap (tupleKind_room_in1 hu) (tu_key I.hok hb) hd dd ?_
  have q := (rel.val ns).isSome_eq
  rw [Option.isSome_map] at q
  rw [← q]
  exact h _ (I.tok _)
/-- the table behind a new key's store -/
theorem o_new {h' : Heap} {xs : List (List Key × Addr × Value)} (I : Inv X pins σ H s) (g : DTO X.prog X.w H a kvs bs) (hb : Tu H b ns) (hn : valV kvs ns = none) (hz : kvs.length < sizeLine) (rv : RelV v r) (rel : KTo kvs xs) (rb : xs.map (·.2.1) = bs) (hd : (a == sysModules) = false)
    (dd' : h'.DictOfH (tupleKind (mixKind X.prog X.w)) a (storedH xs (kI ns) b r)) (hs : Heap.SameBut a s.heap h') (t' : Nat) : Inv X pins σ (upd H a (dtO X.prog X.w a (kvs ++ [(ns, v)]) (bs ++ [b]))) { s with heap := h', toks := t' } := by
  have en : atKey xs (kI ns) = none := by
    have q := (rel.val ns).isSome_eq
    rw [hn, Option.isSome_map] at q
    cases e : atKey xs (kI ns) with
    | none => rfl
    | some _ => rw [e] at q; exact absurd q (by simp)
  rw [storedH_new en] at dd'
  obtain ⟨q, es, ep, hq, h2, h3, h4, _, h5⟩ := dd'
  refine d_write I (by rw [g.at_]; exact True.intro) hs ⟨q, hq⟩ (dtO_ok ⟨by rw [List.length_append]; exact hz, hd, _, paired_snoc rel (y := (kI ns, b, r)) ⟨rfl, rv⟩, by rw [List.map_append, rb]; rfl, q, es, ep, hq, h2, h3, h4, h5⟩)
theorem DTO.put (g : DTO X.prog X.w H a kvs bs) (hb : Tu H b ns) : DTO X.prog X.w (upd H a (dtO X.prog X.w a (kvs ++ [(ns, v)]) (bs ++ [b]))) a (kvs ++ [(ns, v)]) (bs ++ [b]) := by
  have tu : ∀ {c : Addr} {ms : List Int}, Tu H c ms → Tu (upd H a (dtO X.prog X.w a (kvs ++ [(ns, v)]) (bs ++ [b]))) c ms := fun {c ms} t => by
    have ne : c ≠ a := by
      intro e
      subst e
      rcases t with t | ⟨o, t⟩
      · rw [g.at_] at t; exact nomatch t
      · rw [g.at_] at t; exact nomatch t
    exact t.imp (fun t => by rw [upd_ne ne]; exact t) fun ⟨o, t⟩ => ⟨o, by rw [upd_ne ne]; exact t⟩
  refine ⟨upd_same, ?_⟩
  rw [List.map_append]
  exact paired_snoc (Paired.mapP g.keys fun _ _ t => tu t) (tu hb)
theorem o_setItem {Q : Unit → Shared → Prop} (hu : A.units + 1 < cLine) (I : Inv X pins σ H s) (g : DTO X.prog X.w H a kvs bs) (hb : Tu H b ns) (hn : valV kvs ns = none) (hz : kvs.length < sizeLine) (rv : RelV v r)
    (h : ∀ s', Inv X pins σ (upd H a (dtO X.prog X.w a (kvs ++ [(ns, v)]) (bs ++ [b]))) s' → Q () s') : wpAny (model X.prog X.w) A (setItem (.ref a) (.ref b) r) Q E s := by
  obtain ⟨z, hd, xs, rel, rb, dd⟩ := dtO_of I.hok g
  refine wpAny_setItem_heap (hsz := by rw [← Paired.length rel]; exact z) (tupleKind_room_in1 hu) (tu_key I.hok hb) dd fun h' dd' hs => h _ ?_
  exact o_new I g hb hn hz rv rel rb hd dd' hs _
theorem o_dictSet {Q : Unit → Shared → Prop} (hu : A.units < cLine) (I : Inv X pins σ H s) (g : DTO X.prog X.w H a kvs bs) (hb : Tu H b ns) (hn : valV kvs ns = none) (hz : kvs.length < sizeLine) (rv : RelV v r)
    (h : ∀ s', Inv X pins σ (upd H a (dtO X.prog X.w a (kvs ++ [(ns, v)]) (bs ++ [b]))) s' → Q () s') : wpAny (model X.prog X.w) A (dictSet a (.ref b) r) Q E s := by
  obtain ⟨z, hd, xs, rel, rb, dd⟩ := dtO_of I.hok g
  refine wpAny_dictSet_heap (hsz := by rw [← Paired.length rel]; exact z) (show (tupleKind (mixKind X.prog X.w)).room A from hu) (tu_key I.hok hb) dd fun h' dd' hs => h _ ?_
  exact o_new I g hb hn hz rv rel rb hd dd' hs _
theorem dtP_new {P : Program} {w : World} {H : Hp} (h : Heap) (hb : sysModules < h.objs.size) : ObjOk P w H (h.push { cls := .type "dict", data := .dict #[] }) h.objs.size (dtO P w h.objs.size [] []) :=
  dtO_ok ⟨Nat.zero_le _, beq_eq_false_iff_ne.mpr (Ne.symm (Nat.ne_of_lt hb)), [], .nil, rfl, _, #[], 0, Heap.get?_push_size _ rfl, ⟨rfl, rfl, rfl⟩, rfl, rfl, List.nodup_nil⟩
end
section
variable {X : Cx} {o i e value : Expr} {pos pos' tpos : Pos} {td ty tv : TE}
/-- {} for tuples of ints -/
def tDNewO (P : Program) (w : World) : TE := fun _ H Q => ∀ p, H p = none → Q (.ref p) (upd H p (dtO P w p [] []))
theorem pe_dnewO : PE X (.Dict [] [] pos) (tDNewO X.prog X.w) := ⟨fun pins s σ H Q I h =>
  wpAny_Dict_empty ⟨.ref s.heap.objs.size, _, I.laid (a := s.heap.objs.size) (o := dtO X.prog X.w s.heap.objs.size [] []) (t' := s.toks) (fun _ _ q => Heap.get?_push_of_some _ q) (Nat.le_refl _) (dtP_new s.heap I.big), rfl, h _ (I.hok.fresh (Nat.le_refl _))⟩⟩
/-- d[t] -/
def tDGetO (P : Program) (w : World) (td ty : TE) : TE := fun σ H Q => td σ H fun x H1 => ty σ H1 fun y H2 => ∃ a b v kvs bs ns, x = .ref a ∧ y = .ref b ∧ DTO P w H2 a kvs bs ∧ Tu H2 b ns ∧ valV kvs ns = some v ∧ Q v H2
def tDInO (P : Program) (w : World) (ty td : TE) : TE := fun σ H Q => ty σ H fun y H1 => td σ H1 fun x H2 => ∃ a b kvs bs ns, x = .ref a ∧ y = .ref b ∧ DTO P w H2 a kvs bs ∧ Tu H2 b ns ∧ Q (.bl (valV kvs ns).isSome) H2
def sDPutO (P : Program) (w : World) (td ty tv : TE) : TS := fun D σ H => tv σ H fun v H1 => td σ H1 fun x H2 => ty σ H2 fun y H3 => ∃ a b kvs bs ns, x = .ref a ∧ y = .ref b ∧ DTO P w H3 a kvs bs ∧ Tu H3 b ns ∧ valV kvs ns = none ∧ kvs.length < sizeLine ∧
  D.nx σ (upd H3 a (dtO P w a (kvs ++ [(ns, v)]) (bs ++ [b])))
theorem dtO_typeIs {pins : List (Addr × Obj)} {σ : L2.St} {H : Hp} {s : Shared} {a : Addr} {kvs : List (List Int × V)} {bs : List Addr} (I : Inv X pins σ H s) (g : DTO X.prog X.w H a kvs bs) : s.TypeIs (.ref a) "dict" := by
  obtain ⟨_, _, xs, _, _, dd⟩ := dtO_of I.hok g
  exact dd.typeIs
theorem pe_dgetO (hu : X.A.units + 1 < cLine) (ho : PE X o td) (hi : PE X i ty) (hs : NoSl i) : PE X (.Subscript o i pos) (tDGetO X.prog X.w td ty) := by
  refine ⟨fun pins s σ H Q I h => ?_⟩
  refine subD_of PySem.F.slot_dict_getitem.lookup hs (thn (ho.run pins s σ H _ I h) fun u s1 ⟨x, H1, I1, rx, q1⟩ => thn (hi.run pins s1 σ H1 _ I1 q1) fun iv s2 ⟨y, H2, I2, ry, a, b, v, kvs, bs, ns, ex, ey, g, hb, hv, q2⟩ => ?_)
  subst ex ey
  obtain rfl : u = Value.ref a := rx
  obtain rfl : iv = Value.ref b := ry
  exact ⟨dtO_typeIs I2 g, o_getItem hu I2 g hb hv fun w' s3 I3 rw' => ⟨v, H2, I3, rw', q2⟩⟩
theorem pc_dinO (hu : X.A.units + 1 < cLine) (hi : PE X i ty) (ho : PE X o td) : PC X .In i o (tDInO X.prog X.w ty td) := by
  refine ⟨fun pins s σ H Q I h => ?_⟩
  refine thn (hi.run pins s σ H _ I h) fun iv s1 ⟨y, H1, I1, ry, q1⟩ => thn (ho.run pins s1 σ H1 _ I1 q1) fun u s2 ⟨x, H2, I2, rx, a, b, kvs, bs, ns, ex, ey, g, hb, q2⟩ => ?_
  subst ex ey
  obtain rfl : u = Value.ref a := rx
  obtain rfl : iv = Value.ref b := ry
  exact o_in hu I2 g hb fun s3 I3 => ⟨.bl _, H2, I3, rfl, q2⟩
theorem ps_dputO (hu : X.A.units + 1 < cLine) (ho : PE X o td) (hi : PE X i ty) (hv : PE X value tv) (hs : swapsWith value (some (.Subscript o i pos')) pos.line X.env = pure false) :
    PS X (.Assign [.Subscript o i pos'] value pos) (sDPutO X.prog X.w td ty tv) := by
  refine ⟨fun pins s σ H D I h => ?_⟩
  refine wpAny_Assign_Subscript (thn (hv.run pins s σ H _ I h) fun r s1 ⟨v, H1, I1, rv, q1⟩ => thn (ho.run pins s1 σ H1 _ I1 q1) fun u s2 ⟨x, H2, I2, rx, q2⟩ => thn (hi.run pins s2 σ H2 _ I2 q2) fun iv s3 ⟨y, H3, I3, ry, a, b, kvs, bs, ns, ex, ey, g, hb, hn, hz, q3⟩ => ?_) hs
  subst ex ey
  obtain rfl : u = Value.ref a := rx
  obtain rfl : iv = Value.ref b := ry
  exact o_setItem hu I3 g hb hn hz rv fun s4 I4 => ⟨σ, _, I4, q3⟩
end
/-! ### the comprehensions' forms -/
theorem starts_of {ce tg iter : Expr} {d : Nat} {ifs : List Expr} (hcl : (clausesOf ce)[d]? = some ⟨tg, iter, ifs, 0⟩)
    (hden : ∀ (prog : Program) (w : World) (it acc : Value) (env : Env), (model prog w).den (.compStart ce d it acc env) = (compStart ce d it acc env).onRaise (fun x => do noteFrame x env; standAt theWindowsPlace))
    (hA : ∀ (A : Around) (it acc : Value) (env : Env), A.under (.compStart ce d it acc env) = A) : Starts ce d := by
  intro prog w A R s it acc env h0 h
  refine codeAny_of_tree ?_
  rw [hden, hA]
  refine wpAny_notedAt ?_
  unfold compStart
  rw [hcl]
  show wpAny _ _ (ask >>= _) _ _ s
  refine wpAny_bind (wpAny_askSetting (wpAny_ite ?_))
  split
  · first
      | exact wpAny_bind (wpAny_pure (wpAny_pure (And.intro rfl h0)))
      | exact wpAny_pure (And.intro rfl h0)
  · first
      | exact wpAny_bind (wpAny_rule (wpAny_bind (wpAny_standAt (wpAny_bind (wpAny_mono h (fun it' s' h' => wpAny_pure (And.intro rfl h')) fun _ _ x => x)))))
      | (refine wpAny_bind (wpAny_rule ?_); show wpAny _ _ (standAt iter.pos >>= _) _ _ s; exact wpAny_bind (wpAny_standAt (wpAny_bind (wpAny_mono h (fun it' s' h' => wpAny_pure (And.intro rfl h')) fun _ _ x => x))))
/-- the step of a dict comprehension -/
def dBody (kx vx : Expr) : Addr → Env → Sem Unit := fun D env => do
  let kv ← eval kx env
  let vv ← holding [kv] (eval vx env)
  standAt { kx.pos with endLine := vx.pos.endLine, endCol := vx.pos.endCol }
  holding [kv, vv] (dictSet D kv vv)
def sBody (elt : Expr) : Addr → Env → Sem Unit := fun D env => do
  let v ← eval elt env
  standAt elt.pos
  let _ ← call (.builtin "set.add") [.ref D, v]
/-- a second clause -/
def inBody (ce iter : Expr) (d : Nat) : Addr → Env → Sem Unit := fun D env => do
        let x ← eval iter env
        standAt iter.pos
        let x ← foldedSetIterable iter env x
        let _ ← runOwn (.compStart ce d (← holding [x] (pyIter x)) (.ref D) env) env
section
variable {kx vx elt t0 i0 t1 i1 : Expr} {c0 c1 : List Expr} {scope : Scope} {pos : Pos}
theorem turns_d1 : Turns (.DictComp kx vx [⟨t0, i0, c0, 0⟩] scope pos) 0 t0 i0 c0 (dBody kx vx) := ⟨fun _ _ _ _ _ => rfl, fun _ _ _ => rfl⟩
theorem turns_d20 : Turns (.DictComp kx vx [⟨t0, i0, c0, 0⟩, ⟨t1, i1, c1, 0⟩] scope pos) 0 t0 i0 c0 (inBody (.DictComp kx vx [⟨t0, i0, c0, 0⟩, ⟨t1, i1, c1, 0⟩] scope pos) i1 1) := ⟨fun _ _ _ _ _ => rfl, fun _ _ _ => by unfold inBody; simp only [bind_assoc]; rfl⟩
theorem turns_d21 : Turns (.DictComp kx vx [⟨t0, i0, c0, 0⟩, ⟨t1, i1, c1, 0⟩] scope pos) 1 t1 i1 c1 (dBody kx vx) := ⟨fun _ _ _ _ _ => rfl, fun _ _ _ => rfl⟩
theorem turns_s20 : Turns (.SetComp elt [⟨t0, i0, c0, 0⟩, ⟨t1, i1, c1, 0⟩] scope pos) 0 t0 i0 c0 (inBody (.SetComp elt [⟨t0, i0, c0, 0⟩, ⟨t1, i1, c1, 0⟩] scope pos) i1 1) := ⟨fun _ _ _ _ _ => rfl, fun _ _ _ => by unfold inBody; simp only [bind_assoc]; rfl⟩
theorem turns_s21 : Turns (.SetComp elt [⟨t0, i0, c0, 0⟩, ⟨t1, i1, c1, 0⟩] scope pos) 1 t1 i1 c1 (sBody elt) := ⟨fun _ _ _ _ _ => rfl, fun _ _ _ => rfl⟩
theorem starts_d1 : Starts (.DictComp kx vx [⟨t0, i0, c0, 0⟩] scope pos) 0 := starts_of rfl (fun _ _ _ _ _ => rfl) (fun _ _ _ _ => rfl)
theorem starts_d20 : Starts (.DictComp kx vx [⟨t0, i0, c0, 0⟩, ⟨t1, i1, c1, 0⟩] scope pos) 0 := starts_of rfl (fun _ _ _ _ _ => rfl) (fun _ _ _ _ => rfl)
theorem starts_d21 : Starts (.DictComp kx vx [⟨t0, i0, c0, 0⟩, ⟨t1, i1, c1, 0⟩] scope pos) 1 := starts_of rfl (fun _ _ _ _ _ => rfl) (fun _ _ _ _ => rfl)
theorem starts_s20 : Starts (.SetComp elt [⟨t0, i0, c0, 0⟩, ⟨t1, i1, c1, 0⟩] scope pos) 0 := starts_of rfl (fun _ _ _ _ _ => rfl) (fun _ _ _ _ => rfl)
theorem starts_s21 : Starts (.SetComp elt [⟨t0, i0, c0, 0⟩, ⟨t1, i1, c1, 0⟩] scope pos) 1 := starts_of rfl (fun _ _ _ _ _ => rfl) (fun _ _ _ _ => rfl)
end
section
variable {X : Cx} {kx vx elt t0 i0 t1 i1 : Expr} {c0 c1 : List Expr} {scope : Scope} {pos : Pos}
theorem form_d1O : Form X (.DictComp kx vx [⟨t0, i0, c0, 0⟩] scope pos) scope t0 i0 c0 [] (dBody kx vx) newDict { cls := .type "dict", data := .dict #[] } (fun D => dtO X.prog X.w D [] []) :=
  ⟨rfl, fun _ _ _ => rfl, fun _ _ _ _ => rfl, turns_d1, starts_d1, fun h => wpAny_newObj_type h, fun H h hb => dtP_new h hb⟩
theorem form_d2 : Form X (.DictComp kx vx [⟨t0, i0, c0, 0⟩, ⟨t1, i1, c1, 0⟩] scope pos) scope t0 i0 c0 [⟨t1, i1, c1, 0⟩] (inBody (.DictComp kx vx [⟨t0, i0, c0, 0⟩, ⟨t1, i1, c1, 0⟩] scope pos) i1 1) newDict { cls := .type "dict", data := .dict #[] } (fun D => .dK []) :=
  ⟨rfl, fun _ _ _ => rfl, fun _ _ _ _ => rfl, turns_d20, starts_d20, fun h => wpAny_newObj_type h, fun H h hb => dk_empty h hb⟩
theorem form_s2 : Form X (.SetComp elt [⟨t0, i0, c0, 0⟩, ⟨t1, i1, c1, 0⟩] scope pos) scope t0 i0 c0 [⟨t1, i1, c1, 0⟩] (inBody (.SetComp elt [⟨t0, i0, c0, 0⟩, ⟨t1, i1, c1, 0⟩] scope pos) i1 1) (newSet (.type "set")) { cls := .type "set", dict := none, data := .set #[] 0 (.fresh 0 0 (!X.w.params.followText "set-order")) } (fun D => SetO X.w D (fun _ => false) 0) :=
  ⟨rfl, fun _ _ _ => rfl, fun _ _ _ _ => rfl, turns_s20, starts_s20, fun h => PpSet.newSet_ok h, fun H h hb => setO_new (setR_new_at (ns := []) (Heap.get?_push_size _ rfl))⟩
/-- the steps -/
def tPutK (tk tv : TE) : Addr → TB := fun D σ H Nx => tk σ H fun y H4 => tv σ H4 fun z H5 => ∃ kvs k, y = kV k ∧ H5 D = some (.dK kvs) ∧ kvs.length < sizeLine ∧ Nx (upd H5 D (.dK (putK kvs k z)))
def tPutO (P : Program) (w : World) (tk tv : TE) : Addr → TB := fun D σ H Nx => tk σ H fun y H4 => tv σ H4 fun z H5 => ∃ b kvs bs ns, y = .ref b ∧ DTO P w H5 D kvs bs ∧ Tu H5 b ns ∧ valV kvs ns = none ∧ kvs.length < sizeLine ∧ Nx (upd H5 D (dtO P w D (kvs ++ [(ns, z)]) (bs ++ [b])))
def tAddS (w : World) (te : TE) : Addr → TB := fun D σ H Nx => te σ H fun y H4 => ∃ (k : Int) (S : Int → Bool) (n : Nat), y = .int k ∧ H4 D = some (SetO w D S n) ∧ n + 1 < scanBound ∧ Nx (upd H4 D (SetO w D (fun j => S j || decide (j = k)) (if S k = true then n else n + 1)))
theorem add_putK {tk tv : TE} {D : Addr} (hk : PE X kx tk) (hv : PE X vx tv) : AddOk X (dBody kx vx) D [] (tPutK tk tv D) := by
  refine ⟨fun pins s σ H Q I h => ?_⟩
  refine wpAny_bind (thn (hk.run pins s σ H _ I h) fun kv s1 ⟨y, H1, I1, r1, q1⟩ => wpAny_bind (wpAny_holding (thn (hv.run pins s1 σ H1 _ I1 q1) fun vv s2 ⟨z, H2, I2, r2, kvs, k, ek, hD, hz, nx⟩ => ?_)))
  subst ek
  exact wpAny_bind (wpAny_standAt (wpAny_holding (d_dictSet I2 hD hz r1 r2 fun s3 I3 => ⟨σ, _, I3, rfl, fun _ _ _ e => e, nx⟩)))
theorem add_putO {tk tv : TE} {D : Addr} (hu : X.A.units < cLine) (hk : PE X kx tk) (hv : PE X vx tv) : AddOk X (dBody kx vx) D [] (tPutO X.prog X.w tk tv D) := by
  refine ⟨fun pins s σ H Q I h => ?_⟩
  refine wpAny_bind (thn (hk.run pins s σ H _ I h) fun kv s1 ⟨y, H1, I1, r1, q1⟩ => wpAny_bind (wpAny_holding (thn (hv.run pins s1 σ H1 _ I1 q1) fun vv s2 ⟨z, H2, I2, r2, b, kvs, bs, ns, ek, hD, hb, hn, hz, nx⟩ => ?_)))
  subst ek
  obtain rfl : kv = Value.ref b := r1
  exact wpAny_bind (wpAny_standAt (wpAny_holding (o_dictSet hu I2 hD hb hn hz r2 fun s3 I3 => ⟨σ, _, I3, rfl, fun _ _ _ e => e, nx⟩)))
theorem add_set {te : TE} {D : Addr} (he : PE X elt te) : AddOk X (sBody elt) D [] (tAddS X.w te D) := by
  refine ⟨fun pins s σ H Q I h => ?_⟩
  refine wpAny_bind (thn (he.run pins s σ H _ I h) fun u s1 ⟨y, H1, I1, r1, k, S, n, ek, hD, hz, nx⟩ => ?_)
  subst ek
  refine wpAny_bind (wpAny_standAt (wpAny_bind (thn (mt_sadd pins s1 σ H1 (.ref D) [.int k] (.ref D) [u] (fun _ H2 => Q H2) I1 rfl (.cons r1 .nil) ⟨D, k, S, n, rfl, rfl, hD, hz, nx⟩) fun _ s2 ⟨_, H2, I2, _, q2⟩ => ?_)))
  exact wpAny_pure ⟨σ, H2, I2, rfl, fun _ _ _ e => e, q2⟩
end
end Kx
/-! enumerate of a tuple; zip of a tuple and a list. -/
namespace Kx
open PySem PySem.Spec PyProof.Rows L2
theorem meets_enum1 {v : Value} {o : Obj} {H : Heap → Prop} (B : Begins v o H) :
    Meets (Builtin.«enumerate.__new__» ⟨[.type "enumerate", v], []⟩) (fun _ R s => H s.heap ∧
      R (.ok (.ret (.ref (s.heap.push o).objs.size))) { s with heap := (s.heap.push o).push { cls := .type "enumerate", data := .fields #[.none, .bool false, .ref s.heap.objs.size, rawInt 0, .none, .none] } }) :=
  .of_wp fun prog w A R s h => by
    obtain ⟨hp, g, d, tk, os⟩ := s; obtain ⟨h1, h⟩ := h
    have hsub := sub_enumerate
    have q1 : ∀ {A' : Around} {E : Value → Shared → Prop} {Q : Value → Shared → Prop}, Q (.ref hp.objs.size) ⟨hp.push o, g, d, tk, os⟩ → wpAny (model prog w) A' (pyIter v) Q E ⟨hp, g, d, tk, os⟩ :=
      fun q => B.iter prog w _ _ ⟨hp, g, d, tk, os⟩ _ h1 q
    wp_walk using q1
    refine wpAny_stack_any fun st => wpAny_pure ?_
    split
    · rename_i c _ _ _ _ _
      cases (c == Value.type "enumerate")
      · wp_walk using q1
        exact ⟨_, rfl, h⟩
      · wp_walk using q1
        exact ⟨_, rfl, h⟩
    · wp_walk using q1
      exact ⟨_, rfl, h⟩
section
variable {prog : Program} {w : World} {A : Around} {E : Value → Shared → Prop} {s : Shared}
theorem call_enum1 {v : Value} {o : Obj} {H : Heap → Prop} {Q : Value → Shared → Prop} (B : Begins v o H) (h1 : H s.heap)
    (h : ∀ h', IsEnum h' (s.heap.objs.size + 1) s.heap.objs.size 0 .none → h'.get? s.heap.objs.size = some o → h'.objs.size = s.heap.objs.size + 2 →
      (∀ b o, s.heap.get? b = some o → h'.get? b = some o) → Q (.ref (s.heap.objs.size + 1)) { s with heap := h' }) :
    wpAny (model prog w) A (call (.type "enumerate") [v]) Q E s := by
  refine callType_new F.called_enumerate (by decide) (F.typeCall_enumerate_1 _) (F.newCall_enumerate_1 _) (fun obj => F.args_object_init_2 obj _) F.entry_enumerate_new
    (meets_enum1 B) ⟨h1, ?_⟩
  have hz : (s.heap.push o).objs.size = s.heap.objs.size + 1 := Heap.size_push ..
  show _ ∧ _
  rw [hz]
  have he : IsEnum ((s.heap.push o).push { cls := .type "enumerate", data := .fields #[.none, .bool false, .ref s.heap.objs.size, rawInt 0, .none, .none] }) (s.heap.objs.size + 1) s.heap.objs.size 0 .none := by
    have := Heap.get?_push_size (s.heap.push o) (o := { cls := .type "enumerate", data := .fields #[.none, .bool false, .ref s.heap.objs.size, rawInt 0, .none, .none] }) rfl
    rw [hz] at this; exact this
  refine ⟨⟨_, he, rfl⟩, h _ he (Heap.get?_push_of_some _ (Heap.get?_push_size _ B.free)) (by rw [Heap.size_push, hz]) fun b o x => Heap.get?_push_of_some _ (Heap.get?_push_of_some _ x)⟩
end
/-- the tuple at a, each item in a new pair with its place -/
def ItE (K : PySem.W.Frag) (a : Addr) : It :=
  ⟨fun i H => ∃ (xs : List V) (x : V), SqT K H a xs ∧ xs[i]? = some x, fun i H v H' => ∃ T x, v = .ref T ∧ H T = none ∧ H' = upd H T (.tup [.int (i : Nat), x]) ∧ ∀ xs, SqT K H a xs → xs[i]? = some x, fun i H => ∃ xs : List V, SqT K H a xs ∧ xs.length ≤ i⟩
/-- what stands at a while a loop goes over it: iterating a tuple that is of no dict -/
theorem turn_enumT {P : Program} {w : World} {K : PySem.W.Frag} {elts : List Expr} {kk : Nat} {tpos : Pos} (a e it : Addr) (hai : a ≠ it) (hae : a ≠ e) :
    Turn P w K (.Tuple elts kk tpos) (ItE K a) [e, it] e (fun i h => (∃ old, IsEnum h e it ((i : Nat) : Int) old) ∧ h.IsTupleIter it a i ∧ e ≠ it) where
  mem := by simp
  obj := fun i h st b hb => by
    obtain ⟨⟨old, he⟩, ⟨o, ho, hc, hd⟩, _⟩ := st
    have e' : b = e ∨ b = it := by simpa using hb
    rcases e' with z | z
    · rw [z]; exact ⟨_, he, fun v q => nomatch q⟩
    · rw [z]; exact ⟨o, ho, fun v q => by rw [hd] at q; cases q⟩
  keep := fun i h h' st k => let ⟨⟨old, he⟩, hi, hne⟩ := st; ⟨⟨old, k e (by simp) _ he⟩, hi.at fun o q => k it (by simp) o q, hne⟩
  item := by
    intro X hP hw hK hc i pins s σ H E I hf st hg
    subst hP hw hK
    obtain ⟨⟨old, he⟩, hit, hne⟩ := st
    obtain ⟨xs, x, hq, hx⟩ := hg
    obtain ⟨its, rv, p, hz⟩ := I.tuple hq
    obtain ⟨u, hu, ru⟩ := rv.get hx
    have hel : e < s.heap.objs.size := Heap.lt_size he
    have hil : it < s.heap.objs.size := by obtain ⟨_, q, _⟩ := hit; exact Heap.lt_size q
    have hu' : its.toArray[i]? = some u := by simpa using hu
    have hlt : i < its.toArray.size := (Array.getElem?_eq_some_iff.mp hu').1
    have D := Draws.tuple (prog := X.prog) (w := X.w) (A := X.A.in1) (I.ok.hd hc) it a hai its.toArray
    refine wpAny_pyNext_enum_itemD D he ⟨hit, p⟩ hlt hne (by simp [hne, Ne.symm hae]) fun u1 h' tk hu1 ho hst hT hsz hk => ?_
    obtain rfl : u = u1 := by
      rw [hu'] at hu1
      exact Option.some.inj hu1
    obtain ⟨hit', _⟩ := hst
    refine ⟨_, rfl, wpAny_letOwnedTupleGo_enum (s := { s with heap := h', toks := tk + 1 }) ho fun h'' he' sb => ?_⟩
    have hT2 : h''.get? s.heap.objs.size = some { cls := .type "tuple", data := .seq #[.int i tk, u] } := (sb.2 _ (Nat.ne_of_gt hel)).trans hT
    have new : ObjOk X.prog X.w (upd H s.heap.objs.size (.tup [.int (i : Nat), x])) h'' s.heap.objs.size (.tup [.int (i : Nat), x]) :=
      ⟨by show 2 ≤ sizeLine; decide, [.int i tk, u], .cons ⟨_, rfl⟩ (.cons ru .nil), ⟨_, hT2, rfl, _, rfl⟩⟩
    have I1 : Inv X pins σ (upd H s.heap.objs.size (.tup [.int (i : Nat), x])) { s with heap := h'', toks := tk + 1 } :=
      I.turnedNew (ch := [e, it]) (fun b ob hb q => (sb.2 b (fun z => hb (by simp [z]))).trans (hk b ob (fun z => hb (by simp [z])) (fun z => hb (by simp [z])) q)) hf (Nat.le_refl _) new
    refine ⟨.ref s.heap.objs.size, _, I1, rfl, ⟨_, x, rfl, I.hok.fresh (Nat.le_refl _), rfl, fun ys hy => by rw [I.tuple_inj hy hq]; exact hx⟩, ⟨⟨u, ?_⟩, hit'.at fun o q => (sb.2 it (Ne.symm hne)).trans q, hne⟩, fun b hb => ?_⟩
    · have e1 : ((i + 1 : Nat) : Int) = (i : Int) + 1 := by omega
      rw [e1]; exact he'
    · have hb' : b < s.heap.objs.size := by
        have e' : b = e ∨ b = it := by simpa using hb
        rcases e' with z | z
        · rw [z]; exact hel
        · rw [z]; exact hil
      rw [upd_ne (Nat.ne_of_lt hb')]
      exact (hf b hb).1
  done := by
    intro X hP hw hK hc i pins s σ H E I hf st hg
    subst hP hw hK
    obtain ⟨⟨old, he⟩, hit, hne⟩ := st
    obtain ⟨xs, hq, hx⟩ := hg
    obtain ⟨its, rv, p, hz⟩ := I.tuple hq
    obtain ⟨f0, f1, f2, f3, f4, f5⟩ := hf it (by simp)
    have hl := rv.length
    have hT : s.TypeIs (.ref e) "enumerate" := ⟨_, he, rfl⟩
    unfold pyNext
    refine wpAny_bind (wpAny_attempt (wpAny_callSpecial?_slot (name := Str.ofString "__next__") hT F.slot_enumerate_next
      (wpAny_call_entry F.slot_enumerate_next hT F.entry_enumerate_next ?_ (F.args_enumerate_next_1 _))))
    show wpAny _ _ (field (.ref e) 2 >>= _) _ _ _
    refine wpAny_bind (wpAny_field he rfl (x := .ref it) rfl ?_)
    refine wpAny_bind (wpAny_nextOf_tuple_end (I.ok.hd hc) hit p (by simp; omega) fun h' x he' hx' => ?_)
    obtain ⟨o, ho, hc⟩ := hx'
    refine wpAny_bind (wpAny_isInstance (T := "StopIteration") (b := true) ⟨o, ho, hc⟩ isSubtype_stop ?_)
    exact wpAny_pure ⟨rfl, I.turned (t' := s.toks) (fun b o hb q => he' b o hb q) f0 f1 f3 f4 f5⟩
  self := fun A i s Q E st h => let ⟨⟨_, he⟩, _⟩ := st; wpAny_pyIter_enum he h
/-- enumerate of a list or of a tuple -/
def iEnumQ (K : PySem.W.Frag) (ta : TA) : TI := fun σ H R => ta σ H fun vs H1 => ∃ a xs, vs = [.ref a] ∧ ((SqL K H1 a xs ∧ R (Ite K a) H1) ∨ (SqT K H1 a xs ∧ R (ItE K a) H1))
theorem pi_enumQ {X : Cx} {e : Expr} {ta : TA} {p pos tpos : Pos} {elts : List Expr} {kk : Nat} (hg : Gl X "enumerate") (hm : X.mg "enumerate" = none) (ha : PA X [e] ta) (hs : starEach [e] X.env = [(false, eval e X.env)] := by rfl) :
    PI X (.Tuple elts kk tpos) (.Call (.Name "enumerate" p) [e] [] pos) (iEnumQ X.K ta) := by
  refine ⟨fun pins s σ H R I h => ?_⟩
  refine Call_ (ld_blt I hg hm boot_enumerate (PyProof.Rows.callWith_type1 (thn (ha.run pos pins s σ H _ I h) fun us s1 ⟨vs, H1, I1, r1, q1⟩ => ?_) hs rfl))
  obtain ⟨a, xs, ex, q1⟩ := q1
  subst ex
  cases r1 with
  | cons r rr =>
    cases rr
    cases r
    have fresh2 : ∀ b ∈ [s1.heap.objs.size + 1, s1.heap.objs.size], FpOk X pins H1 b := fun b hb => by
      have e' : b = s1.heap.objs.size + 1 ∨ b = s1.heap.objs.size := by simpa using hb
      have hle : s1.heap.objs.size ≤ b := by
        rcases e' with z | z
        · rw [z]; exact Nat.le_add_right _ _
        · rw [z]; exact Nat.le_refl _
      exact I1.fpOk hle (I1.hok.fresh hle)
    rcases q1 with ⟨hq, q⟩ | ⟨hq, q⟩
    · obtain ⟨its, rv, p', hz⟩ := I1.list hq
      refine call_enumerate_list p'.isList fun h' he hit hsz hk => wpAny_pyIter_enum he ?_
      have I2 : Inv X pins σ H1 { s1 with heap := h' } := I1.kept (t' := s1.toks) hk
      exact ⟨s1.heap.objs.size + 1, [s1.heap.objs.size + 1, s1.heap.objs.size], _, _, H1, rfl, I2, turn_enum a (s1.heap.objs.size + 1) s1.heap.objs.size, ⟨⟨.none, he⟩, hit, Nat.succ_ne_self _⟩, fresh2, q⟩
    · obtain ⟨its, rv, p', hz⟩ := I1.tuple hq
      obtain ⟨ob, hob, _⟩ := id p'
      have hal : a < s1.heap.objs.size := Heap.lt_size hob
      refine call_enum1 (begins_tuple a its.toArray) p' fun h' he hit hsz hk => wpAny_pyIter_enum he ?_
      have I2 : Inv X pins σ H1 { s1 with heap := h' } := I1.kept (t' := s1.toks) hk
      exact ⟨s1.heap.objs.size + 1, [s1.heap.objs.size + 1, s1.heap.objs.size], _, _, H1, rfl, I2, turn_enumT a (s1.heap.objs.size + 1) s1.heap.objs.size (Nat.ne_of_lt hal) (Nat.ne_of_lt (Nat.lt_succ_of_lt hal)), ⟨⟨.none, he⟩, ⟨_, hit, rfl, rfl⟩, Nat.succ_ne_self _⟩, fresh2, q⟩
theorem walk_enumT {K : PySem.W.Frag} {a : Addr} {xs : List V} : Walk (ItE K a) xs.length (fun H => SqT K H a xs) (YPair (fun i => some (.int (i : Nat))) (fun i => xs[i]?)) := by
  refine ⟨fun i _ hi q => ⟨xs, xs[i], q, by simp [hi]⟩, fun _ q => ⟨xs, q, Nat.le_refl _⟩, fun i H v H' _ q y => ?_⟩
  obtain ⟨T, x, h1, h2, h3, h4⟩ := y
  exact ⟨T, .int (i : Nat), x, h1, h2, h3, rfl, h4 xs q⟩
/-! ### zip of a tuple and a list -/
def ItzM (K : PySem.W.Frag) (a b : Addr) : It :=
  ⟨fun i H => ∃ (xs ys : List V) (x y : V), SqT K H a xs ∧ SqL K H b ys ∧ xs[i]? = some x ∧ ys[i]? = some y,
    fun i H v H' => ∃ T x y, v = .ref T ∧ H T = none ∧ H' = upd H T (.tup [x, y]) ∧ (∀ xs, SqT K H a xs → xs[i]? = some x) ∧ ∀ ys, SqL K H b ys → ys[i]? = some y,
    fun i H => ∃ xs ys : List V, SqT K H a xs ∧ SqL K H b ys ∧ xs.length = i ∧ ys.length = i⟩
theorem sep_of {z TI TO i1 i2 a b : Addr} (D : ZipApart z TI TO i1 i2 a b) : ZipSep2 z TI TO i1 i2 [i1, a] [i2, b] where
  TIz := D.TIz
  TOz := D.TOz
  TITO := D.TITO
  TIi1 := D.TIi1
  mem1 := by simp
  zf1 := by simp [Ne.symm D.i1z, Ne.symm D.l1z]
  Tf1 := by simp [D.TOi1, Ne.symm D.l1TO]
  TIi2 := D.TIi2
  mem2 := by simp
  zf2 := by simp [Ne.symm D.i2z, Ne.symm D.l2z]
  Tf2 := by simp [D.TOi2, Ne.symm D.l2TO]
  sep1_2 := by simp [D.i12, Ne.symm D.l2i1]
  sep2_1 := by simp [Ne.symm D.i12, Ne.symm D.l1i2]
theorem turn_zipM {P : Program} {w : World} {K : PySem.W.Frag} {elts : List Expr} {kk : Nat} {tpos : Pos} {a b z TI TO i1 i2 : Addr} (D : ZipApart z TI TO i1 i2 a b) :
    Turn P w K (.Tuple elts kk tpos) (ItzM K a b) [z, TI, TO, i1, i2] z (fun i h => IsZip h z TI TO .none ∧ IsPair h TI (.ref i1) (.ref i2) ∧ (∃ x y, IsPair h TO x y) ∧ h.IsTupleIter i1 a i ∧ h.IsListIter i2 b i) where
  mem := by simp
  obj := fun i h st c hc => by
    obtain ⟨hz, hTI, ⟨x, y, hTO⟩, ⟨o1, e1, _, d1⟩, ⟨o2, e2, _, d2⟩⟩ := st
    have e' : c = z ∨ c = TI ∨ c = TO ∨ c = i1 ∨ c = i2 := by simpa using hc
    rcases e' with q | q | q | q | q
    · rw [q]; exact ⟨_, hz, fun v q => nomatch q⟩
    · rw [q]; exact ⟨_, hTI, fun v q => nomatch q⟩
    · rw [q]; exact ⟨_, hTO, fun v q => nomatch q⟩
    · rw [q]; exact ⟨o1, e1, fun v q => by rw [d1] at q; cases q⟩
    · rw [q]; exact ⟨o2, e2, fun v q => by rw [d2] at q; cases q⟩
  keep := fun i h h' st k => by
    obtain ⟨hz, hTI, ⟨x, y, hTO⟩, h1, h2⟩ := st
    exact ⟨k z (by simp) _ hz, k TI (by simp) _ hTI, ⟨x, y, k TO (by simp) _ hTO⟩, h1.at fun o q => k i1 (by simp) o q, h2.at fun o q => k i2 (by simp) o q⟩
  item := by
    intro X hP hw hK hc i pins s σ H E I hf st hg
    subst hP hw hK
    obtain ⟨hz, hTI, ⟨x0, y0, hTO⟩, h1, h2⟩ := st
    obtain ⟨xs, ys, x, y, hqx, hqy, hx, hy⟩ := hg
    obtain ⟨its, rv, p, _⟩ := I.tuple hqx
    obtain ⟨its2, rv2, p2, _⟩ := I.list hqy
    obtain ⟨u, hu, ru⟩ := rv.get hx
    obtain ⟨u2, hu2, ru2⟩ := rv2.get hy
    have hzl : z < s.heap.objs.size := Heap.lt_size hz
    have hu' : its.toArray[i]? = some u := by simpa using hu
    have hu2' : its2.toArray[i]? = some u2 := by simpa using hu2
    have D1 := Draws.tuple (prog := X.prog) (w := X.w) (A := X.A.in1) (I.ok.hd hc) i1 a D.l1i1 its.toArray
    have D2 := Draws.list (prog := X.prog) (w := X.w) (A := X.A.in1) (I.ok.hd hc) i2 b D.l2i2 its2.toArray
    refine wpAny_pyNext_zipD2_item (sep_of D) D1 D2 hz hTI hTO ⟨h1, p⟩ ⟨h2, p2.isList⟩ (Array.getElem?_eq_some_iff.mp hu').1 (Array.getElem?_eq_some_iff.mp hu2').1 fun v1 v2 h' tk e1 e2 z' TO' h1' h2' hT hsz hk => ?_
    obtain rfl : u = v1 := by
      rw [hu'] at e1
      exact Option.some.inj e1
    obtain rfl : u2 = v2 := by
      rw [hu2'] at e2
      exact Option.some.inj e2
    refine ⟨_, rfl, wpAny_letOwnedTupleGo_zip (s := { s with heap := h', toks := tk }) z' fun h'' z'' sb => ?_⟩
    have hT2 : h''.get? s.heap.objs.size = some { cls := .type "tuple", data := .seq #[u, u2] } := (sb.2 _ (Nat.ne_of_gt hzl)).trans hT
    have new : ObjOk X.prog X.w (upd H s.heap.objs.size (.tup [x, y])) h'' s.heap.objs.size (.tup [x, y]) :=
      ⟨by show 2 ≤ sizeLine; decide, [u, u2], .cons ru (.cons ru2 .nil), ⟨_, hT2, rfl, _, rfl⟩⟩
    have I1 : Inv X pins σ (upd H s.heap.objs.size (.tup [x, y])) { s with heap := h'', toks := tk } :=
      I.turnedNew (t' := tk) (ch := [z, TI, TO, i1, i2]) (fun c o hb q => (sb.2 c (fun q' => hb (by simp [q']))).trans (hk c o (fun q' => hb (by simp [q'])) (fun q' => hb (by simp [q'])) (fun q' => hb (by simp [q'])) (fun q' => hb (by simp [q'])) q)) hf (Nat.le_refl _) new
    refine ⟨.ref s.heap.objs.size, _, I1, rfl, ⟨_, x, y, rfl, I.hok.fresh (Nat.le_refl _), rfl, fun l hl => by rw [I.tuple_inj hl hqx]; exact hx, fun l hl => by rw [I.list_inj hl hqy]; exact hy⟩, ⟨z'', ?_, ⟨u, u2, ?_⟩, ?_, ?_⟩, fun c hcm => ?_⟩
    · exact (sb.2 _ D.TIz).trans (hk _ _ D.TIz D.TITO D.TIi1 D.TIi2 hTI)
    · exact (sb.2 _ D.TOz).trans TO'
    · exact h1'.1.at fun o q => (sb.2 _ D.i1z).trans q
    · exact h2'.1.at fun o q => (sb.2 _ D.i2z).trans q
    · have hlt : c < s.heap.objs.size := by
        have e' : c = z ∨ c = TI ∨ c = TO ∨ c = i1 ∨ c = i2 := by simpa using hcm
        rcases e' with q | q | q | q | q
        · rw [q]; exact hzl
        · rw [q]; exact Heap.lt_size hTI
        · rw [q]; exact Heap.lt_size hTO
        · rw [q]; obtain ⟨_, e1, _⟩ := h1; exact Heap.lt_size e1
        · rw [q]; obtain ⟨_, e2, _⟩ := h2; exact Heap.lt_size e2
      rw [upd_ne (Nat.ne_of_lt hlt)]
      exact (hf c hcm).1
  done := by
    intro X hP hw hK hc i pins s σ H E I hf st hg
    subst hP hw hK
    obtain ⟨hz, hTI, ⟨x0, y0, hTO⟩, h1, h2⟩ := st
    obtain ⟨xs, ys, hqx, hqy, hex, hey⟩ := hg
    obtain ⟨its, rv, p, _⟩ := I.tuple hqx
    obtain ⟨its2, rv2, p2, _⟩ := I.list hqy
    have l1 := rv.length
    have l2 := rv2.length
    have n1 : its.toArray.size = i := by simp; omega
    have n2 : its2.toArray.size = i := by simp; omega
    have D1 := Draws.tuple (prog := X.prog) (w := X.w) (A := X.A.in1) (I.ok.hd hc) i1 a D.l1i1 its.toArray
    have D2 := Draws.list (prog := X.prog) (w := X.w) (A := X.A.in1) (I.ok.hd hc) i2 b D.l2i2 its2.toArray
    refine wpAny_pyNext_zipD2_end (sep_of D) D1 D2 hz hTI hTO ⟨h1, p⟩ ⟨h2, p2.isList⟩ (by omega) (by omega) (.inl n1.symm) fun h' tk hk => ⟨rfl, I.turnedL (t' := tk) (ch := [z, TI, TO, i1, i2]) (fun c o hb q =>
      hk c o (fun q' => hb (by simp [q'])) (fun q' => hb (by simp [q'])) (fun q' => hb (by simp [q'])) (fun q' => hb (by simp [q'])) q) hf⟩
  self := fun A i s Q E st h => wpAny_pyIter_zip st.1 h
def iZipM (K : PySem.W.Frag) (ta : TA) : TI := fun σ H R => ta σ H fun vs H1 => ∃ a b xs ys, vs = [.ref a, .ref b] ∧ SqT K H1 a xs ∧ SqL K H1 b ys ∧ R (ItzM K a b) H1
theorem pi_zipM {X : Cx} {e e2 : Expr} {ta : TA} {p pos tpos : Pos} {elts : List Expr} {kk : Nat} (hg : Gl X "zip") (hm : X.mg "zip" = none) (ha : PA X [e, e2] ta)
    (hs : starEach [e, e2] X.env = (false, eval e X.env) :: starEach [e2] X.env := by rfl) (hpl : (backTo pos (starEach [e2] X.env)).any (·.1) = false := by rfl) :
    PI X (.Tuple elts kk tpos) (.Call (.Name "zip" p) [e, e2] [] pos) (iZipM X.K ta) := by
  refine ⟨fun pins s σ H R I h => ?_⟩
  refine Call_ (ld_blt I hg hm PyProof.Rows.boot_zip (PyProof.Rows.callWith_type1 (thn (ha.run pos pins s σ H _ I h) fun us s1 ⟨vs, H1, I1, r1, q1⟩ => ?_) hs hpl))
  obtain ⟨a, b, xs, ys, ex, hqx, hqy, q⟩ := q1
  subst ex
  cases r1 with
  | cons r rr =>
    cases rr with
    | cons r' rr =>
      cases rr
      cases r
      cases r'
      have fresh5 : ∀ c, c ∈ [s1.heap.objs.size + 4, s1.heap.objs.size + 2, s1.heap.objs.size + 3, s1.heap.objs.size, s1.heap.objs.size + 1] → FpOk X pins H1 c := fun c hcm => by
        have e' : c = s1.heap.objs.size + 4 ∨ c = s1.heap.objs.size + 2 ∨ c = s1.heap.objs.size + 3 ∨ c = s1.heap.objs.size ∨ c = s1.heap.objs.size + 1 := by simpa using hcm
        have hle : s1.heap.objs.size ≤ c := by
          rcases e' with z | z | z | z | z
          · rw [z]; exact Nat.le_add_right _ _
          · rw [z]; exact Nat.le_add_right _ _
          · rw [z]; exact Nat.le_add_right _ _
          · rw [z]; exact Nat.le_refl _
          · rw [z]; exact Nat.le_add_right _ _
        exact I1.fpOk hle (I1.hok.fresh hle)
      obtain ⟨its, rv, p1, _⟩ := I1.tuple hqx
      obtain ⟨its2, rv2, p2, _⟩ := I1.list hqy
      obtain ⟨o1, ho1, _⟩ := id p1
      refine zip_begins2 (begins_tuple a its.toArray) (begins_list b its2.toArray) p1 p2.isList fun h' hz hTI hTO h1 h2 hsz hk => wpAny_pyIter_zip hz ?_
      have I2 : Inv X pins σ H1 { s1 with heap := h' } := I1.kept (t' := s1.toks) hk
      exact ⟨s1.heap.objs.size + 4, [s1.heap.objs.size + 4, s1.heap.objs.size + 2, s1.heap.objs.size + 3, s1.heap.objs.size, s1.heap.objs.size + 1], _, _, H1, rfl, I2, turn_zipM (PySem.W.ktu_apart s1.heap.objs.size a b (Heap.lt_size ho1) p2.lt), ⟨hz, hTI, ⟨_, _, hTO⟩, ⟨_, h1, rfl, rfl⟩, ⟨_, h2, rfl, rfl⟩⟩, fresh5, q⟩
theorem walk_zipM {K : PySem.W.Frag} {a b : Addr} {xs ys : List V} (hl : xs.length = ys.length) : Walk (ItzM K a b) xs.length (fun H => SqT K H a xs ∧ SqL K H b ys) (YPair (fun i => xs[i]?) (fun i => ys[i]?)) := by
  refine ⟨fun i _ hi q => ?_, fun _ q => ⟨xs, ys, q.1, q.2, rfl, hl.symm⟩, fun i H v H' _ q y => ?_⟩
  · have h2 : i < ys.length := by omega
    exact ⟨xs, ys, xs[i], ys[i], q.1, q.2, by simp [hi], by simp [h2]⟩
  · obtain ⟨T, x, z, h1, h2, h3, h4, h5⟩ := y
    exact ⟨T, x, z, h1, h2, h3, h4 xs q.1, h5 ys q.2⟩
/-- zip of two tuples -/
theorem walk_zipT {K : PySem.W.Frag} {a b : Addr} {xs ys : List V} (hl : xs.length = ys.length) : Walk (RZ.ItzT K a b) xs.length (fun H => SqT K H a xs ∧ SqT K H b ys) (YPair (fun i => xs[i]?) (fun i => ys[i]?)) := by
  refine ⟨fun i _ hi q => ?_, fun _ q => ⟨xs, ys, q.1, q.2, .inl (Nat.le_refl _)⟩, fun i H v H' _ q y => ?_⟩
  · have h2 : i < ys.length := by omega
    exact ⟨xs, ys, xs[i], ys[i], q.1, q.2, by simp [hi], by simp [h2]⟩
  · obtain ⟨T, x, z, h1, h2, h3, h4, h5⟩ := y
    exact ⟨T, x, z, h1, h2, h3, h4 xs q.1, h5 ys q.2⟩
end Kx
/-! Own errors that stand over an own base: __init__ says super().__init__('..') and stores one attribute. -/
namespace PySem
namespace OwX
open PySem.W PySem.Calls PyProof.Rows PySem.HandSPX PySem.ESX
/-! ### the text of __init__ -/
def iA (a : Str) (d : List Expr) (p1 p2 : Pos) : Arguments := { posonlyargs := [], args := [{ arg := "self", annotation := none, pos := p1 }, { arg := a, annotation := none, pos := p2 }], vararg := none, kwonlyargs := [], kw_defaults := [], kwarg := none, defaults := d }
def iB (a msg : Str) (j : Nat) (q0 q1 q2 q3 q4 q5 q6 q7 q8 q9 : Pos) : List Stmt :=
  [.Expr (.Call (.Attribute (.Call (.Name "super" q0) [] [] q1) "__init__" q2) [.Constant (.str msg) j q3] [] q4) q5, .Assign [.Attribute (.Name "self" q6) a q7] (.Name a q8) q9]
def iS (a : Str) : Scope := { kind := .function, names := [(PySem.Str.ofString "self", .local), (a, .local), (PySem.Str.ofString "__class__", .free), (PySem.Str.ofString "super", .globalImplicit)], isGenerator := false, isCoroutine := false, more := [] }
/-- the attribute's name differs from the others of the scope -/
structure NameOk (a : Str) : Prop where
  self : (a == ("self" : Str)) = false
  cls : (a == ("__class__" : Str)) = false
  sup : (a == ("super" : Str)) = false
  dbg : (a == ("__debug__" : Str)) = false
abbrev tailH (HE : Addr) : List Value := .ref HE :: exTail
/-- what the written part says of the error x, at C over the own base at HE, and of its __init__, at fI -/
structure OwTxt (P : Program) (K : Frag) (mg : Str → Option Value) (x : Str) (C HE fI : Addr) (a : Str) : Prop where
  nm : NameOk a
  gC : mg x = some (.ref C)
  cls : ∃ nm q N bs sn sub ab col dd k0 k1 k2 k3 k5, K.lookup C = some (excClassObj nm q C N bs (tailH HE) true sn sub ab col dd k0 k1 k2 k3 k5 "Exception.__new__")
  sa : findIn K (.ref C) "__setattr__" = some (some (.builtin "object.__setattr__"))
  ga : findIn K (.ref C) "__getattribute__" = some (some (.builtin "BaseException.__getattribute__"))
  gg : findIn K (.ref C) "__getattr__" = some none
  noN : findIn K (.ref C) a = some none
  iC : findIn K (.ref C) "__init__" = some (some (.ref fI))
  tC : typeIn K (.ref fI) = some (.type "function")
  kC : keepIn K (.ref C) = true
  exC : subIn K (.ref C) (.type "BaseException") = some true
  exE : subIn K (.ref C) (.type "Exception") = some true
  tyC : typeIn K (.ref C) = some (.type "type")
  hdC : hasDictIn K C = true
  along : alongIn K "__init__" (tailH HE) = some (some (.builtin "Exception.__init__"))
  opq : nsIn K cStatics "thirdparty.any" = some none
  noS : mg "super" = none
  htop : (P.main.scope.names.lookup ("super" : Str)).isSome = false
  fn : ∃ (oc : Value) (od : Option Addr) (qual : Str) (d : List Expr) (dV kV doc pm : Value) (an : Option Addr) (cdv ct : Value) (osl : Array (Option Value)) (msg : Str) (j : Nat) (p1 p2 q0 q1 q2 q3 q4 q5 q6 q7 q8 q9 : Pos) (cc cda : Addr) (cl : Value) (cld : Option Addr) (csl : Array (Option Value)) (ccl : Value) (cdd : Option Addr) (vs : Array Value) (ccs : Array (Option Value)) (file : Str) (tf : Tok),
    K.lookup fI = some ⟨oc, od, .func (ksFn "__init__" qual (iA a d p1 p2) (iB a msg j q0 q1 q2 q3 q4 q5 q6 q7 q8 q9) (iS a) dV kV doc pm an cdv ct cc), osl⟩ ∧ codeIn K cdv qual = true ∧
    K.lookup cc = some ⟨cl, cld, .cell (some (.ref C)), csl⟩ ∧ cdv = .ref cda ∧ K.lookup cda = some ⟨ccl, cdd, .fields vs, ccs⟩ ∧ vs[2]? = some (.str file tf) ∧ ((P.main.file : Str) == file) = true ∧
    (∀ (s : Shared) (u v : Value), K.In s.heap → BindsTo s (ksFn "__init__" qual (iA a d p1 p2) (iB a msg j q0 q1 q2 q3 q4 q5 q6 q7 q8 q9) (iS a) dV kV doc pm an cdv ct cc) ⟨[u, v], []⟩ [(("self" : Str), u), (a, v)]) ∧
    (∀ L : Addr, ∃ pl : Sem Bool, eval (.Call (.Attribute (.Call (.Name "super" q0) [] [] q1) "__init__" q2) [.Constant (.str msg) j q3] [] q4) (ksEnv qual (iS a) L fI cdv cc) = (do
      let ov ← attributeBase (.Call (.Name "super" q0) [] [] q1) "__init__" (ksEnv qual (iS a) L fI cdv cc) (eval (.Call (.Name "super" q0) [] [] q1) (ksEnv qual (iS a) L fI cdv cc))
      standAt q2.atName
      let (f, first) ← holding [ov] (getMethod ov "__init__" pl)
      callWith q4 f first (backTo q4 (starEach [.Constant (.str msg) j q3] (ksEnv qual (iS a) L fI cdv cc))) []))
theorem one_size (v : Value) : [v].length ≤ sizeLine := by
  rw [sizeLine_eq]
  exact (by decide : 1 ≤ 16777216)
theorem tail_hasH {C HE : Addr} (X : String) (hX : exTail.contains (.type X) = true) : (Value.ref C :: tailH HE).contains (.type X) = true := by
  rw [List.contains_cons, List.contains_cons, hX, Bool.or_true, Bool.or_true]
theorem mro_hasH {K : W.Frag} {C HE : Addr} {cd : ClassData} (hcd : W.clsIn K C = some cd) (hm : cd.mro = .ref C :: tailH HE) {b : Value} (hb : (Value.ref C :: tailH HE).contains b = true) : W.mroIn K C b = some true := by
  unfold W.mroIn
  rw [hcd, Option.bind_some, hm, if_neg (show ¬ (List.isEmpty (Value.ref C :: tailH HE) = true) from Bool.false_ne_true), hb]
section
open Builtin Builtin.ObjectAttr
variable {prog : Program} {w : World} {A : Around} {E : Value → Shared → Prop} {R : Result → Shared → Prop} {hp : Heap} {g : Array GenState} {d : Drawn} {t : Nat} {os : OsState}
theorem osa_newH {K : W.Frag} {name : Str} {tk : Tok} {v : Value} {x C HE : Addr} {fv : Array Value} {cd : ClassData}
    (X : K.In hp) (hx : hp.get? x = some { cls := .ref C, data := .fields fv }) (hcd : W.clsIn K C = some cd) (hm : cd.mro = .ref C :: tailH HE) (hh : cd.hasDict = true) (ha : W.findIn K (.ref C) name = some none)
    (hq : ∀ h' tk' dx, (∀ b o, b ≠ x → hp.get? b = some o → h'.get? b = some o) → hp.objs.size ≤ dx → dx ≠ x → h'.get? x = some { cls := .ref C, dict := some dx, data := .fields fv } →
      h'.Ns1 dx (fun y => if y = name then some v else none) → R (.ok (.ret .none)) ⟨h', g, d, tk', os⟩) :
    codeAny (model prog w) A (.call (.builtin "object.__setattr__") ⟨[.ref x, .str name tk, v], []⟩) R ⟨hp, g, d, t, os⟩ := by
  have I : W.InstAt hp x { cls := .ref C, data := .fields fv } C none := ⟨hx, rfl, rfl, trivial⟩
  have hxs : x ≠ hp.objs.size := Nat.ne_of_lt (Heap.lt_size hx)
  have SF := F.store_object
  have sub : W.Looks (model prog w) hp (isInstance (.ref x) (.type "object")) true := I.type.andThen (W.looks_mroIn X (mro_hasH hcd hm (tail_hasH "object" (by decide +kernel))))
  refine codeAny_call_builtin SF.slot.plain SF.entry (@W.check_slot (model prog w) _ _ ⟨hp, g, d, t, os⟩ "object.__setattr__" "object" "__setattr__" (.ref x) [.str name tk, v] [] _ SF.kind SF.split sub (SF.args (.ref x) (.str name tk) v) ?_)
  have hmr : W.Looks (model prog w) hp (mroOf (.ref C)) cd.mro := (W.looks_clsIn X hcd).andThen .now
  have L3 : W.Looks (model prog w) hp (storeTaker? none) none := .now
  have hpass : refuseLoop (.ref x) "__setattr__" cd.mro = pure () := by
    rw [hm, refuseLoop_ref, refuseLoop_ref]
    exact F.store_Exception.passes _
  rw [W.osa_eq, refuse_eq]
  refine wpAny_bind (wpAny_bind (I.type.at (wpAny_bind (hmr.at ?_))))
  rw [hpass]
  refine wpAny_pure (wpAny_bind (I.type.at (wpAny_bind ((W.looks_findIn X ha).at (wpAny_bind (L3.at ?_))))))
  show wpAny _ _ (storeInOwnDict (.ref x) (.ref C) (.str name tk) name v false) _ _ _
  have hcls : W.Looks (model prog w) hp (classData C) cd := W.looks_clsIn X hcd
  obtain ⟨nm, bs, mro, ns, qn, hd, sn, sb, ab, col, del⟩ := cd
  dsimp only at hh
  subst hh
  unfold storeInOwnDict ownDictForStores
  repeat (first | with_reducible refine HandSPX.store_in_new ?_ ?_ | with_reducible refine wpAny_loadPart_at hx ?_ | with_reducible refine hcls.at ?_ | wp_step)
  · exact ⟨_, #[], _, (Heap.get?_update_ne _ _ _ _ hxs.symm).trans (Heap.get?_push_at rfl rfl), rfl, fun e he => absurd he (by simp), fun _ => rfl⟩
  · intro h' tk' hn' hs
    have hx₁ : (hp.push { cls := .type "dict", data := .dict #[] }).get? x = some { cls := .ref C, data := .fields fv } := Heap.get?_push_of_some _ hx
    refine hq h' tk' hp.objs.size (fun b o hb ho => ?_) (Nat.le_refl _) hxs.symm ?_ hn'
    · exact (hs.2 b (Nat.ne_of_lt (Heap.lt_size ho))).trans ((Heap.get?_update_ne _ _ _ _ hb).trans (Heap.get?_push_of_some _ ho))
    · exact (hs.2 x hxs).trans (Heap.get?_update_self _ hx₁ rfl)
end
/-- the written part, at the base heap -/
structure Ground (K : Frag) (mg : Str → Option Value) (h : Heap) : Prop where
  kin : K.In h
  glob : h.Ns mainGlobals mg
  blt : ∃ mb, h.Ns builtinsNs mb ∧ ∀ x : Str, x ≠ "__name__" → mb x = bootBuiltins x
  nolimit : h.NoLimit
theorem Ground.keeps {K : Frag} {mg : Str → Option Value} {h h' : Heap} (G : Ground K mg h) (k : ∀ b o, h.get? b = some o → h'.get? b = some o) : Ground K mg h' :=
  ⟨G.kin.keeps k, G.glob.keeps k, let ⟨mb, a, b⟩ := G.blt; ⟨mb, a.keeps k, b⟩, G.nolimit.keeps k⟩
theorem kept_but {K : Frag} {h h' : Heap} {x : Addr} (X : K.In h) (hx : K.lookup x = none) (k : ∀ b o, b ≠ x → h.get? b = some o → h'.get? b = some o) : K.In h' := fun a o e =>
  k a o (fun z => by rw [z, hx] at e; cases e) (X a o e)
/-- what __init__ leaves of a fresh exception at x -/
structure InitEnd (h h' : Heap) (x C dx : Addr) (a : Str) (v : Value) : Prop where
  keep : ∀ b o, b ≠ x → h.get? b = some o → h'.get? b = some o
  obj : ∃ t1, h'.get? x = some { cls := .ref C, dict := some dx, data := .fields #[.ref t1, .none, .none, .none, .bool false, .none] }
  dbig : h.objs.size ≤ dx
  dne : dx ≠ x
  ns : h'.Ns1 dx (fun y => if y = a then some v else none)
/-- a made error -/
structure OwnMade (h h' : Heap) (e C d : Addr) (a : Str) (v : Value) : Prop where
  keep : ∀ b o, h.get? b = some o → h'.get? b = some o
  new : h.objs.size ≤ e
  obj : ∃ oe vs, h'.get? e = some oe ∧ oe.cls = .ref C ∧ oe.dict = some d ∧ oe.data = .fields vs ∧ vs[1]? = some .none
  dbig : h.objs.size ≤ d
  dne : d ≠ e
  ns : h'.Ns1 d (fun y => if y = a then some v else none)
section
variable {P : Program} {w : World} {A : Around} {E : Value → Shared → Prop} {R : Result → Shared → Prop} {s : Shared} {K : Frag} {mg : Str → Option Value} {C HE fI : Addr} {x a : Str}
theorem ow_init (T : OwTxt P K mg x C HE fI a) {y t0 : Addr} {v : Value} (G : Ground K mg s.heap) (hx : s.heap.get? y = some (excO C t0)) (hnx : K.lookup y = none) (hgx : mainGlobals ≠ y) (hroom : A.depth < recursionLimit)
    (hq : ∀ h' tk dx, InitEnd s.heap h' y C dx a v → R (.ok (.ret .none)) { s with heap := h', toks := tk }) :
    codeAny (model P w) A (.call (.ref fI) ⟨[.ref y, v], []⟩) R s := by
  obtain ⟨oc, od, qual, d, dV, kV, doc, pm, an, cdv, ct, osl, msg, j, p1, p2, q0, q1, q2, q3, q4, q5, q6, q7, q8, q9, cc, cda, cl, cld, csl, ccl, cdd, vs, ccs, file, tf, ho, hcd, hcell, ecd, hcode, hvs, hfile, hbind, hline⟩ := T.fn
  subst ecd
  obtain ⟨nm, q, N, bs, sn, sub, ab, col, dd, k0, k1, k2, k3, k5, hC⟩ := T.cls
  have hcl : clsIn K C = some { name := nm, bases := bs, mro := .ref C :: tailH HE, ns := N, qualname := q, hasDict := true, slotNames := sn, subclasses := sub, abstract := ab, collection := col, hasDel := false } := by unfold clsIn; rw [hC] <;> rfl
  have X := G.kin
  have n1 := T.nm.self
  have n2 := T.nm.cls
  have n3 := T.nm.sup
  have la : (iS a).names.lookup a = some .local := by
    show List.lookup a [(PySem.Str.ofString "self", NameKind.local), (a, .local), (PySem.Str.ofString "__class__", .free), (PySem.Str.ofString "super", .globalImplicit)] = _
    rw [List.lookup_cons]
    rw [show (a == PySem.Str.ofString "self") = false from n1]
    simp [List.lookup_cons]
  refine ks_codeAny_call_defAt (fd := ksFn "__init__" qual (iA a d p1 p2) (iB a msg j q0 q1 q2 q3 q4 q5 q6 q7 q8 q9) (iS a) dV kV doc pm an (.ref cda) ct cc) (body := iB a msg j q0 q1 q2 q3 q4 q5 q6 q7 q8 q9) (binds := [(("self" : Str), .ref y), (a, v)]) hroom (X _ _ ho) rfl G.nolimit (codeRec_of X hcd) rfl ?bind ?cell ?loc (fun h₁ hns hk₁ => ?_)
  case bind => exact hbind _ _ _ X
  case cell =>
    intro z hz
    have hz' : z ∈ [(PySem.Str.ofString "self", NameKind.local), (a, NameKind.local), (PySem.Str.ofString "__class__", NameKind.free), (PySem.Str.ofString "super", NameKind.globalImplicit)] := hz
    simp only [List.mem_cons, List.not_mem_nil, or_false] at hz'
    rcases hz' with rfl | rfl | rfl | rfl <;> (intro q; cases q)
  case loc =>
    intro z hz
    simp only [List.mem_cons, List.not_mem_nil, or_false] at hz
    rcases hz with rfl | rfl
    · rfl
    · exact la
  have G₁ := G.keeps hk₁
  have X₁ := G₁.kin
  have hx₁ := hk₁ _ _ hx
  have hyL : s.heap.objs.size ≠ y := Nat.ne_of_gt (Heap.lt_size hx)
  have hyC : y ≠ C := fun z => by rw [z, hC] at hnx; cases hnx
  have hv1 : (fun z => ([(("self" : Str), Value.ref y), (a, v)] : List (Str × Value)).reverse.lookup z) "self" = some (.ref y) := by
    show List.lookup ("self" : Str) [(a, v), (("self" : Str), Value.ref y)] = _
    rw [List.lookup_cons, show (("self" : Str) == a) = false from by rw [BEq.comm]; exact n1]
    simp [List.lookup_cons]
  have hv2 : (fun z => ([(("self" : Str), Value.ref y), (a, v)] : List (Str × Value)).reverse.lookup z) a = some v := by
    show List.lookup a [(a, v), (("self" : Str), Value.ref y)] = _
    simp [List.lookup_cons]
  have subC : mroIn K C (.ref C) = some true := mro_hasH hcl rfl (by rw [List.contains_cons]; simp)
  have mroC : ∀ {h : Heap}, K.In h → W.Looks (model P w) h (mroOf (.ref C)) (.ref C :: tailH HE) := fun X A Q E s k q => wpAny_bind ((looks_clsIn X hcl) A _ E s k (wpAny_pure q))
  obtain ⟨oD, hD1, hD2⟩ : ∃ oD, h₁.get? C = some oD ∧ oD.data = .cls { name := nm, bases := bs, mro := .ref C :: tailH HE, ns := N, qualname := q, hasDict := true, slotNames := sn, subclasses := sub, abstract := ab, collection := col, hasDel := false } := ⟨_, X₁ _ _ hC, rfl⟩
  show wpAt _ _ _ (execs (iB a msg j q0 q1 q2 q3 q4 q5 q6 q7 q8 q9) (ksEnv qual (iS a) s.heap.objs.size fI (.ref cda) cc)) _ _ _
  obtain ⟨pl, hev⟩ := hline s.heap.objs.size
  refine ks_wpAt_execs_cons (ks_wpAt_Expr_any (ks_wpAt_MethodCall (he := hev) ?_))
  refine ks_wpAt_super_base (env := ksEnv qual (iS a) s.heap.objs.size fI (.ref cda) cc) ?ks ?kc rfl rfl (X₁ _ _ ho) rfl rfl rfl (X₁ _ _ hcode) rfl hvs hfile T.htop ?_
  case ks =>
    show List.lookup ("super" : Str) [(PySem.Str.ofString "self", NameKind.local), (a, .local), (PySem.Str.ofString "__class__", .free), (PySem.Str.ofString "super", .globalImplicit)] = _
    simp [List.lookup_cons, show (("super" : Str) == a) = false from by rw [BEq.comm]; exact n3]
    rfl
  case kc =>
    show List.lookup ("__class__" : Str) [(PySem.Str.ofString "self", NameKind.local), (a, .local), (PySem.Str.ofString "__class__", .free), (PySem.Str.ofString "super", .globalImplicit)] = _
    simp [List.lookup_cons, show (("__class__" : Str) == a) = false from by rw [BEq.comm]; exact n2]
    rfl
  obtain ⟨mb, hmb, hmb2⟩ := G₁.blt
  refine ks_loadName_global rfl ?_ (loadGlobal_builtin (env := ksEnv qual (iS a) s.heap.objs.size fI (.ref cda) cc) G₁.glob T.noS hmb ((hmb2 "super" (by decide)).trans (show bootBuiltins "super" = some (.type "super") from by kernel_rfl)) ⟨rfl, ?_⟩)
  · show List.lookup ("super" : Str) [(PySem.Str.ofString "self", NameKind.local), (a, .local), (PySem.Str.ofString "__class__", .free), (PySem.Str.ofString "super", .globalImplicit)] = _
    simp [List.lookup_cons, show (("super" : Str) == a) = false from by rw [BEq.comm]; exact n3]
    rfl
  refine wpAny_loadName_free rfl ?_ rfl ⟨_, X₁ _ _ hcell, rfl⟩ ?_
  · show List.lookup ("__class__" : Str) [(PySem.Str.ofString "self", NameKind.local), (a, .local), (PySem.Str.ofString "__class__", .free), (PySem.Str.ofString "super", .globalImplicit)] = _
    simp [List.lookup_cons, show (("__class__" : Str) == a) = false from by rw [BEq.comm]; exact n2]
    rfl
  refine wpAny_loadName_local rfl rfl hns hv1 ?_
  refine ks_wpAny_isType_cls hD1 hD2 ⟨rfl, ?_⟩
  refine ks_wpAny_call_super hD1 hD2 hx₁ rfl (fun c e => nomatch e) (looks_mroIn X₁ subC) (fun h₂ e₂ k₂ => ?_)
  have X₂ := X₁.keeps k₂
  have hx₂ := k₂ _ _ hx₁
  have I₂ : InstAt h₂ y (excO C t0) C none := ⟨hx₂, rfl, rfl, trivial⟩
  refine getMethod_super (K := K) e₂ (looks_opaque X₂ T.opq) (mroC X₂) (drop_own C (tailH HE)) X₂ T.along hyC rfl (I₂.type.andThen (looks_subIn X₂ T.exE)) ?_
  have k₃ : ∀ b o, h₂.get? b = some o → (h₂.push (bw y)).get? b = some o := fun b o e => Heap.get?_push_of_some _ e
  have hu : (h₂.push (bw y)).get? h₂.objs.size = some (bw y) := Heap.get?_push_size _ rfl
  have X₃ := X₂.keeps k₃
  refine callWith_bound (x := y) (spliced_more (wpAny_Constant_str (spliced_none ⟨hu, ?_⟩)))
  refine call_bw (k₃ _ _ (X₂ _ _ hC)) (k₃ _ _ hx₂) hu (one_size _) fun h₄ t₄ k₄ hx₄ => ?_
  have K₄ : ∀ b o, b ≠ y → h₁.get? b = some o → h₄.get? b = some o := fun b o hb e => k₄ b o hb (k₃ _ _ (k₂ _ _ e))
  have X₄ : K.In h₄ := kept_but X₁ hnx K₄
  have hns₄ : h₄.Ns s.heap.objs.size (fun z => ([(("self" : Str), Value.ref y), (a, v)] : List (Str × Value)).reverse.lookup z) := by
    obtain ⟨oL, es, ep, hL, r⟩ := hns
    exact ⟨oL, es, ep, K₄ _ _ hyL hL, r⟩
  refine ks_wpAt_execs_cons (wpAt_of_wpAny (plainObj_wpAny_Assign_Attribute ?_))
  refine wpAny_Name (wpAny_loadName_local rfl la hns₄ hv2 ?_) T.nm.dbg
  refine wpAny_Name (wpAny_loadName_local rfl rfl hns₄ hv1 ?_) (by decide)
  refine set_plain X₄ (ox := excO C t₄) (od := none) ⟨hx₄, rfl, rfl, trivial⟩ T.sa ?_
  refine osa_newH X₄ hx₄ hcl rfl rfl T.noN (fun h₅ tk₅ dx k₅ dn dne hx₅ hn₅ => ?_)
  refine wpAt_of_wpAny (wpAny_execs_nil (hq h₅ tk₅ dx ⟨fun b o hb e => k₅ b o hb (K₄ b o hb (hk₁ b o e)), ⟨_, hx₅⟩, ?_, dne, hn₅⟩))
  have z1 : s.heap.objs.size < h₄.objs.size := hns₄.lt
  exact Nat.le_of_lt (Nat.lt_of_lt_of_le z1 dn)
theorem ow_made (T : OwTxt P K mg x C HE fI a) {v : Value} (G : Ground K mg s.heap) (hroom : A.depth + 1 < recursionLimit)
    (hq : ∀ h' tk e d, OwnMade s.heap h' e C d a v → R (.ok (.ret (.ref e))) { s with heap := h', toks := tk }) :
    codeAny (model P w) A (.call (.ref C) ⟨[v], []⟩) R s := by
  obtain ⟨nm, q, N, bs, sn, sub, ab, col, dd, k0, k1, k2, k3, k5, hC⟩ := T.cls
  obtain ⟨hp, g, dr, tk, os⟩ := s
  have X := G.kin
  have k : ∀ b o, hp.get? b = some o → ((hp.push (kdv_tup [v])).push (excO C hp.objs.size)).get? b = some o := fun b o e => Heap.get?_push_of_some _ (Heap.get?_push_of_some _ e)
  have hget : ((hp.push (kdv_tup [v])).push (excO C hp.objs.size)).get? (hp.objs.size + 1) = some (excO C hp.objs.size) := by heap_get
  have hnx : K.lookup (hp.objs.size + 1) = none := by
    cases e : K.lookup (hp.objs.size + 1) with
    | none => rfl
    | some o =>
      have z : hp.get? (hp.objs.size + 1) = some o := X _ _ e
      exact absurd (Nat.lt_of_succ_lt (Heap.lt_size z)) (Nat.lt_irrefl _)
  have hgx : mainGlobals ≠ hp.objs.size + 1 := Nat.ne_of_lt (Nat.lt_succ_of_lt G.glob.lt)
  have hT : ∀ Y : String, (tailH HE).contains (.type Y) = exTail.contains (.type Y) := fun Y => by rw [List.contains_cons]; rfl
  refine call_own F.excBase_Exception hT (X _ _ hC) (looks_findIn X T.iC) (fun self => bind_fn X self T.tC) (one_size v) ?_
  refine ow_init (s := ⟨(hp.push (kdv_tup [v])).push (excO C hp.objs.size), g, dr, tk, os⟩) T (G.keeps k) hget hnx hgx ?_ fun h' tk' dx ⟨k', ⟨t1, hx⟩, dn, dne, hns⟩ => ?_
  · show A.depth + 1 < recursionLimit
    exact hroom
  · have old : ∀ b o, hp.get? b = some o → h'.get? b = some o := fun b o e => k' b o (Nat.ne_of_lt (Nat.lt_succ_of_lt (Heap.lt_size e))) (k b o e)
    have z : hp.objs.size + 1 + 1 ≤ dx := by
      first
        | (simpa only [Heap.size_push] using dn)
        | exact dn
        | (have q := dn; rw [Heap.size_push, Heap.size_push] at q; exact q)
    exact ⟨rfl, hq h' tk' (hp.objs.size + 1) dx ⟨old, Nat.le_succ _, ⟨_, _, hx, rfl, rfl, rfl, rfl⟩, Nat.le_trans (Nat.le_trans (Nat.le_succ _) (Nat.le_succ _)) z, dne, hns⟩⟩
end
end OwX
end PySem
/-! raise of an own error with one attribute; try with several clauses that name the error; the attribute read. -/
namespace Kx
open PySem PySem.Spec PyProof.Rows L2
open PySem.OwX (OwTxt)
theorem relO_at {v : V} {v' : Value} (r : RelV v v') (a f : PySem.Str) : RelO (List.lookup f [(a, v)]) (if f = a then some v' else none) := by
  by_cases hw : f = a
  · subst hw
    rw [if_pos rfl]
    have q : List.lookup f [(f, v)] = some v := by simp [List.lookup]
    rw [q]
    exact r
  · rw [if_neg hw]
    have qw : (f == a) = false := by simpa using hw
    have q2 : List.lookup f [(a, v)] = none := by simp [List.lookup, qw]
    rw [q2]
    trivial
section
variable {X : Cx} {C HE fI : Addr} {x a : PySem.Str}
/-- x(e) -/
def tMkOw (C : Addr) (a : PySem.Str) (ta : TA) : L2.St → Hp → XK → Prop := fun σ H Q => ta σ H fun vs H1 => ∃ v, vs = [v] ∧ ∀ d, H1 d = none → Q (.ref C) (some d) (upd H1 d (.xd [(a, v)]))
theorem pmk_ow {e : Expr} {ta : TA} {p pos : Pos} {k : Nat} (T : OwTxt X.prog X.K X.mg x C HE fI a) (hr : Room k X.A) (ha : PA X [e] ta) (hg : Gl X x := by rfl) (hdb : (x == ("__debug__" : PySem.Str)) = false := by decide)
    (he : starEach (e :: []) X.env = (false, eval e X.env) :: starEach [] X.env := by rfl) (hpl : (backTo pos (starEach [] X.env)).any (·.1) = false := by rfl) :
    PMk X (.Call (.Name x p) [e] [] pos) (tMkOw C a ta) := by
  intro pins s σ H Q I h
  refine wpAny_Call_Name_kw (ld_glob I hg T.gC ?_ hdb)
  refine PySem.W.callWith_K (h₀ := X.base) I.ok.mod.kin T.kC (thn (ha.run pos pins s σ H _ I h) fun us s1 hh => ?_) he hpl
  obtain ⟨vs, H1, I1, r1, v, ev, q1⟩ := hh
  subst ev
  refine ⟨I1.kIn, ?_⟩
  cases r1 with
  | cons rv rn =>
    rename_i v' us'
    cases rn
    show wpAny _ _ (call (.ref C) [v']) _ _ _
    have hlim := I1.nolimit
    have G : PySem.OwX.Ground X.K X.mg s1.heap := PySem.OwX.Ground.keeps ⟨I1.mod.kin, I1.mod.glob, I1.mod.blt, I1.mod.nolimit⟩ I1.bk
    obtain ⟨hp, g, dr, tk, os⟩ := s1
    refine wpAny_call (PySem.OwX.ow_made T G (by have := hr.dp; omega) fun h' tk' e d M => ?_)
    show MkP X pins σ Q (.ref e) ⟨h', g, dr, tk', os⟩
    obtain ⟨oe, fv, hoe, hc, hd, hdat, h1⟩ := M.obj
    have hns := M.ns
    obtain ⟨G', g1, g2⟩ := restrict h' fun b => decide (b ≠ e)
    have gk : ∀ b, b ≠ e → G'.get? b = h'.get? b := fun b hb => g1 b (decide_eq_true hb)
    have ge : G'.get? e = none := g2 e (by simp)
    have old : ∀ b o, hp.get? b = some o → G'.get? b = some o := fun b o q => (gk b (Nat.ne_of_lt (Nat.lt_of_lt_of_le (Heap.lt_size q) M.new))).trans (M.keep b o q)
    have ob : ObjOk X.prog X.w (upd H1 d (.xd [(a, v)])) G' d (.xd [(a, v)]) :=
      ⟨_, hns.at (fun o q => (gk d M.dne).trans q), fun f => relO_at rv a f⟩
    have J : Inv X pins σ (upd H1 d (.xd [(a, v)])) ⟨G', g, dr, tk', os⟩ := I1.laid (t' := tk') old M.dbig ob
    refine ⟨e, oe, fv, ⟨G', g, dr, tk', os⟩, _, .ref C, some d, rfl, J, fun b o q => ?_, ge, hoe, ⟨hc, hd⟩, hdat, h1, ?_, rfl, I1.bare, raises_own T.exC T.tyC, q1 d (I1.hok.fresh M.dbig)⟩
    · by_cases hb : b = e
      · have q' : G'.get? b = some o := q
        rw [hb, ge] at q'; cases q'
      · exact (gk b hb).symm.trans q
    · rw [upd_ne (Ne.symm M.dne)]
      exact I1.hok.fresh M.new
/-- raise x(e) -/
def tRaiseOw (C : Addr) (a : PySem.Str) (W : WX) (ta : TA) : TS := fun _ σ H => tMkOw C a ta σ H fun cls d H' => W cls d σ H'
theorem ps_raiseOw {e : Expr} {ta : TA} {W : WX} {p pos pos2 : Pos} {k : Nat} (hc : X.calm = true) (T : OwTxt X.prog X.K X.mg x C HE fI a) (hr : Room k X.A) (tk : Takes X W) (ha : PA X [e] ta) (hg : Gl X x := by rfl) (hdb : (x == ("__debug__" : PySem.Str)) = false := by decide)
    (he : starEach (e :: []) X.env = (false, eval e X.env) :: starEach [] X.env := by rfl) (hpl : (backTo pos (starEach [] X.env)).any (·.1) = false := by rfl) :
    PS X (.Raise (some (.Call (.Name x p) [e] [] pos)) none pos2) (tRaiseOw C a W ta) := ps_raise hc tk (pmk_ow T hr ha hg hdb he hpl)
/-- error.at, error the exception that the suite holds (at y; its class cls, its dict d) -/
def tAtOw (C : Addr) (a : PySem.Str) (y : Addr) (cls : Value) (d : Option Addr) (te : TE) : TE := fun σ H Q => te σ H fun x H1 => x = .ref y ∧ cls = .ref C ∧ ∃ (dd : Addr) (v : V), d = some dd ∧ H1 dd = some (.xd [(a, v)]) ∧ Q v H1
theorem pe_atOw {y : Addr} {oe : Obj} {cls : Value} {d : Option Addr} {pn : List (Addr × Obj)} {e : Expr} {te : TE} {pos : Pos} (T : OwTxt X.prog X.K X.mg x C HE fI a) (hz : Zc cls d oe) (hf : ∃ vs, oe.data = .fields vs) (he : PE (X.suite y ((y, oe) :: pn)) e te)
    (hb : attributeBase e a X.env (eval e X.env) = eval e X.env := by rfl) :
    PE (X.suite y ((y, oe) :: pn)) (.Attribute e a pos) (tAtOw C a y cls d te) := by
  refine ⟨fun pins s σ H Q I h => ?_⟩
  refine attr_of hb (thn (he.run pins s σ H _ I h) fun u s1 hh => ?_)
  obtain ⟨x, H1, I1, rx, ex, ec, dd, v, ed, ea, q⟩ := hh
  subst ex
  obtain rfl : u = Value.ref y := rx
  subst ec
  subst ed
  obtain ⟨ha, _⟩ := I1.pin (y, oe) (List.mem_append_left _ List.mem_cons_self)
  obtain ⟨vs, hd⟩ := hf
  have hx : ObjOk X.prog X.w H1 s1.heap dd (.xd [(a, v)]) := I1.hok dd _ ea
  obtain ⟨mA, hns, hr⟩ := hx
  obtain ⟨od, ho, hl⟩ := lookIn_ns hns
  have l : List.lookup a [(a, v)] = some v := by simp [List.lookup]
  obtain ⟨u, hu, ru⟩ := RelO.some_of (v := v) (o := mA a) (by rw [← l]; exact hr a)
  have J : PySem.W.InstAt s1.heap y oe C (some od) := ⟨ha, hz.1, by unfold PySem.W.notCls; rw [hd] <;> rfl, by rw [hz.2]; exact ho⟩
  exact HandSPX.exc_get I1.kIn J T.ga T.gg T.exC (PySem.W.findObj_own T.hdC T.noN rfl (by rw [hl, hu])) (handed_of ru) ⟨v, H1, I1.tok _, ru, q⟩
end
/-! ### several clauses, with a name -/
/-- a clause: the class; the name's slot; the suite -/
abbrev Cl : Type := Value × Option Nat × (Addr → Value → Option Addr → TS)
/-- behind a suite the name is gone -/
def noNm (D : Ends) (i : Nat) : Ends := { nx := fun σ' H' => D.nx (σ'.set i none) H', rt := D.rt, bk := fun σ' H' => D.bk (σ'.set i none) H', ct := fun σ' H' => D.ct (σ'.set i none) H' }
def wManyN (K : PySem.W.Frag) (Wout : WX) (D : Ends) : List Cl → WX
  | [] => Wout
  | (c, none, ts) :: r => fun cls d σ H => ∃ b, PySem.W.exmOne K cls c = some b ∧ (b = true → ∀ a, H a = none → ts a cls d D σ H) ∧ (b = false → wManyN K Wout D r cls d σ H)
  | (c, some i, ts) :: r => fun cls d σ H => ∃ b, PySem.W.exmOne K cls c = some b ∧ (b = true → ∀ a, H a = none → ts a cls d (noNm D i) (σ.set i (some (.ref a))) H) ∧ (b = false → wManyN K Wout D r cls d σ H)
inductive HdsN (X : Cx) : List ExceptHandler → List Cl → Prop
  | nil : HdsN X [] []
  | cons {x : PySem.Str} {c : Value} {ts : Addr → Value → Option Addr → TS} {b₀ : Stmt} {suite : List Stmt} {np pos' : Pos} {hds : List ExceptHandler} {l : List Cl} (hc : Names X x c)
      (hsu : ∀ (a : Addr) (oe : Obj) (cls : Value) (d : Option Addr) (pn : List (Addr × Obj)), Zc cls d oe → (∃ vs, oe.data = .fields vs) → PSs (X.suite a ((a, oe) :: pn)) (b₀ :: suite) (ts a cls d)) (r : HdsN X hds l) :
      HdsN X (.ExceptHandler (some (.Name x np)) none (b₀ :: suite) pos' :: hds) ((c, none, ts) :: l)
  | consN {x n : PySem.Str} {c : Value} {i : Nat} {ts : Addr → Value → Option Addr → TS} {b₀ : Stmt} {suite : List Stmt} {np pos' : Pos} {hds : List ExceptHandler} {l : List Cl} (hi : X.N[i]? = some n) (hln : X.env.kindOf n = some .local) (hc : Names X x c)
      (hsu : ∀ (a : Addr) (oe : Obj) (cls : Value) (d : Option Addr) (pn : List (Addr × Obj)), Zc cls d oe → (∃ vs, oe.data = .fields vs) → PSs (X.suite a ((a, oe) :: pn)) (b₀ :: suite) (ts a cls d)) (r : HdsN X hds l) :
      HdsN X (.ExceptHandler (some (.Name x np)) (some n) (b₀ :: suite) pos' :: hds) ((c, some i, ts) :: l)
section
variable {X : Cx} {body : List Stmt} {h₀ : ExceptHandler} {hds : List ExceptHandler} {l : List Cl} {pos : Pos} {tb : WX → TS} {Wout : WX}
theorem ps_try_manyN (hs : X.stack = X.env :: X.outer) (hf : X.env.frame = some X.env.locals) (hN : X.N.Nodup) (tk : Takes X Wout)
    (hb : ∀ (W : WX) (pn : List (Addr × Obj)) (xe : Value → Shared → Prop), Takes (X.tr pn xe) W → PassesOwn (model X.prog X.w) X.A X.env xe → PSs (X.tr pn xe) body (tb W))
    (hh : HdsN X (h₀ :: hds) l) : PS X (.Try body (h₀ :: hds) [] [] pos) (fun D σ H => tb (wManyN X.K Wout D l) D σ H) := by
  refine ⟨fun pins s σ H D I h => ?_⟩
  have ok := I.ok
  have hfr : X.A.frames = some (X.env :: X.outer) := by rw [ok.frames, hs]
  refine wpAny_Try_except ?_
  refine wpAny_mono ((hb (wManyN X.K Wout D l) (X.pn ++ pins) (fun e s₁ => wpAny (model X.prog X.w) X.A (noteFrame e X.env) (fun _ s₂ => wpAny (model X.prog X.w) X.A (setFlight e none) (fun _ s₃ =>
    wpAny (model X.prog X.w) X.A (handleBy e X.env (h₀ :: hds)) (SP X pins D) X.xe s₃) X.xe s₂) X.xe s₁) (fun u s' xx => ?_) PassesOwn.looking).run [] s σ H D (I.toTry _) h) (fun f s1 hsp => ?_) (fun e s1 he => he)
  · obtain ⟨a, B, sI, pins', σ', H', cls, d, rfl, J', nb, up, sky, na, os, ag, w⟩ := xx
    have J : Inv X pins σ' H' sI := J'.ofTry ok
    have sky' : Sky B (X.env :: X.outer) a (Zc cls d) X.env.locals s'.heap := by rw [← hs]; exact sky
    show wpAny (model X.prog X.w) X.A (noteFrame (.ref a) X.env) _ _ _
    refine Sky.land Zc.steady hfr hf sky' fun h3 fl3 up3 => ?_
    have J3 : Inv X pins σ' H' { s' with heap := h3 } := J.landed nb fl3.1 (up.trans up3) os ag
    obtain ⟨oe3, vs3, he3, hz3, hd3⟩ := fl3.there
    have notFr : ∀ {h : Heap} {o : Obj} {vs : Array Value}, h.FunFrames B (X.env :: X.outer) → h.get? a = some o → o.data = .fields vs → a ∉ frs (X.env :: X.outer) := fun {h o vs} ff e dd hm => by
      obtain ⟨_, o', e', hnf⟩ := ff.mem hm
      rw [e] at e'; cases e'
      exact hnf _ dd
    have nfr := notFr fl3.2.2.1 he3 hd3
    have nL : a ≠ X.env.locals := fun z => nfr (List.mem_filterMap.mpr ⟨X.env, List.mem_cons_self, by rw [hf, z]⟩)
    have nF : a ∉ X.fs := fun hm => by
      obtain ⟨e, he, q⟩ := List.mem_filterMap.mp hm
      exact nfr (List.mem_filterMap.mpr ⟨e, List.mem_cons_of_mem _ he, q⟩)
    have S3 := J3.suite he3 hd3 na nL nF
    have go : ∀ {hds' : List ExceptHandler} {l' : List Cl}, HdsN X hds' l' → wManyN X.K Wout D l' cls d σ' H' →
        wpAny (model X.prog X.w) X.A (handleBy (.ref a) X.env hds') (SP X pins D) X.xe { s' with heap := h3 } := by
      intro hds' l' hk
      induction hk with
      | nil =>
        intro w
        refine wpAny_handleBy_nil ?_
        obtain ⟨k1, k2, k3, oe, vs, T, oT, ts', he, hz, hd, h1, hr⟩ := id fl3
        unfold PySem.passOn
        refine wpAny_bind (wpAny_field he hd h1 ?_)
        rw [if_neg (show ¬ ((Value.ref T == Value.none) = true) from by simp)]
        have fin : wpAny (model X.prog X.w) X.A (setFlight (.ref a) X.env.frame) (fun _ s4 => wpAny (model X.prog X.w) X.A (throw (.ref a) : Sem Flow) (SP X pins D) X.xe s4) X.xe { s' with heap := h3 } := by
          rw [hf]
          refine HandSPX.setFlight_upZ fl3 fun h4 hh4 up4 => wpAny_throw (tk _ _ ?_)
          exact ⟨a, B, sI, pins, σ', H', cls, d, rfl, J, nb, (up.trans up3).trans up4, .inr (.inr (by rw [hs]; exact hh4)), na, os, ag, w⟩
        first
          | exact wpAny_bind (wpAny_pure (wpAny_bind fin))
          | exact wpAny_bind fin
      | @cons x c ts b₀ suite np pos' hds2 l2 hc hsu r ih =>
        intro w
        obtain ⟨b, hb1, hyes, hno⟩ := w
        refine wpAny_handleBy_cons (codeAny_handlers_test ?_) (by intro q; cases q)
        have LT : PySem.W.Looks (model X.prog X.w) h3 (typeOf (.ref a)) cls := fun A Q E s k q => wpAny_typeOf_ref (k _ _ he3) (by rw [hz3.1]; exact q)
        have LM := PySem.W.exm_one (M := model X.prog X.w) (J3.kIn) LT hb1
        have test : ∀ {Q : Value → Shared → Prop} {E : Value → Shared → Prop}, Q c { s' with heap := h3 } → wpAny (model X.prog X.w) (X.A.mark (some (.ref a))) (eval (.Name x np) X.env) Q E { s' with heap := h3 } := fun {Q E} q => by
          obtain ⟨hg, hdbg, hm | ⟨hm, hv, hnn⟩⟩ := hc
          · exact ld_glob (X := X.suite a ((a, oe3) :: (X.pn ++ pins))) S3 hg hm q hdbg
          · exact ld_blt (X := X.suite a ((a, oe3) :: (X.pn ++ pins))) S3 hg hm hv q hnn hdbg
        refine test (LM.here ?_)
        cases b with
        | true =>
          refine codeAny_handlers_suite ?_
          refine HandSPX.lands_againZ fl3 fun h4 fl4 up4 => ?_
          have J4 : Inv X pins σ' H' { s' with heap := h4 } := J.landed nb fl4.1 ((up.trans up3).trans up4) os ag
          obtain ⟨oe4, vs4, he4, hz4, hd4⟩ := fl4.there
          have S4 := J4.suite he4 hd4 na nL nF
          refine wpAny_mono ((hsu a oe4 cls d (X.pn ++ pins) hz4 ⟨_, hd4⟩).run [] _ _ H' _ S4 (hyes rfl a na)) (fun f s6 hsp => ?_) (fun _ _ z => False.elim z)
          cases f with
          | next =>
            obtain ⟨σ6, H6, S6, q6⟩ := hsp
            exact ⟨_, _, S6.unsuite ok, q6⟩
          | brk =>
            obtain ⟨σ6, H6, S6, q6⟩ := hsp
            exact ⟨_, _, S6.unsuite ok, q6⟩
          | cont =>
            obtain ⟨σ6, H6, S6, q6⟩ := hsp
            exact ⟨_, _, S6.unsuite ok, q6⟩
          | ret u =>
            obtain ⟨v6, σ6, H6, S6, r6, q6⟩ := hsp
            exact ⟨_, _, _, S6.unsuite ok, r6, q6⟩
        | false =>
          show wpAny _ X.A (handleBy (.ref a) X.env hds2) _ _ _
          exact ih (hno rfl)
      | @consN x n c i ts b₀ suite np pos' hds2 l2 hi hln hc hsu r ih =>
        intro w
        obtain ⟨b, hb1, hyes, hno⟩ := w
        refine wpAny_handleBy_cons (codeAny_handlers_test ?_) (by intro q; cases q)
        have LT : PySem.W.Looks (model X.prog X.w) h3 (typeOf (.ref a)) cls := fun A Q E s k q => wpAny_typeOf_ref (k _ _ he3) (by rw [hz3.1]; exact q)
        have LM := PySem.W.exm_one (M := model X.prog X.w) (J3.kIn) LT hb1
        have test : ∀ {Q : Value → Shared → Prop} {E : Value → Shared → Prop}, Q c { s' with heap := h3 } → wpAny (model X.prog X.w) (X.A.mark (some (.ref a))) (eval (.Name x np) X.env) Q E { s' with heap := h3 } := fun {Q E} q => by
          obtain ⟨hg, hdbg, hm | ⟨hm, hv, hnn⟩⟩ := hc
          · exact ld_glob (X := X.suite a ((a, oe3) :: (X.pn ++ pins))) S3 hg hm q hdbg
          · exact ld_blt (X := X.suite a ((a, oe3) :: (X.pn ++ pins))) S3 hg hm hv q hnn hdbg
        refine test (LM.here ?_)
        cases b with
        | true =>
          refine codeAny_handlers_suite_as ?_
          refine HandSPX.lands_againZ fl3 fun h4 fl4 up4 => ?_
          have J4 : Inv X pins σ' H' { s' with heap := h4 } := J.landed nb fl4.1 ((up.trans up3).trans up4) os ag
          obtain ⟨oe4, vs4, he4, hz4, hd4⟩ := fl4.there
          have S4 := J4.suite he4 hd4 na nL nF
          refine store_ok (X := X.suite a ((a, oe4) :: (X.pn ++ pins))) (v := .ref a) S4 hN hi (.inl hln) rfl (fun s5 S5 => ?_) (.inr hln)
          refine wpAny_mono ((hsu a oe4 cls d (X.pn ++ pins) hz4 ⟨_, hd4⟩).run [] s5 _ H' _ S5 (hyes rfl a na)) (fun f s6 hsp => ?_) (fun _ _ z => False.elim z)
          have end_ : ∀ {σ6 : L2.St} {H6 : Hp} {Q : Shared → Prop}, Inv (X.suite a ((a, oe4) :: (X.pn ++ pins))) [] σ6 H6 s6 → (∀ s7, Inv X pins (σ6.set i none) H6 s7 → Q s7) →
              wpAny (model X.prog X.w) X.A (do bindName X.env n .none; unbindBehindTheSuite X.env n pos') (fun _ s7 => Q s7) X.xe s6 := fun {σ6 H6 Q} S6 hq => gone_ok (S6.unsuite ok) hN hi hln hq
          cases f with
          | next =>
            obtain ⟨σ6, H6, S6, q6⟩ := hsp
            exact end_ S6 fun s7 J7 => ⟨_, _, J7, q6⟩
          | brk =>
            obtain ⟨σ6, H6, S6, q6⟩ := hsp
            exact end_ S6 fun s7 J7 => ⟨_, _, J7, q6⟩
          | cont =>
            obtain ⟨σ6, H6, S6, q6⟩ := hsp
            exact end_ S6 fun s7 J7 => ⟨_, _, J7, q6⟩
          | ret u =>
            obtain ⟨v6, σ6, H6, S6, r6, q6⟩ := hsp
            exact end_ S6 fun s7 J7 => ⟨_, _, _, J7, r6, q6⟩
        | false =>
          show wpAny _ X.A (handleBy (.ref a) X.env hds2) _ _ _
          exact ih (hno rfl)
    exact go hh w
  · cases f with
    | next =>
      obtain ⟨σ', H', J', q⟩ := hsp
      exact wpAny_execs_nil ⟨σ', H', J'.ofTry ok, q⟩
    | brk =>
      obtain ⟨σ', H', J', q⟩ := hsp
      exact ⟨σ', H', J'.ofTry ok, q⟩
    | cont =>
      obtain ⟨σ', H', J', q⟩ := hsp
      exact ⟨σ', H', J'.ofTry ok, q⟩
    | ret u =>
      obtain ⟨v, σ', H', J', r, q⟩ := hsp
      exact ⟨v, σ', H', J'.ofTry ok, r, q⟩
end
end Kx
/-! Lambdas without parameters that are kept in lists and tuples, and called by a def that gets one. -/
namespace Kx
open PySem PySem.Spec PyProof.Rows L2
open LamX (CodeO TabS Tabs ExtN TabB LamS lamCx lamEnv lam_start2 run_ofS inv_table among_app codeO_ne)
/-- the lambda at f, made in the def that runs in X -/
def LamO (X : Cx) (params : Arguments) (body : Expr) (scope : Scope) (f c' : Addr) : HO := .ext fun h => ∃ pm ctv : Value, h.get? f = some (PySem.W.kla_obj "<lambda>" (X.env.qual ++ "<lambda>") params body scope (cloFrom X.env.cells scope.names []) pm c' ctv)
theorem lamO_ok {X : Cx} {P : Program} {w : World} {H : Hp} {h : Heap} {params : Arguments} {body : Expr} {scope : Scope} {f c' : Addr} {pm ctv : Value} (e : h.get? f = some (PySem.W.kla_obj "<lambda>" (X.env.qual ++ "<lambda>") params body scope (cloFrom X.env.cells scope.names []) pm c' ctv)) : ObjOk P w H h f (LamO X params body scope f c') :=
  ⟨⟨pm, ctv, e⟩, ⟨_, e⟩, fun _ _ ⟨pm, ctv, e⟩ k => ⟨pm, ctv, k _ e⟩⟩
section
variable {X : Cx} {pins : List (Addr × Obj)} {σ : L2.St} {H : Hp} {s : Shared}
theorem lamO_get {params : Arguments} {body : Expr} {scope : Scope} {f c' : Addr} {Z : Cx} {pinsZ : List (Addr × Obj)} {σZ : L2.St} (I : Inv Z pinsZ σZ H s) (e : H f = some (LamO X params body scope f c')) :
    ∃ pm ctv : Value, s.heap.get? f = some (PySem.W.kla_obj "<lambda>" (X.env.qual ++ "<lambda>") params body scope (cloFrom X.env.cells scope.names []) pm c' ctv) :=
  (show ObjOk Z.prog Z.w H s.heap f (LamO X params body scope f c') from I.hok f _ e).1
/-- lambda: body -/
def tLamM (X : Cx) (T : List (Addr × PySem.Str)) (params : Arguments) (body : Expr) (scope : Scope) : TE := fun _ H Q => Tabs T H ∧ ∀ (f c' : Addr) (H1 : Hp), ExtN H H1 → Tabs T H1 → H1 f = none → H1 c' = some (CodeO c' (X.env.qual ++ "<lambda>")) → Q (.ref f) (upd H1 f (LamO X params body scope f c'))
theorem pe_lam {T : List (Addr × PySem.Str)} {c P : Addr} {params : Arguments} {body : Expr} {scope : Scope} {pos : Pos} (TB : TabB X.base X.mg c P) (hcode : X.env.code = .ref c)
    (hm : (P, X.env.qual ++ "<lambda>") ∈ T) (hu : ∀ p ∈ T, p.1 = P → p.2 = X.env.qual ++ "<lambda>") (L : LamS X.env.scope scope) (hdef : defaultsOf params X.env = ([], []) := by rfl) :
    PE X (.Lambda params body scope pos) (tLamM X T params body scope) := by
  refine ⟨fun pins s σ H Q I hh => ?_⟩
  obtain ⟨hT, h⟩ := hh
  have hfree := L.has I.ok
  obtain ⟨ps, hP, ht, ha⟩ := hT _ hm
  refine PySem.W.kla_eval hdef ?_
  have bP : s.heap.BuiltinsAt X.mg P := TB.bm.keeps I.bk
  have hP' : s.heap.get? P = some { cls := .none, data := .fields ps } := I.hok P _ hP
  cases hc : codeAmong pos ps.toList with
  | none =>
    refine PySem.W.kla_makeFunction (mg := X.mg) (c := c) (P := P) (ps := ps) (closure_ok hfree) I.ok.glob (I.mod.glob.keeps I.bk) hcode (TB.code.keeps I.bk) hP' ht hc TB.gP bP fun c' ctv h' tk hx hge hlt hrec htb => ?_
    obtain ⟨c2, oc, vs, t, e2, hoc, hd, hv⟩ := hrec
    cases e2
    have hsz : s.heap.objs.size ≤ h'.objs.size := Nat.le_trans hge (Nat.le_of_lt hlt)
    have nC : H c' = none := I.hok.fresh hge
    have I1 := inv_table (t' := tk) (more := #[rawInt pos.line, rawInt pos.col, .ref c']) (h' := h') I hP hx htb hge ⟨oc, vs, t, hoc, hd, hv⟩
    have hE : ExtN H (upd (upd H P (.tbl (ps ++ #[rawInt pos.line, rawInt pos.col, .ref c']))) c' (CodeO c' (X.env.qual ++ "<lambda>"))) := fun b o e n => by
      rw [upd_ne (ne_of_none e nC), upd_ne (fun z => n ps (Option.some.inj (e.symm.trans (by rw [z]; exact hP))))]
      exact e
    have eL : (ps ++ #[rawInt pos.line, rawInt pos.col, .ref c']).toList = ps.toList ++ [rawInt pos.line, rawInt pos.col, .ref c'] := by simp
    have nf : (upd (upd H P (.tbl (ps ++ #[rawInt pos.line, rawInt pos.col, .ref c']))) c' (CodeO c' (X.env.qual ++ "<lambda>"))) h'.objs.size = none := I1.hok.fresh (Nat.le_refl _)
    refine ⟨.ref h'.objs.size, _, I1.laid (a := h'.objs.size) (o := LamO X params body scope h'.objs.size c') (t' := tk) (fun b o e => Heap.get?_push_of_some _ e) (Nat.le_refl _) (lamO_ok (Heap.get?_push_size _ rfl)), rfl, h _ c' _ hE (fun p hp => ?_) nf upd_same⟩
    by_cases hb : p.1 = P
    · rw [hu p hp hb, hb]
      refine ⟨_, by rw [upd_ne (ne_of_none hP nC), upd_same], by rw [eL]; exact PySem.TriplesOk_snoc _ _ _ _ ht, fun p' cv hcv => ?_⟩
      rw [eL] at hcv
      rcases among_app _ ht hcv with z | z
      · obtain ⟨c0, e1, e2⟩ := ha p' cv z
        exact ⟨c0, e1, hE _ _ e2 codeO_ne⟩
      · exact ⟨c', z, upd_same⟩
    · obtain ⟨ps', a1, a2, a3⟩ := hT p hp
      refine ⟨ps', by rw [upd_ne (ne_of_none a1 nC), upd_ne hb]; exact a1, a2, fun p' cv hcv => ?_⟩
      obtain ⟨c0, e1, e2⟩ := a3 p' cv hcv
      exact ⟨c0, e1, hE _ _ e2 codeO_ne⟩
  | some cv =>
    obtain ⟨c', e, hco⟩ := ha pos cv hc
    subst e
    refine PySem.W.kla_makeFunctionHit (mg := X.mg) (c := c) (P := P) (ps := ps) (closure_ok hfree) I.ok.glob (I.mod.glob.keeps I.bk) hcode (TB.code.keeps I.bk) hP' ht hc bP fun ctv h' tk hx hsz => ?_
    have I1 : Inv X pins σ H { s with heap := h', toks := tk } := I.kept hx
    exact ⟨.ref h'.objs.size, _, I1.laid (a := h'.objs.size) (o := LamO X params body scope h'.objs.size c') (t' := tk) (fun b o e => Heap.get?_push_of_some _ e) (Nat.le_refl _) (lamO_ok (Heap.get?_push_size _ rfl)), rfl, h _ c' H (ExtN.refl H) hT (I1.hok.fresh (Nat.le_refl _)) hco⟩
/-- x(), x the lambda, in the def that got it: Z is that def's context, entered at s -/
theorem pe_actO {CXg : CXT} {Eg : XK} {Ng : List PySem.Str} {qg : PySem.Str} {sg : Scope} {g f c' : Addr} {cdg : Value} {params : Arguments} {body : Expr} {scope : Scope} {k i : Nat} {a : PySem.Str} {pn : List (Addr × Obj)} {xe : Value → Shared → Prop} {W : WX} {E : XK} {tb : TE} {p1 p2 : Pos}
    (I : Inv X pins σ H s) (L : LamS X.env.scope scope)
    (hbind : ∀ (q : PySem.Str) (cl : List (PySem.Str × Addr)) (pm cv ctv : Value), bindArgs (PySem.W.kla_fn "<lambda>" q params body scope cl pm cv ctv) ⟨[], []⟩ = pure [])
    (tk : Takes ((cxOf CXg X.prog X.w X.K X.mg X.base Ng qg sg g cdg X.A X.stack s H Eg).tr pn xe) W) (hW : ∀ cls d σ' H', E cls d H' → W cls d σ' H') (hr : Room (k + 1) (X.A.deeper (envOfC qg sg s.heap.objs.size g cdg)))
    (hbody : ∀ (A : Around) (outer : List Env) (s : Shared) (H : Hp) (f c' : Addr), Room k (A.deeper (lamEnv X scope s.heap.objs.size f c')) → PE (lamCx X A outer s H E scope f c') body tb)
    (hN : Ng[i]? = some a) (hv : Vis sg a) (hd : (a == ("__debug__" : PySem.Str)) = false := by decide) (hcd : (a == ("__classdict__" : PySem.Str)) = false := by decide) :
    PE ((cxOf CXg X.prog X.w X.K X.mg X.base Ng qg sg g cdg X.A X.stack s H Eg).tr pn xe) (.Call (.Name a p1) [] [] p2)
      (fun σZ HZ Q => σZ[i]? = some (some (.ref f)) ∧ HZ f = some (LamO X params body scope f c') ∧ HZ c' = some (CodeO c' (X.env.qual ++ "<lambda>")) ∧ tb σ HZ Q) := by
  refine ⟨fun pinsZ sZ σZ HZ Q IZ h => ?_⟩
  obtain ⟨hs, hfo, hc, ht⟩ := h
  refine wpAny_Call_Name_kw (thn ((pe_var (pos := p1) (i := i) hN hv hd hcd).run pinsZ sZ σZ HZ (fun v H1 => v = .ref f ∧ H1 = HZ) IZ ⟨.ref f, hs, rfl, rfl⟩) fun u s1 ⟨v, H1, I1, r1, q1⟩ => ?_)
  obtain ⟨ev, eH⟩ := q1
  subst ev
  rw [eH] at I1
  obtain rfl : u = Value.ref f := r1
  obtain ⟨pm, ctv, of1⟩ := lamO_get I1 hfo
  refine PySem.W.callWith_F0 ⟨_, _, _, _, of1⟩ ?_
  have un : Un (frs X.stack) [] H HZ s.heap s1.heap := I1.base
  obtain ⟨⟨oc, vs, t, hoc, hdc, hvc⟩, _, _⟩ := I1.hok c' _ hc
  have rc : codeAny (model X.prog X.w) (X.A.deeper (envOfC qg sg s.heap.objs.size g cdg)) (.call (.ref f) ⟨[], []⟩) (CR (L2.CX X.prog X.w) (envOfC qg sg s.heap.objs.size g cdg :: X.stack) X.prog X.w HZ s1 Q E) s1 := by
    refine PySem.W.kla_callFunE hr.depth of1 rfl L.co L.gen rfl ⟨c', oc, vs, t, rfl, hoc, hdc, hvc⟩ ?_
    rw [hbind]
    refine wpAny_pure (wpAny_newFunctionEnv (fun y hy => (L.own y hy).2) (fun y hy => absurd hy (by simp)) (fun h₁ hns hsb => ⟨I1.nolimit.fresh _ hsb, ?_⟩) L.kind)
    show codeAny _ _ (.expr body (lamEnv X scope s1.heap.objs.size f c')) _ _
    have kp : ∀ b o, s1.heap.get? b = some o → h₁.get? b = some o := fun b o e => hsb.extBut b o (Nat.ne_of_lt (Heap.lt_size e)) (Heap.get?_push_of_some _ e)
    have J : Inv (lamCx X (X.A.deeper (envOfC qg sg s.heap.objs.size g cdg)) (envOfC qg sg s.heap.objs.size g cdg :: X.stack) s1 HZ E scope f c') [] σ HZ { s1 with heap := h₁, toks := s1.toks + ([] : List (PySem.Str × Value)).length } :=
      lam_start2 I L I1.env0 hr.hd un hns kp
    refine PySem.W.kla_codeExpr (wpAny_mono ((hbody _ _ s1 HZ f c' (hr.deeper _)).run [] _ _ HZ Q J ht) (fun v s' hq => ?_) fun e s' hq => hq)
    obtain ⟨w', H', J', rv, q⟩ := hq
    exact ⟨w', H', J'.os, J'.bare, J'.base, J'.hok, rv, q⟩
  have hx : Passes (L2.CX X.prog X.w) ((cxOf CXg X.prog X.w X.K X.mg X.base Ng qg sg g cdg X.A X.stack s H Eg).tr pn xe) E := passes_call tk hW
  refine wpAny_call (codeAny_mono rc fun r s' hq => ?_)
  cases r with
  | error e => exact hx pinsZ σZ HZ s1 e s' I1 hq
  | ok fl =>
    cases fl with
    | ret u => exact I1.after hq
    | next => exact False.elim hq
    | brk => exact False.elim hq
    | cont => exact False.elim hq
/-- the def that calls what it got: TT: what it makes of the lambda's reading -/
def GivesO (X : Cx) (Ng : List PySem.Str) (x : PySem.Str) (sg : Scope) (g : Addr) (cdg : Value) (bg : List Stmt) (a : PySem.Str) (params : Arguments) (body : Expr) (scope : Scope) (TT : (XK → Hp → VK → Prop) → Hp → VK → Prop) : Prop :=
  ∀ (f c' : Addr) (s : Shared) (H : Hp) (Q : VK) (tl : XK → Hp → VK → Prop),
    (∀ (W : WX) (pn : List (Addr × Obj)) (xe : Value → Shared → Prop) (E : XK) (p1 p2 : Pos), Takes ((cxOf C8.CX0 X.prog X.w X.K X.mg X.base Ng x sg g cdg X.A X.stack s H C8.E0).tr pn xe) W → (∀ cls d σ' H', E cls d H' → W cls d σ' H') →
      PE ((cxOf C8.CX0 X.prog X.w X.K X.mg X.base Ng x sg g cdg X.A X.stack s H C8.E0).tr pn xe) (.Call (.Name a p1) [] [] p2) (fun σZ HZ Q => σZ[0]? = some (some (.ref f)) ∧ HZ f = some (LamO X params body scope f c') ∧ HZ c' = some (CodeO c' (X.env.qual ++ "<lambda>")) ∧ tl E HZ Q)) →
    H f = some (LamO X params body scope f c') → H c' = some (CodeO c' (X.env.qual ++ "<lambda>")) → TT tl H Q →
    ∃ t, PSs (cxOf C8.CX0 X.prog X.w X.K X.mg X.base Ng x sg g cdg X.A X.stack s H C8.E0).nox bg t ∧ t { nx := fun _ H' => Q .non H', rt := Q } (L2.start Ng [.ref f]) H
/-- x(v), v such a lambda -/
def tLamC (X : Cx) (params : Arguments) (body : Expr) (scope : Scope) (TT : (XK → Hp → VK → Prop) → Hp → VK → Prop) (t : XK → TE) (ta : TA) : TE := fun σ H Q => ta σ H fun vs H1 => ∃ f c', vs = [.ref f] ∧ H1 f = some (LamO X params body scope f c') ∧ H1 c' = some (CodeO c' (X.env.qual ++ "<lambda>")) ∧ TT (fun E H' Q' => t E σ H' Q') H1 Q
theorem pe_lamO {TT : (XK → Hp → VK → Prop) → Hp → VK → Prop} {x a : PySem.Str} {g : Addr} {k : Nat} {pg : Arguments} {bg : List Stmt} {sg : Scope} {dV kV doc pm cdv ct oc : Value} {an od : Option Addr} {osl : Array (Option Value)} {Ng : List PySem.Str}
    {params : Arguments} {body e : Expr} {scope : Scope} {t : XK → TE} {ta : TA} {p pos : Pos} (hg : Gl X x) (hm : X.mg x = some (.ref g)) (hk : PySem.W.keepIn X.K (.ref g) = true)
    (lk : X.K.lookup g = some ⟨oc, od, .func (PySem.W.fnOf x x pg bg sg dV kV doc pm an cdv ct), osl⟩) (hcg : PySem.W.codeIn X.K cdv x = true) (hb : L2.Binds X.K (PySem.W.fnOf x x pg bg sg dV kV doc pm an cdv ct) [a] []) (Sg : FnScope Ng [a] sg) (hNg : Ng[0]? = some a) (hva : Vis sg a)
    (hG : GivesO X Ng x sg g cdv bg a params body scope TT)
    (ha : PA X [e] ta) (hr : Room (k + 2) X.A) (L : LamS X.env.scope scope)
    (hbind : ∀ (q : PySem.Str) (cl : List (PySem.Str × Addr)) (pm cv ctv : Value), bindArgs (PySem.W.kla_fn "<lambda>" q params body scope cl pm cv ctv) ⟨[], []⟩ = pure [])
    (hbody : ∀ (A : Around) (outer : List Env) (s : Shared) (H : Hp) (E : XK) (f c' : Addr), Room k (A.deeper (lamEnv X scope s.heap.objs.size f c')) → PE (lamCx X A outer s H E scope f c') body (t E))
    (hdb : (x == ("__debug__" : PySem.Str)) = false := by decide) (hd : (a == ("__debug__" : PySem.Str)) = false := by decide) (hcd : (a == ("__classdict__" : PySem.Str)) = false := by decide)
    (he : starEach (e :: []) X.env = (false, eval e X.env) :: starEach [] X.env := by rfl) (hpl : (backTo pos (starEach [] X.env)).any (·.1) = false := by rfl) :
    PE X (.Call (.Name x p) [e] [] pos) (tLamC X params body scope TT t ta) := by
  refine ⟨fun pins s σ H Q I h => ?_⟩
  refine wpAny_Call_Name_kw (ld_glob I hg hm ?_ hdb)
  refine PySem.W.callWith_K (h₀ := X.base) I.ok.mod.kin hk (thn (ha.run pos pins s σ H _ I h) fun us s' hh => ?_) he hpl
  obtain ⟨vs, H1, I1, r1, f, c', rfl, hfo, hco, q1⟩ := hh
  refine ⟨I1.kIn, ?_⟩
  obtain ⟨u, rfl, rx⟩ := vals1 r1
  obtain rfl : u = Value.ref f := rx
  have rc : codeAny (model X.prog X.w) X.A (.call (.ref g) ⟨[.ref f], []⟩) (CR C8.CX0 X.stack X.prog X.w H1 s' Q C8.E0) s' := by
    refine run_ofS (N := Ng) (ps := [a]) (us := [.ref f]) (vs := [.ref f]) lk hcg Sg hr I1.env0 (hb s' [.ref f] I1.kIn rfl) (.cons rfl .nil) rfl fun hr' => ?_
    obtain ⟨t', ht', hq'⟩ := hG f c' s' H1 Q (fun E H' Q' => t E σ H' Q') (fun W pn xe E p1 p2 tk hW => pe_actO (i := 0) I1 L hbind tk hW hr' (fun A outer s H f c' hr2 => hbody A outer s H E f c' hr2) hNg hva hd hcd) hfo hco q1
    exact ⟨t', ht'.nox, hq'⟩
  refine wpAny_call (codeAny_mono rc fun r s2 hq => ?_)
  cases r with
  | error e => exact (show False from hq).elim
  | ok fl =>
    cases fl with
    | ret u => exact I1.after hq
    | next => exact False.elim hq
    | brk => exact False.elim hq
    | cont => exact False.elim hq
/-- one of several readings -/
theorem pe_some {ι : Type} {e : Expr} {t : ι → TE} (h : ∀ i, PE X e (t i)) : PE X e (fun σ H Q => ∃ i, t i σ H Q) := ⟨fun pins s σ H Q I ⟨i, q⟩ => (h i).run pins s σ H Q I q⟩
end
end Kx
/-! set of a list of ints. -/
namespace Kx
open PySem PySem.Spec PyProof.Rows L2
section
variable {P : Program} {w : World} {A : Around} {E : Value → Shared → Prop} {s : Shared}
set_option maxHeartbeats 4000000 in
theorem call_set_lstI {l : Addr} {items : Array Value} (ns : List Int) {Q : Value → Shared → Prop} (hh : A.handled = none) (hl : s.heap.IsList l items) (hit : IntsAre items.toList ns) (hb : ns.length + 1 < scanBound)
    (h : ∀ (h' : Heap) (tk c : Nat), SetR w h' s.heap.objs.size (fun j => decide (j ∈ ns)) c → c ≤ ns.length → (∀ b o, s.heap.get? b = some o → h'.get? b = some o) → Q (.ref s.heap.objs.size) { s with heap := h', toks := tk }) :
    wpAny (model P w) A (call (.type "set") [.ref l]) Q E s := by
  have hisz : items.size = ns.length := by
    have q := IntsAre.length hit
    rw [Array.length_toList] at q
    exact q
  obtain ⟨c, tl, hmro⟩ := F.called_set.mro
  have hmade := F.called_set.made
  have hsub := F.called_set.sub
  refine wpAny_call (codeAny_of_tree ?_)
  show wpAny _ _ (callAny (.type "set") _) _ _ _
  refine wpAny_pure ⟨Code.quiet_builtin _ (by decide +kernel), codeAny_builtin F.entry_type_call ?_⟩
  rw [Around.under_plain (weight_type_call_type "set" [.ref l] []) rfl]
  have h1 := F.called_set.notType
  have h2 := F.called_set.canCreate
  have hct := F.typeCall_set_1 (.ref l)
  repeat (any_goals (first | assumption | wp_step))

  refine codeAny_mono (code_set_led1 (.ref l) (E := E) (Q₁ := fun obj s₁ => obj = .ref s.heap.objs.size ∧ s₁ = { s with heap := s.heap.push { cls := .type "set", dict := none, data := .set #[] 0 (.fresh 0 0 (!w.params.followText "set-order")) } }) ⟨rfl, rfl⟩) fun r s₁ hr => ?_
  cases r with
  | error e => exact hr
  | ok fl =>
    cases fl with
    | ret obj =>
      obtain ⟨rfl, rfl⟩ := hr
      have hS : (s.heap.push { cls := .type "set", dict := none, data := .set #[] 0 (.fresh 0 0 (!w.params.followText "set-order")) }).get? s.heap.objs.size = some { cls := .type "set", dict := none, data := .set #[] 0 (.fresh 0 0 (!w.params.followText "set-order")) } := Heap.get?_push_size _ rfl
      have hT : Shared.TypeIs { s with heap := s.heap.push { cls := .type "set", dict := none, data := .set #[] 0 (.fresh 0 0 (!w.params.followText "set-order")) } } (.ref s.heap.objs.size) "set" := ⟨_, hS, rfl⟩
      have hli := F.called_set.init.lookup
      have hbi := F.called_set.init.bind (.ref s.heap.objs.size)
      repeat (any_goals (first | assumption | wp_step))

      refine codeAny_mono (codeAny_call_builtin (R := wants (fun r s₂ => r = .none ∧ ∃ h' tk c, s₂ = { s with heap := h', toks := tk } ∧ SetR w h' s.heap.objs.size (fun j => decide (j ∈ ns)) c ∧ c ≤ ns.length ∧
          (∀ b o, s.heap.get? b = some o → h'.get? b = some o)) E) F.called_set.init.plain F.entry_set_init (check_set_init_1 hT ?_)) fun r₂ s₂ hr₂ => ?_
      · obtain ⟨ol, hol, hcl, nl, hdl⟩ := hl
        obtain ⟨ocls, odict, odata, oslots⟩ := ol
        simp only at hcl hdl
        subst hcl; subst hdl
        have hol' : (s.heap.push { cls := .type "set", dict := none, data := .set #[] 0 (.fresh 0 0 (!w.params.followText "set-order")) }).get? l = some { cls := .type "list", dict := odict, data := .seq items nl, slots := oslots } := Heap.get?_push_of_some _ hol
        have hsls := F.sub_list_set
        have hslf := F.sub_list_frozenset
        have hne : (Value.type "list" == Value.type "dict") = false := by decide
        have hl1 : (s.heap.push { cls := .type "set", dict := none, data := .set #[] 0 (.fresh 0 0 (!w.params.followText "set-order")) }).IsList l items := ⟨_, hol', rfl, nl, rfl⟩
        unfold Builtin.«set.__init__» noKeywords Builtin.Frozenset.updateFrom
        generalize hPI : pyIter = PI
        wp_walk
        subst hPI

        refine wpAny_pyIter_list hl1 ?_
        refine wpAny_bind (wpAny_runValue ?_)
        have hlS : l < s.heap.objs.size := Heap.lt_size hol
        have hh3 : A.in1.in1.in1.handled = none := by simp [hh]
        have hz1 : (s.heap.push { cls := .type "set", dict := none, data := .set #[] 0 (.fresh 0 0 (!w.params.followText "set-order")) }).objs.size = s.heap.objs.size + 1 := Heap.size_push ..
        have hneI : l ≠ (s.heap.push { cls := .type "set", dict := none, data := .set #[] 0 (.fresh 0 0 (!w.params.followText "set-order")) }).objs.size := by
          rw [Heap.size_push]; exact Nat.ne_of_lt (Nat.lt_succ_of_lt hlS)
        have hSf : s.heap.objs.size ∉ [(s.heap.push { cls := .type "set", dict := none, data := .set #[] 0 (.fresh 0 0 (!w.params.followText "set-order")) }).objs.size, l] := by
          rw [Heap.size_push]; simp only [List.mem_cons, List.mem_singleton, List.not_mem_nil, or_false, not_or]
          exact ⟨Nat.ne_of_lt (Nat.lt_succ_self _), Nat.ne_of_gt hlS⟩
        have hval : ∀ (i : Nat) (v : Value), items[i]? = some v → ∃ k t, ns[i]? = some k ∧ v = .int k t := fun i v hv => by
          have hi : i < ns.length := by rw [← hisz]; exact (Array.getElem?_eq_some_iff.mp hv).1
          obtain ⟨t, e⟩ := PyProof.Rows.IntsAre.int_at hit i v (by rw [Array.getElem?_toList]; exact hv)
          refine ⟨ns[i], t, List.getElem?_eq_getElem hi, ?_⟩
          rw [e, List.getD_eq_getElem?_getD, List.getElem?_eq_getElem hi] <;> rfl
        refine set_update_ints ((Walks.list hh3 _ l hneI items).toS) s.heap.objs.size
          hSf ns hisz hb hval (items.size - 0) 0 _ (by omega) (Nat.zero_le _)
          ⟨⟨_, Heap.get?_push_size _ rfl, rfl, rfl⟩, (hl1.push _)⟩ ?hS0 ?hR
        case hS0 =>
          have hget : ((s.heap.push { cls := .type "set", dict := none, data := .set #[] 0 (.fresh 0 0 (!w.params.followText "set-order")) }).push { cls := .type "list_iterator", data := .fields #[.ref l, .int 0 0] }).get? s.heap.objs.size
              = some { cls := .type "set", dict := none, data := .set #[] 0 (.fresh 0 0 (!w.params.followText "set-order")) } := Heap.get?_push_of_some _ hS
          exact ⟨0, Nat.le_refl 0, setR_new_at hget⟩
        case hR =>
          intro s' c' hm hc' hS'
          obtain ⟨h', g2, d', tk', os'⟩ := s'
          have eg : g2 = s.gens := hm.gens
          have ed : d' = s.drawn := hm.drawn
          have eo : os' = s.os := hm.os
          subst eg; subst ed; subst eo
          show wpAny _ _ _ _ _ _
          refine wpAny_pure ?_
          show wpAny _ _ (ret Value.none) _ _ _
          rw [hisz] at hc'
          refine wpAny_pure ⟨rfl, h', tk', c', rfl, hS', hc', fun b o e => ?_⟩
          have hb0 : b < s.heap.objs.size := Heap.lt_size e
          have hb1 : b ≠ s.heap.objs.size := Nat.ne_of_lt hb0
          have hb2 : b ≠ (s.heap.push { cls := .type "set", dict := none, data := .set #[] 0 (.fresh 0 0 (!w.params.followText "set-order")) }).objs.size := by
            rw [Heap.size_push]; exact Nat.ne_of_lt (Nat.lt_succ_of_lt hb0)
          exact hm.heap b o (by simp only [List.mem_cons, List.mem_singleton, List.not_mem_nil, or_false, not_or]; exact ⟨hb1, hb2⟩) (Heap.get?_push_of_some _ (Heap.get?_push_of_some _ e))

      · cases r₂ with
        | error e => exact hr₂
        | ok fl₂ =>
          cases fl₂ with
          | ret r =>
            obtain ⟨rfl, h', tk, c', rfl, hS', hc', hk'⟩ := hr₂
            repeat (any_goals (first | assumption | wp_step))
            exact h _ _ _ hS' hc' hk'
          | _ => exact hr₂.elim
    | _ => exact hr.elim

end
section
variable {X : Cx}
/-- set(l), l a list of ints -/
def rSetL (K : PySem.W.Frag) (w : World) : List V → Hp → VK → Prop := fun vs H Q => ∃ (a : Addr) (ns : List Int), vs = [V.ref a] ∧ SqL K H a (ns.map V.int) ∧ ns.length + 1 < scanBound ∧ ∀ (p : Addr) (c : Nat), H p = none → c ≤ ns.length → Q (.ref p) (upd H p (SetO w p (fun j => decide (j ∈ ns)) c))
theorem cr_setL (hc : X.calm = true) : CallR X (.type "set") (rSetL X.K X.w) := by
  intro pins s σ H vs us Q I r h
  obtain ⟨a, ns, rfl, hs, hb, q⟩ := h
  obtain ⟨its, rv, hl, _⟩ := I.list hs
  rw [Vals.ref1 r]
  refine call_set_lstI ns (I.ok.hd hc) hl.isList (by simpa using rv.ints) hb fun h' tk c R hc' k => ?_
  exact ⟨.ref _, _, I.laid (a := s.heap.objs.size) (o := SetO X.w s.heap.objs.size (fun j => decide (j ∈ ns)) c) (t' := tk) k (Nat.le_refl _) (setO_new R), rfl, q _ _ I.fresh hc'⟩
end
end Kx
/-! len of an own instance; repr of small data. -/
namespace Kx
open PySem PySem.Spec PyProof.Rows L2
section
variable {X : Cx}
/-! ### len(x) by an own __len__ -/
theorem len_own {prog : Program} {w : World} {A : Around} {E : Value → Shared → Prop} {s : Shared} {y f : Addr} {Q : Value → Shared → Prop} (sp : PySem.W.Looks (model prog w) s.heap (specialOf (.ref y) "__len__") (some (.ref f))) (hb : PySem.W.Looks (model prog w) s.heap (bindSpecial (.ref f) (.ref y)) (.ref f, [.ref y]))
    (hc : wpAny (model prog w) A.in1 (call (.ref f) [.ref y]) (fun v s' => ∃ (n : Nat) (t : Tok), v = .int n t ∧ (n : Int) < 2 ^ 63 ∧ Q (.int n s'.toks) { s' with toks := s'.toks + 1 }) E s) :
    wpAny (model prog w) A (call (.builtin "len") [.ref y]) Q E s := by
  refine Calls.call_function_entry kind_len plain_len entry_len (args_len1 _) ?_
  unfold Builtin.«len»
  refine wpAny_bind (m := oneArg "len" _) (wpAny_pure ?_)
  refine wpAny_bind (m := callSpecial? (.ref y) (PySem.Str.ofString "__len__")) ?_
  simp only [callSpecial?]
  refine wpAny_bind (sp.here ?_)
  refine wpAny_holding (wpAny_bind (hb.here (wpAny_bind (wpAny_mono hc (fun v s' hv => ?_) fun _ _ h' => h'))))
  obtain ⟨n, t, rfl, hn, q⟩ := hv
  refine wpAny_pure ?_
  refine wpAny_bind (wpAny_holding (wpAny_pure ?_))
  refine wpAny_bind (wpAny_letGo ?_)
  show wpAny _ _ (if ((n : Nat) : Int) < 0 then _ else _) _ _ _
  rw [if_neg (by omega)]
  show wpAny _ _ (if ((n : Nat) : Int) ≥ 2 ^ 63 then _ else _) _ _ _
  rw [if_neg (by omega)]
  exact wpAny_bind (wpAny_mkInt (wpAny_pure ⟨_, rfl, q⟩))
/-- len(x), x of the class at C -/
def rLenOwn (C : Addr) (sp : Sp) : List V → Hp → VK → Prop := fun vs H Q => ∃ (y dx : Addr) (fs : List (PySem.Str × V)), vs = [.ref y] ∧ H y = some (.ins C dx fs) ∧ sp [.ref y] H (fun v H' => ∃ n : Nat, v = .int n ∧ (n : Int) < 2 ^ 63 ∧ Q (.int n) H') E0
theorem cr_lenOwn {C f : Addr} {fd : FuncData} {k : Nat} {ps : List PySem.Str} {sp : Sp} (hm : PySem.W.findIn X.K (.ref C) "__len__" = some (some (.ref f))) (ht : PySem.W.typeIn X.K (.ref f) = some (.type "function")) (F : FnOk X.prog X.w X.K X.mg X.base CX0 k f fd ps sp) (hr : Room (k + 1) X.A) (hb : Binds X.K fd ps []) :
    CallR X (.builtin "len") (rLenOwn C sp) := by
  intro pins s σ H vs us Q I r h
  obtain ⟨y, dx, fs, rfl, hy, hsp⟩ := h
  rw [Vals.ref1 r]
  obtain ⟨mA, O, _, _, _, _⟩ := ins_get I.hok hy
  obtain ⟨od, IA, _⟩ := O.look
  refine len_own (f := f) (IA.type.andThen (PySem.W.looks_findIn I.kIn hm)) (PySem.W.bind_fn I.kIn _ ht) ?_
  have e0 : Env0 X.prog X.w X.K X.mg X.base X.A.in1 X.stack s H := ⟨I.env0.frames, I.env0.mod, I.env0.bs, I.env0.bsz, I.env0.funs, I.env0.frf, I.env0.hok, I.env0.bare⟩
  refine wpAny_call (codeAny_mono (F.run X.A.in1 X.stack s H ⟨[.ref y], []⟩ [.ref y] [.ref y] _ _ hr.in1 e0 (hb s [.ref y] I.kIn (by simpa using F.len _ _ _ _ hsp)) (.cons rfl .nil) hsp) fun r s' hq => ?_)
  cases r with
  | error e => exact hq.elim
  | ok fl =>
    cases fl with
    | ret u =>
      obtain ⟨v, H', I', rv, n, rfl, hn, q⟩ := (I.after hq : EP X pins σ _ u s')
      obtain ⟨t, rfl⟩ := rv
      exact ⟨n, t, rfl, hn, .int n, H', I'.tok _, ⟨_, rfl⟩, q⟩
    | next => exact False.elim hq
    | brk => exact False.elim hq
    | cont => exact False.elim hq
/-! ### repr of what is small -/
inductive Rp (H : Hp) : V → PyData → Prop
  | non : Rp H .non .none
  | bl (b : Bool) : Rp H (.bl b) (.bool b)
  | int (i : Int) (h : i.natAbs.log2 < 1920) : Rp H (.int i) (.int i)
  | tup {a : Addr} {ns : List Int} (h : Tu H a ns) (hs : (dTu ns).showable = true) (hz : (dTu ns).shown.length ≤ sizeLine) : Rp H (.ref a) (dTu ns)
def rRepr : List V → Hp → VK → Prop := fun vs H Q => ∃ (x : V) (d : PyData), vs = [x] ∧ Rp H x d ∧ Q (.str d.shown) H
theorem noDict_ints : ∀ ns : List Int, PyData.hasDict (dTu ns) = false := by
  have all : ∀ ns : List Int, PyData.hasDictAll (dInts ns) = false := by
    intro ns
    induction ns with
    | nil => rfl
    | cons n ns ih =>
      show PyData.hasDictAll (.int n :: dInts ns) = false
      rw [PyData.hasDictAll, ih]
      rfl
  intro ns
  show PyData.hasDict (.tuple (dInts ns)) = false
  rw [PyData.hasDict, all]
theorem cr_repr (hg : X.A.guards = some []) (hu : X.A.units + 64 < cLine) : CallR X (.builtin "repr") rRepr := by
  intro pins s σ H vs us Q I r h
  obtain ⟨x, d, rfl, hx, q⟩ := h
  obtain ⟨u, rfl, rx⟩ := vals1 r
  cases hx with
  | non =>
    obtain rfl : u = Value.none := rx
    exact PySem.P.repr_of_none ⟨.str _, H, I.tok _, ⟨_, by rw [PyData.shown]⟩, q⟩
  | bl b =>
    obtain rfl : u = Value.bool b := rx
    exact PySem.P.repr_of_bool ⟨.str _, H, I.tok _, ⟨_, by rw [PyData.shown]⟩, q⟩
  | int i hi =>
    obtain ⟨t, rfl⟩ := rx
    exact PySem.P.repr_of_int hi ⟨.str _, H, I.tok _, ⟨_, by rw [PyData.shown]⟩, q⟩
  | @tup a ns h hs hz =>
    obtain rfl : u = Value.ref a := rx
    obtain ⟨as, rd⟩ := Dp.reads I _ _ _ (Tu.dp (K := X.K) h) (show RelV (.ref a) (Value.ref a) from rfl)
    refine repr_of_reads' rd hs (fun z => by rw [noDict_ints] at z; cases z) hg (by rw [depth_tu]; omega) (fun _ _ e => e) (fun h' u tk k => ?_) hz
    exact ⟨.str _, H, I.kept k, ⟨_, rfl⟩, q⟩
end
end Kx
/-! What the top has written; the first defs. -/
namespace Kx
open PySem PySem.Spec PyProof.Rows L2
open PySem.OwX (OwTxt)
/-- addresses: the class House, its __init__, its __len__; the errors' classes, their __init__s; the empty tuples of the defaults of guest_house and of __init__; _law_refusals's code object and its table -/
structure Ads where
  house : Addr
  hInit : Addr
  hLen : Addr
  base : Addr
  eHouse : Addr
  eQuestion : Addr
  eRefused : Addr
  eSize : Addr
  eLot : Addr
  iHouse : Addr
  iQuestion : Addr
  iRefused : Addr
  iSize : Addr
  unit : Addr
  unitI : Addr
  code : Addr
  table : Addr
abbrev bltNames : List PySem.Str := ["isinstance", "int", "bool", "list", "tuple", "len", "enumerate", "zip", "all", "any", "sum", "range", "sorted", "reversed", "min", "abs", "repr", "set", "super", "object", "type"]
abbrev sHouse : Stmt := topS 23
abbrev sHInit : Stmt := inClass sHouse 0
abbrev sHLen : Stmt := inClass sHouse 2
structure Txt (P : Program) (K : PySem.W.Frag) (mg : PySem.Str → Option Value) (A : Ads) : Prop where
  blt : ∀ x ∈ bltNames, mg x = none
  MOST_CELLS : ∃ t, mg "MOST_CELLS" = some (.int 6 t)
  MOST_CONTENTS : ∃ t, mg "MOST_CONTENTS" = some (.int 36 t)
  MOST_STANDINGS : ∃ t, mg "MOST_STANDINGS" = some (.int 300 t)
  MOST_ROOMS : ∃ t, mg "MOST_ROOMS" = some (.int 6 t)
  MOST_GUESTS : ∃ t, mg "MOST_GUESTS" = some (.int 5 t)
  is_integer : Gdef K mg "is_integer" (topS 10) []
  is_number : Gdef K mg "is_number" (topS 11) []
  is_sequence : Gdef K mg "is_sequence" (topS 12) []
  wrong_size : Gdef K mg "wrong_size" (topS 19) []
  fits_sizes : Gdef K mg "fits_sizes" (topS 20) []
  wrong_standing : Gdef K mg "wrong_standing" (topS 21) []
  wrong_change : Gdef K mg "wrong_change" (topS 22) []
  need_house : Gdef K mg "need_house" (topS 24) []
  rising_lot : Gdef K mg "rising_lot" (topS 26) []
  need_standings : Gdef K mg "need_standings" (topS 27) []
  need_question : Gdef K mg "need_question" (topS 28) []
  is_window : Gdef K mg "is_window" (topS 29) []
  need_view : Gdef K mg "need_view" (topS 30) []
  cell_view : Gdef K mg "cell_view" (topS 31) []
  seen_at : Gdef K mg "seen_at" (topS 32) []
  need_rooms : Gdef K mg "need_rooms" (topS 34) []
  placings_count : Gdef K mg "placings_count" (topS 35) []
  room_standings : Gdef K mg "room_standings" (topS 36) []
  guest_house : Gdef K mg "guest_house" (topS 37) [.ref A.unit]
  is_door : Gdef K mg "is_door" (topS 41) []
  hung_lots : Gdef K mg "hung_lots" (topS 42) []
  are_doors : Gdef K mg "are_doors" (topS 43) []
  are_gates : Gdef K mg "are_gates" (topS 44) []
  need_party : Gdef K mg "need_party" (topS 45) []
  two_ways : Gdef K mg "two_ways" (topS 46) []
  party_house : Gdef K mg "party_house" (topS 47) []
  need_single : Gdef K mg "need_single" (topS 48) []
  one_fault : Gdef K mg "one_fault" (topS 49) []
  count_one : Gdef K mg "count_one" (topS 50) []
  marked_lot : Gdef K mg "marked_lot" (topS 52) []
  spread_from : Gdef K mg "spread_from" (topS 53) []
  finished_order : Gdef K mg "finished_order" (topS 54) []
  loose_lots : Gdef K mg "loose_lots" (topS 55) []
  lot_places : Gdef K mg "lot_places" (topS 56) []
  lots_ahead : Gdef K mg "lots_ahead" (topS 57) []
  strong_lots : Gdef K mg "strong_lots" (topS 58) [.non]
  row_of : Gdef K mg "row_of" (topS 60) []
  need_asked : Gdef K mg "need_asked" (topS 61) []
  other_standings : Gdef K mg "other_standings" (topS 62) []
  shown_mask : Gdef K mg "shown_mask" (topS 63) []
  lot_mask : Gdef K mg "lot_mask" (topS 64) []
  showing_lots : Gdef K mg "showing_lots" (topS 65) []
  is_mimicked : Gdef K mg "is_mimicked" (topS 66) []
  told_in : Gdef K mg "told_in" (topS 67) []
  is_answerable : Gdef K mg "is_answerable" (topS 68) []
  _law_dealt : Gdef K mg "_law_dealt" (topS 70) []
  _law_any : Gdef K mg "_law_any" (topS 71) []
  _law_of : Gdef K mg "_law_of" (topS 72) []
  _law_doors : Gdef K mg "_law_doors" (topS 73) []
  _law_led : Gdef K mg "_law_led" (topS 74) []
  _law_mimicked : Gdef K mg "_law_mimicked" (topS 75) []
  _law_refused : Gdef K mg "_law_refused" (topS 76) []
  _law_numbered : Gdef K mg "_law_numbered" (topS 77) []
  House : mg "House" = some (.ref A.house)
  hCls : Cls K A.house
  hKeep : PySem.W.keepIn K (.ref A.house) = true
  hMk : Mk K A.house A.hInit
  hSizes : NoAttr K A.house "sizes"
  hStandings : NoAttr K A.house "standings"
  hChanges : NoAttr K A.house "changes"
  hAhead : NoAttr K A.house "ahead"
  hBehind : NoAttr K A.house "behind"
  hInitF : ∃ fd, FunD K "__init__" "House.__init__" (defArgs sHInit) (defBody sHInit) (defScope sHInit) [.non, .ref A.unitI] [] A.hInit fd
  hLenF : ∃ fd, FunD K "__len__" "House.__len__" (defArgs sHLen) (defBody sHLen) (defScope sHLen) [] [] A.hLen fd
  hLenM : PySem.W.findIn K (.ref A.house) "__len__" = some (some (.ref A.hLen))
  hLenT : PySem.W.typeIn K (.ref A.hLen) = some (.type "function")
  hKa : PySem.W.findIn K (.ref A.house) "__class__" = some (some (.builtin "object.__class__"))
  hKn : PySem.W.specialIn K (.builtin "object.__class__") "__get__" = some (some (.builtin "getset_descriptor.__get__"))
  hKt : PySem.W.takesIn K (.builtin "object.__class__") = some true
  hKm : PySem.W.mroIn K A.house (.type "object") = some true
  HouseError : mg "HouseError" = some (.ref A.base)
  InvalidLot : mg "InvalidLot" = some (.ref A.eLot)
  InvalidHouse : OwTxt P K mg "InvalidHouse" A.eHouse A.base A.iHouse "at"
  InvalidQuestion : OwTxt P K mg "InvalidQuestion" A.eQuestion A.base A.iQuestion "at"
  Refused : OwTxt P K mg "Refused" A.eRefused A.base A.iRefused "at"
  InvalidSize : OwTxt P K mg "InvalidSize" A.eSize A.base A.iSize "word"
  exHH : PySem.W.exmOne K (.ref A.eHouse) (.ref A.eHouse) = some true
  exQH : PySem.W.exmOne K (.ref A.eQuestion) (.ref A.eHouse) = some false
  exQL : PySem.W.exmOne K (.ref A.eQuestion) (.ref A.eLot) = some false
  exQQ : PySem.W.exmOne K (.ref A.eQuestion) (.ref A.eQuestion) = some true
  exRH : PySem.W.exmOne K (.ref A.eRefused) (.ref A.eHouse) = some false
  exRL : PySem.W.exmOne K (.ref A.eRefused) (.ref A.eLot) = some false
  exRQ : PySem.W.exmOne K (.ref A.eRefused) (.ref A.eQuestion) = some false
  exRR : PySem.W.exmOne K (.ref A.eRefused) (.ref A.eRefused) = some true
  exSH : PySem.W.exmOne K (.ref A.eSize) (.ref A.eHouse) = some false
  exSL : PySem.W.exmOne K (.ref A.eSize) (.ref A.eLot) = some false
  exSQ : PySem.W.exmOne K (.ref A.eSize) (.ref A.eQuestion) = some false
  exSR : PySem.W.exmOne K (.ref A.eSize) (.ref A.eRefused) = some false
  exSS : PySem.W.exmOne K (.ref A.eSize) (.ref A.eSize) = some true
theorem Txt.b {P : Program} {K : PySem.W.Frag} {mg : PySem.Str → Option Value} {A : Ads} (T : Txt P K mg A) (x : PySem.Str) (h : x ∈ bltNames := by decide +kernel) : mg x = none := T.blt x h
theorem scIsInteger : FnScope ["value"] ["value"] (defScope (topS 10)) := ⟨rfl, rfl, rfl, by decide +kernel, rfl, by decide +kernel, by decide +kernel⟩
theorem scIsNumber : FnScope ["value"] ["value"] (defScope (topS 11)) := ⟨rfl, rfl, rfl, by decide +kernel, rfl, by decide +kernel, by decide +kernel⟩
theorem scIsSequence : FnScope ["value"] ["value"] (defScope (topS 12)) := ⟨rfl, rfl, rfl, by decide +kernel, rfl, by decide +kernel, by decide +kernel⟩
/-- what a value is, as isinstance sees it -/
inductive Kd (H : Hp) : V → String → Prop
  | non : Kd H .non "NoneType"
  | bl (b : Bool) : Kd H (.bl b) "bool"
  | int (i : Int) : Kd H (.int i) "int"
  | str (z : Str) : Kd H (.str z) "str"
  | lst {a : Addr} {xs : List V} (h : Rd H a (.lst xs)) : Kd H (.ref a) "list"
  | tup {a : Addr} {xs : List V} (h : Rd H a (.tup xs)) : Kd H (.ref a) "tuple"
theorem Kd.tyX {K : PySem.W.Frag} {H : Hp} {x : V} {t : String} (h : Kd H x t) : TyX K H x (.type t) := by
  cases h with
  | non => exact .base .non
  | bl b => exact .base (.bl b)
  | int i => exact .base (.int i)
  | str z => exact .base (.str z)
  | lst h =>
    rcases h with h | ⟨o, h⟩
    · exact .base (.lst h)
    · exact .base (.frz h)
  | tup h =>
    rcases h with h | ⟨o, h⟩
    · exact .base (.tup h)
    · exact .fTuple h
def isI : V → Bool
  | .int _ => true
  | _ => false
section
variable {P : Program} {w : World} {K : PySem.W.Frag} {mg : PySem.Str → Option Value} {base : Heap} {A : Ads}
structure spIsInteger (vs : List V) (H : Hp) (Q : VK) (E : XK) : Prop where
  ex : ∃ x t, vs = [x] ∧ Kd H x t ∧ Q (.bl (isI x)) H
theorem ok_is_integer (T : Txt P K mg A) : DOk P w K mg base CX0 1 "is_integer" ["value"] [] spIsInteger := by
  refine T.is_integer.ok0 scIsInteger (fun vs H Q E h => ?_) (fun _ _ _ _ _ _ us hl => match us, hl with | [_], _ => rfl) (fun f cdv A' outer s H vs Q E hr h => ?_)
  · obtain ⟨x, t, rfl, _⟩ := h
    rfl
  · obtain ⟨x, t, rfl, hk, q⟩ := h
    refine ⟨_, pss_one (ps_ret (pe_and (pe_callB call_isi (by rfl) (T.b "isinstance") (by decide +kernel) (pa_cons (pv 0) (pa_cons (pe_bltn (v := .ty "int") (by rfl) (T.b "int") (by decide +kernel) rfl) pa_nil)))
      (pe_one (pe_not (pe_callB call_isi (by rfl) (T.b "isinstance") (by decide +kernel) (pa_cons (pv 0) (pa_cons (pe_bltn (v := .ty "bool") (by rfl) (T.b "bool") (by decide +kernel) rfl) pa_nil))))))), ?_⟩
    cases hk with
    | int i => exact ⟨_, rfl, _, _, _, _, true, rfl, .ty _, (Kd.int i).tyX, kit_ty (by decide +kernel), _, rfl, _, rfl, _, _, _, _, false, rfl, .ty _, (Kd.int i).tyX, kit_ty (by decide +kernel), _, rfl, q⟩
    | bl b => exact ⟨_, rfl, _, _, _, _, true, rfl, .ty _, (Kd.bl b).tyX, kit_ty (by decide +kernel), _, rfl, _, rfl, _, _, _, _, true, rfl, .ty _, (Kd.bl b).tyX, kit_ty (by decide +kernel), _, rfl, q⟩
    | non => exact ⟨_, rfl, _, _, _, _, false, rfl, .ty _, Kd.non.tyX, kit_ty (by decide +kernel), _, rfl, q⟩
    | str z => exact ⟨_, rfl, _, _, _, _, false, rfl, .ty _, (Kd.str z).tyX, kit_ty (by decide +kernel), _, rfl, q⟩
    | lst h => exact ⟨_, rfl, _, _, _, _, false, rfl, .ty _, (Kd.lst h).tyX, kit_ty (by decide +kernel), _, rfl, q⟩
    | tup h => exact ⟨_, rfl, _, _, _, _, false, rfl, .ty _, (Kd.tup h).tyX, kit_ty (by decide +kernel), _, rfl, q⟩
/-- a number: an int from 0 on -/
def isN : V → Bool
  | .int i => decide (0 ≤ i)
  | _ => false
structure spIsNumber (vs : List V) (H : Hp) (Q : VK) (E : XK) : Prop where
  ex : ∃ x t, vs = [x] ∧ Kd H x t ∧ Q (.bl (isN x)) H
theorem ok_is_number (T : Txt P K mg A) : DOk P w K mg base CX0 2 "is_number" ["value"] [] spIsNumber := by
  have D1 := ok_is_integer (P := P) (w := w) (base := base) T
  refine T.is_number.ok0 scIsNumber (fun vs H Q E h => ?_) (fun _ _ _ _ _ _ us hl => match us, hl with | [_], _ => rfl) (fun f cdv A' outer s H vs Q E hr h => ?_)
  · obtain ⟨x, t, rfl, _⟩ := h
    rfl
  · obtain ⟨x, t, rfl, hk, q⟩ := h
    refine ⟨_, pss_one (ps_ret (pe_and (pe_d D1 hr (by rfl) pass0 (pa_cons (pv 0) pa_nil)) (pe_one (pe_cmpR op_ge (pv 0) pe_int (nomark _))))), ?_⟩
    cases hk with
    | int i => exact ⟨_, rfl, _, _, rfl, .int i, true, rfl, _, rfl, _, _, rfl, rfl, q⟩
    | bl b => exact ⟨_, rfl, _, _, rfl, .bl b, false, rfl, q⟩
    | non => exact ⟨_, rfl, _, _, rfl, .non, false, rfl, q⟩
    | str z => exact ⟨_, rfl, _, _, rfl, .str z, false, rfl, q⟩
    | lst h => exact ⟨_, rfl, _, _, rfl, .lst h, false, rfl, q⟩
    | tup h => exact ⟨_, rfl, _, _, rfl, .tup h, false, rfl, q⟩
/-- a list or a tuple -/
def isQ (t : String) : Bool := t == "list" || t == "tuple"
structure spIsSequence (vs : List V) (H : Hp) (Q : VK) (E : XK) : Prop where
  ex : ∃ x t, vs = [x] ∧ Kd H x t ∧ ∀ p o, H p = none → Q (.bl (isQ t)) (upd H p o)
theorem ok_is_sequence (T : Txt P K mg A) : DOk P w K mg base CX0 1 "is_sequence" ["value"] [] spIsSequence := by
  refine T.is_sequence.ok0 scIsSequence (fun vs H Q E h => ?_) (fun _ _ _ _ _ _ us hl => match us, hl with | [_], _ => rfl) (fun f cdv A' outer s H vs Q E hr h => ?_)
  · obtain ⟨x, t, rfl, _⟩ := h
    rfl
  · obtain ⟨x, t, rfl, hk, q⟩ := h
    refine ⟨_, pss_one (ps_ret (pe_callB call_isiT (by rfl) (T.b "isinstance") (by decide +kernel) (pa_cons (pv 0) (pa_cons (pe_tup (pa_cons (pe_bltn (v := .ty "list") (by rfl) (T.b "list") (by decide +kernel) rfl) (pa_cons (pe_bltn (v := .ty "tuple") (by rfl) (T.b "tuple") (by decide +kernel) rfl) pa_nil))) pa_nil)))), ?_⟩
    refine ⟨_, rfl, (by show 2 ≤ sizeLine; decide), fun p hp => ?_⟩
    have hk' : Kd (upd H p (.tup [.ty "list", .ty "tuple"])) x t := by
      have sm : ∀ b o, H b = some o → (upd H p (.tup [.ty "list", .ty "tuple"])) b = some o := fun b o e => by rw [upd_ne (ne_of_none e hp)]; exact e
      cases hk with
      | int i => exact .int i
      | bl b => exact .bl b
      | non => exact .non
      | str z => exact .str z
      | lst h => exact .lst (h.imp (fun h => sm _ _ h) fun ⟨o, h⟩ => ⟨o, sm _ _ h⟩)
      | tup h => exact .tup (h.imp (fun h => sm _ _ h) fun ⟨o, h⟩ => ⟨o, sm _ _ h⟩)
    refine ⟨x, p, _, _, _, isQ t, rfl, upd_same, .cons (.ty _) (.cons (.ty _) .nil), hk'.tyX, ?_, q p _ hp⟩
    have key : ∀ t ∈ ["NoneType", "bool", "int", "str", "list", "tuple"], kitB t "list" = some (t == "list") ∧ kitB t "tuple" = some (t == "tuple") := by decide +kernel
    have ht : t ∈ ["NoneType", "bool", "int", "str", "list", "tuple"] := by cases hk <;> simp
    obtain ⟨k1, k2⟩ := key t ht
    refine kitAny_cons (kit_ty k1) (fun e => ?_) (fun e => by unfold isQ; rw [e]; rfl)
    refine kitAny_cons (kit_ty k2) (fun e2 => ?_) (fun e2 => by unfold isQ; rw [e2, Bool.or_true])
    unfold isQ
    rw [e, e2]
    rfl
end
end Kx
/-! The head: what the program's top leaves, by names. -/
namespace Kx
open PySem PySem.Spec PyProof.Rows L2
open PySem.OwX (OwTxt NameOk iA iB iS tailH)
abbrev R : PySem.W.OpenRow := PySem.W.OpenLaw.row PySem.Challenge.rw_onceitwas_k66_whole_one_guest_who_comes
abbrev qv : Program := PySem.W.view R.prog [79]
abbrev FrK : Type := PySem.W.Frag
abbrev bareT : Obj := { cls := .none, data := .fields #[] }
/-! ### what is looked at -/
def unitP (K : FrK) : Addr := He.dflAt ("guest_house", none) 0 K
def unitIP (K : FrK) : Addr := He.dflAt ("House", some "__init__") 1 K
def dG (x : PySem.Str) (i : Nat) (dfl : List He.Dv) : He.DefD := ⟨(x, none), x, x, defArgs (topS i), defBody (topS i), defScope (topS i), dfl, []⟩
def dM (m q : PySem.Str) (st : Stmt) (dfl : List He.Dv) : He.DefD := ⟨("House", some m), m, q, defArgs st, defBody st, defScope st, dfl, []⟩
def dHInit : He.DefD := dM "__init__" "House.__init__" sHInit [.non, .adr unitIP]
def dHLen : He.DefD := dM "__len__" "House.__len__" sHLen []
def fn0 : List He.DefD := [dG "is_integer" 10 [], dG "is_number" 11 [], dG "is_sequence" 12 [], dG "wrong_size" 19 [], dG "fits_sizes" 20 [], dG "wrong_standing" 21 [], dG "wrong_change" 22 [], dG "need_house" 24 [], dG "rising_lot" 26 [], dG "need_standings" 27 [], dG "need_question" 28 [], dG "is_window" 29 [], dG "need_view" 30 [], dG "cell_view" 31 [], dG "seen_at" 32 [], dG "need_rooms" 34 [], dG "placings_count" 35 [], dG "room_standings" 36 [], dG "guest_house" 37 [.adr unitP], dG "is_door" 41 []]
def fn1 : List He.DefD := [dG "hung_lots" 42 [], dG "are_doors" 43 [], dG "are_gates" 44 [], dG "need_party" 45 [], dG "two_ways" 46 [], dG "party_house" 47 [], dG "need_single" 48 [], dG "one_fault" 49 [], dG "count_one" 50 [], dG "marked_lot" 52 [], dG "spread_from" 53 [], dG "finished_order" 54 [], dG "loose_lots" 55 [], dG "lot_places" 56 [], dG "lots_ahead" 57 [], dG "strong_lots" 58 [.non], dG "row_of" 60 [], dG "need_asked" 61 [], dG "other_standings" 62 [], dG "shown_mask" 63 []]
def fn2 : List He.DefD := [dG "lot_mask" 64 [], dG "showing_lots" 65 [], dG "is_mimicked" 66 [], dG "told_in" 67 [], dG "is_answerable" 68 [], dG "_law_dealt" 70 [], dG "_law_any" 71 [], dG "_law_of" 72 [], dG "_law_doors" 73 [], dG "_law_led" 74 [], dG "_law_mimicked" 75 [], dG "_law_refused" 76 [], dG "_law_numbered" 77 [], dG "_law_refusals" 78 [], dG "law" 79 [], dHInit, dHLen]
def fnA : List He.DefD := fn0 ++ fn1 ++ fn2
def fa0 : List He.Fa := [.glo "is_integer", .glo "is_number", .glo "is_sequence", .glo "wrong_size", .glo "fits_sizes", .glo "wrong_standing", .glo "wrong_change", .glo "need_house", .glo "rising_lot", .glo "need_standings", .glo "need_question", .glo "is_window", .glo "need_view", .glo "cell_view", .glo "seen_at", .glo "need_rooms", .glo "placings_count", .glo "room_standings", .glo "guest_house", .glo "is_door", .glo "hung_lots", .glo "are_doors", .glo "are_gates", .glo "need_party", .glo "two_ways", .glo "party_house", .glo "need_single", .glo "one_fault", .glo "count_one", .glo "marked_lot"]
def fa1 : List He.Fa := [.glo "spread_from", .glo "finished_order", .glo "loose_lots", .glo "lot_places", .glo "lots_ahead", .glo "strong_lots", .glo "row_of", .glo "need_asked", .glo "other_standings", .glo "shown_mask", .glo "lot_mask", .glo "showing_lots", .glo "is_mimicked", .glo "told_in", .glo "is_answerable", .glo "_law_dealt", .glo "_law_any", .glo "_law_of", .glo "_law_doors", .glo "_law_led", .glo "_law_mimicked", .glo "_law_refused", .glo "_law_numbered", .glo "_law_refusals", .glo "law", .glo "House", .glo "HouseError", .glo "InvalidLot", .glo "InvalidHouse", .glo "InvalidQuestion"]
def fa2 : List He.Fa := [.glo "Refused", .glo "InvalidSize", .free "isinstance", .free "int", .free "bool", .free "list", .free "tuple", .free "len", .free "enumerate", .free "zip", .free "all", .free "any", .free "sum", .free "range", .free "sorted", .free "reversed", .free "min", .free "abs", .free "repr", .free "set", .free "super", .free "object", .free "type", .int "MOST_CELLS" 6, .int "MOST_CONTENTS" 36, .int "MOST_STANDINGS" 300, .int "MOST_ROOMS" 6, .int "MOST_GUESTS" 5, .cls "House", .keep "House"]
def fa3 : List He.Fa := [.mkr "House", .noat "House" "sizes", .noat "House" "standings", .noat "House" "changes", .noat "House" "ahead", .noat "House" "behind", .exm "InvalidHouse" "InvalidHouse" true, .exm "InvalidQuestion" "InvalidHouse" false, .exm "InvalidQuestion" "InvalidLot" false, .exm "InvalidQuestion" "InvalidQuestion" true, .exm "Refused" "InvalidHouse" false, .exm "Refused" "InvalidLot" false, .exm "Refused" "InvalidQuestion" false, .exm "Refused" "Refused" true, .exm "InvalidSize" "InvalidHouse" false, .exm "InvalidSize" "InvalidLot" false, .exm "InvalidSize" "InvalidQuestion" false, .exm "InvalidSize" "Refused" false, .exm "InvalidSize" "InvalidSize" true]
def faA : List He.Fa := fa0 ++ fa1 ++ fa2 ++ fa3
/-! ### the own errors -/
def excB (K : FrK) (C HE : Addr) : Bool := match K.lookup C with
  | some ⟨.type t, _, .cls cd, sl⟩ => decide (t = "type") && (decide (cd.mro = .ref C :: tailH HE) && (cd.hasDict && (!cd.hasDel && (match sl.toList with
    | [_, _, _, _, some (.builtin i), _] => decide (i = "Exception.__new__")
    | _ => false))))
  | _ => false
theorem excB_ok {K : FrK} {C HE : Addr} (h : excB K C HE = true) : ∃ nm q N bs sn sub ab col dd k0 k1 k2 k3 k5, K.lookup C = some (excClassObj nm q C N bs (tailH HE) true sn sub ab col dd k0 k1 k2 k3 k5 "Exception.__new__") := by
  unfold excB at h
  cases q : K.lookup C with
  | none =>
    rw [q] at h
    cases h
  | some o =>
    obtain ⟨oc, od, dt, osl⟩ := o
    rw [q] at h
    cases oc with
    | type t =>
      cases dt with
      | cls cd =>
        obtain ⟨h1, h2⟩ := He.ba (show (decide (t = "type") && (decide (cd.mro = .ref C :: tailH HE) && (cd.hasDict && (!cd.hasDel && (match osl.toList with
          | [_, _, _, _, some (.builtin i), _] => decide (i = "Exception.__new__")
          | _ => false))))) = true from h)
        obtain ⟨h3, h4⟩ := He.ba h2
        obtain ⟨h5, h6⟩ := He.ba h4
        obtain ⟨h7, h8⟩ := He.ba h6
        obtain ⟨n1, n2, n3, n4, n5, n6, n7, n8, n9, n10, n11⟩ := cd
        have h3 := of_decide_eq_true h3
        dsimp only at h3 h5 h7
        obtain ⟨sl⟩ := osl
        dsimp only at h8
        match sl, h8 with
        | [k0, k1, k2, k3, some (.builtin i), k5], h8 =>
          have e1 := of_decide_eq_true h1
          have e8 : i = "Exception.__new__" := of_decide_eq_true h8
          have e7 : n11 = false := by simpa using h7
          subst e1 e8 h3 h5 e7
          exact ⟨_, _, _, _, _, _, _, _, _, _, _, _, _, _, rfl⟩
      | _ => cases h
    | _ => cases dt <;> cases h
def cellB (K : FrK) (C cc : Addr) : Bool := match K.lookup cc with
  | some ⟨_, _, .cell (some (.ref C')), _⟩ => decide (C' = C)
  | _ => false
theorem cellB_ok {K : FrK} {C cc : Addr} (h : cellB K C cc = true) : ∃ cl cld csl, K.lookup cc = some ⟨cl, cld, .cell (some (.ref C)), csl⟩ := by
  unfold cellB at h
  cases q : K.lookup cc with
  | none =>
    rw [q] at h
    cases h
  | some o =>
    obtain ⟨cl, cld, dt, csl⟩ := o
    rw [q] at h
    cases dt with
    | cell v =>
      cases v with
      | none => cases h
      | some u =>
        cases u with
        | ref C' =>
          have e := of_decide_eq_true h
          exact ⟨cl, cld, csl, by rw [e]⟩
        | _ => cases h
    | _ => cases h
def cloB (K : FrK) (C : Addr) : List (PySem.Str × Addr) → Bool
  | [(_, cc)] => cellB K C cc
  | _ => false
def strB (file : PySem.Str) : Option Value → Bool
  | some (.str f _) => file == f
  | _ => false
theorem strB_ok {file : PySem.Str} {v : Option Value} (h : strB file v = true) : ∃ f t, v = some (.str f t) ∧ (file == f) = true := by
  cases v with
  | none => cases h
  | some u =>
    cases u with
    | str f t => exact ⟨f, t, rfl, h⟩
    | _ => cases h
def codB (K : FrK) (file : PySem.Str) (cda : Addr) : Bool := match K.lookup cda with
  | some ⟨_, _, .fields vs, _⟩ => strB file (vs[2]? : Option Value)
  | _ => false
theorem codB_ok {K : FrK} {file : PySem.Str} {cda : Addr} (h : codB K file cda = true) : ∃ ccl cdd vs ccs f t, K.lookup cda = some ⟨ccl, cdd, .fields vs, ccs⟩ ∧ (vs[2]? : Option Value) = some (.str f t) ∧ (file == f) = true := by
  unfold codB at h
  cases q : K.lookup cda with
  | none =>
    rw [q] at h
    cases h
  | some o =>
    obtain ⟨ccl, cdd, dt, ccs⟩ := o
    rw [q] at h
    cases dt with
    | fields vs =>
      obtain ⟨f, t, h1, h2⟩ := strB_ok h
      exact ⟨ccl, cdd, vs, ccs, f, t, rfl, h1, h2⟩
    | _ => cases h
def fileB (K : FrK) (file : PySem.Str) : Value → Bool
  | .ref cda => codB K file cda
  | _ => false
/-- what an own __init__ bears, but its text -/
def initB (K : FrK) (C fI : Addr) (q file : PySem.Str) (dvs : List V) : Bool := match K.lookup fI with
  | some ⟨_, _, .func fd, _⟩ => cloB K C fd.closure && (He.dflB K fd.defaults dvs && (PySem.W.codeIn K fd.code q && fileB K file fd.code))
  | _ => false
abbrev IniV : Type := Option (PySem.Str × PySem.Str × Arguments × FuncBody × Scope × Addr × List PySem.Str × Addr)
def iniO (K : FrK) (fI : Addr) : IniV := match K.lookup fI with
  | some ⟨_, _, .func fd, _⟩ => some (fd.name, fd.qualname, fd.params, fd.body, fd.scope, fd.globals, fd.closure.map (·.1), fd.builtins)
  | _ => none
def iniV (q : PySem.Str) (st : Stmt) : IniV := some ("__init__", q, defArgs st, .stmts (defBody st), defScope st, mainGlobals, ["__class__"], builtinsNs)
/-- what is told of an own error x, its __init__ -/
structure ErD where
  x : PySem.Str
  q : PySem.Str
  st : Stmt
  a : PySem.Str
  dvs : List V
def ErD.C (e : ErD) (K : FrK) : Addr := He.ga K e.x
def ErD.I (e : ErD) (K : FrK) : Addr := He.ma K (He.ga K e.x) "__init__"
def eqOV (a b : Option Value) : Bool := decide (a = b)
def ErD.ok (e : ErD) (K : FrK) : Bool := excB K (e.C K) (He.ga K "HouseError") && (He.eqO (PySem.W.findIn K (.ref (e.C K)) "__setattr__") (some (some (.builtin "object.__setattr__"))) && (He.eqO (PySem.W.findIn K (.ref (e.C K)) "__getattribute__") (some (some (.builtin "BaseException.__getattribute__"))) &&
  (He.eqO (PySem.W.findIn K (.ref (e.C K)) "__getattr__") (some none) && (He.eqO (PySem.W.findIn K (.ref (e.C K)) e.a) (some none) && (He.eqO (PySem.W.findIn K (.ref (e.C K)) "__init__") (some (some (.ref (e.I K)))) &&
  (eqOV (PySem.W.typeIn K (.ref (e.I K))) (some (.type "function")) && (PySem.W.keepIn K (.ref (e.C K)) && (decide (PySem.W.subIn K (.ref (e.C K)) (.type "BaseException") = some true) && (decide (PySem.W.subIn K (.ref (e.C K)) (.type "Exception") = some true) &&
  (eqOV (PySem.W.typeIn K (.ref (e.C K))) (some (.type "type")) && (PySem.W.hasDictIn K (e.C K) && (He.eqO (PySem.W.alongIn K "__init__" (tailH (He.ga K "HouseError"))) (some (some (.builtin "Exception.__init__"))) &&
  (He.eqO (PySem.W.nsIn K cStatics "thirdparty.any") (some none) && initB K (e.C K) (e.I K) e.q R.prog.main.file e.dvs)))))))))))))
def erInvalidHouse : ErD := ⟨"InvalidHouse", "InvalidHouse.__init__", inClass (topS 2) 0, "at", [.int (-1)]⟩
def erInvalidQuestion : ErD := ⟨"InvalidQuestion", "InvalidQuestion.__init__", inClass (topS 4) 0, "at", [.int (-1)]⟩
def erRefused : ErD := ⟨"Refused", "Refused.__init__", inClass (topS 7) 0, "at", []⟩
def erInvalidSize : ErD := ⟨"InvalidSize", "InvalidSize.__init__", inClass (topS 8) 0, "word", []⟩
def erA : List ErD := [erInvalidHouse, erInvalidQuestion, erRefused, erInvalidSize]
/-! ### the rest -/
def restB (K : FrK) : Bool := He.eqO (PySem.W.findIn K (.ref (He.ga K "House")) "__len__") (some (some (.ref (He.ma K (He.ga K "House") "__len__")))) && (eqOV (PySem.W.typeIn K (.ref (He.ma K (He.ga K "House") "__len__"))) (some (.type "function")) &&
  (He.eqO (PySem.W.findIn K (.ref (He.ga K "House")) "__class__") (some (some (.builtin "object.__class__"))) && (He.eqO (PySem.W.specialIn K (.builtin "object.__class__") "__get__") (some (some (.builtin "getset_descriptor.__get__"))) &&
  (decide (PySem.W.takesIn K (.builtin "object.__class__") = some true) && decide (PySem.W.mroIn K (He.ga K "House") (.type "object") = some true)))))
abbrev defR : He.Defn := ("_law_refusals", none)
def tabB (g : Addr → Option Obj) (K : FrK) : Bool := PySem.W.codeHdIn K (He.cT K defR).1 (He.cT K defR).2 && (match g (He.cT K defR).2 with
  | some o => He.emptyTab o
  | none => false)
/-! ### the hook -/
def refsAt (g : Addr → Option Obj) (a : Addr) : List Addr := match g a with
  | some o => He.refsD o
  | none => []
/-- a class's names' values -/
def refsNs (g : Addr → Option Obj) (a : Addr) : List Addr := match g a with
  | some ⟨_, _, .dict es _, _⟩ => es.toList.flatMap fun e => He.refV e.val
  | _ => []
def asZ1 (g : Addr → Option Obj) (l1 : List Addr) : List Addr := l1 ++ l1.flatMap (refsAt g)
def asZ2 (g : Addr → Option Obj) (l2 : List Addr) : List Addr := l2 ++ (l2.flatMap (refsNs g)).flatMap fun a => a :: refsAt g a
/-- what the module's names stand for, what these name, the methods of the classes and what these name; the statics of the interpreter -/
def asZ (g : Addr → Option Obj) : List Addr := mainGlobals :: cStatics :: asZ2 g (asZ1 g (refsAt g mainGlobals))
abbrev kZ (g : Addr → Option Obj) : FrK := He.frT g (asZ g)
abbrev AlZ : Type := He.AlD × (Bool × List IniV)
def obK (g : Addr → Option Obj) (K : FrK) : AlZ := (He.obsD faA fnA K, ((erA.all fun e => e.ok K) && (restB K && tabB g K), erA.map fun e => iniO K (e.I K)))
def valK : AlZ := (He.valD fnA, (true, erA.map fun e => iniV e.q e.st))
structure SaysZ (h : Heap) (K : FrK) : Prop where
  d : He.SaysD faA fnA K
  er : ∀ e ∈ erA, e.ok K = true
  rest : restB K = true
  hd : PySem.W.codeHdIn K (He.cT K defR).1 (He.cT K defR).2 = true
  out : K.lookup (He.cT K defR).2 = none
  empty : h.get? (He.cT K defR).2 = some bareT
  ini : erA.map (fun e => iniO K (e.I K)) = erA.map fun e => iniV e.q e.st
theorem saysZ_of {h : Heap} (e : obK h.get? (kZ h.get?) = valK) : SaysZ h (kZ h.get?) := by
  have e1 : He.obsD faA fnA (kZ h.get?) = He.valD fnA := congrArg (fun z : AlZ => z.1) e
  have e2 : ((erA.all fun e => e.ok (kZ h.get?)) && (restB (kZ h.get?) && tabB h.get? (kZ h.get?))) = true := congrArg (fun z : AlZ => z.2.1) e
  have e3 := congrArg (fun z : AlZ => z.2.2) e
  obtain ⟨h1, h2⟩ := He.ba e2
  obtain ⟨h3, h4⟩ := He.ba h2
  obtain ⟨h5, h6⟩ := He.ba h4
  cases q : h.get? (He.cT (kZ h.get?) defR).2 with
  | none =>
    rw [q] at h6
    cases h6
  | some o =>
    rw [q] at h6
    have h6 : He.emptyTab o = true := h6
    exact ⟨e1, fun e he => List.all_eq_true.mp h1 e he, h3, h5, He.frT_none q h6, by rw [q, He.emptyTab_eq h6], e3⟩
def hookZ : PySem.W.Hook where
  α := AlZ
  obs := fun s => obK s.heap.get? (kZ s.heap.get?)
  val := fun _ => valK
  says := fun _ h => ∃ K : FrK, K.In h ∧ SaysZ h K
  of := fun _ _ e => ⟨_, He.frT_in, saysZ_of e⟩
  keeps := fun _ _ _ ⟨K, hK, c⟩ k => ⟨K, PySem.W.Frag.In.keeps hK k, ⟨c.d, c.er, c.rest, c.hd, c.out, k _ _ c.empty, c.ini⟩⟩
end Kx
set_option maxHeartbeats 0
namespace Kx
open PySem PySem.W PySem.Calls PyProof.Rows
def names1 : List PySem.Str := ["HouseError", "InvalidHouse", "InvalidStanding", "InvalidQuestion", "InvalidView", "InvalidLot", "Refused", "InvalidSize", "is_integer", "is_number", "is_sequence", "MOST_CELLS", "MOST_CONTENTS", "MOST_STANDINGS", "all_standings", "standings_count", "wrong_size", "fits_sizes", "wrong_standing", "wrong_change", "House", "need_house", "need_number", "rising_lot", "need_standings", "need_question", "is_window", "need_view", "cell_view", "seen_at"]
def names2 : List PySem.Str := ["need_rooms", "placings_count", "room_standings", "guest_house", "MOST_ROOMS", "MOST_GUESTS", "is_door", "hung_lots", "are_doors", "are_gates", "need_party", "two_ways", "party_house", "need_single", "one_fault", "count_one", "marked_lot", "spread_from", "finished_order", "loose_lots", "lot_places", "lots_ahead", "strong_lots", "row_of", "need_asked", "other_standings", "shown_mask", "lot_mask", "showing_lots", "is_mimicked", "told_in", "is_answerable"]
def names3 : List PySem.Str := ["_law_dealt", "_law_any", "_law_of", "_law_doors", "_law_led", "_law_mimicked", "_law_refused", "_law_numbered", "_law_refusals"]
def names : List PySem.Str := names1 ++ names2 ++ names3
def ob (s : PySem.W.SharedT) : AlZ := obK (HandSHeadRun.getT s) (kZ (HandSHeadRun.getT s))
theorem ob_eq (s : PySem.W.SharedT) : ob s = hookZ.obs s.abs := by
  have e : HandSHeadRun.getT s = s.abs.heap.get? := funext (HandSHeadRun.getT_eq s)
  unfold ob
  rw [e]
  rfl
theorem run (w : World) : HandSHeadRun.RunEq R qv hookZ ob 8000 names w := by
  intro os
  kernel_rfl
end Kx
/-! Short words for the readings. -/
namespace Kx
open PySem PySem.Spec PyProof.Rows L2
open Evl (Ex ex_rd ex_l ex_t)
theorem Kd.ex {H H' : Hp} {x : V} {t : String} (h : Kd H x t) (e : Ex H H') : Kd H' x t := by
  cases h with
  | non => exact .non
  | bl b => exact .bl b
  | int i => exact .int i
  | str z => exact .str z
  | lst h => exact .lst (ex_rd e h)
  | tup h => exact .tup (ex_rd e h)
section
variable {H : Hp} {Q : VK} {E : XK} {a : Addr} {xs : List V}
theorem seq_lst (h : Rd H a (.lst xs)) (q : ∀ p o, H p = none → Q (.bl true) (upd H p o)) : spIsSequence [.ref a] H Q E := ⟨_, _, rfl, .lst h, q⟩
theorem seq_tup (h : Rd H a (.tup xs)) (q : ∀ p o, H p = none → Q (.bl true) (upd H p o)) : spIsSequence [.ref a] H Q E := ⟨_, _, rfl, .tup h, q⟩
theorem seq_non (q : ∀ p o, H p = none → Q (.bl false) (upd H p o)) : spIsSequence [.non] H Q E := ⟨_, _, rfl, .non, q⟩
theorem num_int {i : Int} (q : Q (.bl (decide (0 ≤ i))) H) : spIsNumber [.int i] H Q E := ⟨_, _, rfl, .int i, q⟩
theorem num_nat {i : Int} (h : 0 ≤ i) (q : Q (.bl true) H) : spIsNumber [.int i] H Q E := num_int (by rw [decide_eq_true h]; exact q)
theorem num_not {x : V} {t : String} (k : Kd H x t) (n : isN x = false) (q : Q (.bl false) H) : spIsNumber [x] H Q E := ⟨_, _, rfl, k, by rw [n]; exact q⟩
end
theorem if_t {c : Prop} [Decidable c] {A B : Prop} (hc : c) (h : A) : if c then A else B := by
  rw [if_pos hc]
  exact h
theorem if_f {c : Prop} [Decidable c] {A B : Prop} (hc : ¬ c) (h : B) : if c then A else B := by
  rw [if_neg hc]
  exact h
/-- lists, tuples of ints; of tuples of ints -/
abbrev Ls (H : Hp) (a : Addr) (ns : List Int) : Prop := Rd H a (.lst (ns.map V.int))
def LT (H : Hp) (a : Addr) (as : List Addr) (nss : List (List Int)) : Prop := Rd H a (.lst (as.map V.ref)) ∧ Tus H as nss
def TT' (H : Hp) (a : Addr) (as : List Addr) (nss : List (List Int)) : Prop := Rd H a (.tup (as.map V.ref)) ∧ Tus H as nss
theorem LT.ex {H H' : Hp} {a : Addr} {as : List Addr} {nss : List (List Int)} (h : LT H a as nss) (e : Ex H H') : LT H' a as nss := ⟨ex_rd e h.1, h.2.same e⟩
theorem TT'.ex {H H' : Hp} {a : Addr} {as : List Addr} {nss : List (List Int)} (h : TT' H a as nss) (e : Ex H H') : TT' H' a as nss := ⟨ex_rd e h.1, h.2.same e⟩
theorem rd_l {K : PySem.W.Frag} {H : Hp} {a : Addr} {xs : List V} (h : Rd H a (.lst xs)) : SqL K H a xs := .inl h
theorem rd_t {K : PySem.W.Frag} {H : Hp} {a : Addr} {xs : List V} (h : Rd H a (.tup xs)) : SqT K H a xs := .inl h
theorem get_map {α β : Type} {f : α → β} {xs : List α} {i : Nat} {y : β} (h : (xs.map f)[i]? = some y) : ∃ x, xs[i]? = some x ∧ y = f x := by
  rw [List.getElem?_map] at h
  cases e : xs[i]? with
  | none => rw [e] at h; cases h
  | some x => rw [e] at h; exact ⟨x, rfl, (Option.some.inj h).symm⟩
theorem paired_at {α β : Type} {F : α → β → Prop} : ∀ {xs : List α} {ys : List β}, Paired F xs ys → ∀ {i : Nat} {x : α}, xs[i]? = some x → ∃ y, ys[i]? = some y ∧ F x y
  | _, _, .nil, _, _, h => by simp at h
  | _, _, .cons h t, 0, _, e => by
    cases (Option.some.inj e)
    exact ⟨_, rfl, h⟩
  | _, _, .cons h t, i + 1, _, e => paired_at t (by simpa using e)
theorem pg_tupB {X : Cx} {s : Shared} {H : Hp} {scope : Scope} {cenv : Env} {fp : List Addr} {es : List Expr} {k : Nat} {pos : Pos} {t : TGs} {n : Nat} (hc : X.calm = true) (h : PGs (X.blk s H scope cenv fp) es t)
    (hn : (assignEach es cenv).length = n) (hst : (assignEach es cenv).findIdx? (·.1) = none) : PG (X.blk s H scope cenv fp) (.Tuple es k pos) (gTup X.K n t) := pg_tup hc h hn hst
/-- all but lists stay -/
def ExT (H H' : Hp) : Prop := ∀ b o, H b = some o → (∀ xs, o ≠ .lst xs) → H' b = some o
theorem ExT.of {H H' : Hp} (e : Ex H H') : ExT H H' := fun b o h _ => e b o h
theorem ExT.lst {H : Hp} {D : Addr} {xs ys : List V} (h : H D = some (.lst xs)) : ExT H (upd H D (.lst ys)) := fun b o e n => by
  rw [upd_ne (fun z => by rw [z, h] at e; exact n xs (Option.some.inj e).symm)]
  exact e
theorem Rd.exT {H H' : Hp} {a : Addr} {u : HO} (h : Rd H a u) (e : ExT H H') (n : ∀ xs, u ≠ .lst xs) : Rd H' a u := h.imp (fun h => e _ _ h n) fun ⟨o, h⟩ => ⟨o, e _ _ h fun _ z => nomatch z⟩
theorem Tu.exT {H H' : Hp} {a : Addr} {ns : List Int} (h : Tu H a ns) (e : ExT H H') : Tu H' a ns := Rd.exT h e fun _ z => nomatch z
theorem Tus.exT {H H' : Hp} {as : List Addr} {nss : List (List Int)} (h : Tus H as nss) (e : ExT H H') : Tus H' as nss := Paired.mapP h fun _ _ t => t.exT e
theorem range_yes {n : Nat} {f : Nat → Bool} (h : f n = true) : (List.range (n + 1)).filter f = (List.range n).filter f ++ [n] := by
  rw [List.range_succ, List.filter_append, List.filter_cons, if_pos h] <;> rfl
theorem range_no {n : Nat} {f : Nat → Bool} (h : f n = false) : (List.range (n + 1)).filter f = (List.range n).filter f := by
  rw [List.range_succ, List.filter_append, List.filter_cons, if_neg (by rw [h]; decide)]
  exact List.append_nil _
/-- a comprehension whose turns only add: f which give, R what they give -/
theorem lcR {J : It} {n : Nat} {G : Hp → Prop} {Y : Nat → Hp → V → Hp → Prop} (w : Walk J n G Y) {g : TG} {tt : TT} {te : TE} {vs : List Nat} {σ : L2.St} {H1 : Hp} {Qd : Addr → Hp → Prop} (f : Nat → Bool) (R : Nat → V → Hp → Prop)
    (hn : n ≤ 50000) (hG : ∀ H', Ex H1 H' → G H') (hR : ∀ i x H H', ExT H H' → R i x H → R i x H')
    (hs : ∀ i x H' H'' (Y0 : Hp → Prop) (Y1 : VK), i < n → Ex H1 H' → Y i H' x H'' → (∀ H3, f i = false → Ex H' H3 → Y0 H3) → (∀ v H3, f i = true → Ex H' H3 → R i v H3 → Y1 v H3) →
      g x (wipe σ vs) H'' fun σ2 H2 => wipe σ2 vs = wipe σ vs ∧ tt σ2 H2 fun b H3 => if b = true then te σ2 H3 Y1 else Y0 H3)
    (hd : ∀ D H' xs, H1 D = none → Ex H1 H' → H' D = some (.lst xs) → Paired (fun j x => R j x H') ((List.range n).filter f) xs → Qd D H') :
    ∀ D, H1 D = none → ∃ W : Nat → Nat → Hp → Prop, (∃ m, W 0 m (upd H1 D (.lst []))) ∧ ∀ i m H, W i m H →
      (J.stop i H ∧ Qd D H) ∨ (J.go i H ∧ ∃ Nx : Hp → Prop, (∀ H', Nx H' → ∃ m', m' < m ∧ W (i + 1) m' H') ∧ ∀ x H', J.yld i H x H' → g x (wipe σ vs) H' fun σ2 H2 => wipe σ2 vs = wipe σ vs ∧ tt σ2 H2 fun b H3 =>
        if b = true then te σ2 H3 fun y H4 => ∃ acc, H4 D = some (.lst acc) ∧ acc.length < sizeLine ∧ Nx (upd H4 D (.lst (acc ++ [y]))) else Nx H3) := fun D hD => by
  refine lc_it w (fun i H' => Ex H1 H' ∧ ∃ xs, H' D = some (.lst xs) ∧ Paired (fun j x => R j x H') ((List.range i).filter f) xs) ⟨Ex.new hD, [], upd_same, .nil⟩ (fun i H' _ p => hG H' p.1) (fun i x H' H'' hi p y => ?_) (fun H' p => ?_)
  · obtain ⟨pe, xs, pd, pp⟩ := p
    refine hs i x H' H'' _ _ hi pe y (fun H3 hf e => ?_) (fun v H3 hf e r => ?_)
    · refine ⟨pe.trans e, xs, e _ _ pd, ?_⟩
      rw [range_no hf]
      exact Paired.mapP pp fun _ _ z => hR _ _ _ _ (.of e) z
    · have pd3 := e _ _ pd
      have hl : xs.length ≤ i := by
        have h1 := Paired.length pp
        have h2 := List.length_filter_le f (List.range i)
        rw [List.length_range] at h2
        omega
      refine ⟨xs, pd3, Evl.sz_lt (by omega), (pe.trans e).mut hD, xs ++ [v], upd_same, ?_⟩
      rw [range_yes hf]
      exact paired_snoc (Paired.mapP pp fun _ _ z => hR _ _ _ _ (ExT.lst pd3) (hR _ _ _ _ (.of e) z)) (hR _ _ _ _ (ExT.lst pd3) r)
  · obtain ⟨pe, xs, pd, pp⟩ := p
    exact hd D H' xs hD pe pd pp
theorem bl_t {c : Prop} [Decidable c] (h : c) : V.bl (decide c) = V.bl true := by rw [decide_eq_true h]
theorem bl_f {c : Prop} [Decidable c] (h : ¬ c) : V.bl (decide c) = V.bl false := by rw [decide_eq_false h]
theorem range_all (n : Nat) : (List.range n).filter (fun _ => true) = List.range n := List.filter_eq_self.mpr fun _ _ => rfl
/-- what stands at all places, in order -/
theorem paired_range {xs : List V} {v : Nat → V} {n : Nat} (h : Paired (fun j x => x = v j) (List.range n) xs) : xs = (List.range n).map v := by
  generalize List.range n = l at h
  induction h with
  | nil => rfl
  | cons e _ ih => rw [List.map_cons, e, ih]
theorem paired_fn {β : Type} {xs : List β} {v : Nat → β} {l : List Nat} (h : Paired (fun j x => x = v j) l xs) : xs = l.map v := by
  induction h with
  | nil => rfl
  | cons e _ ih => rw [List.map_cons, e, ih]
theorem DTO.putP {P : Program} {w : World} {H : Hp} {a b : Addr} {kvs : List (List Int × V)} {bs : List Addr} {ns : List Int} {v : V} (g : DTO P w H a kvs bs) (hb : Tu H b ns) : DTO P w (upd H a (dtO P w a (kvs ++ [(ns, v)]) (bs ++ [b]))) a (kvs ++ [(ns, v)]) (bs ++ [b]) := by
  have tu : ∀ {c : Addr} {ms : List Int}, Tu H c ms → Tu (upd H a (dtO P w a (kvs ++ [(ns, v)]) (bs ++ [b]))) c ms := fun {c ms} t => by
    have ne : c ≠ a := by
      intro e
      subst e
      rcases t with t | ⟨o, t⟩
      · rw [g.at_] at t; exact nomatch t
      · rw [g.at_] at t; exact nomatch t
    exact t.imp (fun t => by rw [upd_ne ne]; exact t) fun ⟨o, t⟩ => ⟨o, by rw [upd_ne ne]; exact t⟩
  refine ⟨upd_same, ?_⟩
  rw [List.map_append]
  exact paired_snoc (Paired.mapP g.keys fun _ _ t => tu t) (tu hb)
/-! ### the rules with the written part named -/
def rTup (K : PySem.W.Frag) : List V → Hp → VK → Prop := fun xs H Q => ∃ p ys, xs = [.ref p] ∧ ((SqL K H p ys ∧ ∀ l, H l = none → Q (.ref l) (upd H l (.tup ys))) ∨ (SqT K H p ys ∧ Q (.ref p) H))
def rLst (K : PySem.W.Frag) : List V → Hp → VK → Prop := fun xs H Q => ∃ p ys, xs = [.ref p] ∧ (SqL K H p ys ∨ SqT K H p ys) ∧ ∀ l, H l = none → Q (.ref l) (upd H l (.lst ys))
def rLenQ (K : PySem.W.Frag) : List V → Hp → VK → Prop := fun xs H Q => ∃ p ys, xs = [.ref p] ∧ (SqL K H p ys ∨ SqT K H p ys) ∧ Q (.int ys.length) H
section
variable {X : Cx} {K : PySem.W.Frag} {tg e e2 : Expr} {f : PySem.Str} {ta : TA} {te : TE} {p pos tpos : Pos} {elts : List Expr} {kk : Nat}
theorem kLen (hK : X.K = K) : CallR X (.builtin "len") (rLenQ K) := by subst hK; exact call_len_seq
theorem kTup (hK : X.K = K) : CallR X (.type "tuple") (rTup K) := by subst hK; exact call_tuple_of
theorem kTupF (hK : X.K = K) : CallR X (.type "tuple") (rTupleF K) := by subst hK; exact call_tupleF
theorem kLst (hK : X.K = K) : CallR X (.type "list") (rLst K) := by subst hK; exact call_list_of
theorem kAll (hK : X.K = K) (hc : X.calm = true) : CallR X (.builtin "all") (rAll K) := by subst hK; exact cr_all hc
theorem kAny (hK : X.K = K) (hc : X.calm = true) : CallR X (.builtin "any") (rAny K) := by subst hK; exact cr_any hc
theorem kSum (hK : X.K = K) (hc : X.calm = true) : CallR X (.builtin "sum") (rSum K) := by subst hK; exact cr_sum hc
theorem kSumT (hK : X.K = K) (hc : X.calm = true) : CallR X (.builtin "sum") (rSumT K) := by subst hK; exact cr_sumT hc
theorem kMin (hK : X.K = K) (hc : X.calm = true) : CallR X (.builtin "min") (rMin K) := by subst hK; exact cr_min hc
theorem kSortTu (hK : X.K = K) (hu : X.A.units + 64 < cLine) : CallR X (.builtin "sorted") (rSortTu K) := by subst hK; exact cr_sortTu hu
theorem kSorted (hK : X.K = K) : CallR X (.builtin "sorted") (rSorted K) := by subst hK; exact cr_sorted
theorem kSet (hK : X.K = K) (hc : X.calm = true) : CallR X (.type "set") (rSetL K X.w) := by subst hK; exact cr_setL hc
theorem kIxL (hK : X.K = K) : IxR X (rIxL K) := by subst hK; exact ix_list
theorem kIxT (hK : X.K = K) : IxR X (rIxT K) := by subst hK; exact ix_tup
theorem kFld (hK : X.K = K) (he : PE X e te) (hb : attributeBase e f X.env (eval e X.env) = eval e X.env) : PE X (.Attribute e f pos) (tFld K te f) := by subst hK; exact pe_fld he hb
theorem kInTu (hK : X.K = K) (hu : X.A.units + 65 < cLine) : OpR X (compareOp .In) (rInTu K false) := by subst hK; exact op_inTu hu
theorem kNotInTu (hK : X.K = K) (hu : X.A.units + 65 < cLine) : OpR X (compareOp .NotIn) (rInTu K true) := by subst hK; exact op_notInTu hu
theorem kIn (hK : X.K = K) : OpR X (compareOp .In) (rIn K false) := by subst hK; exact op_in_seq
theorem kNotIn (hK : X.K = K) : OpR X (compareOp .NotIn) (rIn K true) := by subst hK; exact op_notIn_seq
theorem kEqD (hK : X.K = K) (hu : X.A.units + 64 < cLine) : OpR X (compareOp .Eq) (rEqD K) := by subst hK; exact op_eqD hu
theorem kNeD (hK : X.K = K) (hu : X.A.units + 64 < cLine) : OpR X (compareOp .NotEq) (rNeD K) := by subst hK; exact op_neD hu
theorem kCatF (hK : X.K = K) : OpR X (binaryOp .Add) (rCatF K) := by subst hK; exact op_catF
theorem kRepT (hK : X.K = K) : OpR X (binaryOp .Mult) (rRepT K) := by subst hK; exact op_repT
theorem kSlL (hK : X.K = K) : SlR X (rSlL K) := by subst hK; exact sl_list
theorem kSlT (hK : X.K = K) : SlR X (rSlA K) := by subst hK; exact sl_tupA
theorem kPiL (hK : X.K = K) (he : PE X e te) : PI X tg e (iList K te) := by subst hK; exact pi_list he
theorem kPiT (hK : X.K = K) (he : PE X e te) : PI X tg e (iTup K te) := by subst hK; exact pi_tup he
theorem kEnum (hK : X.K = K) (hg : Gl X "enumerate") (hm : X.mg "enumerate" = none) (ha : PA X [e] ta) (hs : starEach [e] X.env = [(false, eval e X.env)] := by rfl) : PI X (.Tuple elts kk tpos) (.Call (.Name "enumerate" p) [e] [] pos) (iEnumQ K ta) := by subst hK; exact pi_enumQ hg hm ha hs
theorem kZipA (hK : X.K = K) (hg : Gl X "zip") (hm : X.mg "zip" = none) (ha : PA X [e, e2] ta) (hs : starEach [e, e2] X.env = (false, eval e X.env) :: starEach [e2] X.env := by rfl) (hpl : (backTo pos (starEach [e2] X.env)).any (·.1) = false := by rfl) :
    PI X (.Tuple elts kk tpos) (.Call (.Name "zip" p) [e, e2] [] pos) (RZ.iZipA K ta) := by subst hK; exact RZ.pi_zipA hg hm ha hs hpl
theorem kZipM (hK : X.K = K) (hg : Gl X "zip") (hm : X.mg "zip" = none) (ha : PA X [e, e2] ta) (hs : starEach [e, e2] X.env = (false, eval e X.env) :: starEach [e2] X.env := by rfl) (hpl : (backTo pos (starEach [e2] X.env)).any (·.1) = false := by rfl) :
    PI X (.Tuple elts kk tpos) (.Call (.Name "zip" p) [e, e2] [] pos) (iZipM K ta) := by subst hK; exact pi_zipM hg hm ha hs hpl
theorem kRev (hK : X.K = K) (hg : Gl X "reversed") (hm : X.mg "reversed" = none) (ha : PA X [e] ta) (hs : starEach [e] X.env = [(false, eval e X.env)] := by rfl) : PI X tg (.Call (.Name "reversed" p) [e] [] pos) (iRev K ta) := by subst hK; exact pi_reversed hg hm ha hs
theorem kTgt {es : List Expr} {k : Nat} {t : TGs} {n : Nat} (hK : X.K = K) (hc : X.calm = true) (h : PGs X es t) (hn : (assignEach es X.env).length = n) (hst : (assignEach es X.env).findIdx? (·.1) = none) : PG X (.Tuple es k pos) (gTup K n t) := by subst hK; exact pg_tup hc h hn hst
theorem kBM0 {o : Expr} {to : TE} {name : PySem.Str} {apos cpos : Pos} {T id : String} {r : V → List V → Hp → VK → Prop} (hK : X.K = K) (pa : PlainAttrs T) (slot : Slot T name id) (hty : typeOf (.builtin id) = pure (.type "method_descriptor")) (hm : MtR X id r) (ho : PE X o to)
    (hbase : attributeBase o name X.env (eval o X.env) = eval o X.env := by rfl) (hline : (apos.endLine == cpos.line) = true := by rfl) : PE X (.Call (.Attribute o name apos) [] [] cpos) (tBM0 K T r to) := by subst hK; exact pe_bm0 pa slot hty hm ho hbase hline
theorem kBM {o : Expr} {es : List Expr} {to : TE} {t : TA} {name : PySem.Str} {apos cpos : Pos} {T id : String} {r : V → List V → Hp → VK → Prop} (hK : X.K = K) (pa : PlainAttrs T) (slot : Slot T name id) (hty : typeOf (.builtin id) = pure (.type "method_descriptor")) (hm : MtR X id r) (ho : PE X o to) (ha : PA X (e :: es) t)
    (hbase : attributeBase o name X.env (eval o X.env) = eval o X.env := by rfl)
    (hfew : ((backTo cpos (starEach (e :: es) X.env)).all (fun x => !x.1) && (backToKw cpos (keywordEach [] X.env)).all (fun x => x.1.isSome)
      && decide ((e :: es).length + ([] : List Keyword).length + (if ([] : List Keyword).isEmpty then 0 else 1) < 30)) = true := by rfl)
    (hline : (apos.endLine == cpos.line) = true := by rfl) (hs : starEach (e :: es) X.env = (false, eval e X.env) :: starEach es X.env := by rfl) (hplain : (backTo cpos (starEach es X.env)).any (·.1) = false := by rfl) :
    PE X (.Call (.Attribute o name apos) (e :: es) [] cpos) (tBM K T r to t) := by subst hK; exact pe_bm pa slot hty hm ho ha hbase hfew hline hs hplain
theorem kTix {o e : Expr} {to : TE} {t : TA} {apos cpos : Pos} (hK : X.K = K) (hu : X.A.units + 65 < cLine) (ho : PE X o to) (ha : PA X [e] t)
    (hbase : attributeBase o "index" X.env (eval o X.env) = eval o X.env := by rfl)
    (hfew : ((backTo cpos (starEach [e] X.env)).all (fun x => !x.1) && (backToKw cpos (keywordEach [] X.env)).all (fun x => x.1.isSome)
      && decide (([e] : List Expr).length + ([] : List Keyword).length + (if ([] : List Keyword).isEmpty then 0 else 1) < 30)) = true := by rfl)
    (hline : (apos.endLine == cpos.line) = true := by rfl) (hs : starEach [e] X.env = (false, eval e X.env) :: starEach [] X.env := by rfl) (hplain : (backTo cpos (starEach [] X.env)).any (·.1) = false := by rfl) :
    PE X (.Call (.Attribute o "index" apos) [e] [] cpos) (tTIx K to t) := by subst hK; exact pe_tindex hu ho ha hbase hfew hline hs hplain
theorem kDGetO {o i : Expr} {td ty : TE} {P : Program} {w : World} (hP : X.prog = P) (hw : X.w = w) (hu : X.A.units + 1 < cLine) (ho : PE X o td) (hi : PE X i ty) (hs : NoSl i) : PE X (.Subscript o i pos) (tDGetO P w td ty) := by subst hP hw; exact pe_dgetO hu ho hi hs
theorem kDInO {o i : Expr} {td ty : TE} {P : Program} {w : World} (hP : X.prog = P) (hw : X.w = w) (hu : X.A.units + 1 < cLine) (hi : PE X i ty) (ho : PE X o td) : PC X .In i o (tDInO P w ty td) := by subst hP hw; exact pc_dinO hu hi ho
theorem kDPutO {o i value : Expr} {td ty tv : TE} {pos' : Pos} {P : Program} {w : World} (hP : X.prog = P) (hw : X.w = w) (hu : X.A.units + 1 < cLine) (ho : PE X o td) (hi : PE X i ty) (hv : PE X value tv) (hs : swapsWith value (some (.Subscript o i pos')) pos.line X.env = pure false) :
    PS X (.Assign [.Subscript o i pos'] value pos) (sDPutO P w td ty tv) := by subst hP hw; exact ps_dputO hu ho hi hv hs
theorem kDNewO {P : Program} {w : World} (hP : X.prog = P) (hw : X.w = w) : PE X (.Dict [] [] pos) (tDNewO P w) := by subst hP hw; exact pe_dnewO
end
/-! ### steps by name (so that what stands within shows) -/
section
variable {K : PySem.W.Frag} {D : Ends} {σ : L2.St} {H : Hp} {Q : VK} {t u : TS} {ta tv : TE} {f : PySem.Str} {r : List V → Hp → VK → Prop} {i j : Nat} {a : TA}
theorem st_seq (h : t { D with nx := u D } σ H) : tSeq t u D σ H := h
theorem st_fld (h : tv σ H fun y H1 => ta σ H1 fun x H2 => ∃ a C dx fs, x = .ref a ∧ H2 a = some (.ins C dx fs) ∧ Cls K C ∧ NoAttr K C f ∧ fs.length < 1000 ∧ D.nx σ (upd H2 a (.ins C dx (putF f y fs)))) : sFld K ta tv f D σ H := h
theorem st_cb (h : ta σ H fun v H1 => r [v] H1 Q) : tCB r (tCons ta tNil) σ H Q := h
theorem st_asg (h : ta σ H fun v H1 => D.nx (σ.set i (some v)) H1) : tAsg ta (gName i) D σ H := h
theorem st_ret (h : ta σ H D.rt) : tRet ta D σ H := h
theorem st_par (h : ta σ H fun v H1 => tv σ H1 fun w H2 => D.nx ((σ.set i (some v)).set j (some w)) H2) : tPar i j (tCons ta (tCons tv tNil)) D σ H := by
  show ta σ H fun x H1 => tv σ H1 fun y H2 => ∃ v w, [x, y] = [v, w] ∧ D.nx ((σ.set i (some v)).set j (some w)) H2
  have e : (fun (x : V) H1 => tv σ H1 fun y H2 => ∃ v w, [x, y] = [v, w] ∧ D.nx ((σ.set i (some v)).set j (some w)) H2) = fun v H1 => tv σ H1 fun w H2 => D.nx ((σ.set i (some v)).set j (some w)) H2 := by
    funext x H1
    congr 1
    funext y H2
    exact propext ⟨fun ⟨v, w, e, q⟩ => by cases e; exact q, fun q => ⟨x, y, rfl, q⟩⟩
  rw [e]
  exact h
end
end Kx
namespace Kx
open PySem PySem.Spec PyProof.Rows L2
open Evl (Ex ex_rd ex_l ex_t st_of sq_of sz_lt sz_of)
section
variable {P : Program} {w : World} {K : PySem.W.Frag} {mg : PySem.Str → Option Value} {base : Heap} {A : Ads}
structure spWrongSize (vs : List V) (H : Hp) (Q : VK) (E : XK) : Prop where
  ex : ∃ (a : Addr) (ns : List Int), vs = [.ref a] ∧ Ls H a ns ∧ 1 ≤ ns.length ∧ ns.length ≤ 6 ∧ (∀ n ∈ ns, 1 ≤ n ∧ n ≤ 36) ∧ ∀ H', Ex H H' → Q .non H'
theorem sc19 : FnScope ["sizes", "at", "size"] ["sizes"] (defScope (topS 19)) := ⟨rfl, rfl, rfl, by decide +kernel, rfl, by decide +kernel, by decide +kernel⟩
/- slots: 0 sizes, 1 at, 2 size -/
theorem ok_wrong_size (T : Txt P K mg A) : DOk P w K mg base CX0 3 "wrong_size" ["sizes"] [] spWrongSize := by
  have D_is_sequence := (ok_is_sequence (P := P) (w := w) (base := base) T).mono (by decide : 1 ≤ 2)
  have D_is_number := (ok_is_number (P := P) (w := w) (base := base) T)
  refine T.wrong_size.ok0 sc19 (fun vs H Q E h => ?_) (fun _ _ _ _ _ _ us hl => match us, hl with | [_], _ => rfl) (fun f cdv A' outer s H vs Q E hr h => ?_)
  · obtain ⟨a, ns, rfl, _⟩ := h
    rfl
  · obtain ⟨a, ns, rfl, hs, h1, h6, hn, q⟩ := h
    obtain ⟨t1, e_MOST_CELLS⟩ := T.MOST_CELLS
    obtain ⟨t2, e_MOST_CONTENTS⟩ := T.MOST_CONTENTS
    refine ⟨_, (pss_cons (ps_if (PW.pt (pw_or (pt_not (pt_val (pe_d D_is_sequence hr (by rfl) pass0 (pa_cons (pv 0) pa_nil)))) (pw_or1 (pt_not (pt_chain op_le op_le pe_int (pe_callB (id := "len") (kLen (K := K) rfl) (by rfl) (T.b "len") (by decide +kernel) (pa_cons (pv 0) pa_nil)) (pe_glob (v := .int 6) (by rfl) e_MOST_CELLS ⟨_, rfl⟩)))))) (pss_one (ps_ret (pe_un un_neg pe_int))) pss_nil)
      (pss_cons (ps_for PassesOwn.never rfl (kEnum (K := K) rfl (by rfl) (T.b "enumerate") (pa_cons (pv 0) pa_nil)) (kTgt (K := K) (n := 2) rfl rfl (pgs_cons (pg_name (i := 1) sc19.nd rfl (Or.inl rfl)) (pgs_cons (pg_name (i := 2) sc19.nd rfl (Or.inl rfl)) pgs_nil)) rfl rfl) (pss_one (ps_if (PW.pt (pw_or (pt_not (pt_val (pe_d D_is_number hr (by rfl) pass0 (pa_cons (pv 2) pa_nil)))) (pw_or1 (pt_not (pt_chain op_le op_le pe_int (pv 2) (pe_glob (v := .int 36) (by rfl) e_MOST_CONTENTS ⟨_, rfl⟩)))))) (pss_one (ps_ret (pv 1))) pss_nil)))
      (pss_one (ps_ret pe_non)))), ?_⟩
    refine ⟨_, rfl, seq_lst hs fun p o hp => ⟨_, rfl, ?_⟩⟩
    have e0 : Ex H (upd H p o) := Ex.new hp
    refine ⟨_, rfl, a, ns.map V.int, rfl, .inl (rd_l (ex_rd e0 hs)), ⟨1, _, rfl, rfl, true, by simp; omega, _, _, rfl, rfl, true, by simp; omega, ?_⟩⟩
    refine ⟨_, rfl, a, ns.map V.int, rfl, .inl ⟨rd_l (ex_rd e0 hs), ?_⟩⟩
    refine for_it walk_enum (fun i σ' H' => σ'[0]? = some (some (.ref a)) ∧ σ'.length = 3 ∧ Ex H H') ⟨rfl, rfl, e0⟩ (fun i σ' H' _ p => rd_l (ex_rd p.2.2 hs)) (fun i x σ' H1 H2 hi p y => ?_) (fun σ' H' p => q _ p.2.2)
    obtain ⟨p0, pl, pe⟩ := p
    obtain ⟨Tp, x1, x2, rfl, hT, rfl, y1, y2⟩ := y
    cases (Option.some.inj y1)
    obtain ⟨n, en, rfl⟩ := get_map y2
    have hn' := hn n (List.mem_of_getElem? en)
    refine ⟨Tp, _, rfl, st_of upd_same, rfl, _, _, rfl, _, _, rfl, rfl, ?_⟩
    have g2 : ((σ'.set 1 (some (V.int (i : Nat)))).set 2 (some (V.int n)))[2]? = some (some (V.int n)) := by simp [pl]
    have g0 : ((σ'.set 1 (some (V.int (i : Nat)))).set 2 (some (V.int n)))[0]? = some (some (V.ref a)) := by simp [p0]
    exact ⟨_, g2, num_nat (by omega) ⟨_, rfl, _, g2, 1, n, rfl, rfl, true, by simp; omega, _, _, rfl, rfl, true, by simp; omega, by simp [p0], by simp [pl], pe.trans (Ex.new hT)⟩⟩
structure spFitsSizes (vs : List V) (H : Hp) (Q : VK) (E : XK) : Prop where
  ex : ∃ (a b : Addr) (ns ms : List Int), vs = [.ref a, .ref b] ∧ Ls H a ns ∧ Tu H b ms ∧ ms.length = ns.length ∧ ns.length ≤ 100 ∧ (∀ (i : Nat) (m n : Int), ms[i]? = some m → ns[i]? = some n → 0 ≤ m ∧ m < n) ∧ ∀ H', Ex H H' → Q (.bl true) H'
theorem sc20 : FnScope ["sizes", "value", "content", "size"] ["sizes", "value"] (defScope (topS 20)) := ⟨rfl, rfl, rfl, by decide +kernel, rfl, by decide +kernel, by decide +kernel⟩
/- slots: 0 sizes, 1 value, 2 content, 3 size -/
theorem all_yes (n : Nat) : (List.replicate n true).all id = true := by simp
theorem rep_snoc {α : Type} (n : Nat) (x : α) : List.replicate n x ++ [x] = List.replicate (n + 1) x := by rw [List.replicate_succ']
theorem ok_fits_sizes (T : Txt P K mg A) : DOk P w K mg base CX0 3 "fits_sizes" ["sizes", "value"] [] spFitsSizes := by
  have D_is_sequence := (ok_is_sequence (P := P) (w := w) (base := base) T).mono (by decide : 1 ≤ 2)
  have D_is_number := (ok_is_number (P := P) (w := w) (base := base) T)
  refine T.fits_sizes.ok0 sc20 (fun vs H Q E h => ?_) (fun _ _ _ _ _ _ us hl => match us, hl with | [_, _], _ => rfl) (fun f cdv A' outer s H vs Q E hr h => ?_)
  · obtain ⟨a, b, ns, ms, rfl, _⟩ := h
    rfl
  · obtain ⟨a, b, ns, ms, rfl, hs, hm, hl, hz, hn, q⟩ := h
    refine ⟨_, (pss_cons (ps_if (PW.pt (pw_or (pt_not (pt_val (pe_d D_is_sequence hr (by rfl) pass0 (pa_cons (pv 1) pa_nil)))) (pw_or1 (pt_cmpR op_ne (pe_callB (id := "len") (kLen (K := K) rfl) (by rfl) (T.b "len") (by decide +kernel) (pa_cons (pv 1) pa_nil)) (pe_callB (id := "len") (kLen (K := K) rfl) (by rfl) (T.b "len") (by decide +kernel) (pa_cons (pv 0) pa_nil)) (nomark _))))) (pss_one (ps_ret pe_bl)) pss_nil)
      (pss_one (ps_ret (pe_callB (id := "all") (kAll (K := K) rfl rfl) (by rfl) (T.b "all") (by decide +kernel) (pa_cons (pe_lc rfl sc20.nd (kZipM (K := K) rfl (by rfl) (T.b "zip") (pa_cons (pv 1) (pa_cons (pv 0) pa_nil))) (blkOk_by (own := [("content", 2), ("size", 3)]) (by rfl)) (fun _ _ _ _ _ => (kTgt (K := K) (n := 2) rfl rfl (pgs_cons (pg_name (i := 2) sc20.nd rfl (Or.inl rfl) (Or.inr rfl)) (pgs_cons (pg_name (i := 3) sc20.nd rfl (Or.inl rfl) (Or.inr rfl)) pgs_nil)) rfl rfl)) (fun _ _ _ _ _ => pts_nil) (fun _ _ _ _ _ => (pe_and (pe_d D_is_number hr (by rfl) pass0 (pa_cons (pv 2) pa_nil)) (pe_one (pe_cmpR op_lt (pv 2) (pv 3) (nomark _)))))) pa_nil))))), ?_⟩
    refine ⟨_, rfl, seq_tup hm fun p o hp => ⟨_, rfl, ?_⟩⟩
    have e0 : Ex H (upd H p o) := Ex.new hp
    refine ⟨_, rfl, b, _, rfl, .inr (rd_t (ex_rd e0 hm)), _, rfl, a, _, rfl, .inl (rd_l (ex_rd e0 hs)), ?_⟩
    refine ⟨rfl, false, by simp [hl], ?_⟩
    refine ⟨_, rfl, _, rfl, b, a, _, _, rfl, rd_t (ex_rd e0 hm), rd_l (ex_rd e0 hs), fun D hD => ?_⟩
    refine lc_it (walk_zipM (by simp [hl])) (fun i H' => Ex H H' ∧ H' D = some (.lst ((List.replicate i true).map V.bl))) ⟨e0.trans (Ex.new hD), upd_same⟩ (fun i H' _ p => ⟨rd_t (ex_rd p.1 hm), rd_l (ex_rd p.1 hs)⟩) (fun i x H1 H2 hi p y => ?_) (fun H' p => ⟨D, _, rfl, rd_l (.inl p.2), by rw [all_yes]; exact q _ p.1⟩)
    obtain ⟨pe, pd⟩ := p
    obtain ⟨Tp, x1, x2, rfl, hT, rfl, y1, y2⟩ := y
    obtain ⟨m, em, rfl⟩ := get_map y1
    obtain ⟨n, en, rfl⟩ := get_map y2
    obtain ⟨h0, hlt⟩ := hn i m n em en
    have nD : D ≠ Tp := ne_of_none pd hT
    refine ⟨Tp, _, rfl, st_of upd_same, rfl, _, _, rfl, _, _, rfl, rfl, rfl, ?_⟩
    refine ⟨_, rfl, num_nat h0 ⟨_, rfl, _, rfl, _, rfl, _, _, rfl, rfl, List.map V.bl (List.replicate i true), ?_, ?_, ?_, ?_⟩⟩
    · rw [upd_ne nD]
      exact pd
    · rw [List.length_map, List.length_replicate]
      rw [List.length_map, hl] at hi
      exact sz_lt (by omega)
    · exact (pe.trans (Ex.new hT)).mut (Evl.fresh_back e0 hD)
    · rw [upd_same, ← rep_snoc i true, List.map_append]
      show some (HO.lst (_ ++ [V.bl (decide (m < n))])) = _
      rw [decide_eq_true hlt]
      rfl
theorem valV_none {kvs : List (List Int × V)} {ns : List Int} (h : ns ∉ kvs.map (·.1)) : valV kvs ns = none := by
  have e := valV_any ns kvs
  cases q : valV kvs ns with
  | none => rfl
  | some v =>
    rw [q] at e
    obtain ⟨p, hp, hk⟩ := List.any_eq_true.mp e
    exact absurd (List.mem_map.mpr ⟨p, hp, of_decide_eq_true hk⟩) h
theorem take_next {α : Type} {l : List α} {i : Nat} {x : α} (h : l[i]? = some x) : l.take (i + 1) = l.take i ++ [x] := by rw [List.take_add_one, h]; rfl
theorem not_earlier {α : Type} {l : List α} (hn : l.Nodup) {i : Nat} {x : α} (h : l[i]? = some x) : x ∉ l.take i := fun hm => by
  obtain ⟨j, hj, e⟩ := List.mem_iff_getElem.mp hm
  rw [List.getElem_take] at e
  rw [List.length_take] at hj
  obtain ⟨hi, e2⟩ := List.getElem?_eq_some_iff.mp h
  have : j = i := (List.getElem_inj hn).mp (e.trans e2.symm)
  omega
structure spWrongStanding (vs : List V) (H : Hp) (Q : VK) (E : XK) : Prop where
  ex : ∃ (a b : Addr) (ns : List Int) (as : List Addr) (nss : List (List Int)), vs = [.ref a, .ref b] ∧ Ls H a ns ∧ LT H b as nss ∧ nss ≠ [] ∧ nss.Nodup ∧ nss.length ≤ 10000 ∧ ns.length ≤ 100 ∧
    (∀ ms ∈ nss, ms.length = ns.length ∧ ∀ (i : Nat) (m n : Int), ms[i]? = some m → ns[i]? = some n → 0 ≤ m ∧ m < n) ∧ ∀ H', Ex H H' → Q .non H'
theorem sc21 : FnScope ["sizes", "standings", "met", "at", "standing"] ["sizes", "standings"] (defScope (topS 21)) := ⟨rfl, rfl, rfl, by decide +kernel, rfl, by decide +kernel, by decide +kernel⟩
/- slots: 0 sizes, 1 standings, 2 met, 3 at, 4 standing -/
theorem ok_wrong_standing (T : Txt P K mg A) : DOk P w K mg base CX0 4 "wrong_standing" ["sizes", "standings"] [] spWrongStanding := by
  have D_is_sequence := (ok_is_sequence (P := P) (w := w) (base := base) T).mono (by decide : 1 ≤ 3)
  have D_fits_sizes := (ok_fits_sizes (P := P) (w := w) (base := base) T)
  refine T.wrong_standing.ok0 sc21 (fun vs H Q E h => ?_) (fun _ _ _ _ _ _ us hl => match us, hl with | [_, _], _ => rfl) (fun f cdv A' outer s H vs Q E hr h => ?_)
  · obtain ⟨a, b, ns, as, nss, rfl, _⟩ := h
    rfl
  · obtain ⟨a, b, ns, as, nss, rfl, hs, ⟨hb, ht⟩, hne, hnd, hz, hz2, hn, q⟩ := h
    have hu := hu_of hr
    have hlen : as.length = nss.length := Paired.length ht
    refine ⟨_, (pss_cons (ps_if (PW.pt (pw_or (pt_not (pt_val (pe_d D_is_sequence hr (by rfl) pass0 (pa_cons (pv 1) pa_nil)))) (pw_or1 (pt_cmpR op_eq (pe_callB (id := "len") (kLen (K := K) rfl) (by rfl) (T.b "len") (by decide +kernel) (pa_cons (pv 1) pa_nil)) pe_int (nomark _))))) (pss_one (ps_ret (pe_un un_neg pe_int))) pss_nil)
      (pss_cons (ps_set (i := 2) sc21.nd rfl (Or.inl rfl) (kDNewO (P := P) (w := w) rfl rfl))
      (pss_cons (ps_for PassesOwn.never rfl (kEnum (K := K) rfl (by rfl) (T.b "enumerate") (pa_cons (pv 1) pa_nil)) (kTgt (K := K) (n := 2) rfl rfl (pgs_cons (pg_name (i := 3) sc21.nd rfl (Or.inl rfl)) (pgs_cons (pg_name (i := 4) sc21.nd rfl (Or.inl rfl)) pgs_nil)) rfl rfl) (pss_cons (ps_if (PW.pt (pw_or (pt_not (pt_val (pe_d D_fits_sizes hr (by rfl) pass0 (pa_cons (pv 0) (pa_cons (pv 4) pa_nil))))) (pw_or1 (pt_cmp (kDInO (P := P) (w := w) rfl rfl hu (pe_callTy (T := "tuple") (kTup (K := K) rfl) (by rfl) (T.b "tuple") (by decide +kernel) (pa_cons (pv 4) pa_nil)) (pv 2)))))) (pss_one (ps_ret (pv 3))) pss_nil)
      (pss_one (kDPutO (P := P) (w := w) rfl rfl hu (pv 2) (pe_callTy (T := "tuple") (kTup (K := K) rfl) (by rfl) (T.b "tuple") (by decide +kernel) (pa_cons (pv 4) pa_nil)) (pv 3) (by rfl)))))
      (pss_one (ps_ret pe_non))))), ?_⟩
    refine ⟨_, rfl, seq_lst hb fun p o hp => ⟨_, rfl, ?_⟩⟩
    have e0 : Ex H (upd H p o) := Ex.new hp
    refine ⟨_, rfl, b, _, rfl, .inl (rd_l (ex_rd e0 hb)), ⟨rfl, false, ?_, ?_⟩⟩
    · have : nss.length ≠ 0 := fun z => hne (List.length_eq_zero_iff.mp z)
      simp
      intro z
      rw [z] at hlen
      exact this hlen.symm
    refine fun d hd => ?_
    have hdH := Evl.fresh_back e0 hd
    refine ⟨_, rfl, b, _, rfl, .inl ⟨rd_l (ex_rd (e0.trans (Ex.new hd)) hb), ?_⟩⟩
    refine for_it walk_enum (fun i σ' H' => σ'[0]? = some (some (.ref a)) ∧ σ'[1]? = some (some (.ref b)) ∧ σ'[2]? = some (some (.ref d)) ∧ σ'.length = 5 ∧ Ex H H' ∧ ∃ kvs bs, DTO P w H' d kvs bs ∧ kvs.map (·.1) = nss.take i)
      ⟨rfl, rfl, rfl, rfl, e0.trans (Ex.new hd), [], [], ⟨upd_same, .nil⟩, rfl⟩ (fun i σ' H' _ p => rd_l (ex_rd p.2.2.2.2.1 hb)) (fun i x σ' H1 H2 hi p y => ?_) (fun σ' H' p => q _ p.2.2.2.2.1)
    obtain ⟨p0, p1, p2, pl, pe, kvs, bs, dt, dk⟩ := p
    obtain ⟨Tp, x1, x2, rfl, hT, rfl, y1, y2⟩ := y
    cases (Option.some.inj y1)
    obtain ⟨st, es, rfl⟩ := get_map y2
    obtain ⟨ms, ems, hm⟩ := paired_at ht es
    obtain ⟨hml, hmv⟩ := hn ms (List.mem_of_getElem? ems)
    refine ⟨Tp, _, rfl, st_of upd_same, rfl, _, _, rfl, _, _, rfl, rfl, ?_⟩
    have e1 : Ex H1 (upd H1 Tp (.tup [.int (i : Nat), .ref st])) := Ex.new hT
    have e2 := pe.trans e1
    have g0 : ((σ'.set 3 (some (V.int (i : Nat)))).set 4 (some (V.ref st)))[0]? = some (some (.ref a)) := by simp [p0]
    have g1 : ((σ'.set 3 (some (V.int (i : Nat)))).set 4 (some (V.ref st)))[1]? = some (some (.ref b)) := by simp [p1]
    have g2 : ((σ'.set 3 (some (V.int (i : Nat)))).set 4 (some (V.ref st)))[2]? = some (some (.ref d)) := by simp [p2]
    have g3 : ((σ'.set 3 (some (V.int (i : Nat)))).set 4 (some (V.ref st)))[3]? = some (some (.int (i : Nat))) := by simp [pl]
    have g4 : ((σ'.set 3 (some (V.int (i : Nat)))).set 4 (some (V.ref st)))[4]? = some (some (.ref st)) := by simp [pl]
    have hnew : valV kvs ms = none := valV_none (by rw [dk]; exact not_earlier hnd ems)
    refine ⟨_, g0, _, g4, ⟨a, st, ns, ms, rfl, ex_rd e2 hs, hm.same e2, hml, hz2, hmv, fun H3 e3 => ⟨_, rfl, ?_⟩⟩⟩
    have e4 := e2.trans e3
    refine ⟨_, g4, st, _, rfl, .inr ⟨rd_t (hm.same e4), ?_⟩⟩
    refine ⟨_, g2, d, st, kvs, bs, ms, rfl, rfl, dt.same (e1.trans e3), hm.same e4, ⟨false, by rw [hnew]; rfl, ?_⟩⟩
    refine ⟨_, g3, _, g2, _, g4, st, _, rfl, .inr ⟨rd_t (hm.same e4), ?_⟩⟩
    have dt3 := dt.same (e1.trans e3)
    refine ⟨d, st, kvs, bs, ms, rfl, rfl, dt3, hm.same e4, hnew, ?_, by simp [p0], by simp [p1], by simp [p2], by simp [pl], e4.mut hdH, _, _, DTO.putP dt3 (hm.same e4), ?_⟩
    · have h1 := congrArg List.length dk
      rw [List.length_map, List.length_take] at h1
      exact sz_lt (by omega)
    · rw [List.map_append, dk, take_next ems]
      rfl
end
end Kx
namespace Kx
open PySem PySem.Spec PyProof.Rows L2
open Evl (Ex ex_rd ex_l ex_t st_of sq_of sz_lt sz_of)
section
variable {P : Program} {w : World} {K : PySem.W.Frag} {mg : PySem.Str → Option Value} {base : Heap} {A : Ads}
structure spWrongChange (vs : List V) (H : Hp) (Q : VK) (E : XK) : Prop where
  ex : ∃ (c : Int) (b : Addr) (as : List Addr) (nss : List (List Int)), vs = [.int c, .ref b] ∧ LT H b as nss ∧ nss.Nodup ∧ nss.length ≤ 10000 ∧ (∀ ms ∈ nss, ∃ x y : Int, ms = [x, y] ∧ 0 ≤ x ∧ x < c ∧ 0 ≤ y ∧ y < c ∧ x ≠ y) ∧ ∀ H', Ex H H' → Q .non H'
theorem sc22 : FnScope ["count", "changes", "met", "at", "pair", "one"] ["count", "changes"] (defScope (topS 22)) := ⟨rfl, rfl, rfl, by decide +kernel, rfl, by decide +kernel, by decide +kernel⟩
/- slots: 0 count, 1 changes, 2 met, 3 at, 4 pair, 5 one -/
theorem ok_wrong_change (T : Txt P K mg A) : DOk P w K mg base CX0 4 "wrong_change" ["count", "changes"] [] spWrongChange := by
  have D_is_sequence := (ok_is_sequence (P := P) (w := w) (base := base) T).mono (by decide : 1 ≤ 3)
  have D_is_number := (ok_is_number (P := P) (w := w) (base := base) T).mono (by decide : 2 ≤ 3)
  refine T.wrong_change.ok0 sc22 (fun vs H Q E h => ?_) (fun _ _ _ _ _ _ us hl => match us, hl with | [_, _], _ => rfl) (fun f cdv A' outer s H vs Q E hr h => ?_)
  · obtain ⟨a, b, ns, as, rfl, _⟩ := h
    rfl
  · obtain ⟨c, b, as, nss, rfl, ⟨hb, ht⟩, hnd, hz, hn, q⟩ := h
    have hu := hu_of hr
    have hlen : as.length = nss.length := Paired.length ht
    refine ⟨_, (pss_cons (ps_if (pt_not (pt_val (pe_d D_is_sequence hr (by rfl) pass0 (pa_cons (pv 1) pa_nil)))) (pss_one (ps_ret (pe_un un_neg pe_int))) pss_nil)
      (pss_cons (ps_set (i := 2) sc22.nd rfl (Or.inl rfl) (kDNewO (P := P) (w := w) rfl rfl))
      (pss_cons (ps_for PassesOwn.never rfl (kEnum (K := K) rfl (by rfl) (T.b "enumerate") (pa_cons (pv 1) pa_nil)) (kTgt (K := K) (n := 2) rfl rfl (pgs_cons (pg_name (i := 3) sc22.nd rfl (Or.inl rfl)) (pgs_cons (pg_name (i := 4) sc22.nd rfl (Or.inl rfl)) pgs_nil)) rfl rfl) (pss_cons (ps_if (PW.pt (pw_or (pt_not (pt_val (pe_d D_is_sequence hr (by rfl) pass0 (pa_cons (pv 4) pa_nil)))) (pw_or (pt_cmpR op_ne (pe_callB (id := "len") (kLen (K := K) rfl) (by rfl) (T.b "len") (by decide +kernel) (pa_cons (pv 4) pa_nil)) pe_int (nomark _)) (pw_or1 (pt_not (pt_val (pe_callB (id := "all") (kAll (K := K) rfl rfl) (by rfl) (T.b "all") (by decide +kernel) (pa_cons (pe_lc rfl sc22.nd (kPiT (K := K) rfl (pv 4)) (blkOk_by (own := [("one", 5)]) (by rfl)) (fun _ _ _ _ _ => (pg_name (i := 5) sc22.nd rfl (Or.inl rfl) (Or.inr rfl))) (fun _ _ _ _ _ => pts_nil) (fun _ _ _ _ _ => (pe_and (pe_d D_is_number hr (by rfl) pass0 (pa_cons (pv 5) pa_nil)) (pe_one (pe_cmpR op_lt (pv 5) (pv 0) (nomark _)))))) pa_nil)))))))) (pss_one (ps_ret (pv 3))) pss_nil)
      (pss_cons (ps_if (PW.pt (pw_or (pt_cmpR op_eq (pe_ix (kIxT (K := K) rfl) (pv 4) pe_int (fun _ _ => rfl)) (pe_ix (kIxT (K := K) rfl) (pv 4) pe_int (fun _ _ => rfl)) (nomark _)) (pw_or1 (pt_cmp (kDInO (P := P) (w := w) rfl rfl hu (pe_callTy (T := "tuple") (kTup (K := K) rfl) (by rfl) (T.b "tuple") (by decide +kernel) (pa_cons (pv 4) pa_nil)) (pv 2)))))) (pss_one (ps_ret (pv 3))) pss_nil)
      (pss_one (kDPutO (P := P) (w := w) rfl rfl hu (pv 2) (pe_callTy (T := "tuple") (kTup (K := K) rfl) (by rfl) (T.b "tuple") (by decide +kernel) (pa_cons (pv 4) pa_nil)) (pv 3) (by rfl))))))
      (pss_one (ps_ret pe_non))))), ?_⟩
    refine ⟨_, rfl, seq_lst hb fun p o hp => ⟨_, rfl, ?_⟩⟩
    have e0 : Ex H (upd H p o) := Ex.new hp
    refine fun d hd => ?_
    have hdH := Evl.fresh_back e0 hd
    refine ⟨_, rfl, b, _, rfl, .inl ⟨rd_l (ex_rd (e0.trans (Ex.new hd)) hb), ?_⟩⟩
    refine for_it walk_enum (fun i σ' H' => σ'[0]? = some (some (.int c)) ∧ σ'[1]? = some (some (.ref b)) ∧ σ'[2]? = some (some (.ref d)) ∧ σ'.length = 6 ∧ Ex H H' ∧ ∃ kvs bs, DTO P w H' d kvs bs ∧ kvs.map (·.1) = nss.take i)
      ⟨rfl, rfl, rfl, rfl, e0.trans (Ex.new hd), [], [], ⟨upd_same, .nil⟩, rfl⟩ (fun i σ' H' _ p => rd_l (ex_rd p.2.2.2.2.1 hb)) (fun i x σ' H1 H2 hi p y => ?_) (fun σ' H' p => q _ p.2.2.2.2.1)
    obtain ⟨p0, p1, p2, pl, pe, kvs, bs, dt, dk⟩ := p
    obtain ⟨Tp, x1, x2, rfl, hT, rfl, y1, y2⟩ := y
    cases (Option.some.inj y1)
    obtain ⟨st, es, rfl⟩ := get_map y2
    obtain ⟨ms, ems, hm⟩ := paired_at ht es
    obtain ⟨x, y, exy, hx0, hxc, hy0, hyc, hxy⟩ := hn ms (List.mem_of_getElem? ems)
    refine ⟨Tp, _, rfl, st_of upd_same, rfl, _, _, rfl, _, _, rfl, rfl, ?_⟩
    have e1 : Ex H1 (upd H1 Tp (.tup [.int (i : Nat), .ref st])) := Ex.new hT
    have e2 := pe.trans e1
    generalize hσ : (σ'.set 3 (some (V.int (i : Nat)))).set 4 (some (V.ref st)) = σ2
    have g0 : σ2[0]? = some (some (.int c)) := by subst hσ; simp [p0]
    have g1 : σ2[1]? = some (some (.ref b)) := by subst hσ; simp [p1]
    have g2 : σ2[2]? = some (some (.ref d)) := by subst hσ; simp [p2]
    have g3 : σ2[3]? = some (some (.int (i : Nat))) := by subst hσ; simp [pl]
    have g4 : σ2[4]? = some (some (.ref st)) := by subst hσ; simp [pl]
    have gl : σ2.length = 6 := by subst hσ; simp [pl]
    have hnew : valV kvs ms = none := valV_none (by rw [dk]; exact not_earlier hnd ems)
    refine ⟨_, g4, seq_tup (hm.same e2) fun p o hp => ⟨_, rfl, ?_⟩⟩
    have e3 := Ex.new (o := o) hp
    have m2 := hm.same (e2.trans e3)
    refine ⟨_, g4, st, _, rfl, .inr (rd_t m2), rfl, false, by simp [exy], ?_⟩
    refine ⟨_, g4, st, rfl, ⟨_, rd_t m2⟩, ?_⟩
    refine lcR walk_tup (fun _ => true) (fun _ v _ => v = .bl true) (by simp [exy]) (fun H' e => ex_t e (rd_t m2)) (fun _ _ _ _ _ z => z) (fun j x H' H'' Y0 Y1 hj e' y k0 k1 => ?_) (fun Dn H' xs hD e' hx pp => ?_)
    · obtain ⟨rfl, y⟩ := y
      obtain ⟨z, ez, rfl⟩ := get_map y
      have hz' : 0 ≤ z ∧ z < c := by
        rw [exy] at ez
        have hm' := List.mem_of_getElem? ez
        simp only [List.mem_cons, List.not_mem_nil, or_false] at hm'
        rcases hm' with rfl | rfl <;> omega
      have w5 : ((wipe σ2 [5]).set 5 (some (V.int z)))[5]? = some (some (V.int z)) := by simp [wipe, gl]
      have w0 : ((wipe σ2 [5]).set 5 (some (V.int z)))[0]? = some (some (V.int c)) := by simp [wipe, g0]
      refine ⟨by simp [wipe], ?_⟩
      refine ⟨_, w5, num_nat hz'.1 ⟨_, rfl, _, w5, _, w0, z, c, rfl, rfl, k1 _ _ rfl (Ex.refl _) (bl_t hz'.2)⟩⟩
    · rw [range_all] at pp
      have e4 := (e2.trans e3).trans e'
      refine ⟨Dn, (List.range ms.length).map fun _ => true, rfl, rd_l (.inl ?_), true, ?_, ?_⟩
      · rw [hx, paired_fn pp, List.map_map, List.length_map]
        rfl
      · rw [show ((List.range ms.length).map fun _ => true).all id = true by simp]
      have m4 := hm.same e4
      have a0 : atI (ms.map V.int) 0 = some (.int x) := by rw [exy]; rfl
      have a1 : atI (ms.map V.int) 1 = some (.int y) := by rw [exy]; rfl
      refine ⟨_, g4, st, _, 0, _, rfl, rfl, rd_t m4, a0, _, g4, st, _, 1, _, rfl, rfl, rd_t m4, a1, rfl, false, by simp [hxy], ?_⟩
      refine ⟨_, g4, st, _, rfl, .inr ⟨rd_t m4, ?_⟩⟩
      have dt3 := dt.same ((e1.trans e3).trans e')
      refine ⟨_, g2, d, st, kvs, bs, ms, rfl, rfl, dt3, m4, false, by rw [hnew]; rfl, ?_⟩
      refine ⟨_, g3, _, g2, _, g4, st, _, rfl, .inr ⟨rd_t m4, ?_⟩⟩
      refine ⟨d, st, kvs, bs, ms, rfl, rfl, dt3, m4, hnew, ?_, g0, g1, g2, gl, e4.mut hdH, _, _, DTO.putP dt3 m4, ?_⟩
      · have h1 := congrArg List.length dk
        rw [List.length_map, List.length_take] at h1
        exact sz_lt (by omega)
      · rw [List.map_append, dk, take_next ems]
        rfl
end
end Kx
namespace Kx
open PySem PySem.Spec PyProof.Rows L2
open Evl (Ex ex_rd ex_l ex_t st_of sq_of sz_lt sz_of)
/-! ### lists of tuples gone over -/
/-- refs of what a relation tells -/
theorem refs_of {R : Nat → Addr → Prop} : ∀ {l : List Nat} {xs : List V}, Paired (fun j v => ∃ p : Addr, v = V.ref p ∧ R j p) l xs → ∃ ps : List Addr, xs = ps.map V.ref ∧ Paired R l ps
  | _, _, .nil => ⟨[], rfl, .nil⟩
  | _, _, .cons ⟨p, e, r⟩ t => by
    obtain ⟨ps, e2, r2⟩ := refs_of t
    exact ⟨p :: ps, by rw [List.map_cons, e, e2], .cons r r2⟩
theorem paired_flip {α β : Type} {F : α → β → Prop} : ∀ {xs : List α} {ys : List β}, Paired F xs ys → Paired (fun y x => F x y) ys xs
  | _, _, .nil => .nil
  | _, _, .cons h t => .cons h (paired_flip t)
theorem paired_mapR {α β γ : Type} {F : α → γ → Prop} {f : β → γ} : ∀ {xs : List α} {ys : List β}, Paired (fun x y => F x (f y)) xs ys → Paired F xs (ys.map f)
  | _, _, .nil => .nil
  | _, _, .cons h t => .cons h (paired_mapR t)
theorem range_get {α : Type} {l : List α} : (List.range l.length).map (fun j => l[j]?) = l.map some := by
  apply List.ext_getElem?
  intro i
  rw [List.getElem?_map, List.getElem?_map]
  by_cases h : i < l.length
  · rw [List.getElem?_range h, List.getElem?_eq_getElem h]
    simp [h]
  · simp [h]
section
variable {K : PySem.W.Frag} {σ : L2.St} {H : Hp} {Q : VK}
/-- [tuple(x) for x in l], l a list of tuples -/
theorem lc_tups {i j : Nat} {b : Addr} {as : List Addr} {nss : List (List Int)} (hi : σ[i]? = some (some (.ref b))) (hij : i ≠ j) (hj : j < σ.length) (h : LT H b as nss) (hz : as.length ≤ 50000) (q : ∀ D H', H D = none → Ex H H' → H' D = some (.lst (as.map V.ref)) → Q (.ref D) H') :
    tLc (iList K (tVar i)) (gName j) tYes (tCB (rTup K) (tCons (tVar j) tNil)) [j] σ H Q := by
  refine ⟨_, hi, b, rfl, ⟨_, rd_l h.1⟩, ?_⟩
  refine lcR (Qd := fun D H' => Q (.ref D) H') (walk_list (xs := as.map V.ref)) (fun _ => true) (fun k v _ => some v = (as.map V.ref)[k]?) (by rw [List.length_map]; exact hz) (fun H' e => rd_l (ex_rd e h.1)) (fun _ _ _ _ _ z => z) (fun k x H' H'' Y0 Y1 hk e y k0 k1 => ?_) (fun D H' xs hD e hx pp => q D H' hD e ?_)
  · obtain ⟨rfl, y⟩ := y
    obtain ⟨p, ep, rfl⟩ := get_map y
    obtain ⟨ms, _, hm⟩ := paired_at h.2 ep
    have gj : ((wipe σ [j]).set j (some (V.ref p)))[j]? = some (some (V.ref p)) := by simp [wipe, hj]
    exact ⟨by simp [wipe], _, gj, p, _, rfl, .inr ⟨rd_t (hm.same e), k1 _ _ rfl (Ex.refl _) (by rw [y])⟩⟩
  · rw [range_all] at pp
    have e2 : xs.map some = (List.range (as.map V.ref).length).map fun k => (as.map V.ref)[k]? := by
      have h1 : Paired (fun k v => v = (as.map V.ref)[k]?) (List.range (as.map V.ref).length) (xs.map some) := paired_mapR (F := fun k (v : Option V) => v = (as.map V.ref)[k]?) pp
      exact paired_fn h1
    rw [range_get] at e2
    have e3 : xs = as.map V.ref := (List.map_inj_right (fun _ _ z => Option.some.inj z)).mp e2
    rw [← e3]
    exact hx
/-- new empty lists, all apart -/
structure News (H0 H : Hp) (ps : List Addr) : Prop where
  nd : ps.Nodup
  new : ∀ p ∈ ps, H0 p = none
  at_ : ∀ p ∈ ps, H p = some (.lst [])
/-- [[] for x in l] -/
theorem lc_empties {i j : Nat} {b : Addr} {xs0 : List V} (hi : σ[i]? = some (some (.ref b))) (h : Rd H b (.lst xs0)) (hz : xs0.length ≤ 50000) (q : ∀ D H' ps, H D = none → Ex H H' → H' D = some (.lst (ps.map V.ref)) → ps.length = xs0.length → News H H' ps → D ∉ ps → Q (.ref D) H') :
    tLc (iList K (tVar i)) (gName j) tYes (tLst tNil) [j] σ H Q := by
  refine ⟨_, hi, b, rfl, ⟨_, rd_l h⟩, fun D hD => ?_⟩
  refine lc_it (walk_list (xs := xs0)) (fun k H' => Ex H H' ∧ ∃ ps : List Addr, H' D = some (.lst (ps.map V.ref)) ∧ ps.length = k ∧ News H H' ps ∧ D ∉ ps) ⟨Ex.new hD, [], upd_same, rfl, ⟨List.nodup_nil, (fun _ z => nomatch z), (fun _ z => nomatch z)⟩, (fun z => nomatch z)⟩ (fun k H' _ p => rd_l (ex_rd p.1 h)) (fun k x H' H'' hk p y => ?_) (fun H' p => ?_)
  · obtain ⟨pe, ps, pd, pl, pn, pdn⟩ := p
    obtain ⟨rfl, y⟩ := y
    refine ⟨by simp [wipe], Nat.zero_le _, fun p hp => ?_⟩
    have nD : D ≠ p := ne_of_none pd hp
    refine ⟨ps.map V.ref, by rw [upd_ne nD]; exact pd, ?_, ?_, ps ++ [p], ?_, ?_, ⟨?_, ?_, ?_⟩, ?_⟩
    · rw [List.length_map]
      exact sz_lt (by omega)
    · exact (pe.trans (Ex.new hp)).mut hD
    · rw [upd_same, List.map_append]
      rfl
    · rw [List.length_append, pl]
      rfl
    · refine List.nodup_append.mpr ⟨pn.nd, by simp, fun a ha b hb => ?_⟩
      have e : b = p := by simpa using hb
      subst e
      intro z
      subst z
      rw [pn.at_ _ ha] at hp
      cases hp
    · intro a ha
      rcases List.mem_append.mp ha with ha | ha
      · exact pn.new a ha
      · have e : a = p := by simpa using ha
        subst e
        exact Evl.fresh_back pe hp
    · intro a ha
      have na : a ≠ D := by
        rcases List.mem_append.mp ha with ha | ha
        · exact fun z => pdn (z ▸ ha)
        · have e : a = p := by simpa using ha
          rw [e]
          exact Ne.symm nD
      rw [upd_ne na]
      rcases List.mem_append.mp ha with ha | ha
      · have na2 : a ≠ p := ne_of_none (pn.at_ a ha) hp
        rw [upd_ne na2]
        exact pn.at_ a ha
      · have e : a = p := by simpa using ha
        rw [e, upd_same]
    · intro z
      rcases List.mem_append.mp z with z | z
      · exact pdn z
      · exact nD (by simpa using z)
  · obtain ⟨pe, ps, pd, pl, pn, pdn⟩ := p
    exact q D H' ps hD pe pd pl pn pdn
/-- [tuple(row) for row in l], the rows lists of ints -/
theorem lc_rows {i j : Nat} {b : Addr} {ps : List Addr} {rows : List (List Int)} (hi : σ[i]? = some (some (.ref b))) (hj : j < σ.length) (h : Rd H b (.lst (ps.map V.ref))) (hr : Paired (Ls H) ps rows) (hz : ps.length ≤ 50000) (q : ∀ D H' rs, H D = none → Ex H H' → H' D = some (.lst (rs.map V.ref)) → Tus H' rs rows → Q (.ref D) H') :
    tLc (iList K (tVar i)) (gName j) tYes (tCB (rTup K) (tCons (tVar j) tNil)) [j] σ H Q := by
  have hlen := Paired.length hr
  refine ⟨_, hi, b, rfl, ⟨_, rd_l h⟩, ?_⟩
  refine lcR (Qd := fun D H' => Q (.ref D) H') (walk_list (xs := ps.map V.ref)) (fun _ => true) (fun k v H' => ∃ p, v = V.ref p ∧ ∃ ms, rows[k]? = some ms ∧ Tu H' p ms) (by rw [List.length_map]; exact hz) (fun H' e => rd_l (ex_rd e h)) (fun k v H' H'' e z => ?_) (fun k x H' H'' Y0 Y1 hk e y k0 k1 => ?_) (fun D H' xs hD e hx pp => ?_)
  · obtain ⟨p, e1, ms, e2, t⟩ := z
    exact ⟨p, e1, ms, e2, t.exT e⟩
  · obtain ⟨rfl, y⟩ := y
    obtain ⟨p, ep, rfl⟩ := get_map y
    obtain ⟨ms, ems, hm⟩ := paired_at hr ep
    have gj : ((wipe σ [j]).set j (some (V.ref p)))[j]? = some (some (V.ref p)) := by simp [wipe, hj]
    exact ⟨by simp [wipe], _, gj, p, _, rfl, .inl ⟨rd_l (ex_rd e hm), fun l hl => k1 _ _ rfl (Ex.new hl) ⟨l, rfl, ms, ems, .inl upd_same⟩⟩⟩
  · rw [range_all] at pp
    obtain ⟨rs, e1, pr⟩ := refs_of (R := fun k p => ∃ ms, rows[k]? = some ms ∧ Tu H' p ms) pp
    refine q D H' rs hD e (by rw [← e1]; exact hx) ?_
    have lr := Paired.length pr
    rw [List.length_range, List.length_map] at lr
    have key : ∀ (l : List (List Int)) (m : Nat) (rs : List Addr), Paired (fun k p => ∃ ms, rows[k]? = some ms ∧ Tu H' p ms) ((List.range l.length).map (· + m)) rs → (∀ k, k < l.length → rows[k + m]? = l[k]?) → Tus H' rs l := by
      intro l
      induction l with
      | nil =>
        intro m rs pr _
        cases pr
        exact .nil
      | cons x l ih =>
        intro m rs pr hrow
        rw [List.length_cons, List.range_succ_eq_map, List.map_cons, List.map_map] at pr
        cases pr with
        | cons h t =>
          obtain ⟨ms, e1, t1⟩ := h
          have e0 := hrow 0 (Nat.succ_pos _)
          rw [e0] at e1
          cases e1
          refine .cons t1 (ih (m + 1) _ ?_ fun k hk => ?_)
          · have : ((fun x => x + m) ∘ Nat.succ) = fun x => x + (m + 1) := by
              funext z
              show z + 1 + m = z + (m + 1)
              omega
            rw [this] at t
            exact t
          · have := hrow (k + 1) (Nat.succ_lt_succ hk)
            rw [show k + (m + 1) = k + 1 + m by omega, this]
            rfl
    refine key rows 0 rs ?_ fun k _ => rfl
    have : (List.range rows.length).map (· + 0) = List.range (ps.map V.ref).length := by
      rw [List.length_map, hlen]
      simp
    rw [this]
    exact pr
end
end Kx
namespace Kx
open PySem PySem.Spec PyProof.Rows L2
open Evl (Ex ex_rd ex_l ex_t st_of sq_of sz_lt sz_of)
theorem lk_same (f : PySem.Str) (v : V) (fs : List (PySem.Str × V)) : (putF f v fs).lookup f = some v := by rw [lookup_putF, if_pos rfl]
theorem lk_ne {f g : PySem.Str} (h : g ≠ f) (v : V) (fs : List (PySem.Str × V)) : (putF f v fs).lookup g = fs.lookup g := by rw [lookup_putF, if_neg h]
theorem pf {f : PySem.Str} {v : V} {fs : List (PySem.Str × V)} {n : Nat} (h : fs.length ≤ n) : (putF f v fs).length ≤ n + 1 := by
  have := length_putF f v fs
  omega
theorem pfz {n : Nat} {fs : List (PySem.Str × V)} (h : fs.length ≤ n) (hn : n < 1000 := by decide) : fs.length < 1000 := Nat.lt_of_le_of_lt h hn
theorem pf0 : ([] : List (PySem.Str × V)).length ≤ 0 := Nat.le_refl _
/-- told whole, one by one -/
abbrev Fts (H : Hp) (as : List Addr) (nss : List (List Int)) : Prop := Paired (fun a ns => Ft H a (ns.map V.int)) as nss
theorem Fts.ex {H H' : Hp} {as : List Addr} {nss : List (List Int)} (h : Fts H as nss) (e : Ex H H') : Fts H' as nss := Paired.mapP h fun _ _ t => t.same e
theorem Fts.tus {H : Hp} {as : List Addr} {nss : List (List Int)} (h : Fts H as nss) : Tus H as nss := Paired.mapP h fun _ _ t => t.rd
/-- the goals of a start, the starts of a goal -/
def outs (css : List (List Int)) (s : Int) : List Int := css.filterMap fun c => if c.getD 0 (-1) = s then some (c.getD 1 (-1)) else none
def inns (css : List (List Int)) (g : Int) : List Int := css.filterMap fun c => if c.getD 1 (-1) = g then some (c.getD 0 (-1)) else none
theorem outs_snoc (css : List (List Int)) (a b s : Int) : outs (css ++ [[a, b]]) s = if a = s then outs css s ++ [b] else outs css s := by
  unfold outs
  rw [List.filterMap_append]
  by_cases h : a = s
  · simp [h]
  · simp [h]
theorem inns_snoc (css : List (List Int)) (a b g : Int) : inns (css ++ [[a, b]]) g = if b = g then inns css g ++ [a] else inns css g := by
  unfold inns
  rw [List.filterMap_append]
  by_cases h : b = g
  · simp [h]
  · simp [h]
/-- a House at x: its sizes, its standings, where one goes from each, whence one comes -/
structure HsAt (A : Ads) (H : Hp) (x : Addr) (ns : List Int) (nss : List (List Int)) (Ah Bh : List (List Int)) : Prop where
  ex : ∃ (dx a1 a2 a4 a5 : Addr) (fs : List (PySem.Str × V)) (as rs bs : List Addr), H x = some (.ins A.house dx fs) ∧ fs.lookup ("sizes" : PySem.Str) = some (.ref a1) ∧ fs.lookup ("standings" : PySem.Str) = some (.ref a2) ∧ fs.lookup ("ahead" : PySem.Str) = some (.ref a4) ∧ fs.lookup ("behind" : PySem.Str) = some (.ref a5) ∧
    Tu H a1 ns ∧ Ft H a2 (as.map V.ref) ∧ Fts H as nss ∧ TT' H a4 rs Ah ∧ TT' H a5 bs Bh
theorem HsAt.same {A : Ads} {H H' : Hp} {x : Addr} {ns : List Int} {nss Ah Bh : List (List Int)} (h : HsAt A H x ns nss Ah Bh) (e : Ex H H') : HsAt A H' x ns nss Ah Bh := by
  obtain ⟨dx, a1, a2, a4, a5, fs, as, rs, bs, h0, h1, h2, h3, h4, t1, t2, t3, t4, t5⟩ := h
  exact ⟨dx, a1, a2, a4, a5, fs, as, rs, bs, e _ _ h0, h1, h2, h3, h4, t1.same e, t2.same e, t3.ex e, t4.ex e, t5.ex e⟩
/-- all but x stays -/
def ExB (x : Addr) (H H' : Hp) : Prop := ∀ b o, b ≠ x → H b = some o → H' b = some o
/-- two ascending orders of the same -/
theorem asc_eq {l m : List (List Int)} (p : l.Perm m) (hl : l.Pairwise (· ≤ ·)) (hm : m.Pairwise (· ≤ ·)) : l = m :=
  p.eq_of_pairwise (fun _ _ _ _ h1 h2 => List.le_antisymm h1 h2) hl hm
theorem sorted_same {H : Hp} {as bs : List Addr} {nss mss : List (List Int)} (h : SortedTus H as nss bs mss) (hl : as.length = nss.length) (ha : nss.Pairwise (· ≤ ·)) : mss = nss := by
  have p : mss.Perm nss := by
    have q := h.perm.map (·.2)
    rwa [List.map_snd_zip (by rw [h.len]; exact Nat.le_refl _), List.map_snd_zip (by rw [hl]; exact Nat.le_refl _)] at q
  exact asc_eq p h.asc ha
theorem sorted_perm {H : Hp} {as bs : List Addr} {nss mss : List (List Int)} (h : SortedTus H as nss bs mss) (hl : as.length = nss.length) : mss.Perm nss := by
  have q := h.perm.map (·.2)
  rwa [List.map_snd_zip (by rw [h.len]; exact Nat.le_refl _), List.map_snd_zip (by rw [hl]; exact Nat.le_refl _)] at q
theorem fts_zip {H : Hp} : ∀ {as : List Addr} {nss : List (List Int)}, Fts H as nss → ∀ b ∈ as.zip nss, Ft H b.1 (b.2.map V.int)
  | _, _, .nil, _, hb => by simp at hb
  | _, _, .cons h t, b, hb => by
    rcases List.mem_cons.mp hb with rfl | hb
    · exact h
    · exact fts_zip t b hb
theorem fts_of_zip {H : Hp} : ∀ {as : List Addr} {nss : List (List Int)}, as.length = nss.length → (∀ b ∈ as.zip nss, Ft H b.1 (b.2.map V.int)) → Fts H as nss
  | [], [], _, _ => .nil
  | [], _ :: _, l, _ => by simp at l
  | _ :: _, [], l, _ => by simp at l
  | a :: as, ns :: nss, l, h => .cons (h (a, ns) List.mem_cons_self) (fts_of_zip (by simpa using l) fun b hb => h b (List.mem_cons_of_mem _ hb))
theorem sorted_fts {H : Hp} {as bs : List Addr} {nss mss : List (List Int)} (h : SortedTus H as nss bs mss) (f : Fts H as nss) : Fts H bs mss :=
  fts_of_zip h.len fun b hb => fts_zip f b (h.perm.mem_iff.mp hb)
section
variable {P : Program} {w : World} {K : PySem.W.Frag} {mg : PySem.Str → Option Value} {base : Heap} {A : Ads}
structure spHLen (A : Ads) (vs : List V) (H : Hp) (Q : VK) (E : XK) : Prop where
  ex : ∃ (x : Addr) (ns : List Int) (nss Ah Bh : List (List Int)), vs = [.ref x] ∧ HsAt A H x ns nss Ah Bh ∧ Q (.int nss.length) H
theorem scHlen : FnScope ["self"] ["self"] (defScope (inClass (topS 23) 2)) := ⟨rfl, rfl, rfl, by decide +kernel, rfl, by decide +kernel, by decide +kernel⟩
/- slots: 0 self -/
theorem ok_hlen (T : Txt P K mg A) : ∃ fd, Binds K fd ["self"] [] ∧ FnOk P w K mg base CX0 1 A.hLen fd ["self"] (spHLen A) := by
  obtain ⟨fd, F⟩ := T.hLenF
  refine ⟨fd, F.bindsN fun _ _ _ _ _ _ us hl => match us, hl with | [_], _ => rfl, F.ok scHlen (fun vs H Q E h => ?_) fun cdv A' outer s H vs Q E hr h => ?_⟩
  · obtain ⟨x, ns, nss, Ah, Bh, rfl, _⟩ := h
    rfl
  · obtain ⟨x, ns, nss, Ah, Bh, rfl, ⟨dx, a1, a2, a4, a5, fs, as, rs, bs, h0, h1, h2, h3, h4, t1, t2, t3, t4, t5⟩, q⟩ := h
    refine ⟨_, PSs.nox (pss_one (ps_ret (pe_callB (id := "len") (kLen (K := K) rfl) (by rfl) (T.b "len") (by decide +kernel) (pa_cons (kFld (K := K) rfl (pv 0) (by rfl)) pa_nil)))), ?_⟩
    refine ⟨_, rfl, x, _, _, _, _, rfl, h0, T.hCls, T.hStandings, h2, a2, _, rfl, .inr (rd_t t2.rd), ?_⟩
    have e : as.length = nss.length := Paired.length t3
    rw [List.length_map, e]
    exact q
end
end Kx
namespace Kx
open PySem PySem.Spec PyProof.Rows L2
open Evl (Ex ex_rd ex_l ex_t st_of sq_of sz_lt sz_of)
theorem ExB.of {x : Addr} {H H' : Hp} (e : Ex H H') : ExB x H H' := fun b o _ h => e b o h
theorem ExB.trans {x : Addr} {H H1 H2 : Hp} (a : ExB x H H1) (b : ExB x H1 H2) : ExB x H H2 := fun c o n h => b c o n (a c o n h)
theorem ExB.upd {x : Addr} {H : Hp} {o : HO} : ExB x H (upd H x o) := fun b u n h => by rw [upd_ne n]; exact h
/-- what is read of a tuple or a list that is not at x -/
theorem ExB.rd {x : Addr} {H H' : Hp} (e : ExB x H H') {C dx : Addr} {fs : List (PySem.Str × V)} (hx : H x = some (.ins C dx fs)) {a : Addr} {u : HO} (h : Rd H a u) (hu : ∀ C dx fs, u ≠ .ins C dx fs) : Rd H' a u := by
  rcases h with h | ⟨o, h⟩
  · exact .inl (e a _ (ne_of h hx (hu _ _ _)) h)
  · exact .inr ⟨o, e a _ (ne_of h hx (fun z => nomatch z)) h⟩
section
variable {x : Addr} {H H' : Hp} {C dx : Addr} {fs : List (PySem.Str × V)}
theorem ExB.tu (e : ExB x H H') (hx : H x = some (.ins C dx fs)) {a : Addr} {ns : List Int} (h : Tu H a ns) : Tu H' a ns := e.rd hx h fun _ _ _ z => nomatch z
theorem ExB.tus (e : ExB x H H') (hx : H x = some (.ins C dx fs)) {as : List Addr} {nss : List (List Int)} (h : Tus H as nss) : Tus H' as nss := Paired.mapP h fun _ _ t => e.tu hx t
theorem ExB.lt (e : ExB x H H') (hx : H x = some (.ins C dx fs)) {a : Addr} {as : List Addr} {nss : List (List Int)} (h : LT H a as nss) : LT H' a as nss := ⟨e.rd hx h.1 (fun _ _ _ z => nomatch z), e.tus hx h.2⟩
theorem ExB.tt (e : ExB x H H') (hx : H x = some (.ins C dx fs)) {a : Addr} {as : List Addr} {nss : List (List Int)} (h : TT' H a as nss) : TT' H' a as nss := ⟨e.rd hx h.1 (fun _ _ _ z => nomatch z), e.tus hx h.2⟩
theorem ExB.ft (e : ExB x H H') (hx : H x = some (.ins C dx fs)) {a : Addr} {xs : List V} (h : Ft H a xs) : Ft H' a xs := let ⟨o, d, h⟩ := h; ⟨o, d, e a _ (ne_of h hx (fun z => nomatch z)) h⟩
theorem ExB.fts (e : ExB x H H') (hx : H x = some (.ins C dx fs)) {as : List Addr} {nss : List (List Int)} (h : Fts H as nss) : Fts H' as nss := Paired.mapP h fun _ _ t => e.ft hx t
end
/-- the lists at ps hold f 0, f 1, .. -/
def Lsts (H : Hp) (ps : List Addr) (f : Nat → List Int) : Prop := ∀ (j : Nat) (p : Addr), ps[j]? = some p → H p = some (.lst ((f j).map V.int))
theorem Lsts.put {H : Hp} {ps : List Addr} {f : Nat → List Int} (h : Lsts H ps f) (hn : ps.Nodup) {i : Nat} {p : Addr} (hi : ps[i]? = some p) (k : Int) : Lsts (upd H p (.lst (((f i) ++ [k]).map V.int))) ps (fun j => if j = i then f i ++ [k] else f j) := fun j q hj => by
  by_cases e : q = p
  · subst e
    have : j = i := by
      obtain ⟨h1, e1⟩ := List.getElem?_eq_some_iff.mp hi
      obtain ⟨h2, e2⟩ := List.getElem?_eq_some_iff.mp hj
      exact (List.getElem_inj hn).mp (e2.trans e1.symm)
    rw [upd_same]
    show _ = some (HO.lst ((if j = i then f i ++ [k] else f j).map V.int))
    rw [if_pos this]
  · have nj : j ≠ i := fun z => by rw [z, hi] at hj; exact e (Option.some.inj hj).symm
    rw [upd_ne e]
    show _ = some (HO.lst ((if j = i then f i ++ [k] else f j).map V.int))
    rw [if_neg nj]
    exact h j q hj
theorem Lsts.other {H : Hp} {ps : List Addr} {f : Nat → List Int} (h : Lsts H ps f) {p : Addr} (hp : p ∉ ps) (o : HO) : Lsts (upd H p o) ps f := fun j q hj => by
  rw [upd_ne (fun z => by subst z; exact hp (List.mem_of_getElem? hj))]
  exact h j q hj
theorem Lsts.fn {H : Hp} {ps : List Addr} {f g : Nat → List Int} (h : Lsts H ps f) (e : ∀ j, g j = f j) : Lsts H ps g := fun j p hj => by rw [e j]; exact h j p hj
theorem lsts_paired {H : Hp} : ∀ {ps : List Addr} {n : Nat} {f : Nat → List Int}, Lsts H ps f → ps.length = n → Paired (Ls H) ps ((List.range n).map f)
  | [], _, _, _, rfl => .nil
  | p :: ps, _, f, h, rfl => by
    rw [List.length_cons, List.range_succ_eq_map, List.map_cons, List.map_map]
    exact .cons (.inl (h 0 p rfl)) (lsts_paired (f := f ∘ Nat.succ) (fun j q hj => h (j + 1) q hj) rfl)
theorem tyL {K : PySem.W.Frag} {H : Hp} {p : Addr} {xs : List V} (h : SqL K H p xs) : tyV K "list" (.ref p) H := Or.inl ⟨rfl, xs, h⟩
section
variable {P : Program} {w : World} {K : PySem.W.Frag} {mg : PySem.Str → Option Value} {base : Heap} {A : Ads}
structure spHInit (A : Ads) (vs : List V) (H : Hp) (Q : VK) (E : XK) : Prop where
  ex : ∃ (x dx sz st ch : Addr) (ns : List Int) (as : List Addr) (nss : List (List Int)) (cs : List Addr) (css : List (List Int)), vs = [.ref x, .ref sz, .ref st, .ref ch] ∧ H x = some (.ins A.house dx []) ∧ Ls H sz ns ∧ 1 ≤ ns.length ∧ ns.length ≤ 6 ∧ (∀ n ∈ ns, 1 ≤ n ∧ n ≤ 36) ∧
    LT H st as nss ∧ Fts H as nss ∧ nss ≠ [] ∧ nss.Nodup ∧ nss.length ≤ 300 ∧ (∀ ms ∈ nss, ms.length = ns.length ∧ ∀ (i : Nat) (m n : Int), ms[i]? = some m → ns[i]? = some n → 0 ≤ m ∧ m < n) ∧ nss.Pairwise (· ≤ ·) ∧
    LT H ch cs css ∧ css.Nodup ∧ css.length ≤ 10000 ∧ (∀ ms ∈ css, ∃ x y : Int, ms = [x, y] ∧ 0 ≤ x ∧ x < nss.length ∧ 0 ≤ y ∧ y < nss.length ∧ x ≠ y) ∧
    ∀ H' mss, ExB x H H' → mss.Perm css → HsAt A H' x ns nss ((List.range nss.length).map fun j => outs mss (j : Nat)) ((List.range nss.length).map fun j => inns mss (j : Nat)) → Q .non H'
theorem scHinit : FnScope ["self", "sizes", "standings", "changes", "at", "ahead", "behind", "start", "goal", "standing", "row", "pair"] ["self", "sizes", "standings", "changes"] (defScope (inClass (topS 23) 0)) := ⟨rfl, rfl, rfl, by decide +kernel, rfl, by decide +kernel, by decide +kernel⟩
/- slots: 0 self, 1 sizes, 2 standings, 3 changes, 4 at, 5 ahead, 6 behind, 7 start, 8 goal, 9 standing, 10 row, 11 pair -/
theorem ok_hinit (T : Txt P K mg A) : ∃ fd, Binds K fd ["self", "sizes", "standings", "changes"] [] ∧ FnOk P w K mg base CX0 5 A.hInit fd ["self", "sizes", "standings", "changes"] (spHInit A) := by
  obtain ⟨fd, F⟩ := T.hInitF
  have D_is_sequence := (ok_is_sequence (P := P) (w := w) (base := base) T).mono (by decide : 1 ≤ 4)
  have D_wrong_size := (ok_wrong_size (P := P) (w := w) (base := base) T).mono (by decide : 3 ≤ 4)
  have D_wrong_standing := (ok_wrong_standing (P := P) (w := w) (base := base) T)
  have D_wrong_change := (ok_wrong_change (P := P) (w := w) (base := base) T)
  obtain ⟨t3, e_MOST_STANDINGS⟩ := T.MOST_STANDINGS
  refine ⟨fd, ?_, F.ok scHinit (fun vs H Q E h => ?_) fun cdv A' outer s H vs Q E hr h => ?_⟩
  · obtain ⟨ds, hv, hb⟩ := F.binds1 (ps := ["self", "sizes", "standings", "changes"]) 4 2 (by simp) rfl fun T kV doc pm an cdv ct us its hl h2 => match us, hl, its, h2 with | [_, _, _, _], _, [_, _], _ => ⟨_, rfl, rfl⟩
    cases hv
    exact hb
  · obtain ⟨x, dx, sz, st, ch, ns, as, nss, cs, css, rfl, _⟩ := h
    rfl
  · obtain ⟨x, dx, sz, st, ch, ns, as, nss, cs, css, rfl, hx, hs, h1, h6, hn, ha, hf, hne, hnd, hz, hfit, hasc, hc, hcnd, hcz, hcv, q⟩ := h
    refine ⟨_, PSs.nox (pss_cons (ps_set (i := 4) scHinit.nd rfl (Or.inl rfl) (pe_d D_wrong_size hr (by rfl) pass0 (pa_cons (pv 1) pa_nil)))
      (pss_cons (ps_if (pt_cmpR op_notN (pv 4) pe_non (nomark _)) (pss_one ps_never) pss_nil)
      (pss_cons (ps_if (pt_cmpR op_isN (pv 2) pe_non (nomark _)) (pss_cons ps_never
      (pss_one ps_never)) (pss_one (ps_if (PW.pt (pw_and (pt_val (pe_d D_is_sequence hr (by rfl) pass0 (pa_cons (pv 2) pa_nil))) (pw_and1 (pt_cmpR op_gt (pe_callB (id := "len") (kLen (K := K) rfl) (by rfl) (T.b "len") (by decide +kernel) (pa_cons (pv 2) pa_nil)) (pe_glob (v := .int 300) (by rfl) e_MOST_STANDINGS ⟨_, rfl⟩) (nomark _))))) (pss_one ps_never) pss_nil)))
      (pss_cons (ps_set (i := 4) scHinit.nd rfl (Or.inl rfl) (pe_d D_wrong_standing hr (by rfl) pass0 (pa_cons (pv 1) (pa_cons (pv 2) pa_nil))))
      (pss_cons (ps_if (pt_cmpR op_notN (pv 4) pe_non (nomark _)) (pss_one ps_never) pss_nil)
      (pss_cons (ps_set (i := 4) scHinit.nd rfl (Or.inl rfl) (pe_d D_wrong_change hr (by rfl) pass0 (pa_cons (pe_callB (id := "len") (kLen (K := K) rfl) (by rfl) (T.b "len") (by decide +kernel) (pa_cons (pv 2) pa_nil)) (pa_cons (pv 3) pa_nil))))
      (pss_cons (ps_if (pt_cmpR op_notN (pv 4) pe_non (nomark _)) (pss_one ps_never) pss_nil)
      (pss_cons (ps_fld (pv 0) (pe_callTy (T := "tuple") (kTup (K := K) rfl) (by rfl) (T.b "tuple") (by decide +kernel) (pa_cons (pv 1) pa_nil)) (by rfl))
      (pss_cons (ps_fld (pv 0) (pe_callTy (T := "tuple") (kTupF (K := K) rfl) (by rfl) (T.b "tuple") (by decide +kernel) (pa_cons (pe_callB (id := "sorted") (kSortTu (K := K) rfl hr.units) (by rfl) (T.b "sorted") (by decide +kernel) (pa_cons (pe_lc rfl scHinit.nd (kPiL (K := K) rfl (pv 2)) (blkOk_by (own := [("standing", 9)]) (by rfl)) (fun _ _ _ _ _ => (pg_name (i := 9) scHinit.nd rfl (Or.inl rfl) (Or.inr rfl))) (fun _ _ _ _ _ => pts_nil) (fun _ _ _ _ _ => (pe_callTy (T := "tuple") (kTup (K := K) rfl) (by rfl) (T.b "tuple") (by decide +kernel) (pa_cons (pv 9) pa_nil)))) pa_nil)) pa_nil)) (by rfl))
      (pss_cons (ps_fld (pv 0) (pe_callTy (T := "tuple") (kTup (K := K) rfl) (by rfl) (T.b "tuple") (by decide +kernel) (pa_cons (pe_callB (id := "sorted") (kSortTu (K := K) rfl hr.units) (by rfl) (T.b "sorted") (by decide +kernel) (pa_cons (pe_lc rfl scHinit.nd (kPiL (K := K) rfl (pv 3)) (blkOk_by (own := [("pair", 11)]) (by rfl)) (fun _ _ _ _ _ => (pg_name (i := 11) scHinit.nd rfl (Or.inl rfl) (Or.inr rfl))) (fun _ _ _ _ _ => pts_nil) (fun _ _ _ _ _ => (pe_callTy (T := "tuple") (kTup (K := K) rfl) (by rfl) (T.b "tuple") (by decide +kernel) (pa_cons (pv 11) pa_nil)))) pa_nil)) pa_nil)) (by rfl))
      (pss_cons (ps_par (i := 5) (j := 6) rfl scHinit.nd rfl rfl (by decide) rfl rfl (pa_cons (pe_lc rfl scHinit.nd (kPiL (K := K) rfl (pv 2)) (blkOk_by (own := [("standing", 9)]) (by rfl)) (fun _ _ _ _ _ => (pg_name (i := 9) scHinit.nd rfl (Or.inl rfl) (Or.inr rfl))) (fun _ _ _ _ _ => pts_nil) (fun _ _ _ _ _ => (pe_lst pa_nil))) (pa_cons (pe_lc rfl scHinit.nd (kPiL (K := K) rfl (pv 2)) (blkOk_by (own := [("standing", 9)]) (by rfl)) (fun _ _ _ _ _ => (pg_name (i := 9) scHinit.nd rfl (Or.inl rfl) (Or.inr rfl))) (fun _ _ _ _ _ => pts_nil) (fun _ _ _ _ _ => (pe_lst pa_nil))) pa_nil)) rfl)
      (pss_cons (ps_for PassesOwn.never rfl (kPiT (K := K) rfl (kFld (K := K) rfl (pv 0) (by rfl))) (kTgt (K := K) (n := 2) rfl rfl (pgs_cons (pg_name (i := 7) scHinit.nd rfl (Or.inl rfl)) (pgs_cons (pg_name (i := 8) scHinit.nd rfl (Or.inl rfl)) pgs_nil)) rfl rfl) (pss_cons (ps_expr (kBM (K := K) rfl PySem.F.plainAttrs_list PySem.F.slot_list_append PySem.F.type_list_append mt_append (pe_ix (kIxL (K := K) rfl) (pv 5) (pv 7) (fun _ _ => rfl)) (pa_cons (pv 8) pa_nil)))
      (pss_one (ps_expr (kBM (K := K) rfl PySem.F.plainAttrs_list PySem.F.slot_list_append PySem.F.type_list_append mt_append (pe_ix (kIxL (K := K) rfl) (pv 6) (pv 8) (fun _ _ => rfl)) (pa_cons (pv 7) pa_nil))))))
      (pss_cons (ps_fld (pv 0) (pe_callTy (T := "tuple") (kTup (K := K) rfl) (by rfl) (T.b "tuple") (by decide +kernel) (pa_cons (pe_lc rfl scHinit.nd (kPiL (K := K) rfl (pv 5)) (blkOk_by (own := [("row", 10)]) (by rfl)) (fun _ _ _ _ _ => (pg_name (i := 10) scHinit.nd rfl (Or.inl rfl) (Or.inr rfl))) (fun _ _ _ _ _ => pts_nil) (fun _ _ _ _ _ => (pe_callTy (T := "tuple") (kTup (K := K) rfl) (by rfl) (T.b "tuple") (by decide +kernel) (pa_cons (pv 10) pa_nil)))) pa_nil)) (by rfl))
      (pss_one (ps_fld (pv 0) (pe_callTy (T := "tuple") (kTup (K := K) rfl) (by rfl) (T.b "tuple") (by decide +kernel) (pa_cons (pe_lc rfl scHinit.nd (kPiL (K := K) rfl (pv 6)) (blkOk_by (own := [("row", 10)]) (by rfl)) (fun _ _ _ _ _ => (pg_name (i := 10) scHinit.nd rfl (Or.inl rfl) (Or.inr rfl))) (fun _ _ _ _ _ => pts_nil) (fun _ _ _ _ _ => (pe_callTy (T := "tuple") (kTup (K := K) rfl) (by rfl) (T.b "tuple") (by decide +kernel) (pa_cons (pv 10) pa_nil)))) pa_nil)) (by rfl)))))))))))))))), ?_⟩
    have hal := Paired.length ha.2
    have hcl := Paired.length hc.2
    refine ⟨_, rfl, ⟨sz, ns, rfl, hs, h1, h6, hn, fun H1 e1 => ?_⟩⟩
    refine ⟨_, rfl, rfl, false, rfl, ?_⟩
    refine ⟨_, rfl, rfl, false, rfl, ?_⟩
    refine ⟨_, rfl, seq_lst (ha.ex e1).1 fun p o hp => ⟨_, rfl, ?_⟩⟩
    have e2 := e1.trans (Ex.new (o := o) hp)
    refine ⟨_, rfl, st, _, rfl, .inl (rd_l (ha.ex e2).1), _, _, rfl, rfl, false, ?_, ?_⟩
    · exact bl_f (by rw [List.length_map, hal]; omega)
    refine ⟨_, rfl, _, rfl, ⟨sz, st, ns, as, nss, rfl, ex_rd e2 hs, ha.ex e2, hne, hnd, by omega, by omega, hfit, fun H3 e3 => ?_⟩⟩
    have e4 := e2.trans e3
    refine ⟨_, rfl, rfl, false, rfl, ?_⟩
    refine ⟨_, rfl, st, _, rfl, .inl (rd_l (ha.ex e4).1), ?_⟩
    refine ⟨_, rfl, ⟨_, ch, cs, css, rfl, hc.ex e4, hcnd, hcz, fun ms hms => ?_, fun H5 e5 => ?_⟩⟩
    · obtain ⟨a, b, h⟩ := hcv ms hms
      rw [List.length_map, hal]
      exact ⟨a, b, h⟩
    have e6 := e4.trans e5
    refine ⟨_, rfl, rfl, false, rfl, ?_⟩
    have hnn : ∀ ms ∈ nss, ms ≠ [] := fun ms hm z => by
      have := (hfit ms hm).1
      rw [z] at this
      simp at this
      omega
    have hcn : ∀ ms ∈ css, ms ≠ [] := fun ms hm z => by
      obtain ⟨_, _, e, _⟩ := hcv ms hm
      rw [z] at e
      cases e
    -- sizes
    refine ⟨_, rfl, sz, _, rfl, .inl ⟨rd_l (ex_rd e6 hs), fun a1 ha1 => ?_⟩⟩
    have e7 := e6.trans (Ex.new (o := .tup (ns.map V.int)) ha1)
    refine ⟨_, rfl, x, _, _, _, rfl, e7 _ _ hx, T.hCls, T.hSizes, by decide, ?_⟩
    generalize hH7 : upd (upd H5 a1 (.tup (ns.map V.int))) x (.ins A.house dx (putF "sizes" (.ref a1) [])) = H7
    have B7 : ExB x H H7 := by subst hH7; exact (ExB.of e7).trans ExB.upd
    have x7 : H7 x = some (.ins A.house dx (putF "sizes" (.ref a1) [])) := by subst hH7; exact upd_same
    have t7 : Tu H7 a1 ns := by
      subst hH7
      exact ExB.upd.tu (e7 _ _ hx) (.inl upd_same)
    clear hH7
    -- standings
    dsimp only
    refine st_seq (st_fld (st_cb (st_cb ?_)))
    refine lc_tups (i := 2) rfl (by decide) (by show 9 < 12; decide) (B7.lt hx ha) (by omega) fun D8 H8 hD8 e8 hl8 => ?_
    refine ⟨D8, as, nss, rfl, rd_l (.inl hl8), ((B7.lt hx ha).ex e8).2, hnn, fun p9 bs mss hp9 hsrt => ?_⟩
    refine ⟨p9, _, rfl, rd_l (.inl upd_same), fun a2 o2 ha2 ho2 => ?_⟩
    have e9 := e8.trans ((Ex.new (o := .lst (bs.map V.ref)) hp9).trans (Ex.new (o := .frz o2 (.tup (bs.map V.ref))) ha2))
    refine ⟨_, rfl, x, _, _, _, rfl, e9 _ _ x7, T.hCls, T.hStandings, pfz (pf pf0), ?_⟩
    have hmss : mss = nss := sorted_same hsrt hal hasc
    subst hmss
    have f9 : Fts _ bs mss := sorted_fts hsrt (Fts.ex (B7.fts hx hf) e8)
    have t9 := t7.same e9
    have hx9 := e9 _ _ x7
    have f9 : Fts (upd (upd H8 p9 (.lst (bs.map V.ref))) a2 (.frz o2 (.tup (bs.map V.ref)))) bs mss := Fts.ex (sorted_fts hsrt (Fts.ex (B7.fts hx hf) e8)) ((Ex.new hp9).trans (Ex.new ha2))
    have g9 : Ft (upd (upd H8 p9 (.lst (bs.map V.ref))) a2 (.frz o2 (.tup (bs.map V.ref)))) a2 (bs.map V.ref) := ⟨o2, ho2, upd_same⟩
    generalize hH9 : upd (upd (upd H8 p9 (.lst (bs.map V.ref))) a2 (.frz o2 (.tup (bs.map V.ref)))) x (.ins A.house dx (putF "standings" (.ref a2) (putF "sizes" (.ref a1) []))) = H10
    have B9 : ExB x (upd (upd H8 p9 (.lst (bs.map V.ref))) a2 (.frz o2 (.tup (bs.map V.ref)))) H10 := by subst hH9; exact ExB.upd
    have B10 : ExB x H H10 := B7.trans ((ExB.of e9).trans B9)
    have x10 : H10 x = some (.ins A.house dx (putF "standings" (.ref a2) (putF "sizes" (.ref a1) []))) := by subst hH9; exact upd_same
    have t10 : Tu H10 a1 ns := B9.tu hx9 t9
    have f10 : Fts H10 bs mss := B9.fts hx9 f9
    have g10 : Ft H10 a2 (bs.map V.ref) := B9.ft hx9 g9
    clear hH9 B9 f9 g9 t9 hx9 e9 hsrt e8 hl8
    -- changes
    dsimp only
    refine st_seq (st_fld (st_cb (st_cb ?_)))
    refine lc_tups (i := 3) rfl (by decide) (by show 11 < 12; decide) (B10.lt hx hc) (by omega) fun D11 H11 hD11 e11 hl11 => ?_
    refine ⟨D11, cs, css, rfl, rd_l (.inl hl11), ((B10.lt hx hc).ex e11).2, hcn, fun p12 ds dss hp12 hsrt2 => ?_⟩
    refine ⟨p12, _, rfl, .inl ⟨rd_l (.inl upd_same), fun a3 ha3 => ?_⟩⟩
    have e12 := e11.trans ((Ex.new (o := .lst (ds.map V.ref)) hp12).trans (Ex.new (o := .tup (ds.map V.ref)) ha3))
    refine ⟨_, rfl, x, _, _, _, rfl, e12 _ _ x10, T.hCls, T.hChanges, pfz (pf (pf pf0)), ?_⟩
    have hperm := sorted_perm hsrt2 hcl
    have d12 : TT' (upd (upd H11 p12 (.lst (ds.map V.ref))) a3 (.tup (ds.map V.ref))) a3 ds dss := ⟨.inl upd_same, hsrt2.at_.same ((Ex.new hp12).trans (Ex.new ha3))⟩
    generalize hH12 : upd (upd (upd H11 p12 (.lst (ds.map V.ref))) a3 (.tup (ds.map V.ref))) x (.ins A.house dx (putF "changes" (.ref a3) (putF "standings" (.ref a2) (putF "sizes" (.ref a1) [])))) = H13
    have hx12 := e12 _ _ x10
    have B12 : ExB x (upd (upd H11 p12 (.lst (ds.map V.ref))) a3 (.tup (ds.map V.ref))) H13 := by subst hH12; exact ExB.upd
    have B13 : ExB x H H13 := B10.trans ((ExB.of e12).trans B12)
    have x13 : H13 x = some (.ins A.house dx (putF "changes" (.ref a3) (putF "standings" (.ref a2) (putF "sizes" (.ref a1) [])))) := by subst hH12; exact upd_same
    have t13 : Tu H13 a1 ns := B12.tu hx12 (t10.same e12)
    have f13 : Fts H13 bs mss := B12.fts hx12 (Fts.ex f10 e12)
    have g13 : Ft H13 a2 (bs.map V.ref) := B12.ft hx12 (g10.same e12)
    have d13 : TT' H13 a3 ds dss := B12.tt hx12 d12
    clear hH12 B12 d12 hx12 e12 hsrt2 e11 hl11
    -- ahead, behind
    dsimp only
    refine st_seq (st_par ?_)
    refine lc_empties (i := 2) rfl (B13.lt hx ha).1 (by rw [List.length_map]; omega) fun D14 H14 ps hD14 e14 hl14 hpl np hnp => ?_
    refine lc_empties (i := 2) rfl (ex_rd e14 (B13.lt hx ha).1) (by rw [List.length_map]; omega) fun D15 H15 qs hD15 e15 hl15 hql nq hnq => ?_
    have hx15 : H15 x = some (.ins A.house dx (putF "changes" (.ref a3) (putF "standings" (.ref a2) (putF "sizes" (.ref a1) [])))) := e15 _ _ (e14 _ _ x13)
    have e1415 := e14.trans e15
    have d15 := d13.ex e1415
    have hN : ps.length = mss.length := by rw [hpl, List.length_map, hal]
    have hM : qs.length = mss.length := by rw [hql, List.length_map, hal]
    have pnq : ∀ p ∈ ps, p ∉ qs := fun p hp hq => by
      have h1 := np.at_ p hp
      rw [nq.new p hq] at h1
      cases h1
    -- the loop
    dsimp only
    refine st_seq ?_
    refine ⟨_, rfl, x, _, _, _, _, rfl, hx15, T.hCls, T.hChanges, lk_same _ _ _, a3, rfl, ⟨_, rd_t d15.1⟩, ?_⟩
    refine for_it (walk_tup (xs := ds.map V.ref)) (fun i σ' H' => σ'[0]? = some (some (.ref x)) ∧ σ'[5]? = some (some (.ref D14)) ∧ σ'[6]? = some (some (.ref D15)) ∧ σ'.length = 12 ∧ (∀ b o, b ∉ ps → b ∉ qs → H15 b = some o → H' b = some o) ∧
      Lsts H' ps (fun j => outs (dss.take i) (j : Nat)) ∧ Lsts H' qs (fun j => inns (dss.take i) (j : Nat))) ⟨rfl, rfl, rfl, rfl, fun _ _ _ _ h => h, ?_, ?_⟩ (fun i σ' H' _ p => ?_) (fun i y σ' H1' H2' hi p yy => ?_) (fun σ' H' p => ?_)
    · exact fun j p hj => e15 _ _ (np.at_ p (List.mem_of_getElem? hj))
    · exact fun j p hj => nq.at_ p (List.mem_of_getElem? hj)
    · have ext : ExT H15 H' := fun b o h n => p.2.2.2.2.1 b o (fun hb => n [] (Option.some.inj (h.symm.trans (e15 _ _ (np.at_ b hb))))) (fun hb => n [] (Option.some.inj (h.symm.trans (nq.at_ b hb)))) h
      exact rd_t (Rd.exT d15.1 ext fun _ z => nomatch z)
    · obtain ⟨p0, p5, p6, pl, pk, lp, lq⟩ := p
      obtain ⟨rfl, yy⟩ := yy
      obtain ⟨c, ec, rfl⟩ := get_map yy
      obtain ⟨ms, ems, hm⟩ := paired_at d15.2 ec
      obtain ⟨s1, g1, ems1, hs0, hs1, hg0, hg1, _⟩ := hcv ms (hperm.mem_iff.mp (List.mem_of_getElem? ems))
      have ext : ExT H15 H2' := fun b o h n => pk b o (fun hb => n [] (Option.some.inj (h.symm.trans (e15 _ _ (np.at_ b hb))))) (fun hb => n [] (Option.some.inj (h.symm.trans (nq.at_ b hb)))) h
      have hm' := hm.exT ext
      subst ems1
      refine ⟨c, _, rfl, (rd_t hm'), rfl, _, _, rfl, _, _, rfl, rfl, ?_⟩
      obtain ⟨m, rfl⟩ : ∃ m : Nat, s1 = m := ⟨s1.toNat, by omega⟩
      obtain ⟨g, rfl⟩ : ∃ m : Nat, g1 = m := ⟨g1.toNat, by omega⟩
      have hmN : m < ps.length := by omega
      have hgN : g < qs.length := by omega
      generalize hσ : (σ'.set 7 (some (V.int (m : Nat)))).set 8 (some (V.int (g : Nat))) = σ2
      have g0 : σ2[0]? = some (some (.ref x)) := by subst hσ; simp [p0]
      have g5 : σ2[5]? = some (some (.ref D14)) := by subst hσ; simp [p5]
      have g6 : σ2[6]? = some (some (.ref D15)) := by subst hσ; simp [p6]
      have g7 : σ2[7]? = some (some (.int (m : Nat))) := by subst hσ; simp [pl]
      have g8 : σ2[8]? = some (some (.int (g : Nat))) := by subst hσ; simp [pl]
      have gl : σ2.length = 12 := by subst hσ; simp [pl]
      have hD14ps : D14 ∉ ps := hnp
      have l14 : H14 D14 = some (.lst (ps.map V.ref)) := hl14
      have l14' : H15 D14 = some (.lst (ps.map V.ref)) := e15 _ _ hl14
      have D14qs : D14 ∉ qs := fun hb => by rw [nq.new _ hb] at l14; cases l14
      have D15ps : D15 ∉ ps := fun hb => by rw [np.at_ _ hb] at hD15; cases hD15
      have k14 := pk _ _ hD14ps D14qs l14'
      have k15 := pk _ _ D15ps hnq hl15
      obtain ⟨pm, hpm⟩ : ∃ q, ps[m]? = some q := ⟨_, List.getElem?_eq_getElem hmN⟩
      obtain ⟨qg, hqg⟩ : ∃ q, qs[g]? = some q := ⟨_, List.getElem?_eq_getElem hgN⟩
      have pmm := List.mem_of_getElem? hpm
      have qgm := List.mem_of_getElem? hqg
      have lpm : H2' pm = some (.lst ((outs (dss.take i) (m : Nat)).map V.int)) := lp m pm hpm
      have lqg : H2' qg = some (.lst ((inns (dss.take i) (g : Nat)).map V.int)) := lq g qg hqg
      have dlen : dss.length ≤ 10000 := by rw [hperm.length_eq]; exact hcz
      have bo : ∀ (f : List Int → Option Int), (((dss.take i).filterMap f).map V.int).length < sizeLine := fun f => by
        have h1 := List.length_filterMap_le f (dss.take i)
        rw [List.length_take] at h1
        rw [List.length_map]
        exact sz_lt (by omega)
      have bo1 : ((outs (dss.take i) (m : Nat)).map V.int).length < sizeLine := bo _
      have bo2 : ((inns (dss.take i) (g : Nat)).map V.int).length < sizeLine := bo _
      have nD15 : D15 ≠ pm := fun z => D15ps (z ▸ pmm)
      have nqg : qg ∉ ps := fun z => pnq _ z qgm
      have npm : pm ∉ qs := pnq _ pmm
      refine ⟨_, g5, _, g7, D14, _, _, _, rfl, rfl, sq_of k14, atI_nat (by rw [List.getElem?_map, hpm]; rfl), tyL (sq_of lpm), _, g8, pm, _, _, rfl, rfl, lpm, bo1, ?_⟩
      have lqg' : (upd H2' pm (.lst ((outs (dss.take i) (m : Nat)).map V.int ++ [V.int (g : Nat)]))) qg = some (.lst ((inns (dss.take i) (g : Nat)).map V.int)) := by rw [upd_ne (fun z : qg = pm => npm (z ▸ qgm))]; exact lqg
      refine ⟨_, g6, _, g8, D15, _, _, _, rfl, rfl, sq_of (by rw [upd_ne nD15]; exact k15), atI_nat (by rw [List.getElem?_map, hqg]; rfl), tyL (sq_of lqg'), _, g7, qg, _, _, rfl, rfl, lqg', bo2, g0, g5, g6, gl, fun b o hb hc h => ?_, ?_, ?_⟩
      · rw [upd_ne (fun z : b = qg => hc (z ▸ qgm)), upd_ne (fun z : b = pm => hb (z ▸ pmm))]
        exact pk b o hb hc h
      · have h1 := (Lsts.put lp np.nd hpm (g : Int)).other nqg (.lst ((inns (dss.take i) (g : Nat)).map V.int ++ [V.int (m : Nat)]))
        rw [List.map_append] at h1
        refine h1.fn fun j => ?_
        rw [take_next ems, outs_snoc]
        by_cases hj : j = m
        · subst hj; rw [if_pos rfl, if_pos rfl]
        · rw [if_neg hj, if_neg (fun z => hj (Int.ofNat_inj.mp z).symm)]
      · have h1 := Lsts.put (lq.other npm (.lst ((outs (dss.take i) (m : Nat)).map V.int ++ [V.int (g : Nat)]))) nq.nd hqg (m : Int)
        rw [List.map_append] at h1
        refine h1.fn fun j => ?_
        rw [take_next ems, inns_snoc]
        by_cases hj : j = g
        · subst hj; rw [if_pos rfl, if_pos rfl]
        · rw [if_neg hj, if_neg (fun z => hj (Int.ofNat_inj.mp z).symm)]
    · obtain ⟨p0, p5, p6, pl, pk, lp, lq⟩ := p
      have tk : dss.take (ds.map V.ref).length = dss := by rw [List.length_map, Paired.length d15.2, List.take_length]
      rw [tk] at lp lq
      have l14' : H15 D14 = some (.lst (ps.map V.ref)) := e15 _ _ hl14
      have D14qs : D14 ∉ qs := fun hb => by rw [nq.new _ hb] at hl14; cases hl14
      have D15ps : D15 ∉ ps := fun hb => by rw [np.at_ _ hb] at hD15; cases hD15
      have k14 := pk _ _ hnp D14qs l14'
      have k15 := pk _ _ D15ps hnq hl15
      have ext : ExT H15 H' := fun b o h n => pk b o (fun hb => n [] (Option.some.inj (h.symm.trans (e15 _ _ (np.at_ b hb))))) (fun hb => n [] (Option.some.inj (h.symm.trans (nq.at_ b hb)))) h
      have B15 : ExB x H H' := fun b o hb h => by
        have h13 := B13 b o hb h
        refine pk b o (fun z => ?_) (fun z => ?_) (e1415 b o h13)
        · rw [np.new b z] at h13; cases h13
        · have h14 := e14 b o h13
          rw [nq.new b z] at h14; cases h14
      have xx := ext _ _ hx15 (fun _ z => nomatch z)
      have r1 : Paired (Ls H') ps ((List.range mss.length).map fun j => outs dss (j : Nat)) := lsts_paired lp hN
      have r2 : Paired (Ls H') qs ((List.range mss.length).map fun j => inns dss (j : Nat)) := lsts_paired lq hM
      dsimp only
      refine st_seq (st_fld (st_cb ?_))
      refine lc_rows (i := 5) p5 (by rw [pl]; decide) (.inl k14) r1 (by omega) fun D16 H16 rs hD16 e16 l16 t16 => ?_
      refine ⟨D16, _, rfl, .inl ⟨rd_l (.inl l16), fun a4 ha4 => ?_⟩⟩
      have e17 := e16.trans (Ex.new (o := .tup (rs.map V.ref)) ha4)
      refine ⟨_, p0, x, _, _, _, rfl, e17 _ _ xx, T.hCls, T.hAhead, pfz (pf (pf (pf pf0))), ?_⟩
      generalize hH17 : upd (upd H16 a4 (.tup (rs.map V.ref))) x (.ins A.house dx (putF "ahead" (.ref a4) (putF "changes" (.ref a3) (putF "standings" (.ref a2) (putF "sizes" (.ref a1) []))))) = H17
      have B17a : ExB x (upd H16 a4 (.tup (rs.map V.ref))) H17 := by subst hH17; exact ExB.upd
      have hx17 := e17 _ _ xx
      have B17 : ExB x H' H17 := (ExB.of e17).trans B17a
      have x17 : H17 x = some (.ins A.house dx (putF "ahead" (.ref a4) (putF "changes" (.ref a3) (putF "standings" (.ref a2) (putF "sizes" (.ref a1) []))))) := by subst hH17; exact upd_same
      have t4 : TT' H17 a4 rs ((List.range mss.length).map fun j => outs dss (j : Nat)) := B17a.tt hx17 ⟨.inl upd_same, t16.same (Ex.new ha4)⟩
      clear hH17 B17a hx17 e17 l16 t16 e16 ha4
      have kp : ∀ (b : Addr) (us : List V), H' b = some (.lst us) → H17 b = some (.lst us) := fun b us h => B17 b _ (ne_of h xx (fun z => nomatch z)) h
      have r2' : Paired (Ls H17) qs ((List.range mss.length).map fun j => inns dss (j : Nat)) := Paired.mapP r2 fun q ms t => B17.rd xx t fun _ _ _ z => nomatch z
      dsimp only
      refine st_fld (st_cb ?_)
      refine lc_rows (i := 6) p6 (by rw [pl]; decide) (.inl (kp _ _ k15)) r2' (by omega) fun D18 H18 bs5 hD18 e18 l18 t18 => ?_
      refine ⟨D18, _, rfl, .inl ⟨rd_l (.inl l18), fun a5 ha5 => ?_⟩⟩
      have e19 := e18.trans (Ex.new (o := .tup (bs5.map V.ref)) ha5)
      refine ⟨_, p0, x, _, _, _, rfl, e19 _ _ x17, T.hCls, T.hBehind, pfz (pf (pf (pf (pf pf0)))), ?_⟩
      have hx19 := e19 _ _ x17
      have B20 : ExB x _ _ := ExB.upd (x := x) (H := upd H18 a5 (.tup (bs5.map V.ref))) (o := .ins A.house dx (putF "behind" (.ref a5) (putF "ahead" (.ref a4) (putF "changes" (.ref a3) (putF "standings" (.ref a2) (putF "sizes" (.ref a1) []))))))
      have B1320 := ((ExB.of e18).trans (ExB.of (Ex.new (o := .tup (bs5.map V.ref)) ha5))).trans B20
      have B13' : ExB x H13 H' := fun b o hb h13 => by
        refine pk b o (fun z => ?_) (fun z => ?_) (e1415 b o h13)
        · rw [np.new b z] at h13; cases h13
        · have h14 := e14 b o h13
          rw [nq.new b z] at h14; cases h14
      have B1 := (B13'.trans B17).trans B1320
      refine q _ dss ((B15.trans B17).trans B1320) hperm ⟨dx, a1, a2, a4, a5, _, _, rs, bs5, upd_same, ?_, ?_, ?_, lk_same _ _ _, B1.tu x13 t13, B1.ft x13 g13, B1.fts x13 f13, B1320.tt x17 t4, B20.tt hx19 ⟨.inl upd_same, t18.same (Ex.new ha5)⟩⟩
      · rw [lk_ne (by decide), lk_ne (by decide), lk_ne (by decide), lk_ne (by decide), lk_same]
      · rw [lk_ne (by decide), lk_ne (by decide), lk_ne (by decide), lk_same]
      · rw [lk_ne (by decide), lk_same]
end
end Kx
namespace Kx
open PySem PySem.Spec PyProof.Rows L2
open Evl (Ex ex_rd ex_l ex_t st_of sq_of sz_lt sz_of)
theorem fts_at {H : Hp} {as : List Addr} {nss : List (List Int)} (h : Fts H as nss) {k : Nat} {row : List Int} (e : nss[k]? = some row) : ∃ a, as[k]? = some a ∧ Ft H a (row.map V.int) := paired_at (paired_flip h) e
theorem tus_at {H : Hp} {as : List Addr} {nss : List (List Int)} (h : Tus H as nss) {k : Nat} {row : List Int} (e : nss[k]? = some row) : ∃ a, as[k]? = some a ∧ Tu H a row := paired_at (paired_flip h) e
theorem atI_map {α : Type} {xs : List α} {f : α → V} {j : Nat} {v : α} (h : xs[j]? = some v) : atI (xs.map f) (j : Int) = some (f v) := atI_nat (by rw [List.getElem?_map, h]; rfl)
theorem ex2 {H H' : Hp} {p : Addr} {o : HO} (e : Ex H H') (h : H' p = none) : Ex H (upd H' p o) := e.trans (Ex.new h)
section
variable {P : Program} {w : World} {K : PySem.W.Frag} {mg : PySem.Str → Option Value} {base : Heap} {A : Ads}
theorem house_ty (T : Txt P K mg A) {H : Hp} {x dx : Addr} {fs : List (PySem.Str × V)} (h : H x = some (.ins A.house dx fs)) : TyX K H (.ref x) (.ref A.house) := .base (.ins h T.hCls T.hKa T.hKn T.hKt T.hKm)
theorem kit_same {K : PySem.W.Frag} {a : Addr} : PySem.W.kitOne K (.ref a) (.ref a) = some true := by
  unfold PySem.W.kitOne
  rw [if_pos (by simp)]
theorem kLenO {X : Cx} {k : Nat} (T : Txt P K mg A) (hr : Room (k + 2) X.A) (h1 : X.prog = P) (h2 : X.w = w) (h3 : X.K = K) (h4 : X.mg = mg) (h5 : X.base = base) : CallR X (.builtin "len") (rLenOwn A.house (spHLen A)) := by
  subst h1 h2 h3 h4 h5
  obtain ⟨fd, hb, F⟩ := ok_hlen (P := X.prog) (w := X.w) (K := X.K) (mg := X.mg) (base := X.base) T
  exact cr_lenOwn T.hLenM T.hLenT F (hr.mono (by omega)) hb
theorem lenO {H : Hp} {x : Addr} {ns : List Int} {nss Ah Bh : List (List Int)} (h : HsAt A H x ns nss Ah Bh) (hz : nss.length < 100000) {Q : VK} (q : Q (.int nss.length) H) : rLenOwn A.house (spHLen A) [.ref x] H Q := by
  have h' := h
  obtain ⟨dx, a1, a2, a4, a5, fs, as, rs, bs, h0, _⟩ := h
  exact ⟨x, dx, fs, rfl, h0, ⟨x, ns, nss, Ah, Bh, rfl, h', nss.length, rfl, by omega, q⟩⟩
structure spNeedHouse (A : Ads) (vs : List V) (H : Hp) (Q : VK) (E : XK) : Prop where
  ex : ∃ (x dx : Addr) (fs : List (PySem.Str × V)), vs = [.ref x] ∧ H x = some (.ins A.house dx fs) ∧ Q (.ref x) H
theorem sc24 : FnScope ["value"] ["value"] (defScope (topS 24)) := ⟨rfl, rfl, rfl, by decide +kernel, rfl, by decide +kernel, by decide +kernel⟩
/- slots: 0 value -/
theorem ok_need_house (T : Txt P K mg A) : DOk P w K mg base CX0 1 "need_house" ["value"] [] (spNeedHouse A) := by
  refine T.need_house.ok0 sc24 (fun vs H Q E h => ?_) (fun _ _ _ _ _ _ us hl => match us, hl with | [_], _ => rfl) (fun f cdv A' outer s H vs Q E hr h => ?_)
  · obtain ⟨x, dx, fs, rfl, _⟩ := h
    rfl
  · obtain ⟨x, dx, fs, rfl, hx, q⟩ := h
    refine ⟨_, (pss_cons (ps_if (pt_not (pt_val (pe_callB (id := "isinstance") call_isi (by rfl) (T.b "isinstance") (by decide +kernel) (pa_cons (pv 0) (pa_cons (pe_glob (v := .ref A.house) (by rfl) T.House rfl) pa_nil))))) (pss_one ps_never) pss_nil)
      (pss_one (ps_ret (pv 0)))), ?_⟩
    exact ⟨_, rfl, _, _, _, _, true, rfl, .own _, house_ty T hx, kit_same, _, rfl, _, rfl, q⟩
theorem HsAt.need {H : Hp} {x : Addr} {ns : List Int} {nss Ah Bh : List (List Int)} {Q : VK} {E : XK} (h : HsAt A H x ns nss Ah Bh) (q : Q (.ref x) H) : spNeedHouse A [.ref x] H Q E := by
  obtain ⟨dx, a1, a2, a4, a5, fs, as, rs, bs, h0, _⟩ := h
  exact ⟨x, dx, fs, rfl, h0, q⟩
structure spRisingLot (vs : List V) (H : Hp) (Q : VK) (E : XK) : Prop where
  ex : ∃ (a : Addr) (c : Int) (ns : List Int), vs = [.ref a, .int c] ∧ Tu H a ns ∧ (∀ n ∈ ns, 0 ≤ n ∧ n < c) ∧ ns.Pairwise (· < ·) ∧ ∀ H', Ex H H' → Q (.ref a) H'
theorem sc26 : FnScope ["value", "count", "at", "one"] ["value", "count"] (defScope (topS 26)) := ⟨rfl, rfl, rfl, by decide +kernel, rfl, by decide +kernel, by decide +kernel⟩
/- slots: 0 value, 1 count, 2 at, 3 one -/
theorem asc_prev {ns : List Int} (h : ns.Pairwise (· < ·)) {i : Nat} {a b : Int} (ha : ns[i]? = some a) (hb : ns[i + 1]? = some b) : a < b := by
  obtain ⟨h1, e1⟩ := List.getElem?_eq_some_iff.mp ha
  obtain ⟨h2, e2⟩ := List.getElem?_eq_some_iff.mp hb
  have := List.pairwise_iff_getElem.mp h i (i + 1) h1 h2 (by omega)
  rw [e1, e2] at this
  exact this
theorem ok_rising_lot (T : Txt P K mg A) : DOk P w K mg base CX0 3 "rising_lot" ["value", "count"] [] spRisingLot := by
  have D_is_sequence := (ok_is_sequence (P := P) (w := w) (base := base) T).mono (by decide : 1 ≤ 2)
  have D_is_number := (ok_is_number (P := P) (w := w) (base := base) T)
  refine T.rising_lot.ok0 sc26 (fun vs H Q E h => ?_) (fun _ _ _ _ _ _ us hl => match us, hl with | [_, _], _ => rfl) (fun f cdv A' outer s H vs Q E hr h => ?_)
  · obtain ⟨a, c, ns, rfl, _⟩ := h
    rfl
  · obtain ⟨a, c, ns, rfl, ha, hn, hasc, q⟩ := h
    refine ⟨_, (pss_cons (ps_if (pt_not (pt_val (pe_d D_is_sequence hr (by rfl) pass0 (pa_cons (pv 0) pa_nil)))) (pss_one ps_never) pss_nil)
      (pss_cons (ps_for PassesOwn.never rfl (kEnum (K := K) rfl (by rfl) (T.b "enumerate") (pa_cons (pv 0) pa_nil)) (kTgt (K := K) (n := 2) rfl rfl (pgs_cons (pg_name (i := 2) sc26.nd rfl (Or.inl rfl)) (pgs_cons (pg_name (i := 3) sc26.nd rfl (Or.inl rfl)) pgs_nil)) rfl rfl) (pss_one (ps_if (PW.pt (pw_or (pt_not (pt_val (pe_d D_is_number hr (by rfl) pass0 (pa_cons (pv 3) pa_nil)))) (pw_or (pt_cmpR op_ge (pv 3) (pv 1) (nomark _)) (pw_or1 (PW.pt (pw_and (pt_cmpR op_gt (pv 2) pe_int (nomark _)) (pw_and1 (pt_cmpR op_le (pv 3) (pe_ix (kIxT (K := K) rfl) (pv 0) (pe_op op_sub (pv 2) pe_int) (fun _ _ => rfl)) (nomark _))))))))) (pss_one ps_never) pss_nil)))
      (pss_one (ps_ret (pe_callTy (T := "tuple") (kTup (K := K) rfl) (by rfl) (T.b "tuple") (by decide +kernel) (pa_cons (pv 0) pa_nil)))))), ?_⟩
    refine ⟨_, rfl, seq_tup ha fun p o hp => ⟨_, rfl, ?_⟩⟩
    have e0 : Ex H (upd H p o) := Ex.new hp
    refine ⟨_, rfl, a, _, rfl, .inr ⟨rd_t (ex_rd e0 ha), ?_⟩⟩
    refine for_it walk_enumT (fun i σ' H' => σ'[0]? = some (some (.ref a)) ∧ σ'[1]? = some (some (.int c)) ∧ σ'.length = 4 ∧ Ex H H') ⟨rfl, rfl, rfl, e0⟩ (fun i σ' H' _ p => rd_t (ex_rd p.2.2.2 ha)) (fun i x σ' H1 H2 hi p y => ?_) (fun σ' H' p => ?_)
    · obtain ⟨p0, p1, pl, pe⟩ := p
      obtain ⟨Tp, x1, x2, rfl, hT, rfl, y1, y2⟩ := y
      cases (Option.some.inj y1)
      obtain ⟨n, en, rfl⟩ := get_map y2
      obtain ⟨hn0, hnc⟩ := hn n (List.mem_of_getElem? en)
      refine ⟨Tp, _, rfl, st_of upd_same, rfl, _, _, rfl, _, _, rfl, rfl, ?_⟩
      have e2 := ex2 (o := .tup [.int (i : Nat), .int n]) pe hT
      generalize hσ : (σ'.set 2 (some (V.int (i : Nat)))).set 3 (some (V.int n)) = σ2
      have g0 : σ2[0]? = some (some (.ref a)) := by subst hσ; simp [p0]
      have g1 : σ2[1]? = some (some (.int c)) := by subst hσ; simp [p1]
      have g2 : σ2[2]? = some (some (.int (i : Nat))) := by subst hσ; simp [pl]
      have g3 : σ2[3]? = some (some (.int n)) := by subst hσ; simp [pl]
      have gl : σ2.length = 4 := by subst hσ; simp [pl]
      refine ⟨_, g3, num_nat hn0 ⟨_, rfl, _, g3, _, g1, _, _, rfl, rfl, false, by simp; omega, _, g2, _, _, rfl, rfl, decide (0 < i), by simp, ?_⟩⟩
      cases i with
      | zero => exact ⟨g0, g1, gl, e2⟩
      | succ j =>
        have hj : j < ns.length := by
          have := (List.getElem?_eq_some_iff.mp en).1
          omega
        obtain ⟨m, em⟩ : ∃ m, ns[j]? = some m := ⟨_, List.getElem?_eq_getElem hj⟩
        have := asc_prev hasc em en
        refine ⟨_, g3, _, g0, _, g2, _, _, rfl, rfl, a, _, _, _, rfl, rfl, rd_t (ex_rd e2 ha), by rw [show ((j + 1 : Nat) : Int) - 1 = (j : Nat) by omega]; exact atI_map em, _, _, rfl, rfl, false, by simp; omega, g0, g1, gl, e2⟩
    · obtain ⟨p0, p1, pl, pe⟩ := p
      exact ⟨_, p0, a, _, rfl, .inr ⟨rd_t (ex_rd pe ha), q _ pe⟩⟩
structure spNeedStandings (A : Ads) (vs : List V) (H : Hp) (Q : VK) (E : XK) : Prop where
  ex : ∃ (x a : Addr) (ns : List Int) (nss Ah Bh : List (List Int)) (ls : List Int), vs = [.ref x, .ref a] ∧ HsAt A H x ns nss Ah Bh ∧ nss.length < 100000 ∧ Tu H a ls ∧ (∀ n ∈ ls, 0 ≤ n ∧ n < nss.length) ∧ ls.Pairwise (· < ·) ∧ ∀ H', Ex H H' → Q (.ref a) H'
theorem sc27 : FnScope ["house", "value"] ["house", "value"] (defScope (topS 27)) := ⟨rfl, rfl, rfl, by decide +kernel, rfl, by decide +kernel, by decide +kernel⟩
/- slots: 0 house, 1 value -/
theorem ok_need_standings (T : Txt P K mg A) : DOk P w K mg base CX0 4 "need_standings" ["house", "value"] [] (spNeedStandings A) := by
  have D_need_house := (ok_need_house (P := P) (w := w) (base := base) T).mono (by decide : 1 ≤ 3)
  have D_rising_lot := (ok_rising_lot (P := P) (w := w) (base := base) T)
  refine T.need_standings.ok0 sc27 (fun vs H Q E h => ?_) (fun _ _ _ _ _ _ us hl => match us, hl with | [_, _], _ => rfl) (fun f cdv A' outer s H vs Q E hr h => ?_)
  · obtain ⟨x, a, ns, nss, Ah, Bh, ls, rfl, _⟩ := h
    rfl
  · obtain ⟨x, a, ns, nss, Ah, Bh, ls, rfl, hx, hz, ha, hn, hasc, q⟩ := h
    refine ⟨_, (pss_cons (ps_expr (pe_d D_need_house hr (by rfl) pass0 (pa_cons (pv 0) pa_nil)))
      (pss_cons (ps_if (pt_cmpR op_isN (pv 1) pe_non (nomark _)) (pss_one ps_never) pss_nil)
      (pss_one (ps_ret (pe_d D_rising_lot hr (by rfl) pass0 (pa_cons (pv 1) (pa_cons (pe_callB (id := "len") (kLenO (A := A) T hr rfl rfl rfl rfl rfl) (by rfl) (T.b "len") (by decide +kernel) (pa_cons (pv 0) pa_nil)) pa_nil))))))), ?_⟩
    refine ⟨_, rfl, hx.need ⟨_, rfl, rfl, false, rfl, ?_⟩⟩
    exact ⟨_, rfl, st_cb ⟨_, rfl, lenO hx hz ⟨a, _, ls, rfl, ha, hn, hasc, fun H' e => q H' e⟩⟩⟩
end
end Kx
namespace Kx
open PySem PySem.Spec PyProof.Rows L2
open Evl (Ex ex_rd ex_l ex_t st_of sq_of sz_lt sz_of)
section
variable {P : Program} {w : World} {K : PySem.W.Frag} {mg : PySem.Str → Option Value} {base : Heap} {A : Ads}
/-- numbers, then perhaps a None -/
structure Qs (ys : List V) (ms : List Int) (bad : Bool) : Prop where
  eq : ys = ms.map V.int ++ (if bad then [V.non] else [])
  nn : ∀ m ∈ ms, 0 ≤ m
structure spNeedQuestion (A : Ads) (vs : List V) (H : Hp) (Q : VK) (E : XK) : Prop where
  ex : ∃ (x b : Addr) (ns : List Int) (nss Ah Bh : List (List Int)) (ys : List V) (ms : List Int) (bad : Bool), vs = [.ref x, .ref b] ∧ HsAt A H x ns nss Ah Bh ∧ nss.length < 100000 ∧ (Rd H b (.lst ys) ∨ Rd H b (.tup ys)) ∧ Qs ys ms bad ∧
    (ys.length ≠ nss.length → ∀ H' d, Ex H H' → H' d = none → E (.ref A.eQuestion) (some d) (upd H' d (.xd [("at", .int (-1))]))) ∧
    (ys.length = nss.length → bad = true → ∀ H' d, Ex H H' → H' d = none → E (.ref A.eQuestion) (some d) (upd H' d (.xd [("at", .int ms.length)]))) ∧
    (ys.length = nss.length → bad = false → ∀ H' l, Ex H H' → Rd H' l (.tup ys) → Q (.ref l) H')
theorem sc28 : FnScope ["house", "value", "at", "answer"] ["house", "value"] (defScope (topS 28)) := ⟨rfl, rfl, rfl, by decide +kernel, rfl, by decide +kernel, by decide +kernel⟩
/- slots: 0 house, 1 value, 2 at, 3 answer -/
theorem ok_need_question (T : Txt P K mg A) : DOk P w K mg base (L2.CX P w) 3 "need_question" ["house", "value"] [] (spNeedQuestion A) := by
  have D_need_house := (ok_need_house (P := P) (w := w) (base := base) T).mono (by decide : 1 ≤ 2)
  have D_is_sequence := (ok_is_sequence (P := P) (w := w) (base := base) T).mono (by decide : 1 ≤ 2)
  have D_is_number := (ok_is_number (P := P) (w := w) (base := base) T)
  refine T.need_question.ok sc28 (fun vs H Q E h => ?_) (fun _ _ _ _ _ _ us hl => match us, hl with | [_, _], _ => rfl) (fun f cdv A' outer s H vs Q E hr h => ?_)
  · obtain ⟨x, b, ns, nss, Ah, Bh, ys, ms, bad, rfl, _⟩ := h
    rfl
  · obtain ⟨x, b, ns, nss, Ah, Bh, ys, ms, bad, rfl, hx, hz, hb, hq, qe, qn, qk⟩ := h
    refine ⟨_, (pss_cons (ps_expr (pe_d D_need_house hr (by rfl) pass0 (pa_cons (pv 0) pa_nil)))
      (pss_cons (ps_if (PW.pt (pw_or (pt_not (pt_val (pe_d D_is_sequence hr (by rfl) pass0 (pa_cons (pv 1) pa_nil)))) (pw_or1 (pt_cmpR op_ne (pe_callB (id := "len") (kLen (K := K) rfl) (by rfl) (T.b "len") (by decide +kernel) (pa_cons (pv 1) pa_nil)) (pe_callB (id := "len") (kLenO (A := A) T hr rfl rfl rfl rfl rfl) (by rfl) (T.b "len") (by decide +kernel) (pa_cons (pv 0) pa_nil)) (nomark _))))) (pss_one (ps_raiseOw rfl T.InvalidQuestion hr (takes_of rfl rfl rfl rfl) (pa_cons (pe_un un_neg pe_int) pa_nil))) pss_nil)
      (pss_cons (ps_for (passes_of rfl) rfl (kEnum (K := K) rfl (by rfl) (T.b "enumerate") (pa_cons (pv 1) pa_nil)) (kTgt (K := K) (n := 2) rfl rfl (pgs_cons (pg_name (i := 2) sc28.nd rfl (Or.inl rfl)) (pgs_cons (pg_name (i := 3) sc28.nd rfl (Or.inl rfl)) pgs_nil)) rfl rfl) (pss_one (ps_if (pt_not (pt_val (pe_d D_is_number hr (by rfl) pass0 (pa_cons (pv 3) pa_nil)))) (pss_one (ps_raiseOw rfl T.InvalidQuestion hr (takes_of rfl rfl rfl rfl) (pa_cons (pv 2) pa_nil))) pss_nil)))
      (pss_one (ps_ret (pe_callTy (T := "tuple") (kTup (K := K) rfl) (by rfl) (T.b "tuple") (by decide +kernel) (pa_cons (pv 1) pa_nil))))))), ?_⟩
    refine ⟨_, rfl, hx.need ?_⟩
    have hyl : ys.length = ms.length + (if bad then 1 else 0) := by rw [hq.eq]; cases bad <;> simp
    rcases hb with hb | hb
    -- a list
    · refine ⟨_, rfl, seq_lst hb fun p o hp => ⟨_, rfl, ?_⟩⟩
      have e0 : Ex H (upd H p o) := Ex.new hp
      refine ⟨_, rfl, b, _, rfl, .inl (rd_l (ex_rd e0 hb)), st_cb ⟨_, rfl, lenO (hx.same e0) hz ?_⟩⟩
      by_cases hl : ys.length = nss.length
      · refine ⟨rfl, false, by simp [hl], ?_⟩
        refine ⟨_, rfl, b, _, rfl, .inl ⟨rd_l (ex_rd e0 hb), ?_⟩⟩
        refine for_it walk_enum (fun i σ' H' => σ'[1]? = some (some (.ref b)) ∧ σ'.length = 4 ∧ Ex H H' ∧ (bad = true → i ≤ ms.length)) ⟨rfl, rfl, e0, fun _ => Nat.zero_le _⟩ (fun i σ' H' _ p => rd_l (ex_rd p.2.2.1 hb)) (fun i x σ' H1 H2 hi p y => ?_) (fun σ' H' p => ?_)
        · obtain ⟨p1, pl, pe, pb⟩ := p
          obtain ⟨Tp, x1, x2, rfl, hT, rfl, y1, y2⟩ := y
          cases (Option.some.inj y1)
          have y2 : ys[i]? = some x2 := y2
          refine ⟨Tp, _, rfl, st_of upd_same, rfl, _, _, rfl, _, _, rfl, rfl, ?_⟩
          have e2 := ex2 (o := .tup [.int (i : Nat), x2]) pe hT
          generalize hσ : (σ'.set 2 (some (V.int (i : Nat)))).set 3 (some x2) = σ2
          have g1 : σ2[1]? = some (some (.ref b)) := by subst hσ; simp [p1]
          have g2 : σ2[2]? = some (some (.int (i : Nat))) := by subst hσ; simp [pl]
          have g3 : σ2[3]? = some (some x2) := by subst hσ; simp [pl]
          have gl : σ2.length = 4 := by subst hσ; simp [pl]
          by_cases him : i < ms.length
          · have : x2 = V.int (ms[i]) := by
              rw [hq.eq, List.getElem?_append_left (by rw [List.length_map]; exact him), List.getElem?_map, List.getElem?_eq_getElem him] at y2
              exact (Option.some.inj y2).symm
            subst this
            refine ⟨_, g3, num_nat (hq.nn _ (List.getElem_mem him)) ⟨_, rfl, ?_⟩⟩
            exact ⟨g1, gl, e2, fun _ => by omega⟩
          · have hbad : bad = true := by
              cases bad with
              | true => rfl
              | false => simp at hyl; omega
            subst hbad
            have hie : i = ms.length := by have := pb rfl; omega
            have : x2 = V.non := by
              rw [hq.eq, List.getElem?_append_right (by rw [List.length_map]; omega), List.length_map, hie, Nat.sub_self] at y2
              exact (Option.some.inj y2).symm
            subst this
            refine ⟨_, g3, num_not .non rfl ⟨_, rfl, _, g2, _, rfl, fun d hd => ?_⟩⟩
            have := qn hl rfl _ _ e2 hd
            rw [← hie] at this
            exact this
        · obtain ⟨p1, pl, pe, pb⟩ := p
          have hbad : bad = false := by
            cases bad with
            | false => rfl
            | true =>
              have := pb rfl
              simp at hyl
              omega
          exact ⟨_, p1, b, _, rfl, .inl ⟨rd_l (ex_rd pe hb), fun l hl' => qk hl hbad _ _ (ex2 pe hl') (.inl upd_same)⟩⟩
      · refine ⟨rfl, true, by simp; omega, ?_⟩
        exact ⟨_, rfl, _, rfl, fun d hd => qe hl _ _ e0 hd⟩
    -- a tuple
    · refine ⟨_, rfl, seq_tup hb fun p o hp => ⟨_, rfl, ?_⟩⟩
      have e0 : Ex H (upd H p o) := Ex.new hp
      refine ⟨_, rfl, b, _, rfl, .inr (rd_t (ex_rd e0 hb)), st_cb ⟨_, rfl, lenO (hx.same e0) hz ?_⟩⟩
      by_cases hl : ys.length = nss.length
      · refine ⟨rfl, false, by simp [hl], ?_⟩
        refine ⟨_, rfl, b, _, rfl, .inr ⟨rd_t (ex_rd e0 hb), ?_⟩⟩
        refine for_it walk_enumT (fun i σ' H' => σ'[1]? = some (some (.ref b)) ∧ σ'.length = 4 ∧ Ex H H' ∧ (bad = true → i ≤ ms.length)) ⟨rfl, rfl, e0, fun _ => Nat.zero_le _⟩ (fun i σ' H' _ p => rd_t (ex_rd p.2.2.1 hb)) (fun i x σ' H1 H2 hi p y => ?_) (fun σ' H' p => ?_)
        · obtain ⟨p1, pl, pe, pb⟩ := p
          obtain ⟨Tp, x1, x2, rfl, hT, rfl, y1, y2⟩ := y
          cases (Option.some.inj y1)
          have y2 : ys[i]? = some x2 := y2
          refine ⟨Tp, _, rfl, st_of upd_same, rfl, _, _, rfl, _, _, rfl, rfl, ?_⟩
          have e2 := ex2 (o := .tup [.int (i : Nat), x2]) pe hT
          generalize hσ : (σ'.set 2 (some (V.int (i : Nat)))).set 3 (some x2) = σ2
          have g1 : σ2[1]? = some (some (.ref b)) := by subst hσ; simp [p1]
          have g2 : σ2[2]? = some (some (.int (i : Nat))) := by subst hσ; simp [pl]
          have g3 : σ2[3]? = some (some x2) := by subst hσ; simp [pl]
          have gl : σ2.length = 4 := by subst hσ; simp [pl]
          by_cases him : i < ms.length
          · have : x2 = V.int (ms[i]) := by
              rw [hq.eq, List.getElem?_append_left (by rw [List.length_map]; exact him), List.getElem?_map, List.getElem?_eq_getElem him] at y2
              exact (Option.some.inj y2).symm
            subst this
            refine ⟨_, g3, num_nat (hq.nn _ (List.getElem_mem him)) ⟨_, rfl, ?_⟩⟩
            exact ⟨g1, gl, e2, fun _ => by omega⟩
          · have hbad : bad = true := by
              cases bad with
              | true => rfl
              | false => simp at hyl; omega
            subst hbad
            have hie : i = ms.length := by have := pb rfl; omega
            have : x2 = V.non := by
              rw [hq.eq, List.getElem?_append_right (by rw [List.length_map]; omega), List.length_map, hie, Nat.sub_self] at y2
              exact (Option.some.inj y2).symm
            subst this
            refine ⟨_, g3, num_not .non rfl ⟨_, rfl, _, g2, _, rfl, fun d hd => ?_⟩⟩
            have := qn hl rfl _ _ e2 hd
            rw [← hie] at this
            exact this
        · obtain ⟨p1, pl, pe, pb⟩ := p
          have hbad : bad = false := by
            cases bad with
            | false => rfl
            | true =>
              have := pb rfl
              simp at hyl
              omega
          exact ⟨_, p1, b, _, rfl, .inr ⟨rd_t (ex_rd pe hb), qk hl hbad _ _ pe (ex_rd pe hb)⟩⟩
      · refine ⟨rfl, true, by simp; omega, ?_⟩
        exact ⟨_, rfl, _, rfl, fun d hd => qe hl _ _ e0 hd⟩
end
end Kx
namespace Kx
open PySem PySem.Spec PyProof.Rows L2
open Evl (Ex ex_rd ex_l ex_t st_of sq_of sz_lt sz_of)
theorem paired_take {α β : Type} {F : α → β → Prop} : ∀ {xs : List α} {ys : List β}, Paired F xs ys → ∀ {i : Nat}, Paired F (xs.take i) (ys.take i)
  | _, _, _, 0 => by simp only [List.take_zero]; exact .nil
  | _, _, .nil, i + 1 => .nil
  | _, _, .cons h t, i + 1 => .cons h (paired_take t)
/-- a comprehension that gives values -/
theorem lcV {J : It} {n : Nat} {G : Hp → Prop} {Y : Nat → Hp → V → Hp → Prop} (w : Walk J n G Y) {g : TG} {tt : TT} {te : TE} {vs : List Nat} {σ : L2.St} {H1 : Hp} {Qd : Addr → Hp → Prop} (f : Nat → Bool) (fn : Nat → V)
    (hn : n ≤ 50000) (hG : ∀ H', Ex H1 H' → G H')
    (hs : ∀ i x H' H'' (Y0 : Hp → Prop) (Y1 : VK), i < n → Ex H1 H' → Y i H' x H'' → (∀ H3, f i = false → Ex H' H3 → Y0 H3) → (∀ H3, f i = true → Ex H' H3 → Y1 (fn i) H3) →
      g x (wipe σ vs) H'' fun σ2 H2 => wipe σ2 vs = wipe σ vs ∧ tt σ2 H2 fun b H3 => if b = true then te σ2 H3 Y1 else Y0 H3)
    (hd : ∀ D H', H1 D = none → Ex H1 H' → H' D = some (.lst (((List.range n).filter f).map fn)) → Qd D H') :
    ∀ D, H1 D = none → ∃ W : Nat → Nat → Hp → Prop, (∃ m, W 0 m (upd H1 D (.lst []))) ∧ ∀ i m H, W i m H →
      (J.stop i H ∧ Qd D H) ∨ (J.go i H ∧ ∃ Nx : Hp → Prop, (∀ H', Nx H' → ∃ m', m' < m ∧ W (i + 1) m' H') ∧ ∀ x H', J.yld i H x H' → g x (wipe σ vs) H' fun σ2 H2 => wipe σ2 vs = wipe σ vs ∧ tt σ2 H2 fun b H3 =>
        if b = true then te σ2 H3 fun y H4 => ∃ acc, H4 D = some (.lst acc) ∧ acc.length < sizeLine ∧ Nx (upd H4 D (.lst (acc ++ [y]))) else Nx H3) :=
  lcR w f (fun i v _ => v = fn i) hn hG (fun _ _ _ _ _ z => z) (fun i x H' H'' Y0 Y1 hi e y k0 k1 => hs i x H' H'' Y0 Y1 hi e y k0 fun H3 hf e3 => k1 _ _ hf e3 rfl) (fun D H' xs hD e hx pp => hd D H' hD e (by rw [hx, paired_fn pp]))
/-- .. that gives tuples of ints -/
theorem lcU {J : It} {n : Nat} {G : Hp → Prop} {Y : Nat → Hp → V → Hp → Prop} (w : Walk J n G Y) {g : TG} {tt : TT} {te : TE} {vs : List Nat} {σ : L2.St} {H1 : Hp} {Qd : Addr → Hp → Prop} (f : Nat → Bool) (fn : Nat → List Int)
    (hn : n ≤ 50000) (hG : ∀ H', Ex H1 H' → G H')
    (hs : ∀ i x H' H'' (Y0 : Hp → Prop) (Y1 : VK), i < n → Ex H1 H' → Y i H' x H'' → (∀ H3, f i = false → Ex H' H3 → Y0 H3) → (∀ H3 p, f i = true → Ex H' H3 → Tu H3 p (fn i) → Y1 (.ref p) H3) →
      g x (wipe σ vs) H'' fun σ2 H2 => wipe σ2 vs = wipe σ vs ∧ tt σ2 H2 fun b H3 => if b = true then te σ2 H3 Y1 else Y0 H3)
    (hd : ∀ D H' rs, H1 D = none → Ex H1 H' → H' D = some (.lst (rs.map V.ref)) → Tus H' rs (((List.range n).filter f).map fn) → Qd D H') :
    ∀ D, H1 D = none → ∃ W : Nat → Nat → Hp → Prop, (∃ m, W 0 m (upd H1 D (.lst []))) ∧ ∀ i m H, W i m H →
      (J.stop i H ∧ Qd D H) ∨ (J.go i H ∧ ∃ Nx : Hp → Prop, (∀ H', Nx H' → ∃ m', m' < m ∧ W (i + 1) m' H') ∧ ∀ x H', J.yld i H x H' → g x (wipe σ vs) H' fun σ2 H2 => wipe σ2 vs = wipe σ vs ∧ tt σ2 H2 fun b H3 =>
        if b = true then te σ2 H3 fun y H4 => ∃ acc, H4 D = some (.lst acc) ∧ acc.length < sizeLine ∧ Nx (upd H4 D (.lst (acc ++ [y]))) else Nx H3) :=
  lcR w f (fun i v H => ∃ p, v = .ref p ∧ Tu H p (fn i)) hn hG (fun _ _ _ _ e ⟨p, h1, h2⟩ => ⟨p, h1, h2.exT e⟩) (fun i x H' H'' Y0 Y1 hi e y k0 k1 => hs i x H' H'' Y0 Y1 hi e y k0 fun H3 p hf e3 t => k1 _ _ hf e3 ⟨p, rfl, t⟩) (fun D H' xs hD e hx pp => by
    obtain ⟨rs, e1, pr⟩ := refs_of (R := fun k p => Tu H' p (fn k)) pp
    exact hd D H' rs hD e (by rw [← e1]; exact hx) (paired_mapR (paired_flip pr)))
section
variable {P : Program} {w : World} {K : PySem.W.Frag} {mg : PySem.Str → Option Value} {base : Heap} {A : Ads}
theorem fld_sizes (T : Txt P K mg A) {H : Hp} {x : Addr} {ns : List Int} {nss Ah Bh : List (List Int)} (h : HsAt A H x ns nss Ah Bh) {Q : VK} (q : ∀ a, Tu H a ns → Q (.ref a) H) {te : TE} {σ : L2.St} {H0 : Hp} (ht : ∀ R : VK, R (.ref x) H → te σ H0 R) : tFld K te "sizes" σ H0 Q := by
  obtain ⟨dx, a1, a2, a4, a5, fs, as, rs, bs, h0, h1, h2, h3, h4, t1, t2, t3, t4, t5⟩ := h
  exact ht _ ⟨x, _, _, _, _, rfl, h0, T.hCls, T.hSizes, h1, q a1 t1⟩
theorem fld_standings (T : Txt P K mg A) {H : Hp} {x : Addr} {ns : List Int} {nss Ah Bh : List (List Int)} (h : HsAt A H x ns nss Ah Bh) {Q : VK} (q : ∀ a as, Ft H a (as.map V.ref) → Fts H as nss → Q (.ref a) H) {te : TE} {σ : L2.St} {H0 : Hp} (ht : ∀ R : VK, R (.ref x) H → te σ H0 R) : tFld K te "standings" σ H0 Q := by
  obtain ⟨dx, a1, a2, a4, a5, fs, as, rs, bs, h0, h1, h2, h3, h4, t1, t2, t3, t4, t5⟩ := h
  exact ht _ ⟨x, _, _, _, _, rfl, h0, T.hCls, T.hStandings, h2, q a2 as t2 t3⟩
theorem fld_ahead (T : Txt P K mg A) {H : Hp} {x : Addr} {ns : List Int} {nss Ah Bh : List (List Int)} (h : HsAt A H x ns nss Ah Bh) {Q : VK} (q : ∀ a as, TT' H a as Ah → Q (.ref a) H) {te : TE} {σ : L2.St} {H0 : Hp} (ht : ∀ R : VK, R (.ref x) H → te σ H0 R) : tFld K te "ahead" σ H0 Q := by
  obtain ⟨dx, a1, a2, a4, a5, fs, as, rs, bs, h0, h1, h2, h3, h4, t1, t2, t3, t4, t5⟩ := h
  exact ht _ ⟨x, _, _, _, _, rfl, h0, T.hCls, T.hAhead, h3, q a4 rs t4⟩
theorem fld_behind (T : Txt P K mg A) {H : Hp} {x : Addr} {ns : List Int} {nss Ah Bh : List (List Int)} (h : HsAt A H x ns nss Ah Bh) {Q : VK} (q : ∀ a as, TT' H a as Bh → Q (.ref a) H) {te : TE} {σ : L2.St} {H0 : Hp} (ht : ∀ R : VK, R (.ref x) H → te σ H0 R) : tFld K te "behind" σ H0 Q := by
  obtain ⟨dx, a1, a2, a4, a5, fs, as, rs, bs, h0, h1, h2, h3, h4, t1, t2, t3, t4, t5⟩ := h
  exact ht _ ⟨x, _, _, _, _, rfl, h0, T.hCls, T.hBehind, h4, q a5 bs t5⟩
theorem st_yes {te : TE} {σ : L2.St} {H : Hp} {Y1 : VK} {Y0 : Hp → Prop} (h : te σ H Y1) : tYes σ H fun b H3 => if b = true then te σ H3 Y1 else Y0 H3 := h
theorem va {σ : L2.St} {i : Nat} {H : Hp} {x : V} (h : σ[i]? = some (some x)) (R : VK) (r : R x H) : tVar i σ H R := ⟨_, h, r⟩
structure spIsWindow (A : Ads) (vs : List V) (H : Hp) (Q : VK) (E : XK) : Prop where
  ex : ∃ (x a : Addr) (ns : List Int) (nss Ah Bh : List (List Int)) (j : Nat), vs = [.ref x, .ref a] ∧ HsAt A H x ns nss Ah Bh ∧ Tu H a [(j : Int)] ∧ j < ns.length ∧ ∀ H', Ex H H' → Q (.bl true) H'
theorem sc29 : FnScope ["house", "value", "at", "cell"] ["house", "value"] (defScope (topS 29)) := ⟨rfl, rfl, rfl, by decide +kernel, rfl, by decide +kernel, by decide +kernel⟩
/- slots: 0 house, 1 value, 2 at, 3 cell -/
theorem ok_is_window (T : Txt P K mg A) : DOk P w K mg base CX0 3 "is_window" ["house", "value"] [] (spIsWindow A) := by
  have D_is_sequence := (ok_is_sequence (P := P) (w := w) (base := base) T).mono (by decide : 1 ≤ 2)
  have D_is_number := (ok_is_number (P := P) (w := w) (base := base) T)
  refine T.is_window.ok0 sc29 (fun vs H Q E h => ?_) (fun _ _ _ _ _ _ us hl => match us, hl with | [_, _], _ => rfl) (fun f cdv A' outer s H vs Q E hr h => ?_)
  · obtain ⟨x, a, ns, nss, Ah, Bh, j, rfl, _⟩ := h
    rfl
  · obtain ⟨x, a, ns, nss, Ah, Bh, j, rfl, hx, ha, hj, q⟩ := h
    refine ⟨_, (pss_cons (ps_if (PW.pt (pw_or (pt_not (pt_val (pe_d D_is_sequence hr (by rfl) pass0 (pa_cons (pv 1) pa_nil)))) (pw_or1 (pt_cmpR op_eq (pe_callB (id := "len") (kLen (K := K) rfl) (by rfl) (T.b "len") (by decide +kernel) (pa_cons (pv 1) pa_nil)) pe_int (nomark _))))) (pss_one (ps_ret pe_bl)) pss_nil)
      (pss_cons (ps_for PassesOwn.never rfl (kEnum (K := K) rfl (by rfl) (T.b "enumerate") (pa_cons (pv 1) pa_nil)) (kTgt (K := K) (n := 2) rfl rfl (pgs_cons (pg_name (i := 2) sc29.nd rfl (Or.inl rfl)) (pgs_cons (pg_name (i := 3) sc29.nd rfl (Or.inl rfl)) pgs_nil)) rfl rfl) (pss_one (ps_if (PW.pt (pw_or (pt_not (pt_val (pe_d D_is_number hr (by rfl) pass0 (pa_cons (pv 3) pa_nil)))) (pw_or (pt_cmpR op_ge (pv 3) (pe_callB (id := "len") (kLen (K := K) rfl) (by rfl) (T.b "len") (by decide +kernel) (pa_cons (kFld (K := K) rfl (pv 0) (by rfl)) pa_nil)) (nomark _)) (pw_or1 (PW.pt (pw_and (pt_cmpR op_gt (pv 2) pe_int (nomark _)) (pw_and1 (pt_cmpR op_le (pv 3) (pe_ix (kIxT (K := K) rfl) (pv 1) (pe_op op_sub (pv 2) pe_int) (fun _ _ => rfl)) (nomark _))))))))) (pss_one (ps_ret pe_bl)) pss_nil)))
      (pss_one (ps_ret pe_bl)))), ?_⟩
    refine ⟨_, rfl, seq_tup ha fun p o hp => ⟨_, rfl, ?_⟩⟩
    have e0 : Ex H (upd H p o) := Ex.new hp
    refine ⟨_, rfl, a, _, rfl, .inr (rd_t (ex_rd e0 ha)), rfl, false, by simp, ?_⟩
    refine ⟨_, rfl, a, _, rfl, .inr ⟨rd_t (ex_rd e0 ha), ?_⟩⟩
    refine for_it walk_enumT (fun i σ' H' => σ'[0]? = some (some (.ref x)) ∧ σ'.length = 4 ∧ Ex H H') ⟨rfl, rfl, e0⟩ (fun i σ' H' _ p => rd_t (ex_rd p.2.2 ha)) (fun i y σ' H1 H2 hi p y => ?_) (fun σ' H' p => q _ p.2.2)
    obtain ⟨p0, pl, pe⟩ := p
    obtain ⟨Tp, x1, x2, rfl, hT, rfl, y1, y2⟩ := y
    cases (Option.some.inj y1)
    have hi0 : i = 0 := by simp at hi; omega
    subst hi0
    have y2 : some (V.int (j : Nat)) = some x2 := y2
    cases (Option.some.inj y2)
    refine ⟨Tp, _, rfl, st_of upd_same, rfl, _, _, rfl, _, _, rfl, rfl, ?_⟩
    have e2 := ex2 (o := .tup [.int (0 : Nat), .int (j : Nat)]) pe hT
    generalize hσ : (σ'.set 2 (some (V.int (0 : Nat)))).set 3 (some (V.int (j : Nat))) = σ2
    have g0 : σ2[0]? = some (some (.ref x)) := by subst hσ; simp [p0]
    have g2 : σ2[2]? = some (some (.int (0 : Nat))) := by subst hσ; simp [pl]
    have g3 : σ2[3]? = some (some (.int (j : Nat))) := by subst hσ; simp [pl]
    have gl : σ2.length = 4 := by subst hσ; simp [pl]
    refine ⟨_, g3, num_nat (Int.natCast_nonneg _) ⟨_, rfl, _, g3, st_cb (fld_sizes T (hx.same e2) (fun a1 t1 => ⟨a1, _, rfl, .inr (rd_t t1), _, _, rfl, rfl, false, by simp; omega, _, g2, _, _, rfl, rfl, false, by simp, g0, gl, e2⟩) (va g0))⟩⟩
structure spNeedView (A : Ads) (vs : List V) (H : Hp) (Q : VK) (E : XK) : Prop where
  ex : ∃ (x b : Addr) (ns : List Int) (nss Ah Bh : List (List Int)) (as : List Addr) (wss : List (List Int)), vs = [.ref x, .ref b] ∧ HsAt A H x ns nss Ah Bh ∧ TT' H b as wss ∧ wss ≠ [] ∧ wss.Nodup ∧ wss.length ≤ 1000 ∧ (∀ ws ∈ wss, ∃ j : Nat, ws = [(j : Int)] ∧ j < ns.length) ∧ ∀ H' l, Ex H H' → TT' H' l as wss → Q (.ref l) H'
theorem sc30 : FnScope ["house", "value", "windows", "at", "window"] ["house", "value"] (defScope (topS 30)) := ⟨rfl, rfl, rfl, by decide +kernel, rfl, by decide +kernel, by decide +kernel⟩
/- slots: 0 house, 1 value, 2 windows, 3 at, 4 window -/
theorem ok_need_view (T : Txt P K mg A) : DOk P w K mg base CX0 4 "need_view" ["house", "value"] [] (spNeedView A) := by
  have D_is_sequence := (ok_is_sequence (P := P) (w := w) (base := base) T).mono (by decide : 1 ≤ 3)
  have D_need_house := (ok_need_house (P := P) (w := w) (base := base) T).mono (by decide : 1 ≤ 3)
  have D_is_window := (ok_is_window (P := P) (w := w) (base := base) T)
  refine T.need_view.ok0 sc30 (fun vs H Q E h => ?_) (fun _ _ _ _ _ _ us hl => match us, hl with | [_, _], _ => rfl) (fun f cdv A' outer s H vs Q E hr h => ?_)
  · obtain ⟨x, b, ns, nss, Ah, Bh, as, wss, rfl, _⟩ := h
    rfl
  · obtain ⟨x, b, ns, nss, Ah, Bh, as, wss, rfl, hx, hb, hne, hnd, hz, hw, q⟩ := h
    have hu65 : (A'.deeper (envOfC "need_view" (defScope (topS 30)) s.heap.objs.size f cdv)).units + 65 < cLine := by have := hr.un; omega
    refine ⟨_, (pss_cons (ps_expr (pe_d D_need_house hr (by rfl) pass0 (pa_cons (pv 0) pa_nil)))
      (pss_cons (ps_if (PW.pt (pw_or (pt_not (pt_val (pe_d D_is_sequence hr (by rfl) pass0 (pa_cons (pv 1) pa_nil)))) (pw_or1 (pt_cmpR op_eq (pe_callB (id := "len") (kLen (K := K) rfl) (by rfl) (T.b "len") (by decide +kernel) (pa_cons (pv 1) pa_nil)) pe_int (nomark _))))) (pss_one ps_never) pss_nil)
      (pss_cons (ps_set (i := 2) sc30.nd rfl (Or.inl rfl) (pe_lst pa_nil))
      (pss_cons (ps_for PassesOwn.never rfl (kEnum (K := K) rfl (by rfl) (T.b "enumerate") (pa_cons (pv 1) pa_nil)) (kTgt (K := K) (n := 2) rfl rfl (pgs_cons (pg_name (i := 3) sc30.nd rfl (Or.inl rfl)) (pgs_cons (pg_name (i := 4) sc30.nd rfl (Or.inl rfl)) pgs_nil)) rfl rfl) (pss_cons (ps_if (PW.pt (pw_or (pt_not (pt_val (pe_d D_is_window hr (by rfl) pass0 (pa_cons (pv 0) (pa_cons (pv 4) pa_nil))))) (pw_or1 (pt_cmpR (kInTu (K := K) rfl hu65) (pe_callTy (T := "tuple") (kTup (K := K) rfl) (by rfl) (T.b "tuple") (by decide +kernel) (pa_cons (pv 4) pa_nil)) (pv 2) (by rfl))))) (pss_one ps_never) pss_nil)
      (pss_one (ps_expr (kBM (K := K) rfl PySem.F.plainAttrs_list PySem.F.slot_list_append PySem.F.type_list_append mt_append (pv 2) (pa_cons (pe_callTy (T := "tuple") (kTup (K := K) rfl) (by rfl) (T.b "tuple") (by decide +kernel) (pa_cons (pv 4) pa_nil)) pa_nil))))))
      (pss_one (ps_ret (pe_callTy (T := "tuple") (kTup (K := K) rfl) (by rfl) (T.b "tuple") (by decide +kernel) (pa_cons (pv 2) pa_nil)))))))), ?_⟩
    have hal := Paired.length hb.2
    refine ⟨_, rfl, hx.need ⟨_, rfl, seq_tup hb.1 fun p o hp => ⟨_, rfl, ?_⟩⟩⟩
    have e0 : Ex H (upd H p o) := Ex.new hp
    refine ⟨_, rfl, b, _, rfl, .inr (rd_t (ex_rd e0 hb.1)), rfl, false, ?_, ?_⟩
    · have : wss.length ≠ 0 := fun z => hne (List.length_eq_zero_iff.mp z)
      simp
      intro z
      rw [z] at hal
      exact this hal.symm
    refine ⟨Nat.zero_le _, fun d hd => ?_⟩
    have ed : Ex H (upd (upd H p o) d (.lst [])) := ex2 e0 hd
    refine ⟨_, rfl, b, _, rfl, .inr ⟨rd_t (ex_rd ed hb.1), ?_⟩⟩
    have hdH := Evl.fresh_back e0 hd
    refine for_it walk_enumT (fun i σ' H' => σ'[0]? = some (some (.ref x)) ∧ σ'[2]? = some (some (.ref d)) ∧ σ'.length = 5 ∧ Ex H H' ∧ H' d = some (.lst ((as.take i).map V.ref))) ⟨rfl, rfl, rfl, ed, upd_same⟩ (fun i σ' H' _ p => rd_t (ex_rd p.2.2.2.1 hb.1)) (fun i y σ' H1 H2 hi p y => ?_) (fun σ' H' p => ?_)
    · obtain ⟨p0, p2, pl, pe, pd⟩ := p
      obtain ⟨Tp, x1, x2, rfl, hT, rfl, y1, y2⟩ := y
      cases (Option.some.inj y1)
      obtain ⟨wd, ewd, rfl⟩ := get_map y2
      obtain ⟨ws, ews, hws⟩ := paired_at hb.2 ewd
      obtain ⟨j, rfl, hj⟩ := hw ws (List.mem_of_getElem? ews)
      refine ⟨Tp, _, rfl, st_of upd_same, rfl, _, _, rfl, _, _, rfl, rfl, ?_⟩
      have e2 := ex2 (o := .tup [.int (i : Nat), .ref wd]) pe hT
      generalize hσ : (σ'.set 3 (some (V.int (i : Nat)))).set 4 (some (V.ref wd)) = σ2
      have g0 : σ2[0]? = some (some (.ref x)) := by subst hσ; simp [p0]
      have g2 : σ2[2]? = some (some (.ref d)) := by subst hσ; simp [p2]
      have g4 : σ2[4]? = some (some (.ref wd)) := by subst hσ; simp [pl]
      have gl : σ2.length = 5 := by subst hσ; simp [pl]
      refine ⟨_, g0, _, g4, ⟨x, wd, ns, nss, Ah, Bh, j, rfl, hx.same e2, hws.same e2, hj, fun H3 e3 => ⟨_, rfl, ?_⟩⟩⟩
      have e4 := e2.trans e3
      have pd3 : H3 d = some (.lst ((as.take i).map V.ref)) := e3 _ _ (by rw [upd_ne (ne_of_none pd hT)]; exact pd)
      have hnot : [(j : Int)] ∉ wss.take i := not_earlier hnd ews
      refine ⟨_, g4, wd, _, rfl, .inr ⟨rd_t (hws.same e4), _, g2, wd, d, _, as.take i, wss.take i, rfl, rfl, hws.same e4, .inl (sq_of pd3), ?_, false, ?_, ?_⟩⟩
      · exact paired_take (hb.2.same e4)
      · simpa using hnot
      · refine ⟨_, g2, tyL (sq_of pd3), _, g4, wd, _, rfl, .inr ⟨rd_t (hws.same e4), d, _, _, rfl, rfl, pd3, ?_, g0, g2, gl, e4.mut hdH, ?_⟩⟩
        · rw [List.length_map, List.length_take]
          exact sz_lt (by omega)
        · rw [upd_same, take_next ewd, List.map_append]
          rfl
    · obtain ⟨p0, p2, pl, pe, pd⟩ := p
      rw [List.length_map, List.take_length] at pd
      exact ⟨_, p2, d, _, rfl, .inl ⟨sq_of pd, fun l hl => q _ l (ex2 pe hl) ⟨.inl upd_same, hb.2.same (ex2 pe hl)⟩⟩⟩
structure spCellView (A : Ads) (vs : List V) (H : Hp) (Q : VK) (E : XK) : Prop where
  ex : ∃ (x : Addr) (ns : List Int) (nss Ah Bh : List (List Int)), vs = [.ref x] ∧ HsAt A H x ns nss Ah Bh ∧ ns.length ≤ 1000 ∧ ∀ H' l as, Ex H H' → TT' H' l as ((List.range ns.length).map fun (j : Nat) => [(j : Int)]) → Q (.ref l) H'
theorem sc31 : FnScope ["house", "cell"] ["house"] (defScope (topS 31)) := ⟨rfl, rfl, rfl, by decide +kernel, rfl, by decide +kernel, by decide +kernel⟩
/- slots: 0 house, 1 cell -/
theorem ok_cell_view (T : Txt P K mg A) : DOk P w K mg base CX0 2 "cell_view" ["house"] [] (spCellView A) := by
  have D_need_house := (ok_need_house (P := P) (w := w) (base := base) T)
  refine T.cell_view.ok0 sc31 (fun vs H Q E h => ?_) (fun _ _ _ _ _ _ us hl => match us, hl with | [_], _ => rfl) (fun f cdv A' outer s H vs Q E hr h => ?_)
  · obtain ⟨x, ns, nss, Ah, Bh, rfl, _⟩ := h
    rfl
  · obtain ⟨x, ns, nss, Ah, Bh, rfl, hx, hz, q⟩ := h
    refine ⟨_, (pss_one (ps_ret (pe_callTy (T := "tuple") (kTup (K := K) rfl) (by rfl) (T.b "tuple") (by decide +kernel) (pa_cons (pe_lc rfl sc31.nd (pi_range1 (by rfl) (T.b "range") (pa_cons (pe_callB (id := "len") (kLen (K := K) rfl) (by rfl) (T.b "len") (by decide +kernel) (pa_cons (kFld (K := K) rfl (pe_d D_need_house hr (by rfl) pass0 (pa_cons (pv 0) pa_nil)) (by rfl)) pa_nil)) pa_nil)) (blkOk_by (own := [("cell", 1)]) (by rfl)) (fun _ _ _ _ _ => (pg_name (i := 1) sc31.nd rfl (Or.inl rfl) (Or.inr rfl))) (fun _ _ _ _ _ => pts_nil) (fun _ _ _ _ _ => (pe_tup (pa_cons (pv 1) pa_nil)))) pa_nil)))), ?_⟩
    refine st_ret (st_cb ?_)
    refine fld_sizes T hx (fun a1 t1 => ⟨a1, _, rfl, .inr (rd_t t1), _, rfl, by omega, by simp; omega, ?_⟩) fun R r => ⟨_, rfl, hx.need r⟩
    refine lcU (Qd := fun D H' => _) walk_range (fun _ => true) (fun j => [(j : Int)]) (by simp; omega) (fun _ _ => trivial) (fun i x' H' H'' Y0 Y1 hi e y k0 k1 => ?_) (fun D H' rs hD e hl ht => ?_)
    · obtain ⟨rfl, rfl⟩ := y
      refine ⟨by simp [wipe], _, rfl, (by decide : 1 ≤ sizeLine), fun p hp => k1 _ p rfl (Ex.new hp) (.inl ?_)⟩
      rw [upd_same]
      simp
    · rw [range_all, List.length_map, Int.toNat_natCast] at ht
      refine ⟨D, _, rfl, .inl ⟨sq_of hl, fun l hl' => q _ l rs (e.trans (Ex.new hl')) ⟨.inl upd_same, ht.same (Ex.new hl')⟩⟩⟩
structure spSeenAt (A : Ads) (vs : List V) (H : Hp) (Q : VK) (E : XK) : Prop where
  ex : ∃ (x a : Addr) (ns : List Int) (nss Ah Bh : List (List Int)) (j k : Nat) (row : List Int) (v : Int), vs = [.ref x, .ref a, .int k] ∧ HsAt A H x ns nss Ah Bh ∧ Tu H a [(j : Int)] ∧ nss[k]? = some row ∧ row[j]? = some v ∧ ∀ H' l, Ex H H' → Tu H' l [v] → Q (.ref l) H'
theorem sc32 : FnScope ["house", "window", "number", "cell"] ["house", "window", "number"] (defScope (topS 32)) := ⟨rfl, rfl, rfl, by decide +kernel, rfl, by decide +kernel, by decide +kernel⟩
/- slots: 0 house, 1 window, 2 number, 3 cell -/
theorem ok_seen_at (T : Txt P K mg A) : DOk P w K mg base CX0 1 "seen_at" ["house", "window", "number"] [] (spSeenAt A) := by
  refine T.seen_at.ok0 sc32 (fun vs H Q E h => ?_) (fun _ _ _ _ _ _ us hl => match us, hl with | [_, _, _], _ => rfl) (fun f cdv A' outer s H vs Q E hr h => ?_)
  · obtain ⟨x, a, ns, nss, Ah, Bh, j, k, row, v, rfl, _⟩ := h
    rfl
  · obtain ⟨x, a, ns, nss, Ah, Bh, j, k, row, v, rfl, hx, ha, hk, hv, q⟩ := h
    refine ⟨_, (pss_one (ps_ret (pe_callTy (T := "tuple") (kTup (K := K) rfl) (by rfl) (T.b "tuple") (by decide +kernel) (pa_cons (pe_lc rfl sc32.nd (kPiT (K := K) rfl (pv 1)) (blkOk_by (own := [("cell", 3)]) (by rfl)) (fun _ _ _ _ _ => (pg_name (i := 3) sc32.nd rfl (Or.inl rfl) (Or.inr rfl))) (fun _ _ _ _ _ => pts_nil) (fun _ _ _ _ _ => (pe_ix (kIxT (K := K) rfl) (pe_ix (kIxT (K := K) rfl) (kFld (K := K) rfl (pv 0) (by rfl)) (pv 2) (fun _ _ => rfl)) (pv 3) (fun _ _ => rfl)))) pa_nil)))), ?_⟩
    refine st_ret (st_cb ?_)
    refine ⟨_, rfl, a, rfl, ⟨_, rd_t ha⟩, ?_⟩
    refine lcV (Qd := fun D H' => _) walk_tup (fun _ => true) (fun _ => .int v) (by simp) (fun H' e => rd_t (ex_rd e ha)) (fun i x' H' H'' Y0 Y1 hi e y k0 k1 => ?_) (fun D H' hD e hl => ?_)
    · obtain ⟨rfl, y⟩ := y
      have hi0 : i = 0 := by simp at hi; omega
      subst hi0
      have y : some (V.int (j : Nat)) = some x' := y
      cases (Option.some.inj y)
      refine ⟨by simp [wipe], ?_⟩
      refine st_yes (fld_standings T (hx.same e) (fun a2 as t2 t3 => ?_) (fun R r => ⟨_, rfl, r⟩))
      obtain ⟨r, er, tr⟩ := fts_at t3 hk
      refine ⟨_, rfl, a2, _, _, _, rfl, rfl, rd_t t2.rd, atI_map er, _, rfl, r, _, _, _, rfl, rfl, rd_t tr.rd, atI_map hv, k1 _ rfl (Ex.refl _)⟩
    · exact ⟨D, _, rfl, .inl ⟨sq_of hl, fun l hl' => q _ l (e.trans (Ex.new hl')) (.inl upd_same)⟩⟩
end
end Kx
/-! Walks of any use; a comprehension of two clauses. -/
namespace Kx
open PySem PySem.Spec PyProof.Rows L2
open Evl (Ex ex_rd ex_l ex_t)
theorem wipe_in {σ : L2.St} {i : Nat} : ∀ {vs : List Nat}, i ∈ vs → (wipe σ vs)[i]? = if i < σ.length then some none else none
  | v :: vs, h => by
    unfold wipe
    by_cases e : v = i
    · subst e
      rw [List.getElem?_set_self']
      by_cases h2 : v < σ.length
      · have h3 : v < (wipe σ vs).length := by rw [wipe_length]; exact h2
        rw [if_pos h2, List.getElem?_eq_getElem h3]
        rfl
      · have h3 : ¬ v < (wipe σ vs).length := by rw [wipe_length]; exact h2
        rw [if_neg h2, List.getElem?_eq_none (by omega)]
        rfl
    · rw [List.getElem?_set_ne e]
      exact wipe_in ((List.mem_cons.mp h).resolve_left fun z => e z.symm)
theorem wipe_eq {σ τ : L2.St} {vs : List Nat} (hl : σ.length = τ.length) (h : ∀ i, i ∉ vs → σ[i]? = τ[i]?) : wipe σ vs = wipe τ vs := by
  apply List.ext_getElem?
  intro i
  by_cases hi : i ∈ vs
  · rw [wipe_in hi, wipe_in hi, hl]
  · rw [wipe_out hi, wipe_out hi, h i hi]
theorem wipe_set {σ : L2.St} {i : Nat} {v : Option V} {vs : List Nat} (h : i ∈ vs) : wipe ((wipe σ vs).set i v) vs = wipe σ vs :=
  wipe_eq (by rw [List.length_set, wipe_length]) fun j hj => by rw [List.getElem?_set_ne (fun z : i = j => hj (z ▸ h)), wipe_out hj]
theorem wipe_set2 {σ : L2.St} {i j : Nat} {v w : Option V} {vs : List Nat} (h : i ∈ vs) (h2 : j ∈ vs) : wipe (((wipe σ vs).set i v).set j w) vs = wipe σ vs :=
  wipe_eq (by rw [List.length_set, List.length_set, wipe_length]) fun k hk => by rw [List.getElem?_set_ne (fun z : j = k => hk (z ▸ h2)), List.getElem?_set_ne (fun z : i = k => hk (z ▸ h)), wipe_out hk]
section
variable {J : It} {n : Nat} {G : Hp → Prop} {Y : Nat → Hp → V → Hp → Prop}
theorem wk_it (w : Walk J n G Y) {Z : V → Hp → (Hp → Prop) → Prop} {H0 : Hp} {Nx : Hp → Prop} (Pv : Nat → Hp → Prop) (h0 : Pv 0 H0) (hG : ∀ i H, i ≤ n → Pv i H → G H)
    (hs : ∀ i x H H', i < n → Pv i H → Y i H x H' → Z x H' (Pv (i + 1))) (hd : ∀ H, Pv n H → Nx H) :
    ∃ W : Nat → Nat → Hp → Prop, (∃ m, W 0 m H0) ∧ ∀ i m H, W i m H → (J.stop i H ∧ Nx H) ∨ (J.go i H ∧ ∃ Nx1 : Hp → Prop, (∀ H', Nx1 H' → ∃ m', m' < m ∧ W (i + 1) m' H') ∧ ∀ x H', J.yld i H x H' → Z x H' Nx1) := by
  refine ⟨fun i m H => m = n - i ∧ i ≤ n ∧ Pv i H, ⟨n, by simp, Nat.zero_le _, h0⟩, ?_⟩
  rintro i m H ⟨rfl, hi, p⟩
  have q := hG i H hi p
  by_cases hlt : i < n
  · exact .inr ⟨w.goes i H hlt q, Pv (i + 1), fun H' p' => ⟨n - (i + 1), by omega, rfl, hlt, p'⟩, fun x H' y => hs i x H H' hlt p (w.yields i H x H' hlt q y)⟩
  · have e : i = n := by omega
    subst e
    exact .inl ⟨w.stops H q, hd H p⟩
/-- the places of two clauses -/
def idx2 (cnt : Nat → Nat) (n : Nat) : List (Nat × Nat) := (List.range n).flatMap fun i => (List.range (cnt i)).map fun j => (i, j)
theorem idx2_succ (cnt : Nat → Nat) (n : Nat) : idx2 cnt (n + 1) = idx2 cnt n ++ (List.range (cnt n)).map fun j => (n, j) := by
  unfold idx2
  rw [List.range_succ, List.flatMap_append, List.flatMap_cons, List.flatMap_nil, List.append_nil]
theorem idx2_le (cnt : Nat → Nat) {i n : Nat} (h : i ≤ n) : (idx2 cnt i).length ≤ (idx2 cnt n).length := by
  induction h with
  | refl => exact Nat.le_refl _
  | step _ ih => rw [idx2_succ, List.length_append]; omega
theorem ExT.trans {H H' H'' : Hp} (a : ExT H H') (b : ExT H' H'') : ExT H H'' := fun c o h n => b c o (a c o h n) n
/-- a comprehension of two clauses, none with a test -/
theorem lc2R (w : Walk J n G Y) {g : TG} {tt : TT} {wi1 : TI} {g1 : TG} {tt1 : TT} {te : TE} {vs vs1 : List Nat} {σ : L2.St} {H1 : Hp} {Qd : Addr → Hp → Prop} (cnt : Nat → Nat) (R : Nat → Nat → V → Hp → Prop)
    (hz : (idx2 cnt n).length ≤ 50000) (hG : ∀ H', Ex H1 H' → G H') (hR : ∀ i j x H H', ExT H H' → R i j x H → R i j x H')
    (hs : ∀ i x H' H'' (Z : L2.St → It → Hp → Prop) (Y0 : Hp → Prop), i < n → Ex H1 H' → Y i H' x H'' →
      (∀ (J1 : It) (G1 : Hp → Prop) (Y1 : Nat → Hp → V → Hp → Prop) (σ2 : L2.St) (H4 : Hp), Ex H' H4 → Walk J1 (cnt i) G1 Y1 → (∀ H5, Ex H1 H5 → ExT H4 H5 → G1 H5) →
        (∀ j x H5 H6 (Yv : VK) (Y0 : Hp → Prop), j < cnt i → Ex H1 H5 → ExT H4 H5 → Y1 j H5 x H6 → (∀ v H7, Ex H5 H7 → R i j v H7 → Yv v H7) →
          g1 x (wipe σ2 vs1) H6 fun σ3 H7 => wipe σ3 vs1 = wipe σ2 vs1 ∧ tt1 σ3 H7 fun b H8 => if b = true then te σ3 H8 Yv else Y0 H8) → Z σ2 J1 H4) →
      g x (wipe σ vs) H'' fun σ2 H2 => wipe σ2 vs = wipe σ vs ∧ tt σ2 H2 fun b H3 => if b = true then wi1 σ2 H3 (Z σ2) else Y0 H3)
    (hd : ∀ D H' xs, H1 D = none → Ex H1 H' → H' D = some (.lst xs) → Paired (fun ij x => R ij.1 ij.2 x H') (idx2 cnt n) xs → Qd D H') :
    ∀ D, H1 D = none → ∃ W : Nat → Nat → Hp → Prop, (∃ m, W 0 m (upd H1 D (.lst []))) ∧ ∀ i m H, W i m H →
      (J.stop i H ∧ Qd D H) ∨ (J.go i H ∧ ∃ Nx : Hp → Prop, (∀ H', Nx H' → ∃ m', m' < m ∧ W (i + 1) m' H') ∧ ∀ x H', J.yld i H x H' → g x (wipe σ vs) H' fun σ2 H2 => wipe σ2 vs = wipe σ vs ∧ tt σ2 H2 fun b H3 =>
        if b = true then wi1 σ2 H3 fun J1 H4 => ∃ W1 : Nat → Nat → Hp → Prop, (∃ m, W1 0 m H4) ∧ ∀ j k H, W1 j k H →
          (J1.stop j H ∧ Nx H) ∨ (J1.go j H ∧ ∃ Nx1 : Hp → Prop, (∀ H', Nx1 H' → ∃ k', k' < k ∧ W1 (j + 1) k' H') ∧ ∀ x H', J1.yld j H x H' → g1 x (wipe σ2 vs1) H' fun σ3 H5 => wipe σ3 vs1 = wipe σ2 vs1 ∧ tt1 σ3 H5 fun b H6 =>
            if b = true then te σ3 H6 fun y H7 => ∃ acc, H7 D = some (.lst acc) ∧ acc.length < sizeLine ∧ Nx1 (upd H7 D (.lst (acc ++ [y]))) else Nx1 H6)
        else Nx H3) := fun D hD => by
  refine wk_it w (Z := fun x H' Nx => g x (wipe σ vs) H' fun σ2 H2 => wipe σ2 vs = wipe σ vs ∧ tt σ2 H2 fun b H3 =>
        if b = true then wi1 σ2 H3 fun J1 H4 => ∃ W1 : Nat → Nat → Hp → Prop, (∃ m, W1 0 m H4) ∧ ∀ j k H, W1 j k H →
          (J1.stop j H ∧ Nx H) ∨ (J1.go j H ∧ ∃ Nx1 : Hp → Prop, (∀ H', Nx1 H' → ∃ k', k' < k ∧ W1 (j + 1) k' H') ∧ ∀ x H', J1.yld j H x H' → g1 x (wipe σ2 vs1) H' fun σ3 H5 => wipe σ3 vs1 = wipe σ2 vs1 ∧ tt1 σ3 H5 fun b H6 =>
            if b = true then te σ3 H6 fun y H7 => ∃ acc, H7 D = some (.lst acc) ∧ acc.length < sizeLine ∧ Nx1 (upd H7 D (.lst (acc ++ [y]))) else Nx1 H6)
        else Nx H3) (fun i H' => Ex H1 H' ∧ ∃ xs, H' D = some (.lst xs) ∧ Paired (fun ij x => R ij.1 ij.2 x H') (idx2 cnt i) xs) ⟨Ex.new hD, [], upd_same, .nil⟩ (fun i H' _ p => hG H' p.1) (fun i x H' H'' hi p y => ?_) (fun H' p => ?_)
  · obtain ⟨pe, xs, pd, pp⟩ := p
    refine hs i x H' H'' (fun σ2 J1 H4 => _) _ hi pe y (fun J1 G1 Y1 σ2 H4 e4 w1 hG1 hs1 => ?_)
    refine wk_it w1 (Z := fun x H' Nx1 => g1 x (wipe σ2 vs1) H' fun σ3 H5 => wipe σ3 vs1 = wipe σ2 vs1 ∧ tt1 σ3 H5 fun b H6 =>
            if b = true then te σ3 H6 fun y H7 => ∃ acc, H7 D = some (.lst acc) ∧ acc.length < sizeLine ∧ Nx1 (upd H7 D (.lst (acc ++ [y]))) else Nx1 H6)
      (fun j H5 => Ex H1 H5 ∧ ExT H4 H5 ∧ ∃ xs, H5 D = some (.lst xs) ∧ Paired (fun ij x => R ij.1 ij.2 x H5) (idx2 cnt i ++ (List.range j).map fun j => (i, j)) xs) ⟨pe.trans e4, fun _ _ h _ => h, xs, e4 _ _ pd, ?_⟩ (fun j H5 _ p => hG1 H5 p.1 p.2.1) (fun j x H5 H6 hj p y1 => ?_) (fun H5 p => ?_)
    · rw [List.range_zero, List.map_nil, List.append_nil]
      exact Paired.mapP pp fun _ _ z => hR _ _ _ _ _ (.of e4) z
    · obtain ⟨q1, q2, ys, qd, qp⟩ := p
      refine hs1 j x H5 H6 _ _ hj q1 q2 y1 (fun v H7 e7 r => ?_)
      have pd7 := e7 _ _ qd
      have hl : ys.length < 100000 := by
        have h1 := Paired.length qp
        have h2 := idx2_le cnt (Nat.succ_le_of_lt hi)
        have e := idx2_succ cnt i
        have e' := congrArg List.length e
        rw [List.length_append, List.length_map, List.length_range] at e'
        rw [List.length_append, List.length_map, List.length_range] at h1
        show ys.length < 100000
        have h3 : (idx2 cnt (i + 1)).length ≤ 50000 := Nat.le_trans h2 hz
        omega
      refine ⟨ys, pd7, Evl.sz_lt hl, (q1.trans e7).mut hD, q2.trans ((ExT.of e7).trans (ExT.lst pd7)), ys ++ [v], upd_same, ?_⟩
      rw [List.range_succ, List.map_append, ← List.append_assoc]
      exact paired_snoc (Paired.mapP qp fun _ _ z => hR _ _ _ _ _ (ExT.lst pd7) (hR _ _ _ _ _ (.of e7) z)) (hR _ _ _ _ _ (ExT.lst pd7) r)
    · obtain ⟨q1, _, ys, qd, qp⟩ := p
      exact ⟨q1, ys, qd, by rw [idx2_succ]; exact qp⟩
  · obtain ⟨pe, xs, pd, pp⟩ := p
    exact hd D H' xs hD pe pd pp
end
end Kx
namespace Kx
open PySem PySem.Spec PyProof.Rows L2
open Evl (Ex ex_rd ex_l ex_t st_of sq_of sz_lt sz_of)
theorem inV_ints (n : Int) (ns : List Int) : inV (.int n) (ns.map V.int) = decide (n ∈ ns) := by
  unfold inV
  induction ns with
  | nil => rfl
  | cons a l ih =>
    rw [List.map_cons, List.any_cons, ih]
    by_cases h : a = n
    · subst h
      simp [eqV]
    · have h2 : ¬ n = a := fun z => h z.symm
      simp [eqV, h, h2]
theorem flat_ints (ns : List Int) : (ns.map V.int).all flatV = true := by
  rw [List.all_map]
  exact List.all_eq_true.mpr fun _ _ => rfl
theorem cut_take (xs : List V) (i : Nat) (h : i ≤ xs.length) : cutV xs none (some (i : Int)) = xs.take i := by
  unfold cutV
  rw [HT.sIx_none, HT.sIx_nat, Nat.min_eq_left h, List.drop_zero, Nat.sub_zero]
theorem asc_nodup {ns : List Int} (h : ns.Pairwise (· < ·)) : ns.Nodup := h.imp fun h => by omega
section
variable {P : Program} {w : World} {K : PySem.W.Frag} {mg : PySem.Str → Option Value} {base : Heap} {A : Ads}
structure spNeedRooms (vs : List V) (H : Hp) (Q : VK) (E : XK) : Prop where
  ex : ∃ (n : Int) (d g : Addr) (as : List Addr) (css : List (List Int)) (G : List Int), vs = [.int n, .ref d, .int 1, .ref g] ∧ 1 ≤ n ∧ n ≤ 6 ∧ LT H d as css ∧ css.Nodup ∧ css.length ≤ 10000 ∧ (∀ ms ∈ css, ∃ x y : Int, ms = [x, y] ∧ 0 ≤ x ∧ x < n ∧ 0 ≤ y ∧ y < n ∧ x ≠ y) ∧
    Tu H g G ∧ G.Pairwise (· < ·) ∧ (∀ r ∈ G, 0 ≤ r ∧ r < n) ∧ ∀ H', Ex H H' → Q .non H'
theorem sc34 : FnScope ["rooms", "doors", "many", "gates", "at", "room"] ["rooms", "doors", "many", "gates"] (defScope (topS 34)) := ⟨rfl, rfl, rfl, by decide +kernel, rfl, by decide +kernel, by decide +kernel⟩
/- slots: 0 rooms, 1 doors, 2 many, 3 gates, 4 at, 5 room -/
theorem ok_need_rooms (T : Txt P K mg A) : DOk P w K mg base CX0 5 "need_rooms" ["rooms", "doors", "many", "gates"] [] spNeedRooms := by
  have D_is_sequence := (ok_is_sequence (P := P) (w := w) (base := base) T).mono (by decide : 1 ≤ 4)
  have D_is_number := (ok_is_number (P := P) (w := w) (base := base) T).mono (by decide : 2 ≤ 4)
  have D_wrong_change := (ok_wrong_change (P := P) (w := w) (base := base) T)
  obtain ⟨t1, e_MOST_CELLS⟩ := T.MOST_CELLS
  obtain ⟨t2, e_MOST_CONTENTS⟩ := T.MOST_CONTENTS
  refine T.need_rooms.ok0 sc34 (fun vs H Q E h => ?_) (fun _ _ _ _ _ _ us hl => match us, hl with | [_, _, _, _], _ => rfl) (fun f cdv A' outer s H vs Q E hr h => ?_)
  · obtain ⟨n, d, g, as, css, G, rfl, _⟩ := h
    rfl
  · obtain ⟨n, d, g, as, css, G, rfl, hn1, hn6, hd, hnd, hz, hc, hg, hasc, hG, q⟩ := h
    refine ⟨_, (pss_cons (ps_if (PW.pt (pw_or (pt_not (pt_val (pe_d D_is_number hr (by rfl) pass0 (pa_cons (pv 0) pa_nil)))) (pw_or1 (pt_not (pt_chain op_le op_le pe_int (pv 0) (pe_glob (v := .int 6) (by rfl) e_MOST_CELLS ⟨_, rfl⟩)))))) (pss_one ps_never) pss_nil)
      (pss_cons (ps_set (i := 4) sc34.nd rfl (Or.inl rfl) (pe_d D_wrong_change hr (by rfl) pass0 (pa_cons (pv 0) (pa_cons (pv 1) pa_nil))))
      (pss_cons (ps_if (pt_cmpR op_notN (pv 4) pe_non (nomark _)) (pss_one ps_never) pss_nil)
      (pss_cons (ps_if (PW.pt (pw_or (pt_not (pt_val (pe_d D_is_number hr (by rfl) pass0 (pa_cons (pv 2) pa_nil)))) (pw_or1 (pt_cmpR op_ge (pv 2) (pe_glob (v := .int 36) (by rfl) e_MOST_CONTENTS ⟨_, rfl⟩) (nomark _))))) (pss_one ps_never) pss_nil)
      (pss_cons (ps_if (pt_not (pt_val (pe_d D_is_sequence hr (by rfl) pass0 (pa_cons (pv 3) pa_nil)))) (pss_one ps_never) pss_nil)
      (pss_one (ps_for PassesOwn.never rfl (kEnum (K := K) rfl (by rfl) (T.b "enumerate") (pa_cons (pv 3) pa_nil)) (kTgt (K := K) (n := 2) rfl rfl (pgs_cons (pg_name (i := 4) sc34.nd rfl (Or.inl rfl)) (pgs_cons (pg_name (i := 5) sc34.nd rfl (Or.inl rfl)) pgs_nil)) rfl rfl) (pss_one (ps_if (PW.pt (pw_or (pt_not (pt_val (pe_d D_is_number hr (by rfl) pass0 (pa_cons (pv 5) pa_nil)))) (pw_or (pt_cmpR op_ge (pv 5) (pv 0) (nomark _)) (pw_or1 (pt_cmpR (kIn (K := K) rfl) (pv 5) (pe_slice (kSlT (K := K) rfl) (pv 3) po_none (po_some (pv 4))) (by rfl)))))) (pss_one ps_never) pss_nil))))))))), ?_⟩
    refine ⟨_, rfl, num_nat (by omega) ⟨_, rfl, _, rfl, 1, _, rfl, rfl, true, by simp; omega, _, _, rfl, rfl, true, by simp; omega, ?_⟩⟩
    refine ⟨_, rfl, _, rfl, ⟨n, d, as, css, rfl, hd, hnd, hz, hc, fun H1 e1 => ?_⟩⟩
    refine ⟨_, rfl, rfl, false, rfl, ?_⟩
    refine ⟨_, rfl, num_nat (by decide) ⟨_, rfl, _, rfl, _, _, rfl, rfl, false, by simp, ?_⟩⟩
    refine ⟨_, rfl, seq_tup (hg.same e1) fun p o hp => ⟨_, rfl, ?_⟩⟩
    have e0 := ex2 (o := o) e1 hp
    refine ⟨_, rfl, g, _, rfl, .inr ⟨rd_t (ex_rd e0 hg), ?_⟩⟩
    refine for_it walk_enumT (fun i σ' H' => σ'[0]? = some (some (.int n)) ∧ σ'[3]? = some (some (.ref g)) ∧ σ'.length = 6 ∧ Ex H H') ⟨rfl, rfl, rfl, e0⟩ (fun i σ' H' _ p => rd_t (ex_rd p.2.2.2 hg)) (fun i y σ' H1 H2 hi p y => ?_) (fun σ' H' p => q _ p.2.2.2)
    obtain ⟨p0, p3, pl, pe⟩ := p
    obtain ⟨Tp, x1, x2, rfl, hT, rfl, y1, y2⟩ := y
    cases (Option.some.inj y1)
    obtain ⟨r, er, rfl⟩ := get_map y2
    obtain ⟨hr0, hrn⟩ := hG r (List.mem_of_getElem? er)
    refine ⟨Tp, _, rfl, st_of upd_same, rfl, _, _, rfl, _, _, rfl, rfl, ?_⟩
    have e2 := ex2 (o := .tup [.int (i : Nat), .int r]) pe hT
    generalize hσ : (σ'.set 4 (some (V.int (i : Nat)))).set 5 (some (V.int r)) = σ2
    have g0 : σ2[0]? = some (some (.int n)) := by subst hσ; simp [p0]
    have g3 : σ2[3]? = some (some (.ref g)) := by subst hσ; simp [p3]
    have g4 : σ2[4]? = some (some (.int (i : Nat))) := by subst hσ; simp [pl]
    have g5 : σ2[5]? = some (some (.int r)) := by subst hσ; simp [pl]
    have gl : σ2.length = 6 := by subst hσ; simp [pl]
    refine ⟨_, g5, num_nat hr0 ⟨_, rfl, _, g5, _, g0, _, _, rfl, rfl, false, by simp; omega, _, g5, _, g3, _, g4, _, rfl, g, _, rfl, rd_t (ex_rd e2 hg), fun hh => ?_, fun _ p hp => ?_⟩⟩
    · rw [HT.sIx_nat] at hh
      omega
    · rw [cut_take _ _ (Nat.le_of_lt hi), ← List.map_take]
      refine ⟨p, _, rfl, .inr (st_of upd_same), rfl, flat_ints _, ?_⟩
      have hnot : r ∉ G.take i := not_earlier (asc_nodup hasc) er
      refine ⟨false, ?_, g0, g3, gl, ex2 e2 hp⟩
      show V.bl (inV _ _) = _
      rw [inV_ints, decide_eq_false hnot]
structure spPlacings (vs : List V) (H : Hp) (Q : VK) (E : XK) : Prop where
  ex : ∃ n : Nat, vs = [.int n, .int 1] ∧ n ≤ 100 ∧ Q (.int (n + 1)) H
theorem sc35 : FnScope ["rooms", "many", "count", "room"] ["rooms", "many"] (defScope (topS 35)) := ⟨rfl, rfl, rfl, by decide +kernel, rfl, by decide +kernel, by decide +kernel⟩
/- slots: 0 rooms, 1 many, 2 count, 3 room -/
theorem ok_placings_count (T : Txt P K mg A) : DOk P w K mg base CX0 1 "placings_count" ["rooms", "many"] [] spPlacings := by
  refine T.placings_count.ok0 sc35 (fun vs H Q E h => ?_) (fun _ _ _ _ _ _ us hl => match us, hl with | [_, _], _ => rfl) (fun f cdv A' outer s H vs Q E hr h => ?_)
  · obtain ⟨n, rfl, _⟩ := h
    rfl
  · obtain ⟨n, rfl, hn, q⟩ := h
    refine ⟨_, (pss_cons (ps_set (i := 2) sc35.nd rfl (Or.inl rfl) pe_int)
      (pss_cons (ps_for PassesOwn.never rfl (pi_range1 (by rfl) (T.b "range") (pa_cons (pv 0) pa_nil)) (pg_name (i := 3) sc35.nd rfl (Or.inl rfl)) (pss_one (ps_set (i := 2) sc35.nd rfl (Or.inl rfl) (pe_op op_fdiv (pe_op op_mul (pv 2) (pe_op op_add (pe_op op_add (pv 1) pe_int) (pv 3))) (pe_op op_add (pv 3) pe_int)))))
      (pss_one (ps_ret (pv 2))))), ?_⟩
    refine ⟨_, rfl, _, rfl, by omega, by omega, ?_⟩
    refine for_it walk_range (fun i σ' H' => σ'[1]? = some (some (.int 1)) ∧ σ'[2]? = some (some (.int ((i : Int) + 1))) ∧ σ'.length = 4 ∧ H' = H) ⟨rfl, rfl, rfl, rfl⟩ (fun _ _ _ _ _ => trivial) (fun i y σ' H1 H2 hi p y => ?_) (fun σ' H' p => ?_)
    · obtain ⟨p1, p2, pl, rfl⟩ := p
      obtain ⟨rfl, rfl⟩ := y
      have g1 : (σ'.set 3 (some (V.int (0 + (i : Int)))))[1]? = some (some (.int 1)) := by simp [p1]
      have g2 : (σ'.set 3 (some (V.int (0 + (i : Int)))))[2]? = some (some (.int ((i : Int) + 1))) := by simp [p2]
      have g3 : (σ'.set 3 (some (V.int (0 + (i : Int)))))[3]? = some (some (.int (0 + (i : Int)))) := by simp [pl]
      have hi' : i < n := by simpa using hi
      refine ⟨_, g2, _, g1, _, _, rfl, rfl, _, g3, _, _, rfl, rfl, _, _, rfl, rfl, .inl ⟨by omega, by omega⟩, _, g3, _, _, rfl, rfl, _, _, rfl, rfl, ⟨by omega, by omega⟩, ?_⟩
      have e : ((i : Int) + 1) * (1 + 1 + (0 + (i : Int))) / (0 + (i : Int) + 1) = ((i + 1 : Nat) : Int) + 1 := by
        rw [show (0 + (i : Int) + 1) = (i : Int) + 1 by omega, Int.mul_ediv_cancel_left _ (by omega)]
        omega
      refine ⟨by simp [p1], ?_, by simp [pl], rfl⟩
      rw [← e]
      simp [pl]
    · obtain ⟨p1, p2, pl, rfl⟩ := p
      refine ⟨_, p2, ?_⟩
      rw [Int.toNat_natCast]
      exact q
theorem range_getD {α : Type} (l : List α) (d : α) : (List.range l.length).map (fun k => l.getD k d) = l := by
  apply List.ext_getElem?
  intro i
  rw [List.getElem?_map]
  by_cases h : i < l.length
  · rw [List.getElem?_range h, List.getElem?_eq_getElem h]
    simp [h]
  · simp [h]
theorem idx2_flat {α β : Type} (l : List α) (d : α) (c : α → Nat) (f : α → Nat → β) : (idx2 (fun k => c (l.getD k d)) l.length).map (fun ij => f (l.getD ij.1 d) ij.2) = l.flatMap fun x => (List.range (c x)).map (f x) := by
  unfold idx2
  rw [List.map_flatMap]
  conv => rhs; rw [← range_getD l d, List.flatMap_map]
  congr 1
  funext k
  rw [List.map_map]
  rfl
theorem refs_ofG {ι : Type} {R : ι → Addr → Prop} : ∀ {l : List ι} {xs : List V}, Paired (fun j v => ∃ p : Addr, v = V.ref p ∧ R j p) l xs → ∃ ps : List Addr, xs = ps.map V.ref ∧ Paired R l ps
  | _, _, .nil => ⟨[], rfl, .nil⟩
  | _, _, .cons ⟨p, e, r⟩ t => by
    obtain ⟨ps, e2, r2⟩ := refs_ofG t
    exact ⟨p :: ps, by rw [List.map_cons, e, e2], .cons r r2⟩
theorem Ft.exT {H H' : Hp} {a : Addr} {xs : List V} (h : Ft H a xs) (e : ExT H H') : Ft H' a xs := let ⟨o, h1, h2⟩ := h; ⟨o, h1, e _ _ h2 fun _ z => nomatch z⟩
theorem getD_at {α : Type} {l : List α} {k : Nat} {x d : α} (h : l[k]? = some x) : l.getD k d = x := by rw [List.getD_eq_getElem?_getD, h]; rfl
theorem st_gn {i : Nat} {v : V} {σ : L2.St} {H : Hp} {k : L2.St → Hp → Prop} (h : k (σ.set i (some v)) H) : gName i v σ H k := h
/-- rows of i rooms with at most one guest -/
def rowsOf : Nat → List (List Int)
  | 0 => [[]]
  | i + 1 => (rowsOf i).flatMap fun r => (List.range (2 - r.sum).toNat).map fun (g : Nat) => r ++ [(g : Int)]
structure spRoomSt (vs : List V) (H : Hp) (Q : VK) (E : XK) : Prop where
  ex : ∃ n : Nat, vs = [.int n, .int 1] ∧ 2 ≤ n ∧ n ≤ 6 ∧ ∀ H' b as, Ex H H' → H' b = some (.lst (as.map V.ref)) → Tus H' as (rowsOf n) → Fts H' as (rowsOf n) → Q (.ref b) H'
theorem sc36 : FnScope ["rooms", "many", "rows", "room", "row", "guests"] ["rooms", "many"] (defScope (topS 36)) := ⟨rfl, rfl, rfl, by decide +kernel, rfl, by decide +kernel, by decide +kernel⟩
/- slots: 0 rooms, 1 many, 2 rows, 3 room, 4 row, 5 guests -/
theorem ok_room_standings (T : Txt P K mg A) : DOk P w K mg base CX0 1 "room_standings" ["rooms", "many"] [] spRoomSt := by
  refine T.room_standings.ok0 sc36 (fun vs H Q E h => ?_) (fun _ _ _ _ _ _ us hl => match us, hl with | [_, _], _ => rfl) (fun f cdv A' outer s H vs Q E hr h => ?_)
  · obtain ⟨n, rfl, _⟩ := h
    rfl
  · obtain ⟨n, rfl, hn2, hn6, q⟩ := h
    refine ⟨_, (pss_cons (ps_set (i := 2) sc36.nd rfl (Or.inl rfl) (pe_lst (pa_cons (pe_tup pa_nil) pa_nil)))
      (pss_cons (ps_for PassesOwn.never rfl (pi_range1 (by rfl) (T.b "range") (pa_cons (pv 0) pa_nil)) (pg_name (i := 3) sc36.nd rfl (Or.inl rfl)) (pss_one (ps_setLc2 (vs1 := [5]) (i := 2) rfl sc36.nd rfl rfl (by rfl) (kPiL (K := K) rfl (pv 2)) (blkOk_by (own := [("row", 4), ("guests", 5)]) (by rfl)) (by decide) (fun _ _ _ _ _ => (pg_name (i := 4) sc36.nd rfl (Or.inl rfl) (Or.inr rfl))) (fun _ _ _ _ _ => pts_nil) (fun _ _ _ _ _ => (pi_range1 (by rfl) (T.b "range") (pa_cons (pe_op op_add (pe_op op_sub (pv 1) (pe_callB (id := "sum") (kSumT (K := K) rfl rfl) (by rfl) (T.b "sum") (by decide +kernel) (pa_cons (pv 4) pa_nil))) pe_int) pa_nil))) (fun _ _ _ _ _ => (pg_name (i := 5) sc36.nd rfl (Or.inl rfl) (Or.inr rfl))) (fun _ _ _ _ _ => pts_nil) (fun _ _ _ _ _ => (pe_op (kCatF (K := K) rfl) (pv 4) (pe_tup (pa_cons (pv 5) pa_nil)))))))
      (pss_one (ps_ret (pv 2))))), ?_⟩
    refine ⟨(by decide : 0 ≤ sizeLine), fun a0 h0 => ⟨(by decide : 1 ≤ sizeLine), fun b0 hb0 => ?_⟩⟩
    refine ⟨_, rfl, _, rfl, by omega, by omega, ?_⟩
    have e0 : Ex H (upd H a0 (.tup [])) := Ex.new h0
    have e1 := ex2 (o := .lst [.ref a0]) e0 hb0
    refine for_it walk_range (fun i σ' H' => σ'[1]? = some (some (.int 1)) ∧ σ'.length = 6 ∧ Ex H H' ∧ ∃ b as, σ'[2]? = some (some (.ref b)) ∧ H' b = some (.lst (as.map V.ref)) ∧ Tus H' as (rowsOf i) ∧ (2 ≤ i → Fts H' as (rowsOf i))) ⟨rfl, rfl, e1, b0, [a0], rfl, upd_same, ?_, fun h => by omega⟩ (fun _ _ _ _ _ => trivial) (fun i y σ' H1 H2 hi p y => ?_) (fun σ' H' p => ?_)
    · refine .cons (.inl ?_) .nil
      rw [upd_ne (ne_of_none upd_same hb0), upd_same]
      rfl
    · obtain ⟨p1, pl, pe, b, as, p2, pb, pt, pf⟩ := p
      obtain ⟨rfl, rfl⟩ := y
      have hi6 : i < n := by simpa using hi
      refine st_gn ?_
      dsimp only
      generalize hσ : σ'.set 3 (some (V.int (0 + (i : Int)))) = σ2
      have g1 : σ2[1]? = some (some (.int 1)) := by subst hσ; simp [p1]
      have g2 : σ2[2]? = some (some (.ref b)) := by subst hσ; simp [p2]
      have gl : σ2.length = 6 := by subst hσ; simp [pl]
      have hal := Paired.length pt
      have hsz : ∀ m, m ≤ 6 → (rowsOf m).length ≤ 10000 := by decide
      have hsum : ∀ m, m ≤ 6 → ∀ r ∈ rowsOf m, 0 ≤ r.sum ∧ r.sum ≤ 1 ∧ r.length = m := by decide
      have fl := idx2_flat (rowsOf i) [] (fun r => (2 - r.sum).toNat) (fun r g => r ++ [(g : Int)])
      refine ⟨_, g2, b, rfl, ⟨_, sq_of pb⟩, ?_⟩
      refine lc2R (Qd := fun D H' => _) walk_list (fun k => (2 - ((rowsOf i).getD k []).sum).toNat) (fun k j v H' => ∃ p, v = .ref p ∧ Tu H' p ((rowsOf i).getD k [] ++ [(j : Int)]) ∧ (2 ≤ i + 1 → Ft H' p (((rowsOf i).getD k [] ++ [(j : Int)]).map V.int))) ?_ (fun H' e => sq_of (e _ _ pb)) (fun k j x H H' e z => ?_) (fun k x H' H'' Z Y0 hk e y kk => ?_) (fun D H' xs hD e hl hp => ?_)
      · have h1 := congrArg List.length fl
        have h2 := hsz (i + 1) (by omega)
        rw [List.length_map] at h1
        rw [List.length_map, hal, h1]
        exact Nat.le_trans h2 (by decide)
      · obtain ⟨p, rfl, h1, h2⟩ := z
        exact ⟨p, rfl, h1.exT e, fun h => (h2 h).exT e⟩
      · obtain ⟨rfl, y⟩ := y
        obtain ⟨ra, era, rfl⟩ := get_map y
        obtain ⟨r, er, tr⟩ := paired_at pt era
        have gr := getD_at (d := []) er
        obtain ⟨hs0, hs1, hrl⟩ := hsum i (by omega) r (List.mem_of_getElem? er)
        have hcnt : (1 - r.sum + 1).toNat = (2 - ((rowsOf i).getD k []).sum).toNat := by rw [gr]; omega
        refine st_gn ?_
        generalize hσ3 : (wipe σ2 (List.map (fun x => x.snd) [(Str.ofString "row", 4), (Str.ofString "guests", 5)])).set 4 (some (V.ref ra)) = σ3
        have w1 : σ3[1]? = some (some (.int 1)) := by subst hσ3; simp [wipe, g1]
        have w4 : σ3[4]? = some (some (.ref ra)) := by subst hσ3; simp [wipe, gl]
        have wl : σ3.length = 6 := by subst hσ3; simp [wipe, gl]
        refine ⟨by subst hσ3; exact wipe_set (by decide), _, w1, _, w4, ra, r, rfl, rd_t (tr.same e), _, _, rfl, rfl, _, _, rfl, rfl, _, rfl, by omega, by omega, ?_⟩
        refine kk _ (fun _ => True) (YFn fun j => .int (0 + (j : Int))) _ _ (Ex.refl _) (by rw [← hcnt]; exact walk_range) (fun _ _ _ => trivial) (fun j x H5 H6 Yv Y0 hj e5 t5 y kv => ?_)
        obtain ⟨rfl, rfl⟩ := y
        refine st_gn ?_
        dsimp only
        have v4 : ((wipe σ3 [5]).set 5 (some (V.int (0 + (j : Int)))))[4]? = some (some (.ref ra)) := by simp [wipe, w4]
        have v5 : ((wipe σ3 [5]).set 5 (some (V.int (0 + (j : Int)))))[5]? = some (some (.int (0 + (j : Int)))) := by simp [wipe, wl]
        refine ⟨by simp [wipe], _, v4, _, v5, (by decide : 1 ≤ sizeLine), fun p hp => ?_⟩
        have t6 : Tu (upd H6 p (.tup [V.int (0 + (j : Int))])) ra r := tr.same (ex2 e5 hp)
        have tp : Tu (upd H6 p (.tup [V.int (0 + (j : Int))])) p [(j : Int)] := .inl (by rw [upd_same]; simp)
        refine ⟨ra, p, _, _, rfl, rfl, rd_t t6, st_of upd_same, by simp, sz_of (by rw [List.length_map, hrl]; simp; omega), fun h0 => ?_, fun hn0 q o hq ho => ?_⟩
        · have hr0 : r = [] := List.map_eq_nil_iff.mp h0
          subst hr0
          refine kv _ _ (Ex.new hp) ⟨p, rfl, by rw [gr]; exact tp, fun h => ?_⟩
          have : i = 0 := hrl.symm
          omega
        · have hf : Ft (upd (upd H6 p (.tup [V.int (0 + (j : Int))])) q (.frz o (.tup (r.map V.int ++ [V.int (0 + (j : Int))])))) q ((r ++ [(j : Int)]).map V.int) := ⟨o, ho, by rw [upd_same]; simp⟩
          exact kv _ _ (ex2 (Ex.new hp) hq) ⟨q, rfl, by rw [gr]; exact hf.rd, fun _ => by rw [gr]; exact hf⟩
      · rw [List.length_map, hal] at hp
        obtain ⟨rs, e1, pr⟩ := refs_ofG hp
        subst e1
        have t1 : Tus H' rs (rowsOf (i + 1)) := by
          show Tus H' rs ((rowsOf i).flatMap fun r => (List.range (2 - r.sum).toNat).map fun (g : Nat) => r ++ [(g : Int)])
          rw [← fl]
          exact paired_mapR (paired_flip (Paired.mapP pr fun _ _ z => z.1))
        have t2 : 2 ≤ i + 1 → Fts H' rs (rowsOf (i + 1)) := fun h => by
          show Fts H' rs ((rowsOf i).flatMap fun r => (List.range (2 - r.sum).toNat).map fun (g : Nat) => r ++ [(g : Int)])
          rw [← fl]
          exact paired_mapR (F := fun a (ns : List Int) => Ft H' a (ns.map V.int)) (paired_flip (Paired.mapP pr fun _ _ z => z.2 h))
        exact ⟨by simp [wipe, g1], by simp [gl], pe.trans e, D, rs, by simp [gl], hl, t1, t2⟩
    · obtain ⟨p1, pl, pe, b, as, p2, pb, pt, pf⟩ := p
      rw [Int.toNat_natCast] at pt pf
      exact ⟨_, p2, q _ b as pe pb pt (pf hn2)⟩
end
end Kx
/-! The house of one guest in plain words: standings, arrows, ways. -/
namespace Kx
open PySem PySem.Spec PyProof.Rows L2
/-- the standing j: 0 nobody within; j the guest is in room n - j -/
def stS (n j : Nat) : List Int := (List.range n).map fun r => if j + r = n then 1 else 0
def stV (n : Nat) (a : Nat × Nat) : List Int := List.zipWith (· - ·) (stS n a.2) (stS n a.1)
def plK (n : Nat) : List (List Int × V) := (List.range (n + 1)).map fun (j : Nat) => (stS n j, V.int j)
def stE (n : Nat) (x y : Int) : List Int := (List.range n).map fun (r : Nat) => (if (r : Int) = y then 1 else 0) - (if (r : Int) = x then 1 else 0)
def stP (n : Nat) (x : Int) : List Int := (List.range n).map fun (r : Nat) => if (r : Int) = x then 1 else 0
def stM (n : Nat) (x : Int) : List Int := (List.range n).map fun (r : Nat) => -(if (r : Int) = x then 1 else 0)
theorem rows_st : ∀ n ∈ [2, 3, 4, 5, 6], rowsOf n = (List.range (n + 1)).map (stS n) := by decide
theorem rows_asc : ∀ n ∈ [2, 3, 4, 5, 6], (rowsOf n).Pairwise (· ≤ ·) ∧ (rowsOf n).Nodup ∧ (rowsOf n).length = n + 1 ∧ (∀ r ∈ rowsOf n, r.length = n ∧ (∀ m ∈ r, 0 ≤ m ∧ m < 2)) := by decide +kernel
theorem stV_val : ∀ n ∈ [2, 3, 4, 5, 6], ∀ k ∈ List.range (n + 1), ∀ s ∈ List.range (n + 1), ∀ t ∈ List.range (n + 1), s ≠ t → valV (plK n) (List.zipWith (· + ·) (stS n k) (stV n (s, t))) = if s = k then some (V.int t) else none := by decide +kernel
theorem stE_is : ∀ n ∈ [2, 3, 4, 5, 6], ∀ x ∈ List.range n, ∀ y ∈ List.range n, stE n x y = stV n (n - x, n - y) := by decide +kernel
theorem stP_is : ∀ n ∈ [2, 3, 4, 5, 6], ∀ x ∈ List.range n, stP n x = stV n (0, n - x) ∧ stM n x = stV n (n - x, 0) := by decide +kernel
theorem mem_n {n : Nat} (h : 2 ≤ n) (h6 : n ≤ 6) : n ∈ [2, 3, 4, 5, 6] := by
  have : n = 2 ∨ n = 3 ∨ n = 4 ∨ n = 5 ∨ n = 6 := by omega
  simp
  omega
/-- the arrows of doors and gates -/
def arrE (n : Nat) (E : List (List Int)) : List (Nat × Nat) := E.map fun e => (n - (e.getD 0 0).toNat, n - (e.getD 1 0).toNat)
def arrG (n : Nat) (G : List Int) : List (Nat × Nat) := G.flatMap fun g => [(0, n - g.toNat), (n - g.toNat, 0)]
def arr (n : Nat) (E : List (List Int)) (G : List Int) : List (Nat × Nat) := arrE n E ++ arrG n G
/-- the changes, from each standing on -/
def chgAt (as : List (Nat × Nat)) (k : Nat) : List (List Int) := (as.filter fun a => a.1 = k).map fun a => [(k : Int), (a.2 : Int)]
def chg (as : List (Nat × Nat)) (n : Nat) : List (List Int) := (List.range n).flatMap (chgAt as)
theorem chg_succ (as : List (Nat × Nat)) (n : Nat) : chg as (n + 1) = chg as n ++ chgAt as n := by
  unfold chg
  rw [List.range_succ, List.flatMap_append, List.flatMap_cons, List.flatMap_nil, List.append_nil]
theorem mem_chg {as : List (Nat × Nat)} {n : Nat} {ms : List Int} : ms ∈ chg as n ↔ ∃ s t : Nat, (s, t) ∈ as ∧ s < n ∧ ms = [(s : Int), (t : Int)] := by
  unfold chg chgAt
  constructor
  · intro h
    obtain ⟨k, hk, h⟩ := List.mem_flatMap.mp h
    obtain ⟨a, ha, e⟩ := List.mem_map.mp h
    obtain ⟨h1, h2⟩ := List.mem_filter.mp ha
    have h3 : a.1 = k := of_decide_eq_true h2
    exact ⟨k, a.2, by rw [← h3]; exact h1, List.mem_range.mp hk, e.symm⟩
  · rintro ⟨s, t, h, hs, rfl⟩
    exact List.mem_flatMap.mpr ⟨s, List.mem_range.mpr hs, List.mem_map.mpr ⟨(s, t), List.mem_filter.mpr ⟨h, decide_eq_true rfl⟩, rfl⟩⟩
theorem chgAt_nodup {as : List (Nat × Nat)} (h : as.Nodup) (k : Nat) : (chgAt as k).Nodup := by
  unfold chgAt
  have h1 : (as.filter fun a => a.1 = k).Nodup := h.filter _
  refine List.Pairwise.map _ (fun a b hab => ?_) (List.Pairwise.and_mem.mp h1)
  obtain ⟨ha, hb, hne⟩ := hab
  intro e
  have h2 : a.1 = k := of_decide_eq_true (List.mem_filter.mp ha).2
  have h3 : b.1 = k := of_decide_eq_true (List.mem_filter.mp hb).2
  have h4 : a.2 = b.2 := by
    simp at e
    exact Int.ofNat_inj.mp e
  exact hne (Prod.ext (h2.trans h3.symm) h4)
theorem chg_nodup {as : List (Nat × Nat)} (h : as.Nodup) : ∀ n, (chg as n).Nodup
  | 0 => List.nodup_nil
  | n + 1 => by
    rw [chg_succ]
    refine List.nodup_append.mpr ⟨chg_nodup h n, chgAt_nodup h n, fun a ha b hb e => ?_⟩
    subst e
    obtain ⟨s, t, _, hs, e1⟩ := mem_chg.mp ha
    obtain ⟨a', ha', e2⟩ := List.mem_map.mp hb
    rw [← e2] at e1
    simp at e1
    omega
theorem chg_len {as : List (Nat × Nat)} : ∀ n, (chg as n).length ≤ n * as.length
  | 0 => by simp [chg]
  | n + 1 => by
    rw [chg_succ, List.length_append, Nat.succ_mul]
    have h1 := chg_len (as := as) n
    have h2 : (chgAt as n).length ≤ as.length := by
      unfold chgAt
      rw [List.length_map]
      exact List.length_filter_le _ _
    omega
/-- where one goes -/
structure Ways (n : Nat) (as : List (Nat × Nat)) (Ah : List (List Int)) : Prop where
  len : Ah.length = n + 1
  mem : ∀ (j : Nat) (row : List Int), Ah[j]? = some row → ∀ m : Int, m ∈ row ↔ ∃ t : Nat, m = t ∧ (j, t) ∈ as
  small : ∀ row ∈ Ah, row.length ≤ 10000
theorem mem_outs {css : List (List Int)} {s m : Int} : m ∈ outs css s ↔ ∃ c ∈ css, c.getD 0 (-1) = s ∧ c.getD 1 (-1) = m := by
  unfold outs
  rw [List.mem_filterMap]
  constructor
  · rintro ⟨c, hc, h⟩
    by_cases e : c.getD 0 (-1) = s
    · rw [if_pos e] at h
      exact ⟨c, hc, e, Option.some.inj h⟩
    · rw [if_neg e] at h
      cases h
  · rintro ⟨c, hc, e, rfl⟩
    exact ⟨c, hc, by rw [if_pos e]⟩
theorem mem_inns {css : List (List Int)} {s m : Int} : m ∈ inns css s ↔ ∃ c ∈ css, c.getD 1 (-1) = s ∧ c.getD 0 (-1) = m := by
  unfold inns
  rw [List.mem_filterMap]
  constructor
  · rintro ⟨c, hc, h⟩
    by_cases e : c.getD 1 (-1) = s
    · rw [if_pos e] at h
      exact ⟨c, hc, e, Option.some.inj h⟩
    · rw [if_neg e] at h
      cases h
  · rintro ⟨c, hc, e, rfl⟩
    exact ⟨c, hc, by rw [if_pos e]⟩
theorem range_at {β : Type} {f : Nat → β} {n j : Nat} {y : β} (h : ((List.range n).map f)[j]? = some y) : j < n ∧ y = f j := by
  rw [List.getElem?_map] at h
  by_cases hj : j < n
  · rw [List.getElem?_range hj] at h
    exact ⟨hj, (Option.some.inj h).symm⟩
  · rw [List.getElem?_eq_none (by rw [List.length_range]; omega)] at h
    cases h
theorem ways_out {as : List (Nat × Nat)} {n : Nat} {css : List (List Int)} (hp : css.Perm (chg as (n + 1))) (hl : css.length ≤ 10000) : Ways n as ((List.range (n + 1)).map fun (j : Nat) => outs css j) where
  len := by simp
  mem := fun j row hj m => by
    obtain ⟨hjn, rfl⟩ := range_at hj
    rw [mem_outs]
    constructor
    · rintro ⟨c, hc, h0, h1⟩
      obtain ⟨s, t, hst, hs, rfl⟩ := mem_chg.mp (hp.mem_iff.mp hc)
      have : s = j := Int.ofNat_inj.mp h0
      subst this
      exact ⟨t, h1.symm, hst⟩
    · rintro ⟨t, rfl, h⟩
      exact ⟨[(j : Int), (t : Int)], hp.mem_iff.mpr (mem_chg.mpr ⟨j, t, h, hjn, rfl⟩), rfl, rfl⟩
  small := fun row h => by
    obtain ⟨j, _, rfl⟩ := List.mem_map.mp h
    exact Nat.le_trans (List.length_filterMap_le _ _) hl
theorem ways_in {as : List (Nat × Nat)} {n : Nat} {css : List (List Int)} (hs : ∀ a ∈ as, a.1 < n + 1) (hp : css.Perm (chg as (n + 1))) (hl : css.length ≤ 10000) : Ways n (as.map fun a => (a.2, a.1)) ((List.range (n + 1)).map fun (j : Nat) => inns css j) where
  len := by simp
  mem := fun j row hj m => by
    obtain ⟨hjn, rfl⟩ := range_at hj
    rw [mem_inns]
    constructor
    · rintro ⟨c, hc, h0, h1⟩
      obtain ⟨s, t, hst, hs, rfl⟩ := mem_chg.mp (hp.mem_iff.mp hc)
      have : t = j := Int.ofNat_inj.mp h0
      subst this
      exact ⟨s, h1.symm, List.mem_map.mpr ⟨(s, t), hst, rfl⟩⟩
    · rintro ⟨t, rfl, h⟩
      obtain ⟨a, ha, e⟩ := List.mem_map.mp h
      have e1 : a.2 = j := congrArg Prod.fst e
      have e2 : a.1 = t := congrArg Prod.snd e
      exact ⟨[(t : Int), (j : Int)], hp.mem_iff.mpr (mem_chg.mpr ⟨t, j, by rw [← e1, ← e2]; exact ha, by rw [← e2]; exact hs a ha, rfl⟩), rfl, rfl⟩
  small := fun row h => by
    obtain ⟨j, _, rfl⟩ := List.mem_map.mp h
    exact Nat.le_trans (List.length_filterMap_le _ _) hl
end Kx
namespace Kx
open PySem PySem.Spec PyProof.Rows L2
open Evl (Ex ex_rd ex_l ex_t st_of sq_of sz_lt sz_of)
section
variable {X : Cx} {P : Program} {w : World} {kx vx : Expr}
theorem kPutO {tk tv : TE} {D : Addr} (hP : X.prog = P) (hw : X.w = w) (hu : X.A.units < cLine) (hk : PE X kx tk) (hv : PE X vx tv) : AddOk X (dBody kx vx) D [] (tPutO P w tk tv D) := by subst hP hw; exact add_putO hu hk hv
end
/-- a def with defaults, called with all its parameters -/
theorem Gdef.ok0D {P : Program} {w : World} {K : PySem.W.Frag} {mg : PySem.Str → Option Value} {base : Heap} {x : PySem.Str} {st : Stmt} {N ps : List PySem.Str} {k : Nat} {sp : Sp} {dvs : List V} (G : Gdef K mg x st dvs) (hd : dvs ≠ []) (S : FnScope N ps (defScope st)) (len : ∀ vs H Q E, sp vs H Q E → vs.length = ps.length)
    (hb : ∀ (T : Addr) (kV doc pm : Value) (an : Option Addr) (cdv ct : Value) (us its : List Value), us.length = ps.length → its.length = dvs.length → ∃ k, bindArgs (PySem.W.fnOf x x (defArgs st) (defBody st) (defScope st) (.ref T) kV doc pm an cdv ct) ⟨us, []⟩ = seqItems? (.ref T) >>= k ∧ k (some its.toArray) = pure (ps.zip us))
    (hbody : ∀ (f : Addr) (cdv : Value) (A : Around) (outer : List Env) (s : Shared) (H : Hp) (vs : List V) (Q : VK) (E : XK), Room k (A.deeper (envOfC x (defScope st) s.heap.objs.size f cdv)) → sp vs H Q E →
      ∃ t, PSs (cxOf CX0 P w K mg base N x (defScope st) f cdv A outer s H E).nox (defBody st) t ∧ t { nx := fun _ H' => Q .non H', rt := Q } (start N vs) H) : DOk P w K mg base CX0 (k + 1) x ps [] sp := by
  obtain ⟨f, fd, a, F⟩ := G.ex
  obtain ⟨ds, hv, hB⟩ := F.binds1 (ps := ps) ps.length dvs.length hd (by omega) fun T kV doc pm an cdv ct us its hl h2 => by
    obtain ⟨k, h3, h4⟩ := hb T kV doc pm an cdv ct us its hl h2
    exact ⟨k, h3, by rw [h4, ← h2, List.drop_length, List.append_nil]⟩
  rw [List.drop_length] at hv
  cases hv
  refine ⟨f, fd, [], a, F.kp, hB, .nil, F.ok S len fun cdv A outer s H vs Q E hr h => ?_, FunD.at_ F⟩
  obtain ⟨t, h1, h2⟩ := hbody f cdv A outer s H vs Q E hr h
  exact ⟨t, h1.nox, h2⟩
theorem st_bm {K : PySem.W.Frag} {T : String} {r : V → List V → Hp → VK → Prop} {to : TE} {t : TA} {σ : L2.St} {H : Hp} {Q : VK} (h : to σ H fun x H1 => tyV K T x H1 ∧ t σ H1 fun xs H2 => r x xs H2 Q) : tBM K T r to t σ H Q := h
theorem st_c1 {te : TE} {σ : L2.St} {H : Hp} {Q : List V → Hp → Prop} (h : te σ H fun x H1 => Q [x] H1) : tCons te tNil σ H Q := h
theorem int_bl (k z : Int) : (if decide (V.int k = V.int z) = true then (1 : Int) else 0) = if k = z then 1 else 0 := by simp
theorem arrG_len (n : Nat) : ∀ G : List Int, (arrG n G).length ≤ 2 * G.length
  | [] => by simp [arrG]
  | g :: G => by
    have := arrG_len n G
    unfold arrG at this ⊢
    rw [List.flatMap_cons, List.length_append, List.length_cons]
    simp at this ⊢
    omega
theorem getD_map {α : Type} {l : List α} {f : α → V} {k : Nat} {x : α} {d : V} (h : l[k]? = some x) : (l.map f).getD k d = f x := getD_at (by rw [List.getElem?_map, h]; rfl)
theorem arr_ok {n : Nat} {Es : List (List Int)} {G : List Int} (hc : ∀ ms ∈ Es, ∃ x y : Int, ms = [x, y] ∧ 0 ≤ x ∧ x < n ∧ 0 ≤ y ∧ y < n ∧ x ≠ y) (hG : ∀ r ∈ G, 0 ≤ r ∧ r < (n : Int)) : ∀ a ∈ arr n Es G, a.1 ≤ n ∧ a.2 ≤ n ∧ a.1 ≠ a.2 := fun a ha => by
  rcases List.mem_append.mp ha with h | h
  · obtain ⟨e, he, rfl⟩ := List.mem_map.mp h
    obtain ⟨x, y, rfl, h1, h2, h3, h4, h5⟩ := hc e he
    refine ⟨Nat.sub_le _ _, Nat.sub_le _ _, ?_⟩
    show n - x.toNat ≠ n - y.toNat
    omega
  · obtain ⟨g, hg, h⟩ := List.mem_flatMap.mp h
    obtain ⟨h1, h2⟩ := hG g hg
    rcases List.mem_cons.mp h with rfl | h
    · exact ⟨Nat.zero_le _, Nat.sub_le _ _, by show 0 ≠ n - g.toNat; omega⟩
    · have : a = (n - g.toNat, 0) := by simpa using h
      subst this
      exact ⟨Nat.sub_le _ _, Nat.zero_le _, by show n - g.toNat ≠ 0; omega⟩
theorem sq_rd {H : Hp} {a : Addr} {u : HO} (h : H a = some u) : Rd H a u := .inl h
theorem two_rep (n : Nat) : (List.replicate n [V.int (1 + 1)]).flatten = (List.replicate n (2 : Int)).map V.int := by
  induction n with
  | zero => rfl
  | succ n ih => rw [List.replicate_succ, List.flatten_cons, ih, List.replicate_succ]; rfl
theorem stS_len (n j : Nat) : (stS n j).length = n := by simp [stS]
theorem stV_len (n : Nat) (a : Nat × Nat) : (stV n a).length = n := by simp [stV, stS_len]
theorem zip_at {xs ys : List Int} {i : Nat} {a b : Int} (ha : xs[i]? = some a) (hb : ys[i]? = some b) : (List.zipWith (· + ·) xs ys)[i]? = some (a + b) := by rw [List.getElem?_zipWith, ha, hb]
section
variable {P : Program} {w : World} {K : PySem.W.Frag} {mg : PySem.Str → Option Value} {base : Heap} {A : Ads}
structure spGuestHouse (A : Ads) (vs : List V) (H : Hp) (Q : VK) (E : XK) : Prop where
  ex : ∃ (n : Nat) (d g : Addr) (ds : List Addr) (Es : List (List Int)) (G : List Int), vs = [.int n, .ref d, .int 1, .ref g] ∧ 2 ≤ n ∧ n ≤ 6 ∧ LT H d ds Es ∧ Es.Nodup ∧ Es.length ≤ 100 ∧ (∀ ms ∈ Es, ∃ x y : Int, ms = [x, y] ∧ 0 ≤ x ∧ x < n ∧ 0 ≤ y ∧ y < n ∧ x ≠ y) ∧
    Tu H g G ∧ G ≠ [] ∧ G.Pairwise (· < ·) ∧ G.length ≤ 6 ∧ (∀ r ∈ G, 0 ≤ r ∧ r < n) ∧ (arr n Es G).Nodup ∧
    ∀ H' x ns Ah Bh, Ex H H' → HsAt A H' x ns (rowsOf n) Ah Bh → ns.length = n → Ways n (arr n Es G) Ah → Ways n ((arr n Es G).map fun a => (a.2, a.1)) Bh → Q (.ref x) H'
theorem sc37 : FnScope ["rooms", "doors", "many", "gates", "standings", "places", "steps", "start", "goal", "gate", "changes", "number", "standing", "step", "moved", "row", "room", "guests", "more"] ["rooms", "doors", "many", "gates"] (defScope (topS 37)) := ⟨rfl, rfl, rfl, by decide +kernel, rfl, by decide +kernel, by decide +kernel⟩
/- slots: 0 rooms, 1 doors, 2 many, 3 gates, 4 standings, 5 places, 6 steps, 7 start, 8 goal, 9 gate, 10 changes, 11 number, 12 standing, 13 step, 14 moved, 15 row, 16 room, 17 guests, 18 more -/
theorem ok_guest_house (T : Txt P K mg A) : DOk P w K mg base CX0 7 "guest_house" ["rooms", "doors", "many", "gates"] [] (spGuestHouse A) := by
  have D_need_rooms := (ok_need_rooms (P := P) (w := w) (base := base) T).mono (by decide : 5 ≤ 6)
  have D_placings_count := (ok_placings_count (P := P) (w := w) (base := base) T).mono (by decide : 1 ≤ 6)
  have D_room_standings := (ok_room_standings (P := P) (w := w) (base := base) T).mono (by decide : 1 ≤ 6)
  obtain ⟨t3, e_MOST_STANDINGS⟩ := T.MOST_STANDINGS
  obtain ⟨fdH, B_hInit, F_hInit⟩ := ok_hinit (P := P) (w := w) (base := base) T
  refine T.guest_house.ok0D (by simp) sc37 (fun vs H Q E h => ?_) (fun T kV doc pm an cdv ct us its hl h2 => match us, hl, its, h2 with | [_, _, _, _], _, [_], _ => ⟨_, rfl, rfl⟩) (fun f cdv A' outer s H vs Q E hr h => ?_)
  · obtain ⟨n, d, g, ds, Es, G, rfl, _⟩ := h
    rfl
  · obtain ⟨n, d, g, ds, Es, G, rfl, hn2, hn6, hd, hnd, hz, hc, hg, hG0, hasc, hGl, hG, harr, q⟩ := h
    have hu := hu_of hr
    refine ⟨_, (pss_cons (ps_expr (pe_d D_need_rooms hr (by rfl) pass0 (pa_cons (pv 0) (pa_cons (pv 1) (pa_cons (pv 2) (pa_cons (pv 3) pa_nil))))))
      (pss_cons (ps_if (pt_cmpR op_gt (pe_d D_placings_count hr (by rfl) pass0 (pa_cons (pe_ifExp (pt_cmpR op_gt (pe_callB (id := "len") (kLen (K := K) rfl) (by rfl) (T.b "len") (by decide +kernel) (pa_cons (pv 3) pa_nil)) pe_int (nomark _)) (pv 0) (pe_op op_sub (pv 0) pe_int)) (pa_cons (pv 2) pa_nil))) (pe_glob (v := .int 300) (by rfl) e_MOST_STANDINGS ⟨_, rfl⟩) (nomark _)) (pss_one ps_never) pss_nil)
      (pss_cons (ps_setLc (i := 4) rfl sc37.nd rfl rfl (by rfl) (kPiL (K := K) rfl (pe_d D_room_standings hr (by rfl) pass0 (pa_cons (pv 0) (pa_cons (pv 2) pa_nil)))) (blkOk_by (own := [("row", 15)]) (by rfl)) (fun _ _ _ _ _ => (pg_name (i := 15) sc37.nd rfl (Or.inl rfl) (Or.inr rfl))) (fun _ _ _ _ _ => (pts_one (PW.pt (pw_or (pt_cmpR op_gt (pe_callB (id := "len") (kLen (K := K) rfl) (by rfl) (T.b "len") (by decide +kernel) (pa_cons (pv 3) pa_nil)) pe_int (nomark _)) (pw_or1 (pt_cmpR op_eq (pe_callB (id := "sum") (kSumT (K := K) rfl rfl) (by rfl) (T.b "sum") (by decide +kernel) (pa_cons (pv 15) pa_nil)) (pv 2) (nomark _))))))) (fun _ _ _ _ _ => (pv 15)))
      (pss_cons (ps_setC1 (i := 5) (vs1 := []) form_d1O (by rfl) rfl sc37.nd rfl rfl (kEnum (K := K) rfl (by rfl) (T.b "enumerate") (pa_cons (pv 4) pa_nil)) (blkOk_by (own := [("number", 11), ("standing", 12)]) (by rfl)) (by decide) (fun _ _ _ _ _ => (kTgt (K := K) (n := 2) rfl rfl (pgs_cons (pg_name (i := 11) sc37.nd rfl (Or.inl rfl) (Or.inr rfl)) (pgs_cons (pg_name (i := 12) sc37.nd rfl (Or.inl rfl) (Or.inr rfl)) pgs_nil)) rfl rfl)) (fun _ _ _ _ _ => pts_nil) (fun _ _ _ _ _ _ => kPutO (P := P) (w := w) rfl rfl hr.units0 (pv 12) (pv 11)))
      (pss_cons (ps_set (i := 6) sc37.nd rfl (Or.inl rfl) (pe_lst pa_nil))
      (pss_cons (ps_for PassesOwn.never rfl (kPiL (K := K) rfl (pv 1)) (kTgt (K := K) (n := 2) rfl rfl (pgs_cons (pg_name (i := 7) sc37.nd rfl (Or.inr rfl)) (pgs_cons (pg_name (i := 8) sc37.nd rfl (Or.inr rfl)) pgs_nil)) rfl rfl) (pss_one (ps_expr (kBM (K := K) rfl PySem.F.plainAttrs_list PySem.F.slot_list_append PySem.F.type_list_append mt_append (pv 6) (pa_cons (pe_callTy (T := "tuple") (kTup (K := K) rfl) (by rfl) (T.b "tuple") (by decide +kernel) (pa_cons (pe_lc rfl sc37.nd (pi_range1 (by rfl) (T.b "range") (pa_cons (pv 0) pa_nil)) (blkOk_by (own := [("room", 16)]) (by rfl)) (fun _ _ _ _ _ => (pg_name (i := 16) sc37.nd rfl (Or.inl rfl) (Or.inr rfl))) (fun _ _ _ _ _ => pts_nil) (fun _ _ _ _ _ => (pe_op op_sub (pe_callTy (T := "int") call_int1 (by rfl) (T.b "int") (by decide +kernel) (pa_cons (pe_cmpR op_eq (pv 16) (pv 8) (nomark _)) pa_nil)) (pe_callTy (T := "int") call_int1 (by rfl) (T.b "int") (by decide +kernel) (pa_cons (pe_cmpR op_eq (pv 16) (pv 7) (nomark _)) pa_nil))))) pa_nil)) pa_nil)))))
      (pss_cons (ps_for PassesOwn.never rfl (kPiT (K := K) rfl (pv 3)) (pg_name (i := 9) sc37.nd rfl (Or.inr rfl)) (pss_cons (ps_expr (kBM (K := K) rfl PySem.F.plainAttrs_list PySem.F.slot_list_append PySem.F.type_list_append mt_append (pv 6) (pa_cons (pe_callTy (T := "tuple") (kTup (K := K) rfl) (by rfl) (T.b "tuple") (by decide +kernel) (pa_cons (pe_lc rfl sc37.nd (pi_range1 (by rfl) (T.b "range") (pa_cons (pv 0) pa_nil)) (blkOk_by (own := [("room", 16)]) (by rfl)) (fun _ _ _ _ _ => (pg_name (i := 16) sc37.nd rfl (Or.inl rfl) (Or.inr rfl))) (fun _ _ _ _ _ => pts_nil) (fun _ _ _ _ _ => (pe_callTy (T := "int") call_int1 (by rfl) (T.b "int") (by decide +kernel) (pa_cons (pe_cmpR op_eq (pv 16) (pv 9) (nomark _)) pa_nil)))) pa_nil)) pa_nil)))
      (pss_one (ps_expr (kBM (K := K) rfl PySem.F.plainAttrs_list PySem.F.slot_list_append PySem.F.type_list_append mt_append (pv 6) (pa_cons (pe_callTy (T := "tuple") (kTup (K := K) rfl) (by rfl) (T.b "tuple") (by decide +kernel) (pa_cons (pe_lc rfl sc37.nd (pi_range1 (by rfl) (T.b "range") (pa_cons (pv 0) pa_nil)) (blkOk_by (own := [("room", 16)]) (by rfl)) (fun _ _ _ _ _ => (pg_name (i := 16) sc37.nd rfl (Or.inl rfl) (Or.inr rfl))) (fun _ _ _ _ _ => pts_nil) (fun _ _ _ _ _ => (pe_un un_neg (pe_callTy (T := "int") call_int1 (by rfl) (T.b "int") (by decide +kernel) (pa_cons (pe_cmpR op_eq (pv 16) (pv 9) (nomark _)) pa_nil))))) pa_nil)) pa_nil))))))
      (pss_cons (ps_set (i := 10) sc37.nd rfl (Or.inl rfl) (pe_lst pa_nil))
      (pss_cons (ps_for PassesOwn.never rfl (kEnum (K := K) rfl (by rfl) (T.b "enumerate") (pa_cons (pv 4) pa_nil)) (kTgt (K := K) (n := 2) rfl rfl (pgs_cons (pg_name (i := 11) sc37.nd rfl (Or.inl rfl)) (pgs_cons (pg_name (i := 12) sc37.nd rfl (Or.inl rfl)) pgs_nil)) rfl rfl) (pss_one (ps_for PassesOwn.never rfl (kPiL (K := K) rfl (pv 6)) (pg_name (i := 13) sc37.nd rfl (Or.inl rfl)) (pss_cons (ps_set (i := 14) sc37.nd rfl (Or.inl rfl) (pe_callTy (T := "tuple") (kTup (K := K) rfl) (by rfl) (T.b "tuple") (by decide +kernel) (pa_cons (pe_lc rfl sc37.nd (kZipA (K := K) rfl (by rfl) (T.b "zip") (pa_cons (pv 12) (pa_cons (pv 13) pa_nil))) (blkOk_by (own := [("guests", 17), ("more", 18)]) (by rfl)) (fun _ _ _ _ _ => (kTgt (K := K) (n := 2) rfl rfl (pgs_cons (pg_name (i := 17) sc37.nd rfl (Or.inl rfl) (Or.inr rfl)) (pgs_cons (pg_name (i := 18) sc37.nd rfl (Or.inl rfl) (Or.inr rfl)) pgs_nil)) rfl rfl)) (fun _ _ _ _ _ => pts_nil) (fun _ _ _ _ _ => (pe_op op_add (pv 17) (pv 18)))) pa_nil)))
      (pss_one (ps_if (pt_cmp (kDInO (P := P) (w := w) rfl rfl hu (pv 14) (pv 5))) (pss_one (ps_expr (kBM (K := K) rfl PySem.F.plainAttrs_list PySem.F.slot_list_append PySem.F.type_list_append mt_append (pv 10) (pa_cons (pe_tup (pa_cons (pv 11) (pa_cons (kDGetO (P := P) (w := w) rfl rfl hu (pv 5) (pv 14) (fun _ _ => rfl)) pa_nil))) pa_nil)))) pss_nil))))))
      (pss_one (ps_ret (pe_make T.hMk F_hInit hr (by rfl) T.House B_hInit .nil pass0 (pa_cons (pe_op op_rep (pe_lst (pa_cons (pe_op op_add (pv 2) pe_int) pa_nil)) (pv 0)) (pa_cons (pv 4) (pa_cons (pv 10) pa_nil))))))))))))))), ?_⟩
    have hnn := mem_n hn2 hn6
    obtain ⟨rasc, rnd, rlen, rfit⟩ := rows_asc n hnn
    have hGp : 0 < G.length := List.length_pos_iff.mpr hG0
    refine ⟨_, rfl, _, rfl, _, rfl, _, rfl, ⟨n, d, g, ds, Es, G, rfl, by omega, by omega, hd, hnd, by omega, hc, hg, hasc, hG, fun H1 e1 => ?_⟩⟩
    refine ⟨_, rfl, g, _, rfl, .inr (rd_t (ex_rd e1 hg)), _, _, rfl, rfl, true, by simp; omega, ?_⟩
    refine ⟨_, rfl, _, rfl, ⟨n, rfl, by omega, _, _, rfl, rfl, false, by simp; omega, ?_⟩⟩
    refine ⟨_, rfl, _, rfl, ⟨n, rfl, hn2, hn6, fun H2 b0 as e2 hb0 ht0 hf0 => ?_⟩⟩
    refine ⟨b0, rfl, ⟨_, sq_of hb0⟩, ?_⟩
    have hal := Paired.length ht0
    have e12 := e1.trans e2
    refine lcV (Qd := fun D H' => _) walk_list (fun _ => true) (fun k => (as.map V.ref).getD k .non) (by rw [List.length_map, hal, rlen]; omega) (fun H' e => sq_of (e _ _ hb0)) (fun k x H' H'' Y0 Y1 hk e y k0 k1 => ?_) (fun D4 H4 hD4 e4 hl4 => ?_)
    · obtain ⟨rfl, y⟩ := y
      obtain ⟨ra, era, rfl⟩ := get_map y
      refine st_gn ?_
      refine ⟨wipe_set (by decide), ?_⟩
      refine ⟨_, rfl, g, _, rfl, .inr (rd_t (ex_rd (e12.trans e) hg)), _, _, rfl, rfl, true, by simp; omega, ?_⟩
      refine ⟨_, rfl, ?_⟩
      have h1 := k1 _ rfl (Ex.refl _)
      rw [getD_map era] at h1
      exact h1
    rw [range_all, range_getD] at hl4
    have e14 := e12.trans e4
    -- places
    refine ⟨_, rfl, D4, _, rfl, .inl ⟨sq_of hl4, fun D5 hD5 => ?_⟩⟩
    refine wk_it walk_enum (fun i H' => Ex H4 H' ∧ DTO P w H' D5 ((plK n).take i) (as.take i)) ⟨Ex.new hD5, upd_same, .nil⟩ (fun i H' _ p => sq_of (p.1 _ _ hl4)) (fun i x H' H'' hi p y => ?_) (fun H5 p => ?_)
    · obtain ⟨pe, pd⟩ := p
      obtain ⟨Tp, x1, x2, rfl, hT, rfl, y1, y2⟩ := y
      cases (Option.some.inj y1)
      obtain ⟨ra, era, rfl⟩ := get_map y2
      obtain ⟨row, er, fr⟩ := paired_at hf0 era
      have tr : Tu H4 ra row := (show Tu H2 ra row from fr.rd).same e4
      obtain ⟨hin, erow⟩ : i < n + 1 ∧ row = stS n i := range_at (by rw [← rows_st n hnn]; exact er)
      subst erow
      have ekv : (plK n)[i]? = some (stS n i, V.int (i : Nat)) := by unfold plK; rw [List.getElem?_map, List.getElem?_range hin]; rfl
      have hpl : (plK n).map (·.1) = rowsOf n := by rw [rows_st n hnn]; unfold plK; rw [List.map_map]; rfl
      have hnew : valV ((plK n).take i) (stS n i) = none := valV_none (by rw [List.map_take, hpl]; exact not_earlier rnd er)
      refine ⟨Tp, _, rfl, st_of upd_same, rfl, _, _, rfl, _, _, rfl, rfl, wipe_set2 (by decide) (by decide), ?_⟩
      have e5 := ex2 (o := .tup [.int (i : Nat), .ref ra]) pe hT
      have pd2 := pd.same (Ex.new (o := .tup [.int (i : Nat), .ref ra]) hT)
      have tr2 := tr.same e5
      refine ⟨_, rfl, _, rfl, ra, _, _, _, rfl, pd2, tr2, hnew, ?_, e5.mut hD5, ?_⟩
      · rw [List.length_take]
        exact sz_lt (by omega)
      · rw [take_next ekv, take_next era]
        exact DTO.putP pd2 tr2
    · obtain ⟨e5, pd⟩ := p
      rw [List.length_map, List.take_length] at pd
      have hpk : (plK n).take as.length = plK n := by rw [hal, rlen]; exact List.take_of_length_le (by simp [plK])
      rw [hpk] at pd
      have e15 := e14.trans e5
      have hl5 := e5 _ _ hl4
      have hf5 : Fts H5 as (rowsOf n) := (hf0.ex e4).ex e5
      refine st_gn ?_
      -- steps
      refine ⟨Nat.zero_le _, fun d6 hd6 => ?_⟩
      refine st_gn ?_
      have e56 : Ex H5 (upd H5 d6 (.lst [])) := Ex.new hd6
      refine ⟨_, rfl, d, rfl, ⟨_, rd_l (hd.ex (e15.trans e56)).1⟩, ?_⟩
      have hds := Paired.length hd.2
      refine for_it walk_list (fun i σ' H' => σ'[0]? = some (some (.int n)) ∧ σ'[2]? = some (some (.int 1)) ∧ σ'[3]? = some (some (.ref g)) ∧ σ'[4]? = some (some (.ref D4)) ∧ σ'[5]? = some (some (.ref D5)) ∧ σ'[6]? = some (some (.ref d6)) ∧ σ'.length = 19 ∧ Ex H5 H' ∧
        ∃ rs, H' d6 = some (.lst (rs.map V.ref)) ∧ Tus H' rs (((arrE n Es).take i).map (stV n))) ⟨rfl, rfl, rfl, rfl, rfl, rfl, rfl, e56, [], upd_same, .nil⟩ (fun i σ' H' _ p => rd_l (hd.ex (e15.trans p.2.2.2.2.2.2.2.1)).1) (fun i x σ' H' H'' hi p y => ?_) (fun σ' H7 p => ?_)
      · obtain ⟨p0, p2, p3, p4, p5, p6, pl, pe, rs, pd6, prs⟩ := p
        obtain ⟨rfl, y⟩ := y
        obtain ⟨c, ec, rfl⟩ := get_map y
        obtain ⟨ms, ems, hm⟩ := paired_at hd.2 ec
        obtain ⟨a, b, rfl, ha0, han, hb0', hbn, hab⟩ := hc ms (List.mem_of_getElem? ems)
        have ee := e15.trans pe
        refine ⟨c, _, rfl, rd_t (hm.same ee), rfl, _, _, rfl, _, _, rfl, rfl, ?_⟩
        generalize hσ : (σ'.set 7 (some (V.int a))).set 8 (some (V.int b)) = σ2
        have g0 : σ2[0]? = some (some (.int n)) := by subst hσ; simp [p0]
        have g2 : σ2[2]? = some (some (.int 1)) := by subst hσ; simp [p2]
        have g3 : σ2[3]? = some (some (.ref g)) := by subst hσ; simp [p3]
        have g4 : σ2[4]? = some (some (.ref D4)) := by subst hσ; simp [p4]
        have g5 : σ2[5]? = some (some (.ref D5)) := by subst hσ; simp [p5]
        have g6 : σ2[6]? = some (some (.ref d6)) := by subst hσ; simp [p6]
        have g7 : σ2[7]? = some (some (.int a)) := by subst hσ; simp [pl]
        have g8 : σ2[8]? = some (some (.int b)) := by subst hσ; simp [pl]
        have gl : σ2.length = 19 := by subst hσ; simp [pl]
        refine ⟨_, g6, tyL (sq_of pd6), st_c1 (st_cb ?_)⟩
        refine ⟨_, g0, _, rfl, by omega, by omega, ?_⟩
        refine lcV (Qd := fun D H' => _) walk_range (fun _ => true) (fun k => .int ((if (k : Int) = b then 1 else 0) - (if (k : Int) = a then 1 else 0))) (by omega) (fun _ _ => trivial) (fun k x H3 H4' Y0 Y1 hk e y k0 k1 => ?_) (fun D8 H8 hD8 e8 hl8 => ?_)
        · obtain ⟨rfl, rfl⟩ := y
          refine st_gn ?_
          have v16 : ((wipe σ2 (List.map (fun x => x.snd) [(Str.ofString "room", 16)])).set 16 (some (V.int (0 + (k : Int)))))[16]? = some (some (.int (k : Int))) := by simp [wipe, gl]
          have v8 : ((wipe σ2 (List.map (fun x => x.snd) [(Str.ofString "room", 16)])).set 16 (some (V.int (0 + (k : Int)))))[8]? = some (some (.int b)) := by simp [wipe, g8]
          have v7 : ((wipe σ2 (List.map (fun x => x.snd) [(Str.ofString "room", 16)])).set 16 (some (V.int (0 + (k : Int)))))[7]? = some (some (.int a)) := by simp [wipe, g7]
          refine ⟨wipe_set (by decide), ?_⟩
          refine ⟨_, v16, _, v8, rfl, .inr ⟨_, rfl, _, v16, _, v7, rfl, .inr ⟨_, rfl, _, _, rfl, rfl, ?_⟩⟩⟩
          have h1 := k1 _ rfl (Ex.refl _)
          rw [← int_bl, ← int_bl] at h1
          exact h1
        · rw [range_all, Int.toNat_natCast] at hl8
          refine ⟨D8, _, rfl, .inl ⟨sq_of hl8, fun l hl' => ?_⟩⟩
          have e9 := e8.trans (Ex.new (o := .tup ((List.range n).map fun (k : Nat) => V.int ((if (k : Int) = b then 1 else 0) - (if (k : Int) = a then 1 else 0)))) hl')
          refine ⟨d6, _, _, rfl, rfl, e9 _ _ pd6, ?_, g0, g2, g3, g4, g5, g6, gl, (pe.trans e9).mut hd6, rs ++ [l], ?_, ?_⟩
          · have h1 := Paired.length prs
            rw [List.length_map, List.length_take] at h1
            rw [List.length_map]
            exact sz_lt (by have : (arrE n Es).length = Es.length := by simp [arrE]
                            omega)
          · rw [upd_same, List.map_append]
            rfl
          · have hat : (arrE n Es)[i]? = some (n - a.toNat, n - b.toNat) := by
              unfold arrE
              rw [List.getElem?_map, ems]
              rfl
            rw [take_next hat, List.map_append]
            have hst : Tu (upd H8 l (.tup ((List.range n).map fun (k : Nat) => V.int ((if (k : Int) = b then 1 else 0) - (if (k : Int) = a then 1 else 0))))) l (stV n (n - a.toNat, n - b.toNat)) := by
              have h2 := stE_is n hnn a.toNat (List.mem_range.mpr (by omega)) b.toNat (List.mem_range.mpr (by omega))
              rw [← h2]
              refine .inl ?_
              rw [upd_same]
              unfold stE
              rw [List.map_map, Int.toNat_of_nonneg ha0, Int.toNat_of_nonneg hb0']
              rfl
            have ext := ExT.lst (ys := rs.map V.ref ++ [V.ref l]) (e9 _ _ pd6)
            exact paired_snoc ((prs.same e9).exT ext) (hst.exT ext)
      · obtain ⟨p0, p2, p3, p4, p5, p6, pl, pe, rs, pd6, prs⟩ := p
        have hE : (arrE n Es).take (ds.map V.ref).length = arrE n Es := List.take_of_length_le (by simp [arrE]; omega)
        rw [hE] at prs
        have e17 := e15.trans pe
        refine ⟨_, p3, g, rfl, ⟨_, rd_t (ex_rd e17 hg)⟩, ?_⟩
        refine for_it walk_tup (fun i σ' H' => σ'[0]? = some (some (.int n)) ∧ σ'[2]? = some (some (.int 1)) ∧ σ'[4]? = some (some (.ref D4)) ∧ σ'[5]? = some (some (.ref D5)) ∧ σ'[6]? = some (some (.ref d6)) ∧ σ'.length = 19 ∧ Ex H5 H' ∧
          ∃ rs, H' d6 = some (.lst (rs.map V.ref)) ∧ Tus H' rs ((arrE n Es ++ arrG n (G.take i)).map (stV n))) ⟨p0, p2, p4, p5, p6, pl, pe, rs, pd6, by simpa [arrG] using prs⟩ (fun i σ' H' _ p => rd_t (ex_rd (e15.trans p.2.2.2.2.2.2.1) hg)) (fun i x σ' H' H'' hi p y => ?_) (fun σ' H9 p => ?_)
        · clear p0 p2 p3 p4 p5 p6 pl pe pd6 prs
          obtain ⟨p0, p2, p4, p5, p6, pl, pe, rs, pd6, prs⟩ := p
          obtain ⟨rfl, y⟩ := y
          obtain ⟨r, er, rfl⟩ := get_map y
          obtain ⟨hr0, hrn⟩ := hG r (List.mem_of_getElem? er)
          refine st_gn ?_
          dsimp only
          generalize hσ : σ'.set 9 (some (V.int r)) = σ2
          have g0 : σ2[0]? = some (some (.int n)) := by subst hσ; simp [p0]
          have g2 : σ2[2]? = some (some (.int 1)) := by subst hσ; simp [p2]
          have g4 : σ2[4]? = some (some (.ref D4)) := by subst hσ; simp [p4]
          have g5 : σ2[5]? = some (some (.ref D5)) := by subst hσ; simp [p5]
          have g6 : σ2[6]? = some (some (.ref d6)) := by subst hσ; simp [p6]
          have g9 : σ2[9]? = some (some (.int r)) := by subst hσ; simp [pl]
          have gl : σ2.length = 19 := by subst hσ; simp [pl]
          have hrsl : rs.length ≤ 200 := by
            have h1 := Paired.length prs
            have h2 : (arrG n (G.take i)).length ≤ 2 * (G.take i).length := arrG_len n _
            have h3 : (arrE n Es).length = Es.length := by simp [arrE]
            rw [List.length_take] at h2
            rw [List.length_map, List.length_append] at h1
            omega
          obtain ⟨hP, hM⟩ := stP_is n hnn r.toNat (List.mem_range.mpr (by omega))
          have hrr : ((r.toNat : Nat) : Int) = r := Int.toNat_of_nonneg hr0
          have v16 : ∀ k : Nat, ((wipe σ2 (List.map (fun x => x.snd) [(Str.ofString "room", 16)])).set 16 (some (V.int (0 + (k : Int)))))[16]? = some (some (.int (k : Int))) := fun k => by simp [wipe, gl]
          have v9 : ∀ k : Nat, ((wipe σ2 (List.map (fun x => x.snd) [(Str.ofString "room", 16)])).set 16 (some (V.int (0 + (k : Int)))))[9]? = some (some (.int r)) := fun k => by simp [wipe, g9]
          refine st_seq ?_
          refine ⟨_, g6, tyL (sq_of pd6), st_c1 (st_cb ?_)⟩
          refine ⟨_, g0, _, rfl, by omega, by omega, ?_⟩
          refine lcV (Qd := fun D H' => _) walk_range (fun _ => true) (fun k => .int (if (k : Int) = r then 1 else 0)) (by omega) (fun _ _ => trivial) (fun k x H3 H4' Y0 Y1 hk e y k0 k1 => ?_) (fun D8 H8 hD8 e8 hl8 => ?_)
          · obtain ⟨rfl, rfl⟩ := y
            refine st_gn ⟨wipe_set (by decide), _, v16 k, _, v9 k, rfl, .inr ⟨_, rfl, ?_⟩⟩
            have h1 := k1 _ rfl (Ex.refl _)
            rw [← int_bl] at h1
            exact h1
          rw [range_all, Int.toNat_natCast] at hl8
          refine ⟨D8, _, rfl, .inl ⟨sq_of hl8, fun l hl' => ?_⟩⟩
          have e9 := e8.trans (Ex.new (o := .tup ((List.range n).map fun (k : Nat) => V.int (if (k : Int) = r then 1 else 0))) hl')
          have hst : Tu (upd H8 l (.tup ((List.range n).map fun (k : Nat) => V.int (if (k : Int) = r then 1 else 0)))) l (stV n (0, n - r.toNat)) := by
            rw [← hP]
            refine .inl ?_
            rw [upd_same]
            unfold stP
            rw [List.map_map, hrr]
            rfl
          refine ⟨d6, _, _, rfl, rfl, e9 _ _ pd6, by rw [List.length_map]; exact sz_lt (by omega), ?_⟩
          have pe9 := (pe.trans e9).mut hd6 (o := .lst (rs.map V.ref ++ [V.ref l]))
          have prs9 : Tus _ (rs ++ [l]) ((arrE n Es ++ arrG n (G.take i)).map (stV n) ++ [stV n (0, n - r.toNat)]) := paired_snoc ((prs.same e9).exT (ExT.lst (ys := rs.map V.ref ++ [V.ref l]) (e9 _ _ pd6))) (hst.exT (ExT.lst (e9 _ _ pd6)))
          have pd9 : (upd (upd H8 l (.tup ((List.range n).map fun (k : Nat) => V.int (if (k : Int) = r then 1 else 0)))) d6 (.lst (rs.map V.ref ++ [V.ref l]))) d6 = some (.lst ((rs ++ [l]).map V.ref)) := by rw [upd_same, List.map_append]; rfl
          generalize (upd (upd H8 l (.tup ((List.range n).map fun (k : Nat) => V.int (if (k : Int) = r then 1 else 0)))) d6 (.lst (rs.map V.ref ++ [V.ref l]))) = HA at pe9 prs9 pd9 ⊢
          clear hst e9 hl' hl8 e8 hD8
          refine ⟨_, g6, tyL (sq_of pd9), st_c1 (st_cb ?_)⟩
          refine ⟨_, g0, _, rfl, by omega, by omega, ?_⟩
          refine lcV (Qd := fun D H' => _) walk_range (fun _ => true) (fun k => .int (-(if (k : Int) = r then 1 else 0))) (by omega) (fun _ _ => trivial) (fun k x H3 H4' Y0 Y1 hk e y k0 k1 => ?_) (fun D8 H8 hD8 e8 hl8 => ?_)
          · obtain ⟨rfl, rfl⟩ := y
            refine st_gn ⟨wipe_set (by decide), _, v16 k, _, v9 k, rfl, .inr ⟨_, rfl, _, rfl, ?_⟩⟩
            have h1 := k1 _ rfl (Ex.refl _)
            rw [← int_bl] at h1
            exact h1
          rw [range_all, Int.toNat_natCast] at hl8
          refine ⟨D8, _, rfl, .inl ⟨sq_of hl8, fun l2 hl2 => ?_⟩⟩
          have e9 := e8.trans (Ex.new (o := .tup ((List.range n).map fun (k : Nat) => V.int (-(if (k : Int) = r then 1 else 0)))) hl2)
          have hst : Tu (upd H8 l2 (.tup ((List.range n).map fun (k : Nat) => V.int (-(if (k : Int) = r then 1 else 0))))) l2 (stV n (n - r.toNat, 0)) := by
            rw [← hM]
            refine .inl ?_
            rw [upd_same]
            unfold stM
            rw [List.map_map, hrr]
            rfl
          refine ⟨d6, _, _, rfl, rfl, e9 _ _ pd9, by rw [List.length_map, List.length_append]; exact sz_lt (by simp; omega), g0, g2, g4, g5, g6, gl, (pe9.trans e9).mut hd6, (rs ++ [l]) ++ [l2], ?_, ?_⟩
          · rw [upd_same]
            simp
          · have ext := ExT.lst (ys := (rs ++ [l]).map V.ref ++ [V.ref l2]) (e9 _ _ pd9)
            have h3 := paired_snoc ((prs9.same e9).exT ext) (hst.exT ext)
            have h4 : (arrE n Es ++ arrG n (G.take (i + 1))).map (stV n) = ((arrE n Es ++ arrG n (G.take i)).map (stV n) ++ [stV n (0, n - r.toNat)]) ++ [stV n (n - r.toNat, 0)] := by
              rw [take_next er]
              unfold arrG
              rw [List.flatMap_append]
              simp
            rw [h4]
            exact h3
        · clear p0 p2 p3 p4 p5 p6 pl pe pd6 prs
          obtain ⟨p0, p2, p4, p5, p6, pl, pe, rs, pd6, prs⟩ := p
          rw [List.length_map, List.take_length] at prs
          generalize har : arr n Es G = ar at q harr
          have har' : arrE n Es ++ arrG n G = ar := har
          rw [har'] at prs
          have arlen : ar.length ≤ 200 := by
            have h2 := arrG_len n G
            have h3 : (arrE n Es).length = Es.length := by simp [arrE]
            rw [← har', List.length_append]
            omega
          have arok : ∀ a ∈ ar, a.1 ≤ n ∧ a.2 ≤ n ∧ a.1 ≠ a.2 := by rw [← har]; exact arr_ok hc hG
          have hl9 := pe _ _ hl5
          have hf9 := hf5.ex pe
          have pd9 := pd.same pe
          have hrl : rs.length = ar.length := by
            have := Paired.length prs
            rw [List.length_map] at this
            exact this
          -- changes
          refine ⟨Nat.zero_le _, fun d10 hd10 => ?_⟩
          refine st_gn ?_
          refine ⟨_, by simp [p4], D4, _, rfl, .inl ⟨sq_of (Ex.new hd10 _ _ hl9), ?_⟩⟩
          refine for_it walk_enum (fun i σ' H' => σ'[0]? = some (some (.int n)) ∧ σ'[2]? = some (some (.int 1)) ∧ σ'[4]? = some (some (.ref D4)) ∧ σ'[5]? = some (some (.ref D5)) ∧ σ'[6]? = some (some (.ref d6)) ∧ σ'[10]? = some (some (.ref d10)) ∧ σ'.length = 19 ∧ Ex H9 H' ∧
            ∃ cs, H' d10 = some (.lst (cs.map V.ref)) ∧ Tus H' cs (chg ar i)) ⟨by simp [p0], by simp [p2], by simp [p4], by simp [p5], by simp [p6], by simp [pl], by simp [pl], Ex.new hd10, [], upd_same, .nil⟩ (fun i σ' H' _ p => sq_of (p.2.2.2.2.2.2.2.1 _ _ hl9)) (fun i x σ' H' H'' hi p y => ?_) (fun σ' H11 p => ?_)
          · clear p0 p2 p4 p5 p6 pl
            obtain ⟨p0, p2, p4, p5, p6, p10, pl, pe', cs, pdc, pcs⟩ := p
            obtain ⟨Tp, x1, x2, rfl, hT, rfl, y1, y2⟩ := y
            cases (Option.some.inj y1)
            obtain ⟨ra, era, rfl⟩ := get_map y2
            obtain ⟨row, er, fr⟩ := paired_at hf9 era
            obtain ⟨hin, erow⟩ : i < n + 1 ∧ row = stS n i := range_at (by rw [← rows_st n hnn]; exact er)
            subst erow
            refine ⟨Tp, _, rfl, st_of upd_same, rfl, _, _, rfl, _, _, rfl, rfl, ?_⟩
            have e2' := ex2 (o := .tup [.int (i : Nat), .ref ra]) pe' hT
            generalize hσ : (σ'.set 11 (some (V.int (i : Nat)))).set 12 (some (V.ref ra)) = σ2
            have g0 : σ2[0]? = some (some (.int n)) := by subst hσ; simp [p0]
            have g2 : σ2[2]? = some (some (.int 1)) := by subst hσ; simp [p2]
            have g4 : σ2[4]? = some (some (.ref D4)) := by subst hσ; simp [p4]
            have g5 : σ2[5]? = some (some (.ref D5)) := by subst hσ; simp [p5]
            have g6 : σ2[6]? = some (some (.ref d6)) := by subst hσ; simp [p6]
            have g10 : σ2[10]? = some (some (.ref d10)) := by subst hσ; simp [p10]
            have g11 : σ2[11]? = some (some (.int (i : Nat))) := by subst hσ; simp [pl]
            have g12 : σ2[12]? = some (some (.ref ra)) := by subst hσ; simp [pl]
            have gl : σ2.length = 19 := by subst hσ; simp [pl]
            have pdc2 := Ex.new (o := .tup [.int (i : Nat), .ref ra]) hT _ _ pdc
            have pcs2 := pcs.same (Ex.new (o := .tup [.int (i : Nat), .ref ra]) hT)
            refine ⟨_, g6, d6, rfl, ⟨_, sq_of (e2' _ _ pd6)⟩, ?_⟩
            refine for_it walk_list (fun j σ' H' => σ'[0]? = some (some (.int n)) ∧ σ'[2]? = some (some (.int 1)) ∧ σ'[4]? = some (some (.ref D4)) ∧ σ'[5]? = some (some (.ref D5)) ∧ σ'[6]? = some (some (.ref d6)) ∧ σ'[10]? = some (some (.ref d10)) ∧ σ'[11]? = some (some (.int (i : Nat))) ∧ σ'[12]? = some (some (.ref ra)) ∧ σ'.length = 19 ∧ Ex H9 H' ∧
              ∃ cs, H' d10 = some (.lst (cs.map V.ref)) ∧ Tus H' cs (chg ar i ++ chgAt (ar.take j) i)) ⟨g0, g2, g4, g5, g6, g10, g11, g12, gl, e2', cs, pdc2, by simpa [chgAt] using pcs2⟩ (fun j σ' H' _ p => sq_of (p.2.2.2.2.2.2.2.2.2.1 _ _ pd6)) (fun j x σ' H' H'' hj p y => ?_) (fun σ' H12 p => ?_)
            · clear g0 g2 g4 g5 g6 g10 g11 g12 gl hσ p0 p2 p4 p5 p6 p10 pl pe' pdc pcs pdc2 pcs2 e2'
              obtain ⟨p0, p2, p4, p5, p6, p10, p11, p12, pl, pe', cs, pdc, pcs⟩ := p
              obtain ⟨rfl, y⟩ := y
              obtain ⟨sa, esa, rfl⟩ := get_map y
              obtain ⟨sv, esv, ts⟩ := paired_at prs esa
              obtain ⟨a, ea, rfl⟩ : ∃ a, ar[j]? = some a ∧ sv = stV n a := by
                rw [List.getElem?_map] at esv
                cases e : ar[j]? with
                | none => rw [e] at esv; cases esv
                | some a => rw [e] at esv; exact ⟨a, rfl, (Option.some.inj esv).symm⟩
              obtain ⟨ha1, ha2, ha3⟩ := arok a (List.mem_of_getElem? ea)
              refine st_gn ?_
              dsimp only
              generalize hσ : σ'.set 13 (some (V.ref sa)) = σ2
              have g0 : σ2[0]? = some (some (.int n)) := by subst hσ; simp [p0]
              have g2 : σ2[2]? = some (some (.int 1)) := by subst hσ; simp [p2]
              have g4 : σ2[4]? = some (some (.ref D4)) := by subst hσ; simp [p4]
              have g5 : σ2[5]? = some (some (.ref D5)) := by subst hσ; simp [p5]
              have g6 : σ2[6]? = some (some (.ref d6)) := by subst hσ; simp [p6]
              have g10 : σ2[10]? = some (some (.ref d10)) := by subst hσ; simp [p10]
              have g11 : σ2[11]? = some (some (.int (i : Nat))) := by subst hσ; simp [p11]
              have g12 : σ2[12]? = some (some (.ref ra)) := by subst hσ; simp [p12]
              have g13 : σ2[13]? = some (some (.ref sa)) := by subst hσ; simp [pl]
              have gl : σ2.length = 19 := by subst hσ; simp [pl]
              refine st_seq (st_asg (st_cb ?_))
              have tra : Tu H'' ra (stS n i) := (show Tu H9 ra (stS n i) from fr.rd).same pe'
              have tsa := ts.same pe'
              refine ⟨_, g12, _, g13, ra, sa, _, _, rfl, .inr ⟨rd_t tra, rd_t tsa, ?_⟩⟩
              refine lcV (Qd := fun D H' => _) (walk_zipT (xs := (stS n i).map V.int) (ys := (stV n a).map V.int) (by rw [List.length_map, List.length_map, stS_len, stV_len])) (fun _ => true) (fun k => (((List.zipWith (· + ·) (stS n i) (stV n a)).map V.int).getD k .non)) (by rw [List.length_map, stS_len]; omega) (fun H' e => ⟨rd_t (tra.same e), rd_t (tsa.same e)⟩) (fun k x H3 H4' Y0 Y1 hk e y k0 k1 => ?_) (fun D8 H8 hD8 e8 hl8 => ?_)
              · obtain ⟨Tq, x1, x2, rfl, hT2, rfl, y1, y2⟩ := y
                obtain ⟨m1, em1, rfl⟩ := get_map y1
                obtain ⟨m2, em2, rfl⟩ := get_map y2
                refine ⟨Tq, _, rfl, st_of upd_same, rfl, _, _, rfl, _, _, rfl, rfl, wipe_set2 (by decide) (by decide), ?_⟩
                have h1 := k1 _ rfl (Ex.new (o := .tup [.int m1, .int m2]) hT2)
                rw [getD_map (zip_at em1 em2)] at h1
                have v17 : (((wipe σ2 (List.map (fun x => x.snd) [(Str.ofString "guests", 17), (Str.ofString "more", 18)])).set 17 (some (V.int m1))).set 18 (some (V.int m2)))[17]? = some (some (.int m1)) := by simp [wipe, gl]
                have v18 : (((wipe σ2 (List.map (fun x => x.snd) [(Str.ofString "guests", 17), (Str.ofString "more", 18)])).set 17 (some (V.int m1))).set 18 (some (V.int m2)))[18]? = some (some (.int m2)) := by simp [wipe, gl]
                exact ⟨_, v17, _, v18, _, _, rfl, rfl, h1⟩
              · have hlen : ((stS n i).map V.int).length = ((List.zipWith (· + ·) (stS n i) (stV n a)).map V.int).length := by simp [stS_len, stV_len]
                rw [range_all, hlen, range_getD] at hl8
                refine ⟨D8, _, rfl, .inl ⟨sq_of hl8, fun l hl' => ?_⟩⟩
                have e9 := e8.trans (Ex.new (o := .tup ((List.zipWith (· + ·) (stS n i) (stV n a)).map V.int)) hl')
                have tl : Tu (upd H8 l (.tup ((List.zipWith (· + ·) (stS n i) (stV n a)).map V.int))) l (List.zipWith (· + ·) (stS n i) (stV n a)) := .inl upd_same
                have pe9 := pe'.trans e9
                have pdc9 := e9 _ _ pdc
                have pcs9 := pcs.same e9
                have hval := stV_val n hnn i (List.mem_range.mpr hin) a.1 (List.mem_range.mpr (by omega)) a.2 (List.mem_range.mpr (by omega)) ha3
                generalize (upd H8 l (.tup ((List.zipWith (· + ·) (stS n i) (stV n a)).map V.int))) = HB at e9 tl pe9 pdc9 pcs9 ⊢
                dsimp only
                generalize hσ3 : σ2.set 14 (some (V.ref l)) = σ3
                have f0 : σ3[0]? = some (some (.int n)) := by subst hσ3; simp [g0]
                have f2 : σ3[2]? = some (some (.int 1)) := by subst hσ3; simp [g2]
                have f4 : σ3[4]? = some (some (.ref D4)) := by subst hσ3; simp [g4]
                have f5 : σ3[5]? = some (some (.ref D5)) := by subst hσ3; simp [g5]
                have f6 : σ3[6]? = some (some (.ref d6)) := by subst hσ3; simp [g6]
                have f10 : σ3[10]? = some (some (.ref d10)) := by subst hσ3; simp [g10]
                have f11 : σ3[11]? = some (some (.int (i : Nat))) := by subst hσ3; simp [g11]
                have f12 : σ3[12]? = some (some (.ref ra)) := by subst hσ3; simp [g12]
                have f14 : σ3[14]? = some (some (.ref l)) := by subst hσ3; simp [gl]
                have fl : σ3.length = 19 := by subst hσ3; simp [gl]
                have pd12 := pd9.same pe9
                refine ⟨_, f14, _, f5, D5, l, plK n, as, _, rfl, rfl, pd12, tl, ?_⟩
                have hstep : chgAt (ar.take (j + 1)) i = if a.1 = i then chgAt (ar.take j) i ++ [[(i : Int), (a.2 : Int)]] else chgAt (ar.take j) i := by
                  rw [take_next ea]
                  unfold chgAt
                  by_cases e : a.1 = i
                  · simp [e]
                  · simp [e]
                have hcl : cs.length ≤ 2000 := by
                  have h1 := Paired.length pcs
                  have h2 := chg_len (as := ar) i
                  have h3 : (chgAt (ar.take j) i).length ≤ ar.length := by
                    unfold chgAt
                    rw [List.length_map]
                    exact Nat.le_trans (List.length_filter_le _ _) (by rw [List.length_take]; omega)
                  have h4 : i * ar.length ≤ 6 * 200 := Nat.mul_le_mul (by omega) arlen
                  rw [List.length_append] at h1
                  omega
                by_cases e : a.1 = i
                · have hv : valV (plK n) (List.zipWith (· + ·) (stS n i) (stV n a)) = some (.int (a.2 : Nat)) := hval.trans (if_pos e)
                  rw [if_pos e] at hstep
                  refine ⟨true, by rw [hv]; rfl, ?_⟩
                  refine ⟨_, f10, tyL (sq_of pdc9), st_c1 ⟨_, f11, _, f5, _, f14, D5, l, _, plK n, as, _, rfl, rfl, pd12, tl, hv, (by decide : 2 ≤ sizeLine), fun p hp => ?_⟩⟩
                  have pdcA := Ex.new (o := .tup [.int (i : Nat), .int (a.2 : Nat)]) hp _ _ pdc9
                  refine ⟨d10, _, _, rfl, rfl, pdcA, by rw [List.length_map]; exact sz_lt (by omega), f0, f2, f4, f5, f6, f10, f11, f12, fl, (pe9.trans (Ex.new hp)).mut hd10, cs ++ [p], ?_, ?_⟩
                  · rw [upd_same]
                    simp
                  · rw [hstep, ← List.append_assoc]
                    have ext := ExT.lst (ys := cs.map V.ref ++ [V.ref p]) pdcA
                    exact paired_snoc ((pcs9.same (Ex.new hp)).exT ext) (Tu.exT (.inl upd_same) ext)
                · have hv : valV (plK n) (List.zipWith (· + ·) (stS n i) (stV n a)) = none := hval.trans (if_neg e)
                  rw [if_neg e] at hstep
                  refine ⟨false, by rw [hv]; rfl, ?_⟩
                  rw [hstep]
                  exact ⟨f0, f2, f4, f5, f6, f10, f11, f12, fl, pe9, cs, pdc9, pcs9⟩
            · obtain ⟨p0, p2, p4, p5, p6, p10, _, _, pl, pe', cs, pdc, pcs⟩ := p
              refine ⟨p0, p2, p4, p5, p6, p10, pl, pe', cs, pdc, ?_⟩
              rw [chg_succ]
              rw [List.length_map, hrl, List.take_length] at pcs
              exact pcs
          · clear p0 p2 p4 p5 p6 pl
            obtain ⟨p0, p2, p4, p5, p6, p10, pl, pe', cs, pdc, pcs⟩ := p
            rw [List.length_map, hal, rlen] at pcs
            have e9 := e15.trans pe
            refine ⟨_, p2, _, _, rfl, rfl, (by decide : 1 ≤ sizeLine), fun p hp => ?_⟩
            refine ⟨_, p0, p, _, _, rfl, rfl, upd_same, by omega, by omega, sz_of (by simp; omega), fun p2 hp2 => ?_⟩
            refine ⟨_, p4, _, p10, fun x dx hx hdx hne => ?_⟩
            have eA : Ex H11 (upd H11 p (.lst [V.int (1 + 1)])) := Ex.new hp
            have eC := ex2 (o := .lst (List.replicate (n : Int).toNat [V.int (1 + 1)]).flatten) eA hp2
            have eD := ((Ex.new (o := .own x) hdx).trans (Ex.new (o := .ins A.house dx []) (by rw [upd_ne (Ne.symm hne)]; exact hx)) : Ex (upd (upd H11 p (.lst [V.int (1 + 1)])) p2 (.lst (List.replicate (n : Int).toNat [V.int (1 + 1)]).flatten)) _)
            have eE := eC.trans eD
            have e9E := pe'.trans eE
            have hns : (List.replicate (n : Int).toNat [V.int (1 + 1)]).flatten = (List.replicate n (2 : Int)).map V.int := by
              rw [Int.toNat_natCast]
              exact two_rep n
            have hclen : (chg ar (n + 1)).length ≤ 10000 := by
              have h2 := chg_len (as := ar) (n + 1)
              have h4 : (n + 1) * ar.length ≤ 7 * 200 := Nat.mul_le_mul (by omega) arlen
              omega
            refine ⟨x, dx, p2, D4, d10, List.replicate n 2, as, rowsOf n, cs, chg ar (n + 1), rfl, upd_same, .inl (eD _ _ (by rw [upd_same, hns])), by rw [List.length_replicate]; omega, by rw [List.length_replicate]; omega, fun m hm => ?_, ⟨sq_rd (e9E _ _ hl9), (hf9.ex e9E).tus⟩, hf9.ex e9E, ?_, rnd, by omega, fun ms hms => ?_, rasc, ⟨sq_rd (eE _ _ pdc), pcs.same eE⟩, chg_nodup harr _, hclen, fun ms hms => ?_, fun H' mss eB hpm hs => ⟨rfl, ?_⟩⟩
            · have := List.eq_of_mem_replicate hm
              omega
            · intro z
              rw [z] at rlen
              simp at rlen
            · obtain ⟨h1, h2⟩ := rfit ms hms
              refine ⟨by rw [List.length_replicate]; exact h1, fun i m k hm hk => ?_⟩
              have h3 := List.eq_of_mem_replicate (List.mem_of_getElem? hk)
              have h4 := h2 m (List.mem_of_getElem? hm)
              omega
            · obtain ⟨s, t, hst, hs, rfl⟩ := mem_chg.mp hms
              obtain ⟨h1, h2, h3⟩ := arok (s, t) hst
              exact ⟨s, t, rfl, by omega, by omega, by omega, by omega, fun z => h3 (Int.ofNat_inj.mp z)⟩
            · rw [rlen] at hs
              have e0 : Ex H H' := fun b o hb => by
                have h1 := eE _ _ (pe' _ _ (e9 _ _ hb))
                refine eB b o (fun z => ?_) h1
                have h2 := eC _ _ (pe' _ _ (e9 _ _ hb))
                rw [z, hx] at h2
                cases h2
              exact q H' x _ _ _ e0 hs (by simp) (ways_out hpm (by rw [hpm.length_eq]; exact hclen)) (ways_in (fun a ha => by have := (arok a ha).1; omega) hpm (by rw [hpm.length_eq]; exact hclen))
end
end Kx
namespace Kx
open PySem PySem.Spec PyProof.Rows L2
open Evl (Ex ex_rd ex_l ex_t st_of sq_of sz_lt sz_of)
theorem lexLt_iff : ∀ a b : List Int, HT.lexLt a b = decide (a < b)
  | [], [] => by simp [HT.lexLt]
  | [], _ :: _ => by simp [HT.lexLt]
  | _ :: _, [] => by simp [HT.lexLt]
  | x :: xs, y :: ys => by
    rw [HT.lexLt_cons]
    by_cases e : x = y
    · subst e
      rw [if_pos rfl, lexLt_iff xs ys]
      rw [decide_eq_decide, List.cons_lt_cons_iff]
      constructor
      · exact fun h => .inr ⟨rfl, h⟩
      · rintro (h | ⟨_, h⟩)
        · exact absurd h (Int.lt_irrefl _)
        · exact h
    · rw [if_neg e, decide_eq_decide, List.cons_lt_cons_iff]
      constructor
      · exact fun h => .inl h
      · rintro (h | ⟨h, _⟩)
        · exact h
        · exact absurd h e
/-- doors as they must be -/
structure PD (n : Nat) (D : List (List Int)) : Prop where
  pair : ∀ ms ∈ D, ∃ a b : Int, ms = [a, b] ∧ 0 ≤ a ∧ a < b ∧ b < n
  asc : D.Pairwise (· < ·)
  tree : ∀ r : Nat, 1 ≤ r → r < n → ∃ a : Nat, a < r ∧ [(a : Int), (r : Int)] ∈ D
abbrev iota (n : Nat) : List Int := (List.range n).map fun (k : Nat) => (k : Int)
def psOf (i : Nat) : List (List Int) := if i = 0 then [] else [iota i]
section
variable {P : Program} {w : World} {K : PySem.W.Frag} {mg : PySem.Str → Option Value} {base : Heap} {A : Ads}
theorem tup_ty {H : Hp} {a : Addr} {xs : List V} (h : Rd H a (.tup xs)) : TyX K H (.ref a) (.type "tuple") := by
  rcases h with h | ⟨o, h⟩
  · exact .base (.tup h)
  · exact .fTuple h
structure spIsDoor (vs : List V) (H : Hp) (Q : VK) (E : XK) : Prop where
  ex : ∃ (d : Addr) (a b n : Int), vs = [.ref d, .int n] ∧ Tu H d [a, b] ∧ 0 ≤ a ∧ a < b ∧ b < n ∧ ∀ H', Ex H H' → Q (.bl true) H'
theorem sc41 : FnScope ["value", "rooms", "room"] ["value", "rooms"] (defScope (topS 41)) := ⟨rfl, rfl, rfl, by decide +kernel, rfl, by decide +kernel, by decide +kernel⟩
/- slots: 0 value, 1 rooms, 2 room -/
theorem ok_is_door (T : Txt P K mg A) : DOk P w K mg base CX0 3 "is_door" ["value", "rooms"] [] spIsDoor := by
  have D_is_number := (ok_is_number (P := P) (w := w) (base := base) T)
  refine T.is_door.ok0 sc41 (fun vs H Q E h => ?_) (fun _ _ _ _ _ _ us hl => match us, hl with | [_, _], _ => rfl) (fun f cdv A' outer s H vs Q E hr h => ?_)
  · obtain ⟨d, a, b, n, rfl, _⟩ := h
    rfl
  · obtain ⟨d, a, b, n, rfl, hd, ha, hab, hbn, q⟩ := h
    refine ⟨_, (pss_cons (ps_if (PW.pt (pw_or (pt_not (pt_val (pe_callB (id := "isinstance") call_isi (by rfl) (T.b "isinstance") (by decide +kernel) (pa_cons (pv 0) (pa_cons (pe_bltn (v := .ty "tuple") (by rfl) (T.b "tuple") (by decide +kernel) rfl) pa_nil))))) (pw_or (pt_cmpR op_ne (pe_callB (id := "len") (kLen (K := K) rfl) (by rfl) (T.b "len") (by decide +kernel) (pa_cons (pv 0) pa_nil)) pe_int (nomark _)) (pw_or1 (pt_not (pt_val (pe_callB (id := "all") (kAll (K := K) rfl rfl) (by rfl) (T.b "all") (by decide +kernel) (pa_cons (pe_lc rfl sc41.nd (kPiT (K := K) rfl (pv 0)) (blkOk_by (own := [("room", 2)]) (by rfl)) (fun _ _ _ _ _ => (pg_name (i := 2) sc41.nd rfl (Or.inl rfl) (Or.inr rfl))) (fun _ _ _ _ _ => pts_nil) (fun _ _ _ _ _ => (pe_d D_is_number hr (by rfl) pass0 (pa_cons (pv 2) pa_nil)))) pa_nil)))))))) (pss_one (ps_ret pe_bl)) pss_nil)
      (pss_one (ps_ret (pe_chain op_lt op_lt (pe_ix (kIxT (K := K) rfl) (pv 0) pe_int (fun _ _ => rfl)) (pe_ix (kIxT (K := K) rfl) (pv 0) pe_int (fun _ _ => rfl)) (pv 1))))), ?_⟩
    refine ⟨_, rfl, _, _, _, _, true, rfl, .ty _, tup_ty hd, kit_ty (by decide +kernel), _, rfl, ?_⟩
    refine ⟨_, rfl, d, _, rfl, .inr (rd_t hd), rfl, false, by simp, ?_⟩
    refine ⟨_, rfl, d, rfl, ⟨_, rd_t hd⟩, ?_⟩
    refine lcV (Qd := fun D H' => _) walk_tup (fun _ => true) (fun _ => .bl true) (by simp) (fun H' e => rd_t (ex_rd e hd)) (fun j x H' H'' Y0 Y1 hj e y k0 k1 => ?_) (fun D H' hD e hl => ?_)
    · obtain ⟨rfl, y⟩ := y
      obtain ⟨z, ez, rfl⟩ := get_map y
      have hz : 0 ≤ z := by
        have hm := List.mem_of_getElem? ez
        simp only [List.mem_cons, List.not_mem_nil, or_false] at hm
        rcases hm with rfl | rfl <;> omega
      exact st_gn ⟨wipe_set (by decide), _, rfl, num_nat hz (k1 _ rfl (Ex.refl _))⟩
    · have m := hd.same e
      refine ⟨D, [true, true], rfl, sq_of hl, true, rfl, ?_⟩
      exact ⟨_, rfl, d, _, 0, _, rfl, rfl, rd_t m, rfl, _, rfl, d, _, 1, _, rfl, rfl, rd_t m, rfl, _, _, rfl, rfl, true, by simp; omega, _, rfl, _, _, rfl, rfl, by show Q (.bl (decide (b < n))) H'; rw [decide_eq_true (by omega : b < n)]; exact q _ e⟩
structure spHungLots (vs : List V) (H : Hp) (Q : VK) (E : XK) : Prop where
  ex : ∃ (d l : Addr) (ds : List Addr) (n : Nat) (D : List (List Int)), vs = [.ref d, .ref l] ∧ TT' H d ds D ∧ Ls H l (iota n) ∧ 1 ≤ n ∧ n ≤ 6 ∧ (∀ r : Nat, 1 ≤ r → r < n → ∃ a : Nat, a < r ∧ [(a : Int), (r : Int)] ∈ D) ∧ ∀ H' p x, Ex H H' → Rd H' p (.tup [x]) → Q (.ref p) H'
theorem sc42 : FnScope ["doors", "lot", "pieces", "room", "near", "joined", "piece", "other"] ["doors", "lot"] (defScope (topS 42)) := ⟨rfl, rfl, rfl, by decide +kernel, rfl, by decide +kernel, by decide +kernel⟩
/- slots: 0 doors, 1 lot, 2 pieces, 3 room, 4 near, 5 joined, 6 piece, 7 other -/
theorem iota_at {n k : Nat} {x : Int} (h : (iota n)[k]? = some x) : k < n ∧ x = k := range_at h
theorem iota_len (n : Nat) : (iota n).length = n := by simp [iota]
theorem iota_succ (n : Nat) : iota (n + 1) = iota n ++ [(n : Int)] := by unfold iota; rw [List.range_succ, List.map_append]; rfl
theorem iota_asc : ∀ n, (iota n).Pairwise (· < ·)
  | 0 => .nil
  | n + 1 => by
    rw [iota_succ]
    refine List.pairwise_append.mpr ⟨iota_asc n, by simp, fun a ha b hb => ?_⟩
    obtain ⟨k, hk, rfl⟩ := List.mem_map.mp ha
    have : b = (n : Int) := by simpa using hb
    subst this
    have := List.mem_range.mp hk
    omega
theorem iota_map (n : Nat) : (List.range (iota n).length).map (fun j => (iota n).getD j 0) = iota n := range_getD _ _
theorem ps_flat (i : Nat) : (psOf i).flatMap (fun x => (List.range x.length).map fun j => x.getD j 0) = iota i := by
  unfold psOf
  by_cases h : i = 0
  · subst h; rfl
  · rw [if_neg h, List.flatMap_cons, List.flatMap_nil, List.append_nil, iota_map]
theorem paired_fn2 {ι β : Type} {xs : List β} {v : ι → β} {l : List ι} (h : Paired (fun j x => x = v j) l xs) : xs = l.map v := by
  induction h with
  | nil => rfl
  | cons e _ ih => rw [List.map_cons, e, ih]
theorem ps_at {i k : Nat} {ms : List Int} (h : (psOf i)[k]? = some ms) : 1 ≤ i ∧ k = 0 ∧ ms = iota i := by
  unfold psOf at h
  by_cases e : i = 0
  · rw [if_pos e] at h
    simp at h
  · rw [if_neg e] at h
    cases k with
    | zero => exact ⟨by omega, rfl, (Option.some.inj h).symm⟩
    | succ k => simp at h
theorem ps_len (i : Nat) : (psOf i).length ≤ 1 := by
  unfold psOf
  by_cases e : i = 0
  · rw [if_pos e]; simp
  · rw [if_neg e]; simp
theorem ok_hung_lots (T : Txt P K mg A) : DOk P w K mg base CX0 1 "hung_lots" ["doors", "lot"] [] spHungLots := by
  refine T.hung_lots.ok0 sc42 (fun vs H Q E h => ?_) (fun _ _ _ _ _ _ us hl => match us, hl with | [_, _], _ => rfl) (fun f cdv A' outer s H vs Q E hr h => ?_)
  · obtain ⟨d, l, ds, n, D, rfl, _⟩ := h
    rfl
  · obtain ⟨d, l, ds, n, D, rfl, hd, hl, hn1, hn6, htree, q⟩ := h
    have hu65 : (A'.deeper (envOfC "hung_lots" (defScope (topS 42)) s.heap.objs.size f cdv)).units + 65 < cLine := by have := hr.un; omega
    refine ⟨_, (pss_cons (ps_set (i := 2) sc42.nd rfl (Or.inl rfl) (pe_lst pa_nil))
      (pss_cons (ps_for PassesOwn.never rfl (kPiL (K := K) rfl (pv 1)) (pg_name (i := 3) sc42.nd rfl (Or.inr rfl)) (pss_cons (ps_set (i := 4) sc42.nd rfl (Or.inr rfl) (pe_lc rfl sc42.nd (kPiL (K := K) rfl (pv 2)) (blkOk_by (own := [("piece", 6)]) (by rfl)) (fun _ _ _ _ _ => (pg_name (i := 6) sc42.nd rfl (Or.inl rfl) (Or.inr rfl))) (fun _ _ _ _ _ => (pts_one (pt_val (pe_callB (id := "any") (kAny (K := K) rfl rfl) (by rfl) (T.b "any") (by decide +kernel) (pa_cons (pe_lc rfl sc42.nd (kPiT (K := K) rfl (pv 6)) (blkOk_by (own := [("other", 7)]) (by rfl)) (fun _ _ _ _ _ => (pg_name (i := 7) sc42.nd rfl (Or.inl rfl) (Or.inr rfl))) (fun _ _ _ _ _ => pts_nil) (fun _ _ _ _ _ => (pe_cmpR (kInTu (K := K) rfl hu65) (pe_tup (pa_cons (pv 7) (pa_cons (pv 3) pa_nil))) (pv 0) (by rfl)))) pa_nil))))) (fun _ _ _ _ _ => (pv 6))))
      (pss_cons (ps_set (i := 5) sc42.nd rfl (Or.inl rfl) (pe_op op_cat (pe_lc2 (vs1 := [7]) rfl sc42.nd (kPiL (K := K) rfl (pv 4)) (blkOk_by (own := [("piece", 6), ("other", 7)]) (by rfl)) (by decide) (fun _ _ _ _ _ => (pg_name (i := 6) sc42.nd rfl (Or.inl rfl) (Or.inr rfl))) (fun _ _ _ _ _ => pts_nil) (fun _ _ _ _ _ => (kPiT (K := K) rfl (pv 6))) (fun _ _ _ _ _ => (pg_name (i := 7) sc42.nd rfl (Or.inl rfl) (Or.inr rfl))) (fun _ _ _ _ _ => pts_nil) (fun _ _ _ _ _ => (pv 7))) (pe_lst (pa_cons (pv 3) pa_nil))))
      (pss_one (ps_set (i := 2) sc42.nd rfl (Or.inl rfl) (pe_op op_cat (pe_lc rfl sc42.nd (kPiL (K := K) rfl (pv 2)) (blkOk_by (own := [("piece", 6)]) (by rfl)) (fun _ _ _ _ _ => (pg_name (i := 6) sc42.nd rfl (Or.inl rfl) (Or.inr rfl))) (fun _ _ _ _ _ => (pts_one (pt_cmpR (kNotInTu (K := K) rfl hu65) (pv 6) (pv 4) (by rfl)))) (fun _ _ _ _ _ => (pv 6))) (pe_lst (pa_cons (pe_callTy (T := "tuple") (kTup (K := K) rfl) (by rfl) (T.b "tuple") (by decide +kernel) (pa_cons (pe_callB (id := "sorted") (kSorted (K := K) rfl) (by rfl) (T.b "sorted") (by decide +kernel) (pa_cons (pv 5) pa_nil)) pa_nil)) pa_nil))))))))
      (pss_one (ps_ret (pe_callTy (T := "tuple") (kTup (K := K) rfl) (by rfl) (T.b "tuple") (by decide +kernel) (pa_cons (pe_callB (id := "sorted") (kSortTu (K := K) rfl hr.units) (by rfl) (T.b "sorted") (by decide +kernel) (pa_cons (pv 2) pa_nil)) pa_nil)))))), ?_⟩
    refine ⟨Nat.zero_le _, fun d2 hd2 => ?_⟩
    have e0 : Ex H (upd H d2 (.lst [])) := Ex.new hd2
    refine ⟨_, rfl, l, rfl, ⟨_, rd_l (ex_rd e0 hl)⟩, ?_⟩
    refine for_it walk_list (fun i σ' H' => σ'[0]? = some (some (.ref d)) ∧ σ'.length = 8 ∧ Ex H H' ∧ ∃ pc qs, σ'[2]? = some (some (.ref pc)) ∧ H' pc = some (.lst (qs.map V.ref)) ∧ Tus H' qs (psOf i)) ⟨rfl, rfl, e0, d2, [], rfl, upd_same, .nil⟩ (fun i σ' H' _ p => rd_l (ex_rd p.2.2.1 hl)) (fun i x σ' H' H'' hi p y => ?_) (fun σ' H' p => ?_)
    · obtain ⟨p0, pl, pe, pc, qs, p2, hpc, tqs⟩ := p
      obtain ⟨rfl, y⟩ := y
      obtain ⟨r, er, rfl⟩ := get_map y
      obtain ⟨hin, rfl⟩ := iota_at er
      refine st_gn ?_
      dsimp only
      generalize hσ : σ'.set 3 (some (V.int (i : Nat))) = σ2
      have g0 : σ2[0]? = some (some (.ref d)) := by subst hσ; simp [p0]
      have g2 : σ2[2]? = some (some (.ref pc)) := by subst hσ; simp [p2]
      have g3 : σ2[3]? = some (some (.int (i : Nat))) := by subst hσ; simp [pl]
      have gl : σ2.length = 8 := by subst hσ; simp [pl]
      have hql := Paired.length tqs
      have hpl := ps_len i
      refine st_seq ?_
      -- near
      refine ⟨_, g2, pc, rfl, ⟨_, sq_of hpc⟩, ?_⟩
      refine lcU (Qd := fun D H' => _) walk_list (fun _ => true) (fun k => (psOf i).getD k []) (by rw [List.length_map]; omega) (fun H3 e => sq_of (e _ _ hpc)) (fun k x H3 H4 Y0 Y1 hk e y k0 k1 => ?_) (fun dn H5 ns hdn e5 hln tns => ?_)
      · obtain ⟨rfl, y⟩ := y
        obtain ⟨qa, eqa, rfl⟩ := get_map y
        obtain ⟨ms, ems, tq⟩ := paired_at tqs eqa
        have hgd := getD_at (d := []) ems
        obtain ⟨hi1, rfl, rfl⟩ := ps_at ems
        refine st_gn ⟨wipe_set (by decide), ?_⟩
        have v6 : ((wipe σ2 (List.map (fun x => x.snd) [(Str.ofString "piece", 6)])).set 6 (some (V.ref qa)))[6]? = some (some (.ref qa)) := by simp [wipe, gl]
        have v0 : ((wipe σ2 (List.map (fun x => x.snd) [(Str.ofString "piece", 6)])).set 6 (some (V.ref qa)))[0]? = some (some (.ref d)) := by simp [wipe, g0]
        have v3 : ((wipe σ2 (List.map (fun x => x.snd) [(Str.ofString "piece", 6)])).set 6 (some (V.ref qa)))[3]? = some (some (.int (i : Nat))) := by simp [wipe, g3]
        have vl : ((wipe σ2 (List.map (fun x => x.snd) [(Str.ofString "piece", 6)])).set 6 (some (V.ref qa))).length = 8 := by simp [wipe, gl]
        generalize ((wipe σ2 (List.map (fun x => x.snd) [(Str.ofString "piece", 6)])).set 6 (some (V.ref qa))) = σ3 at v6 v0 v3 vl ⊢
        have tq3 := tq.same e
        refine ⟨_, v6, qa, rfl, ⟨_, rd_t tq3⟩, ?_⟩
        refine lcV (Qd := fun D H' => _) walk_tup (fun _ => true) (fun j => .bl (decide ([(j : Int), (i : Int)] ∈ D))) (by rw [List.length_map, iota_len]; omega) (fun H' e => rd_t (ex_rd e tq3)) (fun j x H6 H7 Z0 Z1 hj e6 y l0 l1 => ?_) (fun D8 H8 hD8 e8 hl8 => ?_)
        · obtain ⟨rfl, y⟩ := y
          obtain ⟨z, ez, rfl⟩ := get_map y
          obtain ⟨_, rfl⟩ := iota_at ez
          refine st_gn ⟨wipe_set (by decide), ?_⟩
          have u7 : ((wipe σ3 (List.map (fun x => x.snd) [(Str.ofString "other", 7)])).set 7 (some (V.int (j : Nat))))[7]? = some (some (.int (j : Nat))) := by simp [wipe, vl]
          have u3 : ((wipe σ3 (List.map (fun x => x.snd) [(Str.ofString "other", 7)])).set 7 (some (V.int (j : Nat))))[3]? = some (some (.int (i : Nat))) := by simp [wipe, v3]
          have u0 : ((wipe σ3 (List.map (fun x => x.snd) [(Str.ofString "other", 7)])).set 7 (some (V.int (j : Nat))))[0]? = some (some (.ref d)) := by simp [wipe, v0]
          refine ⟨_, u7, _, u3, (by decide : 2 ≤ sizeLine), fun p hp => ⟨_, u0, p, d, [(j : Int), (i : Int)], ds, D, rfl, rfl, .inl upd_same, ?_, ?_, ?_⟩⟩
          · exact .inr (rd_t (hd.ex (((pe.trans e).trans e6).trans (Ex.new hp))).1)
          · exact (hd.ex (((pe.trans e).trans e6).trans (Ex.new hp))).2
          · exact l1 _ rfl (Ex.new hp)
        · rw [range_all, List.length_map, iota_len] at hl8
          refine ⟨D8, (List.range i).map fun (j : Nat) => decide ([(j : Int), (i : Int)] ∈ D), rfl, sq_of (by rw [hl8, List.map_map]; rfl), true, ?_, ?_⟩
          · obtain ⟨a, ha, hm⟩ := htree i hi1 hin
            congr 1
            refine List.any_eq_true.mpr ⟨true, List.mem_map.mpr ⟨a, List.mem_range.mpr ha, decide_eq_true hm⟩, rfl⟩
          · exact ⟨_, v6, k1 _ qa rfl e8 (by rw [hgd]; exact tq3.same e8)⟩
      · rw [range_all, List.length_map, hql, range_getD] at tns
        have e05 := pe.trans e5
        have hpc5 := e5 _ _ hpc
        have tqs5 := tqs.same e5
        refine st_gn ?_
        dsimp only
        generalize hσ3 : σ2.set 4 (some (V.ref dn)) = σ3
        have f0 : σ3[0]? = some (some (.ref d)) := by subst hσ3; simp [g0]
        have f2 : σ3[2]? = some (some (.ref pc)) := by subst hσ3; simp [g2]
        have f3 : σ3[3]? = some (some (.int (i : Nat))) := by subst hσ3; simp [g3]
        have f4 : σ3[4]? = some (some (.ref dn)) := by subst hσ3; simp [gl]
        have fl : σ3.length = 8 := by subst hσ3; simp [gl]
        have hnl := Paired.length tns
        -- joined
        refine st_seq (st_asg ?_)
        refine ⟨_, f4, dn, rfl, ⟨_, sq_of hln⟩, ?_⟩
        have fl2 := idx2_flat (psOf i) [] (fun x => x.length) (fun x j => x.getD j 0)
        rw [ps_flat] at fl2
        refine lc2R (Qd := fun D H' => _) walk_list (fun k => ((psOf i).getD k []).length) (fun k j v _ => v = .int (((psOf i).getD k []).getD j 0)) ?_ (fun H' e => sq_of (e _ _ hln)) (fun _ _ _ _ _ _ z => z) (fun k x H' H'' Z Y0 hk e y kk => ?_) (fun d6 H6 xs hd6 e6 hl6 hp6 => ?_)
        · have h1 := congrArg List.length fl2
          rw [List.length_map, iota_len] at h1
          rw [List.length_map, hnl, h1]
          omega
        · obtain ⟨rfl, y⟩ := y
          obtain ⟨qa, eqa, rfl⟩ := get_map y
          obtain ⟨ms, ems, tq⟩ := paired_at tns eqa
          have hgd := getD_at (d := []) ems
          refine st_gn ⟨wipe_set (by decide), ?_⟩
          have v6 : ((wipe σ3 (List.map (fun x => x.snd) [(Str.ofString "piece", 6), (Str.ofString "other", 7)])).set 6 (some (V.ref qa)))[6]? = some (some (.ref qa)) := by simp [wipe, fl]
          have vl : ((wipe σ3 (List.map (fun x => x.snd) [(Str.ofString "piece", 6), (Str.ofString "other", 7)])).set 6 (some (V.ref qa))).length = 8 := by simp [wipe, fl]
          have tq4 := tq.same e
          refine ⟨_, v6, qa, rfl, ⟨_, rd_t tq4⟩, ?_⟩
          refine kk _ _ _ _ _ (Ex.refl _) (by rw [hgd, ← List.length_map (f := V.int)]; exact walk_tup) (fun H5 _ e5 => rd_t (tq4.exT e5)) (fun j x H5 H6 Yv Y0 hj e5 t5 y kv => ?_)
          obtain ⟨rfl, y⟩ := y
          obtain ⟨z, ez, rfl⟩ := get_map y
          refine st_gn ⟨wipe_set (by decide), V.int z, ?_, kv _ _ (Ex.refl _) ?_⟩
          · simp [wipe, fl]
          · rw [hgd, getD_at ez]
        · rw [List.length_map, hnl] at hp6
          have hxs : xs = (iota i).map V.int := by
            rw [← fl2, List.map_map]
            exact paired_fn2 hp6
          rw [hxs] at hl6
          have e56 := e5.trans e6
          refine ⟨_, f3, (by decide : 1 ≤ sizeLine), fun p hp => ⟨d6, p, _, _, rfl, rfl, by rw [upd_ne (ne_of_none hl6 hp)]; exact hl6, upd_same, sz_of (by simp; omega), fun p7 hp7 => ?_⟩⟩
          have hl7 : (upd (upd H6 p (.lst [V.int (i : Nat)])) p7 (.lst ((iota i).map V.int ++ [V.int (i : Nat)]))) p7 = some (.lst ((iota (i + 1)).map V.int)) := by
            rw [upd_same, iota_succ, List.map_append]
            rfl
          have e57 := (e6.trans (Ex.new (o := .lst [V.int (i : Nat)]) hp)).trans (Ex.new (o := .lst ((iota i).map V.int ++ [V.int (i : Nat)])) hp7)
          have e07 := e05.trans e57
          generalize (upd (upd H6 p (.lst [V.int (i : Nat)])) p7 (.lst ((iota i).map V.int ++ [V.int (i : Nat)]))) = H7 at hl7 e07 e57 ⊢
          refine st_gn ?_
          dsimp only
          generalize hσ4 : σ3.set 5 (some (V.ref p7)) = σ4
          have h0 : σ4[0]? = some (some (.ref d)) := by subst hσ4; simp [f0]
          have h2 : σ4[2]? = some (some (.ref pc)) := by subst hσ4; simp [f2]
          have h4 : σ4[4]? = some (some (.ref dn)) := by subst hσ4; simp [f4]
          have h5 : σ4[5]? = some (some (.ref p7)) := by subst hσ4; simp [fl]
          have hl' : σ4.length = 8 := by subst hσ4; simp [fl]
          have hpc7 := e57 _ _ hpc5
          have tqs7 := tqs5.same e57
          have tns7 := tns.same e57
          have hln7 := e57 _ _ hln
          refine ⟨_, h2, pc, rfl, ⟨_, sq_of hpc7⟩, ?_⟩
          refine lcU (Qd := fun D H' => _) walk_list (fun _ => false) (fun k => []) (by rw [List.length_map]; omega) (fun H3 e => sq_of (e _ _ hpc7)) (fun k x H3 H4 Y0 Y1 hk e y k0 k1 => ?_) (fun d9 H9 rs hd9 e9 hl9 trs => ?_)
          · obtain ⟨rfl, y⟩ := y
            obtain ⟨qa, eqa, rfl⟩ := get_map y
            obtain ⟨ms, ems, tq⟩ := paired_at tqs7 eqa
            refine st_gn ⟨wipe_set (by decide), ?_⟩
            have v6 : ((wipe σ4 (List.map (fun x => x.snd) [(Str.ofString "piece", 6)])).set 6 (some (V.ref qa)))[6]? = some (some (.ref qa)) := by simp [wipe, hl']
            have v4 : ((wipe σ4 (List.map (fun x => x.snd) [(Str.ofString "piece", 6)])).set 6 (some (V.ref qa)))[4]? = some (some (.ref dn)) := by simp [wipe, h4]
            refine ⟨_, v6, _, v4, qa, dn, ms, ns, psOf i, rfl, rfl, tq.same e, .inl (sq_of (e _ _ hln7)), tns7.same e, false, ?_, ?_⟩
            · have := List.mem_of_getElem? ems
              simpa using this
            · exact k0 _ rfl (Ex.refl _)
          · have hrs : rs = [] := by
              have : (List.range ((qs.map V.ref).length)).filter (fun _ => false) = [] := by simp
              rw [this] at trs
              cases trs
              rfl
            subst hrs
            refine ⟨_, h5, p7, iota (i + 1), rfl, sq_of (e9 _ _ hl7), by rw [iota_len]; omega, fun ns' p10 hperm hsort hp10 => ?_⟩
            have hns : ns' = iota (i + 1) := hperm.eq_of_pairwise (fun _ _ _ _ h1 h2 => Int.le_antisymm h1 h2) hsort ((iota_asc _).imp fun h => Int.le_of_lt h)
            subst hns
            refine ⟨p10, _, rfl, .inl ⟨sq_of upd_same, fun p11 hp11 => ⟨(by decide : 1 ≤ sizeLine), fun p12 hp12 => ⟨d9, p12, [], _, rfl, rfl, ?_, upd_same, (by decide : 0 + 1 ≤ sizeLine), fun p13 hp13 => ?_⟩⟩⟩⟩
            · exact ((Ex.new hp10).trans ((Ex.new hp11).trans (Ex.new hp12))) _ _ hl9
            · refine ⟨?_, ?_, ((e07.trans e9).trans ((Ex.new hp10).trans ((Ex.new hp11).trans (Ex.new hp12)))).trans (Ex.new hp13), p13, [p11], ?_, upd_same, ?_⟩
              · simp [h0]
              · simp [hl']
              · simp [hl']
              · refine .cons (Tu.same (H := upd (upd H9 p10 (.lst ((iota (i + 1)).map V.int))) p11 (.tup ((iota (i + 1)).map V.int))) (.inl upd_same) ((Ex.new hp12).trans (Ex.new hp13))) ?_
                exact .nil
    · obtain ⟨p0, pl, pe, pc, qs, p2, hpc, tqs⟩ := p
      rw [List.length_map, iota_len] at tqs
      have hps : psOf n = [iota n] := by unfold psOf; rw [if_neg (by omega)]
      rw [hps] at tqs
      cases tqs with
      | cons tq t =>
        cases t
        rename_i qa
        refine ⟨_, p2, pc, [qa], [iota n], rfl, sq_of hpc, .cons tq .nil, ?_, fun p bs mss hp hsrt => ?_⟩
        · intro ns hns
          have : ns = iota n := by simpa using hns
          rw [this]
          intro z
          have h1 := iota_len n
          rw [z] at h1
          simp at h1
          omega
        · have hbl : bs.length = 1 := by
            have h1 := hsrt.perm.length_eq
            rw [List.length_zip, List.length_zip] at h1
            have h2 := hsrt.len
            simp at h1
            omega
          match bs, hbl with
          | [b], _ => exact ⟨p, _, rfl, .inl ⟨sq_of upd_same, fun l2 hl2 => q _ l2 (.ref b) (pe.trans ((Ex.new hp).trans (Ex.new hl2))) (.inl upd_same)⟩⟩
end
end Kx
namespace Kx
open PySem PySem.Spec PyProof.Rows L2
def twoW (D : List (List Int)) : List (List Int) := D.flatMap fun ms => [[ms.getD 0 0, ms.getD 1 0], [ms.getD 1 0, ms.getD 0 0]]
theorem twoW_len (D : List (List Int)) : (twoW D).length = 2 * D.length := by
  unfold twoW
  induction D with
  | nil => rfl
  | cons a l ih => rw [List.flatMap_cons, List.length_append, ih, List.length_cons]; simp; omega
theorem mem_twoW {D : List (List Int)} {n : Nat} (h : PD n D) {ms : List Int} : ms ∈ twoW D ↔ ∃ a b : Int, 0 ≤ a ∧ a < b ∧ b < n ∧ [a, b] ∈ D ∧ (ms = [a, b] ∨ ms = [b, a]) := by
  unfold twoW
  rw [List.mem_flatMap]
  constructor
  · rintro ⟨x, hx, hm⟩
    obtain ⟨a, b, rfl, h1, h2, h3⟩ := h.pair x hx
    refine ⟨a, b, h1, h2, h3, hx, ?_⟩
    simpa using hm
  · rintro ⟨a, b, h1, h2, h3, hx, hm⟩
    exact ⟨[a, b], hx, by simpa using hm⟩
theorem lt_irrefl_list (a : List Int) : ¬ a < a := List.lt_irrefl a
theorem PD.nodup {D : List (List Int)} {n : Nat} (h : PD n D) : D.Nodup := h.asc.imp fun {a b} hab e => by subst e; exact List.lt_irrefl a hab
theorem twoW_nodup {D : List (List Int)} {n : Nat} (h : PD n D) : (twoW D).Nodup := by
  unfold twoW
  refine List.pairwise_flatMap.mpr ⟨fun x hx => ?_, ?_⟩
  · obtain ⟨a, b, rfl, h1, h2, h3⟩ := h.pair x hx
    refine List.pairwise_cons.mpr ⟨fun y hy => ?_, by simp⟩
    have : y = [b, a] := by simpa using hy
    subst this
    intro z
    have : a = b := (List.cons.inj z).1
    omega
  · refine (List.Pairwise.and_mem.mp h.nodup).imp ?_
    rintro x y ⟨hx, hy, hne⟩ u hu v hv e
    obtain ⟨a, b, rfl, h1, h2, h3⟩ := h.pair x hx
    obtain ⟨c, d, rfl, k1, k2, k3⟩ := h.pair y hy
    have hu' : u = [a, b] ∨ u = [b, a] := by simpa using hu
    have hv' : v = [c, d] ∨ v = [d, c] := by simpa using hv
    subst e
    rcases hu' with rfl | rfl <;> rcases hv' with e | e <;> (injection e with e1 e2; injection e2 with e2 _)
    · exact hne (by rw [e1, e2])
    · omega
    · omega
    · exact hne (by rw [e1, e2])
theorem twoW_ok {D : List (List Int)} {n : Nat} (h : PD n D) : ∀ ms ∈ twoW D, ∃ x y : Int, ms = [x, y] ∧ 0 ≤ x ∧ x < n ∧ 0 ≤ y ∧ y < n ∧ x ≠ y := fun ms hm => by
  obtain ⟨a, b, h1, h2, h3, _, h4⟩ := (mem_twoW h).mp hm
  rcases h4 with rfl | rfl
  · exact ⟨a, b, rfl, by omega, by omega, by omega, by omega, by omega⟩
  · exact ⟨b, a, rfl, by omega, by omega, by omega, by omega, by omega⟩
theorem arr_nodup {n : Nat} {Es : List (List Int)} {G : List Int} (hE : Es.Nodup) (hc : ∀ ms ∈ Es, ∃ x y : Int, ms = [x, y] ∧ 0 ≤ x ∧ x < n ∧ 0 ≤ y ∧ y < n ∧ x ≠ y) (hasc : G.Pairwise (· < ·)) (hG : ∀ r ∈ G, 0 ≤ r ∧ r < (n : Int)) : (arr n Es G).Nodup := by
  unfold arr
  refine List.nodup_append.mpr ⟨?_, ?_, fun x hx y hy e => ?_⟩
  · unfold arrE
    refine List.Pairwise.map _ (fun x y hxy => ?_) (List.Pairwise.and_mem.mp hE)
    obtain ⟨hx, hy, hne⟩ := hxy
    obtain ⟨a, b, rfl, h1, h2, h3, h4, h5⟩ := hc x hx
    obtain ⟨c, d, rfl, k1, k2, k3, k4, k5⟩ := hc y hy
    intro e
    have e1 : n - a.toNat = n - c.toNat := congrArg Prod.fst e
    have e2 : n - b.toNat = n - d.toNat := congrArg Prod.snd e
    have : a = c := by omega
    have : b = d := by omega
    subst a b
    exact hne rfl
  · unfold arrG
    refine List.pairwise_flatMap.mpr ⟨fun g hg => ?_, ?_⟩
    · obtain ⟨h1, h2⟩ := hG g hg
      refine List.pairwise_cons.mpr ⟨fun y hy => ?_, by simp⟩
      have : y = (n - g.toNat, 0) := by simpa using hy
      subst this
      intro z
      have : 0 = n - g.toNat := congrArg Prod.fst z
      omega
    · refine (List.Pairwise.and_mem.mp hasc).imp ?_
      rintro g k ⟨hg, hk, hlt⟩ u hu v hv e
      obtain ⟨h1, h2⟩ := hG g hg
      obtain ⟨h3, h4⟩ := hG k hk
      subst e
      have hu' : u = (0, n - g.toNat) ∨ u = (n - g.toNat, 0) := by simpa using hu
      have hv' : u = (0, n - k.toNat) ∨ u = (n - k.toNat, 0) := by simpa using hv
      rcases hu' with rfl | rfl <;> rcases hv' with e | e <;> (have e1 := congrArg Prod.fst e; have e2 := congrArg Prod.snd e; simp at e1 e2; omega)
  · obtain ⟨c, hcE, rfl⟩ := List.mem_map.mp hx
    obtain ⟨a, b, rfl, h1, h2, h3, h4, h5⟩ := hc c hcE
    obtain ⟨g, hg, hm⟩ := List.mem_flatMap.mp hy
    obtain ⟨k1, k2⟩ := hG g hg
    have hv' : y = (0, n - g.toNat) ∨ y = (n - g.toNat, 0) := by simpa using hm
    rcases hv' with rfl | rfl
    · have e1 : n - a.toNat = 0 := congrArg Prod.fst e
      omega
    · have e1 : n - b.toNat = 0 := congrArg Prod.snd e
      omega
end Kx
namespace Kx
open PySem PySem.Spec PyProof.Rows L2
open Evl (Ex ex_rd ex_l ex_t st_of sq_of sz_lt sz_of)
theorem kLtT {X : Cx} {K : PySem.W.Frag} (hK : X.K = K) (hu : X.A.units < cLine) : OpR X (compareOp .Lt) (rLtT K) := by subst hK; exact op_ltT hu
theorem pw_at {R : List Int → List Int → Prop} {l : List (List Int)} (h : l.Pairwise R) {i : Nat} {a b : List Int} (ha : l[i]? = some a) (hb : l[i + 1]? = some b) : R a b := by
  obtain ⟨h1, e1⟩ := List.getElem?_eq_some_iff.mp ha
  obtain ⟨h2, e2⟩ := List.getElem?_eq_some_iff.mp hb
  have := List.pairwise_iff_getElem.mp h i (i + 1) h1 h2 (by omega)
  rw [e1, e2] at this
  exact this
section
variable {P : Program} {w : World} {K : PySem.W.Frag} {mg : PySem.Str → Option Value} {base : Heap} {A : Ads}
theorem all_true (n : Nat) : ((List.range n).map fun _ => true).all id = true := by simp
structure spAreDoors (vs : List V) (H : Hp) (Q : VK) (E : XK) : Prop where
  ex : ∃ (d : Addr) (ds : List Addr) (n : Nat) (D : List (List Int)), vs = [.ref d, .int n] ∧ TT' H d ds D ∧ PD n D ∧ 1 ≤ n ∧ n ≤ 6 ∧ D.length ≤ 100 ∧ ∀ H', Ex H H' → Q (.bl true) H'
theorem sc43 : FnScope ["value", "rooms", "at", "door"] ["value", "rooms"] (defScope (topS 43)) := ⟨rfl, rfl, rfl, by decide +kernel, rfl, by decide +kernel, by decide +kernel⟩
/- slots: 0 value, 1 rooms, 2 at, 3 door -/
theorem ok_are_doors (T : Txt P K mg A) : DOk P w K mg base CX0 4 "are_doors" ["value", "rooms"] [] spAreDoors := by
  have D_is_door := (ok_is_door (P := P) (w := w) (base := base) T)
  have D_hung_lots := (ok_hung_lots (P := P) (w := w) (base := base) T).mono (by decide : 1 ≤ 3)
  refine T.are_doors.ok0 sc43 (fun vs H Q E h => ?_) (fun _ _ _ _ _ _ us hl => match us, hl with | [_, _], _ => rfl) (fun f cdv A' outer s H vs Q E hr h => ?_)
  · obtain ⟨d, ds, n, D, rfl, _⟩ := h
    rfl
  · obtain ⟨d, ds, n, D, rfl, hd, hD, hn1, hn6, hz, q⟩ := h
    have hu : (A'.deeper (envOfC "are_doors" (defScope (topS 43)) s.heap.objs.size f cdv)).units < cLine := by have := hr.un; omega
    have hdl := Paired.length hd.2
    refine ⟨_, (pss_cons (ps_if (PW.pt (pw_or (pt_not (pt_val (pe_callB (id := "isinstance") call_isi (by rfl) (T.b "isinstance") (by decide +kernel) (pa_cons (pv 0) (pa_cons (pe_bltn (v := .ty "tuple") (by rfl) (T.b "tuple") (by decide +kernel) rfl) pa_nil))))) (pw_or1 (pt_not (pt_val (pe_callB (id := "all") (kAll (K := K) rfl rfl) (by rfl) (T.b "all") (by decide +kernel) (pa_cons (pe_lc rfl sc43.nd (kPiT (K := K) rfl (pv 0)) (blkOk_by (own := [("door", 3)]) (by rfl)) (fun _ _ _ _ _ => (pg_name (i := 3) sc43.nd rfl (Or.inl rfl) (Or.inr rfl))) (fun _ _ _ _ _ => pts_nil) (fun _ _ _ _ _ => (pe_d D_is_door hr (by rfl) pass0 (pa_cons (pv 3) (pa_cons (pv 1) pa_nil))))) pa_nil))))))) (pss_one (ps_ret pe_bl)) pss_nil)
      (pss_cons (ps_if (pt_not (pt_val (pe_callB (id := "all") (kAll (K := K) rfl rfl) (by rfl) (T.b "all") (by decide +kernel) (pa_cons (pe_lc rfl sc43.nd (pi_range1 (by rfl) (T.b "range") (pa_cons (pe_op op_sub (pe_callB (id := "len") (kLen (K := K) rfl) (by rfl) (T.b "len") (by decide +kernel) (pa_cons (pv 0) pa_nil)) pe_int) pa_nil)) (blkOk_by (own := [("at", 2)]) (by rfl)) (fun _ _ _ _ _ => (pg_name (i := 2) sc43.nd rfl (Or.inl rfl) (Or.inr rfl))) (fun _ _ _ _ _ => pts_nil) (fun _ _ _ _ _ => (pe_cmpR (kLtT (K := K) rfl hu) (pe_ix (kIxT (K := K) rfl) (pv 0) (pv 2) (fun _ _ => rfl)) (pe_ix (kIxT (K := K) rfl) (pv 0) (pe_op op_add (pv 2) pe_int) (fun _ _ => rfl)) (nomark _)))) pa_nil)))) (pss_one (ps_ret pe_bl)) pss_nil)
      (pss_one (ps_ret (pe_cmpR op_eq (pe_callB (id := "len") (kLen (K := K) rfl) (by rfl) (T.b "len") (by decide +kernel) (pa_cons (pe_d D_hung_lots hr (by rfl) pass0 (pa_cons (pv 0) (pa_cons (pe_listRg rfl (by rfl) (T.b "list") (prg_1 (by rfl) (T.b "range") (pv 1))) pa_nil))) pa_nil)) pe_int (nomark _)))))), ?_⟩
    refine ⟨_, rfl, _, _, _, _, true, rfl, .ty _, tup_ty hd.1, kit_ty (by decide +kernel), _, rfl, ?_⟩
    refine ⟨_, rfl, d, rfl, ⟨_, rd_t hd.1⟩, ?_⟩
    refine lcV (Qd := fun D H' => _) walk_tup (fun _ => true) (fun _ => .bl true) (by rw [List.length_map]; omega) (fun H' e => rd_t (ex_rd e hd.1)) (fun j x H' H'' Y0 Y1 hj e y k0 k1 => ?_) (fun D1 H1 hD1 e1 hl1 => ?_)
    · obtain ⟨rfl, y⟩ := y
      obtain ⟨z, ez, rfl⟩ := get_map y
      obtain ⟨ms, ems, tz⟩ := paired_at hd.2 ez
      obtain ⟨a, b, rfl, h1, h2, h3⟩ := hD.pair ms (List.mem_of_getElem? ems)
      exact st_gn ⟨wipe_set (by decide), _, rfl, _, rfl, ⟨z, a, b, n, rfl, tz.same e, h1, h2, h3, fun H' e => k1 _ rfl e⟩⟩
    · rw [range_all] at hl1
      refine ⟨D1, (List.range (ds.map V.ref).length).map fun _ => true, rfl, sq_of (by rw [hl1, List.map_map]; rfl), true, by rw [all_true], ?_⟩
      refine ⟨_, rfl, d, _, rfl, .inr (rd_t (hd.ex e1).1), _, _, rfl, rfl, _, rfl, by omega, by rw [List.length_map]; omega, ?_⟩
      refine lcV (Qd := fun D H' => _) walk_range (fun _ => true) (fun _ => .bl true) (by rw [List.length_map]; omega) (fun _ _ => trivial) (fun j x H' H'' Y0 Y1 hj e y k0 k1 => ?_) (fun D2 H2 hD2 e2 hl2 => ?_)
      · obtain ⟨rfl, rfl⟩ := y
        rw [List.length_map] at hj
        obtain ⟨z1, ez1⟩ : ∃ z, ds[j]? = some z := ⟨_, List.getElem?_eq_getElem (by omega)⟩
        obtain ⟨z2, ez2⟩ : ∃ z, ds[j + 1]? = some z := ⟨_, List.getElem?_eq_getElem (by omega)⟩
        obtain ⟨m1, em1, t1⟩ := paired_at hd.2 ez1
        obtain ⟨m2, em2, t2⟩ := paired_at hd.2 ez2
        have hlt := pw_at hD.asc em1 em2
        have ee := e1.trans e
        have hd' := (hd.ex ee).1
        refine st_gn ⟨wipe_set (by decide), _, rfl, _, rfl, d, _, _, _, rfl, rfl, rd_t hd', by rw [show (0 + (j : Int)) = ((j : Nat) : Int) by omega]; exact atI_map ez1, _, rfl, _, rfl, _, _, rfl, rfl, d, _, _, _, rfl, rfl, rd_t hd', by rw [show (0 + (j : Int) + 1) = ((j + 1 : Nat) : Int) by omega]; exact atI_map ez2, ?_⟩
        refine ⟨z1, z2, m1, m2, rfl, rfl, rd_t (t1.same ee), rd_t (t2.same ee), ?_⟩
        have h1 := k1 _ rfl (Ex.refl _)
        rw [← decide_eq_true hlt, ← lexLt_iff] at h1
        exact h1
      · rw [range_all] at hl2
        refine ⟨D2, (List.range (((((ds.map V.ref).length : Nat) : Int) - 1).toNat)).map fun _ => true, rfl, sq_of (by rw [hl2, List.map_map]; rfl), true, by rw [all_true], ?_⟩
        have e12 := e1.trans e2
        refine ⟨_, rfl, _, rfl, _, rfl, .of_le (by omega) (by omega) (by omega) (by omega), fun l hl => ?_⟩
        have e13 := e12.trans (Ex.new (o := .lst (rgV 0 (n : Int))) hl)
        refine ⟨d, l, ds, n, D, rfl, hd.ex e13, .inl ?_, hn1, hn6, hD.tree, fun H' p x e hp => ?_⟩
        · rw [upd_same]
          unfold rgV iota
          rw [List.map_map]
          congr 2
          rw [show ((n : Int) - 0).toNat = n by omega]
          congr 1
          funext k
          show V.int (0 + (k : Int)) = V.int k
          rw [Int.zero_add]
        · exact ⟨p, _, rfl, .inr (rd_t hp), rfl, q _ (e13.trans e)⟩
structure spAreGates (vs : List V) (H : Hp) (Q : VK) (E : XK) : Prop where
  ex : ∃ (g : Addr) (n : Int) (G : List Int), vs = [.ref g, .int n] ∧ Tu H g G ∧ (∀ r ∈ G, 0 ≤ r ∧ r < n) ∧ G.Pairwise (· < ·) ∧ G.length ≤ 100 ∧ ∀ H', Ex H H' → Q (.bl true) H'
theorem sc44 : FnScope ["value", "rooms", "at", "room"] ["value", "rooms"] (defScope (topS 44)) := ⟨rfl, rfl, rfl, by decide +kernel, rfl, by decide +kernel, by decide +kernel⟩
/- slots: 0 value, 1 rooms, 2 at, 3 room -/
theorem ok_are_gates (T : Txt P K mg A) : DOk P w K mg base CX0 3 "are_gates" ["value", "rooms"] [] spAreGates := by
  have D_is_number := (ok_is_number (P := P) (w := w) (base := base) T)
  refine T.are_gates.ok0 sc44 (fun vs H Q E h => ?_) (fun _ _ _ _ _ _ us hl => match us, hl with | [_, _], _ => rfl) (fun f cdv A' outer s H vs Q E hr h => ?_)
  · obtain ⟨g, n, G, rfl, _⟩ := h
    rfl
  · obtain ⟨g, n, G, rfl, hg, hG, hasc, hz, q⟩ := h
    refine ⟨_, (pss_cons (ps_if (PW.pt (pw_or (pt_not (pt_val (pe_callB (id := "isinstance") call_isi (by rfl) (T.b "isinstance") (by decide +kernel) (pa_cons (pv 0) (pa_cons (pe_bltn (v := .ty "tuple") (by rfl) (T.b "tuple") (by decide +kernel) rfl) pa_nil))))) (pw_or1 (pt_not (pt_val (pe_callB (id := "all") (kAll (K := K) rfl rfl) (by rfl) (T.b "all") (by decide +kernel) (pa_cons (pe_lc rfl sc44.nd (kPiT (K := K) rfl (pv 0)) (blkOk_by (own := [("room", 3)]) (by rfl)) (fun _ _ _ _ _ => (pg_name (i := 3) sc44.nd rfl (Or.inl rfl) (Or.inr rfl))) (fun _ _ _ _ _ => pts_nil) (fun _ _ _ _ _ => (pe_and (pe_d D_is_number hr (by rfl) pass0 (pa_cons (pv 3) pa_nil)) (pe_one (pe_cmpR op_lt (pv 3) (pv 1) (nomark _)))))) pa_nil))))))) (pss_one (ps_ret pe_bl)) pss_nil)
      (pss_one (ps_ret (pe_callB (id := "all") (kAll (K := K) rfl rfl) (by rfl) (T.b "all") (by decide +kernel) (pa_cons (pe_lc rfl sc44.nd (pi_range1 (by rfl) (T.b "range") (pa_cons (pe_op op_sub (pe_callB (id := "len") (kLen (K := K) rfl) (by rfl) (T.b "len") (by decide +kernel) (pa_cons (pv 0) pa_nil)) pe_int) pa_nil)) (blkOk_by (own := [("at", 2)]) (by rfl)) (fun _ _ _ _ _ => (pg_name (i := 2) sc44.nd rfl (Or.inl rfl) (Or.inr rfl))) (fun _ _ _ _ _ => pts_nil) (fun _ _ _ _ _ => (pe_cmpR op_lt (pe_ix (kIxT (K := K) rfl) (pv 0) (pv 2) (fun _ _ => rfl)) (pe_ix (kIxT (K := K) rfl) (pv 0) (pe_op op_add (pv 2) pe_int) (fun _ _ => rfl)) (nomark _)))) pa_nil))))), ?_⟩
    refine ⟨_, rfl, _, _, _, _, true, rfl, .ty _, tup_ty hg, kit_ty (by decide +kernel), _, rfl, ?_⟩
    refine ⟨_, rfl, g, rfl, ⟨_, rd_t hg⟩, ?_⟩
    refine lcV (Qd := fun D H' => _) walk_tup (fun _ => true) (fun _ => .bl true) (by rw [List.length_map]; omega) (fun H' e => rd_t (ex_rd e hg)) (fun j x H' H'' Y0 Y1 hj e y k0 k1 => ?_) (fun D1 H1 hD1 e1 hl1 => ?_)
    · obtain ⟨rfl, y⟩ := y
      obtain ⟨z, ez, rfl⟩ := get_map y
      obtain ⟨h1, h2⟩ := hG z (List.mem_of_getElem? ez)
      refine st_gn ⟨wipe_set (by decide), _, rfl, num_nat h1 ⟨_, rfl, _, rfl, _, rfl, _, _, rfl, rfl, ?_⟩⟩
      have h3 := k1 _ rfl (Ex.refl _)
      rw [← decide_eq_true h2] at h3
      exact h3
    · rw [range_all] at hl1
      refine ⟨D1, (List.range (G.map V.int).length).map fun _ => true, rfl, sq_of (by rw [hl1, List.map_map]; rfl), true, by rw [all_true], ?_⟩
      refine ⟨_, rfl, g, _, rfl, .inr (rd_t (ex_rd e1 hg)), _, _, rfl, rfl, _, rfl, by omega, by rw [List.length_map]; omega, ?_⟩
      refine lcV (Qd := fun D H' => _) walk_range (fun _ => true) (fun _ => .bl true) (by rw [List.length_map]; omega) (fun _ _ => trivial) (fun j x H' H'' Y0 Y1 hj e y k0 k1 => ?_) (fun D2 H2 hD2 e2 hl2 => ?_)
      · obtain ⟨rfl, rfl⟩ := y
        rw [List.length_map] at hj
        obtain ⟨z1, ez1⟩ : ∃ z, G[j]? = some z := ⟨_, List.getElem?_eq_getElem (by omega)⟩
        obtain ⟨z2, ez2⟩ : ∃ z, G[j + 1]? = some z := ⟨_, List.getElem?_eq_getElem (by omega)⟩
        have hlt := asc_prev hasc ez1 ez2
        have hg' := ex_rd (e1.trans e) hg
        refine st_gn ⟨wipe_set (by decide), _, rfl, _, rfl, g, _, _, _, rfl, rfl, rd_t hg', by rw [show (0 + (j : Int)) = ((j : Nat) : Int) by omega]; exact atI_map ez1, _, rfl, _, rfl, _, _, rfl, rfl, g, _, _, _, rfl, rfl, rd_t hg', by rw [show (0 + (j : Int) + 1) = ((j + 1 : Nat) : Int) by omega]; exact atI_map ez2, ?_⟩
        refine ⟨_, _, rfl, rfl, ?_⟩
        have h1 := k1 _ rfl (Ex.refl _)
        rw [← decide_eq_true hlt] at h1
        exact h1
      · rw [range_all] at hl2
        refine ⟨D2, (List.range (((((G.map V.int).length : Nat) : Int) - 1).toNat)).map fun _ => true, rfl, sq_of (by rw [hl2, List.map_map]; rfl), ?_⟩
        rw [all_true]
        exact q _ (e1.trans e2)
end
end Kx
namespace Kx
open PySem PySem.Spec PyProof.Rows L2
open Evl (Ex ex_rd ex_l ex_t st_of sq_of sz_lt sz_of)
/-- a party in the heap -/
structure PtyAt (H : Hp) (p d g : Addr) (ds : List Addr) (n : Nat) (D : List (List Int)) (m : Int) (G : List Int) : Prop where
  at_ : Rd H p (.tup [.int n, .ref d, .int m, .ref g])
  ds : TT' H d ds D
  gs : Tu H g G
theorem PtyAt.ex {H H' : Hp} {p d g : Addr} {ds : List Addr} {n : Nat} {D : List (List Int)} {m : Int} {G : List Int} (h : PtyAt H p d g ds n D m G) (e : Ex H H') : PtyAt H' p d g ds n D m G := ⟨ex_rd e h.at_, h.ds.ex e, h.gs.same e⟩
structure PtyOk (n : Nat) (D : List (List Int)) (G : List Int) : Prop where
  n2 : 2 ≤ n
  n6 : n ≤ 6
  pd : PD n D
  dl : D.length ≤ 50
  asc : G.Pairwise (· < ·)
  gs : ∀ r ∈ G, 0 ≤ r ∧ r < (n : Int)
  gl : G.length ≤ 6
section
variable {P : Program} {w : World} {K : PySem.W.Frag} {mg : PySem.Str → Option Value} {base : Heap} {A : Ads}
structure spTwoWays (vs : List V) (H : Hp) (Q : VK) (E : XK) : Prop where
  ex : ∃ (d : Addr) (ds : List Addr) (n : Nat) (D : List (List Int)), vs = [.ref d] ∧ TT' H d ds D ∧ PD n D ∧ D.length ≤ 100 ∧ ∀ H' b rs, Ex H H' → LT H' b rs (twoW D) → Q (.ref b) H'
theorem sc46 : FnScope ["doors", "one", "other", "pair"] ["doors"] (defScope (topS 46)) := ⟨rfl, rfl, rfl, by decide +kernel, rfl, by decide +kernel, by decide +kernel⟩
/- slots: 0 doors, 1 one, 2 other, 3 pair -/
theorem ok_two_ways (T : Txt P K mg A) : DOk P w K mg base CX0 1 "two_ways" ["doors"] [] spTwoWays := by
  refine T.two_ways.ok0 sc46 (fun vs H Q E h => ?_) (fun _ _ _ _ _ _ us hl => match us, hl with | [_], _ => rfl) (fun f cdv A' outer s H vs Q E hr h => ?_)
  · obtain ⟨d, ds, n, D, rfl, _⟩ := h
    rfl
  · obtain ⟨d, ds, n, D, rfl, hd, hD, hz, q⟩ := h
    have hdl := Paired.length hd.2
    refine ⟨_, (pss_one (ps_ret (pe_lc2 (vs1 := [3]) rfl sc46.nd (kPiT (K := K) rfl (pv 0)) (blkOk_by (own := [("one", 1), ("other", 2), ("pair", 3)]) (by rfl)) (by decide) (fun _ _ _ _ _ => (kTgt (K := K) (n := 2) rfl rfl (pgs_cons (pg_name (i := 1) sc46.nd rfl (Or.inl rfl) (Or.inr rfl)) (pgs_cons (pg_name (i := 2) sc46.nd rfl (Or.inl rfl) (Or.inr rfl)) pgs_nil)) rfl rfl)) (fun _ _ _ _ _ => pts_nil) (fun _ _ _ _ _ => (kPiT (K := K) rfl (pe_tup (pa_cons (pe_tup (pa_cons (pv 1) (pa_cons (pv 2) pa_nil))) (pa_cons (pe_tup (pa_cons (pv 2) (pa_cons (pv 1) pa_nil))) pa_nil))))) (fun _ _ _ _ _ => (pg_name (i := 3) sc46.nd rfl (Or.inl rfl) (Or.inr rfl))) (fun _ _ _ _ _ => pts_nil) (fun _ _ _ _ _ => (pv 3))))), ?_⟩
    refine st_ret ?_
    refine ⟨_, rfl, d, rfl, ⟨_, rd_t hd.1⟩, ?_⟩
    have fl := idx2_flat D [] (fun _ => 2) (fun x j => if j = 0 then [x.getD 0 0, x.getD 1 0] else [x.getD 1 0, x.getD 0 0])
    have fl' : (D.flatMap fun x => (List.range 2).map fun j => if j = 0 then [x.getD 0 0, x.getD 1 0] else [x.getD 1 0, x.getD 0 0]) = twoW D := rfl
    rw [fl'] at fl
    refine lc2R (Qd := fun D H' => _) walk_tup (fun _ => 2) (fun k j v H' => ∃ p, v = .ref p ∧ Tu H' p (if j = 0 then [(D.getD k []).getD 0 0, (D.getD k []).getD 1 0] else [(D.getD k []).getD 1 0, (D.getD k []).getD 0 0])) ?_ (fun H' e => rd_t (ex_rd e hd.1)) (fun _ _ _ _ _ e ⟨p, h1, h2⟩ => ⟨p, h1, h2.exT e⟩) (fun k x H' H'' Z Y0 hk e y kk => ?_) (fun b H' xs hb e hl hp => ?_)
    · have h1 := congrArg List.length fl
      rw [List.length_map, twoW_len] at h1
      rw [List.length_map, hdl, h1]
      omega
    · obtain ⟨rfl, y⟩ := y
      obtain ⟨c, ec, rfl⟩ := get_map y
      obtain ⟨ms, ems, tc⟩ := paired_at hd.2 ec
      obtain ⟨a, b, rfl, h1, h2, h3⟩ := hD.pair ms (List.mem_of_getElem? ems)
      have hgd := getD_at (d := []) ems
      refine ⟨c, _, rfl, rd_t (tc.same e), rfl, _, _, rfl, _, _, rfl, rfl, wipe_set2 (by decide) (by decide), ?_⟩
      refine ⟨_, rfl, _, rfl, (by decide : 2 ≤ sizeLine), fun p1 hp1 => ⟨_, rfl, _, rfl, (by decide : 2 ≤ sizeLine), fun p2 hp2 => ⟨(by decide : 2 ≤ sizeLine), fun p3 hp3 => ⟨p3, rfl, ⟨_, st_of upd_same⟩, ?_⟩⟩⟩⟩
      have x1 : Ex H'' (upd H'' p1 (.tup [.int a, .int b])) := Ex.new hp1
      have x2 := ex2 (o := .tup [.int b, .int a]) x1 hp2
      have x3 := ex2 (o := .tup [.ref p1, .ref p2]) x2 hp3
      have t1 : Tu (upd (upd (upd H'' p1 (.tup [.int a, .int b])) p2 (.tup [.int b, .int a])) p3 (.tup [.ref p1, .ref p2])) p1 [a, b] := Tu.same (H := upd H'' p1 (.tup [.int a, .int b])) (.inl upd_same) ((Ex.new hp2).trans (Ex.new hp3))
      have t2 : Tu (upd (upd (upd H'' p1 (.tup [.int a, .int b])) p2 (.tup [.int b, .int a])) p3 (.tup [.ref p1, .ref p2])) p2 [b, a] := Tu.same (H := upd (upd H'' p1 (.tup [.int a, .int b])) p2 (.tup [.int b, .int a])) (.inl upd_same) (Ex.new hp3)
      have t3 : (upd (upd (upd H'' p1 (.tup [.int a, .int b])) p2 (.tup [.int b, .int a])) p3 (.tup [.ref p1, .ref p2])) p3 = some (.tup ([p1, p2].map V.ref)) := upd_same
      generalize (upd (upd (upd H'' p1 (.tup [.int a, .int b])) p2 (.tup [.int b, .int a])) p3 (.tup [.ref p1, .ref p2])) = H3 at x3 t1 t2 t3 ⊢
      refine kk _ _ _ _ _ x3 (walk_tup (xs := [p1, p2].map V.ref)) (fun H5 _ e5 => st_of (e5 _ _ t3 (fun _ z => nomatch z))) (fun j x H5 H6 Yv Y0 hj e5 t5 y kv => ?_)
      obtain ⟨rfl, y⟩ := y
      obtain ⟨z, ez, rfl⟩ := get_map y
      refine st_gn ⟨wipe_set (by decide), .ref z, ?_, kv _ _ (Ex.refl _) ?_⟩
      · rfl
      · rw [hgd]
        match j, hj, ez with
        | 0, _, ez => cases (Option.some.inj ez); exact ⟨p1, rfl, t1.exT t5⟩
        | 1, _, ez => cases (Option.some.inj ez); exact ⟨p2, rfl, t2.exT t5⟩
    · rw [List.length_map, hdl] at hp
      obtain ⟨rs, e1, pr⟩ := refs_ofG hp
      subst e1
      exact q H' b rs e ⟨.inl hl, by rw [← fl]; exact paired_mapR (paired_flip pr)⟩
/-- what need_party says -/
structure PtyIn (A : Ads) (vs : List V) (H : Hp) (E : XK) (k : Nat → List (List Int) → Int → List Int → Prop) : Prop where
  ex : (∃ (p d g : Addr) (ds : List Addr) (n : Nat) (D : List (List Int)) (m : Int) (G : List Int), vs = [.ref p] ∧ PtyAt H p d g ds n D m G ∧ PtyOk n D G ∧ 0 ≤ m ∧ m ≤ 5 ∧ (m = 0 → ∀ H' d, Ex H H' → H' d = none → E (.ref A.eHouse) (some d) (upd H' d (.xd [("at", .int 2)]))) ∧ (1 ≤ m → k n D m G)) ∨
    ∃ (p : Addr) (xs : List V), vs = [.ref p] ∧ Rd H p (.tup xs) ∧ xs.length ≠ 4 ∧ ∀ H' d, Ex H H' → H' d = none → E (.ref A.eHouse) (some d) (upd H' d (.xd [("at", .int (-1))]))
structure spNeedParty (A : Ads) (vs : List V) (H : Hp) (Q : VK) (E : XK) : Prop where
  ex : PtyIn A vs H E fun _ _ _ _ => ∀ p H', vs = [.ref p] → Ex H H' → Q (.ref p) H'
theorem sc45 : FnScope ["value", "rooms", "doors", "many", "gates"] ["value"] (defScope (topS 45)) := ⟨rfl, rfl, rfl, by decide +kernel, rfl, by decide +kernel, by decide +kernel⟩
/- slots: 0 value, 1 rooms, 2 doors, 3 many, 4 gates -/
theorem ok_need_party (T : Txt P K mg A) : DOk P w K mg base (L2.CX P w) 5 "need_party" ["value"] [] (spNeedParty A) := by
  have D_is_number := (ok_is_number (P := P) (w := w) (base := base) T).mono (by decide : 2 ≤ 4)
  have D_are_doors := (ok_are_doors (P := P) (w := w) (base := base) T)
  have D_are_gates := (ok_are_gates (P := P) (w := w) (base := base) T).mono (by decide : 3 ≤ 4)
  obtain ⟨t1, e_MOST_ROOMS⟩ := T.MOST_ROOMS
  obtain ⟨t2, e_MOST_GUESTS⟩ := T.MOST_GUESTS
  refine T.need_party.ok sc45 (fun vs H Q E h => ?_) (fun _ _ _ _ _ _ us hl => match us, hl with | [_], _ => rfl) (fun f cdv A' outer s H vs Q E hr h => ?_)
  · obtain ⟨⟨p, d, g, ds, n, D, m, G, rfl, _⟩ | ⟨p, xs, rfl, _⟩⟩ := h.ex <;> rfl
  · refine ⟨_, (pss_cons (ps_if (PW.pt (pw_or (pt_not (pt_val (pe_callB (id := "isinstance") call_isi (by rfl) (T.b "isinstance") (by decide +kernel) (pa_cons (pv 0) (pa_cons (pe_bltn (v := .ty "tuple") (by rfl) (T.b "tuple") (by decide +kernel) rfl) pa_nil))))) (pw_or1 (pt_cmpR op_ne (pe_callB (id := "len") (kLen (K := K) rfl) (by rfl) (T.b "len") (by decide +kernel) (pa_cons (pv 0) pa_nil)) pe_int (nomark _))))) (pss_one (ps_raiseOw rfl T.InvalidHouse hr (takes_of rfl rfl rfl rfl) (pa_cons (pe_un un_neg pe_int) pa_nil))) pss_nil)
      (pss_cons (ps_asg (pv 0) (kTgt (K := K) (n := 4) rfl rfl (pgs_cons (pg_name (i := 1) sc45.nd rfl (Or.inl rfl)) (pgs_cons (pg_name (i := 2) sc45.nd rfl (Or.inl rfl)) (pgs_cons (pg_name (i := 3) sc45.nd rfl (Or.inl rfl)) (pgs_cons (pg_name (i := 4) sc45.nd rfl (Or.inl rfl)) pgs_nil)))) rfl rfl))
      (pss_cons (ps_if (PW.pt (pw_or (pt_not (pt_val (pe_d D_is_number hr (by rfl) pass0 (pa_cons (pv 1) pa_nil)))) (pw_or1 (pt_not (pt_chain op_le op_le pe_int (pv 1) (pe_glob (v := .int 6) (by rfl) e_MOST_ROOMS ⟨_, rfl⟩)))))) (pss_one ps_never) pss_nil)
      (pss_cons (ps_if (pt_not (pt_val (pe_d D_are_doors hr (by rfl) pass0 (pa_cons (pv 2) (pa_cons (pv 1) pa_nil))))) (pss_one ps_never) pss_nil)
      (pss_cons (ps_if (PW.pt (pw_or (pt_not (pt_val (pe_d D_is_number hr (by rfl) pass0 (pa_cons (pv 3) pa_nil)))) (pw_or1 (pt_not (pt_chain op_le op_le pe_int (pv 3) (pe_glob (v := .int 5) (by rfl) e_MOST_GUESTS ⟨_, rfl⟩)))))) (pss_one (ps_raiseOw rfl T.InvalidHouse hr (takes_of rfl rfl rfl rfl) (pa_cons pe_int pa_nil))) pss_nil)
      (pss_cons (ps_if (pt_not (pt_val (pe_d D_are_gates hr (by rfl) pass0 (pa_cons (pv 4) (pa_cons (pv 1) pa_nil))))) (pss_one ps_never) pss_nil)
      (pss_one (ps_ret (pv 0))))))))), ?_⟩
    obtain ⟨⟨p, d, g, ds, n, D, m, G, rfl, hp, hok, hm0, hm5, hE, hQ⟩ | ⟨p, xs, rfl, hp, hl, hE⟩⟩ := h.ex
    · have h2 := hok.n2
      have h6 := hok.n6
      refine ⟨_, rfl, _, _, _, _, true, rfl, .ty _, tup_ty hp.at_, kit_ty (by decide +kernel), _, rfl, ?_⟩
      refine ⟨_, rfl, p, _, rfl, .inr (rd_t hp.at_), rfl, false, by simp, ?_⟩
      refine ⟨_, rfl, p, _, rfl, rd_t hp.at_, rfl, _, _, rfl, _, _, rfl, _, _, rfl, _, _, rfl, rfl, ?_⟩
      refine ⟨_, rfl, num_nat (by omega) ⟨_, rfl, _, rfl, 2, _, rfl, rfl, true, by simp; omega, _, _, rfl, rfl, true, by simp; omega, ?_⟩⟩
      refine ⟨_, rfl, _, rfl, ⟨d, ds, n, D, rfl, hp.ds, hok.pd, by omega, h6, Nat.le_trans hok.dl (by omega), fun H1 e1 => ⟨_, rfl, ?_⟩⟩⟩
      refine ⟨_, rfl, num_nat hm0 ⟨_, rfl, _, rfl, 1, _, rfl, rfl, ?_⟩⟩
      by_cases hm : m = 0
      · refine ⟨false, by simp; omega, ?_⟩
        exact ⟨false, rfl, _, rfl, fun d hd => hE hm _ _ e1 hd⟩
      · refine ⟨true, by simp; omega, _, _, rfl, rfl, true, by simp; omega, ?_⟩
        refine ⟨_, rfl, _, rfl, ⟨g, n, G, rfl, hp.gs.same e1, hok.gs, hok.asc, Nat.le_trans hok.gl (by omega), fun H2 e2 => ⟨_, rfl, ?_⟩⟩⟩
        exact ⟨_, rfl, hQ (by omega) p H2 rfl (e1.trans e2)⟩
    · refine ⟨_, rfl, _, _, _, _, true, rfl, .ty _, tup_ty hp, kit_ty (by decide +kernel), _, rfl, ?_⟩
      refine ⟨_, rfl, p, _, rfl, .inr (rd_t hp), rfl, true, by simp; omega, ?_⟩
      exact ⟨_, rfl, _, rfl, fun d hd => hE _ _ (Ex.refl _) hd⟩
structure spPartyHouse (A : Ads) (vs : List V) (H : Hp) (Q : VK) (E : XK) : Prop where
  ex : ∃ (p d g : Addr) (ds : List Addr) (n : Nat) (D : List (List Int)) (G : List Int), vs = [.ref p] ∧ PtyAt H p d g ds n D 1 G ∧ PtyOk n D G ∧ G ≠ [] ∧
    ∀ H' x ns Ah Bh, Ex H H' → HsAt A H' x ns (rowsOf n) Ah Bh → ns.length = n → Ways n (arr n (twoW D) G) Ah → Ways n ((arr n (twoW D) G).map fun a => (a.2, a.1)) Bh → Q (.ref x) H'
theorem sc47 : FnScope ["party", "rooms", "doors", "many", "gates"] ["party"] (defScope (topS 47)) := ⟨rfl, rfl, rfl, by decide +kernel, rfl, by decide +kernel, by decide +kernel⟩
/- slots: 0 party, 1 rooms, 2 doors, 3 many, 4 gates -/
theorem ok_party_house (T : Txt P K mg A) : DOk P w K mg base CX0 8 "party_house" ["party"] [] (spPartyHouse A) := by
  have D_need_party := (ok_need_party (P := P) (w := w) (base := base) T).mono (by decide : 5 ≤ 7)
  have D_two_ways := (ok_two_ways (P := P) (w := w) (base := base) T).mono (by decide : 1 ≤ 7)
  have D_guest_house := (ok_guest_house (P := P) (w := w) (base := base) T)
  refine T.party_house.ok0 sc47 (fun vs H Q E h => ?_) (fun _ _ _ _ _ _ us hl => match us, hl with | [_], _ => rfl) (fun f cdv A' outer s H vs Q E hr h => ?_)
  · obtain ⟨p, d, g, ds, n, D, G, rfl, _⟩ := h
    rfl
  · obtain ⟨p, d, g, ds, n, D, G, rfl, hp, hok, hG, q⟩ := h
    have h2 := hok.n2
    have h6 := hok.n6
    have hdl := hok.dl
    refine ⟨_, (pss_cons (ps_asg (pe_d D_need_party hr (by rfl) passL (pa_cons (pv 0) pa_nil)) (kTgt (K := K) (n := 4) rfl rfl (pgs_cons (pg_name (i := 1) sc47.nd rfl (Or.inl rfl)) (pgs_cons (pg_name (i := 2) sc47.nd rfl (Or.inl rfl)) (pgs_cons (pg_name (i := 3) sc47.nd rfl (Or.inl rfl)) (pgs_cons (pg_name (i := 4) sc47.nd rfl (Or.inl rfl)) pgs_nil)))) rfl rfl))
      (pss_one (ps_ret (pe_d D_guest_house hr (by rfl) pass0 (pa_cons (pv 1) (pa_cons (pe_d D_two_ways hr (by rfl) pass0 (pa_cons (pv 2) pa_nil)) (pa_cons (pv 3) (pa_cons (pv 4) pa_nil)))))))), ?_⟩
    refine ⟨_, rfl, ⟨⟨.inl ⟨p, d, g, ds, n, D, 1, G, rfl, hp, hok, by omega, by omega, fun z => by omega, fun _ p' H1 ep e1 => ?_⟩⟩⟩⟩
    have epp : p = p' := by simpa using ep
    subst epp
    have hp1 := hp.ex e1
    refine ⟨p, _, rfl, rd_t hp1.at_, rfl, _, _, rfl, _, _, rfl, _, _, rfl, _, _, rfl, rfl, ?_⟩
    refine ⟨_, rfl, _, rfl, ⟨d, ds, n, D, rfl, hp1.ds, hok.pd, by omega, fun H2 b rs e2 hb => ?_⟩⟩
    have hp2 := hp1.ex e2
    refine ⟨_, rfl, _, rfl, ⟨n, b, g, rs, twoW D, G, rfl, h2, h6, hb, twoW_nodup hok.pd, by rw [twoW_len]; omega, twoW_ok hok.pd, hp2.gs, hG, hok.asc, hok.gl, hok.gs, arr_nodup (twoW_nodup hok.pd) (twoW_ok hok.pd) hok.asc hok.gs, fun H3 x ns Ah Bh e3 hs hn hA hB => q H3 x ns Ah Bh ((e1.trans e2).trans e3) hs hn hA hB⟩⟩
structure spNeedSingle (A : Ads) (vs : List V) (H : Hp) (Q : VK) (E : XK) : Prop where
  ex : PtyIn A vs H E fun _ _ m G => (G = [] → ∀ H' d, Ex H H' → H' d = none → E (.ref A.eRefused) (some d) (upd H' d (.xd [("at", .str "gates")]))) ∧ (G ≠ [] → m ≠ 1 → ∀ H' d, Ex H H' → H' d = none → E (.ref A.eRefused) (some d) (upd H' d (.xd [("at", .str "many")]))) ∧ (G ≠ [] → m = 1 → ∀ H', Ex H H' → Q .non H')
theorem sc48 : FnScope ["party", "rooms", "doors", "many", "gates"] ["party"] (defScope (topS 48)) := ⟨rfl, rfl, rfl, by decide +kernel, rfl, by decide +kernel, by decide +kernel⟩
/- slots: 0 party, 1 rooms, 2 doors, 3 many, 4 gates -/
theorem ok_need_single (T : Txt P K mg A) : DOk P w K mg base (L2.CX P w) 6 "need_single" ["party"] [] (spNeedSingle A) := by
  have D_need_party := (ok_need_party (P := P) (w := w) (base := base) T)
  refine T.need_single.ok sc48 (fun vs H Q E h => ?_) (fun _ _ _ _ _ _ us hl => match us, hl with | [_], _ => rfl) (fun f cdv A' outer s H vs Q E hr h => ?_)
  · obtain ⟨⟨p, d, g, ds, n, D, m, G, rfl, _⟩ | ⟨p, xs, rfl, _⟩⟩ := h.ex <;> rfl
  · refine ⟨_, (pss_cons (ps_asg (pe_d D_need_party hr (by rfl) (passes_call (takes_of rfl rfl rfl rfl) (fun _ _ _ _ h => h)) (pa_cons (pv 0) pa_nil)) (kTgt (K := K) (n := 4) rfl rfl (pgs_cons (pg_name (i := 1) sc48.nd rfl (Or.inl rfl)) (pgs_cons (pg_name (i := 2) sc48.nd rfl (Or.inl rfl)) (pgs_cons (pg_name (i := 3) sc48.nd rfl (Or.inl rfl)) (pgs_cons (pg_name (i := 4) sc48.nd rfl (Or.inl rfl)) pgs_nil)))) rfl rfl))
      (pss_cons (ps_if (pt_cmpR (kEqD (K := K) rfl hr.units) (pv 4) (pe_tup pa_nil) (nomark _)) (pss_one (ps_raiseOw rfl T.Refused hr (takes_of rfl rfl rfl rfl) (pa_cons pe_str pa_nil))) pss_nil)
      (pss_one (ps_if (pt_cmpR op_ne (pv 3) pe_int (nomark _)) (pss_one (ps_raiseOw rfl T.Refused hr (takes_of rfl rfl rfl rfl) (pa_cons pe_str pa_nil))) pss_nil)))), ?_⟩
    obtain ⟨⟨p, d, g, ds, n, D, m, G, rfl, hp, hok, hm0, hm5, hE, hQ⟩ | ⟨p, xs, rfl, hp, hl, hE⟩⟩ := h.ex
    · refine ⟨_, rfl, ⟨⟨.inl ⟨p, d, g, ds, n, D, m, G, rfl, hp, hok, hm0, hm5, hE, fun hm1 p' H1 ep e1 => ?_⟩⟩⟩⟩
      have epp : p = p' := by simpa using ep
      subst epp
      obtain ⟨q1, q2, q3⟩ := hQ hm1
      have hp1 := hp.ex e1
      refine ⟨p, _, rfl, rd_t hp1.at_, rfl, _, _, rfl, _, _, rfl, _, _, rfl, _, _, rfl, rfl, ?_⟩
      refine ⟨_, rfl, Nat.zero_le _, fun u hu => ?_⟩
      have tu : Tu (upd H1 u (.tup [])) u [] := .inl upd_same
      have e2 := e1.trans (Ex.new (o := .tup []) hu)
      refine ⟨dTu G, dTu [], (hp.gs.same e2).dp, tu.dp, shaped_tu _, shaped_tu _, ?_⟩
      by_cases hG : G = []
      · refine ⟨true, by rw [eqv_tu, decide_eq_true hG], ?_⟩
        exact ⟨_, rfl, fun d hd => q1 hG _ _ e2 hd⟩
      · refine ⟨false, by rw [eqv_tu, decide_eq_false hG], ?_⟩
        refine ⟨_, rfl, rfl, ?_⟩
        by_cases hm : m = 1
        · refine ⟨false, by simp [hm], ?_⟩
          exact q3 hG hm _ e2
        · refine ⟨true, by simp [hm], ?_⟩
          exact ⟨_, rfl, fun d hd => q2 hG hm _ _ e2 hd⟩
    · exact ⟨_, rfl, ⟨⟨.inr ⟨p, xs, rfl, hp, hl, hE⟩⟩⟩⟩
end
end Kx
namespace Kx
open PySem PySem.Spec PyProof.Rows L2
open Evl (Ex ex_rd ex_l ex_t st_of sq_of sz_lt sz_of)
/-- the answer of the guest in room r; of nobody within -/
def ansR (n : Nat) (ms : List Int) (r : Int) : Int := ms.getD (n - r.toNat) 0
def isFault (n : Nat) (ms : List Int) (e : List Int) : Bool := decide (ansR n ms (e.getD 0 0) ≠ ms.getD 0 0) && decide (ansR n ms (e.getD 1 0) ≠ ms.getD 0 0)
def fault (n : Nat) (ms : List Int) (D : List (List Int)) : Option (List Int) := D.find? (isFault n ms)
theorem stS_inj : ∀ n ∈ [2, 3, 4, 5, 6], ∀ i ∈ List.range (n + 1), ∀ j ∈ List.range (n + 1), stS n i = stS n j → i = j := by decide +kernel
theorem stP_S : ∀ n ∈ [2, 3, 4, 5, 6], ∀ x ∈ List.range n, stP n x = stS n (n - x) := by decide +kernel
theorem ne_t {x y : Int} (h : ¬ x = y) : V.bl (!decide (V.int x = V.int y)) = V.bl true := by simp [h]
theorem ne_f {x y : Int} (h : x = y) : V.bl (!decide (V.int x = V.int y)) = V.bl false := by simp [h]
theorem find_take {α : Type} {p : α → Bool} : ∀ {l : List α}, (∀ x ∈ l, p x = false) → l.find? p = none
  | [], _ => rfl
  | a :: l, h => by rw [List.find?_cons, h a List.mem_cons_self]; exact find_take fun x hx => h x (List.mem_cons_of_mem _ hx)
theorem find_first {α : Type} {p : α → Bool} {l : List α} {i : Nat} {x : α} (hx : l[i]? = some x) (h : ∀ y ∈ l.take i, p y = false) (hp : p x = true) : l.find? p = some x := by
  obtain ⟨hi, e⟩ := List.getElem?_eq_some_iff.mp hx
  have h1 : l = l.take i ++ x :: l.drop (i + 1) := by
    rw [← e, List.getElem_cons_drop, List.take_append_drop]
  rw [h1, List.find?_append, find_take h, List.find?_cons, hp]
  rfl
section
variable {P : Program} {w : World} {K : PySem.W.Frag} {mg : PySem.Str → Option Value} {base : Heap} {A : Ads}
/-- what is asked of the question -/
structure QuIn (A : Ads) (H : Hp) (qv : V) (E : XK) (n : Nat) (k : List Int → Prop) : Prop where
  ex : ∃ (b : Addr) (ys : List V) (ms : List Int) (bad : Bool), qv = .ref b ∧ (Rd H b (.lst ys) ∨ Rd H b (.tup ys)) ∧ Qs ys ms bad ∧
    (ys.length ≠ n + 1 → ∀ H' d, Ex H H' → H' d = none → E (.ref A.eQuestion) (some d) (upd H' d (.xd [("at", .int (-1))]))) ∧
    (ys.length = n + 1 → bad = true → ∀ H' d, Ex H H' → H' d = none → E (.ref A.eQuestion) (some d) (upd H' d (.xd [("at", .int ms.length)]))) ∧
    (ys.length = n + 1 → bad = false → k ms)
structure spOneFault (A : Ads) (vs : List V) (H : Hp) (Q : VK) (E : XK) : Prop where
  ex : ∃ (pv qv : V), vs = [pv, qv] ∧ PtyIn A [pv] H E fun n D m G => (G = [] → ∀ H' d, Ex H H' → H' d = none → E (.ref A.eRefused) (some d) (upd H' d (.xd [("at", .str "gates")]))) ∧ (G ≠ [] → m ≠ 1 → ∀ H' d, Ex H H' → H' d = none → E (.ref A.eRefused) (some d) (upd H' d (.xd [("at", .str "many")]))) ∧
    (G ≠ [] → m = 1 → QuIn A H qv E n fun ms => (fault n ms D = none → ∀ H', Ex H H' → Q .non H') ∧ ∀ e, fault n ms D = some e → ∀ H' l, Ex H H' → Tu H' l e → Q (.ref l) H')
theorem sc49 : FnScope ["party", "question", "rooms", "doors", "many", "gates", "house", "told", "room", "placing", "one", "other"] ["party", "question"] (defScope (topS 49)) := ⟨rfl, rfl, rfl, by decide +kernel, rfl, by decide +kernel, by decide +kernel⟩
/- slots: 0 party, 1 question, 2 rooms, 3 doors, 4 many, 5 gates, 6 house, 7 told, 8 room, 9 placing, 10 one, 11 other -/
theorem ok_one_fault (T : Txt P K mg A) : DOk P w K mg base (L2.CX P w) 9 "one_fault" ["party", "question"] [] (spOneFault A) := by
  have D_need_single := (ok_need_single (P := P) (w := w) (base := base) T).mono (by decide : 6 ≤ 8)
  have D_party_house := (ok_party_house (P := P) (w := w) (base := base) T)
  have D_need_question := (ok_need_question (P := P) (w := w) (base := base) T).mono (by decide : 3 ≤ 8)
  refine T.one_fault.ok sc49 (fun vs H Q E h => ?_) (fun _ _ _ _ _ _ us hl => match us, hl with | [_, _], _ => rfl) (fun f cdv A' outer s H vs Q E hr h => ?_)
  · obtain ⟨pv, qv, rfl, _⟩ := h.ex
    rfl
  · have hu65 : (A'.deeper (envOfC "one_fault" (defScope (topS 49)) s.heap.objs.size f cdv)).units + 65 < cLine := by have := hr.un; omega
    refine ⟨_, (pss_cons (ps_expr (pe_d D_need_single hr (by rfl) (passes_call (takes_of rfl rfl rfl rfl) (fun _ _ _ _ h => h)) (pa_cons (pv 0) pa_nil)))
      (pss_cons (ps_asg (pv 0) (kTgt (K := K) (n := 4) rfl rfl (pgs_cons (pg_name (i := 2) sc49.nd rfl (Or.inl rfl)) (pgs_cons (pg_name (i := 3) sc49.nd rfl (Or.inl rfl)) (pgs_cons (pg_name (i := 4) sc49.nd rfl (Or.inl rfl)) (pgs_cons (pg_name (i := 5) sc49.nd rfl (Or.inl rfl)) pgs_nil)))) rfl rfl))
      (pss_cons (ps_set (i := 6) sc49.nd rfl (Or.inl rfl) (pe_d D_party_house hr (by rfl) pass0 (pa_cons (pv 0) pa_nil)))
      (pss_cons (ps_set (i := 1) sc49.nd rfl (Or.inl rfl) (pe_d D_need_question hr (by rfl) (passes_call (takes_of rfl rfl rfl rfl) (fun _ _ _ _ h => h)) (pa_cons (pv 6) (pa_cons (pv 1) pa_nil))))
      (pss_cons (ps_set (i := 7) sc49.nd rfl (Or.inl rfl) (pe_lst pa_nil))
      (pss_cons (ps_for (passes_of rfl) rfl (pi_range1 (by rfl) (T.b "range") (pa_cons (pv 2) pa_nil)) (pg_name (i := 8) sc49.nd rfl (Or.inr rfl)) (pss_cons (ps_set (i := 9) sc49.nd rfl (Or.inl rfl) (pe_callTy (T := "tuple") (kTup (K := K) rfl) (by rfl) (T.b "tuple") (by decide +kernel) (pa_cons (pe_lc rfl sc49.nd (pi_range1 (by rfl) (T.b "range") (pa_cons (pv 2) pa_nil)) (blkOk_by (own := [("other", 11)]) (by rfl)) (fun _ _ _ _ _ => (pg_name (i := 11) sc49.nd rfl (Or.inl rfl) (Or.inr rfl))) (fun _ _ _ _ _ => pts_nil) (fun _ _ _ _ _ => (pe_callTy (T := "int") call_int1 (by rfl) (T.b "int") (by decide +kernel) (pa_cons (pe_cmpR op_eq (pv 11) (pv 8) (nomark _)) pa_nil)))) pa_nil)))
      (pss_one (ps_expr (kBM (K := K) rfl PySem.F.plainAttrs_list PySem.F.slot_list_append PySem.F.type_list_append mt_append (pv 7) (pa_cons (pe_ix (kIxT (K := K) rfl) (pv 1) (kTix (K := K) rfl hu65 (kFld (K := K) rfl (pv 6) (by rfl)) (pa_cons (pv 9) pa_nil)) (fun _ _ => rfl)) pa_nil))))))
      (pss_cons (ps_for (passes_of rfl) rfl (kPiT (K := K) rfl (pv 3)) (kTgt (K := K) (n := 2) rfl rfl (pgs_cons (pg_name (i := 10) sc49.nd rfl (Or.inl rfl)) (pgs_cons (pg_name (i := 11) sc49.nd rfl (Or.inl rfl)) pgs_nil)) rfl rfl) (pss_one (ps_if (PW.pt (pw_and (pt_cmpR op_ne (pe_ix (kIxL (K := K) rfl) (pv 7) (pv 10) (fun _ _ => rfl)) (pe_ix (kIxT (K := K) rfl) (pv 1) pe_int (fun _ _ => rfl)) (nomark _)) (pw_and1 (pt_cmpR op_ne (pe_ix (kIxL (K := K) rfl) (pv 7) (pv 11) (fun _ _ => rfl)) (pe_ix (kIxT (K := K) rfl) (pv 1) pe_int (fun _ _ => rfl)) (nomark _))))) (pss_one (ps_ret (pe_tup (pa_cons (pv 10) (pa_cons (pv 11) pa_nil))))) pss_nil)))
      (pss_one (ps_ret pe_non))))))))), ?_⟩
    obtain ⟨pv, qv, rfl, hp0⟩ := h.ex
    rcases hp0.ex with ⟨p, d, g, ds, n, D, m, G, hpe, hp, hok, hm0, hm5, hE, hQ⟩ | ⟨p, xs, hpe, hp, hl, hE⟩
    · have hpe : pv = .ref p := by simpa using hpe
      subst hpe
      refine ⟨_, rfl, ⟨⟨.inl ⟨p, d, g, ds, n, D, m, G, rfl, hp, hok, hm0, hm5, hE, fun hm1 => ⟨(hQ hm1).1, (hQ hm1).2.1, fun hG hm H1 e1 => ?_⟩⟩⟩⟩⟩
      have hq := (hQ hm1).2.2 hG hm
      subst hm
      have h2 := hok.n2
      have h6 := hok.n6
      have hnn := mem_n h2 h6
      have hp1 := hp.ex e1
      refine ⟨_, rfl, p, _, rfl, rd_t hp1.at_, rfl, _, _, rfl, _, _, rfl, _, _, rfl, _, _, rfl, rfl, ?_⟩
      refine ⟨_, rfl, ⟨p, d, g, ds, n, D, G, rfl, hp1, hok, hG, fun H2 x ns Ah Bh e2 hx hns hA hB => ?_⟩⟩
      have e12 := e1.trans e2
      obtain ⟨b, ys, ms, bad, rfl, hb, hqs, q1, q2, q3⟩ := hq.ex
      have rlen := (rows_asc n hnn).2.2.1
      refine ⟨_, rfl, _, rfl, ⟨x, b, ns, rowsOf n, Ah, Bh, ys, ms, bad, rfl, hx, by omega, ?_, hqs, ?_, ?_, ?_⟩⟩
      · exact hb.imp (ex_rd e12) (ex_rd e12)
      · intro hl H' d' e hd
        exact q1 (by omega) H' d' (e12.trans e) hd
      · intro hl hbad H' d' e hd
        exact q2 (by omega) hbad H' d' (e12.trans e) hd
      intro hl hbad H3 l e3 hl3
      obtain ⟨k1, k2⟩ := q3 (by omega) hbad
      have hys : ys = ms.map V.int := by rw [hqs.eq, hbad]; simp
      have hml : ms.length = n + 1 := by rw [hys, List.length_map] at hl; omega
      rw [hys] at hl3
      have e13 := e12.trans e3
      refine ⟨Nat.zero_le _, fun d7 hd7 => ?_⟩
      have e37 : Ex H3 (upd H3 d7 (.lst [])) := Ex.new hd7
      refine ⟨_, rfl, _, rfl, by omega, by omega, ?_⟩
      have hx3 := hx.same e3
      refine for_it walk_range (fun i σ' H' => σ'[1]? = some (some (.ref l)) ∧ σ'[2]? = some (some (.int n)) ∧ σ'[3]? = some (some (.ref d)) ∧ σ'[6]? = some (some (.ref x)) ∧ σ'[7]? = some (some (.ref d7)) ∧ σ'.length = 12 ∧ Ex H3 H' ∧ H' d7 = some (.lst (((List.range i).map fun (r : Nat) => ansR n ms r).map V.int))) ⟨rfl, rfl, rfl, rfl, rfl, rfl, e37, upd_same⟩ (fun _ _ _ _ _ => trivial) (fun i y σ' H' H'' hi p yy => ?_) (fun σ' H4 p => ?_)
      · obtain ⟨p1, p2, p3, p6, p7, pl, pe, pd⟩ := p
        obtain ⟨rfl, rfl⟩ := yy
        have hin : i < n := by simpa using hi
        refine st_gn ?_
        dsimp only
        generalize hσ : σ'.set 8 (some (V.int (0 + (i : Int)))) = σ2
        have g1 : σ2[1]? = some (some (.ref l)) := by subst hσ; simp [p1]
        have g2 : σ2[2]? = some (some (.int n)) := by subst hσ; simp [p2]
        have g3 : σ2[3]? = some (some (.ref d)) := by subst hσ; simp [p3]
        have g6 : σ2[6]? = some (some (.ref x)) := by subst hσ; simp [p6]
        have g7 : σ2[7]? = some (some (.ref d7)) := by subst hσ; simp [p7]
        have g8 : σ2[8]? = some (some (.int (i : Int))) := by subst hσ; simp [pl]
        have gl : σ2.length = 12 := by subst hσ; simp [pl]
        refine st_seq (st_asg (st_cb ?_))
        refine ⟨_, g2, _, rfl, by omega, by omega, ?_⟩
        refine lcV (Qd := fun D H' => _) walk_range (fun _ => true) (fun k => .int (if (k : Int) = (i : Int) then 1 else 0)) (by omega) (fun _ _ => trivial) (fun k x H3 H4' Y0 Y1 hk e y k0 k1 => ?_) (fun D8 H8 hD8 e8 hl8 => ?_)
        · obtain ⟨rfl, rfl⟩ := y
          have v11 : ((wipe σ2 (List.map (fun x => x.snd) [(Str.ofString "other", 11)])).set 11 (some (V.int (0 + (k : Int)))))[11]? = some (some (.int (k : Int))) := by simp [wipe, gl]
          have v8 : ((wipe σ2 (List.map (fun x => x.snd) [(Str.ofString "other", 11)])).set 11 (some (V.int (0 + (k : Int)))))[8]? = some (some (.int (i : Int))) := by simp [wipe, g8]
          refine st_gn ⟨wipe_set (by decide), _, v11, _, v8, rfl, .inr ⟨_, rfl, ?_⟩⟩
          have h1 := k1 _ rfl (Ex.refl _)
          rw [← int_bl] at h1
          exact h1
        rw [range_all, Int.toNat_natCast] at hl8
        refine ⟨D8, _, rfl, .inl ⟨sq_of hl8, fun q hq' => ?_⟩⟩
        have e9 := e8.trans (Ex.new (o := .tup ((List.range n).map fun (k : Nat) => V.int (if (k : Int) = (i : Int) then 1 else 0))) hq')
        have tq : Tu (upd H8 q (.tup ((List.range n).map fun (k : Nat) => V.int (if (k : Int) = (i : Int) then 1 else 0)))) q (stS n (n - i)) := by
          rw [← stP_S n hnn i (List.mem_range.mpr hin)]
          refine .inl ?_
          rw [upd_same]
          unfold stP
          rw [List.map_map]
          rfl
        generalize (upd H8 q (.tup ((List.range n).map fun (k : Nat) => V.int (if (k : Int) = (i : Int) then 1 else 0)))) = H9 at e9 tq ⊢
        dsimp only
        generalize hσ3 : σ2.set 9 (some (V.ref q)) = σ3
        have f1 : σ3[1]? = some (some (.ref l)) := by subst hσ3; simp [g1]
        have f2 : σ3[2]? = some (some (.int n)) := by subst hσ3; simp [g2]
        have f3 : σ3[3]? = some (some (.ref d)) := by subst hσ3; simp [g3]
        have f6 : σ3[6]? = some (some (.ref x)) := by subst hσ3; simp [g6]
        have f7 : σ3[7]? = some (some (.ref d7)) := by subst hσ3; simp [g7]
        have f9 : σ3[9]? = some (some (.ref q)) := by subst hσ3; simp [gl]
        have fl : σ3.length = 12 := by subst hσ3; simp [gl]
        have pe9 := pe.trans e9
        refine st_bm ⟨_, f7, tyL (sq_of (e9 _ _ pd)), st_c1 ⟨_, f1, ?_⟩⟩
        refine fld_standings T (hx3.same pe9) (fun a2 as t2 t3 => ?_) (va f6)
        have has : as.length = n + 1 := by rw [Paired.length t3, rlen]
        refine ⟨a2, _, rfl, t2, _, f9, .ref q, dTu (stS n (n - i)), dTus (rowsOf n), n - i, dTu (stS n (n - i)), rfl, rd_t t2.rd, (Fts.tus t3).dp, tq.dp, shaped_tus _, shaped_tu _, ?_, by rw [eqv_tu]; simp, ?_, ?_⟩
        · rw [rows_st n hnn]
          show (((List.range (n + 1)).map (stS n)).map dTu)[n - i]? = _
          rw [List.map_map, List.getElem?_map, List.getElem?_range (by omega)]
          rfl
        · intro m z hm hz
          rw [rows_st n hnn] at hz
          have hz : (((List.range (n + 1)).map (stS n)).map dTu)[m]? = some z := hz
          rw [List.map_map] at hz
          obtain ⟨_, rfl⟩ := range_at hz
          show PyData.eqv (dTu (stS n m)) _ = false
          rw [eqv_tu, decide_eq_false]
          intro z
          have := stS_inj n hnn m (List.mem_range.mpr (by omega)) (n - i) (List.mem_range.mpr (by omega)) z
          omega
        · have hli := ex_rd pe9 hl3
          have hat : ms[n - i]? = some (ms.getD (n - i) 0) := by
            rw [List.getD_eq_getElem?_getD, List.getElem?_eq_getElem (by omega)]
            rfl
          refine ⟨l, _, _, _, rfl, rfl, rd_t hli, atI_map hat, ?_⟩
          refine ⟨d7, _, _, rfl, rfl, e9 _ _ pd, by simp; exact sz_lt (by omega), f1, f2, f3, f6, f7, fl, pe9.mut hd7, ?_⟩
          rw [upd_same, List.range_succ, List.map_append, List.map_append]
          simp [ansR]
      · obtain ⟨p1, p2, p3, p6, p7, pl, pe, pd⟩ := p
        rw [Int.toNat_natCast] at pd
        have e14 := e13.trans pe
        have hp4 := hp.ex e14
        have hdl := Paired.length hp4.ds.2
        have hdl50 := hok.dl
        refine ⟨_, p3, d, rfl, ⟨_, rd_t hp4.ds.1⟩, ?_⟩
        refine for_it walk_tup (fun i σ' H' => σ'[1]? = some (some (.ref l)) ∧ σ'[7]? = some (some (.ref d7)) ∧ σ'.length = 12 ∧ Ex H4 H' ∧ ∀ y ∈ D.take i, isFault n ms y = false) ⟨p1, p7, pl, Ex.refl _, fun y hy => by simp at hy⟩ (fun i σ' H' _ p => rd_t (ex_rd p.2.2.2.1 hp4.ds.1)) (fun i y σ' H' H'' hi p yy => ?_) (fun σ' H5 p => ?_)
        · clear p1 p2 p3 p6 p7 pl
          obtain ⟨p1, p7, pl, pe', pf⟩ := p
          obtain ⟨rfl, yy⟩ := yy
          obtain ⟨c, ec, rfl⟩ := get_map yy
          obtain ⟨e, ee, tc⟩ := paired_at hp4.ds.2 ec
          obtain ⟨a, b', rfl, ha0, hab, hbn⟩ := hok.pd.pair e (List.mem_of_getElem? ee)
          obtain ⟨a, rfl⟩ : ∃ k : Nat, a = k := ⟨a.toNat, by omega⟩
          obtain ⟨b', rfl⟩ : ∃ k : Nat, b' = k := ⟨b'.toNat, by omega⟩
          refine ⟨c, _, rfl, rd_t (tc.same pe'), rfl, _, _, rfl, _, _, rfl, rfl, ?_⟩
          generalize hσ : (σ'.set 10 (some (V.int (a : Nat)))).set 11 (some (V.int (b' : Nat))) = σ2
          have g1 : σ2[1]? = some (some (.ref l)) := by subst hσ; simp [p1]
          have g7 : σ2[7]? = some (some (.ref d7)) := by subst hσ; simp [p7]
          have g10 : σ2[10]? = some (some (.int (a : Nat))) := by subst hσ; simp [pl]
          have g11 : σ2[11]? = some (some (.int (b' : Nat))) := by subst hσ; simp [pl]
          have gl : σ2.length = 12 := by subst hσ; simp [pl]
          have pd' := pe' _ _ pd
          have hli := ex_rd (pe.trans pe') hl3
          have tl : ∀ r : Nat, r < n → atI (((List.range n).map fun (r : Nat) => ansR n ms r).map V.int) (r : Int) = some (.int (ansR n ms r)) := fun r hr => atI_map (by rw [List.getElem?_map, List.getElem?_range hr]; rfl)
          have h0 : atI (ms.map V.int) 0 = some (.int (ms.getD 0 0)) := by
            refine atI_map (j := 0) ?_
            rw [List.getD_eq_getElem?_getD, List.getElem?_eq_getElem (by omega)]
            rfl
          have hnext : ∀ {y}, y ∈ D.take (i + 1) → isFault n ms [(a : Int), (b' : Int)] = false → isFault n ms y = false := fun {y} hy hf => by
            rw [take_next ee] at hy
            rcases List.mem_append.mp hy with h | h
            · exact pf y h
            · have : y = [(a : Int), (b' : Int)] := by simpa using h
              rw [this]
              exact hf
          refine ⟨_, g7, _, g10, d7, _, _, _, rfl, rfl, sq_of pd', tl a (by omega), _, g1, l, _, _, _, rfl, rfl, rd_t hli, h0, rfl, ?_⟩
          by_cases ha : ansR n ms a = ms.getD 0 0
          · refine ⟨false, ne_f ha, g1, g7, gl, pe', fun y hy => hnext hy ?_⟩
            show (decide (ansR n ms (a : Int) ≠ ms.getD 0 0) && _) = false
            rw [decide_eq_false (fun z => z ha)]
            rfl
          · refine ⟨true, ne_t ha, ?_⟩
            refine ⟨_, g7, _, g11, d7, _, _, _, rfl, rfl, sq_of pd', tl b' (by omega), _, g1, l, _, _, _, rfl, rfl, rd_t hli, h0, rfl, ?_⟩
            by_cases hb : ansR n ms b' = ms.getD 0 0
            · refine ⟨false, ne_f hb, g1, g7, gl, pe', fun y hy => hnext hy ?_⟩
              show (decide (ansR n ms (a : Int) ≠ ms.getD 0 0) && decide (ansR n ms (b' : Int) ≠ ms.getD 0 0)) = false
              rw [decide_eq_false (show ¬ ansR n ms (b' : Int) ≠ ms.getD 0 0 from fun z => z hb), Bool.and_false]
            · refine ⟨true, ne_t hb, ?_⟩
              refine ⟨_, g10, _, g11, (by decide : 2 ≤ sizeLine), fun q hq' => ?_⟩
              refine k2 [(a : Int), (b' : Int)] (find_first ee pf ?_) _ q ((e14.trans pe').trans (Ex.new hq')) (.inl upd_same)
              show (decide (ansR n ms (a : Int) ≠ ms.getD 0 0) && decide (ansR n ms (b' : Int) ≠ ms.getD 0 0)) = true
              rw [decide_eq_true ha, decide_eq_true hb]
              rfl
        · obtain ⟨p1, p7, pl, pe', pf⟩ := p
          rw [List.length_map, hdl, List.take_length] at pf
          exact k1 (find_take pf) _ (e14.trans pe')
    · have hpe : pv = .ref p := by simpa using hpe
      subst hpe
      exact ⟨_, rfl, ⟨⟨.inr ⟨p, xs, rfl, hp, hl, hE⟩⟩⟩⟩
end
end Kx
namespace Kx
open PySem PySem.Spec PyProof.Rows L2
/-- no door from a room of the lot to room i -/
def freeOf (D : List (List Int)) (i : Nat) (lot : List Int) : Bool := !(lot.any fun o => decide ([o, (i : Int)] ∈ D))
def lotsOf (D : List (List Int)) : Nat → List (List Int)
  | 0 => [[]]
  | i + 1 => lotsOf D i ++ ((lotsOf D i).filter (freeOf D i)).map fun l => l ++ [(i : Int)]
def wayOf (a : Int) (lot : List Int) : Int := (a - 1) ^ lot.length
def countOf (D : List (List Int)) (n : Nat) (a : Int) : Int := a * ((lotsOf D n).map (wayOf a)).sum
theorem lots_len (D : List (List Int)) : ∀ i, (lotsOf D i).length ≤ 2 ^ i
  | 0 => Nat.le_refl _
  | i + 1 => by
    have h1 := lots_len D i
    have h2 := List.length_filter_le (freeOf D i) (lotsOf D i)
    show (lotsOf D i ++ _).length ≤ _
    rw [List.length_append, List.length_map, Nat.pow_succ]
    omega
theorem lots_el (D : List (List Int)) : ∀ i, ∀ l ∈ lotsOf D i, l.length ≤ i ∧ ∀ o ∈ l, 0 ≤ o ∧ o < (i : Int)
  | 0, l, h => by
    have : l = [] := by simpa [lotsOf] using h
    subst this
    simp
  | i + 1, l, h => by
    rcases List.mem_append.mp h with h | h
    · obtain ⟨h1, h2⟩ := lots_el D i l h
      exact ⟨by omega, fun o ho => by have := h2 o ho; omega⟩
    · obtain ⟨l', h', rfl⟩ := List.mem_map.mp h
      obtain ⟨h1, h2⟩ := lots_el D i l' (List.mem_filter.mp h').1
      refine ⟨by rw [List.length_append]; simp; omega, fun o ho => ?_⟩
      rcases List.mem_append.mp ho with ho | ho
      · have := h2 o ho; omega
      · have : o = (i : Int) := by simpa using ho
        omega
/-- the places that a test lets through, and what stands there -/
theorem filter_places {α β : Type} (l : List α) (d : α) (p : α → Bool) (g : α → β) : ((List.range l.length).filter fun i => p (l.getD i d)).map (fun i => g (l.getD i d)) = (l.filter p).map g := by
  conv => rhs; rw [← range_getD l d]
  rw [List.filter_map, List.map_map]
  rfl
end Kx
namespace Kx
open PySem PySem.Spec PyProof.Rows L2
open Evl (Ex ex_rd ex_l ex_t st_of sq_of sz_lt sz_of)
theorem paired_app {α β : Type} {F : α → β → Prop} : ∀ {xs : List α} {ys : List β}, Paired F xs ys → ∀ {us : List α} {vs : List β}, Paired F us vs → Paired F (xs ++ us) (ys ++ vs)
  | _, _, .nil, _, _, h => h
  | _, _, .cons a t, _, _, h => .cons a (paired_app t h)
section
variable {P : Program} {w : World} {K : PySem.W.Frag} {mg : PySem.Str → Option Value} {base : Heap} {A : Ads}
structure spCountOne (A : Ads) (vs : List V) (H : Hp) (Q : VK) (E : XK) : Prop where
  ex : ∃ (pv qv : V), vs = [pv, qv] ∧ PtyIn A [pv] H E fun n D m G => (G = [] → ∀ H' d, Ex H H' → H' d = none → E (.ref A.eRefused) (some d) (upd H' d (.xd [("at", .str "gates")]))) ∧ (G ≠ [] → m ≠ 1 → ∀ H' d, Ex H H' → H' d = none → E (.ref A.eRefused) (some d) (upd H' d (.xd [("at", .str "many")]))) ∧
    (G ≠ [] → m = 1 → (∃ t, Kd H qv t) ∧ ((isN qv = false ∨ qv = .int 0) → ∀ H' d, Ex H H' → H' d = none → E (.ref A.eSize) (some d) (upd H' d (.xd [("word", .str "answers")]))) ∧
      ∀ a : Int, qv = .int a → 1 ≤ a → a ≤ 10 ∧ ∀ H', Ex H H' → Q (.int (countOf D n a)) H')
theorem sc50 : FnScope ["party", "answers", "rooms", "doors", "many", "gates", "lots", "many_ways", "room", "free", "at", "lot", "other"] ["party", "answers"] (defScope (topS 50)) := ⟨rfl, rfl, rfl, by decide +kernel, rfl, by decide +kernel, by decide +kernel⟩
/- slots: 0 party, 1 answers, 2 rooms, 3 doors, 4 many, 5 gates, 6 lots, 7 many_ways, 8 room, 9 free, 10 at, 11 lot, 12 other -/
theorem ok_count_one (T : Txt P K mg A) : DOk P w K mg base (L2.CX P w) 7 "count_one" ["party", "answers"] [] (spCountOne A) := by
  have D_need_single := (ok_need_single (P := P) (w := w) (base := base) T)
  have D_is_number := (ok_is_number (P := P) (w := w) (base := base) T).mono (by decide : 2 ≤ 6)
  refine T.count_one.ok sc50 (fun vs H Q E h => ?_) (fun _ _ _ _ _ _ us hl => match us, hl with | [_, _], _ => rfl) (fun f cdv A' outer s H vs Q E hr h => ?_)
  · obtain ⟨pv, qv, rfl, _⟩ := h.ex
    rfl
  · have hu65 : (A'.deeper (envOfC "count_one" (defScope (topS 50)) s.heap.objs.size f cdv)).units + 65 < cLine := by have := hr.un; omega
    refine ⟨_, (pss_cons (ps_expr (pe_d D_need_single hr (by rfl) (passes_call (takes_of rfl rfl rfl rfl) (fun _ _ _ _ h => h)) (pa_cons (pv 0) pa_nil)))
      (pss_cons (ps_asg (pv 0) (kTgt (K := K) (n := 4) rfl rfl (pgs_cons (pg_name (i := 2) sc50.nd rfl (Or.inl rfl)) (pgs_cons (pg_name (i := 3) sc50.nd rfl (Or.inr rfl)) (pgs_cons (pg_name (i := 4) sc50.nd rfl (Or.inl rfl)) (pgs_cons (pg_name (i := 5) sc50.nd rfl (Or.inl rfl)) pgs_nil)))) rfl rfl))
      (pss_cons (ps_if (PW.pt (pw_or (pt_not (pt_val (pe_d D_is_number hr (by rfl) pass0 (pa_cons (pv 1) pa_nil)))) (pw_or1 (pt_cmpR op_lt (pv 1) pe_int (nomark _))))) (pss_one (ps_raiseOw rfl T.InvalidSize hr (takes_of rfl rfl rfl rfl) (pa_cons pe_str pa_nil))) pss_nil)
      (pss_cons (ps_asg (pe_tup (pa_cons (pe_lst (pa_cons (pe_tup pa_nil) pa_nil)) (pa_cons (pe_lst (pa_cons pe_int pa_nil)) pa_nil))) (kTgt (K := K) (n := 2) rfl rfl (pgs_cons (pg_name (i := 6) sc50.nd rfl (Or.inr rfl)) (pgs_cons (pg_name (i := 7) sc50.nd rfl (Or.inr rfl)) pgs_nil)) rfl rfl))
      (pss_cons (ps_for (passes_of rfl) rfl (pi_range1 (by rfl) (T.b "range") (pa_cons (pv 2) pa_nil)) (pg_name (i := 8) sc50.nd rfl (Or.inr rfl)) (pss_cons (ps_setLc (i := 9) rfl sc50.nd rfl rfl (by rfl) (kEnum (K := K) rfl (by rfl) (T.b "enumerate") (pa_cons (pv 6) pa_nil)) (blkOk_by (own := [("at", 10), ("lot", 11)]) (by rfl)) (fun _ _ _ _ _ => (kTgt (K := K) (n := 2) rfl rfl (pgs_cons (pg_name (i := 10) sc50.nd rfl (Or.inl rfl) (Or.inr rfl)) (pgs_cons (pg_name (i := 11) sc50.nd rfl (Or.inl rfl) (Or.inr rfl)) pgs_nil)) rfl rfl)) (fun _ _ _ _ _ => (pts_one (pt_not (pt_val (pe_callB (id := "any") (kAny (K := K) rfl rfl) (by rfl) (T.b "any") (by decide +kernel) (pa_cons (pe_lc rfl sc50.nd (kPiT (K := K) rfl (pv 11)) (blkOk_by (own := [("other", 12)]) (by rfl)) (fun _ _ _ _ _ => (pg_name (i := 12) sc50.nd rfl (Or.inl rfl) (Or.inr rfl))) (fun _ _ _ _ _ => pts_nil) (fun _ _ _ _ _ => (pe_cmpR (kInTu (K := K) rfl hu65) (pe_tup (pa_cons (pv 12) (pa_cons (pv 8) pa_nil))) (pv 3) (by rfl)))) pa_nil)))))) (fun _ _ _ _ _ => (pv 10)))
      (pss_cons (ps_set (i := 7) sc50.nd rfl (Or.inr rfl) (pe_op op_cat (pv 7) (pe_lc rfl sc50.nd (kPiL (K := K) rfl (pv 9)) (blkOk_by (own := [("at", 10)]) (by rfl)) (fun _ _ _ _ _ => (pg_name (i := 10) sc50.nd rfl (Or.inl rfl) (Or.inr rfl))) (fun _ _ _ _ _ => pts_nil) (fun _ _ _ _ _ => (pe_op op_mul (pe_ix (kIxL (K := K) rfl) (pv 7) (pv 10) (fun _ _ => rfl)) (pe_op op_sub (pv 1) pe_int))))))
      (pss_one (ps_set (i := 6) sc50.nd rfl (Or.inr rfl) (pe_op op_cat (pv 6) (pe_lc rfl sc50.nd (kPiL (K := K) rfl (pv 9)) (blkOk_by (own := [("at", 10)]) (by rfl)) (fun _ _ _ _ _ => (pg_name (i := 10) sc50.nd rfl (Or.inl rfl) (Or.inr rfl))) (fun _ _ _ _ _ => pts_nil) (fun _ _ _ _ _ => (pe_op (kCatF (K := K) rfl) (pe_ix (kIxL (K := K) rfl) (pv 6) (pv 10) (fun _ _ => rfl)) (pe_tup (pa_cons (pv 8) pa_nil)))))))))))
      (pss_one (ps_ret (pe_op op_mul (pv 1) (pe_callB (id := "sum") (kSum (K := K) rfl rfl) (by rfl) (T.b "sum") (by decide +kernel) (pa_cons (pv 7) pa_nil)))))))))), ?_⟩
    obtain ⟨pv, qv, rfl, hp0⟩ := h.ex
    rcases hp0.ex with ⟨p, d, g, ds, n, D, m, G, hpe, hp, hok, hm0, hm5, hE, hQ⟩ | ⟨p, xs, hpe, hp, hl, hE⟩
    · have hpe : pv = .ref p := by simpa using hpe
      subst hpe
      refine ⟨_, rfl, ⟨⟨.inl ⟨p, d, g, ds, n, D, m, G, rfl, hp, hok, hm0, hm5, hE, fun hm1 => ⟨(hQ hm1).1, (hQ hm1).2.1, fun hG hm H1 e1 => ?_⟩⟩⟩⟩⟩
      obtain ⟨⟨kt, hkd⟩, qe, qa⟩ := (hQ hm1).2.2 hG hm
      subst hm
      have h2 := hok.n2
      have h6 := hok.n6
      have hp1 := hp.ex e1
      refine ⟨_, rfl, p, _, rfl, rd_t hp1.at_, rfl, _, _, rfl, _, _, rfl, _, _, rfl, _, _, rfl, rfl, ?_⟩
      refine ⟨_, rfl, ⟨qv, kt, rfl, hkd.ex e1, _, rfl, ?_⟩⟩
      cases hN : isN qv with
      | false => exact ⟨_, rfl, fun d' hd => qe (.inl hN) _ _ e1 hd⟩
      | true =>
        obtain ⟨a, rfl⟩ : ∃ a, qv = .int a := by
          cases qv <;> first | exact ⟨_, rfl⟩ | cases hN
        have ha0 : 0 ≤ a := of_decide_eq_true hN
        refine ⟨_, rfl, _, _, rfl, rfl, ?_⟩
        by_cases ha : a = 0
        · subst ha
          exact ⟨true, rfl, _, rfl, fun d' hd => qe (.inr rfl) _ _ e1 hd⟩
        · obtain ⟨ha10, q⟩ := qa a rfl (by omega)
          refine ⟨false, by simp; omega, ?_⟩
          refine ⟨Nat.zero_le _, fun b0 hb0 => ⟨(by decide : 1 ≤ sizeLine), fun b1 hb1 => ⟨(by decide : 1 ≤ sizeLine), fun b2 hb2 => ⟨(by decide : 2 ≤ sizeLine), fun b3 hb3 => ?_⟩⟩⟩⟩
          refine ⟨b3, _, rfl, st_of upd_same, rfl, _, _, rfl, _, _, rfl, rfl, ?_⟩
          have f1 : Ex H1 (upd H1 b0 (.tup [])) := Ex.new hb0
          have f2 := ex2 (o := .lst [.ref b0]) f1 hb1
          have f3 := ex2 (o := .lst [.int 1]) f2 hb2
          have f4 := ex2 (o := .tup [.ref b1, .ref b2]) f3 hb3
          refine ⟨_, rfl, _, rfl, by omega, by omega, ?_⟩
          refine for_it walk_range (fun i σ' H' => σ'[1]? = some (some (.int a)) ∧ σ'[3]? = some (some (.ref d)) ∧ σ'.length = 13 ∧ Ex H1 H' ∧ ∃ lb wb as, σ'[6]? = some (some (.ref lb)) ∧ σ'[7]? = some (some (.ref wb)) ∧ H' lb = some (.lst (as.map V.ref)) ∧ Tus H' as (lotsOf D i) ∧ H' wb = some (.lst (((lotsOf D i).map (wayOf a)).map V.int))) ⟨rfl, rfl, rfl, f4, b1, b2, [b0], rfl, rfl, ?_, ?_, ?_⟩ (fun _ _ _ _ _ => trivial) (fun i y σ' H' H'' hi p yy => ?_) (fun σ' H4 p => ?_)
          · exact ((Ex.new hb2).trans (Ex.new hb3)) _ _ upd_same
          · exact .cons (.inl (((Ex.new hb1).trans ((Ex.new hb2).trans (Ex.new hb3))) _ _ upd_same)) .nil
          · exact (Ex.new hb3) _ _ (by rw [upd_same]; simp [lotsOf, wayOf])
          · obtain ⟨p1, p3, pl, pe, lb, wb, as, p6, p7, plb, pas, pwb⟩ := p
            obtain ⟨rfl, rfl⟩ := yy
            have hin : i < n := by simpa using hi
            refine st_gn ?_
            dsimp only
            generalize hσ : σ'.set 8 (some (V.int (0 + (i : Int)))) = σ2
            have g1 : σ2[1]? = some (some (.int a)) := by subst hσ; simp [p1]
            have g3 : σ2[3]? = some (some (.ref d)) := by subst hσ; simp [p3]
            have g6 : σ2[6]? = some (some (.ref lb)) := by subst hσ; simp [p6]
            have g7 : σ2[7]? = some (some (.ref wb)) := by subst hσ; simp [p7]
            have g8 : σ2[8]? = some (some (.int (i : Int))) := by subst hσ; simp [pl]
            have gl : σ2.length = 13 := by subst hσ; simp [pl]
            have hal := Paired.length pas
            have hL : (lotsOf D i).length ≤ 64 := Nat.le_trans (lots_len D i) (Nat.le_trans (Nat.pow_le_pow_right (by omega) (by omega : i ≤ 6)) (by decide))
            refine st_seq ?_
            refine ⟨_, g6, lb, _, rfl, .inl ⟨sq_of plb, ?_⟩⟩
            refine lcV (Qd := fun D H' => _) walk_enum (fun k => freeOf D i ((lotsOf D i).getD k [])) (fun k => .int (k : Nat)) (by rw [List.length_map]; omega) (fun H' e => sq_of (e _ _ plb)) (fun k x H3 H4' Y0 Y1 hk e y k0 k1 => ?_) (fun D9 H9 hD9 e9 hl9 => ?_)
            · obtain ⟨Tp, x1, x2, rfl, hT, rfl, y1, y2⟩ := y
              cases (Option.some.inj y1)
              obtain ⟨la, ela, rfl⟩ := get_map y2
              obtain ⟨lot, elot, tl⟩ := paired_at pas ela
              have hgd := getD_at (d := []) elot
              obtain ⟨hl1, hl2⟩ := lots_el D i lot (List.mem_of_getElem? elot)
              rw [hgd] at k0 k1
              refine ⟨Tp, _, rfl, st_of upd_same, rfl, _, _, rfl, _, _, rfl, rfl, wipe_set2 (by decide) (by decide), ?_⟩
              have eT := ex2 (o := .tup [.int (k : Nat), .ref la]) e hT
              have eTT : Ex H3 (upd H3 Tp (.tup [.int (k : Nat), .ref la])) := Ex.new hT
              have v10 : (((wipe σ2 (List.map (fun x => x.snd) [(Str.ofString "at", 10), (Str.ofString "lot", 11)])).set 10 (some (V.int (k : Nat)))).set 11 (some (V.ref la)))[10]? = some (some (.int (k : Nat))) := by simp [wipe, gl]
              have v11 : (((wipe σ2 (List.map (fun x => x.snd) [(Str.ofString "at", 10), (Str.ofString "lot", 11)])).set 10 (some (V.int (k : Nat)))).set 11 (some (V.ref la)))[11]? = some (some (.ref la)) := by simp [wipe, gl]
              have v8 : (((wipe σ2 (List.map (fun x => x.snd) [(Str.ofString "at", 10), (Str.ofString "lot", 11)])).set 10 (some (V.int (k : Nat)))).set 11 (some (V.ref la)))[8]? = some (some (.int (i : Int))) := by simp [wipe, g8]
              have v3 : (((wipe σ2 (List.map (fun x => x.snd) [(Str.ofString "at", 10), (Str.ofString "lot", 11)])).set 10 (some (V.int (k : Nat)))).set 11 (some (V.ref la)))[3]? = some (some (.ref d)) := by simp [wipe, g3]
              have vl : (((wipe σ2 (List.map (fun x => x.snd) [(Str.ofString "at", 10), (Str.ofString "lot", 11)])).set 10 (some (V.int (k : Nat)))).set 11 (some (V.ref la))).length = 13 := by simp [wipe, gl]
              generalize (((wipe σ2 (List.map (fun x => x.snd) [(Str.ofString "at", 10), (Str.ofString "lot", 11)])).set 10 (some (V.int (k : Nat)))).set 11 (some (V.ref la))) = σ3 at v10 v11 v8 v3 vl ⊢
              have tl3 := tl.same eT
              refine ⟨_, v11, la, rfl, ⟨_, rd_t tl3⟩, ?_⟩
              refine lcV (Qd := fun D H' => _) walk_tup (fun _ => true) (fun j => .bl (decide ([lot.getD j 0, (i : Int)] ∈ D))) (by rw [List.length_map]; omega) (fun H' e => rd_t (ex_rd e tl3)) (fun j x H6 H7 Z0 Z1 hj e6 y l0 l1 => ?_) (fun D8 H8 hD8 e8 hl8 => ?_)
              · obtain ⟨rfl, y⟩ := y
                obtain ⟨z, ez, rfl⟩ := get_map y
                rw [getD_at ez] at l1
                refine st_gn ⟨wipe_set (by decide), ?_⟩
                have u12 : ((wipe σ3 (List.map (fun x => x.snd) [(Str.ofString "other", 12)])).set 12 (some (V.int z)))[12]? = some (some (.int z)) := by simp [wipe, vl]
                have u8 : ((wipe σ3 (List.map (fun x => x.snd) [(Str.ofString "other", 12)])).set 12 (some (V.int z)))[8]? = some (some (.int (i : Int))) := by simp [wipe, v8]
                have u3 : ((wipe σ3 (List.map (fun x => x.snd) [(Str.ofString "other", 12)])).set 12 (some (V.int z)))[3]? = some (some (.ref d)) := by simp [wipe, v3]
                refine ⟨_, u12, _, u8, (by decide : 2 ≤ sizeLine), fun q hq => ⟨_, u3, q, d, [z, (i : Int)], ds, D, rfl, rfl, .inl upd_same, ?_, ?_, ?_⟩⟩
                · exact .inr (rd_t (hp1.ds.ex (((pe.trans eT).trans e6).trans (Ex.new hq))).1)
                · exact (hp1.ds.ex (((pe.trans eT).trans e6).trans (Ex.new hq))).2
                · exact l1 _ rfl (Ex.new hq)
              · have hbs : ((List.range lot.length).map fun j => decide ([lot.getD j 0, (i : Int)] ∈ D)) = lot.map fun o => decide ([o, (i : Int)] ∈ D) := by
                  conv => rhs; rw [← range_getD lot 0]
                  rw [List.map_map]
                  rfl
                rw [range_all, List.length_map] at hl8
                have hbs2 : ((List.range lot.length).map fun j => V.bl (decide ([lot.getD j 0, (i : Int)] ∈ D))) = (lot.map fun o => decide ([o, (i : Int)] ∈ D)).map V.bl := by
                  rw [← hbs, List.map_map]
                  rfl
                rw [hbs2] at hl8
                have hany : (lot.map fun o => decide ([o, (i : Int)] ∈ D)).any id = lot.any fun o => decide ([o, (i : Int)] ∈ D) := by rw [List.any_map]; rfl
                refine ⟨D8, _, rfl, sq_of hl8, (lot.any fun o => decide ([o, (i : Int)] ∈ D)), by rw [hany], ?_⟩
                cases hb : (lot.any fun o => decide ([o, (i : Int)] ∈ D)) with
                | true => exact k0 _ (by unfold freeOf; rw [hb]; rfl) (eTT.trans e8)
                | false => exact ⟨_, v10, k1 _ (by unfold freeOf; rw [hb]; rfl) (eTT.trans e8)⟩
            · rw [List.length_map, hal] at hl9
              generalize hfr : ((List.range (lotsOf D i).length).filter fun k => freeOf D i ((lotsOf D i).getD k [])) = fr at hl9
              have hfrl : fr.length ≤ 64 := by
                rw [← hfr]
                have := List.length_filter_le (fun k => freeOf D i ((lotsOf D i).getD k [])) (List.range (lotsOf D i).length)
                rw [List.length_range] at this
                omega
              have hfm : ∀ c ∈ fr, c < (lotsOf D i).length := fun c hc => by
                rw [← hfr] at hc
                exact List.mem_range.mp (List.mem_filter.mp hc).1
              have m1 : fr.map (fun c => wayOf a ((lotsOf D i).getD c [] ++ [(i : Int)])) = (((lotsOf D i).filter (freeOf D i)).map fun l => l ++ [(i : Int)]).map (wayOf a) := by
                rw [← hfr, List.map_map]
                exact filter_places (lotsOf D i) [] (freeOf D i) fun l => wayOf a (l ++ [(i : Int)])
              have m2 : fr.map (fun c => (lotsOf D i).getD c [] ++ [(i : Int)]) = ((lotsOf D i).filter (freeOf D i)).map fun l => l ++ [(i : Int)] := by
                rw [← hfr]
                exact filter_places (lotsOf D i) [] (freeOf D i) fun l => l ++ [(i : Int)]
              clear hfr
              have e19 := pe.trans e9
              have plb9 := e9 _ _ plb
              have pwb9 := e9 _ _ pwb
              have pas9 := pas.same e9
              refine st_gn ?_
              dsimp only
              generalize hσ3 : σ2.set 9 (some (V.ref D9)) = σ3
              have f1 : σ3[1]? = some (some (.int a)) := by subst hσ3; simp [g1]
              have f3 : σ3[3]? = some (some (.ref d)) := by subst hσ3; simp [g3]
              have f6 : σ3[6]? = some (some (.ref lb)) := by subst hσ3; simp [g6]
              have f7 : σ3[7]? = some (some (.ref wb)) := by subst hσ3; simp [g7]
              have f8 : σ3[8]? = some (some (.int (i : Int))) := by subst hσ3; simp [g8]
              have f9 : σ3[9]? = some (some (.ref D9)) := by subst hσ3; simp [gl]
              have fl : σ3.length = 13 := by subst hσ3; simp [gl]
              -- many_ways
              refine st_seq (st_asg ?_)
              refine ⟨_, f7, _, f9, D9, rfl, ⟨_, sq_of hl9⟩, ?_⟩
              refine lcV (Qd := fun D H' => _) walk_list (fun _ => true) (fun k => .int (wayOf a ((lotsOf D i).getD (fr.getD k 0) [] ++ [(i : Int)]))) (by rw [List.length_map]; omega) (fun H' e => sq_of (e _ _ hl9)) (fun k x H3 H4' Y0 Y1 hk e y k0 k1 => ?_) (fun D10 H10 hD10 e10 hl10 => ?_)
              · obtain ⟨rfl, y⟩ := y
                obtain ⟨c, ec, rfl⟩ := get_map y
                have hc := hfm c (List.mem_of_getElem? ec)
                rw [getD_at ec] at k1
                have hat : (lotsOf D i)[c]? = some ((lotsOf D i).getD c []) := by
                  rw [List.getD_eq_getElem?_getD, List.getElem?_eq_getElem hc]
                  rfl
                have u10 : ((wipe σ3 (List.map (fun x => x.snd) [(Str.ofString "at", 10)])).set 10 (some (V.int (c : Nat))))[10]? = some (some (.int (c : Nat))) := by simp [wipe, fl]
                have u7 : ((wipe σ3 (List.map (fun x => x.snd) [(Str.ofString "at", 10)])).set 10 (some (V.int (c : Nat))))[7]? = some (some (.ref wb)) := by simp [wipe, f7]
                have u1 : ((wipe σ3 (List.map (fun x => x.snd) [(Str.ofString "at", 10)])).set 10 (some (V.int (c : Nat))))[1]? = some (some (.int a)) := by simp [wipe, f1]
                refine st_gn ⟨wipe_set (by decide), ?_⟩
                refine ⟨_, u7, _, u10, wb, _, _, _, rfl, rfl, sq_of (e _ _ pwb9), atI_map (by rw [List.getElem?_map, hat]; rfl), _, u1, _, _, rfl, rfl, _, _, rfl, rfl, .inr ⟨by omega, by omega⟩, ?_⟩
                have h1 := k1 _ rfl (Ex.refl _)
                have h3 : wayOf a ((lotsOf D i).getD c [] ++ [(i : Int)]) = wayOf a ((lotsOf D i).getD c []) * (a - 1) := by
                  unfold wayOf
                  rw [List.length_append]
                  exact Int.pow_succ _ _
                rw [h3] at h1
                exact h1
              rw [range_all, List.length_map] at hl10
              have m3 : ((List.range fr.length).map fun k => V.int (wayOf a ((lotsOf D i).getD (fr.getD k 0) [] ++ [(i : Int)]))) = ((((lotsOf D i).filter (freeOf D i)).map fun l => l ++ [(i : Int)]).map (wayOf a)).map V.int := by
                rw [← m1]
                conv => rhs; rw [← range_getD fr 0]
                rw [List.map_map, List.map_map]
                rfl
              rw [m3] at hl10
              have hml : ((((lotsOf D i).filter (freeOf D i)).map fun l => l ++ [(i : Int)]).map (wayOf a)).length ≤ 64 := by rw [← m1, List.length_map]; exact hfrl
              refine ⟨wb, D10, _, _, rfl, rfl, e10 _ _ pwb9, hl10, sz_of (by rw [List.length_map, List.length_map, List.length_map]; omega), fun w2 hw2 => ?_⟩
              have e11 := e10.trans (Ex.new (o := .lst (((lotsOf D i).map (wayOf a)).map V.int ++ ((((lotsOf D i).filter (freeOf D i)).map fun l => l ++ [(i : Int)]).map (wayOf a)).map V.int)) hw2)
              have pw2 : (upd H10 w2 (.lst (((lotsOf D i).map (wayOf a)).map V.int ++ ((((lotsOf D i).filter (freeOf D i)).map fun l => l ++ [(i : Int)]).map (wayOf a)).map V.int))) w2 = some (.lst (((lotsOf D (i + 1)).map (wayOf a)).map V.int)) := by
                rw [upd_same, ← List.map_append, ← List.map_append]
                rfl
              generalize (upd H10 w2 (.lst (((lotsOf D i).map (wayOf a)).map V.int ++ ((((lotsOf D i).filter (freeOf D i)).map fun l => l ++ [(i : Int)]).map (wayOf a)).map V.int))) = H11 at e11 pw2 ⊢
              refine st_gn ?_
              dsimp only
              generalize hσ4 : σ3.set 7 (some (V.ref w2)) = σ4
              have j1 : σ4[1]? = some (some (.int a)) := by subst hσ4; simp [f1]
              have j3 : σ4[3]? = some (some (.ref d)) := by subst hσ4; simp [f3]
              have j6 : σ4[6]? = some (some (.ref lb)) := by subst hσ4; simp [f6]
              have j7 : σ4[7]? = some (some (.ref w2)) := by subst hσ4; simp [fl]
              have j8 : σ4[8]? = some (some (.int (i : Int))) := by subst hσ4; simp [f8]
              have j9 : σ4[9]? = some (some (.ref D9)) := by subst hσ4; simp [f9]
              have jl : σ4.length = 13 := by subst hσ4; simp [fl]
              have plb11 := e11 _ _ plb9
              have pas11 := pas9.same e11
              have hl11 := e11 _ _ hl9
              -- lots
              refine ⟨_, j6, _, j9, D9, rfl, ⟨_, sq_of hl11⟩, ?_⟩
              refine lcU (Qd := fun D H' => _) walk_list (fun _ => true) (fun k => (lotsOf D i).getD (fr.getD k 0) [] ++ [(i : Int)]) (by rw [List.length_map]; omega) (fun H' e => sq_of (e _ _ hl11)) (fun k x H3 H4' Y0 Y1 hk e y k0 k1 => ?_) (fun D12 H12 rs hD12 e12 hl12 trs => ?_)
              · obtain ⟨rfl, y⟩ := y
                obtain ⟨c, ec, rfl⟩ := get_map y
                have hc := hfm c (List.mem_of_getElem? ec)
                rw [getD_at ec] at k1
                have hat : (lotsOf D i)[c]? = some ((lotsOf D i).getD c []) := by
                  rw [List.getD_eq_getElem?_getD, List.getElem?_eq_getElem hc]
                  rfl
                obtain ⟨la, ela, tla⟩ := tus_at pas11 hat
                have u10 : ((wipe σ4 (List.map (fun x => x.snd) [(Str.ofString "at", 10)])).set 10 (some (V.int (c : Nat))))[10]? = some (some (.int (c : Nat))) := by simp [wipe, jl]
                have u6 : ((wipe σ4 (List.map (fun x => x.snd) [(Str.ofString "at", 10)])).set 10 (some (V.int (c : Nat))))[6]? = some (some (.ref lb)) := by simp [wipe, j6]
                have u8 : ((wipe σ4 (List.map (fun x => x.snd) [(Str.ofString "at", 10)])).set 10 (some (V.int (c : Nat))))[8]? = some (some (.int (i : Int))) := by simp [wipe, j8]
                refine st_gn ⟨wipe_set (by decide), ?_⟩
                refine ⟨_, u6, _, u10, lb, _, _, _, rfl, rfl, sq_of (e _ _ plb11), atI_map ela, _, u8, (by decide : 1 ≤ sizeLine), fun q hq => ?_⟩
                have tla3 := tla.same (e.trans (Ex.new (o := .tup [.int (i : Int)]) hq))
                have hll := (lots_el D i _ (List.mem_of_getElem? hat)).1
                refine ⟨la, q, _, _, rfl, rfl, rd_t tla3, st_of upd_same, by simp, sz_of (by rw [List.length_map]; show _ + 1 ≤ _; omega), fun h0 => ?_, fun hn0 q2 o hq2 ho => ?_⟩
                · have hr0 : (lotsOf D i).getD c [] = [] := List.map_eq_nil_iff.mp h0
                  refine k1 _ q rfl (Ex.new hq) ?_
                  rw [hr0]
                  exact .inl upd_same
                · refine k1 _ q2 rfl (ex2 (Ex.new hq) hq2) ?_
                  refine .inr ⟨o, ?_⟩
                  rw [upd_same]
                  simp
              rw [range_all, List.length_map] at trs
              have m4 : ((List.range fr.length).map fun k => (lotsOf D i).getD (fr.getD k 0) [] ++ [(i : Int)]) = (((lotsOf D i).filter (freeOf D i)).map fun l => l ++ [(i : Int)]) := by
                rw [← m2]
                conv => rhs; rw [← range_getD fr 0]
                rw [List.map_map]
                rfl
              rw [m4] at trs
              have hrl := Paired.length trs
              have hrl2 : (((lotsOf D i).filter (freeOf D i)).map fun l => l ++ [(i : Int)]).length ≤ 64 := by rw [← m2, List.length_map]; exact hfrl
              refine ⟨lb, D12, _, _, rfl, rfl, e12 _ _ plb11, hl12, sz_of (by rw [List.length_map, List.length_map]; omega), fun l2 hl2 => ?_⟩
              have e13 := e12.trans (Ex.new (o := .lst (as.map V.ref ++ rs.map V.ref)) hl2)
              refine ⟨by simp [j1], by simp [j3], by simp [jl], (e19.trans e11).trans e13, l2, w2, as ++ rs, by simp [jl], by simp [j7], by rw [upd_same, List.map_append], ?_, e13 _ _ pw2⟩
              exact paired_app (pas11.same e13) (trs.same (Ex.new hl2))
          · obtain ⟨p1, p3, pl, pe, lb, wb, as, p6, p7, plb, pas, pwb⟩ := p
            rw [Int.toNat_natCast] at pwb
            exact ⟨_, p1, _, p7, wb, _, rfl, sq_of pwb, _, _, rfl, rfl, .inl ⟨by omega, by omega⟩, q _ (e1.trans pe)⟩
    · have hpe : pv = .ref p := by simpa using hpe
      subst hpe
      exact ⟨_, rfl, ⟨⟨.inr ⟨p, xs, rfl, hp, hl, hE⟩⟩⟩⟩
end
end Kx
/-! Dicts whose keys are ints, told by the list of their keys. -/
namespace Kx
open PySem PySem.Spec PyProof.Rows L2
open Evl (Ex ex_rd ex_l ex_t)
structure DKs (H : Hp) (a : Addr) (ks : List Int) (p : V → Prop) : Prop where
  ex : ∃ kvs : List (Key × V), H a = some (.dK kvs) ∧ kvs.map (·.1) = ks.map Sum.inl ∧ ∀ kv ∈ kvs, p kv.2
section
variable {H H' : Hp} {a : Addr} {ks : List Int} {p : V → Prop}
theorem DKs.same (d : DKs H a ks p) (e : Ex H H') : DKs H' a ks p := by
  obtain ⟨kvs, h1, h2, h3⟩ := d.ex
  exact ⟨kvs, e _ _ h1, h2, h3⟩
theorem DKs.keep (d : DKs H a ks p) {b : Addr} {o : HO} (h : b ≠ a) : DKs (upd H b o) a ks p := by
  obtain ⟨kvs, h1, h2, h3⟩ := d.ex
  exact ⟨kvs, by rw [upd_ne (Ne.symm h)]; exact h1, h2, h3⟩
theorem DKs.neL (d : DKs H a ks p) {b : Addr} {xs : List V} (h : H b = some (.lst xs)) : b ≠ a := by
  obtain ⟨kvs, h1, _⟩ := d.ex
  exact ne_of h h1 fun z => nomatch z
theorem DKs.neN (d : DKs H a ks p) {b : Addr} (h : H b = none) : b ≠ a := by
  obtain ⟨kvs, h1, _⟩ := d.ex
  exact fun z => by rw [z, h1] at h; cases h
theorem DKs.nil (h : H a = some (.dK [])) : DKs H a [] p := ⟨[], h, rfl, fun _ z => nomatch z⟩
theorem keys_len {kvs : List (Key × V)} (h : kvs.map (·.1) = ks.map Sum.inl) : kvs.length = ks.length := by
  have := congrArg List.length h
  rwa [List.length_map, List.length_map] at this
theorem keys_mem {kvs : List (Key × V)} (h : kvs.map (·.1) = ks.map Sum.inl) (x : Int) : (valV kvs (.inl x)).isSome = decide (x ∈ ks) := by
  rw [← valV_any]
  have h1 : (kvs.any fun kv => decide (kv.1 = .inl x)) = ((kvs.map (·.1)).any fun k => decide (k = .inl x)) := by rw [List.any_map]; rfl
  rw [h1, h, List.any_map]
  rw [Bool.eq_iff_iff]
  simp
theorem valV_mem {kvs : List (Key × V)} {k : Key} {v : V} (h : valV kvs k = some v) : ∃ kv ∈ kvs, kv.2 = v := by
  unfold valV at h
  cases e : kvs.find? (fun kv => decide (kv.1 = k)) with
  | none => rw [e] at h; cases h
  | some kv =>
    rw [e] at h
    exact ⟨kv, List.mem_of_find?_eq_some e, Option.some.inj h⟩
theorem DKs.get (d : DKs H a ks p) (x : Int) : ∃ o, DGet H a (.int x) o ∧ o.isSome = decide (x ∈ ks) ∧ ∀ v, o = some v → p v := by
  obtain ⟨kvs, h1, h2, h3⟩ := d.ex
  refine ⟨valV kvs (.inl x), DGet.k (k := .inl x) h1, keys_mem h2 x, fun v hv => ?_⟩
  obtain ⟨kv, hm, e⟩ := valV_mem hv
  rw [← e]
  exact h3 kv hm
theorem DKs.put (d : DKs H a ks p) {x : Int} {v : V} (hx : x ∉ ks) (hv : p v) (hl : ks.length < 50000) : ∃ kvs, DPut H a (.int x) v (upd H a (.dK kvs)) ∧ DKs (upd H a (.dK kvs)) a (ks ++ [x]) p := by
  obtain ⟨kvs, h1, h2, h3⟩ := d.ex
  have hn : valV kvs (.inl x) = none := by
    have := keys_mem h2 x
    rw [decide_eq_false hx] at this
    exact Option.isNone_iff_eq_none.mp (by rw [← Option.not_isSome, this]; rfl)
  refine ⟨putK kvs (.inl x) v, DPut.k (k := .inl x) h1 (Evl.sz_lt (by rw [keys_len h2]; omega)), _, upd_same, ?_, ?_⟩
  · rw [putK_new v hn, List.map_append, List.map_append, h2]
    rfl
  · rw [putK_new v hn]
    intro kv hkv
    rcases List.mem_append.mp hkv with h | h
    · exact h3 kv h
    · have : kv = (.inl x, v) := by simpa using h
      rw [this]
      exact hv
theorem DKs.putSame (d : DKs H a ks p) {x : Int} {v : V} (hx : x ∈ ks) (hv : p v) (hl : ks.length < 50000) : ∃ kvs, DPut H a (.int x) v (upd H a (.dK kvs)) ∧ DKs (upd H a (.dK kvs)) a ks p := by
  obtain ⟨kvs, h1, h2, h3⟩ := d.ex
  have ha : (kvs.any fun kv => decide (kv.1 = .inl x)) = true := by rw [valV_any, keys_mem h2 x, decide_eq_true hx]
  have e : putK kvs (.inl x) v = kvs.map fun kv => if kv.1 = .inl x then (kv.1, v) else kv := by unfold putK; rw [if_pos ha]
  refine ⟨putK kvs (.inl x) v, DPut.k (k := .inl x) h1 (Evl.sz_lt (by rw [keys_len h2]; omega)), _, upd_same, ?_, ?_⟩
  · rw [e, List.map_map, ← h2]
    apply List.map_congr_left
    intro kv _
    show (if kv.1 = Sum.inl x then (kv.1, v) else kv).1 = kv.1
    by_cases h : kv.1 = .inl x
    · rw [if_pos h]
    · rw [if_neg h]
  · rw [e]
    intro kv hkv
    obtain ⟨kv0, h0, rfl⟩ := List.mem_map.mp hkv
    by_cases h : kv0.1 = .inl x
    · rw [if_pos h]; exact hv
    · rw [if_neg h]; exact h3 kv0 h0
theorem DKs.pop (d : DKs H a ks p) {x : Int} (hx : x ∈ ks) : ∃ kvs v, H a = some (.dK kvs) ∧ valV kvs (.inl x) = some v ∧ DKs (upd H a (.dK (dropK kvs (.inl x)))) a (ks.filter fun y => decide (y ≠ x)) p := by
  obtain ⟨kvs, h1, h2, h3⟩ := d.ex
  have hs := keys_mem h2 x
  rw [decide_eq_true hx] at hs
  obtain ⟨v, hv⟩ := Option.isSome_iff_exists.mp hs
  refine ⟨kvs, v, h1, hv, _, upd_same, ?_, fun kv hkv => h3 kv (List.mem_filter.mp hkv).1⟩
  unfold dropK
  have h4 : (kvs.filter fun kv => decide (kv.1 ≠ .inl x)).map (·.1) = (kvs.map (·.1)).filter fun k => decide (k ≠ .inl x) := by rw [List.filter_map]; rfl
  rw [h4, h2, List.filter_map]
  congr 1
  apply List.filter_congr
  intro y _
  show decide (Sum.inl y ≠ Sum.inl x) = decide (y ≠ x)
  simp
theorem DKs.isD (d : DKs H a ks p) : IsD H a := let ⟨kvs, h1, _⟩ := d.ex; .inl ⟨kvs, .inl h1⟩
end
theorem nodup_len : ∀ {l m : List Int}, l.Nodup → (∀ x ∈ l, x ∈ m) → l.length ≤ m.length
  | [], _, _, _ => Nat.zero_le _
  | x :: l, m, h, hs => by
    obtain ⟨h1, h2⟩ := List.nodup_cons.mp h
    have hx := hs x List.mem_cons_self
    have h3 := nodup_len (m := m.erase x) h2 fun y hy => (List.mem_erase_of_ne (fun z : y = x => h1 (z ▸ hy))).mpr (hs y (List.mem_cons_of_mem _ hy))
    have h4 := List.length_erase_of_mem hx
    have h5 : 0 < m.length := List.length_pos_of_mem hx
    rw [List.length_cons]
    omega
end Kx
namespace Kx
open PySem PySem.Spec PyProof.Rows L2
open Evl (Ex ex_rd ex_l ex_t st_of sq_of sz_lt sz_of)
abbrev anyV : V → Prop := fun _ => True
abbrev intV : V → Prop := fun v => ∃ i, v = .int i
def rowW (W : List (List Int)) (x : Int) : List Int := W.getD x.toNat []
/-- what is reached from a within ks -/
structure Reach (W : List (List Int)) (ks : List Int) (a : Int) (fs : List Int) : Prop where
  nd : fs.Nodup
  a0 : a ∈ fs
  sub : ∀ x ∈ fs, x ∈ ks
  closed : ∀ x ∈ fs, ∀ y ∈ ks, y ∈ rowW W x → y ∈ fs
  pair : fs ≠ [a] → ∃ x ∈ fs, ∃ y ∈ fs, x ≠ y ∧ y ∈ rowW W x
section
variable {P : Program} {w : World} {K : PySem.W.Frag} {mg : PySem.Str → Option Value} {base : Heap} {A : Ads}
structure spMarked (vs : List V) (H : Hp) (Q : VK) (E : XK) : Prop where
  ex : ∃ (l : Addr) (ns : List Int), vs = [.ref l] ∧ Tu H l ns ∧ ns.Nodup ∧ ns.length ≤ 100 ∧ ∀ H' d, Ex H H' → H d = none → DKs H' d ns anyV → Q (.ref d) H'
theorem sc52 : FnScope ["lot", "number"] ["lot"] (defScope (topS 52)) := ⟨rfl, rfl, rfl, by decide +kernel, rfl, by decide +kernel, by decide +kernel⟩
/- slots: 0 lot, 1 number -/
theorem ok_marked_lot (T : Txt P K mg A) : DOk P w K mg base CX0 1 "marked_lot" ["lot"] [] spMarked := by
  refine T.marked_lot.ok0 sc52 (fun vs H Q E h => ?_) (fun _ _ _ _ _ _ us hl => match us, hl with | [_], _ => rfl) (fun f cdv A' outer s H vs Q E hr h => ?_)
  · obtain ⟨l, ns, rfl, _⟩ := h
    rfl
  · obtain ⟨l, ns, rfl, hl, hnd, hz, q⟩ := h
    refine ⟨_, (pss_one (ps_ret (pe_dc rfl sc52.nd (kPiT (K := K) rfl (pv 0)) (blkOk_by (own := [("number", 1)]) (by rfl)) (fun _ _ _ _ _ => (pg_name (i := 1) sc52.nd rfl (Or.inl rfl) (Or.inr rfl))) (fun _ _ _ _ _ => pts_nil) (fun _ _ _ _ _ => (pv 1)) (fun _ _ _ _ _ => pe_bl)))), ?_⟩
    refine st_ret ?_
    refine ⟨_, rfl, l, rfl, ⟨_, rd_t hl⟩, fun D hD => ?_⟩
    refine wk_it walk_tup (fun i H' => Ex H H' ∧ DKs H' D (ns.take i) anyV) ⟨Ex.new hD, .nil upd_same⟩ (fun i H' _ p => rd_t (ex_rd p.1 hl)) (fun i x H' H'' hi p y => ?_) (fun H' p => ?_)
    · obtain ⟨pe, pd⟩ := p
      obtain ⟨rfl, y⟩ := y
      obtain ⟨z, ez, rfl⟩ := get_map y
      refine st_gn ⟨wipe_set (by decide), ?_⟩
      have hnot := not_earlier hnd ez
      obtain ⟨kvs, h1, h2, h3⟩ := pd.ex
      have hn : valV kvs (.inl z) = none := by
        have := keys_mem h2 z
        rw [decide_eq_false hnot] at this
        exact Option.isNone_iff_eq_none.mp (by rw [← Option.not_isSome, this]; rfl)
      refine ⟨_, rfl, kvs, .inl z, rfl, h1, sz_lt (by rw [keys_len h2, List.length_take]; omega), pe.mut hD, _, upd_same, ?_, fun _ _ => trivial⟩
      rw [putK_new _ hn, take_next ez, List.map_append, List.map_append, h2]
      rfl
    · obtain ⟨pe, pd⟩ := p
      rw [List.length_map, List.take_length] at pd
      exact q H' D pe hD pd
structure spSpread (vs : List V) (H : Hp) (Q : VK) (E : XK) : Prop where
  ex : ∃ (wa : Addr) (a : Int) (ind : Addr) (ws : List Addr) (W : List (List Int)) (ks : List Int) (p : V → Prop), vs = [.ref wa, .int a, .ref ind] ∧ TT' H wa ws W ∧ DKs H ind ks p ∧ a ∈ ks ∧ (∀ x ∈ ks, 0 ≤ x ∧ x < W.length) ∧ ks.length ≤ 50 ∧
    ∀ H' far fs, Ex H H' → DKs H' far fs intV → Reach W ks a fs → Q (.ref far) H'
theorem sc53 : FnScope ["ways", "number", "inside", "far", "front", "new", "one", "other"] ["ways", "number", "inside"] (defScope (topS 53)) := ⟨rfl, rfl, rfl, by decide +kernel, rfl, by decide +kernel, by decide +kernel⟩
/- slots: 0 ways, 1 number, 2 inside, 3 far, 4 front, 5 new, 6 one, 7 other -/
theorem rowW_at {W : List (List Int)} {x : Int} {row : List Int} (h : W[x.toNat]? = some row) : rowW W x = row := getD_at h
theorem ok_spread_from (T : Txt P K mg A) : DOk P w K mg base CX0 1 "spread_from" ["ways", "number", "inside"] [] spSpread := by
  refine T.spread_from.ok0 sc53 (fun vs H Q E h => ?_) (fun _ _ _ _ _ _ us hl => match us, hl with | [_, _, _], _ => rfl) (fun f cdv A' outer s H vs Q E hr h => ?_)
  · obtain ⟨wa, a, ind, ws, W, ks, p, rfl, _⟩ := h
    rfl
  · obtain ⟨wa, a, ind, ws, W, ks, p, rfl, hw, hin, ha, hks, hz, q⟩ := h
    have hu := hu_of hr
    refine ⟨_, (pss_cons (ps_par (i := 3) (j := 4) rfl sc53.nd rfl rfl (by decide) rfl rfl (pa_cons (pe_disp (pps_cons (pv 1) pe_int pps_nil) (by rfl) (by rfl) (by simp) (by decide)) (pa_cons (pe_lst (pa_cons (pv 1) pa_nil)) pa_nil)) rfl)
      (pss_cons (ps_while PassesOwn.never (pt_cmpR op_gt (pe_callB (id := "len") (kLen (K := K) rfl) (by rfl) (T.b "len") (by decide +kernel) (pa_cons (pv 4) pa_nil)) pe_int (nomark _)) (pss_cons (ps_set (i := 5) sc53.nd rfl (Or.inl rfl) (pe_lst pa_nil))
      (pss_cons (ps_for PassesOwn.never rfl (kPiL (K := K) rfl (pv 4)) (pg_name (i := 6) sc53.nd rfl (Or.inl rfl)) (pss_one (ps_for PassesOwn.never rfl (kPiT (K := K) rfl (pe_ix (kIxT (K := K) rfl) (pv 0) (pv 6) (fun _ _ => rfl))) (pg_name (i := 7) sc53.nd rfl (Or.inl rfl)) (pss_one (ps_if (PW.pt (pw_and (pt_cmp (pc_din hu (pv 7) (pv 2))) (pw_and1 (pt_cmp (pc_dnotin hu (pv 7) (pv 3)))))) (pss_cons (ps_dput hu (pv 3) (pv 7) (pe_op op_add (pe_dget hu (pv 3) (pv 6) (fun _ _ => rfl)) pe_int) (by rfl))
      (pss_one (ps_expr (kBM (K := K) rfl PySem.F.plainAttrs_list PySem.F.slot_list_append PySem.F.type_list_append mt_append (pv 5) (pa_cons (pv 7) pa_nil))))) pss_nil)))))
      (pss_one (ps_set (i := 4) sc53.nd rfl (Or.inl rfl) (pv 5))))))
      (pss_one (ps_ret (pv 3))))), ?_⟩
    refine st_seq (st_par ?_)
    refine fun far hfar => ?_
    refine ⟨_, rfl, upd_same, [(.inl a, .int 0)], rfl, by simp, ?_⟩
    refine ⟨_, rfl, (by decide : 1 ≤ sizeLine), fun fr hfr => ?_⟩
    have e1 : Ex H (upd H far (.dK [])) := Ex.new hfar
    have e2 : Ex H (upd (upd H far (.dK [])) far (.dK (mergeK [] [(.inl a, .int 0)]))) := e1.mut hfar
    have hfr0 := Evl.fresh_back e2 hfr
    have e3 := ex2 (o := .lst [.int a]) e2 hfr
    have d3 : DKs (upd (upd (upd H far (.dK [])) far (.dK (mergeK [] [(.inl a, .int 0)]))) fr (.lst [.int a])) far [a] intV :=
      ⟨[(.inl a, .int 0)], Ex.new hfr _ _ upd_same, rfl, fun kv h => by
        have : kv = (.inl a, .int 0) := by simpa using h
        subst this
        exact ⟨0, rfl⟩⟩
    refine ⟨fun m σ' H' => ∃ fr xs fs, σ'[0]? = some (some (.ref wa)) ∧ σ'[2]? = some (some (.ref ind)) ∧ σ'[3]? = some (some (.ref far)) ∧ σ'[4]? = some (some (.ref fr)) ∧ σ'.length = 8 ∧ Ex H H' ∧ DKs H' far fs intV ∧ H' fr = some (.lst (xs.map V.int)) ∧ (∀ x ∈ xs, x ∈ fs) ∧
      fs.Nodup ∧ a ∈ fs ∧ (∀ x ∈ fs, x ∈ ks) ∧ (∀ x ∈ fs, x ∉ xs → ∀ y ∈ ks, y ∈ rowW W x → y ∈ fs) ∧ (fs ≠ [a] → ∃ x ∈ fs, ∃ y ∈ fs, x ≠ y ∧ y ∈ rowW W x) ∧ m = 2 * (ks.length - fs.length) + (if xs = [] then 0 else 1),
      ⟨_, fr, [a], [a], rfl, rfl, rfl, rfl, rfl, e3, d3, upd_same, fun x h => h, by simp, by simp, fun x h => ?_, fun x h h2 => absurd h h2, fun h => absurd rfl h, rfl⟩, fun m σ' H' p => ?_⟩
    · have : x = a := by simpa using h
      rw [this]
      exact ha
    obtain ⟨fr, xs, fs, p0, p2, p3, p4, pl, pe, pd, pf, hxs, hnd, ha0, hsub, hcl, hpair, hm⟩ := p
    have hfl := nodup_len hnd hsub
    refine ⟨_, p4, fr, _, rfl, .inl (sq_of pf), _, _, rfl, rfl, ?_⟩
    by_cases hx0 : xs = []
    · subst hx0
      refine ⟨false, by simp, ?_⟩
      exact ⟨_, p3, q H' far fs pe pd ⟨hnd, ha0, hsub, fun x hx y hy hr => hcl x hx (by simp) y hy hr, hpair⟩⟩
    · have hx1 : 0 < xs.length := List.length_pos_iff.mpr hx0
      refine ⟨true, by simp; omega, ?_⟩
      refine ⟨fun σ2 H2 => ∃ fr ys gs, σ2[0]? = some (some (.ref wa)) ∧ σ2[2]? = some (some (.ref ind)) ∧ σ2[3]? = some (some (.ref far)) ∧ σ2[4]? = some (some (.ref fr)) ∧ σ2.length = 8 ∧ Ex H H2 ∧ DKs H2 far gs intV ∧ H2 fr = some (.lst (ys.map V.int)) ∧ (∀ x ∈ ys, x ∈ gs) ∧
        gs.Nodup ∧ a ∈ gs ∧ (∀ x ∈ gs, x ∈ ks) ∧ (∀ x ∈ gs, x ∉ ys → ∀ y ∈ ks, y ∈ rowW W x → y ∈ gs) ∧ (gs ≠ [a] → ∃ x ∈ gs, ∃ y ∈ gs, x ≠ y ∧ y ∈ rowW W x) ∧ gs = fs ++ ys, fun σ2 H2 p => ?_, ?_⟩
      · obtain ⟨fr, ys, gs, h1, h2, h3, h4, h5, h6, h7, h8, h9, h10, h11, h12, h13, h14, h15⟩ := p
        have hgl := nodup_len h10 h12
        have hgl2 : gs.length = fs.length + ys.length := by rw [h15, List.length_append]
        refine ⟨2 * (ks.length - gs.length) + (if ys = [] then 0 else 1), ?_, fr, ys, gs, h1, h2, h3, h4, h5, h6, h7, h8, h9, h10, h11, h12, h13, h14, rfl⟩
        rw [hm, if_neg hx0]
        by_cases hy : ys = []
        · have : ys.length = 0 := by rw [hy]; rfl
          rw [if_pos hy]
          omega
        · have : 0 < ys.length := List.length_pos_iff.mpr hy
          rw [if_neg hy]
          omega
      refine ⟨Nat.zero_le _, fun nw hnw => ?_⟩
      refine st_gn ?_
      dsimp only
      have hnwH := Evl.fresh_back pe hnw
      have e4 := ex2 (o := .lst []) pe hnw
      have pd4 := pd.same (Ex.new (o := .lst []) hnw)
      have pf4 := Ex.new (o := .lst []) hnw _ _ pf
      have nfr : fr ≠ nw := ne_of_none pf hnw
      have nfar : nw ≠ far := pd.neN hnw
      refine ⟨_, by simp [p4], fr, rfl, ⟨_, sq_of pf4⟩, ?_⟩
      refine for_it walk_list (fun i σ' H' => σ'[0]? = some (some (.ref wa)) ∧ σ'[2]? = some (some (.ref ind)) ∧ σ'[3]? = some (some (.ref far)) ∧ σ'[5]? = some (some (.ref nw)) ∧ σ'.length = 8 ∧ Ex H H' ∧ H' fr = some (.lst (xs.map V.int)) ∧ ∃ ys, DKs H' far (fs ++ ys) intV ∧ H' nw = some (.lst (ys.map V.int)) ∧
        (fs ++ ys).Nodup ∧ (∀ x ∈ fs ++ ys, x ∈ ks) ∧ (∀ x ∈ xs.take i, ∀ y ∈ ks, y ∈ rowW W x → y ∈ fs ++ ys) ∧ (fs ++ ys ≠ [a] → ∃ x ∈ fs ++ ys, ∃ y ∈ fs ++ ys, x ≠ y ∧ y ∈ rowW W x)) ⟨by simp [p0], by simp [p2], by simp [p3], by simp [pl], by simp [pl], e4, pf4, [], by rw [List.append_nil]; exact pd4, upd_same, by rw [List.append_nil]; exact hnd, by rw [List.append_nil]; exact hsub, fun x h => by simp at h, by rw [List.append_nil]; exact hpair⟩ (fun i σ' H' _ p => sq_of p.2.2.2.2.2.2.1) (fun i x σ' H' H'' hi p y => ?_) (fun σ' H5 p => ?_)
      · clear p0 p2 p3 p4 pl pe pd pf e4 pd4 pf4
        obtain ⟨p0, p2, p3, p5, pl, pe, pf, ys, pd, pn, qnd, qsub, qcl, qpair⟩ := p
        obtain ⟨rfl, y⟩ := y
        obtain ⟨z, ez, rfl⟩ := get_map y
        have hzm := List.mem_of_getElem? ez
        have hzf := hxs z hzm
        obtain ⟨hz0, hzW⟩ := hks z (hsub z hzf)
        refine st_gn ?_
        dsimp only
        generalize hσ : σ'.set 6 (some (V.int z)) = σ2
        have g0 : σ2[0]? = some (some (.ref wa)) := by subst hσ; simp [p0]
        have g2 : σ2[2]? = some (some (.ref ind)) := by subst hσ; simp [p2]
        have g3 : σ2[3]? = some (some (.ref far)) := by subst hσ; simp [p3]
        have g5 : σ2[5]? = some (some (.ref nw)) := by subst hσ; simp [p5]
        have g6 : σ2[6]? = some (some (.int z)) := by subst hσ; simp [pl]
        have gl : σ2.length = 8 := by subst hσ; simp [pl]
        obtain ⟨row, erow⟩ : ∃ row, W[z.toNat]? = some row := ⟨_, List.getElem?_eq_getElem (by omega)⟩
        have hrow := rowW_at erow
        obtain ⟨ra, era, tra⟩ := tus_at hw.2 erow
        have hzz : ((z.toNat : Nat) : Int) = z := Int.toNat_of_nonneg hz0
        have hatz : atI (ws.map V.ref) z = some (.ref ra) := by rw [← hzz]; exact atI_map era
        refine ⟨_, g0, _, g6, wa, _, _, _, rfl, rfl, rd_t (hw.ex pe).1, hatz, ra, rfl, ⟨_, rd_t (tra.same pe)⟩, ?_⟩
        refine for_it walk_tup (fun j σ' H' => σ'[0]? = some (some (.ref wa)) ∧ σ'[2]? = some (some (.ref ind)) ∧ σ'[3]? = some (some (.ref far)) ∧ σ'[5]? = some (some (.ref nw)) ∧ σ'[6]? = some (some (.int z)) ∧ σ'.length = 8 ∧ Ex H H' ∧ H' fr = some (.lst (xs.map V.int)) ∧ ∃ ys, DKs H' far (fs ++ ys) intV ∧ H' nw = some (.lst (ys.map V.int)) ∧
          (fs ++ ys).Nodup ∧ (∀ x ∈ fs ++ ys, x ∈ ks) ∧ (∀ x ∈ xs.take i, ∀ y ∈ ks, y ∈ rowW W x → y ∈ fs ++ ys) ∧ (∀ y ∈ row.take j, y ∈ ks → y ∈ fs ++ ys) ∧ (fs ++ ys ≠ [a] → ∃ x ∈ fs ++ ys, ∃ y ∈ fs ++ ys, x ≠ y ∧ y ∈ rowW W x)) ⟨g0, g2, g3, g5, g6, gl, pe, pf, ys, pd, pn, qnd, qsub, qcl, (fun x h => by simp at h), qpair⟩ (fun j σ' H' _ p => rd_t (tra.same p.2.2.2.2.2.2.1)) (fun j x σ' H' H'' hj p y => ?_) (fun σ' H6 p => ?_)
        · clear p0 p2 p3 p5 pl pe pd pf pn qnd qsub qcl qpair g0 g2 g3 g5 g6 gl hσ ys
          obtain ⟨p0, p2, p3, p5, p6, pl, pe, pf, ys, pd, pn, qnd, qsub, qcl, qrow, qpair⟩ := p
          obtain ⟨rfl, y⟩ := y
          obtain ⟨o, eo, rfl⟩ := get_map y
          refine st_gn ?_
          dsimp only
          generalize hσ : σ'.set 7 (some (V.int o)) = σ2
          have g0 : σ2[0]? = some (some (.ref wa)) := by subst hσ; simp [p0]
          have g2 : σ2[2]? = some (some (.ref ind)) := by subst hσ; simp [p2]
          have g3 : σ2[3]? = some (some (.ref far)) := by subst hσ; simp [p3]
          have g5 : σ2[5]? = some (some (.ref nw)) := by subst hσ; simp [p5]
          have g6 : σ2[6]? = some (some (.int z)) := by subst hσ; simp [p6]
          have g7 : σ2[7]? = some (some (.int o)) := by subst hσ; simp [pl]
          have gl : σ2.length = 8 := by subst hσ; simp [pl]
          obtain ⟨o1, hg1, hs1, _⟩ := (hin.same pe).get o
          obtain ⟨o2, hg2, hs2, _⟩ := pd.get o
          have hyl : (fs ++ ys).length ≤ 50 := Nat.le_trans (nodup_len qnd qsub) hz
          refine ⟨_, g7, _, g2, ind, o1, rfl, hg1, decide (o ∈ ks), by rw [hs1], ?_⟩
          by_cases ho : o ∈ ks
          · rw [decide_eq_true ho]
            refine ⟨_, g7, _, g3, far, o2, rfl, hg2, decide (o ∉ fs ++ ys), by rw [hs2]; simp, ?_⟩
            by_cases hof : o ∈ fs ++ ys
            · rw [decide_eq_false (fun z => z hof)]
              refine ⟨g0, g2, g3, g5, g6, gl, pe, pf, ys, pd, pn, qnd, qsub, qcl, fun y hy hk => ?_, qpair⟩
              rw [take_next eo] at hy
              rcases List.mem_append.mp hy with h | h
              · exact qrow y h hk
              · have : y = o := by simpa using h
                rw [this]
                exact hof
            · rw [decide_eq_true hof]
              obtain ⟨o3, hg3, hs3, hv3⟩ := pd.get z
              have hzin : z ∈ fs ++ ys := List.mem_append_left _ hzf
              rw [decide_eq_true hzin] at hs3
              obtain ⟨v3, rfl⟩ := Option.isSome_iff_exists.mp hs3
              obtain ⟨i3, rfl⟩ := hv3 v3 rfl
              obtain ⟨kvs, hput, hd'⟩ := pd.put (v := .int (i3 + 1)) hof ⟨_, rfl⟩ (by omega)
              refine ⟨_, g3, _, g6, far, _, rfl, hg3, _, _, rfl, rfl, _, g3, _, g7, far, _, rfl, hput, ?_⟩
              have nnf : nw ≠ far := pd.neL pn
              have nff : fr ≠ far := pd.neL pf
              have pn' : (upd H'' far (.dK kvs)) nw = some (.lst (ys.map V.int)) := by rw [upd_ne nnf]; exact pn
              have pf' : (upd H'' far (.dK kvs)) fr = some (.lst (xs.map V.int)) := by rw [upd_ne nff]; exact pf
              have pe' := pe.mut hfar (o := .dK kvs)
              refine ⟨_, g5, tyL (sq_of pn'), _, g7, nw, _, _, rfl, rfl, pn', by rw [List.length_map]; rw [List.length_append] at hyl; exact sz_lt (by omega), g0, g2, g3, g5, g6, gl, pe'.mut hnwH, by rw [upd_ne nfr]; exact pf', ys ++ [o], ?_, by rw [upd_same, List.map_append]; rfl, ?_, ?_, ?_, ?_, ?_⟩
              · rw [← List.append_assoc]
                exact hd'.keep nnf
              · rw [← List.append_assoc]
                exact nd_snoc qnd hof
              · rw [← List.append_assoc]
                intro x hx
                rcases List.mem_append.mp hx with h | h
                · exact qsub x h
                · have : x = o := by simpa using h
                  rw [this]
                  exact ho
              · rw [← List.append_assoc]
                exact fun x hx y hy hr => List.mem_append_left _ (qcl x hx y hy hr)
              · rw [← List.append_assoc]
                intro y hy hk
                rw [take_next eo] at hy
                rcases List.mem_append.mp hy with h | h
                · exact List.mem_append_left _ (qrow y h hk)
                · exact List.mem_append_right _ h
              · rw [← List.append_assoc]
                intro _
                refine ⟨z, List.mem_append_left _ hzin, o, List.mem_append_right _ (by simp), fun e => hof (e ▸ hzin), ?_⟩
                rw [hrow]
                exact List.mem_of_getElem? eo
          · rw [decide_eq_false ho]
            refine ⟨g0, g2, g3, g5, g6, gl, pe, pf, ys, pd, pn, qnd, qsub, qcl, fun y hy hk => ?_, qpair⟩
            rw [take_next eo] at hy
            rcases List.mem_append.mp hy with h | h
            · exact qrow y h hk
            · have : y = o := by simpa using h
              rw [this] at hk
              exact absurd hk ho
        · obtain ⟨p0, p2, p3, p5, p6, pl, pe, pf, ys, pd, pn, qnd, qsub, qcl, qrow, qpair⟩ := p
          rw [List.length_map, List.take_length] at qrow
          refine ⟨p0, p2, p3, p5, pl, pe, pf, ys, pd, pn, qnd, qsub, fun x hx y hy hr => ?_, qpair⟩
          rw [take_next ez] at hx
          rcases List.mem_append.mp hx with h | h
          · exact qcl x h y hy hr
          · have : x = z := by simpa using h
            rw [this, hrow] at hr
            exact qrow y hr hy
      · obtain ⟨h0, h2, h3, h5, hl, he, hf, ys, hd, hn, qnd, qsub, qcl, qpair⟩ := p
        rw [List.length_map, List.take_length] at qcl
        refine ⟨_, h5, nw, ys, fs ++ ys, by simp [h0], by simp [h2], by simp [h3], by simp [hl], by simp [hl], he, hd, hn, fun x hx => List.mem_append_right _ hx, qnd, List.mem_append_left _ ha0, qsub, fun x hx hxy y hy hr => ?_, qpair, rfl⟩
        rcases List.mem_append.mp hx with h | h
        · by_cases hxx : x ∈ xs
          · exact qcl x hxx y hy hr
          · exact List.mem_append_left _ (hcl x h hxx y hy hr)
        · exact absurd h hxy
end
end Kx
namespace Kx
open PySem PySem.Spec PyProof.Rows L2
open Evl (Ex ex_rd ex_l ex_t st_of sq_of sz_lt sz_of)
/-- a row left open: its number, its tuple, its list and what is left there -/
structure Fr where
  num : Int
  t : Addr
  l : Addr
  xs : List Int
structure FrAt (H0 H : Hp) (f : Fr) : Prop where
  tup : H f.t = some (.tup [.int f.num, .ref f.l])
  lst : H f.l = some (.lst (f.xs.map V.int))
  new : H0 f.l = none
structure Stk (H0 H : Hp) (st : List Fr) : Prop where
  at_ : ∀ f ∈ st, FrAt H0 H f
  nd : (st.map Fr.l).Nodup
theorem Stk.upd {H0 H : Hp} {st : List Fr} (h : Stk H0 H st) {p : Addr} {o : HO} {u : HO} (hp : H p = some u) (hn : ∀ f ∈ st, f.l ≠ p) (hu : ∀ a b, u ≠ .tup [a, b]) : Stk H0 (upd H p o) st :=
  ⟨fun f hf => ⟨by rw [upd_ne (fun z : f.t = p => by have := (h.at_ f hf).tup; rw [z, hp] at this; exact hu _ _ (Option.some.inj this))]; exact (h.at_ f hf).tup, by rw [upd_ne (hn f hf)]; exact (h.at_ f hf).lst, (h.at_ f hf).new⟩, h.nd⟩
theorem Stk.ex {H0 H H' : Hp} {st : List Fr} (h : Stk H0 H st) (e : Ex H H') : Stk H0 H' st := ⟨fun f hf => ⟨e _ _ (h.at_ f hf).tup, e _ _ (h.at_ f hf).lst, (h.at_ f hf).new⟩, h.nd⟩
def stSum (st : List Fr) : Nat := (st.map fun f => f.xs.length + 1).sum
theorem stSum_snoc (st : List Fr) (f : Fr) : stSum (st ++ [f]) = stSum st + f.xs.length + 1 := by
  unfold stSum
  rw [List.map_append, List.sum_append]
  simp
  omega
theorem stSum_len (st : List Fr) : st.length ≤ stSum st := by
  unfold stSum
  induction st with
  | nil => simp
  | cons f st ih => rw [List.map_cons, List.sum_cons, List.length_cons]; omega
theorem snoc_of {α : Type} : ∀ {l : List α}, l ≠ [] → ∃ m x, l = m ++ [x]
  | l, h => ⟨l.dropLast, l.getLast h, (List.dropLast_concat_getLast h).symm⟩
section
variable {P : Program} {w : World} {K : PySem.W.Frag} {mg : PySem.Str → Option Value} {base : Heap} {A : Ads}
structure spFinished (vs : List V) (H : Hp) (Q : VK) (E : XK) : Prop where
  ex : ∃ (wa l : Addr) (ws : List Addr) (W : List (List Int)) (ns : List Int), vs = [.ref wa, .ref l] ∧ TT' H wa ws W ∧ Tu H l ns ∧ ns.Nodup ∧ ns.length ≤ 50 ∧ (∀ x ∈ ns, 0 ≤ x ∧ x < W.length) ∧ (∀ r ∈ W, r.length ≤ 10000) ∧
    ∀ (H' : Hp) (o : Addr) (ds : List Int), Ex H H' → H o = none → H' o = some (.lst (ds.map V.int)) → (∀ x ∈ ns, x ∈ ds) → ds.length ≤ 50 → Q (.ref o) H'
theorem sc54 : FnScope ["ways", "lot", "inside", "met", "done", "first", "open_rows", "number", "left", "other"] ["ways", "lot"] (defScope (topS 54)) := ⟨rfl, rfl, rfl, by decide +kernel, rfl, by decide +kernel, by decide +kernel⟩
/- slots: 0 ways, 1 lot, 2 inside, 3 met, 4 done, 5 first, 6 open_rows, 7 number, 8 left, 9 other -/
theorem ok_finished_order (T : Txt P K mg A) : DOk P w K mg base CX0 2 "finished_order" ["ways", "lot"] [] spFinished := by
  have D_marked_lot := (ok_marked_lot (P := P) (w := w) (base := base) T)
  refine T.finished_order.ok0 sc54 (fun vs H Q E h => ?_) (fun _ _ _ _ _ _ us hl => match us, hl with | [_, _], _ => rfl) (fun f cdv A' outer s H vs Q E hr h => ?_)
  · obtain ⟨wa, l, ws, W, ns, rfl, _⟩ := h
    rfl
  · obtain ⟨wa, l, ws, W, ns, rfl, hw, hl, hnd, hz, hW, hrl, q⟩ := h
    have hu := hu_of hr
    refine ⟨_, (pss_cons (ps_par3 (i := 2) (j := 3) (l := 4) rfl sc54.nd rfl rfl rfl (by decide) (by decide) (by decide) rfl rfl rfl (pa_cons (pe_d D_marked_lot hr (by rfl) pass0 (pa_cons (pv 1) pa_nil)) (pa_cons pe_dnewK (pa_cons (pe_lst pa_nil) pa_nil))) rfl)
      (pss_cons (ps_for PassesOwn.never rfl (kPiT (K := K) rfl (pv 1)) (pg_name (i := 5) sc54.nd rfl (Or.inl rfl)) (pss_cons (ps_if (pt_cmp (pc_din hu (pv 5) (pv 3))) (pss_one ps_continue) pss_nil)
      (pss_cons (ps_dput hu (pv 3) (pv 5) pe_bl (by rfl))
      (pss_cons (ps_set (i := 6) sc54.nd rfl (Or.inl rfl) (pe_lst (pa_cons (pe_tup (pa_cons (pv 5) (pa_cons (pe_callTy (T := "list") (kLst (K := K) rfl) (by rfl) (T.b "list") (by decide +kernel) (pa_cons (pe_ix (kIxT (K := K) rfl) (pv 0) (pv 5) (fun _ _ => rfl)) pa_nil)) pa_nil))) pa_nil)))
      (pss_one (ps_while PassesOwn.never (pt_cmpR op_gt (pe_callB (id := "len") (kLen (K := K) rfl) (by rfl) (T.b "len") (by decide +kernel) (pa_cons (pv 6) pa_nil)) pe_int (nomark _)) (pss_cons (ps_asg (pe_ix (kIxL (K := K) rfl) (pv 6) (pe_un un_neg pe_int) (fun _ _ => rfl)) (kTgt (K := K) (n := 2) rfl rfl (pgs_cons (pg_name (i := 7) sc54.nd rfl (Or.inl rfl)) (pgs_cons (pg_name (i := 8) sc54.nd rfl (Or.inl rfl)) pgs_nil)) rfl rfl))
      (pss_cons (ps_if (pt_cmpR op_eq (pe_callB (id := "len") (kLen (K := K) rfl) (by rfl) (T.b "len") (by decide +kernel) (pa_cons (pv 8) pa_nil)) pe_int (nomark _)) (pss_cons (ps_expr (kBM (K := K) rfl PySem.F.plainAttrs_list PySem.F.slot_list_append PySem.F.type_list_append mt_append (pv 4) (pa_cons (pv 7) pa_nil)))
      (pss_cons (ps_expr (kBM0 (K := K) rfl PySem.F.plainAttrs_list PySem.F.slot_list_pop PySem.F.type_list_pop mt_pop (pv 6)))
      (pss_one ps_continue))) pss_nil)
      (pss_cons (ps_set (i := 9) sc54.nd rfl (Or.inl rfl) (kBM0 (K := K) rfl PySem.F.plainAttrs_list PySem.F.slot_list_pop PySem.F.type_list_pop mt_pop (pv 8)))
      (pss_one (ps_if (PW.pt (pw_and (pt_cmp (pc_din hu (pv 9) (pv 2))) (pw_and1 (pt_cmp (pc_dnotin hu (pv 9) (pv 3)))))) (pss_cons (ps_dput hu (pv 3) (pv 9) pe_bl (by rfl))
      (pss_one (ps_expr (kBM (K := K) rfl PySem.F.plainAttrs_list PySem.F.slot_list_append PySem.F.type_list_append mt_append (pv 6) (pa_cons (pe_tup (pa_cons (pv 9) (pa_cons (pe_callTy (T := "list") (kLst (K := K) rfl) (by rfl) (T.b "list") (by decide +kernel) (pa_cons (pe_ix (kIxT (K := K) rfl) (pv 0) (pv 9) (fun _ _ => rfl)) pa_nil)) pa_nil))) pa_nil))))) pss_nil)))))))))))
      (pss_one (ps_ret (pv 4))))), ?_⟩
    refine st_seq ?_
    refine ⟨_, rfl, ⟨l, ns, rfl, hl, hnd, by omega, fun H1 ind e1 hindH hind => ?_⟩⟩
    refine fun met hmet => ⟨Nat.zero_le _, fun dn hdn => ?_⟩
    refine ⟨_, _, _, rfl, ?_⟩
    have e2 := ex2 (o := .dK []) e1 hmet
    have e3 := ex2 (o := .lst []) e2 hdn
    have hmetH := Evl.fresh_back e1 hmet
    have hdnH := Evl.fresh_back e2 hdn
    have nmd : dn ≠ met := (ne_of_none upd_same hdn).symm
    have hind3 : DKs (upd (upd H1 met (.dK [])) dn (.lst [])) ind ns anyV := hind.same ((Ex.new hmet).trans (Ex.new hdn))
    have nmi : met ≠ ind := hind.neN hmet
    have d3 : DKs (upd (upd H1 met (.dK [])) dn (.lst [])) met [] anyV := .nil (Ex.new hdn _ _ upd_same)
    dsimp only
    refine st_seq ?_
    have hl3 := hl.same e3
    refine ⟨_, rfl, l, rfl, ⟨_, rd_t hl3⟩, ?_⟩
    have hwf := hw.1
    refine for_it walk_tup (fun i σ' H' => σ'[0]? = some (some (.ref wa)) ∧ σ'[2]? = some (some (.ref ind)) ∧ σ'[3]? = some (some (.ref met)) ∧ σ'[4]? = some (some (.ref dn)) ∧ σ'.length = 10 ∧ Ex H H' ∧ DKs H' ind ns anyV ∧ ∃ (ms ds : List Int), DKs H' met ms anyV ∧ H' dn = some (.lst (ds.map V.int)) ∧
      ms.Nodup ∧ (∀ x ∈ ms, x ∈ ns) ∧ (∀ x : Int, x ∈ ms ↔ x ∈ ds) ∧ ds.length = ms.length ∧ ∀ x ∈ ns.take i, x ∈ ms) ⟨rfl, rfl, rfl, rfl, rfl, e3, hind3, [], [], d3, upd_same, by simp, by simp, by simp, rfl, by simp⟩ (fun i σ' H' _ p => rd_t (hl.same p.2.2.2.2.2.1)) (fun i x σ' H' H'' hi p y => ?_) (fun σ' H' p => ?_)
    · obtain ⟨p0, p2, p3, p4, pl, pe, pin, ms, ds, pm, pd, qnd, qsub, qiff, qlen, qtk⟩ := p
      obtain ⟨rfl, y⟩ := y
      obtain ⟨z, ez, rfl⟩ := get_map y
      have hzm := List.mem_of_getElem? ez
      obtain ⟨hz0, hzW⟩ := hW z hzm
      refine st_gn ?_
      dsimp only
      generalize hσ : σ'.set 5 (some (V.int z)) = σ2
      have g0 : σ2[0]? = some (some (.ref wa)) := by subst hσ; simp [p0]
      have g2 : σ2[2]? = some (some (.ref ind)) := by subst hσ; simp [p2]
      have g3 : σ2[3]? = some (some (.ref met)) := by subst hσ; simp [p3]
      have g4 : σ2[4]? = some (some (.ref dn)) := by subst hσ; simp [p4]
      have g5 : σ2[5]? = some (some (.int z)) := by subst hσ; simp [pl]
      have gl : σ2.length = 10 := by subst hσ; simp [pl]
      have hml := nodup_len qnd qsub
      obtain ⟨o1, hg1, hs1, _⟩ := pm.get z
      refine ⟨_, g5, _, g3, met, o1, rfl, hg1, decide (z ∈ ms), by rw [hs1], ?_⟩
      by_cases hzms : z ∈ ms
      · rw [decide_eq_true hzms]
        refine ⟨g0, g2, g3, g4, gl, pe, pin, ms, ds, pm, pd, qnd, qsub, qiff, qlen, fun x hx => ?_⟩
        rw [take_next ez] at hx
        rcases List.mem_append.mp hx with h | h
        · exact qtk x h
        · have : x = z := by simpa using h
          rw [this]
          exact hzms
      · rw [decide_eq_false hzms]
        obtain ⟨kvs, hput, hd'⟩ := pm.put (v := .bl true) hzms trivial (by omega)
        refine ⟨_, g3, _, g5, met, _, rfl, hput, ?_⟩
        have ndm : dn ≠ met := pm.neL pd
        have pd' : (upd H'' met (.dK kvs)) dn = some (.lst (ds.map V.int)) := by rw [upd_ne ndm]; exact pd
        have pe' := pe.mut hmetH (o := .dK kvs)
        have pin' : DKs (upd H'' met (.dK kvs)) ind ns anyV := pin.keep nmi
        generalize (upd H'' met (.dK kvs)) = Ha at hd' pd' pe' pin' ⊢
        obtain ⟨row, erow⟩ : ∃ row, W[z.toNat]? = some row := ⟨_, List.getElem?_eq_getElem (by omega)⟩
        obtain ⟨ra, era, tra⟩ := tus_at hw.2 erow
        have hzz : ((z.toNat : Nat) : Int) = z := Int.toNat_of_nonneg hz0
        have hatz : atI (ws.map V.ref) z = some (.ref ra) := by rw [← hzz]; exact atI_map era
        have hrow := hrl row (List.mem_of_getElem? erow)
        refine st_seq ?_
        refine ⟨_, g5, _, g0, _, g5, wa, _, _, _, rfl, rfl, rd_t (hw.ex pe').1, hatz, ra, _, rfl, .inr (rd_t (tra.same pe')), fun la hla => ⟨(by decide : 2 ≤ sizeLine), fun ta hta => ⟨(by decide : 1 ≤ sizeLine), fun op hop => ?_⟩⟩⟩
        have x1 : Ex Ha (upd Ha la (.lst (row.map V.int))) := Ex.new hla
        have x2 := ex2 (o := .tup [.int z, .ref la]) x1 hta
        have x3 := ex2 (o := .lst [.ref ta]) x2 hop
        have f1 : FrAt H (upd (upd (upd Ha la (.lst (row.map V.int))) ta (.tup [.int z, .ref la])) op (.lst [.ref ta])) ⟨z, ta, la, row⟩ :=
          ⟨Ex.new hop _ _ upd_same, ((Ex.new hta).trans (Ex.new hop)) _ _ upd_same, Evl.fresh_back pe' hla⟩
        have nol : la ≠ op := ne_of_none (Ex.new hta _ _ upd_same) hop
        have nod : op ≠ dn := (ne_of_none (x2 _ _ pd') hop).symm
        have nld : la ≠ dn := (ne_of_none pd' hla).symm
        have hopH := Evl.fresh_back (pe'.trans x2) hop
        have d9 := hd'.same x3
        have p9 := x3 _ _ pd'
        have i9 := pin'.same x3
        have e9 := pe'.trans x3
        have o9 : (upd (upd (upd Ha la (.lst (row.map V.int))) ta (.tup [.int z, .ref la])) op (.lst [.ref ta])) op = some (.lst (([⟨z, ta, la, row⟩] : List Fr).map fun f => V.ref f.t)) := upd_same
        generalize (upd (upd (upd Ha la (.lst (row.map V.int))) ta (.tup [.int z, .ref la])) op (.lst [.ref ta])) = Hb at f1 d9 p9 i9 e9 o9 x3 ⊢
        refine st_gn ?_
        dsimp only
        refine ⟨fun m σ' H' => σ'[0]? = some (some (.ref wa)) ∧ σ'[2]? = some (some (.ref ind)) ∧ σ'[3]? = some (some (.ref met)) ∧ σ'[4]? = some (some (.ref dn)) ∧ σ'[6]? = some (some (.ref op)) ∧ σ'.length = 10 ∧ Ex H H' ∧ DKs H' ind ns anyV ∧ ∃ (st : List Fr) (ms ds : List Int), DKs H' met ms anyV ∧ H' dn = some (.lst (ds.map V.int)) ∧ H' op = some (.lst (st.map fun f => V.ref f.t)) ∧ Stk H H' st ∧ (∀ f ∈ st, f.l ≠ op ∧ f.l ≠ dn) ∧
          ms.Nodup ∧ (∀ x ∈ ms, x ∈ ns) ∧ (∀ x : Int, x ∈ ms ↔ x ∈ ds ∨ x ∈ st.map Fr.num) ∧ ds.length + st.length = ms.length ∧ (∀ x ∈ ns.take (i + 1), x ∈ ms) ∧ m = (ns.length - ms.length) * 10002 + stSum st,
          ⟨_, by simp [g0], by simp [g2], by simp [g3], by simp [g4], by simp [gl], by simp [gl], e9, i9, [⟨z, ta, la, row⟩], ms ++ [z], ds, d9, p9, o9, ⟨fun f hf => ?_, by simp⟩, fun f hf => ?_, nd_snoc qnd hzms, fun x hx => ?_, fun x => ?_, ?_, fun x hx => ?_, rfl⟩, fun m σ' H' p => ?_⟩
        · have : f = ⟨z, ta, la, row⟩ := by simpa using hf
          subst this
          exact f1
        · have : f = ⟨z, ta, la, row⟩ := by simpa using hf
          subst this
          exact ⟨nol, nld⟩
        · rcases List.mem_append.mp hx with h | h
          · exact qsub x h
          · have : x = z := by simpa using h
            rw [this]
            exact hzm
        · rw [List.mem_append, qiff x]
          simp
        · simp [qlen]
        · rw [take_next ez] at hx
          rcases List.mem_append.mp hx with h | h
          · exact List.mem_append_left _ (qtk x h)
          · exact List.mem_append_right _ h
        clear g0 g2 g3 g4 g5 gl hσ p0 p2 p3 p4 pl pe pin pm pd qnd qsub qiff qlen qtk hml hg1 hs1 hzms hput hd' pd' pe' pin' x1 x2 x3 f1 d9 p9 i9 e9 o9 hla hta hop
        obtain ⟨p0, p2, p3, p4, p6, pl, pe, pin, st, ms, ds, pm, pd, po, pst, pne, qnd, qsub, qiff, qlen, qtk, hm⟩ := p
        have hml := nodup_len qnd qsub
        refine ⟨_, p6, op, _, rfl, .inl (sq_of po), _, _, rfl, rfl, ?_⟩
        by_cases hst : st = []
        · subst hst
          refine ⟨false, by simp, ?_⟩
          exact ⟨p0, p2, p3, p4, pl, pe, pin, ms, ds, pm, pd, qnd, qsub, fun x => by rw [qiff x]; simp, by simpa using qlen, qtk⟩
        · have hst1 : 0 < st.length := List.length_pos_iff.mpr hst
          refine ⟨true, by simp; omega, ?_⟩
          obtain ⟨st, f, rfl⟩ := snoc_of hst
          have hf := pst.at_ f (by simp)
          obtain ⟨nfo, nfd⟩ := pne f (by simp)
          have nop : op ≠ dn := nod
          refine ⟨fun σ2 H2 => ∃ m', m' < m ∧ σ2[0]? = some (some (.ref wa)) ∧ σ2[2]? = some (some (.ref ind)) ∧ σ2[3]? = some (some (.ref met)) ∧ σ2[4]? = some (some (.ref dn)) ∧ σ2[6]? = some (some (.ref op)) ∧ σ2.length = 10 ∧ Ex H H2 ∧ DKs H2 ind ns anyV ∧ ∃ (st : List Fr) (ms ds : List Int), DKs H2 met ms anyV ∧ H2 dn = some (.lst (ds.map V.int)) ∧ H2 op = some (.lst (st.map fun f => V.ref f.t)) ∧ Stk H H2 st ∧ (∀ f ∈ st, f.l ≠ op ∧ f.l ≠ dn) ∧
            ms.Nodup ∧ (∀ x ∈ ms, x ∈ ns) ∧ (∀ x : Int, x ∈ ms ↔ x ∈ ds ∨ x ∈ st.map Fr.num) ∧ ds.length + st.length = ms.length ∧ (∀ x ∈ ns.take (i + 1), x ∈ ms) ∧ m' = (ns.length - ms.length) * 10002 + stSum st, fun σ2 H2 p => p, ?_⟩
          have hlast : atI ((st ++ [f]).map fun f => V.ref f.t) (-1) = some (.ref f.t) := by rw [List.map_append]; exact atI_last _ _
          refine ⟨_, p6, _, rfl, op, _, _, _, rfl, rfl, sq_of po, hlast, ?_⟩
          refine ⟨f.t, _, rfl, st_of hf.tup, rfl, _, _, rfl, _, _, rfl, rfl, ?_⟩
          generalize hσ : (σ'.set 7 (some (V.int f.num))).set 8 (some (V.ref f.l)) = σ2
          have g0 : σ2[0]? = some (some (.ref wa)) := by subst hσ; simp [p0]
          have g2 : σ2[2]? = some (some (.ref ind)) := by subst hσ; simp [p2]
          have g3 : σ2[3]? = some (some (.ref met)) := by subst hσ; simp [p3]
          have g4 : σ2[4]? = some (some (.ref dn)) := by subst hσ; simp [p4]
          have g6 : σ2[6]? = some (some (.ref op)) := by subst hσ; simp [p6]
          have g7 : σ2[7]? = some (some (.int f.num)) := by subst hσ; simp [pl]
          have g8 : σ2[8]? = some (some (.ref f.l)) := by subst hσ; simp [pl]
          have gl : σ2.length = 10 := by subst hσ; simp [pl]
          have hfl := hf.lst
          have sub1 : ∀ g ∈ st, g ∈ st ++ [f] := fun g hg => List.mem_append_left _ hg
          have pst1 : Stk H H' st := ⟨fun g hg => pst.at_ g (sub1 g hg), by have := pst.nd; rw [List.map_append] at this; exact (List.nodup_append.mp this).1⟩
          have pne1 : ∀ g ∈ st, g.l ≠ op ∧ g.l ≠ dn := fun g hg => pne g (sub1 g hg)
          rw [List.length_append] at qlen
          rw [stSum_snoc] at hm
          have qlen' : ds.length + (st.length + 1) = ms.length := qlen
          refine ⟨_, g8, f.l, _, rfl, .inl (sq_of hfl), rfl, ?_⟩
          by_cases hx0 : f.xs = []
          · refine ⟨true, by rw [hx0]; rfl, ?_⟩
            refine ⟨_, g4, tyL (sq_of pd), _, g7, dn, _, _, rfl, rfl, pd, by rw [List.length_map]; exact sz_lt (by omega), ?_⟩
            have po' : (upd H' dn (.lst (ds.map V.int ++ [V.int f.num]))) op = some (.lst ((st ++ [f]).map fun f => V.ref f.t)) := by rw [upd_ne nop]; exact po
            refine ⟨_, g6, tyL (sq_of po'), op, _, .ref f.t, rfl, rfl, po', by rw [List.map_append, List.length_append]; simp, ?_⟩
            refine ⟨_, ?_, g0, g2, g3, g4, g6, gl, (pe.mut hdnH).mut hopH, (pin.keep (pin.neL pd)).keep (pin.neL po), st, ms, ds ++ [f.num], (pm.keep (pm.neL pd)).keep (pm.neL po), ?_, ?_, ?_, pne1, qnd, qsub, fun x => ?_, ?_, qtk, rfl⟩
            · rw [hm]
              omega
            · rw [upd_ne (Ne.symm nop), upd_same, List.map_append]
              rfl
            · rw [upd_same, List.map_append]
              simp
            · exact (pst1.upd pd (fun g hg => (pne1 g hg).2) (fun _ _ z => nomatch z)).upd po' (fun g hg => (pne1 g hg).1) (fun _ _ z => nomatch z)
            · rw [qiff x]
              simp
              constructor
              · rintro (h | h | h)
                · exact .inl (.inl h)
                · exact .inr h
                · exact .inl (.inr h)
              · rintro ((h | h) | h)
                · exact .inl h
                · exact .inr (.inr h)
                · exact .inr (.inl h)
            · rw [List.length_append]
              simp
              omega
          · obtain ⟨xs', o, hxs⟩ := snoc_of hx0
            refine ⟨false, by simp [hx0], ?_⟩
            have hlen : f.xs.length = xs'.length + 1 := by rw [hxs]; simp
            refine ⟨_, g8, tyL (sq_of hfl), f.l, _, .int o, rfl, rfl, hfl, by rw [hxs]; simp, ?_⟩
            have hdl : (f.xs.map V.int).dropLast = xs'.map V.int := by rw [hxs]; simp
            rw [hdl]
            refine st_gn ?_
            dsimp only
            generalize hσ3 : σ2.set 9 (some (V.int o)) = σ3
            have f0 : σ3[0]? = some (some (.ref wa)) := by subst hσ3; simp [g0]
            have f2 : σ3[2]? = some (some (.ref ind)) := by subst hσ3; simp [g2]
            have f3 : σ3[3]? = some (some (.ref met)) := by subst hσ3; simp [g3]
            have f4 : σ3[4]? = some (some (.ref dn)) := by subst hσ3; simp [g4]
            have f6 : σ3[6]? = some (some (.ref op)) := by subst hσ3; simp [g6]
            have f9 : σ3[9]? = some (some (.int o)) := by subst hσ3; simp [gl]
            have fl : σ3.length = 10 := by subst hσ3; simp [gl]
            have ndst : ∀ g ∈ st, g.l ≠ f.l := fun g hg z => by
              have := pst.nd
              rw [List.map_append] at this
              exact (List.nodup_append.mp this).2.2 _ (List.mem_map.mpr ⟨g, hg, rfl⟩) f.l (by simp) z
            have peB := pe.mut hf.new (o := .lst (xs'.map V.int))
            have pinB : DKs (upd H' f.l (.lst (xs'.map V.int))) ind ns anyV := pin.keep (pin.neL hfl)
            have pmB : DKs (upd H' f.l (.lst (xs'.map V.int))) met ms anyV := pm.keep (pm.neL hfl)
            have pdB : (upd H' f.l (.lst (xs'.map V.int))) dn = some (.lst (ds.map V.int)) := by rw [upd_ne (Ne.symm nfd)]; exact pd
            have poB : (upd H' f.l (.lst (xs'.map V.int))) op = some (.lst ((st ++ [f]).map fun f => V.ref f.t)) := by rw [upd_ne (Ne.symm nfo)]; exact po
            have pstB : Stk H (upd H' f.l (.lst (xs'.map V.int))) (st ++ [⟨f.num, f.t, f.l, xs'⟩]) := by
              refine ⟨fun g hg => ?_, by have := pst.nd; simpa using this⟩
              rcases List.mem_append.mp hg with h | h
              · exact (pst1.upd hfl (fun g hg => ndst g hg) (fun _ _ z => nomatch z)).at_ g h
              · have : g = ⟨f.num, f.t, f.l, xs'⟩ := by simpa using h
                subst this
                exact ⟨by rw [upd_ne (ne_of hf.tup hfl (fun z => nomatch z))]; exact hf.tup, upd_same, hf.new⟩
            have pneB : ∀ g ∈ st ++ [⟨f.num, f.t, f.l, xs'⟩], g.l ≠ op ∧ g.l ≠ dn := fun g hg => by
              rcases List.mem_append.mp hg with h | h
              · exact pne1 g h
              · have : g = ⟨f.num, f.t, f.l, xs'⟩ := by simpa using h
                subst this
                exact ⟨nfo, nfd⟩
            have hmapt : (st ++ [f]).map (fun f => V.ref f.t) = (st ++ [(⟨f.num, f.t, f.l, xs'⟩ : Fr)]).map fun f => V.ref f.t := by simp
            have hmapn : (st ++ [f]).map Fr.num = (st ++ [(⟨f.num, f.t, f.l, xs'⟩ : Fr)]).map Fr.num := by simp
            rw [hmapt] at poB
            rw [hmapn] at qiff
            have hsm : stSum (st ++ [⟨f.num, f.t, f.l, xs'⟩]) + 1 = stSum st + f.xs.length + 1 := by
              rw [stSum_snoc, hlen]
              show stSum st + xs'.length + 1 + 1 = stSum st + (xs'.length + 1) + 1
              omega
            have hsl : (st ++ [(⟨f.num, f.t, f.l, xs'⟩ : Fr)]).length = st.length + 1 := by simp
            generalize (st ++ [(⟨f.num, f.t, f.l, xs'⟩ : Fr)]) = st2 at pstB pneB poB qiff hsm hsl
            generalize (upd H' f.l (.lst (xs'.map V.int))) = HB at peB pinB pmB pdB poB pstB ⊢
            clear hmapt hmapn pst1 pne1 sub1 hlast hfl hf pst pne pd po pin pm pe hσ g0 g2 g3 g4 g6 g7 g8 gl p0 p2 p3 p4 p6 pl ndst
            obtain ⟨o1, hg1, hs1, _⟩ := pinB.get o
            obtain ⟨o2, hg2, hs2, _⟩ := pmB.get o
            refine ⟨_, f9, _, f2, ind, o1, rfl, hg1, decide (o ∈ ns), by rw [hs1], ?_⟩
            by_cases ho : o ∈ ns
            · rw [decide_eq_true ho]
              refine ⟨_, f9, _, f3, met, o2, rfl, hg2, decide (o ∉ ms), by rw [hs2]; simp, ?_⟩
              by_cases hom : o ∈ ms
              · rw [decide_eq_false (fun z => z hom)]
                refine ⟨_, ?_, f0, f2, f3, f4, f6, fl, peB, pinB, st2, ms, ds, pmB, pdB, poB, pstB, pneB, qnd, qsub, qiff, by omega, qtk, rfl⟩
                rw [hm]
                omega
              · rw [decide_eq_true hom]
                obtain ⟨kvs, hput, hd'⟩ := pmB.put (v := .bl true) hom trivial (by omega)
                refine ⟨_, f3, _, f9, met, _, rfl, hput, ?_⟩
                have ndm : dn ≠ met := pmB.neL pdB
                have nom : op ≠ met := pmB.neL poB
                obtain ⟨ho0, hoW⟩ := hW o ho
                obtain ⟨row, erow⟩ : ∃ row, W[o.toNat]? = some row := ⟨_, List.getElem?_eq_getElem (by omega)⟩
                obtain ⟨ra, era, tra⟩ := tus_at hw.2 erow
                have hoo : ((o.toNat : Nat) : Int) = o := Int.toNat_of_nonneg ho0
                have hato : atI (ws.map V.ref) o = some (.ref ra) := by rw [← hoo]; exact atI_map era
                have hrow := hrl row (List.mem_of_getElem? erow)
                obtain ⟨kv0, hk0, _, _⟩ := pmB.ex
                have pdC : (upd HB met (.dK kvs)) dn = some (.lst (ds.map V.int)) := by rw [upd_ne ndm]; exact pdB
                have poC : (upd HB met (.dK kvs)) op = some (.lst (st2.map fun f => V.ref f.t)) := by rw [upd_ne nom]; exact poB
                have peC := peB.mut hmetH (o := .dK kvs)
                have pinC : DKs (upd HB met (.dK kvs)) ind ns anyV := pinB.keep nmi
                have pstC : Stk H (upd HB met (.dK kvs)) st2 := pstB.upd hk0 (fun g hg => ne_of (pstB.at_ g hg).lst hk0 fun z => nomatch z) (fun _ _ z => nomatch z)
                generalize (upd HB met (.dK kvs)) = HC at hd' pdC poC peC pinC pstC ⊢
                refine ⟨_, f6, tyL (sq_of poC), st_c1 ⟨_, f9, _, f0, _, f9, wa, _, _, _, rfl, rfl, rd_t (hw.ex peC).1, hato, ra, _, rfl, .inr (rd_t (tra.same peC)), fun la hla => ⟨(by decide : 2 ≤ sizeLine), fun ta hta => ?_⟩⟩⟩
                have x1 : Ex HC (upd HC la (.lst (row.map V.int))) := Ex.new hla
                have x2 := ex2 (o := .tup [.int o, .ref la]) x1 hta
                have poD := x2 _ _ poC
                refine ⟨op, _, _, rfl, rfl, poD, by rw [List.length_map]; exact sz_lt (by omega), ?_⟩
                have nla : la ≠ op := (ne_of_none poC hla).symm
                have nld : la ≠ dn := (ne_of_none pdC hla).symm
                have hdl : ds.length + (st2.length + 1) = (ms ++ [o]).length := by rw [List.length_append]; simp; omega
                refine ⟨_, ?_, f0, f2, f3, f4, f6, fl, (peC.trans x2).mut hopH, (pinC.same x2).keep ((pinC.same x2).neL poD), st2 ++ [⟨o, ta, la, row⟩], ms ++ [o], ds, (hd'.same x2).keep ((hd'.same x2).neL poD), ?_, ?_, ?_, fun g hg => ?_, nd_snoc qnd hom, fun x hx => ?_, fun x => ?_, ?_, fun x hx => List.mem_append_left _ (qtk x hx), rfl⟩
                · rw [hm, stSum_snoc, List.length_append]
                  have h1 : ms.length < ns.length := by
                    have := nodup_len (nd_snoc qnd hom) (m := ns) (fun x hx => by
                      rcases List.mem_append.mp hx with h | h
                      · exact qsub x h
                      · have : x = o := by simpa using h
                        rw [this]
                        exact ho)
                    rw [List.length_append] at this
                    simp at this
                    omega
                  have h2 : (ns.length - (ms.length + [o].length)) * 10002 + 10002 = (ns.length - ms.length) * 10002 := by
                    have : ns.length - ms.length = (ns.length - (ms.length + 1)) + 1 := by omega
                    rw [this, Nat.succ_mul]
                    rfl
                  show _ + (_ + row.length + 1) < _
                  omega
                · rw [upd_ne (Ne.symm nop)]
                  exact x2 _ _ pdC
                · rw [upd_same, List.map_append]
                  rfl
                · have h3 := (pstC.ex x2).upd (o := .lst (st2.map (fun f => V.ref f.t) ++ [V.ref ta])) poD (fun g hg => (pneB g hg).1) (fun _ _ z => nomatch z)
                  refine ⟨fun g hg => ?_, ?_⟩
                  · rcases List.mem_append.mp hg with h | h
                    · exact h3.at_ g h
                    · have : g = ⟨o, ta, la, row⟩ := by simpa using h
                      subst this
                      refine ⟨?_, ?_, Evl.fresh_back peC hla⟩
                      · rw [upd_ne (ne_of upd_same poD fun z => nomatch z), upd_same]
                      · rw [upd_ne nla]
                        exact Ex.new hta _ _ upd_same
                  · rw [List.map_append]
                    refine List.nodup_append.mpr ⟨h3.nd, by simp, fun a ha b hb e => ?_⟩
                    obtain ⟨g, hg, rfl⟩ := List.mem_map.mp ha
                    have : b = la := by simpa using hb
                    subst this
                    have h4 := (pstC.at_ g hg).lst
                    rw [e, hla] at h4
                    cases h4
                · rcases List.mem_append.mp hg with h | h
                  · exact pneB g h
                  · have : g = ⟨o, ta, la, row⟩ := by simpa using h
                    subst this
                    exact ⟨nla, nld⟩
                · rcases List.mem_append.mp hx with h | h
                  · exact qsub x h
                  · have : x = o := by simpa using h
                    rw [this]
                    exact ho
                · rw [List.mem_append, qiff x, List.map_append, List.mem_append]
                  simp
                  constructor
                  · rintro ((h | h) | h)
                    · exact .inl h
                    · exact .inr (.inl h)
                    · exact .inr (.inr h)
                  · rintro (h | h | h)
                    · exact .inl (.inl h)
                    · exact .inl (.inr h)
                    · exact .inr h
                · rw [List.length_append]
                  exact hdl
            · rw [decide_eq_false ho]
              refine ⟨_, ?_, f0, f2, f3, f4, f6, fl, peB, pinB, st2, ms, ds, pmB, pdB, poB, pstB, pneB, qnd, qsub, qiff, by omega, qtk, rfl⟩
              rw [hm]
              omega
    · obtain ⟨p0, p2, p3, p4, pl, pe, pin, ms, ds, pm, pd, qnd, qsub, qiff, qlen, qtk⟩ := p
      rw [List.length_map, List.take_length] at qtk
      have hml := nodup_len qnd qsub
      exact ⟨_, p4, q H' dn ds pe hdnH pd (fun x hx => (qiff x).mp (qtk x hx)) (by omega)⟩
end
end Kx
namespace Kx
open PySem PySem.Spec PyProof.Rows L2
open Evl (Ex ex_rd ex_l ex_t st_of sq_of sz_lt sz_of)
def Adj (ar : List (Nat × Nat)) (x y : Int) : Prop := ∃ s t : Nat, x = s ∧ y = t ∧ (s, t) ∈ ar
structure SymG (ar : List (Nat × Nat)) : Prop where
  sym : ∀ s t : Nat, (s, t) ∈ ar → (t, s) ∈ ar
theorem Adj.symm {ar : List (Nat × Nat)} (h : SymG ar) {x y : Int} (a : Adj ar x y) : Adj ar y x := let ⟨s, t, h1, h2, h3⟩ := a; ⟨t, s, h2, h1, h.sym s t h3⟩
theorem row_adj {ar : List (Nat × Nat)} {n : Nat} {Ah : List (List Int)} (h : Ways n ar Ah) {x y : Int} (h0 : 0 ≤ x) (h1 : x < Ah.length) : y ∈ rowW Ah x ↔ Adj ar x y := by
  obtain ⟨row, er⟩ : ∃ row, Ah[x.toNat]? = some row := ⟨_, List.getElem?_eq_getElem (by omega)⟩
  rw [rowW_at er, h.mem x.toNat row er]
  constructor
  · rintro ⟨t, rfl, ht⟩
    exact ⟨x.toNat, t, (Int.toNat_of_nonneg h0).symm, rfl, ht⟩
  · rintro ⟨s, t, rfl, rfl, ht⟩
    exact ⟨t, rfl, ht⟩
theorem adj_swap {ar : List (Nat × Nat)} (h : SymG ar) {x y : Int} : Adj (ar.map fun a => (a.2, a.1)) x y ↔ Adj ar x y := by
  constructor
  · rintro ⟨s, t, rfl, rfl, ht⟩
    obtain ⟨a, ha, e⟩ := List.mem_map.mp ht
    have e1 : a.2 = s := congrArg Prod.fst e
    have e2 : a.1 = t := congrArg Prod.snd e
    exact ⟨s, t, rfl, rfl, h.sym t s (by rw [← e1, ← e2]; exact ha)⟩
  · rintro ⟨s, t, rfl, rfl, ht⟩
    exact ⟨s, t, rfl, rfl, List.mem_map.mpr ⟨(t, s), h.sym s t ht, rfl⟩⟩
/-- parted into lots -/
structure LotsP (ar : List (Nat × Nat)) (ins : List Int) (Ls : List (List Int)) : Prop where
  sub : ∀ L ∈ Ls, ∀ x ∈ L, x ∈ ins
  asc : ∀ L ∈ Ls, L.Pairwise (· < ·)
  ne : ∀ L ∈ Ls, L ≠ []
  cl : ∀ L ∈ Ls, ∀ x ∈ L, ∀ y ∈ ins, Adj ar x y → y ∈ L
  dis : Ls.Pairwise fun L M => ∀ x ∈ L, x ∉ M
  pair : ∀ L ∈ Ls, 2 ≤ L.length → ∃ x ∈ L, ∃ y ∈ L, x ≠ y ∧ Adj ar x y
structure Lots (ar : List (Nat × Nat)) (ins : List Int) (Ls : List (List Int)) : Prop extends LotsP ar ins Ls where
  cov : ∀ x ∈ ins, ∃ L ∈ Ls, x ∈ L
theorem LotsP.snoc {ar : List (Nat × Nat)} {ins : List Int} {Ls : List (List Int)} (h : LotsP ar ins Ls) (hs : SymG ar) {ks fs ys : List Int} {z : Int} {W : List (List Int)} (hks : ∀ x : Int, x ∈ ks ↔ x ∈ ins ∧ ∀ L ∈ Ls, x ∉ L) (r : Reach W ks z fs) (hW : ∀ x ∈ ins, ∀ y, y ∈ rowW W x ↔ Adj ar x y) (hp : ys.Perm fs) (ha : ys.Pairwise (· ≤ ·)) : LotsP ar ins (Ls ++ [ys]) := by
  have hyk : ∀ x ∈ ys, x ∈ ins ∧ ∀ L ∈ Ls, x ∉ L := fun x hx => (hks x).mp (r.sub x (hp.mem_iff.mp hx))
  have hcl : ∀ x ∈ ys, ∀ y ∈ ins, Adj ar x y → y ∈ ys := fun x hx y hy hadj => by
    by_cases hL : ∃ L ∈ Ls, y ∈ L
    · obtain ⟨L, hL, hyL⟩ := hL
      exact absurd (h.cl L hL y hyL x (hyk x hx).1 (hadj.symm hs)) ((hyk x hx).2 L hL)
    · have hyks : y ∈ ks := (hks y).mpr ⟨hy, fun L hL' hyL => hL ⟨L, hL', hyL⟩⟩
      exact hp.mem_iff.mpr (r.closed x (hp.mem_iff.mp hx) y hyks ((hW x (hyk x hx).1 y).mpr hadj))
  refine ⟨fun L hL => ?_, fun L hL => ?_, fun L hL => ?_, fun L hL => ?_, ?_, fun L hL => ?_⟩
  · rcases List.mem_append.mp hL with h' | h'
    · exact h.sub L h'
    · have : L = ys := by simpa using h'
      subst this
      exact fun x hx => (hyk x hx).1
  · rcases List.mem_append.mp hL with h' | h'
    · exact h.asc L h'
    · have : L = ys := by simpa using h'
      subst this
      have hnd : L.Nodup := hp.nodup_iff.mpr r.nd
      exact List.Pairwise.imp (fun {a b} hab => by obtain ⟨h1, h2⟩ := hab; have : a ≠ b := h2; omega) (ha.and hnd)
  · rcases List.mem_append.mp hL with h' | h'
    · exact h.ne L h'
    · have : L = ys := by simpa using h'
      subst this
      intro e
      have := hp.mem_iff.mpr r.a0
      rw [e] at this
      simp at this
  · rcases List.mem_append.mp hL with h' | h'
    · exact h.cl L h'
    · have : L = ys := by simpa using h'
      subst this
      exact hcl
  · refine List.pairwise_append.mpr ⟨h.dis, by simp, fun L hL M hM x hx hxM => ?_⟩
    have : M = ys := by simpa using hM
    subst this
    exact (hyk x hxM).2 L hL hx
  · rcases List.mem_append.mp hL with h' | h'
    · exact h.pair L h'
    · have : L = ys := by simpa using h'
      subst this
      intro h2
      have hne : fs ≠ [z] := fun e => by
        have := hp.length_eq
        rw [e] at this
        simp at this
        omega
      obtain ⟨x, hx, y, hy, hxy, hr⟩ := r.pair hne
      exact ⟨x, hp.mem_iff.mpr hx, y, hp.mem_iff.mpr hy, hxy, (hW x (hyk x (hp.mem_iff.mpr hx)).1 y).mp hr⟩
theorem Lots.perm {ar : List (Nat × Nat)} {ins : List Int} {Ls Ms : List (List Int)} (h : Lots ar ins Ls) (p : Ms.Perm Ls) : Lots ar ins Ms where
  sub := fun L hL => h.sub L (p.mem_iff.mp hL)
  asc := fun L hL => h.asc L (p.mem_iff.mp hL)
  ne := fun L hL => h.ne L (p.mem_iff.mp hL)
  cl := fun L hL => h.cl L (p.mem_iff.mp hL)
  dis := (p.symm.pairwise_iff (R := fun L M : List Int => ∀ x ∈ L, x ∉ M) (fun {L M} hLM x hxM hxL => hLM x hxL hxM)).mp h.dis
  pair := fun L hL => h.pair L (p.mem_iff.mp hL)
  cov := fun x hx => let ⟨L, hL, hxL⟩ := h.cov x hx; ⟨L, p.mem_iff.mpr hL, hxL⟩
end Kx
namespace Kx
open PySem PySem.Spec PyProof.Rows L2
open Evl (Ex ex_rd ex_l ex_t st_of sq_of sz_lt sz_of)
/-- a house with its ways -/
structure HsW (A : Ads) (H : Hp) (x : Addr) (n : Nat) (ar : List (Nat × Nat)) (ns : List Int) (nss Ah Bh : List (List Int)) : Prop where
  hs : HsAt A H x ns nss Ah Bh
  wa : Ways n ar Ah
  wb : Ways n (ar.map fun a => (a.2, a.1)) Bh
  sy : SymG ar
  ln : nss.length = n + 1
  n6 : n ≤ 6
theorem HsW.ex {A : Ads} {H H' : Hp} {x : Addr} {n : Nat} {ar : List (Nat × Nat)} {ns : List Int} {nss Ah Bh : List (List Int)} (h : HsW A H x n ar ns nss Ah Bh) (e : Ex H H') : HsW A H' x n ar ns nss Ah Bh := { h with hs := h.hs.same e }
section
variable {P : Program} {w : World} {K : PySem.W.Frag} {mg : PySem.Str → Option Value} {base : Heap} {A : Ads}
structure spLoose (A : Ads) (vs : List V) (H : Hp) (Q : VK) (E : XK) : Prop where
  ex : ∃ (x l : Addr) (n : Nat) (ar : List (Nat × Nat)) (ns : List Int) (nss Ah Bh : List (List Int)) (ins : List Int), vs = [.ref x, .ref l] ∧ HsW A H x n ar ns nss Ah Bh ∧ Tu H l ins ∧ ins.Pairwise (· < ·) ∧ (∀ y ∈ ins, 0 ≤ y ∧ y < (n : Int) + 1) ∧
    ∀ (H' : Hp) (b : Addr) (rs : List Addr) (Ls : List (List Int)), Ex H H' → LT H' b rs Ls → Lots ar ins Ls → Q (.ref b) H'
theorem sc55 : FnScope ["house", "lot", "left", "lots", "number", "found", "one"] ["house", "lot"] (defScope (topS 55)) := ⟨rfl, rfl, rfl, by decide +kernel, rfl, by decide +kernel, by decide +kernel⟩
/- slots: 0 house, 1 lot, 2 left, 3 lots, 4 number, 5 found, 6 one -/
theorem asc_len {n : Nat} {ins : List Int} (ha : ins.Pairwise (· < ·)) (hb : ∀ y ∈ ins, 0 ≤ y ∧ y < (n : Int) + 1) : ins.length ≤ n + 1 := by
  have h1 := nodup_len (asc_nodup ha) (m := iota (n + 1)) fun x hx => by
    obtain ⟨h1, h2⟩ := hb x hx
    exact List.mem_map.mpr ⟨x.toNat, List.mem_range.mpr (by omega), Int.toNat_of_nonneg h1⟩
  rw [iota_len] at h1
  exact h1
theorem disj_len {Ls : List (List Int)} : ∀ {ins : List Int}, ins.Nodup → (∀ L ∈ Ls, ∀ x ∈ L, x ∈ ins) → (∀ L ∈ Ls, L ≠ []) → Ls.Pairwise (fun L M => ∀ x ∈ L, x ∉ M) → Ls.length ≤ ins.length := by
  induction Ls with
  | nil => intros; exact Nat.zero_le _
  | cons L Ls ih =>
    intro ins hnd hsub hne hdis
    obtain ⟨h1, h2⟩ := List.pairwise_cons.mp hdis
    have hL := hne L List.mem_cons_self
    obtain ⟨x, hx⟩ := List.exists_mem_of_ne_nil L hL
    have hxi := hsub L List.mem_cons_self x hx
    have h3 := ih (ins := ins.erase x) (hnd.erase x) (fun M hM y hy => (List.mem_erase_of_ne (fun z : y = x => h1 M hM x hx (z ▸ hy))).mpr (hsub M (List.mem_cons_of_mem _ hM) y hy)) (fun M hM => hne M (List.mem_cons_of_mem _ hM)) h2
    have h4 := List.length_erase_of_mem hxi
    have h5 : 0 < ins.length := List.length_pos_of_mem hxi
    rw [List.length_cons]
    omega
theorem ok_loose_lots (T : Txt P K mg A) : DOk P w K mg base CX0 3 "loose_lots" ["house", "lot"] [] (spLoose A) := by
  have D_marked_lot := (ok_marked_lot (P := P) (w := w) (base := base) T).mono (by decide : 1 ≤ 2)
  have D_finished_order := (ok_finished_order (P := P) (w := w) (base := base) T)
  have D_spread_from := (ok_spread_from (P := P) (w := w) (base := base) T).mono (by decide : 1 ≤ 2)
  refine T.loose_lots.ok0 sc55 (fun vs H Q E h => ?_) (fun _ _ _ _ _ _ us hl => match us, hl with | [_, _], _ => rfl) (fun f cdv A' outer s H vs Q E hr h => ?_)
  · obtain ⟨x, l, n, ar, ns, nss, Ah, Bh, ins, rfl, _⟩ := h
    rfl
  · obtain ⟨x, l, n, ar, ns, nss, Ah, Bh, ins, rfl, hx, hl, hasc, hins, q⟩ := h
    have hu := hu_of hr
    have hnd := asc_nodup hasc
    have hlen := asc_len hasc hins
    have hn6 := hx.n6
    refine ⟨_, (pss_cons (ps_par (i := 2) (j := 3) rfl sc55.nd rfl rfl (by decide) rfl rfl (pa_cons (pe_d D_marked_lot hr (by rfl) pass0 (pa_cons (pv 1) pa_nil)) (pa_cons (pe_lst pa_nil) pa_nil)) rfl)
      (pss_cons (ps_for PassesOwn.never rfl (kRev (K := K) rfl (by rfl) (T.b "reversed") (pa_cons (pe_d D_finished_order hr (by rfl) pass0 (pa_cons (kFld (K := K) rfl (pv 0) (by rfl)) (pa_cons (pv 1) pa_nil))) pa_nil)) (pg_name (i := 4) sc55.nd rfl (Or.inl rfl)) (pss_one (ps_if (pt_cmp (pc_din hu (pv 4) (pv 2))) (pss_cons (ps_set (i := 5) sc55.nd rfl (Or.inl rfl) (pe_callB (id := "sorted") (call_sortedDI rfl) (by rfl) (T.b "sorted") (by decide +kernel) (pa_cons (pe_d D_spread_from hr (by rfl) pass0 (pa_cons (kFld (K := K) rfl (pv 0) (by rfl)) (pa_cons (pv 4) (pa_cons (pv 2) pa_nil)))) pa_nil)))
      (pss_cons (ps_expr (kBM (K := K) rfl PySem.F.plainAttrs_list PySem.F.slot_list_append PySem.F.type_list_append mt_append (pv 3) (pa_cons (pe_callTy (T := "tuple") (kTup (K := K) rfl) (by rfl) (T.b "tuple") (by decide +kernel) (pa_cons (pv 5) pa_nil)) pa_nil)))
      (pss_one (ps_for PassesOwn.never rfl (kPiL (K := K) rfl (pv 5)) (pg_name (i := 6) sc55.nd rfl (Or.inl rfl)) (pss_one (ps_expr (pe_dpop1 (pv 2) (pv 6) ⟨by rfl, by rfl, by rfl, by rfl⟩))))))) pss_nil)))
      (pss_one (ps_ret (pe_callB (id := "sorted") (kSortTu (K := K) rfl hr.units) (by rfl) (T.b "sorted") (by decide +kernel) (pa_cons (pv 3) pa_nil)))))), ?_⟩
    refine st_seq (st_par ?_)
    refine ⟨_, rfl, ⟨l, ins, rfl, hl, hnd, by omega, fun H1 lf e1 hlfH hlf => ⟨Nat.zero_le _, fun lo hlo => ?_⟩⟩⟩
    have e2 := ex2 (o := .lst []) e1 hlo
    have hlf2 := hlf.same (Ex.new (o := .lst []) hlo)
    have hloH := Evl.fresh_back e1 hlo
    have hx2 := hx.ex e2
    dsimp only
    refine st_seq ?_
    refine fld_ahead T hx2.hs (fun aw aas tA => ?_) (fun R r => ⟨_, rfl, r⟩)
    refine ⟨_, rfl, ⟨aw, l, aas, Ah, ins, rfl, tA, hl.same e2, hnd, by omega, fun y hy => ?_, hx.wa.small, fun H3 od ds e3 hodN hod hcov hdl => ?_⟩⟩
    · have h1 := hins y hy
      have h2 := hx.wa.len
      exact ⟨h1.1, by omega⟩
    have e13 := e2.trans e3
    refine ⟨od, _, rfl, sq_of hod, ?_⟩
    have hods := ds.length
    refine for_it walk_rev (fun i σ' H' => σ'[0]? = some (some (.ref x)) ∧ σ'[2]? = some (some (.ref lf)) ∧ σ'[3]? = some (some (.ref lo)) ∧ σ'.length = 7 ∧ Ex H H' ∧ H' od = some (.lst (ds.map V.int)) ∧ ∃ (ks : List Int) (rs : List Addr) (Ls : List (List Int)), DKs H' lf ks anyV ∧ H' lo = some (.lst (rs.map V.ref)) ∧ Tus H' rs Ls ∧ LotsP ar ins Ls ∧ (∀ x : Int, x ∈ ks ↔ x ∈ ins ∧ ∀ L ∈ Ls, x ∉ L) ∧ ks.Nodup ∧ ∀ j, j < i → ∀ z, ds[ds.length - 1 - j]? = some z → z ∉ ks)
      ⟨rfl, rfl, rfl, rfl, e13, hod, ins, [], [], hlf2.same e3, e3 _ _ upd_same, .nil, ⟨by simp, by simp, by simp, by simp, .nil, by simp⟩, by simp, hnd, fun j hj => by omega⟩ (fun i σ' H' _ p => sq_of p.2.2.2.2.2.1) (fun i y σ' H' H'' hi p yy => ?_) (fun σ' H' p => ?_)
    · obtain ⟨p0, p2, p3, pl, pe, po, ks, rs, Ls, pk, plo, prs, pL, pks, pnd, pdone⟩ := p
      obtain ⟨rfl, yy⟩ := yy
      rw [List.length_map] at hi yy
      obtain ⟨z, ez, rfl⟩ := get_map yy
      refine st_gn ?_
      dsimp only
      generalize hσ : σ'.set 4 (some (V.int z)) = σ2
      have g0 : σ2[0]? = some (some (.ref x)) := by subst hσ; simp [p0]
      have g2 : σ2[2]? = some (some (.ref lf)) := by subst hσ; simp [p2]
      have g3 : σ2[3]? = some (some (.ref lo)) := by subst hσ; simp [p3]
      have g4 : σ2[4]? = some (some (.int z)) := by subst hσ; simp [pl]
      have gl : σ2.length = 7 := by subst hσ; simp [pl]
      obtain ⟨o1, hg1, hs1, _⟩ := pk.get z
      have hdone1 : ∀ {ms : List Int}, (∀ x ∈ ms, x ∈ ks) → z ∉ ms → ∀ j, j < i + 1 → ∀ z', ds[ds.length - 1 - j]? = some z' → z' ∉ ms := fun {ms} hsub hz j hj z' hz' hm => by
        by_cases hji : j = i
        · subst hji
          have hz' : ds[ds.length - 1 - j]? = some z' := hz'
          rw [ez] at hz'
          cases hz'
          exact hz hm
        · exact pdone j (by omega) z' hz' (hsub z' hm)
      refine ⟨_, g4, _, g2, lf, o1, rfl, hg1, decide (z ∈ ks), by rw [hs1], ?_⟩
      by_cases hz : z ∈ ks
      · rw [decide_eq_true hz]
        have hxx := hx.ex pe
        have hkl : ks.length ≤ 50 := by
          have := nodup_len pnd (m := ins) fun x hx => ((pks x).mp hx).1
          omega
        refine st_seq (st_asg (st_cb ?_))
        refine fld_behind T hxx.hs (fun bw bbs tB => ?_) (fun R r => ⟨_, g0, r⟩)
        refine ⟨_, g4, _, g2, ⟨bw, z, lf, bbs, Bh, ks, anyV, rfl, tB, pk, hz, fun y hy => ?_, hkl, fun H4 far fs e4 hfar hr => ?_⟩⟩
        · have h1 := hins y ((pks y).mp hy).1
          have h2 := hx.wb.len
          exact ⟨h1.1, by omega⟩
        obtain ⟨kvs, hk1, hk2, _⟩ := hfar.ex
        have hfl := nodup_len hr.nd hr.sub
        refine ⟨far, kvs, fs, rfl, .inl hk1, hk2, by omega, fun ys p hperm hsort hp => ?_⟩
        have hW : ∀ x ∈ ins, ∀ y, y ∈ rowW Bh x ↔ Adj ar x y := fun x hxi y => by
          have h1 := hins x hxi
          have h2 := hx.wb.len
          rw [row_adj hx.wb h1.1 (by omega), adj_swap hx.sy]
        have hsn := pL.snoc hx.sy pks hr hW hperm hsort
        refine st_gn ?_
        dsimp only
        generalize hσ3 : σ2.set 5 (some (V.ref p)) = σ3
        have f0 : σ3[0]? = some (some (.ref x)) := by subst hσ3; simp [g0]
        have f2 : σ3[2]? = some (some (.ref lf)) := by subst hσ3; simp [g2]
        have f3 : σ3[3]? = some (some (.ref lo)) := by subst hσ3; simp [g3]
        have f5 : σ3[5]? = some (some (.ref p)) := by subst hσ3; simp [gl]
        have fl : σ3.length = 7 := by subst hσ3; simp [gl]
        have x5 := e4.trans (Ex.new (o := .lst (ys.map V.int)) hp)
        have plo5 := x5 _ _ plo
        have hLl : Ls.length ≤ 50 := by
          have := disj_len hnd pL.sub pL.ne pL.dis
          omega
        have hrl : rs.length ≤ 50 := by rw [Paired.length prs]; exact hLl
        refine ⟨_, f3, tyL (sq_of plo5), st_c1 (st_cb ⟨_, f5, p, _, rfl, .inl ⟨sq_of upd_same, fun ta hta => ?_⟩⟩)⟩
        have x6 := ex2 (o := .tup (ys.map V.int)) x5 hta
        have plo6 := x6 _ _ plo
        refine ⟨lo, _, _, rfl, rfl, plo6, by rw [List.length_map]; exact sz_lt (by omega), ?_⟩
        have pe6 := (pe.trans x6).mut hloH (o := .lst (rs.map V.ref ++ [V.ref ta]))
        have pk6 : DKs (upd (upd (upd H4 p (.lst (ys.map V.int))) ta (.tup (ys.map V.int))) lo (.lst (rs.map V.ref ++ [V.ref ta]))) lf ks anyV := (pk.same x6).keep ((pk.same x6).neL plo6)
        have ext := ExT.lst (ys := rs.map V.ref ++ [V.ref ta]) plo6
        have prs6 : Tus (upd (upd (upd H4 p (.lst (ys.map V.int))) ta (.tup (ys.map V.int))) lo (.lst (rs.map V.ref ++ [V.ref ta]))) (rs ++ [ta]) (Ls ++ [ys]) := paired_snoc ((prs.same x6).exT ext) (Tu.exT (.inl upd_same) ext)
        have plo7 : (upd (upd (upd H4 p (.lst (ys.map V.int))) ta (.tup (ys.map V.int))) lo (.lst (rs.map V.ref ++ [V.ref ta]))) lo = some (.lst ((rs ++ [ta]).map V.ref)) := by rw [upd_same, List.map_append]; rfl
        have npl : p ≠ lo := (ne_of_none (e4 _ _ plo) hp).symm
        have pp7 : (upd (upd (upd H4 p (.lst (ys.map V.int))) ta (.tup (ys.map V.int))) lo (.lst (rs.map V.ref ++ [V.ref ta]))) p = some (.lst (ys.map V.int)) := by rw [upd_ne npl]; exact Ex.new hta _ _ upd_same
        have nol : od ≠ lo := (ne_of_none upd_same hodN).symm
        have po7 : (upd (upd (upd H4 p (.lst (ys.map V.int))) ta (.tup (ys.map V.int))) lo (.lst (rs.map V.ref ++ [V.ref ta]))) od = some (.lst (ds.map V.int)) := by rw [upd_ne nol]; exact x6 _ _ po
        generalize (upd (upd (upd H4 p (.lst (ys.map V.int))) ta (.tup (ys.map V.int))) lo (.lst (rs.map V.ref ++ [V.ref ta]))) = H7 at pe6 pk6 prs6 plo7 pp7 po7 ⊢
        clear ext plo6 x6 plo5 x5 hta hp
        have ynd : ys.Nodup := hperm.nodup_iff.mpr hr.nd
        have yks : ∀ x ∈ ys, x ∈ ks := fun x hx => hr.sub x (hperm.mem_iff.mp hx)
        refine ⟨_, f5, p, rfl, ⟨_, sq_of pp7⟩, ?_⟩
        refine for_it walk_list (fun j σ' H' => σ'[0]? = some (some (.ref x)) ∧ σ'[2]? = some (some (.ref lf)) ∧ σ'[3]? = some (some (.ref lo)) ∧ σ'.length = 7 ∧ Ex H H' ∧ H' od = some (.lst (ds.map V.int)) ∧ H' p = some (.lst (ys.map V.int)) ∧ H' lo = some (.lst ((rs ++ [ta]).map V.ref)) ∧ Tus H' (rs ++ [ta]) (Ls ++ [ys]) ∧ ∃ ks', DKs H' lf ks' anyV ∧ ks'.Nodup ∧ ∀ x : Int, x ∈ ks' ↔ x ∈ ks ∧ x ∉ ys.take j)
          ⟨f0, f2, f3, fl, pe6, po7, pp7, plo7, prs6, ks, pk6, pnd, fun x => by simp⟩ (fun j σ' H' _ p => sq_of p.2.2.2.2.2.2.1) (fun j y σ' H' H'' hj p yy => ?_) (fun σ' H' p => ?_)
        · obtain ⟨p0, p2, p3, pl, pe, po, pp, plo, prs, ks', pk, pn, pks'⟩ := p
          obtain ⟨rfl, yy⟩ := yy
          obtain ⟨o, eo, rfl⟩ := get_map yy
          have ho : o ∈ ks' := (pks' o).mpr ⟨yks o (List.mem_of_getElem? eo), not_earlier ynd eo⟩
          obtain ⟨kv, v, hk1, hk2, hd'⟩ := pk.pop ho
          refine ⟨_, by simp [p2], lf, rfl, pk.isD, .int o, by simp [pl], kv, .inl o, v, hk1, rfl, hk2, ?_⟩
          have hlfH' : H lf = none := hlfH
          refine ⟨by simp [p0], by simp [p2], by simp [p3], by simp [pl], pe.mut hlfH', ?_, ?_, ?_, ?_, _, hd', pn.filter _, fun x => ?_⟩
          · rw [upd_ne (ne_of po hk1 fun z => nomatch z)]; exact po
          · rw [upd_ne (ne_of pp hk1 fun z => nomatch z)]; exact pp
          · rw [upd_ne (ne_of plo hk1 fun z => nomatch z)]; exact plo
          · exact Paired.mapP prs fun a ns t => t.imp (fun t => by rw [upd_ne (ne_of t hk1 fun z => nomatch z)]; exact t) (fun ⟨o, t⟩ => ⟨o, by rw [upd_ne (ne_of t hk1 fun z => nomatch z)]; exact t⟩)
          · rw [List.mem_filter, pks' x, take_next eo, List.mem_append]
            simp
            constructor
            · rintro ⟨⟨h1, h2⟩, h3⟩
              exact ⟨h1, h2, h3⟩
            · rintro ⟨h1, h2, h3⟩
              exact ⟨⟨h1, h2⟩, h3⟩
        · obtain ⟨p0, p2, p3, pl, pe, po, pp, plo, prs, ks', pk, pn, pks'⟩ := p
          rw [List.length_map, List.take_length] at pks'
          refine ⟨p0, p2, p3, pl, pe, po, ks', rs ++ [ta], Ls ++ [ys], pk, plo, prs, hsn, fun x => ?_, pn, hdone1 (fun x h => ((pks' x).mp h).1) (fun h => ((pks' z).mp h).2 (hperm.mem_iff.mpr hr.a0))⟩
          rw [pks' x, pks x]
          constructor
          · rintro ⟨⟨h1, h2⟩, h3⟩
            refine ⟨h1, fun L hL => ?_⟩
            rcases List.mem_append.mp hL with h | h
            · exact h2 L h
            · have : L = ys := by simpa using h
              rw [this]
              exact h3
          · rintro ⟨h1, h2⟩
            exact ⟨⟨h1, fun L hL => h2 L (List.mem_append_left _ hL)⟩, h2 ys (by simp)⟩
      · rw [decide_eq_false hz]
        exact ⟨g0, g2, g3, gl, pe, po, ks, rs, Ls, pk, plo, prs, pL, pks, pnd, hdone1 (fun _ h => h) hz⟩
    · obtain ⟨p0, p2, p3, pl, pe, po, ks, rs, Ls, pk, plo, prs, pL, pks, pnd, pdone⟩ := p
      rw [List.length_map] at pdone
      have hL : Lots ar ins Ls := { pL with cov := fun x hxi => ?_ }
      · refine ⟨_, p3, lo, rs, Ls, rfl, sq_of plo, prs, pL.ne, fun p bs mss hp hsrt => ?_⟩
        have hperm := sorted_perm hsrt (Paired.length prs)
        exact q _ p bs mss (ex2 pe hp) ⟨.inl upd_same, hsrt.at_.same (Ex.new hp)⟩ (hL.perm hperm)
      · by_cases h : ∃ L ∈ Ls, x ∈ L
        · exact h
        · have hk : x ∈ ks := (pks x).mpr ⟨hxi, fun L hL hxL => h ⟨L, hL, hxL⟩⟩
          obtain ⟨j, hj, ej⟩ := List.mem_iff_getElem.mp (hcov x hxi)
          refine absurd hk (pdone (ds.length - 1 - j) (by omega) x ?_)
          rw [show ds.length - 1 - (ds.length - 1 - j) = j by omega, List.getElem?_eq_getElem hj, ej]
end
end Kx
namespace Kx
open PySem PySem.Spec PyProof.Rows L2
open Evl (Ex ex_rd ex_l ex_t st_of sq_of sz_lt sz_of)
theorem kAddS {X : Cx} {elt : Expr} {w : World} {te : TE} {D : Addr} (hw : X.w = w) (he : PE X elt te) : AddOk X (sBody elt) D [] (tAddS w te D) := by subst hw; exact add_set he
theorem st_yesB {tb : TB} {σ : L2.St} {H : Hp} {Nx N2 : Hp → Prop} (h : tb σ H Nx) : tYes σ H fun b H3 => if b = true then tb σ H3 Nx else N2 H3 := h
/-- a dict of the places -/
structure PlaceD (H : Hp) (d : Addr) (Ls : List (List Int)) : Prop where
  ex : ∃ kvs : List (Key × V), H d = some (.dK kvs) ∧ (∀ (i : Nat) (L : List Int), Ls[i]? = some L → ∀ x ∈ L, valV kvs (.inl x) = some (.int i)) ∧ ∀ x : Int, (valV kvs (.inl x)).isSome → ∃ L ∈ Ls, x ∈ L
theorem PlaceD.same {H H' : Hp} {d : Addr} {Ls : List (List Int)} (h : PlaceD H d Ls) (e : Ex H H') : PlaceD H' d Ls := let ⟨kvs, h1, h2⟩ := h.ex; ⟨kvs, e _ _ h1, h2⟩
section
variable {P : Program} {w : World} {K : PySem.W.Frag} {mg : PySem.Str → Option Value} {base : Heap} {A : Ads}
structure spPlaces (vs : List V) (H : Hp) (Q : VK) (E : XK) : Prop where
  ex : ∃ (b : Addr) (rs : List Addr) (Ls : List (List Int)), vs = [.ref b] ∧ LT H b rs Ls ∧ Ls.length ≤ 50 ∧ (∀ L ∈ Ls, L.length ≤ 50) ∧ (∀ L ∈ Ls, L.Nodup) ∧ Ls.Pairwise (fun L M => ∀ x ∈ L, x ∉ M) ∧ ∀ H' d, Ex H H' → PlaceD H' d Ls → Q (.ref d) H'
theorem sc56 : FnScope ["lots", "place", "lot", "number"] ["lots"] (defScope (topS 56)) := ⟨rfl, rfl, rfl, by decide +kernel, rfl, by decide +kernel, by decide +kernel⟩
/- slots: 0 lots, 1 place, 2 lot, 3 number -/
theorem ok_lot_places (T : Txt P K mg A) : DOk P w K mg base CX0 1 "lot_places" ["lots"] [] spPlaces := by
  refine T.lot_places.ok0 sc56 (fun vs H Q E h => ?_) (fun _ _ _ _ _ _ us hl => match us, hl with | [_], _ => rfl) (fun f cdv A' outer s H vs Q E hr h => ?_)
  · obtain ⟨b, rs, Ls, rfl, _⟩ := h
    rfl
  · obtain ⟨b, rs, Ls, rfl, hb, hz, hzL, hnd, hdis, q⟩ := h
    have hrl := Paired.length hb.2
    refine ⟨_, (pss_one (ps_ret (pe_c1 (vs1 := [3]) form_d2 (by rfl) rfl sc56.nd (kEnum (K := K) rfl (by rfl) (T.b "enumerate") (pa_cons (pv 0) pa_nil)) (blkOk_by (own := [("place", 1), ("lot", 2), ("number", 3)]) (by rfl)) (by decide) (fun _ _ _ _ _ => (kTgt (K := K) (n := 2) rfl rfl (pgs_cons (pg_name (i := 1) sc56.nd rfl (Or.inl rfl) (Or.inr rfl)) (pgs_cons (pg_name (i := 2) sc56.nd rfl (Or.inl rfl) (Or.inr rfl)) pgs_nil)) rfl rfl)) (fun _ _ _ _ _ => pts_nil) (fun _ _ _ _ _ D => add_in (D := D) (fun _ _ _ => rfl) (fun _ _ _ _ => rfl) turns_d21 starts_d21 rfl (kPiT (K := K) rfl (pv 2)) (pg_name (i := 3) sc56.nd rfl (Or.inl rfl) (Or.inr rfl)) pts_nil (add_putK (pv 3) (pv 1)))))), ?_⟩
    refine st_ret ?_
    refine ⟨_, rfl, b, _, rfl, .inl ⟨rd_l hb.1, fun D hD => ?_⟩⟩
    refine wk_it walk_enum (fun i H' => Ex H H' ∧ ∃ kvs : List (Key × V), H' D = some (.dK kvs) ∧ kvs.length ≤ 50 * i ∧ (∀ (k : Nat) (L : List Int), k < i → Ls[k]? = some L → ∀ x ∈ L, valV kvs (.inl x) = some (.int k)) ∧ ∀ x : Int, (valV kvs (.inl x)).isSome → ∃ L ∈ Ls.take i, x ∈ L) ⟨Ex.new hD, [], upd_same, by simp, fun k L hk => by omega, fun x h => by simp [valV] at h⟩ (fun i H' _ p => rd_l (ex_rd p.1 hb.1)) (fun i x H' H'' hi p y => ?_) (fun H' p => ?_)
    · obtain ⟨pe, kvs, pd, pk, p1, p2⟩ := p
      obtain ⟨Tp, x1, x2, rfl, hT, rfl, y1, y2⟩ := y
      cases (Option.some.inj y1)
      obtain ⟨la, ela, rfl⟩ := get_map y2
      obtain ⟨L, eL, tL⟩ := paired_at hb.2 ela
      have hLm := List.mem_of_getElem? eL
      refine ⟨Tp, _, rfl, st_of upd_same, rfl, _, _, rfl, _, _, rfl, rfl, wipe_set2 (by decide) (by decide), ?_⟩
      have eT := ex2 (o := .tup [.int (i : Nat), .ref la]) pe hT
      have tL2 := tL.same eT
      have pdT := Ex.new (o := .tup [.int (i : Nat), .ref la]) hT _ _ pd
      rw [List.length_map] at hi
      refine ⟨_, rfl, la, rfl, ⟨_, rd_t tL2⟩, ?_⟩
      have hnot : ∀ x ∈ L, ∀ k M, k < i → Ls[k]? = some M → x ∉ M := fun x hx k M hk hM hxM => by
        obtain ⟨h1, e1⟩ := List.getElem?_eq_some_iff.mp hM
        obtain ⟨h2, e2⟩ := List.getElem?_eq_some_iff.mp eL
        have := List.pairwise_iff_getElem.mp hdis k i h1 h2 hk x (by rw [e1]; exact hxM)
        rw [e2] at this
        exact this hx
      refine wk_it walk_tup (fun j H' => Ex H H' ∧ ∃ kvs : List (Key × V), H' D = some (.dK kvs) ∧ kvs.length ≤ 50 * i + j ∧ (∀ (k : Nat) (M : List Int), k < i → Ls[k]? = some M → ∀ x ∈ M, valV kvs (.inl x) = some (.int k)) ∧ (∀ x ∈ L.take j, valV kvs (.inl x) = some (.int i)) ∧ ∀ x : Int, (valV kvs (.inl x)).isSome → (∃ M ∈ Ls.take i, x ∈ M) ∨ x ∈ L.take j) ⟨eT, kvs, pdT, by omega, p1, (fun x h => by simp at h), fun x h => .inl (p2 x h)⟩ (fun j H' _ p => rd_t (tL.same p.1)) (fun j x H3 H4 hj p y => ?_) (fun H' p => ?_)
      · obtain ⟨pe, kvs, pd, pk, p1, p2, p3⟩ := p
        obtain ⟨rfl, y⟩ := y
        obtain ⟨o, eo, rfl⟩ := get_map y
        have hoL := List.mem_of_getElem? eo
        rw [List.length_map] at hj
        refine st_gn ⟨wipe_set (by decide), ?_⟩
        refine ⟨.int o, rfl, .int (i : Nat), rfl, kvs, .inl o, rfl, pd, ?_, pe.mut hD, _, upd_same, ?_, fun k M hk hM x hx => ?_, fun x hx => ?_, fun x hx => ?_⟩
        · have := hzL L hLm
          exact sz_lt (by omega)
        · have := length_putK kvs (.inl o) (V.int (i : Nat))
          omega
        · rw [valV_put]
          have : x ≠ o := fun z => hnot o hoL k M hk hM (z ▸ hx)
          rw [if_neg (by simpa using this)]
          exact p1 k M hk hM x hx
        · rw [valV_put]
          by_cases h : x = o
          · rw [if_pos (by rw [h])]
          · rw [if_neg (by simpa using h)]
            rw [take_next eo] at hx
            rcases List.mem_append.mp hx with h' | h'
            · exact p2 x h'
            · exact absurd (by simpa using h') h
        · rw [valV_put] at hx
          by_cases h : x = o
          · right
            rw [take_next eo, h]
            simp
          · rw [if_neg (by simpa using h)] at hx
            rcases p3 x hx with h' | h'
            · exact .inl h'
            · right
              rw [take_next eo]
              exact List.mem_append_left _ h'
      · obtain ⟨pe, kvs, pd, pk, p1, p2, p3⟩ := p
        rw [List.length_map] at pk
        rw [List.length_map, List.take_length] at p2 p3
        refine ⟨pe, kvs, pd, ?_, fun k M hk hM x hx => ?_, fun x hx => ?_⟩
        · have := hzL L hLm
          omega
        · by_cases h : k = i
          · subst h
            rw [eL] at hM
            cases hM
            exact p2 x hx
          · exact p1 k M (by omega) hM x hx
        · rw [take_next eL]
          rcases p3 x hx with ⟨M, hM, hxM⟩ | h'
          · exact ⟨M, List.mem_append_left _ hM, hxM⟩
          · exact ⟨L, List.mem_append_right _ (by simp), h'⟩
    · obtain ⟨pe, kvs, pd, pk, p1, p2⟩ := p
      rw [List.length_map] at p1 p2
      refine q H' D pe ⟨kvs, pd, fun i L hi x hx => p1 i L ?_ hi x hx, fun x hx => ?_⟩
      · have := (List.getElem?_eq_some_iff.mp hi).1
        omega
      · obtain ⟨L, hL, hxL⟩ := p2 x hx
        exact ⟨L, List.mem_of_mem_take hL, hxL⟩
structure spLotsAhead (A : Ads) (vs : List V) (H : Hp) (Q : VK) (E : XK) : Prop where
  ex : ∃ (x b : Addr) (n : Nat) (ar : List (Nat × Nat)) (ns : List Int) (nss Ah Bh : List (List Int)) (ins : List Int) (rs : List Addr) (Ls : List (List Int)), vs = [.ref x, .ref b] ∧ HsW A H x n ar ns nss Ah Bh ∧ ins.Pairwise (· < ·) ∧ (∀ y ∈ ins, 0 ≤ y ∧ y < (n : Int) + 1) ∧ LT H b rs Ls ∧ Lots ar ins Ls ∧
    ∀ (H' : Hp) (c : Addr) (cs : List Addr), Ex H H' → H' c = some (.lst (cs.map V.ref)) → cs.length = Ls.length → (∀ a ∈ cs, Tu H' a []) → Q (.ref c) H'
theorem sc57 : FnScope ["house", "lots", "places", "rows", "place", "lot", "near", "number", "other"] ["house", "lots"] (defScope (topS 57)) := ⟨rfl, rfl, rfl, by decide +kernel, rfl, by decide +kernel, by decide +kernel⟩
/- slots: 0 house, 1 lots, 2 places, 3 rows, 4 place, 5 lot, 6 near, 7 number, 8 other -/
theorem lots_small {ar : List (Nat × Nat)} {n : Nat} {ins : List Int} {Ls : List (List Int)} (h : LotsP ar ins Ls) (ha : ins.Pairwise (· < ·)) (hb : ∀ y ∈ ins, 0 ≤ y ∧ y < (n : Int) + 1) : Ls.length ≤ n + 1 ∧ ∀ L ∈ Ls, L.length ≤ n + 1 :=
  ⟨Nat.le_trans (disj_len (asc_nodup ha) h.sub h.ne h.dis) (asc_len ha hb), fun L hL => Nat.le_trans (nodup_len (asc_nodup (h.asc L hL)) (h.sub L hL)) (asc_len ha hb)⟩
theorem ok_lots_ahead (T : Txt P K mg A) : DOk P w K mg base CX0 2 "lots_ahead" ["house", "lots"] [] (spLotsAhead A) := by
  have D_lot_places := (ok_lot_places (P := P) (w := w) (base := base) T)
  refine T.lots_ahead.ok0 sc57 (fun vs H Q E h => ?_) (fun _ _ _ _ _ _ us hl => match us, hl with | [_, _], _ => rfl) (fun f cdv A' outer s H vs Q E hr h => ?_)
  · obtain ⟨x, b, n, ar, ns, nss, Ah, Bh, ins, rs, Ls, rfl, _⟩ := h
    rfl
  · obtain ⟨x, b, n, ar, ns, nss, Ah, Bh, ins, rs, Ls, rfl, hx, hasc, hins, hb, hL, q⟩ := h
    have hu := hu_of hr
    have hn6 := hx.n6
    obtain ⟨hz, hzL⟩ := lots_small hL.toLotsP hasc hins
    have hrl := Paired.length hb.2
    refine ⟨_, (pss_cons (ps_asg (pe_tup (pa_cons (pe_d D_lot_places hr (by rfl) pass0 (pa_cons (pv 1) pa_nil)) (pa_cons (pe_lst pa_nil) pa_nil))) (kTgt (K := K) (n := 2) rfl rfl (pgs_cons (pg_name (i := 2) sc57.nd rfl (Or.inr rfl)) (pgs_cons (pg_name (i := 3) sc57.nd rfl (Or.inl rfl)) pgs_nil)) rfl rfl))
      (pss_cons (ps_for PassesOwn.never rfl (kEnum (K := K) rfl (by rfl) (T.b "enumerate") (pa_cons (pv 1) pa_nil)) (kTgt (K := K) (n := 2) rfl rfl (pgs_cons (pg_name (i := 4) sc57.nd rfl (Or.inr rfl)) (pgs_cons (pg_name (i := 5) sc57.nd rfl (Or.inl rfl)) pgs_nil)) rfl rfl) (pss_cons (ps_set (i := 6) sc57.nd rfl (Or.inl rfl) (pe_callB (id := "sorted") (cr_sortedSet rfl) (by rfl) (T.b "sorted") (by decide +kernel) (pa_cons (pe_c1 (vs1 := [8]) form_s2 (by rfl) rfl sc57.nd (kPiT (K := K) rfl (pv 5)) (blkOk_by (own := [("number", 7), ("other", 8)]) (by rfl)) (by decide) (fun _ _ _ _ _ => (pg_name (i := 7) sc57.nd rfl (Or.inl rfl) (Or.inr rfl))) (fun _ _ _ _ _ => pts_nil) (fun _ _ _ _ _ D => add_in (D := D) (fun _ _ _ => rfl) (fun _ _ _ _ => rfl) turns_s21 starts_s21 rfl (kPiT (K := K) rfl (pe_ix (kIxT (K := K) rfl) (kFld (K := K) rfl (pv 0) (by rfl)) (pv 7) (fun _ _ => rfl))) (pg_name (i := 8) sc57.nd rfl (Or.inl rfl) (Or.inr rfl)) (pts_one (pt_cmp (pc_din hu (pv 8) (pv 2)))) (kAddS (w := w) rfl (pe_dget hu (pv 2) (pv 8) (fun _ _ => rfl))))) pa_nil)))
      (pss_one (ps_expr (kBM (K := K) rfl PySem.F.plainAttrs_list PySem.F.slot_list_append PySem.F.type_list_append mt_append (pv 3) (pa_cons (pe_callTy (T := "tuple") (kTup (K := K) rfl) (by rfl) (T.b "tuple") (by decide +kernel) (pa_cons (pe_lc rfl sc57.nd (kPiL (K := K) rfl (pv 6)) (blkOk_by (own := [("other", 8)]) (by rfl)) (fun _ _ _ _ _ => (pg_name (i := 8) sc57.nd rfl (Or.inl rfl) (Or.inr rfl))) (fun _ _ _ _ _ => (pts_one (pt_cmpR op_ne (pv 8) (pv 4) (nomark _)))) (fun _ _ _ _ _ => (pv 8))) pa_nil)) pa_nil))))))
      (pss_one (ps_ret (pv 3))))), ?_⟩
    refine ⟨_, rfl, ⟨b, rs, Ls, rfl, hb, by omega, fun L hL => by have := hzL L hL; omega, fun L h => asc_nodup (hL.asc L h), hL.dis, fun H1 pd e1 hpd => ⟨Nat.zero_le _, fun ro hro => ⟨(by decide : 2 ≤ sizeLine), fun tp htp => ⟨tp, _, rfl, st_of upd_same, rfl, _, _, rfl, _, _, rfl, rfl, ?_⟩⟩⟩⟩⟩
    have e2 := ex2 (o := .tup [.ref pd, .ref ro]) (ex2 (o := .lst []) e1 hro) htp
    have hpd2 := (hpd.same (Ex.new (o := .lst []) hro)).same (Ex.new (o := .tup [.ref pd, .ref ro]) htp)
    have hroH := Evl.fresh_back e1 hro
    have hro2 := Ex.new (o := .tup [.ref pd, .ref ro]) htp _ _ (upd_same (H := H1) (a := ro) (o := .lst []))
    generalize (upd (upd H1 ro (.lst [])) tp (.tup [.ref pd, .ref ro])) = H2 at e2 hpd2 hro2 ⊢
    refine ⟨_, rfl, b, _, rfl, .inl ⟨rd_l (hb.ex e2).1, ?_⟩⟩
    refine for_it walk_enum (fun i σ' H' => σ'[0]? = some (some (.ref x)) ∧ σ'[2]? = some (some (.ref pd)) ∧ σ'[3]? = some (some (.ref ro)) ∧ σ'.length = 9 ∧ Ex H H' ∧ PlaceD H' pd Ls ∧ ∃ cs : List Addr, H' ro = some (.lst (cs.map V.ref)) ∧ cs.length = i ∧ ∀ a ∈ cs, Tu H' a []) ⟨rfl, rfl, rfl, rfl, e2, hpd2, [], hro2, rfl, fun _ h => by simp at h⟩ (fun i σ' H' _ p => rd_l (hb.ex p.2.2.2.2.1).1) (fun i y σ' H' H'' hi p yy => ?_) (fun σ' H' p => ?_)
    · obtain ⟨p0, p2, p3, pl, pe, ppd, cs, pro, pcl, pcs⟩ := p
      obtain ⟨Tp, x1, x2, rfl, hT, rfl, y1, y2⟩ := yy
      cases (Option.some.inj y1)
      obtain ⟨la, ela, rfl⟩ := get_map y2
      obtain ⟨L, eL, tL⟩ := paired_at hb.2 ela
      have hLm := List.mem_of_getElem? eL
      refine ⟨Tp, _, rfl, st_of upd_same, rfl, _, _, rfl, _, _, rfl, rfl, ?_⟩
      have eT := ex2 (o := .tup [.int (i : Nat), .ref la]) pe hT
      have ppdT := ppd.same (Ex.new (o := .tup [.int (i : Nat), .ref la]) hT)
      have proT := Ex.new (o := .tup [.int (i : Nat), .ref la]) hT _ _ pro
      have pcsT : ∀ a ∈ cs, Tu (upd H' Tp (.tup [.int (i : Nat), .ref la])) a [] := fun a ha => (pcs a ha).same (Ex.new hT)
      generalize (upd H' Tp (.tup [.int (i : Nat), .ref la])) = Ha at eT ppdT proT pcsT ⊢
      generalize hσ : (σ'.set 4 (some (V.int (i : Nat)))).set 5 (some (V.ref la)) = σ2
      have g0 : σ2[0]? = some (some (.ref x)) := by subst hσ; simp [p0]
      have g2 : σ2[2]? = some (some (.ref pd)) := by subst hσ; simp [p2]
      have g3 : σ2[3]? = some (some (.ref ro)) := by subst hσ; simp [p3]
      have g4 : σ2[4]? = some (some (.int (i : Nat))) := by subst hσ; simp [pl]
      have g5 : σ2[5]? = some (some (.ref la)) := by subst hσ; simp [pl]
      have gl : σ2.length = 9 := by subst hσ; simp [pl]
      refine st_seq (st_asg (st_cb ?_))
      have tLa := tL.same eT
      refine ⟨_, g5, la, rfl, ⟨_, rd_t tLa⟩, fun D hD => ?_⟩
      have hxT := hx.ex eT
      have hSI : ∀ (S : Int → Bool) (m : Nat), ((∀ k : Int, S k = true → k = i) ∧ ((m = 0 ∧ S i = false) ∨ (m = 1 ∧ S i = true))) → ((∀ k : Int, (S k || decide (k = (i : Int))) = true → k = i) ∧ ((if S i = true then m else m + 1) = 0 ∧ (S i || decide ((i : Int) = (i : Int))) = false ∨ ((if S i = true then m else m + 1) = 1 ∧ (S i || decide ((i : Int) = (i : Int))) = true))) := fun S m ⟨h1, h2⟩ => by
        refine ⟨fun k hk => ?_, .inr ⟨?_, by simp⟩⟩
        · rcases Bool.or_eq_true_iff.mp hk with h | h
          · exact h1 k h
          · exact of_decide_eq_true h
        · by_cases h : S i = true
          · rw [if_pos h]
            rcases h2 with h2 | h2
            · rw [h2.2] at h; cases h
            · exact h2.1
          · rw [if_neg h]
            rcases h2 with h2 | h2
            · omega
            · exact absurd h2.2 h
      refine wk_it walk_tup (fun j H' => Ex Ha H' ∧ ∃ (S : Int → Bool) (m : Nat), H' D = some (SetO w D S m) ∧ (∀ k : Int, S k = true → k = i) ∧ ((m = 0 ∧ S i = false) ∨ (m = 1 ∧ S i = true))) ⟨Ex.new hD, _, 0, upd_same, fun k h => by simp at h, .inl ⟨rfl, rfl⟩⟩ (fun j H' _ p => rd_t (tLa.same p.1)) (fun j y H' H'' hj p yy => ?_) (fun H' p => ?_)
      · obtain ⟨pe', S, m, pS, pk, pm⟩ := p
        obtain ⟨rfl, yy⟩ := yy
        obtain ⟨z, ez, rfl⟩ := get_map yy
        have hzL' := List.mem_of_getElem? ez
        have hzi := hL.sub L hLm z hzL'
        obtain ⟨hz0, hzn⟩ := hins z hzi
        refine st_gn ⟨wipe_set (by decide), ?_⟩
        have v0 : ((wipe σ2 (List.map (fun x => x.snd) [(Str.ofString "number", 7), (Str.ofString "other", 8)])).set 7 (some (V.int z)))[0]? = some (some (.ref x)) := by simp [wipe, g0]
        have v2 : ((wipe σ2 (List.map (fun x => x.snd) [(Str.ofString "number", 7), (Str.ofString "other", 8)])).set 7 (some (V.int z)))[2]? = some (some (.ref pd)) := by simp [wipe, g2]
        have v7 : ((wipe σ2 (List.map (fun x => x.snd) [(Str.ofString "number", 7), (Str.ofString "other", 8)])).set 7 (some (V.int z)))[7]? = some (some (.int z)) := by simp [wipe, gl]
        have vl : ((wipe σ2 (List.map (fun x => x.snd) [(Str.ofString "number", 7), (Str.ofString "other", 8)])).set 7 (some (V.int z))).length = 9 := by simp [wipe, gl]
        generalize ((wipe σ2 (List.map (fun x => x.snd) [(Str.ofString "number", 7), (Str.ofString "other", 8)])).set 7 (some (V.int z))) = σ3 at v0 v2 v7 vl ⊢
        refine st_yesB ?_
        refine fld_ahead T (hxT.ex pe').hs (fun aw aas tA => ?_) (fun R r => ⟨_, v0, r⟩)
        have hal := hx.wa.len
        obtain ⟨row, erow⟩ : ∃ row, Ah[z.toNat]? = some row := ⟨_, List.getElem?_eq_getElem (by omega)⟩
        obtain ⟨ra, era, tra⟩ := tus_at tA.2 erow
        have hzz : ((z.toNat : Nat) : Int) = z := Int.toNat_of_nonneg hz0
        have hatz : atI (aas.map V.ref) z = some (.ref ra) := by rw [← hzz]; exact atI_map era
        have hrow := rowW_at erow
        refine ⟨_, v7, aw, _, _, _, rfl, rfl, rd_t tA.1, hatz, ra, rfl, ⟨_, rd_t tra⟩, ?_⟩
        have hDa := Evl.fresh_back pe' (p := D)
        refine wk_it walk_tup (fun j H' => Ex Ha H' ∧ Tu H' ra row ∧ ∃ (S : Int → Bool) (m : Nat), H' D = some (SetO w D S m) ∧ (∀ k : Int, S k = true → k = i) ∧ ((m = 0 ∧ S i = false) ∨ (m = 1 ∧ S i = true))) ⟨pe', tra, S, m, pS, pk, pm⟩ (fun j H' _ p => rd_t p.2.1) (fun j y H3 H4 hj p yy => ?_) (fun H' p => ⟨p.1, p.2.2⟩)
        obtain ⟨pe3, tr3, S, m, pS, pk, pm⟩ := p
        obtain ⟨rfl, yy⟩ := yy
        obtain ⟨o, eo, rfl⟩ := get_map yy
        refine st_gn ⟨wipe_set (by decide), ?_⟩
        have u8 : ((wipe σ3 [8]).set 8 (some (V.int o)))[8]? = some (some (.int o)) := by simp [wipe, vl]
        have u2 : ((wipe σ3 [8]).set 8 (some (V.int o)))[2]? = some (some (.ref pd)) := by simp [wipe, v2]
        obtain ⟨kvs, hk1, hk2, hk3⟩ := (ppdT.same pe3).ex
        refine ⟨_, u8, _, u2, pd, valV kvs (.inl o), rfl, DGet.k (k := .inl o) hk1, (valV kvs (.inl o)).isSome, rfl, ?_⟩
        by_cases ho : (valV kvs (.inl o)).isSome = true
        · obtain ⟨M, hM, hoM⟩ := hk3 o ho
          have hoi := hL.sub M hM o hoM
          have hadj : Adj ar z o := (row_adj hx.wa hz0 (by omega)).mp (by rw [hrow]; exact List.mem_of_getElem? eo)
          have hoL := hL.cl L hLm z hzL' o hoi hadj
          have hv := hk2 i L eL o hoL
          rw [ho]
          refine ⟨_, u2, _, u8, pd, .int (i : Nat), rfl, by rw [← hv]; exact DGet.k (k := .inl o) hk1, i, S, m, rfl, pS, ?_, pe3.mut hD, ?_, _, _, upd_same, ?_⟩
          · have : m ≤ 1 := by rcases pm with h | h <;> omega
            exact Nat.lt_of_le_of_lt (Nat.succ_le_succ this) (by decide)
          · exact tr3.imp (fun t => by rw [upd_ne (ne_of t pS fun z => nomatch z)]; exact t) (fun ⟨o, t⟩ => ⟨o, by rw [upd_ne (ne_of t pS fun z => nomatch z)]; exact t⟩)
          · exact hSI S m ⟨pk, pm⟩
        · have ho' : (valV kvs (.inl o)).isSome = false := by simpa using ho
          rw [ho']
          exact ⟨pe3, tr3, S, m, pS, pk, pm⟩
      · obtain ⟨pe', S, m, pS, pk, pm⟩ := p
        refine ⟨D, S, m, rfl, pS, by rcases pm with h | h <;> omega, fun nsr p hsrt hmem hlen hp => ?_⟩
        have hns : ∀ k ∈ nsr, k = (i : Int) := fun k hk => pk k ((hmem k).mp hk)
        refine st_gn ?_
        dsimp only
        generalize hσ3 : σ2.set 6 (some (V.ref p)) = σ3
        have f0 : σ3[0]? = some (some (.ref x)) := by subst hσ3; simp [g0]
        have f2 : σ3[2]? = some (some (.ref pd)) := by subst hσ3; simp [g2]
        have f3 : σ3[3]? = some (some (.ref ro)) := by subst hσ3; simp [g3]
        have f4 : σ3[4]? = some (some (.int (i : Nat))) := by subst hσ3; simp [g4]
        have f6 : σ3[6]? = some (some (.ref p)) := by subst hσ3; simp [gl]
        have fl : σ3.length = 9 := by subst hσ3; simp [gl]
        have e5 := ex2 (o := .lst (nsr.map V.int)) pe' hp
        have pro5 := e5 _ _ proT
        refine ⟨_, f3, tyL (sq_of pro5), st_c1 (st_cb ?_)⟩
        refine ⟨_, f6, p, rfl, ⟨_, sq_of upd_same⟩, ?_⟩
        have hnl : nsr.length ≤ 1 := by rw [hlen]; rcases pm with h | h <;> omega
        refine lcV (Qd := fun D H' => _) walk_list (fun _ => false) (fun _ => .non) (by rw [List.length_map]; omega) (fun H' e => sq_of (e _ _ upd_same)) (fun k y H3 H4 Y0 Y1 hk e yy k0 k1 => ?_) (fun D9 H9 hD9 e9 hl9 => ?_)
        · obtain ⟨rfl, yy⟩ := yy
          obtain ⟨o, eo, rfl⟩ := get_map yy
          have hoi := hns o (List.mem_of_getElem? eo)
          subst hoi
          refine st_gn ⟨wipe_set (by decide), ?_⟩
          have u8 : ((wipe σ3 (List.map (fun x => x.snd) [(Str.ofString "other", 8)])).set 8 (some (V.int (i : Nat))))[8]? = some (some (.int (i : Nat))) := by simp [wipe, fl]
          have u4 : ((wipe σ3 (List.map (fun x => x.snd) [(Str.ofString "other", 8)])).set 8 (some (V.int (i : Nat))))[4]? = some (some (.int (i : Nat))) := by simp [wipe, f4]
          exact ⟨_, u8, _, u4, rfl, false, ne_f rfl, k0 _ rfl (Ex.refl _)⟩
        · have hemp : ((List.range (nsr.map V.int).length).filter (fun _ => false)).map (fun _ => V.non) = [] := by simp
          rw [hemp] at hl9
          refine ⟨D9, _, rfl, .inl ⟨sq_of hl9, fun ta hta => ?_⟩⟩
          have e10 := (e5.trans e9).trans (Ex.new (o := .tup []) hta)
          have pro10 := e10 _ _ proT
          refine ⟨ro, _, _, rfl, rfl, pro10, by rw [List.length_map]; exact sz_lt (by rw [List.length_map] at hi; omega), f0, f2, f3, fl, (eT.trans e10).mut hroH, ?_, cs ++ [ta], by rw [upd_same, List.map_append]; rfl, by rw [List.length_append]; simp [pcl], fun a ha => ?_⟩
          · obtain ⟨kvs, hk1, hk2⟩ := (ppdT.same e10).ex
            exact ⟨kvs, by rw [upd_ne (ne_of hk1 pro10 fun z => nomatch z)]; exact hk1, hk2⟩
          · have ext := ExT.lst (ys := cs.map V.ref ++ [V.ref ta]) pro10
            rcases List.mem_append.mp ha with h | h
            · exact ((pcsT a h).same e10).exT ext
            · have : a = ta := by simpa using h
              subst this
              exact Tu.exT (.inl upd_same) ext
    · obtain ⟨p0, p2, p3, pl, pe, ppd, cs, pro, pcl, pcs⟩ := p
      exact ⟨_, p3, q H' ro cs pe pro (by rw [pcl, List.length_map, hrl]) pcs⟩
end
end Kx
namespace Kx
open PySem PySem.Spec PyProof.Rows L2
open Evl (Ex ex_rd ex_l ex_t st_of sq_of sz_lt sz_of)
theorem iota_drop {L i : Nat} (h : i < L) : (iota L).drop i = (i : Int) :: (iota L).drop (i + 1) := by
  have hl : i < (iota L).length := by rw [iota_len]; exact h
  rw [List.drop_eq_getElem_cons hl]
  congr 1
  unfold iota
  rw [List.getElem_map, List.getElem_range]
theorem rep_flat {α : Type} (x : α) (n : Nat) : (List.replicate n [x]).flatten = List.replicate n x := by
  induction n with
  | zero => rfl
  | succ n ih => rw [List.replicate_succ, List.flatten_cons, ih, List.replicate_succ]; rfl
theorem mem_drop_iota {L i : Nat} {x : Int} (h : x ∈ (iota L).drop i) : (i : Int) ≤ x := by
  obtain ⟨j, hj, e⟩ := List.mem_iff_getElem.mp h
  rw [List.getElem_drop] at e
  unfold iota at e
  rw [List.getElem_map, List.getElem_range] at e
  omega
section
variable {P : Program} {w : World} {K : PySem.W.Frag} {mg : PySem.Str → Option Value} {base : Heap} {A : Ads}
structure spStrong (A : Ads) (vs : List V) (H : Hp) (Q : VK) (E : XK) : Prop where
  ex : ∃ (x l : Addr) (n : Nat) (ar : List (Nat × Nat)) (ns : List Int) (nss Ah Bh : List (List Int)) (ins : List Int), vs = [.ref x, .ref l] ∧ HsW A H x n ar ns nss Ah Bh ∧ Tu H l ins ∧ ins.Pairwise (· < ·) ∧ (∀ y ∈ ins, 0 ≤ y ∧ y < (n : Int) + 1) ∧
    ∀ (H' : Hp) (b : Addr) (rs : List Addr) (Ls : List (List Int)), Ex H H' → TT' H' b rs Ls → Lots ar ins Ls → Q (.ref b) H'
theorem sc58 : FnScope ["house", "lot", "lots", "rows", "due", "row", "place", "ready", "ordered", "other"] ["house", "lot"] (defScope (topS 58)) := ⟨rfl, rfl, rfl, by decide +kernel, rfl, by decide +kernel, by decide +kernel⟩
/- slots: 0 house, 1 lot, 2 lots, 3 rows, 4 due, 5 row, 6 place, 7 ready, 8 ordered, 9 other -/
theorem ok_strong_lots (T : Txt P K mg A) : DOk P w K mg base CX0 5 "strong_lots" ["house", "lot"] [] (spStrong A) := by
  have D_loose_lots := (ok_loose_lots (P := P) (w := w) (base := base) T).mono (by decide : 3 ≤ 4)
  have D_need_standings := (ok_need_standings (P := P) (w := w) (base := base) T)
  have D_lots_ahead := (ok_lots_ahead (P := P) (w := w) (base := base) T).mono (by decide : 2 ≤ 4)
  refine T.strong_lots.ok0D (by simp) sc58 (fun vs H Q E h => ?_) (fun T kV doc pm an cdv ct us its hl h2 => match us, hl, its, h2 with | [_, _], _, [_], _ => ⟨_, rfl, rfl⟩) (fun f cdv A' outer s H vs Q E hr h => ?_)
  · obtain ⟨x, l, n, ar, ns, nss, Ah, Bh, ins, rfl, _⟩ := h
    rfl
  · obtain ⟨x, l, n, ar, ns, nss, Ah, Bh, ins, rfl, hx, hl, hasc, hins, q⟩ := h
    have hn6 := hx.n6
    have hln := hx.ln
    refine ⟨_, (pss_cons (ps_set (i := 2) sc58.nd rfl (Or.inl rfl) (pe_d D_loose_lots hr (by rfl) pass0 (pa_cons (pv 0) (pa_cons (pe_d D_need_standings hr (by rfl) pass0 (pa_cons (pv 0) (pa_cons (pv 1) pa_nil))) pa_nil))))
      (pss_cons (ps_set (i := 3) sc58.nd rfl (Or.inl rfl) (pe_d D_lots_ahead hr (by rfl) pass0 (pa_cons (pv 0) (pa_cons (pv 2) pa_nil))))
      (pss_cons (ps_set (i := 4) sc58.nd rfl (Or.inr rfl) (pe_op op_rep (pe_lst (pa_cons pe_int pa_nil)) (pe_callB (id := "len") (kLen (K := K) rfl) (by rfl) (T.b "len") (by decide +kernel) (pa_cons (pv 2) pa_nil))))
      (pss_cons (ps_for PassesOwn.never rfl (kPiL (K := K) rfl (pv 3)) (pg_name (i := 5) sc58.nd rfl (Or.inl rfl)) (pss_one (ps_for PassesOwn.never rfl (kPiT (K := K) rfl (pv 5)) (pg_name (i := 6) sc58.nd rfl (Or.inl rfl)) (pss_one (ps_asg (pe_op op_add (pe_ix (kIxL (K := K) rfl) (pv 4) (pv 6) (fun _ _ => rfl)) pe_int) (pg_sub (pv 4) (pv 6) set_list))))))
      (pss_cons (ps_par (i := 7) (j := 8) rfl sc58.nd rfl rfl (by decide) rfl rfl (pa_cons (pe_lc rfl sc58.nd (pi_range1 (by rfl) (T.b "range") (pa_cons (pe_callB (id := "len") (kLen (K := K) rfl) (by rfl) (T.b "len") (by decide +kernel) (pa_cons (pv 2) pa_nil)) pa_nil)) (blkOk_by (own := [("place", 6)]) (by rfl)) (fun _ _ _ _ _ => (pg_name (i := 6) sc58.nd rfl (Or.inl rfl) (Or.inr rfl))) (fun _ _ _ _ _ => (pts_one (pt_cmpR op_eq (pe_ix (kIxL (K := K) rfl) (pv 4) (pv 6) (fun _ _ => rfl)) pe_int (nomark _)))) (fun _ _ _ _ _ => (pv 6))) (pa_cons (pe_lst pa_nil) pa_nil)) rfl)
      (pss_cons (ps_while PassesOwn.never (pt_cmpR op_gt (pe_callB (id := "len") (kLen (K := K) rfl) (by rfl) (T.b "len") (by decide +kernel) (pa_cons (pv 7) pa_nil)) pe_int (nomark _)) (pss_cons (ps_set (i := 6) sc58.nd rfl (Or.inl rfl) (pe_callB (id := "min") (kMin (K := K) rfl rfl) (by rfl) (T.b "min") (by decide +kernel) (pa_cons (pv 7) pa_nil)))
      (pss_cons (ps_expr (kBM (K := K) rfl PySem.F.plainAttrs_list PySem.F.slot_list_remove PySem.F.type_list_remove mt_remove (pv 7) (pa_cons (pv 6) pa_nil)))
      (pss_cons (ps_expr (kBM (K := K) rfl PySem.F.plainAttrs_list PySem.F.slot_list_append PySem.F.type_list_append mt_append (pv 8) (pa_cons (pe_ix (kIxL (K := K) rfl) (pv 2) (pv 6) (fun _ _ => rfl)) pa_nil)))
      (pss_one (ps_for PassesOwn.never rfl (kPiT (K := K) rfl (pe_ix (kIxL (K := K) rfl) (pv 3) (pv 6) (fun _ _ => rfl))) (pg_name (i := 9) sc58.nd rfl (Or.inl rfl)) (pss_cons (ps_asg (pe_op op_sub (pe_ix (kIxL (K := K) rfl) (pv 4) (pv 9) (fun _ _ => rfl)) pe_int) (pg_sub (pv 4) (pv 9) set_list))
      (pss_one (ps_if (pt_cmpR op_eq (pe_ix (kIxL (K := K) rfl) (pv 4) (pv 9) (fun _ _ => rfl)) pe_int (nomark _)) (pss_one (ps_expr (kBM (K := K) rfl PySem.F.plainAttrs_list PySem.F.slot_list_append PySem.F.type_list_append mt_append (pv 7) (pa_cons (pv 9) pa_nil)))) pss_nil)))))))))
      (pss_one (ps_ret (pe_callTy (T := "tuple") (kTup (K := K) rfl) (by rfl) (T.b "tuple") (by decide +kernel) (pa_cons (pv 8) pa_nil)))))))))), ?_⟩
    refine ⟨_, rfl, _, rfl, _, rfl, ⟨x, l, ns, nss, Ah, Bh, ins, rfl, hx.hs, by omega, hl, fun y hy => by have := hins y hy; omega, hasc, fun H1 e1 => ?_⟩⟩
    refine ⟨x, l, n, ar, ns, nss, Ah, Bh, ins, rfl, hx.ex e1, hl.same e1, hasc, hins, fun H2 b rs Ls e2 hb hL => ?_⟩
    have e12 := e1.trans e2
    have hrl := Paired.length hb.2
    obtain ⟨hz, hzL⟩ := lots_small hL.toLotsP hasc hins
    refine ⟨_, rfl, _, rfl, ⟨x, b, n, ar, ns, nss, Ah, Bh, ins, rs, Ls, rfl, hx.ex e12, hasc, hins, hb, hL, fun H3 c cs e3 hc hcl hcs => ?_⟩⟩
    have e13 := e12.trans e3
    have hb3 := hb.ex e3
    refine ⟨(by decide : 1 ≤ sizeLine), fun z0 hz0 => ⟨_, rfl, b, _, rfl, .inl (rd_l (hb3.ex (Ex.new hz0)).1), z0, _, _, rfl, rfl, upd_same, by rw [List.length_map]; omega, by rw [List.length_map]; omega, sz_of (by rw [List.length_map]; simp; omega), fun du hdu => ?_⟩⟩
    have e4 := ex2 (o := .lst (List.replicate (((rs.map V.ref).length : Nat) : Int).toNat [V.int 0]).flatten) (e3.trans (Ex.new (o := .lst [.int 0]) hz0)) hdu
    have e14 := e12.trans e4
    have e34 := (Ex.new (o := .lst [.int 0]) hz0).trans (Ex.new (o := .lst (List.replicate (((rs.map V.ref).length : Nat) : Int).toNat [V.int 0]).flatten) hdu)
    have hdu4 : (upd (upd H3 z0 (.lst [.int 0])) du (.lst (List.replicate (((rs.map V.ref).length : Nat) : Int).toNat [V.int 0]).flatten)) du = some (.lst (List.replicate Ls.length (V.int 0))) := by
      rw [upd_same, List.length_map, hrl, Int.toNat_natCast]
      congr 2
      exact rep_flat _ _
    have hb4 := hb3.ex e34
    have hc4 := e34 _ _ hc
    have hcs4 : ∀ a ∈ cs, Tu (upd (upd H3 z0 (.lst [.int 0])) du (.lst (List.replicate (((rs.map V.ref).length : Nat) : Int).toNat [V.int 0]).flatten)) a [] := fun a ha => (hcs a ha).same e34
    generalize (upd (upd H3 z0 (.lst [.int 0])) du (.lst (List.replicate (((rs.map V.ref).length : Nat) : Int).toNat [V.int 0]).flatten)) = H4 at e4 e14 e34 hdu4 hb4 hc4 hcs4 ⊢
    refine st_gn ?_
    refine ⟨_, rfl, c, rfl, ⟨_, sq_of hc4⟩, ?_⟩
    refine for_it walk_list (fun i σ' H' => σ'[0]? = some (some (.ref x)) ∧ σ'[2]? = some (some (.ref b)) ∧ σ'[3]? = some (some (.ref c)) ∧ σ'[4]? = some (some (.ref du)) ∧ σ'.length = 10 ∧ H' = H4) ⟨rfl, rfl, rfl, rfl, rfl, rfl⟩ (fun i σ' H' _ p => by rw [p.2.2.2.2.2]; exact sq_of hc4) (fun i y σ' H' H'' hi p yy => ?_) (fun σ' H' p => ?_)
    · obtain ⟨p0, p2, p3, p4, pl, rfl⟩ := p
      obtain ⟨rfl, yy⟩ := yy
      obtain ⟨a, ea, rfl⟩ := get_map yy
      have ha := hcs4 a (List.mem_of_getElem? ea)
      refine st_gn ?_
      refine ⟨_, by simp [pl], a, rfl, ⟨_, rd_t ha⟩, ?_⟩
      refine for_it walk_tup (fun _ σ' H' => σ'[0]? = some (some (.ref x)) ∧ σ'[2]? = some (some (.ref b)) ∧ σ'[3]? = some (some (.ref c)) ∧ σ'[4]? = some (some (.ref du)) ∧ σ'.length = 10 ∧ H' = H'') ⟨by simp [p0], by simp [p2], by simp [p3], by simp [p4], by simp [pl], rfl⟩ (fun i σ' H' _ p => by rw [p.2.2.2.2.2]; exact rd_t ha) (fun i y σ' H' H'' hi p yy => by simp at hi) (fun σ' H' p => p)
    · obtain ⟨p0, p2, p3, p4, pl, he⟩ := p
      have he' := he.symm
      subst he'
      dsimp only
      refine st_seq (st_par ?_)
      refine ⟨_, p2, b, _, rfl, .inl (rd_l hb4.1), _, rfl, by omega, by rw [List.length_map]; omega, ?_⟩
      refine lcV (Qd := fun D H' => _) walk_range (fun _ => true) (fun k => .int (k : Nat)) (by rw [List.length_map]; omega) (fun _ _ => trivial) (fun k y H5 H6 Y0 Y1 hk e yy k0 k1 => ?_) (fun ry H5 hry e5 hl5 => ?_)
      · obtain ⟨rfl, rfl⟩ := yy
        rw [List.length_map, Int.toNat_natCast, hrl] at hk
        refine st_gn ⟨wipe_set (by decide), ?_⟩
        have u6 : ((wipe σ' (List.map (fun x => x.snd) [(Str.ofString "place", 6)])).set 6 (some (V.int (0 + (k : Int)))))[6]? = some (some (.int (k : Nat))) := by simp [wipe, pl]
        have u4 : ((wipe σ' (List.map (fun x => x.snd) [(Str.ofString "place", 6)])).set 6 (some (V.int (0 + (k : Int)))))[4]? = some (some (.ref du)) := by simp [wipe, p4]
        have hat : atI (List.replicate Ls.length (V.int 0)) (k : Int) = some (.int 0) := atI_nat (by rw [List.getElem?_replicate, if_pos hk])
        exact ⟨_, u4, _, u6, du, _, _, _, rfl, rfl, sq_of (e _ _ hdu4), hat, rfl, true, rfl, _, u6, k1 _ rfl (Ex.refl _)⟩
      rw [range_all, List.length_map, Int.toNat_natCast, hrl] at hl5
      have hl5' : H5 ry = some (.lst ((iota Ls.length).map V.int)) := by
        rw [hl5]
        unfold iota
        rw [List.map_map]
        rfl
      refine ⟨Nat.zero_le _, fun od hod => ?_⟩
      have ryod : ry ≠ od := ne_of_none hl5' hod
      have e15 := e14.trans e5
      have hryH := Evl.fresh_back e14 hry
      have hodH := Evl.fresh_back e15 hod
      have e46 := ex2 (o := .lst []) e5 hod
      have hb6 := hb4.ex e46
      have hc6 := e46 _ _ hc4
      have hcs6 : ∀ a ∈ cs, Tu (upd H5 od (.lst [])) a [] := fun a ha => (hcs4 a ha).same e46
      have bry : ∀ {u}, H4 b = some u → b ≠ ry := fun h => ne_of_none h hry
      dsimp only
      refine st_seq ?_
      refine ⟨fun m σ' H' => ∃ i, m = Ls.length - i ∧ i ≤ Ls.length ∧ σ'[2]? = some (some (.ref b)) ∧ σ'[3]? = some (some (.ref c)) ∧ σ'[7]? = some (some (.ref ry)) ∧ σ'[8]? = some (some (.ref od)) ∧ σ'.length = 10 ∧ Ex H4 H' ∧ H' ry = some (.lst (((iota Ls.length).drop i).map V.int)) ∧ H' od = some (.lst ((rs.take i).map V.ref)),
        ⟨_, 0, rfl, Nat.zero_le _, by simp [p2], by simp [p3], by simp [pl], by simp [pl], by simp [pl], e46, by rw [List.drop_zero]; exact (Ex.new hod) _ _ hl5', upd_same⟩, fun m σ' H' p => ?_⟩
      clear p0 p2 p3 p4 pl
      obtain ⟨i, hm, hi, p2, p3, p7, p8, pl, pe, pr, po⟩ := p
      refine ⟨_, p7, ry, _, rfl, .inl (sq_of pr), _, _, rfl, rfl, ?_⟩
      by_cases hiL : i < Ls.length
      · refine ⟨true, by rw [List.length_map, List.length_drop, iota_len]; exact bl_t (by omega), ?_⟩
        refine ⟨fun σ2 H2 => ∃ i', Ls.length - i' < m ∧ i' ≤ Ls.length ∧ σ2[2]? = some (some (.ref b)) ∧ σ2[3]? = some (some (.ref c)) ∧ σ2[7]? = some (some (.ref ry)) ∧ σ2[8]? = some (some (.ref od)) ∧ σ2.length = 10 ∧ Ex H4 H2 ∧ H2 ry = some (.lst (((iota Ls.length).drop i').map V.int)) ∧ H2 od = some (.lst ((rs.take i').map V.ref)), fun σ2 H2 ⟨i', h1, h2⟩ => ⟨_, h1, i', rfl, h2⟩, ?_⟩
        have hdr := iota_drop hiL
        refine ⟨_, p7, ry, (iota Ls.length).drop i, rfl, sq_of pr, by rw [List.length_drop, iota_len]; omega, fun mm hmm hmin => ?_⟩
        have hmi : mm = (i : Int) := by
          have h1 := hmin (i : Int) (by rw [hdr]; exact List.mem_cons_self)
          have h2 := mem_drop_iota hmm
          omega
        subst hmi
        refine st_gn ?_
        dsimp only
        generalize hσ : σ'.set 6 (some (V.int (i : Nat))) = σ2
        have g2 : σ2[2]? = some (some (.ref b)) := by subst hσ; simp [p2]
        have g3 : σ2[3]? = some (some (.ref c)) := by subst hσ; simp [p3]
        have g6 : σ2[6]? = some (some (.int (i : Nat))) := by subst hσ; simp [pl]
        have g7 : σ2[7]? = some (some (.ref ry)) := by subst hσ; simp [p7]
        have g8 : σ2[8]? = some (some (.ref od)) := by subst hσ; simp [p8]
        have gl : σ2.length = 10 := by subst hσ; simp [pl]
        have hry4 : H4 ry = none := hry
        have hod4 : H4 od = none := Evl.fresh_back e5 hod
        refine ⟨_, g7, tyL (sq_of pr), _, g6, ry, (iota Ls.length).drop i, (i : Int), 0, rfl, rfl, pr, by rw [hdr]; rfl, fun m hm => by omega, ?_⟩
        have her : ((iota Ls.length).drop i).eraseIdx 0 = (iota Ls.length).drop (i + 1) := by rw [hdr]; rfl
        rw [her]
        have peA := pe.mut hry4 (o := .lst (((iota Ls.length).drop (i + 1)).map V.int))
        have poA : (upd H' ry (.lst (((iota Ls.length).drop (i + 1)).map V.int))) od = some (.lst ((rs.take i).map V.ref)) := by rw [upd_ne (Ne.symm ryod)]; exact po
        obtain ⟨ra, era⟩ : ∃ r, rs[i]? = some r := ⟨_, List.getElem?_eq_getElem (by omega)⟩
        refine ⟨_, g8, tyL (sq_of poA), st_c1 ⟨_, g2, _, g6, b, _, _, _, rfl, rfl, rd_l (hb4.ex peA).1, atI_map era, od, _, _, rfl, rfl, poA, by rw [List.length_map, List.length_take]; exact sz_lt (by omega), ?_⟩⟩
        have peB := peA.mut hod4 (o := .lst ((rs.take i).map V.ref ++ [V.ref ra]))
        have prB : (upd (upd H' ry (.lst (((iota Ls.length).drop (i + 1)).map V.int))) od (.lst ((rs.take i).map V.ref ++ [V.ref ra]))) ry = some (.lst (((iota Ls.length).drop (i + 1)).map V.int)) := by rw [upd_ne ryod, upd_same]
        have poB : (upd (upd H' ry (.lst (((iota Ls.length).drop (i + 1)).map V.int))) od (.lst ((rs.take i).map V.ref ++ [V.ref ra]))) od = some (.lst ((rs.take (i + 1)).map V.ref)) := by rw [upd_same, take_next era, List.map_append]; rfl
        generalize (upd (upd H' ry (.lst (((iota Ls.length).drop (i + 1)).map V.int))) od (.lst ((rs.take i).map V.ref ++ [V.ref ra]))) = HB at peB prB poB ⊢
        obtain ⟨ca, eca⟩ : ∃ r, cs[i]? = some r := ⟨_, List.getElem?_eq_getElem (by omega)⟩
        have tca := (hcs4 ca (List.mem_of_getElem? eca)).same peB
        refine ⟨_, g3, _, g6, c, _, _, _, rfl, rfl, sq_of (peB _ _ hc4), atI_map eca, ca, rfl, ⟨_, rd_t tca⟩, ?_⟩
        refine for_it walk_tup (fun _ σ' H' => σ'[2]? = some (some (.ref b)) ∧ σ'[3]? = some (some (.ref c)) ∧ σ'[7]? = some (some (.ref ry)) ∧ σ'[8]? = some (some (.ref od)) ∧ σ'.length = 10 ∧ H' = HB) ⟨g2, g3, g7, g8, gl, rfl⟩ (fun i σ' H' _ p => by rw [p.2.2.2.2.2]; exact rd_t tca) (fun i y σ' H' H'' hi p yy => by simp at hi) (fun σ' H' p => ?_)
        obtain ⟨q2, q3, q7, q8, ql, rfl⟩ := p
        exact ⟨i + 1, by omega, by omega, q2, q3, q7, q8, ql, peB, prB, poB⟩
      · have hie : i = Ls.length := by omega
        subst hie
        refine ⟨false, by rw [List.length_map, List.length_drop, iota_len]; exact bl_f (by omega), ?_⟩
        rw [List.take_of_length_le (by omega)] at po
        refine ⟨_, p8, od, _, rfl, .inl ⟨sq_of po, fun l2 hl2 => ?_⟩⟩
        have e7 := pe.trans (Ex.new (o := .tup (rs.map V.ref)) hl2)
        exact q _ l2 rs Ls (e14.trans e7) ⟨.inl upd_same, (hb4.ex e7).2⟩ hL
structure spOthers (vs : List V) (H : Hp) (Q : VK) (E : XK) : Prop where
  ex : ∃ (b : Addr) (ms : List Int) (a : Int), vs = [.ref b, .int a] ∧ Tu H b ms ∧ ms.length ≤ 1000 ∧ ∀ H' l, Ex H H' → Tu H' l (((List.range ms.length).filter fun k => decide (ms.getD k 0 ≠ a)).map fun (k : Nat) => (k : Int)) → Q (.ref l) H'
theorem sc62 : FnScope ["question", "answer", "number", "told"] ["question", "answer"] (defScope (topS 62)) := ⟨rfl, rfl, rfl, by decide +kernel, rfl, by decide +kernel, by decide +kernel⟩
/- slots: 0 question, 1 answer, 2 number, 3 told -/
theorem ok_other_standings (T : Txt P K mg A) : DOk P w K mg base CX0 1 "other_standings" ["question", "answer"] [] spOthers := by
  refine T.other_standings.ok0 sc62 (fun vs H Q E h => ?_) (fun _ _ _ _ _ _ us hl => match us, hl with | [_, _], _ => rfl) (fun f cdv A' outer s H vs Q E hr h => ?_)
  · obtain ⟨b, ms, a, rfl, _⟩ := h
    rfl
  · obtain ⟨b, ms, a, rfl, hb, hz, q⟩ := h
    refine ⟨_, (pss_one (ps_ret (pe_callTy (T := "tuple") (kTup (K := K) rfl) (by rfl) (T.b "tuple") (by decide +kernel) (pa_cons (pe_lc rfl sc62.nd (kEnum (K := K) rfl (by rfl) (T.b "enumerate") (pa_cons (pv 0) pa_nil)) (blkOk_by (own := [("number", 2), ("told", 3)]) (by rfl)) (fun _ _ _ _ _ => (kTgt (K := K) (n := 2) rfl rfl (pgs_cons (pg_name (i := 2) sc62.nd rfl (Or.inl rfl) (Or.inr rfl)) (pgs_cons (pg_name (i := 3) sc62.nd rfl (Or.inl rfl) (Or.inr rfl)) pgs_nil)) rfl rfl)) (fun _ _ _ _ _ => (pts_one (pt_cmpR op_ne (pv 3) (pv 1) (nomark _)))) (fun _ _ _ _ _ => (pv 2))) pa_nil)))), ?_⟩
    refine st_ret (st_cb ?_)
    refine ⟨_, rfl, b, _, rfl, .inr ⟨rd_t hb, ?_⟩⟩
    refine lcV (Qd := fun D H' => _) walk_enumT (fun k => decide (ms.getD k 0 ≠ a)) (fun k => .int (k : Nat)) (by rw [List.length_map]; omega) (fun H' e => rd_t (ex_rd e hb)) (fun k x H' H'' Y0 Y1 hk e y k0 k1 => ?_) (fun D H' hD e hl => ?_)
    · obtain ⟨Tp, x1, x2, rfl, hT, rfl, y1, y2⟩ := y
      cases (Option.some.inj y1)
      obtain ⟨m, em, rfl⟩ := get_map y2
      rw [getD_at em] at k0 k1
      refine ⟨Tp, _, rfl, st_of upd_same, rfl, _, _, rfl, _, _, rfl, rfl, wipe_set2 (by decide) (by decide), ?_⟩
      refine ⟨_, rfl, _, rfl, rfl, ?_⟩
      by_cases h : m = a
      · exact ⟨false, ne_f h, k0 _ (decide_eq_false fun z => z h) (Ex.new hT)⟩
      · exact ⟨true, ne_t h, _, rfl, k1 _ (decide_eq_true h) (Ex.new hT)⟩
    · rw [List.length_map] at hl
      refine ⟨D, _, rfl, .inl ⟨sq_of hl, fun l hl' => q _ l (e.trans (Ex.new hl')) (.inl ?_)⟩⟩
      rw [upd_same, List.map_map]
      rfl
end
end Kx
/-! Masks of bits, by lists of Bools. -/
namespace Kx
open PySem PySem.Spec PyProof.Rows L2
def mkB (bs : List Bool) : Int := (((List.range bs.length).filter fun i => bs.getD i false).map fun (i : Nat) => (1 : Int) * 2 ^ ((i : Int)).toNat).sum
def allB : Nat → List (List Bool)
  | 0 => [[]]
  | n + 1 => (allB n).flatMap fun l => [false :: l, true :: l]
theorem mem_allB : ∀ (bs : List Bool), bs ∈ allB bs.length
  | [] => by simp [allB]
  | b :: bs => by
    refine List.mem_flatMap.mpr ⟨bs, mem_allB bs, ?_⟩
    cases b <;> simp
theorem or_all : ∀ n ∈ [2, 3, 4, 5, 6], ∀ bs ∈ allB n, ∀ cs ∈ allB n, Builtin.bitOr (mkB bs) (mkB cs) = mkB (List.zipWith (fun a b => a || b) bs cs) := by decide +kernel
theorem full_all : ∀ n ∈ [2, 3, 4, 5, 6], ∀ bs ∈ allB n, (mkB bs = 1 * 2 ^ ((n : Int)).toNat - 1 ↔ bs.all id = true) := by decide +kernel
/-- where the standings m and k are alike -/
def sameB (n : Nat) (k m : Int) : List Bool := (List.range n).map fun r => decide ((stS n m.toNat).getD r 0 = (stS n k.toNat).getD r 0)
def lotB (n : Nat) (k : Int) (L : List Int) : List Bool := (List.range n).map fun r => L.any fun m => decide ((stS n m.toNat).getD r 0 = (stS n k.toNat).getD r 0)
theorem lotB_len (n : Nat) (k : Int) (L : List Int) : (lotB n k L).length = n := by simp [lotB]
theorem sameB_len (n : Nat) (k m : Int) : (sameB n k m).length = n := by simp [sameB]
theorem lotB_snoc (n : Nat) (k m : Int) (L : List Int) : lotB n k (L ++ [m]) = List.zipWith (fun a b => a || b) (lotB n k L) (sameB n k m) := by
  unfold lotB sameB
  rw [List.zipWith_map]
  apply List.ext_getElem
  · simp
  · intro i h1 h2
    simp
theorem lotB_nil : ∀ n ∈ [2, 3, 4, 5, 6], mkB (lotB n 0 []) = 0 := by decide
theorem lotB_nil' (n : Nat) (k : Int) : lotB n k [] = lotB n 0 [] := by simp [lotB]
theorem stS_at {n j r : Nat} (h : r < n) : (stS n j).getD r 0 = if j + r = n then 1 else 0 := by
  unfold stS
  rw [List.getD_eq_getElem?_getD, List.getElem?_map, List.getElem?_range h]
  rfl
theorem lot_full {n : Nat} {k : Nat} {L : List Int} (hL : ∀ x ∈ L, 0 ≤ x ∧ x < (n : Int) + 1) (hn : L.Nodup) (h0 : (k : Int) ∉ L) (hk : k ≤ n) (h1 : 1 ≤ n) : (lotB n k L).all id = true ↔ (k = 0 ∧ 2 ≤ L.length) := by
  have key : (lotB n k L).all id = true ↔ ∀ r, r < n → ∃ m ∈ L, (m.toNat + r = n ↔ k + r = n) := by
    unfold lotB
    rw [List.all_map, List.all_eq_true]
    constructor
    · intro h r hr
      have h2 := h r (List.mem_range.mpr hr)
      obtain ⟨m, hm, e⟩ := List.any_eq_true.mp h2
      have e := of_decide_eq_true e
      rw [stS_at hr, stS_at hr, Int.toNat_natCast] at e
      refine ⟨m, hm, ?_⟩
      by_cases c1 : m.toNat + r = n <;> by_cases c2 : k + r = n <;> simp [c1, c2] at e ⊢
    · intro h r hr
      have hr := List.mem_range.mp hr
      obtain ⟨m, hm, e⟩ := h r hr
      refine List.any_eq_true.mpr ⟨m, hm, decide_eq_true ?_⟩
      rw [stS_at hr, stS_at hr, Int.toNat_natCast]
      by_cases c1 : m.toNat + r = n
      · rw [if_pos c1, if_pos (e.mp c1)]
      · rw [if_neg c1, if_neg (fun z => c1 (e.mpr z))]
  rw [key]
  constructor
  · intro h
    by_cases hk0 : k = 0
    · refine ⟨hk0, ?_⟩
      subst hk0
      match L, hL, hn, h0, h with
      | [], _, _, _, h =>
        obtain ⟨m, hm, _⟩ := h 0 (by omega)
        simp at hm
      | [m], hL, _, h0, h =>
        obtain ⟨h2, h3⟩ := hL m (by simp)
        have hm0 : m ≠ 0 := fun z => h0 (by simp [z])
        obtain ⟨m', hm', e⟩ := h (n - m.toNat) (by omega)
        have : m' = m := by simpa using hm'
        subst this
        omega
      | _ :: _ :: _, _, _, _, _ => simp
    · obtain ⟨m, hm, e⟩ := h (n - k) (by omega)
      obtain ⟨h2, h3⟩ := hL m hm
      have : m.toNat = k := by omega
      exact absurd (by rw [← this, Int.toNat_of_nonneg h2]; exact hm) h0
  · rintro ⟨rfl, h2⟩ r hr
    match L, h2, hL, hn with
    | a :: b :: l, _, hL, hn =>
      have hab : a ≠ b := fun z => (List.nodup_cons.mp hn).1 (by simp [z])
      have ha := hL a (by simp)
      have hb := hL b (by simp)
      by_cases c : a.toNat + r = n
      · refine ⟨b, by simp, ?_⟩
        omega
      · exact ⟨a, by simp, by omega⟩
end Kx
namespace Kx
open PySem PySem.Spec PyProof.Rows L2
open Evl (Ex ex_rd ex_l ex_t st_of sq_of sz_lt sz_of)
/-- one window a room -/
abbrev winL (n : Nat) : List (List Int) := (List.range n).map fun (j : Nat) => [(j : Int)]
/-- a house of one guest -/
structure HsG (A : Ads) (H : Hp) (x : Addr) (n : Nat) (ar : List (Nat × Nat)) (ns : List Int) (Ah Bh : List (List Int)) : Prop where
  w : HsW A H x n ar ns (rowsOf n) Ah Bh
  nl : ns.length = n
  n2 : 2 ≤ n
theorem HsG.ex {A : Ads} {H H' : Hp} {x : Addr} {n : Nat} {ar : List (Nat × Nat)} {ns : List Int} {Ah Bh : List (List Int)} (h : HsG A H x n ar ns Ah Bh) (e : Ex H H') : HsG A H' x n ar ns Ah Bh := ⟨h.w.ex e, h.nl, h.n2⟩
theorem HsG.row {A : Ads} {H : Hp} {x : Addr} {n : Nat} {ar : List (Nat × Nat)} {ns : List Int} {Ah Bh : List (List Int)} (h : HsG A H x n ar ns Ah Bh) {k : Nat} (hk : k ≤ n) : (rowsOf n)[k]? = some (stS n k) := by
  rw [rows_st n (mem_n h.n2 h.w.n6), List.getElem?_map, List.getElem?_range (by omega)]
  rfl
theorem stS_get {n k r : Nat} (h : r < n) : (stS n k)[r]? = some ((stS n k).getD r 0) := by
  rw [List.getD_eq_getElem?_getD, List.getElem?_eq_getElem (by rw [stS_len]; exact h)]
  rfl
section
variable {P : Program} {w : World} {K : PySem.W.Frag} {mg : PySem.Str → Option Value} {base : Heap} {A : Ads}
structure spRowOf (A : Ads) (vs : List V) (H : Hp) (Q : VK) (E : XK) : Prop where
  ex : ∃ (x v : Addr) (vas : List Addr) (n : Nat) (ar : List (Nat × Nat)) (ns : List Int) (Ah Bh : List (List Int)) (k : Nat), vs = [.ref x, .ref v, .int k] ∧ HsG A H x n ar ns Ah Bh ∧ TT' H v vas (winL n) ∧ k ≤ n ∧ ∀ H' l ras, Ex H H' → TT' H' l ras ((List.range n).map fun r => [(stS n k).getD r 0]) → Q (.ref l) H'
theorem sc60 : FnScope ["house", "view", "number", "window"] ["house", "view", "number"] (defScope (topS 60)) := ⟨rfl, rfl, rfl, by decide +kernel, rfl, by decide +kernel, by decide +kernel⟩
/- slots: 0 house, 1 view, 2 number, 3 window -/
theorem ok_row_of (T : Txt P K mg A) : DOk P w K mg base CX0 2 "row_of" ["house", "view", "number"] [] (spRowOf A) := by
  have D_seen_at := (ok_seen_at (P := P) (w := w) (base := base) T)
  refine T.row_of.ok0 sc60 (fun vs H Q E h => ?_) (fun _ _ _ _ _ _ us hl => match us, hl with | [_, _, _], _ => rfl) (fun f cdv A' outer s H vs Q E hr h => ?_)
  · obtain ⟨x, v, vas, n, ar, ns, Ah, Bh, k, rfl, _⟩ := h
    rfl
  · obtain ⟨x, v, vas, n, ar, ns, Ah, Bh, k, rfl, hx, hv, hk, q⟩ := h
    have hn6 := hx.w.n6
    have hvl : vas.length = n := by rw [Paired.length hv.2]; simp
    refine ⟨_, (pss_one (ps_ret (pe_callTy (T := "tuple") (kTup (K := K) rfl) (by rfl) (T.b "tuple") (by decide +kernel) (pa_cons (pe_lc rfl sc60.nd (kPiT (K := K) rfl (pv 1)) (blkOk_by (own := [("window", 3)]) (by rfl)) (fun _ _ _ _ _ => (pg_name (i := 3) sc60.nd rfl (Or.inl rfl) (Or.inr rfl))) (fun _ _ _ _ _ => pts_nil) (fun _ _ _ _ _ => (pe_d D_seen_at hr (by rfl) pass0 (pa_cons (pv 0) (pa_cons (pv 3) (pa_cons (pv 2) pa_nil)))))) pa_nil)))), ?_⟩
    refine st_ret (st_cb ?_)
    refine ⟨_, rfl, v, rfl, ⟨_, rd_t hv.1⟩, ?_⟩
    refine lcU (Qd := fun D H' => _) walk_tup (fun _ => true) (fun r => [(stS n k).getD r 0]) (by rw [List.length_map]; omega) (fun H' e => rd_t (hv.ex e).1) (fun r y H' H'' Y0 Y1 hr' e yy k0 k1 => ?_) (fun D H' rs hD e hl ht => ?_)
    · obtain ⟨rfl, yy⟩ := yy
      obtain ⟨wa, ewa, rfl⟩ := get_map yy
      obtain ⟨ws, ews, tw⟩ := paired_at hv.2 ewa
      obtain ⟨hrn, rfl⟩ := range_at ews
      refine st_gn ⟨wipe_set (by decide), ?_⟩
      exact ⟨_, rfl, _, rfl, _, rfl, ⟨x, wa, ns, rowsOf n, Ah, Bh, r, k, stS n k, _, rfl, hx.w.hs.same e, tw.same e, hx.row hk, stS_get hrn, fun H3 l e3 tl => k1 _ l rfl e3 tl⟩⟩
    · rw [range_all, List.length_map, hvl] at ht
      exact ⟨D, _, rfl, .inl ⟨sq_of hl, fun l hl' => q _ l rs (e.trans (Ex.new hl')) ⟨.inl upd_same, ht.same (Ex.new hl')⟩⟩⟩
structure spShown (A : Ads) (vs : List V) (H : Hp) (Q : VK) (E : XK) : Prop where
  ex : ∃ (x v rw_ : Addr) (vas ras : List Addr) (n : Nat) (ar : List (Nat × Nat)) (ns : List Int) (Ah Bh : List (List Int)) (k m : Nat), vs = [.ref x, .ref v, .ref rw_, .int m] ∧ HsG A H x n ar ns Ah Bh ∧ TT' H v vas (winL n) ∧ TT' H rw_ ras ((List.range n).map fun r => [(stS n k).getD r 0]) ∧ k ≤ n ∧ m ≤ n ∧ ∀ H', Ex H H' → Q (.int (mkB (sameB n k m))) H'
theorem sc63 : FnScope ["house", "view", "row", "number", "at", "window"] ["house", "view", "row", "number"] (defScope (topS 63)) := ⟨rfl, rfl, rfl, by decide +kernel, rfl, by decide +kernel, by decide +kernel⟩
/- slots: 0 house, 1 view, 2 row, 3 number, 4 at, 5 window -/
theorem ok_shown_mask (T : Txt P K mg A) : DOk P w K mg base CX0 2 "shown_mask" ["house", "view", "row", "number"] [] (spShown A) := by
  have D_seen_at := (ok_seen_at (P := P) (w := w) (base := base) T)
  refine T.shown_mask.ok0 sc63 (fun vs H Q E h => ?_) (fun _ _ _ _ _ _ us hl => match us, hl with | [_, _, _, _], _ => rfl) (fun f cdv A' outer s H vs Q E hr h => ?_)
  · obtain ⟨x, v, rw_, vas, ras, n, ar, ns, Ah, Bh, k, m, rfl, _⟩ := h
    rfl
  · obtain ⟨x, v, rw_, vas, ras, n, ar, ns, Ah, Bh, k, m, rfl, hx, hv, hrw, hk, hm, q⟩ := h
    have hn6 := hx.w.n6
    have hvl : vas.length = n := by rw [Paired.length hv.2]; simp
    refine ⟨_, (pss_one (ps_ret (pe_callB (id := "sum") (kSum (K := K) rfl rfl) (by rfl) (T.b "sum") (by decide +kernel) (pa_cons (pe_lc rfl sc63.nd (kEnum (K := K) rfl (by rfl) (T.b "enumerate") (pa_cons (pv 1) pa_nil)) (blkOk_by (own := [("at", 4), ("window", 5)]) (by rfl)) (fun _ _ _ _ _ => (kTgt (K := K) (n := 2) rfl rfl (pgs_cons (pg_name (i := 4) sc63.nd rfl (Or.inl rfl) (Or.inr rfl)) (pgs_cons (pg_name (i := 5) sc63.nd rfl (Or.inl rfl) (Or.inr rfl)) pgs_nil)) rfl rfl)) (fun _ _ _ _ _ => (pts_one (pt_cmpR (kEqD (K := K) rfl hr.units) (pe_d D_seen_at hr (by rfl) pass0 (pa_cons (pv 0) (pa_cons (pv 5) (pa_cons (pv 3) pa_nil)))) (pe_ix (kIxT (K := K) rfl) (pv 2) (pv 4) (fun _ _ => rfl)) (nomark _)))) (fun _ _ _ _ _ => (pe_op op_shl pe_int (pv 4)))) pa_nil)))), ?_⟩
    refine st_ret (st_cb ?_)
    refine ⟨_, rfl, v, _, rfl, .inr ⟨rd_t hv.1, ?_⟩⟩
    have hsb : ∀ r, r < n → (sameB n k m).getD r false = decide ((stS n m).getD r 0 = (stS n k).getD r 0) := fun r hr => by
      unfold sameB
      rw [List.getD_eq_getElem?_getD, List.getElem?_map, List.getElem?_range hr]
      rfl
    refine lcV (Qd := fun D H' => _) walk_enumT (fun r => (sameB n k m).getD r false) (fun r => .int ((1 : Int) * 2 ^ ((r : Nat) : Int).toNat)) (by rw [List.length_map]; omega) (fun H' e => rd_t (hv.ex e).1) (fun r y H' H'' Y0 Y1 hr' e yy k0 k1 => ?_) (fun D H' hD e hl => ?_)
    · obtain ⟨Tp, x1, x2, rfl, hT, rfl, y1, y2⟩ := yy
      cases (Option.some.inj y1)
      obtain ⟨wa, ewa, rfl⟩ := get_map y2
      obtain ⟨ws, ews, tw⟩ := paired_at hv.2 ewa
      obtain ⟨hrn, rfl⟩ := range_at ews
      rw [hsb r hrn] at k0 k1
      refine ⟨Tp, _, rfl, st_of upd_same, rfl, _, _, rfl, _, _, rfl, rfl, wipe_set2 (by decide) (by decide), ?_⟩
      have eT := ex2 (o := .tup [.int (r : Nat), .ref wa]) e hT
      have eTT : Ex H' (upd H' Tp (.tup [.int (r : Nat), .ref wa])) := Ex.new hT
      refine ⟨_, rfl, _, rfl, _, rfl, ⟨x, wa, ns, rowsOf n, Ah, Bh, r, m, stS n m, _, rfl, hx.w.hs.same eT, tw.same eT, hx.row hm, stS_get hrn, fun H3 l e3 tl => ?_⟩⟩
      have e4 := eT.trans e3
      have hrow : ((List.range n).map fun r => [(stS n k).getD r 0])[r]? = some [(stS n k).getD r 0] := by rw [List.getElem?_map, List.getElem?_range hrn]; rfl
      obtain ⟨ra, era, tra⟩ := tus_at (hrw.ex e4).2 hrow
      refine ⟨_, rfl, _, rfl, rw_, _, _, _, rfl, rfl, rd_t (hrw.ex e4).1, atI_map era, dTu [(stS n m).getD r 0], dTu [(stS n k).getD r 0], tl.dp, tra.dp, shaped_tu _, shaped_tu _, decide ((stS n m).getD r 0 = (stS n k).getD r 0), ?_, ?_⟩
      · rw [eqv_tu]
        congr 1
        simp
      · by_cases h : (stS n m).getD r 0 = (stS n k).getD r 0
        · rw [decide_eq_true h]
          exact ⟨_, rfl, _, _, rfl, rfl, ⟨by omega, by omega, by decide⟩, k1 _ (decide_eq_true h) (eTT.trans e3)⟩
        · rw [decide_eq_false h]
          exact k0 _ (decide_eq_false h) (eTT.trans e3)
    · rw [List.length_map, hvl] at hl
      refine ⟨D, ((List.range (sameB n k m).length).filter fun i => (sameB n k m).getD i false).map fun (i : Nat) => (1 : Int) * 2 ^ ((i : Int)).toNat, rfl, sq_of ?_, q _ e⟩
      rw [hl, sameB_len, List.map_map]
      rfl
end
end Kx
namespace Kx
open PySem PySem.Spec PyProof.Rows L2
open Evl (Ex ex_rd ex_l ex_t st_of sq_of sz_lt sz_of)
abbrev rowL (n k : Nat) : List (List Int) := (List.range n).map fun r => [(stS n k).getD r 0]
/-- the standings whose answer differs -/
def othr (ms : List Int) (a : Int) : List Int := ((List.range ms.length).filter fun k => decide (ms.getD k 0 ≠ a)).map fun (k : Nat) => (k : Int)
theorem mem_othr {ms : List Int} {a x : Int} : x ∈ othr ms a ↔ ∃ k : Nat, x = k ∧ k < ms.length ∧ ms.getD k 0 ≠ a := by
  unfold othr
  rw [List.mem_map]
  constructor
  · rintro ⟨k, hk, rfl⟩
    obtain ⟨h1, h2⟩ := List.mem_filter.mp hk
    exact ⟨k, rfl, List.mem_range.mp h1, of_decide_eq_true h2⟩
  · rintro ⟨k, rfl, h1, h2⟩
    exact ⟨k, List.mem_filter.mpr ⟨List.mem_range.mpr h1, decide_eq_true h2⟩, rfl⟩
theorem othr_asc (ms : List Int) (a : Int) : (othr ms a).Pairwise (· < ·) := by
  unfold othr
  rw [List.pairwise_map]
  refine List.Pairwise.filter _ (List.Pairwise.imp ?_ List.pairwise_lt_range)
  intro i j h
  omega
section
variable {P : Program} {w : World} {K : PySem.W.Frag} {mg : PySem.Str → Option Value} {base : Heap} {A : Ads}
structure spLotMask (A : Ads) (vs : List V) (H : Hp) (Q : VK) (E : XK) : Prop where
  ex : ∃ (x v rw_ l : Addr) (vas ras : List Addr) (n : Nat) (ar : List (Nat × Nat)) (ns : List Int) (Ah Bh : List (List Int)) (k : Nat) (L : List Int), vs = [.ref x, .ref v, .ref rw_, .ref l] ∧ HsG A H x n ar ns Ah Bh ∧ TT' H v vas (winL n) ∧ TT' H rw_ ras (rowL n k) ∧ k ≤ n ∧ Tu H l L ∧ (∀ y ∈ L, 0 ≤ y ∧ y < (n : Int) + 1) ∧ ∀ H', Ex H H' → Q (.int (mkB (lotB n k L))) H'
theorem sc64 : FnScope ["house", "view", "row", "lot", "mask", "number"] ["house", "view", "row", "lot"] (defScope (topS 64)) := ⟨rfl, rfl, rfl, by decide +kernel, rfl, by decide +kernel, by decide +kernel⟩
/- slots: 0 house, 1 view, 2 row, 3 lot, 4 mask, 5 number -/
theorem ok_lot_mask (T : Txt P K mg A) : DOk P w K mg base CX0 3 "lot_mask" ["house", "view", "row", "lot"] [] (spLotMask A) := by
  have D_shown_mask := (ok_shown_mask (P := P) (w := w) (base := base) T)
  refine T.lot_mask.ok0 sc64 (fun vs H Q E h => ?_) (fun _ _ _ _ _ _ us hl => match us, hl with | [_, _, _, _], _ => rfl) (fun f cdv A' outer s H vs Q E hr h => ?_)
  · obtain ⟨x, v, rw_, l, vas, ras, n, ar, ns, Ah, Bh, k, L, rfl, _⟩ := h
    rfl
  · obtain ⟨x, v, rw_, l, vas, ras, n, ar, ns, Ah, Bh, k, L, rfl, hx, hv, hrw, hk, hl, hL, q⟩ := h
    have hnn := mem_n hx.n2 hx.w.n6
    refine ⟨_, (pss_cons (ps_set (i := 4) sc64.nd rfl (Or.inl rfl) pe_int)
      (pss_cons (ps_for PassesOwn.never rfl (kPiT (K := K) rfl (pv 3)) (pg_name (i := 5) sc64.nd rfl (Or.inl rfl)) (pss_one (ps_set (i := 4) sc64.nd rfl (Or.inl rfl) (pe_op op_or (pv 4) (pe_d D_shown_mask hr (by rfl) pass0 (pa_cons (pv 0) (pa_cons (pv 1) (pa_cons (pv 2) (pa_cons (pv 5) pa_nil)))))))))
      (pss_one (ps_ret (pv 4))))), ?_⟩
    refine ⟨_, rfl, l, rfl, ⟨_, rd_t hl⟩, ?_⟩
    refine for_it walk_tup (fun i σ' H' => σ'[0]? = some (some (.ref x)) ∧ σ'[1]? = some (some (.ref v)) ∧ σ'[2]? = some (some (.ref rw_)) ∧ σ'[4]? = some (some (.int (mkB (lotB n k (L.take i))))) ∧ σ'.length = 6 ∧ Ex H H') ⟨rfl, rfl, rfl, ?_, rfl, Ex.refl _⟩ (fun i σ' H' _ p => rd_t (ex_rd p.2.2.2.2.2 hl)) (fun i y σ' H' H'' hi p yy => ?_) (fun σ' H' p => ?_)
    · rw [List.take_zero, lotB_nil', lotB_nil n hnn]
      rfl
    · obtain ⟨p0, p1, p2, p4, pl, pe⟩ := p
      obtain ⟨rfl, yy⟩ := yy
      obtain ⟨z, ez, rfl⟩ := get_map yy
      obtain ⟨hz0, hzn⟩ := hL z (List.mem_of_getElem? ez)
      obtain ⟨m, rfl⟩ : ∃ m : Nat, z = m := ⟨z.toNat, by omega⟩
      refine st_gn ?_
      dsimp only
      generalize hσ : σ'.set 5 (some (V.int (m : Nat))) = σ2
      have g0 : σ2[0]? = some (some (.ref x)) := by subst hσ; simp [p0]
      have g1 : σ2[1]? = some (some (.ref v)) := by subst hσ; simp [p1]
      have g2 : σ2[2]? = some (some (.ref rw_)) := by subst hσ; simp [p2]
      have g4 : σ2[4]? = some (some (.int (mkB (lotB n k (L.take i))))) := by subst hσ; simp [p4]
      have g5 : σ2[5]? = some (some (.int (m : Nat))) := by subst hσ; simp [pl]
      have gl : σ2.length = 6 := by subst hσ; simp [pl]
      refine ⟨_, g4, _, g0, _, g1, _, g2, _, g5, ⟨x, v, rw_, vas, ras, n, ar, ns, Ah, Bh, k, m, rfl, hx.ex pe, hv.ex pe, hrw.ex pe, hk, by omega, fun H3 e3 => ⟨_, _, rfl, rfl, ?_⟩⟩⟩
      have h1 := or_all n hnn (lotB n k (L.take i)) (by have := mem_allB (lotB n k (L.take i)); rwa [lotB_len] at this) (sameB n k m) (by have := mem_allB (sameB n k m); rwa [sameB_len] at this)
      rw [← lotB_snoc, ← take_next ez] at h1
      refine ⟨by simp [g0], by simp [g1], by simp [g2], ?_, by simp [gl], pe.trans e3⟩
      rw [← h1]
      simp [gl]
    · obtain ⟨p0, p1, p2, p4, pl, pe⟩ := p
      rw [List.length_map, List.take_length] at p4
      exact ⟨_, p4, q _ pe⟩
/-- mimicked: nobody within, and two of the others stand side by side -/
def Mim (ar : List (Nat × Nat)) (ms : List Int) (k : Nat) : Prop := k = 0 ∧ ∃ x ∈ othr ms (ms.getD k 0), ∃ y ∈ othr ms (ms.getD k 0), x ≠ y ∧ Adj ar x y
structure spShowing (A : Ads) (vs : List V) (H : Hp) (Q : VK) (E : XK) : Prop where
  ex : ∃ (x v b rw_ : Addr) (vas ras : List Addr) (n : Nat) (ar : List (Nat × Nat)) (ns : List Int) (Ah Bh : List (List Int)) (k : Nat) (ms : List Int), vs = [.ref x, .ref v, .ref b, .int (ms.getD k 0), .ref rw_] ∧ HsG A H x n ar ns Ah Bh ∧ TT' H v vas (winL n) ∧ TT' H rw_ ras (rowL n k) ∧ k ≤ n ∧ Tu H b ms ∧ ms.length = n + 1 ∧
    ∀ (H' : Hp) (c : Addr) (xs : List V), Ex H H' → H' c = some (.lst xs) → (xs ≠ [] ↔ Mim ar ms k) → Q (.ref c) H'
theorem sc65 : FnScope ["house", "view", "question", "answer", "row", "lots", "lot"] ["house", "view", "question", "answer", "row"] (defScope (topS 65)) := ⟨rfl, rfl, rfl, by decide +kernel, rfl, by decide +kernel, by decide +kernel⟩
/- slots: 0 house, 1 view, 2 question, 3 answer, 4 row, 5 lots, 6 lot -/
theorem ok_showing_lots (T : Txt P K mg A) : DOk P w K mg base CX0 6 "showing_lots" ["house", "view", "question", "answer", "row"] [] (spShowing A) := by
  have D_strong_lots := (ok_strong_lots (P := P) (w := w) (base := base) T)
  have D_other_standings := (ok_other_standings (P := P) (w := w) (base := base) T).mono (by decide : 1 ≤ 5)
  have D_lot_mask := (ok_lot_mask (P := P) (w := w) (base := base) T).mono (by decide : 3 ≤ 5)
  refine T.showing_lots.ok0 sc65 (fun vs H Q E h => ?_) (fun _ _ _ _ _ _ us hl => match us, hl with | [_, _, _, _, _], _ => rfl) (fun f cdv A' outer s H vs Q E hr h => ?_)
  · obtain ⟨x, v, b, rw_, vas, ras, n, ar, ns, Ah, Bh, k, ms, rfl, _⟩ := h
    rfl
  · obtain ⟨x, v, b, rw_, vas, ras, n, ar, ns, Ah, Bh, k, ms, rfl, hx, hv, hrw, hk, hb, hml, q⟩ := h
    have hn6 := hx.w.n6
    have hn2 := hx.n2
    have hnn := mem_n hn2 hn6
    refine ⟨_, (pss_cons (ps_set (i := 5) sc65.nd rfl (Or.inl rfl) (pe_d D_strong_lots hr (by rfl) pass0 (pa_cons (pv 0) (pa_cons (pe_d D_other_standings hr (by rfl) pass0 (pa_cons (pv 2) (pa_cons (pv 3) pa_nil))) pa_nil))))
      (pss_one (ps_ret (pe_lc rfl sc65.nd (kPiT (K := K) rfl (pv 5)) (blkOk_by (own := [("lot", 6)]) (by rfl)) (fun _ _ _ _ _ => (pg_name (i := 6) sc65.nd rfl (Or.inl rfl) (Or.inr rfl))) (fun _ _ _ _ _ => (pts_one (pt_cmpR op_eq (pe_d D_lot_mask hr (by rfl) pass0 (pa_cons (pv 0) (pa_cons (pv 1) (pa_cons (pv 4) (pa_cons (pv 6) pa_nil))))) (pe_op op_sub (pe_op op_shl pe_int (pe_callB (id := "len") (kLen (K := K) rfl) (by rfl) (T.b "len") (by decide +kernel) (pa_cons (pv 1) pa_nil))) pe_int) (nomark _)))) (fun _ _ _ _ _ => (pv 6)))))), ?_⟩
    refine ⟨_, rfl, _, rfl, _, rfl, ⟨b, ms, ms.getD k 0, rfl, hb, by omega, fun H1 l e1 tl => ?_⟩⟩
    have hins : ∀ y ∈ othr ms (ms.getD k 0), 0 ≤ y ∧ y < (n : Int) + 1 := fun y hy => by
      obtain ⟨j, rfl, hj, _⟩ := mem_othr.mp hy
      omega
    refine ⟨x, l, n, ar, ns, rowsOf n, Ah, Bh, othr ms (ms.getD k 0), rfl, hx.w.ex e1, tl, othr_asc _ _, hins, fun H2 lo rs Ls e2 hlo hL => ?_⟩
    have e12 := e1.trans e2
    have hk0 : (k : Int) ∉ othr ms (ms.getD k 0) := fun h => by
      obtain ⟨j, ej, hj, hne⟩ := mem_othr.mp h
      have : j = k := (Int.ofNat_inj.mp ej).symm
      subst this
      exact hne rfl
    obtain ⟨hz, hzL⟩ := lots_small hL.toLotsP (othr_asc _ _) hins
    have hrl := Paired.length hlo.2
    have hfull : ∀ L ∈ Ls, (mkB (lotB n k L) = 1 * 2 ^ ((n : Int)).toNat - 1 ↔ (k = 0 ∧ 2 ≤ L.length)) := fun L hLm => by
      rw [full_all n hnn (lotB n k L) (by have := mem_allB (lotB n k L); rwa [lotB_len] at this)]
      exact lot_full (fun y hy => hins y (hL.sub L hLm y hy)) (asc_nodup (hL.asc L hLm)) (fun h => hk0 (hL.sub L hLm _ h)) hk (by omega)
    refine ⟨_, rfl, lo, rfl, ⟨_, rd_t hlo.1⟩, ?_⟩
    refine lcV (Qd := fun D H' => _) walk_tup (fun j => decide (k = 0 ∧ 2 ≤ (Ls.getD j []).length)) (fun j => (rs.map V.ref).getD j .non) (by rw [List.length_map]; omega) (fun H' e => rd_t (hlo.ex e).1) (fun j y H3 H4 Y0 Y1 hj e yy k0 k1 => ?_) (fun D H' hD e hl => ?_)
    · obtain ⟨rfl, yy⟩ := yy
      obtain ⟨la, ela, rfl⟩ := get_map yy
      obtain ⟨L, eL, tL⟩ := paired_at hlo.2 ela
      have hLm := List.mem_of_getElem? eL
      rw [getD_at eL] at k0 k1
      rw [getD_map ela] at k1
      refine st_gn ⟨wipe_set (by decide), ?_⟩
      have e3 := e12.trans e
      refine ⟨_, rfl, _, rfl, _, rfl, _, rfl, ⟨x, v, rw_, la, vas, ras, n, ar, ns, Ah, Bh, k, L, rfl, hx.ex e3, hv.ex e3, hrw.ex e3, hk, tL.same e, fun y hy => hins y (hL.sub L hLm y hy), fun H5 e5 => ?_⟩⟩
      have hvl : vas.length = n := by rw [Paired.length hv.2]; simp
      refine ⟨_, rfl, v, _, rfl, .inr (rd_t (hv.ex (e3.trans e5)).1), _, _, rfl, rfl, ⟨by omega, by rw [List.length_map]; omega, by decide⟩, _, _, rfl, rfl, rfl, ?_⟩
      rw [List.length_map, hvl]
      have hf := hfull L hLm
      by_cases hc : k = 0 ∧ 2 ≤ L.length
      · exact ⟨true, bl_t (congrArg V.int (hf.mpr hc)), _, rfl, k1 _ (decide_eq_true hc) e5⟩
      · exact ⟨false, bl_f (fun z => hc (hf.mp (V.int.inj z))), k0 _ (decide_eq_false hc) e5⟩
    · refine q _ D _ (e12.trans e) hl ?_
      rw [List.length_map, hrl]
      have hne : ((((List.range Ls.length).filter fun j => decide (k = 0 ∧ 2 ≤ (Ls.getD j []).length)).map fun j => (rs.map V.ref).getD j V.non) ≠ []) ↔ k = 0 ∧ ∃ L ∈ Ls, 2 ≤ L.length := by
        rw [ne_eq, List.map_eq_nil_iff, List.filter_eq_nil_iff]
        constructor
        · intro h
          have : ∃ j, j < Ls.length ∧ (k = 0 ∧ 2 ≤ (Ls.getD j []).length) := by
            apply Classical.byContradiction
            intro hno
            refine h fun j hj hd => hno ⟨j, List.mem_range.mp hj, of_decide_eq_true hd⟩
          obtain ⟨j, hj, hk', h2⟩ := this
          refine ⟨hk', Ls.getD j [], ?_, h2⟩
          rw [List.getD_eq_getElem?_getD, List.getElem?_eq_getElem hj]
          exact List.getElem_mem hj
        · rintro ⟨hk', L, hLm, h2⟩ h
          obtain ⟨j, hj, ej⟩ := List.mem_iff_getElem.mp hLm
          refine h j (List.mem_range.mpr hj) (decide_eq_true ⟨hk', ?_⟩)
          rw [getD_at (List.getElem?_eq_getElem hj), ej]
          exact h2
      rw [hne]
      unfold Mim
      constructor
      · rintro ⟨hk', L, hLm, h2⟩
        obtain ⟨a, ha, c, hc, hac, hadj⟩ := hL.pair L hLm h2
        exact ⟨hk', a, hL.sub L hLm a ha, c, hL.sub L hLm c hc, hac, hadj⟩
      · rintro ⟨hk', a, ha, c, hc, hac, hadj⟩
        obtain ⟨L, hLm, haL⟩ := hL.cov a ha
        have hcL := hL.cl L hLm a haL c hc hadj
        refine ⟨hk', L, hLm, ?_⟩
        have h2 := nodup_len (l := [a, c]) (m := L) (by simp [hac]) (by simp [haL, hcL])
        simpa using h2
end
end Kx
namespace Kx
open PySem PySem.Spec PyProof.Rows L2
open Evl (Ex ex_rd ex_l ex_t st_of sq_of sz_lt sz_of)
section
variable {P : Program} {w : World} {K : PySem.W.Frag} {mg : PySem.Str → Option Value} {base : Heap} {A : Ads}
structure spIsMim (A : Ads) (vs : List V) (H : Hp) (Q : VK) (E : XK) : Prop where
  ex : ∃ (x v b rw_ : Addr) (vas ras : List Addr) (n : Nat) (ar : List (Nat × Nat)) (ns : List Int) (Ah Bh : List (List Int)) (k : Nat) (ms : List Int), vs = [.ref x, .ref v, .ref b, .int (ms.getD k 0), .ref rw_] ∧ HsG A H x n ar ns Ah Bh ∧ TT' H v vas (winL n) ∧ TT' H rw_ ras (rowL n k) ∧ k ≤ n ∧ Tu H b ms ∧ ms.length = n + 1 ∧
    ∀ (H' : Hp) (m : Bool), Ex H H' → (m = true ↔ Mim ar ms k) → Q (.bl m) H'
theorem sc66 : FnScope ["house", "view", "question", "answer", "row"] ["house", "view", "question", "answer", "row"] (defScope (topS 66)) := ⟨rfl, rfl, rfl, by decide +kernel, rfl, by decide +kernel, by decide +kernel⟩
/- slots: 0 house, 1 view, 2 question, 3 answer, 4 row -/
theorem ok_is_mimicked (T : Txt P K mg A) : DOk P w K mg base CX0 7 "is_mimicked" ["house", "view", "question", "answer", "row"] [] (spIsMim A) := by
  have D_showing_lots := (ok_showing_lots (P := P) (w := w) (base := base) T)
  refine T.is_mimicked.ok0 sc66 (fun vs H Q E h => ?_) (fun _ _ _ _ _ _ us hl => match us, hl with | [_, _, _, _, _], _ => rfl) (fun f cdv A' outer s H vs Q E hr h => ?_)
  · obtain ⟨x, v, b, rw_, vas, ras, n, ar, ns, Ah, Bh, k, ms, rfl, _⟩ := h
    rfl
  · obtain ⟨x, v, b, rw_, vas, ras, n, ar, ns, Ah, Bh, k, ms, rfl, hx, hv, hrw, hk, hb, hml, q⟩ := h
    refine ⟨_, (pss_one (ps_ret (pe_cmpR op_gt (pe_callB (id := "len") (kLen (K := K) rfl) (by rfl) (T.b "len") (by decide +kernel) (pa_cons (pe_d D_showing_lots hr (by rfl) pass0 (pa_cons (pv 0) (pa_cons (pv 1) (pa_cons (pv 2) (pa_cons (pv 3) (pa_cons (pv 4) pa_nil)))))) pa_nil)) pe_int (nomark _)))), ?_⟩
    refine ⟨_, rfl, _, rfl, _, rfl, _, rfl, _, rfl, ⟨x, v, b, rw_, vas, ras, n, ar, ns, Ah, Bh, k, ms, rfl, hx, hv, hrw, hk, hb, hml, fun H' c xs e hc hm => ?_⟩⟩
    refine ⟨c, xs, rfl, .inl (sq_of hc), _, _, rfl, rfl, q H' _ e ?_⟩
    rw [decide_eq_true_iff, ← hm]
    constructor
    · intro h z
      rw [z] at h
      simp at h
    · intro h
      have := List.length_pos_iff.mpr h
      omega
structure spNeedAsked (A : Ads) (vs : List V) (H : Hp) (Q : VK) (E : XK) : Prop where
  ex : ∃ (x v b : Addr) (vas : List Addr) (n : Nat) (ar : List (Nat × Nat)) (ns : List Int) (Ah Bh : List (List Int)) (ms : List Int), vs = [.ref x, .ref v, .ref b] ∧ HsG A H x n ar ns Ah Bh ∧ TT' H v vas (winL n) ∧ Ls H b ms ∧ ms.length = n + 1 ∧ (∀ m ∈ ms, 0 ≤ m) ∧
    ∀ (H' : Hp) (l v' q' : Addr), Ex H H' → Rd H' l (.tup [.ref x, .ref v', .ref q']) → TT' H' v' vas (winL n) → Tu H' q' ms → Q (.ref l) H'
theorem sc61 : FnScope ["house", "view", "question"] ["house", "view", "question"] (defScope (topS 61)) := ⟨rfl, rfl, rfl, by decide +kernel, rfl, by decide +kernel, by decide +kernel⟩
/- slots: 0 house, 1 view, 2 question -/
theorem ok_need_asked (T : Txt P K mg A) : DOk P w K mg base CX0 5 "need_asked" ["house", "view", "question"] [] (spNeedAsked A) := by
  have D_need_house := (ok_need_house (P := P) (w := w) (base := base) T).mono (by decide : 1 ≤ 4)
  have D_need_view := (ok_need_view (P := P) (w := w) (base := base) T)
  have D_need_question := (ok_need_question (P := P) (w := w) (base := base) T).mono (by decide : 3 ≤ 4)
  refine T.need_asked.ok0 sc61 (fun vs H Q E h => ?_) (fun _ _ _ _ _ _ us hl => match us, hl with | [_, _, _], _ => rfl) (fun f cdv A' outer s H vs Q E hr h => ?_)
  · obtain ⟨x, v, b, vas, n, ar, ns, Ah, Bh, ms, rfl, _⟩ := h
    rfl
  · obtain ⟨x, v, b, vas, n, ar, ns, Ah, Bh, ms, rfl, hx, hv, hb, hml, hms, q⟩ := h
    have hn6 := hx.w.n6
    have hn2 := hx.n2
    have rlen := (rows_asc n (mem_n hn2 hn6)).2.2.1
    refine ⟨_, (pss_cons (ps_set (i := 0) sc61.nd rfl (Or.inl rfl) (pe_d D_need_house hr (by rfl) pass0 (pa_cons (pv 0) pa_nil)))
      (pss_cons (ps_set (i := 1) sc61.nd rfl (Or.inl rfl) (pe_d D_need_view hr (by rfl) pass0 (pa_cons (pv 0) (pa_cons (pv 1) pa_nil))))
      (pss_one (ps_ret (pe_tup (pa_cons (pv 0) (pa_cons (pv 1) (pa_cons (pe_d D_need_question hr (by rfl) passL (pa_cons (pv 0) (pa_cons (pv 2) pa_nil))) pa_nil)))))))), ?_⟩
    refine ⟨_, rfl, hx.w.hs.need ?_⟩
    refine ⟨_, rfl, _, rfl, ⟨x, v, ns, rowsOf n, Ah, Bh, vas, winL n, rfl, hx.w.hs, hv, ?_, ?_, by simp; omega, fun ws hws => ?_, fun H1 l1 e1 tl1 => ?_⟩⟩
    · intro z
      have := congrArg List.length z
      simp at this
      omega
    · refine List.Pairwise.map _ (fun i j hij e => ?_) List.nodup_range
      exact hij (Int.ofNat_inj.mp (List.cons.inj e).1)
    · obtain ⟨j, hj, rfl⟩ := List.mem_map.mp hws
      exact ⟨j, rfl, by rw [hx.nl]; exact List.mem_range.mp hj⟩
    refine ⟨_, rfl, _, rfl, _, rfl, _, rfl, ⟨x, b, ns, rowsOf n, Ah, Bh, ms.map V.int, ms, false, rfl, hx.w.hs.same e1, by omega, .inl (ex_rd e1 hb), ⟨by simp, hms⟩, ?_, ?_, ?_⟩⟩
    · intro h
      rw [List.length_map, rlen] at h
      exact absurd hml h
    · intro _ h
      cases h
    · intro _ _ H2 l2 e2 hl2
      refine ⟨(by decide : 3 ≤ sizeLine), fun p hp => ?_⟩
      have e3 := Ex.new (o := .tup [.ref x, .ref l1, .ref l2]) hp
      exact q _ p l1 l2 ((e1.trans e2).trans e3) (.inl upd_same) (tl1.ex (e2.trans e3)) (ex_rd e3 hl2)
structure spToldIn (A : Ads) (vs : List V) (H : Hp) (Q : VK) (E : XK) : Prop where
  ex : ∃ (x v b : Addr) (vas : List Addr) (n : Nat) (ar : List (Nat × Nat)) (ns : List Int) (Ah Bh : List (List Int)) (ms : List Int), vs = [.ref x, .ref v, .ref b] ∧ HsG A H x n ar ns Ah Bh ∧ TT' H v vas (winL n) ∧ Tu H b ms ∧ ms.length = n + 1 ∧
    ∀ (H' : Hp) (l : Addr) (ds : List Int), Ex H H' → Tu H' l ds → (ds.length = n + 1 ↔ ¬ Mim ar ms 0) → Q (.ref l) H'
theorem sc67 : FnScope ["house", "view", "question", "told", "number", "answer"] ["house", "view", "question"] (defScope (topS 67)) := ⟨rfl, rfl, rfl, by decide +kernel, rfl, by decide +kernel, by decide +kernel⟩
/- slots: 0 house, 1 view, 2 question, 3 told, 4 number, 5 answer -/
theorem ok_told_in (T : Txt P K mg A) : DOk P w K mg base CX0 8 "told_in" ["house", "view", "question"] [] (spToldIn A) := by
  have D_is_mimicked := (ok_is_mimicked (P := P) (w := w) (base := base) T)
  have D_row_of := (ok_row_of (P := P) (w := w) (base := base) T).mono (by decide : 2 ≤ 7)
  refine T.told_in.ok0 sc67 (fun vs H Q E h => ?_) (fun _ _ _ _ _ _ us hl => match us, hl with | [_, _, _], _ => rfl) (fun f cdv A' outer s H vs Q E hr h => ?_)
  · obtain ⟨x, v, b, vas, n, ar, ns, Ah, Bh, ms, rfl, _⟩ := h
    rfl
  · obtain ⟨x, v, b, vas, n, ar, ns, Ah, Bh, ms, rfl, hx, hv, hb, hml, q⟩ := h
    have hn6 := hx.w.n6
    refine ⟨_, (pss_cons (ps_set (i := 3) sc67.nd rfl (Or.inl rfl) (pe_lst pa_nil))
      (pss_cons (ps_for PassesOwn.never rfl (kEnum (K := K) rfl (by rfl) (T.b "enumerate") (pa_cons (pv 2) pa_nil)) (kTgt (K := K) (n := 2) rfl rfl (pgs_cons (pg_name (i := 4) sc67.nd rfl (Or.inl rfl)) (pgs_cons (pg_name (i := 5) sc67.nd rfl (Or.inl rfl)) pgs_nil)) rfl rfl) (pss_one (ps_if (pt_not (pt_val (pe_d D_is_mimicked hr (by rfl) pass0 (pa_cons (pv 0) (pa_cons (pv 1) (pa_cons (pv 2) (pa_cons (pv 5) (pa_cons (pe_d D_row_of hr (by rfl) pass0 (pa_cons (pv 0) (pa_cons (pv 1) (pa_cons (pv 4) pa_nil)))) pa_nil)))))))) (pss_one (ps_expr (kBM (K := K) rfl PySem.F.plainAttrs_list PySem.F.slot_list_append PySem.F.type_list_append mt_append (pv 3) (pa_cons (pv 4) pa_nil)))) pss_nil)))
      (pss_one (ps_ret (pe_callTy (T := "tuple") (kTup (K := K) rfl) (by rfl) (T.b "tuple") (by decide +kernel) (pa_cons (pv 3) pa_nil)))))), ?_⟩
    refine ⟨Nat.zero_le _, fun d hd => ?_⟩
    have e0 : Ex H (upd H d (.lst [])) := Ex.new hd
    refine ⟨_, rfl, b, _, rfl, .inr ⟨rd_t (ex_rd e0 hb), ?_⟩⟩
    refine for_it walk_enumT (fun i σ' H' => σ'[0]? = some (some (.ref x)) ∧ σ'[1]? = some (some (.ref v)) ∧ σ'[2]? = some (some (.ref b)) ∧ σ'[3]? = some (some (.ref d)) ∧ σ'.length = 6 ∧ Ex H H' ∧ ∃ ds : List Int, H' d = some (.lst (ds.map V.int)) ∧ ds.length ≤ i ∧ (ds.length = i ↔ ¬ (0 < i ∧ Mim ar ms 0))) ⟨rfl, rfl, rfl, rfl, rfl, e0, [], upd_same, Nat.le_refl _, by simp⟩ (fun i σ' H' _ p => rd_t (ex_rd p.2.2.2.2.2.1 hb)) (fun i y σ' H' H'' hi p yy => ?_) (fun σ' H' p => ?_)
    · obtain ⟨p0, p1, p2, p3, pl, pe, ds, pd, pdl, pdi⟩ := p
      obtain ⟨Tp, x1, x2, rfl, hT, rfl, y1, y2⟩ := yy
      cases (Option.some.inj y1)
      obtain ⟨a, ea, rfl⟩ := get_map y2
      rw [List.length_map, hml] at hi
      have hga := getD_at (d := 0) ea
      refine ⟨Tp, _, rfl, st_of upd_same, rfl, _, _, rfl, _, _, rfl, rfl, ?_⟩
      have eT := ex2 (o := .tup [.int (i : Nat), .int a]) pe hT
      have pdT := Ex.new (o := .tup [.int (i : Nat), .int a]) hT _ _ pd
      generalize (upd H' Tp (.tup [.int (i : Nat), .int a])) = HT' at eT pdT ⊢
      generalize hσ : (σ'.set 4 (some (V.int (i : Nat)))).set 5 (some (V.int a)) = σ2
      have g0 : σ2[0]? = some (some (.ref x)) := by subst hσ; simp [p0]
      have g1 : σ2[1]? = some (some (.ref v)) := by subst hσ; simp [p1]
      have g2 : σ2[2]? = some (some (.ref b)) := by subst hσ; simp [p2]
      have g3 : σ2[3]? = some (some (.ref d)) := by subst hσ; simp [p3]
      have g4 : σ2[4]? = some (some (.int (i : Nat))) := by subst hσ; simp [pl]
      have g5 : σ2[5]? = some (some (.int a)) := by subst hσ; simp [pl]
      have gl : σ2.length = 6 := by subst hσ; simp [pl]
      refine ⟨_, g0, _, g1, _, g2, _, g5, _, g0, _, g1, _, g4, ⟨x, v, vas, n, ar, ns, Ah, Bh, i, rfl, hx.ex eT, hv.ex eT, by omega, fun H3 l ras e3 hl3 => ?_⟩⟩
      have e13 := eT.trans e3
      refine ⟨x, v, b, l, vas, ras, n, ar, ns, Ah, Bh, i, ms, by rw [hga]; rfl, hx.ex e13, hv.ex e13, hl3, by omega, hb.same e13, hml, fun H4 m e4 hm => ⟨m, rfl, ?_⟩⟩
      have e34 := e3.trans e4
      have pd4 := e34 _ _ pdT
      have hM : Mim ar ms i → i = 0 ∧ Mim ar ms 0 := fun h => by
        have := h.1
        subst this
        exact ⟨rfl, h⟩
      cases m with
      | true =>
        obtain ⟨hi0, hM0⟩ := hM (hm.mp rfl)
        subst hi0
        refine ⟨g0, g1, g2, g3, gl, eT.trans e34, ds, pd4, by omega, ?_⟩
        constructor
        · intro h
          omega
        · intro h
          exact absurd ⟨by omega, hM0⟩ h
      | false =>
        have hnM : ¬ Mim ar ms i := fun h => by have := hm.mpr h; cases this
        refine ⟨_, g3, tyL (sq_of pd4), _, g4, d, _, _, rfl, rfl, pd4, by rw [List.length_map]; exact sz_lt (by omega), g0, g1, g2, g3, gl, (eT.trans e34).mut hd, ds ++ [(i : Int)], by rw [upd_same, List.map_append]; rfl, by rw [List.length_append]; simp; omega, ?_⟩
        rw [List.length_append]
        show ds.length + 1 = i + 1 ↔ _
        have h1 : ds.length + 1 = i + 1 ↔ ds.length = i := by omega
        rw [h1, pdi]
        by_cases hi0 : i = 0
        · subst hi0
          constructor
          · intro _ h
            exact hnM h.2
          · intro _ h
            omega
        · constructor
          · intro h h'
            exact h ⟨by omega, h'.2⟩
          · intro h h'
            exact h ⟨by omega, h'.2⟩
    · obtain ⟨p0, p1, p2, p3, pl, pe, ds, pd, pdl, pdi⟩ := p
      rw [List.length_map, hml] at pdi
      refine ⟨_, p3, d, _, rfl, .inl ⟨sq_of pd, fun l hl => q _ l ds (pe.trans (Ex.new hl)) (.inl upd_same) ?_⟩⟩
      rw [pdi]
      constructor
      · intro h h'
        exact h ⟨by omega, h'⟩
      · intro h h'
        exact h h'.2
structure spIsAnswerable (A : Ads) (vs : List V) (H : Hp) (Q : VK) (E : XK) : Prop where
  ex : ∃ (x v b : Addr) (vas : List Addr) (n : Nat) (ar : List (Nat × Nat)) (ns : List Int) (Ah Bh : List (List Int)) (ms : List Int), vs = [.ref x, .ref v, .ref b] ∧ HsG A H x n ar ns Ah Bh ∧ TT' H v vas (winL n) ∧ Ls H b ms ∧ ms.length = n + 1 ∧ (∀ m ∈ ms, 0 ≤ m) ∧
    ∀ (H' : Hp) (r : Bool), Ex H H' → (r = true ↔ ¬ Mim ar ms 0) → Q (.bl r) H'
theorem sc68 : FnScope ["house", "view", "question"] ["house", "view", "question"] (defScope (topS 68)) := ⟨rfl, rfl, rfl, by decide +kernel, rfl, by decide +kernel, by decide +kernel⟩
/- slots: 0 house, 1 view, 2 question -/
theorem ok_is_answerable (T : Txt P K mg A) : DOk P w K mg base CX0 9 "is_answerable" ["house", "view", "question"] [] (spIsAnswerable A) := by
  have D_need_asked := (ok_need_asked (P := P) (w := w) (base := base) T).mono (by decide : 5 ≤ 8)
  have D_told_in := (ok_told_in (P := P) (w := w) (base := base) T)
  refine T.is_answerable.ok0 sc68 (fun vs H Q E h => ?_) (fun _ _ _ _ _ _ us hl => match us, hl with | [_, _, _], _ => rfl) (fun f cdv A' outer s H vs Q E hr h => ?_)
  · obtain ⟨x, v, b, vas, n, ar, ns, Ah, Bh, ms, rfl, _⟩ := h
    rfl
  · obtain ⟨x, v, b, vas, n, ar, ns, Ah, Bh, ms, rfl, hx, hv, hb, hml, hms, q⟩ := h
    have hn6 := hx.w.n6
    have hn2 := hx.n2
    have rlen := (rows_asc n (mem_n hn2 hn6)).2.2.1
    refine ⟨_, (pss_cons (ps_asg (pe_d D_need_asked hr (by rfl) pass0 (pa_cons (pv 0) (pa_cons (pv 1) (pa_cons (pv 2) pa_nil)))) (kTgt (K := K) (n := 3) rfl rfl (pgs_cons (pg_name (i := 0) sc68.nd rfl (Or.inl rfl)) (pgs_cons (pg_name (i := 1) sc68.nd rfl (Or.inl rfl)) (pgs_cons (pg_name (i := 2) sc68.nd rfl (Or.inl rfl)) pgs_nil))) rfl rfl))
      (pss_one (ps_ret (pe_cmpR op_eq (pe_callB (id := "len") (kLen (K := K) rfl) (by rfl) (T.b "len") (by decide +kernel) (pa_cons (pe_d D_told_in hr (by rfl) pass0 (pa_cons (pv 0) (pa_cons (pv 1) (pa_cons (pv 2) pa_nil)))) pa_nil)) (pe_callB (id := "len") (kLenO (A := A) T hr rfl rfl rfl rfl rfl) (by rfl) (T.b "len") (by decide +kernel) (pa_cons (pv 0) pa_nil)) (nomark _))))), ?_⟩
    refine ⟨_, rfl, _, rfl, _, rfl, ⟨x, v, b, vas, n, ar, ns, Ah, Bh, ms, rfl, hx, hv, hb, hml, hms, fun H1 l v' q' e1 hl hv' hq' => ?_⟩⟩
    refine ⟨l, _, rfl, rd_t hl, rfl, _, _, rfl, _, _, rfl, _, _, rfl, rfl, ?_⟩
    refine ⟨_, rfl, _, rfl, _, rfl, ⟨x, v', q', vas, n, ar, ns, Ah, Bh, ms, rfl, hx.ex e1, hv', hq', hml, fun H2 l2 ds e2 hl2 hds => ?_⟩⟩
    refine ⟨l2, _, rfl, .inr (rd_t hl2), st_cb ⟨_, rfl, lenO ((hx.ex e1).ex e2).w.hs (by omega) ⟨rfl, ?_⟩⟩⟩
    refine q H2 _ (e1.trans e2) ?_
    rw [decide_eq_true_iff, List.length_map, rlen, ← hds]
    constructor
    · intro h
      exact Int.ofNat_inj.mp (V.int.inj h)
    · intro h
      rw [h]
end
end Kx
namespace Kx
open PySem PySem.Spec PyProof.Rows L2
open Evl (Ex ex_rd ex_l ex_t st_of sq_of sz_lt sz_of)
theorem shaped_intsL (ns : List Int) : SeqAt.shaped (.list (dInts ns)) = true := shaped_of (by rw [PyData.canLay0, lay_ints]) (by rw [PyData.depth, depth_ints]; decide)
theorem dp_list {K : PySem.W.Frag} {H : Hp} {a : Addr} {ns : List Int} (h : SqL K H a (ns.map V.int)) : Dp K H (.ref a) (.list (dInts ns)) := .lst h (dp_ints ns)
theorem eqv_list (as bs : List Int) : PyData.eqv (.list (dInts as)) (.list (dInts bs)) = decide (as = bs) := by
  rw [PyData.eqv]
  exact eqvAll_ints as bs
section
variable {P : Program} {w : World} {K : PySem.W.Frag} {mg : PySem.Str → Option Value} {base : Heap} {A : Ads}
structure spLed (vs : List V) (H : Hp) (Q : VK) (E : XK) : Prop where
  ex : ∃ (wa : Addr) (a : Int) (ind : Addr) (ws : List Addr) (W : List (List Int)) (ks : List Int) (p : V → Prop), vs = [.ref wa, .int a, .ref ind] ∧ TT' H wa ws W ∧ DKs H ind ks p ∧ a ∈ ks ∧ (∀ x ∈ ks, 0 ≤ x ∧ x < W.length) ∧ ks.length ≤ 50 ∧
    ∀ (H' : Hp) (o : Addr) (fs ys : List Int), Ex H H' → H o = none → H' o = some (.lst (ys.map V.int)) → Reach W ks a fs → ys.Perm fs → Q (.ref o) H'
theorem sc74 : FnScope ["_law_ahead", "_law_start", "_law_inside", "_law_met", "_law_waiting", "_law_goal"] ["_law_ahead", "_law_start", "_law_inside"] (defScope (topS 74)) := ⟨rfl, rfl, rfl, by decide +kernel, rfl, by decide +kernel, by decide +kernel⟩
/- slots: 0 _law_ahead, 1 _law_start, 2 _law_inside, 3 _law_met, 4 _law_waiting, 5 _law_goal -/
theorem ok_law_led (T : Txt P K mg A) : DOk P w K mg base CX0 1 "_law_led" ["_law_ahead", "_law_start", "_law_inside"] [] spLed := by
  refine T._law_led.ok0 sc74 (fun vs H Q E h => ?_) (fun _ _ _ _ _ _ us hl => match us, hl with | [_, _, _], _ => rfl) (fun f cdv A' outer s H vs Q E hr h => ?_)
  · obtain ⟨wa, a, ind, ws, W, ks, p, rfl, _⟩ := h
    rfl
  · obtain ⟨wa, a, ind, ws, W, ks, p, rfl, hw, hin, ha, hks, hz, q⟩ := h
    have hu := hu_of hr
    refine ⟨_, (pss_cons (ps_par (i := 3) (j := 4) rfl sc74.nd rfl rfl (by decide) rfl rfl (pa_cons (pe_disp (pps_cons (pv 1) pe_bl pps_nil) (by rfl) (by rfl) (by simp) (by decide)) (pa_cons (pe_lst (pa_cons (pv 1) pa_nil)) pa_nil)) rfl)
      (pss_cons (ps_while PassesOwn.never (pt_cmpR (kNeD (K := K) rfl hr.units) (pv 4) (pe_lst pa_nil) (nomark _)) (pss_one (ps_for PassesOwn.never rfl (kPiT (K := K) rfl (pe_ix (kIxT (K := K) rfl) (pv 0) (kBM0 (K := K) rfl PySem.F.plainAttrs_list PySem.F.slot_list_pop PySem.F.type_list_pop mt_pop (pv 4)) (fun _ _ => rfl))) (pg_name (i := 5) sc74.nd rfl (Or.inl rfl)) (pss_one (ps_if (PW.pt (pw_and (pt_cmp (pc_din hu (pv 5) (pv 2))) (pw_and1 (pt_cmp (pc_dnotin hu (pv 5) (pv 3)))))) (pss_cons (ps_dput hu (pv 3) (pv 5) pe_bl (by rfl))
      (pss_one (ps_expr (kBM (K := K) rfl PySem.F.plainAttrs_list PySem.F.slot_list_append PySem.F.type_list_append mt_append (pv 4) (pa_cons (pv 5) pa_nil))))) pss_nil)))))
      (pss_one (ps_ret (pe_callB (id := "sorted") (kSorted (K := K) rfl) (by rfl) (T.b "sorted") (by decide +kernel) (pa_cons (pe_callTy (T := "list") (call_listD rfl) (by rfl) (T.b "list") (by decide +kernel) (pa_cons (pv 3) pa_nil)) pa_nil)))))), ?_⟩
    refine st_seq (st_par ?_)
    refine fun far hfar => ?_
    refine ⟨_, rfl, upd_same, [(.inl a, .bl true)], rfl, by simp, ?_⟩
    refine ⟨_, rfl, (by decide : 1 ≤ sizeLine), fun fr hfr => ?_⟩
    have e1 : Ex H (upd H far (.dK [])) := Ex.new hfar
    have e2 : Ex H (upd (upd H far (.dK [])) far (.dK (mergeK [] [(.inl a, .bl true)]))) := e1.mut hfar
    have hfr0 := Evl.fresh_back e2 hfr
    have e3 := ex2 (o := .lst [.int a]) e2 hfr
    have d3 : DKs (upd (upd (upd H far (.dK [])) far (.dK (mergeK [] [(.inl a, .bl true)]))) fr (.lst [.int a])) far [a] anyV :=
      ⟨[(.inl a, .bl true)], Ex.new hfr _ _ upd_same, rfl, fun _ _ => trivial⟩
    dsimp only
    refine st_seq ?_
    refine ⟨fun m σ' H' => ∃ xs fs : List Int, σ'[0]? = some (some (.ref wa)) ∧ σ'[2]? = some (some (.ref ind)) ∧ σ'[3]? = some (some (.ref far)) ∧ σ'[4]? = some (some (.ref fr)) ∧ σ'.length = 6 ∧ Ex H H' ∧ DKs H' far fs anyV ∧ H' fr = some (.lst (xs.map V.int)) ∧ (∀ x ∈ xs, x ∈ fs) ∧
      fs.Nodup ∧ a ∈ fs ∧ (∀ x ∈ fs, x ∈ ks) ∧ (∀ x ∈ fs, x ∉ xs → ∀ y ∈ ks, y ∈ rowW W x → y ∈ fs) ∧ (fs ≠ [a] → ∃ x ∈ fs, ∃ y ∈ fs, x ≠ y ∧ y ∈ rowW W x) ∧ m = 2 * (ks.length - fs.length) + xs.length ∧ xs.Nodup,
      ⟨_, [a], [a], rfl, rfl, rfl, rfl, rfl, e3, d3, upd_same, fun x h => h, by simp, by simp, fun x h => ?_, fun x h h2 => absurd h h2, fun h => absurd rfl h, rfl, by simp⟩, fun m σ' H' p => ?_⟩
    · have : x = a := by simpa using h
      rw [this]
      exact ha
    obtain ⟨xs, fs, p0, p2, p3, p4, pl, pe, pd, pf, hxs, hnd, ha0, hsub, hcl, hpair, hm, hxn⟩ := p
    have hfl := nodup_len hnd hsub
    refine ⟨_, p4, Nat.zero_le _, fun nl hnl => ?_⟩
    have pe1 := ex2 (o := .lst []) pe hnl
    have pd1 := pd.same (Ex.new (o := .lst []) hnl)
    have pf1 := Ex.new (o := .lst []) hnl _ _ pf
    refine ⟨.list (dInts xs), .list (dInts []), dp_list (sq_of pf1), dp_list (ns := []) (sq_of upd_same), shaped_intsL _, shaped_intsL _, ?_⟩
    have hnfr : nl ≠ fr := (ne_of_none pf hnl).symm
    generalize (upd H' nl (.lst [])) = HA at pe1 pd1 pf1 ⊢
    clear pe pd pf
    by_cases hx0 : xs = []
    · subst hx0
      refine ⟨false, by rw [eqv_list]; rfl, ?_⟩
      obtain ⟨kvs, hk1, hk2, _⟩ := pd1.ex
      refine ⟨_, p3, far, kvs, rfl, .inl hk1, fun p hp => ?_⟩
      have hkl : (kvs.map fun kv => kV kv.1) = fs.map V.int := by
        have h1 : (kvs.map fun kv => kV kv.1) = (kvs.map (·.1)).map kV := by rw [List.map_map]; rfl
        rw [h1, hk2, List.map_map]
        rfl
      rw [hkl]
      refine ⟨p, fs, rfl, sq_of upd_same, by omega, fun ys p2 hperm hsort hp2 => ?_⟩
      exact q _ p2 fs ys ((pe1.trans (Ex.new hp)).trans (Ex.new hp2)) (Evl.fresh_back (pe1.trans (Ex.new hp)) hp2) upd_same ⟨hnd, ha0, hsub, fun x hx y hy hr => hcl x hx (by simp) y hy hr, hpair⟩ hperm
    · refine ⟨true, by rw [eqv_list, decide_eq_false hx0]; rfl, ?_⟩
      obtain ⟨xs', z, rfl⟩ := snoc_of hx0
      have hzx : z ∈ xs' ++ [z] := by simp
      have hzf := hxs z hzx
      obtain ⟨hz0, hzW⟩ := hks z (hsub z hzf)
      have hxn' : xs'.Nodup ∧ z ∉ xs' := by
        obtain ⟨h1, _, h3⟩ := List.nodup_append.mp hxn
        exact ⟨h1, fun h => h3 z h z (by simp) rfl⟩
      obtain ⟨row, erow⟩ : ∃ row, W[z.toNat]? = some row := ⟨_, List.getElem?_eq_getElem (by omega)⟩
      have hrow := rowW_at erow
      obtain ⟨ra, era, tra⟩ := tus_at hw.2 erow
      have hzz : ((z.toNat : Nat) : Int) = z := Int.toNat_of_nonneg hz0
      have hatz : atI (ws.map V.ref) z = some (.ref ra) := by rw [← hzz]; exact atI_map era
      refine ⟨fun σ2 H2 => ∃ m', m' < m ∧ ∃ ys gs : List Int, σ2[0]? = some (some (.ref wa)) ∧ σ2[2]? = some (some (.ref ind)) ∧ σ2[3]? = some (some (.ref far)) ∧ σ2[4]? = some (some (.ref fr)) ∧ σ2.length = 6 ∧ Ex H H2 ∧ DKs H2 far gs anyV ∧ H2 fr = some (.lst (ys.map V.int)) ∧ (∀ x ∈ ys, x ∈ gs) ∧
        gs.Nodup ∧ a ∈ gs ∧ (∀ x ∈ gs, x ∈ ks) ∧ (∀ x ∈ gs, x ∉ ys → ∀ y ∈ ks, y ∈ rowW W x → y ∈ gs) ∧ (gs ≠ [a] → ∃ x ∈ gs, ∃ y ∈ gs, x ≠ y ∧ y ∈ rowW W x) ∧ m' = 2 * (ks.length - gs.length) + ys.length ∧ ys.Nodup, fun σ2 H2 p => p, ?_⟩
      refine ⟨_, p0, _, p4, tyL (sq_of pf1), fr, _, .int z, rfl, rfl, pf1, by simp, ?_⟩
      have hdl : ((xs' ++ [z]).map V.int).dropLast = xs'.map V.int := by simp
      rw [hdl]
      have peB := pe1.mut hfr0 (o := .lst (xs'.map V.int))
      have pdB : DKs (upd HA fr (.lst (xs'.map V.int))) far fs anyV := pd1.keep (pd1.neL pf1)
      have pfB : (upd HA fr (.lst (xs'.map V.int))) fr = some (.lst (xs'.map V.int)) := upd_same
      generalize (upd HA fr (.lst (xs'.map V.int))) = HB at peB pdB pfB ⊢
      refine ⟨wa, _, _, _, rfl, rfl, rd_t (hw.ex peB).1, hatz, ra, rfl, ⟨_, rd_t (tra.same peB)⟩, ?_⟩
      refine for_it walk_tup (fun j σ2 H2 => σ2[0]? = some (some (.ref wa)) ∧ σ2[2]? = some (some (.ref ind)) ∧ σ2[3]? = some (some (.ref far)) ∧ σ2[4]? = some (some (.ref fr)) ∧ σ2.length = 6 ∧ Ex H H2 ∧ ∃ ys : List Int, DKs H2 far (fs ++ ys) anyV ∧ H2 fr = some (.lst ((xs' ++ ys).map V.int)) ∧ (xs' ++ ys).Nodup ∧
        (fs ++ ys).Nodup ∧ (∀ x ∈ fs ++ ys, x ∈ ks) ∧ (∀ y ∈ row.take j, y ∈ ks → y ∈ fs ++ ys) ∧ (fs ++ ys ≠ [a] → ∃ x ∈ fs ++ ys, ∃ y ∈ fs ++ ys, x ≠ y ∧ y ∈ rowW W x)) ⟨p0, p2, p3, p4, pl, peB, [], by rw [List.append_nil]; exact pdB, by rw [List.append_nil]; exact pfB, by rw [List.append_nil]; exact hxn'.1, by rw [List.append_nil]; exact hnd, by rw [List.append_nil]; exact hsub, (fun y h => by simp at h), by rw [List.append_nil]; exact hpair⟩ (fun j σ2 H2 _ p => rd_t (tra.same p.2.2.2.2.2.1)) (fun j y σ2 H2 H3 hj p yy => ?_) (fun σ2 H2 p => ?_)
      · clear p0 p2 p3 p4 pl
        obtain ⟨p0, p2, p3, p4, pl, pe, ys, pd, pf, qxn, qnd, qsub, qrow, qpair⟩ := p
        obtain ⟨rfl, yy⟩ := yy
        obtain ⟨o, eo, rfl⟩ := get_map yy
        refine st_gn ?_
        dsimp only
        generalize hσ : σ2.set 5 (some (V.int o)) = σ3
        have g0 : σ3[0]? = some (some (.ref wa)) := by subst hσ; simp [p0]
        have g2 : σ3[2]? = some (some (.ref ind)) := by subst hσ; simp [p2]
        have g3 : σ3[3]? = some (some (.ref far)) := by subst hσ; simp [p3]
        have g4 : σ3[4]? = some (some (.ref fr)) := by subst hσ; simp [p4]
        have g5 : σ3[5]? = some (some (.int o)) := by subst hσ; simp [pl]
        have gl : σ3.length = 6 := by subst hσ; simp [pl]
        obtain ⟨o1, hg1, hs1, _⟩ := (hin.same pe).get o
        obtain ⟨o2, hg2, hs2, _⟩ := pd.get o
        have hyl : (fs ++ ys).length ≤ 50 := Nat.le_trans (nodup_len qnd qsub) hz
        refine ⟨_, g5, _, g2, ind, o1, rfl, hg1, decide (o ∈ ks), by rw [hs1], ?_⟩
        by_cases ho : o ∈ ks
        · rw [decide_eq_true ho]
          refine ⟨_, g5, _, g3, far, o2, rfl, hg2, decide (o ∉ fs ++ ys), by rw [hs2]; simp, ?_⟩
          by_cases hof : o ∈ fs ++ ys
          · rw [decide_eq_false (fun z => z hof)]
            refine ⟨g0, g2, g3, g4, gl, pe, ys, pd, pf, qxn, qnd, qsub, fun y hy hk => ?_, qpair⟩
            rw [take_next eo] at hy
            rcases List.mem_append.mp hy with h | h
            · exact qrow y h hk
            · have : y = o := by simpa using h
              rw [this]
              exact hof
          · rw [decide_eq_true hof]
            obtain ⟨kvs, hput, hd'⟩ := pd.put (v := .bl true) hof trivial (by omega)
            refine ⟨_, g3, _, g5, far, _, rfl, hput, ?_⟩
            have nff : fr ≠ far := pd.neL pf
            have pf' : (upd H3 far (.dK kvs)) fr = some (.lst ((xs' ++ ys).map V.int)) := by rw [upd_ne nff]; exact pf
            have pe' := pe.mut hfar (o := .dK kvs)
            have hsubx : ∀ x ∈ xs' ++ ys, x ∈ fs ++ ys := fun x hx => by
              rcases List.mem_append.mp hx with h | h
              · exact List.mem_append_left _ (hxs x (List.mem_append_left _ h))
              · exact List.mem_append_right _ h
            have hxl := nodup_len qxn hsubx
            have ho2 : o ∉ xs' ++ ys := fun h => hof (hsubx o h)
            refine ⟨_, g4, tyL (sq_of pf'), _, g5, fr, _, _, rfl, rfl, pf', by rw [List.length_map]; exact sz_lt (by omega), g0, g2, g3, g4, gl, pe'.mut hfr0, ys ++ [o], ?_, ?_, ?_, ?_, ?_, ?_, ?_⟩
            · rw [← List.append_assoc]
              exact hd'.keep nff
            · rw [upd_same]
              simp
            · rw [← List.append_assoc]
              exact nd_snoc qxn ho2
            · rw [← List.append_assoc]
              exact nd_snoc qnd hof
            · rw [← List.append_assoc]
              intro x hx
              rcases List.mem_append.mp hx with h | h
              · exact qsub x h
              · have : x = o := by simpa using h
                rw [this]
                exact ho
            · rw [← List.append_assoc]
              intro y hy hk
              rw [take_next eo] at hy
              rcases List.mem_append.mp hy with h | h
              · exact List.mem_append_left _ (qrow y h hk)
              · exact List.mem_append_right _ h
            · rw [← List.append_assoc]
              intro _
              have hzin : z ∈ fs ++ ys := List.mem_append_left _ hzf
              refine ⟨z, List.mem_append_left _ hzin, o, List.mem_append_right _ (by simp), fun e => hof (e ▸ hzin), ?_⟩
              rw [hrow]
              exact List.mem_of_getElem? eo
        · rw [decide_eq_false ho]
          refine ⟨g0, g2, g3, g4, gl, pe, ys, pd, pf, qxn, qnd, qsub, fun y hy hk => ?_, qpair⟩
          rw [take_next eo] at hy
          rcases List.mem_append.mp hy with h | h
          · exact qrow y h hk
          · have : y = o := by simpa using h
            rw [this] at hk
            exact absurd hk ho
      · obtain ⟨p0, p2, p3, p4, pl, pe, ys, pd, pf, qxn, qnd, qsub, qrow, qpair⟩ := p
        rw [List.length_map, List.take_length] at qrow
        have hgl := nodup_len qnd qsub
        rw [List.length_append] at hgl hm
        refine ⟨_, ?_, xs' ++ ys, fs ++ ys, p0, p2, p3, p4, pl, pe, pd, pf, fun x hx => ?_, qnd, List.mem_append_left _ ha0, qsub, fun x hx hxx y hy hr => ?_, qpair, rfl, qxn⟩
        · rw [hm, List.length_append, List.length_append]
          simp
          omega
        · rcases List.mem_append.mp hx with h | h
          · exact List.mem_append_left _ (hxs x (List.mem_append_left _ h))
          · exact List.mem_append_right _ h
        · rcases List.mem_append.mp hx with h | h
          · by_cases hxz : x = z
            · rw [hxz, hrow] at hr
              exact qrow y hr hy
            · refine List.mem_append_left _ (hcl x h (fun h' => ?_) y hy hr)
              rcases List.mem_append.mp h' with h'' | h''
              · exact hxx (List.mem_append_left _ h'')
              · exact hxz (by simpa using h'')
          · exact absurd (List.mem_append_right _ h) hxx
end
end Kx
namespace Kx
open PySem PySem.Spec PyProof.Rows L2
open Evl (Ex ex_rd ex_l ex_t st_of sq_of sz_lt sz_of)
/-- the deal at da, its cells at la -/
structure Deal (H : Hp) (da la : Addr) : Prop where
  ex : ∃ (xs : List Int) (b : Int), H da = some (.lst [.ref la, .int b]) ∧ H la = some (.lst (xs.map V.int)) ∧ xs.length ≤ 100
/-- all but the deal stays -/
def ExD (da la : Addr) (H H' : Hp) : Prop := ∀ c o, c ≠ da → c ≠ la → H c = some o → H' c = some o
theorem ExD.refl {da la : Addr} {H : Hp} : ExD da la H H := fun _ _ _ _ h => h
theorem ExD.trans {da la : Addr} {H H1 H2 : Hp} (a : ExD da la H H1) (b : ExD da la H1 H2) : ExD da la H H2 := fun c o n m h => b c o n m (a c o n m h)
theorem ExD.of {da la : Addr} {H H' : Hp} (e : Ex H H') : ExD da la H H' := fun c o _ _ h => e c o h
theorem ExD.da {da la : Addr} {H : Hp} {o : HO} : ExD da la H (upd H da o) := fun c u n _ h => by rw [upd_ne n]; exact h
theorem ExD.la {da la : Addr} {H : Hp} {o : HO} : ExD da la H (upd H la o) := fun c u _ n h => by rw [upd_ne n]; exact h
theorem ExD.exT {da la : Addr} {H H' : Hp} (e : ExD da la H H') (d : Deal H da la) : ExT H H' := fun c o h n => by
  obtain ⟨xs, b, h1, h2, _⟩ := d.ex
  exact e c o (fun z => by rw [z, h1] at h; exact n _ (Option.some.inj h).symm) (fun z => by rw [z, h2] at h; exact n _ (Option.some.inj h).symm) h
theorem seq0 (n : Nat) (h : 0 < n) : seqIndex? 0 n = some 0 := by
  unfold seqIndex?
  simp [h]
theorem deal_ne {H : Hp} {da la : Addr} {xs : List Int} {b : Int} (h1 : H da = some (.lst [.ref la, .int b])) (h2 : H la = some (.lst (xs.map V.int))) : da ≠ la := fun z => by
  rw [z, h2] at h1
  have := HO.lst.inj (Option.some.inj h1)
  cases xs with
  | nil => cases this
  | cons x xs => cases this
section
variable {P : Program} {w : World} {K : PySem.W.Frag} {mg : PySem.Str → Option Value} {base : Heap} {A : Ads}
structure spAny (vs : List V) (H : Hp) (Q : VK) (E : XK) : Prop where
  ex : ∃ (da la : Addr) (b : Int), vs = [.ref da, .int b] ∧ Deal H da la ∧ 1 ≤ b ∧ b ≤ 1000 ∧ ∀ (H' : Hp) (r : Int), ExD da la H H' → Deal H' da la → 0 ≤ r → r < b → Q (.int r) H'
theorem sc71 : FnScope ["_law_deal", "_law_bound", "_law_rest"] ["_law_deal", "_law_bound"] (defScope (topS 71)) := ⟨rfl, rfl, rfl, by decide +kernel, rfl, by decide +kernel, by decide +kernel⟩
/- slots: 0 _law_deal, 1 _law_bound, 2 _law_rest -/
theorem ok_law_any (T : Txt P K mg A) : DOk P w K mg base CX0 1 "_law_any" ["_law_deal", "_law_bound"] [] spAny := by
  refine T._law_any.ok0 sc71 (fun vs H Q E h => ?_) (fun _ _ _ _ _ _ us hl => match us, hl with | [_, _], _ => rfl) (fun f cdv A' outer s H vs Q E hr h => ?_)
  · obtain ⟨da, la, b, rfl, _⟩ := h
    rfl
  · obtain ⟨da, la, b, rfl, hd, hb1, hb2, q⟩ := h
    refine ⟨_, (pss_cons (ps_while PassesOwn.never (PW.pt (pw_and (pt_cmpR (kNeD (K := K) rfl hr.units) (pe_ix (kIxL (K := K) rfl) (pv 0) pe_int (fun _ _ => rfl)) (pe_lst pa_nil) (nomark _)) (pw_and1 (pt_cmpR op_eq (pe_ix (kIxL (K := K) rfl) (pe_ix (kIxL (K := K) rfl) (pv 0) pe_int (fun _ _ => rfl)) pe_int (fun _ _ => rfl)) pe_int (nomark _))))) (pss_one (ps_expr (kBM (K := K) rfl PySem.F.plainAttrs_list PySem.F.slot_list_pop PySem.F.type_list_pop mt_popAt (pe_ix (kIxL (K := K) rfl) (pv 0) pe_int (fun _ _ => rfl)) (pa_cons pe_int pa_nil)))))
      (pss_cons (ps_if (pt_cmpR (kNeD (K := K) rfl hr.units) (pe_ix (kIxL (K := K) rfl) (pv 0) pe_int (fun _ _ => rfl)) (pe_lst pa_nil) (nomark _)) (pss_cons (ps_set (i := 2) sc71.nd rfl (Or.inl rfl) (pe_callTy (T := "int") call_int1 (by rfl) (T.b "int") (by decide +kernel) (pa_cons (kBM (K := K) rfl PySem.F.plainAttrs_list PySem.F.slot_list_pop PySem.F.type_list_pop mt_popAt (pe_ix (kIxL (K := K) rfl) (pv 0) pe_int (fun _ _ => rfl)) (pa_cons pe_int pa_nil)) pa_nil)))
      (pss_cons (ps_expr (kBM (K := K) rfl PySem.F.plainAttrs_list PySem.F.slot_list_insert PySem.F.type_list_insert mt_insert (pe_ix (kIxL (K := K) rfl) (pv 0) pe_int (fun _ _ => rfl)) (pa_cons pe_int (pa_cons (pe_op op_fdiv (pv 2) (pv 1)) pa_nil))))
      (pss_one (ps_ret (pe_op op_mod (pv 2) (pv 1)))))) pss_nil)
      (pss_cons (ps_asg (pe_op op_mod (pe_callTy (T := "int") call_int1 (by rfl) (T.b "int") (by decide +kernel) (pa_cons (pe_op op_add (pe_op op_mul (pe_ix (kIxL (K := K) rfl) (pv 0) pe_int (fun _ _ => rfl)) pe_int) pe_int) pa_nil)) pe_int) (pg_sub (pv 0) pe_int set_list))
      (pss_one (ps_ret (pe_op op_mod (pe_callTy (T := "int") call_int1 (by rfl) (T.b "int") (by decide +kernel) (pa_cons (pe_op op_fdiv (pe_ix (kIxL (K := K) rfl) (pv 0) pe_int (fun _ _ => rfl)) pe_int) pa_nil)) (pv 1))))))), ?_⟩
    obtain ⟨xs0, g0, hd0, hl0, hxl0⟩ := hd.ex
    have hne := deal_ne hd0 hl0
    have a0 : ∀ (g : Int), atI [V.ref la, V.int g] 0 = some (.ref la) := fun g => rfl
    have a1 : ∀ (g : Int), atI [V.ref la, V.int g] 1 = some (.int g) := fun g => rfl
    refine ⟨fun m σ' H' => ∃ xs : List Int, m = xs.length ∧ σ'[0]? = some (some (.ref da)) ∧ σ'[1]? = some (some (.int b)) ∧ σ'.length = 3 ∧ ExD da la H H' ∧ H' da = some (.lst [.ref la, .int g0]) ∧ H' la = some (.lst (xs.map V.int)) ∧ xs.length ≤ 100, ⟨_, xs0, rfl, rfl, rfl, rfl, .refl, hd0, hl0, hxl0⟩, fun m σ' H' p => ?_⟩
    obtain ⟨xs, rfl, p0, p1, pl, pe, pd, pla, hxl⟩ := p
    refine ⟨_, p0, da, _, 0, _, rfl, rfl, sq_of pd, a0 _, Nat.zero_le _, fun nl hnl => ?_⟩
    have x1 : Ex H' (upd H' nl (.lst [])) := Ex.new hnl
    refine ⟨.list (dInts xs), .list (dInts []), dp_list (sq_of (x1 _ _ pla)), dp_list (ns := []) (sq_of upd_same), shaped_intsL _, shaped_intsL _, ?_⟩
    have pd1 := x1 _ _ pd
    have pla1 := x1 _ _ pla
    have pe1 := pe.trans (ExD.of x1)
    generalize (upd H' nl (.lst [])) = H1 at x1 pd1 pla1 pe1 ⊢
    match xs, hxl, pla1 with
    | [], _, pla1 =>
      refine ⟨false, by rw [eqv_list]; rfl, ?_⟩
      refine ⟨_, p0, da, _, 0, _, rfl, rfl, sq_of pd1, a0 _, Nat.zero_le _, fun n2 hn2 => ?_⟩
      have x2 : Ex H1 (upd H1 n2 (.lst [])) := Ex.new hn2
      refine ⟨.list (dInts []), .list (dInts []), dp_list (ns := []) (sq_of (x2 _ _ pla1)), dp_list (ns := []) (sq_of upd_same), shaped_intsL _, shaped_intsL _, false, by rw [eqv_list]; rfl, ?_⟩
      have pd2 := x2 _ _ pd1
      have pla2 := x2 _ _ pla1
      have pe2 := pe1.trans (ExD.of x2)
      generalize (upd H1 n2 (.lst [])) = H2 at x2 pd2 pla2 pe2 ⊢
      refine ⟨_, p0, da, _, 1, _, rfl, rfl, sq_of pd2, a1 _, _, _, rfl, rfl, .inr ⟨by omega, by omega⟩, _, _, rfl, rfl, .inl ⟨_, rfl, _, _, rfl, rfl, by omega, ?_⟩⟩
      refine ⟨_, p0, da, _, 1, 1, rfl, rfl, pd2, rfl, ?_⟩
      have pe3 := pe2.trans (ExD.da (la := la) (o := .lst ([V.ref la, V.int g0].set 1 (V.int ((g0 * 39373 + 59) % 2147483647)))))
      have pd3 : (upd H2 da (.lst ([V.ref la, V.int g0].set 1 (V.int ((g0 * 39373 + 59) % 2147483647))))) da = some (.lst [V.ref la, V.int ((g0 * 39373 + 59) % 2147483647)]) := upd_same
      have pla3 : (upd H2 da (.lst ([V.ref la, V.int g0].set 1 (V.int ((g0 * 39373 + 59) % 2147483647))))) la = some (.lst (([] : List Int).map V.int)) := by rw [upd_ne (Ne.symm hne)]; exact pla2
      generalize (upd H2 da (.lst ([V.ref la, V.int g0].set 1 (V.int ((g0 * 39373 + 59) % 2147483647))))) = H3 at pe3 pd3 pla3 ⊢
      refine ⟨_, p0, da, _, 1, _, rfl, rfl, sq_of pd3, a1 _, _, _, rfl, rfl, ⟨by omega, by omega⟩, .inl ⟨_, rfl, _, p1, _, _, rfl, rfl, by omega, ?_⟩⟩
      exact q _ _ pe3 ⟨[], _, pd3, pla3, by simp⟩ (Int.emod_nonneg _ (by omega)) (Int.emod_lt_of_pos _ (by omega))
    | z :: xs', hxl, pla1 =>
      refine ⟨true, by rw [eqv_list]; rfl, ?_⟩
      have hz : atI ((z :: xs').map V.int) 0 = some (.int z) := atI_map (j := 0) rfl
      refine ⟨_, p0, da, _, 0, _, rfl, rfl, sq_of pd1, a0 _, la, _, 0, _, rfl, rfl, sq_of pla1, hz, rfl, ?_⟩
      by_cases h0 : z = 0
      · refine ⟨true, by simp [h0], ?_⟩
        refine ⟨fun σ2 H2 => ∃ xs : List Int, xs.length < xs'.length + 1 ∧ σ2[0]? = some (some (.ref da)) ∧ σ2[1]? = some (some (.int b)) ∧ σ2.length = 3 ∧ ExD da la H H2 ∧ H2 da = some (.lst [.ref la, .int g0]) ∧ H2 la = some (.lst (xs.map V.int)) ∧ xs.length ≤ 100, fun σ2 H2 ⟨xs, h1, h2⟩ => ⟨_, h1, xs, rfl, h2⟩, ?_⟩
        refine ⟨_, p0, da, _, 0, _, rfl, rfl, sq_of pd1, a0 _, tyL (sq_of pla1), la, _, 0, 0, _, rfl, rfl, pla1, by omega, by omega, seq0 _ (by simp), rfl, ?_⟩
        refine ⟨xs', by omega, p0, p1, pl, pe1.trans ExD.la, by rw [upd_ne hne]; exact pd1, upd_same, by simp at hxl; omega⟩
      · refine ⟨false, by simp [h0], ?_⟩
        refine ⟨_, p0, da, _, 0, _, rfl, rfl, sq_of pd1, a0 _, Nat.zero_le _, fun n2 hn2 => ?_⟩
        have x2 : Ex H1 (upd H1 n2 (.lst [])) := Ex.new hn2
        refine ⟨.list (dInts (z :: xs')), .list (dInts []), dp_list (sq_of (x2 _ _ pla1)), dp_list (ns := []) (sq_of upd_same), shaped_intsL _, shaped_intsL _, true, by rw [eqv_list]; rfl, ?_⟩
        have pd2 := x2 _ _ pd1
        have pla2 := x2 _ _ pla1
        have pe2 := pe1.trans (ExD.of x2)
        generalize (upd H1 n2 (.lst [])) = H2 at x2 pd2 pla2 pe2 ⊢
        refine ⟨_, p0, da, _, 0, _, rfl, rfl, sq_of pd2, a0 _, tyL (sq_of pla2), la, _, 0, 0, _, rfl, rfl, pla2, by omega, by omega, seq0 _ (by simp), rfl, .inl ⟨_, rfl, ?_⟩⟩
        have pe3 := pe2.trans (ExD.la (da := da) (o := .lst (((z :: xs').map V.int).eraseIdx 0)))
        have pd3 : (upd H2 la (.lst (((z :: xs').map V.int).eraseIdx 0))) da = some (.lst [V.ref la, V.int g0]) := by rw [upd_ne hne]; exact pd2
        have pla3 : (upd H2 la (.lst (((z :: xs').map V.int).eraseIdx 0))) la = some (.lst (xs'.map V.int)) := upd_same
        generalize (upd H2 la (.lst (((z :: xs').map V.int).eraseIdx 0))) = H3 at pe3 pd3 pla3 ⊢
        have p0' : (σ'.set 2 (some (V.int z)))[0]? = some (some (.ref da)) := by simp [p0]
        have p1' : (σ'.set 2 (some (V.int z)))[1]? = some (some (.int b)) := by simp [p1]
        have p2' : (σ'.set 2 (some (V.int z)))[2]? = some (some (.int z)) := by simp [pl]
        refine ⟨_, p0', da, _, 0, _, rfl, rfl, sq_of pd3, a0 _, tyL (sq_of pla3), _, p2', _, p1', _, _, rfl, rfl, ⟨by omega, by omega⟩, la, _, 0, _, rfl, rfl, pla3, ?_, by omega, by omega, ?_⟩
        · rw [List.length_map]
          simp at hxl
          exact sz_lt (by omega)
        · refine ⟨_, p2', _, p1', _, _, rfl, rfl, by omega, ?_⟩
          refine q _ _ (pe3.trans ExD.la) ⟨(z / b) :: xs', g0, by rw [upd_ne hne]; exact pd3, by rw [upd_same]; simp, by simpa using hxl⟩ (Int.emod_nonneg _ (by omega)) (Int.emod_lt_of_pos _ (by omega))
end
end Kx
namespace Kx
open PySem PySem.Spec PyProof.Rows L2
open Evl (Ex ex_rd ex_l ex_t st_of sq_of sz_lt sz_of)
/-- a comprehension whose turns may draw from the deal; what it holds is told by PI -/
theorem lcI {J : It} {n : Nat} {G : Hp → Prop} {Y : Nat → Hp → V → Hp → Prop} (w : Walk J n G Y) {g : TG} {tt : TT} {te : TE} {vs : List Nat} {σ : L2.St} {H1 : Hp} {Qd : Addr → Hp → Prop} (da la : Addr) (PI : Nat → List V → Hp → Prop)
    (hd1 : Deal H1 da la) (h0 : PI 0 [] H1) (hG : ∀ H', ExD da la H1 H' → ExT H1 H' → G H') (hS : ∀ i xs H H', ExT H H' → PI i xs H → PI i xs H') (hL : ∀ i xs H, i < n → PI i xs H → xs.length ≤ 50000)
    (hs : ∀ i x H' H'' (Y0 : Hp → Prop) (Y1 : VK) (xs : List V), i < n → ExD da la H1 H' → ExT H1 H' → Deal H' da la → PI i xs H' → Y i H' x H'' → (∀ H3, ExD da la H' H3 → Deal H3 da la → PI (i + 1) xs H3 → Y0 H3) → (∀ v H3, ExD da la H' H3 → Deal H3 da la → PI (i + 1) (xs ++ [v]) H3 → Y1 v H3) →
      g x (wipe σ vs) H'' fun σ2 H2 => wipe σ2 vs = wipe σ vs ∧ tt σ2 H2 fun b H3 => if b = true then te σ2 H3 Y1 else Y0 H3)
    (hd : ∀ D H' xs, H1 D = none → ExD da la H1 H' → ExT H1 H' → Deal H' da la → H' D = some (.lst xs) → PI n xs H' → Qd D H') :
    ∀ D, H1 D = none → ∃ W : Nat → Nat → Hp → Prop, (∃ m, W 0 m (upd H1 D (.lst []))) ∧ ∀ i m H, W i m H →
      (J.stop i H ∧ Qd D H) ∨ (J.go i H ∧ ∃ Nx : Hp → Prop, (∀ H', Nx H' → ∃ m', m' < m ∧ W (i + 1) m' H') ∧ ∀ x H', J.yld i H x H' → g x (wipe σ vs) H' fun σ2 H2 => wipe σ2 vs = wipe σ vs ∧ tt σ2 H2 fun b H3 =>
        if b = true then te σ2 H3 fun y H4 => ∃ acc, H4 D = some (.lst acc) ∧ acc.length < sizeLine ∧ Nx (upd H4 D (.lst (acc ++ [y]))) else Nx H3) := fun D hD => by
  obtain ⟨xs0, b0, hda, hla, _⟩ := hd1.ex
  have nda : D ≠ da := (ne_of_none hda hD).symm
  have nla : D ≠ la := (ne_of_none hla hD).symm
  have dealD : ∀ {H : Hp} {o : HO}, Deal H da la → Deal (upd H D o) da la := fun d => by
    obtain ⟨xs, b, h1, h2, h3⟩ := d.ex
    exact ⟨xs, b, by rw [upd_ne (Ne.symm nda)]; exact h1, by rw [upd_ne (Ne.symm nla)]; exact h2, h3⟩
  have exD : ∀ {H : Hp} {o : HO}, ExD da la H1 H → ExD da la H1 (upd H D o) := fun {H o} e c u n1 n2 h => by
    rw [upd_ne (ne_of_none h hD)]
    exact e c u n1 n2 h
  refine lc_it w (fun i H' => ExD da la H1 H' ∧ Deal H' da la ∧ ∃ xs, H' D = some (.lst xs) ∧ PI i xs H') ⟨exD .refl, dealD hd1, [], upd_same, hS _ _ _ _ (.of (Ex.new hD)) h0⟩ (fun i H' _ p => hG H' p.1 (p.1.exT hd1)) (fun i x H' H'' hi p y => ?_) (fun H' p => ?_)
  · obtain ⟨pe, pd, xs, pD, pp⟩ := p
    refine hs i x H' H'' _ _ xs hi pe (pe.exT hd1) pd pp y (fun H3 e d r => ⟨pe.trans e, d, xs, e _ _ nda nla pD, r⟩) (fun v H3 e d r => ?_)
    have pD3 := e _ _ nda nla pD
    exact ⟨xs, pD3, sz_lt (by have := hL i xs H' hi pp; omega), exD (pe.trans e), dealD d, xs ++ [v], upd_same, hS _ _ _ _ (ExT.lst pD3) r⟩
  · obtain ⟨pe, pd, xs, pD, pp⟩ := p
    exact hd D H' xs hD pe (pe.exT hd1) pd pD pp
end Kx
namespace Kx
open PySem PySem.Spec PyProof.Rows L2
open Evl (Ex ex_rd ex_l ex_t st_of sq_of sz_lt sz_of)
section
variable {P : Program} {w : World} {K : PySem.W.Frag} {mg : PySem.Str → Option Value} {base : Heap} {A : Ads}
structure spLawOf (vs : List V) (H : Hp) (Q : VK) (E : XK) : Prop where
  ex : ∃ (da la s : Addr) (xs : List V), vs = [.ref da, .ref s] ∧ Deal H da la ∧ H s = some (.lst xs) ∧ s ≠ da ∧ s ≠ la ∧ 1 ≤ xs.length ∧ xs.length ≤ 1000 ∧ ∀ (H' : Hp) (k : Nat) (v : V), ExD da la H H' → Deal H' da la → xs[k]? = some v → Q v H'
theorem sc72 : FnScope ["_law_deal", "_law_some"] ["_law_deal", "_law_some"] (defScope (topS 72)) := ⟨rfl, rfl, rfl, by decide +kernel, rfl, by decide +kernel, by decide +kernel⟩
/- slots: 0 _law_deal, 1 _law_some -/
theorem ok_law_of (T : Txt P K mg A) : DOk P w K mg base CX0 2 "_law_of" ["_law_deal", "_law_some"] [] spLawOf := by
  have D__law_any := (ok_law_any (P := P) (w := w) (base := base) T)
  refine T._law_of.ok0 sc72 (fun vs H Q E h => ?_) (fun _ _ _ _ _ _ us hl => match us, hl with | [_, _], _ => rfl) (fun f cdv A' outer s H vs Q E hr h => ?_)
  · obtain ⟨da, la, s, xs, rfl, _⟩ := h
    rfl
  · obtain ⟨da, la, s, xs, rfl, hd, hs, n1, n2, h1, h2, q⟩ := h
    refine ⟨_, (pss_one (ps_ret (pe_ix (kIxL (K := K) rfl) (pv 1) (pe_d D__law_any hr (by rfl) pass0 (pa_cons (pv 0) (pa_cons (pe_callB (id := "len") (kLen (K := K) rfl) (by rfl) (T.b "len") (by decide +kernel) (pa_cons (pv 1) pa_nil)) pa_nil))) (fun _ _ => rfl)))), ?_⟩
    refine ⟨_, rfl, _, rfl, _, rfl, s, xs, rfl, .inl (sq_of hs), ⟨da, la, _, rfl, hd, by omega, by omega, fun H' r e d' r0 r1 => ?_⟩⟩
    obtain ⟨k, rfl⟩ : ∃ k : Nat, r = k := ⟨r.toNat, by omega⟩
    obtain ⟨v, ev⟩ : ∃ v, xs[k]? = some v := ⟨_, List.getElem?_eq_getElem (by omega)⟩
    exact ⟨s, xs, _, v, rfl, rfl, sq_of (e _ _ n1 n2 hs), atI_nat ev, q H' k v e d' ev⟩
end
end Kx
namespace Kx
open PySem PySem.Spec PyProof.Rows L2
open Evl (Ex ex_rd ex_l ex_t st_of sq_of sz_lt sz_of)
def pairsOf : Nat → List (List Int)
  | 0 => []
  | i + 1 => pairsOf i ++ (List.range i).map fun (j : Nat) => [(j : Int), (i : Int)]
theorem pairs_small : ∀ n ∈ [0, 1, 2, 3, 4, 5, 6], (pairsOf n).length ≤ 15 ∧ (pairsOf n).Nodup := by decide +kernel
theorem mem_pairs : ∀ {n : Nat} {ms : List Int}, ms ∈ pairsOf n ↔ ∃ a b : Nat, ms = [(a : Int), (b : Int)] ∧ a < b ∧ b < n
  | 0, ms => by simp [pairsOf]
  | n + 1, ms => by
    unfold pairsOf
    rw [List.mem_append, mem_pairs, List.mem_map]
    constructor
    · rintro (⟨a, b, rfl, h1, h2⟩ | ⟨j, hj, rfl⟩)
      · exact ⟨a, b, rfl, h1, by omega⟩
      · exact ⟨j, n, rfl, List.mem_range.mp hj, by omega⟩
    · rintro ⟨a, b, rfl, h1, h2⟩
      by_cases h : b = n
      · subst h
        exact .inr ⟨a, List.mem_range.mpr h1, rfl⟩
      · exact .inl ⟨a, b, rfl, h1, by omega⟩
theorem nodup_snocG {α : Type} {l : List α} {x : α} (h : l.Nodup) (hx : x ∉ l) : (l ++ [x]).Nodup := by
  refine List.nodup_append.mpr ⟨h, by simp, fun a ha b hb e => ?_⟩
  have : b = x := by simpa using hb
  subst this
  exact hx (e ▸ ha)
theorem List.lt_of_le_of_ne' {a b : List Int} (h : a ≤ b) (hn : a ≠ b) : a < b := by
  by_cases h1 : a < b
  · exact h1
  · exact absurd (List.le_antisymm h (List.not_lt.mp h1)) hn
theorem exT_of {da la : Addr} {H H' : Hp} (d : Deal H da la) (e : ExD da la H H') : ExT H H' := e.exT d
section
variable {P : Program} {w : World} {K : PySem.W.Frag} {mg : PySem.Str → Option Value} {base : Heap} {A : Ads}
structure spDoors (vs : List V) (H : Hp) (Q : VK) (E : XK) : Prop where
  ex : ∃ (da la : Addr) (n : Nat), vs = [.ref da, .int n] ∧ Deal H da la ∧ 2 ≤ n ∧ n ≤ 6 ∧ ∀ (H' : Hp) (d : Addr) (ds : List Addr) (D : List (List Int)), ExD da la H H' → Deal H' da la → TT' H' d ds D → PD n D → D.length ≤ 50 → Q (.ref d) H'
theorem sc73 : FnScope ["_law_deal", "_law_rooms", "_law_pairs", "_law_other", "_law_tree", "_law_share", "_law_room", "_law_one", "_law_pair"] ["_law_deal", "_law_rooms"] (defScope (topS 73)) := ⟨rfl, rfl, rfl, by decide +kernel, rfl, by decide +kernel, by decide +kernel⟩
/- slots: 0 _law_deal, 1 _law_rooms, 2 _law_pairs, 3 _law_other, 4 _law_tree, 5 _law_share, 6 _law_room, 7 _law_one, 8 _law_pair -/
theorem ok_law_doors (T : Txt P K mg A) : DOk P w K mg base CX0 2 "_law_doors" ["_law_deal", "_law_rooms"] [] spDoors := by
  have D__law_any := (ok_law_any (P := P) (w := w) (base := base) T)
  refine T._law_doors.ok0 sc73 (fun vs H Q E h => ?_) (fun _ _ _ _ _ _ us hl => match us, hl with | [_, _], _ => rfl) (fun f cdv A' outer s H vs Q E hr h => ?_)
  · obtain ⟨da, la, n, rfl, _⟩ := h
    rfl
  · obtain ⟨da, la, n, rfl, hdeal, hn2, hn6, q⟩ := h
    have hu65 : (A'.deeper (envOfC "_law_doors" (defScope (topS 73)) s.heap.objs.size f cdv)).units + 65 < cLine := by have := hr.un; omega
    refine ⟨_, (pss_cons (ps_set (i := 2) sc73.nd rfl (Or.inl rfl) (pe_lst pa_nil))
      (pss_cons (ps_for PassesOwn.never rfl (pi_range1 (by rfl) (T.b "range") (pa_cons (pv 1) pa_nil)) (pg_name (i := 3) sc73.nd rfl (Or.inr rfl)) (pss_one (ps_set (i := 2) sc73.nd rfl (Or.inl rfl) (pe_op op_cat (pv 2) (pe_lc rfl sc73.nd (pi_range1 (by rfl) (T.b "range") (pa_cons (pv 3) pa_nil)) (blkOk_by (own := [("_law_one", 7)]) (by rfl)) (fun _ _ _ _ _ => (pg_name (i := 7) sc73.nd rfl (Or.inl rfl) (Or.inr rfl))) (fun _ _ _ _ _ => pts_nil) (fun _ _ _ _ _ => (pe_tup (pa_cons (pv 7) (pa_cons (pv 3) pa_nil)))))))))
      (pss_cons (ps_set (i := 4) sc73.nd rfl (Or.inr rfl) (pe_lc rfl sc73.nd (pi_range2 (by rfl) (T.b "range") (pa_cons pe_int (pa_cons (pv 1) pa_nil))) (blkOk_by (own := [("_law_room", 6)]) (by rfl)) (fun _ _ _ _ _ => (pg_name (i := 6) sc73.nd rfl (Or.inl rfl) (Or.inr rfl))) (fun _ _ _ _ _ => pts_nil) (fun _ _ _ _ _ => (pe_tup (pa_cons (pe_d D__law_any hr (by rfl) pass0 (pa_cons (pv 0) (pa_cons (pv 6) pa_nil))) (pa_cons (pv 6) pa_nil))))))
      (pss_cons (ps_set (i := 5) sc73.nd rfl (Or.inr rfl) (pe_d D__law_any hr (by rfl) pass0 (pa_cons (pv 0) (pa_cons pe_int pa_nil))))
      (pss_one (ps_ret (pe_callTy (T := "tuple") (kTup (K := K) rfl) (by rfl) (T.b "tuple") (by decide +kernel) (pa_cons (pe_callB (id := "sorted") (kSortTu (K := K) rfl hr.units) (by rfl) (T.b "sorted") (by decide +kernel) (pa_cons (pe_lc rfl sc73.nd (kPiL (K := K) rfl (pv 2)) (blkOk_by (own := [("_law_pair", 8)]) (by rfl)) (fun _ _ _ _ _ => (pg_name (i := 8) sc73.nd rfl (Or.inl rfl) (Or.inr rfl))) (fun _ _ _ _ _ => (pts_one (PW.pt (pw_or (pt_cmpR (kInTu (K := K) rfl hu65) (pv 8) (pv 4) (by rfl)) (pw_or1 (pt_cmpR op_lt (pe_d D__law_any hr (by rfl) pass0 (pa_cons (pv 0) (pa_cons pe_int pa_nil))) (pv 5) (nomark _))))))) (fun _ _ _ _ _ => (pv 8))) pa_nil)) pa_nil)))))))), ?_⟩
    obtain ⟨x0, b0, hda, hla, _⟩ := hdeal.ex
    refine ⟨Nat.zero_le _, fun p0 hp0 => ?_⟩
    have e0 : Ex H (upd H p0 (.lst [])) := Ex.new hp0
    refine ⟨_, rfl, _, rfl, by omega, by omega, ?_⟩
    refine for_it walk_range (fun i σ' H' => σ'[0]? = some (some (.ref da)) ∧ σ'[1]? = some (some (.int n)) ∧ σ'.length = 9 ∧ Ex H H' ∧ ∃ (pl : Addr) (rs : List Addr), σ'[2]? = some (some (.ref pl)) ∧ H' pl = some (.lst (rs.map V.ref)) ∧ H pl = none ∧ Tus H' rs (pairsOf i)) ⟨rfl, rfl, rfl, e0, p0, [], rfl, upd_same, hp0, .nil⟩ (fun _ _ _ _ _ => trivial) (fun i y σ' H' H'' hi p yy => ?_) (fun σ' H1 p => ?_)
    · obtain ⟨q0, q1, ql, pe, pl, rs, q2, ppl, _, prs⟩ := p
      obtain ⟨rfl, rfl⟩ := yy
      have hin : i < n := by simpa using hi
      refine st_gn ?_
      dsimp only
      generalize hσ : σ'.set 3 (some (V.int (0 + (i : Int)))) = σ2
      have g0 : σ2[0]? = some (some (.ref da)) := by subst hσ; simp [q0]
      have g1 : σ2[1]? = some (some (.int n)) := by subst hσ; simp [q1]
      have g2 : σ2[2]? = some (some (.ref pl)) := by subst hσ; simp [q2]
      have g3 : σ2[3]? = some (some (.int (i : Nat))) := by subst hσ; simp [ql]
      have gl : σ2.length = 9 := by subst hσ; simp [ql]
      have hps := (pairs_small i (by simp; omega)).1
      have hrl := Paired.length prs
      refine ⟨_, g2, _, g3, _, rfl, by omega, by omega, ?_⟩
      refine lcU (Qd := fun D H' => _) walk_range (fun _ => true) (fun j => [(j : Int), (i : Int)]) (by omega) (fun _ _ => trivial) (fun k x H3 H4 Y0 Y1 hk e y k0 k1 => ?_) (fun D9 H9 ts hD9 e9 hl9 tts => ?_)
      · obtain ⟨rfl, rfl⟩ := y
        refine st_gn ⟨wipe_set (by decide), ?_⟩
        have u7 : ((wipe σ2 (List.map (fun x => x.snd) [(Str.ofString "_law_one", 7)])).set 7 (some (V.int (0 + (k : Int)))))[7]? = some (some (.int (k : Nat))) := by simp [wipe, gl]
        have u3 : ((wipe σ2 (List.map (fun x => x.snd) [(Str.ofString "_law_one", 7)])).set 7 (some (V.int (0 + (k : Int)))))[3]? = some (some (.int (i : Nat))) := by simp [wipe, g3]
        exact ⟨_, u7, _, u3, (by decide : 2 ≤ sizeLine), fun p hp => k1 _ p rfl (Ex.new hp) (.inl upd_same)⟩
      · rw [range_all, Int.toNat_natCast] at tts
        have htl := Paired.length tts
        rw [List.length_map, List.length_range] at htl
        refine ⟨pl, D9, _, _, rfl, rfl, e9 _ _ ppl, hl9, sz_of (by rw [List.length_map, List.length_map]; omega), fun p2 hp2 => ?_⟩
        have e10 := e9.trans (Ex.new (o := .lst (rs.map V.ref ++ ts.map V.ref)) hp2)
        refine ⟨by simp [g0], by simp [g1], by simp [gl], pe.trans e10, p2, rs ++ ts, by simp [gl], by rw [upd_same, List.map_append], Evl.fresh_back (pe.trans e9) hp2, paired_app (prs.same e10) (tts.same (Ex.new hp2))⟩
    · obtain ⟨q0, q1, ql, pe, pl, rs, q2, ppl, hplH, prs⟩ := p
      rw [Int.toNat_natCast] at prs
      obtain ⟨hps, hpn⟩ := pairs_small n (by simp; omega)
      have hrl := Paired.length prs
      have deal1 : Deal H1 da la := ⟨x0, b0, pe _ _ hda, pe _ _ hla, by assumption⟩
      have npda : pl ≠ da := (ne_of_none hda hplH).symm
      have npla : pl ≠ la := (ne_of_none hla hplH).symm
      dsimp only
      refine st_seq (st_asg ?_)
      refine ⟨_, q1, _, _, rfl, ⟨by omega, by omega, by omega, by omega⟩, ?_⟩
      refine lcI (Qd := fun D H' => _) walk_range da la (fun i xs H => ∃ (ts : List Addr) (Ts : List (List Int)), xs = ts.map V.ref ∧ Tus H ts Ts ∧ Ts.length = i ∧ ∀ j, j < i → ∃ t : Nat, t < j + 1 ∧ [(t : Int), ((j + 1 : Nat) : Int)] ∈ Ts) deal1 ⟨[], [], rfl, .nil, rfl, fun j hj => by omega⟩ (fun _ _ _ => trivial) (fun i xs H H' e ⟨ts, Ts, h1, h2, h3⟩ => ⟨ts, Ts, h1, h2.exT e, h3⟩) (fun i xs H hi ⟨ts, Ts, h1, h2, h3, _⟩ => by rw [h1, List.length_map, Paired.length h2, h3]; omega) (fun i x H3 H4 Y0 Y1 xs hi eD eT dl pi yy k0 k1 => ?_) (fun D4 H4 xs hD4 eD eT dl hl4 pi => ?_)
      · obtain ⟨ts, Ts, rfl, h2, h3, h4⟩ := pi
        obtain ⟨rfl, rfl⟩ := yy
        refine st_gn ⟨wipe_set (by decide), ?_⟩
        have u6 : ((wipe σ' (List.map (fun x => x.snd) [(Str.ofString "_law_room", 6)])).set 6 (some (V.int (1 + (i : Int)))))[6]? = some (some (.int (1 + (i : Int)))) := by simp [wipe, ql]
        have u0 : ((wipe σ' (List.map (fun x => x.snd) [(Str.ofString "_law_room", 6)])).set 6 (some (V.int (1 + (i : Int)))))[0]? = some (some (.ref da)) := by simp [wipe, q0]
        refine ⟨_, u0, _, u6, ⟨da, la, _, rfl, dl, by omega, by omega, fun H5 r e5 d5 r0 r1 => ?_⟩⟩
        refine ⟨_, u6, (by decide : 2 ≤ sizeLine), fun p hp => ?_⟩
        obtain ⟨t, rfl⟩ : ∃ t : Nat, r = t := ⟨r.toNat, by omega⟩
        have x5 : Ex H5 (upd H5 p (.tup [.int (t : Nat), .int (1 + (i : Int))])) := Ex.new hp
        have d6 : Deal (upd H5 p (.tup [.int (t : Nat), .int (1 + (i : Int))])) da la := let ⟨a, b, c, d, e⟩ := d5.ex; ⟨a, b, x5 _ _ c, x5 _ _ d, e⟩
        refine k1 _ _ (e5.trans (.of x5)) d6 ⟨ts ++ [p], Ts ++ [[(t : Int), 1 + (i : Int)]], by simp, ?_, by simp [h3], fun j hj => ?_⟩
        · exact paired_snoc ((h2.exT (e5.exT dl)).same x5) (.inl upd_same)
        · by_cases hji : j = i
          · subst hji
            refine ⟨t, by omega, List.mem_append_right _ ?_⟩
            rw [show ((j + 1 : Nat) : Int) = 1 + (j : Int) by omega]
            simp
          · obtain ⟨t', h5, h6⟩ := h4 j (by omega)
            exact ⟨t', h5, List.mem_append_left _ h6⟩
      · obtain ⟨ts, Ts, rfl, h2, h3, h4⟩ := pi
        have n4a : D4 ≠ da := (ne_of_none (pe _ _ hda) hD4).symm
        have n4b : D4 ≠ la := (ne_of_none (pe _ _ hla) hD4).symm
        have ppl4 := eD _ _ npda npla ppl
        have prs4 := prs.exT eT
        refine st_gn ?_
        dsimp only
        generalize hσ2 : σ'.set 4 (some (V.ref D4)) = σ2
        have g0 : σ2[0]? = some (some (.ref da)) := by subst hσ2; simp [q0]
        have g2 : σ2[2]? = some (some (.ref pl)) := by subst hσ2; simp [q2]
        have g4 : σ2[4]? = some (some (.ref D4)) := by subst hσ2; simp [ql]
        have gl : σ2.length = 9 := by subst hσ2; simp [ql]
        refine ⟨_, g0, ⟨da, la, 4, rfl, dl, by omega, by omega, fun H5 sh e5 d5 _ _ => ?_⟩⟩
        have hl5 := e5 _ _ n4a n4b hl4
        have ppl5 := e5 _ _ npda npla ppl4
        have prs5 := prs4.exT (e5.exT dl)
        have h25 := h2.exT (e5.exT dl)
        have eD5 := eD.trans e5
        refine st_gn ?_
        dsimp only
        generalize hσ3 : σ2.set 5 (some (V.int sh)) = σ3
        have f0 : σ3[0]? = some (some (.ref da)) := by subst hσ3; simp [g0]
        have f2 : σ3[2]? = some (some (.ref pl)) := by subst hσ3; simp [g2]
        have f4 : σ3[4]? = some (some (.ref D4)) := by subst hσ3; simp [g4]
        have f5 : σ3[5]? = some (some (.int sh)) := by subst hσ3; simp [gl]
        have fl : σ3.length = 9 := by subst hσ3; simp [gl]
        refine st_ret (st_cb (st_cb ?_))
        refine ⟨_, f2, pl, rfl, ⟨_, sq_of ppl5⟩, ?_⟩
        refine lcI (Qd := fun D H' => _) walk_list da la (fun i xs H => ∃ (us : List Addr) (Us : List (List Int)), xs = us.map V.ref ∧ Tus H us Us ∧ Us.length ≤ i ∧ Us.Nodup ∧ (∀ U ∈ Us, U ∈ (pairsOf n).take i) ∧ ∀ U ∈ (pairsOf n).take i, U ∈ Ts → U ∈ Us) d5 ⟨[], [], rfl, .nil, Nat.le_refl _, List.nodup_nil, by simp, by simp⟩ (fun H' e _ => sq_of (e _ _ npda npla ppl5)) (fun i xs H H' e ⟨us, Us, h1, h2, h3⟩ => ⟨us, Us, h1, h2.exT e, h3⟩) (fun i xs H hi ⟨us, Us, h1, h2, h3, _⟩ => by rw [h1, List.length_map, Paired.length h2]; rw [List.length_map] at hi; omega) (fun i x H6 H7 Y0 Y1 xs hi eD6 eT6 dl6 pi yy k0 k1 => ?_) (fun D9 H9 xs hD9 eD9 eT9 dl9 hl9 pi => ?_)
        · obtain ⟨us, Us, rfl, w2, w3, w4, w5, w6⟩ := pi
          obtain ⟨rfl, yy⟩ := yy
          obtain ⟨pa, epa, rfl⟩ := get_map yy
          obtain ⟨U, eU, tU⟩ := paired_at prs5 epa
          have tU6 := tU.exT eT6
          refine st_gn ⟨wipe_set (by decide), ?_⟩
          have v8 : ((wipe σ3 (List.map (fun x => x.snd) [(Str.ofString "_law_pair", 8)])).set 8 (some (V.ref pa)))[8]? = some (some (.ref pa)) := by simp [wipe, fl]
          have v4 : ((wipe σ3 (List.map (fun x => x.snd) [(Str.ofString "_law_pair", 8)])).set 8 (some (V.ref pa)))[4]? = some (some (.ref D4)) := by simp [wipe, f4]
          have v0 : ((wipe σ3 (List.map (fun x => x.snd) [(Str.ofString "_law_pair", 8)])).set 8 (some (V.ref pa)))[0]? = some (some (.ref da)) := by simp [wipe, f0]
          have v5 : ((wipe σ3 (List.map (fun x => x.snd) [(Str.ofString "_law_pair", 8)])).set 8 (some (V.ref pa)))[5]? = some (some (.int sh)) := by simp [wipe, f5]
          have hyes : ∀ H3, ExD da la H7 H3 → Deal H3 da la → Y1 (.ref pa) H3 := fun H3 e d => by
            refine k1 _ H3 e d ⟨us ++ [pa], Us ++ [U], by simp, paired_snoc (w2.exT (e.exT dl6)) (tU6.exT (e.exT dl6)), by rw [List.length_append]; simp; omega, nodup_snocG w4 (fun h => not_earlier hpn eU (w5 U h)), fun U' hU' => ?_, fun U' hU' hT => ?_⟩
            · rw [take_next eU]
              rcases List.mem_append.mp hU' with h | h
              · exact List.mem_append_left _ (w5 U' h)
              · exact List.mem_append_right _ h
            · rw [take_next eU] at hU'
              rcases List.mem_append.mp hU' with h | h
              · exact List.mem_append_left _ (w6 U' h hT)
              · exact List.mem_append_right _ h
          refine ⟨_, v8, _, v4, pa, D4, U, ts, Ts, rfl, rfl, tU6, .inl (sq_of (eD6 _ _ n4a n4b hl5)), h25.exT eT6, ?_⟩
          by_cases hUT : U ∈ Ts
          · refine ⟨true, by simp [hUT], ?_⟩
            exact ⟨_, v8, hyes _ .refl dl6⟩
          · refine ⟨false, by simp [hUT], ?_⟩
            refine ⟨_, v0, ⟨da, la, 4, rfl, dl6, by omega, by omega, fun H8 r e8 d8 _ _ => ⟨_, v5, _, _, rfl, rfl, decide (r < sh), rfl, ?_⟩⟩⟩
            by_cases hrs : r < sh
            · rw [decide_eq_true hrs]
              exact ⟨_, v8, hyes _ e8 d8⟩
            · rw [decide_eq_false hrs]
              refine k0 _ e8 d8 ⟨us, Us, rfl, w2.exT (e8.exT dl6), by omega, w4, fun U' hU' => ?_, fun U' hU' hT => ?_⟩
              · rw [take_next eU]
                exact List.mem_append_left _ (w5 U' hU')
              · rw [take_next eU] at hU'
                rcases List.mem_append.mp hU' with h | h
                · exact w6 U' h hT
                · have : U' = U := by simpa using h
                  rw [this] at hT
                  exact absurd hT hUT
        · obtain ⟨us, Us, rfl, w2, w3, w4, w5, w6⟩ := pi
          rw [List.length_map, hrl, List.take_length] at w5 w6
          rw [List.length_map] at w3
          refine ⟨D9, us, Us, rfl, sq_of hl9, w2, fun U hU z => ?_, fun p bs mss hp hsrt => ?_⟩
          · obtain ⟨a, b, e, _⟩ := mem_pairs.mp (w5 U hU)
            rw [z] at e
            cases e
          · have hperm := sorted_perm hsrt (Paired.length w2)
            have hnd : mss.Nodup := hperm.nodup_iff.mpr w4
            refine ⟨p, _, rfl, .inl ⟨sq_of upd_same, fun l hl => ?_⟩⟩
            have x9 := (Ex.new (o := .lst (bs.map V.ref)) hp).trans (Ex.new (o := .tup (bs.map V.ref)) hl)
            refine q _ l bs mss (((ExD.of pe).trans eD5).trans (eD9.trans (.of x9))) ?_ ⟨.inl upd_same, hsrt.at_.same x9⟩ ⟨fun ms hms => ?_, ?_, fun r hr1 hrn => ?_⟩ ?_
            · obtain ⟨a, b, c, d, e⟩ := dl9.ex
              exact ⟨a, b, x9 _ _ c, x9 _ _ d, e⟩
            · obtain ⟨a, b, rfl, h1, h2⟩ := mem_pairs.mp (w5 ms (hperm.mem_iff.mp hms))
              exact ⟨a, b, rfl, by omega, by omega, by omega⟩
            · exact List.Pairwise.imp (fun {a b} h => List.lt_of_le_of_ne' h.1 h.2) (hsrt.asc.and hnd)
            · obtain ⟨t, ht, hm⟩ := h4 (r - 1) (by omega)
              rw [show r - 1 + 1 = r by omega] at ht hm
              exact ⟨t, ht, hperm.mem_iff.mpr (w6 _ (mem_pairs.mpr ⟨t, r, rfl, ht, hrn⟩) hm)⟩
            · rw [hperm.length_eq]
              omega
end
end Kx
namespace Kx
open PySem PySem.Spec PyProof.Rows L2
open Evl (Ex ex_rd ex_l ex_t st_of sq_of sz_lt sz_of)
section
variable {P : Program} {w : World} {K : PySem.W.Frag} {mg : PySem.Str → Option Value} {base : Heap} {A : Ads}
structure spDealt (K : PySem.W.Frag) (vs : List V) (H : Hp) (Q : VK) (E : XK) : Prop where
  ex : ∃ (s : Addr) (zs : List Int) (b : Int), vs = [.ref s, .int b] ∧ SqL K H s (zs.map V.int) ∧ -1000 ≤ b ∧ b ≤ 1000 ∧ ∀ (H' : Hp) (da la : Addr), Ex H H' → H da = none → H la = none → Deal H' da la → Q (.ref da) H'
theorem sc70 : FnScope ["_law_script", "_law_base", "_law_cells", "_law_blend", "_law_cell"] ["_law_script", "_law_base"] (defScope (topS 70)) := ⟨rfl, rfl, rfl, by decide +kernel, rfl, by decide +kernel, by decide +kernel⟩
/- slots: 0 _law_script, 1 _law_base, 2 _law_cells, 3 _law_blend, 4 _law_cell -/
theorem ok_law_dealt (T : Txt P K mg A) : DOk P w K mg base CX0 1 "_law_dealt" ["_law_script", "_law_base"] [] (spDealt K) := by
  refine T._law_dealt.ok0 sc70 (fun vs H Q E h => ?_) (fun _ _ _ _ _ _ us hl => match us, hl with | [_, _], _ => rfl) (fun f cdv A' outer s H vs Q E hr h => ?_)
  · obtain ⟨s, zs, b, rfl, _⟩ := h
    rfl
  · obtain ⟨s, zs, b, rfl, hs, hb1, hb2, q⟩ := h
    refine ⟨_, (pss_cons (ps_setLc (i := 2) rfl sc70.nd rfl rfl (by rfl) (kPiL (K := K) rfl (pe_slice (kSlL (K := K) rfl) (pv 0) po_none (po_some pe_int))) (blkOk_by (own := [("_law_cell", 4)]) (by rfl)) (fun _ _ _ _ _ => (pg_name (i := 4) sc70.nd rfl (Or.inl rfl) (Or.inr rfl))) (fun _ _ _ _ _ => pts_nil) (fun _ _ _ _ _ => (pe_callB (id := "abs") call_abs (by rfl) (T.b "abs") (by decide +kernel) (pa_cons (pe_callTy (T := "int") call_int1 (by rfl) (T.b "int") (by decide +kernel) (pa_cons (pv 4) pa_nil)) pa_nil))))
      (pss_cons (ps_set (i := 3) sc70.nd rfl (Or.inl rfl) (pe_op op_add pe_int (pe_op op_mul pe_int (pv 1))))
      (pss_cons (ps_for PassesOwn.never rfl (kPiL (K := K) rfl (pv 2)) (pg_name (i := 4) sc70.nd rfl (Or.inl rfl)) (pss_one (ps_set (i := 3) sc70.nd rfl (Or.inl rfl) (pe_op op_mod (pe_callTy (T := "int") call_int1 (by rfl) (T.b "int") (by decide +kernel) (pa_cons (pe_op op_add (pe_op op_add (pe_op op_mul (pv 3) pe_int) (pe_op op_mod (pv 4) pe_int)) pe_int) pa_nil)) pe_int))))
      (pss_one (ps_ret (pe_lst (pa_cons (pe_lc rfl sc70.nd (kPiL (K := K) rfl (pv 2)) (blkOk_by (own := [("_law_cell", 4)]) (by rfl)) (fun _ _ _ _ _ => (pg_name (i := 4) sc70.nd rfl (Or.inl rfl) (Or.inr rfl))) (fun _ _ _ _ _ => (pts_one (pt_cmpR op_ge (pv 4) (pe_op op_pow pe_int pe_int) (nomark _)))) (fun _ _ _ _ _ => (pv 4))) (pa_cons (pv 3) pa_nil)))))))), ?_⟩
    refine ⟨_, rfl, _, rfl, s, _, rfl, hs, fun p hp => ?_⟩
    obtain ⟨ys, hys, hyl⟩ : ∃ ys : List Int, cutV (zs.map V.int) none (some 50) = ys.map V.int ∧ ys.length ≤ 50 := by
      refine ⟨(zs.drop (HT.sIx (zs.map V.int).length 0 none)).take (HT.sIx (zs.map V.int).length (zs.map V.int).length (some 50) - HT.sIx (zs.map V.int).length 0 none), ?_, ?_⟩
      · unfold cutV
        rw [List.map_take, List.map_drop]
      · rw [List.length_take]
        have h1 := HT.sIx_nat (zs.map V.int).length (zs.map V.int).length 50
        have h1 : HT.sIx (zs.map V.int).length (zs.map V.int).length (some 50) = min 50 (zs.map V.int).length := h1
        rw [h1]
        omega
    have hl1 : (upd H p (.lst (cutV (zs.map V.int) none (some 50)))) p = some (.lst (ys.map V.int)) := by rw [upd_same, hys]
    have e1 : Ex H (upd H p (.lst (cutV (zs.map V.int) none (some 50)))) := Ex.new hp
    generalize (upd H p (.lst (cutV (zs.map V.int) none (some 50)))) = H1 at hl1 e1 ⊢
    refine ⟨p, rfl, ⟨_, sq_of hl1⟩, ?_⟩
    refine lcV (Qd := fun D H' => _) walk_list (fun _ => true) (fun k => .int (if ys.getD k 0 < 0 then -(ys.getD k 0) else ys.getD k 0)) (by rw [List.length_map]; omega) (fun H' e => sq_of (e _ _ hl1)) (fun k y H3 H4 Y0 Y1 hk e yy k0 k1 => ?_) (fun cl H2 hcl e2 hl2 => ?_)
    · obtain ⟨rfl, yy⟩ := yy
      obtain ⟨z, ez, rfl⟩ := get_map yy
      rw [getD_at ez] at k1
      exact st_gn ⟨wipe_set (by decide), _, rfl, .inl ⟨_, rfl, _, rfl, k1 _ rfl (Ex.refl _)⟩⟩
    obtain ⟨cs, hcs, hcsl⟩ : ∃ cs : List Int, (((List.range (ys.map V.int).length).filter fun _ => true).map fun k => V.int (if ys.getD k 0 < 0 then -(ys.getD k 0) else ys.getD k 0)) = cs.map V.int ∧ cs.length ≤ 50 := by
      refine ⟨(List.range (ys.map V.int).length).map fun k => if ys.getD k 0 < 0 then -(ys.getD k 0) else ys.getD k 0, ?_, ?_⟩
      · rw [range_all, List.map_map]
        rfl
      · rw [List.length_map, List.length_range, List.length_map]
        exact hyl
    rw [hcs] at hl2
    have e12 := e1.trans e2
    refine ⟨_, rfl, _, _, rfl, rfl, .inl ⟨by omega, by omega⟩, _, _, rfl, rfl, ?_⟩
    refine ⟨_, rfl, cl, rfl, ⟨_, sq_of hl2⟩, ?_⟩
    refine for_it walk_list (fun i σ' H' => σ'[2]? = some (some (.ref cl)) ∧ σ'.length = 5 ∧ H' = H2 ∧ ∃ g : Int, σ'[3]? = some (some (.int g))) ⟨rfl, rfl, rfl, _, rfl⟩ (fun i σ' H' _ p => by rw [p.2.2.1]; exact sq_of hl2) (fun i y σ' H' H'' hi p yy => ?_) (fun σ' H' p => ?_)
    · obtain ⟨p2, pl, rfl, g, p3⟩ := p
      obtain ⟨rfl, yy⟩ := yy
      obtain ⟨z, ez, rfl⟩ := get_map yy
      refine st_gn ?_
      have g3 : (σ'.set 4 (some (V.int z)))[3]? = some (some (.int g)) := by simp [p3]
      have g4 : (σ'.set 4 (some (V.int z)))[4]? = some (some (.int z)) := by simp [pl]
      refine ⟨_, g3, _, _, rfl, rfl, .inr ⟨by omega, by omega⟩, _, g4, _, _, rfl, rfl, by omega, _, _, rfl, rfl, _, _, rfl, rfl, .inl ⟨_, rfl, _, _, rfl, rfl, by omega, ?_⟩⟩
      exact ⟨by simp [p2], by simp [pl], rfl, (g * 39373 + z % 2147483587 + 101) % 2147483647, by simp [pl]⟩
    · obtain ⟨p2, pl, rfl, g, p3⟩ := p
      refine ⟨_, p2, cl, rfl, ⟨_, sq_of hl2⟩, ?_⟩
      refine lcV (Qd := fun D H' => _) walk_list (fun k => decide ((1000000000000000000 : Int) ≤ cs.getD k 0)) (fun k => .int (cs.getD k 0)) (by rw [List.length_map]; omega) (fun H' e => sq_of (e _ _ hl2)) (fun k y H3 H4 Y0 Y1 hk e yy k0 k1 => ?_) (fun la H3 hla e3 hl3 => ?_)
      · obtain ⟨rfl, yy⟩ := yy
        obtain ⟨z, ez, rfl⟩ := get_map yy
        rw [getD_at ez] at k0 k1
        have u4 : ((wipe σ' (List.map (fun x => x.snd) [(Str.ofString "_law_cell", 4)])).set 4 (some (V.int z)))[4]? = some (some (.int z)) := by simp [wipe, pl]
        refine st_gn ⟨wipe_set (by decide), ?_⟩
        refine ⟨_, u4, _, _, rfl, rfl, ⟨by omega, by omega, by decide⟩, _, _, rfl, rfl, decide ((1000000000000000000 : Int) ≤ z), rfl, ?_⟩
        by_cases h : (1000000000000000000 : Int) ≤ z
        · rw [decide_eq_true h]
          exact ⟨_, u4, k1 _ (decide_eq_true h) (Ex.refl _)⟩
        · rw [decide_eq_false h]
          exact k0 _ (decide_eq_false h) (Ex.refl _)
      · refine ⟨_, p3, (by decide : 2 ≤ sizeLine), fun da hda => ?_⟩
        have x3 : Ex H3 (upd H3 da (.lst [.ref la, .int g])) := Ex.new hda
        refine q _ da la ((e12.trans e3).trans x3) (Evl.fresh_back (e12.trans e3) hda) (Evl.fresh_back e12 hla) ⟨((List.range (cs.map V.int).length).filter fun k => decide ((1000000000000000000 : Int) ≤ cs.getD k 0)).map fun k => cs.getD k 0, g, upd_same, x3 _ _ ?_, ?_⟩
        · rw [hl3, List.map_map]
          rfl
        · rw [List.length_map]
          have := List.length_filter_le (fun k => decide ((1000000000000000000 : Int) ≤ cs.getD k 0)) (List.range (cs.map V.int).length)
          rw [List.length_range, List.length_map] at this
          rw [List.length_map]
          omega
end
end Kx
/-! Counting the answers a house may give: rows of answers against lots. -/
namespace Kx
open PySem PySem.Spec PyProof.Rows L2
/-- the rooms below i with a door to i whose answer is positive -/
def nearOf (D : List (List Int)) (i : Nat) (row : List Int) : List Int := ((List.range i).filter fun (o : Nat) => decide ([(o : Int), (i : Int)] ∈ D) && decide (0 < row.getD o 0)).map fun (o : Nat) => (o : Int)
def okAns (D : List (List Int)) (i : Nat) (row : List Int) (ans : Nat) : Bool := decide (ans = 0) || decide (nearOf D i row = [])
def numOf (D : List (List Int)) (a : Nat) : Nat → List (List Int)
  | 0 => [[]]
  | i + 1 => (numOf D a i).flatMap fun row => ((List.range a).filter (okAns D i row)).map fun (ans : Nat) => row ++ [(ans : Int)]
def supp (row : List Int) : List Int := ((List.range row.length).filter fun k => decide (0 < row.getD k 0)).map fun (k : Nat) => (k : Int)
theorem num_len (D : List (List Int)) (a : Nat) : ∀ i, ∀ row ∈ numOf D a i, row.length = i
  | 0, row, h => by
    have : row = [] := by simpa [numOf] using h
    rw [this]
    rfl
  | i + 1, row, h => by
    obtain ⟨r, hr, h⟩ := List.mem_flatMap.mp h
    obtain ⟨ans, _, rfl⟩ := List.mem_map.mp h
    rw [List.length_append, num_len D a i r hr]
    rfl
theorem num_small (D : List (List Int)) (a : Nat) : ∀ i, (numOf D a i).length ≤ a ^ i
  | 0 => Nat.le_refl _
  | i + 1 => by
    have h1 := num_small D a i
    show ((numOf D a i).flatMap _).length ≤ _
    have : ∀ l : List (List Int), (l.flatMap fun row => ((List.range a).filter (okAns D i row)).map fun (ans : Nat) => row ++ [(ans : Int)]).length ≤ l.length * a := by
      intro l
      induction l with
      | nil => simp
      | cons r l ih =>
        rw [List.flatMap_cons, List.length_append, List.length_map, List.length_cons, Nat.succ_mul]
        have := List.length_filter_le (okAns D i r) (List.range a)
        rw [List.length_range] at this
        omega
    refine Nat.le_trans (this _) ?_
    rw [Nat.pow_succ]
    exact Nat.mul_le_mul_right _ h1
theorem getD_snoc {l : List Int} {x : Int} {k : Nat} (h : k < l.length) : (l ++ [x]).getD k 0 = l.getD k 0 := by
  rw [List.getD_eq_getElem?_getD, List.getD_eq_getElem?_getD, List.getElem?_append_left h]
theorem getD_last {l : List Int} {x : Int} : (l ++ [x]).getD l.length 0 = x := by
  rw [List.getD_eq_getElem?_getD, List.getElem?_append_right (Nat.le_refl _), Nat.sub_self]
  rfl
theorem supp_snoc (row : List Int) (x : Int) : supp (row ++ [x]) = supp row ++ (if 0 < x then [(row.length : Int)] else []) := by
  unfold supp
  rw [List.length_append, show row.length + [x].length = row.length + 1 from rfl, List.range_succ, List.filter_append, List.map_append]
  congr 1
  · congr 1
    apply List.filter_congr
    intro k hk
    rw [getD_snoc (List.mem_range.mp hk)]
  · rw [List.filter_cons, getD_last]
    by_cases h : 0 < x
    · rw [if_pos h, if_pos (decide_eq_true h)]
      rfl
    · rw [if_neg h, if_neg (by simpa using h)]
      rfl
theorem near_free {D : List (List Int)} {i : Nat} {row : List Int} (h : row.length = i) : nearOf D i row = [] ↔ freeOf D i (supp row) = true := by
  unfold nearOf freeOf supp
  rw [List.map_eq_nil_iff, List.filter_eq_nil_iff, Bool.not_eq_true', List.any_eq_false, h]
  constructor
  · intro hn x hx
    obtain ⟨k, hk, rfl⟩ := List.mem_map.mp hx
    obtain ⟨h1, h2⟩ := List.mem_filter.mp hk
    intro hd
    exact hn k h1 (by rw [hd, h2]; rfl)
  · intro hn k hk hd
    rw [Bool.and_eq_true] at hd
    exact hn (k : Int) (List.mem_map.mpr ⟨k, List.mem_filter.mpr ⟨hk, hd.2⟩, rfl⟩) hd.1
theorem sum_add {α : Type} (l : List α) (f g : α → Int) : (l.map fun x => f x + g x).sum = (l.map f).sum + (l.map g).sum := by
  induction l with
  | nil => rfl
  | cons x l ih => rw [List.map_cons, List.sum_cons, ih, List.map_cons, List.sum_cons, List.map_cons, List.sum_cons]; omega
theorem sum_filter {α : Type} (l : List α) (p : α → Bool) (f : α → Int) : ((l.filter p).map f).sum = (l.map fun x => if p x = true then f x else 0).sum := by
  induction l with
  | nil => rfl
  | cons x l ih =>
    rw [List.map_cons, List.sum_cons, ← ih, List.filter_cons]
    by_cases h : p x = true
    · rw [if_pos h, if_pos h, List.map_cons, List.sum_cons]
    · rw [if_neg h, if_neg h]
      omega
theorem sum_flatMap {α β : Type} (l : List α) (f : α → List β) (g : β → Int) : ((l.flatMap f).map g).sum = (l.map fun x => ((f x).map g).sum).sum := by
  induction l with
  | nil => rfl
  | cons x l ih => rw [List.flatMap_cons, List.map_append, List.sum_append, ih, List.map_cons, List.sum_cons]
/-- one room's answers -/
theorem sum_ans (D : List (List Int)) (a i : Nat) (ha : 1 ≤ a) (row : List Int) (hl : row.length = i) (F : List Int → Int) :
    ((((List.range a).filter (okAns D i row)).map fun (ans : Nat) => row ++ [(ans : Int)]).map fun r => F (supp r)).sum = F (supp row) + (if freeOf D i (supp row) = true then ((a : Int) - 1) * F (supp row ++ [(i : Int)]) else 0) := by
  rw [List.map_map]
  have key : ∀ (m : Nat), (((List.range (m + 1)).filter (okAns D i row)).map ((fun r => F (supp r)) ∘ fun (ans : Nat) => row ++ [(ans : Int)])).sum = F (supp row) + (if freeOf D i (supp row) = true then (m : Int) * F (supp row ++ [(i : Int)]) else 0) := by
    intro m
    induction m with
    | zero =>
      have h0 : (List.range 1).filter (okAns D i row) = [0] := by
        rw [show List.range 1 = [0] from rfl, List.filter_cons, if_pos (by simp [okAns])]
        rfl
      rw [h0]
      have h1 : supp (row ++ [((0 : Nat) : Int)]) = supp row := by rw [supp_snoc, if_neg (by omega), List.append_nil]
      show F (supp (row ++ [((0 : Nat) : Int)])) + 0 = _
      rw [h1]
      by_cases h : freeOf D i (supp row) = true
      · rw [if_pos h]; simp
      · rw [if_neg h]
    | succ m ih =>
      rw [List.range_succ, List.filter_append, List.map_append, List.sum_append, ih]
      have h1 : supp (row ++ [((m + 1 : Nat) : Int)]) = supp row ++ [(i : Int)] := by rw [supp_snoc, if_pos (by omega), hl]
      by_cases h : freeOf D i (supp row) = true
      · have hn := (near_free hl).mpr h
        have h2 : [m + 1].filter (okAns D i row) = [m + 1] := by
          rw [List.filter_cons, if_pos (by simp [okAns, hn])]
          rfl
        rw [h2, if_pos h, if_pos h]
        show _ + (F (supp (row ++ [((m + 1 : Nat) : Int)])) + 0) = _
        rw [h1, show ((m + 1 : Nat) : Int) = (m : Int) + 1 by omega, Int.add_mul]
        omega
      · have hn : ¬ nearOf D i row = [] := fun z => h ((near_free hl).mp z)
        have h2 : [m + 1].filter (okAns D i row) = [] := by
          rw [List.filter_cons, if_neg (by simp [okAns, hn])]
          rfl
        rw [h2, if_neg h, if_neg h]
        simp
  obtain ⟨m, rfl⟩ : ∃ m, a = m + 1 := ⟨a - 1, by omega⟩
  rw [key m, show ((m + 1 : Nat) : Int) - 1 = (m : Int) by omega]
theorem sum_rows (D : List (List Int)) (a : Nat) (ha : 1 ≤ a) : ∀ (i : Nat) (F : List Int → Int), ((numOf D a i).map fun r => F (supp r)).sum = ((lotsOf D i).map fun l => F l * wayOf a l).sum
  | 0, F => by simp [numOf, lotsOf, supp, wayOf]
  | i + 1, F => by
    show (((numOf D a i).flatMap _).map _).sum = ((lotsOf D i ++ _).map _).sum
    rw [sum_flatMap]
    have h1 : (numOf D a i).map (fun row => ((((List.range a).filter (okAns D i row)).map fun (ans : Nat) => row ++ [(ans : Int)]).map fun r => F (supp r)).sum) = (numOf D a i).map (fun row => F (supp row) + (if freeOf D i (supp row) = true then ((a : Int) - 1) * F (supp row ++ [(i : Int)]) else 0)) :=
      List.map_congr_left fun row hr => sum_ans D a i ha row (num_len D a i row hr) F
    have ih := sum_rows D a ha i fun l => F l + (if freeOf D i l = true then ((a : Int) - 1) * F (l ++ [(i : Int)]) else 0)
    rw [h1, ih, List.map_append, List.sum_append, List.map_map]
    have h2 : (lotsOf D i).map (fun l => (F l + (if freeOf D i l = true then ((a : Int) - 1) * F (l ++ [(i : Int)]) else 0)) * wayOf a l) = (lotsOf D i).map (fun l => F l * wayOf a l + (if freeOf D i l = true then F (l ++ [(i : Int)]) * wayOf a (l ++ [(i : Int)]) else 0)) := by
      apply List.map_congr_left
      intro l _
      have h3 : wayOf a (l ++ [(i : Int)]) = wayOf a l * ((a : Int) - 1) := by
        unfold wayOf
        rw [List.length_append]
        exact Int.pow_succ _ _
      rw [Int.add_mul, h3]
      by_cases h : freeOf D i l = true
      · rw [if_pos h, if_pos h, Int.mul_comm ((a : Int) - 1), Int.mul_assoc, Int.mul_comm ((a : Int) - 1)]
      · rw [if_neg h, if_neg h, Int.zero_mul]
    rw [h2, sum_add, sum_filter]
    rfl
theorem sum_ones {α : Type} (l : List α) : (l.map fun _ => (1 : Int)).sum = l.length := by
  induction l with
  | nil => rfl
  | cons x l ih => rw [List.map_cons, List.sum_cons, ih, List.length_cons]; omega
theorem num_count (D : List (List Int)) (n a : Nat) (ha : 1 ≤ a) : (a : Int) * (numOf D a n).length = countOf D n a := by
  unfold countOf
  have h := sum_rows D a ha n fun _ => 1
  rw [sum_ones] at h
  rw [h]
  congr 2
  apply List.map_congr_left
  intro l _
  omega
theorem count_two (D : List (List Int)) (n : Nat) : countOf D n 2 = 2 * ((lotsOf D n).length : Int) := by
  unfold countOf
  have : (lotsOf D n).map (wayOf 2) = (lotsOf D n).map fun _ => (1 : Int) := by
    apply List.map_congr_left
    intro l _
    unfold wayOf
    rw [show (2 : Int) - 1 = 1 from rfl, Int.one_pow]
  rw [this, sum_ones]
theorem count_1 (D : List (List Int)) : ∀ n, ((lotsOf D n).map (wayOf 1)).sum = 1
  | 0 => by simp [lotsOf, wayOf]
  | n + 1 => by
    show ((lotsOf D n ++ _).map _).sum = 1
    rw [List.map_append, List.sum_append, count_1 D n, List.map_map]
    have : ((lotsOf D n).filter (freeOf D n)).map (wayOf 1 ∘ fun l => l ++ [(n : Int)]) = ((lotsOf D n).filter (freeOf D n)).map fun _ => (0 : Int) := by
      apply List.map_congr_left
      intro l _
      show wayOf 1 (l ++ [(n : Int)]) = 0
      unfold wayOf
      rw [List.length_append]
      show ((1 : Int) - 1) ^ (l.length + 1) = 0
      rw [Int.pow_succ]
      simp
    rw [this]
    have h0 : ∀ l : List (List Int), (l.map fun _ => (0 : Int)).sum = 0 := fun l => by
      induction l with
      | nil => rfl
      | cons x l ih => rw [List.map_cons, List.sum_cons, ih]; rfl
    rw [h0]
    rfl
theorem count_one_1 (D : List (List Int)) (n : Nat) : countOf D n 1 = 1 := by
  unfold countOf
  rw [count_1]
  rfl
end Kx
/-! The arrows of a party are symmetric; what is mimicked and what is at fault; weak lots. -/
namespace Kx
open PySem PySem.Spec PyProof.Rows L2
theorem arr_sym {n : Nat} {D : List (List Int)} {G : List Int} (h : PD n D) : SymG (arr n (twoW D) G) := ⟨fun s t hst => by
  unfold arr at hst ⊢
  rcases List.mem_append.mp hst with h1 | h1
  · obtain ⟨e, he, q⟩ := List.mem_map.mp h1
    have q1 : n - (e.getD 0 0).toNat = s := congrArg Prod.fst q
    have q2 : n - (e.getD 1 0).toNat = t := congrArg Prod.snd q
    obtain ⟨a, b, k1, k2, k3, hd, e1 | e1⟩ := (mem_twoW h).mp he
    · subst e1
      refine List.mem_append_left _ (List.mem_map.mpr ⟨[b, a], (mem_twoW h).mpr ⟨a, b, k1, k2, k3, hd, .inr rfl⟩, ?_⟩)
      rw [← q1, ← q2]
      rfl
    · subst e1
      refine List.mem_append_left _ (List.mem_map.mpr ⟨[a, b], (mem_twoW h).mpr ⟨a, b, k1, k2, k3, hd, .inl rfl⟩, ?_⟩)
      rw [← q1, ← q2]
      rfl
  · obtain ⟨g, hg, hm⟩ := List.mem_flatMap.mp h1
    refine List.mem_append_right _ (List.mem_flatMap.mpr ⟨g, hg, ?_⟩)
    have hm' : (s, t) = (0, n - g.toNat) ∨ (s, t) = (n - g.toNat, 0) := by simpa using hm
    rcases hm' with e | e
    · have e1 : s = 0 := congrArg Prod.fst e
      have e2 : t = n - g.toNat := congrArg Prod.snd e
      subst e1 e2
      simp
    · have e1 : s = n - g.toNat := congrArg Prod.fst e
      have e2 : t = 0 := congrArg Prod.snd e
      subst e1 e2
      simp⟩
theorem mim_fault {n : Nat} {D : List (List Int)} {G : List Int} {ms : List Int} (h : PD n D) (hml : ms.length = n + 1) : Mim (arr n (twoW D) G) ms 0 ↔ fault n ms D ≠ none := by
  unfold fault
  constructor
  · rintro ⟨_, x, hx, y, hy, hxy, s, t, rfl, rfl, hst⟩ hn
    obtain ⟨k, ek, hk, hk0⟩ := mem_othr.mp hx
    obtain ⟨j, ej, hj, hj0⟩ := mem_othr.mp hy
    have ek : s = k := Int.ofNat_inj.mp ek
    have ej : t = j := Int.ofNat_inj.mp ej
    subst ek ej
    have s0 : s ≠ 0 := fun z => by subst z; exact hk0 rfl
    have t0 : t ≠ 0 := fun z => by subst z; exact hj0 rfl
    unfold arr at hst
    rcases List.mem_append.mp hst with h1 | h1
    · obtain ⟨e, he, q⟩ := List.mem_map.mp h1
      have q1 : n - (e.getD 0 0).toNat = s := congrArg Prod.fst q
      have q2 : n - (e.getD 1 0).toNat = t := congrArg Prod.snd q
      obtain ⟨a, b, k1, k2, k3, hd, e1 | e1⟩ := (mem_twoW h).mp he
      · subst e1
        have := List.find?_eq_none.mp hn [a, b] hd
        apply this
        have q1 : n - a.toNat = s := q1
        have q2 : n - b.toNat = t := q2
        show (decide (ms.getD (n - a.toNat) 0 ≠ ms.getD 0 0) && decide (ms.getD (n - b.toNat) 0 ≠ ms.getD 0 0)) = true
        rw [q1, q2, decide_eq_true hk0, decide_eq_true hj0]
        rfl
      · subst e1
        have := List.find?_eq_none.mp hn [a, b] hd
        apply this
        have q1 : n - b.toNat = s := q1
        have q2 : n - a.toNat = t := q2
        show (decide (ms.getD (n - a.toNat) 0 ≠ ms.getD 0 0) && decide (ms.getD (n - b.toNat) 0 ≠ ms.getD 0 0)) = true
        rw [q1, q2, decide_eq_true hk0, decide_eq_true hj0]
        rfl
    · obtain ⟨g, hg, hm⟩ := List.mem_flatMap.mp h1
      have hm' : (s, t) = (0, n - g.toNat) ∨ (s, t) = (n - g.toNat, 0) := by simpa using hm
      rcases hm' with e | e
      · exact s0 (congrArg Prod.fst e)
      · exact t0 (congrArg Prod.snd e)
  · intro hn
    obtain ⟨e, he⟩ := Option.ne_none_iff_exists'.mp hn
    have hf := List.find?_some he
    have hm := List.mem_of_find?_eq_some he
    obtain ⟨a, b, rfl, k1, k2, k3⟩ := h.pair e hm
    have hf : (decide (ms.getD (n - a.toNat) 0 ≠ ms.getD 0 0) && decide (ms.getD (n - b.toNat) 0 ≠ ms.getD 0 0)) = true := hf
    rw [Bool.and_eq_true] at hf
    refine ⟨rfl, ((n - a.toNat : Nat) : Int), mem_othr.mpr ⟨_, rfl, by omega, of_decide_eq_true hf.1⟩, ((n - b.toNat : Nat) : Int), mem_othr.mpr ⟨_, rfl, by omega, of_decide_eq_true hf.2⟩, by omega, n - a.toNat, n - b.toNat, rfl, rfl, ?_⟩
    unfold arr
    exact List.mem_append_left _ (List.mem_map.mpr ⟨[a, b], (mem_twoW h).mpr ⟨a, b, k1, k2, k3, hm, .inl rfl⟩, rfl⟩)
/-- weak lots: they may meet -/
structure LotsW (ar : List (Nat × Nat)) (ins : List Int) (Ls : List (List Int)) : Prop where
  sub : ∀ L ∈ Ls, ∀ x ∈ L, x ∈ ins
  nd : ∀ L ∈ Ls, L.Nodup
  cl : ∀ L ∈ Ls, ∀ x ∈ L, ∀ y ∈ ins, Adj ar x y → y ∈ L
  pair : ∀ L ∈ Ls, 2 ≤ L.length → ∃ x ∈ L, ∃ y ∈ L, x ≠ y ∧ Adj ar x y
theorem LotsW.nil {ar : List (Nat × Nat)} {ins : List Int} : LotsW ar ins [] := ⟨by simp, by simp, by simp, by simp⟩
theorem LotsW.snoc {ar : List (Nat × Nat)} {ins : List Int} {Ls : List (List Int)} (h : LotsW ar ins Ls) {fs ys : List Int} {z : Int} {W : List (List Int)} (r : Reach W ins z fs) (hW : ∀ x ∈ ins, ∀ y, y ∈ rowW W x ↔ Adj ar x y) (hp : ys.Perm fs) : LotsW ar ins (Ls ++ [ys]) := by
  have hyi : ∀ x ∈ ys, x ∈ ins := fun x hx => r.sub x (hp.mem_iff.mp hx)
  refine ⟨fun L hL => ?_, fun L hL => ?_, fun L hL => ?_, fun L hL => ?_⟩
  · rcases List.mem_append.mp hL with h' | h'
    · exact h.sub L h'
    · have : L = ys := by simpa using h'
      subst this
      exact hyi
  · rcases List.mem_append.mp hL with h' | h'
    · exact h.nd L h'
    · have : L = ys := by simpa using h'
      subst this
      exact hp.nodup_iff.mpr r.nd
  · rcases List.mem_append.mp hL with h' | h'
    · exact h.cl L h'
    · have : L = ys := by simpa using h'
      subst this
      exact fun x hx y hy hadj => hp.mem_iff.mpr (r.closed x (hp.mem_iff.mp hx) y hy ((hW x (hyi x hx) y).mpr hadj))
  · rcases List.mem_append.mp hL with h' | h'
    · exact h.pair L h'
    · have : L = ys := by simpa using h'
      subst this
      intro h2
      have hne : fs ≠ [z] := fun e => by
        have := hp.length_eq
        rw [e] at this
        simp at this
        omega
      obtain ⟨x, hx, y, hy, hxy, hr⟩ := r.pair hne
      exact ⟨x, hp.mem_iff.mpr hx, y, hp.mem_iff.mpr hy, hxy, (hW x (hyi x (hp.mem_iff.mpr hx)) y).mp hr⟩
/-- a lot shows the standing k -/
def showsL (n k : Nat) (L : List Int) : Prop := ∀ r, r < n → (stS n k).getD r 0 ∈ L.map fun m => (stS n m.toNat).getD r 0
theorem shows_all {n k : Nat} {L : List Int} : showsL n k L ↔ (lotB n k L).all id = true := by
  unfold showsL lotB
  rw [List.all_map, List.all_eq_true]
  constructor
  · intro h r hr
    obtain ⟨m, hm, e⟩ := List.mem_map.mp (h r (List.mem_range.mp hr))
    refine List.any_eq_true.mpr ⟨m, hm, decide_eq_true ?_⟩
    rw [Int.toNat_natCast]
    exact e
  · intro h r hr
    obtain ⟨m, hm, e⟩ := List.any_eq_true.mp (h r (List.mem_range.mpr hr))
    have e := of_decide_eq_true e
    rw [Int.toNat_natCast] at e
    exact List.mem_map.mpr ⟨m, hm, e⟩
theorem shows_mim {n k : Nat} {ar : List (Nat × Nat)} {ms : List Int} {Ls : List (List Int)} (h1 : 1 ≤ n) (hml : ms.length = n + 1) (hk : k ≤ n) (h : LotsW ar (othr ms (ms.getD k 0)) Ls) (cov : ∀ x ∈ othr ms (ms.getD k 0), ∃ L ∈ Ls, x ∈ L) : (∃ L ∈ Ls, showsL n k L) ↔ Mim ar ms k := by
  have hins : ∀ y ∈ othr ms (ms.getD k 0), 0 ≤ y ∧ y < (n : Int) + 1 := fun y hy => by
    obtain ⟨j, rfl, hj, _⟩ := mem_othr.mp hy
    omega
  have hk0 : (k : Int) ∉ othr ms (ms.getD k 0) := fun h => by
    obtain ⟨j, ej, hj, hne⟩ := mem_othr.mp h
    have : j = k := (Int.ofNat_inj.mp ej).symm
    subst this
    exact hne rfl
  have full : ∀ L ∈ Ls, showsL n k L ↔ (k = 0 ∧ 2 ≤ L.length) := fun L hL => by
    rw [shows_all]
    exact lot_full (fun y hy => hins y (h.sub L hL y hy)) (h.nd L hL) (fun z => hk0 (h.sub L hL _ z)) hk h1
  unfold Mim
  constructor
  · rintro ⟨L, hL, hs⟩
    obtain ⟨hk', h2⟩ := (full L hL).mp hs
    obtain ⟨a, ha, c, hc, hac, hadj⟩ := h.pair L hL h2
    exact ⟨hk', a, h.sub L hL a ha, c, h.sub L hL c hc, hac, hadj⟩
  · rintro ⟨hk', a, ha, c, hc, hac, hadj⟩
    obtain ⟨L, hL, haL⟩ := cov a ha
    have hcL := h.cl L hL a haL c hc hadj
    refine ⟨L, hL, (full L hL).mpr ⟨hk', ?_⟩⟩
    have h2 := nodup_len (l := [a, c]) (m := L) (by simp [hac]) (by simp [haL, hcL])
    simpa using h2
end Kx
namespace Kx
open PySem PySem.Spec PyProof.Rows L2
open Evl (Ex ex_rd ex_l ex_t st_of sq_of sz_lt sz_of)
/-- a comprehension whose turns give new lists of ints -/
theorem lcL {J : It} {n : Nat} {G : Hp → Prop} {Y : Nat → Hp → V → Hp → Prop} (w : Walk J n G Y) {g : TG} {tt : TT} {te : TE} {vs : List Nat} {σ : L2.St} {H1 : Hp} {Qd : Addr → Hp → Prop} (fn : Nat → List Int)
    (hn : n ≤ 50000) (hG : ∀ H', Ex H1 H' → G H')
    (hs : ∀ i x H' H'' (Y0 : Hp → Prop) (Y1 : VK), i < n → Ex H1 H' → Y i H' x H'' → (∀ H3 c, Ex H' H3 → H' c = none → H3 c = some (.lst ((fn i).map V.int)) → Y1 (.ref c) H3) →
      g x (wipe σ vs) H'' fun σ2 H2 => wipe σ2 vs = wipe σ vs ∧ tt σ2 H2 fun b H3 => if b = true then te σ2 H3 Y1 else Y0 H3)
    (hd : ∀ (D : Addr) (H' : Hp) (cs : List Addr), H1 D = none → Ex H1 H' → H' D = some (.lst (cs.map V.ref)) → cs.length = n → (∀ (r : Nat) (c : Addr), cs[r]? = some c → H1 c = none ∧ H' c = some (.lst ((fn r).map V.int))) → Qd D H') :
    ∀ D, H1 D = none → ∃ W : Nat → Nat → Hp → Prop, (∃ m, W 0 m (upd H1 D (.lst []))) ∧ ∀ i m H, W i m H →
      (J.stop i H ∧ Qd D H) ∨ (J.go i H ∧ ∃ Nx : Hp → Prop, (∀ H', Nx H' → ∃ m', m' < m ∧ W (i + 1) m' H') ∧ ∀ x H', J.yld i H x H' → g x (wipe σ vs) H' fun σ2 H2 => wipe σ2 vs = wipe σ vs ∧ tt σ2 H2 fun b H3 =>
        if b = true then te σ2 H3 fun y H4 => ∃ acc, H4 D = some (.lst acc) ∧ acc.length < sizeLine ∧ Nx (upd H4 D (.lst (acc ++ [y]))) else Nx H3) := fun D hD => by
  refine lc_it w (fun i H' => Ex H1 H' ∧ ∃ cs : List Addr, H' D = some (.lst (cs.map V.ref)) ∧ cs.length = i ∧ ∀ (r : Nat) (c : Addr), cs[r]? = some c → H1 c = none ∧ c ≠ D ∧ H' c = some (.lst ((fn r).map V.int))) ⟨Ex.new hD, [], upd_same, rfl, by simp⟩ (fun i H' _ p => hG H' p.1) (fun i x H' H'' hi p y => ?_) (fun H' p => ?_)
  · obtain ⟨pe, cs, pd, pl, pc⟩ := p
    refine hs i x H' H'' _ _ hi pe y (fun H3 c e hc h3 => ?_)
    have hcD : c ≠ D := (ne_of_none pd hc).symm
    refine ⟨cs.map V.ref, e _ _ pd, by rw [List.length_map]; exact sz_lt (by omega), (pe.trans e).mut hD, cs ++ [c], by rw [upd_same, List.map_append]; rfl, by simp [pl], fun r c' h => ?_⟩
    have hr : r < i + 1 := by
      have := (List.getElem?_eq_some_iff.mp h).1
      rw [List.length_append, pl] at this
      exact this
    by_cases hri : r < i
    · rw [List.getElem?_append_left (by omega)] at h
      obtain ⟨h1, h2, h4⟩ := pc r c' h
      exact ⟨h1, h2, by rw [upd_ne h2]; exact e _ _ h4⟩
    · have hr' : r = i := by omega
      subst hr'
      rw [List.getElem?_append_right (by omega), pl, Nat.sub_self] at h
      have : c = c' := by simpa using h
      subst this
      exact ⟨Evl.fresh_back pe hc, hcD, by rw [upd_ne hcD]; exact h3⟩
  · obtain ⟨pe, cs, pd, pl, pc⟩ := p
    exact hd D H' cs hD pe pd pl fun r c h => ⟨(pc r c h).1, (pc r c h).2.2⟩
theorem kSetW {X : Cx} {K : PySem.W.Frag} {w : World} (hK : X.K = K) (hw : X.w = w) (hc : X.calm = true) : CallR X (.type "set") (rSetL K w) := by subst hK hw; exact cr_setL hc
theorem kSortS {X : Cx} {w : World} (hw : X.w = w) (hc : X.calm = true) : CallR X (.builtin "sorted") (rSortedSet w) := by subst hw; exact cr_sortedSet hc
/-- nothing goes -/
def Dom (H H' : Hp) : Prop := ∀ c, H' c = none → H c = none
theorem Dom.of {H H' : Hp} (e : Ex H H') : Dom H H' := fun c h => Evl.fresh_back e h
theorem Dom.refl (H : Hp) : Dom H H := fun _ h => h
theorem Dom.trans {H H1 H2 : Hp} (a : Dom H H1) (b : Dom H1 H2) : Dom H H2 := fun c h => a c (b c h)
theorem Dom.upd {H H' : Hp} {p : Addr} {o : HO} (d : Dom H H') : Dom H (upd H' p o) := fun c h => d c (by
  by_cases e : c = p
  · subst e; rw [upd_same] at h; cases h
  · rwa [upd_ne e] at h)
def colOf (n : Nat) (L : List Int) (r : Nat) : List Int := L.map fun m => (stS n m.toNat).getD r 0
/-- what a lot shows, cell by cell; all of it new since B -/
structure PcAt (B H : Hp) (n : Nat) (L : List Int) (q : Addr) : Prop where
  ex : ∃ cs : List Addr, B q = none ∧ H q = some (.lst (cs.map V.ref)) ∧ cs.length = n ∧ ∀ (r : Nat) (c : Addr), cs[r]? = some c → B c = none ∧ H c = some (.lst ((colOf n L r).map V.int))
theorem PcAt.keep {B H H' : Hp} {n : Nat} {L : List Int} {q : Addr} (h : PcAt B H n L q) (k : ∀ c o, B c = none → H c = some o → H' c = some o) : PcAt B H' n L q :=
  let ⟨cs, h1, h2, h3, h4⟩ := h.ex
  ⟨cs, h1, k _ _ h1 h2, h3, fun r c e => ⟨(h4 r c e).1, k _ _ (h4 r c e).1 (h4 r c e).2⟩⟩
theorem PcAt.base {B B' H : Hp} {n : Nat} {L : List Int} {q : Addr} (d : Dom B B') (h : PcAt B' H n L q) : PcAt B H n L q :=
  let ⟨cs, h1, h2, h3, h4⟩ := h.ex
  ⟨cs, d _ h1, h2, h3, fun r c e => ⟨d _ (h4 r c e).1, (h4 r c e).2⟩⟩
structure RowsAt (B H : Hp) (n : Nat) (ar : List (Nat × Nat)) (ins : List Int) (ra : Addr) : Prop where
  ex : ∃ (qs : List Addr) (Ls : List (List Int)), B ra = none ∧ H ra = some (.lst (qs.map V.ref)) ∧ Paired (fun q L => PcAt B H n L q) qs Ls ∧ LotsW ar ins Ls ∧ (∀ x ∈ ins, ∃ L ∈ Ls, x ∈ L)
theorem RowsAt.keep {B H H' : Hp} {n : Nat} {ar : List (Nat × Nat)} {ins : List Int} {ra : Addr} (h : RowsAt B H n ar ins ra) (k : ∀ c o, B c = none → H c = some o → H' c = some o) : RowsAt B H' n ar ins ra :=
  let ⟨qs, Ls, h1, h2, h3, h4⟩ := h.ex
  ⟨qs, Ls, h1, k _ _ h1 h2, Paired.mapP h3 fun _ _ z => z.keep k, h4⟩
structure Pcs (B H : Hp) (pd : Addr) (n : Nat) (ar : List (Nat × Nat)) (ms as : List Int) : Prop where
  ex : ∃ kvs : List (Key × V), H pd = some (.dK kvs) ∧ kvs.length ≤ as.length ∧ ∀ a ∈ as, ∃ ra, valV kvs (.inl a) = some (.ref ra) ∧ RowsAt B H n ar (othr ms a) ra
def othrTo (ms : List Int) (a : Int) (j : Nat) : List Int := ((List.range j).filter fun k => decide (ms.getD k 0 ≠ a)).map fun (k : Nat) => (k : Int)
theorem othrTo_yes {ms : List Int} {a : Int} {j : Nat} (h : ms.getD j 0 ≠ a) : othrTo ms a (j + 1) = othrTo ms a j ++ [(j : Int)] := by
  unfold othrTo
  rw [range_yes (decide_eq_true h), List.map_append]
  rfl
theorem othrTo_no {ms : List Int} {a : Int} {j : Nat} (h : ¬ ms.getD j 0 ≠ a) : othrTo ms a (j + 1) = othrTo ms a j := by
  unfold othrTo
  rw [range_no (decide_eq_false h)]
theorem othrTo_lt {ms : List Int} {a : Int} {j : Nat} {x : Int} (h : x ∈ othrTo ms a j) : x < (j : Int) := by
  obtain ⟨k, hk, rfl⟩ := List.mem_map.mp h
  have := List.mem_range.mp (List.mem_filter.mp hk).1
  omega
theorem othrTo_len (ms : List Int) (a : Int) (j : Nat) : (othrTo ms a j).length ≤ j := by
  unfold othrTo
  rw [List.length_map]
  have := List.length_filter_le (fun k => decide (ms.getD k 0 ≠ a)) (List.range j)
  rwa [List.length_range] at this
section
variable {P : Program} {w : World} {K : PySem.W.Frag} {mg : PySem.Str → Option Value} {base : Heap} {A : Ads}
structure spMimd (A : Ads) (vs : List V) (H : Hp) (Q : VK) (E : XK) : Prop where
  ex : ∃ (x b : Addr) (n : Nat) (ar : List (Nat × Nat)) (ns : List Int) (Ah Bh : List (List Int)) (ms : List Int), vs = [.ref x, .ref b] ∧ HsG A H x n ar ns Ah Bh ∧ Ls H b ms ∧ ms.length = n + 1 ∧
    ∀ (H' : Hp) (c : Addr) (xs : List Int), Ex H H' → H' c = some (.lst (xs.map V.int)) → (xs ≠ [] ↔ Mim ar ms 0) → Q (.ref c) H'
theorem sc75 : FnScope ["_law_house", "_law_answers", "_law_found", "_law_pieces", "_law_answer", "_law_inside", "_law_rows", "_law_met", "_law_one", "_law_start", "_law_piece", "_law_number", "_law_standing", "_law_row", "_law_cell"] ["_law_house", "_law_answers"] (defScope (topS 75)) := ⟨rfl, rfl, rfl, by decide +kernel, rfl, by decide +kernel, by decide +kernel⟩
/- slots: 0 _law_house, 1 _law_answers, 2 _law_found, 3 _law_pieces, 4 _law_answer, 5 _law_inside, 6 _law_rows, 7 _law_met, 8 _law_one, 9 _law_start, 10 _law_piece, 11 _law_number, 12 _law_standing, 13 _law_row, 14 _law_cell -/
theorem ok_law_mimicked (T : Txt P K mg A) : DOk P w K mg base CX0 2 "_law_mimicked" ["_law_house", "_law_answers"] [] (spMimd A) := by
  have D__law_led := (ok_law_led (P := P) (w := w) (base := base) T)
  refine T._law_mimicked.ok0 sc75 (fun vs H Q E h => ?_) (fun _ _ _ _ _ _ us hl => match us, hl with | [_, _], _ => rfl) (fun f cdv A' outer s H vs Q E hr h => ?_)
  · obtain ⟨x, b, n, ar, ns, Ah, Bh, ms, rfl, _⟩ := h
    rfl
  · obtain ⟨x, b, n, ar, ns, Ah, Bh, ms, rfl, hx, hb, hml, q⟩ := h
    have hu := hu_of hr
    have hn6 := hx.w.n6
    have hn2 := hx.n2
    refine ⟨_, (pss_cons (ps_par (i := 2) (j := 3) rfl sc75.nd rfl rfl (by decide) rfl rfl (pa_cons (pe_lst pa_nil) (pa_cons pe_dnewK pa_nil)) rfl)
      (pss_cons (ps_for PassesOwn.never rfl (kPiL (K := K) rfl (pe_callB (id := "sorted") (kSortS (w := w) rfl rfl) (by rfl) (T.b "sorted") (by decide +kernel) (pa_cons (pe_callTy (T := "set") (kSetW (K := K) (w := w) rfl rfl rfl) (by rfl) (T.b "set") (by decide +kernel) (pa_cons (pv 1) pa_nil)) pa_nil))) (pg_name (i := 4) sc75.nd rfl (Or.inl rfl)) (pss_cons (ps_par3 (i := 5) (j := 6) (l := 7) rfl sc75.nd rfl rfl rfl (by decide) (by decide) (by decide) rfl rfl rfl (pa_cons pe_dnewK (pa_cons (pe_lst pa_nil) (pa_cons pe_dnewK pa_nil))) rfl)
      (pss_cons (ps_for PassesOwn.never rfl (pi_range1 (by rfl) (T.b "range") (pa_cons (pe_callB (id := "len") (kLen (K := K) rfl) (by rfl) (T.b "len") (by decide +kernel) (pa_cons (pv 1) pa_nil)) pa_nil)) (pg_name (i := 8) sc75.nd rfl (Or.inl rfl)) (pss_one (ps_if (pt_cmpR op_ne (pe_ix (kIxL (K := K) rfl) (pv 1) (pv 8) (fun _ _ => rfl)) (pv 4) (nomark _)) (pss_one (ps_dput hu (pv 5) (pv 8) pe_bl (by rfl))) pss_nil)))
      (pss_cons (ps_for PassesOwn.never rfl (kPiL (K := K) rfl (pe_callB (id := "sorted") (kSorted (K := K) rfl) (by rfl) (T.b "sorted") (by decide +kernel) (pa_cons (pe_callTy (T := "list") (call_listD rfl) (by rfl) (T.b "list") (by decide +kernel) (pa_cons (pv 5) pa_nil)) pa_nil))) (pg_name (i := 9) sc75.nd rfl (Or.inl rfl)) (pss_one (ps_if (pt_cmp (pc_dnotin hu (pv 9) (pv 7))) (pss_cons (ps_set (i := 10) sc75.nd rfl (Or.inr rfl) (pe_d D__law_led hr (by rfl) pass0 (pa_cons (kFld (K := K) rfl (pv 0) (by rfl)) (pa_cons (pv 9) (pa_cons (pv 5) pa_nil)))))
      (pss_cons (ps_for PassesOwn.never rfl (kPiL (K := K) rfl (pv 10)) (pg_name (i := 8) sc75.nd rfl (Or.inl rfl)) (pss_one (ps_dput hu (pv 7) (pv 8) pe_bl (by rfl))))
      (pss_one (ps_expr (kBM (K := K) rfl PySem.F.plainAttrs_list PySem.F.slot_list_append PySem.F.type_list_append mt_append (pv 6) (pa_cons (pe_lc rfl sc75.nd (pi_range1 (by rfl) (T.b "range") (pa_cons (pe_callB (id := "len") (kLen (K := K) rfl) (by rfl) (T.b "len") (by decide +kernel) (pa_cons (kFld (K := K) rfl (pv 0) (by rfl)) pa_nil)) pa_nil)) (blkOk_by (own := [("_law_cell", 14)]) (by rfl)) (fun _ _ _ _ _ => (pg_name (i := 14) sc75.nd rfl (Or.inr rfl) (Or.inl rfl))) (fun _ _ _ _ _ => pts_nil) (fun _ _ _ _ _ => (pe_lc rfl sc75.nd (kPiL (K := K) rfl (pv 10)) (blkOk_by (own := [("_law_one", 8)]) (by rfl)) (fun _ _ _ _ _ => (pg_name (i := 8) sc75.nd rfl (Or.inl rfl) (Or.inr rfl))) (fun _ _ _ _ _ => pts_nil) (fun _ _ _ _ _ => (pe_ix (kIxT (K := K) rfl) (pe_ix (kIxT (K := K) rfl) (kFld (K := K) rfl (pv 0) (by rfl)) (pv 8) (fun _ _ => rfl)) (pv 14) (fun _ _ => rfl)))))) pa_nil)))))) pss_nil)))
      (pss_one (ps_dput hu (pv 3) (pv 4) (pv 6) (by rfl)))))))
      (pss_cons (ps_for PassesOwn.never rfl (kEnum (K := K) rfl (by rfl) (T.b "enumerate") (pa_cons (kFld (K := K) rfl (pv 0) (by rfl)) pa_nil)) (kTgt (K := K) (n := 2) rfl rfl (pgs_cons (pg_name (i := 11) sc75.nd rfl (Or.inl rfl)) (pgs_cons (pg_name (i := 12) sc75.nd rfl (Or.inr rfl)) pgs_nil)) rfl rfl) (pss_one (ps_for PassesOwn.never rfl (kPiL (K := K) rfl (pe_dget hu (pv 3) (pe_ix (kIxL (K := K) rfl) (pv 1) (pv 11) (fun _ _ => rfl)) (fun _ _ => rfl))) (pg_name (i := 13) sc75.nd rfl (Or.inr rfl)) (pss_one (ps_if (pt_cmpR op_eq (pe_callB (id := "len") (kLen (K := K) rfl) (by rfl) (T.b "len") (by decide +kernel) (pa_cons (pe_lc rfl sc75.nd (pi_range1 (by rfl) (T.b "range") (pa_cons (pe_callB (id := "len") (kLen (K := K) rfl) (by rfl) (T.b "len") (by decide +kernel) (pa_cons (pv 12) pa_nil)) pa_nil)) (blkOk_by (own := [("_law_cell", 14)]) (by rfl)) (fun _ _ _ _ _ => (pg_name (i := 14) sc75.nd rfl (Or.inl rfl) (Or.inr rfl))) (fun _ _ _ _ _ => (pts_one (pt_cmpR (kNotIn (K := K) rfl) (pe_ix (kIxT (K := K) rfl) (pv 12) (pv 14) (fun _ _ => rfl)) (pe_ix (kIxL (K := K) rfl) (pv 13) (pv 14) (fun _ _ => rfl)) (by rfl)))) (fun _ _ _ _ _ => (pv 14))) pa_nil)) pe_int (nomark _)) (pss_cons (ps_expr (kBM (K := K) rfl PySem.F.plainAttrs_list PySem.F.slot_list_append PySem.F.type_list_append mt_append (pv 2) (pa_cons (pv 11) pa_nil)))
      (pss_one ps_break)) pss_nil)))))
      (pss_one (ps_ret (pv 2)))))), ?_⟩
    refine st_seq (st_par ?_)
    refine ⟨Nat.zero_le _, fun fl hfl pd hpd => ?_⟩
    have hpdH : H pd = none := Evl.fresh_back (Ex.new (o := .lst []) hfl) hpd
    have e0 : Ex H (upd (upd H fl (.lst [])) pd (.dK [])) := ex2 (Ex.new hfl) hpd
    have bfl : (upd (upd H fl (.lst [])) pd (.dK [])) fl = some (.lst []) := Ex.new hpd _ _ upd_same
    have bpd : (upd (upd H fl (.lst [])) pd (.dK [])) pd = some (.dK []) := upd_same
    have nfp : fl ≠ pd := ne_of_none upd_same hpd
    generalize (upd (upd H fl (.lst [])) pd (.dK [])) = B at e0 bfl bpd ⊢
    dsimp only
    refine st_seq ?_
    refine ⟨_, rfl, b, ms, rfl, rd_l (ex_rd e0 hb), Nat.lt_of_lt_of_le (by omega : ms.length + 1 < 64) (by decide : 64 ≤ scanBound), fun sa c hsa hc => ⟨sa, _, c, rfl, upd_same, by omega, fun as so hasc hmem hlen hso => ⟨so, rfl, ⟨_, sq_of upd_same⟩, ?_⟩⟩⟩
    have hmem' : ∀ k : Int, k ∈ as ↔ k ∈ ms := fun k => by rw [hmem k]; simp
    clear hmem
    have eB1 := ex2 (o := .lst (as.map V.int)) (Ex.new (o := SetO w sa (fun j => decide (j ∈ ms)) c) hsa) hso
    have bso : (upd (upd B sa (SetO w sa (fun j => decide (j ∈ ms)) c)) so (.lst (as.map V.int))) so = some (.lst (as.map V.int)) := upd_same
    have hsoB : B so = none := Evl.fresh_back (Ex.new (o := SetO w sa (fun j => decide (j ∈ ms)) c) hsa) hso
    have nsp : so ≠ pd := (ne_of_none bpd hsoB).symm
    generalize (upd (upd B sa (SetO w sa (fun j => decide (j ∈ ms)) c)) so (.lst (as.map V.int))) = B1 at eB1 bso ⊢
    have hasl : as.length ≤ 7 := by omega
    refine for_it walk_list (fun i σ' H' => σ'[0]? = some (some (.ref x)) ∧ σ'[1]? = some (some (.ref b)) ∧ σ'[2]? = some (some (.ref fl)) ∧ σ'[3]? = some (some (.ref pd)) ∧ σ'.length = 15 ∧ Ex H H' ∧ ExB pd B H' ∧ Dom B H' ∧ H' so = some (.lst (as.map V.int)) ∧ Pcs B H' pd n ar ms (as.take i))
      ⟨rfl, rfl, rfl, rfl, rfl, e0.trans eB1, fun c o _ h => eB1 c o h, Dom.of eB1, bso, [], eB1 _ _ bpd, Nat.zero_le _, by simp⟩ (fun i σ' H' _ p => sq_of p.2.2.2.2.2.2.2.2.1) (fun i y σ' Hz H' hi p yy => ?_) (fun σ' H' p => ?_)
    · obtain ⟨p0, p1, p2, p3, pl, pe, pB, pdm, pso, pcs⟩ := p
      obtain ⟨rfl, yy⟩ := yy
      obtain ⟨a, ea, rfl⟩ := get_map yy
      obtain ⟨kvs0, pk0, pkl0, pkv0⟩ := pcs.ex
      have hH'fl : H' fl = some (.lst []) := pB _ _ nfp bfl
      refine st_gn ?_
      dsimp only
      generalize hσ : σ'.set 4 (some (V.int a)) = σ2
      have g0 : σ2[0]? = some (some (.ref x)) := by subst hσ; simp [p0]
      have g1 : σ2[1]? = some (some (.ref b)) := by subst hσ; simp [p1]
      have g2 : σ2[2]? = some (some (.ref fl)) := by subst hσ; simp [p2]
      have g3 : σ2[3]? = some (some (.ref pd)) := by subst hσ; simp [p3]
      have g4 : σ2[4]? = some (some (.int a)) := by subst hσ; simp [pl]
      have gl : σ2.length = 15 := by subst hσ; simp [pl]
      clear p0 p1 p2 p3 pl hσ
      refine st_seq ?_
      refine fun ind hind => ⟨Nat.zero_le _, fun rw_ hrw mt hmt => ⟨_, _, _, rfl, ?_⟩⟩
      have e1 : Ex H' (upd H' ind (.dK [])) := Ex.new hind
      have e2 := ex2 (o := .lst []) e1 hrw
      have e3 := ex2 (o := .dK []) e2 hmt
      have hrwH := Evl.fresh_back e1 hrw
      have hmtH := Evl.fresh_back e2 hmt
      have c1 : (upd (upd (upd H' ind (.dK [])) rw_ (.lst [])) mt (.dK [])) ind = some (.dK []) := (Ex.new hmt) _ _ ((Ex.new hrw) _ _ upd_same)
      have c2 : (upd (upd (upd H' ind (.dK [])) rw_ (.lst [])) mt (.dK [])) rw_ = some (.lst []) := (Ex.new hmt) _ _ upd_same
      have c3 : (upd (upd (upd H' ind (.dK [])) rw_ (.lst [])) mt (.dK [])) mt = some (.dK []) := upd_same
      have nim : ind ≠ mt := ne_of_none ((Ex.new hrw) _ _ upd_same) hmt
      generalize hσ : ((σ2.set 5 (some (V.ref ind))).set 6 (some (V.ref rw_))).set 7 (some (V.ref mt)) = σ3
      generalize (upd (upd (upd H' ind (.dK [])) rw_ (.lst [])) mt (.dK [])) = C at e3 c1 c2 c3 ⊢
      have domC : ∀ {H6 : Hp}, Ex H' H6 → (∃ o, H6 ind = some o) → (∃ o, H6 rw_ = some o) → (∃ o, H6 mt = some o) → True := fun _ _ _ _ => trivial
      have f0 : σ3[0]? = some (some (.ref x)) := by subst hσ; simp [g0]
      have f1 : σ3[1]? = some (some (.ref b)) := by subst hσ; simp [g1]
      have f2 : σ3[2]? = some (some (.ref fl)) := by subst hσ; simp [g2]
      have f3 : σ3[3]? = some (some (.ref pd)) := by subst hσ; simp [g3]
      have f4 : σ3[4]? = some (some (.int a)) := by subst hσ; simp [g4]
      have f5 : σ3[5]? = some (some (.ref ind)) := by subst hσ; simp [gl]
      have f6 : σ3[6]? = some (some (.ref rw_)) := by subst hσ; simp [gl]
      have f7 : σ3[7]? = some (some (.ref mt)) := by subst hσ; simp [gl]
      have f_ : σ3.length = 15 := by subst hσ; simp [gl]
      clear g0 g1 g2 g3 g4 gl hσ
      have hbC := ex_rd (pe.trans e3) hb
      -- which standings answer otherwise
      refine st_seq ?_
      refine ⟨_, f1, b, _, rfl, .inl (rd_l hbC), _, rfl, by rw [List.length_map]; omega, by rw [List.length_map]; omega, ?_⟩
      refine for_it walk_range (fun j σ' H6 => σ'[0]? = some (some (.ref x)) ∧ σ'[1]? = some (some (.ref b)) ∧ σ'[2]? = some (some (.ref fl)) ∧ σ'[3]? = some (some (.ref pd)) ∧ σ'[4]? = some (some (.int a)) ∧ σ'[5]? = some (some (.ref ind)) ∧ σ'[6]? = some (some (.ref rw_)) ∧ σ'[7]? = some (some (.ref mt)) ∧ σ'.length = 15 ∧ Ex H' H6 ∧ Dom C H6 ∧ H6 rw_ = some (.lst []) ∧ H6 mt = some (.dK []) ∧ DKs H6 ind (othrTo ms a j) anyV)
        ⟨f0, f1, f2, f3, f4, f5, f6, f7, f_, e3, Dom.refl C, c2, c3, DKs.nil c1⟩ (fun _ _ _ _ _ => trivial) (fun j y σ' Hz H6 hj p yy => ?_) (fun σ' H6 p => ?_)
      · obtain ⟨p0, p1, p2, p3, p4, p5, p6, p7, pl, pe6, pdm6, prw, pmt, pin⟩ := p
        obtain ⟨rfl, rfl⟩ := yy
        have hjn : j < n + 1 := by simp [hml] at hj; omega
        refine st_gn ?_
        dsimp only
        generalize hσ : σ'.set 8 (some (V.int (0 + (j : Int)))) = σ4
        have h0 : σ4[0]? = some (some (.ref x)) := by subst hσ; simp [p0]
        have h1 : σ4[1]? = some (some (.ref b)) := by subst hσ; simp [p1]
        have h2 : σ4[2]? = some (some (.ref fl)) := by subst hσ; simp [p2]
        have h3 : σ4[3]? = some (some (.ref pd)) := by subst hσ; simp [p3]
        have h4 : σ4[4]? = some (some (.int a)) := by subst hσ; simp [p4]
        have h5 : σ4[5]? = some (some (.ref ind)) := by subst hσ; simp [p5]
        have h6 : σ4[6]? = some (some (.ref rw_)) := by subst hσ; simp [p6]
        have h7 : σ4[7]? = some (some (.ref mt)) := by subst hσ; simp [p7]
        have h8 : σ4[8]? = some (some (.int (j : Nat))) := by subst hσ; simp [pl]
        have hl : σ4.length = 15 := by subst hσ; simp [pl]
        clear p0 p1 p2 p3 p4 p5 p6 p7 pl hσ
        have eat : ms[j]? = some (ms.getD j 0) := by
          rw [List.getD_eq_getElem?_getD, List.getElem?_eq_getElem (by omega)]
          rfl
        refine ⟨_, h1, _, h8, b, _, _, _, rfl, rfl, rd_l (ex_rd (pe.trans pe6) hb), atI_map eat, _, h4, rfl, ?_⟩
        by_cases hne : ms.getD j 0 = a
        · refine ⟨false, ne_f hne, ?_⟩
          exact ⟨h0, h1, h2, h3, h4, h5, h6, h7, hl, pe6, pdm6, prw, pmt, by rw [othrTo_no (fun z => z hne)]; exact pin⟩
        · refine ⟨true, ne_t hne, ?_⟩
          obtain ⟨kvs, hput, hd'⟩ := pin.put (x := (j : Int)) (v := .bl true) (fun h => by have := othrTo_lt h; omega) trivial (by have := othrTo_len ms a j; omega)
          refine ⟨_, h5, _, h8, ind, _, rfl, hput, ?_⟩
          have nri : rw_ ≠ ind := pin.neL prw
          exact ⟨h0, h1, h2, h3, h4, h5, h6, h7, hl, pe6.mut hind, pdm6.upd, by rw [upd_ne nri]; exact prw, by rw [upd_ne (Ne.symm nim)]; exact pmt, by rw [othrTo_yes hne]; exact hd'⟩
      · clear f0 f1 f2 f3 f4 f5 f6 f7 f_
        obtain ⟨f0, f1, f2, f3, f4, f5, f6, f7, f_, pe6, pdm6, prw, pmt, pin⟩ := p
        have hin : othrTo ms a (((((ms.map V.int).length : Nat) : Int) - 0).toNat) = othr ms a := by
          have : ((((ms.map V.int).length : Nat) : Int) - 0).toNat = ms.length := by rw [List.length_map]; omega
          rw [this]
          rfl
        have pin : DKs H6 ind (othr ms a) anyV := hin ▸ pin
        clear hin
        have hins : ∀ y ∈ othr ms a, 0 ≤ y ∧ y < (n : Int) + 1 := fun y hy => by
          obtain ⟨k, rfl, hk, _⟩ := mem_othr.mp hy
          omega
        have hinl : (othr ms a).length ≤ 7 := Nat.le_trans (othrTo_len ms a ms.length) (by omega)
        have hW : ∀ x ∈ othr ms a, ∀ y, y ∈ rowW Ah x ↔ Adj ar x y := fun x hxi y => by
          have h1 := hins x hxi
          have h2 := hx.w.wa.len
          rw [row_adj hx.w.wa h1.1 (by omega)]
        obtain ⟨kvs, hk1, hk2, _⟩ := pin.ex
        have hkl : (kvs.map fun kv => kV kv.1) = (othr ms a).map V.int := by
          have h1 : (kvs.map fun kv => kV kv.1) = (kvs.map (·.1)).map kV := by rw [List.map_map]; rfl
          rw [h1, hk2, List.map_map]
          rfl
        dsimp only
        refine st_seq ?_
        refine ⟨_, f5, ind, kvs, rfl, .inl hk1, fun p hp => ?_⟩
        rw [hkl]
        refine ⟨p, othr ms a, rfl, sq_of upd_same, by omega, fun ys p2 hperm hsort hp2 => ⟨p2, rfl, ⟨_, sq_of upd_same⟩, ?_⟩⟩
        have e7 : Ex H6 (upd (upd H6 p (.lst ((othr ms a).map V.int))) p2 (.lst (ys.map V.int))) := ex2 (Ex.new hp) hp2
        have hp2C : C p2 = none := pdm6 _ (Evl.fresh_back (Ex.new (o := .lst ((othr ms a).map V.int)) hp) hp2)
        have hp2l : (upd (upd H6 p (.lst ((othr ms a).map V.int))) p2 (.lst (ys.map V.int))) p2 = some (.lst (ys.map V.int)) := upd_same
        have pe7 := pe6.trans e7
        have pdm7 := pdm6.trans (Dom.of e7)
        have prw7 := e7 _ _ prw
        have pmt7 := e7 _ _ pmt
        have pin7 := pin.same e7
        have hyl : ys.length ≤ 7 := by rw [hperm.length_eq]; exact hinl
        generalize (upd (upd H6 p (.lst ((othr ms a).map V.int))) p2 (.lst (ys.map V.int))) = D7 at pe7 pdm7 prw7 pmt7 pin7 hp2l ⊢
        clear e7 hp hp2 hk1 hkl pe6 pdm6 prw pmt pin
        have nC : ∀ {c d : Addr} {o : HO}, C c = none → C d = some o → c ≠ d := fun h1 h2 => (ne_of_none h2 h1).symm
        refine for_it walk_list (fun j σ' H6 => σ'[0]? = some (some (.ref x)) ∧ σ'[1]? = some (some (.ref b)) ∧ σ'[2]? = some (some (.ref fl)) ∧ σ'[3]? = some (some (.ref pd)) ∧ σ'[4]? = some (some (.int a)) ∧ σ'[5]? = some (some (.ref ind)) ∧ σ'[6]? = some (some (.ref rw_)) ∧ σ'[7]? = some (some (.ref mt)) ∧ σ'.length = 15 ∧ Ex H' H6 ∧ Dom C H6 ∧ H6 p2 = some (.lst (ys.map V.int)) ∧ DKs H6 ind (othr ms a) anyV ∧
            ∃ (mks : List Int) (qs : List Addr) (Ls : List (List Int)), DKs H6 mt mks anyV ∧ mks.Nodup ∧ (∀ z, z ∈ mks ↔ ∃ L ∈ Ls, z ∈ L) ∧ H6 rw_ = some (.lst (qs.map V.ref)) ∧ Paired (fun q L => PcAt C H6 n L q) qs Ls ∧ LotsW ar (othr ms a) Ls ∧ Ls.length ≤ j ∧ ∀ z ∈ ys.take j, z ∈ mks)
          ⟨f0, f1, f2, f3, f4, f5, f6, f7, f_, pe7, pdm7, hp2l, pin7, [], [], [], DKs.nil pmt7, List.nodup_nil, by simp, prw7, .nil, LotsW.nil, Nat.le_refl _, by simp⟩ (fun j σ' H6 _ p => sq_of p.2.2.2.2.2.2.2.2.2.2.2.1) (fun j y σ' Hz H6 hj p yy => ?_) (fun σ' H6 p => ?_)
        · clear f0 f1 f2 f3 f4 f5 f6 f7 f_ pe7 pdm7 hp2l pin7 prw7 pmt7
          obtain ⟨f0, f1, f2, f3, f4, f5, f6, f7, f_, pe6, pdm6, pp2, pin, mks, qs, Ls, pmt, mnd, mmem, prw, pqs, pL, pLl, pdone⟩ := p
          obtain ⟨rfl, yy⟩ := yy
          obtain ⟨z, ez, rfl⟩ := get_map yy
          rw [List.length_map] at hj
          have hzi : z ∈ othr ms a := hperm.mem_iff.mp (List.mem_of_getElem? ez)
          refine st_gn ?_
          dsimp only
          generalize hσ : σ'.set 9 (some (V.int z)) = σ4
          have h0 : σ4[0]? = some (some (.ref x)) := by subst hσ; simp [f0]
          have h1 : σ4[1]? = some (some (.ref b)) := by subst hσ; simp [f1]
          have h2 : σ4[2]? = some (some (.ref fl)) := by subst hσ; simp [f2]
          have h3 : σ4[3]? = some (some (.ref pd)) := by subst hσ; simp [f3]
          have h4 : σ4[4]? = some (some (.int a)) := by subst hσ; simp [f4]
          have h5 : σ4[5]? = some (some (.ref ind)) := by subst hσ; simp [f5]
          have h6 : σ4[6]? = some (some (.ref rw_)) := by subst hσ; simp [f6]
          have h7 : σ4[7]? = some (some (.ref mt)) := by subst hσ; simp [f7]
          have h9 : σ4[9]? = some (some (.int z)) := by subst hσ; simp [f_]
          have hl : σ4.length = 15 := by subst hσ; simp [f_]
          clear f0 f1 f2 f3 f4 f5 f6 f7 f_ hσ
          obtain ⟨o1, hg1, hs1, _⟩ := pmt.get z
          refine ⟨_, h9, _, h7, mt, o1, rfl, hg1, decide (z ∉ mks), by rw [hs1]; simp, ?_⟩
          by_cases hz : z ∈ mks
          · rw [decide_eq_false (fun h => h hz)]
            refine ⟨h0, h1, h2, h3, h4, h5, h6, h7, hl, pe6, pdm6, pp2, pin, mks, qs, Ls, pmt, mnd, mmem, prw, pqs, pL, by omega, fun z' hz' => ?_⟩
            rw [take_next ez] at hz'
            rcases List.mem_append.mp hz' with h | h
            · exact pdone z' h
            · have : z' = z := by simpa using h
              rw [this]
              exact hz
          · rw [decide_eq_true hz]
            have hx6 := hx.ex (pe.trans pe6)
            refine st_seq (st_asg ?_)
            refine fld_ahead T hx6.w.hs (fun aw aas tA => ?_) (fun R r => ⟨_, h0, r⟩)
            refine ⟨_, h9, _, h5, ⟨aw, z, ind, aas, Ah, othr ms a, anyV, rfl, tA, pin, hzi, fun y hy => ?_, by omega, fun H8 o fs ps e8 ho hol hr hpf => ?_⟩⟩
            · have h1 := hins y hy
              have h2 := hx.w.wa.len
              exact ⟨h1.1, by omega⟩
            have hsn := pL.snoc hr hW hpf
            have hpi : ∀ x ∈ ps, x ∈ othr ms a := fun x hx => hr.sub x (hpf.mem_iff.mp hx)
            have hpl : ps.length ≤ 7 := Nat.le_trans (nodup_len (hpf.nodup_iff.mpr hr.nd) hpi) hinl
            have hzp : z ∈ ps := hpf.mem_iff.mpr hr.a0
            have pe8 := pe6.trans e8
            have pdm8 := pdm6.trans (Dom.of e8)
            have hoC : C o = none := pdm6 _ ho
            refine st_gn ?_
            dsimp only
            generalize hσ : σ4.set 10 (some (V.ref o)) = σ5
            have f0 : σ5[0]? = some (some (.ref x)) := by subst hσ; simp [h0]
            have f1 : σ5[1]? = some (some (.ref b)) := by subst hσ; simp [h1]
            have f2 : σ5[2]? = some (some (.ref fl)) := by subst hσ; simp [h2]
            have f3 : σ5[3]? = some (some (.ref pd)) := by subst hσ; simp [h3]
            have f4 : σ5[4]? = some (some (.int a)) := by subst hσ; simp [h4]
            have f5 : σ5[5]? = some (some (.ref ind)) := by subst hσ; simp [h5]
            have f6 : σ5[6]? = some (some (.ref rw_)) := by subst hσ; simp [h6]
            have f7 : σ5[7]? = some (some (.ref mt)) := by subst hσ; simp [h7]
            have f10 : σ5[10]? = some (some (.ref o)) := by subst hσ; simp [hl]
            have f_ : σ5.length = 15 := by subst hσ; simp [hl]
            clear h0 h1 h2 h3 h4 h5 h6 h7 h9 hl hσ hg1
            refine st_seq ?_
            refine ⟨_, f10, o, rfl, ⟨_, sq_of hol⟩, ?_⟩
            refine for_it walk_list (fun i σ' H6 => σ'[0]? = some (some (.ref x)) ∧ σ'[1]? = some (some (.ref b)) ∧ σ'[2]? = some (some (.ref fl)) ∧ σ'[3]? = some (some (.ref pd)) ∧ σ'[4]? = some (some (.int a)) ∧ σ'[5]? = some (some (.ref ind)) ∧ σ'[6]? = some (some (.ref rw_)) ∧ σ'[7]? = some (some (.ref mt)) ∧ σ'[10]? = some (some (.ref o)) ∧ σ'.length = 15 ∧ Ex H' H6 ∧ Dom C H6 ∧ H6 p2 = some (.lst (ys.map V.int)) ∧ H6 o = some (.lst (ps.map V.int)) ∧ DKs H6 ind (othr ms a) anyV ∧ H6 rw_ = some (.lst (qs.map V.ref)) ∧ Paired (fun q L => PcAt C H6 n L q) qs Ls ∧
                ∃ nks : List Int, DKs H6 mt nks anyV ∧ nks.Nodup ∧ ∀ u, u ∈ nks ↔ u ∈ mks ∨ u ∈ ps.take i)
              ⟨f0, f1, f2, f3, f4, f5, f6, f7, f10, f_, pe8, pdm8, e8 _ _ pp2, hol, pin.same e8, e8 _ _ prw, Paired.mapP pqs fun _ _ z => z.keep fun c o _ h => e8 c o h, mks, pmt.same e8, mnd, by simp⟩ (fun i σ' H6 _ p => sq_of p.2.2.2.2.2.2.2.2.2.2.2.2.2.1) (fun i y σ' Hz H6 hi' p yy => ?_) (fun σ' H6 p => ?_)
            · obtain ⟨f0, f1, f2, f3, f4, f5, f6, f7, f10, f_, pe6, pdm6, pp2, po, pin, prw, pqs, nks, pnk, nnd, nmem⟩ := p
              obtain ⟨rfl, yy⟩ := yy
              obtain ⟨u, eu, rfl⟩ := get_map yy
              refine st_gn ?_
              have npm : p2 ≠ mt := nC hp2C c3
              have nom : o ≠ mt := nC hoC c3
              have nrm : rw_ ≠ mt := pnk.neL prw
              have nnl : nks.length < 50000 := by
                have h1 : nks.length ≤ (othr ms a).length := nodup_len nnd fun v hv => by
                  rcases (nmem v).mp hv with h | h
                  · obtain ⟨L, hL, hvL⟩ := (mmem v).mp h
                    exact pL.sub L hL v hvL
                  · exact hpi v (List.mem_of_mem_take h)
                omega
              obtain ⟨kvs, oks, hput, hdk, ond, omem⟩ : ∃ (kvs : List (Key × V)) (oks : List Int), DPut H6 mt (.int u) (.bl true) (upd H6 mt (.dK kvs)) ∧ DKs (upd H6 mt (.dK kvs)) mt oks anyV ∧ oks.Nodup ∧ ∀ v, v ∈ oks ↔ v ∈ nks ∨ v = u := by
                by_cases hun : u ∈ nks
                · obtain ⟨kvs, hput, hdk⟩ := pnk.putSame (v := .bl true) hun trivial nnl
                  exact ⟨kvs, nks, hput, hdk, nnd, fun v => ⟨.inl, fun h => h.elim id fun h => h ▸ hun⟩⟩
                · obtain ⟨kvs, hput, hdk⟩ := pnk.put (v := .bl true) hun trivial nnl
                  exact ⟨kvs, _, hput, hdk, nd_snoc nnd hun, fun v => by rw [List.mem_append]; simp⟩
              refine ⟨_, (by simp [f7] : (σ'.set 8 (some (V.int u)))[7]? = some (some (.ref mt))), _, (by simp [f_] : (σ'.set 8 (some (V.int u)))[8]? = some (some (.int u))), mt, _, rfl, hput, by simp [f0], by simp [f1], by simp [f2], by simp [f3], by simp [f4], by simp [f5], by simp [f6], by simp [f7], by simp [f10], by simp [f_], pe6.mut hmtH, pdm6.upd, by rw [upd_ne npm]; exact pp2, by rw [upd_ne nom]; exact po, pin.keep (Ne.symm nim), by rw [upd_ne nrm]; exact prw, Paired.mapP pqs fun _ _ z => z.keep fun c o hc h => by rw [upd_ne (nC hc c3)]; exact h, oks, hdk, ond, fun v => ?_⟩
              rw [omem v, nmem v, take_next eu, List.mem_append]
              simp [or_assoc]
            · clear f0 f1 f2 f3 f4 f5 f6 f7 f10 f_ pmt prw pqs pin pp2
              obtain ⟨f0, f1, f2, f3, f4, f5, f6, f7, f10, f_, pe9, pdm9, pp2, po, pin, prw, pqs, nks, pnk, nnd, nmem⟩ := p
              rw [List.length_map, List.take_length] at nmem
              have hx9 := hx.ex (pe.trans pe9)
              -- what the lot shows
              refine ⟨_, f6, tyL (sq_of prw), st_c1 ?_⟩
              refine fld_sizes T hx9.w.hs (fun a1 t1 => ⟨a1, _, rfl, .inr (rd_t t1), _, rfl, by omega, by rw [List.length_map, hx.nl]; omega, ?_⟩) fun R r => ⟨_, f0, r⟩
              have hrl : ((((ns.map V.int).length : Nat) : Int).toNat) = n := by rw [List.length_map, hx.nl]; omega
              refine lcL (Qd := fun D H' => _) walk_range (fun r => colOf n ps r) (by rw [hrl]; omega) (fun _ _ => trivial) (fun r y Hz H3 Y0 Y1 hr' e yy k1 => ?_) (fun D H10 cs hD e10 hl10 hcl hcs => ?_)
              · obtain ⟨rfl, rfl⟩ := yy
                rw [hrl] at hr'
                refine st_gn ⟨wipe_set (by decide), ?_⟩
                have v10 : ((wipe σ' (List.map (fun x => x.snd) [(Str.ofString "_law_cell", 14)])).set 14 (some (V.int (0 + (r : Int)))))[10]? = some (some (.ref o)) := by simp [wipe, f10]
                have v0 : ((wipe σ' (List.map (fun x => x.snd) [(Str.ofString "_law_cell", 14)])).set 14 (some (V.int (0 + (r : Int)))))[0]? = some (some (.ref x)) := by simp [wipe, f0]
                have v14 : ((wipe σ' (List.map (fun x => x.snd) [(Str.ofString "_law_cell", 14)])).set 14 (some (V.int (0 + (r : Int)))))[14]? = some (some (.int (r : Nat))) := by simp [wipe, f_]
                have vl : ((wipe σ' (List.map (fun x => x.snd) [(Str.ofString "_law_cell", 14)])).set 14 (some (V.int (0 + (r : Int))))).length = 15 := by simp [wipe, f_]
                generalize ((wipe σ' (List.map (fun x => x.snd) [(Str.ofString "_law_cell", 14)])).set 14 (some (V.int (0 + (r : Int))))) = σ6 at v10 v0 v14 vl ⊢
                have po3 := e _ _ po
                refine ⟨_, v10, o, rfl, ⟨_, sq_of po3⟩, ?_⟩
                refine lcV (Qd := fun D H' => _) walk_list (fun _ => true) (fun k => .int ((stS n (ps.getD k 0).toNat).getD r 0)) (by rw [List.length_map]; omega) (fun H' e => sq_of (e _ _ po3)) (fun k y Hz H5 Z0 Z1 hk e5 yy l0 l1 => ?_) (fun D8 H8 hD8 e8 hl8 => ?_)
                · obtain ⟨rfl, yy⟩ := yy
                  obtain ⟨u, eu, rfl⟩ := get_map yy
                  rw [getD_at eu] at l1
                  obtain ⟨hu0, hun⟩ := hins u (hpi u (List.mem_of_getElem? eu))
                  obtain ⟨m, rfl⟩ : ∃ m : Nat, u = m := ⟨u.toNat, by omega⟩
                  have u8 : ((wipe σ6 (List.map (fun x => x.snd) [(Str.ofString "_law_one", 8)])).set 8 (some (V.int (m : Nat))))[8]? = some (some (.int (m : Nat))) := by simp [wipe, vl]
                  have u0 : ((wipe σ6 (List.map (fun x => x.snd) [(Str.ofString "_law_one", 8)])).set 8 (some (V.int (m : Nat))))[0]? = some (some (.ref x)) := by simp [wipe, v0]
                  have u14 : ((wipe σ6 (List.map (fun x => x.snd) [(Str.ofString "_law_one", 8)])).set 8 (some (V.int (m : Nat))))[14]? = some (some (.int (r : Nat))) := by simp [wipe, v14]
                  refine st_gn ⟨wipe_set (by decide), ?_⟩
                  refine st_yes (fld_standings T ((hx9.ex e).ex e5).w.hs (fun a2 as2 t2 t3 => ?_) (fun R r => ⟨_, u0, r⟩))
                  obtain ⟨ra, era, tra⟩ := fts_at t3 (hx.row (k := m) (by omega))
                  exact ⟨_, u8, a2, _, _, _, rfl, rfl, rd_t t2.rd, atI_map era, _, u14, ra, _, _, _, rfl, rfl, rd_t tra.rd, atI_map (stS_get hr'), l1 _ rfl (Ex.refl _)⟩
                · have hcol : (((List.range (ps.map V.int).length).filter fun _ => true).map fun k => V.int ((stS n (ps.getD k 0).toNat).getD r 0)) = (colOf n ps r).map V.int := by
                    rw [range_all, List.length_map]
                    unfold colOf
                    conv => rhs; rw [← range_getD ps 0]
                    rw [List.map_map, List.map_map]
                    rfl
                  rw [hcol] at hl8
                  exact k1 H8 D8 e8 hD8 hl8
              · rw [hrl] at hcl
                have prw10 := e10 _ _ prw
                have hLl : qs.length ≤ 50 := by rw [Paired.length pqs]; omega
                refine ⟨rw_, _, _, rfl, rfl, prw10, by rw [List.length_map]; exact sz_lt (by omega), ?_⟩
                have nrw : ∀ {c : Addr}, C c = none → c ≠ rw_ := fun h => nC h c2
                refine ⟨f0, f1, f2, f3, f4, f5, f6, f7, f_, (pe9.trans e10).mut hrwH, (pdm9.trans (Dom.of e10)).upd, by rw [upd_ne (nrw hp2C)]; exact e10 _ _ pp2, (pin.same e10).keep ((pin.same e10).neL prw10), nks, qs ++ [D], Ls ++ [ps], (pnk.same e10).keep ((pnk.same e10).neL prw10), nnd, fun v => ?_, by rw [upd_same, List.map_append]; rfl, ?_, hsn, by rw [List.length_append]; simp; omega, fun z' hz' => ?_⟩
                · rw [nmem v, mmem v]
                  constructor
                  · rintro (⟨L, hL, hv⟩ | hv)
                    · exact ⟨L, List.mem_append_left _ hL, hv⟩
                    · exact ⟨ps, List.mem_append_right _ (by simp), hv⟩
                  · rintro ⟨L, hL, hv⟩
                    rcases List.mem_append.mp hL with h | h
                    · exact .inl ⟨L, h, hv⟩
                    · have : L = ps := by simpa using h
                      exact .inr (this ▸ hv)
                · refine paired_snoc (Paired.mapP pqs fun _ _ z => z.keep fun c o hc h => by rw [upd_ne (nrw hc)]; exact e10 _ _ h) ⟨cs, pdm9 _ hD, by rw [upd_ne (nrw (pdm9 _ hD))]; exact hl10, hcl, fun r c hc => ⟨pdm9 _ (hcs r c hc).1, by rw [upd_ne (nrw (pdm9 _ (hcs r c hc).1))]; exact (hcs r c hc).2⟩⟩
                · rw [take_next ez] at hz'
                  rcases List.mem_append.mp hz' with h | h
                  · exact (nmem z').mpr (.inl (pdone z' h))
                  · have : z' = z := by simpa using h
                    rw [this]
                    exact (nmem z).mpr (.inr hzp)
        · clear f0 f1 f2 f3 f4 f5 f6 f7 f_ pe7 pdm7 hp2l pin7 prw7 pmt7
          obtain ⟨f0, f1, f2, f3, f4, f5, f6, f7, f_, pe6, pdm6, pp2, pin, mks, qs, Ls, pmt, mnd, mmem, prw, pqs, pL, pLl, pdone⟩ := p
          rw [List.length_map, List.take_length] at pdone
          have pk6 := pe6 _ _ pk0
          refine ⟨_, f6, _, f3, _, f4, pd, _, rfl, DPut.k (k := .inl a) pk6 (sz_lt (by rw [List.length_take] at pkl0; omega)), f0, f1, f2, f3, f_, (pe.trans pe6).mut hpdH, fun c o hc h => by rw [upd_ne hc]; exact pe6 _ _ (pB c o hc h), (pdm.trans (Dom.of pe6)).upd, by rw [upd_ne nsp]; exact pe6 _ _ pso, _, upd_same, ?_, fun a' ha' => ?_⟩
          · have h1 := length_putK kvs0 (.inl a) (V.ref rw_)
            rw [take_next ea, List.length_append]
            simp at pkl0 ⊢
            omega
          · rw [valV_put]
            have nBp : ∀ {c : Addr}, B c = none → c ≠ pd := fun h => (ne_of_none bpd h).symm
            by_cases haa : a' = a
            · rw [if_pos (by rw [haa]), haa]
              have dBC : Dom B C := pdm.trans (Dom.of e3)
              exact ⟨rw_, rfl, qs, Ls, pdm _ hrwH, by rw [upd_ne (nBp (pdm _ hrwH))]; exact prw, Paired.mapP pqs fun _ _ z => (z.base dBC).keep fun c o hc h => by rw [upd_ne (nBp hc)]; exact h, pL, fun u hu => (mmem u).mp (pdone u (hperm.mem_iff.mpr hu))⟩
            · rw [if_neg (by simpa using haa)]
              rw [take_next ea] at ha'
              rcases List.mem_append.mp ha' with h | h
              · obtain ⟨ra, h1, h2⟩ := pkv0 a' h
                exact ⟨ra, h1, h2.keep fun c o hc h => by rw [upd_ne (nBp hc)]; exact pe6 _ _ h⟩
              · exact absurd (by simpa using h) haa
    · obtain ⟨p0, p1, p2, p3, pl, pe, pB, pdm, pso, pcs⟩ := p
      rw [List.length_map, List.take_length] at pcs
      obtain ⟨kvs0, pk0, pkl0, pkv0⟩ := pcs.ex
      have hH'fl : H' fl = some (.lst []) := pB _ _ nfp bfl
      have hx1 := hx.ex pe
      dsimp only
      refine st_seq ?_
      refine fld_standings T hx1.w.hs (fun sd sas tS tSs => ?_) (fun R r => ⟨_, p0, r⟩)
      refine ⟨sd, _, rfl, .inr ⟨rd_t tS.rd, ?_⟩⟩
      have hsl : sas.length = n + 1 := by rw [Paired.length tSs, hx1.w.ln]
      refine for_it (walk_enumT (xs := sas.map V.ref)) (fun i σ' H6 => σ'[0]? = some (some (.ref x)) ∧ σ'[1]? = some (some (.ref b)) ∧ σ'[2]? = some (some (.ref fl)) ∧ σ'[3]? = some (some (.ref pd)) ∧ σ'.length = 15 ∧ Ex H H6 ∧ ExB fl H' H6 ∧ ∃ xs : List Int, H6 fl = some (.lst (xs.map V.int)) ∧ xs.length ≤ i ∧ (xs ≠ [] ↔ (0 < i ∧ Mim ar ms 0)))
        ⟨p0, p1, p2, p3, pl, pe, fun _ _ _ h => h, [], hH'fl, Nat.le_refl _, by simp⟩ (fun i σ' H6 _ p => ?_) (fun i y σ' H6 H7 hi p yy => ?_) (fun σ' H6 p => ?_)
      · obtain ⟨o, d, h⟩ := tS
        refine .inl (.inr ⟨o, p.2.2.2.2.2.2.1 _ _ ?_ h⟩)
        intro z
        rw [z, hH'fl] at h
        exact nomatch h
      · obtain ⟨p0, p1, p2, p3, pl, pe6, pF, xs, pf, pfl, pfx⟩ := p
        obtain ⟨Tp, x1, x2, rfl, hT, rfl, y1, y2⟩ := yy
        cases (Option.some.inj y1)
        obtain ⟨ta, eta, rfl⟩ := get_map y2
        rw [List.length_map, hsl] at hi
        obtain ⟨row, erow, trow⟩ := paired_at tSs eta
        rw [hx1.row (k := i) (by omega)] at erow
        cases erow
        have trow6 : Ft H6 ta ((stS n i).map V.int) := by
          obtain ⟨o, d, h⟩ := trow
          refine ⟨o, d, pF _ _ ?_ h⟩
          intro z
          rw [z, hH'fl] at h
          exact nomatch h
        refine ⟨Tp, _, rfl, st_of upd_same, rfl, _, _, rfl, _, _, rfl, rfl, ?_⟩
        have eT : Ex H6 (upd H6 Tp (.tup [.int (i : Nat), .ref ta])) := Ex.new hT
        have nTf : Tp ≠ fl := (ne_of_none pf hT).symm
        have pfT := eT _ _ pf
        have trowT := trow6.same eT
        have peT := pe6.trans eT
        have pFT : ExB fl H' (upd H6 Tp (.tup [.int (i : Nat), .ref ta])) := fun c o hc h => eT _ _ (pF c o hc h)
        generalize (upd H6 Tp (.tup [.int (i : Nat), .ref ta])) = HT at eT pfT trowT peT pFT ⊢
        generalize hσ : (σ'.set 11 (some (V.int (i : Nat)))).set 12 (some (V.ref ta)) = σ2
        have g0 : σ2[0]? = some (some (.ref x)) := by subst hσ; simp [p0]
        have g1 : σ2[1]? = some (some (.ref b)) := by subst hσ; simp [p1]
        have g2 : σ2[2]? = some (some (.ref fl)) := by subst hσ; simp [p2]
        have g3 : σ2[3]? = some (some (.ref pd)) := by subst hσ; simp [p3]
        have g11 : σ2[11]? = some (some (.int (i : Nat))) := by subst hσ; simp [pl]
        have g12 : σ2[12]? = some (some (.ref ta)) := by subst hσ; simp [pl]
        have gl : σ2.length = 15 := by subst hσ; simp [pl]
        clear p0 p1 p2 p3 pl hσ
        have eat : ms[i]? = some (ms.getD i 0) := by
          rw [List.getD_eq_getElem?_getD, List.getElem?_eq_getElem (by omega)]
          rfl
        have npf : pd ≠ fl := Ne.symm nfp
        obtain ⟨ra, hra1, hra2⟩ := pkv0 (ms.getD i 0) ((hmem' _).mpr (List.mem_of_getElem? eat))
        have nBf : ∀ {c : Addr}, B c = none → c ≠ fl := fun h => (ne_of_none bfl h).symm
        obtain ⟨qs, Ls, r1, r2, r3, r4, r5⟩ := (hra2.keep (H' := HT) fun c o hc h => pFT _ _ (nBf hc) h).ex
        have hshow := shows_mim (n := n) (k := i) (by omega) hml (by omega) r4 r5
        have hql := Paired.length r3
        refine ⟨_, g3, _, g1, _, g11, b, _, _, _, rfl, rfl, rd_l (ex_rd peT hb), atI_map eat, pd, _, rfl, by rw [← hra1]; exact DGet.k (k := .inl (ms.getD i 0)) (pFT _ _ npf pk0), ra, rfl, ⟨_, sq_of r2⟩, ?_⟩
        have mono : ∀ {xs' : List Int}, (xs' ≠ [] ↔ (xs ≠ [] ∨ Mim ar ms i)) → (xs' ≠ [] ↔ (0 < i + 1 ∧ Mim ar ms 0)) := fun {xs'} h => by
          rw [h, pfx]
          constructor
          · rintro (⟨_, h⟩ | h)
            · exact ⟨by omega, h⟩
            · have := h.1
              subst this
              exact ⟨by omega, h⟩
          · rintro ⟨_, hM0⟩
            by_cases hi0 : i = 0
            · subst hi0
              exact .inr hM0
            · exact .inl ⟨by omega, hM0⟩
        refine for_it walk_list (fun j σ' H8 => σ'[0]? = some (some (.ref x)) ∧ σ'[1]? = some (some (.ref b)) ∧ σ'[2]? = some (some (.ref fl)) ∧ σ'[3]? = some (some (.ref pd)) ∧ σ'[11]? = some (some (.int (i : Nat))) ∧ σ'[12]? = some (some (.ref ta)) ∧ σ'.length = 15 ∧ Ex HT H8 ∧ ∀ L ∈ Ls.take j, ¬ showsL n i L)
          ⟨g0, g1, g2, g3, g11, g12, gl, Ex.refl _, by simp⟩ (fun j σ' H8 _ p => sq_of (p.2.2.2.2.2.2.2.1 _ _ r2)) (fun j y σ' Hz H8 hj p yy => ?_) (fun σ' H8 p => ?_)
        · clear g0 g1 g2 g3 g11 g12 gl
          obtain ⟨g0, g1, g2, g3, g11, g12, gl, pe8, pno⟩ := p
          obtain ⟨rfl, yy⟩ := yy
          obtain ⟨qa, eqa, rfl⟩ := get_map yy
          obtain ⟨L, eL, pc⟩ := paired_at r3 eqa
          obtain ⟨cs, _, c2, c3, c4⟩ := (pc.keep (H' := H8) fun c o _ h => pe8 c o h).ex
          refine st_gn ?_
          dsimp only
          generalize hσ : σ'.set 13 (some (V.ref qa)) = σ4
          have h0 : σ4[0]? = some (some (.ref x)) := by subst hσ; simp [g0]
          have h1 : σ4[1]? = some (some (.ref b)) := by subst hσ; simp [g1]
          have h2 : σ4[2]? = some (some (.ref fl)) := by subst hσ; simp [g2]
          have h3 : σ4[3]? = some (some (.ref pd)) := by subst hσ; simp [g3]
          have h11 : σ4[11]? = some (some (.int (i : Nat))) := by subst hσ; simp [g11]
          have h12 : σ4[12]? = some (some (.ref ta)) := by subst hσ; simp [g12]
          have h13 : σ4[13]? = some (some (.ref qa)) := by subst hσ; simp [gl]
          have hl : σ4.length = 15 := by subst hσ; simp [gl]
          clear g0 g1 g2 g3 g11 g12 gl hσ
          have tr8 := trowT.same pe8
          refine ⟨_, h12, ta, _, rfl, .inr (rd_t tr8.rd), _, rfl, by omega, by rw [List.length_map, stS_len]; omega, ?_⟩
          have hrl : ((((stS n i).map V.int).length : Nat) : Int).toNat = n := by rw [List.length_map, stS_len]; omega
          refine lcV (Qd := fun D H' => _) walk_range (fun r => decide ((stS n i).getD r 0 ∉ colOf n L r)) (fun r => .int (0 + (r : Int))) (by rw [hrl]; omega) (fun _ _ => trivial) (fun r y Hz H3 Z0 Z1 hr' e3 yy l0 l1 => ?_) (fun D8 H10 hD8 e10 hl10 => ?_)
          · obtain ⟨rfl, rfl⟩ := yy
            rw [hrl] at hr'
            have v14 : ((wipe σ4 (List.map (fun x => x.snd) [(Str.ofString "_law_cell", 14)])).set 14 (some (V.int (0 + (r : Int)))))[14]? = some (some (.int (r : Nat))) := by simp [wipe, hl]
            have v14' : ((wipe σ4 (List.map (fun x => x.snd) [(Str.ofString "_law_cell", 14)])).set 14 (some (V.int (0 + (r : Int)))))[14]? = some (some (.int (0 + (r : Int)))) := by simp [wipe, hl]
            have v12 : ((wipe σ4 (List.map (fun x => x.snd) [(Str.ofString "_law_cell", 14)])).set 14 (some (V.int (0 + (r : Int)))))[12]? = some (some (.ref ta)) := by simp [wipe, h12]
            have v13 : ((wipe σ4 (List.map (fun x => x.snd) [(Str.ofString "_law_cell", 14)])).set 14 (some (V.int (0 + (r : Int)))))[13]? = some (some (.ref qa)) := by simp [wipe, h13]
            refine st_gn ⟨wipe_set (by decide), ?_⟩
            obtain ⟨ca, eca⟩ : ∃ ca, cs[r]? = some ca := ⟨_, List.getElem?_eq_getElem (by omega)⟩
            have tc := e3 _ _ (c4 r ca eca).2
            refine ⟨_, v12, _, v14, ta, _, _, _, rfl, rfl, rd_t (tr8.same e3).rd, atI_map (stS_get hr'), _, v13, _, v14, qa, _, _, _, rfl, rfl, sq_of (e3 _ _ c2), atI_map eca, ca, _, rfl, .inl (sq_of tc), rfl, flat_ints _, ?_⟩
            rw [inV_ints]
            by_cases hc : (stS n i).getD r 0 ∈ colOf n L r
            · refine ⟨false, by rw [decide_eq_true hc]; rfl, ?_⟩
              exact l0 _ (decide_eq_false fun z => z hc) (Ex.refl _)
            · refine ⟨true, by rw [decide_eq_false hc]; rfl, ?_⟩
              exact ⟨_, v14', l1 _ (decide_eq_true hc) (Ex.refl _)⟩
          · rw [hrl] at hl10
            have hempty : ((((List.range n).filter fun r => decide ((stS n i).getD r 0 ∉ colOf n L r)).map fun (r : Nat) => V.int (0 + (r : Int))).length = 0 ↔ showsL n i L) := by
              rw [List.length_map, List.length_eq_zero_iff, List.filter_eq_nil_iff]
              unfold showsL
              constructor
              · intro h r hr
                have := h r (List.mem_range.mpr hr)
                simpa [colOf] using this
              · intro h r hr
                have := h r (List.mem_range.mp hr)
                simpa [colOf] using this
            have e11 := pe8.trans e10
            have pf8 := e11 _ _ pfT
            refine ⟨D8, _, rfl, .inl (sq_of hl10), rfl, ?_⟩
            by_cases hs : showsL n i L
            · refine ⟨true, by rw [hempty.mpr hs]; rfl, ?_⟩
              refine ⟨_, h2, tyL (sq_of pf8), _, h11, fl, _, _, rfl, rfl, pf8, by rw [List.length_map]; exact sz_lt (by omega), ?_⟩
              have hM : Mim ar ms i := hshow.mp ⟨L, List.mem_of_getElem? eL, hs⟩
              have hflH : H fl = none := hfl
              refine ⟨h0, h1, h2, h3, hl, (peT.trans e11).mut hflH, fun c o hc h => by rw [upd_ne hc]; exact e11 _ _ (pFT c o hc h), xs ++ [(i : Int)], by rw [upd_same, List.map_append]; rfl, by rw [List.length_append]; simp; omega, mono ?_⟩
              simp [hM]
            · refine ⟨false, ?_, ?_⟩
              · have : ¬ ((((List.range n).filter fun r => decide ((stS n i).getD r 0 ∉ colOf n L r)).map fun (r : Nat) => V.int (0 + (r : Int))).length = 0) := fun z => hs (hempty.mp z)
                simpa using this
              · refine ⟨h0, h1, h2, h3, h11, h12, hl, e11, fun M hM => ?_⟩
                rw [take_next eL] at hM
                rcases List.mem_append.mp hM with h | h
                · exact pno M h
                · have : M = L := by simpa using h
                  rw [this]
                  exact hs
        · clear g0 g1 g2 g3 g11 g12 gl
          obtain ⟨g0, g1, g2, g3, g11, g12, gl, pe8, pno⟩ := p
          rw [List.length_map, hql, List.take_length] at pno
          have hM : ¬ Mim ar ms i := fun h => by
            obtain ⟨L, hL, hs⟩ := hshow.mpr h
            exact pno L hL hs
          refine ⟨g0, g1, g2, g3, gl, peT.trans pe8, fun c o hc h => pe8 _ _ (pFT c o hc h), xs, pe8 _ _ pfT, by omega, mono ?_⟩
          simp [hM]
      · obtain ⟨p0, p1, p2, p3, pl, pe6, pF, xs, pf, pfl, pfx⟩ := p
        rw [List.length_map, hsl] at pfx
        refine ⟨_, p2, q _ fl xs pe6 pf ?_⟩
        rw [pfx]
        exact ⟨fun h => h.2, fun h => ⟨by omega, h⟩⟩
end
end Kx
namespace Kx
open PySem PySem.Spec PyProof.Rows L2
open Evl (Ex ex_rd ex_l ex_t st_of sq_of sz_lt sz_of)
def ansF (D : List (List Int)) (a i : Nat) (row : List Int) : List (List Int) := ((List.range a).filter (okAns D i row)).map fun (ans : Nat) => row ++ [(ans : Int)]
theorem ansF_yes {D : List (List Int)} {k i : Nat} {row : List Int} (h : okAns D i row k = true) : ansF D (k + 1) i row = ansF D k i row ++ [row ++ [(k : Int)]] := by
  unfold ansF
  rw [range_yes h, List.map_append]
  rfl
theorem ansF_no {D : List (List Int)} {k i : Nat} {row : List Int} (h : okAns D i row k = false) : ansF D (k + 1) i row = ansF D k i row := by
  unfold ansF
  rw [range_no h]
theorem ansF_len (D : List (List Int)) (a i : Nat) (row : List Int) : (ansF D a i row).length ≤ a := by
  unfold ansF
  rw [List.length_map]
  have := List.length_filter_le (okAns D i row) (List.range a)
  rwa [List.length_range] at this
theorem flat_len {α β : Type} {F : α → List β} {a : Nat} (h : ∀ x, (F x).length ≤ a) : ∀ l : List α, (l.flatMap F).length ≤ l.length * a
  | [] => by simp
  | x :: l => by
    rw [List.flatMap_cons, List.length_append, List.length_cons, Nat.succ_mul]
    have := h x
    have := flat_len h l
    omega
theorem flat_take {α β : Type} {F : α → List β} {l : List α} {i : Nat} {x : α} (h : l[i]? = some x) : (l.take (i + 1)).flatMap F = (l.take i).flatMap F ++ F x := by
  rw [take_next h, List.flatMap_append, List.flatMap_cons, List.flatMap_nil, List.append_nil]
theorem num_729 (D : List (List Int)) {a i : Nat} (ha : a ≤ 3) (hi : i ≤ 6) : (numOf D a i).length ≤ 729 := Nat.le_trans (num_small D a i) (Nat.le_trans (Nat.pow_le_pow_left ha i) (Nat.le_trans (Nat.pow_le_pow_right (by decide) hi) (by decide)))
section
variable {P : Program} {w : World} {K : PySem.W.Frag} {mg : PySem.Str → Option Value} {base : Heap} {A : Ads}
structure spNumd (vs : List V) (H : Hp) (Q : VK) (E : XK) : Prop where
  ex : ∃ (d : Addr) (ds : List Addr) (n a : Nat) (D : List (List Int)), vs = [.int n, .ref d, .int a] ∧ TT' H d ds D ∧ n ≤ 6 ∧ a ≤ 3 ∧ ∀ H', Ex H H' → Q (.int ((a : Int) * (numOf D a n).length)) H'
theorem sc77 : FnScope ["_law_rooms", "_law_doors_here", "_law_answers", "_law_found", "_law_rows", "_law_room", "_law_longer", "_law_row", "_law_answer", "_law_near", "_law_other"] ["_law_rooms", "_law_doors_here", "_law_answers"] (defScope (topS 77)) := ⟨rfl, rfl, rfl, by decide +kernel, rfl, by decide +kernel, by decide +kernel⟩
/- slots: 0 _law_rooms, 1 _law_doors_here, 2 _law_answers, 3 _law_found, 4 _law_rows, 5 _law_room, 6 _law_longer, 7 _law_row, 8 _law_answer, 9 _law_near, 10 _law_other -/
theorem ok_law_numbered (T : Txt P K mg A) : DOk P w K mg base CX0 1 "_law_numbered" ["_law_rooms", "_law_doors_here", "_law_answers"] [] spNumd := by
  refine T._law_numbered.ok0 sc77 (fun vs H Q E h => ?_) (fun _ _ _ _ _ _ us hl => match us, hl with | [_, _, _], _ => rfl) (fun f cdv A' outer s H vs Q E hr h => ?_)
  · obtain ⟨d, ds, n, a, D, rfl, _⟩ := h
    rfl
  · obtain ⟨d, ds, n, a, D, rfl, hd, hn6, ha3, q⟩ := h
    have hu65 : (A'.deeper (envOfC "_law_numbered" (defScope (topS 77)) s.heap.objs.size f cdv)).units + 65 < cLine := by have := hr.un; omega
    refine ⟨_, (pss_cons (ps_par (i := 3) (j := 4) rfl sc77.nd rfl rfl (by decide) rfl rfl (pa_cons pe_int (pa_cons (pe_lst (pa_cons (pe_tup pa_nil) pa_nil)) pa_nil)) rfl)
      (pss_cons (ps_for PassesOwn.never rfl (pi_range1 (by rfl) (T.b "range") (pa_cons (pv 0) pa_nil)) (pg_name (i := 5) sc77.nd rfl (Or.inr rfl)) (pss_cons (ps_set (i := 6) sc77.nd rfl (Or.inl rfl) (pe_lst pa_nil))
      (pss_cons (ps_for PassesOwn.never rfl (kPiL (K := K) rfl (pv 4)) (pg_name (i := 7) sc77.nd rfl (Or.inr rfl)) (pss_one (ps_for PassesOwn.never rfl (pi_range1 (by rfl) (T.b "range") (pa_cons (pv 2) pa_nil)) (pg_name (i := 8) sc77.nd rfl (Or.inl rfl)) (pss_cons (ps_setLc (i := 9) rfl sc77.nd rfl rfl (by rfl) (pi_range1 (by rfl) (T.b "range") (pa_cons (pv 5) pa_nil)) (blkOk_by (own := [("_law_other", 10)]) (by rfl)) (fun _ _ _ _ _ => (pg_name (i := 10) sc77.nd rfl (Or.inl rfl) (Or.inr rfl))) (fun _ _ _ _ _ => (pts_one (PW.pt (pw_and (pt_cmpR (kInTu (K := K) rfl hu65) (pe_tup (pa_cons (pv 10) (pa_cons (pv 5) pa_nil))) (pv 1) (by rfl)) (pw_and1 (pt_cmpR op_gt (pe_ix (kIxT (K := K) rfl) (pv 7) (pv 10) (fun _ _ => rfl)) pe_int (nomark _))))))) (fun _ _ _ _ _ => (pv 10)))
      (pss_one (ps_if (PW.pt (pw_or (pt_cmpR op_eq (pv 8) pe_int (nomark _)) (pw_or1 (pt_cmpR (kEqD (K := K) rfl hr.units) (pv 9) (pe_lst pa_nil) (nomark _))))) (pss_one (ps_expr (kBM (K := K) rfl PySem.F.plainAttrs_list PySem.F.slot_list_append PySem.F.type_list_append mt_append (pv 6) (pa_cons (pe_op (kCatF (K := K) rfl) (pv 7) (pe_tup (pa_cons (pv 8) pa_nil))) pa_nil)))) pss_nil))))))
      (pss_one (ps_set (i := 4) sc77.nd rfl (Or.inl rfl) (pv 6))))))
      (pss_one (ps_ret (pe_op op_mul (pv 2) (pe_callB (id := "len") (kLen (K := K) rfl) (by rfl) (T.b "len") (by decide +kernel) (pa_cons (pv 4) pa_nil))))))), ?_⟩
    refine st_seq (st_par ?_)
    refine ⟨Nat.zero_le _, fun b0 hb0 => ⟨(by decide : 1 ≤ sizeLine), fun b1 hb1 => ?_⟩⟩
    have e1 : Ex H (upd (upd H b0 (.tup [])) b1 (.lst [.ref b0])) := ex2 (Ex.new hb0) hb1
    have t0 : Tu (upd (upd H b0 (.tup [])) b1 (.lst [.ref b0])) b0 [] := .inl ((Ex.new hb1) _ _ upd_same)
    have l1 : (upd (upd H b0 (.tup [])) b1 (.lst [.ref b0])) b1 = some (.lst ([b0].map V.ref)) := upd_same
    generalize (upd (upd H b0 (.tup [])) b1 (.lst [.ref b0])) = H1 at e1 t0 l1 ⊢
    dsimp only
    refine st_seq ?_
    refine ⟨_, rfl, _, rfl, by omega, by omega, ?_⟩
    refine for_it walk_range (fun i σ' H' => σ'[1]? = some (some (.ref d)) ∧ σ'[2]? = some (some (.int a)) ∧ σ'.length = 11 ∧ Ex H H' ∧ ∃ (rb : Addr) (as : List Addr), σ'[4]? = some (some (.ref rb)) ∧ H' rb = some (.lst (as.map V.ref)) ∧ Tus H' as (numOf D a i)) ⟨rfl, rfl, rfl, e1, b1, [b0], rfl, l1, .cons t0 .nil⟩ (fun _ _ _ _ _ => trivial) (fun i y σ' Hz H' hi p yy => ?_) (fun σ' H4 p => ?_)
    · obtain ⟨p1, p2, pl, pe, rb, as, p4, prb, pas⟩ := p
      obtain ⟨rfl, rfl⟩ := yy
      have hin : i < n := by simpa using hi
      have hnl := num_729 D ha3 (show i ≤ 6 by omega)
      have hal := Paired.length pas
      refine st_gn ?_
      dsimp only
      refine st_seq (st_asg ?_)
      refine ⟨Nat.zero_le _, fun lg hlg => ?_⟩
      have elg : Ex H' (upd H' lg (.lst [])) := Ex.new hlg
      have hlgl : (upd H' lg (.lst [])) lg = some (.lst (([] : List Addr).map V.ref)) := upd_same
      generalize (upd H' lg (.lst [])) = H2 at elg hlgl ⊢
      dsimp only
      generalize hσ : (σ'.set 5 (some (V.int (0 + (i : Int))))).set 6 (some (V.ref lg)) = σ2
      have g1 : σ2[1]? = some (some (.ref d)) := by subst hσ; simp [p1]
      have g2 : σ2[2]? = some (some (.int a)) := by subst hσ; simp [p2]
      have g4 : σ2[4]? = some (some (.ref rb)) := by subst hσ; simp [p4]
      have g5 : σ2[5]? = some (some (.int (i : Nat))) := by subst hσ; simp [pl]
      have g6 : σ2[6]? = some (some (.ref lg)) := by subst hσ; simp [pl]
      have gl : σ2.length = 11 := by subst hσ; simp [pl]
      clear hσ
      refine st_seq ?_
      refine ⟨_, g4, rb, rfl, ⟨_, sq_of (elg _ _ prb)⟩, ?_⟩
      refine for_it walk_list (fun j σ' H8 => σ'[1]? = some (some (.ref d)) ∧ σ'[2]? = some (some (.int a)) ∧ σ'[4]? = some (some (.ref rb)) ∧ σ'[5]? = some (some (.int (i : Nat))) ∧ σ'[6]? = some (some (.ref lg)) ∧ σ'.length = 11 ∧ Ex H' H8 ∧ ∃ ls : List Addr, H8 lg = some (.lst (ls.map V.ref)) ∧ Tus H8 ls (((numOf D a i).take j).flatMap (ansF D a i)))
        ⟨g1, g2, g4, g5, g6, gl, elg, [], hlgl, .nil⟩ (fun j σ' H8 _ p => sq_of (p.2.2.2.2.2.2.1 _ _ prb)) (fun j y σ' Hz H8 hj p yy => ?_) (fun σ' H8 p => ?_)
      · clear g1 g2 g4 g5 g6 gl
        obtain ⟨g1, g2, g4, g5, g6, gl, pe8, ls, plg, pls⟩ := p
        obtain ⟨rfl, yy⟩ := yy
        obtain ⟨ra, era, rfl⟩ := get_map yy
        obtain ⟨row, erow, trow0⟩ := paired_at pas era
        rw [List.length_map, hal] at hj
        have hrowl := num_len D a i row (List.mem_of_getElem? erow)
        refine st_gn ?_
        dsimp only
        generalize hσ : σ'.set 7 (some (V.ref ra)) = σ3
        have f1 : σ3[1]? = some (some (.ref d)) := by subst hσ; simp [g1]
        have f2 : σ3[2]? = some (some (.int a)) := by subst hσ; simp [g2]
        have f4 : σ3[4]? = some (some (.ref rb)) := by subst hσ; simp [g4]
        have f5 : σ3[5]? = some (some (.int (i : Nat))) := by subst hσ; simp [g5]
        have f6 : σ3[6]? = some (some (.ref lg)) := by subst hσ; simp [g6]
        have f7 : σ3[7]? = some (some (.ref ra)) := by subst hσ; simp [gl]
        have fl : σ3.length = 11 := by subst hσ; simp [gl]
        clear g1 g2 g4 g5 g6 gl hσ
        refine ⟨_, f2, _, rfl, by omega, by omega, ?_⟩
        have htl : ((numOf D a i).take j).length ≤ 729 := by rw [List.length_take]; omega
        have hjl : (((numOf D a i).take j).flatMap (ansF D a i)).length ≤ 2187 := by
          have := flat_len (ansF_len D a i) ((numOf D a i).take j)
          have := Nat.mul_le_mul htl ha3
          omega
        refine for_it walk_range (fun k σ' H8 => σ'[1]? = some (some (.ref d)) ∧ σ'[2]? = some (some (.int a)) ∧ σ'[4]? = some (some (.ref rb)) ∧ σ'[5]? = some (some (.int (i : Nat))) ∧ σ'[6]? = some (some (.ref lg)) ∧ σ'[7]? = some (some (.ref ra)) ∧ σ'.length = 11 ∧ Ex H' H8 ∧ ∃ ls : List Addr, H8 lg = some (.lst (ls.map V.ref)) ∧ Tus H8 ls (((numOf D a i).take j).flatMap (ansF D a i) ++ ansF D k i row))
          ⟨f1, f2, f4, f5, f6, f7, fl, pe8, ls, plg, by rw [show ansF D 0 i row = [] from rfl, List.append_nil]; exact pls⟩ (fun _ _ _ _ _ => trivial) (fun k y σ' Hz H8 hk p yy => ?_) (fun σ' H8 p => ?_)
        · clear f1 f2 f4 f5 f6 f7 fl pe8 plg pls
          obtain ⟨f1, f2, f4, f5, f6, f7, fl, pe8, ls, plg, pls⟩ := p
          obtain ⟨rfl, rfl⟩ := yy
          have hka : k < a := by simpa using hk
          have trow := (trow0.same pe8)
          have hll := Paired.length pls
          rw [List.length_append] at hll
          have hfk := ansF_len D k i row
          refine st_gn ?_
          dsimp only
          generalize hσ : σ'.set 8 (some (V.int (0 + (k : Int)))) = σ4
          have h1 : σ4[1]? = some (some (.ref d)) := by subst hσ; simp [f1]
          have h2 : σ4[2]? = some (some (.int a)) := by subst hσ; simp [f2]
          have h4 : σ4[4]? = some (some (.ref rb)) := by subst hσ; simp [f4]
          have h5 : σ4[5]? = some (some (.int (i : Nat))) := by subst hσ; simp [f5]
          have h6 : σ4[6]? = some (some (.ref lg)) := by subst hσ; simp [f6]
          have h7 : σ4[7]? = some (some (.ref ra)) := by subst hσ; simp [f7]
          have h8 : σ4[8]? = some (some (.int (k : Nat))) := by subst hσ; simp [fl]
          have hl : σ4.length = 11 := by subst hσ; simp [fl]
          clear f1 f2 f4 f5 f6 f7 fl hσ
          refine st_seq (st_asg ?_)
          refine ⟨_, h5, _, rfl, by omega, by omega, ?_⟩
          refine lcV (Qd := fun D H' => _) walk_range (fun o => decide ([(o : Int), (i : Int)] ∈ D) && decide (0 < row.getD o 0)) (fun o => .int (o : Nat)) (by simp; omega) (fun _ _ => trivial) (fun o y Hz H3 Z0 Z1 ho e3 yy l0 l1 => ?_) (fun nb H10 hnb e10 hl10 => ?_)
          · obtain ⟨rfl, rfl⟩ := yy
            have hoi : o < i := by simpa using ho
            have u10 : ((wipe σ4 (List.map (fun x => x.snd) [(Str.ofString "_law_other", 10)])).set 10 (some (V.int (0 + (o : Int)))))[10]? = some (some (.int (o : Nat))) := by simp [wipe, hl]
            have u5 : ((wipe σ4 (List.map (fun x => x.snd) [(Str.ofString "_law_other", 10)])).set 10 (some (V.int (0 + (o : Int)))))[5]? = some (some (.int (i : Nat))) := by simp [wipe, h5]
            have u1 : ((wipe σ4 (List.map (fun x => x.snd) [(Str.ofString "_law_other", 10)])).set 10 (some (V.int (0 + (o : Int)))))[1]? = some (some (.ref d)) := by simp [wipe, h1]
            have u7 : ((wipe σ4 (List.map (fun x => x.snd) [(Str.ofString "_law_other", 10)])).set 10 (some (V.int (0 + (o : Int)))))[7]? = some (some (.ref ra)) := by simp [wipe, h7]
            refine st_gn ⟨wipe_set (by decide), ?_⟩
            refine ⟨_, u10, _, u5, (by decide : 2 ≤ sizeLine), fun q' hq => ?_⟩
            have x1 : Ex H3 (upd H3 q' (.tup [.int (o : Nat), .int (i : Nat)])) := Ex.new hq
            have td := hd.ex (((pe.trans pe8).trans e3).trans x1)
            refine ⟨_, u1, q', d, [(o : Int), (i : Int)], ds, D, rfl, rfl, .inl upd_same, .inr (rd_t td.1), td.2, ?_⟩
            have hrat : row[o]? = some (row.getD o 0) := by
              rw [List.getD_eq_getElem?_getD, List.getElem?_eq_getElem (by omega)]
              rfl
            by_cases hD : [(o : Int), (i : Int)] ∈ D
            · refine ⟨true, by simp [hD], ?_⟩
              refine ⟨_, u7, _, u10, ra, _, _, _, rfl, rfl, rd_t (trow.same (e3.trans x1)), atI_map hrat, _, _, rfl, rfl, decide (0 < row.getD o 0), rfl, ?_⟩
              by_cases hp : 0 < row.getD o 0
              · rw [decide_eq_true hp]
                exact ⟨_, u10, l1 _ (by rw [decide_eq_true hD, decide_eq_true hp]; rfl) x1⟩
              · rw [decide_eq_false hp]
                exact l0 _ (by rw [decide_eq_true hD, decide_eq_false hp]; rfl) x1
            · refine ⟨false, by simp [hD], ?_⟩
              exact l0 _ (by rw [decide_eq_false hD]; rfl) x1
          · have hnear : H10 nb = some (.lst ((nearOf D i row).map V.int)) := by
              rw [hl10, Int.toNat_natCast]
              unfold nearOf
              rw [List.map_map]
              rfl
            clear hl10
            refine st_gn ?_
            dsimp only
            generalize hσ : σ4.set 9 (some (V.ref nb)) = σ5
            have g1 : σ5[1]? = some (some (.ref d)) := by subst hσ; simp [h1]
            have g2 : σ5[2]? = some (some (.int a)) := by subst hσ; simp [h2]
            have g4 : σ5[4]? = some (some (.ref rb)) := by subst hσ; simp [h4]
            have g5 : σ5[5]? = some (some (.int (i : Nat))) := by subst hσ; simp [h5]
            have g6 : σ5[6]? = some (some (.ref lg)) := by subst hσ; simp [h6]
            have g7 : σ5[7]? = some (some (.ref ra)) := by subst hσ; simp [h7]
            have g8 : σ5[8]? = some (some (.int (k : Nat))) := by subst hσ; simp [h8]
            have g9 : σ5[9]? = some (some (.ref nb)) := by subst hσ; simp [hl]
            have gl : σ5.length = 11 := by subst hσ; simp [hl]
            clear h1 h2 h4 h5 h6 h7 h8 hl hσ
            refine ⟨_, g8, rfl, ?_⟩
            by_cases hk0 : k = 0
            · refine ⟨true, by simp [hk0], ?_⟩
              have hok : okAns D i row k = true := by simp [okAns, hk0]
              refine ⟨_, g6, tyL (sq_of (e10 _ _ plg)), st_c1 ⟨_, g7, _, g8, (by decide : 1 ≤ sizeLine), fun q' hq => ?_⟩⟩
              have x1 := ex2 (o := .tup [.int (k : Nat)]) e10 hq
              have tr9 := trow.same x1
              refine ⟨ra, q', _, _, rfl, rfl, rd_t tr9, st_of upd_same, by simp, sz_of (by rw [List.length_map, hrowl]; show i + 1 ≤ _; omega), fun h0 => ?_, fun hn0 q2 o hq2 ho => ?_⟩
              · have hr0 : row = [] := List.map_eq_nil_iff.mp h0
                have plg1 := x1 _ _ plg
                refine ⟨lg, _, _, rfl, rfl, plg1, by rw [List.length_map]; exact sz_lt (by omega), ?_⟩
                refine ⟨g1, g2, g4, g5, g6, g7, gl, (pe8.trans x1).mut hlg, ls ++ [q'], by rw [upd_same, List.map_append]; rfl, ?_⟩
                rw [ansF_yes hok, ← List.append_assoc]
                have nql : ∀ {c : Addr} {ns : List Int}, Tu ((upd H10 q' (.tup [.int (k : Nat)]))) c ns → Tu (upd (upd H10 q' (.tup [.int (k : Nat)])) lg (.lst (ls.map V.ref ++ [V.ref q']))) c ns := fun t => t.exT (ExT.lst plg1)
                refine paired_snoc (Paired.mapP (pls.same x1) fun _ _ t => nql t) (nql ?_)
                rw [hr0]
                exact .inl upd_same
              · have x2 := ex2 (o := .frz o (.tup (row.map V.int ++ [V.int (k : Nat)]))) x1 hq2
                have plg1 := x2 _ _ plg
                refine ⟨lg, _, _, rfl, rfl, plg1, by rw [List.length_map]; exact sz_lt (by omega), ?_⟩
                refine ⟨g1, g2, g4, g5, g6, g7, gl, (pe8.trans x2).mut hlg, ls ++ [q2], by rw [upd_same, List.map_append]; rfl, ?_⟩
                rw [ansF_yes hok, ← List.append_assoc]
                refine paired_snoc (Paired.mapP (pls.same x2) fun _ _ t => t.exT (ExT.lst plg1)) (Tu.exT (.inr ⟨o, ?_⟩) (ExT.lst plg1))
                rw [upd_same, List.map_append]
                rfl
            · refine ⟨false, by simp [hk0], ?_⟩
              refine ⟨_, g9, Nat.zero_le _, fun nl hnl => ?_⟩
              have e11 := ex2 (o := .lst []) e10 hnl
              refine ⟨.list (dInts (nearOf D i row)), .list (dInts []), dp_list (sq_of ((Ex.new hnl) _ _ hnear)), dp_list (ns := []) (sq_of upd_same), shaped_intsL _, shaped_intsL _, ?_⟩
              generalize (upd H10 nl (.lst [])) = H11 at e11 ⊢
              by_cases hne : nearOf D i row = []
              · refine ⟨true, by rw [eqv_list, decide_eq_true hne], ?_⟩
                have hok : okAns D i row k = true := by simp [okAns, hne]
                refine ⟨_, g6, tyL (sq_of (e11 _ _ plg)), st_c1 ⟨_, g7, _, g8, (by decide : 1 ≤ sizeLine), fun q' hq => ?_⟩⟩
                have x1 := ex2 (o := .tup [.int (k : Nat)]) e11 hq
                have tr9 := trow.same x1
                refine ⟨ra, q', _, _, rfl, rfl, rd_t tr9, st_of upd_same, by simp, sz_of (by rw [List.length_map, hrowl]; show i + 1 ≤ _; omega), fun h0 => ?_, fun hn0 q2 o hq2 ho => ?_⟩
                · have hr0 : row = [] := List.map_eq_nil_iff.mp h0
                  have plg1 := x1 _ _ plg
                  refine ⟨lg, _, _, rfl, rfl, plg1, by rw [List.length_map]; exact sz_lt (by omega), ?_⟩
                  refine ⟨g1, g2, g4, g5, g6, g7, gl, (pe8.trans x1).mut hlg, ls ++ [q'], by rw [upd_same, List.map_append]; rfl, ?_⟩
                  rw [ansF_yes hok, ← List.append_assoc]
                  have nql : ∀ {c : Addr} {ns : List Int}, Tu ((upd H11 q' (.tup [.int (k : Nat)]))) c ns → Tu (upd (upd H11 q' (.tup [.int (k : Nat)])) lg (.lst (ls.map V.ref ++ [V.ref q']))) c ns := fun t => t.exT (ExT.lst plg1)
                  refine paired_snoc (Paired.mapP (pls.same x1) fun _ _ t => nql t) (nql ?_)
                  rw [hr0]
                  exact .inl upd_same
                · have x2 := ex2 (o := .frz o (.tup (row.map V.int ++ [V.int (k : Nat)]))) x1 hq2
                  have plg1 := x2 _ _ plg
                  refine ⟨lg, _, _, rfl, rfl, plg1, by rw [List.length_map]; exact sz_lt (by omega), ?_⟩
                  refine ⟨g1, g2, g4, g5, g6, g7, gl, (pe8.trans x2).mut hlg, ls ++ [q2], by rw [upd_same, List.map_append]; rfl, ?_⟩
                  rw [ansF_yes hok, ← List.append_assoc]
                  refine paired_snoc (Paired.mapP (pls.same x2) fun _ _ t => t.exT (ExT.lst plg1)) (Tu.exT (.inr ⟨o, ?_⟩) (ExT.lst plg1))
                  rw [upd_same, List.map_append]
                  rfl
              · refine ⟨false, by rw [eqv_list, decide_eq_false hne], ?_⟩
                have hok : okAns D i row k = false := by simp [okAns, hk0, hne]
                exact ⟨g1, g2, g4, g5, g6, g7, gl, pe8.trans e11, ls, e11 _ _ plg, by rw [ansF_no hok]; exact pls.same e11⟩
        · obtain ⟨f1, f2, f4, f5, f6, f7, fl, pe8, ls, plg, pls⟩ := p
          rw [Int.toNat_natCast] at pls
          exact ⟨f1, f2, f4, f5, f6, fl, pe8, ls, plg, by rw [flat_take erow]; exact pls⟩
      · clear g1 g2 g4 g5 g6 gl
        obtain ⟨g1, g2, g4, g5, g6, gl, pe8, ls, plg, pls⟩ := p
        rw [List.length_map, hal, List.take_length] at pls
        exact ⟨_, g6, by simp [g1], by simp [g2], by simp [gl], pe.trans pe8, lg, ls, by simp [gl], plg, pls⟩
    · obtain ⟨p1, p2, pl, pe, rb, as, p4, prb, pas⟩ := p
      rw [Int.toNat_natCast] at pas
      have hal := Paired.length pas
      refine ⟨_, p2, _, p4, rb, _, rfl, .inl (sq_of prb), _, _, rfl, rfl, .inl ⟨by omega, by omega⟩, ?_⟩
      have := q H4 pe
      rw [List.length_map, hal]
      exact this
end
end Kx
/-! A lambda that is kept, called by a def that got it: what it raises is met at slots of the known number. _law_refused. -/
namespace Kx
open PySem PySem.Spec PyProof.Rows L2
open LamX (CodeO TabS Tabs ExtN TabB LamS lamCx lamEnv lam_start2 run_ofS inv_table among_app codeO_ne)
open Evl (Ex ex_rd ex_l ex_t st_of sq_of sz_lt sz_of)
section
variable {X : Cx} {pins : List (Addr × Obj)} {σ : L2.St} {H : Hp} {s : Shared}
/-- x(), x the lambda, in the def that got it: Z is that def's context, entered at s -/
theorem pe_actW {CXg : CXT} {Eg : XK} {Ng : List PySem.Str} {qg : PySem.Str} {sg : Scope} {g f c' : Addr} {cdg : Value} {params : Arguments} {body : Expr} {scope : Scope} {k i : Nat} {a : PySem.Str} {pn : List (Addr × Obj)} {xe : Value → Shared → Prop} {W : WX} {E : XK} {tb : TE} {p1 p2 : Pos}
    (I : Inv X pins σ H s) (L : LamS X.env.scope scope)
    (hbind : ∀ (q : PySem.Str) (cl : List (PySem.Str × Addr)) (pm cv ctv : Value), bindArgs (PySem.W.kla_fn "<lambda>" q params body scope cl pm cv ctv) ⟨[], []⟩ = pure [])
    (tk : Takes ((cxOf CXg X.prog X.w X.K X.mg X.base Ng qg sg g cdg X.A X.stack s H Eg).tr pn xe) W) (hW : ∀ cls d (σ' : L2.St) H', σ'.length = Ng.length → E cls d H' → W cls d σ' H') (hr : Room (k + 1) (X.A.deeper (envOfC qg sg s.heap.objs.size g cdg)))
    (hbody : ∀ (A : Around) (outer : List Env) (s : Shared) (H : Hp) (f c' : Addr), Room k (A.deeper (lamEnv X scope s.heap.objs.size f c')) → PE (lamCx X A outer s H E scope f c') body tb)
    (hN : Ng[i]? = some a) (hv : Vis sg a) (hd : (a == ("__debug__" : PySem.Str)) = false := by decide) (hcd : (a == ("__classdict__" : PySem.Str)) = false := by decide) :
    PE ((cxOf CXg X.prog X.w X.K X.mg X.base Ng qg sg g cdg X.A X.stack s H Eg).tr pn xe) (.Call (.Name a p1) [] [] p2)
      (fun σZ HZ Q => σZ[i]? = some (some (.ref f)) ∧ HZ f = some (LamO X params body scope f c') ∧ HZ c' = some (CodeO c' (X.env.qual ++ "<lambda>")) ∧ tb σ HZ Q) := by
  refine ⟨fun pinsZ sZ σZ HZ Q IZ h => ?_⟩
  obtain ⟨hs, hfo, hc, ht⟩ := h
  refine wpAny_Call_Name_kw (thn ((pe_var (pos := p1) (i := i) hN hv hd hcd).run pinsZ sZ σZ HZ (fun v H1 => v = .ref f ∧ H1 = HZ) IZ ⟨.ref f, hs, rfl, rfl⟩) fun u s1 ⟨v, H1, I1, r1, q1⟩ => ?_)
  obtain ⟨ev, eH⟩ := q1
  subst ev
  rw [eH] at I1
  obtain rfl : u = Value.ref f := r1
  obtain ⟨pm, ctv, of1⟩ := lamO_get I1 hfo
  refine PySem.W.callWith_F0 ⟨_, _, _, _, of1⟩ ?_
  have un : Un (frs X.stack) [] H HZ s.heap s1.heap := I1.base
  obtain ⟨⟨oc, vs, t, hoc, hdc, hvc⟩, _, _⟩ := I1.hok c' _ hc
  have rc : codeAny (model X.prog X.w) (X.A.deeper (envOfC qg sg s.heap.objs.size g cdg)) (.call (.ref f) ⟨[], []⟩) (CR (L2.CX X.prog X.w) (envOfC qg sg s.heap.objs.size g cdg :: X.stack) X.prog X.w HZ s1 Q E) s1 := by
    refine PySem.W.kla_callFunE hr.depth of1 rfl L.co L.gen rfl ⟨c', oc, vs, t, rfl, hoc, hdc, hvc⟩ ?_
    rw [hbind]
    refine wpAny_pure (wpAny_newFunctionEnv (fun y hy => (L.own y hy).2) (fun y hy => absurd hy (by simp)) (fun h₁ hns hsb => ⟨I1.nolimit.fresh _ hsb, ?_⟩) L.kind)
    show codeAny _ _ (.expr body (lamEnv X scope s1.heap.objs.size f c')) _ _
    have kp : ∀ b o, s1.heap.get? b = some o → h₁.get? b = some o := fun b o e => hsb.extBut b o (Nat.ne_of_lt (Heap.lt_size e)) (Heap.get?_push_of_some _ e)
    have J : Inv (lamCx X (X.A.deeper (envOfC qg sg s.heap.objs.size g cdg)) (envOfC qg sg s.heap.objs.size g cdg :: X.stack) s1 HZ E scope f c') [] σ HZ { s1 with heap := h₁, toks := s1.toks + ([] : List (PySem.Str × Value)).length } :=
      lam_start2 I L I1.env0 hr.hd un hns kp
    refine PySem.W.kla_codeExpr (wpAny_mono ((hbody _ _ s1 HZ f c' (hr.deeper _)).run [] _ _ HZ Q J ht) (fun v s' hq => ?_) fun e s' hq => hq)
    obtain ⟨w', H', J', rv, q⟩ := hq
    exact ⟨w', H', J'.os, J'.bare, J'.base, J'.hok, rv, q⟩
  refine wpAny_call (codeAny_mono rc fun r s' hq => ?_)
  cases r with
  | error e => exact tk e s' (XE.of_call I1 (fun cls d H' h => hW cls d σZ H' I1.len h) hq)
  | ok fl =>
    cases fl with
    | ret u => exact I1.after hq
    | next => exact False.elim hq
    | brk => exact False.elim hq
    | cont => exact False.elim hq
/-- the def that calls what it got: TT: what it makes of the lambda's reading -/
def GivesW (X : Cx) (Ng : List PySem.Str) (x : PySem.Str) (sg : Scope) (g : Addr) (cdg : Value) (bg : List Stmt) (a : PySem.Str) (params : Arguments) (body : Expr) (scope : Scope) (TT : (XK → Hp → VK → Prop) → Hp → VK → Prop) : Prop :=
  ∀ (f c' : Addr) (s : Shared) (H : Hp) (Q : VK) (tl : XK → Hp → VK → Prop),
    (∀ (W : WX) (pn : List (Addr × Obj)) (xe : Value → Shared → Prop) (E : XK) (p1 p2 : Pos), Takes ((cxOf C8.CX0 X.prog X.w X.K X.mg X.base Ng x sg g cdg X.A X.stack s H C8.E0).tr pn xe) W → (∀ cls d (σ' : L2.St) H', σ'.length = Ng.length → E cls d H' → W cls d σ' H') →
      PE ((cxOf C8.CX0 X.prog X.w X.K X.mg X.base Ng x sg g cdg X.A X.stack s H C8.E0).tr pn xe) (.Call (.Name a p1) [] [] p2) (fun σZ HZ Q => σZ[0]? = some (some (.ref f)) ∧ HZ f = some (LamO X params body scope f c') ∧ HZ c' = some (CodeO c' (X.env.qual ++ "<lambda>")) ∧ tl E HZ Q)) →
    H f = some (LamO X params body scope f c') → H c' = some (CodeO c' (X.env.qual ++ "<lambda>")) → TT tl H Q →
    ∃ t, PSs (cxOf C8.CX0 X.prog X.w X.K X.mg X.base Ng x sg g cdg X.A X.stack s H C8.E0).nox bg t ∧ t { nx := fun _ H' => Q .non H', rt := Q } (L2.start Ng [.ref f]) H
/-- x(v), v such a lambda -/
def tLamW (X : Cx) (params : Arguments) (body : Expr) (scope : Scope) (TT : (XK → Hp → VK → Prop) → Hp → VK → Prop) (t : XK → TE) (ta : TA) : TE := fun σ H Q => ta σ H fun vs H1 => ∃ f c', vs = [.ref f] ∧ H1 f = some (LamO X params body scope f c') ∧ H1 c' = some (CodeO c' (X.env.qual ++ "<lambda>")) ∧ TT (fun E H' Q' => t E σ H' Q') H1 Q
theorem pe_lamW {TT : (XK → Hp → VK → Prop) → Hp → VK → Prop} {x a : PySem.Str} {g : Addr} {k : Nat} {pg : Arguments} {bg : List Stmt} {sg : Scope} {dV kV doc pm cdv ct oc : Value} {an od : Option Addr} {osl : Array (Option Value)} {Ng : List PySem.Str}
    {params : Arguments} {body e : Expr} {scope : Scope} {t : XK → TE} {ta : TA} {p pos : Pos} (hg : Gl X x) (hm : X.mg x = some (.ref g)) (hk : PySem.W.keepIn X.K (.ref g) = true)
    (lk : X.K.lookup g = some ⟨oc, od, .func (PySem.W.fnOf x x pg bg sg dV kV doc pm an cdv ct), osl⟩) (hcg : PySem.W.codeIn X.K cdv x = true) (hb : L2.Binds X.K (PySem.W.fnOf x x pg bg sg dV kV doc pm an cdv ct) [a] []) (Sg : FnScope Ng [a] sg) (hNg : Ng[0]? = some a) (hva : Vis sg a)
    (hG : GivesW X Ng x sg g cdv bg a params body scope TT)
    (ha : PA X [e] ta) (hr : Room (k + 2) X.A) (L : LamS X.env.scope scope)
    (hbind : ∀ (q : PySem.Str) (cl : List (PySem.Str × Addr)) (pm cv ctv : Value), bindArgs (PySem.W.kla_fn "<lambda>" q params body scope cl pm cv ctv) ⟨[], []⟩ = pure [])
    (hbody : ∀ (A : Around) (outer : List Env) (s : Shared) (H : Hp) (E : XK) (f c' : Addr), Room k (A.deeper (lamEnv X scope s.heap.objs.size f c')) → PE (lamCx X A outer s H E scope f c') body (t E))
    (hdb : (x == ("__debug__" : PySem.Str)) = false := by decide) (hd : (a == ("__debug__" : PySem.Str)) = false := by decide) (hcd : (a == ("__classdict__" : PySem.Str)) = false := by decide)
    (he : starEach (e :: []) X.env = (false, eval e X.env) :: starEach [] X.env := by rfl) (hpl : (backTo pos (starEach [] X.env)).any (·.1) = false := by rfl) :
    PE X (.Call (.Name x p) [e] [] pos) (tLamW X params body scope TT t ta) := by
  refine ⟨fun pins s σ H Q I h => ?_⟩
  refine wpAny_Call_Name_kw (ld_glob I hg hm ?_ hdb)
  refine PySem.W.callWith_K (h₀ := X.base) I.ok.mod.kin hk (thn (ha.run pos pins s σ H _ I h) fun us s' hh => ?_) he hpl
  obtain ⟨vs, H1, I1, r1, f, c', rfl, hfo, hco, q1⟩ := hh
  refine ⟨I1.kIn, ?_⟩
  obtain ⟨u, rfl, rx⟩ := vals1 r1
  obtain rfl : u = Value.ref f := rx
  have rc : codeAny (model X.prog X.w) X.A (.call (.ref g) ⟨[.ref f], []⟩) (CR C8.CX0 X.stack X.prog X.w H1 s' Q C8.E0) s' := by
    refine run_ofS (N := Ng) (ps := [a]) (us := [.ref f]) (vs := [.ref f]) lk hcg Sg hr I1.env0 (hb s' [.ref f] I1.kIn rfl) (.cons rfl .nil) rfl fun hr' => ?_
    obtain ⟨t', ht', hq'⟩ := hG f c' s' H1 Q (fun E H' Q' => t E σ H' Q') (fun W pn xe E p1 p2 tk hW => pe_actW (i := 0) I1 L hbind tk hW hr' (fun A outer s H f c' hr2 => hbody A outer s H E f c' hr2) hNg hva hd hcd) hfo hco q1
    exact ⟨t', ht'.nox, hq'⟩
  refine wpAny_call (codeAny_mono rc fun r s2 hq => ?_)
  cases r with
  | error e => exact (show False from hq).elim
  | ok fl =>
    cases fl with
    | ret u => exact I1.after hq
    | next => exact False.elim hq
    | brk => exact False.elim hq
    | cont => exact False.elim hq
end
section
variable {X : Cx} {A : Ads}
theorem sc76 : FnScope ["_law_work", "error"] ["_law_work"] (defScope (topS 76)) := ⟨rfl, rfl, rfl, by decide +kernel, rfl, by decide +kernel, by decide +kernel⟩
/- slots: 0 _law_work, 1 error -/
/-- what _law_refused makes of what is raised -/
def RefE (A : Ads) (Q : VK) : XK := fun cls d H' => ∃ (tag : PySem.Str) (v : V), ((cls = .ref A.eHouse ∧ tag = "house" ∧ ∃ dd, d = some dd ∧ H' dd = some (.xd [("at", v)])) ∨ (cls = .ref A.eQuestion ∧ tag = "question" ∧ ∃ dd, d = some dd ∧ H' dd = some (.xd [("at", v)])) ∨
  (cls = .ref A.eRefused ∧ tag = "refused" ∧ ∃ dd, d = some dd ∧ H' dd = some (.xd [("at", v)])) ∨ (cls = .ref A.eSize ∧ tag = "size" ∧ ∃ dd, d = some dd ∧ H' dd = some (.xd [("word", v)]))) ∧ ∀ p, H' p = none → Q (.ref p) (upd H' p (.tup [.str tag, v]))
def refTT (A : Ads) : (XK → Hp → VK → Prop) → Hp → VK → Prop := fun tl H Q => ∀ (E : XK) (Q' : VK), (∀ cls d H', RefE A Q cls d H' → E cls d H') → tl E H Q'
theorem gives_refused (T : Txt X.prog X.K X.mg A) {g : Addr} {cdv : Value} {params : Arguments} {body : Expr} {scope : Scope} : GivesW X ["_law_work", "error"] "_law_refused" (defScope (topS 76)) g cdv (defBody (topS 76)) "_law_work" params body scope (refTT A) := by
  intro f c' s H Q tl act hf hc h
  refine ⟨_, pss_cons (ps_try_manyN (X := (cxOf C8.CX0 X.prog X.w X.K X.mg X.base ["_law_work", "error"] "_law_refused" (defScope (topS 76)) g cdv X.A X.stack s H C8.E0).nox) (Wout := fun _ _ _ _ => False)
      (tb := fun W D σ H => ∃ Ech : XK, (∀ cls d (σ' : L2.St) H', σ'.length = 2 → Ech cls d H' → W cls d σ' H') ∧ σ[0]? = some (some (.ref f)) ∧ H f = some (LamO X params body scope f c') ∧ H c' = some (CodeO c' (X.env.qual ++ "<lambda>")) ∧ tl Ech H (fun _ H' => D.nx σ H'))
      rfl rfl sc76.nd LamX.takes0 (fun W pn xe tk _ => ?_)
      (.consN (i := 1) rfl rfl ⟨by rfl, by decide, .inl T.InvalidHouse.gC⟩ (fun a oe cls d pn hz hfs => pss_one (ps_ret (pe_tup (pa_cons pe_str (pa_cons (pe_atOw T.InvalidHouse hz hfs (pv 1)) pa_nil)))))
      (.consN (i := 1) rfl rfl ⟨by rfl, by decide, .inl T.InvalidLot⟩ (fun a oe cls d pn hz hfs => pss_one ps_never)
      (.consN (i := 1) rfl rfl ⟨by rfl, by decide, .inl T.InvalidQuestion.gC⟩ (fun a oe cls d pn hz hfs => pss_one (ps_ret (pe_tup (pa_cons pe_str (pa_cons (pe_atOw T.InvalidQuestion hz hfs (pv 1)) pa_nil)))))
      (.consN (i := 1) rfl rfl ⟨by rfl, by decide, .inl T.Refused.gC⟩ (fun a oe cls d pn hz hfs => pss_one (ps_ret (pe_tup (pa_cons pe_str (pa_cons (pe_atOw T.Refused hz hfs (pv 1)) pa_nil)))))
      (.consN (i := 1) rfl rfl ⟨by rfl, by decide, .inl T.InvalidSize.gC⟩ (fun a oe cls d pn hz hfs => pss_one (ps_ret (pe_tup (pa_cons pe_str (pa_cons (pe_atOw T.InvalidSize hz hfs (pv 1)) pa_nil)))))
      (.cons ⟨by rfl, by decide, .inl T.HouseError⟩ (fun a oe cls d pn hz hfs => pss_one ps_never) .nil))))))) (pss_one (ps_ret (pe_tup (pa_cons pe_str pa_nil)))), ?_⟩
  · refine ⟨fun pins s' σ H' D I h' => ?_⟩
    obtain ⟨Ech, hW, h1, h2, h3, h4⟩ := h'
    refine PSs.run (t := tDrop fun σZ HZ Q => σZ[0]? = some (some (V.ref f)) ∧ HZ f = some (LamO X params body scope f c') ∧ HZ c' = some (CodeO c' (X.env.qual ++ "<lambda>")) ∧ tl Ech HZ Q) ?_ pins s' σ H' D I ⟨h1, h2, h3, h4⟩
    exact pss_one (ps_expr (act W pn xe Ech _ _ tk hW))
  · refine st_seq ?_
    refine ⟨RefE A Q, fun cls d σ' H' hl hE => ?_, rfl, hf, hc, h _ _ (fun _ _ _ z => z)⟩
    have hs1 : ∀ a : Addr, (σ'.set 1 (some (V.ref a)))[1]? = some (some (.ref a)) := fun a => by simp [hl]
    obtain ⟨tag, v, hcase, hq⟩ := hE
    rcases hcase with ⟨rfl, rfl, dd, rfl, hd⟩ | ⟨rfl, rfl, dd, rfl, hd⟩ | ⟨rfl, rfl, dd, rfl, hd⟩ | ⟨rfl, rfl, dd, rfl, hd⟩
    · exact ⟨true, T.exHH, fun _ a ha => ⟨_, hs1 a, rfl, rfl, dd, v, rfl, hd, (by decide : 2 ≤ sizeLine), fun p hp => hq p hp⟩, fun z => nomatch z⟩
    · exact ⟨false, T.exQH, fun z => (nomatch z), fun _ => ⟨false, T.exQL, fun z => (nomatch z), fun _ => ⟨true, T.exQQ, fun _ a ha => ⟨_, hs1 a, rfl, rfl, dd, v, rfl, hd, (by decide : 2 ≤ sizeLine), fun p hp => hq p hp⟩, fun z => nomatch z⟩⟩⟩
    · exact ⟨false, T.exRH, fun z => (nomatch z), fun _ => ⟨false, T.exRL, fun z => (nomatch z), fun _ => ⟨false, T.exRQ, fun z => (nomatch z), fun _ => ⟨true, T.exRR, fun _ a ha => ⟨_, hs1 a, rfl, rfl, dd, v, rfl, hd, (by decide : 2 ≤ sizeLine), fun p hp => hq p hp⟩, fun z => nomatch z⟩⟩⟩⟩
    · exact ⟨false, T.exSH, fun z => (nomatch z), fun _ => ⟨false, T.exSL, fun z => (nomatch z), fun _ => ⟨false, T.exSQ, fun z => (nomatch z), fun _ => ⟨false, T.exSR, fun z => (nomatch z), fun _ => ⟨true, T.exSS, fun _ a ha => ⟨_, hs1 a, rfl, rfl, dd, v, rfl, hd, (by decide : 2 ≤ sizeLine), fun p hp => hq p hp⟩, fun z => nomatch z⟩⟩⟩⟩⟩
end
end Kx
/-! _law_refusals. -/
namespace Kx
open PySem PySem.Spec PyProof.Rows L2
open LamX (CodeO TabS Tabs ExtN TabB LamS lamCx lamEnv)
open Evl (Ex ex_rd ex_l ex_t st_of sq_of sz_lt sz_of)
/-- a def whose code object is known -/
structure GdefC (K : PySem.W.Frag) (mg : PySem.Str → Option Value) (x : PySem.Str) (st : Stmt) (c : Addr) : Prop where
  ex : ∃ (f : Addr) (fd : FuncData), mg x = some (.ref f) ∧ FunD K x x (defArgs st) (defBody st) (defScope st) [] [] f fd ∧ fd.code = .ref c
theorem GdefC.ok0 {P : Program} {w : World} {K : PySem.W.Frag} {mg : PySem.Str → Option Value} {base : Heap} {x : PySem.Str} {st : Stmt} {c : Addr} {N ps : List PySem.Str} {k : Nat} {sp : Sp} (G : GdefC K mg x st c) (S : FnScope N ps (defScope st)) (len : ∀ vs H Q E, sp vs H Q E → vs.length = ps.length)
    (hb : ∀ (kV doc pm : Value) (an : Option Addr) (cdv ct : Value) (us : List Value), us.length = ps.length → bindArgs (PySem.W.fnOf x x (defArgs st) (defBody st) (defScope st) .none kV doc pm an cdv ct) ⟨us, []⟩ = pure (ps.zip us))
    (hbody : ∀ (f : Addr) (A : Around) (outer : List Env) (s : Shared) (H : Hp) (vs : List V) (Q : VK) (E : XK), Room k (A.deeper (envOfC x (defScope st) s.heap.objs.size f (.ref c))) → sp vs H Q E →
      ∃ t, PSs (cxOf CX0 P w K mg base N x (defScope st) f (.ref c) A outer s H E).nox (defBody st) t ∧ t { nx := fun _ H' => Q .non H', rt := Q } (start N vs) H) : DOk P w K mg base CX0 (k + 1) x ps [] sp := by
  obtain ⟨f, fd, a, F, hc⟩ := G.ex
  obtain ⟨oc, od, dV, kV, doc, pm, an, cdv, ct, osl, e, lk, hcd, _, _⟩ := id F.ex
  subst e
  have hc : cdv = .ref c := hc
  subst hc
  refine ⟨f, _, [], a, F.kp, F.bindsN hb, .nil, fn_of lk hcd S len fun A outer s H vs Q E hr h => ?_, ⟨_, _, _, lk⟩⟩
  obtain ⟨t, h1, h2⟩ := hbody f A outer s H vs Q E hr h
  exact ⟨t, h1.nox, h2⟩
structure TxtL (P : Program) (K : PySem.W.Frag) (mg : PySem.Str → Option Value) (A : Ads) : Prop extends Txt P K mg A where
  _law_refusals : GdefC K mg "_law_refusals" (topS 78) A.code
  law : Gdef K mg "law" (topS 79) []
abbrev lamQ : PySem.Str := ("_law_refusals" : PySem.Str) ++ ".<locals>." ++ "<lambda>"
abbrev lamT (A : Ads) : List (Addr × PySem.Str) := [(A.table, lamQ)]
/-! the lambdas' texts -/
def refS (i : Nat) : Stmt := (defBody (topS 78)).getD i (.Pass ⟨0, 0, 0, 0⟩)
def firstOf : Expr → Expr
  | .Tuple (l :: _) _ _ => l
  | e => e
def lamE : Stmt → Expr
  | .Assign _ (.List (t :: _) _) _ => firstOf t
  | .Expr (.Call _ (t :: _) _ _) _ => firstOf t
  | _ => .Name "x" ⟨0, 0, 0, 0⟩
def lamP (i : Nat) : Arguments := match lamE (refS (i + 2)) with
  | .Lambda p _ _ _ => p
  | _ => defArgs (topS 78)
def lamB (i : Nat) : Expr := match lamE (refS (i + 2)) with
  | .Lambda _ b _ _ => b
  | e => e
def lamSc (i : Nat) : Scope := match lamE (refS (i + 2)) with
  | .Lambda _ _ s _ => s
  | _ => defScope (topS 78)
/-- a case: its lambda, what it is to tell -/
structure Case where
  k : Nat
  tag : PySem.Str
  v : V
def cases9 (n : Nat) : List Case := [⟨0, "refused", .str "gates"⟩, ⟨1, "refused", .str "gates"⟩, ⟨2, "refused", .str "many"⟩, ⟨3, "refused", .str "many"⟩, ⟨4, "house", .int (-1)⟩, ⟨5, "house", .int 2⟩, ⟨6, "question", .int (-1)⟩, ⟨7, "question", .int n⟩, ⟨8, "size", .str "answers"⟩]
structure WkAt (X : Cx) (H : Hp) (w : Addr) (it : Case) : Prop where
  ex : ∃ f c' due, H w = some (.tup [.ref f, .ref due]) ∧ H f = some (LamO X (lamP it.k) (lamB it.k) (lamSc it.k) f c') ∧ H c' = some (CodeO c' (X.env.qual ++ "<lambda>")) ∧ H due = some (.tup [.str it.tag, it.v])
/-- all but tables and the list at wk stay -/
def ExW (wk : Addr) (H H' : Hp) : Prop := ∀ b o, b ≠ wk → H b = some o → (∀ ps, o ≠ .tbl ps) → H' b = some o
theorem ExW.refl {wk : Addr} {H : Hp} : ExW wk H H := fun _ _ _ h _ => h
theorem ExW.trans {wk : Addr} {H H1 H2 : Hp} (a : ExW wk H H1) (b : ExW wk H1 H2) : ExW wk H H2 := fun c o n h t => b c o n (a c o n h t) t
theorem ExW.ofN {wk : Addr} {H H' : Hp} (e : ExtN H H') : ExW wk H H' := fun c o _ h t => e c o h t
theorem ExW.of {wk : Addr} {H H' : Hp} (e : Ex H H') : ExW wk H H' := fun c o _ h _ => e c o h
theorem ExW.upd {wk : Addr} {H : Hp} {o : HO} : ExW wk H (upd H wk o) := fun c u n h _ => by rw [upd_ne n]; exact h
structure Wks (X : Cx) (H : Hp) (wk : Addr) (L : List Case) : Prop where
  ex : ∃ ws : List Addr, H wk = some (.lst (ws.map V.ref)) ∧ Paired (WkAt X H) ws L ∧ L.length ≤ 50
theorem codeO_ext {c : Addr} {q : PySem.Str} : ∃ φ, CodeO c q = .ext φ := ⟨_, rfl⟩
theorem lamO_ext {X : Cx} {p : Arguments} {b : Expr} {s : Scope} {f c : Addr} : ∃ φ, LamO X p b s f c = .ext φ := ⟨_, rfl⟩
theorem WkAt.keep {X : Cx} {H H' : Hp} {w wk : Addr} {it : Case} {xs : List V} (h : WkAt X H w it) (hw : H wk = some (.lst xs)) (e : ExW wk H H') : WkAt X H' w it := by
  obtain ⟨f, c', due, h1, h2, h3, h4⟩ := h.ex
  have ne : ∀ {b : Addr} {o : HO}, H b = some o → (∀ ys, o ≠ .lst ys) → b ≠ wk := fun {b o} hb hn z => by
    rw [z, hw] at hb
    exact hn _ (Option.some.inj hb).symm
  obtain ⟨φ, e1⟩ := lamO_ext (X := X) (p := lamP it.k) (b := lamB it.k) (s := lamSc it.k) (f := f) (c := c')
  obtain ⟨ψ, e2⟩ := codeO_ext (c := c') (q := X.env.qual ++ "<lambda>")
  exact ⟨f, c', due, e _ _ (ne h1 fun _ z => (nomatch z)) h1 (fun _ z => nomatch z), e _ _ (ne h2 fun _ z => (by rw [e1] at z; cases z)) h2 (fun _ z => by rw [e1] at z; cases z),
    e _ _ (ne h3 fun _ z => (by rw [e2] at z; cases z)) h3 (fun _ z => by rw [e2] at z; cases z), e _ _ (ne h4 fun _ z => (nomatch z)) h4 (fun _ z => nomatch z)⟩
theorem Wks.snoc {X : Cx} {H H' : Hp} {wk w : Addr} {L : List Case} {it : Case} (h : Wks X H wk L) (hl : L.length < 50) (e : ExW wk H H') (hw : ∀ ws : List Addr, H wk = some (.lst (ws.map V.ref)) → H' wk = some (.lst ((ws ++ [w]).map V.ref))) (hi : WkAt X H' w it) : Wks X H' wk (L ++ [it]) := by
  obtain ⟨ws, h1, h2, _⟩ := h.ex
  exact ⟨ws ++ [w], hw ws h1, paired_snoc (Paired.mapP h2 fun _ _ z => z.keep h1 e) hi, by rw [List.length_append]; exact hl⟩
theorem tabs_ex {T : List (Addr × PySem.Str)} {H H' : Hp} (t : Tabs T H) (e : Ex H H') : Tabs T H' := t.ext e
/-- a table is no list -/
theorem tabs_keep {T : List (Addr × PySem.Str)} {H : Hp} {wk : Addr} {xs ys : List V} (t : Tabs T H) (hw : H wk = some (.lst xs)) : Tabs T (upd H wk (.lst ys)) := fun p hp => by
  obtain ⟨ps, h1, h2, h3⟩ := t p hp
  have ne : ∀ {b : Addr} {o : HO}, H b = some o → (∀ ys, o ≠ .lst ys) → b ≠ wk := fun {b o} hb hn z => by
    rw [z, hw] at hb
    exact hn _ (Option.some.inj hb).symm
  refine ⟨ps, by rw [upd_ne (ne h1 fun _ z => nomatch z)]; exact h1, h2, fun pos cv hc => ?_⟩
  obtain ⟨c, e1, e2⟩ := h3 pos cv hc
  obtain ⟨ψ, e3⟩ := codeO_ext (c := c) (q := p.2)
  exact ⟨c, e1, by rw [upd_ne (ne e2 fun _ z => by rw [e3] at z; cases z)]; exact e2⟩
section
variable {X : Cx} {T : List (Addr × PySem.Str)} {D : Ends} {σ : L2.St} {H : Hp} {K : PySem.W.Frag} {wk : Addr}
/-- (lambda, (tag, v)) -/
theorem pair_read {k : Nat} {tag : PySem.Str} {v : V} {tv : TE} {Q : List V → Hp → Prop} (hT : Tabs T H) (hv : ∀ (H : Hp) (Q : VK), Q v H → tv σ H Q)
    (q : ∀ (w : Addr) (H' : Hp), ExtN H H' → Tabs T H' → WkAt X H' w ⟨k, tag, v⟩ → Q [.ref w] H') :
    tCons (tTup (tCons (tLamM X T (lamP k) (lamB k) (lamSc k)) (tCons (tTup (tCons (tC (.str tag)) (tCons tv tNil))) tNil))) tNil σ H Q := by
  refine ⟨hT, fun f c' H1 eN hT1 nf hc' => ?_⟩
  refine hv _ _ ⟨(by decide : 2 ≤ sizeLine), fun due hdue => ⟨(by decide : 2 ≤ sizeLine), fun w hw => ?_⟩⟩
  have x1 : Ex H1 (upd H1 f (LamO X (lamP k) (lamB k) (lamSc k) f c')) := Ex.new nf
  have x2 := Ex.new (o := .tup [.str tag, v]) hdue
  have x3 := Ex.new (o := .tup [.ref f, .ref due]) hw
  have xx := (x1.trans x2).trans x3
  have eT : ∀ b o, H b = some o → (∀ ps, o ≠ .tbl ps) → (upd (upd (upd H1 f (LamO X (lamP k) (lamB k) (lamSc k) f c')) due (.tup [.str tag, v])) w (.tup [.ref f, .ref due])) b = some o := fun b o h n => xx _ _ (eN b o h n)
  refine q w _ eT (hT1.ext xx) ⟨f, c', due, upd_same, x3 _ _ (x2 _ _ upd_same), xx _ _ hc', x3 _ _ upd_same⟩
/-- wk.append((lambda, (tag, v))) -/
theorem app_read {i k : Nat} {tag : PySem.Str} {v : V} {tv : TE} {L : List Case} (hs : σ[i]? = some (some (.ref wk))) (W : Wks X H wk L) (hl : L.length < 50) (hT : Tabs T H) (hv : ∀ (H : Hp) (Q : VK), Q v H → tv σ H Q)
    (q : ∀ H' : Hp, ExW wk H H' → Tabs T H' → Wks X H' wk (L ++ [⟨k, tag, v⟩]) → D.nx σ H') :
    tDrop (tBM K "list" rAppend (tVar i) (tCons (tTup (tCons (tLamM X T (lamP k) (lamB k) (lamSc k)) (tCons (tTup (tCons (tC (.str tag)) (tCons tv tNil))) tNil))) tNil)) D σ H := by
  obtain ⟨ws, h1, h2, h3⟩ := id W.ex
  refine ⟨_, hs, tyL (sq_of h1), pair_read hT hv fun w H' eN hT' hw => ?_⟩
  have h1' := eN _ _ h1 fun _ z => nomatch z
  have hwl : ws.length < 50 := by rw [Paired.length h2]; exact hl
  refine ⟨wk, _, _, rfl, rfl, h1', by rw [List.length_map]; exact sz_lt (by omega), ?_⟩
  refine q _ ((ExW.ofN eN).trans .upd) (tabs_keep hT' h1') (W.snoc hl ((ExW.ofN eN).trans .upd) (fun ws' hws' => ?_) (hw.keep h1' .upd))
  rw [h1] at hws'
  have e : ws.map V.ref = ws'.map V.ref := HO.lst.inj (Option.some.inj hws')
  rw [upd_same, List.map_append, ← e]
  rfl
/-- two readings of one expression -/
theorem pe_or2 {e : Expr} {t u : TE} (h : PE X e t) (h' : PE X e u) : PE X e (fun σ H Q => t σ H Q ∨ u σ H Q) := ⟨fun pins s σ H Q I q => q.elim (h.run pins s σ H Q I) (h'.run pins s σ H Q I)⟩
end
end Kx
namespace Kx
open PySem PySem.Spec PyProof.Rows L2
open LamX (CodeO TabS Tabs ExtN TabB LamS lamCx lamEnv)
open Evl (Ex ex_rd ex_l ex_t st_of sq_of sz_lt sz_of)
theorem Rd.extN {H H' : Hp} {a : Addr} {u : HO} (h : Rd H a u) (e : ExtN H H') (n : ∀ ps, u ≠ .tbl ps) : Rd H' a u := h.imp (fun h => e _ _ h n) fun ⟨o, h⟩ => ⟨o, e _ _ h fun _ z => nomatch z⟩
theorem Tu.extN {H H' : Hp} {a : Addr} {ns : List Int} (h : Tu H a ns) (e : ExtN H H') : Tu H' a ns := Rd.extN h e fun _ z => nomatch z
theorem Tus.extN {H H' : Hp} {as : List Addr} {nss : List (List Int)} (h : Tus H as nss) (e : ExtN H H') : Tus H' as nss := Paired.mapP h fun _ _ t => t.extN e
theorem PtyAt.extN {H H' : Hp} {p d g : Addr} {ds : List Addr} {n : Nat} {D : List (List Int)} {m : Int} {G : List Int} (h : PtyAt H p d g ds n D m G) (e : ExtN H H') : PtyAt H' p d g ds n D m G :=
  ⟨Rd.extN h.at_ e (fun _ z => nomatch z), ⟨Rd.extN h.ds.1 e (fun _ z => nomatch z), h.ds.2.extN e⟩, h.gs.extN e⟩
theorem PtyAt.exT {H H' : Hp} {p d g : Addr} {ds : List Addr} {n : Nat} {D : List (List Int)} {m : Int} {G : List Int} (h : PtyAt H p d g ds n D m G) (e : ExT H H') : PtyAt H' p d g ds n D m G :=
  ⟨Rd.exT h.at_ e (fun _ z => nomatch z), ⟨Rd.exT h.ds.1 e (fun _ z => nomatch z), h.ds.2.exT e⟩, h.gs.exT e⟩
theorem WkAt.exT {X : Cx} {H H' : Hp} {w : Addr} {it : Case} (h : WkAt X H w it) (e : ExT H H') : WkAt X H' w it := by
  obtain ⟨f, c', due, h1, h2, h3, h4⟩ := h.ex
  obtain ⟨φ, e1⟩ := lamO_ext (X := X) (p := lamP it.k) (b := lamB it.k) (s := lamSc it.k) (f := f) (c := c')
  obtain ⟨ψ, e2⟩ := codeO_ext (c := c') (q := X.env.qual ++ "<lambda>")
  exact ⟨f, c', due, e _ _ h1 (fun _ z => nomatch z), e _ _ h2 (fun _ z => by rw [e1] at z; cases z), e _ _ h3 (fun _ z => by rw [e2] at z; cases z), e _ _ h4 (fun _ z => nomatch z)⟩
theorem ExW.newN {wk : Addr} {H H' : Hp} (e : ExW wk H H') (h : H wk = none) : ExtN H H' := fun b o hb n => e b o (ne_of_none hb h) hb n
theorem shaped2S {tag x : PySem.Str} (ht : PyData.strOk tag = true) (hx : PyData.strOk x = true) : SeqAt.shaped (.tuple [.str tag, .str x]) = true := shaped_of (by simp [PyData.canLay0, PyData.canLayAll0, ht, hx]) (by simp [PyData.depth, PyData.depthAll])
theorem shaped2I {tag : PySem.Str} (ht : PyData.strOk tag = true) (i : Int) : SeqAt.shaped (.tuple [.str tag, .int i]) = true := shaped_of (by simp [PyData.canLay0, PyData.canLayAll0, ht]) (by simp [PyData.depth, PyData.depthAll])
inductive Sm : V → PyData → Prop
  | str (x : PySem.Str) (h : PyData.strOk x = true) : Sm (.str x) (.str x)
  | int (i : Int) : Sm (.int i) (.int i)
theorem Sm.dp {v : V} {d : PyData} (h : Sm v d) (K : PySem.W.Frag) (H : Hp) : Dp K H v d := by
  cases h with
  | str x => exact .str x
  | int i => exact .int i
theorem Sm.shaped {v : V} {d : PyData} (h : Sm v d) {tag : PySem.Str} (ht : PyData.strOk tag = true) : SeqAt.shaped (.tuple [.str tag, d]) = true := by
  cases h with
  | str x hx => exact shaped2S ht hx
  | int i => exact shaped2I ht i
theorem fin_eq {K : PySem.W.Frag} {H : Hp} {p due : Addr} {tag : PySem.Str} {v : V} {dv : PyData} {σ : L2.St} {i : Nat} {Q : VK} (ht : PyData.strOk tag = true) (hs : Sm v dv) (hd : H due = some (.tup [.str tag, v])) (hp : H p = none) (s11 : σ[i]? = some (some (.ref due))) (q : ∀ H', Q (.bl true) H') :
    tVar i σ (upd H p (.tup [.str tag, v])) fun y H2 => rEqD K (.ref p) y H2 Q := by
  have hsh := hs.shaped ht
  have hl : (PyData.tuple [.str tag, dv]).canLay0 = true := by
    have : ((PyData.tuple [.str tag, dv]).canLay0 && decide ((PyData.tuple [.str tag, dv]).depth ≤ 64)) = true := hsh
    rw [Bool.and_eq_true] at this
    exact this.1
  refine ⟨_, s11, .tuple [.str tag, dv], .tuple [.str tag, dv], .tup (st_of upd_same) (.cons (.str _) (.cons (hs.dp _ _) .nil)), .tup (st_of ((Ex.new hp) _ _ hd)) (.cons (.str _) (.cons (hs.dp _ _) .nil)), hsh, hsh, ?_⟩
  rw [SeqAt.eqv_refl _ hl]
  exact q _
section
variable {P : Program} {w : World} {K : PySem.W.Frag} {mg : PySem.Str → Option Value} {base : Heap} {A : Ads}
structure spRefusals (A : Ads) (vs : List V) (H : Hp) (Q : VK) (E : XK) : Prop where
  ex : ∃ (da la p d g b : Addr) (ds : List Addr) (n : Nat) (D : List (List Int)) (G ms : List Int), vs = [.ref da, .ref p, .ref b] ∧ Deal H da la ∧ PtyAt H p d g ds n D 1 G ∧ PtyOk n D G ∧ G ≠ [] ∧ H b = some (.lst (ms.map V.int)) ∧ ms.length = n + 1 ∧ (∀ m ∈ ms, 0 ≤ m) ∧ b ≠ da ∧ b ≠ la ∧
    H A.table = some (.tbl #[]) ∧ ∀ H', Q (.bl true) H'
theorem sc78 : FnScope ["_law_deal", "_law_party", "_law_answers", "_law_rooms", "_law_doors_here", "_law_many", "_law_gates", "_law_closed", "_law_more", "_law_works", "_law_work", "_law_due"] ["_law_deal", "_law_party", "_law_answers"] (defScope (topS 78)) := ⟨rfl, rfl, rfl, by decide +kernel, rfl, by decide +kernel, by decide +kernel⟩
/- slots: 0 _law_deal, 1 _law_party, 2 _law_answers, 3 _law_rooms, 4 _law_doors_here, 5 _law_many, 6 _law_gates, 7 _law_closed, 8 _law_more, 9 _law_works, 10 _law_work, 11 _law_due -/
theorem ok_law_refusals (T : TxtL P K mg A) (TB : TabB base mg A.code A.table) : DOk P w K mg base CX0 12 "_law_refusals" ["_law_deal", "_law_party", "_law_answers"] [] (spRefusals A) := by
  have D_one_fault := (ok_one_fault (P := P) (w := w) (base := base) T.toTxt)
  have D_count_one := (ok_count_one (P := P) (w := w) (base := base) T.toTxt).mono (by decide : 7 ≤ 9)
  have D__law_of := (ok_law_of (P := P) (w := w) (base := base) T.toTxt).mono (by decide : 2 ≤ 11)
  have D__law_of9 := (ok_law_of (P := P) (w := w) (base := base) T.toTxt).mono (by decide : 2 ≤ 9)
  obtain ⟨gR, fdR, hmR, FR⟩ := T._law_refused.ex
  obtain ⟨ocR, odR, dVR, kVR, docR, pmR, anR, cdR, ctR, oslR, eR, lkR, hcR, _, _⟩ := id FR.ex
  subst eR
  have hkR := FR.kp
  have hbR := FR.bindsN (ps := ["_law_work"]) (fun _ _ _ _ _ _ us hl => match us, hl with | [_], _ => rfl)
  refine T._law_refusals.ok0 sc78 (fun vs H Q E h => ?_) (fun _ _ _ _ _ _ us hl => match us, hl with | [_, _, _], _ => rfl) (fun f A' outer s H vs Q E hr h => ?_)
  · obtain ⟨da, la, p, d, g, b, ds, n, D, G, ms, rfl, _⟩ := h
    rfl
  · obtain ⟨da, la, p, d, g, b, ds, n, D, G, ms, rfl, hdl, hp, hok, hG, hb, hml, hms, nba, nbl, htab, q⟩ := h
    have h2 := hok.n2
    have h6 := hok.n6
    refine ⟨_, (pss_cons (ps_asg (pv 1) (kTgt (K := K) (n := 4) rfl rfl (pgs_cons (pg_name (i := 3) sc78.nd rfl (Or.inr rfl)) (pgs_cons (pg_name (i := 4) sc78.nd rfl (Or.inr rfl)) (pgs_cons (pg_name (i := 5) sc78.nd rfl (Or.inl rfl)) (pgs_cons (pg_name (i := 6) sc78.nd rfl (Or.inl rfl)) pgs_nil)))) rfl rfl))
      (pss_cons (ps_asg (pe_tup (pa_cons (pe_tup (pa_cons (pv 3) (pa_cons (pv 4) (pa_cons pe_int (pa_cons (pe_tup pa_nil) pa_nil))))) (pa_cons (pe_tup (pa_cons (pv 3) (pa_cons (pv 4) (pa_cons pe_int (pa_cons (pv 6) pa_nil))))) pa_nil))) (kTgt (K := K) (n := 2) rfl rfl (pgs_cons (pg_name (i := 7) sc78.nd rfl (Or.inr rfl)) (pgs_cons (pg_name (i := 8) sc78.nd rfl (Or.inr rfl)) pgs_nil)) rfl rfl))
      (pss_cons (ps_set (i := 9) sc78.nd rfl (Or.inl rfl) (pe_lst (pa_cons (pe_tup (pa_cons (pe_lam (T := lamT A) TB rfl (List.mem_singleton.mpr rfl) (fun p hp _ => by rw [List.mem_singleton.mp hp]; rfl) (LamX.lamS_by (by rfl))) (pa_cons (pe_tup (pa_cons pe_str (pa_cons pe_str pa_nil))) pa_nil))) pa_nil)))
      (pss_cons (ps_expr (kBM (K := K) rfl PySem.F.plainAttrs_list PySem.F.slot_list_append PySem.F.type_list_append mt_append (pv 9) (pa_cons (pe_tup (pa_cons (pe_lam (T := lamT A) TB rfl (List.mem_singleton.mpr rfl) (fun p hp _ => by rw [List.mem_singleton.mp hp]; rfl) (LamX.lamS_by (by rfl))) (pa_cons (pe_tup (pa_cons pe_str (pa_cons pe_str pa_nil))) pa_nil))) pa_nil)))
      (pss_cons (ps_expr (kBM (K := K) rfl PySem.F.plainAttrs_list PySem.F.slot_list_append PySem.F.type_list_append mt_append (pv 9) (pa_cons (pe_tup (pa_cons (pe_lam (T := lamT A) TB rfl (List.mem_singleton.mpr rfl) (fun p hp _ => by rw [List.mem_singleton.mp hp]; rfl) (LamX.lamS_by (by rfl))) (pa_cons (pe_tup (pa_cons pe_str (pa_cons pe_str pa_nil))) pa_nil))) pa_nil)))
      (pss_cons (ps_expr (kBM (K := K) rfl PySem.F.plainAttrs_list PySem.F.slot_list_append PySem.F.type_list_append mt_append (pv 9) (pa_cons (pe_tup (pa_cons (pe_lam (T := lamT A) TB rfl (List.mem_singleton.mpr rfl) (fun p hp _ => by rw [List.mem_singleton.mp hp]; rfl) (LamX.lamS_by (by rfl))) (pa_cons (pe_tup (pa_cons pe_str (pa_cons pe_str pa_nil))) pa_nil))) pa_nil)))
      (pss_cons (ps_expr (kBM (K := K) rfl PySem.F.plainAttrs_list PySem.F.slot_list_append PySem.F.type_list_append mt_append (pv 9) (pa_cons (pe_tup (pa_cons (pe_lam (T := lamT A) TB rfl (List.mem_singleton.mpr rfl) (fun p hp _ => by rw [List.mem_singleton.mp hp]; rfl) (LamX.lamS_by (by rfl))) (pa_cons (pe_tup (pa_cons pe_str (pa_cons (pe_un un_neg pe_int) pa_nil))) pa_nil))) pa_nil)))
      (pss_cons (ps_expr (kBM (K := K) rfl PySem.F.plainAttrs_list PySem.F.slot_list_append PySem.F.type_list_append mt_append (pv 9) (pa_cons (pe_tup (pa_cons (pe_lam (T := lamT A) TB rfl (List.mem_singleton.mpr rfl) (fun p hp _ => by rw [List.mem_singleton.mp hp]; rfl) (LamX.lamS_by (by rfl))) (pa_cons (pe_tup (pa_cons pe_str (pa_cons pe_int pa_nil))) pa_nil))) pa_nil)))
      (pss_cons (ps_expr (kBM (K := K) rfl PySem.F.plainAttrs_list PySem.F.slot_list_append PySem.F.type_list_append mt_append (pv 9) (pa_cons (pe_tup (pa_cons (pe_lam (T := lamT A) TB rfl (List.mem_singleton.mpr rfl) (fun p hp _ => by rw [List.mem_singleton.mp hp]; rfl) (LamX.lamS_by (by rfl))) (pa_cons (pe_tup (pa_cons pe_str (pa_cons (pe_un un_neg pe_int) pa_nil))) pa_nil))) pa_nil)))
      (pss_cons (ps_expr (kBM (K := K) rfl PySem.F.plainAttrs_list PySem.F.slot_list_append PySem.F.type_list_append mt_append (pv 9) (pa_cons (pe_tup (pa_cons (pe_lam (T := lamT A) TB rfl (List.mem_singleton.mpr rfl) (fun p hp _ => by rw [List.mem_singleton.mp hp]; rfl) (LamX.lamS_by (by rfl))) (pa_cons (pe_tup (pa_cons pe_str (pa_cons (pv 3) pa_nil))) pa_nil))) pa_nil)))
      (pss_cons (ps_expr (kBM (K := K) rfl PySem.F.plainAttrs_list PySem.F.slot_list_append PySem.F.type_list_append mt_append (pv 9) (pa_cons (pe_tup (pa_cons (pe_lam (T := lamT A) TB rfl (List.mem_singleton.mpr rfl) (fun p hp _ => by rw [List.mem_singleton.mp hp]; rfl) (LamX.lamS_by (by rfl))) (pa_cons (pe_tup (pa_cons pe_str (pa_cons pe_str pa_nil))) pa_nil))) pa_nil)))
      (pss_cons (ps_asg (pe_d D__law_of hr (by rfl) pass0 (pa_cons (pv 0) (pa_cons (pv 9) pa_nil))) (kTgt (K := K) (n := 2) rfl rfl (pgs_cons (pg_name (i := 10) sc78.nd rfl (Or.inl rfl)) (pgs_cons (pg_name (i := 11) sc78.nd rfl (Or.inl rfl)) pgs_nil)) rfl rfl))
      (pss_one (ps_ret (pe_cmpR (kEqD (K := K) rfl hr.units) (pe_or2 (pe_lamW (x := "_law_refused") (a := "_law_work") (Ng := ["_law_work", "error"]) (params := lamP 0) (body := lamB 0) (scope := lamSc 0) (k := 9) (by rfl) hmR hkR lkR hcR hbR sc76 rfl (.inl rfl) (gives_refused T.toTxt) (pa_cons (pv 10) pa_nil) hr (LamX.lamS_by (by rfl)) (fun _ _ _ _ _ => rfl) (fun A9 outer9 s9 H9 E9 f9 c9 hr => (pe_d D_one_fault hr (by rfl) (passes_call (takes_of rfl rfl rfl rfl) (fun _ _ _ _ h => h)) (pa_cons (pv 7) (pa_cons pe_non pa_nil)))))
        (pe_or2 (pe_lamW (x := "_law_refused") (a := "_law_work") (Ng := ["_law_work", "error"]) (params := lamP 1) (body := lamB 1) (scope := lamSc 1) (k := 9) (by rfl) hmR hkR lkR hcR hbR sc76 rfl (.inl rfl) (gives_refused T.toTxt) (pa_cons (pv 10) pa_nil) hr (LamX.lamS_by (by rfl)) (fun _ _ _ _ _ => rfl) (fun A9 outer9 s9 H9 E9 f9 c9 hr => (pe_d D_count_one hr (by rfl) (passes_call (takes_of rfl rfl rfl rfl) (fun _ _ _ _ h => h)) (pa_cons (pv 7) (pa_cons (pe_un un_neg pe_int) pa_nil)))))
        (pe_or2 (pe_lamW (x := "_law_refused") (a := "_law_work") (Ng := ["_law_work", "error"]) (params := lamP 2) (body := lamB 2) (scope := lamSc 2) (k := 9) (by rfl) hmR hkR lkR hcR hbR sc76 rfl (.inl rfl) (gives_refused T.toTxt) (pa_cons (pv 10) pa_nil) hr (LamX.lamS_by (by rfl)) (fun _ _ _ _ _ => rfl) (fun A9 outer9 s9 H9 E9 f9 c9 hr => (pe_d D_one_fault hr (by rfl) (passes_call (takes_of rfl rfl rfl rfl) (fun _ _ _ _ h => h)) (pa_cons (pv 8) (pa_cons pe_non pa_nil)))))
        (pe_or2 (pe_lamW (x := "_law_refused") (a := "_law_work") (Ng := ["_law_work", "error"]) (params := lamP 3) (body := lamB 3) (scope := lamSc 3) (k := 9) (by rfl) hmR hkR lkR hcR hbR sc76 rfl (.inl rfl) (gives_refused T.toTxt) (pa_cons (pv 10) pa_nil) hr (LamX.lamS_by (by rfl)) (fun _ _ _ _ _ => rfl) (fun A9 outer9 s9 H9 E9 f9 c9 hr => (pe_d D_count_one hr (by rfl) (passes_call (takes_of rfl rfl rfl rfl) (fun _ _ _ _ h => h)) (pa_cons (pv 8) (pa_cons pe_non pa_nil)))))
        (pe_or2 (pe_lamW (x := "_law_refused") (a := "_law_work") (Ng := ["_law_work", "error"]) (params := lamP 4) (body := lamB 4) (scope := lamSc 4) (k := 9) (by rfl) hmR hkR lkR hcR hbR sc76 rfl (.inl rfl) (gives_refused T.toTxt) (pa_cons (pv 10) pa_nil) hr (LamX.lamS_by (by rfl)) (fun _ _ _ _ _ => rfl) (fun A9 outer9 s9 H9 E9 f9 c9 hr => (pe_d D_one_fault hr (by rfl) (passes_call (takes_of rfl rfl rfl rfl) (fun _ _ _ _ h => h)) (pa_cons (pe_slice (kSlT (K := K) rfl) (pv 1) (po_some pe_int) po_none) (pa_cons pe_non pa_nil)))))
        (pe_or2 (pe_lamW (x := "_law_refused") (a := "_law_work") (Ng := ["_law_work", "error"]) (params := lamP 5) (body := lamB 5) (scope := lamSc 5) (k := 9) (by rfl) hmR hkR lkR hcR hbR sc76 rfl (.inl rfl) (gives_refused T.toTxt) (pa_cons (pv 10) pa_nil) hr (LamX.lamS_by (by rfl)) (fun _ _ _ _ _ => rfl) (fun A9 outer9 s9 H9 E9 f9 c9 hr => (pe_d D_count_one hr (by rfl) (passes_call (takes_of rfl rfl rfl rfl) (fun _ _ _ _ h => h)) (pa_cons (pe_tup (pa_cons (pv 3) (pa_cons (pv 4) (pa_cons pe_int (pa_cons (pe_tup pa_nil) pa_nil))))) (pa_cons pe_non pa_nil)))))
        (pe_or2 (pe_lamW (x := "_law_refused") (a := "_law_work") (Ng := ["_law_work", "error"]) (params := lamP 6) (body := lamB 6) (scope := lamSc 6) (k := 9) (by rfl) hmR hkR lkR hcR hbR sc76 rfl (.inl rfl) (gives_refused T.toTxt) (pa_cons (pv 10) pa_nil) hr (LamX.lamS_by (by rfl)) (fun _ _ _ _ _ => rfl) (fun A9 outer9 s9 H9 E9 f9 c9 hr => (pe_d D_one_fault hr (by rfl) (passes_call (takes_of rfl rfl rfl rfl) (fun _ _ _ _ h => h)) (pa_cons (pv 1) (pa_cons (pe_slice (kSlL (K := K) rfl) (pv 2) (po_some pe_int) po_none) pa_nil)))))
        (pe_or2 (pe_lamW (x := "_law_refused") (a := "_law_work") (Ng := ["_law_work", "error"]) (params := lamP 7) (body := lamB 7) (scope := lamSc 7) (k := 9) (by rfl) hmR hkR lkR hcR hbR sc76 rfl (.inl rfl) (gives_refused T.toTxt) (pa_cons (pv 10) pa_nil) hr (LamX.lamS_by (by rfl)) (fun _ _ _ _ _ => rfl) (fun A9 outer9 s9 H9 E9 f9 c9 hr => (pe_d D_one_fault hr (by rfl) (passes_call (takes_of rfl rfl rfl rfl) (fun _ _ _ _ h => h)) (pa_cons (pv 1) (pa_cons (pe_op op_cat (pe_slice (kSlL (K := K) rfl) (pv 2) po_none (po_some (pe_un un_neg pe_int))) (pe_lst (pa_cons pe_non pa_nil))) pa_nil)))))
        (pe_lamW (x := "_law_refused") (a := "_law_work") (Ng := ["_law_work", "error"]) (params := lamP 8) (body := lamB 8) (scope := lamSc 8) (k := 9) (by rfl) hmR hkR lkR hcR hbR sc76 rfl (.inl rfl) (gives_refused T.toTxt) (pa_cons (pv 10) pa_nil) hr (LamX.lamS_by (by rfl)) (fun _ _ _ _ _ => rfl) (fun A9 outer9 s9 H9 E9 f9 c9 hr => have D__law_of := D__law_of9; (pe_d D_count_one hr (by rfl) (passes_call (takes_of rfl rfl rfl rfl) (fun _ _ _ _ h => h)) (pa_cons (pv 1) (pa_cons (pe_d D__law_of hr (by rfl) pass0 (pa_cons (pv 0) (pa_cons (pe_lst (pa_cons pe_int (pa_cons (pe_un un_neg pe_int) (pa_cons pe_bl (pa_cons pe_non (pa_cons pe_str (pa_cons (pe_tup (pa_cons pe_int pa_nil)) pa_nil))))))) pa_nil))) pa_nil))))))))))))) (pv 11) (nomark _)))))))))))))))), ?_⟩
    have hnn : ∀ m : Int, 0 ≤ (2 : Int) := fun _ => by omega
    clear hnn
    -- the parties that are refused
    refine ⟨_, rfl, p, _, rfl, rd_t hp.at_, rfl, _, _, rfl, _, _, rfl, _, _, rfl, _, _, rfl, rfl, ?_⟩
    refine ⟨_, rfl, _, rfl, Nat.zero_le _, fun u hu => ⟨(by decide : 4 ≤ sizeLine), fun cl hcl => ⟨_, rfl, _, rfl, _, rfl, (by decide : 4 ≤ sizeLine), fun mo hmo => ⟨(by decide : 2 ≤ sizeLine), fun pr hpr => ⟨pr, _, rfl, st_of upd_same, rfl, _, _, rfl, _, _, rfl, rfl, ?_⟩⟩⟩⟩⟩
    have x1 : Ex H (upd H u (.tup [])) := Ex.new hu
    have x2 : Ex (upd H u (.tup [])) _ := Ex.new (o := .tup [.int n, .ref d, .int 2, .ref u]) hcl
    have x3 := Ex.new (o := .tup [.int n, .ref d, .int 2, .ref g]) hmo
    have x4 := Ex.new (o := .tup [.ref cl, .ref mo]) hpr
    have xx := ((x1.trans x2).trans x3).trans x4
    have tu : Tu (upd H u (.tup [])) u [] := .inl upd_same
    have pcl : PtyAt (upd (upd (upd (upd H u (.tup [])) cl (.tup [.int n, .ref d, .int 2, .ref u])) mo (.tup [.int n, .ref d, .int 2, .ref g])) pr (.tup [.ref cl, .ref mo])) cl d u ds n D 2 [] :=
      ⟨.inl (x4 _ _ (x3 _ _ upd_same)), hp.ds.ex xx, tu.same ((x2.trans x3).trans x4)⟩
    have pmo : PtyAt (upd (upd (upd (upd H u (.tup [])) cl (.tup [.int n, .ref d, .int 2, .ref u])) mo (.tup [.int n, .ref d, .int 2, .ref g])) pr (.tup [.ref cl, .ref mo])) mo d g ds n D 2 G :=
      ⟨.inl (x4 _ _ upd_same), hp.ds.ex xx, hp.gs.same xx⟩
    have pp := hp.ex xx
    have hb1 := xx _ _ hb
    have htab1 := xx _ _ htab
    obtain ⟨xs0, b0, hda, hla, hx0⟩ := hdl.ex
    have hda1 := xx _ _ hda
    have hla1 := xx _ _ hla
    generalize (upd (upd (upd (upd H u (.tup [])) cl (.tup [.int n, .ref d, .int 2, .ref u])) mo (.tup [.int n, .ref d, .int 2, .ref g])) pr (.tup [.ref cl, .ref mo])) = H1 at pcl pmo pp hb1 htab1 hda1 hla1 ⊢
    clear x1 x2 x3 x4 xx tu
    have okN : PtyOk n D [] := ⟨hok.n2, hok.n6, hok.pd, hok.dl, .nil, by simp, by simp⟩
    have hT1 : Tabs (lamT A) H1 := fun p hp => by
      rw [List.mem_singleton.mp hp]
      exact TabS.nil htab1
    -- the list of cases
    dsimp only
    refine st_seq (st_asg ?_)
    refine pair_read (k := 0) hT1 (fun H Q q => q) fun w1 H2 eN2 hT2 hw2 => ⟨(by decide : 1 ≤ sizeLine), fun wk hwk => ?_⟩
    replace pcl := pcl.extN eN2
    replace pmo := pmo.extN eN2
    replace pp := pp.extN eN2
    replace hb1 := eN2 _ _ hb1 (fun _ z => nomatch z)
    replace hda1 := eN2 _ _ hda1 (fun _ z => nomatch z)
    replace hla1 := eN2 _ _ hla1 (fun _ z => nomatch z)
    have W1 : Wks _ (upd H2 wk (.lst [.ref w1])) wk [⟨0, "refused", .str "gates"⟩] := ⟨[w1], upd_same, .cons (WkAt.exT hw2 (.of (Ex.new hwk))) .nil, by simp⟩
    have hT3 := hT2.ext (Ex.new (o := .lst [.ref w1]) hwk)
    have eW : ExW wk H2 (upd H2 wk (.lst [.ref w1])) := .of (Ex.new hwk)
    generalize (upd H2 wk (.lst [.ref w1])) = H3 at W1 hT3 eW ⊢
    clear hT2 hw2 eN2 hT1 htab1
    dsimp only
    generalize hσ : (List.set _ 9 (some (V.ref wk)) : L2.St) = σ1
    have s0 : σ1[0]? = some (some (.ref da)) := by subst hσ; rfl
    have s1 : σ1[1]? = some (some (.ref p)) := by subst hσ; rfl
    have s2 : σ1[2]? = some (some (.ref b)) := by subst hσ; rfl
    have s3 : σ1[3]? = some (some (.int n)) := by subst hσ; rfl
    have s4 : σ1[4]? = some (some (.ref d)) := by subst hσ; rfl
    have s7 : σ1[7]? = some (some (.ref cl)) := by subst hσ; rfl
    have s8 : σ1[8]? = some (some (.ref mo)) := by subst hσ; rfl
    have s9 : σ1[9]? = some (some (.ref wk)) := by subst hσ; rfl
    have sl : σ1.length = 12 := by subst hσ; rfl
    clear hσ
    have hneg : ∀ {i : Int} (H : Hp) (Q : VK), Q (.int (-i)) H → tUn (rU fun i => .int (-i)) (tC (.int i)) σ1 H Q := fun H Q q => ⟨_, rfl, q⟩
    refine st_seq ?_
    refine app_read (k := 1) s9 W1 (by simp) hT3 (fun H Q q => q) fun H4 e4 hT4 W2 => ?_
    dsimp only
    refine st_seq ?_
    refine app_read (k := 2) s9 W2 (by simp) hT4 (fun H Q q => q) fun H5 e5 hT5 W3 => ?_
    dsimp only
    refine st_seq ?_
    refine app_read (k := 3) s9 W3 (by simp) hT5 (fun H Q q => q) fun H6 e6 hT6 W4 => ?_
    dsimp only
    refine st_seq ?_
    refine app_read (k := 4) (v := .int (-1)) s9 W4 (by simp) hT6 (fun H Q q => hneg H Q q) fun H7 e7 hT7 W5 => ?_
    dsimp only
    refine st_seq ?_
    refine app_read (k := 5) s9 W5 (by simp) hT7 (fun H Q q => q) fun H8 e8 hT8 W6 => ?_
    dsimp only
    refine st_seq ?_
    refine app_read (k := 6) (v := .int (-1)) s9 W6 (by simp) hT8 (fun H Q q => hneg H Q q) fun H9 e9 hT9 W7 => ?_
    dsimp only
    refine st_seq ?_
    refine app_read (k := 7) (v := .int n) s9 W7 (by simp) hT9 (fun H Q q => ⟨_, s3, q⟩) fun H10 e10 hT10 W8 => ?_
    dsimp only
    refine st_seq ?_
    refine app_read (k := 8) s9 W8 (by simp) hT10 (fun H Q q => q) fun H11 e11 hT11 W9 => ?_
    dsimp only
    have eA := ((((((((eW.trans e4).trans e5).trans e6).trans e7).trans e8).trans e9).trans e10).trans e11).newN hwk
    have W9 : Wks _ H11 wk (cases9 n) := W9
    clear W1 W2 W3 W4 W5 W6 W7 W8 hT3 hT4 hT5 hT6 hT7 hT8 hT9 hT10 hT11 eW e4 e5 e6 e7 e8 e9 e10 e11
    replace pcl := pcl.extN eA
    replace pmo := pmo.extN eA
    replace pp := pp.extN eA
    replace hb1 := eA _ _ hb1 (fun _ z => nomatch z)
    have nda : wk ≠ da := (ne_of_none hda1 hwk).symm
    have nla : wk ≠ la := (ne_of_none hla1 hwk).symm
    replace hda1 := eA _ _ hda1 (fun _ z => nomatch z)
    replace hla1 := eA _ _ hla1 (fun _ z => nomatch z)
    have dl11 : Deal H11 da la := ⟨xs0, b0, hda1, hla1, hx0⟩
    obtain ⟨ws, hws, pws, _⟩ := W9.ex
    have hwl : ws.length = 9 := Paired.length pws
    -- one of them is drawn
    refine st_seq ?_
    refine ⟨_, s0, _, s9, ⟨da, la, wk, ws.map V.ref, rfl, dl11, hws, nda, nla, by rw [List.length_map]; omega, by rw [List.length_map]; omega, fun H12 k v e12 dl12 hv => ?_⟩⟩
    obtain ⟨wa, ewa, rfl⟩ := get_map hv
    obtain ⟨it, eit, hwa⟩ := paired_at pws ewa
    have eT12 := e12.exT dl11
    obtain ⟨f', c', due, k1, k2, k3, k4⟩ := (hwa.exT eT12).ex
    replace pcl := pcl.exT eT12
    replace pmo := pmo.exT eT12
    replace pp := pp.exT eT12
    replace hb1 := e12 _ _ nba nbl hb1
    clear hwa hws pws dl11 W9 hda1 hla1 eT12 e12 eA
    refine ⟨wa, _, rfl, st_of k1, rfl, _, _, rfl, _, _, rfl, rfl, ?_⟩
    dsimp only
    generalize hσ : (σ1.set 10 (some (V.ref f'))).set 11 (some (V.ref due)) = σ2
    have r0 : σ2[0]? = some (some (.ref da)) := by subst hσ; simp [s0]
    have r1 : σ2[1]? = some (some (.ref p)) := by subst hσ; simp [s1]
    have r2 : σ2[2]? = some (some (.ref b)) := by subst hσ; simp [s2]
    have r3 : σ2[3]? = some (some (.int n)) := by subst hσ; simp [s3]
    have r4 : σ2[4]? = some (some (.ref d)) := by subst hσ; simp [s4]
    have r7 : σ2[7]? = some (some (.ref cl)) := by subst hσ; simp [s7]
    have r8 : σ2[8]? = some (some (.ref mo)) := by subst hσ; simp [s8]
    have r10 : σ2[10]? = some (some (.ref f')) := by subst hσ; simp [sl]
    have r11 : σ2[11]? = some (some (.ref due)) := by subst hσ; simp [sl]
    clear hσ s0 s1 s2 s3 s4 s7 s8 s9 hneg sl
    have fin : ∀ {v : V} {dv : PyData} {tag : PySem.Str} {H' : Hp} {dd : Addr} {o : HO}, H12 due = some (.tup [.str tag, v]) → PyData.strOk tag = true → Sm v dv → Ex H12 H' → H' dd = none → ∀ pz, (upd H' dd o) pz = none → tVar 11 σ2 (upd (upd H' dd o) pz (.tup [.str tag, v])) fun y H2 => rEqD K (.ref pz) y H2 Q := fun {v dv tag H' dd o} hd ht hs e hdd pz hpz =>
      fin_eq ht hs ((Ex.new hdd) _ _ (e _ _ hd)) hpz r11 q
    have hk9 : k < 9 := by
      have := (List.getElem?_eq_some_iff.mp ewa).1
      omega
    refine st_ret ?_
    match k, hk9, eit with
    | 0, _, eit =>
      cases (Option.some.inj eit)
      refine .inl ⟨_, r10, f', c', rfl, k2, k3, fun E' Q' hE => ?_⟩
      exact ⟨_, r7, ⟨_, _, rfl, ⟨.inl ⟨cl, d, u, ds, n, D, 2, [], rfl, pcl, okN, by omega, by omega, fun z => absurd z (by decide), fun _ => ⟨fun _ => fun H' dd e hd => hE _ _ _ ⟨"refused", .str "gates", (.inr (.inr (.inl ⟨rfl, rfl, dd, rfl, upd_same⟩))), fun pz hpz => fin k4 (by decide +kernel) (.str _ (by decide +kernel)) e hd pz hpz⟩, fun z => absurd rfl z, fun z => absurd rfl z⟩⟩⟩⟩⟩
    | 1, _, eit =>
      cases (Option.some.inj eit)
      refine .inr (.inl ⟨_, r10, f', c', rfl, k2, k3, fun E' Q' hE => ?_⟩)
      exact ⟨_, r7, _, rfl, ⟨_, _, rfl, ⟨.inl ⟨cl, d, u, ds, n, D, 2, [], rfl, pcl, okN, by omega, by omega, fun z => absurd z (by decide), fun _ => ⟨fun _ => fun H' dd e hd => hE _ _ _ ⟨"refused", .str "gates", (.inr (.inr (.inl ⟨rfl, rfl, dd, rfl, upd_same⟩))), fun pz hpz => fin k4 (by decide +kernel) (.str _ (by decide +kernel)) e hd pz hpz⟩, fun z => absurd rfl z, fun z => absurd rfl z⟩⟩⟩⟩⟩
    | 2, _, eit =>
      cases (Option.some.inj eit)
      refine .inr (.inr (.inl ⟨_, r10, f', c', rfl, k2, k3, fun E' Q' hE => ?_⟩))
      exact ⟨_, r8, ⟨_, _, rfl, ⟨.inl ⟨mo, d, g, ds, n, D, 2, G, rfl, pmo, hok, by omega, by omega, fun z => absurd z (by decide), fun _ => ⟨fun z => absurd z hG, fun _ _ => fun H' dd e hd => hE _ _ _ ⟨"refused", .str "many", (.inr (.inr (.inl ⟨rfl, rfl, dd, rfl, upd_same⟩))), fun pz hpz => fin k4 (by decide +kernel) (.str _ (by decide +kernel)) e hd pz hpz⟩, fun _ z => absurd z (by decide)⟩⟩⟩⟩⟩
    | 3, _, eit =>
      cases (Option.some.inj eit)
      refine .inr (.inr (.inr (.inl ⟨_, r10, f', c', rfl, k2, k3, fun E' Q' hE => ?_⟩)))
      exact ⟨_, r8, ⟨_, _, rfl, ⟨.inl ⟨mo, d, g, ds, n, D, 2, G, rfl, pmo, hok, by omega, by omega, fun z => absurd z (by decide), fun _ => ⟨fun z => absurd z hG, fun _ _ => fun H' dd e hd => hE _ _ _ ⟨"refused", .str "many", (.inr (.inr (.inl ⟨rfl, rfl, dd, rfl, upd_same⟩))), fun pz hpz => fin k4 (by decide +kernel) (.str _ (by decide +kernel)) e hd pz hpz⟩, fun _ z => absurd z (by decide)⟩⟩⟩⟩⟩
    | 4, _, eit =>
      cases (Option.some.inj eit)
      refine .inr (.inr (.inr (.inr (.inl ⟨_, r10, f', c', rfl, k2, k3, fun E' Q' hE => ?_⟩))))
      exact ⟨_, r1, _, rfl, p, _, rfl, rd_t pp.at_, fun h => absurd (show (1 : Nat) = 0 from h.1) (by decide), fun _ qa hqa => ⟨_, _, rfl, ⟨.inr ⟨qa, _, rfl, .inl upd_same, (show (3 : Nat) ≠ 4 by decide), fun H' dd e hd => hE _ _ _ ⟨"house", .int (-1), (.inl ⟨rfl, rfl, dd, rfl, upd_same⟩), fun pz hpz => fin k4 (by decide +kernel) (.int _) ((Ex.new hqa).trans e) hd pz hpz⟩⟩⟩⟩⟩
    | 5, _, eit =>
      cases (Option.some.inj eit)
      refine .inr (.inr (.inr (.inr (.inr (.inl ⟨_, r10, f', c', rfl, k2, k3, fun E' Q' hE => ?_⟩)))))
      refine ⟨_, r3, _, r4, Nat.zero_le _, fun u2 hu2 => ⟨(by decide : 4 ≤ sizeLine), fun qa hqa => ?_⟩⟩
      have y1 : Ex H12 (upd H12 u2 (.tup [])) := Ex.new hu2
      have y2 : Ex (upd H12 u2 (.tup [])) (upd (upd H12 u2 (.tup [])) qa (.tup [.int n, .ref d, .int 0, .ref u2])) := Ex.new hqa
      have tu2 : Tu (upd H12 u2 (.tup [])) u2 [] := .inl upd_same
      exact ⟨_, _, rfl, ⟨.inl ⟨qa, d, u2, ds, n, D, 0, [], rfl, ⟨.inl upd_same, pp.ds.ex (y1.trans y2), tu2.same y2⟩, okN, by omega, by omega, fun _ => fun H' dd e hd => hE _ _ _ ⟨"house", .int 2, (.inl ⟨rfl, rfl, dd, rfl, upd_same⟩), fun pz hpz => fin k4 (by decide +kernel) (.int _) ((y1.trans y2).trans e) hd pz hpz⟩, fun z => absurd z (by decide)⟩⟩⟩
    | 6, _, eit =>
      cases (Option.some.inj eit)
      refine .inr (.inr (.inr (.inr (.inr (.inr (.inl ⟨_, r10, f', c', rfl, k2, k3, fun E' Q' hE => ?_⟩))))))
      refine ⟨_, r1, _, r2, _, rfl, b, _, rfl, sq_of hb1, fun qa hqa => ?_⟩
      have hcut : cutV (ms.map V.int) (some 1) none = (ms.drop 1).map V.int := by
        unfold cutV
        rw [show (1 : Int) = ((1 : Nat) : Int) from rfl, HT.sIx_nat, HT.sIx_none, List.length_map, List.map_drop, List.take_of_length_le (by rw [List.length_drop, List.length_map]; omega)]
        congr 1
        omega
      rw [hcut] at *
      have y1 : Ex H12 (upd H12 qa (.lst ((ms.drop 1).map V.int))) := Ex.new hqa
      have hl6 : ((ms.drop 1).map V.int).length ≠ n + 1 := by rw [List.length_map, List.length_drop]; omega
      exact ⟨_, _, rfl, ⟨.inl ⟨p, d, g, ds, n, D, 1, G, rfl, (pp.ex y1), hok, by omega, by omega, fun z => absurd z (by decide), fun _ => ⟨fun z => absurd z hG, fun _ z => absurd rfl z, fun _ _ => ⟨qa, _, ms.drop 1, false, rfl, .inl (.inl upd_same), ⟨(List.append_nil _).symm, fun m hm => hms m (List.mem_of_mem_drop hm)⟩, fun _ => fun H' dd e hd => hE _ _ _ ⟨"question", .int (-1), (.inr (.inl ⟨rfl, rfl, dd, rfl, upd_same⟩)), fun pz hpz => fin k4 (by decide +kernel) (.int _) (y1.trans e) hd pz hpz⟩, fun z => absurd z hl6, fun z => absurd z hl6⟩⟩⟩⟩⟩
    | 7, _, eit =>
      cases (Option.some.inj eit)
      refine .inr (.inr (.inr (.inr (.inr (.inr (.inr (.inl ⟨_, r10, f', c', rfl, k2, k3, fun E' Q' hE => ?_⟩)))))))
      refine ⟨_, r1, _, r2, _, rfl, _, rfl, b, _, rfl, sq_of hb1, fun l1 hl1 => ⟨(by decide : 1 ≤ sizeLine), fun l2 hl2 => ?_⟩⟩
      have hcut : cutV (ms.map V.int) none (some (-1)) = (ms.take n).map V.int := by
        unfold cutV
        rw [HT.sIx_none, List.drop_zero, List.length_map, List.map_take]
        congr 1
        show (if (-1 : Int) < 0 then ((-1 : Int) + (ms.length : Int)).toNat else min (-1 : Int).toNat ms.length) - 0 = n
        rw [if_pos (by decide)]
        omega
      rw [hcut] at hl2 ⊢
      have y1 : Ex H12 (upd H12 l1 (.lst ((ms.take n).map V.int))) := Ex.new hl1
      have y2 := Ex.new (o := .lst [.non]) hl2
      have hl7 : ((ms.take n).map V.int ++ [V.non]).length = n + 1 := by rw [List.length_append, List.length_map, List.length_take]; simp; omega
      refine ⟨l1, l2, _, _, rfl, rfl, y2 _ _ upd_same, upd_same, sz_of (by rw [List.length_append] at hl7; omega), fun qa hqa => ?_⟩
      have y3 := Ex.new (o := .lst ((ms.take n).map V.int ++ [V.non])) hqa
      have htk : ((ms.take n).length : Int) = n := by rw [List.length_take]; omega
      exact ⟨_, _, rfl, ⟨.inl ⟨p, d, g, ds, n, D, 1, G, rfl, (pp.ex ((y1.trans y2).trans y3)), hok, by omega, by omega, fun z => absurd z (by decide), fun _ => ⟨fun z => absurd z hG, fun _ z => absurd rfl z, fun _ _ => ⟨qa, _, ms.take n, true, rfl, .inl (.inl upd_same), ⟨rfl, fun m hm => hms m (List.mem_of_mem_take hm)⟩, fun z => absurd hl7 z, fun _ _ => by rw [htk]; exact fun H' dd e hd => hE _ _ _ ⟨"question", .int n, (.inr (.inl ⟨rfl, rfl, dd, rfl, upd_same⟩)), fun pz hpz => fin (tag := "question") (v := .int n) k4 (by decide +kernel) (.int _) (((y1.trans y2).trans y3).trans e) hd pz hpz⟩, fun _ z => nomatch z⟩⟩⟩⟩⟩
    | 8, _, eit =>
      cases (Option.some.inj eit)
      refine .inr (.inr (.inr (.inr (.inr (.inr (.inr (.inr (⟨_, r10, f', c', rfl, k2, k3, fun E' Q' hE => ?_⟩))))))))
      refine ⟨_, r1, _, r0, _, rfl, (by decide : 1 ≤ sizeLine), fun u2 hu2 => ⟨(by decide : 6 ≤ sizeLine), fun ls hls => ?_⟩⟩
      have y1 : Ex H12 (upd H12 u2 (.tup [.int 1])) := Ex.new hu2
      have y2 := Ex.new (o := .lst [.int 0, .int (-1), .bl true, .non, .str "2", .ref u2]) hls
      obtain ⟨xs2, b2, hda2, hla2, hx2⟩ := dl12.ex
      have dl2 : Deal (upd (upd H12 u2 (.tup [.int 1])) ls (.lst [.int 0, .int (-1), .bl true, .non, .str "2", .ref u2])) da la := ⟨xs2, b2, (y1.trans y2) _ _ hda2, (y1.trans y2) _ _ hla2, hx2⟩
      refine ⟨da, la, ls, _, rfl, dl2, upd_same, (ne_of_none (y1 _ _ hda2) hls).symm, (ne_of_none (y1 _ _ hla2) hls).symm, by simp, by simp, fun H13 j v e13 dl13 hv => ?_⟩
      have eT13 : ExT H12 H13 := (ExT.of (y1.trans y2)).trans (e13.exT dl2)
      have hu13 : Rd H13 u2 (.tup [.int 1]) := .inl (e13.exT dl2 _ _ (y2 _ _ upd_same) fun _ z => nomatch z)
      have hbad : (∃ t, Kd H13 v t) ∧ (isN v = false ∨ v = .int 0) := by
        match j, hv with
        | 0, hv => cases (Option.some.inj hv); exact ⟨⟨_, .int 0⟩, .inr rfl⟩
        | 1, hv => cases (Option.some.inj hv); exact ⟨⟨_, .int (-1)⟩, .inl (by decide)⟩
        | 2, hv => cases (Option.some.inj hv); exact ⟨⟨_, .bl true⟩, .inl rfl⟩
        | 3, hv => cases (Option.some.inj hv); exact ⟨⟨_, .non⟩, .inl rfl⟩
        | 4, hv => cases (Option.some.inj hv); exact ⟨⟨_, .str _⟩, .inl rfl⟩
        | 5, hv => cases (Option.some.inj hv); exact ⟨⟨_, .tup hu13⟩, .inl rfl⟩
        | j + 6, hv => simp at hv
      have fin13 : ∀ {H' : Hp} {dd : Addr} {o : HO}, Ex H13 H' → H' dd = none → ∀ pz, (upd H' dd o) pz = none → tVar 11 σ2 (upd (upd H' dd o) pz (.tup [.str "size", .str "answers"])) fun y H2 => rEqD K (.ref pz) y H2 Q := fun {H' dd o} e hdd pz hpz =>
        fin_eq (by decide +kernel) (.str _ (by decide +kernel)) ((Ex.new hdd) _ _ (e _ _ (eT13 _ _ k4 fun _ z => nomatch z))) hpz r11 q
      exact ⟨_, _, rfl, ⟨.inl ⟨p, d, g, ds, n, D, 1, G, rfl, (pp.exT eT13), hok, by omega, by omega, fun z => absurd z (by decide), fun _ => ⟨fun z => absurd z hG, fun _ z => absurd rfl z, fun _ _ => ⟨hbad.1, fun _ H' dd e hd => hE _ _ _ ⟨"size", .str "answers", (.inr (.inr (.inr ⟨rfl, rfl, dd, rfl, upd_same⟩))), fun pz hpz => fin13 e hd pz hpz⟩, fun a ha h1 => by rcases hbad.2 with h | h <;> (rw [ha] at h; simp [isN] at h; omega)⟩⟩⟩⟩⟩
    | k + 9, hk9, _ => exact absurd hk9 (by omega)
end
end Kx
/-! A def of two parameters called by two keywords, the later parameter first. -/
namespace Kx
open PySem PySem.Spec PyProof.Rows L2
def tCallR2 (sp : Sp) (E : XK) (t1 t2 : TE) : TE := fun σ H Q => t1 σ H fun x H1 => t2 σ H1 fun y H2 => sp [y, x] H2 Q E
section
variable {X : Cx} {CX : CXT} {k : Nat} {x k1 k2 : PySem.Str} {ps : List PySem.Str} {sp : Sp} {E : XK} {p pos p1 p2 : Pos} {e1 e2 : Expr} {t1 t2 : TE} {st : Stmt}
theorem run_fnR {f : Addr} {fd : FuncData} {pins : List (Addr × Obj)} {σ : L2.St} {H : Hp} {s : Shared} {Q : VK} {args : Args} {us : List Value} {vs : List V} (F : FnOk X.prog X.w X.K X.mg X.base CX k f fd ps sp) (hr : Room k X.A) (hb : BindsTo s fd args (ps.zip us)) (hx : Passes CX X E)
    (I : Inv X pins σ H s) (r : Vals vs us) (h : sp vs H Q E) : wpAny (model X.prog X.w) X.A (call (.ref f) args.pos args.kw) (EP X pins σ Q) X.xe s := by
  refine wpAny_call (codeAny_mono (F.run X.A X.stack s H args us vs Q E hr I.env0 hb r h) fun r s' hq => ?_)
  cases r with
  | error e => exact hx pins σ H s e s' I hq
  | ok fl =>
    cases fl with
    | ret u => exact I.after hq
    | next => exact False.elim hq
    | brk => exact False.elim hq
    | cont => exact False.elim hq
theorem pe_dR2 (D : DOk X.prog X.w X.K X.mg X.base CX k x ps [] sp) (G : Gdef X.K X.mg x st []) (hr : Room k X.A) (hg : Gl X x) (hx : Passes CX X E) (h1 : PE X e1 t1) (h2 : PE X e2 t2)
    (hb : ∀ (kV doc pm : Value) (an : Option Addr) (cdv ct : Value) (u1 u2 : Value), bindArgs (PySem.W.fnOf x x (defArgs st) (defBody st) (defScope st) .none kV doc pm an cdv ct) ⟨[], [(k1, u1), (k2, u2)]⟩ = pure (ps.zip [u2, u1]))
    (hps : ps.length = 2 := by rfl) (hdb : (x == ("__debug__" : PySem.Str)) = false := by decide)
    (hall : (backToKw pos (keywordEach [⟨some k1, e1, p1⟩, ⟨some k2, e2, p2⟩] X.env)).all (·.1.isSome) = true := by rfl) (hks : (backToKw pos (keywordEach [⟨some k1, e1, p1⟩, ⟨some k2, e2, p2⟩] X.env)).filterMap (·.1) = [k1, k2] := by rfl)
    (hpl : ((backTo pos (starEach [] X.env)).any (·.1) || (backToKw pos (keywordEach [⟨some k1, e1, p1⟩, ⟨some k2, e2, p2⟩] X.env)).any (·.1.isNone)) = false := by rfl) :
    PE X (.Call (.Name x p) [] [⟨some k1, e1, p1⟩, ⟨some k2, e2, p2⟩] pos) (tCallR2 sp E t1 t2) := by
  obtain ⟨f, fd, ds, a, b, c, d, F', oc, od, osl, lk⟩ := D.ex
  obtain ⟨f', fd', a', F⟩ := G.ex
  have ef : f' = f := by
    rw [a] at a'
    exact (Value.ref.inj (Option.some.inj a')).symm
  subst ef
  obtain ⟨oc', od', osl', lk'⟩ := FunD.at_ F
  have efd : fd' = fd := by
    rw [lk] at lk'
    have := congrArg Obj.data (Option.some.inj lk')
    exact (Data.func.inj this).symm
  subst efd
  refine ⟨fun pins s σ H Q I h => ?_⟩
  refine wpAny_Call_Name_kw (ld_glob I hg a ?_ hdb)
  refine PySem.W.callWith_KW0 (h₀ := X.base) I.ok.mod.kin b hall ?_ hpl
  have hk : PK X [⟨some k1, e1, p1⟩, ⟨some k2, e2, p2⟩] (tCons t1 (tCons t2 tNil)) := pk_cons h1 (pk_cons h2 pk_nil)
  refine thn (hk.run pos pins s σ H (fun zs H2 => sp zs.reverse H2 Q E) I h) fun ws s2 ⟨zs, H2, I2, rz, q2⟩ => ⟨I2.kIn, ?_⟩
  rw [hks]
  have hl := F'.len _ _ _ _ q2
  rw [List.length_reverse, hps] at hl
  obtain ⟨y1, y2, rfl⟩ : ∃ y1 y2, zs = [y1, y2] := by
    cases zs with
    | nil => cases hl
    | cons y1 zs =>
      cases zs with
      | nil => cases hl
      | cons y2 zs =>
        cases zs with
        | nil => exact ⟨y1, y2, rfl⟩
        | cons y3 zs => cases hl
  obtain ⟨u1, u2, rfl, r1, r2⟩ := vals2 rz
  obtain ⟨oc, od, dV, kV, doc, pm, an, cdv, ct, osl, e, lk2, hcd, hE, hK⟩ := F.ex
  have hE : dV = .none := by
    rcases hE with ⟨_, e⟩ | ⟨e, _⟩
    · exact e
    · exact absurd rfl e
  have hbt : BindsTo s2 fd' ⟨[], [(k1, u1), (k2, u2)]⟩ (ps.zip [u2, u1]) := by
    rw [e, hE]
    exact BindsTo.of_eq (hb kV doc pm an cdv ct u1 u2)
  exact run_fnR (args := ⟨[], [(k1, u1), (k2, u2)]⟩) F' hr hbt hx I2 (.cons r2 (.cons r1 .nil)) q2
end
end Kx
/-! What the law's own def needs: what stands in its heap, the calls it makes, what repr shows. -/
namespace Kx
open PySem PySem.Spec PyProof.Rows L2
open Evl (Ex ex_rd ex_l ex_t st_of sq_of sz_lt sz_of)
theorem TT'.exT {H H' : Hp} {a : Addr} {as : List Addr} {nss : List (List Int)} (h : TT' H a as nss) (e : ExT H H') : TT' H' a as nss := ⟨Rd.exT h.1 e (fun _ z => nomatch z), h.2.exT e⟩
theorem Fts.exT {H H' : Hp} {as : List Addr} {nss : List (List Int)} (h : Fts H as nss) (e : ExT H H') : Fts H' as nss := Paired.mapP h fun _ _ t => t.exT e
theorem HsAt.exT {A : Ads} {H H' : Hp} {x : Addr} {ns : List Int} {nss Ah Bh : List (List Int)} (h : HsAt A H x ns nss Ah Bh) (e : ExT H H') : HsAt A H' x ns nss Ah Bh := by
  obtain ⟨dx, a1, a2, a4, a5, fs, as, rs, bs, h0, h1, h2, h3, h4, t1, t2, t3, t4, t5⟩ := h
  exact ⟨dx, a1, a2, a4, a5, fs, as, rs, bs, e _ _ h0 (fun _ z => nomatch z), h1, h2, h3, h4, t1.exT e, t2.exT e, t3.exT e, t4.exT e, t5.exT e⟩
theorem HsG.exT {A : Ads} {H H' : Hp} {x : Addr} {n : Nat} {ar : List (Nat × Nat)} {ns : List Int} {Ah Bh : List (List Int)} (h : HsG A H x n ar ns Ah Bh) (e : ExT H H') : HsG A H' x n ar ns Ah Bh := ⟨{ h.w with hs := h.w.hs.exT e }, h.nl, h.n2⟩
theorem Deal.ex' {H H' : Hp} {da la : Addr} (d : Deal H da la) (e : Ex H H') : Deal H' da la := let ⟨a, b, c, d, f⟩ := d.ex; ⟨a, b, e _ _ c, e _ _ d, f⟩
/-- what stands in the law's heap behind its first rows -/
structure LawS (A : Ads) (H : Hp) (da la p d g x : Addr) (ds : List Addr) (n : Nat) (D : List (List Int)) (G ns : List Int) (Ah Bh : List (List Int)) : Prop where
  dl : Deal H da la
  pt : PtyAt H p d g ds n D 1 G
  ok : PtyOk n D G
  gn : G ≠ []
  hs : HsG A H x n (arr n (twoW D) G) ns Ah Bh
  tab : H A.table = some (.tbl #[])
section
variable {A : Ads} {H H' : Hp} {da la p d g x : Addr} {ds : List Addr} {n : Nat} {D : List (List Int)} {G ns : List Int} {Ah Bh : List (List Int)}
theorem LawS.exx (h : LawS A H da la p d g x ds n D G ns Ah Bh) (e : Ex H H') : LawS A H' da la p d g x ds n D G ns Ah Bh := ⟨h.dl.ex' e, h.pt.ex e, h.ok, h.gn, h.hs.ex e, e _ _ h.tab⟩
theorem LawS.exD (h : LawS A H da la p d g x ds n D G ns Ah Bh) (e : ExD da la H H') (dl : Deal H' da la) : LawS A H' da la p d g x ds n D G ns Ah Bh :=
  have eT := e.exT h.dl
  ⟨dl, h.pt.exT eT, h.ok, h.gn, h.hs.exT eT, eT _ _ h.tab fun _ z => nomatch z⟩
end
/-- its slots -/
structure LawV (σ : L2.St) (da p d x : Addr) (n : Nat) : Prop where
  s1 : σ[1]? = some (some (.ref da))
  s2 : σ[2]? = some (some (.int n))
  s3 : σ[3]? = some (some (.ref d))
  s5 : σ[5]? = some (some (.ref p))
  s6 : σ[6]? = some (some (.ref x))
  s7 : σ[7]? = some (some (.int 0))
  sl : σ.length = 21
theorem LawV.set {σ : L2.St} {da p d x : Addr} {n : Nat} (h : LawV σ da p d x n) {i : Nat} (hi : 8 ≤ i) (v : Option V) : LawV (σ.set i v) da p d x n := by
  have f : ∀ j : Nat, j < 8 → (σ.set i v)[j]? = σ[j]? := fun j hj => List.getElem?_set_ne (by omega)
  exact ⟨by rw [f 1 (by decide)]; exact h.s1, by rw [f 2 (by decide)]; exact h.s2, by rw [f 3 (by decide)]; exact h.s3, by rw [f 5 (by decide)]; exact h.s5, by rw [f 6 (by decide)]; exact h.s6, by rw [f 7 (by decide)]; exact h.s7, by rw [List.length_set]; exact h.sl⟩
/-! ### the first faulty door -/
inductive DueAt (H : Hp) : V → Option (List Int) → Prop
  | non : DueAt H .non none
  | tu {l : Addr} {e : List Int} (h : Tu H l e) : DueAt H (.ref l) (some e)
theorem DueAt.ex {H H' : Hp} {v : V} {o : Option (List Int)} (h : DueAt H v o) (e : Ex H H') : DueAt H' v o := by
  cases h with
  | non => exact .non
  | tu h => exact .tu (h.same e)
theorem DueAt.isN {H : Hp} {v : V} {o : Option (List Int)} (h : DueAt H v o) : decide (v = .non) = decide (o = none) := by
  cases h with
  | non => rfl
  | tu h => simp
def dueD : Option (List Int) → PyData
  | none => .none
  | some e => dTu e
theorem pair_show : ∀ a ∈ List.range 6, ∀ b ∈ List.range 6, (dTu [(a : Int), (b : Int)]).showable = true ∧ (dTu [(a : Int), (b : Int)]).shown.length ≤ 100 := by decide +kernel
theorem DueAt.repr {n : Nat} {D : List (List Int)} {ms : List Int} {H : Hp} {v : V} {Q : VK} (hD : PD n D) (h6 : n ≤ 6) (h : DueAt H v (fault n ms D)) (q : Q (.str (dueD (fault n ms D)).shown) H) : rRepr [v] H Q := by
  cases e : fault n ms D with
  | none =>
    rw [e] at h q
    cases h
    exact ⟨_, _, rfl, .non, q⟩
  | some c =>
    rw [e] at h q
    cases h with
    | tu h =>
      obtain ⟨a, b, rfl, h0, h1, h2⟩ := hD.pair c (List.mem_of_find?_eq_some e)
      obtain ⟨a, rfl⟩ : ∃ k : Nat, a = k := ⟨a.toNat, by omega⟩
      obtain ⟨b, rfl⟩ : ∃ k : Nat, b = k := ⟨b.toNat, by omega⟩
      obtain ⟨s1, s2⟩ := pair_show a (List.mem_range.mpr (by omega)) b (List.mem_range.mpr (by omega))
      exact ⟨_, _, rfl, .tup h s1 (sz_of (by omega)), q⟩
theorem int_repr {i : Int} {H : Hp} {Q : VK} (h : i.natAbs < 100000) (q : Q (.str (PyData.int i).shown) H) : rRepr [.int i] H Q := by
  refine ⟨_, _, rfl, .int i ?_, q⟩
  by_cases h0 : i.natAbs = 0
  · rw [h0]
    decide
  · exact (Nat.log2_lt h0).mpr (Nat.lt_of_lt_of_le h (by decide +kernel))
theorem bl_repr {b : Bool} {H : Hp} {Q : VK} (q : Q (.str (PyData.bool b).shown) H) : rRepr [.bl b] H Q := ⟨_, _, rfl, .bl b, q⟩
section
variable {A : Ads} {H : Hp} {Q : VK} {E : XK} {p d g b : Addr} {ds : List Addr} {n : Nat} {D : List (List Int)} {G ms : List Int}
theorem fault_call (hp : PtyAt H p d g ds n D 1 G) (ok : PtyOk n D G) (hG : G ≠ []) (hb : Rd H b (.lst (ms.map V.int)) ∨ Rd H b (.tup (ms.map V.int))) (hl : ms.length = n + 1) (hm : ∀ m ∈ ms, 0 ≤ m)
    (q : ∀ H' v, Ex H H' → DueAt H' v (fault n ms D) → Q v H') : spOneFault A [.ref p, .ref b] H Q E := by
  refine ⟨_, _, rfl, ⟨.inl ⟨p, d, g, ds, n, D, 1, G, rfl, hp, ok, by omega, by omega, fun z => absurd z (by decide), fun _ => ⟨fun z => absurd z hG, fun _ z => absurd rfl z, fun _ _ => ⟨b, _, ms, false, rfl, hb, ⟨(List.append_nil _).symm, hm⟩, fun z => absurd (by rw [List.length_map]; exact hl) z, (fun _ z => nomatch z), fun _ _ => ⟨fun e H' x => q H' _ x ?_, fun e he H' l x t => q H' _ x ?_⟩⟩⟩⟩⟩⟩
  · rw [e]
    exact .non
  · rw [he]
    exact .tu t
theorem count_call {a : Int} (hp : PtyAt H p d g ds n D 1 G) (ok : PtyOk n D G) (hG : G ≠ []) (h1 : 1 ≤ a) (h2 : a ≤ 10) (q : ∀ H', Ex H H' → Q (.int (countOf D n a)) H') : spCountOne A [.ref p, .int a] H Q E := by
  refine ⟨_, _, rfl, ⟨.inl ⟨p, d, g, ds, n, D, 1, G, rfl, hp, ok, by omega, by omega, fun z => absurd z (by decide), fun _ => ⟨fun z => absurd z hG, fun _ z => absurd rfl z, fun _ _ => ⟨⟨_, .int a⟩, fun z => ?_, fun c hc _ => ?_⟩⟩⟩⟩⟩
  · exfalso
    rcases z with z | z
    · simp [isN] at z
      omega
    · have : a = 0 := by simpa using z
      omega
  · have : a = c := by simpa using hc
    subst this
    exact ⟨h2, q⟩
end
theorem count_small {D : List (List Int)} {n : Nat} {a : Nat} (h1 : 1 ≤ a) (h3 : a ≤ 3) (h6 : n ≤ 6) : (countOf D n a).natAbs < 100000 := by
  have h := num_small D a n
  have h4 : a ^ n ≤ 3 ^ 6 := Nat.le_trans (Nat.pow_le_pow_left h3 n) (Nat.pow_le_pow_right (by omega) h6)
  have h5 : (numOf D a n).length ≤ 729 := by omega
  rw [← num_count D n a h1, Int.natAbs_mul, Int.natAbs_natCast, Int.natAbs_natCast]
  have := Nat.mul_le_mul h3 h5
  omega
/-! ### lists of refs to tuples of ints -/
theorem eqv_tusL (nss : List (List Int)) : PyData.eqv (.list (dTus nss)) (.list []) = decide (nss = []) := by
  cases nss with
  | nil => simp [dTus, PyData.eqv, PyData.eqvAll]
  | cons a l => simp [dTus, PyData.eqv, PyData.eqvAll]
theorem paired_of {α β ι : Type} {F : α → β → Prop} (a : ι → α) (b : ι → β) : ∀ (l : List ι), (∀ i ∈ l, F (a i) (b i)) → Paired F (l.map a) (l.map b)
  | [], _ => .nil
  | i :: l, h => .cons (h i List.mem_cons_self) (paired_of a b l fun j hj => h j (List.mem_cons_of_mem _ hj))
theorem find_places (D : List (List Int)) (p : List Int → Bool) : (((List.range D.length).filter fun k => p (D.getD k [])).map fun k => D.getD k []).head? = D.find? p := by
  have := filter_places D [] p id
  simp only [id] at this
  rw [this, List.map_id, List.head?_filter]
/-! ### the dict of what the guest in each room answers -/
def kvT (n : Nat) (ms : List Int) : Nat → List (Key × V)
  | 0 => []
  | i + 1 => kvT n ms i ++ (if 0 < i then [(Sum.inl (((n - i : Nat) : Int)), V.int (ms.getD i 0))] else [])
theorem kvT_key {n : Nat} {ms : List Int} : ∀ {i : Nat} {kv : Key × V}, kv ∈ kvT n ms i → ∃ j : Nat, 0 < j ∧ j < i ∧ kv = (Sum.inl (((n - j : Nat) : Int)), V.int (ms.getD j 0))
  | 0, kv, h => by simp [kvT] at h
  | i + 1, kv, h => by
    unfold kvT at h
    rcases List.mem_append.mp h with h | h
    · obtain ⟨j, h1, h2, h3⟩ := kvT_key h
      exact ⟨j, h1, by omega, h3⟩
    · by_cases hi : 0 < i
      · rw [if_pos hi] at h
        exact ⟨i, hi, by omega, by simpa using h⟩
      · rw [if_neg hi] at h
        simp at h
theorem kvT_len (n : Nat) (ms : List Int) : ∀ i, (kvT n ms i).length ≤ i
  | 0 => Nat.le_refl _
  | i + 1 => by
    have := kvT_len n ms i
    unfold kvT
    rw [List.length_append]
    by_cases hi : 0 < i
    · rw [if_pos hi]; simp; omega
    · rw [if_neg hi]; simp; omega
theorem kvT_new {n : Nat} {ms : List Int} {i : Nat} (hi : i ≤ n) : valV (kvT n ms i) (Sum.inl (((n - i : Nat) : Int))) = none := by
  unfold valV
  cases e : (kvT n ms i).find? (fun kv => decide (kv.1 = Sum.inl (((n - i : Nat) : Int)))) with
  | none => rfl
  | some kv =>
    obtain ⟨j, h1, h2, h3⟩ := kvT_key (List.mem_of_find?_eq_some e)
    have h4 : decide (kv.1 = Sum.inl (((n - i : Nat) : Int))) = true := List.find?_some (p := fun kv : Key × V => decide (kv.1 = Sum.inl (((n - i : Nat) : Int)))) e
    have h4 := of_decide_eq_true h4
    rw [h3] at h4
    have h5 : ((n - j : Nat) : Int) = ((n - i : Nat) : Int) := Sum.inl.inj h4
    omega
theorem kvT_get {n : Nat} {ms : List Int} : ∀ {i j : Nat}, 0 < j → j < i → i ≤ n + 1 → valV (kvT n ms i) (Sum.inl (((n - j : Nat) : Int))) = some (V.int (ms.getD j 0))
  | 0, j, _, h, _ => absurd h (by omega)
  | i + 1, j, h0, h, hn => by
    unfold valV kvT
    rw [List.find?_append]
    by_cases e : j = i
    · subst e
      have h1 := kvT_new (n := n) (ms := ms) (i := j) (by omega)
      unfold valV at h1
      cases e1 : (kvT n ms j).find? (fun kv => decide (kv.1 = Sum.inl (((n - j : Nat) : Int)))) with
      | some kv => rw [e1] at h1; cases h1
      | none =>
        rw [if_pos h0]
        simp
    · have h1 := kvT_get (n := n) (ms := ms) h0 (show j < i by omega) (by omega)
      unfold valV at h1
      cases e1 : (kvT n ms i).find? (fun kv => decide (kv.1 = Sum.inl (((n - j : Nat) : Int)))) with
      | none => rw [e1] at h1; cases h1
      | some kv =>
        rw [e1] at h1
        exact h1
theorem kvT_room {n : Nat} {ms : List Int} {r : Nat} (h : r < n) : valV (kvT n ms (n + 1)) (Sum.inl ((r : Int))) = some (V.int (ansR n ms r)) := by
  have h1 := kvT_get (n := n) (ms := ms) (i := n + 1) (j := n - r) (by omega) (by omega) (by omega)
  rw [show n - (n - r) = r by omega] at h1
  exact h1
theorem kvT_put {n : Nat} {ms : List Int} {i : Nat} (h0 : 0 < i) (hi : i ≤ n) : putK (kvT n ms i) (Sum.inl (((n - i : Nat) : Int))) (V.int (ms.getD i 0)) = kvT n ms (i + 1) := by
  rw [putK_new _ (kvT_new hi)]
  conv => rhs; unfold kvT
  rw [if_pos h0]
/-! ### standing j: how many are in, and where -/
theorem stS_sum : ∀ n ∈ [2, 3, 4, 5, 6], ∀ j ∈ List.range (n + 1), (stS n j).sum = if j = 0 then 0 else 1 := by decide +kernel
theorem stS_one : ∀ n ∈ [2, 3, 4, 5, 6], ∀ j ∈ List.range (n + 1), 0 < j → (stS n j)[n - j]? = some 1 ∧ ∀ m ∈ List.range (n - j), (stS n j)[m]? = some 0 := by decide +kernel
theorem stS_zero : ∀ n ∈ [2, 3, 4, 5, 6], stS n 0 = List.replicate n 0 := by decide +kernel
end Kx
/-! law: one of its three turns. -/
namespace Kx
open PySem PySem.Spec PyProof.Rows L2
open Evl (Ex ex_rd ex_l ex_t st_of sq_of sz_lt sz_of)
theorem sc79 : FnScope ["_law_script", "_law_deal", "_law_rooms", "_law_doors_here", "_law_gates", "_law_party", "_law_house", "_law_empty", "_law_turn", "_law_answers", "_law_told", "_law_number", "_law_placing", "_law_faults", "_law_due", "_law_many", "_law_lots", "_law_room", "_law_door", "_law_answer", "_law_lot"] ["_law_script"] (defScope (topS 79)) := ⟨rfl, rfl, rfl, by decide +kernel, rfl, by decide +kernel, by decide +kernel⟩
/- slots: 0 _law_script, 1 _law_deal, 2 _law_rooms, 3 _law_doors_here, 4 _law_gates, 5 _law_party, 6 _law_house, 7 _law_empty, 8 _law_turn, 9 _law_answers, 10 _law_told, 11 _law_number, 12 _law_placing, 13 _law_faults, 14 _law_due, 15 _law_many, 16 _law_lots, 17 _law_room, 18 _law_door, 19 _law_answer, 20 _law_lot -/
abbrev lawN : List PySem.Str := ["_law_script", "_law_deal", "_law_rooms", "_law_doors_here", "_law_gates", "_law_party", "_law_house", "_law_empty", "_law_turn", "_law_answers", "_law_told", "_law_number", "_law_placing", "_law_faults", "_law_due", "_law_many", "_law_lots", "_law_room", "_law_door", "_law_answer", "_law_lot"]
abbrev lawX (P : Program) (w : World) (K : PySem.W.Frag) (mg : PySem.Str → Option Value) (base : Heap) (f : Addr) (cdv : Value) (s : Shared) (H0 : Hp) (E : XK) : Cx := (cxOf CX0 P w K mg base lawN "law" (defScope (topS 79)) f cdv callerA [] s H0 E).nox
theorem lawRoom : Room 13 callerA := ⟨rfl, by decide +kernel, by decide +kernel⟩
def lawTurn : List Stmt := match (defBody (topS 79)).getD 8 (.Pass ⟨0, 0, 0, 0⟩) with
  | .For _ _ b _ _ => b
  | _ => []
theorem LawV.w1 {σ : L2.St} {da p d x : Addr} {n : Nat} (h : LawV σ da p d x n) {i : Nat} (hi : 8 ≤ i) (v : Option V) : LawV ((wipe σ [i]).set i v) da p d x n := (h.set hi none).set hi v
/-- t, then u, the state between told by R -/
theorem st_join {t u : TS} {D : Ends} {σ : L2.St} {H : Hp} (R : L2.St → Hp → Prop) (hu : ∀ σ' H', R σ' H' → u D σ' H') (ht : ∀ nx : L2.St → Hp → Prop, (∀ σ' H', R σ' H' → nx σ' H') → t { D with nx := nx } σ H) : tSeq t u D σ H := ht (u D) hu
/-- the answers of this turn -/
structure AnsAt (σ : L2.St) (H : Hp) (da la : Addr) (n : Nat) (b : Addr) (ms : List Int) : Prop where
  s9 : σ[9]? = some (some (.ref b))
  hb : H b = some (.lst (ms.map V.int))
  ml : ms.length = n + 1
  nn : ∀ m ∈ ms, 0 ≤ m
  na : b ≠ da
  nl : b ≠ la
theorem AnsAt.ex {σ : L2.St} {H H' : Hp} {da la : Addr} {n : Nat} {b : Addr} {ms : List Int} (h : AnsAt σ H da la n b ms) (e : Ex H H') : AnsAt σ H' da la n b ms := ⟨h.s9, e _ _ h.hb, h.ml, h.nn, h.na, h.nl⟩
theorem AnsAt.set {σ : L2.St} {H : Hp} {da la : Addr} {n : Nat} {b : Addr} {ms : List Int} (h : AnsAt σ H da la n b ms) {i : Nat} (hi : 10 ≤ i) (v : Option V) : AnsAt (σ.set i v) H da la n b ms := ⟨by rw [List.getElem?_set_ne (by omega)]; exact h.s9, h.hb, h.ml, h.nn, h.na, h.nl⟩
theorem AnsAt.w1 {σ : L2.St} {H : Hp} {da la : Addr} {n : Nat} {b : Addr} {ms : List Int} (h : AnsAt σ H da la n b ms) {i : Nat} (hi : 10 ≤ i) (v : Option V) : AnsAt ((wipe σ [i]).set i v) H da la n b ms := (h.set hi none).set hi v
theorem st_nil {σ : L2.St} {H : Hp} {Q : List V → Hp → Prop} (h : Q [] H) : tNil σ H Q := h
theorem set_at {σ : L2.St} {i : Nat} {v : Option V} (h : i < σ.length) : (σ.set i v)[i]? = some v := List.getElem?_set_self h
theorem w1_at {σ : L2.St} {i : Nat} {v : Option V} (h : i < σ.length) : ((wipe σ [i]).set i v)[i]? = some v := List.getElem?_set_self (by rw [wipe_length]; exact h)
section
variable {P : Program} {w : World} {K : PySem.W.Frag} {mg : PySem.Str → Option Value} {base : Heap} {A : Ads}
theorem law_turn (T : TxtL P K mg A) (f : Addr) (cdv : Value) (s : Shared) (H0 : Hp) (E : XK) : ∃ t, PSs (lawX P w K mg base f cdv s H0 E) lawTurn t ∧
    ∀ (Dd : Ends) (σ : L2.St) (H : Hp) (da la p d g x : Addr) (ds : List Addr) (n : Nat) (D : List (List Int)) (G ns : List Int) (Ah Bh : List (List Int)) (i : Nat), i < 3 → LawV σ da p d x n → LawS A H da la p d g x ds n D G ns Ah Bh → σ[8]? = some (some (.int i)) →
      (∀ σ' H' b ms, LawV σ' da p d x n → LawS A H' da la p d g x ds n D G ns Ah Bh → AnsAt σ' H' da la n b ms → Dd.nx σ' H') → t Dd σ H := by
  have hr : Room 12 (lawX P w K mg base f cdv s H0 E).A := lawRoom.deeper _
  have hG : (lawX P w K mg base f cdv s H0 E).A.guards = some [] := rfl
  have hu := hu_of hr
  have hu65 : (lawX P w K mg base f cdv s H0 E).A.units + 65 < cLine := by have := hr.un; omega
  have D__law_any := (ok_law_any (P := P) (w := w) (base := base) T.toTxt).mono (by decide : 1 ≤ 12)
  have D_one_fault := (ok_one_fault (P := P) (w := w) (base := base) T.toTxt).mono (by decide : 9 ≤ 12)
  have D__law_mimicked := (ok_law_mimicked (P := P) (w := w) (base := base) T.toTxt).mono (by decide : 2 ≤ 12)
  have D_is_answerable := (ok_is_answerable (P := P) (w := w) (base := base) T.toTxt).mono (by decide : 9 ≤ 12)
  have D_cell_view := (ok_cell_view (P := P) (w := w) (base := base) T.toTxt).mono (by decide : 2 ≤ 12)
  have hT := T
  replace T := T.toTxt
  refine ⟨_, (pss_cons (ps_set (i := 9) sc79.nd rfl (Or.inr rfl) (pe_lc rfl sc79.nd (pi_range1 (by rfl) (T.b "range") (pa_cons (pe_callB (id := "len") (kLenO (A := A) T hr rfl rfl rfl rfl rfl) (by rfl) (T.b "len") (by decide +kernel) (pa_cons (pv 6) pa_nil)) pa_nil)) (blkOk_by (own := [("_law_number", 11)]) (by rfl)) (fun _ _ _ _ _ => (pg_name (i := 11) sc79.nd rfl (Or.inl rfl) (Or.inr rfl))) (fun _ _ _ _ _ => pts_nil) (fun _ _ _ _ _ => (pe_d D__law_any hr (by rfl) pass0 (pa_cons (pv 1) (pa_cons (pe_op op_add pe_int (pv 8)) pa_nil))))))
      (pss_cons (ps_if (pt_cmpR op_gt (pv 8) pe_int (nomark _)) (pss_one (ps_set (i := 9) sc79.nd rfl (Or.inr rfl) (pe_lc rfl sc79.nd (kPiL (K := K) rfl (pv 9)) (blkOk_by (own := [("_law_answer", 19)]) (by rfl)) (fun _ _ _ _ _ => (pg_name (i := 19) sc79.nd rfl (Or.inl rfl) (Or.inr rfl))) (fun _ _ _ _ _ => pts_nil) (fun _ _ _ _ _ => (pe_ifExp (pt_cmpR op_eq (pe_d D__law_any hr (by rfl) pass0 (pa_cons (pv 1) (pa_cons pe_int pa_nil))) pe_int (nomark _)) (pv 19) (pe_ix (kIxL (K := K) rfl) (pv 9) (pv 7) (fun _ _ => rfl))))))) pss_nil)
      (pss_cons (ps_set (i := 10) sc79.nd rfl (Or.inr rfl) pe_dnewK)
      (pss_cons (ps_for PassesOwn.never rfl (kEnum (K := K) rfl (by rfl) (T.b "enumerate") (pa_cons (kFld (K := K) rfl (pv 6) (by rfl)) pa_nil)) (kTgt (K := K) (n := 2) rfl rfl (pgs_cons (pg_name (i := 11) sc79.nd rfl (Or.inl rfl)) (pgs_cons (pg_name (i := 12) sc79.nd rfl (Or.inl rfl)) pgs_nil)) rfl rfl) (pss_one (ps_if (pt_cmpR op_gt (pe_callB (id := "sum") (kSumT (K := K) rfl rfl) (by rfl) (T.b "sum") (by decide +kernel) (pa_cons (pv 12) pa_nil)) pe_int (nomark _)) (pss_one (ps_dput hu (pv 10) (kTix (K := K) rfl hu65 (pv 12) (pa_cons pe_int pa_nil)) (pe_ix (kIxL (K := K) rfl) (pv 9) (pv 11) (fun _ _ => rfl)) (by rfl))) pss_nil)))
      (pss_cons (ps_setLc (i := 13) rfl sc79.nd rfl rfl (by rfl) (kPiT (K := K) rfl (pv 3)) (blkOk_by (own := [("_law_door", 18)]) (by rfl)) (fun _ _ _ _ _ => (pg_name (i := 18) sc79.nd rfl (Or.inl rfl) (Or.inr rfl))) (fun _ _ _ _ _ => (pts_one (pt_cmpR (kNotIn (K := K) rfl) (pe_ix (kIxL (K := K) rfl) (pv 9) (pv 7) (fun _ _ => rfl)) (pe_tup (pa_cons (pe_dget hu (pv 10) (pe_ix (kIxT (K := K) rfl) (pv 18) pe_int (fun _ _ => rfl)) (fun _ _ => rfl)) (pa_cons (pe_dget hu (pv 10) (pe_ix (kIxT (K := K) rfl) (pv 18) pe_int (fun _ _ => rfl)) (fun _ _ => rfl)) pa_nil))) (by rfl)))) (fun _ _ _ _ _ => (pv 18)))
      (pss_cons (ps_set (i := 14) sc79.nd rfl (Or.inl rfl) (pe_ifExp (pt_cmpR (kNeD (K := K) rfl hr.units) (pv 13) (pe_lst pa_nil) (nomark _)) (pe_ix (kIxL (K := K) rfl) (pv 13) pe_int (fun _ _ => rfl)) pe_non))
      (pss_cons (ps_if (PW.pt (pw_or (pt_cmpR op_ne (pe_callB (id := "repr") (cr_repr hG hr.units) (by rfl) (T.b "repr") (by decide +kernel) (pa_cons (pe_d D_one_fault hr (by rfl) passL (pa_cons (pv 5) (pa_cons (pv 9) pa_nil))) pa_nil)) (pe_callB (id := "repr") (cr_repr hG hr.units) (by rfl) (T.b "repr") (by decide +kernel) (pa_cons (pv 14) pa_nil)) (nomark _)) (pw_or1 (pt_cmpR op_ne (pe_callB (id := "repr") (cr_repr hG hr.units) (by rfl) (T.b "repr") (by decide +kernel) (pa_cons (pe_dR2 D_one_fault T.one_fault hr (by rfl) passL (pe_callTy (T := "tuple") (kTup (K := K) rfl) (by rfl) (T.b "tuple") (by decide +kernel) (pa_cons (pv 9) pa_nil)) (pv 5) (fun _ _ _ _ _ _ _ _ => rfl)) pa_nil)) (pe_callB (id := "repr") (cr_repr hG hr.units) (by rfl) (T.b "repr") (by decide +kernel) (pa_cons (pv 14) pa_nil)) (nomark _))))) (pss_one (ps_ret pe_bl)) pss_nil)
      (pss_cons (ps_if (pt_cmpR op_ne (pe_cmpR (kEqD (K := K) rfl hr.units) (pe_d D__law_mimicked hr (by rfl) pass0 (pa_cons (pv 6) (pa_cons (pv 9) pa_nil))) (pe_lst pa_nil) (nomark _)) (pe_cmpR op_isN (pv 14) pe_non (nomark _)) (nomark _)) (pss_one (ps_ret pe_bl)) pss_nil)
      (pss_one (ps_if (PW.pt (pw_and (pt_cmpR op_eq (pv 8) pe_int (nomark _)) (pw_and1 (pt_cmpR op_ne (pe_callB (id := "repr") (cr_repr hG hr.units) (by rfl) (T.b "repr") (by decide +kernel) (pa_cons (pe_d D_is_answerable hr (by rfl) pass0 (pa_cons (pv 6) (pa_cons (pe_d D_cell_view hr (by rfl) pass0 (pa_cons (pv 6) pa_nil)) (pa_cons (pv 9) pa_nil)))) pa_nil)) (pe_callB (id := "repr") (cr_repr hG hr.units) (by rfl) (T.b "repr") (by decide +kernel) (pa_cons (pe_cmpR op_isN (pv 14) pe_non (nomark _)) pa_nil)) (nomark _))))) (pss_one (ps_ret pe_bl)) pss_nil)))))))))), ?_⟩
  intro Dd σ H da la p d g x ds n D G ns Ah Bh i hi hv hs h8 q
  have hln := hs.hs.w.ln
  have h2 := hs.ok.n2
  have h6 := hs.ok.n6
  have hnn := mem_n h2 h6
  -- the drawn answers
  refine st_join (fun σ' H' => LawV σ' da p d x n ∧ LawS A H' da la p d g x ds n D G ns Ah Bh ∧ σ'[8]? = some (some (.int i)) ∧ ∃ b ms, AnsAt σ' H' da la n b ms) (fun σ1 H1 r1 => ?_) (fun nx hnx => ?_)
  rotate_left
  · refine st_asg ?_
    refine ⟨_, hv.s6, st_nil (lenO hs.hs.w.hs (by omega) ⟨_, rfl, by omega, by omega, ?_⟩)⟩
    refine lcI (Qd := fun D H' => _) walk_range da la (fun i xs H => ∃ ms : List Int, xs = ms.map V.int ∧ ms.length = i ∧ ∀ m ∈ ms, 0 ≤ m) hs.dl ⟨[], rfl, rfl, by simp⟩ (fun _ _ _ => trivial) (fun i xs H H' e z => z) (fun i xs H hi ⟨ms, h1, h2, _⟩ => by rw [h1, List.length_map]; omega) (fun k y H6 H7 Y0 Y1 xs hk eD6 eT6 dl6 pi yy k0 k1 => ?_) (fun D9 H9 xs hD9 eD9 eT9 dl9 hl9 pi => ?_)
    · obtain ⟨ms, rfl, m1, m2⟩ := pi
      obtain ⟨rfl, rfl⟩ := yy
      have hw := hv.w1 (i := 11) (by decide) (some (V.int (0 + (k : Int))))
      have w8 : ((wipe σ [11]).set 11 (some (V.int (0 + (k : Int)))))[8]? = some (some (.int i)) := by simp [wipe, h8]
      refine st_gn ⟨wipe_set (by decide), ?_⟩
      refine ⟨_, hw.s1, _, w8, _, _, rfl, rfl, ⟨da, la, _, rfl, dl6, by omega, by omega, fun H8 r e8 d8 r0 _ => ?_⟩⟩
      refine k1 _ _ e8 d8 ⟨ms ++ [r], by rw [List.map_append]; rfl, by rw [List.length_append]; simp; omega, fun m hm => ?_⟩
      rcases List.mem_append.mp hm with h | h
      · exact m2 m h
      · have : m = r := by simpa using h
        omega
    · obtain ⟨ms, rfl, m1, m2⟩ := pi
      obtain ⟨_, _, hda, hla, _⟩ := hs.dl.ex
      refine hnx _ _ ⟨hv.set (by decide) _, hs.exD eD9 dl9, by simp [h8], D9, ms, set_at (by rw [hv.sl]; decide), hl9, by omega, m2, (ne_of_none hda hD9).symm, (ne_of_none hla hD9).symm⟩
  clear hv hs h8
  obtain ⟨hv, hs, h8, b, ms, hb⟩ := r1
  -- .. drawn again
  refine st_join (fun σ' H' => LawV σ' da p d x n ∧ LawS A H' da la p d g x ds n D G ns Ah Bh ∧ σ'[8]? = some (some (.int i)) ∧ ∃ b ms, AnsAt σ' H' da la n b ms) (fun σ2 H2 r2 => ?_) (fun nx hnx => ?_)
  rotate_left
  · refine ⟨_, h8, _, _, rfl, rfl, ?_⟩
    by_cases hi0 : i = 0
    · subst hi0
      exact ⟨false, rfl, hnx _ _ ⟨hv, hs, h8, b, ms, hb⟩⟩
    · refine ⟨true, by simp; omega, ?_⟩
      simp only [if_true]
      refine st_asg ?_
      refine ⟨_, hb.s9, b, rfl, ⟨_, sq_of hb.hb⟩, ?_⟩
      have hml := hb.ml
      refine lcI (Qd := fun D H' => _) walk_list da la (fun i xs H => ∃ ms : List Int, xs = ms.map V.int ∧ ms.length = i ∧ ∀ m ∈ ms, 0 ≤ m) hs.dl ⟨[], rfl, rfl, by simp⟩ (fun H' e _ => sq_of (e _ _ hb.na hb.nl hb.hb)) (fun i xs H H' e z => z) (fun i xs H hi ⟨us, h1, h2, _⟩ => by rw [List.length_map] at hi; rw [h1, List.length_map]; omega) (fun k y H6 H7 Y0 Y1 xs hk eD6 eT6 dl6 pi yy k0 k1 => ?_) (fun D9 H9 xs hD9 eD9 eT9 dl9 hl9 pi => ?_)
      · obtain ⟨us, rfl, m1, m2⟩ := pi
        obtain ⟨rfl, yy⟩ := yy
        obtain ⟨z, ez, rfl⟩ := get_map yy
        have hz := hb.nn z (List.mem_of_getElem? ez)
        have hw := hv.w1 (i := 19) (by decide) (some (V.int z))
        have w9 := (hb.w1 (i := 19) (by decide) (some (V.int z))).s9
        have w19 : ((wipe σ1 [19]).set 19 (some (V.int z)))[19]? = some (some (.int z)) := w1_at (by rw [hv.sl]; decide)
        have hadd : ∀ r : Int, 0 ≤ r → ∀ H8, ExD da la H7 H8 → Deal H8 da la → Y1 (.int r) H8 := fun r r0 H8 e8 d8 => by
          refine k1 _ _ e8 d8 ⟨us ++ [r], by rw [List.map_append]; rfl, by rw [List.length_append]; simp; omega, fun m hm => ?_⟩
          rcases List.mem_append.mp hm with h | h
          · exact m2 m h
          · have : m = r := by simpa using h
            omega
        refine st_gn ⟨wipe_set (by decide), ?_⟩
        refine st_yes ?_
        refine ⟨_, hw.s1, ⟨da, la, _, rfl, dl6, by omega, by omega, fun H8 r e8 d8 r0 _ => ?_⟩⟩
        refine ⟨rfl, ?_⟩
        by_cases hr0 : r = 0
        · refine ⟨true, by simp [hr0], ?_⟩
          exact ⟨_, w19, hadd z hz _ e8 d8⟩
        · refine ⟨false, by simp [hr0], ?_⟩
          have hb8 := (eD6.trans e8) _ _ hb.na hb.nl hb.hb
          have h0 : atI (ms.map V.int) 0 = some (.int (ms.getD 0 0)) := by
            refine atI_map (j := 0) ?_
            rw [List.getD_eq_getElem?_getD, List.getElem?_eq_getElem (by omega)]
            rfl
          have hm0 : 0 ≤ ms.getD 0 0 := hb.nn _ (by rw [List.getD_eq_getElem?_getD, List.getElem?_eq_getElem (by omega)]; exact List.getElem_mem _)
          exact ⟨_, w9, _, hw.s7, b, _, _, _, rfl, rfl, sq_of hb8, h0, hadd _ hm0 _ e8 d8⟩
      · obtain ⟨us, rfl, m1, m2⟩ := pi
        obtain ⟨_, _, hda, hla, _⟩ := hs.dl.ex
        refine hnx _ _ ⟨hv.set (by decide) _, hs.exD eD9 dl9, by simp [h8], D9, us, set_at (by rw [hv.sl]; decide), hl9, by rw [m1, List.length_map, hml], m2, (ne_of_none hda hD9).symm, (ne_of_none hla hD9).symm⟩
  clear hv hs h8 hb b ms
  obtain ⟨hv, hs, h8, b, ms, hb⟩ := r2
  have hml := hb.ml
  have hD := hs.ok.pd
  have h0 : atI (ms.map V.int) 0 = some (.int (ms.getD 0 0)) := by
    refine atI_map (j := 0) ?_
    rw [List.getD_eq_getElem?_getD, List.getElem?_eq_getElem (by omega)]
    rfl
  -- what the guest in each room answers
  refine st_join (fun σ' H' => LawV σ' da p d x n ∧ LawS A H' da la p d g x ds n D G ns Ah Bh ∧ σ'[8]? = some (some (.int i)) ∧ AnsAt σ' H' da la n b ms ∧ ∃ dd Hb, σ'[10]? = some (some (.ref dd)) ∧ H' dd = some (.dK []) ∧ Hb dd = none ∧ Ex Hb H' ∧ LawS A Hb da la p d g x ds n D G ns Ah Bh ∧ Hb b = some (.lst (ms.map V.int))) (fun σ3 H3 r3 => ?_) (fun nx hnx => ?_)
  rotate_left
  · refine st_asg (fun dd hdd => ?_)
    have e3 : Ex H2 (upd H2 dd (.dK [])) := Ex.new hdd
    exact hnx _ _ ⟨hv.set (by decide) _, hs.exx e3, by simp [h8], (hb.ex e3).set (by decide) _, dd, H2, set_at (by rw [hv.sl]; decide), upd_same, hdd, e3, hs, hb.hb⟩
  clear hv hs h8 hb
  obtain ⟨hv, hs, h8, hb, dd, Hb, h10, hdd, hbd, eB, hsB, hbB⟩ := r3
  refine st_join (fun σ' H' => LawV σ' da p d x n ∧ LawS A H' da la p d g x ds n D G ns Ah Bh ∧ σ'[8]? = some (some (.int i)) ∧ AnsAt σ' H' da la n b ms ∧ σ'[10]? = some (some (.ref dd)) ∧ H' dd = some (.dK (kvT n ms (n + 1)))) (fun σ4 H4 r4 => ?_) (fun nx hnx => ?_)
  rotate_left
  · refine fld_standings T hs.hs.w.hs (fun sd sas tS tSs => ?_) (fun R r => ⟨_, hv.s6, r⟩)
    refine ⟨sd, _, rfl, .inr ⟨rd_t tS.rd, ?_⟩⟩
    have hsl : sas.length = n + 1 := by rw [Paired.length tSs, hln]
    have nd : ∀ {c : Addr} {o : HO}, H3 c = some o → (∀ kvs, o ≠ .dK kvs) → c ≠ dd := fun {c o} h z y => by
      rw [y, hdd] at h
      exact z _ (Option.some.inj h).symm
    refine for_it (walk_enumT (xs := sas.map V.ref)) (fun j σ' H6 => LawV σ' da p d x n ∧ σ'[8]? = some (some (.int i)) ∧ σ'[9]? = some (some (.ref b)) ∧ σ'[10]? = some (some (.ref dd)) ∧ ExB dd H3 H6 ∧ H6 dd = some (.dK (kvT n ms j)) ∧ Ex Hb H6)
      ⟨hv, h8, hb.s9, h10, fun _ _ _ h => h, hdd, eB⟩ (fun j σ' H6 _ p => ?_) (fun j y σ' H6 H7 hj p yy => ?_) (fun σ' H6 p => ?_)
    · obtain ⟨o, dO, h⟩ := tS
      exact .inl (.inr ⟨o, p.2.2.2.2.1 _ _ (nd h fun _ z => nomatch z) h⟩)
    · obtain ⟨pv, p8, p9, p10, pe, pk, pB⟩ := p
      obtain ⟨Tp, x1, x2, rfl, hT, rfl, y1, y2⟩ := yy
      cases (Option.some.inj y1)
      obtain ⟨ta, eta, rfl⟩ := get_map y2
      rw [List.length_map, hsl] at hj
      obtain ⟨row, erow, trow⟩ := paired_at tSs eta
      rw [hs.hs.row (k := j) (by omega)] at erow
      cases erow
      have trow6 : Ft H6 ta ((stS n j).map V.int) := by
        obtain ⟨o, dO, h⟩ := trow
        exact ⟨o, dO, pe _ _ (nd h fun _ z => nomatch z) h⟩
      have hb6 : H6 b = some (.lst (ms.map V.int)) := pe _ _ (nd hb.hb fun _ z => nomatch z) hb.hb
      refine ⟨Tp, _, rfl, st_of upd_same, rfl, _, _, rfl, _, _, rfl, rfl, ?_⟩
      have eT : Ex H6 (upd H6 Tp (.tup [.int (j : Nat), .ref ta])) := Ex.new hT
      have trT := trow6.same eT
      have hbT := eT _ _ hb6
      have pkT := eT _ _ pk
      have peT : ExB dd H3 (upd H6 Tp (.tup [.int (j : Nat), .ref ta])) := fun c o hc h => eT _ _ (pe c o hc h)
      have pBT := pB.trans eT
      generalize (upd H6 Tp (.tup [.int (j : Nat), .ref ta])) = HT at eT trT hbT pkT peT pBT ⊢
      have pv2 := (pv.set (i := 11) (by decide) (some (V.int (j : Nat)))).set (i := 12) (by decide) (some (V.ref ta))
      have g11 : ((σ'.set 11 (some (V.int (j : Nat)))).set 12 (some (V.ref ta)))[11]? = some (some (.int (j : Nat))) := by simp [pv.sl]
      have g12 : ((σ'.set 11 (some (V.int (j : Nat)))).set 12 (some (V.ref ta)))[12]? = some (some (.ref ta)) := by simp [pv.sl]
      have g8 : ((σ'.set 11 (some (V.int (j : Nat)))).set 12 (some (V.ref ta)))[8]? = some (some (.int i)) := by simp [p8]
      have g9 : ((σ'.set 11 (some (V.int (j : Nat)))).set 12 (some (V.ref ta)))[9]? = some (some (.ref b)) := by simp [p9]
      have g10 : ((σ'.set 11 (some (V.int (j : Nat)))).set 12 (some (V.ref ta)))[10]? = some (some (.ref dd)) := by simp [p10]
      generalize (σ'.set 11 (some (V.int (j : Nat)))).set 12 (some (V.ref ta)) = σ5 at pv2 g11 g12 g8 g9 g10 ⊢
      have hsum := stS_sum n hnn j (List.mem_range.mpr hj)
      refine ⟨_, g12, ta, stS n j, rfl, rd_t trT.rd, _, _, rfl, rfl, ?_⟩
      by_cases hj0 : j = 0
      · refine ⟨false, by rw [hsum, if_pos hj0]; rfl, ?_⟩
        subst hj0
        exact ⟨pv2, g8, g9, g10, peT, pkT, pBT⟩
      · refine ⟨true, by rw [hsum, if_neg hj0]; rfl, ?_⟩
        obtain ⟨o1, o2⟩ := stS_one n hnn j (List.mem_range.mpr hj) (by omega)
        have hat : ms[j]? = some (ms.getD j 0) := by
          rw [List.getD_eq_getElem?_getD, List.getElem?_eq_getElem (by omega)]
          rfl
        have hkl := kvT_len n ms j
        refine ⟨_, g9, _, g11, b, _, _, _, rfl, rfl, sq_of hbT, atI_map hat, _, g10, _, g12, ta, _, rfl, trT, .int 1, .int 1, dInts (stS n j), n - j, .int 1, rfl, rd_t trT.rd, dp_ints _, .int 1, shaped_intsT _, shaped_int 1, by rw [List.getElem?_map, o1]; rfl, by decide, fun m z hm hz => ?_, dd, _, rfl, DPut.k (k := Sum.inl ((n - j : Nat) : Int)) pkT (sz_lt (by omega)), ?_⟩
        · rw [List.getElem?_map, o2 m (List.mem_range.mpr hm)] at hz
          cases (Option.some.inj hz)
          decide
        · refine ⟨pv2, g8, g9, g10, fun c o hc h => by rw [upd_ne hc]; exact peT c o hc h, ?_, pBT.mut hbd⟩
          rw [upd_same, kvT_put (by omega) (by omega)]
    · obtain ⟨pv, p8, p9, p10, pe, pk, pB⟩ := p
      rw [List.length_map, hsl] at pk
      exact hnx _ _ ⟨pv, hsB.exx pB, p8, ⟨p9, pB _ _ hbB, hml, hb.nn, hb.na, hb.nl⟩, p10, pk⟩
  clear hv hs h8 hb h10 hdd hbd eB hsB hbB
  obtain ⟨hv, hs, h8, hb, h10, hdd⟩ := r4
  -- the faulty doors, the first
  refine st_join (fun σ' H' => LawV σ' da p d x n ∧ LawS A H' da la p d g x ds n D G ns Ah Bh ∧ σ'[8]? = some (some (.int i)) ∧ AnsAt σ' H' da la n b ms ∧ ∃ fl as Fs, σ'[13]? = some (some (.ref fl)) ∧ H' fl = some (.lst (as.map V.ref)) ∧ Tus H' as Fs ∧ Fs.head? = fault n ms D ∧ Fs.length ≤ 50) (fun σ5 H5 r5 => ?_) (fun nx hnx => ?_)
  rotate_left
  · refine st_asg ?_
    have hdl := Paired.length hs.pt.ds.2
    have hd50 := hs.ok.dl
    refine ⟨_, hv.s3, d, rfl, ⟨_, rd_t hs.pt.ds.1⟩, ?_⟩
    refine lcV (Qd := fun D H' => _) walk_tup (fun k => isFault n ms (D.getD k [])) (fun k => .ref (ds.getD k 0)) (by rw [List.length_map]; omega) (fun H' e => rd_t (ex_rd e hs.pt.ds.1)) (fun k y H8 H9 Y0 Y1 hk e yy k0 k1 => ?_) (fun D9 H9 hD9 e9 hl9 => ?_)
    · obtain ⟨rfl, yy⟩ := yy
      obtain ⟨c, ec, rfl⟩ := get_map yy
      obtain ⟨dr, edr, tc⟩ := paired_at hs.pt.ds.2 ec
      obtain ⟨a, a', rfl, ha0, hab, hbn⟩ := hD.pair dr (List.mem_of_getElem? edr)
      obtain ⟨a, rfl⟩ : ∃ k : Nat, a = k := ⟨a.toNat, by omega⟩
      obtain ⟨a', rfl⟩ : ∃ k : Nat, a' = k := ⟨a'.toNat, by omega⟩
      rw [getD_at edr, getD_at ec] at *
      have hw := hv.w1 (i := 18) (by decide) (some (V.ref c))
      have hbw := (hb.w1 (i := 18) (by decide) (some (V.ref c))).s9
      have w10 : ((wipe σ4 [18]).set 18 (some (V.ref c)))[10]? = some (some (.ref dd)) := by simp [wipe, h10]
      have w18 : ((wipe σ4 [18]).set 18 (some (V.ref c)))[18]? = some (some (.ref c)) := w1_at (by rw [hv.sl]; decide)
      have tc8 := tc.same e
      have hd8 := e _ _ hdd
      have g1 : DGet H9 dd (.int (a : Nat)) (some (.int (ansR n ms (a : Nat)))) := by
        have := DGet.k (k := Sum.inl ((a : Nat) : Int)) hd8
        rwa [kvT_room (by omega)] at this
      have g2 : DGet H9 dd (.int (a' : Nat)) (some (.int (ansR n ms (a' : Nat)))) := by
        have := DGet.k (k := Sum.inl ((a' : Nat) : Int)) hd8
        rwa [kvT_room (by omega)] at this
      refine st_gn ⟨wipe_set (by decide), ?_⟩
      refine ⟨_, hbw, _, hw.s7, b, _, _, _, rfl, rfl, sq_of (e _ _ hb.hb), h0, _, w10, _, w18, c, _, _, _, rfl, rfl, rd_t tc8, rfl, dd, _, rfl, g1, _, w10, _, w18, c, _, _, _, rfl, rfl, rd_t tc8, rfl, dd, _, rfl, g2, (by decide : 2 ≤ sizeLine), fun t ht => ⟨t, [V.int (ansR n ms (a : Nat)), V.int (ansR n ms (a' : Nat))], rfl, .inr (st_of upd_same), rfl, rfl, ?_⟩⟩
      have hin : inV (.int (ms.getD 0 0)) [V.int (ansR n ms (a : Nat)), V.int (ansR n ms (a' : Nat))] = decide (ms.getD 0 0 ∈ [ansR n ms (a : Nat), ansR n ms (a' : Nat)]) := inV_ints _ [ansR n ms (a : Nat), ansR n ms (a' : Nat)]
      rw [hin]
      have hf : isFault n ms [(a : Int), (a' : Int)] = !decide (ms.getD 0 0 ∈ [ansR n ms (a : Nat), ansR n ms (a' : Nat)]) := by
        show (decide (ansR n ms (a : Nat) ≠ ms.getD 0 0) && decide (ansR n ms (a' : Nat) ≠ ms.getD 0 0)) = _
        generalize ansR n ms (a : Nat) = A1
        generalize ansR n ms (a' : Nat) = A2
        generalize ms.getD 0 0 = e0
        by_cases h1 : A1 = e0
        · simp [h1]
        · by_cases h2 : A2 = e0
          · simp [h2]
          · have h3 : ¬ e0 = A1 := fun z => h1 z.symm
            have h4 : ¬ e0 = A2 := fun z => h2 z.symm
            simp [h1, h2, h3, h4]
      rw [hf] at k0 k1
      by_cases hc : ms.getD 0 0 ∈ [ansR n ms (a : Nat), ansR n ms (a' : Nat)]
      · rw [decide_eq_true hc] at k0 k1 ⊢
        exact ⟨false, rfl, k0 _ rfl (Ex.new ht)⟩
      · rw [decide_eq_false hc] at k0 k1 ⊢
        exact ⟨true, rfl, _, w18, k1 _ rfl (Ex.new ht)⟩
    · rw [List.length_map, hdl] at hl9
      refine hnx _ _ ⟨hv.set (by decide) _, hs.exx e9, by simp [h8], (hb.ex e9).set (by decide) _, D9, ((List.range D.length).filter fun k => isFault n ms (D.getD k [])).map (fun k => ds.getD k 0), ((List.range D.length).filter fun k => isFault n ms (D.getD k [])).map (fun k => D.getD k []), set_at (by rw [hv.sl]; decide), ?_, ?_, find_places D (isFault n ms), ?_⟩
      · rw [hl9, List.map_map]
        rfl
      · refine paired_of _ _ _ fun k hk => ?_
        have hk' := List.mem_range.mp (List.mem_filter.mp hk).1
        have h1 : ds[k]? = some (ds.getD k 0) := by rw [List.getD_eq_getElem?_getD, List.getElem?_eq_getElem (by omega)]; rfl
        have h2 : D[k]? = some (D.getD k []) := by rw [List.getD_eq_getElem?_getD, List.getElem?_eq_getElem hk']; rfl
        exact (paired_get hs.pt.ds.2 h1 h2).same e9
      · rw [List.length_map]
        have := List.length_filter_le (fun k => isFault n ms (D.getD k [])) (List.range D.length)
        rw [List.length_range] at this
        omega
  clear hv hs h8 hb h10 hdd
  obtain ⟨hv, hs, h8, hb, fl, as, Fs, h13, hfl, hFs, hhead, hF50⟩ := r5
  have hal := Paired.length hFs
  refine st_join (fun σ' H' => LawV σ' da p d x n ∧ LawS A H' da la p d g x ds n D G ns Ah Bh ∧ σ'[8]? = some (some (.int i)) ∧ AnsAt σ' H' da la n b ms ∧ ∃ v, σ'[14]? = some (some v) ∧ DueAt H' v (fault n ms D)) (fun σ6 H6 r6 => ?_) (fun nx hnx => ?_)
  rotate_left
  · refine st_asg ?_
    refine ⟨_, h13, Nat.zero_le _, fun l hl => ⟨.list (dTus Fs), .list [], .lst (sq_of ((Ex.new hl) _ _ hfl)) (hFs.same (Ex.new hl)).dp, dp_list (ns := []) (sq_of upd_same), shaped_tusL _, shaped_tusL [], ?_⟩⟩
    have e6 : Ex H5 (upd H5 l (.lst [])) := Ex.new hl
    rw [eqv_tusL]
    cases Fs with
    | nil =>
      refine ⟨false, rfl, ?_⟩
      refine hnx _ _ ⟨hv.set (by decide) _, hs.exx e6, by simp [h8], (hb.ex e6).set (by decide) _, _, set_at (by rw [hv.sl]; decide), ?_⟩
      rw [← hhead]
      exact .non
    | cons F Fs =>
      refine ⟨true, rfl, ?_⟩
      obtain ⟨c, as', rfl, tc⟩ : ∃ c as', as = c :: as' ∧ Tu H5 c F := by
        cases hFs with
        | cons tc _ => exact ⟨_, _, rfl, tc⟩
      refine ⟨_, h13, fl, _, _, _, rfl, rfl, sq_of (e6 _ _ hfl), atI_nat (j := 0) rfl, ?_⟩
      refine hnx _ _ ⟨hv.set (by decide) _, hs.exx e6, by simp [h8], (hb.ex e6).set (by decide) _, _, set_at (by rw [hv.sl]; decide), ?_⟩
      rw [← hhead]
      exact .tu (tc.same e6)
  clear hv hs h8 hb h13 hfl hFs hhead hF50 hal
  obtain ⟨hv, hs, h8, hb, v, h14, hdue⟩ := r6
  -- what one_fault answers
  have mf := mim_fault (G := G) hD hml
  refine st_join (fun σ' H' => LawV σ' da p d x n ∧ LawS A H' da la p d g x ds n D G ns Ah Bh ∧ σ'[8]? = some (some (.int i)) ∧ AnsAt σ' H' da la n b ms ∧ σ'[14]? = some (some v) ∧ DueAt H' v (fault n ms D)) (fun σ7 H7 r7 => ?_) (fun nx hnx => ?_)
  rotate_left
  · refine ⟨_, hv.s5, _, hb.s9, fault_call hs.pt hs.ok hs.gn (.inl (.inl hb.hb)) hml hb.nn (fun H8 v8 e8 d8 => st_nil (d8.repr hD h6 ⟨_, h14, st_nil ((hdue.ex e8).repr hD h6 ⟨rfl, false, by simp, ?_⟩)⟩))⟩
    have hb8 := hb.ex e8
    have hs8 := hs.exx e8
    refine ⟨_, hb.s9, b, _, rfl, .inl ⟨sq_of hb8.hb, fun t ht => ?_⟩⟩
    have e9 : Ex H8 (upd H8 t (.tup (ms.map V.int))) := Ex.new ht
    refine ⟨_, hv.s5, fault_call (hs8.exx e9).pt hs.ok hs.gn (.inr (.inl upd_same)) hml hb.nn (fun H10 v10 e10 d10 => st_nil (d10.repr hD h6 ⟨_, h14, st_nil ((((hdue.ex e8).ex e9).ex e10).repr hD h6 ⟨rfl, false, by simp, ?_⟩)⟩))⟩
    exact hnx _ _ ⟨hv, (hs8.exx e9).exx e10, h8, (hb8.ex e9).ex e10, h14, ((hdue.ex e8).ex e9).ex e10⟩
  clear hv hs h8 hb h14 hdue
  obtain ⟨hv, hs, h8, hb, h14, hdue⟩ := r7
  -- all that is mimicked
  refine st_join (fun σ' H' => LawV σ' da p d x n ∧ LawS A H' da la p d g x ds n D G ns Ah Bh ∧ σ'[8]? = some (some (.int i)) ∧ AnsAt σ' H' da la n b ms ∧ σ'[14]? = some (some v) ∧ DueAt H' v (fault n ms D)) (fun σ8 H8 r8 => ?_) (fun nx hnx => ?_)
  rotate_left
  · refine ⟨_, hv.s6, _, hb.s9, ⟨x, b, n, _, ns, Ah, Bh, ms, rfl, hs.hs, .inl hb.hb, hml, fun H9 c xs e9 hc hM => ⟨Nat.zero_le _, fun l hl => ?_⟩⟩⟩
    have e10 : Ex H9 (upd H9 l (.lst [])) := Ex.new hl
    refine ⟨.list (dInts xs), .list (dInts []), dp_list (sq_of (e10 _ _ hc)), dp_list (ns := []) (sq_of upd_same), shaped_intsL _, shaped_intsL _, ?_⟩
    rw [eqv_list]
    refine ⟨_, h14, rfl, rfl, false, ?_, ?_⟩
    · rw [hdue.isN]
      have : (xs = []) ↔ (fault n ms D = none) := by
        constructor
        · intro h
          exact Decidable.byContradiction fun z => (hM.mpr (mf.mpr z)) h
        · intro h
          exact Decidable.byContradiction fun z => (mf.mp (hM.mp z)) h
      simp [this]
    · exact hnx _ _ ⟨hv, (hs.exx e9).exx e10, h8, (hb.ex e9).ex e10, h14, (hdue.ex e9).ex e10⟩
  clear hv hs h8 hb h14 hdue
  obtain ⟨hv, hs, h8, hb, h14, hdue⟩ := r8
  -- and whether it is answerable
  refine ⟨_, h8, rfl, ?_⟩
  by_cases hi1 : i = 1
  · refine ⟨true, by simp [hi1], ?_⟩
    refine ⟨_, hv.s6, _, hv.s6, ⟨x, ns, _, Ah, Bh, rfl, hs.hs.w.hs, by rw [hs.hs.nl]; omega, fun H9 vw vas e9 tv => ?_⟩⟩
    rw [hs.hs.nl] at tv
    have hb9 := hb.ex e9
    refine ⟨_, hb.s9, ⟨x, vw, b, vas, n, _, ns, Ah, Bh, ms, rfl, hs.hs.ex e9, tv, .inl hb9.hb, hml, hb.nn, fun H10 r e10 hr10 => st_nil (bl_repr ⟨_, h14, rfl, st_nil ?_⟩)⟩⟩
    have : r = decide (v = .non) := by
      rw [hdue.isN, Bool.eq_iff_iff, hr10, mf]
      simp
    rw [this]
    refine bl_repr ⟨rfl, false, by simp, ?_⟩
    exact q _ _ b ms hv ((hs.exx e9).exx e10) (hb9.ex e10)
  · refine ⟨false, by simp; omega, ?_⟩
    exact q _ _ b ms hv hs hb
end
end Kx
/-! law: what follows its turns. -/
namespace Kx
open PySem PySem.Spec PyProof.Rows L2
open LamX (TabB)
open Evl (Ex ex_rd ex_l ex_t st_of sq_of sz_lt sz_of)
def lawRest : List Stmt := (defBody (topS 79)).drop 9
theorem AnsAt.exD {σ : L2.St} {H H' : Hp} {da la : Addr} {n : Nat} {b : Addr} {ms : List Int} (h : AnsAt σ H da la n b ms) (e : ExD da la H H') : AnsAt σ H' da la n b ms := ⟨h.s9, e _ _ h.na h.nl h.hb, h.ml, h.nn, h.na, h.nl⟩
/-- no door leads from the lot to room i: the list of those is empty -/
theorem free_none {n : Nat} {D : List (List Int)} (hD : PD n D) (i : Nat) (lot : List Int) : ((List.range D.length).filter fun k => decide ((D.getD k []).getD 1 0 = (i : Int)) && decide ((D.getD k []).getD 0 0 ∈ lot)).length = 0 ↔ freeOf D i lot = true := by
  unfold freeOf
  rw [List.length_eq_zero_iff, List.filter_eq_nil_iff, Bool.not_eq_true', List.any_eq_false]
  constructor
  · intro h o ho
    have : ¬ [o, (i : Int)] ∈ D := fun hm => by
      obtain ⟨k, hk, e⟩ := List.mem_iff_getElem.mp hm
      have := h k (List.mem_range.mpr hk)
      have e2 : D.getD k [] = [o, (i : Int)] := by rw [List.getD_eq_getElem?_getD, List.getElem?_eq_getElem hk, e]; rfl
      rw [e2] at this
      simp [ho] at this
    simp [this]
  · intro h k hk
    have hk := List.mem_range.mp hk
    have hm : D.getD k [] ∈ D := by rw [List.getD_eq_getElem?_getD, List.getElem?_eq_getElem hk]; exact List.getElem_mem _
    obtain ⟨a, c, e, _⟩ := hD.pair _ hm
    rw [e] at hm ⊢
    intro z
    rw [Bool.and_eq_true] at z
    have z1 : c = (i : Int) := of_decide_eq_true z.1
    have z2 : a ∈ lot := of_decide_eq_true z.2
    have := h a z2
    rw [← z1] at this
    exact this (decide_eq_true hm)
section
variable {P : Program} {w : World} {K : PySem.W.Frag} {mg : PySem.Str → Option Value} {base : Heap} {A : Ads}
theorem law_rest (T : TxtL P K mg A) (TB : TabB base mg A.code A.table) (f : Addr) (cdv : Value) (s : Shared) (H0 : Hp) (E : XK) : ∃ t, PSs (lawX P w K mg base f cdv s H0 E) lawRest t ∧
    ∀ (Dd : Ends) (σ : L2.St) (H : Hp) (da la p d g x : Addr) (ds : List Addr) (n : Nat) (D : List (List Int)) (G ns : List Int) (Ah Bh : List (List Int)) (b : Addr) (ms : List Int), LawV σ da p d x n → LawS A H da la p d g x ds n D G ns Ah Bh → AnsAt σ H da la n b ms →
      (∀ H', Dd.rt (.bl true) H') → t Dd σ H := by
  have hr : Room 12 (lawX P w K mg base f cdv s H0 E).A := lawRoom.deeper _
  have hG : (lawX P w K mg base f cdv s H0 E).A.guards = some [] := rfl
  have hu := hu_of hr
  have hu65 : (lawX P w K mg base f cdv s H0 E).A.units + 65 < cLine := by have := hr.un; omega
  have D__law_any := (ok_law_any (P := P) (w := w) (base := base) T.toTxt).mono (by decide : 1 ≤ 12)
  have D_count_one := (ok_count_one (P := P) (w := w) (base := base) T.toTxt).mono (by decide : 7 ≤ 12)
  have D__law_numbered := (ok_law_numbered (P := P) (w := w) (base := base) T.toTxt).mono (by decide : 1 ≤ 12)
  have D__law_refusals := (ok_law_refusals (P := P) (w := w) (base := base) T TB)
  have hT := T
  replace T := T.toTxt
  refine ⟨_, (pss_cons (ps_set (i := 15) sc79.nd rfl (Or.inl rfl) (pe_op op_add pe_int (pe_d D__law_any hr (by rfl) pass0 (pa_cons (pv 1) (pa_cons (pe_ifExp (pt_cmpR op_lt (pv 2) pe_int (nomark _)) pe_int pe_int) pa_nil)))))
      (pss_cons (ps_set (i := 14) sc79.nd rfl (Or.inl rfl) (pe_d D__law_numbered hr (by rfl) pass0 (pa_cons (pv 2) (pa_cons (pv 3) (pa_cons (pv 15) pa_nil)))))
      (pss_cons (ps_if (PW.pt (pw_or (pt_cmpR op_ne (pe_callB (id := "repr") (cr_repr hG hr.units) (by rfl) (T.b "repr") (by decide +kernel) (pa_cons (pe_d D_count_one hr (by rfl) passL (pa_cons (pv 5) (pa_cons (pv 15) pa_nil))) pa_nil)) (pe_callB (id := "repr") (cr_repr hG hr.units) (by rfl) (T.b "repr") (by decide +kernel) (pa_cons (pv 14) pa_nil)) (nomark _)) (pw_or1 (pt_cmpR op_ne (pe_callB (id := "repr") (cr_repr hG hr.units) (by rfl) (T.b "repr") (by decide +kernel) (pa_cons (pe_dR2 D_count_one T.count_one hr (by rfl) passL (pv 15) (pv 5) (fun _ _ _ _ _ _ _ _ => rfl)) pa_nil)) (pe_callB (id := "repr") (cr_repr hG hr.units) (by rfl) (T.b "repr") (by decide +kernel) (pa_cons (pv 14) pa_nil)) (nomark _))))) (pss_one (ps_ret pe_bl)) pss_nil)
      (pss_cons (ps_set (i := 16) sc79.nd rfl (Or.inl rfl) (pe_lst (pa_cons (pe_tup pa_nil) pa_nil)))
      (pss_cons (ps_for PassesOwn.never rfl (pi_range1 (by rfl) (T.b "range") (pa_cons (pv 2) pa_nil)) (pg_name (i := 17) sc79.nd rfl (Or.inr rfl)) (pss_one (ps_set (i := 16) sc79.nd rfl (Or.inl rfl) (pe_op op_cat (pv 16) (pe_lc rfl sc79.nd (kPiL (K := K) rfl (pv 16)) (blkOk_by (own := [("_law_lot", 20)]) (by rfl)) (fun _ _ _ _ _ => (pg_name (i := 20) sc79.nd rfl (Or.inr rfl) (Or.inl rfl))) (fun _ _ _ _ _ => (pts_one (pt_cmpR op_eq (pe_callB (id := "len") (kLen (K := K) rfl) (by rfl) (T.b "len") (by decide +kernel) (pa_cons (pe_lc rfl sc79.nd (kPiT (K := K) rfl (pv 3)) (blkOk_by (own := [("_law_door", 18)]) (by rfl)) (fun _ _ _ _ _ => (pg_name (i := 18) sc79.nd rfl (Or.inl rfl) (Or.inr rfl))) (fun _ _ _ _ _ => (pts_one (PW.pt (pw_and (pt_cmpR op_eq (pe_ix (kIxT (K := K) rfl) (pv 18) pe_int (fun _ _ => rfl)) (pv 17) (nomark _)) (pw_and1 (pt_cmpR (kIn (K := K) rfl) (pe_ix (kIxT (K := K) rfl) (pv 18) pe_int (fun _ _ => rfl)) (pv 20) (by rfl))))))) (fun _ _ _ _ _ => (pv 18))) pa_nil)) pe_int (nomark _)))) (fun _ _ _ _ _ => (pe_op (kCatF (K := K) rfl) (pv 20) (pe_tup (pa_cons (pv 17) pa_nil)))))))))
      (pss_cons (ps_if (PW.pt (pw_or (pt_cmpR op_ne (pe_callB (id := "repr") (cr_repr hG hr.units) (by rfl) (T.b "repr") (by decide +kernel) (pa_cons (pe_d D_count_one hr (by rfl) passL (pa_cons (pv 5) (pa_cons pe_int pa_nil))) pa_nil)) (pe_callB (id := "repr") (cr_repr hG hr.units) (by rfl) (T.b "repr") (by decide +kernel) (pa_cons (pe_op op_mul pe_int (pe_callB (id := "len") (kLen (K := K) rfl) (by rfl) (T.b "len") (by decide +kernel) (pa_cons (pv 16) pa_nil))) pa_nil)) (nomark _)) (pw_or1 (pt_cmpR op_ne (pe_callB (id := "repr") (cr_repr hG hr.units) (by rfl) (T.b "repr") (by decide +kernel) (pa_cons (pe_d D_count_one hr (by rfl) passL (pa_cons (pv 5) (pa_cons pe_int pa_nil))) pa_nil)) pe_str (nomark _))))) (pss_one (ps_ret pe_bl)) pss_nil)
      (pss_one (ps_ret (pe_d D__law_refusals hr (by rfl) pass0 (pa_cons (pv 1) (pa_cons (pv 5) (pa_cons (pv 9) pa_nil)))))))))))), ?_⟩
  intro Dd σ H da la p d g x ds n D G ns Ah Bh b ms hv hs hb q
  have h2 := hs.ok.n2
  have h6 := hs.ok.n6
  have hD := hs.ok.pd
  -- a number of answers
  refine st_join (fun σ' H' => LawV σ' da p d x n ∧ LawS A H' da la p d g x ds n D G ns Ah Bh ∧ AnsAt σ' H' da la n b ms ∧ ∃ a : Nat, 1 ≤ a ∧ a ≤ 3 ∧ σ'[15]? = some (some (.int a))) (fun σ1 H1 r1 => ?_) (fun nx hnx => ?_)
  rotate_left
  · refine st_asg ?_
    have key : ∀ m : Int, m = 3 ∨ m = 2 → spAny [.ref da, .int m] H (fun y H' => rI0 (fun i j => .int (i + j)) (.int 1) y H' fun v H1 => nx (σ.set 15 (some v)) H1) E0 := fun m hm => by
      refine ⟨da, la, m, rfl, hs.dl, by omega, by omega, fun H' r e dl r0 r1 => ?_⟩
      refine ⟨_, _, rfl, rfl, ?_⟩
      refine hnx _ _ ⟨hv.set (by decide) _, hs.exD e dl, (hb.exD e).set (by decide) _, (1 + r).toNat, by omega, by omega, ?_⟩
      rw [set_at (by rw [hv.sl]; decide), Int.toNat_of_nonneg (by omega)]
    refine ⟨_, hv.s1, _, hv.s2, _, _, rfl, rfl, ?_⟩
    by_cases hn5 : n < 5
    · exact ⟨true, by simp; omega, key 3 (.inl rfl)⟩
    · exact ⟨false, by simp; omega, key 2 (.inr rfl)⟩
  clear hv hs hb
  obtain ⟨hv, hs, hb, a, ha1, ha3, h15⟩ := r1
  have hcs := count_small (D := D) ha1 ha3 h6
  refine st_join (fun σ' H' => LawV σ' da p d x n ∧ LawS A H' da la p d g x ds n D G ns Ah Bh ∧ AnsAt σ' H' da la n b ms ∧ σ'[15]? = some (some (.int a)) ∧ σ'[14]? = some (some (.int (countOf D n a)))) (fun σ2 H2 r2 => ?_) (fun nx hnx => ?_)
  rotate_left
  · refine st_asg ?_
    refine ⟨_, hv.s2, _, hv.s3, _, h15, ⟨d, ds, n, a, D, rfl, hs.pt.ds, h6, ha3, fun H' e => ?_⟩⟩
    refine hnx _ _ ⟨hv.set (by decide) _, hs.exx e, (hb.ex e).set (by decide) _, by simp [h15], ?_⟩
    rw [set_at (by rw [hv.sl]; decide), num_count D n a ha1]
  clear hv hs hb h15
  obtain ⟨hv, hs, hb, h15, h14⟩ := r2
  refine st_join (fun σ' H' => LawV σ' da p d x n ∧ LawS A H' da la p d g x ds n D G ns Ah Bh ∧ AnsAt σ' H' da la n b ms) (fun σ3 H3 r3 => ?_) (fun nx hnx => ?_)
  rotate_left
  · refine ⟨_, hv.s5, _, h15, count_call hs.pt hs.ok hs.gn (by omega) (by omega) (fun H8 e8 => st_nil (int_repr hcs ⟨_, h14, st_nil (int_repr hcs ⟨rfl, false, by simp, ?_⟩)⟩))⟩
    have hs8 := hs.exx e8
    refine ⟨_, h15, _, hv.s5, count_call hs8.pt hs.ok hs.gn (by omega) (by omega) (fun H9 e9 => st_nil (int_repr hcs ⟨_, h14, st_nil (int_repr hcs ⟨rfl, false, by simp, ?_⟩)⟩))⟩
    exact hnx _ _ ⟨hv, hs8.exx e9, (hb.ex e8).ex e9⟩
  clear hv hs hb h15 h14 hcs
  obtain ⟨hv, hs, hb⟩ := r3
  -- the lots
  refine st_join (fun σ' H' => LawV σ' da p d x n ∧ LawS A H' da la p d g x ds n D G ns Ah Bh ∧ AnsAt σ' H' da la n b ms ∧ ∃ lb as, σ'[16]? = some (some (.ref lb)) ∧ H' lb = some (.lst (as.map V.ref)) ∧ Tus H' as (lotsOf D 0)) (fun σ4 H4 r4 => ?_) (fun nx hnx => ?_)
  rotate_left
  · refine st_asg ?_
    refine ⟨Nat.zero_le _, fun u hu => ⟨(by decide : 1 ≤ sizeLine), fun l hl => ?_⟩⟩
    have e1 : Ex H3 (upd H3 u (.tup [])) := Ex.new hu
    have e2 := ex2 (o := .lst [.ref u]) e1 hl
    refine hnx _ _ ⟨hv.set (by decide) _, hs.exx e2, (hb.ex e2).set (by decide) _, l, [u], set_at (by rw [hv.sl]; decide), upd_same, .cons (.inl ((Ex.new hl) _ _ upd_same)) .nil⟩
  clear hv hs hb
  obtain ⟨hv, hs, hb, lb, as, h16, hlb, has⟩ := r4
  refine st_join (fun σ' H' => LawV σ' da p d x n ∧ LawS A H' da la p d g x ds n D G ns Ah Bh ∧ AnsAt σ' H' da la n b ms ∧ ∃ lb as, σ'[16]? = some (some (.ref lb)) ∧ H' lb = some (.lst (as.map V.ref)) ∧ Tus H' as (lotsOf D n)) (fun σ5 H5 r5 => ?_) (fun nx hnx => ?_)
  rotate_left
  · refine ⟨_, hv.s2, _, rfl, by omega, by omega, ?_⟩
    refine for_it walk_range (fun i σ' H' => LawV σ' da p d x n ∧ LawS A H' da la p d g x ds n D G ns Ah Bh ∧ AnsAt σ' H' da la n b ms ∧ ∃ lb as, σ'[16]? = some (some (.ref lb)) ∧ H' lb = some (.lst (as.map V.ref)) ∧ Tus H' as (lotsOf D i)) ⟨hv, hs, hb, lb, as, h16, hlb, has⟩ (fun _ _ _ _ _ => trivial) (fun i y σ' H' H'' hi p yy => ?_) (fun σ' H6 p => ?_)
    · clear hv hs hb h16 hlb has
      obtain ⟨hv, hs, hb, lb, as, h16, hlb, has⟩ := p
      obtain ⟨rfl, rfl⟩ := yy
      have hin : i < n := by simpa using hi
      have hal := Paired.length has
      have hL : (lotsOf D i).length ≤ 64 := Nat.le_trans (lots_len D i) (Nat.le_trans (Nat.pow_le_pow_right (by omega) (by omega : i ≤ 6)) (by decide))
      have hdl := Paired.length hs.pt.ds.2
      have hd50 := hs.ok.dl
      refine st_gn ?_
      dsimp only
      replace hv := hv.set (i := 17) (by decide) (some (V.int (0 + (i : Int))))
      replace hb := hb.set (i := 17) (by decide) (some (V.int (0 + (i : Int))))
      have h17 : (σ'.set 17 (some (V.int (0 + (i : Int)))))[17]? = some (some (.int (i : Nat))) := by
        have := hv.sl
        rw [List.length_set] at this
        rw [set_at (by omega)]
        simp
      replace h16 : (σ'.set 17 (some (V.int (0 + (i : Int)))))[16]? = some (some (.ref lb)) := by simp [h16]
      generalize σ'.set 17 (some (V.int (0 + (i : Int)))) = σ6 at hv hb h16 h17 ⊢
      refine st_asg ?_
      refine ⟨_, h16, _, h16, lb, rfl, ⟨_, sq_of hlb⟩, ?_⟩
      refine lcU (Qd := fun D H' => _) walk_list (fun k => freeOf D i ((lotsOf D i).getD k [])) (fun k => (lotsOf D i).getD k [] ++ [(i : Int)]) (by rw [List.length_map]; omega) (fun H' e => sq_of (e _ _ hlb)) (fun k y H8 H9 Y0 Y1 hk e yy k0 k1 => ?_) (fun D9 H9 ts hD9 e9 hl9 tts => ?_)
      · obtain ⟨rfl, yy⟩ := yy
        obtain ⟨la', ela, rfl⟩ := get_map yy
        obtain ⟨lot, elot, tl⟩ := paired_at has ela
        rw [getD_at elot] at k0 k1
        obtain ⟨hl1, hl2⟩ := lots_el D i lot (List.mem_of_getElem? elot)
        have hw := hv.w1 (i := 20) (by decide) (some (V.ref la'))
        have v17 : ((wipe σ6 [20]).set 20 (some (V.ref la')))[17]? = some (some (.int (i : Nat))) := by simp [wipe, h17]
        have v20 : ((wipe σ6 [20]).set 20 (some (V.ref la')))[20]? = some (some (.ref la')) := w1_at (by rw [hv.sl]; decide)
        have tl8 := tl.same e
        have hp8 := (hs.exx e).pt.ds
        refine st_gn ⟨wipe_set (by decide), ?_⟩
        refine ⟨_, hw.s3, d, rfl, ⟨_, rd_t hp8.1⟩, ?_⟩
        refine lcV (Qd := fun D H' => _) walk_tup (fun k => decide ((D.getD k []).getD 1 0 = (i : Int)) && decide ((D.getD k []).getD 0 0 ∈ lot)) (fun k => .ref (ds.getD k 0)) (by rw [List.length_map]; omega) (fun H' e => rd_t (ex_rd e hp8.1)) (fun k y H10 H11 Z0 Z1 hk e10 yy l0 l1 => ?_) (fun D8 H10 hD8 e10 hl10 => ?_)
        · obtain ⟨rfl, yy⟩ := yy
          obtain ⟨c, ec, rfl⟩ := get_map yy
          obtain ⟨dr, edr, tc⟩ := paired_at hp8.2 ec
          obtain ⟨o, o', rfl, ho0, hoo, hon⟩ := hD.pair dr (List.mem_of_getElem? edr)
          rw [getD_at edr] at l0 l1
          rw [getD_at ec] at l1
          have hl01 : ∀ b, (decide (([o, o'] : List Int).getD 1 0 = (i : Int)) && decide (([o, o'] : List Int).getD 0 0 ∈ lot)) = b ↔ (decide (o' = (i : Int)) && decide (o ∈ lot)) = b := fun b => Iff.rfl
          rw [hl01] at l0 l1
          clear hl01
          have u17 : ((wipe ((wipe σ6 [20]).set 20 (some (V.ref la'))) [18]).set 18 (some (V.ref c)))[17]? = some (some (.int (i : Nat))) := by simp [wipe, h17]
          have u18 : ((wipe ((wipe σ6 [20]).set 20 (some (V.ref la'))) [18]).set 18 (some (V.ref c)))[18]? = some (some (.ref c)) := w1_at (by rw [hw.sl]; decide)
          have u20 : ((wipe ((wipe σ6 [20]).set 20 (some (V.ref la'))) [18]).set 18 (some (V.ref c)))[20]? = some (some (.ref la')) := by simp [wipe, hv.sl]
          have tc10 := tc.same e10
          have tl10 := tl8.same e10
          refine st_gn ⟨wipe_set (by decide), ?_⟩
          refine ⟨_, u18, c, _, _, _, rfl, rfl, rd_t tc10, rfl, _, u17, rfl, ?_⟩
          by_cases h1 : o' = (i : Int)
          · rw [decide_eq_true h1] at l0 l1
            refine ⟨true, by simp [h1], ?_⟩
            refine ⟨_, u18, c, _, _, _, rfl, rfl, rd_t tc10, rfl, _, u20, la', _, rfl, .inr (rd_t tl10), rfl, flat_ints _, ?_⟩
            rw [inV_ints]
            by_cases h2 : o ∈ lot
            · rw [decide_eq_true h2] at l0 l1 ⊢
              exact ⟨true, rfl, _, u18, l1 _ rfl (Ex.refl _)⟩
            · rw [decide_eq_false h2] at l0 l1 ⊢
              exact ⟨false, rfl, l0 _ rfl (Ex.refl _)⟩
          · rw [decide_eq_false h1] at l0 l1
            refine ⟨false, by simp [h1], ?_⟩
            exact l0 _ rfl (Ex.refl _)
        · rw [List.length_map, hdl] at hl10
          have hfn := free_none hD i lot
          refine ⟨D8, _, rfl, .inl (sq_of hl10), rfl, ?_⟩
          rw [List.length_map]
          by_cases hf : freeOf D i lot = true
          · refine ⟨true, by rw [hfn.mpr hf]; rfl, ?_⟩
            refine ⟨_, v20, _, v17, (by decide : 1 ≤ sizeLine), fun q' hq => ?_⟩
            have e11 : Ex H10 (upd H10 q' (.tup [.int (i : Nat)])) := Ex.new hq
            have e12 := e10.trans e11
            have tl12 := tl8.same e12
            refine ⟨la', q', _, _, rfl, rfl, rd_t tl12, st_of upd_same, by simp, sz_of (by rw [List.length_map]; simp; omega), fun h0 => ?_, fun hn0 q2 o hq2 ho => ?_⟩
            · have hr0 : lot = [] := List.map_eq_nil_iff.mp h0
              refine k1 _ _ hf e12 (.inl ?_)
              rw [upd_same, hr0]
              rfl
            · refine k1 _ _ hf (ex2 e12 hq2) (.inr ⟨o, ?_⟩)
              rw [upd_same, List.map_append]
              rfl
          · refine ⟨false, ?_, ?_⟩
            · have : ¬ (((List.range D.length).filter fun k => decide ((D.getD k []).getD 1 0 = (i : Int)) && decide ((D.getD k []).getD 0 0 ∈ lot)).length = 0) := fun z => hf (hfn.mp z)
              simpa using this
            · exact k0 _ (by simpa using hf) e10
      · have htl := Paired.length tts
        rw [List.length_map] at tts htl
        rw [hal, filter_places (lotsOf D i) [] (freeOf D i) fun l => l ++ [(i : Int)]] at tts
        rw [List.length_map, hal] at htl
        have hfl := List.length_filter_le (fun k => freeOf D i ((lotsOf D i).getD k [])) (List.range (lotsOf D i).length)
        rw [List.length_range] at hfl
        have htl' : ts.length ≤ 64 := by omega
        refine ⟨lb, D9, _, _, rfl, rfl, e9 _ _ hlb, hl9, sz_of (by rw [List.length_map, List.length_map]; omega), fun w2 hw2 => ?_⟩
        have e10 := ex2 (o := .lst (as.map V.ref ++ ts.map V.ref)) e9 hw2
        refine ⟨hv.set (by decide) _, hs.exx e10, (hb.ex e10).set (by decide) _, w2, as ++ ts, set_at (by rw [hv.sl]; decide), by rw [upd_same, List.map_append], ?_⟩
        exact paired_app (has.same e10) (tts.same (Ex.new hw2))
    · rw [Int.toNat_natCast] at p
      exact hnx _ _ p
  clear hv hs hb h16 hlb has lb as
  obtain ⟨hv, hs, hb, lb, as, h16, hlb, has⟩ := r5
  have hL : (lotsOf D n).length ≤ 64 := Nat.le_trans (lots_len D n) (Nat.le_trans (Nat.pow_le_pow_right (by omega) h6) (by decide))
  have hal := Paired.length has
  refine st_join (fun σ' H' => LawV σ' da p d x n ∧ LawS A H' da la p d g x ds n D G ns Ah Bh ∧ AnsAt σ' H' da la n b ms) (fun σ6 H6 r6 => ?_) (fun nx hnx => ?_)
  rotate_left
  · have hc2 := count_small (D := D) (a := 2) (by decide) (by decide) h6
    have hc1 := count_small (D := D) (a := 1) (by decide) (by decide) h6
    refine ⟨_, hv.s5, count_call hs.pt hs.ok hs.gn (by omega) (by omega) (fun H8 e8 => st_nil (int_repr hc2 ?_))⟩
    have hs8 := hs.exx e8
    refine ⟨_, h16, lb, _, rfl, .inl (sq_of (e8 _ _ hlb)), _, _, rfl, rfl, .inl ⟨by omega, by omega⟩, ?_⟩
    rw [List.length_map, hal]
    refine st_nil (int_repr (by omega) ⟨rfl, false, ?_, ?_⟩)
    · have e : countOf D n 2 = 2 * ((lotsOf D n).length : Int) := count_two D n
      rw [e]
      simp
    · refine ⟨_, hv.s5, count_call hs8.pt hs.ok hs.gn (by omega) (by omega) (fun H9 e9 => st_nil (int_repr hc1 ⟨rfl, false, ?_, ?_⟩))⟩
      · rw [show countOf D n 1 = 1 from count_one_1 D n]
        decide +kernel
      · exact hnx _ _ ⟨hv, hs8.exx e9, (hb.ex e8).ex e9⟩
  clear hv hs hb h16 hlb has
  obtain ⟨hv, hs, hb⟩ := r6
  refine st_ret ?_
  exact ⟨_, hv.s1, _, hv.s5, _, hb.s9, ⟨da, la, p, d, g, b, ds, n, D, G, ms, rfl, hs.dl, hs.pt, hs.ok, hs.gn, hb.hb, hb.ml, hb.nn, hb.na, hb.nl, hs.tab, fun H' => q H'⟩⟩
end
end Kx
/-! law: all of it. -/
namespace Kx
open PySem PySem.Spec PyProof.Rows L2
open LamX (TabB)
open Evl (Ex ex_rd ex_l ex_t st_of sq_of sz_lt sz_of)
theorem rep_ints (n : Nat) : (List.replicate n [V.int 0]).flatten = (List.replicate n (0 : Int)).map V.int := by
  induction n with
  | zero => rfl
  | succ n ih => rw [List.replicate_succ, List.flatten_cons, ih, List.replicate_succ]; rfl
section
variable {P : Program} {w : World} {K : PySem.W.Frag} {mg : PySem.Str → Option Value} {base : Heap} {A : Ads}
theorem law_body (T : TxtL P K mg A) (TB : TabB base mg A.code A.table) (f : Addr) (cdv : Value) (s : Shared) (H0 : Hp) (E : XK) {H : Hp} {a : Addr} {zs : List Int} (htab : H A.table = some (.tbl #[])) (hS : SqL K H a (zs.map V.int)) :
    ∃ t, PSs (lawX P w K mg base f cdv s H0 E) (defBody (topS 79)) t ∧ t { nx := fun _ H' => (fun (v : V) (_ : Hp) => v = .bl true) .non H', rt := fun (v : V) (_ : Hp) => v = .bl true } (start lawN [.ref a]) H := by
  obtain ⟨t1, hturn, q1⟩ := law_turn (P := P) (w := w) (base := base) T f cdv s H0 E
  obtain ⟨t2, hrest, q2⟩ := law_rest (P := P) (w := w) (base := base) T TB f cdv s H0 E
  have hr : Room 12 (lawX P w K mg base f cdv s H0 E).A := lawRoom.deeper _
  have hu := hu_of hr
  have hu65 : (lawX P w K mg base f cdv s H0 E).A.units + 65 < cLine := by have := hr.un; omega
  have D__law_dealt := (ok_law_dealt (P := P) (w := w) (base := base) T.toTxt).mono (by decide : 1 ≤ 12)
  have D__law_any := (ok_law_any (P := P) (w := w) (base := base) T.toTxt).mono (by decide : 1 ≤ 12)
  have D__law_doors := (ok_law_doors (P := P) (w := w) (base := base) T.toTxt).mono (by decide : 2 ≤ 12)
  have D_party_house := (ok_party_house (P := P) (w := w) (base := base) T.toTxt).mono (by decide : 8 ≤ 12)
  have hT := T
  replace T := T.toTxt
  refine ⟨_, (pss_cons (ps_set (i := 1) sc79.nd rfl (Or.inr rfl) (pe_d D__law_dealt hr (by rfl) pass0 (pa_cons (pv 0) (pa_cons pe_int pa_nil))))
      (pss_cons (ps_set (i := 2) sc79.nd rfl (Or.inl rfl) (pe_op op_add pe_int (pe_d D__law_any hr (by rfl) pass0 (pa_cons (pv 1) (pa_cons pe_int pa_nil)))))
      (pss_cons (ps_set (i := 3) sc79.nd rfl (Or.inr rfl) (pe_d D__law_doors hr (by rfl) pass0 (pa_cons (pv 1) (pa_cons (pv 2) pa_nil))))
      (pss_cons (ps_set (i := 4) sc79.nd rfl (Or.inl rfl) (pe_callTy (T := "tuple") (kTup (K := K) rfl) (by rfl) (T.b "tuple") (by decide +kernel) (pa_cons (pe_lc rfl sc79.nd (pi_range1 (by rfl) (T.b "range") (pa_cons (pv 2) pa_nil)) (blkOk_by (own := [("_law_room", 17)]) (by rfl)) (fun _ _ _ _ _ => (pg_name (i := 17) sc79.nd rfl (Or.inl rfl) (Or.inr rfl))) (fun _ _ _ _ _ => (pts_one (pt_cmpR op_eq (pe_d D__law_any hr (by rfl) pass0 (pa_cons (pv 1) (pa_cons pe_int pa_nil))) pe_int (nomark _)))) (fun _ _ _ _ _ => (pv 17))) pa_nil)))
      (pss_cons (ps_set (i := 4) sc79.nd rfl (Or.inl rfl) (pe_ifExp (pt_cmpR (kNeD (K := K) rfl hr.units) (pv 4) (pe_tup pa_nil) (nomark _)) (pv 4) (pe_tup (pa_cons (pe_d D__law_any hr (by rfl) pass0 (pa_cons (pv 1) (pa_cons (pv 2) pa_nil))) pa_nil))))
      (pss_cons (ps_set (i := 5) sc79.nd rfl (Or.inl rfl) (pe_tup (pa_cons (pv 2) (pa_cons (pv 3) (pa_cons pe_int (pa_cons (pv 4) pa_nil))))))
      (pss_cons (ps_set (i := 6) sc79.nd rfl (Or.inl rfl) (pe_d D_party_house hr (by rfl) pass0 (pa_cons (pv 5) pa_nil)))
      (pss_cons (ps_set (i := 7) sc79.nd rfl (Or.inr rfl) (kTix (K := K) rfl hu65 (kFld (K := K) rfl (pv 6) (by rfl)) (pa_cons (pe_op (kRepT (K := K) rfl) (pe_tup (pa_cons pe_int pa_nil)) (pv 2)) pa_nil))) (pss_cons (ps_for PassesOwn.never rfl (pi_range1 (by rfl) (T.b "range") (pa_cons pe_int pa_nil)) (pg_name (i := 8) sc79.nd rfl (Or.inr rfl)) hturn) hrest))))))))), ?_⟩
  refine st_seq (st_asg ?_)
  refine ⟨_, rfl, ⟨a, zs, 66, rfl, hS, by omega, by omega, fun H1 da la e1 _ _ dl1 => ?_⟩⟩
  have tab1 := e1 _ _ htab
  clear htab hS
  dsimp only
  refine st_seq (st_asg ?_)
  refine ⟨_, rfl, ⟨da, la, 5, rfl, dl1, by omega, by omega, fun H2 r e2 dl2 r0 r1 => ⟨_, _, rfl, rfl, ?_⟩⟩⟩
  have tab2 := e2.exT dl1 _ _ tab1 fun _ z => nomatch z
  obtain ⟨n, hn⟩ : ∃ n : Nat, 2 + r = (n : Int) := ⟨(2 + r).toNat, by omega⟩
  dsimp only
  rw [hn]
  have h2 : 2 ≤ n := by omega
  have h6 : n ≤ 6 := by omega
  have hnn := mem_n h2 h6
  clear hn r0 r1 tab1 e1
  refine st_seq (st_asg ?_)
  refine ⟨_, rfl, _, rfl, ⟨da, la, n, rfl, dl2, h2, h6, fun H3 d ds D e3 dl3 hd hpd hdl => ?_⟩⟩
  have tab3 := e3.exT dl2 _ _ tab2 fun _ z => nomatch z
  clear tab2 e2 e3 dl1 dl2
  dsimp only
  -- the gates
  generalize hσ : List.set _ 3 (some (V.ref d)) = σ3
  have s1 : σ3[1]? = some (some (.ref da)) := by subst hσ; rfl
  have s2 : σ3[2]? = some (some (.int n)) := by subst hσ; rfl
  have s3 : σ3[3]? = some (some (.ref d)) := by subst hσ; rfl
  have sl : σ3.length = 21 := by subst hσ; rfl
  clear hσ
  refine st_join (fun σ' H' => σ'[1]? = some (some (.ref da)) ∧ σ'[2]? = some (some (.int n)) ∧ σ'[3]? = some (some (.ref d)) ∧ σ'.length = 21 ∧ Deal H' da la ∧ TT' H' d ds D ∧ H' A.table = some (.tbl #[]) ∧ ∃ g G, σ'[4]? = some (some (.ref g)) ∧ Tu H' g G ∧ G.Pairwise (· < ·) ∧ (∀ r ∈ G, 0 ≤ r ∧ r < (n : Int)) ∧ G.length ≤ n) (fun σ4 H4 r4 => ?_) (fun nx hnx => ?_)
  rotate_left
  · refine st_asg (st_cb ?_)
    refine ⟨_, s2, _, rfl, by omega, by omega, ?_⟩
    refine lcI (Qd := fun D H' => _) walk_range da la (fun i xs H => ∃ G : List Int, xs = G.map V.int ∧ G.Pairwise (· < ·) ∧ (∀ r ∈ G, 0 ≤ r ∧ r < (i : Int)) ∧ G.length ≤ i) dl3 ⟨[], rfl, .nil, by simp, by simp⟩ (fun _ _ _ => trivial) (fun i xs H H' e z => z) (fun i xs H hi ⟨us, h1, _, _, h4⟩ => by rw [h1, List.length_map]; omega) (fun k y H6 H7 Y0 Y1 xs hk eD6 eT6 dl6 pi yy k0 k1 => ?_) (fun D9 H9 xs hD9 eD9 eT9 dl9 hl9 pi => ?_)
    · obtain ⟨us, rfl, m1, m2, m3⟩ := pi
      obtain ⟨rfl, rfl⟩ := yy
      have v1 : ((wipe σ3 [17]).set 17 (some (V.int (0 + (k : Int)))))[1]? = some (some (.ref da)) := by simp [wipe, s1]
      have v17 : ((wipe σ3 [17]).set 17 (some (V.int (0 + (k : Int)))))[17]? = some (some (.int (k : Nat))) := by
        rw [w1_at (by rw [sl]; decide)]
        simp
      refine st_gn ⟨wipe_set (by decide), ?_⟩
      refine ⟨_, v1, ⟨da, la, _, rfl, dl6, by omega, by omega, fun H8 r e8 d8 _ _ => ⟨rfl, ?_⟩⟩⟩
      by_cases hr0 : r = 0
      · refine ⟨true, by simp [hr0], ?_⟩
        refine ⟨_, v17, k1 _ _ e8 d8 ⟨us ++ [(k : Int)], by rw [List.map_append]; rfl, ?_, fun m hm => ?_, by rw [List.length_append]; simp; omega⟩⟩
        · refine List.pairwise_append.mpr ⟨m1, by simp, fun u hu v hv => ?_⟩
          have : v = (k : Int) := by simpa using hv
          have := m2 u hu
          omega
        · rcases List.mem_append.mp hm with h | h
          · have := m2 m h
            omega
          · have : m = (k : Int) := by simpa using h
            omega
      · refine ⟨false, by simp [hr0], ?_⟩
        exact k0 _ e8 d8 ⟨us, rfl, m1, fun m hm => by have := m2 m hm; omega, by omega⟩
    · obtain ⟨us, rfl, m1, m2, m3⟩ := pi
      refine ⟨D9, _, rfl, .inl ⟨sq_of hl9, fun t ht => ?_⟩⟩
      have x1 : Ex H9 (upd H9 t (.tup (us.map V.int))) := Ex.new ht
      refine hnx _ _ ⟨by simp [s1], by simp [s2], by simp [s3], by simp [sl], dl9.ex' x1, (hd.exT eT9).ex x1, x1 _ _ (eT9 _ _ tab3 fun _ z => nomatch z), t, us, set_at (by rw [sl]; decide), .inl upd_same, m1, fun m hm => by have := m2 m hm; omega, by omega⟩
  clear s1 s2 s3 sl dl3 hd tab3
  obtain ⟨s1, s2, s3, sl, dl, hd, tab, g0, G0, s4, hg0, gp0, gb0, gl0⟩ := r4
  refine st_join (fun σ' H' => σ'[1]? = some (some (.ref da)) ∧ σ'[2]? = some (some (.int n)) ∧ σ'[3]? = some (some (.ref d)) ∧ σ'.length = 21 ∧ Deal H' da la ∧ TT' H' d ds D ∧ H' A.table = some (.tbl #[]) ∧ ∃ g G, σ'[4]? = some (some (.ref g)) ∧ Tu H' g G ∧ G ≠ [] ∧ G.Pairwise (· < ·) ∧ (∀ r ∈ G, 0 ≤ r ∧ r < (n : Int)) ∧ G.length ≤ 6) (fun σ5 H5 r5 => ?_) (fun nx hnx => ?_)
  rotate_left
  · refine st_asg ?_
    refine ⟨_, s4, Nat.zero_le _, fun u hu => ?_⟩
    have x1 : Ex H4 (upd H4 u (.tup [])) := Ex.new hu
    have tu : Tu (upd H4 u (.tup [])) u [] := .inl upd_same
    refine ⟨dTu G0, dTu [], (hg0.same x1).dp, tu.dp, shaped_tu _, shaped_tu _, ?_⟩
    rw [eqv_tu]
    by_cases hG : G0 = []
    · refine ⟨false, by rw [decide_eq_true hG]; rfl, ?_⟩
      have dl1 := dl.ex' x1
      refine ⟨_, s1, _, s2, ⟨da, la, n, rfl, dl1, by omega, by omega, fun H7 r e7 dl7 r0 r1 => ⟨(by decide : 1 ≤ sizeLine), fun t ht => ?_⟩⟩⟩
      have eT := e7.exT dl1
      have x2 : Ex H7 (upd H7 t (.tup [.int r])) := Ex.new ht
      refine hnx _ _ ⟨by simp [s1], by simp [s2], by simp [s3], by simp [sl], dl7.ex' x2, ((hd.ex x1).exT eT).ex x2, x2 _ _ (eT _ _ (x1 _ _ tab) fun _ z => nomatch z), t, [r], set_at (by rw [sl]; decide), .inl upd_same, by simp, by simp, by simp; omega, by simp⟩
    · refine ⟨true, by rw [decide_eq_false hG]; rfl, ?_⟩
      refine ⟨_, s4, ?_⟩
      exact hnx _ _ ⟨by simp [s1], by simp [s2], by simp [s3], by simp [sl], dl.ex' x1, hd.ex x1, x1 _ _ tab, g0, G0, set_at (by rw [sl]; decide), hg0.same x1, hG, gp0, gb0, by omega⟩
  clear s1 s2 s3 sl dl hd tab s4 hg0 gp0 gb0 gl0 g0 G0
  obtain ⟨s1, s2, s3, sl, dl, hd, tab, g, G, s4, hg, hG, gp, gb, gl⟩ := r5
  have hok : PtyOk n D G := ⟨h2, h6, hpd, hdl, gp, gb, gl⟩
  -- the party, its house
  refine st_seq (st_asg ?_)
  refine ⟨_, s2, _, s3, _, s4, (by decide : 4 ≤ sizeLine), fun p hp => ?_⟩
  have x1 : Ex H5 (upd H5 p (.tup [.int n, .ref d, .int 1, .ref g])) := Ex.new hp
  have pt : PtyAt (upd H5 p (.tup [.int n, .ref d, .int 1, .ref g])) p d g ds n D 1 G := ⟨.inl upd_same, hd.ex x1, hg.same x1⟩
  replace dl := dl.ex' x1
  replace tab := x1 _ _ tab
  generalize (upd H5 p (.tup [.int n, .ref d, .int 1, .ref g])) = H6 at pt dl tab ⊢
  clear x1 hd hg
  dsimp only
  refine st_seq (st_asg ?_)
  have t5 : (σ5.set 5 (some (V.ref p)))[5]? = some (some (.ref p)) := set_at (by rw [sl]; decide)
  refine ⟨_, t5, ⟨p, d, g, ds, n, D, G, rfl, pt, hok, hG, fun H7 x ns Ah Bh e7 hx hns hA hB => ?_⟩⟩
  dsimp only
  replace dl := dl.ex' e7
  replace tab := e7 _ _ tab
  replace pt := pt.ex e7
  have rlen := (rows_asc n hnn).2.2.1
  have hs : LawS A H7 da la p d g x ds n D G ns Ah Bh := ⟨dl, pt, hok, hG, ⟨⟨hx, hA, hB, arr_sym hpd, rlen, h6⟩, hns, h2⟩, tab⟩
  clear dl tab pt hA hB e7
  generalize hσ : (σ5.set 5 (some (V.ref p))).set 6 (some (V.ref x)) = σ6
  have u1 : σ6[1]? = some (some (.ref da)) := by subst hσ; simp [s1]
  have u2 : σ6[2]? = some (some (.int n)) := by subst hσ; simp [s2]
  have u3 : σ6[3]? = some (some (.ref d)) := by subst hσ; simp [s3]
  have u5 : σ6[5]? = some (some (.ref p)) := by subst hσ; simp [sl]
  have u6 : σ6[6]? = some (some (.ref x)) := by subst hσ; simp [sl]
  have ul : σ6.length = 21 := by subst hσ; simp [sl]
  clear hσ s1 s2 s3 s4 sl t5
  -- the empty house's number
  refine st_seq (st_asg ?_)
  refine fld_standings T hx (fun a2 as t2 t3 => ?_) (fun R r => ⟨_, u6, r⟩)
  refine ⟨a2, _, rfl, t2, (by decide : 1 ≤ sizeLine), fun q hq => ⟨_, u2, q, n, [V.int 0], rfl, rfl, st_of upd_same, by simp, by omega, by omega, by simp, fun w2 hw2 => ?_⟩⟩
  have y1 : Ex H7 (upd H7 q (.tup [.int 0])) := Ex.new hq
  have y2 := ex2 (o := .tup (List.replicate (n : Int).toNat [V.int 0]).flatten) y1 hw2
  have tq : Tu (upd (upd H7 q (.tup [.int 0])) w2 (.tup (List.replicate (n : Int).toNat [V.int 0]).flatten)) w2 (stS n 0) := by
    refine .inl ?_
    rw [upd_same, Int.toNat_natCast, rep_ints, stS_zero n hnn]
  refine ⟨.ref w2, dTu (stS n 0), dTus (rowsOf n), 0, dTu (stS n 0), rfl, rd_t (t2.same y2).rd, ((Fts.tus t3).same y2).dp, tq.dp, shaped_tus _, shaped_tu _, ?_, by rw [eqv_tu]; simp, fun m z hm => absurd hm (by omega), ?_⟩
  · rw [rows_st n hnn]
    show (((List.range (n + 1)).map (stS n)).map dTu)[0]? = _
    rw [List.map_map, List.getElem?_map, List.getElem?_range (by omega)]
    rfl
  dsimp only
  replace hs := hs.exx y2
  generalize (upd (upd H7 q (.tup [.int 0])) w2 (.tup (List.replicate (n : Int).toNat [V.int 0]).flatten)) = H8 at hs ⊢
  clear y1 y2 tq
  have hv : LawV (σ6.set 7 (some (V.int ((0 : Nat) : Int)))) da p d x n := ⟨by simp [u1], by simp [u2], by simp [u3], by simp [u5], by simp [u6], set_at (by rw [ul]; decide), by simp [ul]⟩
  generalize σ6.set 7 (some (V.int ((0 : Nat) : Int))) = σ7 at hv ⊢
  -- the turns
  refine st_seq ?_
  refine ⟨_, rfl, by omega, by omega, ?_⟩
  refine for_it walk_range (fun i σ' H' => LawV σ' da p d x n ∧ LawS A H' da la p d g x ds n D G ns Ah Bh ∧ (i = 0 ∨ ∃ b ms, AnsAt σ' H' da la n b ms)) ⟨hv, hs, .inl rfl⟩ (fun _ _ _ _ _ => trivial) (fun i y σ' H' H'' hi p yy => ?_) (fun σ' H9 p => ?_)
  · obtain ⟨pv, ps, _⟩ := p
    obtain ⟨rfl, rfl⟩ := yy
    have hi3 : i < 3 := by simpa using hi
    refine st_gn ?_
    refine q1 _ _ _ da la _ d g x ds n D G ns Ah Bh i hi3 (pv.set (by decide) _) ps ?_ (fun σ2 H2 b ms v2 s2 a2 => ⟨v2, s2, .inr ⟨b, ms, a2⟩⟩)
    rw [set_at (by rw [pv.sl]; decide)]
    simp
  · obtain ⟨pv, ps, hz | ⟨b, ms, hb⟩⟩ := p
    · exact absurd hz (by decide)
    · exact q2 _ _ _ da la _ d g x ds n D G ns Ah Bh b ms pv ps hb (fun _ => rfl)
end
end Kx
/-! The law's call at the claim's caller: one table of a code object, the script, nothing else is tracked. -/
namespace Kx
open PySem PySem.Spec PyProof.Rows L2
open LamX (TabB)
section
variable {P : Program} {w : World} {K : PySem.W.Frag} {mg mb : PySem.Str → Option Value} {A : Ads}
/-- what the call sees at first: the table at tb; the script at a, where the written part does not bear it -/
def firstH (K : PySem.W.Frag) (a tb : Addr) (oa : Obj) (zs : List Int) : Hp := fun b =>
  if b = tb then some (.tbl #[]) else if b = a ∧ (K.lookup a).isNone = true then some (.frz oa (.lst (zs.map V.int))) else none
section
variable {a tb : Addr} {oa : Obj} {zs : List Int}
theorem firstH_tb : firstH K a tb oa zs tb = some (.tbl #[]) := by
  unfold firstH
  exact if_pos rfl
theorem firstH_a (n : a ≠ tb) (h : K.lookup a = none) : firstH K a tb oa zs a = some (.frz oa (.lst (zs.map V.int))) := by
  unfold firstH
  rw [if_neg n, if_pos ⟨rfl, by rw [h]; rfl⟩]
theorem firstH_off {b : Addr} (n : b ≠ tb) (h : b = a → K.lookup b ≠ none) : firstH K a tb oa zs b = none := by
  unfold firstH
  rw [if_neg n, if_neg]
  rintro ⟨e, z⟩
  subst e
  exact h rfl (Option.isNone_iff_eq_none.mp z)
theorem firstH_some {b : Addr} {u : HO} (h : firstH K a tb oa zs b = some u) : (b = tb ∧ u = .tbl #[]) ∨ (b = a ∧ K.lookup a = none ∧ u = .frz oa (.lst (zs.map V.int))) := by
  unfold firstH at h
  by_cases h1 : b = tb
  · rw [if_pos h1] at h
    exact .inl ⟨h1, (Option.some.inj h).symm⟩
  · rw [if_neg h1] at h
    by_cases h2 : b = a ∧ (K.lookup a).isNone = true
    · rw [if_pos h2] at h
      exact .inr ⟨h2.1, Option.isNone_iff_eq_none.mp h2.2, (Option.some.inj h).symm⟩
    · rw [if_neg h2] at h
      cases h
end
abbrev listO (us : List Value) : Obj := { cls := .type "list", data := .seq us.toArray }
theorem law_end {fa a c tb : Addr} {s : Shared} {us : List Value} {zs : List Int} (KX : K.In s.heap) (hglob : s.heap.Ns mainGlobals mg) (hbn : s.heap.Ns builtinsNs mb) (hboot : ∀ y : PySem.Str, y ≠ "__name__" → mb y = bootBuiltins y) (hlim : s.heap.NoLimit) (hgen : s.gens = #[])
    (htb : s.heap.get? tb = some bareT) (ktb : K.lookup tb = none) (hcode : PySem.W.CodeHd s.heap c tb)
    (hmod : ∃ (m : Addr) (om : Obj), mg "__builtins__" = some (.ref m) ∧ m ≠ builtinsNs ∧ s.heap.get? m = some om ∧ om.cls = .type "module" ∧ om.dict = some builtinsNs ∧ om.data = .plain)
    (hscr : s.heap.get? a = some (listO us)) (hint : IntsAre us zs) (hlen : zs.length ≤ sizeLine)
    (F : ∀ (base : Heap) (H : Hp), K.In base → base.Ns mainGlobals mg → TabB base mg c tb → Env0 P w K mg base callerA [] s H → H tb = some (.tbl #[]) → SqL K H a (zs.map V.int) →
      codeAny (model P w) callerA (.call (.ref fa) ⟨[.ref a], []⟩) (CR CX0 [] P w H s (fun (v : V) (_ : Hp) => v = .bl true) fun _ _ _ => False) s) :
    codeAny (model P w) callerA (.call (.ref fa) ⟨[.ref a], []⟩) (fun r s' => r = .ok (.ret (.bool true)) ∧ OldK s.heap s'.heap ∧ s'.os = s.os ∧ AllBare s'.gens) s := by
  have hvals := vals_ints hint
  have hl := hint.length
  -- a dict, a code object, a module is neither the table nor the script
  have notT : ∀ {b : Addr} {o : Obj}, s.heap.get? b = some o → o.data ≠ .fields #[] → b ≠ tb := fun {b o} e n z => by
    rw [z, htb] at e
    exact n (by rw [← Option.some.inj e])
  have notA : ∀ {b : Addr} {o : Obj}, s.heap.get? b = some o → (∀ vs m, o.data ≠ .seq vs m) → b ≠ a := fun {b o} e n z => by
    rw [z, hscr] at e
    exact n _ _ (by rw [← Option.some.inj e])
  have nat : a ≠ tb := notT hscr fun z => by cases z
  have H : Σ' H : Hp, H = firstH K a tb (listO us) zs := ⟨_, rfl⟩
  obtain ⟨H, hH⟩ := H
  have off : ∀ {b : Addr} {o : Obj}, s.heap.get? b = some o → o.data ≠ .fields #[] → (∀ vs m, o.data ≠ .seq vs m) → H b = none := fun {b o} e h1 h2 => by
    rw [hH]
    exact firstH_off (notT e h1) fun z => absurd z (notA e h2)
  have sees : ∀ {b : Addr} {o : Obj}, s.heap.get? b = some o → H b = none → (hidT s.heap H).get? b = some o := fun e z => hidT_get e z
  have seesNs : ∀ {b : Addr} {m : PySem.Str → Option Value}, s.heap.Ns b m → (hidT s.heap H).Ns b m := fun {b m} n => by
    obtain ⟨o, es, ep, e, hd, r⟩ := n
    exact ⟨o, es, ep, sees e (off e (fun z => by rw [hd] at z; cases z) fun _ _ z => by rw [hd] at z; cases z), hd, r⟩
  have baseK : K.In (hidT s.heap H) := fun b o e => sees (KX b o e) (by
    rw [hH]
    refine firstH_off (fun z => ?_) fun z => by rw [e]; exact fun q => nomatch q
    rw [z, ktb] at e
    cases e)
  have baseM : L2.Mod K mg (hidT s.heap H) := by
    obtain ⟨mc, h1, h2⟩ := hlim
    exact ⟨baseK, seesNs hglob, ⟨mb, seesNs hbn, hboot⟩, ⟨mc, seesNs h1, h2⟩⟩
  have baseT : TabB (hidT s.heap H) mg c tb := by
    refine ⟨?_, ?_, fun z => ?_⟩
    · obtain ⟨o, vs, file, tf, flags, tg, inF, text, tt, e, k1, k2, k3, k4⟩ := hcode
      refine ⟨o, vs, file, tf, flags, tg, inF, text, tt, sees e (off e (fun z => ?_) fun _ _ z => by rw [k2] at z; cases z), k1, k2, k3, k4⟩
      rw [k2] at z
      injection z with z
      rw [z] at k3
      simp at k3
    · obtain ⟨m, om, m1, m2, m3, m4, m5, m6⟩ := hmod
      refine ⟨m, om, m1, m2, fun z => ?_, notT m3 (fun z => by rw [m6] at z; cases z), sees m3 (off m3 (fun z => by rw [m6] at z; cases z) fun _ _ z => by rw [m6] at z; cases z), m4, m5, m6⟩
      obtain ⟨o, es, ep, e, hd, _⟩ := hglob
      rw [z, e] at m3
      rw [Option.some.inj m3, m6] at hd
      cases hd
    · obtain ⟨o, es, ep, e, hd, _⟩ := hglob
      exact notT e (fun q => by rw [hd] at q; cases q) z
  have good : HOk P w H s.heap := fun b u e => by
    rw [hH] at e
    rcases firstH_some e with ⟨rfl, rfl⟩ | ⟨rfl, _, rfl⟩
    · exact htb
    · exact ⟨hscr, by rw [List.length_map]; exact hlen, us, _, hvals, hscr⟩
  have e0 : Env0 P w K mg (hidT s.heap H) callerA [] s H := by
    refine ⟨rfl, baseM, fun b o e => of_hidT e, ?_, trivial, fun b hb => ?_, good, .of_eq hgen⟩
    · rw [hidT_size]
      exact Nat.le_refl _
    · have hb : b ∈ ([] : List Addr) := hb
      cases hb
  have hTb : H tb = some (.tbl #[]) := by
    rw [hH]
    exact firstH_tb
  have hSq : SqL K H a (zs.map V.int) := by
    cases hk : K.lookup a with
    | none => exact .inl (.inr ⟨_, by rw [hH]; exact firstH_a nat hk⟩)
    | some o =>
      have e := KX a o hk
      rw [hscr] at e
      have e := Option.some.inj e
      subst e
      exact .inr ⟨_, us.toArray, _, hk, rfl, rfl, rfl, by rw [List.size_toArray, hl]; exact hlen, by simpa using hvals⟩
  refine codeAny_mono (F _ H baseK (seesNs hglob) baseT e0 hTb hSq) fun r s' q => ?_
  match r, q with
  | .ok (.ret u), q =>
    obtain ⟨v, H', os, bare, un, ok', rv, hv⟩ := q
    have hv : v = .bl true := hv
    subst hv
    have rv : u = Value.bool true := rv
    subst rv
    obtain ⟨more, hm⟩ := un.tbls tb #[] hTb
    have hm' : s'.heap.get? tb = some { cls := .none, data := .fields (#[] ++ more) } := ok' tb _ hm
    have kept : ∀ b o, b ≠ tb → s.heap.get? b = some o → s'.heap.get? b = some o := fun b o nb e => by
      cases hb : H b with
      | none => exact un.keep b o e hb (fun z => by have z : b ∈ ([] : List Addr) := z; cases z) (fun z => by cases z)
      | some u =>
        rw [hH] at hb
        rcases firstH_some hb with ⟨z, _⟩ | ⟨z, hk, rfl⟩
        · exact absurd z nb
        · subst z
          have h1 := ok' _ _ (un.frzs b _ _ (by rw [hH]; exact hb))
          obtain ⟨h1, _⟩ := h1
          rw [hscr] at e
          rw [← Option.some.inj e]
          exact h1
    refine ⟨rfl, ⟨fun b o e => ?_, fun b o e => ?_⟩, os, bare⟩
    · by_cases hb : b = tb
      · subst hb
        rw [htb] at e
        have e := Option.some.inj e
        subst e
        exact .inr (.inl ⟨(hcode.tab htb).isCodeTable, rfl, #[], more, rfl, hm'.trans (by rw [Array.empty_append])⟩)
      · exact .inl (kept b o hb e)
    · by_cases hb : b = tb
      · subst hb
        exact ⟨_, hm'⟩
      · exact ⟨o, kept b o hb e⟩
  | .ok .next, q => exact (show False from q).elim
  | .ok .brk, q => exact (show False from q).elim
  | .ok .cont, q => exact (show False from q).elim
  | .error e, q => exact (show False from q).elim
/-- the law's def, called so -/
theorem law_run (T : TxtL P K mg A) {base : Heap} (TB : TabB base mg A.code A.table) {fa a : Addr} {s : Shared} {H : Hp} {zs : List Int} (hfa : mg "law" = some (.ref fa)) (KX : K.In s.heap) (e0 : Env0 P w K mg base callerA [] s H) (ht : H A.table = some (.tbl #[])) (hS : SqL K H a (zs.map V.int)) :
    codeAny (model P w) callerA (.call (.ref fa) ⟨[.ref a], []⟩) (CR CX0 [] P w H s (fun (v : V) (_ : Hp) => v = .bl true) fun _ _ _ => False) s := by
  obtain ⟨f, fd, hm, F⟩ := T.law.ex
  rw [hfa] at hm
  have hm := Value.ref.inj (Option.some.inj hm)
  subst hm
  have hb := FunD.bindsA (ps := ["_law_script"]) F (fun _ _ _ _ _ _ us hl => match us, hl with | [_], _ => rfl) s [.ref a] rfl
  obtain ⟨oc, od, dV, kV, doc, pm, an, cdv, ct, osl, e, lk, hcd, _, _⟩ := F.ex
  subst e
  refine LamX.run_ofS (us := [.ref a]) (vs := [.ref a]) lk hcd sc79 lawRoom e0 hb (.cons rfl .nil) rfl fun _ => ?_
  obtain ⟨t, h1, h2⟩ := law_body (P := P) (w := w) (base := base) T TB fa cdv s H (fun _ _ _ => False) ht hS
  exact ⟨t, h1.nox, h2⟩
end
end Kx
/-! The own errors, from what is told of them. -/
namespace Kx
open PySem PySem.Spec PyProof.Rows L2
open PySem.OwX (OwTxt NameOk iA iB iS tailH)
open PySem.W (ksFn ksEnv)
theorem line_ok {q0 q1 q2 q3 q4 : Pos} {msg : PySem.Str} {j : Nat} {env : Env} (hl : (q2.endLine == q4.line) = true) : ∃ pl : Sem Bool, eval (.Call (.Attribute (.Call (.Name "super" q0) [] [] q1) "__init__" q2) [.Constant (.str msg) j q3] [] q4) env = (do
    let ov ← attributeBase (.Call (.Name "super" q0) [] [] q1) "__init__" env (eval (.Call (.Name "super" q0) [] [] q1) env)
    standAt q2.atName
    let (f, first) ← holding [ov] (getMethod ov "__init__" pl)
    callWith q4 f first (backTo q4 (starEach [.Constant (.str msg) j q3] env)) []) := by
  refine ⟨plainOf (.Call (.Name "super" q0) [] [] q1) env, ?_⟩
  rw [arm_eval_Call]
  congr 1
  funext ov
  congr 1
  funext _
  exact mcall_line rfl hl
/-- an __init__'s text -/
structure IniT (e : ErD) : Prop where
  args : ∃ (d : List Expr) (p1 p2 : Pos), defArgs e.st = iA e.a d p1 p2
  body : ∃ (msg : PySem.Str) (j : Nat) (q0 q1 q2 q3 q4 q5 q6 q7 q8 q9 : Pos), defBody e.st = iB e.a msg j q0 q1 q2 q3 q4 q5 q6 q7 q8 q9 ∧ (q2.endLine == q4.line) = true
  scope : defScope e.st = iS e.a
  nm : NameOk e.a
  bind : ∀ (K : FrK) (dV kV doc pm : Value) (an : Option Addr) (cdv ct : Value) (cc : Addr), DflV K dV e.dvs → ∀ (s : Shared) (u v : Value), K.In s.heap → BindsTo s (ksFn "__init__" e.q (defArgs e.st) (defBody e.st) (defScope e.st) dV kV doc pm an cdv ct cc) ⟨[u, v], []⟩ [(("self" : PySem.Str), u), (e.a, v)]
theorem ini_HI : IniT erInvalidHouse := by
  refine ⟨⟨_, _, _, rfl⟩, ⟨_, _, _, _, _, _, _, _, _, _, _, _, rfl, rfl⟩, rfl, ⟨by decide +kernel, by decide +kernel, by decide +kernel, by decide +kernel⟩, fun K dV kV doc pm an cdv ct cc hD s u v X => ?_⟩
  rcases hD with ⟨e, _⟩ | ⟨_, T, o, its, m, rfl, lT, oT, rT⟩
  · cases e
  · have hl := rT.length
    refine BindsTo.of_looks fun M => ?_
    match its, hl, oT with
    | [z], _, oT => exact looks_items X lT oT (.of_pure rfl)
theorem ini_QI : IniT erInvalidQuestion := by
  refine ⟨⟨_, _, _, rfl⟩, ⟨_, _, _, _, _, _, _, _, _, _, _, _, rfl, rfl⟩, rfl, ⟨by decide +kernel, by decide +kernel, by decide +kernel, by decide +kernel⟩, fun K dV kV doc pm an cdv ct cc hD s u v X => ?_⟩
  rcases hD with ⟨e, _⟩ | ⟨_, T, o, its, m, rfl, lT, oT, rT⟩
  · cases e
  · have hl := rT.length
    refine BindsTo.of_looks fun M => ?_
    match its, hl, oT with
    | [z], _, oT => exact looks_items X lT oT (.of_pure rfl)
theorem ini_RI : IniT erRefused := by
  refine ⟨⟨_, _, _, rfl⟩, ⟨_, _, _, _, _, _, _, _, _, _, _, _, rfl, rfl⟩, rfl, ⟨by decide +kernel, by decide +kernel, by decide +kernel, by decide +kernel⟩, fun K dV kV doc pm an cdv ct cc hD s u v X => ?_⟩
  rcases hD with ⟨_, rfl⟩ | ⟨e, _⟩
  · exact BindsTo.of_eq rfl
  · exact absurd rfl e
theorem ini_SI : IniT erInvalidSize := by
  refine ⟨⟨_, _, _, rfl⟩, ⟨_, _, _, _, _, _, _, _, _, _, _, _, rfl, rfl⟩, rfl, ⟨by decide +kernel, by decide +kernel, by decide +kernel, by decide +kernel⟩, fun K dV kV doc pm an cdv ct cc hD s u v X => ?_⟩
  rcases hD with ⟨_, rfl⟩ | ⟨e, _⟩
  · exact BindsTo.of_eq rfl
  · exact absurd rfl e
/-- what initB and iniO tell -/
theorem init_of {K : FrK} {C fI : Addr} {e : ErD} (hB : initB K C fI e.q R.prog.main.file e.dvs = true) (hO : iniO K fI = iniV e.q e.st) :
    ∃ (oc : Value) (od : Option Addr) (dV kV doc pm : Value) (an : Option Addr) (cdv ct : Value) (osl : Array (Option Value)) (cc cda : Addr) (cl : Value) (cld : Option Addr) (csl : Array (Option Value)) (ccl : Value) (cdd : Option Addr) (vs : Array Value) (ccs : Array (Option Value)) (file : PySem.Str) (tf : Tok),
      K.lookup fI = some ⟨oc, od, .func (ksFn "__init__" e.q (defArgs e.st) (defBody e.st) (defScope e.st) dV kV doc pm an cdv ct cc), osl⟩ ∧ PySem.W.codeIn K cdv e.q = true ∧ K.lookup cc = some ⟨cl, cld, .cell (some (.ref C)), csl⟩ ∧ cdv = .ref cda ∧ K.lookup cda = some ⟨ccl, cdd, .fields vs, ccs⟩ ∧
      vs[2]? = some (.str file tf) ∧ ((R.prog.main.file : PySem.Str) == file) = true ∧ DflV K dV e.dvs := by
  unfold initB at hB
  unfold iniO at hO
  cases q : K.lookup fI with
  | none =>
    rw [q] at hB
    cases hB
  | some o =>
    obtain ⟨oc, od, dt, osl⟩ := o
    rw [q] at hB hO
    cases dt with
    | func fd =>
      obtain ⟨n1, n2, n3, n4, n5, n6, n7, n8, n9, n10, n11, n12, n13, n14, n15⟩ := fd
      have hO : (some (n1, n2, n3, n4, n5, n6, n7.map (·.1), n15) : IniV) = (some (("__init__" : PySem.Str), e.q, defArgs e.st, .stmts (defBody e.st), defScope e.st, mainGlobals, [("__class__" : PySem.Str)], builtinsNs) : IniV) := hO
      simp only [Option.some.injEq, Prod.mk.injEq] at hO
      obtain ⟨h1, h2, h3, h4, h5, h6, h7, h8⟩ := hO
      subst h1 h2 h3 h4 h5 h6 h8
      obtain ⟨k1, k2⟩ := He.ba (show (cloB K C n7 && (He.dflB K n8 e.dvs && (PySem.W.codeIn K n13 e.q && fileB K R.prog.main.file n13))) = true from hB)
      obtain ⟨k3, k4⟩ := He.ba k2
      obtain ⟨k5, k6⟩ := He.ba k4
      clear hB
      cases n7 with
      | nil => cases k1
      | cons p r =>
        cases r with
        | cons p2 r => cases k1
        | nil =>
          obtain ⟨nm, cc⟩ := p
          have h7 : nm = ("__class__" : PySem.Str) := List.head_eq_of_cons_eq h7
          subst h7
          obtain ⟨cl, cld, csl, q2⟩ := cellB_ok k1
          cases n13 with
          | ref cda =>
            obtain ⟨ccl, cdd, vs, ccs, f, tf, q3, q4, q5⟩ := codB_ok k6
            exact ⟨oc, od, n8, n9, n10, n11, n12, _, n14, osl, cc, cda, cl, cld, csl, ccl, cdd, vs, ccs, f, tf, rfl, k5, q2, rfl, q3, q4, q5, He.dflB_ok k3⟩
          | _ => cases k6
    | _ => cases hB
abbrev lawP : Program := PySem.Challenge.rw_onceitwas_k66_whole_one_guest_who_comes.prog
section
variable {K : FrK} {h : Heap} {mg : PySem.Str → Option Value}
theorem own_of (e : ErD) (hok : e.ok K = true) (hO : iniO K (e.I K) = iniV e.q e.st) (I : IniT e) (gC : mg e.x = some (.ref (e.C K))) (noS : mg "super" = none) : OwTxt lawP K mg e.x (e.C K) (He.ga K "HouseError") (e.I K) e.a := by
  obtain ⟨c1, hok⟩ := He.ba hok
  obtain ⟨c2, hok⟩ := He.ba hok
  obtain ⟨c3, hok⟩ := He.ba hok
  obtain ⟨c4, hok⟩ := He.ba hok
  obtain ⟨c5, hok⟩ := He.ba hok
  obtain ⟨c6, hok⟩ := He.ba hok
  obtain ⟨c7, hok⟩ := He.ba hok
  obtain ⟨c8, hok⟩ := He.ba hok
  obtain ⟨c9, hok⟩ := He.ba hok
  obtain ⟨c10, hok⟩ := He.ba hok
  obtain ⟨c11, hok⟩ := He.ba hok
  obtain ⟨c12, hok⟩ := He.ba hok
  obtain ⟨c13, hok⟩ := He.ba hok
  obtain ⟨c14, c15⟩ := He.ba hok
  refine ⟨I.nm, gC, excB_ok c1, He.eqO_ok c2, He.eqO_ok c3, He.eqO_ok c4, He.eqO_ok c5, He.eqO_ok c6, of_decide_eq_true c7, c8, of_decide_eq_true c9, of_decide_eq_true c10, of_decide_eq_true c11, c12, He.eqO_ok c13, He.eqO_ok c14, noS, rfl, ?_⟩
  obtain ⟨oc, od, dV, kV, doc, pm, an, cdv, ct, osl, cc, cda, cl, cld, csl, ccl, cdd, vs, ccs, file, tf, k1, k2, k3, k4, k5, k6, k7, k8⟩ := init_of c15 hO
  obtain ⟨d, p1, p2, t1⟩ := I.args
  obtain ⟨msg, j, q0, q1, q2, q3, q4, q5, q6, q7, q8, q9, t2, t3⟩ := I.body
  have hb := I.bind K dV kV doc pm an cdv ct cc k8
  rw [t1, t2, I.scope] at k1 hb
  exact ⟨oc, od, e.q, d, dV, kV, doc, pm, an, cdv, ct, osl, msg, j, p1, p2, q0, q1, q2, q3, q4, q5, q6, q7, q8, q9, cc, cda, cl, cld, csl, ccl, cdd, vs, ccs, file, tf, k1, k2, k3, k4, k5, k6, k7, hb, fun L => line_ok t3⟩
end
end Kx
/-! What the top has written, by the head's facts. -/
namespace Kx
open PySem PySem.Spec PyProof.Rows L2
def adsOf (K : FrK) : Ads := { house := He.ga K "House", hInit := He.ma K (He.ga K "House") "__init__", hLen := He.ma K (He.ga K "House") "__len__", base := He.ga K "HouseError", eHouse := He.ga K "InvalidHouse", eQuestion := He.ga K "InvalidQuestion", eRefused := He.ga K "Refused", eSize := He.ga K "InvalidSize", eLot := He.ga K "InvalidLot", iHouse := He.ma K (He.ga K "InvalidHouse") "__init__", iQuestion := He.ma K (He.ga K "InvalidQuestion") "__init__", iRefused := He.ma K (He.ga K "Refused") "__init__", iSize := He.ma K (He.ga K "InvalidSize") "__init__", unit := unitP K, unitI := unitIP K, code := (He.cT K defR).1, table := (He.cT K defR).2 }
section
variable {K : FrK} {h : Heap} {mg : PySem.Str → Option Value}
theorem glo_of (X : K.In h) (G : h.Ns mainGlobals mg) (c : SaysZ h K) (k : Nat) {x : PySem.Str} (hk : faA[k]? = some (.glo x)) : mg x = some (.ref (He.ga K x)) := He.glo_ok X G (c.d.fact k hk)
theorem free_of (X : K.In h) (G : h.Ns mainGlobals mg) (c : SaysZ h K) (k : Nat) {x : PySem.Str} (hk : faA[k]? = some (.free x)) : mg x = none := He.free_ok X G (c.d.fact k hk)
theorem gdef_of (X : K.In h) (G : h.Ns mainGlobals mg) (c : SaysZ h K) {x : PySem.Str} {i : Nat} {dfl : List He.Dv} (k j : Nat) (hk : fnA[k]? = some (dG x i dfl)) (hj : faA[j]? = some (.glo x)) : Gdef K mg x (topS i) (dfl.map (He.Dv.v K)) := by
  obtain ⟨fd, F⟩ := c.d.def_ k hk
  exact ⟨He.ga K x, fd, glo_of X G c j hj, F⟩
theorem refus_of (X : K.In h) (G : h.Ns mainGlobals mg) (c : SaysZ h K) (k j : Nat) (hk : fnA[k]? = some (dG "_law_refusals" 78 [])) (hj : faA[j]? = some (.glo "_law_refusals")) : GdefC K mg "_law_refusals" (topS 78) (He.cT K defR).1 := by
  obtain ⟨fd, F⟩ := c.d.def_ k hk
  have F' : FunD K "_law_refusals" "_law_refusals" (defArgs (topS 78)) (defBody (topS 78)) (defScope (topS 78)) [] [] (He.ga K "_law_refusals") fd := F
  refine ⟨He.ga K "_law_refusals", fd, glo_of X G c j hj, F', ?_⟩
  obtain ⟨oc, od, dV, kV, doc, pm, an, cdv, ct, osl, e, lk, hcd, _, _⟩ := F'.ex
  obtain ⟨cc, ec⟩ := He.codeIn_ref hcd
  have e2 : fd.code = .ref cc := by rw [e]; exact ec
  have := He.codeOf_eq (p := defR) lk e2
  show fd.code = .ref (He.codeOf K defR)
  rw [this, e2]
theorem txt_of (X : K.In h) (G : h.Ns mainGlobals mg) (c : SaysZ h K) : TxtL lawP K mg (adsOf K) := by
  have R := c.rest
  obtain ⟨r1, R⟩ := He.ba R
  obtain ⟨r2, R⟩ := He.ba R
  obtain ⟨r3, R⟩ := He.ba R
  obtain ⟨r4, R⟩ := He.ba R
  obtain ⟨r5, r6⟩ := He.ba R
  have ini : ∀ (k : Nat) (e : ErD), erA[k]? = some e → iniO K (e.I K) = iniV e.q e.st := fun k e hk => by
    have z : (erA.map fun e => iniO K (e.I K))[k]? = (erA.map fun e => iniV e.q e.st)[k]? := by rw [c.ini]
    rw [List.getElem?_map, List.getElem?_map, hk] at z
    exact Option.some.inj z
  have er : ∀ (k : Nat) (e : ErD), erA[k]? = some e → e.ok K = true := fun k e hk => c.er e (List.mem_of_getElem? hk)
  have noS : mg "super" = none := free_of X G c 80 rfl
  have hblt : ∀ x ∈ bltNames, mg x = none := by
    intro x hx
    simp only [bltNames, List.mem_cons, List.not_mem_nil, or_false] at hx
    rcases hx with rfl | rfl | rfl | rfl | rfl | rfl | rfl | rfl | rfl | rfl | rfl | rfl | rfl | rfl | rfl | rfl | rfl | rfl | rfl | rfl | rfl
    · exact free_of X G c 62 rfl
    · exact free_of X G c 63 rfl
    · exact free_of X G c 64 rfl
    · exact free_of X G c 65 rfl
    · exact free_of X G c 66 rfl
    · exact free_of X G c 67 rfl
    · exact free_of X G c 68 rfl
    · exact free_of X G c 69 rfl
    · exact free_of X G c 70 rfl
    · exact free_of X G c 71 rfl
    · exact free_of X G c 72 rfl
    · exact free_of X G c 73 rfl
    · exact free_of X G c 74 rfl
    · exact free_of X G c 75 rfl
    · exact free_of X G c 76 rfl
    · exact free_of X G c 77 rfl
    · exact free_of X G c 78 rfl
    · exact free_of X G c 79 rfl
    · exact free_of X G c 80 rfl
    · exact free_of X G c 81 rfl
    · exact free_of X G c 82 rfl
  have T : Txt lawP K mg (adsOf K) := {
    blt := hblt,
    MOST_CELLS := He.int_ok X G (c.d.fact 83 (f := .int "MOST_CELLS" 6) rfl),
    MOST_CONTENTS := He.int_ok X G (c.d.fact 84 (f := .int "MOST_CONTENTS" 36) rfl),
    MOST_STANDINGS := He.int_ok X G (c.d.fact 85 (f := .int "MOST_STANDINGS" 300) rfl),
    MOST_ROOMS := He.int_ok X G (c.d.fact 86 (f := .int "MOST_ROOMS" 6) rfl),
    MOST_GUESTS := He.int_ok X G (c.d.fact 87 (f := .int "MOST_GUESTS" 5) rfl),
    is_integer := gdef_of X G c (dfl := []) 0 0 rfl rfl,
    is_number := gdef_of X G c (dfl := []) 1 1 rfl rfl,
    is_sequence := gdef_of X G c (dfl := []) 2 2 rfl rfl,
    wrong_size := gdef_of X G c (dfl := []) 3 3 rfl rfl,
    fits_sizes := gdef_of X G c (dfl := []) 4 4 rfl rfl,
    wrong_standing := gdef_of X G c (dfl := []) 5 5 rfl rfl,
    wrong_change := gdef_of X G c (dfl := []) 6 6 rfl rfl,
    need_house := gdef_of X G c (dfl := []) 7 7 rfl rfl,
    rising_lot := gdef_of X G c (dfl := []) 8 8 rfl rfl,
    need_standings := gdef_of X G c (dfl := []) 9 9 rfl rfl,
    need_question := gdef_of X G c (dfl := []) 10 10 rfl rfl,
    is_window := gdef_of X G c (dfl := []) 11 11 rfl rfl,
    need_view := gdef_of X G c (dfl := []) 12 12 rfl rfl,
    cell_view := gdef_of X G c (dfl := []) 13 13 rfl rfl,
    seen_at := gdef_of X G c (dfl := []) 14 14 rfl rfl,
    need_rooms := gdef_of X G c (dfl := []) 15 15 rfl rfl,
    placings_count := gdef_of X G c (dfl := []) 16 16 rfl rfl,
    room_standings := gdef_of X G c (dfl := []) 17 17 rfl rfl,
    guest_house := gdef_of X G c (dfl := [.adr unitP]) 18 18 rfl rfl,
    is_door := gdef_of X G c (dfl := []) 19 19 rfl rfl,
    hung_lots := gdef_of X G c (dfl := []) 20 20 rfl rfl,
    are_doors := gdef_of X G c (dfl := []) 21 21 rfl rfl,
    are_gates := gdef_of X G c (dfl := []) 22 22 rfl rfl,
    need_party := gdef_of X G c (dfl := []) 23 23 rfl rfl,
    two_ways := gdef_of X G c (dfl := []) 24 24 rfl rfl,
    party_house := gdef_of X G c (dfl := []) 25 25 rfl rfl,
    need_single := gdef_of X G c (dfl := []) 26 26 rfl rfl,
    one_fault := gdef_of X G c (dfl := []) 27 27 rfl rfl,
    count_one := gdef_of X G c (dfl := []) 28 28 rfl rfl,
    marked_lot := gdef_of X G c (dfl := []) 29 29 rfl rfl,
    spread_from := gdef_of X G c (dfl := []) 30 30 rfl rfl,
    finished_order := gdef_of X G c (dfl := []) 31 31 rfl rfl,
    loose_lots := gdef_of X G c (dfl := []) 32 32 rfl rfl,
    lot_places := gdef_of X G c (dfl := []) 33 33 rfl rfl,
    lots_ahead := gdef_of X G c (dfl := []) 34 34 rfl rfl,
    strong_lots := gdef_of X G c (dfl := [.non]) 35 35 rfl rfl,
    row_of := gdef_of X G c (dfl := []) 36 36 rfl rfl,
    need_asked := gdef_of X G c (dfl := []) 37 37 rfl rfl,
    other_standings := gdef_of X G c (dfl := []) 38 38 rfl rfl,
    shown_mask := gdef_of X G c (dfl := []) 39 39 rfl rfl,
    lot_mask := gdef_of X G c (dfl := []) 40 40 rfl rfl,
    showing_lots := gdef_of X G c (dfl := []) 41 41 rfl rfl,
    is_mimicked := gdef_of X G c (dfl := []) 42 42 rfl rfl,
    told_in := gdef_of X G c (dfl := []) 43 43 rfl rfl,
    is_answerable := gdef_of X G c (dfl := []) 44 44 rfl rfl,
    _law_dealt := gdef_of X G c (dfl := []) 45 45 rfl rfl,
    _law_any := gdef_of X G c (dfl := []) 46 46 rfl rfl,
    _law_of := gdef_of X G c (dfl := []) 47 47 rfl rfl,
    _law_doors := gdef_of X G c (dfl := []) 48 48 rfl rfl,
    _law_led := gdef_of X G c (dfl := []) 49 49 rfl rfl,
    _law_mimicked := gdef_of X G c (dfl := []) 50 50 rfl rfl,
    _law_refused := gdef_of X G c (dfl := []) 51 51 rfl rfl,
    _law_numbered := gdef_of X G c (dfl := []) 52 52 rfl rfl,
    House := (glo_of X G c 55 rfl),
    hCls := He.cls_ok (c.d.fact 88 (f := .cls "House") rfl),
    hKeep := He.keep_ok (c.d.fact 89 (f := .keep "House") rfl),
    hMk := He.mkr_ok (c.d.fact 90 (f := .mkr "House") rfl),
    hSizes := He.noat_ok (c.d.fact 91 (f := .noat "House" "sizes") rfl),
    hStandings := He.noat_ok (c.d.fact 92 (f := .noat "House" "standings") rfl),
    hChanges := He.noat_ok (c.d.fact 93 (f := .noat "House" "changes") rfl),
    hAhead := He.noat_ok (c.d.fact 94 (f := .noat "House" "ahead") rfl),
    hBehind := He.noat_ok (c.d.fact 95 (f := .noat "House" "behind") rfl),
    hInitF := c.d.def_ 55 (d := dHInit) rfl,
    hLenF := c.d.def_ 56 (d := dHLen) rfl,
    hLenM := He.eqO_ok r1,
    hLenT := of_decide_eq_true r2,
    hKa := He.eqO_ok r3,
    hKn := He.eqO_ok r4,
    hKt := of_decide_eq_true r5,
    hKm := of_decide_eq_true r6,
    HouseError := (glo_of X G c 56 rfl),
    InvalidLot := (glo_of X G c 57 rfl),
    InvalidHouse := own_of erInvalidHouse (er 0 _ rfl) (ini 0 _ rfl) ini_HI (glo_of X G c 58 rfl) noS,
    InvalidQuestion := own_of erInvalidQuestion (er 1 _ rfl) (ini 1 _ rfl) ini_QI (glo_of X G c 59 rfl) noS,
    Refused := own_of erRefused (er 2 _ rfl) (ini 2 _ rfl) ini_RI (glo_of X G c 60 rfl) noS,
    InvalidSize := own_of erInvalidSize (er 3 _ rfl) (ini 3 _ rfl) ini_SI (glo_of X G c 61 rfl) noS,
    exHH := He.exm_ok (c.d.fact 96 (f := .exm "InvalidHouse" "InvalidHouse" true) rfl),
    exQH := He.exm_ok (c.d.fact 97 (f := .exm "InvalidQuestion" "InvalidHouse" false) rfl),
    exQL := He.exm_ok (c.d.fact 98 (f := .exm "InvalidQuestion" "InvalidLot" false) rfl),
    exQQ := He.exm_ok (c.d.fact 99 (f := .exm "InvalidQuestion" "InvalidQuestion" true) rfl),
    exRH := He.exm_ok (c.d.fact 100 (f := .exm "Refused" "InvalidHouse" false) rfl),
    exRL := He.exm_ok (c.d.fact 101 (f := .exm "Refused" "InvalidLot" false) rfl),
    exRQ := He.exm_ok (c.d.fact 102 (f := .exm "Refused" "InvalidQuestion" false) rfl),
    exRR := He.exm_ok (c.d.fact 103 (f := .exm "Refused" "Refused" true) rfl),
    exSH := He.exm_ok (c.d.fact 104 (f := .exm "InvalidSize" "InvalidHouse" false) rfl),
    exSL := He.exm_ok (c.d.fact 105 (f := .exm "InvalidSize" "InvalidLot" false) rfl),
    exSQ := He.exm_ok (c.d.fact 106 (f := .exm "InvalidSize" "InvalidQuestion" false) rfl),
    exSR := He.exm_ok (c.d.fact 107 (f := .exm "InvalidSize" "Refused" false) rfl),
    exSS := He.exm_ok (c.d.fact 108 (f := .exm "InvalidSize" "InvalidSize" true) rfl) }
  exact { toTxt := T, _law_refusals := refus_of X G c 53 53 rfl rfl, law := gdef_of X G c (dfl := []) 54 54 rfl rfl }
end
end Kx
set_option maxHeartbeats 0
open PySem PySem.W PySem.Calls PyProof.Rows
theorem PySem.Challenge.cw_onceitwas_k66_whole_one_guest_who_comes_holds : PySem.Challenge.rw_onceitwas_k66_whole_one_guest_who_comes.Holds := by
  w_on; o_law
  refine HandSHeadRun.head_any (r := Kx.R) (q := Kx.qv) (H := Kx.hookZ) (ob := Kx.ob) (M := 8000) (loose := Kx.names) (d := HandSHeadRun.topDef Kx.R.prog 79) (kwd := []) Kx.ob_eq
    (by kernel_rfl) (fun s => by kernel_rfl) Kx.run (by kernel_rfl) (by kernel_rfl) (by kernel_rfl) (by rfl) (by first | assumption | decide +kernel) (by decide +kernel) ⟨rfl, rfl, rfl, rfl, rfl, by decide +kernel⟩ ?hw ?hc
  case hw => w_witness2
  case hc =>
    refine Att.attach_callB (l := PySem.Challenge.rw_onceitwas_k66_whole_one_guest_who_comes) (n := 63) rfl (by kernel_rfl) ?F
    intro w s0 s1 mg mb fa o pm cd doc a vs ns G Y ho hd hcd hmg hobj hints hlen hbits hg
    obtain ⟨K, KX, c⟩ := Y
    have hfa : mg ("law" : PySem.Str) = some (.ref fa) := by
      have e : (HandSHeadRun.topDef Kx.R.prog 79).name = ("law" : PySem.Str) := by kernel_rfl
      rw [← e]
      exact hmg
    have T := Kx.txt_of KX G.T.g c
    exact Kx.law_end KX G.T.g G.T.b G.T.builtins G.T.nolimit hg c.empty c.out (PySem.W.codeHd_of_K KX c.hd) G.T.bmain hobj hints (Nat.le_trans hlen (by decide)) fun base H _ _ TB e0 ht hS => Kx.law_run T TB hfa KX e0 ht hS

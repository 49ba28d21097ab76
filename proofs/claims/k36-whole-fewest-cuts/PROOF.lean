import PyProof.Rows.All
import Wide.All
import OpenK.AllK
import Wide.FinOn
import KE.KStateDown
import Lean
import HandS.ForMost
import HandS.Exc
import HandS.ExcOwn
import HandS.TryMany
import HandS.TryOnly
import HandS.WordsExc
import HandS.More
import HandS.Style
import HandS.TupAny
import HandS.TupMul
import HandS.Conv
import HandS.Strs
import HandS.SetKeys
import HandS.SetFor
import HandS.SortInts
import HandS.Finally
import HandS.IsInst
import HandS.ExcIs
import HandS.Small
import HandS.Rev
import HandS.Walk
import HandS.ListEq
import HandS.Evl
import HandS.Defaults
import HandS.SortKw
import HandS.Lambda
import HandS.EndBits
import HandS.EndTab
import HandS.Head0
import HandS.Head1
import HandS.Head2
import HandS.HeadEnd
import HandS.HeadHook1
import HandS.HeadHook2
import HandS.HeadHook3
import HandS.HeadHook4
import HandS.HeadWalk
import KE.SortData
import KE.KMinKey
import KE.KDictPairs
import KE.KDictZip
import KE.GoesEnum
import PyProof.ListNew
import HandS.ListItems
import PySem.Challenge.RW_dimfits_k36_whole_fewest_cuts
set_option Elab.async false
set_option linter.all false
set_option maxRecDepth 100000
set_option maxHeartbeats 4000000
namespace K36
open PySem PySem.Spec PyProof.Rows L2
/-! ### the text by places (printed by genhead.py) -/
def topS (i : Nat) : Stmt := PySem.Challenge.pw_dimfits_k36_whole_fewest_cuts.main.body.getD i (.Pass ⟨0, 0, 0, 0⟩)
abbrev sPartsOf : Stmt := topS 6
abbrev sLayerInit : Stmt := inClass (topS 9) 0
abbrev sLayerLong : Stmt := inClass (topS 9) 1
abbrev sLayerLongOf : Stmt := inClass (topS 9) 2
abbrev sLayerLaid : Stmt := inClass (topS 9) 3
abbrev sLayerFlat : Stmt := inClass (topS 9) 4
abbrev sLayerLaidOne : Stmt := inClass (topS 9) 5
abbrev sRowsOf : Stmt := topS 10
abbrev sWorkOf : Stmt := topS 11
abbrev sLeadsTo : Stmt := topS 12
abbrev sWrittenBy : Stmt := topS 13
abbrev sSureNames : Stmt := topS 15
abbrev sWantedRows : Stmt := topS 16
abbrev sAllNames : Stmt := topS 17
abbrev sBarredIn : Stmt := topS 18
abbrev sRingAmong : Stmt := topS 19
abbrev sHoldIn : Stmt := topS 20
abbrev sHeaviestWays : Stmt := topS 21
abbrev sHeaviestFrom : Stmt := topS 22
abbrev sFitIn : Stmt := topS 23
abbrev sLimitsInit : Stmt := inClass (topS 25) 0
abbrev sLimitsTaken : Stmt := inClass (topS 25) 3
abbrev sWorkAlong : Stmt := topS 27
abbrev sFinest : Stmt := topS 28
abbrev sTooHeavy : Stmt := topS 30
abbrev sFewest : Stmt := topS 31
abbrev sLCell : Stmt := topS 33
abbrev sLFlow : Stmt := topS 34
abbrev sLDraw : Stmt := topS 35
abbrev sLNames : Stmt := topS 36
abbrev sLTerm : Stmt := topS 37
abbrev sLRoom : Stmt := topS 38
abbrev sLSure : Stmt := topS 39
abbrev sLRead : Stmt := topS 40
abbrev sLSmall : Stmt := topS 41
abbrev sLShare : Stmt := topS 42
abbrev sLForked : Stmt := topS 43
abbrev sLRound : Stmt := topS 44
abbrev sLAgain : Stmt := topS 45
abbrev sLBody : Stmt := topS 46
abbrev sLHelpers : Stmt := topS 47
abbrev sLProgram : Stmt := topS 48
abbrev sLLay : Stmt := topS 49
abbrev sLRows : Stmt := topS 50
abbrev sLParts : Stmt := topS 51
abbrev sLWork : Stmt := topS 52
abbrev sLLeads : Stmt := topS 53
abbrev sLWritten : Stmt := topS 54
abbrev sLWanted : Stmt := topS 55
abbrev sLSureNames : Stmt := topS 56
abbrev sLBarred : Stmt := topS 57
abbrev sLHeaviest : Stmt := topS 58
abbrev sLFree : Stmt := topS 59
abbrev sLStraight : Stmt := topS 60
abbrev sLForks : Stmt := topS 61
abbrev sLTold : Stmt := topS 62
abbrev sLRight : Stmt := topS 63
abbrev sLaw : Stmt := topS 64
end K36
namespace K36
open PySem PySem.Spec PyProof.Rows L2
/-! ### the text of a def, and a def as it is called -/
abbrev FnP (K : PySem.W.Frag) (x q : Str) (st : Stmt) (dvs : List V) (f : Addr) (fd : FuncData) : Prop := FunD K x q (defArgs st) (defBody st) (defScope st) dvs [] f fd
/-- a def of the top where it stands -/
structure At (K : PySem.W.Frag) (mg : Str → Option Value) (x : Str) (st : Stmt) (ps : List Str) : Prop where
  ex : ∃ f fd, FnP K x x st [] f fd ∧ mg x = some (.ref f) ∧ Binds K fd ps []
/-- a def that may be called by its name -/
structure Cal (P : Program) (w : World) (K : PySem.W.Frag) (mg : Str → Option Value) (base : Heap) (CX : CXT) (x : Str) (k : Nat) (ps : List Str) (sp : Sp) : Prop where
  ex : ∃ f fd, mg x = some (.ref f) ∧ PySem.W.keepIn K (.ref f) = true ∧ Binds K fd ps [] ∧ FnOk P w K mg base CX k f fd ps sp
/-- a method -/
structure MAt (K : PySem.W.Frag) (C m : Str) (st : Stmt) (ps : List Str) : Prop where
  ex : ∃ f fd, FnP K m (C ++ "." ++ m) st [] f fd ∧ Meth K (He.ga K C) m f ∧ Binds K fd ps []
structure MCal (P : Program) (w : World) (K : PySem.W.Frag) (mg : Str → Option Value) (base : Heap) (CX : CXT) (C m : Str) (k : Nat) (ps : List Str) (sp : Sp) : Prop where
  ex : ∃ f fd, Meth K (He.ga K C) m f ∧ Binds K fd ps [] ∧ FnOk P w K mg base CX k f fd ps sp
section
variable {P : Program} {w : World} {K : PySem.W.Frag} {mg : Str → Option Value} {base : Heap} {CX : CXT} {x C m : Str} {st : Stmt} {N ps : List Str} {k j : Nat} {sp sp' : Sp}
theorem Cal.of (a : At K mg x st ps) (S : FnScope N ps (defScope st)) (len : ∀ vs H Q E, sp vs H Q E → vs.length = ps.length)
    (hbody : ∀ (f : Addr) (cdv : Value) (A : Around) (outer : List Env) (s : Shared) (H : Hp) (vs : List V) (Q : VK) (E : XK), Room k (A.deeper (envOfC x (defScope st) s.heap.objs.size f cdv)) → sp vs H Q E →
      ∃ t, PSs (cxOf CX0 P w K mg base N x (defScope st) f cdv A outer s H E).nox (defBody st) t ∧ t { nx := fun _ H' => Q .non H', rt := Q } (start N vs) H) : Cal P w K mg base CX0 x (k + 1) ps sp := by
  obtain ⟨f, fd, F, g, b⟩ := a.ex
  refine ⟨f, fd, g, F.kp, b, F.ok S len fun cdv A outer s H vs Q E hr h => ?_⟩
  obtain ⟨t, h1, h2⟩ := hbody f cdv A outer s H vs Q E hr h
  exact ⟨t, h1.nox, h2⟩
theorem Cal.ofX (a : At K mg x st ps) (S : FnScope N ps (defScope st)) (len : ∀ vs H Q E, sp vs H Q E → vs.length = ps.length)
    (hbody : ∀ (f : Addr) (cdv : Value) (A : Around) (outer : List Env) (s : Shared) (H : Hp) (vs : List V) (Q : VK) (E : XK), Room k (A.deeper (envOfC x (defScope st) s.heap.objs.size f cdv)) → sp vs H Q E →
      ∃ t, PSs (cxOf (L2.CX P w) P w K mg base N x (defScope st) f cdv A outer s H E) (defBody st) t ∧ t { nx := fun _ H' => Q .non H', rt := Q } (start N vs) H) : Cal P w K mg base (L2.CX P w) x (k + 1) ps sp := by
  obtain ⟨f, fd, F, g, b⟩ := a.ex
  exact ⟨f, fd, g, F.kp, b, F.ok S len fun cdv A outer s H vs Q E hr h => hbody f cdv A outer s H vs Q E hr h⟩
theorem Cal.imp (c : Cal P w K mg base CX x k ps sp) (h : ∀ vs H Q E, sp' vs H Q E → sp vs H Q E) : Cal P w K mg base CX x k ps sp' := by
  obtain ⟨f, fd, h1, h2, h3, h4⟩ := c.ex
  exact ⟨f, fd, h1, h2, h3, h4.imp h⟩
theorem Cal.mono (c : Cal P w K mg base CX x j ps sp) (h : j ≤ k) : Cal P w K mg base CX x k ps sp := by
  obtain ⟨f, fd, h1, h2, h3, h4⟩ := c.ex
  exact ⟨f, fd, h1, h2, h3, h4.mono h⟩
theorem Cal.none (a : At K mg x st ps) (no : ∀ vs H Q E, ¬ sp vs H Q E) : Cal P w K mg base CX x k ps sp := by
  obtain ⟨f, fd, F, g, b⟩ := a.ex
  exact ⟨f, fd, g, F.kp, b, fun vs H Q E h => absurd h (no vs H Q E), fun A outer s H args us vs Q E _ _ _ _ h => absurd h (no vs H Q E)⟩
theorem MCal.of (a : MAt K C m st ps) (S : FnScope N ps (defScope st)) (len : ∀ vs H Q E, sp vs H Q E → vs.length = ps.length)
    (hbody : ∀ (f : Addr) (cdv : Value) (A : Around) (outer : List Env) (s : Shared) (H : Hp) (vs : List V) (Q : VK) (E : XK), Room k (A.deeper (envOfC (C ++ "." ++ m) (defScope st) s.heap.objs.size f cdv)) → sp vs H Q E →
      ∃ t, PSs (cxOf CX0 P w K mg base N (C ++ "." ++ m) (defScope st) f cdv A outer s H E).nox (defBody st) t ∧ t { nx := fun _ H' => Q .non H', rt := Q } (start N vs) H) : MCal P w K mg base CX0 C m (k + 1) ps sp := by
  obtain ⟨f, fd, F, g, b⟩ := a.ex
  refine ⟨f, fd, g, b, F.ok S len fun cdv A outer s H vs Q E hr h => ?_⟩
  obtain ⟨t, h1, h2⟩ := hbody f cdv A outer s H vs Q E hr h
  exact ⟨t, h1.nox, h2⟩
theorem MCal.mono (c : MCal P w K mg base CX C m j ps sp) (h : j ≤ k) : MCal P w K mg base CX C m k ps sp := by
  obtain ⟨f, fd, h1, h2, h3⟩ := c.ex
  exact ⟨f, fd, h1, h2, h3.mono h⟩
theorem MCal.none (a : MAt K C m st ps) (no : ∀ vs H Q E, ¬ sp vs H Q E) : MCal P w K mg base CX C m k ps sp := by
  obtain ⟨f, fd, F, g, b⟩ := a.ex
  exact ⟨f, fd, g, b, fun vs H Q E h => absurd h (no vs H Q E), fun A outer s H args us vs Q E _ _ _ _ h => absurd h (no vs H Q E)⟩
end
section
variable {X : Cx} {CX : CXT} {k j : Nat} {ps : List Str} {sp : Sp} {E : XK} {x C m : Str} {p pos apos : Pos} {e o : Expr} {es : List Expr} {ta : TE} {t : TA}
/-- f(e, ..) -/
theorem pe_c (c : Cal X.prog X.w X.K X.mg X.base CX x j ps sp) (hr : Room k X.A) (hx : Passes CX X E) (ha : PA X (e :: es) t) (hj : j ≤ k := by first | decide | omega) (hg : Gl X x := by rfl)
    (hdb : (x == ("__debug__" : Str)) = false := by decide) (he : starEach (e :: es) X.env = (false, eval e X.env) :: starEach es X.env := by rfl) (hpl : (backTo pos (starEach es X.env)).any (·.1) = false := by rfl) :
    PE X (.Call (.Name x p) (e :: es) [] pos) (tCall sp [] E t) := by
  obtain ⟨f, fd, h1, h2, h3, h4⟩ := c.ex
  exact pe_call h4 (hr.mono hj) hg h1 h2 h3 .nil hx ha hdb he hpl
/-- o.m(e, ..) -/
theorem pe_m {pl : Sem Bool} (c : MCal X.prog X.w X.K X.mg X.base CX C m j ps sp) (cl : Cls X.K (He.ga X.K C)) (hr : Room k X.A) (hx : Passes CX X E) (he : PE X o ta) (ha : PA X (e :: es) t) (hj : j ≤ k := by first | decide | omega)
    (hst : starEach (e :: es) X.env = (false, eval e X.env) :: starEach es X.env := by rfl) (hpl : (backTo pos (starEach es X.env)).any (·.1) = false := by rfl)
    (ht : eval (.Call (.Attribute o m apos) (e :: es) [] pos) X.env = (do
      let ov ← eval o X.env
      standAt apos.atName
      let (f, first) ← holding [ov] (getMethod ov m pl)
      callWith pos f first (backTo pos (starEach (e :: es) X.env)) (backToKw pos (keywordEach [] X.env))) := by rfl) :
    PE X (.Call (.Attribute o m apos) (e :: es) [] pos) (tMeth (He.ga X.K C) m sp [] E ta t) := by
  obtain ⟨f, fd, h1, h2, h3⟩ := c.ex
  exact pe_meth he cl h1 h3 (hr.mono hj) h2 .nil hx ha hst hpl ht
end
end K36
namespace K36
open PySem PySem.Spec PyProof.Rows L2
/-! ### built-in names -/
structure Bi (mg : Str → Option Value) : Prop where
  len : mg "len" = none
  range : mg "range" = none
  sum : mg "sum" = none
  tuple : mg "tuple" = none
  list : mg "list" = none
  dict : mg "dict" = none
  int : mg "int" = none
  isinstance : mg "isinstance" = none
  sorted : mg "sorted" = none
  reversed : mg "reversed" = none
  enumerate : mg "enumerate" = none
  any : mg "any" = none
  all : mg "all" = none
  set : mg "set" = none
  max : mg "max" = none
  min : mg "min" = none
theorem bo_len : bootBuiltins "len" = some (.builtin "len") := by decide +kernel
theorem bo_sum : bootBuiltins "sum" = some (.builtin "sum") := by decide +kernel
theorem bo_isinstance : bootBuiltins "isinstance" = some (.builtin "isinstance") := by decide +kernel
theorem bo_sorted : bootBuiltins "sorted" = some (.builtin "sorted") := by decide +kernel
theorem bo_any : bootBuiltins "any" = some (.builtin "any") := by decide +kernel
theorem bo_all : bootBuiltins "all" = some (.builtin "all") := by decide +kernel
theorem bo_max : bootBuiltins "max" = some (.builtin "max") := by decide +kernel
theorem bo_min : bootBuiltins "min" = some (.builtin "min") := by decide +kernel
theorem bo_tuple : bootBuiltins "tuple" = some (.type "tuple") := by decide +kernel
theorem bo_list : bootBuiltins "list" = some (.type "list") := by decide +kernel
theorem bo_dict : bootBuiltins "dict" = some (.type "dict") := by decide +kernel
theorem bo_int : bootBuiltins "int" = some (.type "int") := by decide +kernel
theorem bo_set : bootBuiltins "set" = some (.type "set") := by decide +kernel
theorem bo_range : bootBuiltins "range" = some (.type "range") := by decide +kernel
theorem bo_reversed : bootBuiltins "reversed" = some (.type "reversed") := by decide +kernel
theorem bo_enumerate : bootBuiltins "enumerate" = some (.type "enumerate") := by decide +kernel
/-! ### sizes -/
theorem szl {n : Nat} (h : n ≤ 100000) : n ≤ sizeLine := Nat.le_trans h (by decide)
theorem szt {n : Nat} (h : n < 100000) : n < sizeLine := Nat.lt_of_lt_of_le h (by decide)
/-! ### heaps: what stays but at M -/
/-- the tuples stay -/
structure TL (H H' : Hp) : Prop where
  t : ∀ b xs, H b = some (.tup xs) → H' b = some (.tup xs)
  f : ∀ b o xs, H b = some (.frz o (.tup xs)) → H' b = some (.frz o (.tup xs))
instance tlFun {H H' : Hp} : CoeFun (TL H H') fun _ => ∀ b xs, H b = some (.tup xs) → H' b = some (.tup xs) := ⟨TL.t⟩
structure Kp (M : Addr → Prop) (H H' : Hp) : Prop where
  k : ∀ b o, H b = some o → ¬ M b → H' b = some o
  t : TL H H'
  e : ∀ b o, H b = some o → ∃ u, H' b = some u
/-- no tuple -/
def NT (u : HO) : Prop := (∀ xs, u ≠ .tup xs) ∧ ∀ o xs, u ≠ .frz o (.tup xs)
section
variable {M M' : Addr → Prop} {H H' H1 H2 : Hp} {a p : Addr} {o u : HO}
theorem TL.refl (H : Hp) : TL H H := ⟨fun _ _ h => h, fun _ _ _ h => h⟩
theorem TL.trans (x : TL H H1) (y : TL H1 H2) : TL H H2 := ⟨fun b xs h => y.t b xs (x.t b xs h), fun b o xs h => y.f b o xs (x.f b o xs h)⟩
theorem TL.of (x : ∀ b o, H b = some o → H' b = some o) : TL H H' := ⟨fun b xs h => x b _ h, fun b o xs h => x b _ h⟩
theorem Kp.tl (x : Kp M H H') : TL H H' := x.t
theorem Kp.refl (M : Addr → Prop) (H : Hp) : Kp M H H := ⟨fun _ _ h _ => h, TL.refl H, fun _ o h => ⟨o, h⟩⟩
theorem Kp.trans (x : Kp M H H1) (y : Kp M H1 H2) : Kp M H H2 := ⟨fun b o h n => y.k b o (x.k b o h n) n, x.t.trans y.t, fun b o h => let ⟨u, h1⟩ := x.e b o h; y.e b u h1⟩
theorem Kp.mono (x : Kp M H H') (h : ∀ b, M b → M' b) : Kp M' H H' := ⟨fun b o e n => x.k b o e fun z => n (h b z), x.t, x.e⟩
theorem Kp.same (x : ∀ b o, H b = some o → H' b = some o) : Kp M H H' := ⟨fun b o h _ => x b o h, TL.of x, fun b o h => ⟨o, x b o h⟩⟩
theorem Kp.free (x : Kp M H H') (h : H' p = none) : H p = none := by
  cases q : H p with
  | none => rfl
  | some o =>
    obtain ⟨u, e⟩ := x.e p o q
    rw [h] at e
    cases e
/-- a new object -/
theorem Kp.new (h : H p = none) : Kp M H (upd H p o) := Kp.same fun b u e => by
  rw [upd_ne (ne_of_none e h)]
  exact e
/-- an object of M that is no tuple is written -/
theorem Kp.upd (hm : M a) (h : H a = some u) (hu : NT u) : Kp M H (upd H a o) := by
  refine ⟨fun b v e n => ?_, ⟨fun b xs e => ?_, fun b w xs e => ?_⟩, fun b v e => ?_⟩
  · rw [upd_ne (show b ≠ a from fun z => n (by rw [z]; exact hm))]
    exact e
  · rw [upd_ne (show b ≠ a from fun z => by rw [z] at e; exact hu.1 xs (Option.some.inj (h.symm.trans e)))]
    exact e
  · rw [upd_ne (show b ≠ a from fun z => by rw [z] at e; exact hu.2 w xs (Option.some.inj (h.symm.trans e)))]
    exact e
  · by_cases z : b = a
    · exact ⟨o, by rw [z, upd_same]⟩
    · exact ⟨v, by rw [upd_ne z]; exact e⟩
/-- an object that H does not know is written -/
theorem Kp.mut (x : Kp M H H') (h : H p = none) : Kp M H (L2.upd H' p o) := by
  refine ⟨fun b v e n => ?_, ⟨fun b xs e => ?_, fun b w xs e => ?_⟩, fun b v e => ?_⟩
  · rw [upd_ne (ne_of_none e h)]
    exact x.k b v e n
  · rw [upd_ne (ne_of_none e h)]
    exact x.t.t b xs e
  · rw [upd_ne (ne_of_none e h)]
    exact x.t.f b w xs e
  · obtain ⟨u, q⟩ := x.e b v e
    exact ⟨u, by rw [upd_ne (ne_of_none e h)]; exact q⟩
theorem Kp.put (x : Kp M H H') (hm : M a) (h : H' a = some u) (hu : NT u) : Kp M H (L2.upd H' a o) := x.trans (Kp.upd hm h hu)
theorem same_new (h : H p = none) : Same H (L2.upd H p o) := fun b u e => by
  rw [upd_ne (ne_of_none e h)]
  exact e
theorem Same.mut (x : Same H H') (h : H p = none) : Same H (L2.upd H' p o) := fun b u e => by
  rw [upd_ne (ne_of_none e h)]
  exact x b u e
end
theorem lst_ne_tup {ys : List V} : NT (.lst ys) := ⟨(fun _ z => nomatch z), (fun _ _ z => nomatch z)⟩
theorem dK_ne_tup {ys : List (Key × V)} : NT (.dK ys) := ⟨(fun _ z => nomatch z), (fun _ _ z => nomatch z)⟩
/-! ### terms -/
inductive Tm where
  | leaf
  | op (a b : Tm)
def Tm.sz : Tm → Nat
  | .leaf => 1
  | .op a b => 1 + a.sz + b.sz
def Tm.dp : Tm → Nat
  | .leaf => 1
  | .op a b => 1 + max a.dp b.dp
def TmAt (H : Hp) : Tm → V → Prop
  | .leaf, v => ∃ a w x, v = .ref a ∧ H a = some (.tup [.str w, x]) ∧ w ≠ ("op" : Str)
  | .op s t, v => ∃ a g u z, v = .ref a ∧ H a = some (.tup [.str "op", .str g, u, z]) ∧ TmAt H s u ∧ TmAt H t z
theorem TmAt.tl {H H' : Hp} (x : TL H H') : ∀ {t : Tm} {v : V}, TmAt H t v → TmAt H' t v
  | .leaf, v, h => by
    obtain ⟨a, w, z, e, h1, h2⟩ := h
    exact ⟨a, w, z, e, x _ _ h1, h2⟩
  | .op s t, v, h => by
    obtain ⟨a, g, u, z, e, h1, h2, h3⟩ := h
    exact ⟨a, g, u, z, e, x _ _ h1, TmAt.tl x h2, TmAt.tl x h3⟩
theorem Tm.sz_pos : ∀ t : Tm, 1 ≤ t.sz
  | .leaf => Nat.le_refl _
  | .op a b => by
    show 1 ≤ 1 + a.sz + b.sz
    omega
theorem Tm.dp_pos : ∀ t : Tm, 1 ≤ t.dp
  | .leaf => Nat.le_refl _
  | .op a b => by
    show 1 ≤ 1 + max a.dp b.dp
    omega
/-! ### rows -/
inductive Rw where
  | set (x : Str) (t : Tm)
  | read (x : Str)
  | tell (t : Tm)
  | sure (ns : List Str)
  | fin
/-- the items of a row, without where it leads -/
def RwIt (H : Hp) : Rw → List V → Prop
  | .set x t, its => ∃ u, its = [.str "set", .str x, u] ∧ TmAt H t u
  | .read x, its => ∃ g, its = [.str "read", .str x, g]
  | .tell t, its => ∃ u, its = [.str "tell", u] ∧ TmAt H t u
  | .sure ns, its => ∃ b n, its = [.str "sure", .ref b, .int n] ∧ H b = some (.tup (ns.map V.str))
  | .fin, its => its = [.str "end"]
theorem RwIt.tl {H H' : Hp} (x : TL H H') {r : Rw} {its : List V} (h : RwIt H r its) : RwIt H' r its := by
  cases r with
  | set y t =>
    obtain ⟨u, e, h⟩ := h
    exact ⟨u, e, h.tl x⟩
  | read y => exact h
  | tell t =>
    obtain ⟨u, e, h⟩ := h
    exact ⟨u, e, h.tl x⟩
  | sure ns =>
    obtain ⟨b, n, e, h⟩ := h
    exact ⟨b, n, e, x _ _ h⟩
  | fin => exact h
def Rw.wk : Rw → Nat
  | .set _ t => t.sz
  | .read _ => 2
  | .tell t => t.sz
  | .sure _ => 1
  | .fin => 0
def Rw.wr : Rw → Option Str
  | .set x _ => some x
  | .read x => some x
  | _ => none
def Rw.sn : Rw → List Str
  | .sure ns => ns
  | _ => []
/-- the row's number behind a row -/
def nx (r : Rw) (i : Nat) : List V := match r with
  | .fin => []
  | _ => [.int ((i : Int) + 1)]
/-- a statement; a row at its place -/
def StAt (H : Hp) (r : Rw) (v : V) : Prop := ∃ a its, v = .ref a ∧ H a = some (.tup its) ∧ RwIt H r its
def RowAt (H : Hp) (i : Nat) (r : Rw) (v : V) : Prop := ∃ a its, v = .ref a ∧ H a = some (.tup (its ++ nx r i)) ∧ RwIt H r its
theorem StAt.tl {H H' : Hp} (x : TL H H') {r : Rw} {v : V} (h : StAt H r v) : StAt H' r v := by
  obtain ⟨a, its, e, h1, h2⟩ := h
  exact ⟨a, its, e, x _ _ h1, h2.tl x⟩
theorem RowAt.tl {H H' : Hp} (x : TL H H') {r : Rw} {i : Nat} {v : V} (h : RowAt H i r v) : RowAt H' i r v := by
  obtain ⟨a, its, e, h1, h2⟩ := h
  exact ⟨a, its, e, x _ _ h1, h2.tl x⟩
/-- the rows, told by their data -/
def RowsAt (H : Hp) (a : Addr) (R : List Rw) : Prop := ∃ vs, H a = some (.tup vs) ∧ vs.length = R.length ∧ ∀ i r, R[i]? = some r → ∃ v, vs[i]? = some v ∧ RowAt H i r v
theorem RowsAt.tl {H H' : Hp} (x : TL H H') {R : List Rw} {a : Addr} (h : RowsAt H a R) : RowsAt H' a R := by
  obtain ⟨vs, h1, h2, h3⟩ := h
  exact ⟨vs, x _ _ h1, h2, fun i r hr => let ⟨v, e, q⟩ := h3 i r hr; ⟨v, e, q.tl x⟩⟩
/-- rows of a straight program: n plain ones, the end; few; the names of which they must be sure are among few -/
structure Str8 (R : List Rw) : Prop where
  ex : ∃ rs, R = rs ++ [.fin] ∧ (∀ r ∈ rs, r ≠ .fin) ∧ rs.length ≤ 58
  dp : ∀ r ∈ R, (∀ x t, r = .set x t → t.dp ≤ 6) ∧ ∀ t, r = .tell t → t.dp ≤ 6
  nm : ∃ C : List Str, C.length ≤ 5 ∧ ∀ r ∈ R, ∀ x ∈ r.sn, x ∈ C
end K36
namespace K36
open PySem PySem.Spec PyProof.Rows L2
/-! ### rules within a comprehension: what is told of the written part, by K -/
def rLenK (K : PySem.W.Frag) : List V → Hp → VK → Prop := fun xs H Q => ∃ p ys, xs = [.ref p] ∧ (SqL K H p ys ∨ SqT K H p ys) ∧ Q (.int ys.length) H
def rTupK (K : PySem.W.Frag) : List V → Hp → VK → Prop := fun xs H Q => ∃ p ys, xs = [.ref p] ∧ ((SqL K H p ys ∧ ∀ l, H l = none → Q (.ref l) (upd H l (.tup ys))) ∨ (SqT K H p ys ∧ Q (.ref p) H))
section
variable {X : Cx} {K : PySem.W.Frag}
theorem ixL (h : X.K = K) : IxR X (rIxL K) := by subst h; exact ix_list
theorem ixT (h : X.K = K) : IxR X (rIxT K) := by subst h; exact ix_tup
theorem lenK (h : X.K = K) : CallR X (.builtin "len") (rLenK K) := by subst h; exact call_len_seq
theorem tupK (h : X.K = K) : CallR X (.type "tuple") (rTupK K) := by subst h; exact call_tuple_of
theorem inK (h : X.K = K) : OpR X (compareOp .In) (rIn K false) := by subst h; exact op_in_seq
theorem notInK (h : X.K = K) : OpR X (compareOp .NotIn) (rIn K true) := by subst h; exact op_notIn_seq
theorem anyK (h : X.K = K) (hc : X.calm = true) : CallR X (.builtin "any") (rAny K) := by subst h; exact cr_any hc
theorem allK (h : X.K = K) (hc : X.calm = true) : CallR X (.builtin "all") (rAll K) := by subst h; exact cr_all hc
theorem slLK (h : X.K = K) : SlR X (rSlL K) := by subst h; exact sl_list
variable {tg l : Expr} {tl : TE}
theorem pi_listK (h : X.K = K) (hl : PE X l tl) : PI X tg l (iList K tl) := by subst h; exact pi_list hl
theorem pi_tupK (h : X.K = K) (hl : PE X l tl) : PI X tg l (iTup K tl) := by subst h; exact pi_tup hl
variable {e o : Expr} {f : Str} {pos apos : Pos} {ta : TE}
theorem pe_fldK (h : X.K = K) (he : PE X e ta) (hb : attributeBase e f X.env (eval e X.env) = eval e X.env) : PE X (.Attribute e f pos) (tFld K ta f) := by subst h; exact pe_fld he hb
variable {CX : CXT} {k j : Nat} {ps : List Str} {sp : Sp} {E : XK} {C m : Str} {es : List Expr} {t : TA}
theorem pe_mK {pl : Sem Bool} (h : X.K = K) (c : MCal X.prog X.w K X.mg X.base CX C m j ps sp) (cl : Cls K (He.ga K C)) (hr : Room k X.A) (hx : Passes CX X E) (he : PE X o ta) (ha : PA X (e :: es) t) (hj : j ≤ k := by first | decide | omega)
    (hst : starEach (e :: es) X.env = (false, eval e X.env) :: starEach es X.env := by rfl) (hpl : (backTo pos (starEach es X.env)).any (·.1) = false := by rfl)
    (ht : eval (.Call (.Attribute o m apos) (e :: es) [] pos) X.env = (do
      let ov ← eval o X.env
      standAt apos.atName
      let (f, first) ← holding [ov] (getMethod ov m pl)
      callWith pos f first (backTo pos (starEach (e :: es) X.env)) (backToKw pos (keywordEach [] X.env))) := by rfl) :
    PE X (.Call (.Attribute o m apos) (e :: es) [] pos) (tMeth (He.ga K C) m sp [] E ta t) := by
  subst h
  exact pe_m c cl hr hx he ha hj hst hpl ht
end
end K36
namespace K36
open PySem PySem.Spec PyProof.Rows L2
/-! ### a list compared with the empty one -/
namespace EqNil
open PySem.SeqAt
open MeetsSeq MeetsSeq2 MeetsSeq3 SeqRoads2
section
variable {prog : Program} {w : World}
theorem list_eq_ne (l b : Addr) (items items2 : Array Value) (n n2 : Nat) (dd dd2 : Option Addr) (sl sl2 : Array (Option Value)) (hsz : items.size ≠ items2.size) :
    MeetsIn prog w (Builtin.«list.__eq__» ⟨[.ref l, .ref b], []⟩)
      (fun A R s => s.heap.get? l = some { cls := .type "list", dict := dd, data := .seq items n, slots := sl } ∧ s.heap.get? b = some { cls := .type "list", dict := dd2, data := .seq items2 n2, slots := sl2 } ∧ R (.ok (.ret (.bool false))) s) := by
  intro A R s h
  obtain ⟨hp, g, d, tk, os⟩ := s; obtain ⟨hl, hb, h⟩ := h
  have f3 := AutoSeq1.sub_list_list
  have hne : (items.size != items2.size) = true := by simp [hsz]
  wp_walk using wpAny_loadPart' hl, wpAny_loadPart' hb
  exact h
theorem rc_ne {A : Around} {s : Shared} {l b : Addr} {items items2 : Array Value} (hl : s.heap.IsList l items) (hb : s.heap.IsList b items2) (hsz : items.size ≠ items2.size) (hu : A.units < cLine) (E Q : Value → Shared → Prop) (h : Q (.bool false) s) :
    wpAny (model prog w) A (richCompare .Eq (.ref l) (.ref b)) Q E s := by
  obtain ⟨⟨cls, dd, data, sl⟩, ho, hc, n, hd⟩ := id hl
  obtain ⟨⟨cls2, dd2, data2, sl2⟩, ho2, hc2, n2, hd2⟩ := id hb
  simp only at hc hd hc2 hd2
  subst hc hd hc2 hd2
  have ta : s.TypeIs (.ref l) "list" := ⟨_, ho, rfl⟩
  have tb : s.TypeIs (.ref b) "list" := ⟨_, ho2, rfl⟩
  exact wpAny_richCompare_same_room (op := .Eq) ta tb F.slot_list_eq (call_meetsIn F.slot_list_eq ta F.entry_list_eq (F.args_list_eq_2 _ _) (list_eq_ne l b items items2 n n2 dd dd2 sl sl2 hsz)
    ⟨ho, ho2, show Value.bool false ≠ Value.notImplemented ∧ Q (.bool false) s from ⟨(fun x => nomatch x), h⟩⟩) hu
end
end EqNil
/-- xs == [] -/
def rEqNil (K : PySem.W.Frag) : R2 := fun x y H Q => ∃ a b xs, x = .ref a ∧ y = .ref b ∧ SqL K H a xs ∧ SqL K H b [] ∧ Q (.bl xs.isEmpty) H
theorem op_eqNil {X : Cx} (hu : X.A.units + 64 < cLine) : OpR X (compareOp .Eq) (rEqNil X.K) := by
  intro pins s σ H x y v u Q I rx ry h
  obtain ⟨a, b, xs, rfl, rfl, h1, h2, q⟩ := h
  cases rx
  cases ry
  obtain ⟨its, r1, p1, _⟩ := I.list h1
  obtain ⟨its2, r2, p2, _⟩ := I.list h2
  have e2 : its2 = [] := by
    have := r2.length
    cases its2 with
    | nil => rfl
    | cons z zs => simp at this
  subst e2
  have hl := r1.length
  show wpAny _ _ (richCompare .Eq (.ref a) (.ref b)) _ _ _
  cases xs with
  | nil =>
    have hz : its = [] := List.length_eq_zero_iff.1 hl.symm
    subst hz
    refine PySem.SeqAt.rcP_lists (e := fun _ => true) p1.isList p2.isList rfl (by omega) (fun j h1 h2 => absurd h1 (by simp)) _ _ ?_
    exact ⟨.bl true, H, I, (rfl : Value.bool true = Value.bool true), q⟩
  | cons z zs =>
    refine EqNil.rc_ne p1.isList p2.isList ?_ (by omega) _ _ ⟨.bl false, H, I, (rfl : Value.bool false = Value.bool false), q⟩
    rw [List.size_toArray, List.size_toArray, ← hl]
    simp
end K36
namespace K36
open PySem PySem.Spec PyProof.Rows L2
/-! ### names enough: the mathematics -/
namespace Nm
theorem sub_len {α : Type} [DecidableEq α] : ∀ {l m : List α}, l.Nodup → (∀ x ∈ l, x ∈ m) → l.length ≤ m.length
  | [], m, _, _ => Nat.zero_le _
  | x :: l, m, hn, hs => by
    have hx : x ∈ m := hs x List.mem_cons_self
    have h1 := List.nodup_cons.mp hn
    have ih := sub_len (l := l) (m := m.erase x) h1.2 fun y hy => by
      have hy2 : y ∈ m := hs y (List.mem_cons_of_mem _ hy)
      have ne : y ≠ x := fun z => h1.1 (by rw [← z]; exact hy)
      exact (List.mem_erase_of_ne ne).mpr hy2
    have el := List.length_erase_of_mem hx
    have pos : 0 < m.length := List.length_pos_of_mem hx
    rw [List.length_cons]
    omega
theorem one_out {α : Type} (p : α → Bool) : ∀ {l : List α}, l.Nodup → (∀ x ∈ l, ∀ y ∈ l, p x = true → p y = true → x = y) → l.length ≤ (l.filter fun x => !p x).length + 1
  | [], _, _ => Nat.zero_le _
  | x :: l, hn, h => by
    have h1 := List.nodup_cons.mp hn
    cases e : p x with
    | true =>
      have all : l.filter (fun x => !p x) = l := by
        refine List.filter_eq_self.mpr fun y hy => ?_
        cases e2 : p y with
        | false => rfl
        | true =>
          have := h x List.mem_cons_self y (List.mem_cons_of_mem _ hy) e e2
          exact absurd hy (by rw [← this]; exact h1.1)
      rw [List.filter_cons, e]
      show l.length + 1 ≤ (l.filter fun x => !p x).length + 1
      rw [all]
      exact Nat.le_refl _
    | false =>
      have ih := one_out p (l := l) h1.2 fun a ha b hb => h a (List.mem_cons_of_mem _ ha) b (List.mem_cons_of_mem _ hb)
      rw [List.filter_cons, e]
      show l.length + 1 ≤ (x :: l.filter fun x => !p x).length + 1
      rw [List.length_cons]
      omega
def cand (w : List Nat) (t c : Nat) : List Nat := w.take t ++ [c] ++ w.drop t
theorem cand_inj {w : List Nat} {t c d : Nat} (h : cand w t c = cand w t d) : c = d := by
  unfold cand at h
  rw [List.append_assoc, List.append_assoc] at h
  have h2 := List.append_cancel_left h
  exact (List.cons.inj h2).1
theorem cand_take {w : List Nat} {t c : Nat} (ht : t ≤ w.length) : (cand w t c).take t = w.take t := by
  unfold cand
  rw [List.append_assoc, List.take_append_of_le_length (by rw [List.length_take]; omega), List.take_take, Nat.min_self]
theorem cand_drop {w : List Nat} {t c : Nat} (ht : t ≤ w.length) : (cand w t c).drop (t + 1) = w.drop t := by
  unfold cand
  have e : (w.take t ++ [c]).length = t + 1 := by
    rw [List.length_append, List.length_take, List.length_singleton]
    omega
  rw [← e, List.drop_left]
/-- the taken words, by their codes -/
def takenS : List Str := ["set", "read", "from", "tell", "sure", "if", "else", "while", "times", "call", "end", "within", "helper"]
def taken : List (List Nat) := ((("gauges" : Str) :: takenS) : List Str).map fun s => s.cps.toList
theorem taken_apart : ∀ a ∈ taken, ∀ b ∈ taken, ∀ t < 6, a.take t = b.take t → a.drop (t + 1) = b.drop (t + 1) → a = b := by decide +kernel
def letter (first k : Nat) : Nat := 97 + (first + 7 * k) % 26
theorem letters_apart : ∀ f < 26, ∀ i < 13, ∀ j < 13, letter f (2 * i) = letter f (2 * j) → i = j := by decide +kernel
theorem enough {w : List Nat} {t f : Nat} {found : List (List Nat)} (hw : w.length ≤ 5) (ht : t ≤ w.length) (hf : f < 26)
    (h : ∀ j, j < 13 → 16 ≤ found.length ∨ cand w t (letter f (2 * j)) ∈ found ∨ cand w t (letter f (2 * j)) ∈ taken) : 10 ≤ found.length := by
  by_cases h16 : 16 ≤ found.length
  · omega
  · have nd : ((List.range 13).map fun j => cand w t (letter f (2 * j))).Nodup := by
      rw [List.nodup_iff_pairwise_ne, List.pairwise_map]
      have hr : (List.range 13).Pairwise (· < ·) := List.pairwise_lt_range
      refine List.Pairwise.imp_of_mem (fun {a b} ha hb hab e => ?_) hr
      have := letters_apart f hf a (List.mem_range.mp ha) b (List.mem_range.mp hb) (cand_inj e)
      omega
    have one := one_out (fun x => decide (x ∈ taken)) nd fun x hx y hy px py => by
      obtain ⟨i, hi, rfl⟩ := List.mem_map.mp hx
      obtain ⟨j, hj, rfl⟩ := List.mem_map.mp hy
      refine taken_apart _ (of_decide_eq_true px) _ (of_decide_eq_true py) t (by omega) ?_ ?_
      · rw [cand_take ht, cand_take ht]
      · rw [cand_drop ht, cand_drop ht]
    have sub := sub_len (l := ((List.range 13).map fun j => cand w t (letter f (2 * j))).filter fun x => !decide (x ∈ taken)) (m := found) (nd.filter _) fun x hx => by
      obtain ⟨hx1, hx2⟩ := List.mem_filter.mp hx
      obtain ⟨j, hj, rfl⟩ := List.mem_map.mp hx1
      rcases h j (List.mem_range.mp hj) with z | z | z
      · exact absurd z h16
      · exact z
      · rw [decide_eq_true z] at hx2
        cases hx2
    rw [List.length_map, List.length_range] at one
    omega
end Nm
end K36
namespace K36
open PySem PySem.Spec PyProof.Rows L2
/-! ### the draws -/
/-- a flow at F: what is left of an own number, how many draws, the seed -/
def FlG (a c : Int) : Prop := 0 ≤ a ∧ 0 ≤ c ∧ c < 2 ^ 40
def spDraw : Sp := fun vs H Q _ => ∃ (F : Addr) (a b c m : Int), vs = [.ref F, .int m] ∧ H F = some (.lst [.int a, .int b, .int c]) ∧ FlG a c ∧ 1 ≤ m ∧ m < 2 ^ 30 ∧
  ∀ (d a' b' : Int), 0 ≤ d → d < m → FlG a' c → Q (.int d) (upd H F (.lst [.int a', .int b', .int c]))
theorem ix3 (x y z : V) : atI [x, y, z] 0 = some x ∧ atI [x, y, z] 1 = some y ∧ atI [x, y, z] 2 = some z := ⟨rfl, rfl, rfl⟩
section
variable {P : Program} {w : World} {K : PySem.W.Frag} {mg : Str → Option Value} {base : Heap}
theorem scDraw : FnScope ["_law_flow_here", "_law_many", "_law_digit", "_law_number"] ["_law_flow_here", "_law_many"] (defScope sLDraw) := ⟨rfl, rfl, rfl, by decide +kernel, rfl, by decide +kernel, by decide +kernel⟩
theorem ok_draw (a : At K mg "_law_draw" sLDraw ["_law_flow_here", "_law_many"]) : Cal P w K mg base CX0 "_law_draw" 1 ["_law_flow_here", "_law_many"] spDraw := by
  refine Cal.of a scDraw (fun vs H Q E h => ?_) (fun f cdv A outer s H vs Q E hr h => ?_)
  · obtain ⟨F, a, b, c, m, rfl, _⟩ := h
    rfl
  · obtain ⟨F, a, b, c, m, rfl, hF, ⟨ha, hc, hc2⟩, hm, hm2, k⟩ := h
    refine ⟨_, pss_cons (ps_if (pt_cmpR op_gt (pe_ix ix_list (pv 0) pe_int (fun _ _ => rfl)) pe_int (nomark _))
        (pss_cons (ps_set (i := 2) scDraw.nd rfl (.inl rfl) (pe_op op_mod (pe_ix ix_list (pv 0) pe_int (fun _ _ => rfl)) (pv 1)))
          (pss_cons (ps_asg (pe_op op_fdiv (pe_ix ix_list (pv 0) pe_int (fun _ _ => rfl)) (pv 1)) (pg_sub (pv 0) pe_int set_list))
            (pss_one (ps_ret (pv 2))))) pss_nil)
      (pss_cons (ps_asg (pe_op op_add (pe_ix ix_list (pv 0) pe_int (fun _ _ => rfl)) pe_int) (pg_sub (pv 0) pe_int set_list))
        (pss_cons (ps_set (i := 3) scDraw.nd rfl (.inl rfl) (pe_op op_mod (pe_op op_add (pe_op op_add (pe_op op_mul (pe_ix ix_list (pv 0) pe_int (fun _ _ => rfl)) (pe_op op_add pe_int (pe_op op_mul pe_int (pe_ix ix_list (pv 0) pe_int (fun _ _ => rfl)))))
            (pe_op op_mul pe_int (pe_ix ix_list (pv 0) pe_int (fun _ _ => rfl)))) pe_int) pe_int))
          (pss_cons (ps_set (i := 3) scDraw.nd rfl (.inl rfl) (pe_op op_mod (pe_op op_mul (pv 3) (pv 3)) pe_int))
            (pss_one (ps_ret (pe_op op_mod (pe_op op_fdiv (pe_op op_mod (pe_op op_mul (pe_op op_add (pv 3) pe_int) (pe_op op_add (pv 3) pe_int)) pe_int) pe_int) (pv 1))))))), ?_⟩
    refine ⟨_, rfl, _, _, _, _, rfl, rfl, SqL.of hF, (ix3 _ _ _).1, _, _, rfl, rfl, _, rfl, ?_⟩
    refine ite2 (fun e => ?_) (fun e => ?_)
    · have e0 : a > 0 := of_decide_eq_true e
      refine ⟨_, rfl, _, _, _, _, rfl, rfl, SqL.of hF, (ix3 _ _ _).1, _, rfl, _, _, rfl, rfl, (by show 0 < m; omega), ?_⟩
      refine ⟨_, rfl, _, _, _, _, rfl, rfl, SqL.of hF, (ix3 _ _ _).1, _, rfl, _, _, rfl, rfl, (by show 0 < m ∧ m < 1073741824; omega), ?_⟩
      refine ⟨_, rfl, _, _, _, 0, rfl, rfl, hF, rfl, ?_⟩
      refine ⟨_, rfl, ?_⟩
      exact k (a % m) (a / m) b (Int.emod_nonneg _ (by omega)) (Int.emod_lt_of_pos _ (by omega)) ⟨Int.ediv_nonneg (by omega) (by omega), hc, hc2⟩
    · have e0 : ¬ a > 0 := of_decide_eq_false (Bool.eq_false_iff.mpr e)
      refine ⟨_, rfl, _, _, _, _, rfl, rfl, SqL.of hF, (ix3 _ _ _).2.1, _, _, rfl, rfl, ?_⟩
      refine ⟨_, rfl, _, _, _, 1, rfl, rfl, hF, rfl, ?_⟩
      have hF2 : (upd H F (.lst [.int a, .int (b + 1), .int c])) F = some (.lst [.int a, .int (b + 1), .int c]) := upd_same
      refine ⟨_, rfl, _, _, _, _, rfl, rfl, SqL.of hF2, (ix3 _ _ _).2.2, _, rfl, _, _, _, _, rfl, rfl, SqL.of hF2, (ix3 _ _ _).2.1, _, _, rfl, rfl, .inl (by constructor <;> decide), _, _, rfl, rfl, _, _, rfl, rfl, .inl (by constructor <;> omega), ?_⟩
      refine ⟨_, rfl, _, _, _, _, rfl, rfl, SqL.of hF2, (ix3 _ _ _).2.1, _, _, rfl, rfl, .inl (by constructor <;> decide), _, _, rfl, rfl, _, _, rfl, rfl, _, _, rfl, rfl, (by show (0 : Int) < _; decide), ?_⟩
      generalize hn : (c * (48271 + 2 * (b + 1)) + 7919 * (b + 1) + 1) % 2147483629 = n
      have n0 : 0 ≤ n := by rw [← hn]; exact Int.emod_nonneg _ (by decide)
      have n1 : n < 2147483629 := by rw [← hn]; exact Int.emod_lt_of_pos _ (by decide)
      refine ⟨_, rfl, _, rfl, _, _, rfl, rfl, .inl (by constructor <;> omega), _, _, rfl, rfl, (by show (0 : Int) < _; decide), ?_⟩
      generalize hq : n * n % 2147483587 = q
      have q0 : 0 ≤ q := by rw [← hq]; exact Int.emod_nonneg _ (by decide)
      have q1 : q < 2147483587 := by rw [← hq]; exact Int.emod_lt_of_pos _ (by decide)
      refine ⟨_, rfl, _, _, rfl, rfl, _, rfl, _, _, rfl, rfl, _, _, rfl, rfl, .inl (by constructor <;> omega), _, _, rfl, rfl, (by show (0 : Int) < _; decide), _, _, rfl, rfl, (by show (0 : Int) < _ ∧ (_ : Int) < _; constructor <;> decide), _, rfl, _, _, rfl, rfl, (by show 0 < m; omega), ?_⟩
      exact k _ a (b + 1) (Int.emod_nonneg _ (by omega)) (Int.emod_lt_of_pos _ (by omega)) ⟨ha, hc, hc2⟩
end
end K36
namespace K36
open PySem PySem.Spec PyProof.Rows L2
/-! ### the script's cells, the flow -/
section
variable {P : Program} {w : World} {K : PySem.W.Frag} {mg : Str → Option Value} {base : Heap}
-- _law_cell (printed by gen.py); slots: 0 _law_script, 1 _law_k, 2 _law_number
abbrev nLCell : List Str := ["_law_script", "_law_k", "_law_number"]
abbrev pLCell : List Str := ["_law_script", "_law_k"]
theorem scLCell : FnScope nLCell pLCell (defScope sLCell) := ⟨rfl, rfl, rfl, by decide +kernel, rfl, by decide +kernel, by decide +kernel⟩
def spCell (K : PySem.W.Frag) : Sp := fun vs H Q _ => ∃ (a : Addr) (ns : List Int) (k : Int), vs = [.ref a, .int k] ∧ SqL K H a (ns.map V.int) ∧ 0 ≤ k ∧ k < 1000 ∧ ∀ z, Q (.int z) H
theorem ok_cell (T : Bi mg) (a : At K mg "_law_cell" sLCell pLCell) : Cal P w K mg base CX0 "_law_cell" 1 pLCell (spCell K) := by
  refine Cal.of a scLCell (fun vs H Q E h => ?_) (fun f cdv A outer s H vs Q E hr h => ?_)
  · obtain ⟨a, ns, k, rfl, _⟩ := h
    rfl
  · obtain ⟨a, ns, k, rfl, hS, h0, h1, q⟩ := h
    refine ⟨_, (pss_cons (ps_if (pt_cmpR op_lt (pv 1) (pe_callB call_len_seq (by rfl) T.len bo_len (pa_cons (pv 0) pa_nil)) (nomark _))
        (pss_one (ps_ret (pe_ix ix_list (pv 0) (pv 1) (fun _ _ => rfl))))
        pss_nil) -- if _law_k < len(_law_script):
      (pss_cons (ps_set (i := 2) scLCell.nd rfl (.inl rfl) (pe_op op_add (pe_op op_mul (pv 1) pe_int) pe_int)) -- _law_number = _law_k * 7919 + 5
      (pss_cons (ps_if (pt_cmpR op_gt (pe_callB call_len_seq (by rfl) T.len bo_len (pa_cons (pv 0) pa_nil)) pe_int (nomark _))
        (pss_one (ps_set (i := 2) scLCell.nd rfl (.inl rfl) (pe_op op_add (pe_op op_mul (pe_op op_mod (pe_ix ix_list (pv 0) (pe_op op_mod (pe_op op_mul (pv 1) pe_int) (pe_callB call_len_seq (by rfl) T.len bo_len (pa_cons (pv 0) pa_nil))) (fun _ _ => rfl)) pe_int) pe_int) (pe_op op_mul (pv 1) pe_int))))
        pss_nil) -- if len(_law_script) > 0:
      (pss_one (ps_ret (pe_op op_mul (pe_op op_mod (pv 2) pe_int) pe_int)))))), ?_⟩
    have hl : (ns.map V.int).length = ns.length := List.length_map _
    have get : ∀ j : Nat, j < ns.length → ∃ z, (ns.map V.int)[j]? = some (.int z) := fun j hj => ⟨ns[j], by rw [List.getElem?_map, List.getElem?_eq_getElem hj]; rfl⟩
    refine ⟨_, rfl, _, rfl, a, _, rfl, .inl hS, _, _, rfl, rfl, _, rfl, ?_⟩
    refine ite2 (fun c => ?_) (fun c => ?_)
    · have c' : k < (((ns.map V.int).length : Nat) : Int) := of_decide_eq_true c
      rw [hl] at c'
      obtain ⟨z, hz⟩ := get k.toNat (by omega)
      exact ⟨_, rfl, _, rfl, a, _, _, _, rfl, rfl, hS, at_of (j := k.toNat) (by omega) hz, q z⟩
    · refine ⟨_, rfl, _, _, rfl, rfl, .inl (by constructor <;> omega), _, _, rfl, rfl, ?_⟩
      refine ⟨_, rfl, a, _, rfl, .inl hS, _, _, rfl, rfl, _, rfl, ?_⟩
      refine ite2 (fun c2 => ?_) (fun c2 => ?_)
      · have c3 : (((ns.map V.int).length : Nat) : Int) > 0 := of_decide_eq_true c2
        rw [hl] at c3
        obtain ⟨z, hz⟩ := get ((k * 7) % (ns.length : Int)).toNat (by
          have := Int.emod_lt_of_pos (k * 7) (show (0 : Int) < ns.length by omega)
          have := Int.emod_nonneg (k * 7) (show (ns.length : Int) ≠ 0 by omega)
          omega)
        have e1 : (k * 7) % (((ns.map V.int).length : Nat) : Int) = (((k * 7) % (ns.length : Int)).toNat : Int) := by
          rw [hl]
          have := Int.emod_nonneg (k * 7) (show (ns.length : Int) ≠ 0 by omega)
          omega
        refine ⟨_, rfl, _, rfl, _, _, rfl, rfl, .inl (by constructor <;> omega), _, rfl, a, _, rfl, .inl hS, _, _, rfl, rfl, (by show (0 : Int) < _; rw [hl]; omega), a, _, _, _, rfl, rfl, hS, at_of e1 hz, ?_⟩
        refine ⟨_, _, rfl, rfl, (by show (0 : Int) < _; decide), _, _, rfl, rfl, .inr (by constructor <;> decide), _, rfl, _, _, rfl, rfl, .inl (by constructor <;> omega), _, _, rfl, rfl, ?_⟩
        exact ⟨_, rfl, _, _, rfl, rfl, (by show (0 : Int) < _; decide), _, _, rfl, rfl, .inr (by constructor <;> decide), q _⟩
      · exact ⟨_, rfl, _, _, rfl, rfl, (by show (0 : Int) < _; decide), _, _, rfl, rfl, .inr (by constructor <;> decide), q _⟩
-- _law_flow (printed by gen.py); slots: 0 _law_script, 1 _law_k, 2 _law_cell_here, 3 _law_own
abbrev nLFlow : List Str := ["_law_script", "_law_k", "_law_cell_here", "_law_own"]
abbrev pLFlow : List Str := ["_law_script", "_law_k"]
theorem scLFlow : FnScope nLFlow pLFlow (defScope sLFlow) := ⟨rfl, rfl, rfl, by decide +kernel, rfl, by decide +kernel, by decide +kernel⟩
def spFlow (K : PySem.W.Frag) : Sp := fun vs H Q _ => ∃ (a : Addr) (ns : List Int) (k : Int), vs = [.ref a, .int k] ∧ SqL K H a (ns.map V.int) ∧ 0 ≤ k ∧ k < 1000 ∧
  ∀ F z b c, H F = none → FlG z c → Q (.ref F) (upd H F (.lst [.int z, .int b, .int c]))
theorem ok_flow (a : At K mg "_law_flow" sLFlow pLFlow) (cLCell : Cal P w K mg base CX0 "_law_cell" 1 pLCell (spCell K)) : Cal P w K mg base CX0 "_law_flow" 2 pLFlow (spFlow K) := by
  refine Cal.of a scLFlow (fun vs H Q E h => ?_) (fun f cdv A outer s H vs Q E hr h => ?_)
  · obtain ⟨a, ns, k, rfl, _⟩ := h
    rfl
  · obtain ⟨a, ns, k, rfl, hS, h0, h1, q⟩ := h
    refine ⟨_, (pss_cons (ps_set (i := 2) scLFlow.nd rfl (.inl rfl) (pe_c cLCell hr pass0 (pa_cons (pv 0) (pa_cons (pv 1) pa_nil)))) -- _law_cell_here = _law_cell(_law_script, _law_k)
      (pss_cons (ps_set (i := 3) scLFlow.nd rfl (.inl rfl) pe_int) -- _law_own = 0
      (pss_cons (ps_if (pt_cmpR op_ge (pv 2) (pe_op op_pow pe_int pe_int) (nomark _))
        (pss_one (ps_set (i := 3) scLFlow.nd rfl (.inl rfl) (pv 2)))
        pss_nil) -- if _law_cell_here >= 10 ** 18:
      (pss_one (ps_ret (pe_lst (pa_cons (pv 3) (pa_cons pe_int (pa_cons (pe_op op_add (pe_op op_mod (pv 2) pe_int) (pe_op op_mul pe_int (pv 1))) pa_nil))))))))), ?_⟩
    refine ⟨_, rfl, _, rfl, a, ns, k, rfl, hS, h0, h1, fun z => ?_⟩
    refine ⟨_, rfl, _, _, rfl, rfl, (by refine ⟨?_, ?_, ?_⟩ <;> decide), _, _, rfl, rfl, _, rfl, ?_⟩
    have m0 := Int.emod_nonneg z (show (2147483629 : Int) ≠ 0 by decide)
    have m1 := Int.emod_lt_of_pos z (show (0 : Int) < 2147483629 by decide)
    refine ite2 (fun c => ?_) (fun c => ?_)
    · have c' : z ≥ (10 : Int) ^ (18 : Int).toNat := of_decide_eq_true c
      have z0 : 0 ≤ z := Int.le_trans (by decide) c'
      refine ⟨_, rfl, ?_⟩
      refine ⟨_, rfl, _, rfl, _, _, rfl, rfl, (by show (0 : Int) < _; decide), _, rfl, _, _, rfl, rfl, .inl (by constructor <;> decide), _, _, rfl, rfl, (by show 3 ≤ sizeLine; decide), fun p hp => ?_⟩
      exact q p z _ _ hp ⟨z0, by omega, by omega⟩
    · refine ⟨_, rfl, _, rfl, _, _, rfl, rfl, (by show (0 : Int) < _; decide), _, rfl, _, _, rfl, rfl, .inl (by constructor <;> decide), _, _, rfl, rfl, (by show 3 ≤ sizeLine; decide), fun p hp => ?_⟩
      exact q p 0 _ _ hp ⟨Int.le_refl _, by omega, by omega⟩
end
end K36
namespace K36
open PySem PySem.Spec PyProof.Rows L2
/-! ### a flow that stands; a draw in short -/
def FlAt (H : Hp) (F : Addr) : Prop := ∃ a b c, H F = some (.lst [.int a, .int b, .int c]) ∧ FlG a c
abbrev Is (F : Addr) : Addr → Prop := fun b => b = F
def spD : Sp := fun vs H Q _ => ∃ (F : Addr) (m : Int), vs = [.ref F, .int m] ∧ FlAt H F ∧ 1 ≤ m ∧ m < 2 ^ 30 ∧ ∀ (d : Int) (H' : Hp), 0 ≤ d → d < m → FlAt H' F → Kp (Is F) H H' → Q (.int d) H'
theorem FlAt.ne {H : Hp} {F b : Addr} {o : HO} (h : FlAt H F) (hb : H b = some o) (d : ∀ a b c, o ≠ .lst [.int a, .int b, .int c]) : b ≠ F := by
  obtain ⟨a, b', c, e, _⟩ := h
  exact ne_of hb e (d a b' c)
theorem FlAt.nn {H : Hp} {F b : Addr} (h : FlAt H F) (hb : H b = none) : b ≠ F := by
  obtain ⟨a, b', c, e, _⟩ := h
  intro z
  rw [z, e] at hb
  cases hb
theorem FlAt.k {M : Addr → Prop} {H H' : Hp} {F : Addr} (h : FlAt H F) (x : Kp M H H') (n : ¬ M F) : FlAt H' F := by
  obtain ⟨a, b, c, e, g⟩ := h
  exact ⟨a, b, c, x.k _ _ e n, g⟩
theorem FlAt.upd {H : Hp} {F p : Addr} {o : HO} (h : FlAt H F) (n : F ≠ p) : FlAt (upd H p o) F := by
  obtain ⟨a, b, c, e, g⟩ := h
  exact ⟨a, b, c, by rw [upd_ne n]; exact e, g⟩
section
variable {P : Program} {w : World} {K : PySem.W.Frag} {mg : Str → Option Value} {base : Heap}
abbrev pLDraw : List Str := ["_law_flow_here", "_law_many"]
theorem cal_draw (a : At K mg "_law_draw" sLDraw pLDraw) : Cal P w K mg base CX0 "_law_draw" 1 pLDraw spD := by
  refine (ok_draw a).imp fun vs H Q E h => ?_
  obtain ⟨F, m, rfl, ⟨a, b, c, hF, g⟩, h1, h2, q⟩ := h
  exact ⟨F, a, b, c, m, rfl, hF, g, h1, h2, fun d a' b' d0 d1 g' => q d _ d0 d1 ⟨a', b', c, upd_same, g'⟩ (Kp.upd rfl hF lst_ne_tup)⟩
end
end K36
namespace K36
open PySem PySem.Spec PyProof.Rows L2
/-! ### the names -/
theorem str_eqV {x y : Str} : eqV (.str y) (.str x) = decide (y = x) := by
  show (y == x) = decide (y = x)
  by_cases e : y = x
  · rw [e, decide_eq_true rfl]
    exact beq_self_eq_true x
  · rw [decide_eq_false e]
    exact beq_eq_false_iff_ne.mpr e
theorem inV_strs {x : Str} : ∀ {l : List Str}, inV (.str x) (l.map V.str) = decide (x ∈ l)
  | [] => by
    rw [decide_eq_false (fun h => nomatch h)]
    rfl
  | y :: l => by
    have ih := inV_strs (x := x) (l := l)
    unfold inV at ih ⊢
    rw [List.map_cons, List.any_cons, ih, str_eqV]
    by_cases e : y = x
    · subst e
      rw [decide_eq_true rfl, decide_eq_true List.mem_cons_self]
      rfl
    · rw [decide_eq_false e, Bool.false_or]
      by_cases h : x ∈ l
      · rw [decide_eq_true h, decide_eq_true (List.mem_cons_of_mem _ h)]
      · rw [decide_eq_false h, decide_eq_false (fun z => (List.mem_cons.mp z).elim (fun q => e q.symm) h)]
theorem flat_strs : ∀ l : List Str, (l.map V.str).all flatV = true
  | [] => rfl
  | _ :: l => by
    rw [List.map_cons, List.all_cons, flat_strs l]
    rfl
theorem at_nat {α : Type} {xs : List α} {z : Int} {j : Nat} {v : α} (e : z = (j : Int)) (h : xs[j]? = some v) : atI xs z = some v := by
  rw [e]
  exact atI_nat h
def abcS : Str := "abcdefghijklmnopqrstuvwxyz"
theorem abc_at : ∀ i < 26, abcS.cps.toList[i]? = some (97 + i) := by decide +kernel
theorem abc_len : abcS.length = 26 := by decide +kernel
/-- a name that is tried -/
def candS (w : Str) (t c : Nat) : Str := ⟨(Nm.cand w.cps.toList t c).toArray⟩
theorem cut_lo (z : Str) (n : Nat) (h : n ≤ z.length) : (cutS z none (some (n : Int))).cps.toList = z.cps.toList.take n := by
  unfold cutS
  rw [HT.sIx_none, HT.sIx_nat, Nat.min_eq_left h, Nat.sub_zero, List.drop_zero]
theorem cut_hi (z : Str) (n : Nat) (h : n ≤ z.length) : (cutS z (some (n : Int)) none).cps.toList = z.cps.toList.drop n := by
  unfold cutS
  rw [HT.sIx_none, HT.sIx_nat, Nat.min_eq_left h]
  show List.take (z.length - n) (z.cps.toList.drop n) = z.cps.toList.drop n
  refine List.take_of_length_le ?_
  rw [List.length_drop, Array.length_toList]
  exact Nat.le_refl _
theorem cut_len (z : Str) (lo hi : Option Int) : (cutS z lo hi).length ≤ z.length := by
  unfold cutS
  show (List.toArray _).size ≤ z.cps.size
  rw [List.size_toArray, List.length_take, List.length_drop, Array.length_toList]
  omega
theorem cand_eq (w : Str) (n c : Nat) (h : n ≤ w.length) : cutS w none (some (n : Int)) ++ (⟨#[c]⟩ : Str) ++ cutS w (some (n : Int)) none = candS w n c := by
  refine TL.ext_tl ?_
  rw [TL.tl_append, TL.tl_append]
  show (cutS w none (some (n : Int))).cps.toList ++ [c] ++ (cutS w (some (n : Int)) none).cps.toList = Nm.cand w.cps.toList n c
  rw [cut_lo w n h, cut_hi w n h]
  rfl
theorem cand_len {w : Str} {n c : Nat} : (candS w n c).length = w.length + 1 := by
  show (Nm.cand w.cps.toList n c).toArray.size = w.cps.size + 1
  rw [List.size_toArray]
  unfold Nm.cand
  rw [List.length_append, List.length_append, List.length_take, List.length_drop, List.length_singleton, Array.length_toList]
  omega
theorem cand_tl {w : Str} {n c : Nat} : (candS w n c).cps.toList = Nm.cand w.cps.toList n c := rfl
/-- what holds of the found names ahead of turn k -/
structure NmInv (w : Str) (t f k : Nat) (found : List Str) : Prop where
  len : found.length ≤ 16
  sz : ∀ x ∈ found, x.length ≤ 6
  all : ∀ j, 2 * j < k → 16 ≤ found.length ∨ candS w t (Nm.letter f (2 * j)) ∈ found ∨ candS w t (Nm.letter f (2 * j)) ∈ (("gauges" : Str) :: Nm.takenS)
theorem NmInv.enough {w : Str} {t f : Nat} {found : List Str} (I : NmInv w t f 26 found) (hw : w.length ≤ 5) (ht : t ≤ w.length) (hf : f < 26) : 10 ≤ found.length := by
  have q := Nm.enough (w := w.cps.toList) (t := t) (f := f) (found := found.map fun s => s.cps.toList) (by rw [Array.length_toList]; exact hw) (by rw [Array.length_toList]; exact ht) hf fun j hj => by
    rw [List.length_map]
    rcases I.all j (by omega) with z | z | z
    · exact .inl z
    · exact .inr (.inl (List.mem_map.mpr ⟨_, z, rfl⟩))
    · exact .inr (.inr (List.mem_map.mpr ⟨_, z, rfl⟩))
  rw [List.length_map] at q
  exact q
/-- a name is put to the found ones -/
theorem NmInv.add {w : Str} {t f k : Nat} {found : List Str} {x : Str} (I : NmInv w t f k found) (hl : found.length < 16) (hx : x.length ≤ 6) (h : ∀ j, k = 2 * j → x = candS w t (Nm.letter f k)) : NmInv w t f (k + 1) (found ++ [x]) := by
  refine ⟨by rw [List.length_append, List.length_singleton]; omega, fun y hy => ?_, fun j hj => ?_⟩
  · rcases List.mem_append.mp hy with z | z
    · exact I.sz y z
    · rw [List.mem_singleton.mp z]
      exact hx
  · by_cases e : k = 2 * j
    · exact .inr (.inl (List.mem_append.mpr (.inr (List.mem_singleton.mpr (by rw [h j e, e])))))
    · rcases I.all j (by omega) with z | z | z
      · omega
      · exact .inr (.inl (List.mem_append.mpr (.inl z)))
      · exact .inr (.inr z)
/-- a name is left out -/
theorem NmInv.skip {w : Str} {t f k : Nat} {found : List Str} {x : Str} (I : NmInv w t f k found) (h : ∀ j, k = 2 * j → x = candS w t (Nm.letter f k))
    (hc : x ∈ Nm.takenS ++ found ∨ x = "gauges" ∨ ¬ found.length < 16) : NmInv w t f (k + 1) found := by
  refine ⟨I.len, I.sz, fun j hj => ?_⟩
  by_cases e : k = 2 * j
  · rcases hc with z | z | z
    · rcases List.mem_append.mp z with q | q
      · refine .inr (.inr (List.mem_cons_of_mem _ ?_))
        rw [← e, ← h j e]
        exact q
      · refine .inr (.inl ?_)
        rw [← e, ← h j e]
        exact q
    · refine .inr (.inr ?_)
      rw [← e, ← h j e, z]
      exact List.mem_cons_self
    · exact .inl (by omega)
  · exact I.all j (by omega)
section
variable {P : Program} {w : World} {K : PySem.W.Frag} {mg : Str → Option Value} {base : Heap}
-- _law_names (printed by gen.py); slots: 0 _law_flow_here*, 1 _law_many, 2 _law_some*, 3 _law_word, 4 _law_at, 5 _law_first, 6 _law_longer, 7 _law_taken, 8 _law_found, 9 _law_k, 10 _law_name, 11 _law_j
abbrev nLNames : List Str := ["_law_flow_here", "_law_many", "_law_some", "_law_word", "_law_at", "_law_first", "_law_longer", "_law_taken", "_law_found", "_law_k", "_law_name", "_law_j"]
abbrev pLNames : List Str := ["_law_flow_here", "_law_many"]
theorem scLNames : FnScope nLNames pLNames (defScope sLNames) := ⟨rfl, rfl, rfl, by decide +kernel, rfl, by decide +kernel, by decide +kernel⟩
def spNames : Sp := fun vs H Q _ => ∃ (F : Addr), vs = [.ref F, .int 16] ∧ FlAt H F ∧
  ∀ (H' : Hp) (p : Addr) (ns : List Str), Kp (Is F) H H' → FlAt H' F → H p = none → H' p = some (.lst (ns.map V.str)) → 10 ≤ ns.length → ns.length ≤ 16 → (∀ x ∈ ns, x.length ≤ 6) → Q (.ref p) H'
theorem ok_names (T : Bi mg) (a : At K mg "_law_names" sLNames pLNames) (cLDraw : Cal P w K mg base CX0 "_law_draw" 1 pLDraw spD) : Cal P w K mg base CX0 "_law_names" 2 pLNames spNames := by
  refine Cal.of a scLNames (fun vs H Q E h => ?_) (fun f cdv A outer s H vs Q E hr h => ?_)
  · obtain ⟨F, rfl, _⟩ := h
    rfl
  · obtain ⟨F, rfl, hF, q⟩ := h
    refine ⟨_, (pss_cons (ps_set (i := 2) scLNames.nd rfl (.inr rfl) pe_str) -- _law_some = 'abcdefghijklmnopqrstuvwxyz'
      (pss_cons (ps_set (i := 3) scLNames.nd rfl (.inl rfl) (pe_join pe_str (pe_lc (own := [("_law_j", 11)]) (g := gName 11) rfl scLNames.nd (pi_range1 (by rfl) T.range (pa_cons (pe_c cLDraw hr pass0 (pa_cons (pv 0) (pa_cons pe_int pa_nil))) pa_nil)) (blkOk_by (own := [("_law_j", 11)]) (N := nLNames) (sc := defScope sLNames) (by decide +kernel)) (fun _ _ _ _ _ => (pg_name (i := 11) scLNames.nd rfl (.inl rfl))) (fun _ _ _ _ _ => pts_nil) (fun _ _ _ _ _ => (pe_ix ix_str (pv 2) (pe_c cLDraw hr pass0 (pa_cons (pv 0) (pa_cons pe_int pa_nil))) (fun _ _ => rfl)))))) -- _law_word = ''.join([_law_some[_law_draw(_law_flow_here, 26)] for _law_j in range(_law_draw(_law_flow_here, 6)
      (pss_cons (ps_par3 (i := 4) (j := 5) (l := 6) rfl scLNames.nd rfl rfl rfl (by decide) (by decide) (by decide) rfl rfl rfl (pa_cons (pe_c cLDraw hr pass0 (pa_cons (pv 0) (pa_cons (pe_op op_add (pe_callB call_len_str (by rfl) T.len bo_len (pa_cons (pv 3) pa_nil)) pe_int) pa_nil))) (pa_cons (pe_c cLDraw hr pass0 (pa_cons (pv 0) (pa_cons pe_int pa_nil))) (pa_cons (pe_c cLDraw hr pass0 (pa_cons (pv 0) (pa_cons pe_int pa_nil))) pa_nil))) (by rfl)) -- _law_at, _law_first, _law_longer = (_law_draw(_law_flow_here, len(_law_word) + 1), _law_draw(_law_flow_here, 2
      (pss_cons (ps_set (i := 7) scLNames.nd rfl (.inl rfl) (pe_lst (pa_cons pe_str (pa_cons pe_str (pa_cons pe_str (pa_cons pe_str (pa_cons pe_str (pa_cons pe_str (pa_cons pe_str (pa_cons pe_str (pa_cons pe_str (pa_cons pe_str (pa_cons pe_str (pa_cons pe_str (pa_cons pe_str pa_nil))))))))))))))) -- _law_taken = ['set', 'read', 'from', 'tell', 'sure', 'if', 'else', 'while', 'times', 'call', 'end', 'within', 
      (pss_cons (ps_set (i := 8) scLNames.nd rfl (.inl rfl) (pe_lst pa_nil)) -- _law_found = []
      (pss_cons (ps_for PassesOwn.never rfl (pi_range1 (by rfl) T.range (pa_cons pe_int pa_nil)) (pg_name (i := 9) scLNames.nd rfl (.inl rfl))
        (pss_cons (ps_set (i := 10) scLNames.nd rfl (.inl rfl) (pe_op op_add_str (pe_op op_add_str (pe_slice sl_str (pv 3) po_none (po_some (pv 4))) (pe_ix ix_str (pv 2) (pe_op op_mod (pe_op op_add (pv 5) (pe_op op_mul pe_int (pv 9))) pe_int) (fun _ _ => rfl))) (pe_slice sl_str (pv 3) (po_some (pv 4)) po_none))) -- _law_name = _law_word[:_law_at] + _law_some[(_law_first + 7 * _law_k) % 26] + _law_word[_law_at:]
        (Evl.pss_cut (ps_if (PW.pt (pw_and (pt_cmpR op_gt (pe_op op_mul (pv 6) (pe_op op_mod (pv 9) pe_int)) pe_int (nomark _)) (pw_and (pt_cmpR op_lt (pe_callB call_len_str (by rfl) T.len bo_len (pa_cons (pv 10) pa_nil)) pe_int (nomark _)) (pw_and1 (pt_cmpR op_gt (pe_callB call_len_seq (by rfl) T.len bo_len (pa_cons (pv 8) pa_nil)) pe_int (nomark _))))))
          (pss_one (ps_set (i := 10) scLNames.nd rfl (.inl rfl) (pe_op op_add_str (pe_slice sl_str (pe_ix ix_list (pv 8) (pe_un un_neg pe_int) (fun _ _ => rfl)) po_none (po_some (pe_callB call_len_str (by rfl) T.len bo_len (pa_cons (pv 10) pa_nil)))) (pe_ix ix_str (pv 2) (pe_op op_mod (pe_op op_add (pv 5) (pe_op op_mul pe_int (pv 9))) pe_int) (fun _ _ => rfl)))))
          pss_nil) -- if _law_longer * (_law_k % 2) > 0 and len(_law_name) < 6 and (len(_law_found) > 0):
        (pss_one (ps_if (PW.pt (pw_and (pt_cmpR op_notIn_seq (pv 10) (pe_op op_cat (pv 7) (pv 8)) (by rfl)) (pw_and (pt_cmpR op_ne (pv 10) pe_str (nomark _)) (pw_and1 (pt_cmpR op_lt (pe_callB call_len_seq (by rfl) T.len bo_len (pa_cons (pv 8) pa_nil)) (pv 1) (nomark _))))))
          (pss_one (ps_expr (pe_bm PySem.F.plainAttrs_list PySem.F.slot_list_append PySem.F.type_list_append mt_append (pv 8) (pa_cons (pv 10) pa_nil))))
          pss_nil))))) -- for _law_k in range(26):
      (pss_one (ps_ret (pv 8))))))))), ?_⟩
    -- word
    refine ⟨⟨_, rfl⟩, _, rfl, F, 6, rfl, hF, by decide, by decide, fun d H1 d0 d1 f1 k1 => ⟨d, rfl, by omega, by omega, fun D hD => ?_⟩⟩
    refine lc_range (lo := 0) (n := d.toNat) (fun i H' => ∃ ys : List Str, ys.length = i ∧ (∀ y ∈ ys, y.length = 1) ∧ H' D = some (.lst (ys.map V.str)) ∧ FlAt H' F ∧ Kp (Is F) H H') ⟨[], rfl, fun y h => absurd h List.not_mem_nil, upd_same, f1.upd (f1.nn hD).symm, k1.trans (Kp.new hD)⟩ (fun i H' hi hP => ?_) (fun H2 hP => ?_)
    · obtain ⟨ys, hy, hy1, hL, f2, k2⟩ := hP
      refine ⟨rfl, ?_⟩
      refine ⟨_, rfl, _, rfl, F, 26, rfl, f2, by decide, by decide, fun c H3 c0 c1 f3 k3 => ?_⟩
      have hD3 : H3 D = some (.lst (ys.map V.str)) := k3.k _ _ hL (f1.nn hD)
      refine ⟨_, _, 97 + c.toNat, rfl, rfl, (by show abcS.length ≤ sizeLine; rw [abc_len]; decide), at_nat (j := c.toNat) (show c = ((c.toNat : Nat) : Int) by omega) (abc_at c.toNat (by omega)), ?_⟩
      refine ⟨_, hD3, szt (by rw [List.length_map]; omega), ys ++ [⟨#[97 + c.toNat]⟩], by rw [List.length_append, hy]; rfl, fun y hm => ?_, by rw [upd_same, List.map_append]; rfl, f3.upd (f1.nn hD).symm, (k2.trans k3).mut (k1.free hD)⟩
      rcases List.mem_append.mp hm with z | z
      · exact hy1 y z
      · rw [List.mem_singleton.mp z]
        rfl
    obtain ⟨ys, hy, hy1, hL, f2, k2⟩ := hP
    have hsum : (ys.map (·.length)).sum = ys.length := by
      have : ys.map (·.length) = List.replicate ys.length 1 := by
        refine List.eq_replicate_iff.mpr ⟨List.length_map _, fun b hb => ?_⟩
        obtain ⟨y, hy', e⟩ := List.mem_map.mp hb
        rw [← e]
        exact hy1 y hy'
      rw [this, List.sum_replicate_nat, Nat.mul_one]
    refine ⟨_, _, ys, rfl, rfl, .inl (SqL.of hL), (by rw [hsum]; show ys.length + ys.length * 0 ≤ 16777216; omega), ?_⟩
    generalize hword : Txt.join ("" : Str) ys = word
    have hwl : word.length ≤ 5 := by
      rw [← hword]
      have := StrLaws.join_length_le ("" : Str) ys
      rw [hsum] at this
      have e0 : ("" : Str).length = 0 := rfl
      rw [e0] at this
      show (Builtin.Str.glued _ ys).length ≤ 5
      rw [StrLaws.glued_eq_join]
      omega
    -- at, first, longer
    refine ⟨_, rfl, _, rfl, _, rfl, Nat.le_trans hwl (by decide), _, _, rfl, rfl, F, (word.length : Int) + 1, rfl, f2, by omega, by omega, fun t H3 t0 t1 f3 k3 => ?_⟩
    refine ⟨_, rfl, F, 26, rfl, f3, by decide, by decide, fun fi H4 fi0 fi1 f4 k4 => ?_⟩
    refine ⟨_, rfl, F, 2, rfl, f4, by decide, by decide, fun lg H5 lg0 lg1 f5 k5 => ⟨_, _, _, rfl, ?_⟩⟩
    have k25 := ((k2.trans k3).trans k4).trans k5
    -- taken, found
    refine ⟨(by show 13 ≤ sizeLine; decide), fun tk ntk => ⟨Nat.zero_le _, fun fo nfo => ?_⟩⟩
    have ntF : tk ≠ F := f5.nn ntk
    have ntf : tk ≠ fo := ne_of_none upd_same nfo
    have f6 : FlAt (upd H5 tk (.lst (Nm.takenS.map V.str))) F := f5.upd ntF.symm
    have nfF : fo ≠ F := f6.nn nfo
    have nfo5 : H5 fo = none := by
      rw [upd_ne ntf.symm] at nfo
      exact nfo
    refine ⟨26, rfl, by decide, by decide, for_range (lo := 0) (n := 26) (fun i σ H' => ∃ (y9 y10 : Option V) (found : List Str), σ = [some (.ref F), some (.int 16), some (.str abcS), some (.str word), some (.int t), some (.int fi), some (.int lg), some (.ref tk), some (.ref fo), y9, y10, none] ∧
        H' tk = some (.lst (Nm.takenS.map V.str)) ∧ H' fo = some (.lst (found.map V.str)) ∧ FlAt H' F ∧ Kp (Is F) H H' ∧ NmInv word t.toNat fi.toNat i found)
      ⟨none, none, [], rfl, by rw [upd_ne ntf, upd_same]; rfl, upd_same, f6.upd nfF.symm, (k25.mut (k25.free ntk)).mut (k25.free nfo5), ⟨Nat.zero_le _, fun y h => absurd h List.not_mem_nil, fun j hj => absurd hj (by omega)⟩⟩ (fun i σ H' hi hP => ?_) (fun σ H' hP => ?_)⟩
    · obtain ⟨y9, y10, found, rfl, hT, hO, f7, k7, I⟩ := hP
      have e7 : (0 : Int) + (i : Int) = (i : Int) := Int.zero_add _
      have tl : t = ((t.toNat : Nat) : Int) := by omega
      have hit : t.toNat ≤ word.length := by omega
      have let_ : atI abcS.cps.toList ((fi + 7 * (0 + (i : Int))) % 26) = some (Nm.letter fi.toNat i) := by
        rw [e7]
        have h0 := Int.emod_nonneg (fi + 7 * (i : Int)) (show (26 : Int) ≠ 0 by decide)
        have h1 := Int.emod_lt_of_pos (fi + 7 * (i : Int)) (show (0 : Int) < 26 by decide)
        refine at_nat (j := (fi.toNat + 7 * i) % 26) ?_ (abc_at _ (Nat.mod_lt _ (by decide)))
        omega
      -- name = word[:at] + letter + word[at:]
      refine ⟨_, rfl, _, rfl, _, rfl, _, rfl, Nat.le_trans hwl (by decide), _, rfl, _, rfl, _, rfl, _, _, rfl, rfl, .inl (by constructor <;> decide), _, _, rfl, rfl, _, _, rfl, rfl, (by show (0 : Int) < _; decide), _, _, Nm.letter fi.toNat i, rfl, rfl, (by show abcS.length ≤ sizeLine; rw [abc_len]; decide), let_, ?_⟩
      have c1 := cut_len word none (some t)
      have c2 := cut_len word (some t) none
      refine ⟨_, _, rfl, rfl, (by refine szl ?_; show (cutS word none (some t)).length + 1 ≤ 100000; omega), _, rfl, _, rfl, _, rfl, _, rfl, Nat.le_trans hwl (by decide), _, _, rfl, rfl, (by refine szl ?_; rw [Str.length_append]; show (cutS word none (some t)).length + 1 + (cutS word (some t) none).length ≤ 100000; omega), ?_⟩
      have ename : cutS word none (some t) ++ (⟨#[Nm.letter fi.toNat i]⟩ : Str) ++ cutS word (some t) none = candS word t.toNat (Nm.letter fi.toNat i) := by
        have := cand_eq word t.toNat (Nm.letter fi.toNat i) hit
        rw [← tl] at this
        exact this
      rw [ename]
      have nl : (candS word t.toNat (Nm.letter fi.toNat i)).length ≤ 6 := by rw [cand_len]; omega
      -- what stands in name behind the second if
      refine ⟨fun σ' H8 => ∃ x : Str, x.length ≤ 6 ∧ (∀ j, i = 2 * j → x = candS word t.toNat (Nm.letter fi.toNat i)) ∧ H8 = H' ∧
        σ' = [some (.ref F), some (.int 16), some (.str abcS), some (.str word), some (.int t), some (.int fi), some (.int lg), some (.ref tk), some (.ref fo), some (.int (0 + (i : Int))), some (.str x), none], ?_, ?_⟩
      · refine ⟨_, rfl, _, rfl, _, _, rfl, rfl, (by show (0 : Int) < _; decide), _, _, rfl, rfl, .inl (by constructor <;> omega), _, _, rfl, rfl, _, rfl, ?_⟩
        have keep : ∃ x : Str, x.length ≤ 6 ∧ (∀ j, i = 2 * j → x = candS word t.toNat (Nm.letter fi.toNat i)) ∧ H' = H' ∧
          [some (.ref F), some (.int 16), some (.str abcS), some (.str word), some (.int t), some (.int fi), some (.int lg), some (.ref tk), some (.ref fo), some (.int (0 + (i : Int))), some (V.str (candS word t.toNat (Nm.letter fi.toNat i))), none] =
          [some (.ref F), some (.int 16), some (.str abcS), some (.str word), some (.int t), some (.int fi), some (.int lg), some (.ref tk), some (.ref fo), some (.int (0 + (i : Int))), some (.str x), none] := ⟨_, nl, fun _ _ => rfl, rfl, rfl⟩
        refine ite2 (fun e1 => ?_) (fun e1 => keep)
        have e1' : lg * ((0 + (i : Int)) % 2) > 0 := of_decide_eq_true e1
        refine ⟨_, rfl, _, rfl, Nat.le_trans nl (by decide), _, _, rfl, rfl, _, rfl, ?_⟩
        refine ite2 (fun e2 => ?_) (fun e2 => keep)
        have e2' : ((candS word t.toNat (Nm.letter fi.toNat i)).length : Int) < 6 := of_decide_eq_true e2
        refine ⟨_, rfl, fo, _, rfl, .inl (SqL.of hO), _, _, rfl, rfl, _, rfl, ?_⟩
        refine ite2 (fun e3 => ?_) (fun e3 => keep)
        have e3' : (((found.map V.str).length : Nat) : Int) > 0 := of_decide_eq_true e3
        rw [List.length_map] at e3'
        have hlast : (found.map V.str)[found.length - 1]? = some (.str (found[found.length - 1]'(by omega))) := by
          rw [List.getElem?_map, List.getElem?_eq_getElem (by omega)]
          rfl
        have atl : atI (found.map V.str) (-1) = some (.str (found[found.length - 1]'(by omega))) := by
          unfold atI
          rw [show ixN (found.map V.str).length (-1) = some (found.length - 1) by
            unfold ixN
            rw [if_neg (by decide), if_pos (by rw [List.length_map]; omega), List.length_map]
            congr 1
            omega]
          exact hlast
        have lsz : (found[found.length - 1]'(by omega)).length ≤ 6 := I.sz _ (List.getElem_mem _)
        refine ⟨_, rfl, _, rfl, fo, _, _, _, rfl, rfl, SqL.of hO, atl, _, rfl, _, rfl, Nat.le_trans nl (by decide), _, rfl, _, rfl, Nat.le_trans lsz (by decide), ?_⟩
        have c3 := cut_len (found[found.length - 1]'(by omega)) none (some ((candS word t.toNat (Nm.letter fi.toNat i)).length : Int))
        have c4 : (cutS (found[found.length - 1]'(by omega)) none (some ((candS word t.toNat (Nm.letter fi.toNat i)).length : Int))).length ≤ 5 := by
          unfold cutS
          show (List.toArray _).size ≤ 5
          rw [List.size_toArray, List.length_take, HT.sIx_none, HT.sIx_nat]
          omega
        refine ⟨_, rfl, _, rfl, _, rfl, _, _, rfl, rfl, .inl (by constructor <;> decide), _, _, rfl, rfl, _, _, rfl, rfl, (by show (0 : Int) < _; decide), _, _, Nm.letter fi.toNat i, rfl, rfl, (by show abcS.length ≤ sizeLine; rw [abc_len]; decide), let_, ?_⟩
        refine ⟨_, _, rfl, rfl, (by refine szl ?_; show (cutS _ none _).length + 1 ≤ 100000; omega), ?_⟩
        refine ⟨_, (by rw [Str.length_append]; show (cutS _ none _).length + 1 ≤ 6; omega), fun j hj => ?_, rfl, rfl⟩
        -- an even turn does not come here
        exfalso
        have : (0 + (i : Int)) % 2 = 0 := by omega
        rw [this, Int.mul_zero] at e1'
        exact absurd e1' (by decide)
      · rintro σ' H8 ⟨x, hx, hj, rfl, rfl⟩
        refine ⟨_, rfl, _, rfl, _, rfl, tk, fo, _, _, rfl, rfl, hT, hO, (by rw [List.length_map, List.length_map]; have := I.len; exact szl (by show 13 + found.length ≤ 100000; omega)), fun p hp => ?_⟩
        have hpp : (upd H8 p (.lst (Nm.takenS.map V.str ++ found.map V.str))) p = some (.lst (Nm.takenS.map V.str ++ found.map V.str)) := upd_same
        have kN : Kp (Is F) H8 (upd H8 p (.lst (Nm.takenS.map V.str ++ found.map V.str))) := Kp.new hp
        have hT2 := kN.k _ _ hT ntF
        have hO2 := kN.k _ _ hO nfF
        have f8 := f7.upd (f7.nn hp).symm (o := .lst (Nm.takenS.map V.str ++ found.map V.str))
        have k8 := k7.trans kN
        refine ⟨p, _, rfl, .inl (SqL.of hpp), rfl, (by rw [List.all_append, flat_strs, flat_strs]; rfl), _, rfl, ?_⟩
        have ein : inV (.str x) (Nm.takenS.map V.str ++ found.map V.str) = decide (x ∈ Nm.takenS ++ found) := by
          rw [← List.map_append]
          exact inV_strs
        have out : (x ∈ Nm.takenS ++ found ∨ x = "gauges" ∨ ¬ found.length < 16) → _ := fun hc => (⟨_, _, found, rfl, hT2, hO2, f8, k8, I.skip hj hc⟩ :
          ∃ (y9 y10 : Option V) (fd : List Str), [some (.ref F), some (.int 16), some (.str abcS), some (.str word), some (.int t), some (.int fi), some (.int lg), some (.ref tk), some (.ref fo), some (.int (0 + (i : Int))), some (V.str x), none] = [some (.ref F), some (.int 16), some (.str abcS), some (.str word), some (.int t), some (.int fi), some (.int lg), some (.ref tk), some (.ref fo), y9, y10, none] ∧
            (upd H8 p (.lst (Nm.takenS.map V.str ++ found.map V.str))) tk = some (.lst (Nm.takenS.map V.str)) ∧ (upd H8 p (.lst (Nm.takenS.map V.str ++ found.map V.str))) fo = some (.lst (fd.map V.str)) ∧ FlAt (upd H8 p (.lst (Nm.takenS.map V.str ++ found.map V.str))) F ∧ Kp (Is F) H (upd H8 p (.lst (Nm.takenS.map V.str ++ found.map V.str))) ∧ NmInv word t.toNat fi.toNat (i + 1) fd)
        refine ite2 (fun e1 => ?_) (fun e1 => ?_)
        · rw [if_pos rfl, ein] at e1
          have n1 : ¬ x ∈ Nm.takenS ++ found := of_decide_eq_false (by simpa using e1)
          refine ⟨_, rfl, rfl, _, rfl, ?_⟩
          refine ite2 (fun e2 => ?_) (fun e2 => ?_)
          · refine ⟨_, rfl, fo, _, rfl, .inl (SqL.of hO2), _, rfl, _, _, rfl, rfl, _, rfl, ?_⟩
            refine ite2 (fun e3 => ?_) (fun e3 => ?_)
            · have l3 : (((found.map V.str).length : Nat) : Int) < 16 := of_decide_eq_true e3
              rw [List.length_map] at l3
              refine ⟨_, rfl, .inl ⟨rfl, _, SqL.of hO2⟩, _, rfl, fo, _, _, rfl, rfl, hO2, szt (by rw [List.length_map]; omega), ?_⟩
              refine ⟨_, _, found ++ [x], rfl, by rw [upd_ne ntf]; exact hT2, by rw [upd_same, List.map_append]; rfl, f8.upd nfF.symm, ?_, I.add (by omega) hx hj⟩
              exact k8.mut (k25.free nfo5)
            · have l3 : ¬ (((found.map V.str).length : Nat) : Int) < 16 := of_decide_eq_false (Bool.eq_false_iff.mpr e3)
              rw [List.length_map] at l3
              exact out (.inr (.inr (by omega)))
          · have e2' : x = ("gauges" : Str) := by
              have z : decide (V.str x = V.str ("gauges" : Str)) = true := by
                cases q : decide (V.str x = V.str ("gauges" : Str)) with
                | true => rfl
                | false =>
                  rw [q] at e2
                  exact absurd rfl e2
              exact V.str.inj (of_decide_eq_true z)
            exact out (.inr (.inl e2'))
        · rw [if_pos rfl, ein] at e1
          have n1 : x ∈ Nm.takenS ++ found := by
            cases q : decide (x ∈ Nm.takenS ++ found) with
            | true => exact of_decide_eq_true q
            | false =>
              rw [q] at e1
              exact absurd rfl e1
          exact out (.inl n1)
    · obtain ⟨y9, y10, found, rfl, hT, hO, f7, k7, I⟩ := hP
      exact ⟨_, rfl, q H' fo found k7 f7 (k25.free nfo5) hO (I.enough hwl (by omega) (by omega)) I.len I.sz⟩
end
end K36
namespace K36
open PySem PySem.Spec PyProof.Rows L2
/-! ### the world of the drawing: what stands while programs are drawn -/
structure Wd where
  W : Addr
  cl : Addr
  ct : Addr
  gl : Addr
  hl : Addr
  ab : Addr
  F : Addr
  cs : List Str
  cn : List Str
  gs : List Str
theorem sne {a b : Str} (h : decide (a = b) = false) : ¬ (Sum.inr a : Key) = Sum.inr b := fun e => of_decide_eq_false h (Sum.inr.inj e)
theorem put_len {kvs : List (Key × V)} {k : Key} {v : V} (h : (valV kvs k).isSome = true) : (putK kvs k v).length = kvs.length := by
  unfold putK
  rw [valV_any, if_pos h, List.length_map]
theorem put_len_le {kvs : List (Key × V)} {k : Key} {v : V} : (putK kvs k v).length ≤ kvs.length + 1 := by
  unfold putK
  split
  · rw [List.length_map]
    omega
  · rw [List.length_append, List.length_singleton]
    omega
theorem put_keys {kvs : List (Key × V)} {k : Key} {v : V} : (putK kvs k v).map (·.1) = if (valV kvs k).isSome = true then kvs.map (·.1) else kvs.map (·.1) ++ [k] := by
  unfold putK
  rw [valV_any]
  by_cases h : (valV kvs k).isSome = true
  · rw [if_pos h, if_pos h, List.map_map]
    refine List.map_congr_left fun p _ => ?_
    show (if p.1 = k then (p.1, v) else p).1 = p.1
    split <;> rfl
  · rw [if_neg h, if_neg h, List.map_append]
    rfl
theorem has_mem {k : Key} : ∀ {kvs : List (Key × V)}, (valV kvs k).isSome = true ↔ k ∈ kvs.map (·.1)
  | [] => ⟨fun h => by rw [valV_nil] at h; exact absurd h (by decide), fun h => absurd h List.not_mem_nil⟩
  | p :: r => by
    by_cases e : p.1 = k
    · rw [valV_pos e]
      exact ⟨fun _ => by rw [List.map_cons, e]; exact List.mem_cons_self, fun _ => rfl⟩
    · rw [valV_neg e, has_mem (kvs := r), List.map_cons, List.mem_cons]
      exact ⟨.inr, fun h => h.elim (fun z => absurd z.symm e) id⟩
theorem dget_s {H : Hp} {a : Addr} {kvs : List (Key × V)} {x : Str} {v : V} (h : H a = some (.dK kvs)) (e : valV kvs (.inr x) = some v) : DGet H a (.str x) (some v) := by
  rw [← e]
  exact DGet.k (k := Sum.inr x) h
theorem dget_i {H : Hp} {a : Addr} {kvs : List (Key × V)} {x : Int} {v : V} (h : H a = some (.dK kvs)) (e : valV kvs (.inl x) = some v) : DGet H a (.int x) (some v) := by
  rw [← e]
  exact DGet.k (k := Sum.inl x) h
structure Dct (w : Wd) (kvs : List (Key × V)) : Prop where
  len : kvs.length ≤ 8
  cells : valV kvs (.inr "cells") = some (.ref w.cl)
  counters : valV kvs (.inr "counters") = some (.ref w.ct)
  gauges : valV kvs (.inr "gauges") = some (.ref w.gl)
  helpers : valV kvs (.inr "helpers") = some (.ref w.hl)
  about : valV kvs (.inr "about") = some (.ref w.ab)
  left : ∃ l, valV kvs (.inr "left") = some (.int l)
  heavy : ∃ l, valV kvs (.inr "heavy") = some (.int l)
  age : valV kvs (.inr "age") = some (.int 170)
section
variable {w : Wd} {kvs : List (Key × V)}
theorem Dct.putLeft (d : Dct w kvs) (l : Int) : Dct w (putK kvs (.inr "left") (.int l)) := by
  obtain ⟨z, hz⟩ := d.left
  exact ⟨by rw [put_len (by rw [hz]; rfl)]; exact d.len, by rw [valV_put, if_neg (sne (by decide +kernel))]; exact d.cells, by rw [valV_put, if_neg (sne (by decide +kernel))]; exact d.counters, by rw [valV_put, if_neg (sne (by decide +kernel))]; exact d.gauges,
    by rw [valV_put, if_neg (sne (by decide +kernel))]; exact d.helpers, by rw [valV_put, if_neg (sne (by decide +kernel))]; exact d.about, ⟨l, by rw [valV_put, if_pos rfl]⟩, by rw [valV_put, if_neg (sne (by decide +kernel))]; exact d.heavy, by rw [valV_put, if_neg (sne (by decide +kernel))]; exact d.age⟩
theorem Dct.putHeavy (d : Dct w kvs) (l : Int) : Dct w (putK kvs (.inr "heavy") (.int l)) := by
  obtain ⟨z, hz⟩ := d.heavy
  exact ⟨by rw [put_len (by rw [hz]; rfl)]; exact d.len, by rw [valV_put, if_neg (sne (by decide +kernel))]; exact d.cells, by rw [valV_put, if_neg (sne (by decide +kernel))]; exact d.counters, by rw [valV_put, if_neg (sne (by decide +kernel))]; exact d.gauges,
    by rw [valV_put, if_neg (sne (by decide +kernel))]; exact d.helpers, by rw [valV_put, if_neg (sne (by decide +kernel))]; exact d.about, by rw [valV_put, if_neg (sne (by decide +kernel))]; exact d.left, ⟨l, by rw [valV_put, if_pos rfl]⟩, by rw [valV_put, if_neg (sne (by decide +kernel))]; exact d.age⟩
end
/-- a helper that stands: its tuple, what is told about it -/
def HlpOk (akvs : List (Key × V)) (N : Nat) (H : Hp) (v : V) : Prop := ∃ (a : Addr) (f : Str) (b : V) (t g : Addr) (gs : List Str) (n : Int) (r : Bool), v = .ref a ∧ H a = some (.tup [.str f, b]) ∧ valV akvs (.inr f) = some (.ref t) ∧
  H t = some (.tup [.ref g, .int n, .bl r]) ∧ H g = some (.lst (gs.map V.str)) ∧ gs.length ≤ 2 * N
/-- the objects that are never written again while bodies are drawn -/
structure WAt (w : Wd) (H : Hp) : Prop where
  fl : FlAt H w.F
  dct : ∃ kvs, H w.W = some (.dK kvs) ∧ Dct w kvs
  cl : H w.cl = some (.lst (w.cs.map V.str))
  cn2 : 1 ≤ w.cs.length ∧ w.cs.length ≤ 5
  ct : H w.ct = some (.lst (w.cn.map V.str))
  ctn : w.cn.length = 3
  gl : H w.gl = some (.lst (w.gs.map V.str))
  gln : 1 ≤ w.gs.length ∧ w.gs.length ≤ 16
  hl : ∃ (hs : List V) (akvs : List (Key × V)), H w.hl = some (.lst hs) ∧ hs.length ≤ 10 ∧ H w.ab = some (.dK akvs) ∧ akvs.length ≤ 10 ∧ ∀ v ∈ hs, HlpOk akvs hs.length H v
  nab : w.ab ≠ w.W
abbrev M2 (w : Wd) : Addr → Prop := fun b => b = w.F ∨ b = w.W
abbrev M3 (w : Wd) (D : Addr) : Addr → Prop := fun b => b = w.F ∨ b = w.W ∨ b = D
/-- a fresh dict: its keys are cells -/
structure FrAt (w : Wd) (D : Addr) (H : Hp) : Prop where
  ex : ∃ (kvs : List (Key × V)) (ks : List Str), H D = some (.dK kvs) ∧ kvs.map (·.1) = ks.map Sum.inr ∧ ks.Nodup ∧ ∀ x ∈ ks, x ∈ w.cs
  nW : D ≠ w.W
  nab : D ≠ w.ab
section
variable {w : Wd} {H H' : Hp} {M : Addr → Prop} {D : Addr}
theorem HlpOk.mono {akvs : List (Key × V)} {N : Nat} {v : V} (h : HlpOk akvs N H v) (t : TL H H') (l : ∀ b (xs : List Str), H b = some (.lst (xs.map V.str)) → H' b = some (.lst (xs.map V.str))) : HlpOk akvs N H' v := by
  obtain ⟨a, f, b, t', g, gs, n, r, h1, h2, h3, h4, h5, h6⟩ := h
  exact ⟨a, f, b, t', g, gs, n, r, h1, t _ _ h2, h3, t _ _ h4, l _ _ h5, h6⟩
/-- the step: M is among the flow, the world's dict and dicts that are not the helpers' -/
theorem WAt.step (a : WAt w H) (x : Kp M H H') (hM : ∀ b, M b → b = w.F ∨ b = w.W ∨ (b ≠ w.ab ∧ ∃ ks, H b = some (.dK ks))) (fl : FlAt H' w.F) (dct : ∃ kvs, H' w.W = some (.dK kvs) ∧ Dct w kvs) : WAt w H' := by
  obtain ⟨kv0, hW, _⟩ := a.dct
  have lst : ∀ b (xs : List V), H b = some (.lst xs) → (∀ p q r, (HO.lst xs) ≠ .lst [.int p, .int q, .int r]) → H' b = some (.lst xs) := fun b xs hb ne => x.k b _ hb fun m => by
    rcases hM b m with e | e | ⟨_, ks, e⟩
    · exact a.fl.ne hb ne e
    · rw [e, hW] at hb
      cases hb
    · rw [e] at hb
      cases hb
  have txs : ∀ b (xs : List Str), H b = some (.lst (xs.map V.str)) → H' b = some (.lst (xs.map V.str)) := fun b xs hb => lst b _ hb fun p q r z => by
    have z2 : xs.map V.str = [.int p, .int q, .int r] := HO.lst.inj z
    cases xs with
    | nil => cases z2
    | cons y ys =>
      rw [List.map_cons] at z2
      cases (List.cons.inj z2).1
  obtain ⟨hs, akvs, h1, h2, h3, h4, h5⟩ := a.hl
  refine ⟨fl, dct, txs _ _ a.cl, a.cn2, txs _ _ a.ct, a.ctn, txs _ _ a.gl, a.gln, ⟨hs, akvs, lst _ _ h1 fun p q r z => ?_, h2, x.k _ _ h3 fun m => ?_, h4, fun v hv => (h5 v hv).mono x.t txs⟩, a.nab⟩
  · have z2 : hs = [.int p, .int q, .int r] := HO.lst.inj z
    have hm : V.int p ∈ hs := by rw [z2]; exact List.mem_cons_self
    obtain ⟨a', _, _, _, _, _, _, _, e, _⟩ := h5 _ hm
    cases e
  · rcases hM _ m with e | e | ⟨e, _⟩
    · exact a.fl.ne h3 (fun p q r z => by cases z) e
    · exact a.nab e
    · exact e rfl
/-- a draw -/
theorem WAt.draw (a : WAt w H) (x : Kp (Is w.F) H H') (fl : FlAt H' w.F) : WAt w H' := by
  obtain ⟨kvs, h1, h2⟩ := a.dct
  exact a.step x (fun b e => .inl e) fl ⟨kvs, x.k _ _ h1 (a.fl.ne h1 (fun p q r z => by cases z)), h2⟩
/-- nothing that stood is changed -/
theorem WAt.same (a : WAt w H) (x : ∀ b o, H b = some o → H' b = some o) : WAt w H' := by
  obtain ⟨kvs, h1, h2⟩ := a.dct
  exact a.step (M := fun _ => False) (Kp.same x) (fun b e => e.elim) (a.fl.k (M := fun _ => False) (Kp.same x) (fun e => e)) ⟨kvs, x _ _ h1, h2⟩
/-- the world's dict is written -/
theorem WAt.put {kvs : List (Key × V)} (a : WAt w H) (d : Dct w kvs) : WAt w (upd H w.W (.dK kvs)) ∧ Kp (Is w.W) H (upd H w.W (.dK kvs)) := by
  obtain ⟨kv0, h1, _⟩ := a.dct
  have k : Kp (Is w.W) H (upd H w.W (.dK kvs)) := Kp.upd rfl h1 dK_ne_tup
  exact ⟨a.step k (fun b e => .inr (.inl e)) (a.fl.k k fun e => a.fl.ne h1 (fun p q r z => by cases z) e.symm) ⟨kvs, upd_same, d⟩, k⟩
theorem WAt.nW (a : WAt w H) : w.W ≠ w.F := by
  obtain ⟨kv0, h1, _⟩ := a.dct
  exact a.fl.ne h1 fun p q r z => by cases z
theorem FrAt.nF (d : FrAt w D H) (a : WAt w H) : D ≠ w.F := by
  obtain ⟨kvs, ks, h1, _⟩ := d.ex
  exact a.fl.ne h1 fun p q r z => by cases z
/-- a fresh dict that is not among what is written stays -/
theorem FrAt.step (d : FrAt w D H) (x : Kp M H H') (n : ¬ M D) : FrAt w D H' := by
  obtain ⟨kvs, ks, h1, h2⟩ := d.ex
  exact ⟨⟨kvs, ks, x.k _ _ h1 n, h2⟩, d.nW, d.nab⟩
theorem FrAt.step2 (d : FrAt w D H) (a : WAt w H) (x : Kp (M2 w) H H') : FrAt w D H' := d.step x fun e => e.elim (d.nF a) d.nW
theorem FrAt.draw (d : FrAt w D H) (a : WAt w H) (x : Kp (Is w.F) H H') : FrAt w D H' := d.step x (d.nF a)
theorem FrAt.same (d : FrAt w D H) (x : ∀ b o, H b = some o → H' b = some o) : FrAt w D H' := d.step (M := fun _ => False) (Kp.same x) (fun e => e)
/-- a fresh dict is written -/
theorem FrAt.put {kvs : List (Key × V)} {ks : List Str} (d : FrAt w D H) (a : WAt w H) (h1 : kvs.map (·.1) = ks.map Sum.inr) (h2 : ks.Nodup) (h3 : ∀ x ∈ ks, x ∈ w.cs) :
    FrAt w D (upd H D (.dK kvs)) ∧ WAt w (upd H D (.dK kvs)) ∧ Kp (Is D) H (upd H D (.dK kvs)) := by
  obtain ⟨kv0, ks0, e0, _⟩ := d.ex
  have k : Kp (Is D) H (upd H D (.dK kvs)) := Kp.upd rfl e0 dK_ne_tup
  obtain ⟨kw, hW, dW⟩ := a.dct
  refine ⟨⟨⟨kvs, ks, upd_same, h1, h2, h3⟩, d.nW, d.nab⟩, ?_, k⟩
  exact a.step k (fun b e => .inr (.inr (by rw [e]; exact ⟨d.nab, kv0, e0⟩))) (a.fl.k k fun e => d.nF a e.symm) ⟨kw, k.k _ _ hW (fun e => d.nW e.symm), dW⟩
/-- a new dict is fresh -/
theorem FrAt.new {p : Addr} (a : WAt w H) (hp : H p = none) {kvs : List (Key × V)} {ks : List Str} (h1 : kvs.map (·.1) = ks.map Sum.inr) (h2 : ks.Nodup) (h3 : ∀ x ∈ ks, x ∈ w.cs) : FrAt w p (upd H p (.dK kvs)) := by
  obtain ⟨kv0, hW, _⟩ := a.dct
  obtain ⟨hs, akvs, _, _, h4, _⟩ := a.hl
  exact ⟨⟨kvs, ks, upd_same, h1, h2, h3⟩, (ne_of_none hW hp).symm, (ne_of_none h4 hp).symm⟩
theorem FrAt.sz (d : FrAt w D H) (a : WAt w H) : ∃ (kvs : List (Key × V)) (ks : List Str), H D = some (.dK kvs) ∧ kvs.map (·.1) = ks.map Sum.inr ∧ ks.Nodup ∧ (∀ x ∈ ks, x ∈ w.cs) ∧ ks.length ≤ 5 ∧ kvs.length ≤ 5 := by
  obtain ⟨kvs, ks, h1, h2, h3, h4⟩ := d.ex
  have l := Nm.sub_len h3 h4
  have l2 := congrArg List.length h2
  rw [List.length_map, List.length_map] at l2
  exact ⟨kvs, ks, h1, h2, h3, h4, Nat.le_trans l a.cn2.2, by rw [l2]; exact Nat.le_trans l a.cn2.2⟩
end
/-! ### statements that were drawn -/
def Rw.ok6 : Rw → Prop
  | .set _ t => t.dp ≤ 6
  | .tell t => t.dp ≤ 6
  | .sure ns => ns.length ≤ 10
  | _ => True
/-- a plain statement -/
def PlOk (cs : List Str) (H : Hp) (v : V) : Prop := ∃ r, r ≠ .fin ∧ StAt H r v ∧ r.ok6 ∧ ∀ x ∈ r.sn, x ∈ cs
/-- one with bodies, a call -/
def CpOk (H : Hp) (v : V) : Prop := ∃ (a : Addr) (k : Str) (its : List V), v = .ref a ∧ H a = some (.tup (.str k :: its)) ∧ (k = "if" ∨ k = "while" ∨ k = "times" ∨ k = "call")
def StOk (cs : List Str) (H : Hp) (v : V) : Prop := PlOk cs H v ∨ CpOk H v
section
variable {cs : List Str} {H H' : Hp} {v : V}
theorem PlOk.tl (h : PlOk cs H v) (x : TL H H') : PlOk cs H' v := let ⟨r, a, b, c⟩ := h; ⟨r, a, b.tl x, c⟩
theorem CpOk.tl (h : CpOk H v) (x : TL H H') : CpOk H' v := let ⟨a, k, its, b, c, d⟩ := h; ⟨a, k, its, b, x _ _ c, d⟩
theorem StOk.tl (h : StOk cs H v) (x : TL H H') : StOk cs H' v := h.elim (fun z => .inl (z.tl x)) fun z => .inr (z.tl x)
end
section
variable {u : Wd} {H H' : Hp} {D fo : Addr}
theorem WAt.step3 (wa : WAt u H) (fr : FrAt u D H) (k : Kp (M3 u D) H H') (fl : FlAt H' u.F) (dct : ∃ kvs, H' u.W = some (.dK kvs) ∧ Dct u kvs) : WAt u H' := by
  obtain ⟨kvs, ks, hD, _⟩ := fr.ex
  exact wa.step k (fun b e => e.elim .inl fun e => e.elim (fun z => .inr (.inl z)) fun z => .inr (.inr (by rw [z]; exact ⟨fr.nab, kvs, hD⟩))) fl dct
/-- an object that H does not know is written -/
theorem WAt.mutNew (wa : WAt u H) (fr : FrAt u D H) (k : Kp (M3 u D) H H') (w4 : WAt u H') (n : H fo = none) (o : HO) : WAt u (upd H' fo o) ∧ Kp (M3 u D) H (upd H' fo o) := by
  have kH := k.mut (o := o) n
  obtain ⟨kv4, hW4, dW4⟩ := w4.dct
  have nW : u.W ≠ fo := by
    obtain ⟨kvs, hW, _⟩ := wa.dct
    exact ne_of_none hW n
  exact ⟨wa.step3 fr kH (w4.fl.upd (wa.fl.nn n).symm) ⟨kv4, by rw [upd_ne nW]; exact hW4, dW4⟩, kH⟩
theorem WAt.nM3 (wa : WAt u H) (fr : FrAt u D H) (n : H fo = none) : ¬ M3 u D fo := by
  intro e
  rcases e with e | e | e
  · exact wa.fl.nn n e
  · obtain ⟨kvs, hW, _⟩ := wa.dct
    exact ne_of_none hW n e.symm
  · obtain ⟨kvs, ks, hD, _⟩ := fr.ex
    exact ne_of_none hD n e.symm
/-- world['left'] is written -/
theorem WAt.left (wa : WAt u H) (fr : FrAt u D H) {kvs : List (Key × V)} (hW : H u.W = some (.dK kvs)) (dW : Dct u kvs) (l : Int) :
    WAt u (upd H u.W (.dK (putK kvs (Sum.inr "left") (.int l)))) ∧ FrAt u D (upd H u.W (.dK (putK kvs (Sum.inr "left") (.int l)))) ∧ Kp (M3 u D) H (upd H u.W (.dK (putK kvs (Sum.inr "left") (.int l)))) := by
  obtain ⟨w2, k2⟩ := wa.put (dW.putLeft l)
  exact ⟨w2, fr.step k2 fr.nW, k2.mono fun b e => .inr (.inl e)⟩
end
section
variable {u : Wd} {H H1 H2 : Hp} {D : Addr} {M M' : Addr → Prop}
/-- a cell's name is put into a fresh dict -/
theorem FrAt.add (fr : FrAt u D H) (wa : WAt u H) {x : Str} (hx : x ∈ u.cs) (b : V) : ∃ kvs : List (Key × V), H D = some (.dK kvs) ∧ kvs.length ≤ 5 ∧
    FrAt u D (upd H D (.dK (putK kvs (Sum.inr x) b))) ∧ WAt u (upd H D (.dK (putK kvs (Sum.inr x) b))) ∧ Kp (Is D) H (upd H D (.dK (putK kvs (Sum.inr x) b))) := by
  obtain ⟨fk, fs, hD, e1, e2, e3, e4, e5⟩ := fr.sz wa
  have put : ∃ ks : List Str, (putK fk (Sum.inr x) b).map (·.1) = ks.map Sum.inr ∧ ks.Nodup ∧ ∀ y ∈ ks, y ∈ u.cs := by
    by_cases h : (valV fk (Sum.inr x)).isSome = true
    · exact ⟨fs, by rw [put_keys, if_pos h, e1], e2, e3⟩
    · refine ⟨fs ++ [x], by rw [put_keys, if_neg h, e1, List.map_append]; rfl, ?_, fun y hy => ?_⟩
      · rw [List.nodup_append]
        refine ⟨e2, by simp, fun y hy z hz e => ?_⟩
        rw [List.mem_singleton.mp hz] at e
        rw [e] at hy
        exact h (has_mem.mpr (by rw [e1]; exact List.mem_map.mpr ⟨x, hy, rfl⟩))
      · rcases List.mem_append.mp hy with z | z
        · exact e3 y z
        · rw [List.mem_singleton.mp z]
          exact hx
  obtain ⟨ks, p1, p2, p3⟩ := put
  exact ⟨fk, hD, e5, fr.put wa p1 p2 p3⟩
/-- what is written besides is new -/
theorem Kp.more (x : Kp M H H1) (y : Kp M' H1 H2) (h : ∀ b, M' b → M b ∨ H b = none) : Kp M H H2 := by
  refine ⟨fun b o e n => y.k b o (x.k b o e n) fun z => ?_, x.t.trans y.t, fun b o e => let ⟨v, e1⟩ := x.e b o e; y.e b v e1⟩
  rcases h b z with q | q
  · exact n q
  · rw [q] at e
    cases e
end
end K36
namespace K36
open PySem PySem.Spec PyProof.Rows L2
/-! ### terms, rooms -/
theorem lst_str_int {xs : List Str} : ∀ a b c : Int, (HO.lst (xs.map V.str)) ≠ .lst [.int a, .int b, .int c] := fun a b c z => by
  have z2 : xs.map V.str = [.int a, .int b, .int c] := HO.lst.inj z
  cases xs with
  | nil => cases z2
  | cons y ys =>
    rw [List.map_cons] at z2
    cases (List.cons.inj z2).1
theorem str_at {xs : List Str} {i : Int} (h0 : 0 ≤ i) (h1 : i < (xs.length : Int)) : ∃ x, x ∈ xs ∧ atI (xs.map V.str) i = some (.str x) := by
  have hl : i.toNat < xs.length := by omega
  exact ⟨xs[i.toNat], List.getElem_mem hl, at_of (j := i.toNat) (by omega) (by rw [List.getElem?_map, List.getElem?_eq_getElem hl]; rfl)⟩
theorem at2 {x y : V} {k : Bool} : atI [x, y] (if k = true then 1 else 0) = some (if k = true then y else x) := by
  cases k <;> rfl
theorem at2i {x y : V} {i : Int} (h0 : 0 ≤ i) (h1 : i < 2) : ∃ z, atI [x, y] i = some z ∧ (z = x ∨ z = y) := by
  rcases (show i = 0 ∨ i = 1 by omega) with e | e
  · exact ⟨x, by rw [e]; rfl, .inl rfl⟩
  · exact ⟨y, by rw [e]; rfl, .inr rfl⟩
theorem up_new {M : Addr → Prop} {H H' : Hp} {p : Addr} {o : HO} (k : Kp M H H') (h : H' p = none) : Kp M H (upd H' p o) := k.trans (Kp.new h)
section
variable {P : Program} {w : World} {K : PySem.W.Frag} {mg : Str → Option Value} {base : Heap}
-- _law_term (printed by gen.py); slots: 0 _law_flow_here, 1 _law_names_here, 2 _law_room_here, 3 _law_number, 4 _law_one, 5 _law_sign, 6 _law_first
abbrev nLTerm : List Str := ["_law_flow_here", "_law_names_here", "_law_room_here", "_law_number", "_law_one", "_law_sign", "_law_first"]
abbrev pLTerm : List Str := ["_law_flow_here", "_law_names_here", "_law_room_here"]
theorem scLTerm : FnScope nLTerm pLTerm (defScope sLTerm) := ⟨rfl, rfl, rfl, by decide +kernel, rfl, by decide +kernel, by decide +kernel⟩
def spTerm (n : Nat) : Sp := fun vs H Q _ => ∃ (F cl : Addr) (r : Int) (cs : List Str), vs = [.ref F, .ref cl, .int r] ∧ FlAt H F ∧ H cl = some (.lst (cs.map V.str)) ∧ 1 ≤ cs.length ∧ cs.length ≤ 100 ∧ 1 ≤ r ∧ r ≤ 2 * (n : Int) ∧ r ≤ 100 ∧
  ∀ t v H', TmAt H' t v → t.dp ≤ n → Kp (Is F) H H' → FlAt H' F → Q v H'
theorem ok_term_step (T : Bi mg) {n : Nat} (a : At K mg "_law_term" sLTerm pLTerm) (cLDraw : Cal P w K mg base CX0 "_law_draw" 1 pLDraw spD) (cLTerm : Cal P w K mg base CX0 "_law_term" (n + 1) pLTerm (spTerm n)) :
    Cal P w K mg base CX0 "_law_term" (n + 2) pLTerm (spTerm (n + 1)) := by
  refine Cal.of a scLTerm (fun vs H Q E h => ?_) (fun f cdv A outer s H vs Q E hr h => ?_)
  · obtain ⟨F, cl, r, cs, rfl, _⟩ := h
    rfl
  · obtain ⟨F, cl, r, cs, rfl, hF, hC, hc1, hc2, hr1, hr2, hr3, q⟩ := h
    have nCF : cl ≠ F := hF.ne hC lst_str_int
    refine ⟨_, (pss_cons (ps_if (PW.pt (pw_or (pt_cmpR op_lt (pv 2) pe_int (nomark _)) (pw_or1 (pt_cmpR op_eq (pe_c cLDraw hr pass0 (pa_cons (pv 0) (pa_cons pe_int pa_nil))) pe_int (nomark _)))))
        (pss_cons (ps_set (i := 3) scLTerm.nd rfl (.inl rfl) (pe_ix ix_list (pe_lst (pa_cons (pe_c cLDraw hr pass0 (pa_cons (pv 0) (pa_cons pe_int pa_nil))) (pa_cons (pe_c cLDraw hr pass0 (pa_cons (pv 0) (pa_cons pe_int pa_nil))) pa_nil))) (pe_callTy call_int1 (by rfl) T.int bo_int (pa_cons (pe_cmpR op_eq (pe_c cLDraw hr pass0 (pa_cons (pv 0) (pa_cons pe_int pa_nil))) pe_int (nomark _)) pa_nil)) (fun _ _ => rfl))) -- _law_number = [_law_draw(_law_flow_here, 3), _law_draw(_law_flow_here, 1000000)][int(_law_draw(_law_flow_here,
        (pss_one (ps_ret (pe_ix ix_list (pe_lst (pa_cons (pe_tup (pa_cons pe_str (pa_cons (pe_ix ix_list (pv 1) (pe_c cLDraw hr pass0 (pa_cons (pv 0) (pa_cons (pe_callB call_len_seq (by rfl) T.len bo_len (pa_cons (pv 1) pa_nil)) pa_nil))) (fun _ _ => rfl)) pa_nil))) (pa_cons (pe_tup (pa_cons pe_str (pa_cons (pv 3) pa_nil))) pa_nil))) (pe_c cLDraw hr pass0 (pa_cons (pv 0) (pa_cons pe_int pa_nil))) (fun _ _ => rfl)))))
        pss_nil) -- if _law_room_here < 3 or _law_draw(_law_flow_here, 3) == 0:
      (pss_cons (ps_set (i := 4) scLTerm.nd rfl (.inl rfl) (pe_op op_add pe_int (pe_c cLDraw hr pass0 (pa_cons (pv 0) (pa_cons (pe_op op_sub (pv 2) pe_int) pa_nil))))) -- _law_one = 1 + _law_draw(_law_flow_here, _law_room_here - 2)
      (pss_cons (ps_set (i := 5) scLTerm.nd rfl (.inl rfl) (pe_ix ix_str pe_str (pe_c cLDraw hr pass0 (pa_cons (pv 0) (pa_cons pe_int pa_nil))) (fun _ _ => rfl))) -- _law_sign = '+-*<='[_law_draw(_law_flow_here, 5)]
      (pss_cons (ps_set (i := 6) scLTerm.nd rfl (.inl rfl) (pe_c cLTerm hr pass0 (pa_cons (pv 0) (pa_cons (pv 1) (pa_cons (pv 4) pa_nil))))) -- _law_first = _law_term(_law_flow_here, _law_names_here, _law_one)
      (pss_one (ps_ret (pe_tup (pa_cons pe_str (pa_cons (pv 5) (pa_cons (pv 6) (pa_cons (pe_c cLTerm hr pass0 (pa_cons (pv 0) (pa_cons (pv 1) (pa_cons (pe_op op_sub (pe_op op_sub (pv 2) pe_int) (pv 4)) pa_nil)))) pa_nil))))))))))), ?_⟩
    have hlen : (cs.map V.str).length = cs.length := List.length_map _
    refine ⟨_, rfl, _, _, rfl, rfl, _, rfl, ?_⟩
    refine ite2 (fun _ => ?_) (fun e1 => ?_)
    · have f1 := hF
      have k1 := Kp.refl (Is F) H
      refine ⟨_, rfl, F, 3, rfl, f1, by decide, by decide, fun a1 H2 _ _ f2 k2 => ?_⟩
      refine ⟨_, rfl, F, 1000000, rfl, f2, by decide, by decide, fun a2 H3 _ _ f3 k3 => ⟨(by show 2 ≤ sizeLine; decide), fun p hp => ?_⟩⟩
      have f4 := f3.upd (f3.nn hp).symm (o := .lst [.int a1, .int a2])
      have hpp : (upd H3 p (.lst [V.int a1, V.int a2])) p = some (.lst [.int a1, .int a2]) := upd_same
      refine ⟨_, rfl, F, 4, rfl, f4, by decide, by decide, fun a3 H4 _ _ f5 k5 => ⟨rfl, .inr ⟨_, rfl, ?_⟩⟩⟩
      have hp4 := k5.k _ _ hpp (f3.nn hp)
      have k4 : Kp (Is F) H H4 := (up_new ((k1.trans k2).trans k3) hp).trans k5
      refine ⟨p, _, _, _, rfl, rfl, SqL.of hp4, at2, ?_⟩
      generalize (if decide (V.int a3 = V.int 3) = true then V.int a2 else V.int a1) = num
      -- ('cell', names[..]), ('num', number)
      refine ⟨_, rfl, _, rfl, _, rfl, cl, _, rfl, .inl (SqL.of (k4.k _ _ hC nCF)), F, (((cs.map V.str).length : Nat) : Int), rfl, f5, by rw [hlen]; omega, by rw [hlen]; omega, fun b1 H6 b10 b11 f6 k6 => ?_⟩
      rw [hlen] at b11
      obtain ⟨x, _, hx⟩ := str_at (xs := cs) b10 b11
      refine ⟨cl, _, _, _, rfl, rfl, SqL.of ((k4.trans k6).k _ _ hC nCF), hx, (by show 2 ≤ sizeLine; decide), fun t1 ht1 => ?_⟩
      refine ⟨_, rfl, (by show 2 ≤ sizeLine; decide), fun t2 ht2 => ⟨(by show 2 ≤ sizeLine; decide), fun t3 ht3 => ?_⟩⟩
      have f7 := f6.upd (f6.nn ht1).symm (o := .tup [.str "cell", .str x])
      have f8 := f7.upd (f7.nn ht2).symm (o := .tup [.str "num", num])
      have f9 := f8.upd (f8.nn ht3).symm (o := .lst [.ref t1, .ref t2])
      have k7 := up_new (up_new (up_new (k4.trans k6) ht1 (o := .tup [.str "cell", .str x])) ht2 (o := .tup [.str "num", num])) ht3 (o := .lst [.ref t1, .ref t2])
      refine ⟨_, rfl, F, 2, rfl, f9, by decide, by decide, fun b2 H7 b20 b21 f10 k8 => ?_⟩
      obtain ⟨z, hz, hz2⟩ := at2i (x := V.ref t1) (y := V.ref t2) b20 b21
      have nt13 : t1 ≠ t3 := ne_of_none (Kp.new (M := Is F) ht2 |>.k _ _ upd_same (f6.nn ht1)) ht3
      have nt23 : t2 ≠ t3 := ne_of_none upd_same ht3
      have nt12 : t1 ≠ t2 := ne_of_none upd_same ht2
      refine ⟨t3, _, _, z, rfl, rfl, SqL.of (k8.k _ _ upd_same (f8.nn ht3)), hz, ?_⟩
      refine q .leaf z _ ?_ (by show 1 ≤ n + 1; omega) (k7.trans k8) f10
      rcases hz2 with e | e
      · rw [e]
        exact ⟨t1, "cell", .str x, rfl, k8.t _ _ (by rw [upd_ne nt13, upd_ne nt12, upd_same]), by decide +kernel⟩
      · rw [e]
        exact ⟨t2, "num", num, rfl, k8.t _ _ (by rw [upd_ne nt23, upd_same]), by decide +kernel⟩
    have r3 : ¬ r < 3 := of_decide_eq_false (Bool.eq_false_iff.mpr e1)
    refine ⟨_, rfl, F, 3, rfl, hF, by decide, by decide, fun d1 H1 d10 d11 f1 k1 => ⟨rfl, _, rfl, ?_⟩⟩
    refine ite2 (fun _ => ?_) (fun _ => ?_)
    · skip
      refine ⟨_, rfl, F, 3, rfl, f1, by decide, by decide, fun a1 H2 _ _ f2 k2 => ?_⟩
      refine ⟨_, rfl, F, 1000000, rfl, f2, by decide, by decide, fun a2 H3 _ _ f3 k3 => ⟨(by show 2 ≤ sizeLine; decide), fun p hp => ?_⟩⟩
      have f4 := f3.upd (f3.nn hp).symm (o := .lst [.int a1, .int a2])
      have hpp : (upd H3 p (.lst [V.int a1, V.int a2])) p = some (.lst [.int a1, .int a2]) := upd_same
      refine ⟨_, rfl, F, 4, rfl, f4, by decide, by decide, fun a3 H4 _ _ f5 k5 => ⟨rfl, .inr ⟨_, rfl, ?_⟩⟩⟩
      have hp4 := k5.k _ _ hpp (f3.nn hp)
      have k4 : Kp (Is F) H H4 := (up_new ((k1.trans k2).trans k3) hp).trans k5
      refine ⟨p, _, _, _, rfl, rfl, SqL.of hp4, at2, ?_⟩
      generalize (if decide (V.int a3 = V.int 3) = true then V.int a2 else V.int a1) = num
      -- ('cell', names[..]), ('num', number)
      refine ⟨_, rfl, _, rfl, _, rfl, cl, _, rfl, .inl (SqL.of (k4.k _ _ hC nCF)), F, (((cs.map V.str).length : Nat) : Int), rfl, f5, by rw [hlen]; omega, by rw [hlen]; omega, fun b1 H6 b10 b11 f6 k6 => ?_⟩
      rw [hlen] at b11
      obtain ⟨x, _, hx⟩ := str_at (xs := cs) b10 b11
      refine ⟨cl, _, _, _, rfl, rfl, SqL.of ((k4.trans k6).k _ _ hC nCF), hx, (by show 2 ≤ sizeLine; decide), fun t1 ht1 => ?_⟩
      refine ⟨_, rfl, (by show 2 ≤ sizeLine; decide), fun t2 ht2 => ⟨(by show 2 ≤ sizeLine; decide), fun t3 ht3 => ?_⟩⟩
      have f7 := f6.upd (f6.nn ht1).symm (o := .tup [.str "cell", .str x])
      have f8 := f7.upd (f7.nn ht2).symm (o := .tup [.str "num", num])
      have f9 := f8.upd (f8.nn ht3).symm (o := .lst [.ref t1, .ref t2])
      have k7 := up_new (up_new (up_new (k4.trans k6) ht1 (o := .tup [.str "cell", .str x])) ht2 (o := .tup [.str "num", num])) ht3 (o := .lst [.ref t1, .ref t2])
      refine ⟨_, rfl, F, 2, rfl, f9, by decide, by decide, fun b2 H7 b20 b21 f10 k8 => ?_⟩
      obtain ⟨z, hz, hz2⟩ := at2i (x := V.ref t1) (y := V.ref t2) b20 b21
      have nt13 : t1 ≠ t3 := ne_of_none (Kp.new (M := Is F) ht2 |>.k _ _ upd_same (f6.nn ht1)) ht3
      have nt23 : t2 ≠ t3 := ne_of_none upd_same ht3
      have nt12 : t1 ≠ t2 := ne_of_none upd_same ht2
      refine ⟨t3, _, _, z, rfl, rfl, SqL.of (k8.k _ _ upd_same (f8.nn ht3)), hz, ?_⟩
      refine q .leaf z _ ?_ (by show 1 ≤ n + 1; omega) (k7.trans k8) f10
      rcases hz2 with e | e
      · rw [e]
        exact ⟨t1, "cell", .str x, rfl, k8.t _ _ (by rw [upd_ne nt13, upd_ne nt12, upd_same]), by decide +kernel⟩
      · rw [e]
        exact ⟨t2, "num", num, rfl, k8.t _ _ (by rw [upd_ne nt23, upd_same]), by decide +kernel⟩
    -- one, sign, first, other
    refine ⟨_, rfl, _, rfl, _, _, rfl, rfl, F, r - 2, rfl, f1, by omega, by omega, fun d2 H2 d20 d21 f2 k2 => ⟨_, _, rfl, rfl, ?_⟩⟩
    refine ⟨_, rfl, F, 5, rfl, f2, by decide, by decide, fun d3 H3 d30 d31 f3 k3 => ?_⟩
    have sgn : ∃ c, atI ("+-*<=" : Str).cps.toList d3 = some c := by
      have h5 : ("+-*<=" : Str).cps.toList.length = 5 := by decide +kernel
      exact ⟨_, at_nat (j := d3.toNat) (by omega) (List.getElem?_eq_getElem (by rw [h5]; omega))⟩
    obtain ⟨c, hc⟩ := sgn
    refine ⟨_, _, c, rfl, rfl, (by show ("+-*<=" : Str).length ≤ sizeLine; decide +kernel), hc, ?_⟩
    have k13 := (k1.trans k2).trans k3
    refine ⟨_, rfl, _, rfl, _, rfl, F, cl, 1 + d2, cs, rfl, f3, k13.k _ _ hC nCF, hc1, hc2, by omega, by omega, by omega, fun t1 v1 H4 t1a t1d k4 f4 => ?_⟩
    refine ⟨_, rfl, _, rfl, _, rfl, _, rfl, _, rfl, _, _, rfl, rfl, _, rfl, _, _, rfl, rfl, F, cl, r - 1 - (1 + d2), cs, rfl, f4, (k13.trans k4).k _ _ hC nCF, hc1, hc2, by omega, by omega, by omega, fun t2 v2 H5 t2a t2d k5 f5 => ?_⟩
    refine ⟨(by show 4 ≤ sizeLine; decide), fun p hp => ?_⟩
    refine q (.op t1 t2) (.ref p) _ ⟨p, _, v1, v2, rfl, upd_same, (t1a.tl (k5.t)).tl (Kp.new (M := Is F) hp).t, t2a.tl (Kp.new (M := Is F) hp).t⟩ ?_ (up_new ((k13.trans k4).trans k5) hp) (f5.upd (f5.nn hp).symm)
    show 1 + max t1.dp t2.dp ≤ n + 1
    omega
theorem ok_term (T : Bi mg) (a : At K mg "_law_term" sLTerm pLTerm) (cLDraw : Cal P w K mg base CX0 "_law_draw" 1 pLDraw spD) : ∀ n : Nat, Cal P w K mg base CX0 "_law_term" (n + 1) pLTerm (spTerm n)
  | 0 => Cal.none a fun vs H Q E h => by
    obtain ⟨F, cl, r, cs, _, _, _, _, _, h1, h2, _⟩ := h
    omega
  | n + 1 => ok_term_step T a cLDraw (ok_term T a cLDraw n)
end
end K36
namespace K36
open PySem PySem.Spec PyProof.Rows L2
/-! ### rooms, readings, sures, small statements -/
section
variable {P : Program} {w : World} {K : PySem.W.Frag} {mg : Str → Option Value} {base : Heap}
-- _law_room (printed by gen.py); slots: 0 _law_flow_here, 1 _law_world, 2 _law_form
abbrev nLRoom : List Str := ["_law_flow_here", "_law_world", "_law_form"]
abbrev pLRoom : List Str := ["_law_flow_here", "_law_world"]
theorem scLRoom : FnScope nLRoom pLRoom (defScope sLRoom) := ⟨rfl, rfl, rfl, by decide +kernel, rfl, by decide +kernel, by decide +kernel⟩
def spRoom : Sp := fun vs H Q _ => ∃ (u : Wd), vs = [.ref u.F, .ref u.W] ∧ WAt u H ∧ ∀ (r : Int) (H' : Hp), 3 ≤ r → r ≤ 11 → WAt u H' → Kp (M2 u) H H' → Q (.int r) H'
theorem at2r {i : Int} {x y : Int} (h0 : 0 ≤ i) (h1 : i < 2) : ∃ z, atI [V.int x, V.int y] i = some (.int z) ∧ (z = x ∨ z = y) := by
  rcases (show i = 0 ∨ i = 1 by omega) with e | e
  · exact ⟨x, by rw [e]; rfl, .inl rfl⟩
  · exact ⟨y, by rw [e]; rfl, .inr rfl⟩
theorem ok_room (T : Bi mg) (a : At K mg "_law_room" sLRoom pLRoom) (cLDraw : Cal P w K mg base CX0 "_law_draw" 1 pLDraw spD) : Cal P w K mg base CX0 "_law_room" 2 pLRoom spRoom := by
  refine Cal.of a scLRoom (fun vs H Q E h => ?_) (fun f cdv A outer s H vs Q E hr h => ?_)
  · obtain ⟨u, rfl, _⟩ := h
    rfl
  · obtain ⟨u, rfl, wa, q⟩ := h
    refine ⟨_, (pss_cons (ps_set (i := 2) scLRoom.nd rfl (.inl rfl) (pe_c cLDraw hr pass0 (pa_cons (pv 0) (pa_cons pe_int pa_nil)))) -- _law_form = _law_draw(_law_flow_here, 8)
      (pss_cons (ps_if (PW.pt (pw_and (pt_cmpR op_lt (pv 2) pe_int (nomark _)) (pw_and1 (pt_cmpR op_gt (pe_dget (hu_of hr) (pv 1) pe_str (fun _ _ => rfl)) pe_int (nomark _)))))
        (pss_cons (ps_dput (hu_of hr) (pv 1) pe_str (pe_op op_sub (pe_dget (hu_of hr) (pv 1) pe_str (fun _ _ => rfl)) pe_int) rfl) -- _law_world['heavy'] = _law_world['heavy'] - 1
        (pss_one (ps_ret (pe_ix ix_list (pe_lst (pa_cons pe_int (pa_cons pe_int pa_nil))) (pv 2) (fun _ _ => rfl)))))
        pss_nil) -- if _law_form < 2 and _law_world['heavy'] > 0:
      (pss_one (ps_ret (pe_ix ix_list (pe_lst (pa_cons pe_int (pa_cons pe_int pa_nil))) (pe_callTy call_int1 (by rfl) T.int bo_int (pa_cons (pe_cmpR op_eq (pv 2) pe_int (nomark _)) pa_nil)) (fun _ _ => rfl)))))), ?_⟩
    refine ⟨_, rfl, u.F, 8, rfl, wa.fl, by decide, by decide, fun d H1 d0 d1 f1 k1 => ?_⟩
    have w1 := wa.draw k1 f1
    have k1' : Kp (M2 u) H H1 := k1.mono fun b e => .inl e
    obtain ⟨kvs, hW, dW⟩ := w1.dct
    obtain ⟨hv, hhv⟩ := dW.heavy
    have tail : Kp (M2 u) H H1 → ∀ p, H1 p = none → WAt u (upd H1 p (.lst [.int 3, .int 5])) ∧ Kp (M2 u) H (upd H1 p (.lst [.int 3, .int 5])) := fun _ p hp => ⟨w1.same (same_new hp), up_new k1' hp⟩
    refine ⟨_, rfl, _, _, rfl, rfl, _, rfl, ?_⟩
    refine ite2 (fun e1 => ?_) (fun e1 => ?_)
    · have e1' : d < 2 := of_decide_eq_true e1
      refine ⟨_, rfl, u.W, _, rfl, dget_s hW hhv, _, _, rfl, rfl, _, rfl, ?_⟩
      refine ite2 (fun e2 => ?_) (fun e2 => ?_)
      · refine ⟨_, rfl, u.W, _, rfl, dget_s hW hhv, _, _, rfl, rfl, _, rfl, u.W, _, rfl, DPut.k (k := Sum.inr "heavy") hW (szt (by have := dW.len; omega)), ?_⟩
        obtain ⟨w2, k2⟩ := w1.put (dW.putHeavy (hv - 1))
        refine ⟨(by show 2 ≤ sizeLine; decide), fun p hp => ⟨_, rfl, ?_⟩⟩
        obtain ⟨z, hz, hz2⟩ := at2r (x := 9) (y := 11) d0 e1'
        refine ⟨p, _, _, _, rfl, rfl, SqL.of upd_same, hz, ?_⟩
        exact q z _ (by omega) (by omega) (w2.same (same_new hp)) (up_new (k1'.trans (k2.mono fun b e => .inr e)) hp)
      · refine ⟨(by show 2 ≤ sizeLine; decide), fun p hp => ⟨_, rfl, rfl, .inr ⟨_, rfl, ?_⟩⟩⟩
        obtain ⟨w2, k2⟩ := tail k1' p hp
        refine ⟨p, _, _, _, rfl, rfl, SqL.of upd_same, at2, ?_⟩
        have go : ∀ k : Bool, Q (if k = true then V.int 5 else V.int 3) (upd H1 p (.lst [.int 3, .int 5])) := fun k => by
          cases k
          · exact q 3 _ (by decide) (by decide) w2 k2
          · exact q 5 _ (by decide) (by decide) w2 k2
        exact go _
    · refine ⟨(by show 2 ≤ sizeLine; decide), fun p hp => ⟨_, rfl, rfl, .inr ⟨_, rfl, ?_⟩⟩⟩
      obtain ⟨w2, k2⟩ := tail k1' p hp
      refine ⟨p, _, _, _, rfl, rfl, SqL.of upd_same, at2, ?_⟩
      have go : ∀ k : Bool, Q (if k = true then V.int 5 else V.int 3) (upd H1 p (.lst [.int 3, .int 5])) := fun k => by
        cases k
        · exact q 3 _ (by decide) (by decide) w2 k2
        · exact q 5 _ (by decide) (by decide) w2 k2
      exact go _
/-- what a drawn statement's def promises -/
def spSm : Sp := fun vs H Q _ => ∃ (u : Wd) (D : Addr), vs = [.ref u.F, .ref u.W, .ref D] ∧ WAt u H ∧ FrAt u D H ∧
  ∀ (p : Addr) (v : V) (H' : Hp), WAt u H' → FrAt u D H' → Kp (M3 u D) H H' → H p = none → H' p = some (.lst [v]) → PlOk u.cs H' v → Q (.ref p) H'
theorem Kp.to3 {u : Wd} {D : Addr} {H H' : Hp} (x : Kp (Is u.F) H H') : Kp (M3 u D) H H' := x.mono fun b e => .inl e
theorem Kp.w3 {u : Wd} {D : Addr} {H H' : Hp} (x : Kp (Is u.W) H H') : Kp (M3 u D) H H' := x.mono fun b e => .inr (.inl e)
theorem Kp.d3 {u : Wd} {D : Addr} {H H' : Hp} (x : Kp (Is D) H H') : Kp (M3 u D) H H' := x.mono fun b e => .inr (.inr e)
theorem Kp.m3 {u : Wd} {D : Addr} {H H' : Hp} (x : Kp (M2 u) H H') : Kp (M3 u D) H H' := x.mono fun b e => e.elim .inl fun z => .inr (.inl z)
-- _law_read (printed by gen.py); slots: 0 _law_flow_here, 1 _law_world, 2 _law_fresh, 3 _law_x
abbrev nLRead : List Str := ["_law_flow_here", "_law_world", "_law_fresh", "_law_x"]
abbrev pLRead : List Str := ["_law_flow_here", "_law_world", "_law_fresh"]
theorem scLRead : FnScope nLRead pLRead (defScope sLRead) := ⟨rfl, rfl, rfl, by decide +kernel, rfl, by decide +kernel, by decide +kernel⟩
theorem ok_read (T : Bi mg) (a : At K mg "_law_read" sLRead pLRead) (cLDraw : Cal P w K mg base CX0 "_law_draw" 1 pLDraw spD) : Cal P w K mg base CX0 "_law_read" 2 pLRead spSm := by
  refine Cal.of a scLRead (fun vs H Q E h => ?_) (fun f cdv A outer s H vs Q E hr h => ?_)
  · obtain ⟨u, D, rfl, _⟩ := h
    rfl
  · obtain ⟨u, D, rfl, wa, fr, q⟩ := h
    refine ⟨_, (pss_cons (ps_set (i := 3) scLRead.nd rfl (.inl rfl) (pe_ix ix_list (pe_dget (hu_of hr) (pv 1) pe_str (fun _ _ => rfl)) (pe_c cLDraw hr pass0 (pa_cons (pv 0) (pa_cons (pe_callB call_len_seq (by rfl) T.len bo_len (pa_cons (pe_dget (hu_of hr) (pv 1) pe_str (fun _ _ => rfl)) pa_nil)) pa_nil))) (fun _ _ => rfl))) -- _law_x = _law_world['cells'][_law_draw(_law_flow_here, len(_law_world['cells']))]
      (pss_cons (ps_dput (hu_of hr) (pv 2) (pv 3) pe_bl rfl) -- _law_fresh[_law_x] = True
      (pss_one (ps_ret (pe_lst (pa_cons (pe_tup (pa_cons pe_str (pa_cons (pv 3) (pa_cons (pe_ix ix_list (pe_dget (hu_of hr) (pv 1) pe_str (fun _ _ => rfl)) (pe_c cLDraw hr pass0 (pa_cons (pv 0) (pa_cons (pe_callB call_len_seq (by rfl) T.len bo_len (pa_cons (pe_dget (hu_of hr) (pv 1) pe_str (fun _ _ => rfl)) pa_nil)) pa_nil))) (fun _ _ => rfl)) pa_nil)))) pa_nil)))))), ?_⟩
    obtain ⟨kvs, hW, dW⟩ := wa.dct
    have lc : (u.cs.map V.str).length = u.cs.length := List.length_map _
    have lg : (u.gs.map V.str).length = u.gs.length := List.length_map _
    refine ⟨_, rfl, u.W, _, rfl, dget_s hW dW.cells, _, rfl, _, rfl, u.W, _, rfl, dget_s hW dW.cells, u.cl, _, rfl, .inl (SqL.of wa.cl), u.F, _, rfl, wa.fl, by rw [lc]; have := wa.cn2; omega, by rw [lc]; have := wa.cn2; omega, fun d H1 d0 d1 f1 k1 => ?_⟩
    rw [lc] at d1
    have w1 := wa.draw k1 f1
    obtain ⟨x, hx, hx2⟩ := str_at (xs := u.cs) d0 d1
    refine ⟨u.cl, _, _, _, rfl, rfl, SqL.of w1.cl, hx2, ?_⟩
    -- fresh[x] = True
    obtain ⟨fk, fs, hD, e1, e2, e3, e4, e5⟩ := (fr.draw wa k1).sz w1
    refine ⟨_, rfl, _, rfl, D, _, rfl, DPut.k (k := Sum.inr x) hD (szt (by omega)), ?_⟩
    have put : ∃ ks : List Str, (putK fk (Sum.inr x) (V.bl true)).map (·.1) = ks.map Sum.inr ∧ ks.Nodup ∧ ∀ y ∈ ks, y ∈ u.cs := by
      by_cases h : (valV fk (Sum.inr x)).isSome = true
      · exact ⟨fs, by rw [put_keys, if_pos h, e1], e2, e3⟩
      · refine ⟨fs ++ [x], by rw [put_keys, if_neg h, e1, List.map_append]; rfl, ?_, fun y hy => ?_⟩
        · rw [List.nodup_append]
          refine ⟨e2, by simp, fun y hy z hz e => ?_⟩
          rw [List.mem_singleton.mp hz] at e
          rw [e] at hy
          exact h (has_mem.mpr (by rw [e1]; exact List.mem_map.mpr ⟨x, hy, rfl⟩))
        · rcases List.mem_append.mp hy with z | z
          · exact e3 y z
          · rw [List.mem_singleton.mp z]
            exact hx
    obtain ⟨ks, p1, p2, p3⟩ := put
    obtain ⟨fr2, w2, k2⟩ := (fr.draw wa k1).put w1 p1 p2 p3
    obtain ⟨kvs2, hW2, dW2⟩ := w2.dct
    refine ⟨_, rfl, _, rfl, u.W, _, rfl, dget_s hW2 dW2.gauges, _, rfl, _, rfl, u.W, _, rfl, dget_s hW2 dW2.gauges, u.gl, _, rfl, .inl (SqL.of w2.gl), u.F, _, rfl, w2.fl, by rw [lg]; have := w2.gln; omega, by rw [lg]; have := w2.gln; omega, fun g H3 g0 g1 f3 k3 => ?_⟩
    rw [lg] at g1
    have w3 := w2.draw k3 f3
    have fr3 := fr2.draw w2 k3
    obtain ⟨y, hy, hy2⟩ := str_at (xs := u.gs) g0 g1
    refine ⟨u.gl, _, _, _, rfl, rfl, SqL.of w3.gl, hy2, (by show 3 ≤ sizeLine; decide), fun t ht => ⟨(by show 1 ≤ sizeLine; decide), fun p hp => ?_⟩⟩
    have s1 := same_new (o := .tup [.str "read", .str x, .str y]) ht
    have s2 := same_new (o := .lst [.ref t]) hp
    have ntp : t ≠ p := ne_of_none upd_same hp
    have kk : Kp (M3 u D) H H3 := (k1.to3.trans k2.d3).trans k3.to3
    refine q p (.ref t) _ ((w3.same s1).same s2) ((fr3.same s1).same s2) (up_new (up_new kk ht) hp) ((up_new kk ht).free hp) upd_same ⟨.read x, (fun z => nomatch z), ⟨t, _, rfl, by rw [upd_ne ntp, upd_same], ⟨_, rfl⟩⟩, trivial, fun z hz => absurd hz List.not_mem_nil⟩
-- _law_sure (printed by gen.py); slots: 0 _law_flow_here, 1 _law_world, 2 _law_fresh, 3 _law_some, 4 _law_at, 5 _law_many, 6 _law_age
abbrev nLSure : List Str := ["_law_flow_here", "_law_world", "_law_fresh", "_law_some", "_law_at", "_law_many", "_law_age"]
abbrev pLSure : List Str := ["_law_flow_here", "_law_world", "_law_fresh"]
theorem scLSure : FnScope nLSure pLSure (defScope sLSure) := ⟨rfl, rfl, rfl, by decide +kernel, rfl, by decide +kernel, by decide +kernel⟩
theorem ok_sure (T : Bi mg) (a : At K mg "_law_sure" sLSure pLSure) (cLDraw : Cal P w K mg base CX0 "_law_draw" 1 pLDraw spD) (cLRead : Cal P w K mg base CX0 "_law_read" 2 pLRead spSm) : Cal P w K mg base CX0 "_law_sure" 3 pLSure spSm := by
  refine Cal.of a scLSure (fun vs H Q E h => ?_) (fun f cdv A outer s H vs Q E hr h => ?_)
  · obtain ⟨u, D, rfl, _⟩ := h
    rfl
  · obtain ⟨u, D, rfl, wa, fr, q⟩ := h
    refine ⟨_, (pss_cons (ps_set (i := 3) scLSure.nd rfl (.inl rfl) (pe_callB (call_sortedD rfl) (by rfl) T.sorted bo_sorted (pa_cons (pv 2) pa_nil))) -- _law_some = sorted(_law_fresh)
      (pss_cons (ps_if (pt_cmpR op_eq (pe_callB call_len_seq (by rfl) T.len bo_len (pa_cons (pv 3) pa_nil)) pe_int (nomark _))
        (pss_one (ps_ret (pe_c cLRead hr pass0 (pa_cons (pv 0) (pa_cons (pv 1) (pa_cons (pv 2) pa_nil))))))
        pss_nil) -- if len(_law_some) == 0:
      (pss_cons (ps_par (i := 4) (j := 5) rfl scLSure.nd rfl rfl (by decide) rfl rfl (pa_cons (pe_c cLDraw hr pass0 (pa_cons (pv 0) (pa_cons (pe_callB call_len_seq (by rfl) T.len bo_len (pa_cons (pv 3) pa_nil)) pa_nil))) (pa_cons (pe_op op_add pe_int (pe_c cLDraw hr pass0 (pa_cons (pv 0) (pa_cons (pe_callB (call_min2 rfl) (by rfl) T.min bo_min (pa_cons pe_int (pa_cons (pe_callB call_len_seq (by rfl) T.len bo_len (pa_cons (pv 3) pa_nil)) pa_nil))) pa_nil)))) pa_nil)) (by rfl)) -- _law_at, _law_many = (_law_draw(_law_flow_here, len(_law_some)), 1 + _law_draw(_law_flow_here, min(4, len(_law
      (pss_cons (ps_set (i := 6) scLSure.nd rfl (.inl rfl) (pe_op op_add (pe_dget (hu_of hr) (pv 1) pe_str (fun _ _ => rfl)) (pe_op op_mul (pe_c cLDraw hr pass0 (pa_cons (pv 0) (pa_cons (pe_op op_sub pe_int (pe_dget (hu_of hr) (pv 1) pe_str (fun _ _ => rfl))) pa_nil))) (pe_c cLDraw hr pass0 (pa_cons (pv 0) (pa_cons pe_int pa_nil)))))) -- _law_age = _law_world['age'] + _law_draw(_law_flow_here, 201 - _law_world['age']) * _law_draw(_law_flow_here, 
      (pss_one (ps_ret (pe_lst (pa_cons (pe_tup (pa_cons pe_str (pa_cons (pe_callTy call_tuple_of (by rfl) T.tuple bo_tuple (pa_cons (pe_slice sl_list (pe_op op_cat (pe_slice sl_list (pv 3) (po_some (pv 4)) po_none) (pe_slice sl_list (pv 3) po_none (po_some (pv 4)))) po_none (po_some (pv 5))) pa_nil)) (pa_cons (pv 6) pa_nil)))) pa_nil)))))))), ?_⟩
    obtain ⟨fk, fs, hD, e1, e2, e3, e4, e5⟩ := fr.sz wa
    refine ⟨_, rfl, D, fk, fs, rfl, .inl hD, e1, by omega, fun ys l perm _ hl => ?_⟩
    have hys : ∀ y ∈ ys, y ∈ u.cs := fun y hy => e3 y (perm.mem_iff.mp hy)
    have lys : ys.length ≤ 5 := by rw [perm.length_eq]; exact e4
    have ly : (ys.map V.str).length = ys.length := List.length_map _
    have s1 := same_new (o := .lst (ys.map V.str)) hl
    have w1 := wa.same s1
    have fr1 := fr.same s1
    have hL : (upd H l (.lst (ys.map V.str))) l = some (.lst (ys.map V.str)) := upd_same
    refine ⟨_, rfl, l, _, rfl, .inl (SqL.of hL), rfl, _, rfl, ?_⟩
    refine ite2 (fun c => ?_) (fun c => ?_)
    · refine ⟨_, rfl, _, rfl, _, rfl, u, D, rfl, w1, fr1, fun p v H' h1 h2 h3 h4 h5 h6 => ?_⟩
      exact q p v H' h1 h2 ((Kp.new hl).trans h3) ((Kp.new (M := M3 u D) hl).free h4) h5 h6
    · have y0 : ys.length ≠ 0 := fun z => c (decide_eq_true (by rw [ly, z]; rfl))
      have nlF : l ≠ u.F := wa.fl.nn hl
      refine ⟨_, rfl, _, rfl, l, _, rfl, .inl (SqL.of hL), u.F, _, rfl, w1.fl, by rw [ly]; omega, by rw [ly]; omega, fun t H1 t0 t1 f1 k1 => ?_⟩
      rw [ly] at t1
      have w2 := w1.draw k1 f1
      have fr2 := fr1.draw w1 k1
      have hL1 := k1.k _ _ hL nlF
      refine ⟨_, rfl, _, rfl, l, _, rfl, .inl (SqL.of hL1), _, _, rfl, u.F, _, rfl, w2.fl, (by rw [ly]; split <;> omega), (by rw [ly]; split <;> omega), fun m H2 m0 m1 f2 k2 => ⟨_, _, rfl, rfl, _, _, rfl, ?_⟩⟩
      have w3 := w2.draw k2 f2
      have fr3 := fr2.draw w2 k2
      have hL2 := k2.k _ _ hL1 nlF
      obtain ⟨kvs, hW, dW⟩ := w3.dct
      refine ⟨_, rfl, u.W, _, rfl, dget_s hW dW.age, _, rfl, _, rfl, u.W, _, rfl, dget_s hW dW.age, _, _, rfl, rfl, u.F, _, rfl, w3.fl, by decide, by decide, fun g H3 g0 g1 f3 k3 => ?_⟩
      have w4 := w3.draw k3 f3
      have fr4 := fr3.draw w3 k3
      refine ⟨_, rfl, u.F, 2, rfl, w4.fl, by decide, by decide, fun g' H4 g'0 g'1 f4 k4 => ⟨_, _, rfl, rfl, .inr (by constructor <;> omega), _, _, rfl, rfl, ?_⟩⟩
      have w5 := w4.draw k4 f4
      have fr5 := fr4.draw w4 k4
      have hL4 := k4.k _ _ (k3.k _ _ hL2 nlF) nlF
      have kk : Kp (M3 u D) H H4 := ((((Kp.new hl).trans k1.to3).trans k2.to3).trans k3.to3).trans k4.to3
      -- the slices
      refine ⟨_, rfl, _, rfl, _, rfl, l, _, rfl, SqL.of hL4, fun p1 hp1 => ?_⟩
      have s6 := same_new (o := .lst (cutV (ys.map V.str) (some t) none)) hp1
      refine ⟨_, rfl, _, rfl, _, rfl, l, _, rfl, SqL.of (s6 _ _ hL4), fun p2 hp2 => ?_⟩
      have s7 := same_new (o := .lst (cutV (ys.map V.str) none (some t))) hp2
      have cl1 : ∀ lo hi, (cutV (ys.map V.str) lo hi).length ≤ 5 := fun lo hi => by
        unfold cutV
        rw [List.length_take, List.length_drop, ly]
        omega
      refine ⟨p1, p2, _, _, rfl, rfl, s7 _ _ upd_same, upd_same, (by have := cl1 (some t) none; have := cl1 none (some t); exact szl (by omega)), fun p3 hp3 => ?_⟩
      have s8 := same_new (o := .lst (cutV (ys.map V.str) (some t) none ++ cutV (ys.map V.str) none (some t))) hp3
      refine ⟨_, rfl, _, rfl, p3, _, rfl, SqL.of upd_same, fun p4 hp4 => ?_⟩
      generalize hz : cutV (cutV (ys.map V.str) (some t) none ++ cutV (ys.map V.str) none (some t)) none (some (1 + m)) = zs at hp4 ⊢
      have s9 := same_new (o := .lst zs) hp4
      have zmem : ∀ v ∈ zs, v ∈ ys.map V.str := fun v hv => by
        rw [← hz] at hv
        have h1 := List.mem_of_mem_drop (List.mem_of_mem_take hv)
        rcases List.mem_append.mp h1 with z | z
        · exact List.mem_of_mem_drop (List.mem_of_mem_take z)
        · exact List.mem_of_mem_drop (List.mem_of_mem_take z)
      have zl : zs.length ≤ 10 := by
        rw [← hz]
        refine Nat.le_trans (cutV_length _ _ _) ?_
        rw [List.length_append]
        have c1 := cl1 (some t) none
        have c2 := cl1 none (some t)
        omega
      have zmap : ∃ ns : List Str, zs = ns.map V.str ∧ ∀ x ∈ ns, x ∈ u.cs := by
        clear hz s9 hp4 zl
        induction zs with
        | nil => exact ⟨[], rfl, fun x h => absurd h List.not_mem_nil⟩
        | cons v vs ih =>
          obtain ⟨ns, en, hn⟩ := ih fun x hx => zmem x (List.mem_cons_of_mem _ hx)
          obtain ⟨x, hx, ex⟩ := List.mem_map.mp (zmem v List.mem_cons_self)
          refine ⟨x :: ns, by rw [List.map_cons, ex, en], fun y hy => ?_⟩
          rcases List.mem_cons.mp hy with e | e
          · rw [e]
            exact hys x hx
          · exact hn y e
      obtain ⟨ns, en, hn⟩ := zmap
      subst en
      refine ⟨p4, _, rfl, .inl ⟨SqL.of upd_same, fun p5 hp5 => ?_⟩⟩
      have s10 := same_new (o := .tup (ns.map V.str)) hp5
      refine ⟨_, rfl, (by show 3 ≤ sizeLine; decide), fun p6 hp6 => ⟨(by show 1 ≤ sizeLine; decide), fun p7 hp7 => ?_⟩⟩
      have s11 := same_new (o := .tup [.str "sure", .ref p5, .int (170 + g * g')]) hp6
      have s12 := same_new (o := .lst [.ref p6]) hp7
      have all := (((((s6.trans s7).trans s8).trans s9).trans s10).trans s11).trans s12
      have n67 : p6 ≠ p7 := ne_of_none upd_same hp7
      refine q p7 (.ref p6) _ (w5.same all) (fr5.same all) (kk.trans (Kp.same all)) ?_ upd_same ⟨.sure ns, (fun z => nomatch z), ⟨p6, _, rfl, by rw [upd_ne n67, upd_same], ⟨p5, _, rfl, ?_⟩⟩, (by rw [List.length_map] at zl; exact zl), hn⟩
      · exact (kk.trans (Kp.same (((((s6.trans s7).trans s8).trans s9).trans s10).trans s11))).free hp7
      · exact (s11.trans s12) _ _ upd_same
end
end K36
namespace K36
open PySem PySem.Spec PyProof.Rows L2
section
variable {P : Program} {w : World} {K : PySem.W.Frag} {mg : Str → Option Value} {base : Heap}
-- _law_small (printed by gen.py); slots: 0 _law_flow_here, 1 _law_world, 2 _law_fresh, 3 _law_way, 4 _law_x
abbrev nLSmall : List Str := ["_law_flow_here", "_law_world", "_law_fresh", "_law_way", "_law_x"]
abbrev pLSmall : List Str := ["_law_flow_here", "_law_world", "_law_fresh"]
theorem scLSmall : FnScope nLSmall pLSmall (defScope sLSmall) := ⟨rfl, rfl, rfl, by decide +kernel, rfl, by decide +kernel, by decide +kernel⟩
theorem drop_keys {kvs : List (Key × V)} {ks : List Str} {x : Str} (h : kvs.map (·.1) = ks.map Sum.inr) : (dropK kvs (Sum.inr x)).map (·.1) = (ks.filter fun y => decide (y ≠ x)).map Sum.inr := by
  unfold dropK
  induction kvs generalizing ks with
  | nil =>
    cases ks with
    | nil => rfl
    | cons y ys => cases h
  | cons p r ih =>
    cases ks with
    | nil => cases h
    | cons y ys =>
      rw [List.map_cons, List.map_cons] at h
      obtain ⟨h1, h2⟩ := List.cons.inj h
      have ih' := ih h2
      have e1 : p.1 = Sum.inr y := h1
      by_cases e : y = x
      · rw [List.filter_cons, if_neg (by rw [e1, e]; simp), List.filter_cons, if_neg (by rw [e]; simp)]
        exact ih'
      · rw [List.filter_cons, if_pos (by rw [e1]; simp [e]), List.filter_cons, if_pos (by simp [e]), List.map_cons, List.map_cons, ih', e1]
theorem FrAt.drop {u : Wd} {D : Addr} {H : Hp} {kvs : List (Key × V)} {ks : List Str} {x : Str} (fr : FrAt u D H) (wa : WAt u H) (h1 : kvs.map (·.1) = ks.map Sum.inr) (h2 : ks.Nodup) (h3 : ∀ y ∈ ks, y ∈ u.cs) :
    FrAt u D (upd H D (.dK (dropK kvs (Sum.inr x)))) ∧ WAt u (upd H D (.dK (dropK kvs (Sum.inr x)))) ∧ Kp (Is D) H (upd H D (.dK (dropK kvs (Sum.inr x)))) :=
  fr.put wa (drop_keys h1) (h2.filter _) fun y hy => h3 y (List.mem_filter.mp hy).1
theorem ok_small (T : Bi mg) (a : At K mg "_law_small" sLSmall pLSmall) (cLDraw : Cal P w K mg base CX0 "_law_draw" 1 pLDraw spD) (cLRead : Cal P w K mg base CX0 "_law_read" 2 pLRead spSm) (cLSure : Cal P w K mg base CX0 "_law_sure" 3 pLSure spSm)
    (cLRoom : Cal P w K mg base CX0 "_law_room" 2 pLRoom spRoom) (cLTerm : Cal P w K mg base CX0 "_law_term" 7 pLTerm (spTerm 6)) : Cal P w K mg base CX0 "_law_small" 8 pLSmall spSm := by
  refine Cal.of a scLSmall (fun vs H Q E h => ?_) (fun f cdv A outer s H vs Q E hr h => ?_)
  · obtain ⟨u, D, rfl, _⟩ := h
    rfl
  · obtain ⟨u, D, rfl, wa, fr, q⟩ := h
    refine ⟨_, (pss_cons (ps_set (i := 3) scLSmall.nd rfl (.inl rfl) (pe_c cLDraw hr pass0 (pa_cons (pv 0) (pa_cons pe_int pa_nil)))) -- _law_way = _law_draw(_law_flow_here, 9)
      (pss_cons (ps_dput (hu_of hr) (pv 1) pe_str (pe_op op_sub (pe_dget (hu_of hr) (pv 1) pe_str (fun _ _ => rfl)) pe_int) rfl) -- _law_world['left'] = _law_world['left'] - 1
      (pss_cons (ps_if (pt_cmpR op_lt (pv 3) pe_int (nomark _))
        (pss_cons (ps_set (i := 4) scLSmall.nd rfl (.inl rfl) (pe_ix ix_list (pe_dget (hu_of hr) (pv 1) pe_str (fun _ _ => rfl)) (pe_c cLDraw hr pass0 (pa_cons (pv 0) (pa_cons (pe_callB call_len_seq (by rfl) T.len bo_len (pa_cons (pe_dget (hu_of hr) (pv 1) pe_str (fun _ _ => rfl)) pa_nil)) pa_nil))) (fun _ _ => rfl))) -- _law_x = _law_world['cells'][_law_draw(_law_flow_here, len(_law_world['cells']))]
        (pss_cons (ps_expr (pe_dpop2 (pv 2) (pv 4) pe_non ⟨rfl, rfl, rfl, rfl⟩)) -- _law_fresh.pop(_law_x, None)
        (pss_one (ps_ret (pe_lst (pa_cons (pe_tup (pa_cons pe_str (pa_cons (pv 4) (pa_cons (pe_c cLTerm hr pass0 (pa_cons (pv 0) (pa_cons (pe_dget (hu_of hr) (pv 1) pe_str (fun _ _ => rfl)) (pa_cons (pe_c cLRoom hr pass0 (pa_cons (pv 0) (pa_cons (pv 1) pa_nil))) pa_nil)))) pa_nil)))) pa_nil))))))
        pss_nil) -- if _law_way < 2:
      (pss_cons (ps_if (pt_cmpR op_lt (pv 3) pe_int (nomark _))
        (pss_one (ps_ret (pe_lst (pa_cons (pe_tup (pa_cons pe_str (pa_cons (pe_c cLTerm hr pass0 (pa_cons (pv 0) (pa_cons (pe_dget (hu_of hr) (pv 1) pe_str (fun _ _ => rfl)) (pa_cons (pe_c cLRoom hr pass0 (pa_cons (pv 0) (pa_cons (pv 1) pa_nil))) pa_nil)))) pa_nil))) pa_nil))))
        pss_nil) -- if _law_way < 4:
      (pss_cons (ps_if (pt_cmpR op_lt (pv 3) pe_int (nomark _))
        (pss_one (ps_ret (pe_c cLRead hr pass0 (pa_cons (pv 0) (pa_cons (pv 1) (pa_cons (pv 2) pa_nil))))))
        pss_nil) -- if _law_way < 6:
      (pss_one (ps_ret (pe_c cLSure hr pass0 (pa_cons (pv 0) (pa_cons (pv 1) (pa_cons (pv 2) pa_nil))))))))))), ?_⟩
    have lc : (u.cs.map V.str).length = u.cs.length := List.length_map _
    refine ⟨_, rfl, u.F, 9, rfl, wa.fl, by decide, by decide, fun d H1 d0 d1 f1 k1 => ?_⟩
    have w1 := wa.draw k1 f1
    have fr1 := fr.draw wa k1
    -- world['left'] = world['left'] - 1
    obtain ⟨kvs, hW, dW⟩ := w1.dct
    obtain ⟨lf, hlf⟩ := dW.left
    refine ⟨_, rfl, u.W, _, rfl, dget_s hW hlf, _, _, rfl, rfl, _, rfl, u.W, _, rfl, DPut.k (k := Sum.inr "left") hW (szt (by have := dW.len; omega)), ?_⟩
    obtain ⟨w2, k2⟩ := w1.put (dW.putLeft (lf - 1))
    have kk : Kp (M3 u D) H (upd H1 u.W (.dK (putK kvs (Sum.inr "left") (.int (lf - 1))))) := k1.to3.trans k2.w3
    have fr2 : FrAt u D (upd H1 u.W (.dK (putK kvs (Sum.inr "left") (.int (lf - 1))))) := fr1.step k2 fr1.nW
    generalize upd H1 u.W (.dK (putK kvs (Sum.inr "left") (.int (lf - 1)))) = H2 at w2 kk fr2 k2 ⊢
    refine ⟨_, rfl, _, _, rfl, rfl, _, rfl, ?_⟩
    refine ite2 (fun c1 => ?_) (fun c1 => ?_)
    · -- set
      obtain ⟨kvs2, hW2, dW2⟩ := w2.dct
      refine ⟨_, rfl, u.W, _, rfl, dget_s hW2 dW2.cells, _, rfl, _, rfl, u.W, _, rfl, dget_s hW2 dW2.cells, u.cl, _, rfl, .inl (SqL.of w2.cl), u.F, _, rfl, w2.fl, by rw [lc]; have := w2.cn2; omega, by rw [lc]; have := w2.cn2; omega, fun g H3 g0 g1 f3 k3 => ?_⟩
      rw [lc] at g1
      have w3 := w2.draw k3 f3
      have fr3 := fr2.draw w2 k3
      obtain ⟨x, hx, hx2⟩ := str_at (xs := u.cs) g0 g1
      refine ⟨u.cl, _, _, _, rfl, rfl, SqL.of w3.cl, hx2, ?_⟩
      obtain ⟨fk, fs, hD, e1, e2, e3, e4, e5⟩ := fr3.sz w3
      refine ⟨_, rfl, D, rfl, .inl ⟨fk, .inl hD⟩, _, rfl, fk, Sum.inr x, hD, rfl, fun v hv => ?_, fun hv => ?_⟩
      · obtain ⟨fr4, w4, k4⟩ := fr3.drop w3 (x := x) e1 e2 e3
        have kk4 : Kp (M3 u D) H (upd H3 D (.dK (dropK fk (Sum.inr x)))) := (kk.trans k3.to3).trans k4.d3
        generalize upd H3 D (.dK (dropK fk (Sum.inr x))) = H4 at fr4 w4 kk4 ⊢
        clear hD
        obtain ⟨kvs4, hW4, dW4⟩ := w4.dct
        refine ⟨_, rfl, _, rfl, _, rfl, u.W, _, rfl, dget_s hW4 dW4.cells, _, rfl, _, rfl, u, rfl, w4, fun r H5 r0 r1 w5 k5 => ?_⟩
        refine ⟨u.F, u.cl, r, u.cs, rfl, w5.fl, w5.cl, w5.cn2.1, Nat.le_trans w5.cn2.2 (by decide), by omega, by omega, by omega, fun t v H6 ta td k6 f6 => ?_⟩
        have w6 := w5.draw k6 f6
        have fr6 := (fr4.step2 w4 k5).draw w5 k6
        have kk6 : Kp (M3 u D) H H6 := (kk4.trans k5.m3).trans k6.to3
        refine ⟨(by show 3 ≤ sizeLine; decide), fun p hp => ⟨(by show 1 ≤ sizeLine; decide), fun p2 hp2 => ?_⟩⟩
        have s1 := same_new (o := .tup [.str "set", .str x, v]) hp
        have s2 := same_new (o := .lst [.ref p]) hp2
        have n12 : p ≠ p2 := ne_of_none upd_same hp2
        exact q p2 (.ref p) _ ((w6.same s1).same s2) ((fr6.same s1).same s2) (up_new (up_new kk6 hp) hp2) ((up_new kk6 hp).free hp2) upd_same ⟨.set x t, (fun z => nomatch z), ⟨p, _, rfl, by rw [upd_ne n12, upd_same], ⟨v, rfl, ta.tl (TL.of (s1.trans s2))⟩⟩, td, fun z hz => absurd hz List.not_mem_nil⟩
      · have fr4 := fr3
        have w4 := w3
        have kk4 : Kp (M3 u D) H H3 := kk.trans k3.to3
        generalize H3 = H4 at fr4 w4 kk4 ⊢
        obtain ⟨kvs4, hW4, dW4⟩ := w4.dct
        refine ⟨_, rfl, _, rfl, _, rfl, u.W, _, rfl, dget_s hW4 dW4.cells, _, rfl, _, rfl, u, rfl, w4, fun r H5 r0 r1 w5 k5 => ?_⟩
        refine ⟨u.F, u.cl, r, u.cs, rfl, w5.fl, w5.cl, w5.cn2.1, Nat.le_trans w5.cn2.2 (by decide), by omega, by omega, by omega, fun t v H6 ta td k6 f6 => ?_⟩
        have w6 := w5.draw k6 f6
        have fr6 := (fr4.step2 w4 k5).draw w5 k6
        have kk6 : Kp (M3 u D) H H6 := (kk4.trans k5.m3).trans k6.to3
        refine ⟨(by show 3 ≤ sizeLine; decide), fun p hp => ⟨(by show 1 ≤ sizeLine; decide), fun p2 hp2 => ?_⟩⟩
        have s1 := same_new (o := .tup [.str "set", .str x, v]) hp
        have s2 := same_new (o := .lst [.ref p]) hp2
        have n12 : p ≠ p2 := ne_of_none upd_same hp2
        exact q p2 (.ref p) _ ((w6.same s1).same s2) ((fr6.same s1).same s2) (up_new (up_new kk6 hp) hp2) ((up_new kk6 hp).free hp2) upd_same ⟨.set x t, (fun z => nomatch z), ⟨p, _, rfl, by rw [upd_ne n12, upd_same], ⟨v, rfl, ta.tl (TL.of (s1.trans s2))⟩⟩, td, fun z hz => absurd hz List.not_mem_nil⟩
    · refine ⟨_, rfl, _, _, rfl, rfl, _, rfl, ?_⟩
      refine ite2 (fun c2 => ?_) (fun c2 => ?_)
      · -- tell
        obtain ⟨kvs4, hW4, dW4⟩ := w2.dct
        refine ⟨_, rfl, _, rfl, u.W, _, rfl, dget_s hW4 dW4.cells, _, rfl, _, rfl, u, rfl, w2, fun r H5 r0 r1 w5 k5 => ?_⟩
        refine ⟨u.F, u.cl, r, u.cs, rfl, w5.fl, w5.cl, w5.cn2.1, Nat.le_trans w5.cn2.2 (by decide), by omega, by omega, by omega, fun t v H6 ta td k6 f6 => ?_⟩
        have w6 := w5.draw k6 f6
        have fr6 := (fr2.step2 w2 k5).draw w5 k6
        have kk6 : Kp (M3 u D) H H6 := (kk.trans k5.m3).trans k6.to3
        refine ⟨(by show 2 ≤ sizeLine; decide), fun p hp => ⟨(by show 1 ≤ sizeLine; decide), fun p2 hp2 => ?_⟩⟩
        have s1 := same_new (o := .tup [.str "tell", v]) hp
        have s2 := same_new (o := .lst [.ref p]) hp2
        have n12 : p ≠ p2 := ne_of_none upd_same hp2
        exact q p2 (.ref p) _ ((w6.same s1).same s2) ((fr6.same s1).same s2) (up_new (up_new kk6 hp) hp2) ((up_new kk6 hp).free hp2) upd_same ⟨.tell t, (fun z => nomatch z), ⟨p, _, rfl, by rw [upd_ne n12, upd_same], ⟨v, rfl, ta.tl (TL.of (s1.trans s2))⟩⟩, td, fun z hz => absurd hz List.not_mem_nil⟩
      · refine ⟨_, rfl, _, _, rfl, rfl, _, rfl, ?_⟩
        refine ite2 (fun c3 => ?_) (fun c3 => ?_)
        · exact ⟨_, rfl, _, rfl, _, rfl, u, D, rfl, w2, fr2, fun p v H' h1 h2 h3 h4 h5 h6 => q p v H' h1 h2 (kk.trans h3) (kk.free h4) h5 h6⟩
        · exact ⟨_, rfl, _, rfl, _, rfl, u, D, rfl, w2, fr2, fun p v H' h1 h2 h3 h4 h5 h6 => q p v H' h1 h2 (kk.trans h3) (kk.free h4) h5 h6⟩
end
end K36
namespace K36
open PySem PySem.Spec PyProof.Rows L2
/-! ### bodies by their depth: m = 2 - deep -/
def spBody (m : Nat) : Sp := fun vs H Q _ => ∃ (u : Wd) (D : Addr), vs = [.ref u.F, .ref u.W, .ref D, .int (2 - (m : Int))] ∧ m ≤ 2 ∧ WAt u H ∧ FrAt u D H ∧
  ∀ (p : Addr) (xs : List V) (H' : Hp), WAt u H' → FrAt u D H' → Kp (M3 u D) H H' → H p = none → H' p = some (.tup xs) → xs.length ≤ 16 → (∀ v ∈ xs, StOk u.cs H' v) → Q (.ref p) H'
/-- forked, round: only where deep < 2 -/
def spMany (m : Nat) : Sp := fun vs H Q _ => ∃ (u : Wd) (D : Addr), vs = [.ref u.F, .ref u.W, .ref D, .int (2 - (m : Int))] ∧ 1 ≤ m ∧ m ≤ 2 ∧ WAt u H ∧ FrAt u D H ∧
  ∀ (p : Addr) (xs : List V) (H' : Hp), WAt u H' → FrAt u D H' → Kp (M3 u D) H H' → H p = none → H' p = some (.lst xs) → xs.length ≤ 2 → (∀ v ∈ xs, StOk u.cs H' v) → Q (.ref p) H'
def spAgain : Sp := fun vs H Q _ => ∃ (u : Wd) (D : Addr), vs = [.ref u.F, .ref u.W, .ref D] ∧ WAt u H ∧ FrAt u D H ∧
  ∀ (p : Addr) (xs : List V) (H' : Hp), WAt u H' → FrAt u D H' → Kp (M3 u D) H H' → H p = none → H' p = some (.lst xs) → xs.length ≤ 2 → (∀ v ∈ xs, StOk u.cs H' v) → Q (.ref p) H'
section
variable {P : Program} {w : World} {K : PySem.W.Frag} {mg : Str → Option Value} {base : Heap}
-- _law_share (printed by gen.py); slots: 0 _law_flow_here, 1 _law_world, 2 _law_fresh, 3 _law_deep, 4 _law_left, 5 _law_share_here, 6 _law_found
abbrev nLShare : List Str := ["_law_flow_here", "_law_world", "_law_fresh", "_law_deep", "_law_left", "_law_share_here", "_law_found"]
abbrev pLShare : List Str := ["_law_flow_here", "_law_world", "_law_fresh", "_law_deep"]
theorem scLShare : FnScope nLShare pLShare (defScope sLShare) := ⟨rfl, rfl, rfl, by decide +kernel, rfl, by decide +kernel, by decide +kernel⟩
-- _law_body (printed by gen.py); slots: 0 _law_flow_here, 1 _law_world, 2 _law_fresh, 3 _law_deep, 4 _law_found, 5 _law_k, 6 _law_way
abbrev nLBody : List Str := ["_law_flow_here", "_law_world", "_law_fresh", "_law_deep", "_law_found", "_law_k", "_law_way"]
abbrev pLBody : List Str := ["_law_flow_here", "_law_world", "_law_fresh", "_law_deep"]
theorem scLBody : FnScope nLBody pLBody (defScope sLBody) := ⟨rfl, rfl, rfl, by decide +kernel, rfl, by decide +kernel, by decide +kernel⟩
theorem ok_share (T : Bi mg) {m : Nat} (a : At K mg "_law_share" sLShare pLShare) (cLDraw : Cal P w K mg base CX0 "_law_draw" 1 pLDraw spD) (cLBody : Cal P w K mg base CX0 "_law_body" (10 + 3 * m) pLBody (spBody m)) :
    Cal P w K mg base CX0 "_law_share" (11 + 3 * m) pLShare (spBody m) := by
  refine (Cal.of (k := 10 + 3 * m) a scLShare (fun vs H Q E h => ?_) (fun f cdv A outer s H vs Q E hr h => ?_)).mono (by omega)
  · obtain ⟨u, D, rfl, _⟩ := h
    rfl
  · obtain ⟨u, D, rfl, hm, wa, fr, q⟩ := h
    refine ⟨_, (pss_cons (ps_set (i := 4) scLShare.nd rfl (.inl rfl) (pe_dget (hu_of hr) (pv 1) pe_str (fun _ _ => rfl))) -- _law_left = _law_world['left']
      (pss_cons (ps_set (i := 5) scLShare.nd rfl (.inl rfl) (pe_callB (call_max2 rfl) (by rfl) T.max bo_max (pa_cons pe_int (pa_cons (pe_callB (call_min2 rfl) (by rfl) T.min bo_min (pa_cons (pv 4) (pa_cons (pe_op op_add pe_int (pe_c cLDraw hr pass0 (pa_cons (pv 0) (pa_cons pe_int pa_nil)))) pa_nil))) pa_nil)))) -- _law_share_here = max(0, min(_law_left, 3 + _law_draw(_law_flow_here, 5)))
      (pss_cons (ps_dput (hu_of hr) (pv 1) pe_str (pv 5) rfl) -- _law_world['left'] = _law_share_here
      (pss_cons (ps_set (i := 6) scLShare.nd rfl (.inl rfl) (pe_c cLBody hr pass0 (pa_cons (pv 0) (pa_cons (pv 1) (pa_cons (pv 2) (pa_cons (pv 3) pa_nil)))))) -- _law_found = _law_body(_law_flow_here, _law_world, _law_fresh, _law_deep)
      (pss_cons (ps_dput (hu_of hr) (pv 1) pe_str (pe_op op_add (pe_op op_sub (pv 4) (pv 5)) (pe_dget (hu_of hr) (pv 1) pe_str (fun _ _ => rfl))) rfl) -- _law_world['left'] = _law_left - _law_share_here + _law_world['left']
      (pss_one (ps_ret (pv 6)))))))), ?_⟩
    obtain ⟨kvs, hW, dW⟩ := wa.dct
    obtain ⟨lf, hlf⟩ := dW.left
    refine ⟨_, rfl, u.W, _, rfl, dget_s hW hlf, ?_⟩
    refine ⟨_, rfl, _, rfl, u.F, 5, rfl, wa.fl, by decide, by decide, fun d H1 d0 d1 f1 k1 => ⟨_, _, rfl, rfl, _, _, rfl, _, _, rfl, ?_⟩⟩
    have w1 := wa.draw k1 f1
    have fr1 := fr.draw wa k1
    generalize hsh : (if (if 3 + d < lf then 3 + d else lf) > 0 then (if 3 + d < lf then 3 + d else lf) else (0 : Int)) = sh
    obtain ⟨kvs1, hW1, dW1⟩ := w1.dct
    refine ⟨_, rfl, _, rfl, u.W, _, rfl, DPut.k (k := Sum.inr "left") hW1 (szt (by have := dW1.len; omega)), ?_⟩
    obtain ⟨w2, fr2, k2⟩ := w1.left fr1 hW1 dW1 sh
    refine ⟨_, rfl, _, rfl, _, rfl, _, rfl, u, D, rfl, hm, w2, fr2, fun p xs H3 w3 fr3 k3 np hp hl hx => ?_⟩
    obtain ⟨kvs3, hW3, dW3⟩ := w3.dct
    obtain ⟨lf3, hlf3⟩ := dW3.left
    refine ⟨_, rfl, _, rfl, _, _, rfl, rfl, _, rfl, u.W, _, rfl, dget_s hW3 hlf3, _, _, rfl, rfl, _, rfl, u.W, _, rfl, DPut.k (k := Sum.inr "left") hW3 (szt (by have := dW3.len; omega)), ?_⟩
    obtain ⟨w4, fr4, k4⟩ := w3.left fr3 hW3 dW3 (lf - sh + lf3)
    exact ⟨_, rfl, q p xs _ w4 fr4 (((k1.to3.trans k2).trans k3).trans k4) ((k1.to3.trans k2).free np) (k4.t _ _ hp) hl fun v hv => (hx v hv).tl k4.t⟩
theorem ok_body (T : Bi mg) {m : Nat} (a : At K mg "_law_body" sLBody pLBody) (cLDraw : Cal P w K mg base CX0 "_law_draw" 1 pLDraw spD) (cLSmall : Cal P w K mg base CX0 "_law_small" 8 pLSmall spSm)
    (cLAgain : Cal P w K mg base CX0 "_law_again" 9 ["_law_flow_here", "_law_world", "_law_fresh"] spAgain) (cLForked : Cal P w K mg base CX0 "_law_forked" (9 + 3 * m) pLBody (spMany m)) (cLRound : Cal P w K mg base CX0 "_law_round" (9 + 3 * m) pLBody (spMany m)) :
    Cal P w K mg base CX0 "_law_body" (10 + 3 * m) pLBody (spBody m) := by
  refine (Cal.of (k := 9 + 3 * m) a scLBody (fun vs H Q E h => ?_) (fun f cdv A outer s H vs Q E hr h => ?_)).mono (by omega)
  · obtain ⟨u, D, rfl, _⟩ := h
    rfl
  · obtain ⟨u, D, rfl, hm, wa, fr, q⟩ := h
    refine ⟨_, (pss_cons (ps_set (i := 4) scLBody.nd rfl (.inl rfl) (pe_lst pa_nil)) -- _law_found = []
      (Evl.pss_cut (ps_for PassesOwn.never rfl (pi_range1 (by rfl) T.range (pa_cons (pe_ix ix_list (pe_lst (pa_cons pe_int (pa_cons pe_int (pa_cons pe_int pa_nil)))) (pv 3) (fun _ _ => rfl)) pa_nil)) (pg_name (i := 5) scLBody.nd rfl (.inl rfl))
        (pss_cons (ps_set (i := 6) scLBody.nd rfl (.inl rfl) (pe_c cLDraw hr pass0 (pa_cons (pv 0) (pa_cons pe_int pa_nil)))) -- _law_way = _law_draw(_law_flow_here, 10)
        (pss_cons (ps_if (pt_cmpR op_lt (pe_dget (hu_of hr) (pv 1) pe_str (fun _ _ => rfl)) pe_int (nomark _))
          (pss_one ps_break)
          pss_nil) -- if _law_world['left'] < 1:
        (pss_cons (ps_dput (hu_of hr) (pv 1) pe_str (pe_op op_sub (pe_dget (hu_of hr) (pv 1) pe_str (fun _ _ => rfl)) pe_int) rfl) -- _law_world['left'] = _law_world['left'] - 1
        (pss_one (ps_if (PW.pt (pw_and (pt_cmpR op_eq (pv 6) pe_int (nomark _)) (pw_and1 (pt_cmpR op_lt (pv 3) pe_int (nomark _)))))
          (pss_one (ps_expr (pe_bm PySem.F.plainAttrs_list PySem.F.slot_list_extend PySem.F.type_list_extend mt_extend (pv 4) (pa_cons (pe_c cLForked hr pass0 (pa_cons (pv 0) (pa_cons (pv 1) (pa_cons (pv 2) (pa_cons (pv 3) pa_nil))))) pa_nil))))
          (pss_one (ps_if (PW.pt (pw_and (pt_cmpR op_eq (pv 6) pe_int (nomark _)) (pw_and1 (pt_cmpR op_lt (pv 3) pe_int (nomark _)))))
            (pss_one (ps_expr (pe_bm PySem.F.plainAttrs_list PySem.F.slot_list_extend PySem.F.type_list_extend mt_extend (pv 4) (pa_cons (pe_c cLRound hr pass0 (pa_cons (pv 0) (pa_cons (pv 1) (pa_cons (pv 2) (pa_cons (pv 3) pa_nil))))) pa_nil))))
            (pss_one (ps_if (pt_cmpR op_eq (pv 6) pe_int (nomark _))
              (pss_one (ps_expr (pe_bm PySem.F.plainAttrs_list PySem.F.slot_list_extend PySem.F.type_list_extend mt_extend (pv 4) (pa_cons (pe_c cLAgain hr pass0 (pa_cons (pv 0) (pa_cons (pv 1) (pa_cons (pv 2) pa_nil)))) pa_nil))))
              (pss_one (ps_expr (pe_bm PySem.F.plainAttrs_list PySem.F.slot_list_extend PySem.F.type_list_extend mt_extend (pv 4) (pa_cons (pe_c cLSmall hr pass0 (pa_cons (pv 0) (pa_cons (pv 1) (pa_cons (pv 2) pa_nil)))) pa_nil)))))))))))))) -- for _law_k in range([8, 4, 3][_law_deep]):
      (pss_one (ps_ret (pe_callTy call_tuple_of (by rfl) T.tuple bo_tuple (pa_cons (pv 4) pa_nil)))))), ?_⟩
    refine ⟨Nat.zero_le _, fun fo nfo => ?_⟩
    have s0 := same_new (o := .lst []) nfo
    have w0 := wa.same s0
    have fr0 := fr.same s0
    -- the number of turns
    have turns : ∃ n : Nat, n ≤ 8 ∧ atI [V.int 8, V.int 4, V.int 3] (2 - (m : Int)) = some (.int n) := by
      rcases (show m = 0 ∨ m = 1 ∨ m = 2 by omega) with e | e | e
      · exact ⟨3, by decide, by rw [e]; rfl⟩
      · exact ⟨4, by decide, by rw [e]; rfl⟩
      · exact ⟨8, by decide, by rw [e]; rfl⟩
    obtain ⟨n, hn, hat⟩ := turns
    -- what stands behind so many turns
    refine ⟨fun σ' H' => ∃ (y5 y6 : Option V) (xs : List V), σ' = [some (.ref u.F), some (.ref u.W), some (.ref D), some (.int (2 - (m : Int))), some (.ref fo), y5, y6] ∧ xs.length ≤ 16 ∧ H' fo = some (.lst xs) ∧ WAt u H' ∧ FrAt u D H' ∧ Kp (M3 u D) H H' ∧ ∀ v ∈ xs, StOk u.cs H' v, ?_, ?_⟩
    · refine ⟨(by show 3 ≤ sizeLine; decide), fun p0 np0 => ⟨_, rfl, p0, _, _, _, rfl, rfl, SqL.of upd_same, hat, ?_⟩⟩
      have s1 := same_new (o := .lst [.int 8, .int 4, .int 3]) np0
      refine ⟨n, rfl, by omega, by omega, for_range (lo := 0) (n := n) (fun i σ' H' => ∃ (y5 y6 : Option V) (xs : List V), σ' = [some (.ref u.F), some (.ref u.W), some (.ref D), some (.int (2 - (m : Int))), some (.ref fo), y5, y6] ∧ xs.length ≤ 2 * i ∧ H' fo = some (.lst xs) ∧ WAt u H' ∧ FrAt u D H' ∧ Kp (M3 u D) H H' ∧ ∀ v ∈ xs, StOk u.cs H' v)
        ⟨none, none, [], rfl, Nat.le_refl _, s1 _ _ upd_same, w0.same s1, fr0.same s1, (Kp.same s0).trans (Kp.same s1), fun v h => absurd h List.not_mem_nil⟩ (fun i σ' H' hi hP => ?_) (fun σ' H' hP => ?_)⟩
      · obtain ⟨y5, y6, xs, rfl, hl, hO, w1, fr1, k1, hx⟩ := hP
        have nfM : ¬ M3 u D fo := wa.nM3 fr nfo
        have nfF : fo ≠ u.F := wa.fl.nn nfo
        refine ⟨_, rfl, u.F, 10, rfl, w1.fl, by decide, by decide, fun d H2 d0 d1 f2 k2 => ?_⟩
        have w2 := w1.draw k2 f2
        have fr2 := fr1.draw w1 k2
        have k12 := k1.trans (k2.to3 (D := D))
        have hO2 := k2.k _ _ hO nfF
        have hx2 : ∀ v ∈ xs, StOk u.cs H2 v := fun v hv => (hx v hv).tl k2.t
        obtain ⟨kvs, hW, dW⟩ := w2.dct
        obtain ⟨lf, hlf⟩ := dW.left
        refine ⟨_, rfl, u.W, _, rfl, dget_s hW hlf, _, _, rfl, rfl, _, rfl, ?_⟩
        refine ite2 (fun c => ?_) (fun c => ?_)
        · exact ⟨_, _, xs, rfl, by omega, hO2, w2, fr2, k12, hx2⟩
        · refine ⟨_, rfl, u.W, _, rfl, dget_s hW hlf, _, _, rfl, rfl, _, rfl, u.W, _, rfl, DPut.k (k := Sum.inr "left") hW (szt (by have := dW.len; omega)), ?_⟩
          obtain ⟨w3, fr3, k3⟩ := w2.left fr2 hW dW (lf - 1)
          have k13 := k12.trans k3
          have hO3 := k3.k _ _ hO2 nfM
          have hx3 : ∀ v ∈ xs, StOk u.cs _ v := fun v hv => (hx2 v hv).tl k3.t
          clear hO hO2 hx hx2
          generalize upd H2 u.W (.dK (putK kvs (Sum.inr "left") (.int (lf - 1)))) = H3 at w3 fr3 k3 k13 hO3 hx3 ⊢
          -- what each extension leads to
          have ext : ∀ (p : Addr) (ys : List V) (H4 : Hp), WAt u H4 → FrAt u D H4 → Kp (M3 u D) H3 H4 → H3 p = none → H4 p = some (.lst ys) → ys.length ≤ 2 → (∀ v ∈ ys, StOk u.cs H4 v) →
              H4 fo = some (.lst xs) ∧ xs.length + ys.length ≤ sizeLine ∧ ∃ (y5 y6 : Option V) (zs : List V), ([some (.ref u.F), some (.ref u.W), some (.ref D), some (.int (2 - (m : Int))), some (.ref fo), some (.int (0 + (i : Int))), some (.int d)] : L2.St) = [some (.ref u.F), some (.ref u.W), some (.ref D), some (.int (2 - (m : Int))), some (.ref fo), y5, y6] ∧
                zs.length ≤ 2 * (i + 1) ∧ (upd H4 fo (.lst (xs ++ ys))) fo = some (.lst zs) ∧ WAt u (upd H4 fo (.lst (xs ++ ys))) ∧ FrAt u D (upd H4 fo (.lst (xs ++ ys))) ∧ Kp (M3 u D) H (upd H4 fo (.lst (xs ++ ys))) ∧ ∀ v ∈ zs, StOk u.cs (upd H4 fo (.lst (xs ++ ys))) v := by
            intro p ys H4 w4 fr4 k4 np hp hl2 hy
            have hO4 := k4.k _ _ hO3 nfM
            have kf : Kp (Is fo) H4 (upd H4 fo (.lst (xs ++ ys))) := Kp.upd rfl hO4 lst_ne_tup
            obtain ⟨w5, k5⟩ := wa.mutNew fr (k13.trans k4) w4 nfo (.lst (xs ++ ys))
            refine ⟨hO4, szl (by omega), _, _, xs ++ ys, rfl, by rw [List.length_append]; omega, upd_same, w5, fr4.step kf (fun e => nfM (.inr (.inr e.symm))), k5, fun v hv => ?_⟩
            rcases List.mem_append.mp hv with z | z
            · exact (hx3 v z).tl (k4.tl.trans kf.tl)
            · exact (hy v z).tl kf.t
          have call : ∀ (p : Addr) (ys : List V) (H4 : Hp), WAt u H4 → FrAt u D H4 → Kp (M3 u D) H3 H4 → H3 p = none → H4 p = some (.lst ys) → ys.length ≤ 2 → (∀ v ∈ ys, StOk u.cs H4 v) → ∃ l b zs ws, V.ref fo = .ref l ∧ [V.ref p] = [.ref b] ∧ H4 l = some (.lst zs) ∧ H4 b = some (.lst ws) ∧ zs.length + ws.length ≤ sizeLine ∧
              ∃ (y5 y6 : Option V) (xs : List V), ([some (.ref u.F), some (.ref u.W), some (.ref D), some (.int (2 - (m : Int))), some (.ref fo), some (.int (0 + (i : Int))), some (.int d)] : L2.St) = [some (.ref u.F), some (.ref u.W), some (.ref D), some (.int (2 - (m : Int))), some (.ref fo), y5, y6] ∧
                xs.length ≤ 2 * (i + 1) ∧ (upd H4 l (.lst (zs ++ ws))) fo = some (.lst xs) ∧ WAt u (upd H4 l (.lst (zs ++ ws))) ∧ FrAt u D (upd H4 l (.lst (zs ++ ws))) ∧ Kp (M3 u D) H (upd H4 l (.lst (zs ++ ws))) ∧ ∀ v ∈ xs, StOk u.cs (upd H4 l (.lst (zs ++ ws))) v := fun p ys H4 a b c e f g h => by
            obtain ⟨h1, h2, h3⟩ := ext p ys H4 a b c e f g h
            exact ⟨fo, p, xs, ys, rfl, rfl, h1, f, h2, h3⟩
          refine ⟨_, rfl, rfl, _, rfl, ?_⟩
          have t2 : ∀ k : Bool, k = decide ((2 - (m : Int)) < 2) → k = true → 1 ≤ m := fun k e h => by
            rw [e] at h
            have := of_decide_eq_true h
            omega
          refine ite2 (fun c7 => ?_) (fun c7 => ?_)
          · refine ⟨_, rfl, _, _, rfl, rfl, _, rfl, ?_⟩
            refine ite2 (fun cd => ?_) (fun cd => ?_)
            · exact ⟨_, rfl, .inl ⟨rfl, _, SqL.of hO3⟩, _, rfl, _, rfl, _, rfl, _, rfl, u, D, rfl, t2 _ rfl cd, hm, w3, fr3, call⟩
            · skip
              refine ⟨_, rfl, rfl, _, rfl, ?_⟩
              refine ite2 (fun c8 => ?_) (fun c8 => ?_)
              · refine ⟨_, rfl, _, _, rfl, rfl, _, rfl, ?_⟩
                refine ite2 (fun cd8 => ?_) (fun cd8 => ?_)
                · exact ⟨_, rfl, .inl ⟨rfl, _, SqL.of hO3⟩, _, rfl, _, rfl, _, rfl, _, rfl, u, D, rfl, t2 _ rfl cd8, hm, w3, fr3, call⟩
                · refine ⟨_, rfl, rfl, _, rfl, ?_⟩
                  refine ite2 (fun c9 => ?_) (fun c9 => ?_)
                  · exact ⟨_, rfl, .inl ⟨rfl, _, SqL.of hO3⟩, _, rfl, _, rfl, _, rfl, u, D, rfl, w3, fr3, call⟩
                  · exact ⟨_, rfl, .inl ⟨rfl, _, SqL.of hO3⟩, _, rfl, _, rfl, _, rfl, u, D, rfl, w3, fr3, fun p v H4 a b c e f g => call p [v] H4 a b c e f (Nat.le_succ 1) fun z hz => by rw [List.mem_singleton.mp hz]; exact .inl g⟩
              · refine ⟨_, rfl, rfl, _, rfl, ?_⟩
                refine ite2 (fun c9 => ?_) (fun c9 => ?_)
                · exact ⟨_, rfl, .inl ⟨rfl, _, SqL.of hO3⟩, _, rfl, _, rfl, _, rfl, u, D, rfl, w3, fr3, call⟩
                · exact ⟨_, rfl, .inl ⟨rfl, _, SqL.of hO3⟩, _, rfl, _, rfl, _, rfl, u, D, rfl, w3, fr3, fun p v H4 a b c e f g => call p [v] H4 a b c e f (Nat.le_succ 1) fun z hz => by rw [List.mem_singleton.mp hz]; exact .inl g⟩
          · skip
            refine ⟨_, rfl, rfl, _, rfl, ?_⟩
            refine ite2 (fun c8 => ?_) (fun c8 => ?_)
            · refine ⟨_, rfl, _, _, rfl, rfl, _, rfl, ?_⟩
              refine ite2 (fun cd8 => ?_) (fun cd8 => ?_)
              · exact ⟨_, rfl, .inl ⟨rfl, _, SqL.of hO3⟩, _, rfl, _, rfl, _, rfl, _, rfl, u, D, rfl, t2 _ rfl cd8, hm, w3, fr3, call⟩
              · refine ⟨_, rfl, rfl, _, rfl, ?_⟩
                refine ite2 (fun c9 => ?_) (fun c9 => ?_)
                · exact ⟨_, rfl, .inl ⟨rfl, _, SqL.of hO3⟩, _, rfl, _, rfl, _, rfl, u, D, rfl, w3, fr3, call⟩
                · exact ⟨_, rfl, .inl ⟨rfl, _, SqL.of hO3⟩, _, rfl, _, rfl, _, rfl, u, D, rfl, w3, fr3, fun p v H4 a b c e f g => call p [v] H4 a b c e f (Nat.le_succ 1) fun z hz => by rw [List.mem_singleton.mp hz]; exact .inl g⟩
            · refine ⟨_, rfl, rfl, _, rfl, ?_⟩
              refine ite2 (fun c9 => ?_) (fun c9 => ?_)
              · exact ⟨_, rfl, .inl ⟨rfl, _, SqL.of hO3⟩, _, rfl, _, rfl, _, rfl, u, D, rfl, w3, fr3, call⟩
              · exact ⟨_, rfl, .inl ⟨rfl, _, SqL.of hO3⟩, _, rfl, _, rfl, _, rfl, u, D, rfl, w3, fr3, fun p v H4 a b c e f g => call p [v] H4 a b c e f (Nat.le_succ 1) fun z hz => by rw [List.mem_singleton.mp hz]; exact .inl g⟩
      · obtain ⟨y5, y6, xs, rfl, hl, hrest⟩ := hP
        exact ⟨y5, y6, xs, rfl, by omega, hrest⟩
    · rintro σ' H' ⟨y5, y6, xs, rfl, hl, hO, w1, fr1, k1, hx⟩
      refine ⟨_, rfl, fo, _, rfl, .inl ⟨SqL.of hO, fun p np => ?_⟩⟩
      have s1 := same_new (o := .tup xs) np
      exact q p xs _ (w1.same s1) (fr1.same s1) (up_new k1 np) (k1.free np) upd_same hl fun v hv => (hx v hv).tl (TL.of s1)
end
end K36
namespace K36
open PySem PySem.Spec PyProof.Rows L2
/-! ### choices -/
section
variable {P : Program} {w : World} {K : PySem.W.Frag} {mg : Str → Option Value} {base : Heap}
-- _law_forked (printed by gen.py); slots: 0 _law_flow_here*, 1 _law_world*, 2 _law_fresh, 3 _law_deep*, 4 _law_test, 5 _law_states*, 6 _law_arms, 7 _law_x, 8 _law_k
abbrev nLForked : List Str := ["_law_flow_here", "_law_world", "_law_fresh", "_law_deep", "_law_test", "_law_states", "_law_arms", "_law_x", "_law_k"]
abbrev pLForked : List Str := ["_law_flow_here", "_law_world", "_law_fresh", "_law_deep"]
theorem scLForked : FnScope nLForked pLForked (defScope sLForked) := ⟨rfl, rfl, rfl, by decide +kernel, rfl, by decide +kernel, by decide +kernel⟩
theorem ok_forked (T : Bi mg) {m : Nat} (a : At K mg "_law_forked" sLForked pLForked) (cLRoom : Cal P w K mg base CX0 "_law_room" 2 pLRoom spRoom) (cLTerm : Cal P w K mg base CX0 "_law_term" 7 pLTerm (spTerm 6))
    (cLShare : Cal P w K mg base CX0 "_law_share" (11 + 3 * m) pLShare (spBody m)) : Cal P w K mg base CX0 "_law_forked" (12 + 3 * m) pLForked (spMany (m + 1)) := by
  refine (Cal.of (k := 11 + 3 * m) a scLForked (fun vs H Q E h => ?_) (fun f cdv A outer s H vs Q E hr h => ?_)).mono (by omega)
  · obtain ⟨u, D, rfl, _⟩ := h
    rfl
  · obtain ⟨u, D, rfl, _, hm, wa, fr, q⟩ := h
    refine ⟨_, (pss_cons (ps_set (i := 4) scLForked.nd rfl (.inl rfl) (pe_c cLTerm hr pass0 (pa_cons (pv 0) (pa_cons (pe_dget (hu_of hr) (pv 1) pe_str (fun _ _ => rfl)) (pa_cons (pe_c cLRoom hr pass0 (pa_cons (pv 0) (pa_cons (pv 1) pa_nil))) pa_nil))))) -- _law_test = _law_term(_law_flow_here, _law_world['cells'], _law_room(_law_flow_here, _law_world))
      (pss_cons (ps_set (i := 5) scLForked.nd rfl (.inr rfl) (pe_lst (pa_cons (pe_callTy call_dictD (by rfl) T.dict bo_dict (pa_cons (pv 2) pa_nil)) (pa_cons (pe_callTy call_dictD (by rfl) T.dict bo_dict (pa_cons (pv 2) pa_nil)) pa_nil)))) -- _law_states = [dict(_law_fresh), dict(_law_fresh)]
      (pss_cons (ps_setLc (i := 6) (own := [("_law_k", 8)]) (g := gName 8) rfl scLForked.nd rfl rfl (sw_true rfl rfl rfl (by decide +kernel)) (pi_range1 (by rfl) T.range (pa_cons pe_int pa_nil)) (blkOk_by (own := [("_law_k", 8)]) (N := nLForked) (sc := defScope sLForked) (by decide +kernel)) (fun _ _ _ _ _ => (pg_name (i := 8) scLForked.nd rfl (.inl rfl))) (fun _ _ _ _ _ => pts_nil) (fun _ _ _ _ _ => (pe_c cLShare hr pass0 (pa_cons (pv 0) (pa_cons (pv 1) (pa_cons (pe_ix (ixL (K := K) rfl) (pv 5) (pv 8) (fun _ _ => rfl)) (pa_cons (pe_op op_add (pv 3) pe_int) pa_nil))))))) -- _law_arms = [_law_share(_law_flow_here, _law_world, _law_states[_law_k], _law_deep + 1) for _law_k in range(2)
      (pss_cons (ps_expr (pe_bm0 PySem.F.plainAttrs_dict PySem.F.slot_dict_clear PySem.F.type_dict_clear mtd_clear (pv 2))) -- _law_fresh.clear()
      (pss_cons (ps_lock (ps_for PassesOwn.never rfl (pi_keys (pe_ix ix_list (pv 5) pe_int (fun _ _ => rfl))) (pg_name (i := 7) scLForked.nd rfl (.inl rfl))
        (pss_one (ps_if (pt_cmp (pc_din (hu_of hr) (pv 7) (pe_ix ix_list (pv 5) pe_int (fun _ _ => rfl))))
          (pss_one (ps_dput (hu_of hr) (pv 2) (pv 7) pe_bl rfl))
          pss_nil)))) -- for _law_x in _law_states[0]:
      (pss_one (ps_ret (pe_lst (pa_cons (pe_tup (pa_cons pe_str (pa_cons (pv 4) (pa_cons (pe_ix ix_list (pv 6) pe_int (fun _ _ => rfl)) (pa_cons (pe_ix ix_list (pv 6) pe_int (fun _ _ => rfl)) pa_nil))))) pa_nil))))))))), ?_⟩
    -- test
    obtain ⟨kvs, hW, dW⟩ := wa.dct
    refine ⟨_, rfl, _, rfl, u.W, _, rfl, dget_s hW dW.cells, _, rfl, _, rfl, u, rfl, wa, fun r H1 r0 r1 w1 k1 => ?_⟩
    refine ⟨u.F, u.cl, r, u.cs, rfl, w1.fl, w1.cl, w1.cn2.1, Nat.le_trans w1.cn2.2 (by decide), by omega, by omega, by omega, fun t v H2 ta td k2 f2 => ?_⟩
    have w2 := w1.draw k2 f2
    have fr2 := (fr.step2 wa k1).draw w1 k2
    have k12 : Kp (M3 u D) H H2 := k1.m3.trans k2.to3
    -- states
    obtain ⟨fk, fs, hD, e1, e2, e3, e4, e5⟩ := fr2.sz w2
    refine ⟨_, rfl, D, fk, rfl, .inl hD, fun s1 n1 => ?_⟩
    have m1 := same_new (o := .dK fk) n1
    have a1 := FrAt.new w2 n1 e1 e2 e3
    have w3 := w2.same m1
    refine ⟨_, rfl, D, fk, rfl, .inl (m1 _ _ hD), fun s2 n2 => ⟨(by show 2 ≤ sizeLine; decide), fun st nst => ?_⟩⟩
    have m2 := same_new (o := .dK fk) n2
    have a2 := FrAt.new w3 n2 e1 e2 e3
    have w4 := w3.same m2
    have m3 := same_new (o := .lst [.ref s1, .ref s2]) nst
    have w5 := w4.same m3
    have n12 : s1 ≠ s2 := ne_of_none upd_same n2
    have hs1 : (upd (upd (upd H2 s1 (.dK fk)) s2 (.dK fk)) st (.lst [.ref s1, .ref s2])) s1 = some (.dK fk) := m3 _ _ (m2 _ _ upd_same)
    have b1 := (a1.same m2).same m3
    have b2 := a2.same m3
    have fr5 := ((fr2.same m1).same m2).same m3
    have z1 : H s1 = none := k12.free n1
    have z2 : H s2 = none := (k12.trans (Kp.same m1)).free n2
    have zt : H st = none := ((k12.trans (Kp.same m1)).trans (Kp.same m2)).free nst
    have k15 : Kp (M3 u D) H (upd (upd (upd H2 s1 (.dK fk)) s2 (.dK fk)) st (.lst [.ref s1, .ref s2])) := ((k12.trans (Kp.same m1)).trans (Kp.same m2)).trans (Kp.same m3)
    have hst : (upd (upd (upd H2 s1 (.dK fk)) s2 (.dK fk)) st (.lst [.ref s1, .ref s2])) st = some (.lst [.ref s1, .ref s2]) := upd_same
    generalize upd (upd (upd H2 s1 (.dK fk)) s2 (.dK fk)) st (.lst [.ref s1, .ref s2]) = H5 at w5 hs1 b1 b2 fr5 k15 hst ⊢
    have nDs : ∀ {b}, H b = none → D ≠ b := fun {b} hb => by
      obtain ⟨kv, ks, hh, _⟩ := fr.ex
      exact ne_of_none hh hb
    -- arms
    refine ⟨2, rfl, by decide, by decide, fun Dl nDl => ?_⟩
    have zl : H Dl = none := k15.free nDl
    have m6 := same_new (o := .lst []) nDl
    refine lc_range (lo := 0) (n := 2) (fun i H' => ∃ vs : List V, vs.length = i ∧ H' Dl = some (.lst vs) ∧ H' st = some (.lst [.ref s1, .ref s2]) ∧ WAt u H' ∧ FrAt u D H' ∧ FrAt u s1 H' ∧ FrAt u s2 H' ∧ Kp (M3 u D) H H')
      ⟨[], rfl, upd_same, m6 _ _ hst, w5.same m6, fr5.same m6, b1.same m6, b2.same m6, up_new k15 nDl⟩ (fun i H' hi hP => ?_) (fun H7 hP => ?_)
    · obtain ⟨vs, hvl, hL, hS, w6, fr6, c1, c2, k6⟩ := hP
      refine ⟨rfl, ?_⟩
      obtain ⟨d, hd, hat, frd, zd⟩ : ∃ d, (d = s1 ∨ d = s2) ∧ atI [V.ref s1, V.ref s2] (0 + (i : Int)) = some (.ref d) ∧ FrAt u d H' ∧ H d = none := by
        rcases (show i = 0 ∨ i = 1 by omega) with e | e
        · exact ⟨s1, .inl rfl, by rw [e]; rfl, c1, z1⟩
        · exact ⟨s2, .inr rfl, by rw [e]; rfl, c2, z2⟩
      refine ⟨_, rfl, _, rfl, _, rfl, _, rfl, st, _, _, _, rfl, rfl, SqL.of hS, hat, _, rfl, _, _, rfl, rfl, u, d, ?_, by omega, w6, frd, fun p xs H8 w8 fr8 k8 np hp hl hx => ?_⟩
      · have e : ((2 : Int) - (((m + 1 : Nat)) : Int) + 1) = 2 - (m : Int) := by omega
        show [V.ref u.F, V.ref u.W, V.ref d, V.int ((2 : Int) - (((m + 1 : Nat)) : Int) + 1)] = _
        rw [e]
      · have kk : Kp (M3 u D) H H8 := k6.more k8 fun b e => e.elim (fun z => .inl (.inl z)) fun e => e.elim (fun z => .inl (.inr (.inl z))) fun z => .inr (by rw [z]; exact zd)
        have ndM : ∀ {b}, H b = none → b ≠ d → ¬ M3 u d b := fun {b} hb ne e => by
          rcases e with e | e | e
          · exact wa.fl.nn hb e
          · obtain ⟨kv, hh, _⟩ := wa.dct
            exact ne_of_none hh hb e.symm
          · exact ne e
        have ndL : Dl ≠ d := by
          obtain ⟨kv, ks, hh, _⟩ := frd.ex
          exact ne_of hL hh (fun z => nomatch z)
        have ndS : st ≠ d := by
          obtain ⟨kv, ks, hh, _⟩ := frd.ex
          exact ne_of hS hh (fun z => nomatch z)
        have hL8 := k8.k _ _ hL (ndM zl ndL)
        refine ⟨vs, hL8, szt (by omega), vs ++ [.ref p], by rw [List.length_append, hvl]; rfl, upd_same, ?_⟩
        have kf : Kp (Is Dl) H8 (upd H8 Dl (.lst (vs ++ [.ref p]))) := Kp.upd rfl hL8 lst_ne_tup
        have other : ∀ {b}, FrAt u b H' → H b = none ∨ b = D → FrAt u b H8 := fun {b} hb z => by
          by_cases e : b = d
          · rw [e]
            exact fr8
          · refine hb.step k8 fun m => ?_
            rcases m with m | m | m
            · exact hb.nF w6 m
            · exact hb.nW m
            · exact e m
        have nfd : ∀ {b}, FrAt u b H8 → b ≠ Dl := fun {b} hb => by
          obtain ⟨kv, ks, hh, _⟩ := hb.ex
          exact ne_of hh hL8 (fun z => nomatch z)
        have frD := other fr6 (.inr rfl)
        obtain ⟨w9, k9⟩ := wa.mutNew fr kk w8 zl (.lst (vs ++ [.ref p]))
        have nSl : st ≠ Dl := ne_of_none hst nDl
        exact ⟨kf.k _ _ (k8.k _ _ hS (ndM zt ndS)) nSl, w9, frD.step kf (nfd frD), (other c1 (.inl z1)).step kf (nfd (other c1 (.inl z1))), (other c2 (.inl z2)).step kf (nfd (other c2 (.inl z2))), k9⟩
    · obtain ⟨vs, hvl, hL, hS, w7, fr7, c1, c2, k7⟩ := hP
      -- fresh.clear()
      obtain ⟨fk7, fs7, hD7, _⟩ := fr7.ex
      refine ⟨_, rfl, .inr (.inr (.inl ⟨rfl, .inl ⟨_, hD7⟩⟩)), D, _, rfl, rfl, hD7, ?_⟩
      obtain ⟨fr8, w8, k8⟩ := fr7.put w7 (kvs := []) (ks := []) rfl List.nodup_nil (fun x h => absurd h List.not_mem_nil)
      have nD : ∀ {b}, H b = none → b ≠ D := fun {b} hb => (nDs hb).symm
      have hL8 := k8.k _ _ hL (nD zl)
      have hS8 := k8.k _ _ hS (nD zt)
      have c18 := c1.step k8 (nD z1)
      have c28 := c2.step k8 (nD z2)
      have k78 := k7.trans k8.d3
      generalize upd H7 D (.dK []) = H8 at fr8 w8 hL8 hS8 c18 c28 k78 ⊢
      -- for x in states[0]: if x in states[1]: fresh[x] = True
      obtain ⟨g1, gs1, hd1, g1k, _, g1c⟩ := c18.ex
      refine ⟨s1, .dK g1, hd1, trivial, fun od => ?_⟩
      have kz : Kp (Is s1) H8 (upd H8 s1 (.frz od (.dK g1))) := Kp.upd rfl hd1 dK_ne_tup
      have nts : st ≠ s1 := ne_of hS8 hd1 (fun z => nomatch z)
      have nls : Dl ≠ s1 := ne_of hL8 hd1 (fun z => nomatch z)
      obtain ⟨w9, k9⟩ := wa.mutNew fr k78 w8 z1 (.frz od (.dK g1))
      have fr9 := fr8.step kz (nD z1).symm
      refine ⟨_, rfl, st, _, _, _, rfl, rfl, SqL.of (kz.k _ _ hS8 nts), (rfl : atI [V.ref s1, V.ref s2] 0 = some (V.ref s1)), s1, od, rfl, .inl ⟨g1, upd_same, ?_⟩⟩
      refine for_it walk_keys (fun i σ' H' => ∃ y7, σ' = [some (.ref u.F), some (.ref u.W), some (.ref D), some (.int (2 - ((m + 1 : Nat) : Int))), some v, some (.ref st), some (.ref Dl), y7, none] ∧ H' s1 = some (.frz od (.dK g1)) ∧ H' st = some (.lst [.ref s1, .ref s2]) ∧ H' Dl = some (.lst vs) ∧ WAt u H' ∧ FrAt u D H' ∧ FrAt u s2 H' ∧ Kp (M3 u D) H H')
        ⟨none, rfl, upd_same, kz.k _ _ hS8 nts, kz.k _ _ hL8 nls, w9, fr9, c28.step kz n12.symm, k9⟩ (fun i σ' H' hi hP => hP.choose_spec.2.1) (fun i x σ' H' H'' hi hP hy => ?_) (fun σ' H' hP => ?_)
      · obtain ⟨y7, rfl, a1, a2, a3, a4, a5, a6, a7⟩ := hP
        obtain ⟨rfl, kk, vv, hk, rfl⟩ := hy
        obtain ⟨x, hx, ex⟩ : ∃ x, x ∈ gs1 ∧ kk = Sum.inr x := by
          have hm : kk ∈ g1.map (·.1) := List.mem_map.mpr ⟨(kk, vv), List.mem_of_getElem? hk, rfl⟩
          rw [g1k] at hm
          obtain ⟨x, hx, e⟩ := List.mem_map.mp hm
          exact ⟨x, hx, e.symm⟩
        subst ex
        obtain ⟨g2, gs2, hd2, _⟩ := a6.ex
        refine ⟨_, rfl, _, rfl, st, _, _, _, rfl, rfl, SqL.of a2, (rfl : atI [V.ref s1, V.ref s2] 1 = some (V.ref s2)), s2, _, rfl, DGet.k (k := Sum.inr x) hd2, _, rfl, ?_⟩
        refine ite2 (fun c => ?_) (fun c => ?_)
        · obtain ⟨kvs', hD', hl', fr', w', k'⟩ := a5.add a4 (g1c x hx) (.bl true)
          refine ⟨_, rfl, _, rfl, D, _, rfl, DPut.k (k := Sum.inr x) hD' (szt (by omega)), ?_⟩
          exact ⟨_, rfl, k'.k _ _ a1 (nD z1), k'.k _ _ a2 (nD zt), k'.k _ _ a3 (nD zl), w', fr', a6.step k' (nD z2), a7.trans k'.d3⟩
        · exact ⟨_, rfl, a1, a2, a3, a4, a5, a6, a7⟩
      · obtain ⟨y7, rfl, a1, a2, a3, a4, a5, a6, a7⟩ := hP
        refine ⟨a1, ?_⟩
        have ku : Kp (Is s1) H' (upd H' s1 (.dK g1)) := Kp.upd rfl a1 ⟨(fun _ z => nomatch z), (fun _ _ z => nomatch z)⟩
        obtain ⟨w10, k10⟩ := wa.mutNew fr a7 a4 z1 (.dK g1)
        have fr10 := a5.step ku (nD z1).symm
        have hL10 := ku.k _ _ a3 nls
        generalize upd H' s1 (.dK g1) = H10 at w10 k10 fr10 hL10 ⊢
        obtain ⟨x0, x1, ev⟩ : ∃ x0 x1, vs = [x0, x1] := by
          match vs, hvl with
          | [x0, x1], _ => exact ⟨x0, x1, rfl⟩
        subst ev
        refine ⟨_, rfl, _, rfl, Dl, _, _, _, rfl, rfl, SqL.of hL10, (rfl : atI [x0, x1] 0 = some x0), _, rfl, Dl, _, _, _, rfl, rfl, SqL.of hL10, (rfl : atI [x0, x1] 1 = some x1), (by show 4 ≤ sizeLine; decide), fun tp ntp => ⟨(by show 1 ≤ sizeLine; decide), fun p np => ?_⟩⟩
        have ma := same_new (o := .tup [.str "if", v, x0, x1]) ntp
        have mb := same_new (o := .lst [.ref tp]) np
        have ntpp : tp ≠ p := ne_of_none upd_same np
        refine q p [.ref tp] _ ((w10.same ma).same mb) ((fr10.same ma).same mb) (up_new (up_new k10 ntp) np) ((up_new k10 ntp).free np) upd_same (Nat.le_succ 1) fun z hz => ?_
        rw [List.mem_singleton.mp hz]
        exact .inr ⟨tp, "if", [v, x0, x1], rfl, by rw [upd_ne ntpp, upd_same], .inl rfl⟩
end
end K36
namespace K36
open PySem PySem.Spec PyProof.Rows L2
/-! ### rounds -/
section
variable {P : Program} {w : World} {K : PySem.W.Frag} {mg : Str → Option Value} {base : Heap}
-- _law_round (printed by gen.py); slots: 0 _law_flow_here, 1 _law_world, 2 _law_fresh, 3 _law_deep, 4 _law_c, 5 _law_form, 6 _law_turns, 7 _law_body_here, 8 _law_x, 9 _law_little, 10 _law_test, 11 _law_more
abbrev nLRound : List Str := ["_law_flow_here", "_law_world", "_law_fresh", "_law_deep", "_law_c", "_law_form", "_law_turns", "_law_body_here", "_law_x", "_law_little", "_law_test", "_law_more"]
abbrev pLRound : List Str := ["_law_flow_here", "_law_world", "_law_fresh", "_law_deep"]
theorem scLRound : FnScope nLRound pLRound (defScope sLRound) := ⟨rfl, rfl, rfl, by decide +kernel, rfl, by decide +kernel, by decide +kernel⟩
theorem cn_at {cn : List Str} {m : Nat} (h : cn.length = 3) (hm : m + 1 ≤ 2) : ∃ x, atI (cn.map V.str) (2 - ((m + 1 : Nat) : Int)) = some (.str x) := by
  have hl : (2 - (m + 1)) < cn.length := by omega
  exact ⟨cn[2 - (m + 1)], at_of (j := 2 - (m + 1)) (by omega) (by rw [List.getElem?_map, List.getElem?_eq_getElem hl]; rfl)⟩
theorem Same.tl {H H' : Hp} (s : Same H H') : TL H H' := TL.of s
theorem ok_round (T : Bi mg) {m : Nat} (a : At K mg "_law_round" sLRound pLRound) (cLDraw : Cal P w K mg base CX0 "_law_draw" 1 pLDraw spD)
    (cLShare : Cal P w K mg base CX0 "_law_share" (11 + 3 * m) pLShare (spBody m)) : Cal P w K mg base CX0 "_law_round" (12 + 3 * m) pLRound (spMany (m + 1)) := by
  refine (Cal.of (k := 11 + 3 * m) a scLRound (fun vs H Q E h => ?_) (fun f cdv A outer s H vs Q E hr h => ?_)).mono (by omega)
  · obtain ⟨u, D, rfl, _⟩ := h
    rfl
  · obtain ⟨u, D, rfl, _, hm, wa, fr, q⟩ := h
    refine ⟨_, (pss_cons (ps_par3 (i := 4) (j := 5) (l := 6) rfl scLRound.nd rfl rfl rfl (by decide) (by decide) (by decide) rfl rfl rfl (pa_cons (pe_tup (pa_cons pe_str (pa_cons (pe_ix ix_list (pe_dget (hu_of hr) (pv 1) pe_str (fun _ _ => rfl)) (pv 3) (fun _ _ => rfl)) pa_nil))) (pa_cons (pe_c cLDraw hr pass0 (pa_cons (pv 0) (pa_cons pe_int pa_nil))) (pa_cons (pe_tup (pa_cons pe_str (pa_cons (pe_op op_add pe_int (pe_c cLDraw hr pass0 (pa_cons (pv 0) (pa_cons pe_int pa_nil)))) pa_nil))) pa_nil))) (by rfl)) -- _law_c, _law_form, _law_turns = (('cell', _law_world['counters'][_law_deep]), _law_draw(_law_flow_here, 6), ('
      (pss_cons (ps_expr (pe_bm0 PySem.F.plainAttrs_dict PySem.F.slot_dict_clear PySem.F.type_dict_clear mtd_clear (pv 2))) -- _law_fresh.clear()
      (pss_cons (ps_if (pt_cmpR op_eq (pv 5) pe_int (nomark _))
        (pss_one (ps_ret (pe_lst (pa_cons (pe_tup (pa_cons pe_str (pa_cons (pe_tup (pa_cons pe_str (pa_cons pe_int pa_nil))) (pa_cons (pe_tup pa_nil) pa_nil)))) pa_nil))))
        pss_nil) -- if _law_form == 0:
      (pss_cons (ps_dput (hu_of hr) (pv 1) pe_str (pe_op op_sub (pe_dget (hu_of hr) (pv 1) pe_str (fun _ _ => rfl)) pe_int) rfl) -- _law_world['left'] = _law_world['left'] - 2
      (pss_cons (ps_par (i := 7) (j := 8) rfl scLRound.nd rfl rfl (by decide) rfl rfl (pa_cons (pe_c cLShare hr pass0 (pa_cons (pv 0) (pa_cons (pv 1) (pa_cons pe_dnewK (pa_cons (pe_op op_add (pv 3) pe_int) pa_nil))))) (pa_cons (pe_ix ix_list (pe_dget (hu_of hr) (pv 1) pe_str (fun _ _ => rfl)) (pe_c cLDraw hr pass0 (pa_cons (pv 0) (pa_cons (pe_callB call_len_seq (by rfl) T.len bo_len (pa_cons (pe_dget (hu_of hr) (pv 1) pe_str (fun _ _ => rfl)) pa_nil)) pa_nil))) (fun _ _ => rfl)) pa_nil)) (by rfl)) -- _law_body_here, _law_x = (_law_share(_law_flow_here, _law_world, {}, _law_deep + 1), _law_world['cells'][_law_
      (pss_cons (ps_if (pt_cmpR op_lt (pv 5) pe_int (nomark _))
        (pss_one (ps_ret (pe_lst (pa_cons (pe_tup (pa_cons pe_str (pa_cons (pe_ix ix_tup (pv 4) pe_int (fun _ _ => rfl)) (pa_cons (pv 6) pa_nil)))) (pa_cons (pe_tup (pa_cons pe_str (pa_cons (pv 4) (pa_cons (pe_op op_catA (pv 7) (pe_tup (pa_cons (pe_tup (pa_cons pe_str (pa_cons (pe_ix ix_tup (pv 4) pe_int (fun _ _ => rfl)) (pa_cons (pe_tup (pa_cons pe_str (pa_cons pe_str (pa_cons (pv 4) (pa_cons (pe_tup (pa_cons pe_str (pa_cons pe_int pa_nil))) pa_nil))))) pa_nil)))) pa_nil))) pa_nil)))) pa_nil)))))
        pss_nil) -- if _law_form < 4:
      (pss_cons (ps_set (i := 9) scLRound.nd rfl (.inl rfl) (pe_tup (pa_cons pe_str (pa_cons pe_str (pa_cons (pe_tup (pa_cons pe_str (pa_cons (pv 8) pa_nil))) (pa_cons (pe_tup (pa_cons pe_str (pa_cons (pe_ix ix_list (pe_lst (pa_cons pe_int (pa_cons pe_int pa_nil))) (pe_c cLDraw hr pass0 (pa_cons (pv 0) (pa_cons pe_int pa_nil))) (fun _ _ => rfl)) pa_nil))) pa_nil)))))) -- _law_little = ('op', '<', ('cell', _law_x), ('num', [3, 500000][_law_draw(_law_flow_here, 2)]))
      (pss_cons (ps_par (i := 10) (j := 11) rfl scLRound.nd rfl rfl (by decide) rfl rfl (pa_cons (pe_tup (pa_cons pe_str (pa_cons pe_str (pa_cons (pe_tup (pa_cons pe_str (pa_cons pe_str (pa_cons (pv 4) (pa_cons (pv 6) pa_nil))))) (pa_cons (pv 9) pa_nil))))) (pa_cons (pe_tup (pa_cons pe_str (pa_cons (pe_ix ix_tup (pv 4) pe_int (fun _ _ => rfl)) (pa_cons (pe_tup (pa_cons pe_str (pa_cons pe_str (pa_cons (pv 4) (pa_cons (pe_tup (pa_cons pe_str (pa_cons pe_int pa_nil))) pa_nil))))) pa_nil)))) pa_nil)) (by rfl)) -- _law_test, _law_more = (('op', '*', ('op', '<', _law_c, _law_turns), _law_little), ('set', _law_c[1], ('op', '
      (pss_one (ps_ret (pe_lst (pa_cons (pe_tup (pa_cons pe_str (pa_cons (pe_ix ix_tup (pv 4) pe_int (fun _ _ => rfl)) (pa_cons (pe_tup (pa_cons pe_str (pa_cons pe_int pa_nil))) pa_nil)))) (pa_cons (pe_tup (pa_cons pe_str (pa_cons (pv 10) (pa_cons (pe_op op_catA (pv 7) (pe_tup (pa_cons (pv 11) pa_nil))) pa_nil)))) pa_nil))))))))))))), ?_⟩
    have lc : (u.cs.map V.str).length = u.cs.length := List.length_map _
    obtain ⟨kvs, hW, dW⟩ := wa.dct
    obtain ⟨cx, hcx⟩ := cn_at wa.ctn hm
    -- c, form, turns
    refine ⟨_, rfl, u.W, _, rfl, dget_s hW dW.counters, _, rfl, u.ct, _, _, _, rfl, rfl, SqL.of wa.ct, hcx, (by show 2 ≤ sizeLine; decide), fun c nc => ?_⟩
    have s1 := same_new (o := .tup [.str "cell", .str cx]) nc
    have w1 := wa.same s1
    have fr1 := fr.same s1
    refine ⟨_, rfl, u.F, 6, rfl, w1.fl, by decide, by decide, fun fo H2 fo0 fo1 f2 k2 => ?_⟩
    have w2 := w1.draw k2 f2
    have fr2 := fr1.draw w1 k2
    have hc2 := k2.t _ _ (upd_same (H := H) (a := c) (o := .tup [.str "cell", .str cx]))
    refine ⟨_, rfl, u.F, 2, rfl, w2.fl, by decide, by decide, fun tn H3 tn0 tn1 f3 k3 => ⟨_, _, rfl, rfl, (by show 2 ≤ sizeLine; decide), fun tr ntr => ⟨_, _, _, rfl, ?_⟩⟩⟩
    have w3 := w2.draw k3 f3
    have fr3 := fr2.draw w2 k3
    have s4 := same_new (o := .tup [.str "num", .int (1 + tn)]) ntr
    have w4 := w3.same s4
    have fr4 := fr3.same s4
    have hc4 := s4 _ _ (k3.t _ _ hc2)
    have ht4 : (upd H3 tr (.tup [.str "num", .int (1 + tn)])) tr = some (.tup [.str "num", .int (1 + tn)]) := upd_same
    have k14 : Kp (M3 u D) H (upd H3 tr (.tup [.str "num", .int (1 + tn)])) := (((Kp.same s1).trans k2.to3).trans k3.to3).trans (Kp.same s4)
    generalize upd H3 tr (.tup [.str "num", .int (1 + tn)]) = H4 at w4 fr4 hc4 ht4 k14 ⊢
    -- fresh.clear()
    obtain ⟨fk, fs, hD, _⟩ := fr4.ex
    refine ⟨_, rfl, .inr (.inr (.inl ⟨rfl, .inl ⟨_, hD⟩⟩)), D, _, rfl, rfl, hD, ?_⟩
    obtain ⟨fr5, w5, k5⟩ := fr4.put w4 (kvs := []) (ks := []) rfl List.nodup_nil (fun x h => absurd h List.not_mem_nil)
    have hc5 := k5.t _ _ hc4
    have ht5 := k5.t _ _ ht4
    have k15 := k14.trans k5.d3
    generalize upd H4 D (.dK []) = H5 at fr5 w5 hc5 ht5 k15 ⊢
    refine ⟨_, rfl, rfl, _, rfl, ?_⟩
    refine ite2 (fun e1 => ?_) (fun e1 => ?_)
    · -- while 0: nothing
      refine ⟨(by show 2 ≤ sizeLine; decide), fun a1 n1 => ⟨Nat.zero_le _, fun a2 n2 => ⟨(by show 3 ≤ sizeLine; decide), fun a3 n3 => ⟨(by show 1 ≤ sizeLine; decide), fun p np => ?_⟩⟩⟩⟩
      have t1 := same_new (o := .tup [.str "num", .int 0]) n1
      have t2 := same_new (o := .tup []) n2
      have t3 := same_new (o := .tup [.str "while", .ref a1, .ref a2]) n3
      have t4 := same_new (o := .lst [.ref a3]) np
      have all := ((t1.trans t2).trans t3).trans t4
      have n34 : a3 ≠ p := ne_of_none upd_same np
      refine q p [.ref a3] _ (w5.same all) (fr5.same all) (k15.trans (Kp.same all)) ((k15.trans (Kp.same ((t1.trans t2).trans t3))).free np) upd_same (Nat.le_succ 1) fun z hz => ?_
      rw [List.mem_singleton.mp hz]
      exact .inr ⟨a3, "while", _, rfl, by rw [upd_ne n34, upd_same], .inr (.inl rfl)⟩
    · -- world['left'] = world['left'] - 2
      obtain ⟨kv5, hW5, dW5⟩ := w5.dct
      obtain ⟨lf, hlf⟩ := dW5.left
      refine ⟨_, rfl, u.W, _, rfl, dget_s hW5 hlf, _, _, rfl, rfl, _, rfl, u.W, _, rfl, DPut.k (k := Sum.inr "left") hW5 (szt (by have := dW5.len; omega)), ?_⟩
      obtain ⟨w6, fr6, k6⟩ := w5.left fr5 hW5 dW5 (lf - 2)
      have hc6 := k6.t _ _ hc5
      have ht6 := k6.t _ _ ht5
      have k16 := k15.trans k6
      generalize upd H5 u.W (.dK (putK kv5 (Sum.inr "left") (.int (lf - 2)))) = H6 at w6 fr6 hc6 ht6 k16 ⊢
      -- body, x
      refine ⟨_, rfl, _, rfl, fun d nd => ?_⟩
      have t7 := same_new (o := .dK []) nd
      have frd := FrAt.new w6 nd (kvs := []) (ks := []) rfl List.nodup_nil (fun x h => absurd h List.not_mem_nil)
      have zd : H d = none := k16.free nd
      have w7 := w6.same t7
      have fr7 := fr6.same t7
      have nDd : D ≠ d := by
        obtain ⟨kv, ks, hh, _⟩ := fr6.ex
        exact ne_of_none hh nd
      refine ⟨_, rfl, _, _, rfl, rfl, u, d, ?_, by omega, w7, frd, fun bd xs H8 w8 frd8 k8 np8 hb hbl hbx => ?_⟩
      · have e : ((2 : Int) - (((m + 1 : Nat)) : Int) + 1) = 2 - (m : Int) := by omega
        show [V.ref u.F, V.ref u.W, V.ref d, V.int ((2 : Int) - (((m + 1 : Nat)) : Int) + 1)] = _
        rw [e]
      have hc8 := k8.t _ _ (t7 _ _ hc6)
      have ht8 := k8.t _ _ (t7 _ _ ht6)
      have fr8 : FrAt u D H8 := fr7.step k8 fun e => e.elim (fr7.nF w7) fun e => e.elim fr7.nW nDd
      have k18 : Kp (M3 u D) H H8 := (k16.trans (Kp.same t7)).more k8 fun b e => e.elim (fun z => .inl (.inl z)) fun e => e.elim (fun z => .inl (.inr (.inl z))) fun z => .inr (by rw [z]; exact zd)
      obtain ⟨kv8, hW8, dW8⟩ := w8.dct
      refine ⟨_, rfl, u.W, _, rfl, dget_s hW8 dW8.cells, _, rfl, _, rfl, u.W, _, rfl, dget_s hW8 dW8.cells, u.cl, _, rfl, .inl (SqL.of w8.cl), u.F, _, rfl, w8.fl, by rw [lc]; have := w8.cn2; omega, by rw [lc]; have := w8.cn2; omega, fun g H9 g0 g1 f9 k9 => ?_⟩
      rw [lc] at g1
      have w9 := w8.draw k9 f9
      have fr9 := fr8.draw w8 k9
      obtain ⟨x, hx, hx2⟩ := str_at (xs := u.cs) g0 g1
      refine ⟨u.cl, _, _, _, rfl, rfl, SqL.of w9.cl, hx2, _, _, rfl, ?_⟩
      have hc9 := k9.t _ _ hc8
      have ht9 := k9.t _ _ ht8
      have hb9 := k9.t _ _ hb
      have k19 := k18.trans (k9.to3 (D := D))
      have cat : (rfl : (V.str cx) = V.str cx) = rfl := rfl
      have c1 : atI [V.str ("cell" : Str), V.str cx] 1 = some (.str cx) := rfl
      refine ⟨_, rfl, _, _, rfl, rfl, _, rfl, ?_⟩
      refine ite2 (fun e2 => ?_) (fun e2 => ?_)
      · -- set c = turns; while c: body, c = c - 1
        refine ⟨_, rfl, c, _, _, _, rfl, rfl, SqT.of hc9, c1, _, rfl, (by show 3 ≤ sizeLine; decide), fun a1 n1 => ?_⟩
        have t1 := same_new (o := .tup [.str "set", .str cx, .ref tr]) n1
        refine ⟨_, rfl, _, rfl, _, rfl, c, _, _, _, rfl, rfl, SqT.of (t1 _ _ hc9), c1, _, rfl, (by show 2 ≤ sizeLine; decide), fun a2 n2 => ?_⟩
        have t2 := same_new (o := .tup [.str "num", .int 1]) n2
        refine ⟨(by show 4 ≤ sizeLine; decide), fun a3 n3 => ⟨(by show 3 ≤ sizeLine; decide), fun a4 n4 => ⟨(by show 1 ≤ sizeLine; decide), fun a5 n5 => ?_⟩⟩⟩
        have t3 := same_new (o := .tup [.str "op", .str "-", .ref c, .ref a2]) n3
        have t4 := same_new (o := .tup [.str "set", .str cx, .ref a3]) n4
        have t5 := same_new (o := .tup [.ref a4]) n5
        have t15 := (((t1.trans t2).trans t3).trans t4).trans t5
        have fin : ∀ (b : Addr) (Hx : Hp), Same H9 Hx → Same (upd H9 a1 (.tup [.str "set", .str cx, .ref tr])) Hx → 3 ≤ sizeLine ∧ ∀ w, Hx w = none → 2 ≤ sizeLine ∧ ∀ p, (upd Hx w (.tup [.str "while", .ref c, .ref b])) p = none → Q (.ref p) (upd (upd Hx w (.tup [.str "while", .ref c, .ref b])) p (.lst [.ref a1, .ref w])) := fun b Hx sx sy => ⟨by decide, fun w nw => ⟨by decide, fun p np => by
          have t7 := same_new (o := .tup [.str "while", .ref c, .ref b]) nw
          have t8 := same_new (o := .lst [.ref a1, .ref w]) np
          have nwp : w ≠ p := ne_of_none upd_same np
          refine q p [.ref a1, .ref w] _ ((w9.same (sx.trans t7)).same t8) ((fr9.same (sx.trans t7)).same t8) ((k19.trans (Kp.same (sx.trans t7))).trans (Kp.same t8)) ((k19.trans (Kp.same (sx.trans t7))).free np) upd_same (Nat.le_refl 2) fun z hz => ?_
          rcases List.mem_cons.mp hz with e | e
          · rw [e]
            refine .inl ⟨.set cx .leaf, (fun z => nomatch z), ⟨a1, _, rfl, t8 _ _ (t7 _ _ (sy _ _ upd_same)), ⟨.ref tr, rfl, tr, "num", _, rfl, t8 _ _ (t7 _ _ (sx _ _ ht9)), by decide +kernel⟩⟩, (by show 1 ≤ 6; decide), fun x hx => absurd hx List.not_mem_nil⟩
          · rw [List.mem_singleton.mp e]
            exact .inr ⟨w, "while", _, rfl, t8 _ _ upd_same, .inr (.inl rfl)⟩⟩⟩
        refine ⟨bd, a5, xs, [.ref a4], rfl, rfl, SqT.of (t15 _ _ hb9), SqT.of upd_same, szl (by rw [List.length_singleton]; omega), fun e => ?_, fun e1 e2 => absurd e2 (List.cons_ne_nil _ _), fun _ _ a6 n6 => ?_⟩
        · exact fin a5 _ t15 ((((t2.trans t3).trans t4).trans t5))
        · have t6 := same_new (o := .tup (xs ++ [.ref a4])) n6
          exact fin a6 _ (t15.trans t6) (((((t2.trans t3).trans t4).trans t5)).trans t6)
      · -- little
        refine ⟨_, rfl, (by show 2 ≤ sizeLine; decide), fun a1 n1 => ⟨(by show 2 ≤ sizeLine; decide), fun a2 n2 => ?_⟩⟩
        have t1 := same_new (o := .tup [.str "cell", .str x]) n1
        have t2 := same_new (o := .lst [.int 3, .int 500000]) n2
        have w11 := (w9.same t1).same t2
        refine ⟨_, rfl, u.F, 2, rfl, w11.fl, by decide, by decide, fun b H12 b0 b1 f12 k12 => ?_⟩
        have w12 := w11.draw k12 f12
        have fr12 := ((fr9.same t1).same t2).draw w11 k12
        have n2F : a2 ≠ u.F := (w9.same t1).fl.nn n2
        obtain ⟨z, hz, _⟩ := at2r (x := 3) (y := 500000) b0 b1
        refine ⟨a2, _, _, _, rfl, rfl, SqL.of (k12.k _ _ upd_same n2F), hz, (by show 2 ≤ sizeLine; decide), fun a3 n3 => ⟨(by show 4 ≤ sizeLine; decide), fun li nli => ?_⟩⟩
        have t3 := same_new (o := .tup [.str "num", .int z]) n3
        have t4 := same_new (o := .tup [.str "op", .str "<", .ref a1, .ref a3]) nli
        have hc13 := t4 _ _ (t3 _ _ (k12.t _ _ (t2 _ _ (t1 _ _ hc9))))
        have ht13 := t4 _ _ (t3 _ _ (k12.t _ _ (t2 _ _ (t1 _ _ ht9))))
        have hb13 := t4 _ _ (t3 _ _ (k12.t _ _ (t2 _ _ (t1 _ _ hb9))))
        have w13 := (w12.same t3).same t4
        have fr13 := (fr12.same t3).same t4
        have k13 : Kp (M3 u D) H _ := (((k19.trans (Kp.same (t1.trans t2))).trans (k12.to3 (D := D))).trans (Kp.same t3)).trans (Kp.same t4)
        generalize upd (upd H12 a3 (.tup [.str "num", .int z])) li (.tup [.str "op", .str "<", .ref a1, .ref a3]) = H13 at hc13 ht13 hb13 w13 fr13 k13 ⊢
        -- test, more
        refine ⟨_, rfl, _, rfl, (by show 4 ≤ sizeLine; decide), fun b1 m1 => ⟨_, rfl, (by show 4 ≤ sizeLine; decide), fun b2 m2 => ?_⟩⟩
        have r1 := same_new (o := .tup [.str "op", .str "<", .ref c, .ref tr]) m1
        have r2 := same_new (o := .tup [.str "op", .str "*", .ref b1, .ref li]) m2
        refine ⟨_, rfl, c, _, _, _, rfl, rfl, SqT.of (r2 _ _ (r1 _ _ hc13)), c1, _, rfl, (by show 2 ≤ sizeLine; decide), fun b3 m3 => ⟨(by show 4 ≤ sizeLine; decide), fun b4 m4 => ⟨(by show 3 ≤ sizeLine; decide), fun b5 m5 => ⟨_, _, rfl, ?_⟩⟩⟩⟩
        have r3 := same_new (o := .tup [.str "num", .int 1]) m3
        have r4 := same_new (o := .tup [.str "op", .str "+", .ref c, .ref b3]) m4
        have r5 := same_new (o := .tup [.str "set", .str cx, .ref b4]) m5
        have r15 := (((r1.trans r2).trans r3).trans r4).trans r5
        refine ⟨_, rfl, c, _, _, _, rfl, rfl, SqT.of (r15 _ _ hc13), c1, (by show 2 ≤ sizeLine; decide), fun b6 m6 => ⟨(by show 3 ≤ sizeLine; decide), fun b7 m7 => ?_⟩⟩
        have r6 := same_new (o := .tup [.str "num", .int 0]) m6
        have r7 := same_new (o := .tup [.str "set", .str cx, .ref b6]) m7
        have h6 := r7 _ _ (upd_same (H := upd (upd (upd (upd (upd H13 b1 (.tup [.str "op", .str "<", .ref c, .ref tr])) b2 (.tup [.str "op", .str "*", .ref b1, .ref li])) b3 (.tup [.str "num", .int 1])) b4 (.tup [.str "op", .str "+", .ref c, .ref b3])) b5 (.tup [.str "set", .str cx, .ref b4])) (a := b6) (o := .tup [.str "num", .int 0]))
        have h7 : (upd (upd (upd (upd (upd (upd (upd H13 b1 (.tup [.str "op", .str "<", .ref c, .ref tr])) b2 (.tup [.str "op", .str "*", .ref b1, .ref li])) b3 (.tup [.str "num", .int 1])) b4 (.tup [.str "op", .str "+", .ref c, .ref b3])) b5 (.tup [.str "set", .str cx, .ref b4])) b6 (.tup [.str "num", .int 0])) b7 (.tup [.str "set", .str cx, .ref b6])) b7 = some (.tup [.str "set", .str cx, .ref b6]) := upd_same
        have r17 := (r15.trans r6).trans r7
        have w17 := w13.same r17
        have fr17 := fr13.same r17
        have k17 := k13.trans (Kp.same r17)
        have hb17 := r17 _ _ hb13
        generalize upd (upd (upd (upd (upd (upd (upd H13 b1 (.tup [.str "op", .str "<", .ref c, .ref tr])) b2 (.tup [.str "op", .str "*", .ref b1, .ref li])) b3 (.tup [.str "num", .int 1])) b4 (.tup [.str "op", .str "+", .ref c, .ref b3])) b5 (.tup [.str "set", .str cx, .ref b4])) b6 (.tup [.str "num", .int 0])) b7 (.tup [.str "set", .str cx, .ref b6]) = H17 at h6 h7 w17 fr17 k17 hb17 ⊢
        refine ⟨_, rfl, _, rfl, _, rfl, (by show 1 ≤ sizeLine; decide), fun b8 m8 => ?_⟩
        have r8 := same_new (o := .tup [.ref b5]) m8
        have fin : ∀ (b : Addr) (Hx : Hp), Same H17 Hx → 3 ≤ sizeLine ∧ ∀ w, Hx w = none → 2 ≤ sizeLine ∧ ∀ p, (upd Hx w (.tup [.str "while", .ref b2, .ref b])) p = none → Q (.ref p) (upd (upd Hx w (.tup [.str "while", .ref b2, .ref b])) p (.lst [.ref b7, .ref w])) := fun b Hx sx => ⟨by decide, fun w nw => ⟨by decide, fun p np => by
          have t7 := same_new (o := .tup [.str "while", .ref b2, .ref b]) nw
          have t8 := same_new (o := .lst [.ref b7, .ref w]) np
          refine q p [.ref b7, .ref w] _ ((w17.same (sx.trans t7)).same t8) ((fr17.same (sx.trans t7)).same t8) ((k17.trans (Kp.same (sx.trans t7))).trans (Kp.same t8)) ((k17.trans (Kp.same (sx.trans t7))).free np) upd_same (Nat.le_refl 2) fun z hz => ?_
          rcases List.mem_cons.mp hz with e | e
          · rw [e]
            refine .inl ⟨.set cx .leaf, (fun z => nomatch z), ⟨b7, _, rfl, t8 _ _ (t7 _ _ (sx _ _ h7)), ⟨.ref b6, rfl, b6, "num", _, rfl, t8 _ _ (t7 _ _ (sx _ _ h6)), by decide +kernel⟩⟩, (by show 1 ≤ 6; decide), fun x hx => absurd hx List.not_mem_nil⟩
          · rw [List.mem_singleton.mp e]
            exact .inr ⟨w, "while", _, rfl, t8 _ _ upd_same, .inr (.inl rfl)⟩⟩⟩
        refine ⟨bd, b8, xs, [.ref b5], rfl, rfl, SqT.of (r8 _ _ hb17), SqT.of upd_same, szl (by rw [List.length_singleton]; omega), fun e => ?_, fun e1 e2 => absurd e2 (List.cons_ne_nil _ _), fun _ _ b9 m9 => ?_⟩
        · exact fin b8 _ r8
        · exact fin b9 _ (r8.trans (same_new m9))
end
end K36
namespace K36
open PySem PySem.Spec PyProof.Rows L2
/-! ### times, calls -/
section
variable {P : Program} {w : World} {K : PySem.W.Frag} {mg : Str → Option Value} {base : Heap}
-- _law_again (printed by gen.py); slots: 0 _law_flow_here, 1 _law_world, 2 _law_fresh, 3 _law_statements, 4 _law_gone, 5 _law_rows_here, 6 _law_rounds, 7 _law_form, 8 _law_f, 9 _law_many, 10 _law_near, 11 _law_inner, 12 _law_x, 13 _law_one
abbrev nLAgain : List Str := ["_law_flow_here", "_law_world", "_law_fresh", "_law_statements", "_law_gone", "_law_rows_here", "_law_rounds", "_law_form", "_law_f", "_law_many", "_law_near", "_law_inner", "_law_x", "_law_one"]
abbrev pLAgain : List Str := ["_law_flow_here", "_law_world", "_law_fresh"]
theorem scLAgain : FnScope nLAgain pLAgain (defScope sLAgain) := ⟨rfl, rfl, rfl, by decide +kernel, rfl, by decide +kernel, by decide +kernel⟩
theorem PlOk.it {cs : List Str} {H : Hp} {v : V} (h : PlOk cs H v) : ∃ (a : Addr) (wd : Str) (its : List V), v = .ref a ∧ H a = some (.tup (.str wd :: its)) ∧ (wd = "set" ∨ wd = "read" → ∃ x r, its = .str x :: r) := by
  obtain ⟨r, nf, ⟨a, its, e, ha, hi⟩, _⟩ := h
  cases r with
  | set x t =>
    obtain ⟨z, rfl, _⟩ := hi
    exact ⟨a, "set", _, e, ha, fun _ => ⟨x, _, rfl⟩⟩
  | read x =>
    obtain ⟨z, rfl⟩ := hi
    exact ⟨a, "read", _, e, ha, fun _ => ⟨x, _, rfl⟩⟩
  | tell t =>
    obtain ⟨z, rfl, _⟩ := hi
    exact ⟨a, "tell", _, e, ha, fun z => z.elim (fun q => absurd q (by decide +kernel)) fun q => absurd q (by decide +kernel)⟩
  | sure ns =>
    obtain ⟨b, n, rfl, _⟩ := hi
    exact ⟨a, "sure", _, e, ha, fun z => z.elim (fun q => absurd q (by decide +kernel)) fun q => absurd q (by decide +kernel)⟩
  | fin => exact absurd rfl nf
theorem inV2 {wd a b : Str} (h : inV (.str wd) [.str a, .str b] = true) : wd = a ∨ wd = b := by
  have h' : a = wd ∨ b = wd := by simpa [inV, eqV] using h
  exact h'.imp Eq.symm Eq.symm
theorem at_mem {α : Type} {xs : List α} {i : Int} (h0 : 0 ≤ i) (h1 : i < (xs.length : Int)) : ∃ x, x ∈ xs ∧ atI xs i = some x := by
  have hl : i.toNat < xs.length := by omega
  exact ⟨xs[i.toNat], List.getElem_mem hl, at_nat (j := i.toNat) (by omega) (by rw [List.getElem?_eq_getElem hl])⟩
theorem WAt.keepS {u : Wd} {H H' : Hp} {d b : Addr} {gs : List Str} (a : WAt u H) (x : Kp (M3 u d) H H') (hd : b ≠ d) (h : H b = some (.lst (gs.map V.str))) : H' b = some (.lst (gs.map V.str)) := by
  refine x.k b _ h fun m => ?_
  rcases m with m | m | m
  · refine a.fl.ne h (fun p q r z => ?_) m
    have z2 : gs.map V.str = [.int p, .int q, .int r] := HO.lst.inj z
    cases gs with
    | nil => cases z2
    | cons y ys =>
      rw [List.map_cons] at z2
      cases (List.cons.inj z2).1
  · obtain ⟨kvs, hW, _⟩ := a.dct
    rw [m, hW] at h
    cases h
  · exact hd m
theorem WAt.nMd {u : Wd} {H : Hp} {d b : Addr} (a : WAt u H) (n : H b = none) (hd : b ≠ d) : ¬ M3 u d b := by
  intro m
  rcases m with m | m | m
  · exact a.fl.nn n m
  · obtain ⟨kvs, hW, _⟩ := a.dct
    exact ne_of_none hW n m.symm
  · exact hd m
theorem ok_again (T : Bi mg) (a : At K mg "_law_again" sLAgain pLAgain) (cLDraw : Cal P w K mg base CX0 "_law_draw" 1 pLDraw spD) (cLSmall : Cal P w K mg base CX0 "_law_small" 8 pLSmall spSm) : Cal P w K mg base CX0 "_law_again" 9 pLAgain spAgain := by
  refine Cal.of a scLAgain (fun vs H Q E h => ?_) (fun f cdv A outer s H vs Q E hr h => ?_)
  · obtain ⟨u, D, rfl, _⟩ := h
    rfl
  · obtain ⟨u, D, rfl, wa, fr, q⟩ := h
    refine ⟨_, (pss_cons (ps_asg (pe_tup (pa_cons (pe_lst pa_nil) (pa_cons (pe_lst pa_nil) (pa_cons pe_int (pa_cons pe_bl pa_nil))))) (pg_tup rfl (pgs_cons (pg_name (i := 3) scLAgain.nd rfl (.inl rfl)) (pgs_cons (pg_name (i := 4) scLAgain.nd rfl (.inl rfl)) (pgs_cons (pg_name (i := 5) scLAgain.nd rfl (.inl rfl)) (pgs_cons (pg_name (i := 6) scLAgain.nd rfl (.inl rfl)) pgs_nil)))))) -- _law_statements, _law_gone, _law_rows_here, _law_rounds = ([], [], 0, False)
      (pss_cons (ps_set (i := 7) scLAgain.nd rfl (.inl rfl) (pe_c cLDraw hr pass0 (pa_cons (pv 0) (pa_cons pe_int pa_nil)))) -- _law_form = _law_draw(_law_flow_here, 3)
      (Evl.pss_cut (ps_if (PW.pt (pw_and (pt_cmpR op_gt (pe_callB call_len_seq (by rfl) T.len bo_len (pa_cons (pe_dget (hu_of hr) (pv 1) pe_str (fun _ _ => rfl)) pa_nil)) pe_int (nomark _)) (pw_and1 (pt_cmpR op_gt (pv 7) pe_int (nomark _)))))
        (pss_cons (ps_set (i := 8) scLAgain.nd rfl (.inl rfl) (pe_ix ix_tup (pe_ix ix_list (pe_dget (hu_of hr) (pv 1) pe_str (fun _ _ => rfl)) (pe_c cLDraw hr pass0 (pa_cons (pv 0) (pa_cons (pe_callB call_len_seq (by rfl) T.len bo_len (pa_cons (pe_dget (hu_of hr) (pv 1) pe_str (fun _ _ => rfl)) pa_nil)) pa_nil))) (fun _ _ => rfl)) pe_int (fun _ _ => rfl))) -- _law_f = _law_world['helpers'][_law_draw(_law_flow_here, len(_law_world['helpers']))][0]
        (pss_cons (ps_asg (pe_dget (hu_of hr) (pe_dget (hu_of hr) (pv 1) pe_str (fun _ _ => rfl)) (pv 8) (fun _ _ => rfl)) (pg_tup rfl (pgs_cons (pg_name (i := 4) scLAgain.nd rfl (.inl rfl)) (pgs_cons (pg_name (i := 5) scLAgain.nd rfl (.inl rfl)) (pgs_cons (pg_name (i := 6) scLAgain.nd rfl (.inl rfl)) pgs_nil))))) -- _law_gone, _law_rows_here, _law_rounds = _law_world['about'][_law_f]
        (pss_one (ps_expr (pe_bm PySem.F.plainAttrs_list PySem.F.slot_list_append PySem.F.type_list_append mt_append (pv 3) (pa_cons (pe_tup (pa_cons pe_str (pa_cons (pv 8) pa_nil))) pa_nil))))))
        pss_nil) -- if len(_law_world['helpers']) > 0 and _law_form > 0:
      (Evl.pss_cut (ps_if (pt_cmpR op_lt (pv 7) pe_int (nomark _))
        (pss_cons (ps_par (i := 9) (j := 10) rfl scLAgain.nd rfl rfl (by decide) rfl rfl (pa_cons (pe_op op_add pe_int (pe_c cLDraw hr pass0 (pa_cons (pv 0) (pa_cons pe_int pa_nil)))) (pa_cons pe_dnewK pa_nil)) (by rfl)) -- _law_many, _law_near = (1 + _law_draw(_law_flow_here, 3), {})
        (pss_cons (ps_set (i := 11) scLAgain.nd rfl (.inl rfl) (pe_op op_cat (pe_c cLSmall hr pass0 (pa_cons (pv 0) (pa_cons (pv 1) (pa_cons (pv 10) pa_nil)))) (pe_op op_rep (pe_c cLSmall hr pass0 (pa_cons (pv 0) (pa_cons (pv 1) (pa_cons (pv 10) pa_nil)))) (pe_callTy call_int1 (by rfl) T.int bo_int (pa_cons (pe_cmpR op_eq (pv 7) pe_int (nomark _)) pa_nil))))) -- _law_inner = _law_small(_law_flow_here, _law_world, _law_near) + _law_small(_law_flow_here, _law_world, _law_n
        (pss_cons (ps_set (i := 4) scLAgain.nd rfl (.inl rfl) (pe_op op_cat (pv 4) (pe_lc (own := [("_law_one", 13)]) (g := gName 13) rfl scLAgain.nd (pi_list (pv 11)) (blkOk_by (own := [("_law_one", 13)]) (N := nLAgain) (sc := defScope sLAgain) (by decide +kernel)) (fun _ _ _ _ _ => (pg_name (i := 13) scLAgain.nd rfl (.inl rfl))) (fun _ _ _ _ _ => (pts_one (pt_cmpR (inK (K := K) rfl) (pe_ix (ixT (K := K) rfl) (pv 13) pe_int (fun _ _ => rfl)) (pe_tup (pa_cons pe_str (pa_cons pe_str pa_nil))) (by rfl)))) (fun _ _ _ _ _ => (pe_ix (ixT (K := K) rfl) (pv 13) pe_int (fun _ _ => rfl)))))) -- _law_gone = _law_gone + [_law_one[1] for _law_one in _law_inner if _law_one[0] in ('set', 'read')]
        (pss_cons (ps_set (i := 5) scLAgain.nd rfl (.inl rfl) (pe_op op_mul (pv 9) (pe_op op_add (pe_callB call_len_seq (by rfl) T.len bo_len (pa_cons (pv 11) pa_nil)) (pv 5)))) -- _law_rows_here = _law_many * (len(_law_inner) + _law_rows_here)
        (pss_one (ps_set (i := 3) scLAgain.nd rfl (.inl rfl) (pe_lst (pa_cons (pe_tup (pa_cons pe_str (pa_cons (pv 9) (pa_cons (pe_callTy call_tuple_of (by rfl) T.tuple bo_tuple (pa_cons (pe_op op_cat (pv 11) (pv 3)) pa_nil)) pa_nil)))) pa_nil))))))))
        pss_nil) -- if _law_form < 2:
      (pss_cons (ps_if (PW.pt (pw_or (pt_cmpR op_gt (pv 5) (pe_dget (hu_of hr) (pv 1) pe_str (fun _ _ => rfl)) (nomark _)) (pw_or1 (pt_cmpR (op_eqNil hr.units) (pv 3) (pe_lst pa_nil) (nomark _)))))
        (pss_one (ps_ret (pe_c cLSmall hr pass0 (pa_cons (pv 0) (pa_cons (pv 1) (pa_cons (pv 2) pa_nil))))))
        pss_nil) -- if _law_rows_here > _law_world['left'] or _law_statements == []:
      (pss_cons (ps_for PassesOwn.never rfl (pi_list (pe_callTy (call_listD rfl) (by rfl) T.list bo_list (pa_cons (pv 2) pa_nil))) (pg_name (i := 12) scLAgain.nd rfl (.inl rfl))
        (pss_one (ps_if (PW.pt (pw_or (pt_val (pv 6)) (pw_or1 (pt_cmpR op_in_seq (pv 12) (pv 4) (by rfl)))))
          (pss_one (ps_expr (pe_dpop1 (pv 2) (pv 12) ⟨rfl, rfl, rfl, rfl⟩)))
          pss_nil))) -- for _law_x in list(_law_fresh):
      (pss_cons (ps_dput (hu_of hr) (pv 1) pe_str (pe_op op_sub (pe_dget (hu_of hr) (pv 1) pe_str (fun _ _ => rfl)) (pv 5)) rfl) -- _law_world['left'] = _law_world['left'] - _law_rows_here
      (pss_one (ps_ret (pv 3)))))))))), ?_⟩
    refine ⟨Nat.zero_le _, fun st nst => ⟨Nat.zero_le _, fun gn ngn => ⟨(by show 4 ≤ sizeLine; decide), fun p0 np0 => ⟨p0, _, rfl, SqT.of upd_same, rfl, _, _, rfl, _, _, rfl, _, _, rfl, _, _, rfl, rfl, ?_⟩⟩⟩⟩
    have s1 := same_new (o := .lst []) nst
    have s2 := same_new (o := .lst []) ngn
    have s3 := same_new (o := .tup [.ref st, .ref gn, .int 0, .bl false]) np0
    have s13 := (s1.trans s2).trans s3
    have hs3 := s3 _ _ (s2 _ _ (upd_same (H := H) (a := st) (o := .lst [])))
    have hg3 := s3 _ _ (upd_same (H := upd H st (.lst [])) (a := gn) (o := .lst []))
    have zg : H gn = none := (Kp.same (M := M3 u D) s1).free ngn
    have nsg : st ≠ gn := ne_of_none upd_same ngn
    have w3 := wa.same s13
    have fr3 := fr.same s13
    have k3 : Kp (M3 u D) H _ := Kp.same s13
    generalize upd (upd (upd H st (.lst [])) gn (.lst [])) p0 (.tup [.ref st, .ref gn, .int 0, .bl false]) = H3 at hs3 hg3 w3 fr3 k3 ⊢
    clear s1 s2 s3 s13 np0 ngn
    refine ⟨_, rfl, u.F, 3, rfl, w3.fl, by decide, by decide, fun fm H4 f0 f1 fl4 k4 => ?_⟩
    have w4 := w3.draw k4 fl4
    have fr4 := fr3.draw w3 k4
    have k14 := k3.trans (k4.to3 (D := D))
    have hs4 := k4.k _ _ hs3 (wa.fl.nn nst)
    have hg4 := k4.k _ _ hg3 (wa.fl.nn zg)
    -- what stands behind the first if
    refine ⟨fun σ' H' => ∃ (gn : Addr) (gs : List Str) (rw : Int) (rd : Bool) (y8 : Option V) (xs : List V), σ' = [some (.ref u.F), some (.ref u.W), some (.ref D), some (.ref st), some (.ref gn), some (.int rw), some (.bl rd), some (.int fm), y8, none, none, none, none, none] ∧
      xs.length ≤ 1 ∧ H' st = some (.lst xs) ∧ (∀ v ∈ xs, CpOk H' v) ∧ H' gn = some (.lst (gs.map V.str)) ∧ gs.length ≤ 100 ∧ WAt u H' ∧ FrAt u D H' ∧ Kp (M3 u D) H H', ?_, fun σ' H5 hJ => ?_⟩
    · obtain ⟨kvs, hW, dW⟩ := w4.dct
      obtain ⟨hs, akvs, gh1, hh2, gh3, hh4, gh5⟩ := wa.hl
      have hh1 : H4 u.hl = some (.lst hs) := by
        refine k14.k _ _ gh1 fun m => ?_
        rcases m with m | m | m
        · refine wa.fl.ne gh1 (fun p q r z => ?_) m
          have z2 := HO.lst.inj z
          obtain ⟨_, _, _, _, _, _, _, _, e, _⟩ := gh5 (.int p) (by rw [z2]; exact List.mem_cons_self)
          cases e
        · obtain ⟨kv, hw, _⟩ := wa.dct
          rw [m, hw] at gh1
          cases gh1
        · obtain ⟨kv, ks, hw, _⟩ := fr.ex
          rw [m, hw] at gh1
          cases gh1
      have hh3 : H4 u.ab = some (.dK akvs) := by
        refine k14.k _ _ gh3 fun m => ?_
        rcases m with m | m | m
        · exact wa.fl.ne gh3 (fun p q r z => by cases z) m
        · exact wa.nab m
        · exact fr.nab m.symm
      refine ⟨_, rfl, u.W, _, rfl, dget_s hW dW.helpers, u.hl, hs, rfl, .inl (SqL.of hh1), _, _, rfl, rfl, _, rfl, ?_⟩
      refine ite2 (fun c1 => ?_) (fun c1 => ?_)
      · refine ⟨_, rfl, _, _, rfl, rfl, _, rfl, ?_⟩
        refine ite2 (fun c2 => ?_) (fun c2 => ?_)
        · have lp : (0 : Int) < hs.length := of_decide_eq_true c1
          refine ⟨_, rfl, u.W, _, rfl, dget_s hW dW.helpers, _, rfl, _, rfl, u.W, _, rfl, dget_s hW dW.helpers, u.hl, hs, rfl, .inl (SqL.of hh1), u.F, _, rfl, w4.fl, by omega, by omega, fun g H5 g0 g1 fl5 k5 => ?_⟩
          obtain ⟨v, hv, hat⟩ := at_mem (xs := hs) g0 g1
          obtain ⟨ha, f', b, t, g', gs, n, r, rfl, a2, e3, a4, a5, e6⟩ := gh5 v hv
          have e2 := k14.t _ _ a2
          have e4 := k14.t _ _ a4
          have e5 : H4 g' = some (.lst (gs.map V.str)) := wa.keepS k14 (fun e => by
            obtain ⟨kv, ks, hD, _⟩ := fr.ex
            rw [e, hD] at a5
            cases a5) a5
          have w5 := w4.draw k5 fl5
          have fr5 := fr4.draw w4 k5
          have nL : ∀ (xs : List V), (∀ p q r, (HO.lst xs) ≠ .lst [.int p, .int q, .int r]) → ∀ b, H4 b = some (.lst xs) → H5 b = some (.lst xs) := fun xs n b hb => k5.k _ _ hb (w4.fl.ne hb n)
          have hh15 : H5 u.hl = some (.lst hs) := nL _ (fun p q r z => by
            have z2 := HO.lst.inj z
            rw [z2] at hv
            rcases List.mem_cons.mp hv with e | hv
            · cases e
            rcases List.mem_cons.mp hv with e | hv
            · cases e
            · cases List.mem_singleton.mp hv) _ hh1
          refine ⟨u.hl, hs, g, _, rfl, rfl, SqL.of hh15, hat, ha, _, 0, _, rfl, rfl, SqT.of (k5.t _ _ e2), rfl, ?_⟩
          have hW5 := k5.k _ _ hW w4.nW
          have hA5 : H5 u.ab = some (.dK akvs) := k5.k _ _ hh3 (w4.fl.ne hh3 (fun p q r z => by cases z))
          have e55 : H5 g' = some (.lst (gs.map V.str)) := w4.keepS (d := D) (k5.to3) (fun e => by
            obtain ⟨kv, ks, hD, _⟩ := fr4.ex
            rw [e, hD] at e5
            cases e5) e5
          refine ⟨_, rfl, u.W, _, rfl, dget_s hW5 dW.about, _, rfl, u.ab, _, rfl, dget_s hA5 e3, t, _, rfl, SqT.of (k5.t _ _ e4), rfl, _, _, rfl, _, _, rfl, _, _, rfl, rfl, ?_⟩
          have k15 := k14.trans (k5.to3 (D := D))
          have hs5 := k5.k _ _ hs4 (wa.fl.nn nst)
          refine ⟨_, rfl, .inl ⟨rfl, _, SqL.of hs5⟩, _, rfl, (by show 2 ≤ sizeLine; decide), fun cp ncp => ⟨st, [], _, rfl, rfl, ?_, by decide, ?_⟩⟩
          · exact same_new ncp _ _ hs5
          have s6 := same_new (o := .tup [.str "call", .str f']) ncp
          have hc6 : (upd H5 cp (.tup [.str "call", .str f'])) cp = some (.tup [.str "call", .str f']) := upd_same
          have w6 := w5.same s6
          have fr6 := fr5.same s6
          have k16 := k15.trans (Kp.same s6)
          have hs6 := s6 _ _ hs5
          have hg6 := s6 _ _ e55
          generalize upd H5 cp (.tup [.str "call", .str f']) = H6 at hc6 w6 fr6 k16 hs6 hg6 ⊢
          obtain ⟨w7, k7⟩ := wa.mutNew fr k16 w6 nst (.lst ([] ++ [V.ref cp]))
          have ks : Kp (Is st) H6 (upd H6 st (.lst ([] ++ [V.ref cp]))) := Kp.upd rfl hs6 lst_ne_tup
          have gne : g' ≠ st := ne_of_none a5 nst
          refine ⟨g', gs, n, r, _, [.ref cp], rfl, Nat.le_refl 1, upd_same, fun v hv => ?_, ks.k _ _ hg6 gne, by omega, w7, fr6.step ks (fun e => wa.nM3 fr nst (.inr (.inr e.symm))), k7⟩
          rw [List.mem_singleton.mp hv]
          exact ⟨cp, "call", _, rfl, ks.t _ _ hc6, .inr (.inr (.inr rfl))⟩
        · exact ⟨gn, [], 0, false, none, [], rfl, Nat.zero_le _, hs4, fun v h => absurd h List.not_mem_nil, hg4, Nat.zero_le _, w4, fr4, k14⟩
      · exact ⟨gn, [], 0, false, none, [], rfl, Nat.zero_le _, hs4, fun v h => absurd h List.not_mem_nil, hg4, Nat.zero_le _, w4, fr4, k14⟩
    · obtain ⟨gn, gs, rw, rd, y8, xs, rfl, hxl, hst, hxs, hgn, hgl, w5, fr5, k5⟩ := hJ
      refine ⟨fun σ' H' => ∃ (st : Addr) (gn : Addr) (gs : List Str) (rw : Int) (rd : Bool) (y8 y9 y10 y11 : Option V) (xs : List V), σ' = [some (.ref u.F), some (.ref u.W), some (.ref D), some (.ref st), some (.ref gn), some (.int rw), some (.bl rd), some (.int fm), y8, y9, y10, y11, none, none] ∧
        xs.length ≤ 1 ∧ H' st = some (.lst xs) ∧ (∀ v ∈ xs, CpOk H' v) ∧ H' gn = some (.lst (gs.map V.str)) ∧ gs.length ≤ 104 ∧ WAt u H' ∧ FrAt u D H' ∧ Kp (M3 u D) H H' ∧ H st = none, ?_, fun σ' H6 hJ => ?_⟩
      · refine ⟨_, rfl, _, _, rfl, rfl, _, rfl, ?_⟩
        refine ite2 (fun c1 => ?_) (fun c1 => ?_)
        · refine ⟨_, rfl, u.F, 3, rfl, w5.fl, by decide, by decide, fun mn H6 m0 m1 fl6 k6 => ⟨_, _, rfl, rfl, fun near nn => ⟨_, _, rfl, ?_⟩⟩⟩
          have w6 := w5.draw k6 fl6
          have fr6 := fr5.draw w5 k6
          have k16 := k5.trans (k6.to3 (D := D))
          have zn : H near = none := k16.free nn
          have t7 := same_new (o := .dK []) nn
          have frn := FrAt.new w6 nn (kvs := []) (ks := []) rfl List.nodup_nil (fun x h => absurd h List.not_mem_nil)
          have w7 := w6.same t7
          have fr7 := fr6.same t7
          have hs7 := t7 _ _ (k6.k _ _ hst (wa.fl.nn nst))
          have hg7 := t7 _ _ (w5.keepS (d := near) k6.to3 (fun e => by rw [e] at hgn; exact absurd (k6.e _ _ hgn) (fun ⟨o, ho⟩ => by rw [nn] at ho; cases ho)) hgn)
          have k17 := k16.trans (Kp.same t7)
          generalize upd H6 near (.dK []) = H7 at t7 frn w7 fr7 hs7 hg7 k17 ⊢
          have sne : st ≠ near := fun e => by rw [e] at hst; exact absurd (k6.e _ _ hst) (fun ⟨o, ho⟩ => by rw [nn] at ho; cases ho)
          have gne : gn ≠ near := fun e => by rw [e] at hgn; exact absurd (k6.e _ _ hgn) (fun ⟨o, ho⟩ => by rw [nn] at ho; cases ho)
          have nDn : D ≠ near := by
            obtain ⟨kv, ks, hh, _⟩ := fr.ex
            exact ne_of_none hh zn
          have mv : ∀ {H1 H2}, Kp (M3 u D) H H1 → Kp (M3 u near) H1 H2 → Kp (M3 u D) H H2 := fun a b => a.more b fun b e => e.elim (fun z => .inl (.inl z)) fun e => e.elim (fun z => .inl (.inr (.inl z))) fun z => .inr (by rw [z]; exact zn)
          refine ⟨_, rfl, _, rfl, _, rfl, u, near, rfl, w7, frn, fun p1 v1 H8 w8 frn8 k8 np1 hp1 pl1 => ?_⟩
          have k18 := mv k17 k8
          have hs8 := k8.k _ _ hs7 (wa.nMd nst sne)
          have hg8 := w7.keepS k8 gne hg7
          have hx8 : ∀ v ∈ xs, CpOk H8 v := fun v hv => (hxs v hv).tl (k6.tl.trans ((TL.of t7).trans k8.tl))
          have fr8 : FrAt u D H8 := fr7.step k8 fun e => e.elim (fr7.nF w7) fun e => e.elim fr7.nW nDn
          refine ⟨_, rfl, _, rfl, _, rfl, u, near, rfl, w8, frn8, fun p2 v2 H9 w9 frn9 k9 np2 hp2 pl2 => ?_⟩
          have k19 := mv k18 k9
          have hs9 := k9.k _ _ hs8 (wa.nMd nst sne)
          have hg9 := w8.keepS k9 gne hg8
          have hx9 : ∀ v ∈ xs, CpOk H9 v := fun v hv => (hx8 v hv).tl k9.tl
          have fr9 : FrAt u D H9 := fr8.step k9 fun e => e.elim (fr8.nF w8) fun e => e.elim fr8.nW nDn
          have p1n : p1 ≠ near := by
            obtain ⟨kv, ks, hh, _⟩ := frn.ex
            exact (ne_of_none hh np1).symm
          have hp19 := k9.k _ _ hp1 (w7.nMd np1 p1n)
          have pl19 := pl1.tl k9.tl
          refine ⟨_, rfl, rfl, .inr ⟨_, rfl, ?_⟩⟩
          generalize (decide (V.int fm = V.int 0)) = kz
          -- inner
          have rep : ∃ ys : List V, (List.replicate ((if kz = true then 1 else 0 : Int)).toNat [v2]).flatten = ys ∧ ys.length ≤ 1 ∧ ∀ v ∈ ys, v = v2 := by
            cases kz
            · exact ⟨[], rfl, Nat.zero_le _, fun v h => absurd h List.not_mem_nil⟩
            · exact ⟨[v2], rfl, Nat.le_refl _, fun v h => List.mem_singleton.mp h⟩
          obtain ⟨ys, ey, yl, yv⟩ := rep
          refine ⟨p2, _, [v2], rfl, rfl, hp2, by split <;> decide, by split <;> decide, by show 1 * _ ≤ _; split <;> decide, fun p3 np3 => ?_⟩
          rw [ey]
          have t10 := same_new (o := .lst ys) np3
          refine ⟨p1, p3, [v1], ys, rfl, rfl, t10 _ _ hp19, upd_same, szl (by rw [List.length_singleton]; omega), fun inn ninn => ?_⟩
          have t11 := same_new (o := .lst ([v1] ++ ys)) ninn
          have t911 := t10.trans t11
          have hi11 : (upd (upd H9 p3 (.lst ys)) inn (.lst ([v1] ++ ys))) inn = some (.lst ([v1] ++ ys)) := upd_same
          have pls : ∀ v ∈ [v1] ++ ys, PlOk u.cs H9 v := fun v hv => by
            rcases List.mem_append.mp hv with e | e
            · rw [List.mem_singleton.mp e]
              exact pl19
            · rw [yv v e]
              exact pl2
          have w11 := w9.same t911
          have fr11 := fr9.same t911
          have k11 := k19.trans (Kp.same t911)
          have hs11 := t911 _ _ hs9
          have hg11 := t911 _ _ hg9
          have hx11 : ∀ v ∈ xs, CpOk _ v := fun v hv => (hx9 v hv).tl (TL.of t911)
          have pl11 : ∀ v ∈ [v1] ++ ys, PlOk u.cs _ v := fun v hv => (pls v hv).tl (TL.of t911)
          have il : ([v1] ++ ys).length ≤ 2 := by rw [List.length_append, List.length_singleton]; omega
          generalize upd (upd H9 p3 (.lst ys)) inn (.lst ([v1] ++ ys)) = H11 at hi11 w11 fr11 k11 hs11 hg11 hx11 pl11 ⊢
          generalize ([v1] ++ ys) = its at hi11 pl11 il ⊢
          -- gone + [..]
          refine ⟨_, rfl, _, rfl, inn, rfl, ⟨_, SqL.of hi11⟩, fun Dl nDl => ?_⟩
          have s12 := same_new (o := .lst []) nDl
          refine lc_list (fun i H' => ∃ ns : List Str, ns.length ≤ i ∧ H' Dl = some (.lst (ns.map V.str)) ∧ Same H11 H') ⟨[], Nat.zero_le _, upd_same, s12⟩ (fun i H' _ hP => SqL.of (hP.choose_spec.2.2 _ _ hi11)) (fun i x H' hx hP => ?_) (fun H' hP => ?_)
          · obtain ⟨ns, nl, hD, sm⟩ := hP
            obtain ⟨a1, wd, r1, rfl, ha1, hw1⟩ := (pl11 x (List.mem_of_getElem? hx)).it
            have ha1' := sm _ _ ha1
            refine ⟨rfl, _, rfl, a1, _, 0, .str wd, rfl, rfl, SqT.of ha1', at_nat (j := 0) rfl rfl, (by show 2 ≤ sizeLine; decide), fun tp ntp => ⟨tp, _, rfl, .inr (SqT.of upd_same), rfl, rfl, _, rfl, ?_⟩⟩
            have s13 := same_new (o := .tup [.str "set", .str "read"]) ntp
            refine ite2 (fun c => ?_) (fun c => ?_)
            · obtain ⟨y, r2, rfl⟩ := hw1 (inV2 c)
              refine ⟨_, rfl, a1, _, 1, _, rfl, rfl, SqT.of (s13 _ _ ha1'), at_nat (j := 1) rfl rfl, ns.map V.str, s13 _ _ hD, szt (by rw [List.length_map]; have := List.getElem?_eq_some_iff.mp hx; obtain ⟨h1, _⟩ := this; omega), ns ++ [y], ?_, ?_, ?_⟩
              · rw [List.length_append, List.length_singleton]; omega
              · rw [List.map_append]; exact upd_same
              · exact Same.mut (H := H11) (sm.trans s13) nDl
            · exact ⟨ns, by omega, s13 _ _ hD, sm.trans s13⟩
          · obtain ⟨ns, nl, hD, sm⟩ := hP
            refine ⟨gn, Dl, gs.map V.str, ns.map V.str, rfl, rfl, sm _ _ hg11, hD, szl (by rw [List.length_map, List.length_map]; omega), fun gn2 ngn2 => ?_⟩
            have s14 := same_new (o := .lst (gs.map V.str ++ ns.map V.str)) ngn2
            have sm2 := sm.trans s14
            have hg14 : (upd H' gn2 (.lst (gs.map V.str ++ ns.map V.str))) gn2 = some (.lst ((gs ++ ns).map V.str)) := by rw [upd_same, List.map_append]
            generalize upd H' gn2 (.lst (gs.map V.str ++ ns.map V.str)) = H14 at sm2 hg14 ⊢
            refine ⟨_, rfl, _, rfl, inn, its, rfl, .inl (SqL.of (sm2 _ _ hi11)), _, rfl, _, _, rfl, rfl, _, _, rfl, rfl, .inl ⟨by omega, by omega⟩, ?_⟩
            refine ⟨_, rfl, _, rfl, _, rfl, inn, st, its, xs, rfl, rfl, sm2 _ _ hi11, sm2 _ _ hs11, szl (by omega), fun p5 np5 => ?_⟩
            have s15 := same_new (o := .lst (its ++ xs)) np5
            refine ⟨p5, its ++ xs, rfl, .inl ⟨SqL.of upd_same, fun p6 np6 => ?_⟩⟩
            have s16 := same_new (o := .tup (its ++ xs)) np6
            refine ⟨(by show 3 ≤ sizeLine; decide), fun p7 np7 => ⟨(by show 1 ≤ sizeLine; decide), fun st2 nst2 => ?_⟩⟩
            have s17 := same_new (o := .tup [.str "times", .int (1 + mn), .ref p6]) np7
            have s18 := same_new (o := .lst [.ref p7]) nst2
            have s58 := ((s15.trans s16).trans s17).trans s18
            have sm3 := sm2.trans s58
            have k18 := k11.trans (Kp.same sm2)
            refine ⟨st2, gn2, gs ++ ns, _, rd, y8, _, _, _, [.ref p7], rfl, Nat.le_refl 1, upd_same, fun v hv => ?_, s58 _ _ hg14, by rw [List.length_append]; omega, w11.same sm3, fr11.same sm3, k11.trans (Kp.same sm3), ?_⟩
            · rw [List.mem_singleton.mp hv]
              exact ⟨p7, "times", _, rfl, s18 _ _ upd_same, .inr (.inr (.inl rfl))⟩
            · exact (k18.trans (Kp.same ((s15.trans s16).trans s17))).free nst2
        · exact ⟨st, gn, gs, rw, rd, y8, none, none, none, xs, rfl, hxl, hst, hxs, hgn, by omega, w5, fr5, k5, nst⟩
      · obtain ⟨st, gn, gs, rw, rd, y8, y9, y10, y11, xs, rfl, hxl, hst, hxs, hgn, hgl, w6, fr6, k6, nst⟩ := hJ
        -- what the small one at the end promises
        have small : ∀ H', WAt u H' → FrAt u D H' → Kp (M3 u D) H H' → spSm [.ref u.F, .ref u.W, .ref D] H' Q E0 := fun H' w' fr' k' => ⟨u, D, rfl, w', fr', fun p v H2 h1 h2 h3 h4 h5 h6 => q p [v] H2 h1 h2 (k'.trans h3) (k'.free h4) h5 (Nat.le_succ 1) fun z hz => by rw [List.mem_singleton.mp hz]; exact .inl h6⟩
        obtain ⟨kvs, hW, dW⟩ := w6.dct
        obtain ⟨lf, hlf⟩ := dW.left
        have goon : ∀ H', Same H6 H' → FrAt u D H' := fun H' h => fr6.same h
        refine ⟨_, rfl, _, rfl, u.W, _, rfl, dget_s hW hlf, _, _, rfl, rfl, _, rfl, ?_⟩
        refine ite2 (fun c1 => ?_) (fun c1 => ?_)
        · exact ⟨_, rfl, _, rfl, _, rfl, small H6 w6 fr6 k6⟩
        · refine ⟨_, rfl, Nat.zero_le _, fun e ne => ⟨st, e, xs, rfl, rfl, SqL.of (same_new ne _ _ hst), SqL.of upd_same, _, rfl, ?_⟩⟩
          have s7 := same_new (o := .lst []) ne
          have w7 := w6.same s7
          have fr7 := fr6.same s7
          have k7 := k6.trans (Kp.same s7)
          have hst7 := s7 _ _ hst
          have hgn7 := s7 _ _ hgn
          have hx7 : ∀ v ∈ xs, CpOk _ v := fun v hv => (hxs v hv).tl (TL.of s7)
          generalize upd H6 e (.lst []) = H7 at w7 fr7 k7 hst7 hgn7 hx7 ⊢
          refine ite2 (fun c2 => ?_) (fun c2 => ?_)
          · exact ⟨_, rfl, _, rfl, _, rfl, small H7 w7 fr7 k7⟩
          · -- for x in list(fresh)
            obtain ⟨fk, fs, hD, e1, e2, e3, e4, e5⟩ := fr7.sz w7
            have key : ∀ (i : Nat) x, (fk.map fun kv => kV kv.1)[i]? = some x → ∃ y, fs[i]? = some y ∧ x = .str y := by
              intro i x hx
              have e0 : (fk.map fun kv => kV kv.1) = fs.map V.str := by
                have : (fk.map fun kv => kV kv.1) = (fk.map (·.1)).map kV := by rw [List.map_map]; rfl
                rw [this, e1, List.map_map]
                rfl
              rw [e0, List.getElem?_map] at hx
              cases hy : fs[i]? with
              | none => rw [hy] at hx; cases hx
              | some y => rw [hy] at hx; exact ⟨y, rfl, (Option.some.inj hx).symm⟩
            refine ⟨_, rfl, D, fk, rfl, .inl hD, fun pl npl => ⟨pl, rfl, ⟨_, SqL.of upd_same⟩, ?_⟩⟩
            have s8 := same_new (o := .lst (fk.map fun kv => kV kv.1)) npl
            have npD : pl ≠ D := (ne_of_none hD npl).symm
            have zp : H pl = none := k7.free npl
            have nsD : st ≠ D := by
              obtain ⟨kv, ks, hh, _⟩ := fr.ex
              exact (ne_of_none hh nst).symm
            have ngD : gn ≠ D := fun e => by rw [e, hD] at hgn7; cases hgn7
            refine for_list (fun i σ' H' => ∃ (y12 : Option V) (kv : List (Key × V)) (ks : List Str), σ' = [some (.ref u.F), some (.ref u.W), some (.ref D), some (.ref st), some (.ref gn), some (.int rw), some (.bl rd), some (.int fm), y8, y9, y10, y11, y12, none] ∧
              H' pl = some (.lst (fk.map fun kv => kV kv.1)) ∧ H' D = some (.dK kv) ∧ kv.map (·.1) = ks.map Sum.inr ∧ ks.Nodup ∧ (∀ x ∈ ks, x ∈ u.cs) ∧ (∀ j y, i ≤ j → fs[j]? = some y → y ∈ ks) ∧ WAt u H' ∧ FrAt u D H' ∧ Kp (M3 u D) H H' ∧ H' st = some (.lst xs) ∧ (∀ v ∈ xs, CpOk H' v) ∧ H' gn = some (.lst (gs.map V.str)))
              ⟨none, fk, fs, rfl, upd_same, s8 _ _ hD, e1, e2, e3, fun j y _ h => List.mem_of_getElem? h, w7.same s8, fr7.same s8, up_new k7 npl, s8 _ _ hst7, fun v hv => (hx7 v hv).tl (TL.of s8), s8 _ _ hgn7⟩
              (fun i σ' H' _ hP => by obtain ⟨_, _, _, _, h, _⟩ := hP; exact SqL.of h) (fun i x σ' H' hx hP => ?_) (fun σ' H' hP => ?_)
            · obtain ⟨y12, kv, ks, rfl, a1, a2, a3, a4, a5, a6, w8, fr8, k8, a7, a8, a9⟩ := hP
              obtain ⟨y, hy, rfl⟩ := key i x hx
              have hin : y ∈ ks := a6 i y (Nat.le_refl i) hy
              have nodup : fs.Nodup := e2
              have rest : ∀ j y', i + 1 ≤ j → fs[j]? = some y' → y' ∈ ks ∧ y' ≠ y := fun j y' hj h => ⟨a6 j y' (by omega) h, fun e => by
                rw [e] at h
                have hj1 := (List.getElem?_eq_some_iff.mp hy)
                have hj2 := (List.getElem?_eq_some_iff.mp h)
                obtain ⟨l1, g1⟩ := hj1
                obtain ⟨l2, g2⟩ := hj2
                have := (List.getElem_inj nodup).mp (g1.trans g2.symm)
                omega⟩
              have popped : tDrop (tDPop1 (tVar 2) (tVar 12)) { nx := (fun σ' H' => ∃ (y12 : Option V) (kv : List (Key × V)) (ks : List Str), σ' = [some (.ref u.F), some (.ref u.W), some (.ref D), some (.ref st), some (.ref gn), some (.int rw), some (.bl rd), some (.int fm), y8, y9, y10, y11, y12, none] ∧
                  H' pl = some (.lst (fk.map fun kv => kV kv.1)) ∧ H' D = some (.dK kv) ∧ kv.map (·.1) = ks.map Sum.inr ∧ ks.Nodup ∧ (∀ x ∈ ks, x ∈ u.cs) ∧ (∀ j y, i + 1 ≤ j → fs[j]? = some y → y ∈ ks) ∧ WAt u H' ∧ FrAt u D H' ∧ Kp (M3 u D) H H' ∧ H' st = some (.lst xs) ∧ (∀ v ∈ xs, CpOk H' v) ∧ H' gn = some (.lst (gs.map V.str))), rt := Q, bk := fun _ _ => True, ct := fun _ _ => True }
                  [some (.ref u.F), some (.ref u.W), some (.ref D), some (.ref st), some (.ref gn), some (.int rw), some (.bl rd), some (.int fm), y8, y9, y10, y11, some (.str y), none] H' := by
                have hs : (valV kv (Sum.inr y)).isSome = true := has_mem.mpr (by rw [a3]; exact List.mem_map.mpr ⟨y, hin, rfl⟩)
                obtain ⟨vv, hvv⟩ := Option.isSome_iff_exists.mp hs
                refine ⟨_, rfl, D, rfl, .inl ⟨kv, .inl a2⟩, _, rfl, kv, Sum.inr y, vv, a2, rfl, hvv, ?_⟩
                obtain ⟨fr9, w9, k9⟩ := fr8.drop w8 (x := y) a3 a4 a5
                refine ⟨_, _, ks.filter fun z => decide (z ≠ y), rfl, k9.k _ _ a1 npD, upd_same, drop_keys a3, a4.filter _, fun x hx => a5 x (List.mem_filter.mp hx).1, fun j y' hj h => ?_, w9, fr9, k8.trans k9.d3, k9.k _ _ a7 nsD, fun v hv => (a8 v hv).tl k9.tl, k9.k _ _ a9 ngD⟩
                obtain ⟨h1, h2⟩ := rest j y' hj h
                exact List.mem_filter.mpr ⟨h1, by simp [h2]⟩
              refine ⟨_, rfl, _, rfl, ?_⟩
              refine ite2 (fun c => ?_) (fun c => ?_)
              · exact popped
              · refine ⟨_, rfl, _, rfl, gn, _, rfl, .inl (SqL.of a9), rfl, flat_strs _, _, rfl, ?_⟩
                refine ite2 (fun c => ?_) (fun c => ?_)
                · exact popped
                · exact ⟨_, kv, ks, rfl, a1, a2, a3, a4, a5, fun j y' hj h => (rest j y' hj h).1, w8, fr8, k8, a7, a8, a9⟩
            · obtain ⟨y12, kv, ks, rfl, a1, a2, a3, a4, a5, a6, w8, fr8, k8, a7, a8, a9⟩ := hP
              obtain ⟨kvs8, hW8, dW8⟩ := w8.dct
              obtain ⟨lf8, hlf8⟩ := dW8.left
              refine ⟨_, rfl, u.W, _, rfl, dget_s hW8 hlf8, _, rfl, _, _, rfl, rfl, _, rfl, u.W, _, rfl, DPut.k (k := Sum.inr "left") hW8 (szt (by have := dW8.len; omega)), ?_⟩
              obtain ⟨w9, fr9, k9⟩ := w8.left fr8 hW8 dW8 (lf8 - rw)
              have nW : st ≠ u.W := (ne_of_none (show H u.W = some _ from wa.dct.choose_spec.1) nst).symm
              have k9w : Kp (Is u.W) H' (upd H' u.W (.dK (putK kvs8 (Sum.inr "left") (.int (lf8 - rw))))) := Kp.upd rfl hW8 dK_ne_tup
              exact ⟨_, rfl, q st xs _ w9 fr9 (k8.trans k9) nst (k9w.k _ _ a7 nW) (by omega) fun v hv => .inr ((a8 v hv).tl k9.tl)⟩
end
end K36
namespace K36
open PySem PySem.Spec PyProof.Rows L2
/-! ### bodies to any depth, the helpers -/
abbrev M4 (u : Wd) : Addr → Prop := fun b => b = u.F ∨ b = u.W ∨ b = u.hl ∨ b = u.ab
def spHelpers : Sp := fun vs H Q _ => ∃ (u : Wd) (wl : Addr) (ws : List Str), vs = [.ref u.F, .ref u.W, .ref wl] ∧ WAt u H ∧ H u.hl = some (.lst []) ∧ H u.ab = some (.dK []) ∧ H wl = some (.lst (ws.map V.str)) ∧
  ∀ H', WAt u H' → Kp (M4 u) H H' → Q .non H'
/-- within a turn: Hb is the heap at its begin -/
structure HJ (u : Wd) (Hb : Hp) (wl : Addr) (f : Str) (g : Nat) (pp : Prop) (σ : L2.St) (H : Hp) : Prop where
  ex : ∃ (fm : Int) (c : Str) (near p1 p2 gn bd : Addr) (rw : Int) (rd : Bool) (y13 y14 y15 : Option V) (v1 v2 : V) (gs : List Str) (bs : List V),
    σ = [some (.ref u.F), some (.ref u.W), some (.ref wl), some (.str f), some (.int fm), some (.str c), some (.ref near), some (.ref p1), some (.ref p2), some (.ref gn), some (.ref bd), some (.int rw), some (.bl rd), y13, y14, y15, none] ∧
    (pp → H p1 = some (.lst [v1]) ∧ H p2 = some (.lst [v2])) ∧ H gn = some (.lst (gs.map V.str)) ∧ gs.length ≤ g ∧ H bd = some (.lst bs) ∧ bs.length ≤ 8 + g ∧ WAt u H ∧ Kp (M2 u) Hb H ∧ Hb bd = none ∧ Hb gn = none ∧ gn ≠ bd
theorem WAt.mut2 {u : Wd} {Hb H : Hp} {p : Addr} (wb : WAt u Hb) (k : Kp (M2 u) Hb H) (w : WAt u H) (n : Hb p = none) (o : HO) : WAt u (upd H p o) ∧ Kp (M2 u) Hb (upd H p o) := by
  have kH := k.mut (o := o) n
  obtain ⟨kv4, hW4, dW4⟩ := w.dct
  have nW : u.W ≠ p := by
    obtain ⟨kvs, hW, _⟩ := wb.dct
    exact ne_of_none hW n
  exact ⟨wb.step kH (fun b e => e.elim .inl fun z => .inr (.inl z)) (w.fl.upd (wb.fl.nn n).symm) ⟨kv4, by rw [upd_ne nW]; exact hW4, dW4⟩, kH⟩
theorem WAt.keepH {u : Wd} {H H' : Hp} {d : Addr} {hs : List V} {akvs : List (Key × V)} (a : WAt u H) (x : Kp (M3 u d) H H') (hd : u.hl ≠ d) (hd2 : u.ab ≠ d) (h1 : H u.hl = some (.lst hs)) (h3 : H u.ab = some (.dK akvs)) : H' u.hl = some (.lst hs) ∧ H' u.ab = some (.dK akvs) := by
  obtain ⟨hs0, ak0, g1, _, g3, _, g5⟩ := a.hl
  have e1 : hs0 = hs := HO.lst.inj (Option.some.inj (g1.symm.trans h1))
  subst e1
  constructor
  · refine x.k _ _ h1 fun m => ?_
    rcases m with m | m | m
    · refine a.fl.ne h1 (fun p q r z => ?_) m
      have z2 := HO.lst.inj z
      obtain ⟨_, _, _, _, _, _, _, _, e, _⟩ := g5 (.int p) (by rw [z2]; exact List.mem_cons_self)
      cases e
    · obtain ⟨kv, hw, _⟩ := a.dct
      rw [m, hw] at h1
      cases h1
    · exact hd m
  · refine x.k _ _ h3 fun m => ?_
    rcases m with m | m | m
    · exact a.fl.ne h3 (fun p q r z => by cases z) m
    · exact a.nab m
    · exact hd2 m
theorem WAt.hW {u : Wd} {H : Hp} (a : WAt u H) : u.hl ≠ u.W := by
  obtain ⟨hs0, ak0, g1, _⟩ := a.hl
  obtain ⟨kv, hw, _⟩ := a.dct
  exact ne_of g1 hw (fun z => nomatch z)
/-- a helper is added -/
theorem WAt.addH {u : Wd} {H H2 : Hp} {hs : List V} {akvs : List (Key × V)} {a t g : Addr} {f : Str} {b : V} {gs : List Str} {n : Int} {r : Bool} (wa : WAt u H) (h1 : H u.hl = some (.lst hs)) (l1 : hs.length ≤ 9) (h3 : H u.ab = some (.dK akvs)) (l3 : akvs.length ≤ 9)
    (x : Kp (Is u.hl) H H2) (hh : H2 u.hl = some (.lst (hs ++ [.ref a]))) (ha : H2 a = some (.tup [.str f, b])) (ht : H2 t = some (.tup [.ref g, .int n, .bl r])) (hg : H2 g = some (.lst (gs.map V.str))) (lg : gs.length ≤ 2 * (hs.length + 1)) :
    WAt u (upd H2 u.ab (.dK (putK akvs (Sum.inr f) (.ref t)))) ∧ Kp (M4 u) H (upd H2 u.ab (.dK (putK akvs (Sum.inr f) (.ref t)))) := by
  obtain ⟨hs0, ak0, g1, _, g3, _, g5⟩ := wa.hl
  have e1 : hs0 = hs := HO.lst.inj (Option.some.inj (g1.symm.trans h1))
  subst e1
  have e3 : ak0 = akvs := HO.dK.inj (Option.some.inj (g3.symm.trans h3))
  subst e3
  have nah : u.ab ≠ u.hl := ne_of h3 h1 (fun z => nomatch z)
  have h32 := x.k _ _ h3 nah
  have ku : Kp (Is u.ab) H2 (upd H2 u.ab (.dK (putK ak0 (Sum.inr f) (.ref t)))) := Kp.upd rfl h32 dK_ne_tup
  have kk : Kp (M4 u) H (upd H2 u.ab (.dK (putK ak0 (Sum.inr f) (.ref t)))) := (x.mono fun b e => .inr (.inr (.inl e))).trans (ku.mono fun b e => .inr (.inr (.inr e)))
  have refs : ∀ p ∈ hs0, ∃ q, p = V.ref q := fun p hp => by
    obtain ⟨q, _, _, _, _, _, _, _, e, _⟩ := g5 p hp
    exact ⟨q, e⟩
  have nF : u.hl ≠ u.F := wa.fl.ne h1 fun p q r z => by
    have z2 := HO.lst.inj z
    obtain ⟨_, e⟩ := refs (.int p) (by rw [z2]; exact List.mem_cons_self)
    cases e
  have nabF : u.ab ≠ u.F := wa.fl.ne h3 fun p q r z => by cases z
  obtain ⟨kvs, hW, dW⟩ := wa.dct
  have sts : ∀ b (ys : List Str), H b = some (.lst (ys.map V.str)) → (ys ≠ [] ∨ hs0 ≠ []) → (upd H2 u.ab (.dK (putK ak0 (Sum.inr f) (.ref t)))) b = some (.lst (ys.map V.str)) := fun b ys hb hn => by
    have nb : b ≠ u.hl := fun e => by
      rw [e, h1] at hb
      have z := HO.lst.inj (Option.some.inj hb)
      cases ys with
      | nil =>
        rcases hn with q | q
        · exact q rfl
        · exact q z
      | cons y ys =>
        obtain ⟨_, e⟩ := refs (.str y) (by rw [z]; exact List.mem_cons_self)
        cases e
    exact ku.k _ _ (x.k _ _ hb nb) fun e => by rw [e, h3] at hb; cases hb
  have len : ∀ {ys : List Str} {n : Nat}, ys.length = n + 1 → ys ≠ [] := fun h e => by rw [e] at h; cases h
  refine ⟨⟨((wa.fl.k x nF.symm).upd nabF.symm), ⟨kvs, ku.k _ _ (x.k _ _ hW wa.hW.symm) wa.nab.symm, dW⟩, sts _ _ wa.cl (.inl fun e => by have := wa.cn2.1; rw [e] at this; exact absurd this (by decide)), wa.cn2, sts _ _ wa.ct (.inl (len wa.ctn)), wa.ctn,
    sts _ _ wa.gl (.inl fun e => by have := wa.gln.1; rw [e] at this; exact absurd this (by decide)), wa.gln, ⟨hs0 ++ [.ref a], putK ak0 (Sum.inr f) (.ref t), ku.k _ _ hh nah.symm, by rw [List.length_append, List.length_singleton]; omega, upd_same, Nat.le_trans put_len_le (by omega), fun v hv => ?_⟩, wa.nab⟩, kk⟩
  have ha' := ku.t _ _ ha
  have ht' := ku.t _ _ ht
  have hg' := ku.k _ _ hg fun e => by rw [e, h32] at hg; cases hg
  have ll : (hs0 ++ [V.ref a]).length = hs0.length + 1 := by rw [List.length_append, List.length_singleton]
  rw [ll]
  rcases List.mem_append.mp hv with z | z
  · obtain ⟨a', f', b', t', g', gs', n', r', q1, q2, q3, q4, q5, q6⟩ := g5 v z
    by_cases e : f' = f
    · subst e
      exact ⟨a', f', b', t, g, gs, n, r, q1, ku.t _ _ (x.t _ _ q2), by rw [valV_put, if_pos rfl], ht', hg', lg⟩
    · exact ⟨a', f', b', t', g', gs', n', r', q1, ku.t _ _ (x.t _ _ q2), by rw [valV_put, if_neg (fun z => e (Sum.inr.inj z))]; exact q3, ku.t _ _ (x.t _ _ q4), sts _ _ q5 (.inr fun e => by rw [e] at z; cases z), by omega⟩
  · rw [List.mem_singleton.mp z]
    exact ⟨a, f, b, t, g, gs, n, r, rfl, ha', by rw [valV_put, if_pos rfl], ht', hg', lg⟩
section
variable {P : Program} {w : World} {K : PySem.W.Frag} {mg : Str → Option Value} {base : Heap}
theorem cal_body (T : Bi mg) (aB : At K mg "_law_body" sLBody pLBody) (aS : At K mg "_law_share" sLShare pLShare) (aF : At K mg "_law_forked" sLForked pLForked) (aR : At K mg "_law_round" sLRound pLRound)
    (cLDraw : Cal P w K mg base CX0 "_law_draw" 1 pLDraw spD) (cLSmall : Cal P w K mg base CX0 "_law_small" 8 pLSmall spSm) (cLAgain : Cal P w K mg base CX0 "_law_again" 9 pLAgain spAgain) (cLRoom : Cal P w K mg base CX0 "_law_room" 2 pLRoom spRoom) (cLTerm : Cal P w K mg base CX0 "_law_term" 7 pLTerm (spTerm 6)) :
    Cal P w K mg base CX0 "_law_body" 16 pLBody (spBody 2) := by
  have no : ∀ vs H Q E, ¬ spMany 0 vs H Q E := fun vs H Q E h => by
    obtain ⟨u, D, _, h1, _⟩ := h
    exact absurd h1 (by decide)
  have b0 := ok_body (m := 0) T aB cLDraw cLSmall cLAgain (Cal.none aF no) (Cal.none aR no)
  have s0 := ok_share (m := 0) T aS cLDraw b0
  have b1 := ok_body (m := 1) T aB cLDraw cLSmall cLAgain (ok_forked (m := 0) T aF cLRoom cLTerm s0) (ok_round (m := 0) T aR cLDraw s0)
  have s1 := ok_share (m := 1) T aS cLDraw b1
  exact ok_body (m := 2) T aB cLDraw cLSmall cLAgain (ok_forked (m := 1) T aF cLRoom cLTerm s1) (ok_round (m := 1) T aR cLDraw s1)
-- _law_helpers (printed by gen.py); slots: 0 _law_flow_here, 1 _law_world, 2 _law_words, 3 _law_f, 4 _law_form, 5 _law_c, 6 _law_near, 7 _law_one, 8 _law_other, 9 _law_gone, 10 _law_body_here, 11 _law_rows_here, 12 _law_rounds, 13 _law_test, 14 _law_less, 15 _law_ahead, 16 _law_two
abbrev nLHelpers : List Str := ["_law_flow_here", "_law_world", "_law_words", "_law_f", "_law_form", "_law_c", "_law_near", "_law_one", "_law_other", "_law_gone", "_law_body_here", "_law_rows_here", "_law_rounds", "_law_test", "_law_less", "_law_ahead", "_law_two"]
abbrev pLHelpers : List Str := ["_law_flow_here", "_law_world", "_law_words"]
theorem scLHelpers : FnScope nLHelpers pLHelpers (defScope sLHelpers) := ⟨rfl, rfl, rfl, by decide +kernel, rfl, by decide +kernel, by decide +kernel⟩
theorem ok_helpers (T : Bi mg) (a : At K mg "_law_helpers" sLHelpers pLHelpers) (cLDraw : Cal P w K mg base CX0 "_law_draw" 1 pLDraw spD) (cLSmall : Cal P w K mg base CX0 "_law_small" 8 pLSmall spSm) (cLTerm : Cal P w K mg base CX0 "_law_term" 7 pLTerm (spTerm 6)) :
    Cal P w K mg base CX0 "_law_helpers" 9 pLHelpers spHelpers := by
  refine Cal.of a scLHelpers (fun vs H Q E h => ?_) (fun f cdv A outer s H vs Q E hr h => ?_)
  · obtain ⟨u, wl, ws, rfl, _⟩ := h
    rfl
  · obtain ⟨u, wl, ws, rfl, wa, hl0, ab0, hwl, q⟩ := h

    refine ⟨_, (pss_one (ps_for PassesOwn.never rfl (pi_list (pe_slice sl_list (pv 2) po_none (po_some (pe_c cLDraw hr pass0 (pa_cons (pv 0) (pa_cons pe_int pa_nil)))))) (pg_name (i := 3) scLHelpers.nd rfl (.inl rfl))
        (pss_cons (ps_par3 (i := 4) (j := 5) (l := 6) rfl scLHelpers.nd rfl rfl rfl (by decide) (by decide) (by decide) rfl rfl rfl (pa_cons (pe_c cLDraw hr pass0 (pa_cons (pv 0) (pa_cons pe_int pa_nil))) (pa_cons (pe_ix ix_list (pe_dget (hu_of hr) (pv 1) pe_str (fun _ _ => rfl)) pe_int (fun _ _ => rfl)) (pa_cons pe_dnewK pa_nil))) (by rfl)) -- _law_form, _law_c, _law_near = (_law_draw(_law_flow_here, 4), _law_world['counters'][2], {})
        (pss_cons (ps_par (i := 7) (j := 8) rfl scLHelpers.nd rfl rfl (by decide) rfl rfl (pa_cons (pe_c cLSmall hr pass0 (pa_cons (pv 0) (pa_cons (pv 1) (pa_cons (pv 6) pa_nil)))) (pa_cons (pe_c cLSmall hr pass0 (pa_cons (pv 0) (pa_cons (pv 1) (pa_cons (pe_ix ix_list (pe_lst (pa_cons (pv 6) (pa_cons pe_dnewK pa_nil))) (pe_callTy call_int1 (by rfl) T.int bo_int (pa_cons (pe_cmpR op_lt (pv 4) pe_int (nomark _)) pa_nil)) (fun _ _ => rfl)) pa_nil)))) pa_nil)) (by rfl)) -- _law_one, _law_other = (_law_small(_law_flow_here, _law_world, _law_near), _law_small(_law_flow_here, _law_wor
        (pss_cons (ps_setLc (i := 9) (own := [("_law_two", 16)]) (g := gName 16) rfl scLHelpers.nd rfl rfl (sw_true rfl rfl rfl (by decide +kernel)) (pi_list (pe_op op_cat (pv 7) (pv 8))) (blkOk_by (own := [("_law_two", 16)]) (N := nLHelpers) (sc := defScope sLHelpers) (by decide +kernel)) (fun _ _ _ _ _ => (pg_name (i := 16) scLHelpers.nd rfl (.inl rfl))) (fun _ _ _ _ _ => (pts_one (pt_cmpR (inK (K := K) rfl) (pe_ix (ixT (K := K) rfl) (pv 16) pe_int (fun _ _ => rfl)) (pe_tup (pa_cons pe_str (pa_cons pe_str pa_nil))) (by rfl)))) (fun _ _ _ _ _ => (pe_ix (ixT (K := K) rfl) (pv 16) pe_int (fun _ _ => rfl)))) -- _law_gone = [_law_two[1] for _law_two in _law_one + _law_other if _law_two[0] in ('set', 'read')]
        (pss_cons (ps_par3 (i := 10) (j := 11) (l := 12) rfl scLHelpers.nd rfl rfl rfl (by decide) (by decide) (by decide) rfl rfl rfl (pa_cons (pe_op op_cat (pv 7) (pv 8)) (pa_cons pe_int (pa_cons pe_bl pa_nil))) (by rfl)) -- _law_body_here, _law_rows_here, _law_rounds = (_law_one + _law_other, 2, False)
        (Evl.pss_cut (ps_if (pt_cmpR op_eq (pv 4) pe_int (nomark _))
          (pss_cons (ps_set (i := 13) scLHelpers.nd rfl (.inl rfl) (pe_c cLTerm hr pass0 (pa_cons (pv 0) (pa_cons (pe_dget (hu_of hr) (pv 1) pe_str (fun _ _ => rfl)) (pa_cons pe_int pa_nil))))) -- _law_test = _law_term(_law_flow_here, _law_world['cells'], 3)
          (pss_one (ps_par (i := 10) (j := 11) rfl scLHelpers.nd rfl rfl (by decide) rfl rfl (pa_cons (pe_lst (pa_cons (pe_tup (pa_cons pe_str (pa_cons (pv 13) (pa_cons (pe_callTy call_tuple_of (by rfl) T.tuple bo_tuple (pa_cons (pv 7) pa_nil)) (pa_cons (pe_callTy call_tuple_of (by rfl) T.tuple bo_tuple (pa_cons (pv 8) pa_nil)) pa_nil))))) pa_nil)) (pa_cons pe_int pa_nil)) (by rfl))))
          pss_nil) -- if _law_form == 0:
        (Evl.pss_cut (ps_if (pt_cmpR op_eq (pv 4) pe_int (nomark _))
          (pss_cons (ps_set (i := 14) scLHelpers.nd rfl (.inl rfl) (pe_tup (pa_cons pe_str (pa_cons (pv 5) (pa_cons (pe_tup (pa_cons pe_str (pa_cons pe_str (pa_cons (pe_tup (pa_cons pe_str (pa_cons (pv 5) pa_nil))) (pa_cons (pe_tup (pa_cons pe_str (pa_cons pe_int pa_nil))) pa_nil))))) pa_nil))))) -- _law_less = ('set', _law_c, ('op', '-', ('cell', _law_c), ('num', 1)))
          (pss_cons (ps_set (i := 10) scLHelpers.nd rfl (.inl rfl) (pe_op op_cat (pv 7) (pe_lst (pa_cons (pe_tup (pa_cons pe_str (pa_cons (pv 5) (pa_cons (pe_tup (pa_cons pe_str (pa_cons (pe_op op_add pe_int (pe_c cLDraw hr pass0 (pa_cons (pv 0) (pa_cons pe_int pa_nil)))) pa_nil))) pa_nil)))) pa_nil)))) -- _law_body_here = _law_one + [('set', _law_c, ('num', 1 + _law_draw(_law_flow_here, 2)))]
          (pss_cons (ps_expr (pe_bm PySem.F.plainAttrs_list PySem.F.slot_list_append PySem.F.type_list_append mt_append (pv 10) (pa_cons (pe_tup (pa_cons pe_str (pa_cons (pe_tup (pa_cons pe_str (pa_cons (pv 5) pa_nil))) (pa_cons (pe_callTy call_tuple_of (by rfl) T.tuple bo_tuple (pa_cons (pe_op op_cat (pv 8) (pe_lst (pa_cons (pv 14) pa_nil))) pa_nil)) pa_nil)))) pa_nil))) -- _law_body_here.append(('while', ('cell', _law_c), tuple(_law_other + [_law_less])))
          (pss_one (ps_asg (pe_tup (pa_cons pe_int (pa_cons pe_bl pa_nil))) (pg_tup rfl (pgs_cons (pg_name (i := 11) scLHelpers.nd rfl (.inl rfl)) (pgs_cons (pg_name (i := 12) scLHelpers.nd rfl (.inl rfl)) pgs_nil))))))))
          pss_nil) -- if _law_form == 1:
        (Evl.pss_cut (ps_if (PW.pt (pw_and (pt_cmpR op_gt (pe_callB call_len_seq (by rfl) T.len bo_len (pa_cons (pe_dget (hu_of hr) (pv 1) pe_str (fun _ _ => rfl)) pa_nil)) pe_int (nomark _)) (pw_and1 (pt_cmpR op_eq (pe_c cLDraw hr pass0 (pa_cons (pv 0) (pa_cons pe_int pa_nil))) pe_int (nomark _)))))
          (pss_cons (ps_set (i := 15) scLHelpers.nd rfl (.inl rfl) (pe_ix ix_tup (pe_ix ix_list (pe_dget (hu_of hr) (pv 1) pe_str (fun _ _ => rfl)) (pe_c cLDraw hr pass0 (pa_cons (pv 0) (pa_cons (pe_callB call_len_seq (by rfl) T.len bo_len (pa_cons (pe_dget (hu_of hr) (pv 1) pe_str (fun _ _ => rfl)) pa_nil)) pa_nil))) (fun _ _ => rfl)) pe_int (fun _ _ => rfl))) -- _law_ahead = _law_world['helpers'][_law_draw(_law_flow_here, len(_law_world['helpers']))][0]
          (pss_cons (ps_expr (pe_bm PySem.F.plainAttrs_list PySem.F.slot_list_insert PySem.F.type_list_insert mt_insert (pv 10) (pa_cons (pe_ix ix_list (pe_lst (pa_cons pe_int (pa_cons (pe_callB call_len_seq (by rfl) T.len bo_len (pa_cons (pv 10) pa_nil)) pa_nil))) (pe_c cLDraw hr pass0 (pa_cons (pv 0) (pa_cons pe_int pa_nil))) (fun _ _ => rfl)) (pa_cons (pe_tup (pa_cons pe_str (pa_cons (pv 15) pa_nil))) pa_nil)))) -- _law_body_here.insert([0, len(_law_body_here)][_law_draw(_law_flow_here, 2)], ('call', _law_ahead))
          (pss_cons (ps_set (i := 9) scLHelpers.nd rfl (.inl rfl) (pe_op op_cat (pv 9) (pe_ix ix_tup (pe_dget (hu_of hr) (pe_dget (hu_of hr) (pv 1) pe_str (fun _ _ => rfl)) (pv 15) (fun _ _ => rfl)) pe_int (fun _ _ => rfl)))) -- _law_gone = _law_gone + _law_world['about'][_law_ahead][0]
          (pss_cons (ps_set (i := 11) scLHelpers.nd rfl (.inl rfl) (pe_op op_add (pv 11) (pe_ix ix_tup (pe_dget (hu_of hr) (pe_dget (hu_of hr) (pv 1) pe_str (fun _ _ => rfl)) (pv 15) (fun _ _ => rfl)) pe_int (fun _ _ => rfl)))) -- _law_rows_here = _law_rows_here + _law_world['about'][_law_ahead][1]
          (pss_one (ps_set (i := 12) scLHelpers.nd rfl (.inl rfl) (pe_or (pv 12) (pe_one (pe_ix ix_tup (pe_dget (hu_of hr) (pe_dget (hu_of hr) (pv 1) pe_str (fun _ _ => rfl)) (pv 15) (fun _ _ => rfl)) pe_int (fun _ _ => rfl))))))))))
          pss_nil) -- if len(_law_world['helpers']) > 0 and _law_draw(_law_flow_here, 2) == 0:
        (pss_cons (ps_expr (pe_bm PySem.F.plainAttrs_list PySem.F.slot_list_append PySem.F.type_list_append mt_append (pe_dget (hu_of hr) (pv 1) pe_str (fun _ _ => rfl)) (pa_cons (pe_tup (pa_cons (pv 3) (pa_cons (pe_callTy call_tuple_of (by rfl) T.tuple bo_tuple (pa_cons (pv 10) pa_nil)) pa_nil))) pa_nil))) -- _law_world['helpers'].append((_law_f, tuple(_law_body_here)))
        (pss_one (ps_dput (hu_of hr) (pe_dget (hu_of hr) (pv 1) pe_str (fun _ _ => rfl)) (pv 3) (pe_tup (pa_cons (pv 9) (pa_cons (pv 11) (pa_cons (pv 12) pa_nil)))) rfl)))))))))))), ?_⟩
    refine ⟨_, rfl, _, rfl, u.F, 4, rfl, wa.fl, by decide, by decide, fun n H1 n0 n1 f1 k1 => ⟨_, rfl, wl, _, rfl, SqL.of (wa.keepS (d := u.W) k1.to3 (fun e => by obtain ⟨kv, hw, _⟩ := wa.dct; rw [e, hw] at hwl; cases hwl) hwl), fun sl nsl => ⟨sl, rfl, ⟨_, SqL.of upd_same⟩, ?_⟩⟩⟩
    have w1 := wa.draw k1 f1
    obtain ⟨hl1, ab1⟩ := wa.keepH (d := u.W) k1.to3 wa.hW wa.nab hl0 ab0
    have k1' : Kp (M4 u) H H1 := k1.mono fun b e => .inl e
    have zsl : H sl = none := k1'.free nsl
    generalize hslv : cutV (ws.map V.str) none (some n) = slv at nsl ⊢
    have slen : slv.length ≤ 3 := by
      have e : HT.sIx (ws.map V.str).length (ws.map V.str).length (some n) = min n.toNat (ws.map V.str).length := by
        have := HT.sIx_nat (ws.map V.str).length (ws.map V.str).length n.toNat
        rwa [Int.toNat_of_nonneg n0] at this
      rw [← hslv]
      unfold cutV
      rw [List.length_take, HT.sIx_none, e]
      omega
    have sstr : ∀ i v, slv[i]? = some v → ∃ x, v = V.str x := fun i v hv => by
      have h1 := List.mem_of_getElem? hv
      rw [← hslv] at h1
      obtain ⟨x, _, e⟩ := List.mem_map.mp (List.mem_of_mem_drop (List.mem_of_mem_take h1))
      exact ⟨x, e.symm⟩
    have s1 := same_new (o := .lst slv) nsl
    refine for_list (fun i σ' H' => ∃ (y3 y4 y5 y6 y7 y8 y9 y10 y11 y12 y13 y14 y15 : Option V) (hs : List V) (akvs : List (Key × V)), σ' = [some (.ref u.F), some (.ref u.W), some (.ref wl), y3, y4, y5, y6, y7, y8, y9, y10, y11, y12, y13, y14, y15, none] ∧
      WAt u H' ∧ H' u.hl = some (.lst hs) ∧ hs.length ≤ i ∧ H' u.ab = some (.dK akvs) ∧ akvs.length ≤ i ∧ Kp (M4 u) H H' ∧ H' sl = some (.lst slv))
      ⟨none, none, none, none, none, none, none, none, none, none, none, none, none, [], [], rfl, w1.same s1, s1 _ _ hl1, Nat.le_refl 0, s1 _ _ ab1, Nat.le_refl 0, up_new k1' nsl, upd_same⟩
      (fun i σ' H' _ hP => by obtain ⟨_, _, _, _, _, _, _, _, _, _, _, _, _, _, _, _, _, _, _, _, _, _, h⟩ := hP; exact SqL.of h) (fun i x σ' H2 hx hP => ?_) (fun σ' H' hP => ?_)
    · obtain ⟨y3, y4, y5, y6, y7, y8, y9, y10, y11, y12, y13, y14, y15, hs, akvs, rfl, w2, hl2, hn2, ab2, an2, k2, hsl2⟩ := hP
      obtain ⟨f, rfl⟩ := sstr i x hx
      have hi : i < 3 := by
        obtain ⟨h, _⟩ := List.getElem?_eq_some_iff.mp hx
        omega
      -- form, c, near
      refine ⟨_, rfl, u.F, 4, rfl, w2.fl, by decide, by decide, fun fm H3 m0 m1 f3 k3 => ?_⟩
      have w3 := w2.draw k3 f3
      have k23 : Kp (M2 u) H2 H3 := k3.mono fun b e => .inl e
      obtain ⟨kvs, hW, dW⟩ := w3.dct
      obtain ⟨c, hc⟩ : ∃ c, atI (u.cn.map V.str) 2 = some (.str c) := by
        have hl : 2 < u.cn.length := by rw [w3.ctn]; decide
        exact ⟨u.cn[2], at_of (j := 2) rfl (by rw [List.getElem?_map, List.getElem?_eq_getElem hl]; rfl)⟩
      refine ⟨_, rfl, u.W, _, rfl, dget_s hW dW.counters, u.ct, _, _, _, rfl, rfl, SqL.of w3.ct, hc, fun near nn => ⟨_, _, _, rfl, ?_⟩⟩
      have t4 := same_new (o := .dK []) nn
      have zn : H2 near = none := k23.free nn
      have frn := FrAt.new w3 nn (kvs := []) (ks := []) rfl List.nodup_nil (fun x h => absurd h List.not_mem_nil)
      have w4 := w3.same t4
      have k24 := k23.trans (Kp.same t4)
      have mv : ∀ {Hx Hy d}, Kp (M2 u) H2 Hx → Kp (M3 u d) Hx Hy → H2 d = none → Kp (M2 u) H2 Hy := fun a b z => a.more b fun b e => e.elim (fun z => .inl (.inl z)) fun e => e.elim (fun z => .inl (.inr z)) fun e => .inr (by rw [e]; exact z)
      generalize upd H3 near (.dK []) = H4 at t4 frn w4 k24 ⊢
      refine ⟨_, rfl, _, rfl, _, rfl, u, near, rfl, w4, frn, fun p1 v1 H5 w5 frn5 k5 np1 hp1 pl1 => ?_⟩
      have k25 := mv k24 k5 zn
      have z1 : H2 p1 = none := k24.free np1
      refine ⟨_, rfl, _, rfl, _, rfl, fun d2 nd2 => ⟨(by show 2 ≤ sizeLine; decide), fun lp nlp => ⟨_, rfl, _, _, rfl, rfl, .inr ⟨_, rfl, lp, _, _, _, rfl, rfl, SqL.of upd_same, at2, ?_⟩⟩⟩⟩
      have t6 := same_new (o := .dK []) nd2
      have t7 := same_new (o := .lst [.ref near, .ref d2]) nlp
      have fr2 := (FrAt.new w5 nd2 (kvs := []) (ks := []) rfl List.nodup_nil (fun x h => absurd h List.not_mem_nil)).same t7
      have frn7 := (frn5.same t6).same t7
      have zd2 : H2 d2 = none := k25.free nd2
      have t57 := t6.trans t7
      have w7 := w5.same t57
      have hp17 := t57 _ _ hp1
      have k27 := k25.trans (Kp.same t57)
      have pl17 := pl1.tl (TL.of t57)
      have n1d : p1 ≠ d2 := ne_of_none hp1 nd2
      have n1n : p1 ≠ near := by
        obtain ⟨kv, ks, hh, _⟩ := frn.ex
        exact (ne_of_none hh np1).symm
      generalize upd (upd H5 d2 (.dK [])) lp (.lst [.ref near, .ref d2]) = H7 at fr2 frn7 w7 hp17 k27 pl17 ⊢
      generalize (decide (fm < 2)) = kz
      obtain ⟨dd, hdd, frd, zdd, n1dd⟩ : ∃ dd, (if kz = true then V.ref d2 else V.ref near) = V.ref dd ∧ FrAt u dd H7 ∧ H2 dd = none ∧ p1 ≠ dd := by
        cases kz
        · exact ⟨near, rfl, frn7, zn, n1n⟩
        · exact ⟨d2, rfl, fr2, zd2, n1d⟩
      rw [hdd]
      refine ⟨u, dd, rfl, w7, frd, fun p2 v2 H8 w8 frd8 k8 np2 hp2 pl2 => ⟨_, _, rfl, ?_⟩⟩
      have k28 := mv k27 k8 zdd
      have hp18 := k8.k _ _ hp17 (w2.nMd z1 n1dd)
      have pl18 := pl17.tl k8.tl
      -- gone
      refine ⟨_, rfl, _, rfl, p1, p2, [v1], [v2], rfl, rfl, hp18, hp2, (by show 2 ≤ sizeLine; decide), fun cp ncp => ⟨cp, rfl, ⟨_, SqL.of upd_same⟩, fun gn ngn => ?_⟩⟩
      have t9 := same_new (o := .lst ([v1] ++ [v2])) ncp
      have hcp : (upd H8 cp (.lst ([v1] ++ [v2]))) cp = some (.lst [v1, v2]) := upd_same
      have pls : ∀ v ∈ [v1, v2], PlOk u.cs (upd H8 cp (.lst ([v1] ++ [v2]))) v := fun v hv => by
        rcases List.mem_cons.mp hv with e | e
        · rw [e]
          exact pl18.tl (TL.of t9)
        · rw [List.mem_singleton.mp e]
          exact pl2.tl (TL.of t9)
      have w9 := w8.same t9
      have hp19 := t9 _ _ hp18
      have hp29 := t9 _ _ hp2
      have k29 := k28.trans (Kp.same t9)
      generalize upd H8 cp (.lst ([v1] ++ [v2])) = H9 at ngn hcp pls w9 hp19 hp29 k29 ⊢
      refine lc_list (fun j H' => ∃ ns : List Str, ns.length ≤ j ∧ H' gn = some (.lst (ns.map V.str)) ∧ Same H9 H') ⟨[], Nat.zero_le _, upd_same, same_new ngn⟩ (fun j H' _ hP => SqL.of (hP.choose_spec.2.2 _ _ hcp)) (fun j x H' hx hP => ?_) (fun H' hP => ?_)
      · obtain ⟨ns, nl, hD, sm⟩ := hP
        obtain ⟨a1, wd, r1, rfl, ha1, hw1⟩ := (pls x (List.mem_of_getElem? hx)).it
        have ha1' := sm _ _ ha1
        refine ⟨rfl, _, rfl, a1, _, 0, .str wd, rfl, rfl, SqT.of ha1', at_nat (j := 0) rfl rfl, (by show 2 ≤ sizeLine; decide), fun tp ntp => ⟨tp, _, rfl, .inr (SqT.of upd_same), rfl, rfl, _, rfl, ?_⟩⟩
        have s13 := same_new (o := .tup [.str "set", .str "read"]) ntp
        refine ite2 (fun c => ?_) (fun c => ?_)
        · obtain ⟨y, r2, rfl⟩ := hw1 (inV2 c)
          refine ⟨_, rfl, a1, _, 1, _, rfl, rfl, SqT.of (s13 _ _ ha1'), at_nat (j := 1) rfl rfl, ns.map V.str, s13 _ _ hD, szt (by rw [List.length_map]; have := List.getElem?_eq_some_iff.mp hx; obtain ⟨h1, _⟩ := this; have h2 : j < 2 := h1; omega), ns ++ [y], ?_, ?_, ?_⟩
          · rw [List.length_append, List.length_singleton]; omega
          · rw [List.map_append]; exact upd_same
          · exact Same.mut (H := H9) (sm.trans s13) ngn
        · exact ⟨ns, by omega, s13 _ _ hD, sm.trans s13⟩
      · obtain ⟨gs, gl, hgn, sm⟩ := hP
        -- body
        refine ⟨_, rfl, _, rfl, p1, p2, [v1], [v2], rfl, rfl, sm _ _ hp19, sm _ _ hp29, (by show 2 ≤ sizeLine; decide), fun bd nbd => ⟨_, _, _, rfl, ?_⟩⟩
        have t10 := same_new (o := .lst ([v1] ++ [v2])) nbd
        have sm10 := sm.trans t10
        have zbd : H2 bd = none := (k29.trans (Kp.same sm)).free nbd
        have zgn : H2 gn = none := k29.free ngn
        have ngb0 : gn ≠ bd := ne_of_none hgn nbd
        have J0 : HJ u H2 wl f 2 True [some (.ref u.F), some (.ref u.W), some (.ref wl), some (.str f), some (.int fm), some (.str c), some (.ref near), some (.ref p1), some (.ref p2), some (.ref gn), some (.ref bd), some (.int 2), some (.bl false), y13, y14, y15, none] (upd H' bd (.lst ([v1] ++ [v2]))) := ⟨fm, c, near, p1, p2, gn, bd, 2, false, y13, y14, y15, v1, v2, gs, [v1, v2], rfl, fun _ => ⟨sm10 _ _ hp19, sm10 _ _ hp29⟩, t10 _ _ hgn, gl, upd_same, (by show 2 ≤ 10; decide), w9.same sm10, k29.trans (Kp.same sm10), zbd, zgn, ngb0⟩
        refine ⟨HJ u H2 wl f 2 True, ?_, fun σ4 H4 J1 => ⟨HJ u H2 wl f 2 False, ?_, fun σ5 H5 J2 => ⟨HJ u H2 wl f (2 + 2 * hs.length) False, ?_, fun σ6 H6 J3 => ?_⟩⟩⟩
        · -- form == 0
          refine ⟨_, rfl, rfl, _, rfl, ?_⟩
          refine ite2 (fun c1 => ?_) (fun c1 => ?_)
          · clear J0
            have w10 := w9.same sm10
            have k10 : Kp (M2 u) H2 _ := k29.trans (Kp.same sm10)
            have hp1 := sm10 _ _ hp19
            have hp2 := sm10 _ _ hp29
            have hg := t10 _ _ hgn
            generalize upd H' bd (.lst ([v1] ++ [v2])) = H10 at w10 k10 hp1 hp2 hg ⊢
            obtain ⟨kv10, hW10, dW10⟩ := w10.dct
            refine ⟨_, rfl, _, rfl, u.W, _, rfl, dget_s hW10 dW10.cells, u.F, u.cl, 3, u.cs, rfl, w10.fl, w10.cl, w10.cn2.1, Nat.le_trans w10.cn2.2 (by decide), by decide, by decide, by decide, fun t v H11 ta td k11 f11 => ?_⟩
            have w11 := w10.draw k11 f11
            have hp1' := k11.k _ _ hp1 (w10.fl.ne hp1 (fun p q r z => by cases z))
            have hp2' := k11.k _ _ hp2 (w10.fl.ne hp2 (fun p q r z => by cases z))
            have hg' := w10.keepS (d := u.W) k11.to3 (fun e => by rw [e, hW10] at hg; cases hg) hg
            have k12 : Kp (M2 u) H2 H11 := k10.trans (k11.mono fun b e => .inl e)
            refine ⟨_, rfl, _, rfl, p1, _, rfl, .inl ⟨SqL.of hp1', fun q1 nq1 => ?_⟩⟩
            have s1 := same_new (o := .tup [v1]) nq1
            refine ⟨_, rfl, p2, _, rfl, .inl ⟨SqL.of (s1 _ _ hp2'), fun q2 nq2 => ⟨(by show 4 ≤ sizeLine; decide), fun q3 nq3 => ⟨(by show 1 ≤ sizeLine; decide), fun q4 nq4 => ⟨_, _, rfl, ?_⟩⟩⟩⟩⟩
            have s14 := ((s1.trans (same_new (o := .tup [v2]) nq2)).trans (same_new (o := .tup [.str "if", v, .ref q1, .ref q2]) nq3)).trans (same_new (o := .lst [.ref q3]) nq4)
            exact ⟨fm, c, near, p1, p2, gn, q4, 3, false, _, y14, y15, v1, v2, gs, [.ref q3], rfl, fun _ => ⟨s14 _ _ hp1', s14 _ _ hp2'⟩, s14 _ _ hg', gl, upd_same, (by show 1 ≤ 10; decide), w11.same s14, k12.trans (Kp.same s14), (k12.trans (Kp.same ((s1.trans (same_new (o := .tup [v2]) nq2)).trans (same_new (o := .tup [.str "if", v, .ref q1, .ref q2]) nq3)))).free nq4, zgn, ne_of_none (((s1.trans (same_new (o := .tup [v2]) nq2)).trans (same_new (o := .tup [.str "if", v, .ref q1, .ref q2]) nq3)) _ _ hg') nq4⟩
          · exact J0
        · -- form == 1
          clear J0
          obtain ⟨fm, c, near, p1, p2, gn, bd, rw, rd, y13, y14, y15, v1, v2, gs, bs, rfl, hpp, hgn, gl, hbd, bl, w4, k4, zbd, zgn, ngb⟩ := J1
          obtain ⟨hp1, hp2⟩ := hpp trivial
          refine ⟨_, rfl, rfl, _, rfl, ?_⟩
          refine ite2 (fun c1 => ?_) (fun c1 => ?_)
          · refine ⟨_, rfl, _, rfl, (by show 2 ≤ sizeLine; decide), fun a1 m1 => ⟨(by show 2 ≤ sizeLine; decide), fun a2 m2 => ⟨(by show 4 ≤ sizeLine; decide), fun a3 m3 => ⟨(by show 3 ≤ sizeLine; decide), fun ls m4 => ?_⟩⟩⟩⟩
            have s14 := ((((same_new (o := .tup [.str "cell", .str c]) m1).trans (same_new (o := .tup [.str "num", .int 1]) m2)).trans (same_new (o := .tup [.str "op", .str "-", .ref a1, .ref a2]) m3)).trans (same_new (o := .tup [.str "set", .str c, .ref a3]) m4))
            have w5 := w4.same s14
            have k5 := k4.trans (Kp.same s14)
            have hp15 := s14 _ _ hp1
            have hp25 := s14 _ _ hp2
            have hg5 := s14 _ _ hgn
            generalize upd (upd (upd (upd H4 a1 (.tup [.str "cell", .str c])) a2 (.tup [.str "num", .int 1])) a3 (.tup [.str "op", .str "-", .ref a1, .ref a2])) ls (.tup [.str "set", .str c, .ref a3]) = H5 at w5 k5 hp15 hp25 hg5 ⊢
            refine ⟨_, rfl, _, rfl, _, rfl, u.F, 2, rfl, w5.fl, by decide, by decide, fun g H6 g0 g1 f6 k6 => ⟨_, _, rfl, rfl, ?_⟩⟩
            have w6 := w5.draw k6 f6
            have k16 : Kp (M2 u) H2 H6 := k5.trans (k6.mono fun b e => .inl e)
            have hp16 := k6.k _ _ hp15 (w5.fl.ne hp15 (fun p q r z => by cases z))
            have hp26 := k6.k _ _ hp25 (w5.fl.ne hp25 (fun p q r z => by cases z))
            obtain ⟨kv5, hW5, dW5⟩ := w5.dct
            have hg6 := w5.keepS (d := u.W) k6.to3 (fun e => by rw [e, hW5] at hg5; cases hg5) hg5
            refine ⟨(by show 2 ≤ sizeLine; decide), fun b1 n1 => ⟨(by show 3 ≤ sizeLine; decide), fun b2 n2 => ⟨(by show 1 ≤ sizeLine; decide), fun b3 n3 => ?_⟩⟩⟩
            have r13 := ((same_new (o := .tup [.str "num", .int (1 + g)]) n1).trans (same_new (o := .tup [.str "set", .str c, .ref b1]) n2)).trans (same_new (o := .lst [.ref b2]) n3)
            refine ⟨p1, b3, [v1], [.ref b2], rfl, rfl, r13 _ _ hp16, upd_same, (by show 2 ≤ sizeLine; decide), fun bd2 nbd2 => ?_⟩
            have r4 := same_new (o := .lst ([v1] ++ [.ref b2])) nbd2
            have r14 := r13.trans r4
            have w7 := w6.same r14
            have k17 := k16.trans (Kp.same r14)
            have zb2 : H2 bd2 = none := (k16.trans (Kp.same r13)).free nbd2
            have hp27 := r14 _ _ hp26
            have hg7 := r14 _ _ hg6
            have hb7 : (upd (upd (upd (upd H6 b1 (.tup [.str "num", .int (1 + g)])) b2 (.tup [.str "set", .str c, .ref b1])) b3 (.lst [.ref b2])) bd2 (.lst ([v1] ++ [.ref b2]))) bd2 = some (.lst [v1, .ref b2]) := upd_same
            have ngb2 : gn ≠ bd2 := ne_of_none (r13 _ _ hg6) nbd2
            generalize upd (upd (upd (upd H6 b1 (.tup [.str "num", .int (1 + g)])) b2 (.tup [.str "set", .str c, .ref b1])) b3 (.lst [.ref b2])) bd2 (.lst ([v1] ++ [.ref b2])) = H7 at w7 k17 hp27 hg7 hb7 ⊢
            refine ⟨_, rfl, .inl ⟨rfl, _, SqL.of hb7⟩, _, rfl, (by show 2 ≤ sizeLine; decide), fun e1 z1 => ⟨_, rfl, _, rfl, (by show 1 ≤ sizeLine; decide), fun e2 z2 => ?_⟩⟩
            have q12 := (same_new (o := .tup [.str "cell", .str c]) z1).trans (same_new (o := .lst [.ref ls]) z2)
            refine ⟨p2, e2, [v2], [.ref ls], rfl, rfl, q12 _ _ hp27, upd_same, (by show 2 ≤ sizeLine; decide), fun e3 z3 => ⟨e3, _, rfl, .inl ⟨SqL.of upd_same, fun e4 z4 => ⟨(by show 3 ≤ sizeLine; decide), fun e5 z5 => ?_⟩⟩⟩⟩
            have q15 := ((q12.trans (same_new (o := .lst ([v2] ++ [.ref ls])) z3)).trans (same_new (o := .tup ([v2] ++ [.ref ls])) z4)).trans (same_new (o := .tup [.str "while", .ref e1, .ref e4]) z5)
            have w8 := w7.same q15
            have k18 := k17.trans (Kp.same q15)
            have hg8 := q15 _ _ hg7
            have hb8 := q15 _ _ hb7
            generalize upd (upd (upd (upd (upd H7 e1 (.tup [.str "cell", .str c])) e2 (.lst [.ref ls])) e3 (.lst ([v2] ++ [.ref ls]))) e4 (.tup ([v2] ++ [.ref ls]))) e5 (.tup [.str "while", .ref e1, .ref e4]) = H8 at w8 k18 hg8 hb8 ⊢
            refine ⟨bd2, _, _, rfl, rfl, hb8, (by show 2 < sizeLine; decide), (by show 2 ≤ sizeLine; decide), fun t5 nt5 => ⟨t5, _, rfl, SqT.of upd_same, rfl, _, _, rfl, _, _, rfl, rfl, ?_⟩⟩
            obtain ⟨w9, k19⟩ := w2.mut2 k18 w8 zb2 (.lst ([v1, .ref b2] ++ [.ref e5]))
            have s9 := same_new (o := .tup [.int 5, .bl true]) nt5
            exact ⟨fm, c, near, p1, p2, gn, bd2, 5, true, y13, _, y15, v1, v2, gs, [v1, .ref b2, .ref e5], rfl, fun x => x.elim, s9 _ _ (by rw [upd_ne ngb2]; exact hg8), gl, s9 _ _ upd_same, (by show 3 ≤ 10; decide), w9.same s9, k19.trans (Kp.same s9), zb2, zgn, ngb2⟩
          · exact ⟨fm, c, near, p1, p2, gn, bd, rw, rd, y13, y14, y15, v1, v2, gs, bs, rfl, fun x => x.elim, hgn, gl, hbd, bl, w4, k4, zbd, zgn, ngb⟩
        · -- a call of one of those ahead
          clear J0 J1
          obtain ⟨fm, c, near, p1, p2, gn, bd, rw, rd, y13, y14, y15, v1, v2, gs, bs, rfl, _, hgn, gl, hbd, bl, w5, k5, zbd, zgn, ngb⟩ := J2
          have go0 : HJ u H2 wl f (2 + 2 * hs.length) False [some (.ref u.F), some (.ref u.W), some (.ref wl), some (.str f), some (.int fm), some (.str c), some (.ref near), some (.ref p1), some (.ref p2), some (.ref gn), some (.ref bd), some (.int rw), some (.bl rd), y13, y14, y15, none] H5 := ⟨fm, c, near, p1, p2, gn, bd, rw, rd, y13, y14, y15, v1, v2, gs, bs, rfl, fun x => x.elim, hgn, by omega, hbd, by omega, w5, k5, zbd, zgn, ngb⟩
          obtain ⟨kvs5, hW5, dW5⟩ := w5.dct
          obtain ⟨hl5, ab5⟩ := w2.keepH (d := u.W) (k5.mono fun b e => e.elim .inl fun z => .inr (.inl z)) w2.hW w2.nab hl2 ab2
          refine ⟨_, rfl, u.W, _, rfl, dget_s hW5 dW5.helpers, u.hl, hs, rfl, .inl (SqL.of hl5), _, _, rfl, rfl, _, rfl, ?_⟩
          refine ite2 (fun c1 => ?_) (fun c1 => ?_)
          · refine ⟨_, rfl, u.F, 2, rfl, w5.fl, by decide, by decide, fun g H6 g0 g1 f6 k6 => ⟨rfl, _, rfl, ?_⟩⟩
            have w6 := w5.draw k6 f6
            have k16 : Kp (M2 u) H2 H6 := k5.trans (k6.mono fun b e => .inl e)
            have hg6 := w5.keepS (d := u.W) k6.to3 (fun e => by rw [e, hW5] at hgn; cases hgn) hgn
            have hb6 := k6.k _ _ hbd (w2.fl.nn zbd)
            refine ite2 (fun c2 => ?_) (fun c2 => ?_)
            · clear go0 k6 f6
              obtain ⟨hs0, ak0, gh1, _, gh3, _, gh5⟩ := w2.hl
              have e1 : hs0 = hs := HO.lst.inj (Option.some.inj (gh1.symm.trans hl2))
              subst e1
              have e3 : ak0 = akvs := HO.dK.inj (Option.some.inj (gh3.symm.trans ab2))
              subst e3
              obtain ⟨kvs6, hW6, dW6⟩ := w6.dct
              have kp : ∀ {Hx}, Kp (M2 u) H2 Hx → Hx u.hl = some (.lst hs0) ∧ Hx u.ab = some (.dK ak0) := fun k => w2.keepH (d := u.W) (k.mono fun b e => e.elim .inl fun z => .inr (.inl z)) w2.hW w2.nab hl2 ab2
              have lp : (0 : Int) < hs0.length := of_decide_eq_true c1
              refine ⟨_, rfl, u.W, _, rfl, dget_s hW6 dW6.helpers, _, rfl, _, rfl, u.W, _, rfl, dget_s hW6 dW6.helpers, u.hl, hs0, rfl, .inl (SqL.of (kp k16).1), u.F, _, rfl, w6.fl, by omega, by omega, fun d H7 d0 d1 f7 k7 => ?_⟩
              obtain ⟨v, hv, hat⟩ := at_mem (xs := hs0) d0 d1
              obtain ⟨ha, f', b, t, g', gs', n', r, rfl, a2, a3, a4, a5, a6⟩ := gh5 v hv
              have w7 := w6.draw k7 f7
              have k17 : Kp (M2 u) H2 H7 := k16.trans (k7.mono fun b e => .inl e)
              have hg7 := w6.keepS (d := u.W) k7.to3 (fun e => by rw [e, hW6] at hg6; cases hg6) hg6
              have hb7 := k7.k _ _ hb6 (w2.fl.nn zbd)
              refine ⟨u.hl, hs0, d, _, rfl, rfl, SqL.of (kp k17).1, hat, ha, _, 0, _, rfl, rfl, SqT.of (k17.t _ _ a2), rfl, ?_⟩
              -- insert
              refine ⟨_, rfl, .inl ⟨rfl, _, SqL.of hb7⟩, _, rfl, bd, bs, rfl, .inl (SqL.of hb7), (by show 2 ≤ sizeLine; decide), fun lq nlq => ?_⟩
              have s8 := same_new (o := .lst [.int 0, .int (bs.length : Nat)]) nlq
              have w8 := w7.same s8
              have nlF : lq ≠ u.F := w7.fl.nn nlq
              refine ⟨_, rfl, u.F, 2, rfl, w8.fl, by decide, by decide, fun e H9 e0 e1 f9 k9 => ?_⟩
              have w9 := w8.draw k9 f9
              have k19 : Kp (M2 u) H2 H9 := (k17.trans (Kp.same s8)).trans (k9.mono fun b e => .inl e)
              have hg8 := s8 _ _ hg7
              obtain ⟨kvs8, hW8, dW8⟩ := w8.dct
              have hg9 := w8.keepS (d := u.W) k9.to3 (fun e => by rw [e, hW8] at hg8; cases hg8) hg8
              have hb9 := k9.k _ _ (s8 _ _ hb7) (w2.fl.nn zbd)
              obtain ⟨z, hz, hz2⟩ := at2r (x := 0) (y := (bs.length : Nat)) e0 e1
              refine ⟨lq, _, _, _, rfl, rfl, SqL.of (k9.k _ _ upd_same nlF), hz, _, rfl, (by show 2 ≤ sizeLine; decide), fun ct nct => ⟨bd, bs, z, .ref ct, rfl, rfl, same_new nct _ _ hb9, szt (by omega), by omega, by omega, ?_⟩⟩
              have s10 := same_new (o := .tup [.str "call", .str f']) nct
              obtain ⟨w10, k10⟩ := w2.mut2 (k19.trans (Kp.same s10)) (w9.same s10) zbd (.lst (bs.take z.toNat ++ [.ref ct] ++ bs.drop z.toNat))
              have hg10 : (upd (upd H9 ct (.tup [.str "call", .str f'])) bd (.lst (bs.take z.toNat ++ [.ref ct] ++ bs.drop z.toNat))) gn = some (.lst (gs.map V.str)) := by
                rw [upd_ne ngb]
                exact s10 _ _ hg9
              have hb10 : (upd (upd H9 ct (.tup [.str "call", .str f'])) bd (.lst (bs.take z.toNat ++ [.ref ct] ++ bs.drop z.toNat))) bd = some (.lst (bs.take z.toNat ++ [.ref ct] ++ bs.drop z.toNat)) := upd_same
              have bl2 : (bs.take z.toNat ++ [V.ref ct] ++ bs.drop z.toNat).length = bs.length + 1 := by
                rw [List.length_append, List.length_append, List.length_take, List.length_drop, List.length_singleton]
                omega
              generalize upd (upd H9 ct (.tup [.str "call", .str f'])) bd (.lst (bs.take z.toNat ++ [.ref ct] ++ bs.drop z.toNat)) = H10 at w10 k10 hg10 hb10 ⊢
              obtain ⟨kvs10, hW10, dW10⟩ := w10.dct
              have hgg : H10 g' = some (.lst (gs'.map V.str)) := w2.keepS (d := u.W) (k10.mono fun b e => e.elim .inl fun z => .inr (.inl z)) (fun e => by
                obtain ⟨kv, hw, _⟩ := w2.dct
                rw [e, hw] at a5
                cases a5) a5
              refine ⟨_, rfl, _, rfl, u.W, _, rfl, dget_s hW10 dW10.about, _, rfl, u.ab, _, rfl, dget_s (kp k10).2 a3, t, _, 0, _, rfl, rfl, SqT.of (k10.t _ _ a4), rfl, gn, g', _, _, rfl, rfl, hg10, hgg, szl (by rw [List.length_map, List.length_map]; have := hn2; omega), fun gn2 ng2 => ?_⟩
              have s11 := same_new (o := .lst (gs.map V.str ++ gs'.map V.str)) ng2
              have w11 := w10.same s11
              have k11 := k10.trans (Kp.same s11)
              have hb11 := s11 _ _ hb10
              have hg11 : (upd H10 gn2 (.lst (gs.map V.str ++ gs'.map V.str))) gn2 = some (.lst ((gs ++ gs').map V.str)) := by rw [upd_same, List.map_append]
              generalize upd H10 gn2 (.lst (gs.map V.str ++ gs'.map V.str)) = H11 at w11 k11 hb11 hg11 ⊢
              obtain ⟨kvs11, hW11, dW11⟩ := w11.dct
              refine ⟨_, rfl, _, rfl, u.W, _, rfl, dget_s hW11 dW11.about, _, rfl, u.ab, _, rfl, dget_s (kp k11).2 a3, t, _, 1, _, rfl, rfl, SqT.of (k11.t _ _ a4), rfl, _, _, rfl, rfl, ?_⟩
              have fin : ∀ rd : Bool, HJ u H2 wl f (2 + 2 * hs0.length) False [some (.ref u.F), some (.ref u.W), some (.ref wl), some (.str f), some (.int fm), some (.str c), some (.ref near), some (.ref p1), some (.ref p2), some (.ref gn2), some (.ref bd), some (.int (rw + n')), some (.bl rd), y13, y14, some (.str f'), none] H11 := fun rd => ⟨fm, c, near, p1, p2, gn2, bd, _, rd, y13, y14, _, v1, v2, gs ++ gs', _, rfl, fun x => x.elim, hg11, by rw [List.length_append]; omega, hb11, by rw [bl2]; omega, w11, k11, zbd, k10.free ng2, (ne_of_none hb10 ng2).symm⟩
              refine ⟨_, rfl, _, rfl, ?_⟩
              refine ite2 (fun c3 => ?_) (fun c3 => ?_)
              · exact fin true
              · exact ⟨_, rfl, u.W, _, rfl, dget_s hW11 dW11.about, _, rfl, u.ab, _, rfl, dget_s (kp k11).2 a3, t, _, 2, _, rfl, rfl, SqT.of (k11.t _ _ a4), rfl, fin r⟩
            · exact ⟨fm, c, near, p1, p2, gn, bd, rw, rd, y13, y14, y15, v1, v2, gs, bs, rfl, fun x => x.elim, hg6, by omega, hb6, by omega, w6, k16, zbd, zgn, ngb⟩
          · exact go0
        · -- it is told
          clear J0 J1 J2
          obtain ⟨fm, c, near, p1, p2, gn, bd, rw, rd, y13, y14, y15, v1, v2, gs, bs, rfl, _, hgn, gl, hbd, bl, w6, k6, zbd, zgn, ngb⟩ := J3
          obtain ⟨kvs6, hW6, dW6⟩ := w6.dct
          have kp : ∀ {Hx}, Kp (M2 u) H2 Hx → Hx u.hl = some (.lst hs) ∧ Hx u.ab = some (.dK akvs) := fun k => w2.keepH (d := u.W) (k.mono fun b e => e.elim .inl fun z => .inr (.inl z)) w2.hW w2.nab hl2 ab2
          refine ⟨_, rfl, u.W, _, rfl, dget_s hW6 dW6.helpers, .inl ⟨rfl, _, SqL.of (kp k6).1⟩, _, rfl, _, rfl, bd, bs, rfl, .inl ⟨SqL.of hbd, fun q1 nq1 => ⟨(by show 2 ≤ sizeLine; decide), fun q2 nq2 => ?_⟩⟩⟩
          have s7 := (same_new (o := .tup bs) nq1).trans (same_new (o := .tup [.str f, .ref q1]) nq2)
          have w7 := w6.same s7
          have k7 := k6.trans (Kp.same s7)
          have hg7 := s7 _ _ hgn
          have hq7 : (upd (upd H6 q1 (.tup bs)) q2 (.tup [.str f, .ref q1])) q2 = some (.tup [.str f, .ref q1]) := upd_same
          generalize upd (upd H6 q1 (.tup bs)) q2 (.tup [.str f, .ref q1]) = H7 at w7 k7 hg7 hq7 ⊢
          obtain ⟨hl7, ab7⟩ := kp k7
          refine ⟨u.hl, hs, .ref q2, rfl, rfl, hl7, szt (by omega), _, rfl, _, rfl, _, rfl, (by show 3 ≤ sizeLine; decide), fun q3 nq3 => ?_⟩
          obtain ⟨kvs7, hW7, dW7⟩ := w7.dct
          have x8 : Kp (Is u.hl) H7 (upd H7 u.hl (.lst (hs ++ [.ref q2]))) := Kp.upd rfl hl7 lst_ne_tup
          have s9 := same_new (o := .tup [.ref gn, .int rw, .bl rd]) nq3
          have x9 := x8.trans (Kp.same s9)
          have hW9 := x9.k _ _ hW7 w7.hW.symm
          have nah : u.ab ≠ u.hl := ne_of ab7 hl7 (fun z => nomatch z)
          have hab9 := x9.k _ _ ab7 nah
          refine ⟨_, rfl, u.W, _, rfl, dget_s hW9 dW7.about, _, rfl, u.ab, _, rfl, DPut.k (k := Sum.inr f) hab9 (szt (by omega)), ?_⟩
          have ngh : gn ≠ u.hl := (ne_of_none hl2 zgn).symm
          obtain ⟨w10, k10⟩ := w7.addH (H2 := upd (upd H7 u.hl (.lst (hs ++ [.ref q2]))) q3 (.tup [.ref gn, .int rw, .bl rd])) (f := f) (a := q2) (t := q3) (g := gn) (gs := gs) hl7 (by omega) ab7 (by omega) x9 (s9 _ _ upd_same) (x9.t _ _ hq7) upd_same (x9.k _ _ hg7 ngh) (by omega)
          have k26 : Kp (M4 u) H2 _ := (k7.mono fun b e => e.elim .inl fun z => .inr (.inl z)).trans k10
          refine ⟨_, _, _, _, _, _, _, _, _, _, _, _, _, hs ++ [.ref q2], putK akvs (Sum.inr f) (.ref q3), rfl, w10, ?_, by rw [List.length_append, List.length_singleton]; omega, upd_same, Nat.le_trans put_len_le (by omega), k2.trans k26, k26.k _ _ hsl2 fun m => ?_⟩
          · rw [upd_ne nah.symm]
            exact s9 _ _ upd_same
          · rcases m with m | m | m | m
            · exact wa.fl.nn zsl m
            · obtain ⟨kv, hw, _⟩ := wa.dct
              exact ne_of_none hw zsl m.symm
            · exact ne_of_none hl0 zsl m.symm
            · exact ne_of_none ab0 zsl m.symm
    · obtain ⟨y3, y4, y5, y6, y7, y8, y9, y10, y11, y12, y13, y14, y15, hs, akvs, rfl, w2, hl2, hn2, ab2, an2, k2, hsl2⟩ := hP
      exact q H' w2 k2
end
end K36
namespace K36
open PySem PySem.Spec PyProof.Rows L2
/-! ### d.update(e); t * k -/
def tDUpd (td ty : TE) : TE := fun σ H Q => td σ H fun x H1 => ∃ a, x = .ref a ∧ IsD H1 a ∧ ty σ H1 fun y H2 => ∃ b kvs more, y = .ref b ∧ a ≠ b ∧ H2 a = some (.dK kvs) ∧ H2 b = some (.dK more) ∧ kvs.length + more.length ≤ 1000 ∧ Q .non (upd H2 a (.dK (mergeK kvs more)))
section
variable {X : Cx} {o e : Expr} {apos cpos : Pos} {td ty : TE}
theorem pe_dupdate (ho : PE X o td) (he : PE X e ty) (m : M1 X o "update" apos e cpos) : PE X (.Call (.Attribute o "update" apos) [e] [] cpos) (tDUpd td ty) := by
  refine ⟨fun pins s σ H Q I h => ?_⟩
  refine wpAny_Call_method m.base m.few m.line PySem.F.plainAttrs_dict PySem.F.slot_dict_update PySem.F.type_dict_update (thn (ho.run pins s σ H _ I h) fun u s1 ⟨x, H1, I1, rx, a, ex, d, q1⟩ => ?_)
  subst ex
  obtain rfl : u = Value.ref a := rx
  obtain ⟨t1, t2, _⟩ := isD_at I1 d
  refine ⟨t1, t2, ?_⟩
  rw [m.trees]
  refine Calls.callWith_builtin rfl (Calls.evalArgs_plain (Calls.spliced_cons (thn (he.run pins s1 σ H1 _ I1 q1) fun iv s2 ⟨y, H2, I2, ry, b, kvs, more, ey, hne, ea, eb, hz, q2⟩ => Calls.spliced_nil ?_)))
  subst ey
  obtain rfl : iv = Value.ref b := ry
  obtain ⟨z, hd, vs, rel, dd⟩ := dk_of I2.hok ea
  obtain ⟨z', hd', vs', rel', dd'⟩ := dk_of I2.hok eb
  have hz' : kvs.length + more.length ≤ sizeLine := szl (Nat.le_trans hz (by decide))
  refine call_meetsIn PySem.F.slot_dict_update dd.typeIs PySem.F.entry_dict_update (PySem.F.args_dict_update_2 _ _) (meets_dict_update (mixKind X.prog X.w) a b hne hd')
    ⟨vs, vs', dd, dd', by rw [← rel.length, ← rel'.length]; exact hz', fun h' d1 d2 hs => ⟨.non, _, ?_, rfl, q2⟩⟩
  have he : ∃ q, h'.get? a = some q := let ⟨q, _, _, hq, _⟩ := d1; ⟨q, hq⟩
  have hl : (mergeK kvs more).length ≤ sizeLine := Nat.le_trans (length_mergeK more kvs) hz'
  exact d_write (t' := s2.toks) I2 (by rw [ea]; exact True.intro) hs he (dk_new hl hd (rel'.merge rel) d1)
end
section
theorem tuple_mul1 (l : Addr) (items : Array Value) (n : Nat) (dd : Option Addr) (sl : Array (Option Value)) (x : Int) (u : Tok) (c0 : (decide (x < -(2 ^ 63)) || decide (x ≥ 2 ^ 63)) = false) (c1 : (items.isEmpty || x == 1) = true) :
    Meets (Builtin.«tuple.__mul__» ⟨[.ref l, .int x u], []⟩) (fun _ R s => s.heap.get? l = some { cls := .type "tuple", dict := dd, data := .seq items n, slots := sl } ∧ R (.ok (.ret (Value.ref l))) s) :=
  .of_wp fun prog w A R s h => by
    obtain ⟨hp, g, d, tk, os⟩ := s
    obtain ⟨hl, h⟩ := h
    have f1 := AutoSeq1.idx_int
    wp_walk using wpAny_loadPart' hl
    refine wpAny_ite_false (decide_eq_false (by rw [c0]; exact Bool.false_ne_true)) ?_
    wp_walk using wpAny_loadPart' hl
    exact ⟨_, rfl, h⟩
def rRepA (K : PySem.W.Frag) : R2 := fun x y H Q => ∃ l k xs, x = .ref l ∧ y = .int k ∧ SqT K H l xs ∧ 1 ≤ k ∧ k ≤ 1000 ∧ xs.length ≤ 1000 ∧ ((xs = [] ∨ k = 1) → Q (.ref l) H) ∧ (xs ≠ [] → 2 ≤ k → ∀ p, H p = none → Q (.ref p) (upd H p (.tup (List.replicate k.toNat xs).flatten)))
theorem op_repA {X : Cx} : OpR X (binaryOp .Mult) (rRepA X.K) := by
  intro pins s σ H x y v u Q I rx ry h
  obtain ⟨l, k, xs, rfl, rfl, hT, h1, h2, hz, q1, q2⟩ := h
  by_cases hc : xs = [] ∨ k = 1
  · cases rx
    obtain ⟨t, rfl⟩ := ry
    obtain ⟨its, r, ⟨⟨cls, dd, data, sl⟩, ho, hc0, n, hd⟩, hs⟩ := I.tuple hT
    simp only at hc0 hd
    subst hc0 hd
    have c0 : (decide (k < -(2 ^ 63)) || decide (k ≥ 2 ^ 63)) = false := by
      rw [decide_eq_false (by omega), decide_eq_false (by omega)] <;> rfl
    have c1 : (its.toArray.isEmpty || k == 1) = true := by
      rcases hc with e | e
      · have e2 : its = [] := List.length_eq_zero_iff.1 (by rw [← r.length, e]; rfl)
        rw [e2]
        rfl
      · rw [e, Bool.or_eq_true]
        exact .inr rfl
    refine wpAny_binaryOp_repeat_ref (T := "tuple") (U := "int") (by decide) ⟨_, ho, rfl⟩ (fun s' => typeIs_int s' k t) noFill_tuple_mul F.fills_int_mul F.slot_int_rmul repeat_tuple F.slot_int_index.lookup
      (call_meets F.slot_int_rmul (typeIs_int s k t) F.entry_int_rmul (F.args_int_rmul_2 _ _) (int_rmul_tuple k t l its.toArray n dd sl)
        ⟨ho, rfl, ⟨_, ho, rfl⟩, call_meets F.slot_tuple_mul ⟨_, ho, rfl⟩ F.entry_tuple_mul (F.args_tuple_mul_2 _ _) (tuple_mul1 l its.toArray n dd sl k t c0 c1) ⟨ho, ?_⟩⟩)
    exact ⟨.ref l, H, I, rfl, q1 hc⟩
  · have hx : xs ≠ [] := fun e => hc (.inl e)
    have hk : 2 ≤ k := by
      have : k ≠ 1 := fun e => hc (.inr e)
      omega
    exact op_repT pins s σ H _ _ v u Q I rx ry ⟨l, k, xs, rfl, rfl, hT, hx, hk, h2, hz, q2 hx hk⟩
end
end K36
namespace K36
open PySem PySem.Spec PyProof.Rows L2
/-! ### tuples whose object is told, dict(t) of such -/
/-- a plain object of a tuple -/
def PlT (o : Obj) : Prop := o.cls = .type "tuple" ∧ o.dict = none
def tTupF (t : TA) : TE := fun σ H Q => t σ H fun xs H1 => xs.length ≤ sizeLine ∧ ∀ p o, H1 p = none → PlT o → Q (.ref p) (upd H1 p (.frz o (.tup xs)))
section
variable {X : Cx} {es : List Expr} {t : TA} {pos : Pos}
theorem pe_tupF {x1} (h : PA X es t) : PE X (.Tuple es x1 pos) (tTupF t) := by
  refine ⟨fun pins s σ H Q I hq => ?_⟩
  refine wpAny_Tuple_spliced (thn (h.run pos pins s σ H _ I hq) fun us s1 ⟨xs, H1, I1, r, z, q⟩ => ⟨by rw [← r.length]; exact z, ?_⟩)
  have hf : H1 s1.heap.objs.size = none := I1.hok.fresh (Nat.le_refl _)
  refine ⟨.ref s1.heap.objs.size, upd H1 s1.heap.objs.size (.frz { cls := .type "tuple", data := .seq us.toArray } (.tup xs)), I1.laid (t' := s1.toks) (fun b u e => Heap.get?_push_of_some _ e) (Nat.le_refl _) ?_, rfl, q _ _ hf ?_⟩
  · exact ⟨Heap.get?_push_size _ rfl, z, us, r, ⟨_, Heap.get?_push_size _ rfl, rfl, _, rfl⟩⟩
  · exact ⟨rfl, rfl⟩
def rSlF (K : PySem.W.Frag) : V → Option Int → Option Int → Hp → VK → Prop := fun x lo hi H Q => ∃ a xs, x = .ref a ∧ SqT K H a xs ∧
  (HT.sIx xs.length 0 lo = 0 ∧ HT.sIx xs.length xs.length hi = xs.length → Q (.ref a) H) ∧ (¬ (HT.sIx xs.length 0 lo = 0 ∧ HT.sIx xs.length xs.length hi = xs.length) → ∀ p o, H p = none → PlT o → Q (.ref p) (upd H p (.frz o (.tup (cutV xs lo hi)))))
theorem sl_tupF : SlR X (rSlF X.K) := by
  intro pins s σ H x v vl vu lo hi sl Q I rx hs pl pu h
  obtain ⟨a, xs, rfl, hx, q1, q2⟩ := h
  by_cases hw : HT.sIx xs.length 0 lo = 0 ∧ HT.sIx xs.length xs.length hi = xs.length
  · exact sl_tupA pins s σ H _ v vl vu lo hi sl Q I rx hs pl pu ⟨a, xs, rfl, hx, q1, fun n => absurd hw n⟩
  · cases rx
    obtain ⟨its, r, ht, hz⟩ := I.tuple hx
    have hlen : its.toArray.size = xs.length := by rw [List.size_toArray]; exact r.length.symm
    refine ⟨"tuple", _, PyProof.Rows.slot_tuple_getitem.lookup, ht.typeIs, ?_⟩
    refine HT.getItem_tuple_cut ht hs pl pu (by rw [hlen]; exact hw) ?_ (by rw [hlen]; exact hz)
    rw [hlen]
    refine ⟨.ref s.heap.objs.size, _, I.laid (t' := s.toks) (o := .frz { cls := .type "tuple", data := .seq ((its.drop (HT.sIx xs.length 0 lo)).take (HT.sIx xs.length xs.length hi - HT.sIx xs.length 0 lo)).toArray } (.tup (cutV xs lo hi))) (fun b ob q => Heap.get?_push_of_some _ q) (Nat.le_refl _) ?_, rfl, q2 hw _ _ (I.hok.fresh (Nat.le_refl _)) ?_⟩
    · exact ⟨Heap.get?_push_size _ rfl, Nat.le_trans (cutV_length xs lo hi) hz, _, (r.drop (HT.sIx xs.length 0 lo)).take (HT.sIx xs.length xs.length hi - HT.sIx xs.length 0 lo), IsTup.new _ _⟩
    · exact ⟨rfl, rfl⟩
/-- dict(t), t a tuple of pairs whose object is told -/
theorem call_dictF (hcalm : X.calm = true) : CallR X (.type "dict") (fun xs H Q => ∃ (a : Addr) (o : Obj) (ps : List Addr) (kvs : List (Key × V)), xs = [.ref a] ∧ H a = some (.frz o (.tup (ps.map V.ref))) ∧ PlT o ∧ Paired (fun p kv => SqT X.K H p [kV kv.1, kv.2]) ps kvs ∧
    ∀ p, H p = none → Q (.ref p) (upd H p (.dK (mergeK [] kvs)))) := by
  intro pins s σ H xs us Q I r q
  obtain ⟨a, o, ps, kvs, ex, ha, ⟨oc, od⟩, hp, q⟩ := q
  subst ex
  obtain ⟨u, eu, rx⟩ := vals1 r
  subst eu
  cases rx
  obtain ⟨ho, hz, its, rv, o', ho', _, n, hdat⟩ := (show s.heap.get? a = some o ∧ _ from I.hok a _ ha)
  have e := Option.some.inj (ho.symm.trans ho')
  subst e
  have ei := refs_at rv
  subst ei
  rw [List.length_map] at hz
  obtain ⟨prs, rel, hl, hpr⟩ := pairs_of I hp
  -- the pairs of values
  obtain ⟨us2, eus, hitem⟩ : ∃ us2 : List (Value × Value), us2.length = ps.length ∧ ∀ (j : Nat) (k v : Value), us2[j]? = some (k, v) → ∃ (b : Addr) (q : Key × Value), ps[j]? = some b ∧ prs[j]? = some q ∧ v = q.2 ∧ keyIs q.1 k = true ∧ IsTup s.heap b #[k, v] := by
    clear q ha ho hz rv ho' hdat hp rel
    induction prs generalizing ps with
    | nil => exact ⟨[], by rw [← hl]; rfl, fun j k v e => by simp at e⟩
    | cons z prs ih =>
      cases ps with
      | nil => cases hl
      | cons p ps =>
        obtain ⟨us2, e1, e2⟩ := ih ps (by simpa using hl) fun j q e => by simpa using hpr (j + 1) q (by simpa using e)
        obtain ⟨b, u, h1, h2, h3⟩ := hpr 0 z rfl
        have hb : p = b := by simpa using h1
        subst hb
        refine ⟨(u, z.2) :: us2, by rw [List.length_cons, List.length_cons, e1], fun j k v e => ?_⟩
        cases j with
        | zero =>
          have e' : (u, z.2) = (k, v) := Option.some.inj e
          cases e'
          exact ⟨p, z, rfl, rfl, rfl, h3, h2⟩
        | succ j =>
          obtain ⟨b, q, a1, a2, a3⟩ := e2 j k v (by simpa using e)
          exact ⟨b, q, by simpa using a1, by simpa using a2, a3⟩
  have P := PairArg.tuple (prog := X.prog) (w := X.w) a (ps.map Value.ref).toArray (fun j => ps.getD j 0) us2
  have hlt : us2.length ≤ sizeLine := by rw [eus]; exact hz
  refine PySem.call_dict_pairs (knd := mixKind X.prog X.w) (kvs := prs) P (I.ok.hd hcalm) ⟨⟨o, n, ho, oc, od, hdat⟩, by simp [eus], fun j k v e => ?_⟩ ⟨by rw [hl, eus], fun j k v e => ?_⟩ hlt fun h' tk hd' k => ?_
  · obtain ⟨b, q, a1, a2, a3, a4, a5⟩ := hitem j k v e
    have e2 : ps.getD j 0 = b := by rw [List.getD_eq_getElem?_getD, a1]; rfl
    show (ps.map Value.ref).toArray[j]? = some (Value.ref (ps.getD j 0)) ∧ PairAt s.heap (ps.getD j 0) k v
    rw [e2]
    exact ⟨by simp [a1], .inl a5⟩
  · obtain ⟨b, q, a1, a2, a3, a4, a5⟩ := hitem j k v e
    exact ⟨q.1, by rw [a2, a3], a4⟩
  · have hm : (s.heap.objs.size == sysModules) = false := beq_eq_false_iff_ne.mpr (Nat.ne_of_gt I.big)
    have hlen : (mergeK [] kvs).length ≤ sizeLine := by
      refine Nat.le_trans (length_mergeK kvs []) ?_
      rw [List.length_nil, Nat.zero_add, rel.length, hl]
      exact hz
    exact ⟨.ref s.heap.objs.size, upd H s.heap.objs.size (.dK (mergeK [] kvs)), I.laid (t' := tk) (fun b o e => k b o List.not_mem_nil e) (Nat.le_refl _) (show ObjOk X.prog X.w _ _ _ (.dK (mergeK [] kvs)) from ⟨hlen, hm, merged [] prs, KV.merge rel .nil, hd'⟩), rfl, q _ (I.hok.fresh (Nat.le_refl _))⟩
end
end K36
namespace K36
open PySem PySem.Spec PyProof.Rows L2
/-! ### list(enumerate(t)) of a tuple -/
namespace En
open PySem PySem.SeqAt Sem
section
variable {prog : Program} {w : World} {A : Around} {E : Value → Shared → Prop} {s : Shared}
/-- one turn behind the first -/
theorem next_held {e it T : Addr} {fp : List Addr} {n i : Nat} {c : Int} {f : Bool} {oT : Obj} {P : Nat → Value → Prop} {St : Nat → Heap → Prop} {old : Value} {Q : Value → Shared → Prop} (D : Draws prog w A it fp n P St)
    (he : IsEnumHeld s.heap e it c old T f) (hT : s.heap.get? T = some oT) (hTe : T ≠ e) (hTi : T ≠ it) (hst : St i s.heap) (hlt : i < n) (hne : e ≠ it) (hef : e ∉ fp)
    (hQ : ∀ x h' tk, P i x → IsEnumHeld h' e it (c + 1) old T true → St (i + 1) h' → h'.get? s.heap.objs.size = some { cls := .type "tuple", data := .seq #[.int c tk, x] } → h'.objs.size = s.heap.objs.size + 1 →
      (∀ b o, b ≠ e → b ≠ it → s.heap.get? b = some o → h'.get? b = some o) → Q (.ref s.heap.objs.size) { s with heap := h', toks := tk + 1 }) :
    wpAny (model prog w) A (Builtin.«enumerate.__next__» ⟨[.ref e], []⟩) (fun fin s' => ∃ v, fin = .done (.ret v) ∧ Q v s') E s := by
  obtain ⟨hp, g, dr, tk0, os⟩ := s
  show wpAny _ _ (field (.ref e) 2 >>= _) _ _ _
  refine wpAny_bind (wpAny_field he rfl (x := .ref it) rfl ?_)
  refine wpAny_bind (D.item i _ _ _ hlt hst fun x g1 tk hPx st1 sb1 => ?_)
  replace sb1 : Heap.SameBut it hp g1 := sb1
  have e1 : IsEnumHeld g1 e it c old T f := (sb1.2 e hne).trans he
  show wpAny _ _ (field (.ref e) 3 >>= _) _ _ ⟨g1, g, dr, tk, os⟩
  refine wpAny_bind (wpAny_field e1 rfl (x := rawInt c) rfl ?_)
  show wpAny _ _ (field (.ref e) 4 >>= _) _ _ ⟨g1, g, dr, tk, os⟩
  refine wpAny_bind (wpAny_field e1 rfl (x := .none) rfl ?_)
  show wpAny _ _ (mkInt c >>= _) _ _ ⟨g1, g, dr, tk, os⟩
  refine wpAny_bind (wpAny_mkInt ?_)
  show wpAny _ _ (setField (.ref e) 3 (rawInt (c + 1)) >>= _) _ _ ⟨g1, g, dr, tk + 1, os⟩
  refine wpAny_bind (wpAny_setField_rec e1 (by simp) fun g2 e2 sb2 => ?_)
  replace sb2 : Heap.SameBut e g1 g2 := sb2
  replace e2 : IsEnumHeld g2 e it (c + 1) old T f := e2
  show wpAny _ _ (setField (.ref e) 4 .none >>= _) _ _ ⟨g2, g, dr, tk + 1, os⟩
  refine wpAny_bind (wpAny_setField_rec e2 (by simp) fun g3 e3 sb3 => ?_)
  replace sb3 : Heap.SameBut e g2 g3 := sb3
  replace e3 : IsEnumHeld g3 e it (c + 1) old T f := e3
  show wpAny _ _ (newTuple [.int c tk, x] >>= _) _ _ ⟨g3, g, dr, tk + 1, os⟩
  refine wpAny_bind (wpAny_newTuple ?_)
  have e4 : IsEnumHeld (g3.push { cls := .type "tuple", data := .seq #[.int c tk, x] }) e it (c + 1) old T f := Heap.get?_push_of_some _ e3
  generalize eg : g3.push { cls := .type "tuple", data := .seq #[.int c tk, x] } = g4 at e4
  have sz : g3.objs.size = hp.objs.size := by rw [sb3.1, sb2.1, sb1.1]
  have el : e < hp.objs.size := Heap.lt_size he
  have t4 : g4.get? hp.objs.size = some { cls := .type "tuple", data := .seq #[.int c tk, x] } := by rw [← eg, ← sz]; exact Heap.get?_push_size _ rfl
  have z4 : g4.objs.size = hp.objs.size + 1 := by rw [← eg, Heap.size_push, sz]
  have k4 : ∀ b o, b ≠ e → b ≠ it → hp.get? b = some o → g4.get? b = some o := fun b o be bi hb => by
    rw [← eg]
    exact Heap.get?_push_of_some _ (sb3.extBut b o be (sb2.extBut b o be (sb1.extBut b o bi hb)))
  have st4 : St (i + 1) g4 := D.frame _ _ _ st1 fun b hb o y => by
    have be : b ≠ e := fun q => hef (q ▸ hb)
    rw [← eg]
    exact Heap.get?_push_of_some _ (sb3.extBut b o be (sb2.extBut b o be y))
  show wpAny _ _ (Builtin.SmallTypes.ownedTupleIsFree (.ref e) >>= _) _ _ ⟨g4, g, dr, tk + 1, os⟩
  rw [sz]
  refine wpAny_bind (wpAny_tupleHeld_enum (s := ⟨g4, g, dr, tk + 1, os⟩) e4 (k4 T oT hTe hTi hT) fun g5 e5 sb5 => ?_)
  replace sb5 : Heap.SameBut e g4 g5 := sb5
  simp only [Bool.false_eq_true, if_false]
  refine wpAny_pure ⟨_, rfl, hQ x g5 tk hPx e5 (D.frame _ _ _ st4 fun b hb o y => sb5.extBut b o (fun q => hef (q ▸ hb)) y) (sb5.extBut _ _ (Nat.ne_of_gt el) t4) ?_ fun b o be bi hb => sb5.extBut b o be (k4 b o be bi hb)⟩
  show g5.objs.size = hp.objs.size + 1
  rw [sb5.1, z4]
theorem pyNext_held {e it T : Addr} {fp : List Addr} {n i : Nat} {c : Int} {f : Bool} {oT : Obj} {P : Nat → Value → Prop} {St : Nat → Heap → Prop} {old : Value} {Q : Option Value → Shared → Prop} (D : Draws prog w A.in1 it fp n P St)
    (he : IsEnumHeld s.heap e it c old T f) (hT : s.heap.get? T = some oT) (hTe : T ≠ e) (hTi : T ≠ it) (hst : St i s.heap) (hlt : i < n) (hne : e ≠ it) (hef : e ∉ fp)
    (hQ : ∀ x h' tk, P i x → IsEnumHeld h' e it (c + 1) old T true → St (i + 1) h' → h'.get? s.heap.objs.size = some { cls := .type "tuple", data := .seq #[.int c tk, x] } → h'.objs.size = s.heap.objs.size + 1 →
      (∀ b o, b ≠ e → b ≠ it → s.heap.get? b = some o → h'.get? b = some o) → Q (some (.ref s.heap.objs.size)) { s with heap := h', toks := tk + 1 }) : wpAny (model prog w) A (pyNext (.ref e)) Q E s := by
  have ty : s.TypeIs (.ref e) "enumerate" := ⟨_, he, rfl⟩
  unfold pyNext
  exact wpAny_bind (wpAny_attempt (wpAny_callSpecial?_slot (name := Str.ofString "__next__") ty F.slot_enumerate_next
    (wpAny_call_entry F.slot_enumerate_next ty F.entry_enumerate_next (next_held D he hT hTe hTi hst hlt hne hef fun x h' tk a1 a2 a3 a4 a5 a6 => wpAny_pure (hQ x h' tk a1 a2 a3 a4 a5 a6)) (F.args_enumerate_next_1 _))))
theorem pyNext_end {e it T : Addr} {fp : List Addr} {n : Nat} {c : Int} {f : Bool} {P : Nat → Value → Prop} {St : Nat → Heap → Prop} {old : Value} {Q : Option Value → Shared → Prop} (D : Draws prog w A.in1 it fp n P St)
    (he : IsEnumHeld s.heap e it c old T f) (hst : St n s.heap) (hQ : ∀ h', Heap.ExtBut it s.heap h' → Q none { s with heap := h' }) : wpAny (model prog w) A (pyNext (.ref e)) Q E s := by
  have ty : s.TypeIs (.ref e) "enumerate" := ⟨_, he, rfl⟩
  unfold pyNext
  refine wpAny_bind (wpAny_attempt (wpAny_callSpecial?_slot (name := Str.ofString "__next__") ty F.slot_enumerate_next (wpAny_call_entry F.slot_enumerate_next ty F.entry_enumerate_next ?_ (F.args_enumerate_next_1 _))))
  show wpAny _ _ (field (.ref e) 2 >>= _) _ _ _
  refine wpAny_bind (wpAny_field he rfl (x := .ref it) rfl ?_)
  refine wpAny_bind (D.done _ _ _ hst fun h' x he' ⟨o, ho, hc⟩ => ?_)
  refine wpAny_bind (wpAny_isInstance (T := "StopIteration") (b := true) ⟨o, ho, hc⟩ isSubtype_stop ?_)
  exact wpAny_pure (hQ _ he')
end
/-- how the counting object stands -/
def St0 (h : Heap) (e it S : Addr) (i : Nat) : Prop := (∃ old, IsEnum h e it (i : Int) old) ∨ ∃ old T f oT, IsEnumHeld h e it (i : Int) old T f ∧ h.get? T = some oT ∧ T ≠ e ∧ T ≠ it ∧ T ≠ S
/-- the pairs that were made -/
structure Ps (items : Array Value) (S : Addr) (h : Heap) (ts : List Addr) : Prop where
  rise : ts.Pairwise (· < ·)
  above : ∀ a ∈ ts, S < a
  pr : ∀ (j : Nat) (a : Addr), ts[j]? = some a → ∃ tk x, items[j]? = some x ∧ h.get? a = some { cls := .type "tuple", data := .seq #[.int (j : Int) tk, x] }
section
variable {prog : Program} {w : World} {A : Around} {R : Result → Shared → Prop} {S e it t : Addr} {items : Array Value} {res : Value}
theorem loop (hh : A.handled = none) (a1 : S ≠ e) (a2 : S ≠ it) (a3 : S ≠ t) (a4 : e ≠ it) (a5 : t ≠ e) (a6 : t ≠ it) (e1 : e < S) (e2 : it < S) (hz : items.size ≤ sizeLine) :
    ∀ (k i : Nat) (s : Shared) (acc : Array Value) (c : Nat) (ts : List Addr), items.size - i = k → i ≤ items.size → s.heap.IsTupleIter it t i → s.heap.IsTuple t items → St0 s.heap e it S i →
      s.heap.get? S = some { cls := .type "list", dict := none, data := .seq acc c, slots := #[] } → acc.toList = ts.map Value.ref → ts.length = i → Ps items S s.heap ts →
      (∀ h' tk acc' c' ts', (∀ b o, b ≠ S → b ≠ e → b ≠ it → s.heap.get? b = some o → h'.get? b = some o) → h'.get? S = some { cls := .type "list", dict := none, data := .seq acc' c', slots := #[] } → acc'.toList = ts'.map Value.ref → ts'.length = items.size → Ps items S h' ts' → R (.ok (.ret res)) { s with heap := h', toks := tk }) →
      codeAny (model prog w) A (.builtin "list.extend.loop" ⟨[.ref S, .ref e, res], []⟩) R s := by
  intro k
  induction k with
  | zero =>
    intro i s acc c ts hk hi hit ht hst hS ha hl hP hR
    have ei : i = items.size := by omega
    subst ei
    have D := Draws.tuple (prog := prog) (w := w) (A := A.in1.in1) hh it t a6 items
    have fin : ∀ h', Heap.ExtBut it s.heap h' → R (.ok (.ret res)) { s with heap := h' } := fun h' hx => hR h' s.toks acc c ts (fun b o _ _ b3 q => hx b o b3 q) (hx _ _ a2 hS) ha hl
      ⟨hP.rise, hP.above, fun j a hj => by
        obtain ⟨tk, x, h1, h2⟩ := hP.pr j a hj
        exact ⟨tk, x, h1, hx _ _ (Nat.ne_of_gt (Nat.lt_trans e2 (hP.above a (List.mem_of_getElem? hj)))) h2⟩⟩
    refine codeAny_builtin F.entry_extend_loop ?_
    rw [Around.under_plainId F.plain_extend_loop _]
    show wpAny _ A.in1 (pyNext (.ref e) >>= _) _ _ s
    rcases hst with ⟨old, he⟩ | ⟨old, T, f, oT, he, _⟩
    · exact wpAny_bind (wpAny_pyNext_enum_endD D he ⟨hit, ht⟩ fun h' hx => wpAny_pure (fin h' hx))
    · exact wpAny_bind (pyNext_end D he ⟨hit, ht⟩ fun h' hx => wpAny_pure (fin h' hx))
  | succ k ih =>
    intro i s acc c ts hk hi hit ht hst hS ha hl hP hR
    have lt : i < items.size := by omega
    have D := Draws.tuple (prog := prog) (w := w) (A := A.in1.in1) hh it t a6 items
    have ef : e ∉ [it, t] := fun hm => by
      rcases List.mem_cons.mp hm with q | q
      · exact a4 q
      · exact a5 (List.mem_singleton.mp q).symm
    have Ssz : S < s.heap.objs.size := Heap.lt_size hS
    have esz : e < s.heap.objs.size := Nat.lt_trans e1 Ssz
    have isz : it < s.heap.objs.size := Nat.lt_trans e2 Ssz
    -- behind the turn
    have next : ∀ (x : Value) (h' : Heap) (tk : Nat), items[i]? = some x → St0 h' e it S (i + 1) → (h'.IsTupleIter it t (i + 1) ∧ h'.IsTuple t items) → h'.get? s.heap.objs.size = some { cls := .type "tuple", data := .seq #[.int (i : Int) tk, x] } →
        (∀ b o, b ≠ e → b ≠ it → s.heap.get? b = some o → h'.get? b = some o) →
        wpAny (model prog w) A.in1 (updateSeq S (·.push (.ref s.heap.objs.size)) >>= fun _ => again (.builtin "list.extend.loop" ⟨[.ref S, .ref e, res], []⟩)) (fun fin s' => match fin with | .done f => R (.ok f) s' | .again c' => c'.quiet = true ∧ codeAny (model prog w) A c' R s') (fun e s' => R (.error e) s') { s with heap := h', toks := tk + 1 } := by
      intro x h' tk hx hst' ⟨hit', ht'⟩ hT hk'
      have hS' := hk' S _ a1 a2 hS
      have ss : acc.size = i := by
        have := congrArg List.length ha
        rw [List.length_map, hl, Array.length_toList] at this
        exact this
      refine wpAny_bind ?_
      refine wpAny_updateSeq hS' rfl ?_ (by rw [ss]; omega) (by show (acc.push (Value.ref s.heap.objs.size)).size ≤ sizeLine + 1; rw [Array.size_push, ss]; omega)
      have up : ∀ b o, b ≠ S → h'.get? b = some o → (h'.update S (Obj.mapSeq (·.push (Value.ref s.heap.objs.size)))).get? b = some o := fun b o hb q => (Heap.get?_update_other _ _ (Ne.symm hb)).trans q
      refine wpAny_pure ⟨plainId_quiet F.plain_extend_loop _, ih (i + 1) _ (acc.push (Value.ref s.heap.objs.size)) _ (ts ++ [s.heap.objs.size]) (by omega) lt (hit'.at fun o q => up it o (Ne.symm a2) q) (ht'.at fun o q => up t o (Ne.symm a3) q) ?_ (Heap.get?_update_self _ hS' rfl) ?_ (by rw [List.length_append, List.length_singleton, hl]) ?_ ?_⟩
      · rcases hst' with ⟨old, he⟩ | ⟨old, T, f, oT, he, h1, h2, h3, h4⟩
        · exact .inl ⟨old, up e _ (Ne.symm a1) he⟩
        · exact .inr ⟨old, T, f, oT, up e _ (Ne.symm a1) he, up T _ h4 h1, h2, h3, h4⟩
      · rw [Array.toList_push, ha, List.map_append]
        rfl
      · refine ⟨?_, fun a hm => ?_, fun j a hj => ?_⟩
        · refine List.pairwise_append.mpr ⟨hP.rise, List.pairwise_singleton _ _, fun a hm b hb => ?_⟩
          rw [List.mem_singleton.mp hb]
          obtain ⟨j, hj⟩ := List.getElem?_of_mem hm
          obtain ⟨_, _, _, h2⟩ := hP.pr j a hj
          exact Heap.lt_size h2
        · rcases List.mem_append.mp hm with q | q
          · exact hP.above a q
          · rw [List.mem_singleton.mp q]
            exact Ssz
        · by_cases cj : j < ts.length
          · rw [List.getElem?_append_left cj] at hj
            obtain ⟨tk', x', h1, h2⟩ := hP.pr j a hj
            have aS := hP.above a (List.mem_of_getElem? hj)
            exact ⟨tk', x', h1, up a _ (Nat.ne_of_gt aS) (hk' a _ (Nat.ne_of_gt (Nat.lt_trans e1 aS)) (Nat.ne_of_gt (Nat.lt_trans e2 aS)) h2)⟩
          · have ej : j = ts.length := by
              have := (List.getElem?_eq_some_iff.mp hj).1
              rw [List.length_append, List.length_singleton] at this
              omega
            subst ej
            rw [List.getElem?_append_right (Nat.le_refl _), Nat.sub_self] at hj
            have ea : s.heap.objs.size = a := Option.some.inj hj
            subst ea
            rw [hl]
            exact ⟨tk, x, hx, up _ _ (Nat.ne_of_gt Ssz) hT⟩
      · intro h2 tk2 acc2 c2 ts2 kk q1 q2 q3 q4
        exact hR h2 tk2 acc2 c2 ts2 (fun b o b1 b2 b3 q => kk b o b1 b2 b3 (up b o b1 (hk' b o b2 b3 q))) q1 q2 q3 q4
    refine codeAny_builtin F.entry_extend_loop ?_
    rw [Around.under_plainId F.plain_extend_loop _]
    show wpAny _ A.in1 (pyNext (.ref e) >>= _) _ _ s
    have ec : ((i + 1 : Nat) : Int) = (i : Int) + 1 := by omega
    rcases hst with ⟨old, he⟩ | ⟨old, T, f, oT, he, h1, h2, h3, h4⟩
    · refine wpAny_bind (wpAny_pyNext_enum_itemD D he ⟨hit, ht⟩ lt a4 ef fun x h' tk hx ho st' hT hsz hk' => ?_)
      exact next x h' tk hx (.inr ⟨_, _, false, _, (by rw [ec]; exact ho), hT, Nat.ne_of_gt esz, Nat.ne_of_gt isz, Nat.ne_of_gt Ssz⟩) st' hT hk'
    · refine wpAny_bind (pyNext_held D he h1 h2 h3 ⟨hit, ht⟩ lt a4 ef fun x h' tk hx ho st' hT hsz hk' => ?_)
      exact next x h' tk hx (.inr ⟨_, T, true, _, (by rw [ec]; exact ho), hk' T _ h2 h3 h1, h2, h3, h4⟩) st' hT hk'
end
theorem no_len : typeLookup (.type "enumerate") "__len__" = pure none := am_miss_of_fast (by decide +kernel)
theorem no_hint : typeLookup (.type "enumerate") "__length_hint__" = pure none := am_miss_of_fast (by decide +kernel)
section
variable {prog : Program} {w : World} {A : Around} {E : Value → Shared → Prop} {s : Shared} {e it t : Addr} {items : Array Value}
/-- list(e), e = enumerate(t) -/
theorem call_list {Q : Value → Shared → Prop} (hh : A.handled = none) (he : IsEnum s.heap e it 0 .none) (hit : s.heap.IsTupleIter it t 0) (ht : s.heap.IsTuple t items) (a4 : e ≠ it) (a5 : t ≠ e) (a6 : t ≠ it) (hz : items.size ≤ sizeLine)
    (hQ : ∀ h' tk acc c ts, (∀ b o, b ≠ e → b ≠ it → s.heap.get? b = some o → h'.get? b = some o) → h'.get? s.heap.objs.size = some { cls := .type "list", dict := none, data := .seq acc c, slots := #[] } → acc.toList = ts.map Value.ref → ts.length = items.size → Ps items s.heap.objs.size h' ts →
      Q (.ref s.heap.objs.size) { s with heap := h', toks := tk }) : wpAny (model prog w) A (call (.type "list") [.ref e]) Q E s := by
  have e1 : e < s.heap.objs.size := Heap.lt_size he
  have e2 : it < s.heap.objs.size := by obtain ⟨o, ho, _⟩ := hit; exact Heap.lt_size ho
  have e3 : t < s.heap.objs.size := by obtain ⟨o, ho, _⟩ := ht; exact Heap.lt_size ho
  refine callType_codes (Q₁ := fun obj s1 => obj = .ref s.heap.objs.size ∧ s1 = { s with heap := s.heap.push { cls := .type "list", data := .seq #[] } }) F.called_list (F.typeCall_list_1 _) F.entry_list_init (code_list_new _ ⟨rfl, rfl⟩) fun obj s1 h1 => ?_
  obtain ⟨rfl, rfl⟩ := h1
  have hS : (s.heap.push { cls := .type "list", data := .seq #[] }).get? s.heap.objs.size = some { cls := .type "list", data := .seq #[] } := Heap.get?_push_size _ rfl
  refine ⟨⟨_, hS, rfl⟩, F.args_list_init_2 _ _, ?_⟩
  show wpAny _ A.in1.in1 (do let old ← Builtin.List.listItems (.ref s.heap.objs.size); Builtin.List.listUpdate (.ref s.heap.objs.size) (fun _ => #[]); letGo old.toList.reverse; Builtin.List.listExtendWith (.ref s.heap.objs.size) (.ref e) .none) _ _ _
  refine wpAny_bind ?_
  unfold Builtin.List.listItems
  refine wpAny_bind (wpAny_seqItems hS rfl (wpAny_pure ?_))
  show wpAny _ A.in1.in1 (updateSeq s.heap.objs.size (fun _ => #[]) >>= fun _ => letGo (#[] : Array Value).toList.reverse >>= fun _ => Builtin.List.listExtendWith (.ref s.heap.objs.size) (.ref e) .none) _ _ _
  refine wpAny_bind (wpAny_updateSeq hS rfl ?_)
  have hS2 := Heap.get?_update_self (Obj.mapSeq (fun _ => (#[] : Array Value))) hS rfl
  refine wpAny_bind (wpAny_letGo ?_)
  have up : ∀ (h : Heap) (f : Obj → Obj), (∀ b o, s.heap.get? b = some o → h.get? b = some o) → ∀ b o, s.heap.get? b = some o → (h.update s.heap.objs.size f).get? b = some o := fun h f q b o x =>
    (Heap.get?_update_other _ _ (Ne.symm (Nat.ne_of_lt (Heap.lt_size x)))).trans (q b o x)
  have k1 : ∀ b o, s.heap.get? b = some o → (s.heap.push { cls := .type "list", data := .seq #[] }).get? b = some o := fun b o x => Heap.get?_push_of_some _ x
  have k2 := up _ (Obj.mapSeq (fun _ => (#[] : Array Value))) k1
  have hS3 := Heap.get?_update_self (Obj.mapSeq (·.push Value.none)) hS2 rfl
  have k3 := up _ (Obj.mapSeq (·.push Value.none)) k2
  have hS4 := Heap.get?_update_self (Obj.mapSeq (·.pop)) hS3 rfl
  have k4 := up _ (Obj.mapSeq (·.pop)) k3
  have ty : ∀ {h : Heap}, (∀ b o, s.heap.get? b = some o → h.get? b = some o) → Shared.TypeIs { s with heap := h } (.ref e) "enumerate" := fun {h} q => ⟨_, q _ _ he, rfl⟩
  unfold Builtin.List.listExtendWith
  refine wpAny_bind (wpAny_typeOf (ty k2) ?_)
  have b1 : Builtin.List.listSameRef (.ref s.heap.objs.size) (.ref e) = false := by
    have : s.heap.objs.size ≠ e := Nat.ne_of_gt e1
    simp [Builtin.List.listSameRef, this]
  have b2 : (Value.type "enumerate" == Value.type "list") = false := by decide
  have b3 : (Value.type "enumerate" == Value.type "tuple") = false := by decide
  simp only [b1, b2, b3, Bool.or_false, Bool.false_eq_true, if_false]
  refine wpAny_bind (wpAny_pyIter_enum (k2 _ _ he) ?_)
  refine wpAny_bind (wpAny_holding ?_)
  unfold Builtin.List.listLengthHint
  refine wpAny_bind (wpAny_specialOf (ty k2) no_len ?_)
  show wpAny _ A.in1.in1 (specialOf (Value.ref e) (Str.ofString "__length_hint__") >>= _) _ _ _
  refine wpAny_bind (wpAny_specialOf (ty k2) no_hint ?_)
  refine wpAny_pure ?_
  show wpAny _ A.in1.in1 (rule "list.extend.makes-room" >>= fun _ => Builtin.List.listTouch (.ref s.heap.objs.size) >>= fun _ => again (.builtin "list.extend.loop" ⟨[.ref s.heap.objs.size, .ref e, .none], []⟩)) _ _ _
  refine wpAny_bind (wpAny_rule ?_)
  refine wpAny_bind ?_
  show wpAny _ A.in1.in1 (updateSeq s.heap.objs.size (·.push .none) >>= fun _ => updateSeq s.heap.objs.size (·.pop)) _ _ _
  have one : (1 : Nat) ≤ sizeLine := by decide
  have two : (1 : Nat) ≤ sizeLine + 1 := by decide
  refine wpAny_bind (wpAny_updateSeq hS2 rfl ?_ (Nat.zero_le _) two)
  refine wpAny_updateSeq hS3 rfl ?_ one (Nat.zero_le _)
  refine wpAny_pure ⟨plainId_quiet F.plain_extend_loop _, ?_⟩
  refine loop (A := A.in1) hh (Nat.ne_of_gt e1) (Nat.ne_of_gt e2) (Nat.ne_of_gt e3) a4 a5 a6 e1 e2 hz items.size 0 _ _ _ [] (by omega) (Nat.zero_le _) (hit.at fun o x => k4 _ o x) (ht.at fun o x => k4 _ o x) (.inl ⟨_, k4 _ _ he⟩) hS4 rfl rfl
    ⟨List.Pairwise.nil, fun a h => absurd h List.not_mem_nil, fun j a h => by rw [List.getElem?_nil] at h; cases h⟩ fun h' tk acc c ts kk q1 q2 q3 q4 => ⟨rfl, ?_⟩
  exact hQ h' tk acc c ts (fun b o b1 b2 x => kk b o (Nat.ne_of_lt (Heap.lt_size x)) b1 b2 (k4 b o x)) q1 q2 q3 q4
end
end En
end K36
namespace K36
open PySem PySem.Spec PyProof.Rows L2
namespace En
open PySem PySem.SeqAt Sem
theorem meets_new1 {v : Value} {o : Obj} {H : Heap → Prop} (B : Begins v o H) :
    Meets (Builtin.«enumerate.__new__» ⟨[.type "enumerate", v], []⟩) (fun _ R s => H s.heap ∧ R (.ok (.ret (.ref (s.heap.push o).objs.size))) { s with heap := (s.heap.push o).push { cls := .type "enumerate", data := .fields #[.none, .bool false, .ref s.heap.objs.size, rawInt 0, .none, .none] } }) :=
  .of_wp fun prog w A R s h => by
    obtain ⟨hp, g, d, tk, os⟩ := s
    obtain ⟨h1, h⟩ := h
    have hsub := sub_enumerate
    have q1 : ∀ {A' : Around} {E : Value → Shared → Prop} {Q : Value → Shared → Prop}, Q (.ref hp.objs.size) ⟨hp.push o, g, d, tk, os⟩ → wpAny (model prog w) A' (pyIter v) Q E ⟨hp, g, d, tk, os⟩ := fun q => B.iter prog w _ _ ⟨hp, g, d, tk, os⟩ _ h1 q
    wp_walk using q1
    refine wpAny_stack_any fun st => wpAny_pure ?_
    split
    · rename_i c _ _ _ _ _
      cases (c == Value.type "enumerate")
      · wp_walk using q1
        exact ⟨_, rfl, h⟩
      · wp_walk using q1
        exact ⟨_, rfl, h⟩
    · wp_walk using q1
      exact ⟨_, rfl, h⟩
section
variable {prog : Program} {w : World} {A : Around} {E : Value → Shared → Prop} {s : Shared}
theorem call_tup {t : Addr} {items : Array Value} {Q : Value → Shared → Prop} (ht : s.heap.IsTuple t items)
    (h : ∀ h', IsEnum h' (s.heap.objs.size + 1) s.heap.objs.size 0 .none → h'.IsTupleIter s.heap.objs.size t 0 → (∀ b o, s.heap.get? b = some o → h'.get? b = some o) → h'.objs.size = s.heap.objs.size + 2 → Q (.ref (s.heap.objs.size + 1)) { s with heap := h' }) :
    wpAny (model prog w) A (call (.type "enumerate") [.ref t]) Q E s := by
  refine callType_new F.called_enumerate (by decide) (F.typeCall_enumerate_1 _) (F.newCall_enumerate_1 _) (fun obj => F.args_object_init_2 obj _) F.entry_enumerate_new (meets_new1 (begins_tuple t items)) ⟨ht, ?_⟩
  have hz : (s.heap.push { cls := .type "tuple_iterator", data := .fields #[.ref t, .int 0 0] }).objs.size = s.heap.objs.size + 1 := Heap.size_push ..
  show _ ∧ _
  rw [hz]
  have he : IsEnum ((s.heap.push { cls := .type "tuple_iterator", data := .fields #[.ref t, .int 0 0] }).push { cls := .type "enumerate", data := .fields #[.none, .bool false, .ref s.heap.objs.size, rawInt 0, .none, .none] }) (s.heap.objs.size + 1) s.heap.objs.size 0 .none := by
    have := Heap.get?_push_size (s.heap.push { cls := .type "tuple_iterator", data := .fields #[.ref t, .int 0 0] }) (o := { cls := .type "enumerate", data := .fields #[.none, .bool false, .ref s.heap.objs.size, rawInt 0, .none, .none] }) rfl
    rw [hz] at this
    exact this
  exact ⟨⟨_, he, rfl⟩, h _ he ⟨_, Heap.get?_push_of_some _ (Heap.get?_push_size _ rfl), rfl, rfl⟩ (fun b o x => Heap.get?_push_of_some _ (Heap.get?_push_of_some _ x)) (by rw [Heap.size_push, hz])⟩
end
end En
/-- pairs (i, x) -/
def enK (xs : List V) : Nat → List (Key × V)
  | i => match xs with
    | [] => []
    | x :: r => (Sum.inl (i : Int), x) :: enK r (i + 1)
theorem enK_len : ∀ (xs : List V) (i : Nat), (enK xs i).length = xs.length
  | [], _ => rfl
  | x :: r, i => by
    show (enK r (i + 1)).length + 1 = r.length + 1
    rw [enK_len r]
theorem enK_get : ∀ (xs : List V) (i j : Nat), (enK xs i)[j]? = (xs[j]?).map fun x => (Sum.inl ((i + j : Nat) : Int), x)
  | [], i, j => by
    show ([] : List (Key × V))[j]? = _
    rw [List.getElem?_nil, List.getElem?_nil]
    rfl
  | x :: r, i, 0 => rfl
  | x :: r, i, j + 1 => by
    show (enK r (i + 1))[j]? = (r[j]?).map _
    rw [enK_get r (i + 1) j]
    have e : i + 1 + j = i + (j + 1) := by omega
    rw [e]
section
variable {X : Cx}
theorem En.laid {pins : List (Addr × Obj)} {σ : L2.St} {H : Hp} {s : Shared} {h' : Heap} {tk : Nat} {xs : List V} {its : List Value} {acc : Array Value} {c : Nat} {S : Addr} {ts : List Addr} (I : L2.Inv X pins σ H s) (hz : xs.length ≤ sizeLine) (rv : Vals xs its) (hS0 : s.heap.objs.size ≤ S)
    (hk : ∀ b o, s.heap.get? b = some o → h'.get? b = some o) (hS : h'.get? S = some { cls := .type "list", dict := none, data := .seq acc c, slots := #[] }) (hl : ts.length = its.length) (hP : En.Ps its.toArray S h' ts) (hacc : acc.toList = ts.map Value.ref) :
    ∃ H' : Hp, Same H H' ∧ H S = none ∧ H' S = some (.lst (ts.map V.ref)) ∧ (∀ j t, ts[j]? = some t → ∃ y, xs[j]? = some y ∧ H' t = some (.tup [.int (j : Nat), y])) ∧ L2.Inv X pins σ H' { s with heap := h', toks := tk } := by
  have lx : xs.length = its.length := rv.length
  have hSn : S ∉ ts := fun z => Nat.lt_irrefl _ (hP.above _ z)
  have nd : ts.Nodup := List.Pairwise.imp (fun {a b} (h : a < b) => Nat.ne_of_lt h) hP.rise
  have new : ∀ t ∈ ts, H t = none := fun t ht => I.hok.fresh (Nat.le_of_lt (Nat.lt_of_le_of_lt hS0 (hP.above t ht)))
  have newS : H S = none := I.hok.fresh hS0
  have atP := LiI.putT_at ts (enK xs 0) (upd H S (.lst (ts.map V.ref))) (by rw [enK_len]; omega) nd
  have off : ∀ b, b ∉ ts → b ≠ S → LiI.putT (upd H S (.lst (ts.map V.ref))) ts (enK xs 0) b = H b := fun b h1 h2 => by rw [LiI.putT_off ts _ _ h1, upd_ne h2]
  have low : ∀ b o, s.heap.get? b = some o → b ∉ ts ∧ b ≠ S := fun b o e => ⟨fun z => absurd (Nat.lt_of_lt_of_le (Heap.lt_size e) hS0) (Nat.not_lt.mpr (Nat.le_of_lt (hP.above b z))), Nat.ne_of_lt (Nat.lt_of_lt_of_le (Heap.lt_size e) hS0)⟩
  have kp : ∀ b u, H b = some u → (LiI.putT (upd H S (.lst (ts.map V.ref))) ts (enK xs 0)) b = some u := fun b u e => by
    rw [off b (fun z => by rw [new b z] at e; cases e) (fun z => by rw [z, newS] at e; cases e)]
    exact e
  have eS : LiI.putT (upd H S (.lst (ts.map V.ref))) ts (enK xs 0) S = some (.lst (ts.map V.ref)) := by rw [LiI.putT_off ts _ _ hSn, upd_same]
  have pt : ∀ j t, ts[j]? = some t → ∃ y, xs[j]? = some y ∧ LiI.putT (upd H S (.lst (ts.map V.ref))) ts (enK xs 0) t = some (.tup [.int (j : Nat), y]) := fun j t ht => by
    obtain ⟨p, h1, h2⟩ := LiI.paired_get atP ht
    rw [enK_get, Nat.zero_add] at h1
    cases hx : xs[j]? with
    | none => rw [hx] at h1; cases h1
    | some y =>
      rw [hx] at h1
      cases h1
      exact ⟨y, rfl, h2⟩
  refine ⟨LiI.putT (upd H S (.lst (ts.map V.ref))) ts (enK xs 0), kp, newS, eS, pt, ?_⟩
  refine I.call' (ch := []) rfl ⟨fun b o q _ _ _ => hk b o q, fun b o q _ _ _ => ⟨o.slots, hk b o q⟩, fun b o q n _ => ?_, fun b o q _ => ⟨o, hk b o q⟩, fun b xs q => kp b _ q, fun b o u q => kp b _ q, fun b ps q => ⟨#[], by rw [kp b _ q]; simp⟩⟩ (fun b u q => ?_) I.bare fun b z => by simp at z
  · obtain ⟨z1, z2⟩ := low b o q
    rw [off b z1 z2]
    exact n
  · by_cases hb : b ∈ ts
    · obtain ⟨j, hj⟩ := List.getElem?_of_mem hb
      obtain ⟨y, hy, e3⟩ := pt j b hj
      rw [e3] at q
      cases q
      obtain ⟨tk', x, h1, h2⟩ := hP.pr j b hj
      obtain ⟨u, hu, ru⟩ := rv.get hy
      have eu : u = x := by
        have : its[j]? = some x := by simpa using h1
        rw [hu] at this
        exact Option.some.inj this
      rw [eu] at ru
      exact ⟨by show 2 ≤ sizeLine; decide, [.int (j : Nat) tk', x], .cons ⟨tk', rfl⟩ (.cons ru .nil), ⟨_, h2, rfl, _, rfl⟩⟩
    · by_cases hb2 : b = S
      · rw [hb2] at q ⊢
        rw [eS] at q
        cases q
        refine ⟨by rw [List.length_map]; omega, acc.toList, c, by rw [hacc]; exact LiI.vals_refs ts, ?_⟩
        rw [Array.toArray_toList]
        exact hS
      · rw [off b hb hb2] at q
        exact (I.hok b u q).stay (fun d v _ y => hk d v y) (fun d y => kp d _ y) fun d xs y => kp d _ y
def tListEn (K : PySem.W.Frag) (te : TE) : TE := fun σ H Q => te σ H fun x H1 => ∃ a xs, x = .ref a ∧ SqT K H1 a xs ∧
  ∀ (H' : Hp) (p : Addr) (ts : List Addr), Same H1 H' → H1 p = none → H' p = some (.lst (ts.map V.ref)) → ts.length = xs.length → (∀ (j : Nat) (t : Addr), ts[j]? = some t → ∃ y, xs[j]? = some y ∧ H' t = some (.tup [.int (j : Nat), y])) → Q (.ref p) H'
theorem pe_listEn {e : Expr} {te : TE} {p p2 pos pos2 : Pos} (hc : X.calm = true) (he : PE X e te) (hg : Gl X "list") (hm : X.mg "list" = none) (hg2 : Gl X "enumerate") (hm2 : X.mg "enumerate" = none)
    (hs : starEach [.Call (.Name "enumerate" p2) [e] [] pos2] X.env = (false, eval (.Call (.Name "enumerate" p2) [e] [] pos2) X.env) :: starEach [] X.env := by rfl) (hs2 : starEach [e] X.env = (false, eval e X.env) :: starEach [] X.env := by rfl) :
    PE X (.Call (.Name "list" p) [.Call (.Name "enumerate" p2) [e] [] pos2] [] pos) (tListEn X.K te) := by
  refine ⟨fun pins s σ H Q I hq => ?_⟩
  refine wpAny_Call_Name_kw (ld_blt I hg hm bo_list ?_)
  refine PyProof.Rows.callWith_type1 ?_ hs rfl
  rw [hs]
  show wpAny _ _ (spliced ((false, eval (.Call (.Name "enumerate" p2) [e] [] pos2) X.env) :: backTo pos (starEach [] X.env))) _ _ s
  refine Calls.spliced_cons ?_
  refine wpAny_Call_Name_kw (ld_blt I hg2 hm2 bo_enumerate ?_)
  refine PyProof.Rows.callWith_type1 ?_ hs2 rfl
  rw [hs2]
  show wpAny _ _ (spliced ((false, eval e X.env) :: backTo pos2 (starEach [] X.env))) _ _ s
  refine Calls.spliced_cons (thn (he.run pins s σ H _ I hq) fun u s1 ⟨x, H1, I1, rx, a, xs, ex, hxs, q⟩ => ?_)
  subst ex
  obtain rfl : u = Value.ref a := rx
  refine Calls.spliced_nil ?_
  obtain ⟨its, rv, ht, hz⟩ := I1.tuple hxs
  refine En.call_tup ht fun h1 hE hI k1 z1 => ?_
  refine Calls.spliced_nil ?_
  have la : a < s1.heap.objs.size := by obtain ⟨o, ho, _⟩ := ht; exact Heap.lt_size ho
  have lx : xs.length = its.length := rv.length
  refine En.call_list (s := { s1 with heap := h1 }) (items := its.toArray) (I1.ok.hd hc) hE hI (show Heap.IsTuple h1 a its.toArray from ht.keeps k1) (Nat.succ_ne_self _) (Nat.ne_of_lt (Nat.lt_succ_of_lt la)) (Nat.ne_of_lt la) (by rw [List.size_toArray, ← lx]; exact hz) fun h' tk acc c ts kk q1 q2 q3 q4 => ?_
  have kk2 : ∀ b o, s1.heap.get? b = some o → h'.get? b = some o := fun b o x => kk b o (Nat.ne_of_lt (Nat.lt_succ_of_lt (Heap.lt_size x))) (Nat.ne_of_lt (Heap.lt_size x)) (k1 b o x)
  have z0 : s1.heap.objs.size ≤ h1.objs.size := by rw [z1]; omega
  obtain ⟨H', g1, g2, g3, g4, g5⟩ := En.laid (tk := tk) I1 hz rv z0 kk2 q1 (by rw [q3, List.size_toArray]) q4 q2
  exact ⟨.ref h1.objs.size, H', g5, rfl, q H' _ ts g1 g2 g3 (by rw [q3, List.size_toArray, lx]) g4⟩
end
end K36
namespace K36
open PySem PySem.Spec PyProof.Rows L2
/-! ### sets of strings (after the layer's sets of ints): set(xs), sorted(set(xs)) -/
namespace SS
open PySem PySem.SeqAt
def keyOf (e : Int × Value) : Str := match e.2 with | .str k _ => k | _ => PySem.Str.empty
def GoodE (w : World) (e : Int × Value) : Prop := ∃ k tk, e.2 = Value.str k tk ∧ e.1 = hashStr w k

/-- the set of ints at a: S its members, n their number; its table rises and can be walked -/
def SetS (w : World) (h : Heap) (a : Addr) (S : Str → Bool) (n : Nat) : Prop :=
  ∃ o es ep t, h.get? a = some o ∧ o.ExactSet ∧ o.data = .set es ep t ∧ (∀ e ∈ es.toList, GoodE w e) ∧ (es.toList.map keyOf).Nodup ∧ (∀ k, S k = true ↔ k ∈ es.toList.map keyOf) ∧
    es.size < scanBound ∧ t.fits es.size = true ∧ es.size = n ∧ Ris t.place.toList ∧ (w.params.followText "set-order" = true ∨ t.led = true)

section
variable {P : Program} {w : World} {h h' : Heap} {a : Addr} {S : Str → Bool} {n : Nat}

theorem SetS.at (R : SetS w h a S n) (k : ∀ o, h.get? a = some o → h'.get? a = some o) : SetS w h' a S n := by
  obtain ⟨o, es, ep, t, ho, r⟩ := R
  exact ⟨o, es, ep, t, k o ho, r⟩
theorem SetS.congr {S' : Str → Bool} (R : SetS w h a S n) (e : ∀ k, S' k = S k) : SetS w h a S' n := by
  have q : S' = S := funext e
  rw [q]; exact R
theorem good_elems {l : List (Int × Value)} (g : ∀ e ∈ l, GoodE w e) : ElemsOf (strKind P w) l := fun e he => by
  obtain ⟨k, tk, h1, h2⟩ := g e he
  exact ⟨⟨k, by rw [h1]; exact strKind_is P w k tk, h2⟩, by rw [h1] <;> rfl⟩
theorem good_is {e : Int × Value} (g : GoodE w e) (k : Str) : (strKind P w).is k e.2 = true ↔ keyOf e = k := by
  obtain ⟨k0, tk, h1, _⟩ := g
  unfold keyOf
  rw [h1]
  show ((k0 == k) = true) ↔ k0 = k
  exact beq_iff_eq
theorem good_mem {l : List (Int × Value)} (g : ∀ e ∈ l, GoodE w e) (k : Str) : k ∈ l.map keyOf ↔ ∃ e ∈ l, (strKind P w).is k e.2 = true := by
  rw [List.mem_map]
  constructor
  · rintro ⟨e, he, q⟩
    exact ⟨e, he, (good_is (g e he) k).2 q⟩
  · rintro ⟨e, he, q⟩
    exact ⟨e, he, (good_is (g e he) k).1 q⟩
theorem SetS.setOf (R : SetS w h a S n) : h.SetOf (strKind P w) a S n := by
  obtain ⟨o, es, ep, t, ho, hx, hd, g, nd, hm, hb, hf, hn, _⟩ := R
  exact ⟨o, es, ep, t, ho, hx, hd, good_elems g, fun k => (hm k).trans (good_mem g k), hb, hf, hn⟩
end

section
variable {P : Program} {w : World} {A : Around} {E : Value → Shared → Prop} {s : Shared} {a : Addr} {S : Str → Bool} {n : Nat}

theorem setS_add_tail {g : Bool → Sem Unit} (hg : ∀ (b : Bool) (s₁ : Shared) (Q' : Unit → Shared → Prop), Q' () s₁ → wpAny (model P w) A (g b) Q' E s₁)
    {o : Obj} {es : Array (Int × Value)} {ep : Nat} {t : SetTable} (ho : s.heap.get? a = some o) (hex : o.ExactSet) (hd : o.data = .set es ep t)
    {es1 : Array (Int × Value)} {t2 : SetTable} {S' : Str → Bool} (g1 : ∀ e ∈ es1.toList, GoodE w e) (nd1 : (es1.toList.map keyOf).Nodup) (m1 : ∀ k, S' k = true ↔ k ∈ es1.toList.map keyOf)
    (hb1 : es1.size < scanBound) (hf2 : t2.fits es1.size = true) (hr : Ris t2.place.toList) (hl : w.params.followText "set-order" = true ∨ t2.led = true) {wasDummy : Bool} {R : Option Bool → Shared → Prop}
    (hR : ∀ h', Heap.SameBut a s.heap h' → SetS w h' a S' es1.size → R (some true) { s with heap := h' }) :
    wpAny (model P w) A (do
        storeSet a es1 t2
        if (!wasDummy && t2.tooFull) = true then do
            g (relayAll t2 es1 (SetTable.grown es1.size)).2.2
            storeSet a (relayAll t2 es1 (SetTable.grown es1.size)).1 (relayAll t2 es1 (SetTable.grown es1.size)).2.1
            pure (some true)
          else pure (some true)) R E s := by
  refine wpAny_bind (wpAny_storeSet_of ho hd ?_ (fits_of_scanBound hb1))
  have ho1 := store_at (es' := es1) (t' := t2) ho hd
  have sb1 := Heap.SameBut.update s.heap a (Obj.putSet es1 t2)
  split
  · have pm := relayAll_perm t2 es1 (SetTable.grown es1.size)
    have hf3 := relayAll_fits t2 es1 (SetTable.grown es1.size)
    have hr3 := relayAll_ris t2 es1 (SetTable.grown es1.size)
    have hl3 := relayAll_led t2 es1 (SetTable.grown es1.size)
    generalize relayAll t2 es1 (SetTable.grown es1.size) = Z at pm hf3 hr3 hl3 ⊢
    obtain ⟨es2, t3, gave⟩ := Z
    dsimp only at pm hf3 hr3 hl3 ⊢
    have hsz : es2.size = es1.size := by rw [← Array.length_toList, pm.length_eq, Array.length_toList]
    have hb2 : es2.size < scanBound := by rw [hsz]; exact hb1
    refine wpAny_bind (hg _ _ _ ?_)
    refine wpAny_bind (wpAny_storeSet_of ho1 rfl ?_ (fits_of_scanBound hb2))
    have ho2 := store_at (es' := es2) (t' := t3) ho1 rfl
    refine wpAny_pure (hR _ (sb1.trans (Heap.SameBut.update _ a _)) ?_)
    exact ⟨_, es2, _, t3, ho2, hex, rfl, fun e he => g1 e (pm.mem_iff.mp he), (pm.map keyOf).nodup_iff.mpr nd1, fun k => (m1 k).trans (pm.map keyOf).mem_iff.symm, hb2, hf3, hsz, hr3,
      hl.imp id fun z => by rw [hl3]; exact z⟩
  · exact wpAny_pure (hR _ sb1 ⟨_, es1, _, t2, ho1, hex, rfl, g1, nd1, m1, hb1, hf2, rfl, hr, hl⟩)

theorem setS_add_hashed {k : Str} {tk : Tok} {Q : Bool → Shared → Prop} (R : SetS w s.heap a S n) (room : n + 1 < scanBound)
    (hQ : ∀ h', Heap.SameBut a s.heap h' → SetS w h' a (fun j => S j || decide (j = k)) (if S k = true then n else n + 1) → Q (!S k) { s with heap := h' }) :
    wpAny (model P w) A (setAddHashed a (.str k tk) ((strKind P w).hash k)) Q E s := by
  obtain ⟨o, es, ep, t, ho, hex, hd, g, nd, hm, hb, hf, hn, hr, hl⟩ := R
  have hkey : (strKind P w).is k (.str k tk) = true := strKind_is P w k tk
  have hsc : (Value.str k tk).scannable = true := rfl
  have hel : ElemsOf (strKind P w) es.toList := good_elems g
  unfold setAddHashed setAddHashedIn
  refine wpAny_holding (wpAny_bind (wpAny_setState_of ho hd hf ?_))
  dsimp only
  rw [byScan_of hsc hb hel]
  simp only [↓reduceIte]
  unfold setAddByScan
  refine wpAny_bind ?_
  refine wpAny_bind (wpAny_rule ?_)
  refine wpAny_bind (wpAny_setScan_of hkey ho hd hf hel ?_)
  cases hfi : List.findIdx? (fun e => (strKind P w).is k e.2) es.toList with
  | some j =>
    dsimp only
    obtain ⟨hj, pj, _⟩ := List.findIdx?_eq_some_iff_getElem.mp hfi
    have hSk : S k = true := (hm k).2 ((good_mem (P := P) (w := w) g k).2 ⟨es.toList[j], List.getElem_mem hj, pj⟩)
    refine wpAny_pure (wpAny_pure ?_)
    have q := hQ s.heap (Heap.SameBut.refl a s.heap) ⟨o, es, ep, t, ho, hex, hd, g, nd, fun i => by
      rw [Bool.or_eq_true, decide_eq_true_eq, ← hm i]
      exact ⟨fun z => z.elim id (fun e => e ▸ hSk), .inl⟩, hb, hf, by rw [if_pos hSk]; exact hn, hr, hl⟩
    rw [hSk] at q
    exact q
  | none =>
    dsimp only
    have hnk : k ∉ es.toList.map keyOf := fun z => by
      obtain ⟨e, he, q⟩ := (good_mem (P := P) (w := w) g k).1 z
      have c := List.findIdx?_eq_none_iff.mp hfi e he
      rw [q] at c
      cases c
    have hSk : S k = false := by
      cases q : S k with
      | false => rfl
      | true => exact absurd ((hm k).1 q) hnk
    have hgw : ∀ (b : Bool) {s₁ : Shared} {Q' : Unit → Shared → Prop}, Q' () s₁ → wpAny (model P w) A (match b with | true => rule "set.scan.the-table-gave-way" | false => pure ()) Q' E s₁ :=
      fun b s₁ Q' q => by cases b <;> first | exact wpAny_pure q | exact wpAny_rule q
    have pm := layNew_perm t es ((strKind P w).hash k) (.str k tk)
    have hf1 := layNew_fits t es ((strKind P w).hash k) (.str k tk)
    have hr1 := layNew_ris t es ((strKind P w).hash k) (.str k tk) hr
    have hl1 := layNew_led t es ((strKind P w).hash k) (.str k tk)
    generalize layNew t es ((strKind P w).hash k) (.str k tk) = Z at pm hf1 hr1 hl1 ⊢
    obtain ⟨es1, t1, wasDummy, gave⟩ := Z
    dsimp only at pm hf1 hr1 hl1 ⊢
    rw [Array.toList_push] at pm
    have pc : es1.toList.Perm (((strKind P w).hash k, Value.str k tk) :: es.toList) := pm.trans (List.perm_append_singleton _ _)
    have pk : (es1.toList.map keyOf).Perm (k :: es.toList.map keyOf) := pc.map keyOf
    have g1 : ∀ e ∈ es1.toList, GoodE w e := fun e he => by
      rcases List.mem_cons.mp (pc.mem_iff.mp he) with z | z
      · rw [z]; exact ⟨k, tk, rfl, rfl⟩
      · exact g e z
    have nd1 : (es1.toList.map keyOf).Nodup := pk.nodup_iff.mpr (List.nodup_cons.mpr ⟨hnk, nd⟩)
    have m1 : ∀ i, (S i || decide (i = k)) = true ↔ i ∈ es1.toList.map keyOf := fun i => by
      rw [Bool.or_eq_true, decide_eq_true_eq, hm i, pk.mem_iff, List.mem_cons]
      exact Or.comm
    have hsz : es1.size = n + 1 := by rw [← Array.length_toList, pc.length_eq, List.length_cons, Array.length_toList, hn]
    have hb1 : es1.size < scanBound := by rw [hsz]; exact room
    have hled : w.params.followText "set-order" = true ∨ t1.led = true := hl.imp id fun z => by rw [hl1]; exact z
    have fin : ∀ h', Heap.SameBut a s.heap h' → SetS w h' a (fun j => S j || decide (j = k)) es1.size → Q true { s with heap := h' } := fun h' sb r => by
      have q := hQ h' sb
      rw [hSk] at q
      rw [hsz] at r
      exact q r
    refine wpAny_bind (hgw _ ?_)
    split
    · refine wpAny_bind ?_
      rw [hashByValue_scannable 8 hsc]
      refine wpAny_pure ?_
      refine setS_add_tail ?_ ho hex hd g1 nd1 m1 hb1 ?_ ?_ ?_ ?_
      · intro b s₁ Q' q; cases b <;> first | exact wpAny_pure q | exact wpAny_rule q
      · first | (split <;> first | exact hf1 | exact SetTable.fits_plain_off hf1) | exact hf1
      · first | (split <;> exact hr1) | exact hr1
      · first | (split <;> exact hled) | exact hled
      · intro h' sb r; dsimp only; exact wpAny_pure (fin h' sb r)
    · refine wpAny_bind (wpAny_pure ?_)
      simp only [↓reduceIte]
      refine setS_add_tail ?_ ho hex hd g1 nd1 m1 hb1 hf1 hr1 hled ?_
      · intro b s₁ Q' q; cases b <;> first | exact wpAny_pure q | exact wpAny_rule q
      · intro h' sb r; dsimp only; exact wpAny_pure (fin h' sb r)

end

theorem setS_new_at {w : World} {h : Heap} {a : Addr} {ns : List Str} (ho : h.get? a = some { cls := .type "set", dict := none, data := .set #[] 0 (.fresh 0 0 (!w.params.followText "set-order")) }) : SetS w h a (fun j => decide (j ∈ ns.take 0)) 0 :=
  ⟨_, #[], 0, _, ho, ⟨rfl, rfl, rfl⟩, rfl, (fun e he => by simp at he), (by simp), (fun k => by simp), (by decide), (by rfl), rfl, List.Pairwise.nil, by
    show _ ∨ (!w.params.followText "set-order") = true
    cases w.params.followText "set-order"
    · exact .inr rfl
    · exact .inl rfl⟩
section
variable {P : Program} {w : World} {A : Around} {E : Value → Shared → Prop} {s : Shared}
theorem upd_strs {I : Addr} {fp wr : List Addr} {G : Array GenState → Array GenState → Prop} {n : Nat} {Pv : Nat → Value → Prop} {St : Nat → Shared → Prop} {R : Result → Shared → Prop}
    (W : WalksS P w A.in1 I fp wr G n Pv St) (S : Addr) (hSf : S ∉ fp) (ns : List Str) (hn : n = ns.length) (hb : ns.length + 1 < scanBound) (hval : ∀ i v, Pv i v → ∃ k t, ns[i]? = some k ∧ v = .str k t) :
    ∀ (k i : Nat) (s : Shared), n - i = k → i ≤ n → St i s → (∃ c, c ≤ i ∧ SetS w s.heap S (fun j => decide (j ∈ ns.take i)) c) →
      (∀ s' c, Moved (S :: wr) G s s' → c ≤ n → SetS w s'.heap S (fun j => decide (j ∈ ns)) c → R (.ok (.ret .none)) s') →
      codeAny (model P w) A (.builtin "set.update.loop" ⟨[.ref S, .ref I], []⟩) R s := by
  have hSw : S ∉ wr := fun h => hSf (W.sub _ h)
  have hsub : ∀ b ∈ wr, b ∈ S :: wr := fun b hb => List.mem_cons_of_mem _ hb
  intro k
  induction k with
  | zero =>
    intro i s hk' hi hst ⟨c, hc, hS⟩ hR
    have hin : i = n := by omega
    subst hin
    refine codeAny_builtin F.entry_set_update_loop ?_
    rw [Around.under_plainId F.plain_set_update_loop _]
    show wpAny _ A.in1 (pyNext (.ref I) >>= _) _ _ s
    refine wpAny_bind (W.done s _ _ hst fun s' hm => ?_)
    show wpAny _ A.in1 (ret Value.none) _ _ s'
    have e : ns.take i = ns := List.take_of_length_le (by omega)
    rw [e] at hS
    exact wpAny_pure (hR s' c (hm.mono hsub) hc (hS.at fun o e => hm.heap S o hSw e))
  | succ k ih =>
    intro i s hk' hi hst ⟨c, hc, hS⟩ hR
    have hlt : i < n := by omega
    refine codeAny_builtin F.entry_set_update_loop ?_
    rw [Around.under_plainId F.plain_set_update_loop _]
    show wpAny _ A.in1 (pyNext (.ref I) >>= _) _ _ s
    refine wpAny_bind (W.item i s _ _ hlt hst fun v s' hP hst' hm => ?_)
    obtain ⟨z, t, hz, rfl⟩ := hval i v hP
    have hS' : SetS w s'.heap S (fun j => decide (j ∈ ns.take i)) c := hS.at fun o e => hm.heap S o hSw e
    show wpAny _ A.in1 (holding [Value.str z t] (setAdd S (.str z t)) >>= _) _ _ s'
    refine wpAny_bind (wpAny_holding ?_)
    unfold setAdd
    refine wpAny_holding ?_
    refine wpAny_bind ((strKind P w).pyHash (k := z) (strKind_is _ _ _ _) ?_)
    refine setS_add_hashed (s := { s' with toks := s'.toks + 1 }) hS' (by omega) fun h' hsb hS2 => ?_
    have hS3 : SetS w h' S (fun j => decide (j ∈ ns.take (i + 1))) (if decide (z ∈ ns.take i) = true then c else c + 1) := hS2.congr fun j => by
      rw [List.take_add_one, hz]
      simp [List.mem_append]
    have hc3 : (if decide (z ∈ ns.take i) = true then c else c + 1) ≤ i + 1 := by
      split <;> omega
    refine wpAny_pure ⟨plainId_quiet F.plain_set_update_loop _, ih (i + 1) _ (by omega) hlt (W.frame _ s' _ _ hst' (Nat.le_succ _) fun b hb o e => ?_) ⟨_, hc3, hS3⟩ fun s'' c2 hm'' hc'' hS'' => ?_⟩
    · rw [hsb.2 b (fun h : b = S => hSf (by rw [← h]; exact hb))]; exact e
    · refine hR s'' c2 (Moved.trans W.gtrans ((hm.mono hsub).then_heap (Nat.le_succ _) fun b o hb e => ?_) hm'') hc'' hS''
      rw [hsb.2 b (fun h : b = S => hb (by rw [h]; exact List.mem_cons_self))]; exact e

set_option maxRecDepth 100000 in
set_option maxHeartbeats 3200000 in
theorem call_list {l : Addr} {items : Array Value} (ns : List Str) {Q : Value → Shared → Prop} (hh : A.handled = none) (hl : s.heap.IsList l items) (hit : StrsAre items.toList ns) (hb : ns.length + 1 < scanBound)
    (h : ∀ (h' : Heap) (tk c : Nat), SetS w h' s.heap.objs.size (fun j => decide (j ∈ ns)) c → c ≤ ns.length → (∀ b o, s.heap.get? b = some o → h'.get? b = some o) → Q (.ref s.heap.objs.size) { s with heap := h', toks := tk }) :
    wpAny (model P w) A (call (.type "set") [.ref l]) Q E s := by
  have hisz : items.size = ns.length := by
    have q := StrsAre.length hit
    rw [Array.length_toList] at q
    exact q
  obtain ⟨c, tl, hmro⟩ := F.called_set.mro
  have hmade := F.called_set.made
  have hsub := F.called_set.sub
  refine wpAny_call (codeAny_of_tree ?_)
  show wpAny _ _ (callAny (.type "set") _) _ _ _
  refine wpAny_pure ⟨Code.quiet_builtin _ (by decide +kernel), codeAny_builtin F.entry_type_call ?_⟩
  rw [Around.under_plain (weight_type_call_type "set" [.ref l] []) rfl]
  have h1 := F.called_set.notType
  have h2 := F.called_set.canCreate
  have hct := F.typeCall_set_1 (.ref l)
  repeat (any_goals (first | assumption | wp_step))

  refine codeAny_mono (code_set_led1 (.ref l) (E := E) (Q₁ := fun obj s₁ => obj = .ref s.heap.objs.size ∧ s₁ = { s with heap := s.heap.push { cls := .type "set", dict := none, data := .set #[] 0 (.fresh 0 0 (!w.params.followText "set-order")) } }) ⟨rfl, rfl⟩) fun r s₁ hr => ?_
  cases r with
  | error e => exact hr
  | ok fl =>
    cases fl with
    | ret obj =>
      obtain ⟨rfl, rfl⟩ := hr
      have hS : (s.heap.push { cls := .type "set", dict := none, data := .set #[] 0 (.fresh 0 0 (!w.params.followText "set-order")) }).get? s.heap.objs.size = some { cls := .type "set", dict := none, data := .set #[] 0 (.fresh 0 0 (!w.params.followText "set-order")) } := Heap.get?_push_size _ rfl
      have hT : Shared.TypeIs { s with heap := s.heap.push { cls := .type "set", dict := none, data := .set #[] 0 (.fresh 0 0 (!w.params.followText "set-order")) } } (.ref s.heap.objs.size) "set" := ⟨_, hS, rfl⟩
      have hli := F.called_set.init.lookup
      have hbi := F.called_set.init.bind (.ref s.heap.objs.size)
      repeat (any_goals (first | assumption | wp_step))

      refine codeAny_mono (codeAny_call_builtin (R := wants (fun r s₂ => r = .none ∧ ∃ h' tk c, s₂ = { s with heap := h', toks := tk } ∧ SetS w h' s.heap.objs.size (fun j => decide (j ∈ ns)) c ∧ c ≤ ns.length ∧
          (∀ b o, s.heap.get? b = some o → h'.get? b = some o)) E) F.called_set.init.plain F.entry_set_init (check_set_init_1 hT ?_)) fun r₂ s₂ hr₂ => ?_
      · obtain ⟨ol, hol, hcl, nl, hdl⟩ := hl
        obtain ⟨ocls, odict, odata, oslots⟩ := ol
        simp only at hcl hdl
        subst hcl; subst hdl
        have hol' : (s.heap.push { cls := .type "set", dict := none, data := .set #[] 0 (.fresh 0 0 (!w.params.followText "set-order")) }).get? l = some { cls := .type "list", dict := odict, data := .seq items nl, slots := oslots } := Heap.get?_push_of_some _ hol
        have hsls := F.sub_list_set
        have hslf := F.sub_list_frozenset
        have hne : (Value.type "list" == Value.type "dict") = false := by decide
        have hl1 : (s.heap.push { cls := .type "set", dict := none, data := .set #[] 0 (.fresh 0 0 (!w.params.followText "set-order")) }).IsList l items := ⟨_, hol', rfl, nl, rfl⟩
        unfold Builtin.«set.__init__» noKeywords Builtin.Frozenset.updateFrom
        generalize hPI : pyIter = PI
        wp_walk
        subst hPI

        refine wpAny_pyIter_list hl1 ?_
        refine wpAny_bind (wpAny_runValue ?_)
        have hlS : l < s.heap.objs.size := Heap.lt_size hol
        have hh3 : A.in1.in1.in1.handled = none := by simp [hh]
        have hz1 : (s.heap.push { cls := .type "set", dict := none, data := .set #[] 0 (.fresh 0 0 (!w.params.followText "set-order")) }).objs.size = s.heap.objs.size + 1 := Heap.size_push ..
        have hneI : l ≠ (s.heap.push { cls := .type "set", dict := none, data := .set #[] 0 (.fresh 0 0 (!w.params.followText "set-order")) }).objs.size := by
          rw [Heap.size_push]; exact Nat.ne_of_lt (Nat.lt_succ_of_lt hlS)
        have hSf : s.heap.objs.size ∉ [(s.heap.push { cls := .type "set", dict := none, data := .set #[] 0 (.fresh 0 0 (!w.params.followText "set-order")) }).objs.size, l] := by
          rw [Heap.size_push]; simp only [List.mem_cons, List.mem_singleton, List.not_mem_nil, or_false, not_or]
          exact ⟨Nat.ne_of_lt (Nat.lt_succ_self _), Nat.ne_of_gt hlS⟩
        have hval : ∀ (i : Nat) (v : Value), items[i]? = some v → ∃ k t, ns[i]? = some k ∧ v = .str k t := fun i v hv => by
          obtain ⟨y, t, e1, e2⟩ := hit.item i v (by rw [Array.getElem?_toList]; exact hv)
          exact ⟨y, t, e2, e1⟩
        refine upd_strs ((Walks.list hh3 _ l hneI items).toS) s.heap.objs.size
          hSf ns hisz hb hval (items.size - 0) 0 _ (by omega) (Nat.zero_le _)
          ⟨⟨_, Heap.get?_push_size _ rfl, rfl, rfl⟩, (hl1.push _)⟩ ?hS0 ?hR
        case hS0 =>
          have hget : ((s.heap.push { cls := .type "set", dict := none, data := .set #[] 0 (.fresh 0 0 (!w.params.followText "set-order")) }).push { cls := .type "list_iterator", data := .fields #[.ref l, .int 0 0] }).get? s.heap.objs.size
              = some { cls := .type "set", dict := none, data := .set #[] 0 (.fresh 0 0 (!w.params.followText "set-order")) } := Heap.get?_push_of_some _ hS
          exact ⟨0, Nat.le_refl 0, setS_new_at hget⟩
        case hR =>
          intro s' c' hm hc' hS'
          obtain ⟨h', g2, d', tk', os'⟩ := s'
          have eg : g2 = s.gens := hm.gens
          have ed : d' = s.drawn := hm.drawn
          have eo : os' = s.os := hm.os
          subst eg; subst ed; subst eo
          show wpAny _ _ _ _ _ _
          refine wpAny_pure ?_
          show wpAny _ _ (ret Value.none) _ _ _
          rw [hisz] at hc'
          refine wpAny_pure ⟨rfl, h', tk', c', rfl, hS', hc', fun b o e => ?_⟩
          have hb0 : b < s.heap.objs.size := Heap.lt_size e
          have hb1 : b ≠ s.heap.objs.size := Nat.ne_of_lt hb0
          have hb2 : b ≠ (s.heap.push { cls := .type "set", dict := none, data := .set #[] 0 (.fresh 0 0 (!w.params.followText "set-order")) }).objs.size := by
            rw [Heap.size_push]; exact Nat.ne_of_lt (Nat.lt_succ_of_lt hb0)
          exact hm.heap b o (by simp only [List.mem_cons, List.mem_singleton, List.not_mem_nil, or_false, not_or]; exact ⟨hb1, hb2⟩) (Heap.get?_push_of_some _ (Heap.get?_push_of_some _ e))

      · cases r₂ with
        | error e => exact hr₂
        | ok fl₂ =>
          cases fl₂ with
          | ret r =>
            obtain ⟨rfl, h', tk, c', rfl, hS', hc', hk'⟩ := hr₂
            repeat (any_goals (first | assumption | wp_step))
            exact h _ _ _ hS' hc' hk'
          | _ => exact hr₂.elim
    | _ => exact hr.elim

end

end SS
end K36
namespace K36
open PySem PySem.Spec PyProof.Rows L2
namespace SS
open PySem PySem.SeqAt
section
variable {P : Program} {w : World} {A : Around} {E : Value → Shared → Prop} {s : Shared} {a : Addr}
def rawS (v : Value) : Str := match v with
  | .str x _ => x
  | _ => PySem.Str.empty
theorem strs_of : ∀ (l : List Value), (∀ v ∈ l, ∃ k tk, v = Value.str k tk) → StrsAre l (l.map rawS)
  | [], _ => .nil
  | v :: l, h => by
    obtain ⟨k, tk, rfl⟩ := h v List.mem_cons_self
    exact .cons k tk (strs_of l fun u hu => h u (List.mem_cons_of_mem _ hu))
theorem sorted_setS {S : Str → Bool} {n : Nat} {Q : Value → Shared → Prop} (R : SetS w s.heap a S n) (hh : A.handled = none)
    (hQ : ∀ s' p (out : Array Value) (c : Nat) (ns : List Str), (∀ b o, s.heap.get? b = some o → s'.heap.get? b = some o) → s'.gens = s.gens → s'.os = s.os → s.heap.objs.size ≤ p → s'.heap.get? p = some (seqObj "list" out c) → StrsAre out.toList ns →
      sortedS ns = true → ns.Nodup → (∀ k, k ∈ ns ↔ S k = true) → ns.length = n → Q (.ref p) s') : wpAny (model P w) A (call (.builtin "sorted") [.ref a]) Q E s := by
  obtain ⟨o, es, ep, t, ho, hex, hd, g, nd, hm, hb, hf, hn, hr, hl⟩ := R
  refine Calls.call_function_entry kind_sorted plain_sorted entry_sorted (args_sorted1 _) ?_
  unfold Builtin.«sorted»
  refine wpAny_bind (m := checkCount "sorted" 1 1 _) (wpAny_pure ?_)
  refine wpAny_bind (collect_set (A := A.in1) hh ⟨o, ho, hex.1, hd⟩ hf hb hr hl fun s1 vs k1 hz g1 o1 pm => ?_)
  have hvl : vs.length = n := by rw [pm.length_eq, List.length_map, Array.length_toList]; exact hn
  have vz : vs.length ≤ sizeLine := by
    rw [hvl, ← hn]
    exact Nat.le_trans (Nat.le_of_lt hb) (by decide)
  have hI : StrsAre vs (vs.map rawS) := strs_of vs fun v hv => by
    obtain ⟨e, he, q⟩ := List.mem_map.mp (pm.mem_iff.mp hv)
    obtain ⟨k, tk, h1, _⟩ := g e he
    exact ⟨k, tk, by rw [← q]; exact h1⟩
  have pk : (vs.map rawS).Perm (es.toList.map keyOf) := by
    have q := pm.map rawS
    rw [List.map_map] at q
    exact q
  refine wpAny_bind (wpAny_newList ?_ vz)
  have hoL : (s1.heap.push (seqObj "list" vs.toArray 0)).get? s1.heap.objs.size = some (seqObj "list" vs.toArray 0) := Heap.get?_push_size _ rfl
  refine wpAny_bind (wpAny_holding (wpAny_call_entry slot_list_sort ⟨_, hoL, rfl⟩ entry_list_sort (list_sort_treeKAny strKind_oneLt hoL hI.keysOf (fun v1 v2 rest e => keyKind_strs (by rw [← e]; exact hI)) vz fun st' hp hs => ?_) (args_list_sort _)))
  obtain ⟨ns', a1, a2, a3⟩ := sorted_out_str hI hp hs
  obtain ⟨c, hc⟩ := sortedHeap_at (vs := vs) (out := (arrOf st').map (·.2)) hoL
  have pn : ns'.Perm (es.toList.map keyOf) := a2.trans pk
  refine ⟨_, rfl, wpAny_pure ⟨_, rfl, hQ _ s1.heap.objs.size _ c ns' (fun b u e => ?_) g1 o1 hz hc a1 a3 (pn.nodup_iff.mpr nd) (fun k => by rw [pn.mem_iff, ← hm k]) ?_⟩⟩
  · have q := k1 b u e
    have hlt := Heap.lt_size q
    show (sortedHeap (s1.heap.push (seqObj "list" vs.toArray 0)) s1.heap.objs.size vs _).get? b = some u
    rw [sortedHeap_old (Nat.ne_of_lt hlt) (by rw [size_push']; exact Nat.lt_succ_of_lt hlt)]
    exact Heap.get?_push_of_some _ q
  · rw [pn.length_eq, List.length_map, Array.length_toList]
    exact hn
end
end SS
/-! ### the rules: set(xs) of strings, sorted of it, sorted(xs) of strings, any number -/
def SetSO (w : World) (a : Addr) (S : Str → Bool) (n : Nat) : HO := .ext fun h => SS.SetS w h a S n
def rSetOfS (K : PySem.W.Frag) (w : World) : List V → Hp → VK → Prop := fun xs H Q => ∃ (l : Addr) (ns : List Str), xs = [V.ref l] ∧ SqL K H l (ns.map V.str) ∧ ns.length ≤ 4000 ∧ ∀ (a : Addr) (n : Nat), H a = none → Q (.ref a) (upd H a (SetSO w a (fun j => decide (j ∈ ns)) n))
def rSortedSS (w : World) : List V → Hp → VK → Prop := fun vs H Q => ∃ (a : Addr) (S : Str → Bool) (n : Nat), vs = [V.ref a] ∧ H a = some (SetSO w a S n) ∧
  ∀ (ns : List Str) (p : Addr), sortedS ns = true → ns.Nodup → (∀ k : Str, k ∈ ns ↔ S k = true) → H p = none → Q (.ref p) (upd H p (.lst (ns.map V.str)))
def rSortedA (K : PySem.W.Frag) : List V → Hp → VK → Prop := fun vs H Q => ∃ (a : Addr) (xs : List Str), vs = [V.ref a] ∧ SqL K H a (xs.map V.str) ∧ ∀ (ys : List Str) (p : Addr), ys.Perm xs → sortedS ys = true → H p = none → Q (.ref p) (upd H p (.lst (ys.map V.str)))
section
variable {X : Cx}
theorem setSO_new {w : World} {P : Program} {H : Hp} {h : Heap} {a : Addr} {S : Str → Bool} {n : Nat} (R : SS.SetS w h a S n) : ObjOk P w H h a (SetSO w a S n) := by
  refine ⟨R, ?_, fun h1 h2 r k => r.at k⟩
  obtain ⟨o, es, ep, t, ho, _⟩ := R
  exact ⟨o, ho⟩
theorem cr_setOfS (hc : X.calm = true) : CallR X (.type "set") (rSetOfS X.K X.w) := by
  intro pins s σ H xs us Q I r h
  obtain ⟨l, ns, rfl, hl, hn, q⟩ := h
  rw [Vals.ref1 r]
  obtain ⟨its, rv, pl, hz⟩ := I.list hl
  refine SS.call_list ns (I.ok.hd hc) pl.isList (by simpa using rv.strs) (by show _ < 4096; omega) fun h' tk c R hcn k => ?_
  exact ⟨.ref s.heap.objs.size, _, I.laid (t' := tk) k (Nat.le_refl _) (setSO_new R), rfl, q _ c (I.hok.fresh (Nat.le_refl _))⟩
theorem cr_sortedSS (hc : X.calm = true) : CallR X (.builtin "sorted") (rSortedSS X.w) := by
  intro pins s σ H vs us Q I r h
  obtain ⟨a, S, n, rfl, ha, q⟩ := h
  have R : SS.SetS X.w s.heap a S n := (show _ ∧ _ from I.hok a _ ha).1
  have hsz : n ≤ sizeLine := by
    obtain ⟨o, es, ep, t, _, _, _, _, _, _, hb, _, hn, _⟩ := R
    rw [← hn]
    exact Nat.le_trans (Nat.le_of_lt hb) (by decide)
  rw [Vals.ref1 r]
  refine SS.sorted_setS R (I.ok.hd hc) fun s' p out c ns k g o hp hg hi hs hnd hm hl => ?_
  have hlen : (ns.map V.str).length ≤ sizeLine := by rw [List.length_map, hl]; exact hsz
  have hn : H p = none := I.hok.fresh hp
  have J : L2.Inv X pins σ (upd H p (.lst (ns.map V.str))) { s with heap := s'.heap, gens := s'.gens, drawn := s'.drawn, toks := s'.toks } :=
    I.call (ch := []) (Un.laid k hp hn) (I.hok.laid k hp ⟨hlen, out.toList, c, vals_of_strs hi, hg⟩) (by rw [g]; exact I.bare) (fun _ z => nomatch z)
  have e : s' = { s with heap := s'.heap, gens := s'.gens, drawn := s'.drawn, toks := s'.toks } := by
    cases s'
    cases s
    cases o
    rfl
  rw [e]
  exact ⟨.ref p, _, J, rfl, q ns p hs hnd hm hn⟩
theorem cr_sortedA : CallR X (.builtin "sorted") (rSortedA X.K) := by
  intro pins s σ H vs us Q I r h
  obtain ⟨a, xs, rfl, hs, q⟩ := h
  obtain ⟨its, rv, hl, hz⟩ := I.list hs
  rw [Vals.ref1 r]
  have hlen0 := rv.length
  rw [List.length_map] at hlen0 hz
  refine sorted_strsAny hl.isList rv.strs (by rw [← hlen0]; exact hz) fun out ys h1 h2 h3 => ?_
  obtain ⟨ep, he'⟩ := sortedAll_at s.heap its out
  have hlen : (ys.map V.str).length ≤ sizeLine := by rw [List.length_map, h2.length_eq]; exact hz
  exact ⟨.ref _, upd H (s.heap.objs.size + 1) (.lst (ys.map V.str)), I.laid (t' := s.toks) (fun _ _ => sortedAll_old) (Nat.le_succ _) ⟨hlen, out.toList, ep, vals_of_strs h1, he'⟩, rfl, q ys _ h2 h3 (I.hok.fresh (Nat.le_succ _))⟩
end
end K36
namespace K36
open PySem PySem.Spec PyProof.Rows L2
-- uses T0 A0 A1
/-! ### max of at most one, by the first of it, with a default -/
section
variable {prog : Program} {w : World} {A : Around} {E : Value → Shared → Prop} {s : Shared}
/-- the lambda «one: one[0]», called -/
theorem lam_first {qual one : Str} {params : Arguments} {scope : Scope} {p1 p2 p3 : Pos} {clos : List (Str × Addr)} {pm ctv : Value} {f c' t : Addr} {j : Nat} {items : Array Value} {x : Value} {Q : Value → Shared → Prop}
    (hroom : A.depth < recursionLimit) (hlim : s.heap.NoLimit)
    (of : s.heap.get? f = some (PySem.W.kla_obj "<lambda>" qual params (.Subscript (.Name one p1) (.Constant (.int 0) j p2) p3) scope clos pm c' ctv)) (hcd : s.heap.CodeRec (.ref c') qual)
    (sk : scope.kind = .function) (sco : scope.isCoroutine = false) (sg : scope.isGenerator = false) (sn : ∀ y ∈ scope.names, y.2 ≠ .cell) (sl : scope.names.lookup one = some .local)
    (hd : (one == ("__debug__" : Str)) = false)
    (hbind : bindArgs (PySem.W.kla_fn "<lambda>" qual params (.Subscript (.Name one p1) (.Constant (.int 0) j p2) p3) scope clos pm (.ref c') ctv) ⟨[.ref t], []⟩ = pure [(one, .ref t)])
    (ht : IsTup s.heap t items) (h0 : 0 < items.size) (hx : items[0]? = some x)
    (h : ∀ h' tk, (∀ b o, s.heap.get? b = some o → h'.get? b = some o) → Q x { s with heap := h', toks := tk }) :
    wpAny (model prog w) A (call (.ref f) [.ref t]) Q E s := by
  refine wpAny_call (PySem.W.kla_callFunE hroom of rfl sco sg rfl hcd ?_)
  rw [hbind]
  refine wpAny_pure (wpAny_newFunctionEnv sn (fun y hy => by rw [List.mem_singleton.mp hy]; exact sl) (fun h1 hns hsb => ?_) sk)
  have kp : ∀ b o, s.heap.get? b = some o → h1.get? b = some o := fun b o e => hsb.extBut b o (Nat.ne_of_lt (Heap.lt_size e)) (Heap.get?_push_of_some _ e)
  refine ⟨hlim.keeps kp, PySem.W.kla_codeExpr (Subscript_ ?_)⟩
  refine wpAny_Name (wpAny_loadName_local (v := .ref t) sk sl hns (by simp [List.lookup]) ?_) hd
  refine wpAny_Constant_int ?_
  exact item_tuple (ht.keeps kp) (by decide) (by decide) (j := 0) (by simp [seqIndex?, h0]) hx (h _ _ kp)
theorem max_kd (a v d : Value) : argsOk "max" ⟨[a], [(Str.ofString "key", v), (Str.ofString "default", d)]⟩ := by unfold argsOk; kernel_rfl
theorem max_raw1 {l q : Addr} {d : Value} {vs : List Value} {Q : Value → Shared → Prop} (hh : A.handled = none) (hl : s.heap.IsList l vs.toArray) (h1 : vs.length ≤ 1)
    (turn : ∀ (v : Value), vs[0]? = some v → ∀ (h : Heap) (tk : Nat), (∀ b o, s.heap.get? b = some o → h.get? b = some o) →
      wpAny (model prog w) A.in1 (call (.ref q) [v]) (fun x s' => ∃ h' tk', s' = { s with heap := h', toks := tk' } ∧ ∀ b o, h.get? b = some o → h'.get? b = some o) (fun _ _ => False) { s with heap := h, toks := tk })
    (hQ : ∀ v h' tk', (vs[0]? = some v ∨ (vs = [] ∧ v = d)) → (∀ b o, s.heap.get? b = some o → h'.get? b = some o) → Q v { s with heap := h', toks := tk' }) :
    wpAny (model prog w) A (call (.builtin "max") [.ref l] [(Str.ofString "key", .ref q), (Str.ofString "default", d)]) Q E s := by
  have hname : (toString "max" ++ toString ".loop" : String) = "max.loop" := by decide
  obtain ⟨ol, hol, _⟩ := id hl
  have hll : l < s.heap.objs.size := Heap.lt_size hol
  refine kmk_tree PySem.F.kind_max PySem.F.plain_max PySem.F.entry_max (max_kd _ _ _) ?_
  show wpAny _ A.in1 (Builtin.Builtins.bindParams "max" ["key", "default"] 0 ⟨[], [(Str.ofString "key", .ref q), (Str.ofString "default", d)]⟩ >>= _) _ _ s
  refine wpAny_bind (wpAny_of_eq (show Builtin.Builtins.bindParams "max" ["key", "default"] 0 ⟨[], [(Str.ofString "key", .ref q), (Str.ofString "default", d)]⟩ = pure [some (.ref q), some d] from rfl) ?_)
  refine wpAny_bind (wpAny_pure (wpAny_bind (wpAny_pyIter_list hl (wpAny_bind (wpAny_newList ?_ (Nat.zero_le _))))))
  rw [hname]
  generalize eH : (s.heap.push { cls := .type "list_iterator", data := .fields #[.ref l, .int 0 0] }) = hI
  have eI : hI.get? s.heap.objs.size = some { cls := .type "list_iterator", data := .fields #[.ref l, .int 0 0] } := by
    rw [← eH]
    exact Heap.get?_push_size _ rfl
  have zI : hI.objs.size = s.heap.objs.size + 1 := by
    rw [← eH]
    exact size_push' ..
  have kI : ∀ b o, s.heap.get? b = some o → hI.get? b = some o := fun b o e => by
    rw [← eH]
    exact Heap.get?_push_of_some _ e
  have nIS : hI.objs.size ≠ s.heap.objs.size := by rw [zI]; exact Nat.ne_of_gt (Nat.lt_succ_self _)
  have hlI : l ≠ s.heap.objs.size := Nat.ne_of_lt hll
  have W := Walks.list (prog := prog) (w := w) (A := A.in1) hh s.heap.objs.size l hlI vs.toArray
  have hsz : vs.toArray.size = vs.length := List.size_toArray ..
  refine wpAny_pure ⟨plainId_quiet PySem.F.plain_max_loop _, codeAny_builtin PySem.F.entry_max_loop ?_⟩
  rw [Around.under_plainId PySem.F.plain_max_loop _]
  have gS : (hI.push (seqObj "list" #[] 0)).get? hI.objs.size = some (seqObj "list" #[] 0) := Heap.get?_push_size _ rfl
  have gI : (hI.push (seqObj "list" #[] 0)).get? s.heap.objs.size = some { cls := .type "list_iterator", data := .fields #[.ref l, .int 0 0] } := Heap.get?_push_of_some _ eI
  have kS : ∀ b o, s.heap.get? b = some o → (hI.push (seqObj "list" #[] 0)).get? b = some o := fun b o e => Heap.get?_push_of_some _ (kI b o e)
  have old : ∀ b o, s.heap.get? b = some o → b ∉ [s.heap.objs.size] := fun b o e z => by
    rw [List.mem_singleton.mp z] at e
    exact Nat.lt_irrefl _ (Heap.lt_size e)
  have oldS : ∀ b o, s.heap.get? b = some o → b ≠ hI.objs.size := fun b o e z => by
    have lt := Heap.lt_size e
    rw [z, zI] at lt
    exact Nat.lt_irrefl _ (Nat.lt_of_succ_lt lt)
  show wpAny _ A.in1 (seqItems? (.ref hI.objs.size) >>= _) _ _ _
  refine wpAny_bind (wpAny_seqItems gS rfl ?_)
  show wpAny _ A.in1 (tryCatch (pyNext (.ref s.heap.objs.size)) _ >>= _) _ _ _
  cases vs with
  | nil =>
    refine wpAny_bind (wpAny_tryCatch (W.done _ _ _ ⟨⟨_, gI, rfl, rfl⟩, hl.at fun o e => kS l o e⟩ fun h' tk' hk' => ?_))
    refine wpAny_bind (wpAny_rule (wpAny_pure ?_))
    exact hQ d h' tk' (.inr ⟨rfl, rfl⟩) fun b o e => hk' b o (old b o e) (kS b o e)
  | cons v0 vs =>
    have ev : vs = [] := List.length_eq_zero_iff.mp (by rw [List.length_cons] at h1; omega)
    subst ev
    refine wpAny_bind (wpAny_tryCatch (W.item 0 _ _ _ (by simp) ⟨⟨_, gI, rfl, rfl⟩, hl.at fun o e => kS l o e⟩ fun v h' tk' hP hst' hk' => ?_))
    have hv : v0 = v := by simpa using hP
    subst hv
    obtain ⟨oI, hoI, hoc, hod⟩ := id hst'.1
    have k1 : ∀ b o, s.heap.get? b = some o → h'.get? b = some o := fun b o e => hk' b o (old b o e) (kS b o e)
    show wpAny _ A.in1 (tryCatch (holding [v0] (call (.ref q) [v0])) _ >>= _) _ _ _
    refine wpAny_bind (wpAny_tryCatch (wpAny_holding (wpAny_mono (turn v0 rfl h' tk' k1) (fun x s2 he => ?_) fun _ _ hF => hF.elim)))
    obtain ⟨h2, tk2, rfl, k2⟩ := he
    have gS2 := k2 _ _ (hk' _ _ (by simpa using nIS) gS)
    have s3 := Heap.SameBut.update h2 hI.objs.size (Obj.mapSeq fun _ => #[v0, x])
    obtain ⟨c3, hc3⟩ : ∃ c3, (h2.update hI.objs.size (Obj.mapSeq fun _ => #[v0, x])).get? hI.objs.size = some (seqObj "list" #[v0, x] c3) := ⟨_, get?_update_seq gS2 fun _ => #[v0, x]⟩
    show wpAny _ A.in1 (updateSeq hI.objs.size (fun _ => #[v0, x]) >>= _) _ _ _
    refine wpAny_bind (wpAny_updateSeq gS2 rfl ?_)
    rw [hname]
    refine wpAny_pure ⟨plainId_quiet PySem.F.plain_max_loop _, codeAny_builtin PySem.F.entry_max_loop ?_⟩
    rw [Around.under_plainId PySem.F.plain_max_loop _]
    show wpAny _ A.in1 (seqItems? (.ref hI.objs.size) >>= _) _ _ _
    refine wpAny_bind (wpAny_seqItems hc3 rfl ?_)
    show wpAny _ A.in1 (tryCatch (pyNext (.ref s.heap.objs.size)) _ >>= _) _ _ _
    have k3 : ∀ b o, s.heap.get? b = some o → (h2.update hI.objs.size (Obj.mapSeq fun _ => #[v0, x])).get? b = some o := fun b o e => (s3.2 b (oldS b o e)).trans (k2 b o (k1 b o e))
    refine wpAny_bind (wpAny_tryCatch (W.done _ _ _ ⟨⟨oI, (s3.2 _ nIS.symm).trans (k2 _ _ hoI), hoc, hod⟩, hl.at fun o e => k3 l o e⟩ fun h4 tk4 hk4 => ?_))
    have gS4 := hk4 _ _ (by simpa using nIS) hc3
    have s5 := Heap.SameBut.update h4 hI.objs.size (Obj.mapSeq fun _ => (#[] : Array Value))
    show wpAny _ A.in1 (updateSeq hI.objs.size (fun _ => #[]) >>= _) _ _ _
    refine wpAny_bind (wpAny_updateSeq gS4 rfl (wpAny_bind (wpAny_letGo (wpAny_pure ?_))))
    exact hQ v0 _ _ (.inl rfl) fun b o e => (s5.2 b (oldS b o e)).trans (hk4 b o (old b o e) (k3 b o e))
end
/-! ### the rule -/
def one1 (P : VK) : List V → Hp → Prop
  | [v], H => P v H
  | _, _ => False
theorem one1_ex {P : VK} : ∀ {vs : List V} {H : Hp}, one1 P vs H → ∃ v, vs = [v] ∧ P v H
  | [], _, h => h.elim
  | [v], _, h => ⟨v, rfl, h⟩
  | _ :: _ :: _, _, h => h.elim
/-- max(e, key=lambda one: one[0], default=d) of a list of at most one tuple -/
def tMaxL (T : List (Addr × Str)) (q : Str) (te td : TE) : TE := fun σ H Q => te σ H fun v H1 => ∃ (l : Addr) (xs : List V), v = .ref l ∧ xs.length ≤ 1 ∧ LamX.Tabs T H1 ∧
  ∀ (c' : Addr) (H2 : Hp), LamX.ExtN H1 H2 → LamX.Tabs T H2 → H2 c' = some (LamX.CodeO c' q) → td σ H2 fun dv H3 => H3 c' = some (LamX.CodeO c' q) ∧ H3 l = some (.lst xs) ∧
    (∀ x, x ∈ xs → ∃ (t : Addr) (m : V) (r : List V), x = .ref t ∧ H3 t = some (.tup (m :: r))) ∧ ∀ x, (x ∈ xs ∨ (xs = [] ∧ x = dv)) → Q x H3
section
variable {X : Cx}
theorem pe_maxL {T : List (Addr × Str)} {c P : Addr} {k : Nat} {one : Str} {params : Arguments} {scope : Scope} {p p1 p2 p3 lpos k1 k2 pos : Pos} {j : Nat} {e d : Expr} {te td : TE} (TB : LamX.TabB X.base X.mg c P) (hcode : X.env.code = .ref c) (hmT : (P, X.env.qual ++ "<lambda>") ∈ T) (huT : ∀ p ∈ T, p.1 = P → p.2 = X.env.qual ++ "<lambda>")
    (hdef : defaultsOf params X.env = ([], [])) (hr : Room k X.A) (hcalm : X.calm = true) (hg : Gl X "max") (hm : X.mg "max" = none) (hs : X.stack = X.env :: X.outer) (hf : X.env.frame = some X.env.locals) (ha : PA X [e] (tCons te tNil)) (hdd : PE X d td)
    (sk : scope.kind = .function) (sco : scope.isCoroutine = false) (sg : scope.isGenerator = false) (sn : ∀ y ∈ scope.names, y.2 = .local) (sl : scope.names.lookup one = some .local) (hone : (one == ("__debug__" : Str)) = false)
    (hbind : ∀ (q : Str) (cl : List (Str × Addr)) (pm cv ctv u : Value), bindArgs (PySem.W.kla_fn "<lambda>" q params (.Subscript (.Name one p1) (.Constant (.int 0) j p2) p3) scope cl pm cv ctv) ⟨[u], []⟩ = pure [(one, u)])
    (hst : backTo pos (starEach [e] X.env) = (false, eval e X.env) :: backTo pos (starEach [] X.env) := by rfl) (hpl : (backTo pos (starEach [e] X.env)).any (·.1) = false := by rfl)
    (hall : (backToKw pos (keywordEach [⟨some "key", .Lambda params (.Subscript (.Name one p1) (.Constant (.int 0) j p2) p3) scope lpos, k1⟩, ⟨some "default", d, k2⟩] X.env)).all (·.1.isSome) = true := by rfl)
    (hnone : (backToKw pos (keywordEach [⟨some "key", .Lambda params (.Subscript (.Name one p1) (.Constant (.int 0) j p2) p3) scope lpos, k1⟩, ⟨some "default", d, k2⟩] X.env)).any (·.1.isNone) = false := by rfl)
    (hks : (backToKw pos (keywordEach [⟨some "key", .Lambda params (.Subscript (.Name one p1) (.Constant (.int 0) j p2) p3) scope lpos, k1⟩, ⟨some "default", d, k2⟩] X.env)).filterMap (·.1) = [Str.ofString "key", Str.ofString "default"] := by rfl) :
    PE X (.Call (.Name "max" p) [e] [⟨some "key", .Lambda params (.Subscript (.Name one p1) (.Constant (.int 0) j p2) p3) scope lpos, k1⟩, ⟨some "default", d, k2⟩] pos) (tMaxL T (X.env.qual ++ "<lambda>") te td) := by
  refine ⟨fun pins s σ H Q I h => ?_⟩
  refine wpAny_Call_Name_kw (ld_blt I hg hm bo_max ?_ (by decide) (by decide))
  refine PyProof.Rows.callWith_kw (thn (ha.run pos pins s σ H (one1 _) I h) fun us s1 hu => ?_) hst hpl hall hnone
  · obtain ⟨vs, H1, I1, r1, hv⟩ := hu
    obtain ⟨v, rfl, l, xs, rfl, lx, hT, q⟩ := one1_ex hv
    rw [Vals.ref1 r1]
    show wpAny _ _ (evalAll ((do let v ← eval (.Lambda params (.Subscript (.Name one p1) (.Constant (.int 0) j p2) p3) scope lpos) X.env; standAt pos; pure v) :: (do let v ← eval d X.env; standAt pos; pure v) :: [])) _ _ s1
    refine wpAny_evalAll_cons (wpAny_bind (LamX.lam_make2 I1 TB hcode hmT huT hT hdef (fun y hy hf => by rw [sn y hy] at hf; cases hf) fun f c' pm ctv H2 s2 I2 eN T2 hof hfn hfr hco => wpAny_bind (wpAny_standAt (wpAny_pure ?_))))
    have fr1 : ∀ b, b = X.env.locals ∨ b ∈ X.fs → b ∈ frs X.stack := fun b hb => by
      rw [hs]
      rcases hb with hb | hb
      · exact List.mem_filterMap.mpr ⟨X.env, List.mem_cons_self, by rw [hf, hb]⟩
      · obtain ⟨e, he, q⟩ := List.mem_filterMap.mp hb
        exact List.mem_filterMap.mpr ⟨e, List.mem_cons_of_mem _ he, q⟩
    have J2 : Inv X (pins ++ [(f, PySem.W.kla_obj "<lambda>" (X.env.qual ++ "<lambda>") params (.Subscript (.Name one p1) (.Constant (.int 0) j p2) p3) scope (cloFrom X.env.cells scope.names []) pm c' ctv)]) σ H2 s2 := I2.pins_of fun p hp => by
      rcases List.mem_append.mp hp with hp | hp
      · exact I2.pin p (List.mem_append_right _ hp)
      · rw [List.mem_singleton.mp hp]
        exact ⟨hof, hfn, fun z => hfr (fr1 f (.inl z)), fun z => hfr (fr1 f (.inr z)), fun v z => nomatch z⟩
    refine wpAny_evalAll_cons (wpAny_bind (thn (hdd.run _ s2 σ H2 _ J2 (q c' H2 eN T2 hco)) fun u s3 hu => wpAny_bind (wpAny_standAt (wpAny_pure (wpAny_evalAll_nil ?_)))))
    obtain ⟨dv, H3, I3, rd, hco3, hl3, hx3, hn3⟩ := hu
    rw [hks]
    have of3 := (I3.pin (f, _) (List.mem_append_right _ (List.mem_append_right _ (List.mem_singleton.mpr rfl)))).1
    obtain ⟨⟨oc, cvs, tq, e1, e2, e3⟩, _, _⟩ := I3.hok c' _ hco3
    obtain ⟨its, rv, pl, _⟩ := I3.list (SqL.of hl3)
    have lits : its.length = xs.length := rv.length.symm
    refine max_raw1 (I3.ok.hd hcalm) pl.isList (by omega) (fun v hv hp tk k => ?_) (fun v h' tk' hv k => ?_)
    · obtain ⟨x, hx⟩ : ∃ x, xs = [x] := by
        cases xs with
        | nil =>
          have e : its = [] := List.length_eq_zero_iff.mp lits
          rw [e] at hv
          cases hv
        | cons x r =>
          have e : r = [] := List.length_eq_zero_iff.mp (by rw [List.length_cons] at lx; omega)
          exact ⟨x, by rw [e]⟩
      subst hx
      obtain ⟨t, m, r, rfl, ht⟩ := hx3 _ List.mem_cons_self
      cases rv with
      | cons rx rn =>
        cases rn
        have ev : _ = v := Option.some.inj hv
        subst ev
        cases rx
        obtain ⟨its2, rt, tt, _⟩ := I3.tuple (SqT.of ht)
        cases rt with
        | cons rm rr =>
          exact lam_first (hr.depth) (I3.nolimit.keeps k) (k _ _ of3) ⟨c', oc, cvs, tq, rfl, k _ _ e1, e2, e3⟩ sk sco sg (fun y hy => by rw [sn y hy]; intro z; cases z) sl hone (hbind _ _ _ _ _ _) (tt.keeps k) (by simp) rfl fun h2 tk2 k2 => ⟨h2, tk2, rfl, k2⟩
    · have I4 : Inv X pins σ H3 { s3 with heap := h', toks := tk' } := (I3.kept k).unpinned
      rcases hv with hv | ⟨hv, rfl⟩
      · obtain ⟨x, hx⟩ : ∃ x, xs = [x] := by
          cases xs with
          | nil =>
            have e : its = [] := List.length_eq_zero_iff.mp lits
            rw [e] at hv
            cases hv
          | cons x r =>
            have e : r = [] := List.length_eq_zero_iff.mp (by rw [List.length_cons] at lx; omega)
            exact ⟨x, by rw [e]⟩
        subst hx
        obtain ⟨t, m, r, rfl, ht⟩ := hx3 _ List.mem_cons_self
        cases rv with
        | cons rx rn =>
          have ev : _ = v := Option.some.inj hv
          subst ev
          exact ⟨.ref t, H3, I4, rx, hn3 _ (.inl List.mem_cons_self)⟩
      · subst hv
        have e : xs = [] := List.length_eq_zero_iff.mp lits.symm
        exact ⟨dv, H3, I4, rd, hn3 _ (.inr ⟨e, rfl⟩)⟩
end
end K36
namespace K36
open PySem PySem.Spec PyProof.Rows L2
-- uses T0
/-! ### except clauses with and without names, one behind the other; an own exception made of nothing -/
/-- what such clauses wish of an exception of the body; told of each: the class, its name's slot, the suite's reading -/
def wCl (K : PySem.W.Frag) (Wout : WX) (D : Ends) : List (Value × Option Nat × (Addr → Value → Option Addr → TS)) → WX
  | [] => Wout
  | (c, none, ts) :: r => fun cls d σ H => ∃ b, PySem.W.exmOne K cls c = some b ∧ (b = true → ∀ a, H a = none → ts a cls d D σ H) ∧ (b = false → wCl K Wout D r cls d σ H)
  | (c, some i, ts) :: r => fun cls d σ H => ∃ b, PySem.W.exmOne K cls c = some b ∧
      (b = true → ∀ a, H a = none → ts a cls d { nx := fun σ' H' => D.nx (σ'.set i none) H', rt := D.rt, bk := fun σ' H' => D.bk (σ'.set i none) H', ct := fun σ' H' => D.ct (σ'.set i none) H' } (σ.set i (some (.ref a))) H) ∧
      (b = false → wCl K Wout D r cls d σ H)
inductive ClOk (X : Cx) : List ExceptHandler → List (Value × Option Nat × (Addr → Value → Option Addr → TS)) → Prop
  | nil : ClOk X [] []
  | plain {x : Str} {c : Value} {ts : Addr → Value → Option Addr → TS} {st : Stmt} {sts : List Stmt} {np hp : Pos} {hds : List ExceptHandler} {l : List (Value × Option Nat × (Addr → Value → Option Addr → TS))} (hc : Names X x c)
      (su : ∀ (a : Addr) (oe : Obj) (cls : Value) (d : Option Addr) (pn : List (Addr × Obj)), Zc cls d oe → (∃ vs, oe.data = .fields vs) → PSs (X.suite a ((a, oe) :: pn)) (st :: sts) (ts a cls d)) (r : ClOk X hds l) :
      ClOk X (.ExceptHandler (some (.Name x np)) none (st :: sts) hp :: hds) ((c, none, ts) :: l)
  | named {x n : Str} {c : Value} {i : Nat} {ts : Addr → Value → Option Addr → TS} {st : Stmt} {sts : List Stmt} {np hp : Pos} {hds : List ExceptHandler} {l : List (Value × Option Nat × (Addr → Value → Option Addr → TS))} (hc : Names X x c)
      (hi : X.N[i]? = some n) (hn : X.env.kindOf n = some .local)
      (su : ∀ (a : Addr) (oe : Obj) (cls : Value) (d : Option Addr) (pn : List (Addr × Obj)), Zc cls d oe → (∃ vs, oe.data = .fields vs) → PSs (X.suite a ((a, oe) :: pn)) (st :: sts) (ts a cls d)) (r : ClOk X hds l) :
      ClOk X (.ExceptHandler (some (.Name x np)) (some n) (st :: sts) hp :: hds) ((c, some i, ts) :: l)
section
variable {X : Cx} {body : List Stmt} {h0 : ExceptHandler} {hds : List ExceptHandler} {l : List (Value × Option Nat × (Addr → Value → Option Addr → TS))} {pos : Pos} {tb : WX → TS} {Wout : WX}
theorem ps_try_cl (hs : X.stack = X.env :: X.outer) (hf : X.env.frame = some X.env.locals) (hN : X.N.Nodup) (tk : Takes X Wout)
    (hb : ∀ (W : WX) (pn : List (Addr × Obj)) (xe : Value → Shared → Prop), Takes (X.tr pn xe) W → PassesOwn (model X.prog X.w) X.A X.env xe → PSs (X.tr pn xe) body (tb W))
    (hh : ClOk X (h0 :: hds) l) : PS X (.Try body (h0 :: hds) [] [] pos) (fun D σ H => tb (wCl X.K Wout D l) D σ H) := by
  refine ⟨fun pins s σ H D I h => ?_⟩
  have okX := I.ok
  have frX : X.A.frames = some (X.env :: X.outer) := by rw [okX.frames, hs]
  refine wpAny_Try_except (wpAny_mono ((hb (wCl X.K Wout D l) (X.pn ++ pins) (fun e u1 => wpAny (model X.prog X.w) X.A (noteFrame e X.env) (fun _ u2 => wpAny (model X.prog X.w) X.A (setFlight e none) (fun _ u3 =>
    wpAny (model X.prog X.w) X.A (handleBy e X.env (h0 :: hds)) (SP X pins D) X.xe u3) X.xe u2) X.xe u1) (fun u s2 xx => ?_) PassesOwn.looking).run [] s σ H D (I.toTry _) h) (fun fl s1 hsp => ?_) (fun e s1 he => he))
  · obtain ⟨a, B, sI, pins', σ', H', cls, d, rfl, J0, nb, up, sky, na, os, ag, wish⟩ := xx
    have J : Inv X pins σ' H' sI := J0.ofTry okX
    have skyX : Sky B (X.env :: X.outer) a (Zc cls d) X.env.locals s2.heap := by rw [← hs]; exact sky
    show wpAny (model X.prog X.w) X.A (noteFrame (.ref a) X.env) _ _ _
    refine Sky.land Zc.steady frX hf skyX fun h3 fly up3 => ?_
    have J3 : Inv X pins σ' H' { s2 with heap := h3 } := J.landed nb fly.1 (up.trans up3) os ag
    obtain ⟨oe3, vs3, he3, hz3, hd3⟩ := fly.there
    have nofr : ∀ {g : Heap} {o : Obj} {vs : Array Value}, g.FunFrames B (X.env :: X.outer) → g.get? a = some o → o.data = .fields vs → a ∉ frs (X.env :: X.outer) := fun {g o vs} ff e dd hm => by
      obtain ⟨_, o2, e2, nfd⟩ := ff.mem hm
      rw [e] at e2
      cases e2
      exact nfd _ dd
    have nfrA := nofr fly.2.2.1 he3 hd3
    have neL : a ≠ X.env.locals := fun z => nfrA (List.mem_filterMap.mpr ⟨X.env, List.mem_cons_self, by rw [hf, z]⟩)
    have neF : a ∉ X.fs := fun hm => by
      obtain ⟨e, he, q⟩ := List.mem_filterMap.mp hm
      exact nfrA (List.mem_filterMap.mpr ⟨e, List.mem_cons_of_mem _ he, q⟩)
    have S3 := J3.suite he3 hd3 na neL neF
    -- the class named by a clause is looked up, and held against the exception's
    have test : ∀ {x : Str} {c : Value} {np : Pos} {Q : Value → Shared → Prop} {E : Value → Shared → Prop}, Names X x c → Q c { s2 with heap := h3 } → wpAny (model X.prog X.w) (X.A.mark (some (.ref a))) (eval (.Name x np) X.env) Q E { s2 with heap := h3 } := fun {x c np Q E} hc q => by
      obtain ⟨hg, hdbg, hm | ⟨hm, hv, hnn⟩⟩ := hc
      · exact ld_glob (X := X.suite a ((a, oe3) :: (X.pn ++ pins))) S3 hg hm q hdbg
      · exact ld_blt (X := X.suite a ((a, oe3) :: (X.pn ++ pins))) S3 hg hm hv q hnn hdbg
    have isOf : PySem.W.Looks (model X.prog X.w) h3 (typeOf (.ref a)) cls := fun A Q E u k q => wpAny_typeOf_ref (k _ _ he3) (by rw [hz3.1]; exact q)
    have go : ∀ {hds2 : List ExceptHandler} {l2 : List (Value × Option Nat × (Addr → Value → Option Addr → TS))}, ClOk X hds2 l2 → wCl X.K Wout D l2 cls d σ' H' →
        wpAny (model X.prog X.w) X.A (handleBy (.ref a) X.env hds2) (SP X pins D) X.xe { s2 with heap := h3 } := by
      intro hds2 l2 hk
      induction hk with
      | nil =>
        intro wi
        refine wpAny_handleBy_nil ?_
        obtain ⟨_, _, _, oe, vs, Tr, oT, tsl, he, hz, hd, h1, hr⟩ := id fly
        unfold PySem.passOn
        refine wpAny_bind (wpAny_field he hd h1 ?_)
        rw [if_neg (show ¬ ((Value.ref Tr == Value.none) = true) from by simp)]
        have fin : wpAny (model X.prog X.w) X.A (setFlight (.ref a) X.env.frame) (fun _ u4 => wpAny (model X.prog X.w) X.A (throw (.ref a) : Sem Flow) (SP X pins D) X.xe u4) X.xe { s2 with heap := h3 } := by
          rw [hf]
          refine HandSPX.setFlight_upZ fly fun h4 hh4 up4 => wpAny_throw (tk _ _ ?_)
          exact ⟨a, B, sI, pins, σ', H', cls, d, rfl, J, nb, (up.trans up3).trans up4, .inr (.inr (by rw [hs]; exact hh4)), na, os, ag, wi⟩
        first
          | exact wpAny_bind (wpAny_pure (wpAny_bind fin))
          | exact wpAny_bind fin
      | @plain x c ts st sts np hp hds3 l3 hc su r ih =>
        intro wi
        obtain ⟨b, hb1, hyes, hno⟩ := wi
        refine wpAny_handleBy_cons (codeAny_handlers_test ?_) (by intro q; cases q)
        have isM := PySem.W.exm_one (M := model X.prog X.w) (J3.kIn) isOf hb1
        refine test hc (isM.here ?_)
        cases b with
        | true =>
          refine codeAny_handlers_suite (HandSPX.lands_againZ fly fun h4 fl4 up4 => ?_)
          have J4 : Inv X pins σ' H' { s2 with heap := h4 } := J.landed nb fl4.1 ((up.trans up3).trans up4) os ag
          obtain ⟨oe4, vs4, he4, hz4, hd4⟩ := fl4.there
          have S4 := J4.suite he4 hd4 na neL neF
          refine wpAny_mono ((su a oe4 cls d (X.pn ++ pins) hz4 ⟨_, hd4⟩).run [] _ _ H' _ S4 (hyes rfl a na)) (fun fl s6 hsp => ?_) (fun _ _ z => False.elim z)
          cases fl with
          | next => exact (fun ⟨_, _, S6, q6⟩ => ⟨_, _, S6.unsuite okX, q6⟩ : (∃ σ6 H6, _ ∧ _) → _) hsp
          | brk => exact (fun ⟨_, _, S6, q6⟩ => ⟨_, _, S6.unsuite okX, q6⟩ : (∃ σ6 H6, _ ∧ _) → _) hsp
          | cont => exact (fun ⟨_, _, S6, q6⟩ => ⟨_, _, S6.unsuite okX, q6⟩ : (∃ σ6 H6, _ ∧ _) → _) hsp
          | ret u =>
            obtain ⟨v6, σ6, H6, S6, r6, q6⟩ := hsp
            exact ⟨_, _, _, S6.unsuite okX, r6, q6⟩
        | false =>
          show wpAny _ X.A (handleBy (.ref a) X.env hds3) _ _ _
          exact ih (hno rfl)
      | @named x n c i ts st sts np hp hds3 l3 hc hi hn su r ih =>
        intro wi
        obtain ⟨b, hb1, hyes, hno⟩ := wi
        refine wpAny_handleBy_cons (codeAny_handlers_test ?_) (by intro q; cases q)
        have isM := PySem.W.exm_one (M := model X.prog X.w) (J3.kIn) isOf hb1
        refine test hc (isM.here ?_)
        cases b with
        | true =>
          refine codeAny_handlers_suite_as (HandSPX.lands_againZ fly fun h4 fl4 up4 => ?_)
          have J4 : Inv X pins σ' H' { s2 with heap := h4 } := J.landed nb fl4.1 ((up.trans up3).trans up4) os ag
          obtain ⟨oe4, vs4, he4, hz4, hd4⟩ := fl4.there
          have S4 := J4.suite he4 hd4 na neL neF
          refine store_ok (X := X.suite a ((a, oe4) :: (X.pn ++ pins))) (v := .ref a) S4 hN hi (.inl hn) rfl (fun s5 S5 => ?_) (.inr hn)
          refine wpAny_mono ((su a oe4 cls d (X.pn ++ pins) hz4 ⟨_, hd4⟩).run [] s5 _ H' _ S5 (hyes rfl a na)) (fun fl s6 hsp => ?_) (fun _ _ z => False.elim z)
          have gone : ∀ {σ6 : L2.St} {H6 : Hp} {Q : Shared → Prop}, Inv (X.suite a ((a, oe4) :: (X.pn ++ pins))) [] σ6 H6 s6 → (∀ s7, Inv X pins (σ6.set i none) H6 s7 → Q s7) →
              wpAny (model X.prog X.w) X.A (do bindName X.env n .none; unbindBehindTheSuite X.env n hp) (fun _ s7 => Q s7) X.xe s6 := fun {σ6 H6 Q} S6 hq => gone_ok (S6.unsuite okX) hN hi hn hq
          cases fl with
          | next =>
            obtain ⟨σ6, H6, S6, q6⟩ := hsp
            exact gone S6 fun s7 J7 => ⟨_, _, J7, q6⟩
          | brk =>
            obtain ⟨σ6, H6, S6, q6⟩ := hsp
            exact gone S6 fun s7 J7 => ⟨_, _, J7, q6⟩
          | cont =>
            obtain ⟨σ6, H6, S6, q6⟩ := hsp
            exact gone S6 fun s7 J7 => ⟨_, _, J7, q6⟩
          | ret u =>
            obtain ⟨v6, σ6, H6, S6, r6, q6⟩ := hsp
            exact gone S6 fun s7 J7 => ⟨_, _, _, J7, r6, q6⟩
        | false =>
          show wpAny _ X.A (handleBy (.ref a) X.env hds3) _ _ _
          exact ih (hno rfl)
    exact go hh wish
  · cases fl with
    | next =>
      obtain ⟨σ', H', J', q⟩ := hsp
      exact wpAny_execs_nil ⟨σ', H', J'.ofTry okX, q⟩
    | brk =>
      obtain ⟨σ', H', J', q⟩ := hsp
      exact ⟨σ', H', J'.ofTry okX, q⟩
    | cont =>
      obtain ⟨σ', H', J', q⟩ := hsp
      exact ⟨σ', H', J'.ofTry okX, q⟩
    | ret u =>
      obtain ⟨v, σ', H', J', r, q⟩ := hsp
      exact ⟨v, σ', H', J'.ofTry okX, r, q⟩
end
section
variable {X : Cx} {C : Addr} {bmB : List Value} {B newId initId : String}
/-- x(), an own exception class without own __init__ -/
theorem pmk_own0 {x : Str} {p pos : Pos} (F : ExcBaseFacts B newId initId bmB) (q : PySem.W.excIn X.K C bmB newId = true) (gC : X.mg x = some (.ref C)) (kC : PySem.W.keepIn X.K (.ref C) = true) (r : Raises X (.ref C)) (hg : Gl X x)
    (hdb : (x == ("__debug__" : Str)) = false := by decide) : PMk X (.Call (.Name x p) [] [] pos) (fun _ H Q => Q (.ref C) none H) := by
  intro pins s σ H Q I h
  refine wpAny_Call_Name_kw (ld_glob I hg gC ?_ hdb)
  refine PySem.W.callWith_K0 I.kIn kC ?_
  obtain ⟨bm, N, nm, qn, bs, hdct, sn, sub, ab, col, dd, k0, k1, k2, k3, k5, mN, hC, hNs, hni, Tl⟩ := exc_obj I.kIn q
  exact wpAny_call_exc_subT F Tl hC hNs hni (fun h' e hm => mk_of I hm r h (I.hok.gone hm.new)) (Nat.zero_le _)
end
end K36
namespace K36
open PySem PySem.Spec PyProof.Rows L2
/-! ### the program that is drawn -/
theorem cut_str2 {ns : List Str} {lo hi : Int} (h0 : 0 ≤ lo) (h1 : 0 ≤ hi) : ∃ zs : List Str, cutV (ns.map V.str) (some lo) (some hi) = zs.map V.str ∧ zs.length = min hi.toNat ns.length - min lo.toNat ns.length := by
  have e : ∀ (z : Int) d, 0 ≤ z → HT.sIx (ns.map V.str).length d (some z) = min z.toNat ns.length := fun z d h => by
    have := HT.sIx_nat (ns.map V.str).length d z.toNat
    rw [Int.toNat_of_nonneg h] at this
    rw [this, List.length_map]
  refine ⟨(ns.drop (min lo.toNat ns.length)).take (min hi.toNat ns.length - min lo.toNat ns.length), ?_, ?_⟩
  · unfold cutV
    rw [e _ _ h0, e _ _ h1, List.map_take, List.map_drop]
  · rw [List.length_take, List.length_drop]
    omega
theorem cut_str1 {ns : List Str} {hi : Int} (h1 : 0 ≤ hi) : ∃ zs : List Str, cutV (ns.map V.str) none (some hi) = zs.map V.str ∧ zs.length = min hi.toNat ns.length := by
  have e : ∀ (z : Int) d, 0 ≤ z → HT.sIx (ns.map V.str).length d (some z) = min z.toNat ns.length := fun z d h => by
    have := HT.sIx_nat (ns.map V.str).length d z.toNat
    rw [Int.toNat_of_nonneg h] at this
    rw [this, List.length_map]
  refine ⟨ns.take (min hi.toNat ns.length), ?_, ?_⟩
  · unfold cutV
    rw [HT.sIx_none, e _ _ h1, List.map_take, List.drop_zero]
    rfl
  · rw [List.length_take]
    omega
def wd3 (cl ct : Addr) : List (Key × V) := [(Sum.inr "cells", .ref cl), (Sum.inr "counters", .ref ct), (Sum.inr "left", .int 24)]
def wd4 (cl ct gl : Addr) : List (Key × V) := [(Sum.inr "cells", .ref cl), (Sum.inr "counters", .ref ct), (Sum.inr "left", .int 24), (Sum.inr "gauges", .ref gl)]
def wdU (hl ab : Addr) : List (Key × V) := [(Sum.inr "helpers", .ref hl), (Sum.inr "about", .ref ab), (Sum.inr "heavy", .int 0), (Sum.inr "age", .int 170)]
def wd8 (cl ct gl hl ab : Addr) : List (Key × V) := wd4 cl ct gl ++ wdU hl ab
theorem wd34 {cl ct gl : Addr} : putK (wd3 cl ct) (Sum.inr "gauges") (.ref gl) = wd4 cl ct gl := rfl
theorem wd48 {cl ct gl hl ab : Addr} : mergeK (wd4 cl ct gl) (mergeK [] (wdU hl ab)) = wd8 cl ct gl hl ab := rfl
def spProgram : Sp := fun vs H Q _ => ∃ (F : Addr), vs = [.ref F, .int 24] ∧ FlAt H F ∧
  ∀ (p g h b : Addr) (gs cs : List Str) (xs : List V) (H' : Hp), FlAt H' F → Kp (Is F) H H' → H p = none → H' p = some (.tup [.ref g, .ref h, .ref b]) → H' g = some (.tup (gs.map V.str)) → 1 ≤ gs.length → gs.length ≤ 16 →
    H' b = some (.tup xs) → xs.length ≤ 17 → cs.length ≤ 5 → (∀ v ∈ xs, StOk cs H' v) → Q (.ref p) H'
section
variable {P : Program} {w : World} {K : PySem.W.Frag} {mg : Str → Option Value} {base : Heap}
-- _law_program (printed by gen.py); slots: 0 _law_flow_here, 1 _law_room_here, 2 _law_words, 3 _law_world, 4 _law_shift, 5 _law_first, 6 _law_inner
abbrev nLProgram : List Str := ["_law_flow_here", "_law_room_here", "_law_words", "_law_world", "_law_shift", "_law_first", "_law_inner"]
abbrev pLProgram : List Str := ["_law_flow_here", "_law_room_here"]
theorem scLProgram : FnScope nLProgram pLProgram (defScope sLProgram) := ⟨rfl, rfl, rfl, by decide +kernel, rfl, by decide +kernel, by decide +kernel⟩
theorem ok_program (T : Bi mg) (a : At K mg "_law_program" sLProgram pLProgram) (cLDraw : Cal P w K mg base CX0 "_law_draw" 1 pLDraw spD) (cLNames : Cal P w K mg base CX0 "_law_names" 2 pLNames spNames) (cLSmall : Cal P w K mg base CX0 "_law_small" 8 pLSmall spSm)
    (cLHelpers : Cal P w K mg base CX0 "_law_helpers" 9 pLHelpers spHelpers) (cLBody : Cal P w K mg base CX0 "_law_body" 16 pLBody (spBody 2)) : Cal P w K mg base CX0 "_law_program" 17 pLProgram spProgram := by
  refine Cal.of a scLProgram (fun vs H Q E h => ?_) (fun f cdv A outer s H vs Q E hr h => ?_)
  · obtain ⟨F, rfl, _⟩ := h
    rfl
  · obtain ⟨F, rfl, fl, q⟩ := h
    refine ⟨_, (pss_cons (ps_set (i := 2) scLProgram.nd rfl (.inl rfl) (pe_c cLNames hr pass0 (pa_cons (pv 0) (pa_cons pe_int pa_nil)))) -- _law_words = _law_names(_law_flow_here, 16)
      (pss_cons (ps_set (i := 3) scLProgram.nd rfl (.inl rfl) (pe_disp (pps_cons pe_str (pe_slice sl_list (pv 2) po_none (po_some (pe_op op_add pe_int (pe_c cLDraw hr pass0 (pa_cons (pv 0) (pa_cons pe_int pa_nil)))))) (pps_cons pe_str (pe_slice sl_list (pv 2) (po_some pe_int) (po_some pe_int)) (pps_cons pe_str (pv 1) pps_nil))) (by rfl) (by rfl) (fun z => by cases z) (by decide))) -- _law_world = {'cells': _law_words[:2 + _law_draw(_law_flow_here, 4)], 'counters': _law_words[6:9], 'left': _la
      (pss_cons (ps_set (i := 4) scLProgram.nd rfl (.inl rfl) (pe_ix ix_list (pe_lst (pa_cons pe_int (pa_cons pe_int pa_nil))) (pe_callTy call_int1 (by rfl) T.int bo_int (pa_cons (pe_cmpR op_eq (pe_c cLDraw hr pass0 (pa_cons (pv 0) (pa_cons pe_int pa_nil))) pe_int (nomark _)) pa_nil)) (fun _ _ => rfl))) -- _law_shift = [9, 0][int(_law_draw(_law_flow_here, 4) == 0)]
      (pss_cons (ps_dput (hu_of hr) (pv 3) pe_str (pe_slice sl_list (pv 2) (po_some (pv 4)) (po_some (pe_op op_add (pe_op op_add (pv 4) pe_int) (pe_c cLDraw hr pass0 (pa_cons (pv 0) (pa_cons pe_int pa_nil)))))) rfl) -- _law_world['gauges'] = _law_words[_law_shift:_law_shift + 1 + _law_draw(_law_flow_here, 4)]
      (pss_cons (ps_expr (pe_dupdate (pv 3) (pe_disp (pps_cons pe_str (pe_lst pa_nil) (pps_cons pe_str pe_dnewK (pps_cons pe_str pe_int (pps_cons pe_str (pe_callB (call_min2 rfl) (by rfl) T.min bo_min (pa_cons pe_int (pa_cons (pe_op op_add pe_int (pe_op op_mul pe_int (pv 1))) pa_nil))) pps_nil)))) (by rfl) (by rfl) (fun z => by cases z) (by decide)) ⟨rfl, rfl, rfl, rfl⟩)) -- _law_world.update({'helpers': [], 'about': {}, 'heavy': 0, 'age': min(200, 50 + 5 * _law_room_here)})
      (pss_cons (ps_expr (pe_c cLHelpers hr pass0 (pa_cons (pv 0) (pa_cons (pv 3) (pa_cons (pe_slice sl_list (pv 2) (po_some (pe_op op_add (pv 4) pe_int)) (po_some (pe_op op_add (pv 4) pe_int))) pa_nil))))) -- _law_helpers(_law_flow_here, _law_world, _law_words[_law_shift + 4:_law_shift + 7])
      (pss_cons (ps_asg (pe_tup (pa_cons (pv 1) (pa_cons pe_int pa_nil))) (pg_tup rfl (pgs_cons (pg_sub (pv 3) pe_str (set_dict (hu_of hr))) (pgs_cons (pg_sub (pv 3) pe_str (set_dict (hu_of hr))) pgs_nil)))) -- _law_world['left'], _law_world['heavy'] = (_law_room_here, 3)
      (pss_cons (ps_set (i := 5) scLProgram.nd rfl (.inl rfl) (pe_tup pa_nil)) -- _law_first = ()
      (Evl.pss_cut (ps_if (pt_cmpR op_eq (pe_c cLDraw hr pass0 (pa_cons (pv 0) (pa_cons pe_int pa_nil))) pe_int (nomark _))
        (pss_cons (ps_set (i := 6) scLProgram.nd rfl (.inl rfl) (pe_op op_rep (pe_c cLSmall hr pass0 (pa_cons (pv 0) (pa_cons (pv 3) (pa_cons pe_dnewK pa_nil)))) (pe_c cLDraw hr pass0 (pa_cons (pv 0) (pa_cons pe_int pa_nil))))) -- _law_inner = _law_small(_law_flow_here, _law_world, {}) * _law_draw(_law_flow_here, 2)
        (pss_one (ps_set (i := 5) scLProgram.nd rfl (.inl rfl) (pe_tup (pa_cons (pe_tup (pa_cons pe_str (pa_cons (pe_tup (pa_cons pe_str (pa_cons (pe_ix ix_list (pe_dget (hu_of hr) (pv 3) pe_str (fun _ _ => rfl)) pe_int (fun _ _ => rfl)) pa_nil))) (pa_cons (pe_callTy call_tuple_of (by rfl) T.tuple bo_tuple (pa_cons (pv 6) pa_nil)) pa_nil)))) pa_nil)))))
        pss_nil) -- if _law_draw(_law_flow_here, 8) == 0:
      (pss_one (ps_ret (pe_tup (pa_cons (pe_callTy call_tuple_of (by rfl) T.tuple bo_tuple (pa_cons (pe_dget (hu_of hr) (pv 3) pe_str (fun _ _ => rfl)) pa_nil)) (pa_cons (pe_callTy call_tuple_of (by rfl) T.tuple bo_tuple (pa_cons (pe_dget (hu_of hr) (pv 3) pe_str (fun _ _ => rfl)) pa_nil)) (pa_cons (pe_op op_catA (pv 5) (pe_c cLBody hr pass0 (pa_cons (pv 0) (pa_cons (pv 3) (pa_cons pe_dnewK (pa_cons pe_int pa_nil)))))) pa_nil))))))))))))))), ?_⟩
    refine ⟨_, rfl, F, rfl, fl, fun H1 wl ns k1 f1 nwl hwl ln ln2 lx => ?_⟩
    -- the world
    refine fun W nW => ⟨_, rfl, _, rfl, F, 4, rfl, f1.upd (f1.nn nW).symm, by decide, by decide, fun d H2 d0 d1 f2 k2 => ⟨_, _, rfl, rfl, _, rfl, ?_⟩⟩
    have zW : H W = none := k1.free nW
    have FW : F ≠ W := (fl.nn zW).symm
    have wlF : wl ≠ F := fl.nn nwl
    have m1 := same_new (o := .dK []) nW
    have k12 : Kp (Is F) H H2 := (k1.trans (Kp.same m1)).trans k2
    have hwl2 := k2.k _ _ (m1 _ _ hwl) wlF
    have hW2 := k2.k _ _ (upd_same (H := H1) (a := W) (o := .dK [])) FW.symm
    refine ⟨wl, _, rfl, SqL.of hwl2, fun cl ncl => ?_⟩
    have m3 := same_new (o := .lst (cutV (ns.map V.str) none (some (2 + d)))) ncl
    refine ⟨_, rfl, _, rfl, _, rfl, wl, _, rfl, SqL.of (m3 _ _ hwl2), fun ct nct => ?_⟩
    have m4 := same_new (o := .lst (cutV (ns.map V.str) (some 6) (some 9))) nct
    obtain ⟨cs, ecs, lcs⟩ := cut_str1 (ns := ns) (hi := 2 + d) (by omega)
    obtain ⟨cn, ecn, lcn⟩ := cut_str2 (ns := ns) (lo := 6) (hi := 9) (by decide) (by decide)
    have lcn3 : cn.length = 3 := by
      rw [lcn]
      show min 9 ns.length - min 6 ns.length = 3
      omega
    have m34 := m3.trans m4
    refine ⟨_, rfl, m34 _ _ hW2, (wd3 cl ct), rfl, (by show 3 ≤ 15; decide), ?_⟩
    have hcl4 : (upd (upd H2 cl (.lst (cutV (ns.map V.str) none (some (2 + d))))) ct (.lst (cutV (ns.map V.str) (some 6) (some 9)))) cl = some (.lst (cs.map V.str)) := by
      rw [m4 _ _ upd_same, ecs]
    have hct4 : (upd (upd H2 cl (.lst (cutV (ns.map V.str) none (some (2 + d))))) ct (.lst (cutV (ns.map V.str) (some 6) (some 9)))) ct = some (.lst (cn.map V.str)) := by
      rw [upd_same, ecn]
    have hwl4 := m34 _ _ hwl2
    have hW4 := m34 _ _ hW2
    have k14 : Kp (Is F) H _ := k12.trans (Kp.same m34)
    have f4 := f2.k (Kp.same (M := fun _ => False) m34) (fun e => e)
    have zcl : H cl = none := k12.free ncl
    have zct : H ct = none := (k12.trans (Kp.same m3)).free nct
    generalize upd (upd H2 cl (.lst (cutV (ns.map V.str) none (some (2 + d))))) ct (.lst (cutV (ns.map V.str) (some 6) (some 9))) = H4 at hcl4 hct4 hwl4 hW4 k14 f4 ⊢
    clear m34 m3 m4 k12 k2 m1 hwl2 hW2 f2
    show tSeq _ _ _ _ (upd H4 W (.dK (wd3 cl ct)))
    have nW_of : ∀ {b xs}, H4 b = some (.lst xs) → b ≠ W := fun {b xs} hb e => by
      rw [e, hW4] at hb
      cases hb
    have hcl5 := (upd_ne (H := H4) (o := .dK (wd3 cl ct)) (nW_of hcl4)).trans hcl4
    have hct5 := (upd_ne (H := H4) (o := .dK (wd3 cl ct)) (nW_of hct4)).trans hct4
    have hwl5 := (upd_ne (H := H4) (o := .dK (wd3 cl ct)) (nW_of hwl4)).trans hwl4
    have hW5 := upd_same (H := H4) (a := W) (o := .dK (wd3 cl ct))
    have k15 := k14.mut (o := .dK (wd3 cl ct)) zW
    have f5 := f4.upd (o := .dK (wd3 cl ct)) FW
    generalize upd H4 W (.dK (wd3 cl ct)) = H5 at hcl5 hct5 hwl5 hW5 k15 f5 ⊢
    clear hcl4 hct4 hwl4 hW4 k14 f4 nW_of
    -- shift
    refine ⟨(by show 2 ≤ sizeLine; decide), fun sp nsp => ?_⟩
    have m6 := same_new (o := .lst [.int 9, .int 0]) nsp
    refine ⟨_, rfl, F, 4, rfl, f5.upd (f5.nn nsp).symm, by decide, by decide, fun e H7 e0 e1 f7 k7 => ⟨rfl, .inr ⟨_, rfl, sp, _, _, _, rfl, rfl, SqL.of (k7.k _ _ upd_same (f5.nn nsp)), at2, ?_⟩⟩⟩
    have k17 := (k15.trans (Kp.same m6)).trans k7
    have hcl7 := k7.k _ _ (m6 _ _ hcl5) (fl.nn zcl)
    have hct7 := k7.k _ _ (m6 _ _ hct5) (fl.nn zct)
    have hwl7 := k7.k _ _ (m6 _ _ hwl5) wlF
    have hW7 := k7.k _ _ (m6 _ _ hW5) FW.symm
    clear hcl5 hct5 hwl5 hW5 k15 f5 m6 nsp k7
    generalize hsh : (if decide (V.int e = V.int 0) = true then V.int 0 else V.int 9) = sv
    obtain ⟨sh, rfl, shc⟩ : ∃ sh : Int, sv = .int sh ∧ (sh = 0 ∨ sh = 9) := by
      rw [← hsh]
      split
      · exact ⟨0, rfl, .inl rfl⟩
      · exact ⟨9, rfl, .inr rfl⟩
    -- gauges
    refine ⟨_, rfl, _, rfl, _, rfl, _, rfl, _, _, rfl, rfl, _, rfl, F, 4, rfl, f7, by decide, by decide, fun g H8 g0 g1 f8 k8 => ⟨_, _, rfl, rfl, _, rfl, ?_⟩⟩
    have k18 := k17.trans k8
    have hcl8 := k8.k _ _ hcl7 (fl.nn zcl)
    have hct8 := k8.k _ _ hct7 (fl.nn zct)
    have hwl8 := k8.k _ _ hwl7 wlF
    have hW8 := k8.k _ _ hW7 FW.symm
    clear hcl7 hct7 hwl7 hW7 k17 f7 k8
    refine ⟨wl, _, rfl, SqL.of hwl8, fun gl ngl => ?_⟩
    have m9 := same_new (o := .lst (cutV (ns.map V.str) (some sh) (some (sh + 1 + g)))) ngl
    obtain ⟨gs, egs, lgs⟩ := cut_str2 (ns := ns) (lo := sh) (hi := sh + 1 + g) (by omega) (by omega)
    have lg1 : 1 ≤ gs.length := by rw [lgs]; omega
    have lg2 : gs.length ≤ 16 := by rw [lgs]; omega
    have zgl : H gl = none := k18.free ngl
    have hgl9 : (upd H8 gl (.lst (cutV (ns.map V.str) (some sh) (some (sh + 1 + g))))) gl = some (.lst (gs.map V.str)) := by rw [upd_same, egs]
    have hcl9 := m9 _ _ hcl8
    have hct9 := m9 _ _ hct8
    have hwl9 := m9 _ _ hwl8
    have hW9 := m9 _ _ hW8
    have k19 := k18.trans (Kp.same m9)
    have f9 := f8.k (Kp.same (M := fun _ => False) m9) (fun e => e)
    generalize upd H8 gl (.lst (cutV (ns.map V.str) (some sh) (some (sh + 1 + g)))) = H9 at hgl9 hcl9 hct9 hwl9 hW9 k19 f9 ⊢
    clear hcl8 hct8 hwl8 hW8 k18 f8 m9 ngl
    refine ⟨_, rfl, W, _, rfl, DPut.k (k := Sum.inr "gauges") hW9 (by show 3 < sizeLine; decide), ?_⟩
    rw [wd34]
    have nW_of : ∀ {b xs}, H9 b = some (.lst xs) → b ≠ W := fun {b xs} hb e => by
      rw [e, hW9] at hb
      cases hb
    have up : ∀ {o b xs}, H9 b = some (.lst xs) → (upd H9 W o) b = some (.lst xs) := fun {o b xs} hb => (upd_ne (nW_of hb)).trans hb
    have hcl10 := up (o := .dK (wd4 cl ct gl)) hcl9
    have hct10 := up (o := .dK (wd4 cl ct gl)) hct9
    have hwl10 := up (o := .dK (wd4 cl ct gl)) hwl9
    have hgl10 := up (o := .dK (wd4 cl ct gl)) hgl9
    have hW10 := upd_same (H := H9) (a := W) (o := .dK (wd4 cl ct gl))
    have k110 := k19.mut (o := .dK (wd4 cl ct gl)) zW
    have f10 := f9.upd (o := .dK (wd4 cl ct gl)) FW
    generalize upd H9 W (.dK (wd4 cl ct gl)) = H10 at hcl10 hct10 hwl10 hgl10 hW10 k110 f10 ⊢
    clear up nW_of hgl9 hcl9 hct9 hwl9 hW9 k19 f9
    -- update
    refine ⟨_, rfl, W, rfl, .inl ⟨_, .inl hW10⟩, fun U nU => ⟨Nat.zero_le _, fun hl nhl => fun ab nab => ⟨_, rfl, _, _, rfl, rfl, .inl (by constructor <;> decide), _, _, rfl, rfl, 200, 170, rfl, ?_⟩⟩⟩
    have m11 := same_new (o := .dK []) nU
    have m12 := same_new (o := .lst []) nhl
    have m13 := same_new (o := .dK []) nab
    have m113 := (m11.trans m12).trans m13
    refine ⟨(m12.trans m13) _ _ upd_same, (wdU hl ab), rfl, (by show 4 ≤ 15; decide), ?_⟩
    have k113 := k110.trans (Kp.same m113)
    have zU : H U = none := k110.free nU
    have zhl : H hl = none := (k110.trans (Kp.same m11)).free nhl
    have zab : H ab = none := (k110.trans (Kp.same (m11.trans m12))).free nab
    have nWU : W ≠ U := ne_of_none hW10 nU
    have hhl : (upd (upd (upd H10 U (.dK [])) hl (.lst [])) ab (.dK [])) hl = some (.lst []) := m13 _ _ upd_same
    have hab : (upd (upd (upd H10 U (.dK [])) hl (.lst [])) ab (.dK [])) ab = some (.dK []) := upd_same
    have hU : (upd (upd (upd H10 U (.dK [])) hl (.lst [])) ab (.dK [])) U = some (.dK []) := (m12.trans m13) _ _ upd_same
    have nhU : hl ≠ U := (ne_of_none (upd_same (H := H10) (a := U) (o := .dK [])) nhl).symm
    have naU : ab ≠ U := (ne_of_none (m12 _ _ upd_same) nab).symm
    have naW : ab ≠ W := (ne_of_none ((m11.trans m12) _ _ hW10) nab).symm
    have hcl13 := m113 _ _ hcl10
    have hct13 := m113 _ _ hct10
    have hwl13 := m113 _ _ hwl10
    have hgl13 := m113 _ _ hgl10
    have hW13 := m113 _ _ hW10
    have f13 := f10.k (Kp.same (M := fun _ => False) m113) (fun e => e)
    generalize upd (upd (upd H10 U (.dK [])) hl (.lst [])) ab (.dK []) = H13 at hcl13 hct13 hwl13 hgl13 hW13 f13 hhl hab hU k113 ⊢
    clear hcl10 hct10 hwl10 hgl10 hW10 f10 k110 m11 m12 m13 m113 nU nhl nab
    show ∃ b kvs more, _
    refine ⟨U, _, _, rfl, nWU, (by rw [upd_ne nWU]; exact hW13), upd_same, (by show 8 ≤ 1000; decide), ?_⟩
    show tSeq _ _ _ _ (upd (upd H13 U (.dK (mergeK [] (wdU hl ab)))) W (.dK (mergeK (wd4 cl ct gl) (mergeK [] (wdU hl ab)))))
    rw [wd48]
    have nU_of : ∀ {b xs}, H13 b = some (.lst xs) → b ≠ U := fun {b xs} hb e => by
      rw [e, hU] at hb
      cases hb
    have nW_of : ∀ {b xs}, H13 b = some (.lst xs) → b ≠ W := fun {b xs} hb e => by
      rw [e, hW13] at hb
      cases hb
    have up : ∀ {o o' b xs}, H13 b = some (.lst xs) → (upd (upd H13 U o) W o') b = some (.lst xs) := fun {o o' b xs} hb => by rw [upd_ne (nW_of hb), upd_ne (nU_of hb), hb]
    let u : Wd := ⟨W, cl, ct, gl, hl, ab, F, cs, cn, gs⟩
    have d8 : Dct u (wd8 cl ct gl hl ab) := ⟨by show 8 ≤ 8; decide, rfl, rfl, rfl, rfl, rfl, ⟨24, rfl⟩, ⟨0, rfl⟩, rfl⟩
    have k14 : Kp (Is F) H (upd (upd H13 U (.dK (mergeK [] (wdU hl ab)))) W (.dK (wd8 cl ct gl hl ab))) := (k113.mut zU).mut zW
    have FU : F ≠ U := (fl.nn zU).symm
    have hab14 : (upd (upd H13 U (.dK (mergeK [] (wdU hl ab)))) W (.dK (wd8 cl ct gl hl ab))) ab = some (.dK []) := by rw [upd_ne naW, upd_ne naU, hab]
    have w14 : WAt u (upd (upd H13 U (.dK (mergeK [] (wdU hl ab)))) W (.dK (wd8 cl ct gl hl ab))) :=
      ⟨(f13.upd FU).upd FW, ⟨_, upd_same, d8⟩, up hcl13, ⟨by rw [lcs]; omega, by rw [lcs]; omega⟩, up hct13, lcn3, up hgl13, ⟨lg1, lg2⟩, ⟨[], [], up hhl, Nat.zero_le _, hab14, Nat.zero_le _, fun v h => absurd h List.not_mem_nil⟩, naW⟩
    have hwl14 := up (o := .dK (mergeK [] (wdU hl ab))) (o' := .dK (wd8 cl ct gl hl ab)) hwl13
    have hhl14 := up (o := .dK (mergeK [] (wdU hl ab))) (o' := .dK (wd8 cl ct gl hl ab)) hhl
    generalize upd (upd H13 U (.dK (mergeK [] (wdU hl ab)))) W (.dK (wd8 cl ct gl hl ab)) = H14 at k14 hab14 w14 hwl14 hhl14 ⊢
    clear up nW_of nU_of hcl13 hct13 hgl13 hW13 hhl hab hU f13 hwl13 k113
    -- the helpers
    refine ⟨_, rfl, _, rfl, _, rfl, _, rfl, _, _, rfl, rfl, _, rfl, _, rfl, _, _, rfl, rfl, _, rfl, wl, _, rfl, SqL.of hwl14, fun sl nsl => ?_⟩
    obtain ⟨hz, ehz, _⟩ := cut_str2 (ns := ns) (lo := sh + 4) (hi := sh + 7) (by omega) (by omega)
    rw [ehz]
    have m15 := same_new (o := .lst (hz.map V.str)) nsl
    refine ⟨u, sl, hz, rfl, w14.same m15, m15 _ _ hhl14, m15 _ _ hab14, upd_same, fun H16 w16 k16 => ?_⟩
    have k116 : Kp (Is F) H H16 := (k14.trans (Kp.same m15)).more k16 fun b e => by
      rcases e with e | e | e | e
      · exact .inl e
      · exact .inr (by rw [e]; exact zW)
      · exact .inr (by rw [e]; exact zhl)
      · exact .inr (by rw [e]; exact zab)
    clear k16 m15 nsl hwl14 hhl14 hab14 k14
    -- left, heavy
    refine ⟨_, rfl, (by show 2 ≤ sizeLine; decide), fun tp ntp => ⟨tp, _, rfl, SqT.of upd_same, rfl, ?_⟩⟩
    have m17 := same_new (o := .tup [.int 24, .int 3]) ntp
    have w17 := w16.same m17
    have k117 := k116.trans (Kp.same m17)
    generalize upd H16 tp (.tup [.int 24, .int 3]) = H17 at w17 k117 ⊢
    obtain ⟨kv, hW, dW⟩ := w17.dct
    obtain ⟨w18, k18⟩ := w17.put (dW.putLeft 24)
    have k118 := k117.mut (o := .dK (putK kv (Sum.inr "left") (.int 24))) zW
    obtain ⟨kv2, hW2, dW2⟩ := w18.dct
    obtain ⟨w19, k19⟩ := w18.put (dW2.putHeavy 3)
    have k119 := k118.mut (o := .dK (putK kv2 (Sum.inr "heavy") (.int 3))) zW
    refine ⟨_, _, rfl, ⟨_, rfl, W, _, rfl, DPut.k (k := Sum.inr "left") hW (szt (by have := dW.len; omega)), ?_⟩⟩
    refine ⟨_, _, rfl, ⟨_, rfl, W, _, rfl, DPut.k (k := Sum.inr "heavy") hW2 (szt (by have := dW2.len; omega)), rfl, ?_⟩⟩
    generalize upd (upd H17 u.W (.dK (putK kv (Sum.inr "left") (.int 24)))) u.W (.dK (putK kv2 (Sum.inr "heavy") (.int 3))) = H19 at w19 k119 ⊢
    have mv : ∀ {H1 H2 d}, Kp (Is F) H H1 → Kp (M3 u d) H1 H2 → H d = none → Kp (Is F) H H2 := fun a b z => a.more b fun b e => e.elim .inl fun e => e.elim (fun e => .inr (by rw [e]; exact zW)) fun e => .inr (by rw [e]; exact z)
    have nMu : ∀ {b d}, H b = none → b ≠ W → b ≠ d → ¬ M3 u d b := fun {b d} h1 h2 h3 m => by
      rcases m with m | m | m
      · exact fl.nn h1 m
      · exact h2 m
      · exact h3 m
    refine ⟨Nat.zero_le _, fun fa0 nfa0 => ?_⟩
    have m20 := same_new (o := .tup []) nfa0
    have hfa0 := upd_same (H := H19) (a := fa0) (o := .tup [])
    have w20 := w19.same m20
    have k20 := k119.trans (Kp.same m20)
    generalize upd H19 fa0 (.tup []) = H20 at hfa0 w20 k20 ⊢
    refine ⟨fun σ' H' => ∃ (fa : Addr) (y6 : Option V) (fs : List V), σ' = [some (.ref F), some (.int 24), some (.ref wl), some (.ref W), some (.int sh), some (.ref fa), y6] ∧ H' fa = some (.tup fs) ∧ fs.length ≤ 1 ∧ (∀ v ∈ fs, CpOk H' v) ∧ WAt u H' ∧ Kp (Is F) H H', ?_, fun σ' H21 hJ => ?_⟩
    · refine ⟨_, rfl, F, 8, rfl, w20.fl, by decide, by decide, fun e H21 e0 e1 f21 k21 => ⟨rfl, _, rfl, ?_⟩⟩
      have w21 := w20.draw k21 f21
      have k121 := k20.trans k21
      refine ite2 (fun c => ?_) (fun c => ?_)
      · refine ⟨_, rfl, _, rfl, fun nd nnd => ?_⟩
        have m22 := same_new (o := .dK []) nnd
        have znd : H nd = none := k121.free nnd
        have w22 := w21.same m22
        refine ⟨u, nd, rfl, w22, FrAt.new w21 nnd (kvs := []) (ks := []) rfl List.nodup_nil (fun x h => absurd h List.not_mem_nil), fun p v H23 w23 fr23 k23 np hp pl => ?_⟩
        have k123 := mv (k121.trans (Kp.same m22)) k23 znd
        have zp : H p = none := (k121.trans (Kp.same m22)).free np
        refine ⟨_, rfl, F, 2, rfl, w23.fl, by decide, by decide, fun r H24 r0 r1 f24 k24 => ?_⟩
        have w24 := w23.draw k24 f24
        have k124 := k123.trans k24
        have hp24 := k24.k _ _ hp (fl.nn zp)
        refine ⟨p, r, [v], rfl, rfl, hp24, by omega, by omega, szl (by show 1 * r.toNat ≤ 100000; omega), fun ip nip => ?_⟩
        have m25 := same_new (o := .lst (List.replicate r.toNat [v]).flatten) nip
        have hip := upd_same (H := H24) (a := ip) (o := .lst (List.replicate r.toNat [v]).flatten)
        have w25 := w24.same m25
        have k125 := k124.trans (Kp.same m25)
        generalize upd H24 ip (.lst (List.replicate r.toNat [v]).flatten) = H25 at hip w25 k125 ⊢
        generalize (List.replicate r.toNat [v]).flatten = ivs at hip
        obtain ⟨kv5, hW5, dW5⟩ := w25.dct
        obtain ⟨x, _, hx⟩ := str_at (xs := cs) (i := 0) (by decide) (by have := w25.cn2.1; show (0 : Int) < cs.length; have e : u.cs = cs := rfl; rw [e] at this; omega)
        refine ⟨_, rfl, W, _, rfl, dget_s hW5 dW5.cells, cl, _, 0, _, rfl, rfl, SqL.of w25.cl, hx, (by show 2 ≤ sizeLine; decide), fun a1 n1 => ⟨_, rfl, ip, ivs, rfl, .inl ⟨SqL.of (same_new n1 _ _ hip), fun a2 n2 => ⟨(by show 3 ≤ sizeLine; decide), fun a3 n3 => ⟨(by show 1 ≤ sizeLine; decide), fun a4 n4 => ?_⟩⟩⟩⟩⟩
        have m4 := same_new (o := .tup [.ref a3]) n4
        have m14 := (((same_new (o := .tup [.str "cell", .str x]) n1).trans (same_new (o := .tup ivs) n2)).trans (same_new (o := .tup [.str "while", .ref a1, .ref a2]) n3)).trans m4
        refine ⟨a4, _, [.ref a3], rfl, upd_same, Nat.le_refl 1, fun v hv => ?_, w25.same m14, k125.trans (Kp.same m14)⟩
        rw [List.mem_singleton.mp hv]
        exact ⟨a3, "while", _, rfl, m4 _ _ upd_same, .inr (.inl rfl)⟩
      · exact ⟨fa0, _, [], rfl, k21.t _ _ hfa0, Nat.zero_le _, fun v h => absurd h List.not_mem_nil, w21, k121⟩
    · obtain ⟨fa, y6, fs, rfl, hfa, lfs, hfs, w21, k21⟩ := hJ
      obtain ⟨kv1, hW1, dW1⟩ := w21.dct
      refine ⟨_, rfl, W, _, rfl, dget_s hW1 dW1.gauges, gl, _, rfl, .inl ⟨SqL.of w21.gl, fun g1 n1 => ?_⟩⟩
      have m1 := same_new (o := .tup (gs.map V.str)) n1
      have hg1 := upd_same (H := H21) (a := g1) (o := .tup (gs.map V.str))
      have w22 := w21.same m1
      have k22 := k21.trans (Kp.same m1)
      have hfa2 := m1 _ _ hfa
      have hfs2 : ∀ v ∈ fs, CpOk _ v := fun v hv => (hfs v hv).tl (TL.of m1)
      generalize upd H21 g1 (.tup (gs.map V.str)) = H22 at hg1 w22 k22 hfa2 hfs2 ⊢
      obtain ⟨kv2, hW2, dW2⟩ := w22.dct
      obtain ⟨hs, akvs, hl2, _⟩ := w22.hl
      refine ⟨_, rfl, W, _, rfl, dget_s hW2 dW2.helpers, hl, _, rfl, .inl ⟨SqL.of hl2, fun h1 n2 => ?_⟩⟩
      have m2 := same_new (o := .tup hs) n2
      have w23 := w22.same m2
      have k23 := k22.trans (Kp.same m2)
      have hg2 := m2 _ _ hg1
      have hfa3 := m2 _ _ hfa2
      have hfs3 : ∀ v ∈ fs, CpOk _ v := fun v hv => (hfs2 v hv).tl (TL.of m2)
      generalize upd H22 h1 (.tup hs) = H23 at w23 k23 hg2 hfa3 hfs3 ⊢
      refine ⟨_, rfl, _, rfl, _, rfl, fun nd nnd => ?_⟩
      have m3 := same_new (o := .dK []) nnd
      have znd : H nd = none := k23.free nnd
      refine ⟨u, nd, rfl, by decide, w23.same m3, FrAt.new w23 nnd (kvs := []) (ks := []) rfl List.nodup_nil (fun x h => absurd h List.not_mem_nil), fun p xs H24 w24 fr24 k24 np hp lx hx => ?_⟩
      have k124 := mv (k23.trans (Kp.same m3)) k24 znd
      have t24 := (TL.of m3).trans k24.tl
      have hfa4 := t24 _ _ hfa3
      have hg4 := t24 _ _ hg2
      have hfs4 : ∀ v ∈ fs, CpOk H24 v := fun v hv => (hfs3 v hv).tl t24
      have fin : ∀ (b : Addr) (ys : List V) (H' : Hp), Same H24 H' → H' b = some (.tup ys) → ys.length ≤ 17 → (∀ v ∈ ys, StOk cs H' v) → 3 ≤ sizeLine ∧ ∀ p, H' p = none → Q (.ref p) (upd H' p (.tup [.ref g1, .ref h1, .ref b])) := fun b ys H' sm hb ly hy => ⟨by decide, fun p np => by
        have m5 := same_new (o := .tup [.ref g1, .ref h1, .ref b]) np
        have k5 := k124.trans (Kp.same (sm.trans m5))
        exact q p g1 h1 b gs cs ys _ ((w24.same sm).same m5).fl k5 ((k124.trans (Kp.same sm)).free np) upd_same (m5 _ _ (sm _ _ hg4)) lg1 lg2 (m5 _ _ hb) ly w24.cn2.2 fun v hv => (hy v hv).tl (TL.of m5)⟩
      refine ⟨fa, p, fs, xs, rfl, rfl, SqT.of hfa4, SqT.of hp, szl (by omega), fun e => ?_, fun e1 e2 => ?_, fun e1 e2 c nc => ?_⟩
      · exact fin p xs H24 (fun _ _ h => h) hp (by omega) hx
      · exact fin fa fs H24 (fun _ _ h => h) hfa4 (by omega) fun v hv => .inr (hfs4 v hv)
      · have m6 := same_new (o := .tup (fs ++ xs)) nc
        refine fin c (fs ++ xs) _ m6 upd_same (by rw [List.length_append]; omega) fun v hv => ?_
        rcases List.mem_append.mp hv with z | z
        · exact .inr ((hfs4 v z).tl (TL.of m6))
        · exact (hx v z).tl (TL.of m6)
end
end K36
namespace K36
open PySem PySem.Spec PyProof.Rows L2
/-! ### the straight program -/
/-- plain statements at their places -/
def StsAt (H : Hp) (xs : List V) (R : List Rw) : Prop := xs.length = R.length ∧ ∀ (i : Nat) (r : Rw), R[i]? = some r → ∃ v, xs[i]? = some v ∧ StAt H r v
theorem StsAt.tl {H H' : Hp} {xs : List V} {R : List Rw} (h : StsAt H xs R) (t : TL H H') : StsAt H' xs R := ⟨h.1, fun i r e => let ⟨v, a, b⟩ := h.2 i r e; ⟨v, a, b.tl t⟩⟩
theorem StsAt.nil {H : Hp} : StsAt H [] [] := ⟨rfl, fun i r (e : ([] : List Rw)[i]? = some r) => by rw [List.getElem?_nil] at e; cases e⟩
theorem StsAt.append {H : Hp} {xs ys : List V} {R S : List Rw} (a : StsAt H xs R) (b : StsAt H ys S) : StsAt H (xs ++ ys) (R ++ S) := by
  refine ⟨by rw [List.length_append, List.length_append, a.1, b.1], fun i r e => ?_⟩
  by_cases h : i < R.length
  · rw [List.getElem?_append_left h] at e
    obtain ⟨v, h1, h2⟩ := a.2 i r e
    exact ⟨v, by rw [List.getElem?_append_left (by rw [a.1]; exact h)]; exact h1, h2⟩
  · rw [List.getElem?_append_right (by omega)] at e
    obtain ⟨v, h1, h2⟩ := b.2 _ r e
    exact ⟨v, by rw [List.getElem?_append_right (by rw [a.1]; omega), a.1]; exact h1, h2⟩
theorem StsAt.one {H : Hp} {v : V} {r : Rw} (h : StAt H r v) : StsAt H [v] [r] := ⟨rfl, fun i x e => by
  cases i with
  | zero => cases e; exact ⟨v, rfl, h⟩
  | succ i => cases e⟩
theorem StsAt.rep {H : Hp} {xs : List V} {R : List Rw} (a : StsAt H xs R) : ∀ k : Nat, StsAt H (List.replicate k xs).flatten (List.replicate k R).flatten
  | 0 => StsAt.nil
  | k + 1 => by
    rw [List.replicate_succ, List.replicate_succ, List.flatten_cons, List.flatten_cons]
    exact a.append (StsAt.rep a k)
/-- what the rows of a straight program are -/
structure RsOk (cs : List Str) (R : List Rw) : Prop where
  nf : ∀ r ∈ R, r ≠ .fin
  ok : ∀ r ∈ R, r.ok6
  nm : ∀ r ∈ R, ∀ x ∈ r.sn, x ∈ cs
theorem RsOk.nil {cs : List Str} : RsOk cs [] := ⟨fun r h => absurd h List.not_mem_nil, fun r h => absurd h List.not_mem_nil, fun r h => absurd h List.not_mem_nil⟩
theorem RsOk.snoc {cs : List Str} {R : List Rw} {r : Rw} (h : RsOk cs R) (a : r ≠ .fin) (b : r.ok6) (c : ∀ x ∈ r.sn, x ∈ cs) : RsOk cs (R ++ [r]) := by
  refine ⟨fun z hz => ?_, fun z hz => ?_, fun z hz => ?_⟩ <;> rcases List.mem_append.mp hz with q | q
  · exact h.nf z q
  · rw [List.mem_singleton.mp q]; exact a
  · exact h.ok z q
  · rw [List.mem_singleton.mp q]; exact b
  · exact h.nm z q
  · rw [List.mem_singleton.mp q]; exact c
theorem RsOk.rep {cs : List Str} {R : List Rw} (h : RsOk cs R) (k : Nat) : RsOk cs (List.replicate k R).flatten := by
  have m : ∀ r ∈ (List.replicate k R).flatten, r ∈ R := fun r hr => by
    obtain ⟨l, h1, h2⟩ := List.mem_flatten.mp hr
    rw [List.eq_of_mem_replicate h1] at h2
    exact h2
  exact ⟨fun r hr => h.nf r (m r hr), fun r hr => h.ok r (m r hr), fun r hr => h.nm r (m r hr)⟩
/-- the helpers of a program: none, or one; the object of the tuple is told -/
def HlAt (H : Hp) (h : Addr) : Prop := ∃ (o : Obj) (hs : List V), PlT o ∧ H h = some (.frz o (.tup hs)) ∧ (hs = [] ∨ ∃ (e f : Addr) (nm : Str), hs = [.ref e] ∧ H e = some (.tup [.str nm, .ref f]))
theorem HlAt.tl {H H' : Hp} {h : Addr} (a : HlAt H h) (t : TL H H') : HlAt H' h := by
  obtain ⟨o, hs, h0, h1, h2⟩ := a
  exact ⟨o, hs, h0, t.f _ _ _ h1, h2.imp id fun ⟨e, f, nm, a, b⟩ => ⟨e, f, nm, a, t _ _ b⟩⟩
/-- a straight program: gauges, helpers, plain statements -/
def PgAt (H : Hp) (p : Addr) (R : List Rw) : Prop := ∃ (g h b : Addr) (gs cs : List Str) (xs : List V), H p = some (.tup [.ref g, .ref h, .ref b]) ∧ H g = some (.tup (gs.map V.str)) ∧ 1 ≤ gs.length ∧ gs.length ≤ 16 ∧ HlAt H h ∧ H b = some (.tup xs) ∧ StsAt H xs R ∧ R.length ≤ 58 ∧ cs.length ≤ 5 ∧ RsOk cs R
theorem PgAt.tl {H H' : Hp} {p : Addr} {R : List Rw} (a : PgAt H p R) (t : TL H H') : PgAt H' p R := by
  obtain ⟨g, h, b, gs, cs, xs, h1, h2, h3, h4, h5, h6, h7, h8⟩ := a
  exact ⟨g, h, b, gs, cs, xs, t _ _ h1, t _ _ h2, h3, h4, h5.tl t, t _ _ h6, h7.tl t, h8⟩
def spStraight : Sp := fun vs H Q _ => ∃ (F : Addr), vs = [.ref F] ∧ FlAt H F ∧
  ∀ (p : Addr) (R : List Rw) (H' : Hp), FlAt H' F → Kp (Is F) H H' → H p = none → PgAt H' p R → Q (.ref p) H'
section
variable {P : Program} {w : World} {K : PySem.W.Frag} {mg : Str → Option Value} {base : Heap}
-- _law_straight (printed by gen.py); slots: 0 _law_flow_here, 1 _law_program_here, 2 _law_body_here, 3 _law_one, 4 _law_fresh*, 5 _law_found, 6 _law_helpers_here, 7 _law_many, 8 _law_x
abbrev nLStraight : List Str := ["_law_flow_here", "_law_program_here", "_law_body_here", "_law_one", "_law_fresh", "_law_found", "_law_helpers_here", "_law_many", "_law_x"]
abbrev pLStraight : List Str := ["_law_flow_here"]
theorem scLStraight : FnScope nLStraight pLStraight (defScope sLStraight) := ⟨rfl, rfl, rfl, by decide +kernel, rfl, by decide +kernel, by decide +kernel⟩
theorem inV4 {wd a b c d : Str} (h : inV (.str wd) [.str a, .str b, .str c, .str d] = true) : wd = a ∨ wd = b ∨ wd = c ∨ wd = d := by
  have h' : a = wd ∨ b = wd ∨ c = wd ∨ d = wd := by simpa [inV, eqV] using h
  rcases h' with e | e | e | e
  · exact .inl e.symm
  · exact .inr (.inl e.symm)
  · exact .inr (.inr (.inl e.symm))
  · exact .inr (.inr (.inr e.symm))
theorem CpOk.wd {H : Hp} {v : V} (h : CpOk H v) : ∃ (a : Addr) (wd : Str) (its : List V), v = .ref a ∧ H a = some (.tup (.str wd :: its)) ∧ wd ≠ "set" ∧ wd ≠ "read" ∧ wd ≠ "tell" ∧ wd ≠ "sure" := by
  obtain ⟨a, k, its, e, ha, hk⟩ := h
  refine ⟨a, k, its, e, ha, ?_⟩
  rcases hk with rfl | rfl | rfl | rfl <;> decide +kernel
theorem ok_straight (T : Bi mg) (a : At K mg "_law_straight" sLStraight pLStraight) (cLDraw : Cal P w K mg base CX0 "_law_draw" 1 pLDraw spD) (cLProgram : Cal P w K mg base CX0 "_law_program" 17 pLProgram spProgram) : Cal P w K mg base CX0 "_law_straight" 18 pLStraight spStraight := by
  refine Cal.of a scLStraight (fun vs H Q E h => ?_) (fun f cdv A outer s H vs Q E hr h => ?_)
  · obtain ⟨F, rfl, _⟩ := h
    rfl
  · obtain ⟨F, rfl, fl, q⟩ := h
    refine ⟨_, (pss_cons (ps_set (i := 1) scLStraight.nd rfl (.inl rfl) (pe_c cLProgram hr pass0 (pa_cons (pv 0) (pa_cons pe_int pa_nil)))) -- _law_program_here = _law_program(_law_flow_here, 24)
      (pss_cons (ps_set (i := 2) scLStraight.nd rfl (.inl rfl) (pe_lst pa_nil)) -- _law_body_here = []
      (pss_cons (ps_for PassesOwn.never rfl (pi_tup (pe_ix ix_tup (pv 1) pe_int (fun _ _ => rfl))) (pg_name (i := 3) scLStraight.nd rfl (.inl rfl))
        (pss_one (ps_if (pt_cmpR op_in_seq (pe_ix ix_tup (pv 3) pe_int (fun _ _ => rfl)) (pe_tup (pa_cons pe_str (pa_cons pe_str (pa_cons pe_str (pa_cons pe_str pa_nil))))) (by rfl))
          (pss_one (ps_expr (pe_bm PySem.F.plainAttrs_list PySem.F.slot_list_append PySem.F.type_list_append mt_append (pv 2) (pa_cons (pv 3) pa_nil))))
          pss_nil))) -- for _law_one in _law_program_here[2]:
      (pss_cons (ps_set (i := 4) scLStraight.nd rfl (.inr rfl) pe_dnewK) -- _law_fresh = {}
      (pss_cons (ps_set (i := 5) scLStraight.nd rfl (.inl rfl) (pe_lst pa_nil)) -- _law_found = []
      (pss_cons (ps_for PassesOwn.never rfl (pi_list (pv 2)) (pg_name (i := 3) scLStraight.nd rfl (.inl rfl))
        (pss_cons (ps_if (pt_cmpR op_eq (pe_ix ix_tup (pv 3) pe_int (fun _ _ => rfl)) pe_str (nomark _))
          (pss_one (ps_set (i := 3) scLStraight.nd rfl (.inl rfl) (pe_tup (pa_cons pe_str (pa_cons (pe_callTy call_tuple_of (by rfl) T.tuple bo_tuple (pa_cons (pe_lc (own := [("_law_x", 8)]) (g := gName 8) rfl scLStraight.nd (pi_tup (pe_ix ix_tup (pv 3) pe_int (fun _ _ => rfl))) (blkOk_by (own := [("_law_x", 8)]) (N := nLStraight) (sc := defScope sLStraight) (by decide +kernel)) (fun _ _ _ _ _ => (pg_name (i := 8) scLStraight.nd rfl (.inl rfl))) (fun _ _ _ _ _ => (pts_one (pt_cmp (pc_din (hu_of hr) (pv 8) (pv 4))))) (fun _ _ _ _ _ => (pv 8))) pa_nil)) (pa_cons pe_int pa_nil))))))
          pss_nil) -- if _law_one[0] == 'sure':
        (Evl.pss_cut (ps_if (pt_cmpR op_in_seq (pe_ix ix_tup (pv 3) pe_int (fun _ _ => rfl)) (pe_tup (pa_cons pe_str (pa_cons pe_str pa_nil))) (by rfl))
          (pss_one (ps_expr (pe_dpop2 (pv 4) (pe_ix ix_tup (pv 3) pe_int (fun _ _ => rfl)) pe_non ⟨rfl, rfl, rfl, rfl⟩)))
          pss_nil) -- if _law_one[0] in ('set', 'read'):
        (pss_cons (ps_if (pt_cmpR op_eq (pe_ix ix_tup (pv 3) pe_int (fun _ _ => rfl)) pe_str (nomark _))
          (pss_one (ps_dput (hu_of hr) (pv 4) (pe_ix ix_tup (pv 3) pe_int (fun _ _ => rfl)) pe_bl rfl))
          pss_nil) -- if _law_one[0] == 'read':
        (pss_one (ps_if (PW.pt (pw_or (pt_cmpR op_ne (pe_ix ix_tup (pv 3) pe_int (fun _ _ => rfl)) pe_str (nomark _)) (pw_or1 (pt_cmpR op_gt (pe_callB call_len_seq (by rfl) T.len bo_len (pa_cons (pe_ix ix_tup (pv 3) pe_int (fun _ _ => rfl)) pa_nil)) pe_int (nomark _)))))
          (pss_one (ps_expr (pe_bm PySem.F.plainAttrs_list PySem.F.slot_list_append PySem.F.type_list_append mt_append (pv 5) (pa_cons (pv 3) pa_nil))))
          pss_nil)))))) -- for _law_one in _law_body_here:
      (pss_cons (ps_set (i := 6) scLStraight.nd rfl (.inl rfl) (pe_tupF (pa_cons (pe_tup (pa_cons (pe_ix ix_tup (pe_ix ix_tup (pv 1) pe_int (fun _ _ => rfl)) pe_int (fun _ _ => rfl)) (pa_cons (pe_tup (pa_cons (pe_tup (pa_cons pe_str (pa_cons (pe_tup (pa_cons pe_str (pa_cons pe_int pa_nil))) (pa_cons (pe_tup pa_nil) (pa_cons (pe_tup pa_nil) pa_nil))))) pa_nil)) pa_nil))) pa_nil))) -- _law_helpers_here = ((_law_program_here[0][0], (('if', ('num', 1), (), ()),)),)
      (pss_cons (ps_set (i := 7) scLStraight.nd rfl (.inl rfl) pe_int) -- _law_many = 1
      (Evl.pss_cut (ps_if (PW.pt (pw_and (pt_cmpR op_eq (pe_c cLDraw hr pass0 (pa_cons (pv 0) (pa_cons pe_int pa_nil))) pe_int (nomark _)) (pw_and1 (pt_cmpR op_gt (pe_callB call_len_seq (by rfl) T.len bo_len (pa_cons (pv 5) pa_nil)) pe_int (nomark _)))))
        (pss_one (ps_set (i := 7) scLStraight.nd rfl (.inl rfl) (pe_op op_add pe_int (pe_c cLDraw hr pass0 (pa_cons (pv 0) (pa_cons (pe_op op_fdiv pe_int (pe_callB call_len_seq (by rfl) T.len bo_len (pa_cons (pv 5) pa_nil))) pa_nil))))))
        pss_nil) -- if _law_draw(_law_flow_here, 4) == 0 and len(_law_found) > 0:
      (pss_one (ps_ret (pe_tup (pa_cons (pe_ix ix_tup (pv 1) pe_int (fun _ _ => rfl)) (pa_cons (pe_slice sl_tupF (pv 6) po_none (po_some (pe_c cLDraw hr pass0 (pa_cons (pv 0) (pa_cons pe_int pa_nil))))) (pa_cons (pe_op op_repA (pe_callTy call_tuple_of (by rfl) T.tuple bo_tuple (pa_cons (pe_slice sl_list (pv 5) po_none (po_some pe_int)) pa_nil)) (pv 7)) pa_nil))))))))))))))), ?_⟩
    refine ⟨_, rfl, F, rfl, fl, fun p g h b gs cs xs H1 f1 k1 np hp hg lg1 lg2 hb lx lcs hx => ⟨Nat.zero_le _, fun bl nbl => ?_⟩⟩
    have zbl : H bl = none := k1.free nbl
    have m2 := same_new (o := .lst []) nbl
    have k2 := k1.trans (Kp.same m2)
    refine ⟨_, rfl, p, _, 2, _, rfl, rfl, SqT.of (m2 _ _ hp), rfl, b, rfl, ⟨xs, SqT.of (m2 _ _ hb)⟩, ?_⟩
    refine for_tup (fun i σ' H' => ∃ (y3 : Option V) (ys : List V), σ' = [some (.ref F), some (.ref p), some (.ref bl), y3, none, none, none, none, none] ∧ H' bl = some (.lst ys) ∧ ys.length ≤ i ∧ (∀ y ∈ ys, PlOk cs H' y) ∧ FlAt H' F ∧ Kp (Is F) H H' ∧ TL H1 H')
      ⟨none, [], rfl, upd_same, Nat.le_refl 0, fun y h => absurd h List.not_mem_nil, f1.upd (fl.nn zbl).symm, k2, TL.of m2⟩ (fun i σ' H' _ hP => by obtain ⟨_, _, _, _, _, _, _, _, t⟩ := hP; exact SqT.of (t _ _ hb)) (fun i x σ' H' hxi hP => ?_) (fun σ' H' hP => ?_)
    · obtain ⟨y3, ys, rfl, hbl, ly, hy, f', k', t'⟩ := hP
      have li : i < xs.length := (List.getElem?_eq_some_iff.mp hxi).1
      have hxo := (hx x (List.mem_of_getElem? hxi)).tl t'
      obtain ⟨a1, wd, its, rfl, ha, hw⟩ : ∃ (a1 : Addr) (wd : Str) (its : List V), x = .ref a1 ∧ H' a1 = some (.tup (.str wd :: its)) ∧ (wd = "set" ∨ wd = "read" ∨ wd = "tell" ∨ wd = "sure" → PlOk cs H' x) := by
        rcases hxo with h | h
        · obtain ⟨a1, wd, its, e, ha, _⟩ := h.it
          exact ⟨a1, wd, its, e, ha, fun _ => h⟩
        · obtain ⟨a1, wd, its, e, ha, n1, n2, n3, n4⟩ := h.wd
          exact ⟨a1, wd, its, e, ha, fun z => by
            rcases z with z | z | z | z
            · exact absurd z n1
            · exact absurd z n2
            · exact absurd z n3
            · exact absurd z n4⟩
      refine ⟨_, rfl, a1, _, 0, .str wd, rfl, rfl, SqT.of ha, at_nat (j := 0) rfl rfl, (by show 4 ≤ sizeLine; decide), fun tp ntp => ⟨tp, _, rfl, .inr (SqT.of upd_same), rfl, rfl, _, rfl, ?_⟩⟩
      have m3 := same_new (o := .tup [.str "set", .str "read", .str "tell", .str "sure"]) ntp
      have hbl3 := m3 _ _ hbl
      have k3 := k'.trans (Kp.same m3)
      have t3 := t'.trans (TL.of m3)
      have f3 := f'.k (Kp.same (M := fun _ => False) m3) (fun e => e)
      have hy3 : ∀ y ∈ ys, PlOk cs _ y := fun y h => (hy y h).tl (TL.of m3)
      have hx3 : wd = "set" ∨ wd = "read" ∨ wd = "tell" ∨ wd = "sure" → PlOk cs (upd H' tp (.tup [.str "set", .str "read", .str "tell", .str "sure"])) (.ref a1) := fun z => (hw z).tl (TL.of m3)
      generalize upd H' tp (.tup [.str "set", .str "read", .str "tell", .str "sure"]) = H3 at hbl3 k3 t3 f3 hy3 hx3 ⊢
      refine ite2 (fun c => ?_) (fun c => ?_)
      · refine ⟨_, rfl, .inl ⟨rfl, _, SqL.of hbl3⟩, _, rfl, bl, ys, _, rfl, rfl, hbl3, szt (by omega), _, _, rfl, upd_same, by rw [List.length_append, List.length_singleton]; omega, fun y h => ?_, f3.upd (fl.nn zbl).symm, k3.mut zbl, ?_⟩
        · have tb : TL H3 (upd H3 bl (.lst (ys ++ [.ref a1]))) := (Kp.upd (M := Is bl) rfl hbl3 lst_ne_tup).tl
          rcases List.mem_append.mp h with z | z
          · exact (hy3 y z).tl tb
          · rw [List.mem_singleton.mp z]
            exact (hx3 (inV4 c)).tl tb
        · exact t3.trans (Kp.upd (M := Is bl) rfl hbl3 lst_ne_tup).tl
      · exact ⟨_, ys, rfl, hbl3, by omega, hy3, f3, k3, t3⟩
    · obtain ⟨y3, ys, rfl, hbl, ly, hy, f2, k2, t2⟩ := hP
      intro FR nFR
      refine ⟨Nat.zero_le _, fun fo nfo => ?_⟩
      have m3 := same_new (o := .dK []) nFR
      have m4 := same_new (o := .lst []) nfo
      have m34 := m3.trans m4
      have zFR : H FR = none := k2.free nFR
      have zfo : H fo = none := (k2.trans (Kp.same m3)).free nfo
      have nFf : fo ≠ FR := (ne_of_none upd_same nfo).symm
      have nbF : bl ≠ FR := ne_of_none hbl nFR
      have nbf : bl ≠ fo := ne_of_none (m3 _ _ hbl) nfo
      refine ⟨_, rfl, bl, rfl, ⟨ys, SqL.of (m34 _ _ hbl)⟩, ?_⟩
      refine for_list (fun i σ' H'' => ∃ (y3 : Option V) (zs : List V) (R : List Rw) (kvs : List (Key × V)), σ' = [some (.ref F), some (.ref p), some (.ref bl), y3, some (.ref FR), some (.ref fo), none, none, none] ∧ H'' fo = some (.lst zs) ∧ R.length ≤ i ∧ StsAt H'' zs R ∧ RsOk cs R ∧
          H'' FR = some (.dK kvs) ∧ kvs.length ≤ i ∧ H'' bl = some (.lst ys) ∧ FlAt H'' F ∧ Kp (Is F) H H'' ∧ TL H' H'')
        ⟨_, [], [], [], rfl, upd_same, Nat.le_refl 0, StsAt.nil, RsOk.nil, m4 _ _ upd_same, Nat.le_refl 0, m34 _ _ hbl, f2.k (Kp.same (M := fun _ => False) m34) (fun e => e), k2.trans (Kp.same m34), TL.of m34⟩ (fun i σ' H'' _ hP => by obtain ⟨_, _, _, _, _, _, _, _, _, _, _, h, _⟩ := hP; exact SqL.of h) (fun i x σ' H5 hxi hP => ?_) (fun σ' H5 hP => ?_)
      · obtain ⟨y3, zs, R, kvs, rfl, hfo, lR, hR, oR, hFR, lk, hbl5, f5, k5, t5⟩ := hP
        have li : i < ys.length := (List.getElem?_eq_some_iff.mp hxi).1
        have lz := hR.1
        have hxo := (hy x (List.mem_of_getElem? hxi)).tl t5
        -- what stands behind the turn where the statement is put
        have app : ∀ (y : V) (r : Rw) (kv : List (Key × V)) (H6 : Hp), StAt H6 r y → r ≠ .fin → r.ok6 → (∀ x ∈ r.sn, x ∈ cs) → H6 fo = some (.lst zs) → H6 FR = some (.dK kv) → kv.length ≤ i + 1 → H6 bl = some (.lst ys) → FlAt H6 F → Kp (Is F) H H6 → TL H5 H6 →
            H6 fo = some (.lst zs) ∧ zs.length < sizeLine ∧ ∃ (y3 : Option V) (zs' : List V) (R : List Rw) (kvs : List (Key × V)), ([some (.ref F), some (.ref p), some (.ref bl), some y, some (.ref FR), some (.ref fo), none, none, none] : L2.St) = [some (.ref F), some (.ref p), some (.ref bl), y3, some (.ref FR), some (.ref fo), none, none, none] ∧ (upd H6 fo (.lst (zs ++ [y]))) fo = some (.lst zs') ∧ R.length ≤ i + 1 ∧ StsAt (upd H6 fo (.lst (zs ++ [y]))) zs' R ∧ RsOk cs R ∧
              (upd H6 fo (.lst (zs ++ [y]))) FR = some (.dK kvs) ∧ kvs.length ≤ i + 1 ∧ (upd H6 fo (.lst (zs ++ [y]))) bl = some (.lst ys) ∧ FlAt (upd H6 fo (.lst (zs ++ [y]))) F ∧ Kp (Is F) H (upd H6 fo (.lst (zs ++ [y]))) ∧ TL H' (upd H6 fo (.lst (zs ++ [y]))) := by
          intro y r kv H6 hs n1 n2 n3 h1 h2 h3 h4 f6 k6 t6
          have tb : TL H6 (upd H6 fo (.lst (zs ++ [y]))) := (Kp.upd (M := Is fo) rfl h1 lst_ne_tup).tl
          refine ⟨h1, szt (by omega), _, zs ++ [y], R ++ [r], kv, rfl, upd_same, by rw [List.length_append, List.length_singleton]; omega, (hR.tl (t6.trans tb)).append (StsAt.one (hs.tl tb)), oR.snoc n1 n2 n3, by rw [upd_ne nFf.symm]; exact h2, h3, by rw [upd_ne nbf]; exact h4, f6.upd (fl.nn zfo).symm, k6.mut zfo, (t5.trans t6).trans tb⟩
        obtain ⟨r, nf, ⟨a1, its, rfl, ha, hi⟩, o6, nm⟩ := hxo
        cases r with
        | fin => exact absurd rfl nf
        | tell t =>
          obtain ⟨z, rfl, hz⟩ := hi
          refine ⟨_, rfl, a1, _, 0, .str "tell", rfl, rfl, SqT.of ha, rfl, rfl, _, rfl, ?_⟩
          refine ite2 (fun c => absurd c (by decide +kernel)) (fun _ => ?_)
          refine ⟨fun σ' H7 => ∃ kv : List (Key × V), σ' = [some (.ref F), some (.ref p), some (.ref bl), some (.ref a1), some (.ref FR), some (.ref fo), none, none, none] ∧ H7 FR = some (.dK kv) ∧ kv.length ≤ i ∧ H7 fo = some (.lst zs) ∧ H7 bl = some (.lst ys) ∧ FlAt H7 F ∧ Kp (Is F) H H7 ∧ TL H5 H7 ∧ TL H5 H7, ?_, fun σ' H7 hM => ?_⟩
          · skip
            refine ⟨_, rfl, a1, _, 0, .str "tell", rfl, rfl, SqT.of ha, rfl, (by show 2 ≤ sizeLine; decide), fun tp ntp => ⟨tp, _, rfl, .inr (SqT.of upd_same), rfl, rfl, _, rfl, ?_⟩⟩
            have m6 := same_new (o := .tup [.str "set", .str "read"]) ntp
            have ha6 := m6 _ _ ha
            have hFR6 := m6 _ _ hFR
            have hfo6 := m6 _ _ hfo
            have hbl6 := m6 _ _ hbl5
            have f6 := f5.k (Kp.same (M := fun _ => False) m6) (fun e => e)
            have k6 := k5.trans (Kp.same m6)
            have t6 := TL.of m6
            generalize upd H5 tp (.tup [.str "set", .str "read"]) = H6 at ha6 hFR6 hfo6 hbl6 f6 k6 t6 ⊢
            refine ite2 (fun c => absurd c (by decide +kernel)) (fun _ => ?_)
            exact ⟨kvs, rfl, hFR6, lk, hfo6, hbl6, f6, k6, t6, t6⟩
          · obtain ⟨kv, rfl, hFR7, lk7, hfo7, hbl7, f7, k7, t7, t67⟩ := hM
            have ha7 := t7 _ _ ha
            refine ⟨_, rfl, a1, _, 0, .str "tell", rfl, rfl, SqT.of ha7, rfl, rfl, _, rfl, ?_⟩
            refine ite2 (fun c => absurd c (by decide +kernel)) (fun _ => ?_)
            refine ⟨_, rfl, a1, _, 0, .str "tell", rfl, rfl, SqT.of ha7, rfl, rfl, _, rfl, ?_⟩
            refine ite2 (fun _ => ?_) (fun c => absurd (by decide +kernel) c)
            obtain ⟨h1, h2, h3⟩ := app (.ref a1) (.tell t) kv H7 ⟨a1, _, rfl, ha7, z, rfl, hz.tl t7⟩ nf o6 nm hfo7 hFR7 (by omega) hbl7 f7 k7 t7
            exact ⟨_, rfl, .inl ⟨rfl, _, SqL.of h1⟩, _, rfl, fo, zs, _, rfl, rfl, h1, h2, h3⟩
        | set x t =>
          obtain ⟨z, rfl, hz⟩ := hi
          refine ⟨_, rfl, a1, _, 0, .str "set", rfl, rfl, SqT.of ha, rfl, rfl, _, rfl, ?_⟩
          refine ite2 (fun c => absurd c (by decide +kernel)) (fun _ => ?_)
          refine ⟨fun σ' H7 => ∃ kv : List (Key × V), σ' = [some (.ref F), some (.ref p), some (.ref bl), some (.ref a1), some (.ref FR), some (.ref fo), none, none, none] ∧ H7 FR = some (.dK kv) ∧ kv.length ≤ i ∧ H7 fo = some (.lst zs) ∧ H7 bl = some (.lst ys) ∧ FlAt H7 F ∧ Kp (Is F) H H7 ∧ TL H5 H7 ∧ TL H5 H7, ?_, fun σ' H7 hM => ?_⟩
          · skip
            refine ⟨_, rfl, a1, _, 0, .str "set", rfl, rfl, SqT.of ha, rfl, (by show 2 ≤ sizeLine; decide), fun tp ntp => ⟨tp, _, rfl, .inr (SqT.of upd_same), rfl, rfl, _, rfl, ?_⟩⟩
            have m6 := same_new (o := .tup [.str "set", .str "read"]) ntp
            have ha6 := m6 _ _ ha
            have hFR6 := m6 _ _ hFR
            have hfo6 := m6 _ _ hfo
            have hbl6 := m6 _ _ hbl5
            have f6 := f5.k (Kp.same (M := fun _ => False) m6) (fun e => e)
            have k6 := k5.trans (Kp.same m6)
            have t6 := TL.of m6
            generalize upd H5 tp (.tup [.str "set", .str "read"]) = H6 at ha6 hFR6 hfo6 hbl6 f6 k6 t6 ⊢
            refine ite2 (fun _ => ?_) (fun c => absurd (by decide +kernel) c)
            refine ⟨_, rfl, FR, rfl, .inl ⟨kvs, .inl hFR6⟩, _, rfl, a1, _, 1, .str x, rfl, rfl, SqT.of ha6, rfl, kvs, Sum.inr x, hFR6, rfl, fun v hv => ?_, fun hv => ?_⟩
            · have ku : Kp (Is FR) H6 (upd H6 FR (.dK (dropK kvs (Sum.inr x)))) := Kp.upd rfl hFR6 dK_ne_tup
              exact ⟨_, rfl, upd_same, Nat.le_trans (dropK_le _ _) lk, by rw [upd_ne nFf]; exact hfo6, by rw [upd_ne nbF]; exact hbl6, f6.upd (fl.nn zFR).symm, k6.mut zFR, t6.trans ku.tl, t6.trans ku.tl⟩
            · exact ⟨kvs, rfl, hFR6, lk, hfo6, hbl6, f6, k6, t6, t6⟩
          · obtain ⟨kv, rfl, hFR7, lk7, hfo7, hbl7, f7, k7, t7, t67⟩ := hM
            have ha7 := t7 _ _ ha
            refine ⟨_, rfl, a1, _, 0, .str "set", rfl, rfl, SqT.of ha7, rfl, rfl, _, rfl, ?_⟩
            refine ite2 (fun c => absurd c (by decide +kernel)) (fun _ => ?_)
            refine ⟨_, rfl, a1, _, 0, .str "set", rfl, rfl, SqT.of ha7, rfl, rfl, _, rfl, ?_⟩
            refine ite2 (fun _ => ?_) (fun c => absurd (by decide +kernel) c)
            obtain ⟨h1, h2, h3⟩ := app (.ref a1) (.set x t) kv H7 ⟨a1, _, rfl, ha7, z, rfl, hz.tl t7⟩ nf o6 nm hfo7 hFR7 (by omega) hbl7 f7 k7 t7
            exact ⟨_, rfl, .inl ⟨rfl, _, SqL.of h1⟩, _, rfl, fo, zs, _, rfl, rfl, h1, h2, h3⟩
        | read x =>
          obtain ⟨z, rfl⟩ := hi
          refine ⟨_, rfl, a1, _, 0, .str "read", rfl, rfl, SqT.of ha, rfl, rfl, _, rfl, ?_⟩
          refine ite2 (fun c => absurd c (by decide +kernel)) (fun _ => ?_)
          refine ⟨fun σ' H7 => ∃ kv : List (Key × V), σ' = [some (.ref F), some (.ref p), some (.ref bl), some (.ref a1), some (.ref FR), some (.ref fo), none, none, none] ∧ H7 FR = some (.dK kv) ∧ kv.length ≤ i ∧ H7 fo = some (.lst zs) ∧ H7 bl = some (.lst ys) ∧ FlAt H7 F ∧ Kp (Is F) H H7 ∧ TL H5 H7 ∧ TL H5 H7, ?_, fun σ' H7 hM => ?_⟩
          · skip
            refine ⟨_, rfl, a1, _, 0, .str "read", rfl, rfl, SqT.of ha, rfl, (by show 2 ≤ sizeLine; decide), fun tp ntp => ⟨tp, _, rfl, .inr (SqT.of upd_same), rfl, rfl, _, rfl, ?_⟩⟩
            have m6 := same_new (o := .tup [.str "set", .str "read"]) ntp
            have ha6 := m6 _ _ ha
            have hFR6 := m6 _ _ hFR
            have hfo6 := m6 _ _ hfo
            have hbl6 := m6 _ _ hbl5
            have f6 := f5.k (Kp.same (M := fun _ => False) m6) (fun e => e)
            have k6 := k5.trans (Kp.same m6)
            have t6 := TL.of m6
            generalize upd H5 tp (.tup [.str "set", .str "read"]) = H6 at ha6 hFR6 hfo6 hbl6 f6 k6 t6 ⊢
            refine ite2 (fun _ => ?_) (fun c => absurd (by decide +kernel) c)
            refine ⟨_, rfl, FR, rfl, .inl ⟨kvs, .inl hFR6⟩, _, rfl, a1, _, 1, .str x, rfl, rfl, SqT.of ha6, rfl, kvs, Sum.inr x, hFR6, rfl, fun v hv => ?_, fun hv => ?_⟩
            · have ku : Kp (Is FR) H6 (upd H6 FR (.dK (dropK kvs (Sum.inr x)))) := Kp.upd rfl hFR6 dK_ne_tup
              exact ⟨_, rfl, upd_same, Nat.le_trans (dropK_le _ _) lk, by rw [upd_ne nFf]; exact hfo6, by rw [upd_ne nbF]; exact hbl6, f6.upd (fl.nn zFR).symm, k6.mut zFR, t6.trans ku.tl, t6.trans ku.tl⟩
            · exact ⟨kvs, rfl, hFR6, lk, hfo6, hbl6, f6, k6, t6, t6⟩
          · obtain ⟨kv, rfl, hFR7, lk7, hfo7, hbl7, f7, k7, t7, t67⟩ := hM
            have ha7 := t7 _ _ ha
            refine ⟨_, rfl, a1, _, 0, .str "read", rfl, rfl, SqT.of ha7, rfl, rfl, _, rfl, ?_⟩
            refine ite2 (fun _ => ?_) (fun c => absurd (by decide +kernel) c)
            refine ⟨_, rfl, _, rfl, a1, _, 1, .str x, rfl, rfl, SqT.of ha7, rfl, FR, _, rfl, DPut.k (k := Sum.inr x) hFR7 (szt (by omega)), ?_⟩
            have ku : Kp (Is FR) H7 (upd H7 FR (.dK (putK kv (Sum.inr x) (.bl true)))) := Kp.upd rfl hFR7 dK_ne_tup
            have ha8 := ku.t _ _ ha7
            refine ⟨_, rfl, a1, _, 0, .str "read", rfl, rfl, SqT.of ha8, rfl, rfl, _, rfl, ?_⟩
            refine ite2 (fun _ => ?_) (fun c => absurd (by decide +kernel) c)
            obtain ⟨h1, h2, h3⟩ := app (.ref a1) (.read x) (putK kv (Sum.inr x) (.bl true)) _ ⟨a1, _, rfl, ha8, z, rfl⟩ nf o6 nm (by rw [upd_ne nFf]; exact hfo7) upd_same (Nat.le_trans put_len_le (by omega)) (by rw [upd_ne nbF]; exact hbl7) (f7.upd (fl.nn zFR).symm) (k7.mut zFR) (t7.trans ku.tl)
            exact ⟨_, rfl, .inl ⟨rfl, _, SqL.of h1⟩, _, rfl, fo, zs, _, rfl, rfl, h1, h2, h3⟩
        | sure ns =>
          obtain ⟨nb, nn, rfl, hns⟩ := hi
          refine ⟨_, rfl, a1, _, 0, .str "sure", rfl, rfl, SqT.of ha, rfl, rfl, _, rfl, ?_⟩
          refine ite2 (fun _ => ?_) (fun c => absurd (by decide +kernel) c)
          refine ⟨_, rfl, a1, _, 1, .ref nb, rfl, rfl, SqT.of ha, rfl, nb, rfl, ⟨_, SqT.of hns⟩, fun Dl nDl => ?_⟩
          have nDF : FR ≠ Dl := ne_of_none hFR nDl
          have nl : ns.length ≤ 10 := o6
          have m5 := same_new (o := .lst []) nDl
          refine lc_tup (fun j H'' => ∃ ms : List Str, ms.length ≤ j ∧ H'' Dl = some (.lst (ms.map V.str)) ∧ (∀ x ∈ ms, x ∈ ns) ∧ Same H5 H'') ⟨[], Nat.le_refl 0, upd_same, fun x h => absurd h List.not_mem_nil, m5⟩ (fun j H'' _ hP => SqT.of (hP.choose_spec.2.2.2 _ _ hns)) (fun j x H'' hxj hP => ?_) (fun H'' hP => ?_)
          · obtain ⟨ms, lm, hD, hm, sm⟩ := hP
            obtain ⟨y, hy1, rfl⟩ : ∃ y, y ∈ ns ∧ x = V.str y := by
              obtain ⟨y, h1, h2⟩ := List.mem_map.mp (List.mem_of_getElem? hxj)
              exact ⟨y, h1, h2.symm⟩
            have lj : j < ns.length := by
              have := (List.getElem?_eq_some_iff.mp hxj).1
              rwa [List.length_map] at this
            refine ⟨rfl, _, rfl, _, rfl, FR, _, rfl, DGet.k (k := Sum.inr y) (sm _ _ hFR), _, rfl, ?_⟩
            refine ite2 (fun c => ?_) (fun c => ?_)
            · refine ⟨_, rfl, ms.map V.str, hD, szt (by rw [List.length_map]; omega), ms ++ [y], by rw [List.length_append, List.length_singleton]; omega, by rw [List.map_append]; exact upd_same, fun z hz => ?_, Same.mut (H := H5) sm nDl⟩
              rcases List.mem_append.mp hz with q | q
              · exact hm z q
              · rw [List.mem_singleton.mp q]
                exact hy1
            · exact ⟨ms, by omega, hD, hm, sm⟩
          · obtain ⟨ms, lm, hD, hm, sm⟩ := hP
            rw [List.length_map] at lm
            refine ⟨Dl, _, rfl, .inl ⟨SqL.of hD, fun mt nmt => ⟨(by show 3 ≤ sizeLine; decide), fun a2 na2 => ?_⟩⟩⟩
            have m6 := same_new (o := .tup (ms.map V.str)) nmt
            have m7 := same_new (o := .tup [.str "sure", .ref mt, .int 200]) na2
            have hmt := m7 _ _ (upd_same (H := H'') (a := mt) (o := .tup (ms.map V.str)))
            have hb2 := upd_same (H := upd H'' mt (.tup (ms.map V.str))) (a := a2) (o := .tup [.str "sure", .ref mt, .int 200])
            have sm7 := (sm.trans m6).trans m7
            have hFR7 := sm7 _ _ hFR
            have hfo7 := sm7 _ _ hfo
            have hbl7 := sm7 _ _ hbl5
            have f57 := f5.k (Kp.same (M := fun _ => False) sm7) (fun e => e)
            have k57 := k5.trans (Kp.same sm7)
            have t57 := TL.of sm7
            generalize upd (upd H'' mt (.tup (ms.map V.str))) a2 (.tup [.str "sure", .ref mt, .int 200]) = H7 at hmt hb2 hFR7 hfo7 hbl7 f57 k57 t57 ⊢
            refine ⟨fun σ' H8 => σ' = [some (.ref F), some (.ref p), some (.ref bl), some (.ref a2), some (.ref FR), some (.ref fo), none, none, none] ∧ H8 FR = some (.dK kvs) ∧ H8 fo = some (.lst zs) ∧ H8 bl = some (.lst ys) ∧ FlAt H8 F ∧ Kp (Is F) H H8 ∧ TL H5 H8 ∧ TL H7 H8, ?_, fun σ' H8 hM => ?_⟩
            · refine ⟨_, rfl, a2, _, 0, .str "sure", rfl, rfl, SqT.of hb2, rfl, (by show 2 ≤ sizeLine; decide), fun tp ntp => ⟨tp, _, rfl, .inr (SqT.of upd_same), rfl, rfl, _, rfl, ?_⟩⟩
              have m8 := same_new (o := .tup [.str "set", .str "read"]) ntp
              refine ite2 (fun c => absurd c (by decide +kernel)) (fun _ => ?_)
              exact ⟨rfl, m8 _ _ hFR7, m8 _ _ hfo7, m8 _ _ hbl7, f57.k (Kp.same (M := fun _ => False) m8) (fun e => e), k57.trans (Kp.same m8), t57.trans (TL.of m8), TL.of m8⟩
            · obtain ⟨rfl, hFR8, hfo8, hbl8, f8, k8, t8, t78⟩ := hM
              have ha8 := t78 _ _ hb2
              have hmt8 := t78 _ _ hmt
              refine ⟨_, rfl, a2, _, 0, .str "sure", rfl, rfl, SqT.of ha8, rfl, rfl, _, rfl, ?_⟩
              refine ite2 (fun c => absurd c (by decide +kernel)) (fun _ => ?_)
              refine ⟨_, rfl, a2, _, 0, .str "sure", rfl, rfl, SqT.of ha8, rfl, rfl, _, rfl, ?_⟩
              refine ite2 (fun c => absurd c (by decide +kernel)) (fun _ => ?_)
              refine ⟨_, rfl, a2, _, 1, .ref mt, rfl, rfl, SqT.of ha8, rfl, mt, _, rfl, .inr (SqT.of hmt8), _, _, rfl, rfl, _, rfl, ?_⟩
              refine ite2 (fun c => ?_) (fun c => ?_)
              · obtain ⟨h1, h2, h3⟩ := app (.ref a2) (.sure ms) kvs H8 ⟨a2, _, rfl, ha8, mt, _, rfl, hmt8⟩ (fun z => nomatch z) (show ms.length ≤ 10 by omega) (fun x hx => nm x (hm x hx)) hfo8 hFR8 (by omega) hbl8 f8 k8 t8
                exact ⟨_, rfl, .inl ⟨rfl, _, SqL.of h1⟩, _, rfl, fo, zs, _, rfl, rfl, h1, h2, h3⟩
              · exact ⟨_, zs, R, kvs, rfl, hfo8, by omega, hR.tl t8, oR, hFR8, by omega, hbl8, f8, k8, t5.trans t8⟩
      · obtain ⟨y3, zs, R, kvs, rfl, hfo, lR, hR, oR, hFR, lk, hbl5, f5, k5, t5⟩ := hP
        have hp5 := t5 _ _ (t2 _ _ hp)
        have hg5 := t5 _ _ (t2 _ _ hg)
        obtain ⟨nm, _, hnm⟩ := str_at (xs := gs) (i := 0) (by decide) (by omega)
        have lzs : zs.length ≤ 17 := by rw [hR.1]; omega
        clear hx hy hb hbl5 t2 hbl hFR
        refine ⟨_, rfl, p, _, 0, .ref g, rfl, rfl, SqT.of hp5, rfl, g, _, 0, .str nm, rfl, rfl, SqT.of hg5, hnm, (by show 2 ≤ sizeLine; decide), fun e1 n1 => ⟨Nat.zero_le _, fun e2 n2 => ⟨Nat.zero_le _, fun e3 n3 => ⟨(by show 4 ≤ sizeLine; decide), fun e4 n4 => ⟨(by show 1 ≤ sizeLine; decide), fun e5 n5 => ⟨(by show 2 ≤ sizeLine; decide), fun e6 n6 => ⟨(by show 1 ≤ sizeLine; decide), fun e7 o7 n7 po7 => ?_⟩⟩⟩⟩⟩⟩⟩
        have m7 := same_new (o := .frz o7 (.tup [.ref e6])) n7
        have m6 := (same_new (o := .tup [.str nm, .ref e5]) n6)
        have m17 := ((((((same_new (o := .tup [.str "num", .int 1]) n1).trans (same_new (o := .tup []) n2)).trans (same_new (o := .tup []) n3)).trans (same_new (o := .tup [.str "if", .ref e1, .ref e2, .ref e3]) n4)).trans (same_new (o := .tup [.ref e4]) n5)).trans m6).trans m7
        have h6 := m7 _ _ (upd_same (H := upd (upd (upd (upd (upd H5 e1 (.tup [.str "num", .int 1])) e2 (.tup [])) e3 (.tup [])) e4 (.tup [.str "if", .ref e1, .ref e2, .ref e3])) e5 (.tup [.ref e4])) (a := e6) (o := .tup [.str nm, .ref e5]))
        have h7 := upd_same (H := upd (upd (upd (upd (upd (upd H5 e1 (.tup [.str "num", .int 1])) e2 (.tup [])) e3 (.tup [])) e4 (.tup [.str "if", .ref e1, .ref e2, .ref e3])) e5 (.tup [.ref e4])) e6 (.tup [.str nm, .ref e5])) (a := e7) (o := .frz o7 (.tup [.ref e6]))
        have hp6 := m17 _ _ hp5
        have hg6 := m17 _ _ hg5
        have hfo6 := m17 _ _ hfo
        have hR6 := hR.tl (TL.of m17)
        have f6 := f5.k (Kp.same (M := fun _ => False) m17) (fun e => e)
        have k6 := k5.trans (Kp.same m17)
        generalize upd (upd (upd (upd (upd (upd (upd H5 e1 (.tup [.str "num", .int 1])) e2 (.tup [])) e3 (.tup [])) e4 (.tup [.str "if", .ref e1, .ref e2, .ref e3])) e5 (.tup [.ref e4])) e6 (.tup [.str nm, .ref e5])) e7 (.frz o7 (.tup [.ref e6])) = H6 at h6 h7 hp6 hg6 hfo6 hR6 f6 k6 ⊢
        clear hp5 hg5 hfo hR f5 k5 m7 m6 m17 n1 n2 n3 n4 n5 n6 n7
        refine ⟨fun σ' H7 => ∃ (mn : Int), σ' = [some (.ref F), some (.ref p), some (.ref bl), y3, some (.ref FR), some (.ref fo), some (.ref e7), some (.int mn), none] ∧ 1 ≤ mn ∧ mn.toNat * zs.length ≤ 58 ∧ mn ≤ 59 ∧ H7 fo = some (.lst zs) ∧ FlAt H7 F ∧ Kp (Is F) H H7 ∧ TL H6 H7, ?_, fun σ' H7 hM => ?_⟩
        · refine ⟨_, rfl, F, 4, rfl, f6, by decide, by decide, fun d H7 d0 d1 f7 k7 => ⟨rfl, _, rfl, ?_⟩⟩
          have hfo7 := k7.k _ _ hfo6 (fl.nn zfo)
          have k67 := k6.trans k7
          have one : (1 : Int).toNat * zs.length ≤ 58 := by show 1 * zs.length ≤ 58; omega
          refine ite2 (fun c => ?_) (fun c => ?_)
          · refine ⟨_, rfl, fo, zs, rfl, .inl (SqL.of hfo7), _, _, rfl, rfl, _, rfl, ?_⟩
            refine ite2 (fun c2 => ?_) (fun c2 => ?_)
            · have lz : (0 : Int) < zs.length := of_decide_eq_true c2
              have dv : (1 : Int) ≤ 58 / (zs.length : Int) := by
                have h1 : (58 : Int) / (zs.length : Int) = ((58 / zs.length : Nat) : Int) := by rw [Int.natCast_ediv]; rfl
                rw [h1]
                have : 1 ≤ 58 / zs.length := (Nat.le_div_iff_mul_le (by omega)).mpr (by omega)
                omega
              have dv2 : (58 : Int) / (zs.length : Int) ≤ 58 := Int.ediv_le_self _ (by decide)
              refine ⟨_, rfl, _, rfl, fo, zs, rfl, .inl (SqL.of hfo7), _, _, rfl, rfl, ⟨lz, by omega⟩, F, _, rfl, f7, dv, by omega, fun e H8 e0 e1 f8 k8 => ⟨_, _, rfl, rfl, ?_⟩⟩
              refine ⟨1 + e, rfl, by omega, ?_, by omega, k8.k _ _ hfo7 (fl.nn zfo), f8, k67.trans k8, k7.tl.trans k8.tl⟩
              have h1 : (58 : Int) / (zs.length : Int) = ((58 / zs.length : Nat) : Int) := by rw [Int.natCast_ediv]; rfl
              rw [h1] at e1
              have h2 : (1 + e).toNat ≤ 58 / zs.length := by omega
              exact Nat.le_trans (Nat.mul_le_mul_right _ h2) (Nat.div_mul_le_self 58 zs.length)
            · exact ⟨1, rfl, by decide, one, by decide, hfo7, f7, k67, k7.tl⟩
          · exact ⟨1, rfl, by decide, one, by decide, hfo7, f7, k67, k7.tl⟩
        · obtain ⟨mn, rfl, m1, m2, m3, hfo7, f7, k7, t7⟩ := hM
          have hp7 := t7 _ _ hp6
          have hg7 := t7 _ _ hg6
          have h67 := t7 _ _ h6
          have h77 := t7.f _ _ _ h7
          have hR7 := hR6.tl t7
          clear hp6 hg6 hfo6 hR6 f6 k6 h6 h7
          refine ⟨_, rfl, p, _, 0, .ref g, rfl, rfl, SqT.of hp7, rfl, _, rfl, _, rfl, F, 2, rfl, f7, by decide, by decide, fun d H8 d0 d1 f8 k8 => ⟨_, rfl, ?_⟩⟩
          have t8 := k8.tl
          have hp8 := t8 _ _ hp7
          have hg8 := t8 _ _ hg7
          have h68 := t8 _ _ h67
          have h78 := t8.f _ _ _ h77
          have hR8 := hR7.tl t8
          have hfo8 := k8.k _ _ hfo7 (fl.nn zfo)
          have k78 := k7.trans k8
          have cut58 : cutV zs none (some 58) = zs := by
            have e := HT.sIx_nat zs.length zs.length 58
            unfold cutV
            rw [HT.sIx_none, show (some (58 : Int)) = some ((58 : Nat) : Int) from rfl, e, List.drop_zero]
            exact List.take_of_length_le (by omega)
          have lR58 : (List.replicate mn.toNat R).flatten.length ≤ 58 := by
            rw [List.length_flatten, List.map_replicate, List.sum_replicate_nat, ← hR8.1]
            exact m2
          refine ⟨e7, [.ref e6], rfl, .inl (.inr ⟨_, h78⟩), fun hw => ?_, fun hw hl ol nhl pol => ?_⟩
          · obtain ⟨H9, e9⟩ : ∃ H9, H9 = H8 := ⟨H8, rfl⟩
            obtain ⟨hl, eh⟩ : ∃ hl, hl = e7 := ⟨e7, rfl⟩
            have sm : Same H8 H9 := by
              rw [e9]
              exact fun _ _ h => h
            have hh : HlAt H9 hl := by
              rw [e9, eh]
              exact ⟨_, _, po7, h78, .inr ⟨e6, e5, nm, rfl, h68⟩⟩
            rw [← e9, ← eh]
            refine ⟨_, rfl, _, rfl, fo, zs, rfl, SqL.of (sm _ _ hfo8), fun c nc => ⟨c, _, rfl, .inl ⟨SqL.of upd_same, fun t nt => ?_⟩⟩⟩
            have q1 := same_new (o := .lst (cutV zs none (some 58))) nc
            have q2 := same_new (o := .tup (cutV zs none (some 58))) nt
            have sm9 := (sm.trans q1).trans q2
            have ht := upd_same (H := upd H9 c (.lst (cutV zs none (some 58)))) (a := t) (o := .tup (cutV zs none (some 58)))
            have hh9 := hh.tl (TL.of (q1.trans q2))
            have k9 := k78.trans (Kp.same sm9)
            have f9 := f8.k (Kp.same (M := fun _ => False) sm9) (fun e => e)
            have hp9 := sm9 _ _ hp8
            have hg9 := sm9 _ _ hg8
            have hR9 := hR8.tl (TL.of sm9)
            generalize upd (upd H9 c (.lst (cutV zs none (some 58)))) t (.tup (cutV zs none (some 58))) = H10 at ht hh9 k9 f9 hp9 hg9 hR9 ⊢
            rw [cut58] at ht
            have fin : ∀ (xb : Addr) (H11 : Hp), Same H10 H11 → H11 xb = some (.tup (List.replicate mn.toNat zs).flatten) → 3 ≤ sizeLine ∧ ∀ p, H11 p = none → Q (.ref p) (upd H11 p (.tup [.ref g, .ref hl, .ref xb])) := fun xb H11 s11 hx => ⟨by decide, fun pp npp => by
              have q3 := same_new (o := .tup [.ref g, .ref hl, .ref xb]) npp
              have kq := k9.trans (Kp.same s11)
              have s13 := s11.trans q3
              exact q pp (List.replicate mn.toNat R).flatten _ (f9.k (Kp.same (M := fun _ => False) s13) (fun e => e)) (kq.trans (Kp.same q3)) (kq.free npp) ⟨g, hl, xb, gs, cs, _, upd_same, s13 _ _ hg9, lg1, lg2, hh9.tl (TL.of s13), q3 _ _ hx, (hR9.tl (TL.of s13)).rep mn.toNat, lR58, lcs, oR.rep mn.toNat⟩⟩
            refine ⟨_, rfl, t, mn, zs, rfl, rfl, SqT.of ht, m1, by omega, by omega, fun e => ?_, fun e1 e2 xb nxb => ?_⟩
            · refine fin t H10 (fun _ _ h => h) ?_
              rcases e with e | e
              · rw [e] at ht ⊢
                rw [ht]
                simp
              · rw [e, ht]
                show some (HO.tup zs) = some (HO.tup (List.replicate 1 zs).flatten)
                simp
            · exact fin xb _ (same_new nxb) upd_same
          · have sm := same_new (o := .frz ol (.tup (cutV [.ref e6] none (some d)))) nhl
            have hh : HlAt (upd H8 hl (.frz ol (.tup (cutV [.ref e6] none (some d))))) hl := ⟨_, _, pol, upd_same, .inl (by
              rcases (show d = 0 ∨ d = 1 by omega) with e | e
              · rw [e]
                rfl
              · exact absurd ⟨rfl, by rw [e]; rfl⟩ hw)⟩
            generalize upd H8 hl (.frz ol (.tup (cutV [.ref e6] none (some d)))) = H9 at sm hh ⊢
            refine ⟨_, rfl, _, rfl, fo, zs, rfl, SqL.of (sm _ _ hfo8), fun c nc => ⟨c, _, rfl, .inl ⟨SqL.of upd_same, fun t nt => ?_⟩⟩⟩
            have q1 := same_new (o := .lst (cutV zs none (some 58))) nc
            have q2 := same_new (o := .tup (cutV zs none (some 58))) nt
            have sm9 := (sm.trans q1).trans q2
            have ht := upd_same (H := upd H9 c (.lst (cutV zs none (some 58)))) (a := t) (o := .tup (cutV zs none (some 58)))
            have hh9 := hh.tl (TL.of (q1.trans q2))
            have k9 := k78.trans (Kp.same sm9)
            have f9 := f8.k (Kp.same (M := fun _ => False) sm9) (fun e => e)
            have hp9 := sm9 _ _ hp8
            have hg9 := sm9 _ _ hg8
            have hR9 := hR8.tl (TL.of sm9)
            generalize upd (upd H9 c (.lst (cutV zs none (some 58)))) t (.tup (cutV zs none (some 58))) = H10 at ht hh9 k9 f9 hp9 hg9 hR9 ⊢
            rw [cut58] at ht
            have fin : ∀ (xb : Addr) (H11 : Hp), Same H10 H11 → H11 xb = some (.tup (List.replicate mn.toNat zs).flatten) → 3 ≤ sizeLine ∧ ∀ p, H11 p = none → Q (.ref p) (upd H11 p (.tup [.ref g, .ref hl, .ref xb])) := fun xb H11 s11 hx => ⟨by decide, fun pp npp => by
              have q3 := same_new (o := .tup [.ref g, .ref hl, .ref xb]) npp
              have kq := k9.trans (Kp.same s11)
              have s13 := s11.trans q3
              exact q pp (List.replicate mn.toNat R).flatten _ (f9.k (Kp.same (M := fun _ => False) s13) (fun e => e)) (kq.trans (Kp.same q3)) (kq.free npp) ⟨g, hl, xb, gs, cs, _, upd_same, s13 _ _ hg9, lg1, lg2, hh9.tl (TL.of s13), q3 _ _ hx, (hR9.tl (TL.of s13)).rep mn.toNat, lR58, lcs, oR.rep mn.toNat⟩⟩
            refine ⟨_, rfl, t, mn, zs, rfl, rfl, SqT.of ht, m1, by omega, by omega, fun e => ?_, fun e1 e2 xb nxb => ?_⟩
            · refine fin t H10 (fun _ _ h => h) ?_
              rcases e with e | e
              · rw [e] at ht ⊢
                rw [ht]
                simp
              · rw [e, ht]
                show some (HO.tup zs) = some (HO.tup (List.replicate 1 zs).flatten)
                simp
            · exact fin xb _ (same_new nxb) upd_same
end
end K36
namespace K36
open PySem PySem.Spec PyProof.Rows L2
/-! ### the rows, laid -/
/-- row lists: the first m know where they lead -/
structure LR (H : Hp) (ls : List Addr) (R : List Rw) (m : Nat) : Prop where
  nd : ls.Nodup
  at' : ∀ (i : Nat) (l : Addr) (r : Rw), ls[i]? = some l → R[i]? = some r → ∃ its, RwIt H r its ∧ H l = some (.lst (its ++ [if i < m then V.int ((i : Int) + 1) else .non]))
theorem LR.nil {H : Hp} {R : List Rw} : LR H [] R 0 := ⟨List.nodup_nil, fun i l r h => by rw [List.getElem?_nil] at h; cases h⟩
theorem LR.step {H H' : Hp} {ls : List Addr} {R : List Rw} {m : Nat} (a : LR H ls R m) (t : TL H H') (k : ∀ l ∈ ls, ∀ ys, H l = some (.lst ys) → H' l = some (.lst ys)) : LR H' ls R m := ⟨a.nd, fun i l r h1 h2 => by
  obtain ⟨its, h3, h4⟩ := a.at' i l r h1 h2
  exact ⟨its, h3.tl t, k l (List.mem_of_getElem? h1) _ h4⟩⟩
theorem LR.set {H : Hp} {ls : List Addr} {R : List Rw} {m : Nat} {l : Addr} {ys : List V} (a : LR H ls R m) (hl : ls[m]? = some l) (hm : ls.length = m + 1) (hR : m < R.length) (h : H l = some (.lst ys)) :
    1 ≤ ys.length ∧ LR (upd H l (.lst (ys.set (ys.length - 1) (.int ((m : Int) + 1))))) ls R (m + 1) := by
  have tb : TL H (upd H l (.lst (ys.set (ys.length - 1) (.int ((m : Int) + 1))))) := (Kp.upd (M := Is l) rfl h lst_ne_tup).tl
  obtain ⟨its, h3, h4⟩ := a.at' m l R[m] hl (List.getElem?_eq_getElem hR)
  rw [if_neg (Nat.lt_irrefl m)] at h4
  have e : ys = its ++ [V.non] := HO.lst.inj (Option.some.inj (h.symm.trans h4))
  have yl : ys.length = its.length + 1 := by rw [e, List.length_append, List.length_singleton]
  refine ⟨by omega, a.nd, fun i b r h1 h2 => ?_⟩
  by_cases c : i = m
  · subst c
    have eb : b = l := Option.some.inj (h1.symm.trans hl)
    subst eb
    have er : R[i] = r := Option.some.inj ((List.getElem?_eq_getElem hR).symm.trans h2)
    refine ⟨its, by rw [← er]; exact h3.tl tb, ?_⟩
    rw [upd_same, if_pos (Nat.lt_succ_self i), yl, e]
    show some (HO.lst ((its ++ [V.non]).set its.length _)) = _
    rw [List.set_append_right _ _ (Nat.le_refl _), Nat.sub_self]
    rfl
  · obtain ⟨its2, h5, h6⟩ := a.at' i b r h1 h2
    have ne : b ≠ l := fun z => c (by
      rw [z] at h1
      obtain ⟨l1, g1⟩ := List.getElem?_eq_some_iff.mp h1
      obtain ⟨l2, g2⟩ := List.getElem?_eq_some_iff.mp hl
      exact (List.getElem_inj a.nd).mp (g1.trans g2.symm))
    have hi : i < ls.length := (List.getElem?_eq_some_iff.mp h1).1
    refine ⟨its2, h5.tl tb, ?_⟩
    rw [upd_ne ne, h6, if_pos (show i < m by omega), if_pos (show i < m + 1 by omega)]
theorem LR.push {H : Hp} {ls : List Addr} {R : List Rw} {m : Nat} {l : Addr} {its : List V} {r : Rw} (a : LR H ls R m) (hm : ls.length = m) (hr : R[m]? = some r) (hi : RwIt H r its) (hl : H l = some (.lst (its ++ [V.non]))) (nl : l ∉ ls) : LR H (ls ++ [l]) R m := by
  refine ⟨List.nodup_append.mpr ⟨a.nd, by simp, fun x hx y hy e => nl (by rw [List.mem_singleton.mp hy] at e; rw [← e]; exact hx)⟩, fun i b r' h1 h2 => ?_⟩
  by_cases c : i < ls.length
  · rw [List.getElem?_append_left c] at h1
    exact a.at' i b r' h1 h2
  · have ei : i = ls.length := by
      have := (List.getElem?_eq_some_iff.mp h1).1
      rw [List.length_append, List.length_singleton] at this
      omega
    subst ei
    rw [List.getElem?_append_right (Nat.le_refl _), Nat.sub_self] at h1
    have eb : l = b := Option.some.inj h1
    subst eb
    rw [hm] at h2 ⊢
    have er : r = r' := Option.some.inj (hr.symm.trans h2)
    subst er
    exact ⟨its, hi, by rw [if_neg (Nat.lt_irrefl _)]; exact hl⟩
/-- where the row behind the last one is put -/
def EndAt (H : Hp) (e : Addr) (ls : List Addr) : Prop := match ls.length with
  | 0 => H e = some (.lst [])
  | n + 1 => ∃ (tp l : Addr) (ys : List V), H e = some (.lst [.ref tp]) ∧ H tp = some (.tup [.int (n : Int), .int ((ys.length : Int) - 1)]) ∧ ls[n]? = some l ∧ H l = some (.lst ys)
def spLay : Sp := fun vs H Q _ => ∃ (hd b rl el : Addr) (xs : List V) (R : List Rw), vs = [.ref hd, .ref b, .ref rl, .ref el] ∧ H b = some (.tup xs) ∧ StsAt H xs R ∧ (∀ r ∈ R, r ≠ .fin) ∧ R.length ≤ 58 ∧ H rl = some (.lst []) ∧ H el = some (.lst []) ∧ rl ≠ el ∧
  ∀ (e : Addr) (ls : List Addr) (H' : Hp), Kp (Is rl) H H' → LR H' ls R (R.length - 1) → ls.length = R.length → (∀ l ∈ ls, H l = none) → H' rl = some (.lst (ls.map V.ref)) → EndAt H' e ls → Q (.ref e) H'
theorem RwIt.sh {H : Hp} {r : Rw} {its : List V} (h : RwIt H r its) (nf : r ≠ .fin) : ∃ (wd : Str) (x : V) (tl : List V), its = .str wd :: x :: tl ∧ its.length ≤ 3 ∧ wd ≠ "times" ∧ wd ≠ "call" ∧ wd ≠ "if" ∧ wd ≠ "while" := by
  cases r with
  | set x t =>
    obtain ⟨z, rfl, _⟩ := h
    exact ⟨"set", _, _, rfl, Nat.le_refl 3, by decide +kernel, by decide +kernel, by decide +kernel, by decide +kernel⟩
  | read x =>
    obtain ⟨z, rfl⟩ := h
    exact ⟨"read", _, _, rfl, Nat.le_refl 3, by decide +kernel, by decide +kernel, by decide +kernel, by decide +kernel⟩
  | tell t =>
    obtain ⟨z, rfl, _⟩ := h
    exact ⟨"tell", _, _, rfl, Nat.le_succ 2, by decide +kernel, by decide +kernel, by decide +kernel, by decide +kernel⟩
  | sure ns =>
    obtain ⟨b, n, rfl, _⟩ := h
    exact ⟨"sure", _, _, rfl, Nat.le_refl 3, by decide +kernel, by decide +kernel, by decide +kernel, by decide +kernel⟩
  | fin => exact absurd rfl nf
section
variable {P : Program} {w : World} {K : PySem.W.Frag} {mg : Str → Option Value} {base : Heap}
-- _law_lay (printed by gen.py); slots: 0 _law_helpers_here, 1 _law_body_here, 2 _law_rows_here, 3 _law_ends, 4 _law_one, 5 _law_inner, 6 _law_many, 7 _law_turn, 8 _law_at, 9 _law_k, 10 _law_place
abbrev nLLay : List Str := ["_law_helpers_here", "_law_body_here", "_law_rows_here", "_law_ends", "_law_one", "_law_inner", "_law_many", "_law_turn", "_law_at", "_law_k", "_law_place"]
abbrev pLLay : List Str := ["_law_helpers_here", "_law_body_here", "_law_rows_here", "_law_ends"]
theorem scLLay : FnScope nLLay pLLay (defScope sLLay) := ⟨rfl, rfl, rfl, by decide +kernel, rfl, by decide +kernel, by decide +kernel⟩
theorem ok_lay (T : Bi mg) (a : At K mg "_law_lay" sLLay pLLay) : Cal P w K mg base CX0 "_law_lay" 1 pLLay spLay := by
  have cLLay : Cal P w K mg base CX0 "_law_lay" 0 pLLay (fun _ _ _ _ => False) := Cal.none a fun _ _ _ _ h => h
  refine Cal.of a scLLay (fun vs H Q E h => ?_) (fun f cdv A outer s H vs Q E hr h => ?_)
  · obtain ⟨hd, b, rl, el, xs, R, rfl, _⟩ := h
    rfl
  · obtain ⟨hd, b, rl, el, xs, R, rfl, hb, hs, hnf, lR, hrl, hel, nre, q⟩ := h
    refine ⟨_, (pss_cons (ps_for PassesOwn.never rfl (pi_tup (pv 1)) (pg_name (i := 4) scLLay.nd rfl (.inl rfl))
        (pss_one (ps_if (pt_cmpR op_in_seq (pe_ix ix_tup (pv 4) pe_int (fun _ _ => rfl)) (pe_tup (pa_cons pe_str (pa_cons pe_str pa_nil))) (by rfl))
          (pss_cons (ps_asg (pe_ix ix_list (pe_lst (pa_cons (pe_tup (pa_cons (pe_dget2 (hu_of hr) (pv 0) (pe_ix ix_tup (pv 4) pe_int (fun _ _ => rfl)) (pe_tup pa_nil) ⟨rfl, rfl, rfl, rfl⟩) (pa_cons pe_int pa_nil))) (pa_cons (pe_tup (pa_cons (pe_ix ix_tup (pv 4) (pe_un un_neg pe_int) (fun _ _ => rfl)) (pa_cons (pe_ix ix_tup (pv 4) pe_int (fun _ _ => rfl)) pa_nil))) pa_nil))) (pe_callTy call_int1 (by rfl) T.int bo_int (pa_cons (pe_cmpR op_eq (pe_ix ix_tup (pv 4) pe_int (fun _ _ => rfl)) pe_str (nomark _)) pa_nil)) (fun _ _ => rfl)) (pg_tup rfl (pgs_cons (pg_name (i := 5) scLLay.nd rfl (.inl rfl)) (pgs_cons (pg_name (i := 6) scLLay.nd rfl (.inl rfl)) pgs_nil)))) -- _law_inner, _law_many = [(_law_helpers_here.get(_law_one[1], ()), 1), (_law_one[-1], _law_one[1])][int(_law_on
          (pss_one (ps_for PassesOwn.never rfl (pi_range1 (by rfl) T.range (pa_cons (pv 6) pa_nil)) (pg_name (i := 7) scLLay.nd rfl (.inl rfl))
            (pss_one (ps_set (i := 3) scLLay.nd rfl (.inl rfl) (pe_c cLLay hr pass0 (pa_cons (pv 0) (pa_cons (pv 5) (pa_cons (pv 2) (pa_cons (pv 3) pa_nil))))))))))
          (pss_cons (ps_set (i := 8) scLLay.nd rfl (.inl rfl) (pe_callB call_len_seq (by rfl) T.len bo_len (pa_cons (pv 2) pa_nil))) -- _law_at = len(_law_rows_here)
          (Evl.pss_cut (ps_for PassesOwn.never rfl (pi_list (pv 3)) (pg_tup rfl (pgs_cons (pg_name (i := 9) scLLay.nd rfl (.inl rfl)) (pgs_cons (pg_name (i := 10) scLLay.nd rfl (.inl rfl)) pgs_nil)))
            (pss_one (ps_asg (pv 8) (pg_sub (pe_ix ix_list (pv 2) (pv 9) (fun _ _ => rfl)) (pv 10) set_list)))) -- for _law_k, _law_place in _law_ends:
          (pss_cons (ps_expr (pe_bm PySem.F.plainAttrs_list PySem.F.slot_list_append PySem.F.type_list_append mt_append (pv 2) (pa_cons (pe_ix ix_list (pe_lst (pa_cons (pe_op op_cat (pe_callTy call_list_of (by rfl) T.list bo_list (pa_cons (pv 4) pa_nil)) (pe_lst (pa_cons pe_non pa_nil))) (pa_cons (pe_lst (pa_cons pe_str (pa_cons (pe_ix ix_tup (pv 4) pe_int (fun _ _ => rfl)) (pa_cons pe_non (pa_cons pe_non pa_nil))))) pa_nil))) (pe_callTy call_int1 (by rfl) T.int bo_int (pa_cons (pe_cmpR op_in_seq (pe_ix ix_tup (pv 4) pe_int (fun _ _ => rfl)) (pe_tup (pa_cons pe_str (pa_cons pe_str pa_nil))) (by rfl)) pa_nil)) (fun _ _ => rfl)) pa_nil))) -- _law_rows_here.append([list(_law_one) + [None], ['if', _law_one[1], None, None]][int(_law_one[0] in ('if', 'wh
          (pss_cons (ps_set (i := 3) scLLay.nd rfl (.inl rfl) (pe_lst (pa_cons (pe_tup (pa_cons (pv 8) (pa_cons (pe_callB call_len_seq (by rfl) T.len bo_len (pa_cons (pv 4) pa_nil)) pa_nil))) pa_nil))) -- _law_ends = [(_law_at, len(_law_one))]
          (pss_cons (ps_if (pt_cmpR op_eq (pe_ix ix_tup (pv 4) pe_int (fun _ _ => rfl)) pe_str (nomark _))
            (pss_one (ps_set (i := 3) scLLay.nd rfl (.inl rfl) (pe_op op_cat (pe_c cLLay hr pass0 (pa_cons (pv 0) (pa_cons (pe_ix ix_tup (pv 4) pe_int (fun _ _ => rfl)) (pa_cons (pv 2) (pa_cons (pe_lst (pa_cons (pe_tup (pa_cons (pv 8) (pa_cons pe_int pa_nil))) pa_nil)) pa_nil))))) (pe_c cLLay hr pass0 (pa_cons (pv 0) (pa_cons (pe_ix ix_tup (pv 4) pe_int (fun _ _ => rfl)) (pa_cons (pv 2) (pa_cons (pe_lst (pa_cons (pe_tup (pa_cons (pv 8) (pa_cons pe_int pa_nil))) pa_nil)) pa_nil))))))))
            pss_nil) -- if _law_one[0] == 'if':
          (pss_one (ps_if (pt_cmpR op_eq (pe_ix ix_tup (pv 4) pe_int (fun _ _ => rfl)) pe_str (nomark _))
            (pss_cons (ps_for PassesOwn.never rfl (pi_list (pe_c cLLay hr pass0 (pa_cons (pv 0) (pa_cons (pe_ix ix_tup (pv 4) pe_int (fun _ _ => rfl)) (pa_cons (pv 2) (pa_cons (pe_lst (pa_cons (pe_tup (pa_cons (pv 8) (pa_cons pe_int pa_nil))) pa_nil)) pa_nil)))))) (pg_tup rfl (pgs_cons (pg_name (i := 9) scLLay.nd rfl (.inl rfl)) (pgs_cons (pg_name (i := 10) scLLay.nd rfl (.inl rfl)) pgs_nil)))
              (pss_one (ps_asg (pv 8) (pg_sub (pe_ix ix_list (pv 2) (pv 9) (fun _ _ => rfl)) (pv 10) set_list)))) -- for _law_k, _law_place in _law_lay(_law_helpers_here, _law_one[2], _law_rows_here, [(_law_at, 2)]):
            (pss_one (ps_set (i := 3) scLLay.nd rfl (.inl rfl) (pe_lst (pa_cons (pe_tup (pa_cons (pv 8) (pa_cons pe_int pa_nil))) pa_nil)))))
            pss_nil)))))))))) -- for _law_one in _law_body_here:
      (pss_one (ps_ret (pv 3)))), ?_⟩
    have hxl := hs.1
    refine ⟨_, rfl, b, rfl, ⟨xs, SqT.of hb⟩, ?_⟩
    refine for_tup (fun i σ' H' => ∃ (e : Addr) (y4 y8 y9 y10 : Option V) (ls : List Addr), σ' = [some (.ref hd), some (.ref b), some (.ref rl), some (.ref e), y4, none, none, none, y8, y9, y10] ∧ Kp (Is rl) H H' ∧ LR H' ls R (i - 1) ∧ ls.length = i ∧ (∀ l ∈ ls, H l = none) ∧ H' rl = some (.lst (ls.map V.ref)) ∧ EndAt H' e ls ∧ e ≠ rl)
      ⟨el, none, none, none, none, [], rfl, Kp.refl _ _, LR.nil, rfl, fun l h => absurd h List.not_mem_nil, hrl, hel, nre.symm⟩ (fun i σ' H' _ hP => by obtain ⟨_, _, _, _, _, _, _, k, _⟩ := hP; exact SqT.of (k.t _ _ hb)) (fun i x σ' H1 hxi hP => ?_) (fun σ' H1 hP => ?_)
    · obtain ⟨e, y4, y8, y9, y10, ls, rfl, k1, lr1, ll, hls, hrl1, he1, ner⟩ := hP
      have li : i < R.length := by rw [← hxl]; exact (List.getElem?_eq_some_iff.mp hxi).1
      obtain ⟨v, hv, a1, its, ev, ha0, hi0⟩ := hs.2 i R[i] (List.getElem?_eq_getElem li)
      have exv : x = v := Option.some.inj (hxi.symm.trans hv)
      rw [exv, ev]
      have ha := k1.t _ _ ha0
      have hi := hi0.tl k1.t
      have nfi := hnf _ (List.getElem_mem li)
      obtain ⟨wd, x2, tl, rfl, il, n1, n2, n3, n4⟩ := hi.sh nfi
      refine ⟨_, rfl, a1, _, 0, .str wd, rfl, rfl, SqT.of ha, at_nat (j := 0) rfl rfl, (by show 2 ≤ sizeLine; decide), fun tp0 ntp0 => ⟨tp0, _, rfl, .inr (SqT.of upd_same), rfl, rfl, _, rfl, ?_⟩⟩
      refine ite2 (fun c => absurd (inV2 c) (fun z => z.elim n1 n2)) (fun _ => ?_)
      have m2 := same_new (o := .tup [.str "times", .str "call"]) ntp0
      have ha2 := m2 _ _ ha
      have hi2 := hi.tl (TL.of m2)
      have k2 := k1.trans (Kp.same m2)
      have lr2 := lr1.step (TL.of m2) fun l _ ys h => m2 _ _ h
      have hrl2 := m2 _ _ hrl1
      have he2 : EndAt (upd H1 tp0 (.tup [.str "times", .str "call"])) e ls := by
        unfold EndAt at he1 ⊢
        split
        · rename_i z
          rw [z] at he1
          exact m2 _ _ he1
        · rename_i n z
          rw [z] at he1
          obtain ⟨tp, l, ys, h1, h2, h3, h4⟩ := he1
          exact ⟨tp, l, ys, m2 _ _ h1, m2 _ _ h2, h3, m2 _ _ h4⟩
      generalize upd H1 tp0 (.tup [.str "times", .str "call"]) = H2 at ha2 hi2 k2 lr2 hrl2 he2 ⊢
      clear hi he1 hrl1 lr1 m2 ntp0
      -- at
      refine ⟨_, rfl, rl, _, rfl, .inl (SqL.of hrl2), ?_⟩
      have elen : (ls.map V.ref).length = i := by rw [List.length_map, ll]
      rw [elen]
      -- the ends
      refine ⟨fun σ' H3 => ∃ (y9 y10 : Option V), σ' = [some (.ref hd), some (.ref b), some (.ref rl), some (.ref e), some (.ref a1), none, none, none, some (.int i), y9, y10] ∧ Kp (Is rl) H H3 ∧ LR H3 ls R i ∧ H3 rl = some (.lst (ls.map V.ref)) ∧ TL H2 H3, ?_, fun σ' H3 hM => ?_⟩
      · unfold EndAt at he2
        cases i with
        | zero =>
          rw [ll] at he2
          refine ⟨_, rfl, e, rfl, ⟨[], SqL.of he2⟩, ?_⟩
          exact for_list (xs := []) (fun i σ' H' => σ' = [some (.ref hd), some (.ref b), some (.ref rl), some (.ref e), some (.ref a1), none, none, none, some (.int ((0 : Nat) : Int)), y9, y10] ∧ H' = H2) ⟨rfl, rfl⟩ (fun i σ' H' _ hP => by obtain ⟨_, rfl⟩ := hP; exact SqL.of he2) (fun i x σ' H' hx hP => by simp at hx) (fun σ' H' hP => by
            obtain ⟨rfl, rfl⟩ := hP
            exact ⟨_, _, rfl, k2, lr2, hrl2, TL.refl _⟩)
        | succ n =>
          rw [ll] at he2
          obtain ⟨tp, l, ys, h1, h2, h3, h4⟩ := he2
          have lmem := List.mem_of_getElem? h3
          have zl := hls l lmem
          have hl0 : l ≠ rl := (ne_of_none hrl zl).symm
          have hle : l ≠ e := fun z => by
            rw [z, h1] at h4
            have h5 := HO.lst.inj (Option.some.inj h4)
            obtain ⟨its', _, h6⟩ := lr2.at' n l R[n] h3 (List.getElem?_eq_getElem (by omega))
            rw [z, h1] at h6
            have h7 := HO.lst.inj (Option.some.inj h6)
            rw [if_neg (by omega)] at h7
            have h8 := congrArg List.getLast? h7
            rw [List.getLast?_append] at h8
            simp at h8
          have lset := lr2.set (m := n) h3 ll (by omega) h4
          refine ⟨_, rfl, e, rfl, ⟨_, SqL.of h1⟩, ?_⟩
          refine for_list (xs := [.ref tp]) (fun j σ' H' => (j = 0 ∧ σ' = [some (.ref hd), some (.ref b), some (.ref rl), some (.ref e), some (.ref a1), none, none, none, some (.int ((n + 1 : Nat) : Int)), y9, y10] ∧ H' = H2) ∨ (j = 1 ∧ ∃ (y9 y10 : Option V), σ' = [some (.ref hd), some (.ref b), some (.ref rl), some (.ref e), some (.ref a1), none, none, none, some (.int ((n + 1 : Nat) : Int)), y9, y10] ∧ H' = upd H2 l (.lst (ys.set (ys.length - 1) (.int ((n : Int) + 1))))))
            (.inl ⟨rfl, rfl, rfl⟩) (fun j σ' H' _ hP => ?_) (fun j x σ' H' hx hP => ?_) (fun σ' H' hP => ?_)
          · rcases hP with ⟨_, _, rfl⟩ | ⟨_, _, _, _, rfl⟩
            · exact SqL.of h1
            · exact SqL.of (by rw [upd_ne hle.symm]; exact h1)
          · rcases hP with ⟨rfl, rfl, rfl⟩ | ⟨rfl, _⟩
            · cases hx
              refine ⟨tp, _, rfl, SqT.of h2, rfl, _, _, rfl, _, _, rfl, rfl, _, rfl, _, rfl, _, rfl, rl, _, _, _, rfl, rfl, SqL.of hrl2, at_nat (j := n) rfl (by rw [List.getElem?_map, h3]; rfl), _, rfl, l, ys, _, ys.length - 1, rfl, rfl, h4, ?_, .inr ⟨rfl, _, _, rfl, ?_⟩⟩
              · have h5 := Evl.ixN_nat (n := ys.length) (j := ys.length - 1) (by have := lset.1; omega)
                have e5 : ((ys.length - 1 : Nat) : Int) = (ys.length : Int) - 1 := by have := lset.1; omega
                rw [← e5]
                exact h5
              · have e6 : (((n + 1 : Nat)) : Int) = (n : Int) + 1 := by omega
                rw [e6]
            · cases hx
          · rcases hP with ⟨h, _⟩ | ⟨_, z9, z10, rfl, rfl⟩
            · cases h
            · have kk : Kp (Is l) H2 (upd H2 l (.lst (ys.set (ys.length - 1) (.int ((n : Int) + 1))))) := Kp.upd rfl h4 lst_ne_tup
              exact ⟨_, _, rfl, k2.mut zl, lset.2, by rw [upd_ne hl0.symm]; exact hrl2, kk.t⟩
      · obtain ⟨y9, y10, rfl, k3, lr3, hrl3, t23⟩ := hM
        have ha3 := t23 _ _ ha2
        have hi3 := hi2.tl t23
        clear he2 lr2 k2 hrl2 hi2 ha2
        -- the row
        refine ⟨_, rfl, .inl ⟨rfl, _, SqL.of hrl3⟩, _, rfl, a1, _, rfl, .inr (SqT.of ha3), fun l1 nl1 => ⟨(by show 1 ≤ sizeLine; decide), fun l2 nl2 => ?_⟩⟩
        have m1 := same_new (o := .lst (.str wd :: x2 :: tl)) nl1
        have m2 := same_new (o := .lst [.non]) nl2
        refine ⟨l1, l2, _, _, rfl, rfl, m2 _ _ upd_same, upd_same, szl (by rw [List.length_singleton]; omega), fun l3 nl3 => ?_⟩
        have m3 := same_new (o := .lst ((.str wd :: x2 :: tl) ++ [.non])) nl3
        have m13 := (m1.trans m2).trans m3
        have h3 := upd_same (H := upd (upd H3 l1 (.lst (.str wd :: x2 :: tl))) l2 (.lst [.non])) (a := l3) (o := .lst ((.str wd :: x2 :: tl) ++ [.non]))
        have zl3 : H l3 = none := (k3.trans (Kp.same (m1.trans m2))).free nl3
        have fresh : l3 ∉ ls := fun hm => by
          obtain ⟨j, hj⟩ := List.getElem?_of_mem hm
          have lj := (List.getElem?_eq_some_iff.mp hj).1
          obtain ⟨its', _, h6⟩ := lr3.at' j l3 R[j] hj (List.getElem?_eq_getElem (by omega))
          rw [(m1.trans m2) _ _ h6] at nl3
          cases nl3
        have ha4 := m13 _ _ ha3
        have hi4 := hi3.tl (TL.of m13)
        have hrl4 := m13 _ _ hrl3
        have lr4 := lr3.step (TL.of m13) fun l _ ys h => m13 _ _ h
        have k4 := k3.trans (Kp.same m13)
        generalize upd (upd (upd H3 l1 (.lst (.str wd :: x2 :: tl))) l2 (.lst [.non])) l3 (.lst ((.str wd :: x2 :: tl) ++ [.non])) = H4 at h3 ha4 hi4 hrl4 lr4 k4 ⊢
        refine ⟨_, rfl, a1, _, 1, x2, rfl, rfl, SqT.of ha4, at_nat (j := 1) rfl rfl, (by show 4 ≤ sizeLine; decide), fun l4 nl4 => ⟨(by show 2 ≤ sizeLine; decide), fun l5 nl5 => ?_⟩⟩
        have m4 := same_new (o := .lst [.str "if", x2, .non, .non]) nl4
        have m5 := same_new (o := .lst [.ref l3, .ref l4]) nl5
        refine ⟨_, rfl, a1, _, 0, .str wd, rfl, rfl, SqT.of ((m4.trans m5) _ _ ha4), at_nat (j := 0) rfl rfl, (by show 2 ≤ sizeLine; decide), fun tq ntq => ⟨tq, _, rfl, .inr (SqT.of upd_same), rfl, rfl, .inr ⟨_, rfl, ?_⟩⟩⟩
        have m6 := same_new (o := .tup [.str "if", .str "while"]) ntq
        have nowd : inV (.str wd) [.str "if", .str "while"] = false := by
          cases c : inV (.str wd) [.str "if", .str "while"] with
          | false => rfl
          | true => exact absurd (inV2 c) (fun z => z.elim n3 n4)
        have m46 := (m4.trans m5).trans m6
        have h5 := m6 _ _ (upd_same (H := upd H4 l4 (.lst [.str "if", x2, .non, .non])) (a := l5) (o := .lst [.ref l3, .ref l4]))
        have ha5 := m46 _ _ ha4
        have hi5 := hi4.tl (TL.of m46)
        have hrl5 := m46 _ _ hrl4
        have h35 := m46 _ _ h3
        have lr5 := lr4.step (TL.of m46) fun l _ ys h => m46 _ _ h
        have k5 := k4.trans (Kp.same m46)
        generalize upd (upd (upd H4 l4 (.lst [.str "if", x2, .non, .non])) l5 (.lst [.ref l3, .ref l4])) tq (.tup [.str "if", .str "while"]) = H5 at h5 ha5 hi5 hrl5 h35 lr5 k5 ⊢
        refine ⟨l5, _, 0, .ref l3, rfl, (by
          show V.int (if inV (.str wd) [.str "if", .str "while"] = true then 1 else 0) = V.int 0
          rw [nowd]
          rfl), SqL.of h5, rfl, rl, _, _, rfl, rfl, hrl5, szt (by rw [elen]; omega), ?_⟩
        have nr3 : l3 ≠ rl := (ne_of_none hrl zl3).symm
        have kr : Kp (Is rl) H5 (upd H5 rl (.lst (ls.map V.ref ++ [.ref l3]))) := Kp.upd rfl hrl5 lst_ne_tup
        have k6 := k5.trans kr
        have ha6 := kr.t _ _ ha5
        have lr6 : LR (upd H5 rl (.lst (ls.map V.ref ++ [.ref l3]))) (ls ++ [l3]) R i := by
          refine (lr5.step kr.t fun l hl ys h => kr.k _ _ h fun e => ne_of_none hrl (hls l hl) e.symm).push ll (List.getElem?_eq_getElem li) (hi5.tl kr.t) ?_ fresh
          rw [upd_ne nr3]
          exact h35
        have hrl6 : (upd H5 rl (.lst (ls.map V.ref ++ [.ref l3]))) rl = some (.lst ((ls ++ [l3]).map V.ref)) := by rw [upd_same, List.map_append]; rfl
        have h36 := kr.k _ _ h35 nr3
        generalize upd H5 rl (.lst (ls.map V.ref ++ [.ref l3])) = H6 at k6 ha6 lr6 hrl6 h36 ⊢
        -- the end
        refine ⟨_, rfl, _, rfl, a1, _, rfl, .inr (SqT.of ha6), (by show 2 ≤ sizeLine; decide), fun tp ntp => ⟨(by show 1 ≤ sizeLine; decide), fun e2 ne2 => ?_⟩⟩
        have m7 := same_new (o := .tup [.int i, .int ((.str wd :: x2 :: tl : List V).length : Nat)]) ntp
        have m8 := same_new (o := .lst [.ref tp]) ne2
        have m78 := m7.trans m8
        have htp := m8 _ _ (upd_same (H := H6) (a := tp) (o := .tup [.int i, .int ((.str wd :: x2 :: tl : List V).length : Nat)]))
        have he2 := upd_same (H := upd H6 tp (.tup [.int i, .int ((.str wd :: x2 :: tl : List V).length : Nat)])) (a := e2) (o := .lst [.ref tp])
        have ha7 := m78 _ _ ha6
        have hrl7 := m78 _ _ hrl6
        have h37 := m78 _ _ h36
        have lr7 := lr6.step (TL.of m78) fun l _ ys h => m78 _ _ h
        have k7 := k6.trans (Kp.same m78)
        have ne2r : e2 ≠ rl := (ne_of_none (m7 _ _ hrl6) ne2).symm
        generalize upd (upd H6 tp (.tup [.int i, .int ((.str wd :: x2 :: tl : List V).length : Nat)])) e2 (.lst [.ref tp]) = H7 at htp he2 ha7 hrl7 h37 lr7 k7 ⊢
        refine ⟨_, rfl, a1, _, 0, .str wd, rfl, rfl, SqT.of ha7, at_nat (j := 0) rfl rfl, rfl, _, rfl, ?_⟩
        refine ite2 (fun c => absurd (V.str.inj (of_decide_eq_true c)) n3) (fun _ => ?_)
        refine ⟨_, rfl, a1, _, 0, .str wd, rfl, rfl, SqT.of ha7, at_nat (j := 0) rfl rfl, rfl, _, rfl, ?_⟩
        refine ite2 (fun c => absurd (V.str.inj (of_decide_eq_true c)) n4) (fun _ => ?_)
        have l7 : (ls ++ [l3]).length = i + 1 := by rw [List.length_append, List.length_singleton, ll]
        refine ⟨e2, _, _, _, _, ls ++ [l3], rfl, k7, lr7, l7, fun l hl => ?_, hrl7, ?_, ne2r⟩
        · rcases List.mem_append.mp hl with z | z
          · exact hls l z
          · rw [List.mem_singleton.mp z]
            exact zl3
        · unfold EndAt
          rw [l7]
          refine ⟨tp, l3, _, he2, ?_, by rw [List.getElem?_append_right (by omega), ll, Nat.sub_self]; rfl, h37⟩
          rw [htp]
          simp
    · obtain ⟨e, y4, y8, y9, y10, ls, rfl, k1, lr1, ll, hls, hrl1, he1, ner⟩ := hP
      rw [hxl] at lr1 ll
      exact ⟨_, rfl, q e ls H1 k1 lr1 ll hls hrl1 he1⟩
end
end K36
namespace K36
open PySem PySem.Spec PyProof.Rows L2
section
variable {P : Program} {w : World} {K : PySem.W.Frag} {mg : Str → Option Value} {base : Heap}
abbrev NoM : Addr → Prop := fun _ => False
theorem Kp.toSame {H H' : Hp} (k : Kp NoM H H') : Same H H' := fun b o h => k.k b o h fun e => e
def spRows : Sp := fun vs H Q _ => ∃ (p : Addr) (R : List Rw), vs = [.ref p] ∧ PgAt H p R ∧ ∀ (a : Addr) (H' : Hp), Kp NoM H H' → RowsAt H' a (R ++ [.fin]) → Q (.ref a) H'
-- _law_rows (printed by gen.py); slots: 0 _law_program_here, 1 _law_rows_here, 2 _law_k, 3 _law_place, 4 _law_row
abbrev nLRows : List Str := ["_law_program_here", "_law_rows_here", "_law_k", "_law_place", "_law_row"]
abbrev pLRows : List Str := ["_law_program_here"]
theorem scLRows : FnScope nLRows pLRows (defScope sLRows) := ⟨rfl, rfl, rfl, by decide +kernel, rfl, by decide +kernel, by decide +kernel⟩
theorem ok_rows (T : Bi mg) (a : At K mg "_law_rows" sLRows pLRows) (cLLay : Cal P w K mg base CX0 "_law_lay" 1 pLLay spLay) : Cal P w K mg base CX0 "_law_rows" 2 pLRows spRows := by
  refine Cal.of a scLRows (fun vs H Q E h => ?_) (fun f cdv A outer s H vs Q E hr h => ?_)
  · obtain ⟨p, R, rfl, _⟩ := h
    rfl
  · obtain ⟨p, R, rfl, ⟨g, h, b, gs, cs, xs, hp, hg, lg1, lg2, ⟨oh, hs, poh, hh, hhs⟩, hb, hS, lR, lc, oR⟩, q⟩ := h
    refine ⟨_, (pss_cons (ps_set (i := 1) scLRows.nd rfl (.inl rfl) (pe_lst pa_nil)) -- _law_rows_here = []
      (Evl.pss_cut (ps_for PassesOwn.never rfl (pi_list (pe_c cLLay hr pass0 (pa_cons (pe_callTy (call_dictF rfl) (by rfl) T.dict bo_dict (pa_cons (pe_ix ix_tup (pv 0) pe_int (fun _ _ => rfl)) pa_nil)) (pa_cons (pe_ix ix_tup (pv 0) pe_int (fun _ _ => rfl)) (pa_cons (pv 1) (pa_cons (pe_lst pa_nil) pa_nil)))))) (pg_tup rfl (pgs_cons (pg_name (i := 2) scLRows.nd rfl (.inl rfl)) (pgs_cons (pg_name (i := 3) scLRows.nd rfl (.inl rfl)) pgs_nil)))
        (pss_one (ps_asg (pe_callB call_len_seq (by rfl) T.len bo_len (pa_cons (pv 1) pa_nil)) (pg_sub (pe_ix ix_list (pv 1) (pv 2) (fun _ _ => rfl)) (pv 3) set_list)))) -- for _law_k, _law_place in _law_lay(dict(_law_program_here[1]), _law_program_here[2], _law_rows_here, []):
      (pss_one (ps_ret (pe_callTy call_tuple_of (by rfl) T.tuple bo_tuple (pa_cons (pe_op op_cat (pe_lc (own := [("_law_row", 4)]) (g := gName 4) rfl scLRows.nd (pi_list (pv 1)) (blkOk_by (own := [("_law_row", 4)]) (N := nLRows) (sc := defScope sLRows) (by decide +kernel)) (fun _ _ _ _ _ => (pg_name (i := 4) scLRows.nd rfl (.inl rfl))) (fun _ _ _ _ _ => pts_nil) (fun _ _ _ _ _ => (pe_callTy (tupK (K := K) rfl) (by rfl) T.tuple bo_tuple (pa_cons (pv 4) pa_nil)))) (pe_lst (pa_cons (pe_tup (pa_cons pe_str pa_nil)) pa_nil))) pa_nil)))))), ?_⟩
    refine ⟨Nat.zero_le _, fun rl nrl => ?_⟩
    have m1 := same_new (o := .lst []) nrl
    obtain ⟨ps, kvs, eps, pr⟩ : ∃ (ps : List Addr) (kvs : List (Key × V)), hs = ps.map V.ref ∧ Paired (fun p kv => SqT K (upd H rl (.lst [])) p [kV kv.1, kv.2]) ps kvs := by
      rcases hhs with e | ⟨e1, f1, nm, e2, e3⟩
      · exact ⟨[], [], e, .nil⟩
      · exact ⟨[e1], [(Sum.inr nm, .ref f1)], e2, .cons (SqT.of (m1 _ _ e3)) .nil⟩
    rw [eps] at hh
    have hrl1 := upd_same (H := H) (a := rl) (o := .lst [])
    refine ⟨fun σ' H' => ∃ (y2 y3 : Option V) (ls : List Addr), σ' = [some (.ref p), some (.ref rl), y2, y3, none] ∧ Kp NoM H H' ∧ LR H' ls R R.length ∧ ls.length = R.length ∧ H' rl = some (.lst (ls.map V.ref)), ?_, fun σ' H5 hM => ?_⟩
    · refine ⟨_, rfl, p, _, 1, .ref h, rfl, rfl, SqT.of (m1 _ _ hp), rfl, h, oh, ps, kvs, rfl, m1 _ _ hh, poh, pr, fun hd nhd => ?_⟩
      have m2 := same_new (o := .dK (mergeK [] kvs)) nhd
      refine ⟨_, rfl, p, _, 2, .ref b, rfl, rfl, SqT.of ((m1.trans m2) _ _ hp), rfl, _, rfl, Nat.zero_le _, fun el nel => ?_⟩
      have m3 := same_new (o := .lst []) nel
      have m13 := (m1.trans m2).trans m3
      refine ⟨hd, b, rl, el, xs, R, rfl, m13 _ _ hb, hS.tl (TL.of m13), oR.nf, lR, (m2.trans m3) _ _ hrl1, upd_same, ne_of_none (m2 _ _ hrl1) nel, fun e ls H4 k4 lr4 ll hls hrl4 he4 => ?_⟩
      have k04 : Kp NoM H H4 := (Kp.same m13).more k4 fun b e => .inr (by rw [e]; exact nrl)
      unfold EndAt at he4
      cases hn : R.length with
      | zero =>
        rw [ll, hn] at he4
        refine ⟨e, rfl, ⟨[], SqL.of he4⟩, ?_⟩
        refine for_list (xs := []) (fun i σ' H' => σ' = [some (.ref p), some (.ref rl), none, none, none] ∧ H' = H4) ⟨rfl, rfl⟩ (fun i σ' H' _ hP => by obtain ⟨_, rfl⟩ := hP; exact SqL.of he4) (fun i x σ' H' hx hP => by simp at hx) (fun σ' H' hP => ?_)
        obtain ⟨rfl, rfl⟩ := hP
        rw [hn] at lr4
        exact ⟨_, _, ls, rfl, k04, lr4, by rw [ll, hn], hrl4⟩
      | succ n =>
        rw [ll, hn] at he4
        obtain ⟨tp, l, ys, h1, h2, h3, h4⟩ := he4
        have lmem := List.mem_of_getElem? h3
        have zl := hls l lmem
        have lr4' : LR H4 ls R n := by
          have e : R.length - 1 = n := by omega
          rw [← e]
          exact lr4
        have hlr : l ≠ rl := fun z => by
          rw [z] at zl
          rw [(m2.trans m3) _ _ hrl1] at zl
          cases zl
        have hle : l ≠ e := fun z => by
          rw [z, h1] at h4
          have h5 := HO.lst.inj (Option.some.inj h4)
          obtain ⟨its', _, h6⟩ := lr4'.at' n l R[n] h3 (List.getElem?_eq_getElem (by omega))
          rw [z, h1] at h6
          have h7 := HO.lst.inj (Option.some.inj h6)
          rw [if_neg (by omega)] at h7
          have h8 := congrArg List.getLast? h7
          rw [List.getLast?_append] at h8
          simp at h8
        have lset := lr4'.set (m := n) h3 (by rw [ll, hn]) (by omega) h4
        have zl0 : H l = none := by
          cases e : H l with
          | none => rfl
          | some o => rw [m13 _ _ e] at zl; cases zl
        refine ⟨e, rfl, ⟨_, SqL.of h1⟩, ?_⟩
        refine for_list (xs := [.ref tp]) (fun j σ' H' => (j = 0 ∧ σ' = [some (.ref p), some (.ref rl), none, none, none] ∧ H' = H4) ∨ (j = 1 ∧ ∃ (y2 y3 : Option V), σ' = [some (.ref p), some (.ref rl), y2, y3, none] ∧ H' = upd H4 l (.lst (ys.set (ys.length - 1) (.int ((n : Int) + 1))))))
          (.inl ⟨rfl, rfl, rfl⟩) (fun j σ' H' _ hP => ?_) (fun j x σ' H' hx hP => ?_) (fun σ' H' hP => ?_)
        · rcases hP with ⟨_, _, rfl⟩ | ⟨_, _, _, _, rfl⟩
          · exact SqL.of h1
          · exact SqL.of (by rw [upd_ne hle.symm]; exact h1)
        · rcases hP with ⟨rfl, rfl, rfl⟩ | ⟨rfl, _⟩
          · cases hx
            refine ⟨tp, _, rfl, SqT.of h2, rfl, _, _, rfl, _, _, rfl, rfl, _, rfl, rl, _, rfl, .inl (SqL.of hrl4), _, rfl, _, rfl, rl, _, _, _, rfl, rfl, SqL.of hrl4, at_nat (j := n) rfl (by rw [List.getElem?_map, h3]; rfl), _, rfl, l, ys, _, ys.length - 1, rfl, rfl, h4, ?_, .inr ⟨rfl, _, _, rfl, ?_⟩⟩
            · have h5 := Evl.ixN_nat (n := ys.length) (j := ys.length - 1) (by have := lset.1; omega)
              have e5 : ((ys.length - 1 : Nat) : Int) = (ys.length : Int) - 1 := by have := lset.1; omega
              rw [← e5]
              exact h5
            · have e6 : ((ls.map V.ref).length : Int) = (n : Int) + 1 := by rw [List.length_map, ll, hn]; omega
              rw [e6]
          · cases hx
        · rcases hP with ⟨h, _⟩ | ⟨_, z9, z10, rfl, rfl⟩
          · cases h
          · rw [hn] at ll
            exact ⟨_, _, ls, rfl, k04.mut zl0, lset.2, ll, by rw [upd_ne hlr.symm]; exact hrl4⟩
    · obtain ⟨y2, y3, ls, rfl, k5, lr5, ll, hrl5⟩ := hM
      refine ⟨_, rfl, rl, rfl, ⟨_, SqL.of hrl5⟩, fun Dl nDl => ?_⟩
      have zD : H Dl = none := k5.free nDl
      refine lc_list (fun i H' => ∃ ts : List Addr, ts.length = i ∧ H' Dl = some (.lst (ts.map V.ref)) ∧ Same H5 H' ∧ ∀ (j : Nat) (r : Rw), j < i → R[j]? = some r → ∃ v, (ts.map V.ref)[j]? = some v ∧ RowAt H' j r v)
        ⟨[], rfl, upd_same, same_new nDl, fun j r h => absurd h (Nat.not_lt_zero j)⟩ (fun i H' _ hP => SqL.of (hP.choose_spec.2.2.1 _ _ hrl5)) (fun i x H' hx hP => ?_) (fun H' hP => ?_)
      · obtain ⟨ts, tl, hD, sm, hT⟩ := hP
        obtain ⟨l, hl, rfl⟩ : ∃ l, ls[i]? = some l ∧ x = V.ref l := by
          rw [List.getElem?_map] at hx
          cases hl : ls[i]? with
          | none => rw [hl] at hx; cases hx
          | some l => rw [hl] at hx; exact ⟨l, rfl, (Option.some.inj hx).symm⟩
        have li : i < R.length := by rw [← ll]; exact (List.getElem?_eq_some_iff.mp hl).1
        obtain ⟨its, hi, hli⟩ := lr5.at' i l R[i] hl (List.getElem?_eq_getElem li)
        rw [if_pos li] at hli
        refine ⟨rfl, _, rfl, l, _, rfl, .inl ⟨SqL.of (sm _ _ hli), fun t nt => ?_⟩⟩
        have m := same_new (o := .tup (its ++ [.int ((i : Int) + 1)])) nt
        refine ⟨ts.map V.ref, m _ _ hD, szt (by rw [List.length_map]; omega), ts ++ [t], by rw [List.length_append, List.length_singleton, tl], by rw [List.map_append]; exact upd_same, Same.mut (H := H5) (sm.trans m) nDl, fun j r hj hr => ?_⟩
        have kd : Kp (Is Dl) (upd H' t (.tup (its ++ [.int ((i : Int) + 1)]))) (upd (upd H' t (.tup (its ++ [.int ((i : Int) + 1)]))) Dl (.lst (ts.map V.ref ++ [.ref t]))) := Kp.upd rfl (m _ _ hD) lst_ne_tup
        by_cases c : j < i
        · obtain ⟨v, hv, hr2⟩ := hT j r c hr
          exact ⟨v, by rw [List.map_append, List.getElem?_append_left (by rw [List.length_map, tl]; exact c)]; exact hv, hr2.tl ((TL.of m).trans kd.t)⟩
        · have ej : j = i := by omega
          subst ej
          have er : R[j] = r := Option.some.inj ((List.getElem?_eq_getElem li).symm.trans hr)
          refine ⟨.ref t, by rw [List.map_append, List.getElem?_append_right (by rw [List.length_map, tl]; exact Nat.le_refl _), List.length_map, tl, Nat.sub_self]; rfl, t, its, rfl, ?_, ?_⟩
          · have nf : r ≠ .fin := oR.nf r (List.mem_of_getElem? hr)
            have en : nx r j = [.int ((j : Int) + 1)] := by
              cases r with
              | fin => exact absurd rfl nf
              | set _ _ => rfl
              | read _ => rfl
              | tell _ => rfl
              | sure _ => rfl
            rw [en]
            exact kd.t _ _ upd_same
          · rw [← er]
            exact hi.tl (((TL.of sm).trans (TL.of m)).trans kd.t)
      · obtain ⟨ts, tl, hD, sm, hT⟩ := hP
        rw [List.length_map, ll] at tl hT
        refine ⟨(by show 1 ≤ sizeLine; decide), fun e1 n1 => ⟨(by show 1 ≤ sizeLine; decide), fun e2 n2 => ?_⟩⟩
        have m1 := same_new (o := .tup [.str "end"]) n1
        have m2 := same_new (o := .lst [.ref e1]) n2
        refine ⟨Dl, e2, ts.map V.ref, [.ref e1], rfl, rfl, (m1.trans m2) _ _ hD, upd_same, szl (by rw [List.length_map, List.length_singleton]; omega), fun e3 n3 => ⟨e3, _, rfl, .inl ⟨SqL.of upd_same, fun rt nrt => ?_⟩⟩⟩
        have m3 := same_new (o := .lst (ts.map V.ref ++ [.ref e1])) n3
        have m4 := same_new (o := .tup (ts.map V.ref ++ [.ref e1])) nrt
        have m14 := ((m1.trans m2).trans m3).trans m4
        have he1 := ((m2.trans m3).trans m4) _ _ (upd_same (H := H') (a := e1) (o := .tup [.str "end"]))
        refine q rt _ (k5.trans (Kp.same (sm.trans m14))) ⟨_, upd_same, by rw [List.length_append, List.length_append, List.length_map, tl]; rfl, fun i r hr => ?_⟩
        by_cases c : i < R.length
        · rw [List.getElem?_append_left c] at hr
          obtain ⟨v, hv, hr2⟩ := hT i r c hr
          exact ⟨v, by rw [List.getElem?_append_left (by rw [List.length_map, tl]; exact c)]; exact hv, hr2.tl (TL.of m14)⟩
        · have ei : i = R.length := by
            have := (List.getElem?_eq_some_iff.mp hr).1
            rw [List.length_append, List.length_singleton] at this
            omega
          subst ei
          rw [List.getElem?_append_right (Nat.le_refl _), Nat.sub_self] at hr
          have er : Rw.fin = r := Option.some.inj hr
          subst er
          exact ⟨.ref e1, by rw [List.getElem?_append_right (by rw [List.length_map, tl]; exact Nat.le_refl _), List.length_map, tl, Nat.sub_self]; rfl, e1, [.str "end"], rfl, he1, rfl⟩
end
end K36
namespace K36
open PySem PySem.Spec PyProof.Rows L2
/-! ### what a row tells: law and program -/
def spParts (n : Nat) : Sp := fun vs H Q _ => ∃ (t : Tm) (v : V), vs = [v] ∧ TmAt H t v ∧ t.dp ≤ n ∧ Q (.int (t.sz : Nat)) H
def spWork : Sp := fun vs H Q _ => ∃ (a : Addr) (i : Nat) (r : Rw), vs = [.ref a] ∧ RowAt H i r (.ref a) ∧ r.ok6 ∧ ∀ H', Same H H' → Q (.int (r.wk : Nat)) H'
def spLeadsL : Sp := fun vs H Q _ => ∃ (a : Addr) (i : Nat) (r : Rw), vs = [.ref a] ∧ RowAt H i r (.ref a) ∧ ∀ p H', Same H H' → H p = none → H' p = some (.lst (nx r i)) → Q (.ref p) H'
def spLeadsT : Sp := fun vs H Q _ => ∃ (a : Addr) (i : Nat) (r : Rw), vs = [.ref a] ∧ RowAt H i r (.ref a) ∧ ∀ p H', Same H H' → H p = none → H' p = some (.tup (nx r i)) → Q (.ref p) H'
def wrV (o : Option Str) : V := match o with
  | some x => .str x
  | none => .non
def spWr : Sp := fun vs H Q _ => ∃ (a : Addr) (i : Nat) (r : Rw), vs = [.ref a] ∧ RowAt H i r (.ref a) ∧ ∀ H', Same H H' → Q (wrV r.wr) H'
def spSn : Sp := fun vs H Q _ => ∃ (a : Addr) (i : Nat) (r : Rw), vs = [.ref a] ∧ RowAt H i r (.ref a) ∧ ∀ p H', Same H H' → H' p = some (.tup (r.sn.map V.str)) → Q (.ref p) H'
section
variable {P : Program} {w : World} {K : PySem.W.Frag} {mg : Str → Option Value} {base : Heap}
-- _law_parts (printed by gen.py); slots: 0 _law_term_here
abbrev nLParts : List Str := ["_law_term_here"]
abbrev pLParts : List Str := ["_law_term_here"]
theorem scLParts : FnScope nLParts pLParts (defScope sLParts) := ⟨rfl, rfl, rfl, by decide +kernel, rfl, by decide +kernel, by decide +kernel⟩
-- parts_of (printed by gen.py); slots: 0 term
abbrev nPartsOf : List Str := ["term"]
abbrev pPartsOf : List Str := ["term"]
theorem scPartsOf : FnScope nPartsOf pPartsOf (defScope sPartsOf) := ⟨rfl, rfl, rfl, by decide +kernel, rfl, by decide +kernel, by decide +kernel⟩
theorem Tm.dp0 {t : Tm} (h : t.dp ≤ 0) : False := by
  have := t.dp_pos
  omega
theorem ok_parts {n : Nat} (T : Bi mg) (a : At K mg "_law_parts" sLParts pLParts) (cLParts : Cal P w K mg base CX0 "_law_parts" n pLParts (spParts n)) : Cal P w K mg base CX0 "_law_parts" (n + 1) pLParts (spParts (n + 1)) := by
  refine Cal.of a scLParts (fun vs H Q E h => ?_) (fun f cdv A outer s H vs Q E hr h => ?_)
  · obtain ⟨t, v, rfl, _⟩ := h
    rfl
  · obtain ⟨t, v, rfl, ht, hd, q⟩ := h
    refine ⟨_, (pss_cons (ps_if (pt_cmpR op_ne (pe_ix ix_tup (pv 0) pe_int (fun _ _ => rfl)) pe_str (nomark _))
        (pss_one (ps_ret pe_int))
        pss_nil) -- if _law_term_here[0] != 'op':
      (pss_one (ps_ret (pe_op op_add (pe_op op_add pe_int (pe_c cLParts hr pass0 (pa_cons (pe_ix ix_tup (pv 0) pe_int (fun _ _ => rfl)) pa_nil))) (pe_c cLParts hr pass0 (pa_cons (pe_ix ix_tup (pv 0) pe_int (fun _ _ => rfl)) pa_nil)))))), ?_⟩
    cases t with
    | leaf =>
      obtain ⟨a1, wd, x, rfl, h1, h2⟩ := ht
      refine ⟨_, rfl, a1, _, 0, .str wd, rfl, rfl, SqT.of h1, rfl, rfl, _, rfl, ?_⟩
      refine ite2 (fun _ => ?_) (fun c => absurd (by simp [h2]) c)
      exact q
    | op t1 t2 =>
      obtain ⟨a1, g, u, z, rfl, h1, h2, h3⟩ := ht
      refine ⟨_, rfl, a1, _, 0, .str "op", rfl, rfl, SqT.of h1, rfl, rfl, _, rfl, ?_⟩
      refine ite2 (fun c => absurd c (by decide +kernel)) (fun _ => ?_)
      have d1 : t1.dp ≤ n := by have : 1 + max t1.dp t2.dp ≤ n + 1 := hd; omega
      have d2 : t2.dp ≤ n := by have : 1 + max t1.dp t2.dp ≤ n + 1 := hd; omega
      refine ⟨_, rfl, a1, _, 2, u, rfl, rfl, SqT.of h1, rfl, t1, u, rfl, h2, d1, _, _, rfl, rfl, _, rfl, a1, _, 3, z, rfl, rfl, SqT.of h1, rfl, t2, z, rfl, h3, d2, _, _, rfl, rfl, ?_⟩
      have e : ((1 : Int) + (t1.sz : Nat) + (t2.sz : Nat)) = (((Tm.op t1 t2).sz : Nat) : Int) := by
        show _ = ((1 + t1.sz + t2.sz : Nat) : Int)
        omega
      show Q (.int ((1 : Int) + (t1.sz : Nat) + (t2.sz : Nat))) H
      rw [e]
      exact q
theorem cal_parts (T : Bi mg) (a : At K mg "_law_parts" sLParts pLParts) : ∀ n : Nat, Cal P w K mg base CX0 "_law_parts" n pLParts (spParts n)
  | 0 => Cal.none a fun vs H Q E h => by
    obtain ⟨t, v, _, _, hd, _⟩ := h
    exact Tm.dp0 hd
  | n + 1 => ok_parts T a (cal_parts T a n)
theorem ok_partsOf {n : Nat} (T : Bi mg) (a : At K mg "parts_of" sPartsOf pPartsOf) (cPartsOf : Cal P w K mg base CX0 "parts_of" n pPartsOf (spParts n)) : Cal P w K mg base CX0 "parts_of" (n + 1) pPartsOf (spParts (n + 1)) := by
  refine Cal.of a scPartsOf (fun vs H Q E h => ?_) (fun f cdv A outer s H vs Q E hr h => ?_)
  · obtain ⟨t, v, rfl, _⟩ := h
    rfl
  · obtain ⟨t, v, rfl, ht, hd, q⟩ := h
    refine ⟨_, (pss_cons (ps_if (pt_cmpR op_ne (pe_ix ix_tup (pv 0) pe_int (fun _ _ => rfl)) pe_str (nomark _))
        (pss_one (ps_ret pe_int))
        pss_nil) -- if term[0] != 'op':
      (pss_one (ps_ret (pe_op op_add (pe_op op_add pe_int (pe_c cPartsOf hr pass0 (pa_cons (pe_ix ix_tup (pv 0) pe_int (fun _ _ => rfl)) pa_nil))) (pe_c cPartsOf hr pass0 (pa_cons (pe_ix ix_tup (pv 0) pe_int (fun _ _ => rfl)) pa_nil)))))), ?_⟩
    cases t with
    | leaf =>
      obtain ⟨a1, wd, x, rfl, h1, h2⟩ := ht
      refine ⟨_, rfl, a1, _, 0, .str wd, rfl, rfl, SqT.of h1, rfl, rfl, _, rfl, ?_⟩
      refine ite2 (fun _ => ?_) (fun c => absurd (by simp [h2]) c)
      exact q
    | op t1 t2 =>
      obtain ⟨a1, g, u, z, rfl, h1, h2, h3⟩ := ht
      refine ⟨_, rfl, a1, _, 0, .str "op", rfl, rfl, SqT.of h1, rfl, rfl, _, rfl, ?_⟩
      refine ite2 (fun c => absurd c (by decide +kernel)) (fun _ => ?_)
      have d1 : t1.dp ≤ n := by have : 1 + max t1.dp t2.dp ≤ n + 1 := hd; omega
      have d2 : t2.dp ≤ n := by have : 1 + max t1.dp t2.dp ≤ n + 1 := hd; omega
      refine ⟨_, rfl, a1, _, 2, u, rfl, rfl, SqT.of h1, rfl, t1, u, rfl, h2, d1, _, _, rfl, rfl, _, rfl, a1, _, 3, z, rfl, rfl, SqT.of h1, rfl, t2, z, rfl, h3, d2, _, _, rfl, rfl, ?_⟩
      have e : ((1 : Int) + (t1.sz : Nat) + (t2.sz : Nat)) = (((Tm.op t1 t2).sz : Nat) : Int) := by
        show _ = ((1 + t1.sz + t2.sz : Nat) : Int)
        omega
      show Q (.int ((1 : Int) + (t1.sz : Nat) + (t2.sz : Nat))) H
      rw [e]
      exact q
theorem cal_partsOf (T : Bi mg) (a : At K mg "parts_of" sPartsOf pPartsOf) : ∀ n : Nat, Cal P w K mg base CX0 "parts_of" n pPartsOf (spParts n)
  | 0 => Cal.none a fun vs H Q E h => by
    obtain ⟨t, v, _, _, hd, _⟩ := h
    exact Tm.dp0 hd
  | n + 1 => ok_partsOf T a (cal_partsOf T a n)
def wkD : List (Key × V) := [(Sum.inr "read", .int 2), (Sum.inr "sure", .int 1), (Sum.inr "end", .int 0)]
-- _law_work (printed by gen.py); slots: 0 _law_row
abbrev nLWork : List Str := ["_law_row"]
abbrev pLWork : List Str := ["_law_row"]
theorem scLWork : FnScope nLWork pLWork (defScope sLWork) := ⟨rfl, rfl, rfl, by decide +kernel, rfl, by decide +kernel, by decide +kernel⟩
-- work_of (printed by gen.py); slots: 0 row
abbrev nWorkOf : List Str := ["row"]
abbrev pWorkOf : List Str := ["row"]
theorem scWorkOf : FnScope nWorkOf pWorkOf (defScope sWorkOf) := ⟨rfl, rfl, rfl, by decide +kernel, rfl, by decide +kernel, by decide +kernel⟩
-- _law_leads (printed by gen.py); slots: 0 _law_row
abbrev nLLeads : List Str := ["_law_row"]
abbrev pLLeads : List Str := ["_law_row"]
theorem scLLeads : FnScope nLLeads pLLeads (defScope sLLeads) := ⟨rfl, rfl, rfl, by decide +kernel, rfl, by decide +kernel, by decide +kernel⟩
-- leads_to (printed by gen.py); slots: 0 row
abbrev nLeadsTo : List Str := ["row"]
abbrev pLeadsTo : List Str := ["row"]
theorem scLeadsTo : FnScope nLeadsTo pLeadsTo (defScope sLeadsTo) := ⟨rfl, rfl, rfl, by decide +kernel, rfl, by decide +kernel, by decide +kernel⟩
-- _law_written (printed by gen.py); slots: 0 _law_row
abbrev nLWritten : List Str := ["_law_row"]
abbrev pLWritten : List Str := ["_law_row"]
theorem scLWritten : FnScope nLWritten pLWritten (defScope sLWritten) := ⟨rfl, rfl, rfl, by decide +kernel, rfl, by decide +kernel, by decide +kernel⟩
-- written_by (printed by gen.py); slots: 0 row
abbrev nWrittenBy : List Str := ["row"]
abbrev pWrittenBy : List Str := ["row"]
theorem scWrittenBy : FnScope nWrittenBy pWrittenBy (defScope sWrittenBy) := ⟨rfl, rfl, rfl, by decide +kernel, rfl, by decide +kernel, by decide +kernel⟩
-- sure_names (printed by gen.py); slots: 0 row
abbrev nSureNames : List Str := ["row"]
abbrev pSureNames : List Str := ["row"]
theorem scSureNames : FnScope nSureNames pSureNames (defScope sSureNames) := ⟨rfl, rfl, rfl, by decide +kernel, rfl, by decide +kernel, by decide +kernel⟩
theorem ok_work (T : Bi mg) (a0 : At K mg "_law_work" sLWork pLWork) (cLParts : Cal P w K mg base CX0 "_law_parts" 6 pLParts (spParts 6)) : Cal P w K mg base CX0 "_law_work" 7 pLWork spWork := by
  refine Cal.of a0 scLWork (fun vs H Q E h => ?_) (fun f cdv A outer s H vs Q E hr h => ?_)
  · obtain ⟨a, i, r, rfl, _⟩ := h
    rfl
  · obtain ⟨a, i, r, rfl, ⟨a', its, ea, ha, hi⟩, ok, q⟩ := h
    cases ea
    refine ⟨_, (pss_cons (ps_if (pt_cmpR op_in_seq (pe_ix ix_tup (pv 0) pe_int (fun _ _ => rfl)) (pe_tup (pa_cons pe_str (pa_cons pe_str (pa_cons pe_str pa_nil)))) (by rfl))
        (pss_one (ps_ret (pe_dget (hu_of hr) (pe_disp (pps_cons pe_str pe_int (pps_cons pe_str pe_int (pps_cons pe_str pe_int pps_nil))) (by rfl) (by rfl) (fun z => by cases z) (by decide)) (pe_ix ix_tup (pv 0) pe_int (fun _ _ => rfl)) (fun _ _ => rfl))))
        pss_nil) -- if _law_row[0] in ('read', 'sure', 'end'):
      (pss_one (ps_ret (pe_c cLParts hr pass0 (pa_cons (pe_ix ix_tup (pv 0) (pe_op op_add pe_int (pe_callTy call_int1 (by rfl) T.int bo_int (pa_cons (pe_cmpR op_eq (pe_ix ix_tup (pv 0) pe_int (fun _ _ => rfl)) pe_str (nomark _)) pa_nil))) (fun _ _ => rfl)) pa_nil))))), ?_⟩
    cases r with
    | set x t =>
      obtain ⟨u, rfl, hu⟩ := hi
      change H a = some (.tup [.str "set", .str x, u, .int ((i : Int) + 1)]) at ha
      refine ⟨_, rfl, a, _, 0, .str "set", rfl, rfl, SqT.of ha, rfl, (by show 3 ≤ sizeLine; decide), fun tp ntp => ⟨tp, _, rfl, .inr (SqT.of upd_same), rfl, rfl, _, rfl, ?_⟩⟩
      have m1 := same_new (o := .tup [.str "read", .str "sure", .str "end"]) ntp
      have ha1 := m1 _ _ ha
      refine ite2 (fun c => absurd c (by decide +kernel)) (fun _ => ?_)
      refine ⟨_, rfl, _, rfl, a, _, 0, .str "set", rfl, rfl, SqT.of ha1, rfl, rfl, .inr ⟨_, rfl, _, _, rfl, rfl, a, _, 2, u, rfl, rfl, SqT.of ha1, rfl, t, u, rfl, hu.tl (TL.of m1), ok, q _ m1⟩⟩
    | read x =>
      obtain ⟨u, rfl⟩ := hi
      change H a = some (.tup [.str "read", .str x, u, .int ((i : Int) + 1)]) at ha
      refine ⟨_, rfl, a, _, 0, .str "read", rfl, rfl, SqT.of ha, rfl, (by show 3 ≤ sizeLine; decide), fun tp ntp => ⟨tp, _, rfl, .inr (SqT.of upd_same), rfl, rfl, _, rfl, ?_⟩⟩
      have m1 := same_new (o := .tup [.str "read", .str "sure", .str "end"]) ntp
      have ha1 := m1 _ _ ha
      refine ite2 (fun _ => ?_) (fun c => absurd (by decide +kernel) c)
      intro D nD
      have m2 := same_new (o := .dK []) nD
      refine ⟨upd_same, wkD, rfl, (by show 3 ≤ 15; decide), _, rfl, a, _, 0, .str "read", rfl, rfl, SqT.of (by rw [upd_ne (ne_of_none ha1 nD), upd_ne (ne_of_none ha1 nD)]; exact ha1), rfl, D, .int 2, rfl, dget_s upd_same rfl, ?_⟩
      exact q _ (Same.mut (H := H) (m1.trans m2) (by cases e : H D with | none => rfl | some o => rw [m1 _ _ e] at nD; cases nD))
    | tell t =>
      obtain ⟨u, rfl, hu⟩ := hi
      change H a = some (.tup [.str "tell", u, .int ((i : Int) + 1)]) at ha
      refine ⟨_, rfl, a, _, 0, .str "tell", rfl, rfl, SqT.of ha, rfl, (by show 3 ≤ sizeLine; decide), fun tp ntp => ⟨tp, _, rfl, .inr (SqT.of upd_same), rfl, rfl, _, rfl, ?_⟩⟩
      have m1 := same_new (o := .tup [.str "read", .str "sure", .str "end"]) ntp
      have ha1 := m1 _ _ ha
      refine ite2 (fun c => absurd c (by decide +kernel)) (fun _ => ?_)
      refine ⟨_, rfl, _, rfl, a, _, 0, .str "tell", rfl, rfl, SqT.of ha1, rfl, rfl, .inr ⟨_, rfl, _, _, rfl, rfl, a, _, 1, u, rfl, rfl, SqT.of ha1, rfl, t, u, rfl, hu.tl (TL.of m1), ok, q _ m1⟩⟩
    | sure ns =>
      obtain ⟨b, n, rfl, hu⟩ := hi
      change H a = some (.tup [.str "sure", .ref b, .int n, .int ((i : Int) + 1)]) at ha
      refine ⟨_, rfl, a, _, 0, .str "sure", rfl, rfl, SqT.of ha, rfl, (by show 3 ≤ sizeLine; decide), fun tp ntp => ⟨tp, _, rfl, .inr (SqT.of upd_same), rfl, rfl, _, rfl, ?_⟩⟩
      have m1 := same_new (o := .tup [.str "read", .str "sure", .str "end"]) ntp
      have ha1 := m1 _ _ ha
      refine ite2 (fun _ => ?_) (fun c => absurd (by decide +kernel) c)
      intro D nD
      have m2 := same_new (o := .dK []) nD
      refine ⟨upd_same, wkD, rfl, (by show 3 ≤ 15; decide), _, rfl, a, _, 0, .str "sure", rfl, rfl, SqT.of (by rw [upd_ne (ne_of_none ha1 nD), upd_ne (ne_of_none ha1 nD)]; exact ha1), rfl, D, .int 1, rfl, dget_s upd_same rfl, ?_⟩
      exact q _ (Same.mut (H := H) (m1.trans m2) (by cases e : H D with | none => rfl | some o => rw [m1 _ _ e] at nD; cases nD))
    | fin =>
      obtain rfl := hi
      change H a = some (.tup [.str "end"]) at ha
      refine ⟨_, rfl, a, _, 0, .str "end", rfl, rfl, SqT.of ha, rfl, (by show 3 ≤ sizeLine; decide), fun tp ntp => ⟨tp, _, rfl, .inr (SqT.of upd_same), rfl, rfl, _, rfl, ?_⟩⟩
      have m1 := same_new (o := .tup [.str "read", .str "sure", .str "end"]) ntp
      have ha1 := m1 _ _ ha
      refine ite2 (fun _ => ?_) (fun c => absurd (by decide +kernel) c)
      intro D nD
      have m2 := same_new (o := .dK []) nD
      refine ⟨upd_same, wkD, rfl, (by show 3 ≤ 15; decide), _, rfl, a, _, 0, .str "end", rfl, rfl, SqT.of (by rw [upd_ne (ne_of_none ha1 nD), upd_ne (ne_of_none ha1 nD)]; exact ha1), rfl, D, .int 0, rfl, dget_s upd_same rfl, ?_⟩
      exact q _ (Same.mut (H := H) (m1.trans m2) (by cases e : H D with | none => rfl | some o => rw [m1 _ _ e] at nD; cases nD))
theorem ok_workOf (T : Bi mg) (a0 : At K mg "work_of" sWorkOf pWorkOf) (cPartsOf : Cal P w K mg base CX0 "parts_of" 6 pPartsOf (spParts 6)) : Cal P w K mg base CX0 "work_of" 7 pWorkOf spWork := by
  refine Cal.of a0 scWorkOf (fun vs H Q E h => ?_) (fun f cdv A outer s H vs Q E hr h => ?_)
  · obtain ⟨a, i, r, rfl, _⟩ := h
    rfl
  · obtain ⟨a, i, r, rfl, ⟨a', its, ea, ha, hi⟩, ok, q⟩ := h
    cases ea
    refine ⟨_, (pss_cons (ps_if (pt_cmpR op_eq (pe_ix ix_tup (pv 0) pe_int (fun _ _ => rfl)) pe_str (nomark _))
        (pss_one (ps_ret (pe_c cPartsOf hr pass0 (pa_cons (pe_ix ix_tup (pv 0) pe_int (fun _ _ => rfl)) pa_nil))))
        pss_nil) -- if row[0] == 'set':
      (pss_cons (ps_if (PW.pt (pw_or (pt_cmpR op_eq (pe_ix ix_tup (pv 0) pe_int (fun _ _ => rfl)) pe_str (nomark _)) (pw_or1 (pt_cmpR op_eq (pe_ix ix_tup (pv 0) pe_int (fun _ _ => rfl)) pe_str (nomark _)))))
        (pss_one (ps_ret (pe_c cPartsOf hr pass0 (pa_cons (pe_ix ix_tup (pv 0) pe_int (fun _ _ => rfl)) pa_nil))))
        pss_nil) -- if row[0] == 'tell' or row[0] == 'if':
      (pss_one (ps_ret (pe_dget (hu_of hr) (pe_disp (pps_cons pe_str pe_int (pps_cons pe_str pe_int (pps_cons pe_str pe_int pps_nil))) (by rfl) (by rfl) (fun z => by cases z) (by decide)) (pe_ix ix_tup (pv 0) pe_int (fun _ _ => rfl)) (fun _ _ => rfl)))))), ?_⟩
    cases r with
    | set x t =>
      obtain ⟨u, rfl, hu⟩ := hi
      change H a = some (.tup [.str "set", .str x, u, .int ((i : Int) + 1)]) at ha
      refine ⟨_, rfl, a, _, 0, .str "set", rfl, rfl, SqT.of ha, rfl, rfl, _, rfl, ?_⟩
      refine ite2 (fun _ => ?_) (fun c => absurd (by decide +kernel) c)
      exact ⟨_, rfl, a, _, 2, u, rfl, rfl, SqT.of ha, rfl, t, u, rfl, hu, ok, q _ (fun _ _ h => h)⟩
    | read x =>
      obtain ⟨u, rfl⟩ := hi
      change H a = some (.tup [.str "read", .str x, u, .int ((i : Int) + 1)]) at ha
      refine ⟨_, rfl, a, _, 0, .str "read", rfl, rfl, SqT.of ha, rfl, rfl, _, rfl, ?_⟩
      refine ite2 (fun c => absurd c (by decide +kernel)) (fun _ => ?_)
      refine ⟨_, rfl, a, _, 0, .str "read", rfl, rfl, SqT.of ha, rfl, rfl, _, rfl, ?_⟩
      refine ite2 (fun c => absurd c (by decide +kernel)) (fun _ => ?_)
      refine ⟨_, rfl, a, _, 0, .str "read", rfl, rfl, SqT.of ha, rfl, rfl, _, rfl, ?_⟩
      refine ite2 (fun c => absurd c (by decide +kernel)) (fun _ => ?_)
      intro D nD
      have m2 := same_new (o := .dK []) nD
      refine ⟨upd_same, wkD, rfl, (by show 3 ≤ 15; decide), _, rfl, a, _, 0, .str "read", rfl, rfl, SqT.of (by rw [upd_ne (ne_of_none ha nD), upd_ne (ne_of_none ha nD)]; exact ha), rfl, D, .int 2, rfl, dget_s upd_same rfl, ?_⟩
      exact q _ (Same.mut (H := H) (m2) nD)
    | tell t =>
      obtain ⟨u, rfl, hu⟩ := hi
      change H a = some (.tup [.str "tell", u, .int ((i : Int) + 1)]) at ha
      refine ⟨_, rfl, a, _, 0, .str "tell", rfl, rfl, SqT.of ha, rfl, rfl, _, rfl, ?_⟩
      refine ite2 (fun c => absurd c (by decide +kernel)) (fun _ => ?_)
      refine ⟨_, rfl, a, _, 0, .str "tell", rfl, rfl, SqT.of ha, rfl, rfl, _, rfl, ?_⟩
      refine ite2 (fun _ => ?_) (fun c => absurd (by decide +kernel) c)
      exact ⟨_, rfl, a, _, 1, u, rfl, rfl, SqT.of ha, rfl, t, u, rfl, hu, ok, q _ (fun _ _ h => h)⟩
    | sure ns =>
      obtain ⟨b, n, rfl, hu⟩ := hi
      change H a = some (.tup [.str "sure", .ref b, .int n, .int ((i : Int) + 1)]) at ha
      refine ⟨_, rfl, a, _, 0, .str "sure", rfl, rfl, SqT.of ha, rfl, rfl, _, rfl, ?_⟩
      refine ite2 (fun c => absurd c (by decide +kernel)) (fun _ => ?_)
      refine ⟨_, rfl, a, _, 0, .str "sure", rfl, rfl, SqT.of ha, rfl, rfl, _, rfl, ?_⟩
      refine ite2 (fun c => absurd c (by decide +kernel)) (fun _ => ?_)
      refine ⟨_, rfl, a, _, 0, .str "sure", rfl, rfl, SqT.of ha, rfl, rfl, _, rfl, ?_⟩
      refine ite2 (fun c => absurd c (by decide +kernel)) (fun _ => ?_)
      intro D nD
      have m2 := same_new (o := .dK []) nD
      refine ⟨upd_same, wkD, rfl, (by show 3 ≤ 15; decide), _, rfl, a, _, 0, .str "sure", rfl, rfl, SqT.of (by rw [upd_ne (ne_of_none ha nD), upd_ne (ne_of_none ha nD)]; exact ha), rfl, D, .int 1, rfl, dget_s upd_same rfl, ?_⟩
      exact q _ (Same.mut (H := H) (m2) nD)
    | fin =>
      obtain rfl := hi
      change H a = some (.tup [.str "end"]) at ha
      refine ⟨_, rfl, a, _, 0, .str "end", rfl, rfl, SqT.of ha, rfl, rfl, _, rfl, ?_⟩
      refine ite2 (fun c => absurd c (by decide +kernel)) (fun _ => ?_)
      refine ⟨_, rfl, a, _, 0, .str "end", rfl, rfl, SqT.of ha, rfl, rfl, _, rfl, ?_⟩
      refine ite2 (fun c => absurd c (by decide +kernel)) (fun _ => ?_)
      refine ⟨_, rfl, a, _, 0, .str "end", rfl, rfl, SqT.of ha, rfl, rfl, _, rfl, ?_⟩
      refine ite2 (fun c => absurd c (by decide +kernel)) (fun _ => ?_)
      intro D nD
      have m2 := same_new (o := .dK []) nD
      refine ⟨upd_same, wkD, rfl, (by show 3 ≤ 15; decide), _, rfl, a, _, 0, .str "end", rfl, rfl, SqT.of (by rw [upd_ne (ne_of_none ha nD), upd_ne (ne_of_none ha nD)]; exact ha), rfl, D, .int 0, rfl, dget_s upd_same rfl, ?_⟩
      exact q _ (Same.mut (H := H) (m2) nD)
theorem ok_leads (T : Bi mg) (a0 : At K mg "_law_leads" sLLeads pLLeads) : Cal P w K mg base CX0 "_law_leads" 1 pLLeads spLeadsL := by
  refine Cal.of a0 scLLeads (fun vs H Q E h => ?_) (fun f cdv A outer s H vs Q E hr h => ?_)
  · obtain ⟨a, i, r, rfl, _⟩ := h
    rfl
  · obtain ⟨a, i, r, rfl, ⟨a', its, ea, ha, hi⟩, q⟩ := h
    cases ea
    refine ⟨_, (pss_cons (ps_if (pt_cmpR op_eq (pe_ix ix_tup (pv 0) pe_int (fun _ _ => rfl)) pe_str (nomark _))
        (pss_one (ps_ret (pe_lst pa_nil)))
        pss_nil) -- if _law_row[0] == 'end':
      (pss_one (ps_ret (pe_callTy call_list_of (by rfl) T.list bo_list (pa_cons (pe_ifExp (pt_cmpR op_eq (pe_ix ix_tup (pv 0) pe_int (fun _ _ => rfl)) pe_str (nomark _)) (pe_slice sl_tupA (pv 0) (po_some pe_int) po_none) (pe_slice sl_tupA (pv 0) (po_some (pe_un un_neg pe_int)) po_none)) pa_nil))))), ?_⟩
    cases r with
    | set x t =>
      obtain ⟨u, rfl, hu⟩ := hi
      change H a = some (.tup [.str "set", .str x, u, .int ((i : Int) + 1)]) at ha
      refine ⟨_, rfl, a, _, 0, .str "set", rfl, rfl, SqT.of ha, rfl, rfl, _, rfl, ?_⟩
      refine ite2 (fun c => absurd c (by decide +kernel)) (fun _ => ?_)
      refine ⟨_, rfl, a, _, 0, .str "set", rfl, rfl, SqT.of ha, rfl, rfl, _, rfl, ?_⟩
      refine ite2 (fun c => absurd c (by decide +kernel)) (fun _ => ?_)
      refine ⟨_, rfl, _, rfl, _, rfl, a, _, rfl, SqT.of ha, fun hw => absurd hw.1 (by show ¬ (3 = 0); decide), fun _ c nc => ⟨c, _, rfl, .inr (SqT.of upd_same), fun p np => ?_⟩⟩
      have m1 := same_new (o := .tup (cutV [.str "set", .str x, u, .int ((i : Int) + 1)] (some (-1)) none)) nc
      exact q p _ (m1.trans (same_new np)) ((Kp.same (M := NoM) m1).free np) upd_same
    | read x =>
      obtain ⟨u, rfl⟩ := hi
      change H a = some (.tup [.str "read", .str x, u, .int ((i : Int) + 1)]) at ha
      refine ⟨_, rfl, a, _, 0, .str "read", rfl, rfl, SqT.of ha, rfl, rfl, _, rfl, ?_⟩
      refine ite2 (fun c => absurd c (by decide +kernel)) (fun _ => ?_)
      refine ⟨_, rfl, a, _, 0, .str "read", rfl, rfl, SqT.of ha, rfl, rfl, _, rfl, ?_⟩
      refine ite2 (fun c => absurd c (by decide +kernel)) (fun _ => ?_)
      refine ⟨_, rfl, _, rfl, _, rfl, a, _, rfl, SqT.of ha, fun hw => absurd hw.1 (by show ¬ (3 = 0); decide), fun _ c nc => ⟨c, _, rfl, .inr (SqT.of upd_same), fun p np => ?_⟩⟩
      have m1 := same_new (o := .tup (cutV [.str "read", .str x, u, .int ((i : Int) + 1)] (some (-1)) none)) nc
      exact q p _ (m1.trans (same_new np)) ((Kp.same (M := NoM) m1).free np) upd_same
    | tell t =>
      obtain ⟨u, rfl, hu⟩ := hi
      change H a = some (.tup [.str "tell", u, .int ((i : Int) + 1)]) at ha
      refine ⟨_, rfl, a, _, 0, .str "tell", rfl, rfl, SqT.of ha, rfl, rfl, _, rfl, ?_⟩
      refine ite2 (fun c => absurd c (by decide +kernel)) (fun _ => ?_)
      refine ⟨_, rfl, a, _, 0, .str "tell", rfl, rfl, SqT.of ha, rfl, rfl, _, rfl, ?_⟩
      refine ite2 (fun c => absurd c (by decide +kernel)) (fun _ => ?_)
      refine ⟨_, rfl, _, rfl, _, rfl, a, _, rfl, SqT.of ha, fun hw => absurd hw.1 (by show ¬ (2 = 0); decide), fun _ c nc => ⟨c, _, rfl, .inr (SqT.of upd_same), fun p np => ?_⟩⟩
      have m1 := same_new (o := .tup (cutV [.str "tell", u, .int ((i : Int) + 1)] (some (-1)) none)) nc
      exact q p _ (m1.trans (same_new np)) ((Kp.same (M := NoM) m1).free np) upd_same
    | sure ns =>
      obtain ⟨b, n, rfl, hu⟩ := hi
      change H a = some (.tup [.str "sure", .ref b, .int n, .int ((i : Int) + 1)]) at ha
      refine ⟨_, rfl, a, _, 0, .str "sure", rfl, rfl, SqT.of ha, rfl, rfl, _, rfl, ?_⟩
      refine ite2 (fun c => absurd c (by decide +kernel)) (fun _ => ?_)
      refine ⟨_, rfl, a, _, 0, .str "sure", rfl, rfl, SqT.of ha, rfl, rfl, _, rfl, ?_⟩
      refine ite2 (fun c => absurd c (by decide +kernel)) (fun _ => ?_)
      refine ⟨_, rfl, _, rfl, _, rfl, a, _, rfl, SqT.of ha, fun hw => absurd hw.1 (by show ¬ (3 = 0); decide), fun _ c nc => ⟨c, _, rfl, .inr (SqT.of upd_same), fun p np => ?_⟩⟩
      have m1 := same_new (o := .tup (cutV [.str "sure", .ref b, .int n, .int ((i : Int) + 1)] (some (-1)) none)) nc
      exact q p _ (m1.trans (same_new np)) ((Kp.same (M := NoM) m1).free np) upd_same
    | fin =>
      obtain rfl := hi
      change H a = some (.tup [.str "end"]) at ha
      refine ⟨_, rfl, a, _, 0, .str "end", rfl, rfl, SqT.of ha, rfl, rfl, _, rfl, ?_⟩
      refine ite2 (fun _ => ?_) (fun c => absurd (by decide +kernel) c)
      exact ⟨Nat.zero_le _, fun p np => q p _ (same_new np) np upd_same⟩
theorem ok_leadsTo (T : Bi mg) (a0 : At K mg "leads_to" sLeadsTo pLeadsTo) : Cal P w K mg base CX0 "leads_to" 1 pLeadsTo spLeadsT := by
  refine Cal.of a0 scLeadsTo (fun vs H Q E h => ?_) (fun f cdv A outer s H vs Q E hr h => ?_)
  · obtain ⟨a, i, r, rfl, _⟩ := h
    rfl
  · obtain ⟨a, i, r, rfl, ⟨a', its, ea, ha, hi⟩, q⟩ := h
    cases ea
    refine ⟨_, (pss_cons (ps_if (pt_cmpR op_eq (pe_ix ix_tup (pv 0) pe_int (fun _ _ => rfl)) pe_str (nomark _))
        (pss_one (ps_ret (pe_tup pa_nil)))
        pss_nil) -- if row[0] == 'end':
      (pss_cons (ps_if (pt_cmpR op_eq (pe_ix ix_tup (pv 0) pe_int (fun _ _ => rfl)) pe_str (nomark _))
        (pss_one (ps_ret (pe_tup (pa_cons (pe_ix ix_tup (pv 0) pe_int (fun _ _ => rfl)) (pa_cons (pe_ix ix_tup (pv 0) pe_int (fun _ _ => rfl)) pa_nil)))))
        pss_nil) -- if row[0] == 'if':
      (pss_one (ps_ret (pe_tup (pa_cons (pe_ix ix_tup (pv 0) (pe_un un_neg pe_int) (fun _ _ => rfl)) pa_nil)))))), ?_⟩
    cases r with
    | set x t =>
      obtain ⟨u, rfl, hu⟩ := hi
      change H a = some (.tup [.str "set", .str x, u, .int ((i : Int) + 1)]) at ha
      refine ⟨_, rfl, a, _, 0, .str "set", rfl, rfl, SqT.of ha, rfl, rfl, _, rfl, ?_⟩
      refine ite2 (fun c => absurd c (by decide +kernel)) (fun _ => ?_)
      refine ⟨_, rfl, a, _, 0, .str "set", rfl, rfl, SqT.of ha, rfl, rfl, _, rfl, ?_⟩
      refine ite2 (fun c => absurd c (by decide +kernel)) (fun _ => ?_)
      exact ⟨_, rfl, _, rfl, a, _, -1, _, rfl, rfl, SqT.of ha, rfl, (by show 1 ≤ sizeLine; decide), fun p np => q p _ (same_new np) np upd_same⟩
    | read x =>
      obtain ⟨u, rfl⟩ := hi
      change H a = some (.tup [.str "read", .str x, u, .int ((i : Int) + 1)]) at ha
      refine ⟨_, rfl, a, _, 0, .str "read", rfl, rfl, SqT.of ha, rfl, rfl, _, rfl, ?_⟩
      refine ite2 (fun c => absurd c (by decide +kernel)) (fun _ => ?_)
      refine ⟨_, rfl, a, _, 0, .str "read", rfl, rfl, SqT.of ha, rfl, rfl, _, rfl, ?_⟩
      refine ite2 (fun c => absurd c (by decide +kernel)) (fun _ => ?_)
      exact ⟨_, rfl, _, rfl, a, _, -1, _, rfl, rfl, SqT.of ha, rfl, (by show 1 ≤ sizeLine; decide), fun p np => q p _ (same_new np) np upd_same⟩
    | tell t =>
      obtain ⟨u, rfl, hu⟩ := hi
      change H a = some (.tup [.str "tell", u, .int ((i : Int) + 1)]) at ha
      refine ⟨_, rfl, a, _, 0, .str "tell", rfl, rfl, SqT.of ha, rfl, rfl, _, rfl, ?_⟩
      refine ite2 (fun c => absurd c (by decide +kernel)) (fun _ => ?_)
      refine ⟨_, rfl, a, _, 0, .str "tell", rfl, rfl, SqT.of ha, rfl, rfl, _, rfl, ?_⟩
      refine ite2 (fun c => absurd c (by decide +kernel)) (fun _ => ?_)
      exact ⟨_, rfl, _, rfl, a, _, -1, _, rfl, rfl, SqT.of ha, rfl, (by show 1 ≤ sizeLine; decide), fun p np => q p _ (same_new np) np upd_same⟩
    | sure ns =>
      obtain ⟨b, n, rfl, hu⟩ := hi
      change H a = some (.tup [.str "sure", .ref b, .int n, .int ((i : Int) + 1)]) at ha
      refine ⟨_, rfl, a, _, 0, .str "sure", rfl, rfl, SqT.of ha, rfl, rfl, _, rfl, ?_⟩
      refine ite2 (fun c => absurd c (by decide +kernel)) (fun _ => ?_)
      refine ⟨_, rfl, a, _, 0, .str "sure", rfl, rfl, SqT.of ha, rfl, rfl, _, rfl, ?_⟩
      refine ite2 (fun c => absurd c (by decide +kernel)) (fun _ => ?_)
      exact ⟨_, rfl, _, rfl, a, _, -1, _, rfl, rfl, SqT.of ha, rfl, (by show 1 ≤ sizeLine; decide), fun p np => q p _ (same_new np) np upd_same⟩
    | fin =>
      obtain rfl := hi
      change H a = some (.tup [.str "end"]) at ha
      refine ⟨_, rfl, a, _, 0, .str "end", rfl, rfl, SqT.of ha, rfl, rfl, _, rfl, ?_⟩
      refine ite2 (fun _ => ?_) (fun c => absurd (by decide +kernel) c)
      exact ⟨Nat.zero_le _, fun p np => q p _ (same_new np) np upd_same⟩
theorem ok_written (T : Bi mg) (a0 : At K mg "_law_written" sLWritten pLWritten) : Cal P w K mg base CX0 "_law_written" 1 pLWritten spWr := by
  refine Cal.of a0 scLWritten (fun vs H Q E h => ?_) (fun f cdv A outer s H vs Q E hr h => ?_)
  · obtain ⟨a, i, r, rfl, _⟩ := h
    rfl
  · obtain ⟨a, i, r, rfl, ⟨a', its, ea, ha, hi⟩, q⟩ := h
    cases ea
    refine ⟨_, (pss_one (ps_ret (pe_ifExp (pt_cmpR op_in_seq (pe_ix ix_tup (pv 0) pe_int (fun _ _ => rfl)) (pe_tup (pa_cons pe_str (pa_cons pe_str pa_nil))) (by rfl)) (pe_ix ix_tup (pv 0) pe_int (fun _ _ => rfl)) pe_non))), ?_⟩
    cases r with
    | set x t =>
      obtain ⟨u, rfl, hu⟩ := hi
      change H a = some (.tup [.str "set", .str x, u, .int ((i : Int) + 1)]) at ha
      refine ⟨_, rfl, a, _, 0, .str "set", rfl, rfl, SqT.of ha, rfl, (by show 2 ≤ sizeLine; decide), fun tp ntp => ⟨tp, _, rfl, .inr (SqT.of upd_same), rfl, rfl, _, rfl, ?_⟩⟩
      have m1 := same_new (o := .tup [.str "set", .str "read"]) ntp
      have ha1 := m1 _ _ ha
      refine ite2 (fun _ => ?_) (fun c => absurd (by decide +kernel) c)
      exact ⟨_, rfl, a, _, 1, _, rfl, rfl, SqT.of ha1, rfl, q _ m1⟩
    | read x =>
      obtain ⟨u, rfl⟩ := hi
      change H a = some (.tup [.str "read", .str x, u, .int ((i : Int) + 1)]) at ha
      refine ⟨_, rfl, a, _, 0, .str "read", rfl, rfl, SqT.of ha, rfl, (by show 2 ≤ sizeLine; decide), fun tp ntp => ⟨tp, _, rfl, .inr (SqT.of upd_same), rfl, rfl, _, rfl, ?_⟩⟩
      have m1 := same_new (o := .tup [.str "set", .str "read"]) ntp
      have ha1 := m1 _ _ ha
      refine ite2 (fun _ => ?_) (fun c => absurd (by decide +kernel) c)
      exact ⟨_, rfl, a, _, 1, _, rfl, rfl, SqT.of ha1, rfl, q _ m1⟩
    | tell t =>
      obtain ⟨u, rfl, hu⟩ := hi
      change H a = some (.tup [.str "tell", u, .int ((i : Int) + 1)]) at ha
      refine ⟨_, rfl, a, _, 0, .str "tell", rfl, rfl, SqT.of ha, rfl, (by show 2 ≤ sizeLine; decide), fun tp ntp => ⟨tp, _, rfl, .inr (SqT.of upd_same), rfl, rfl, _, rfl, ?_⟩⟩
      have m1 := same_new (o := .tup [.str "set", .str "read"]) ntp
      have ha1 := m1 _ _ ha
      refine ite2 (fun c => absurd c (by decide +kernel)) (fun _ => ?_)
      exact q _ m1
    | sure ns =>
      obtain ⟨b, n, rfl, hu⟩ := hi
      change H a = some (.tup [.str "sure", .ref b, .int n, .int ((i : Int) + 1)]) at ha
      refine ⟨_, rfl, a, _, 0, .str "sure", rfl, rfl, SqT.of ha, rfl, (by show 2 ≤ sizeLine; decide), fun tp ntp => ⟨tp, _, rfl, .inr (SqT.of upd_same), rfl, rfl, _, rfl, ?_⟩⟩
      have m1 := same_new (o := .tup [.str "set", .str "read"]) ntp
      have ha1 := m1 _ _ ha
      refine ite2 (fun c => absurd c (by decide +kernel)) (fun _ => ?_)
      exact q _ m1
    | fin =>
      obtain rfl := hi
      change H a = some (.tup [.str "end"]) at ha
      refine ⟨_, rfl, a, _, 0, .str "end", rfl, rfl, SqT.of ha, rfl, (by show 2 ≤ sizeLine; decide), fun tp ntp => ⟨tp, _, rfl, .inr (SqT.of upd_same), rfl, rfl, _, rfl, ?_⟩⟩
      have m1 := same_new (o := .tup [.str "set", .str "read"]) ntp
      have ha1 := m1 _ _ ha
      refine ite2 (fun c => absurd c (by decide +kernel)) (fun _ => ?_)
      exact q _ m1
theorem ok_writtenBy (T : Bi mg) (a0 : At K mg "written_by" sWrittenBy pWrittenBy) : Cal P w K mg base CX0 "written_by" 1 pWrittenBy spWr := by
  refine Cal.of a0 scWrittenBy (fun vs H Q E h => ?_) (fun f cdv A outer s H vs Q E hr h => ?_)
  · obtain ⟨a, i, r, rfl, _⟩ := h
    rfl
  · obtain ⟨a, i, r, rfl, ⟨a', its, ea, ha, hi⟩, q⟩ := h
    cases ea
    refine ⟨_, (pss_cons (ps_if (PW.pt (pw_or (pt_cmpR op_eq (pe_ix ix_tup (pv 0) pe_int (fun _ _ => rfl)) pe_str (nomark _)) (pw_or1 (pt_cmpR op_eq (pe_ix ix_tup (pv 0) pe_int (fun _ _ => rfl)) pe_str (nomark _)))))
        (pss_one (ps_ret (pe_ix ix_tup (pv 0) pe_int (fun _ _ => rfl))))
        pss_nil) -- if row[0] == 'set' or row[0] == 'read':
      (pss_one (ps_ret pe_non))), ?_⟩
    cases r with
    | set x t =>
      obtain ⟨u, rfl, hu⟩ := hi
      change H a = some (.tup [.str "set", .str x, u, .int ((i : Int) + 1)]) at ha
      refine ⟨_, rfl, a, _, 0, .str "set", rfl, rfl, SqT.of ha, rfl, rfl, _, rfl, ?_⟩
      refine ite2 (fun _ => ?_) (fun c => absurd (by decide +kernel) c)
      exact ⟨_, rfl, a, _, 1, _, rfl, rfl, SqT.of ha, rfl, q _ (fun _ _ h => h)⟩
    | read x =>
      obtain ⟨u, rfl⟩ := hi
      change H a = some (.tup [.str "read", .str x, u, .int ((i : Int) + 1)]) at ha
      refine ⟨_, rfl, a, _, 0, .str "read", rfl, rfl, SqT.of ha, rfl, rfl, _, rfl, ?_⟩
      refine ite2 (fun c => absurd c (by decide +kernel)) (fun _ => ?_)
      refine ⟨_, rfl, a, _, 0, .str "read", rfl, rfl, SqT.of ha, rfl, rfl, _, rfl, ?_⟩
      refine ite2 (fun _ => ?_) (fun c => absurd (by decide +kernel) c)
      exact ⟨_, rfl, a, _, 1, _, rfl, rfl, SqT.of ha, rfl, q _ (fun _ _ h => h)⟩
    | tell t =>
      obtain ⟨u, rfl, hu⟩ := hi
      change H a = some (.tup [.str "tell", u, .int ((i : Int) + 1)]) at ha
      refine ⟨_, rfl, a, _, 0, .str "tell", rfl, rfl, SqT.of ha, rfl, rfl, _, rfl, ?_⟩
      refine ite2 (fun c => absurd c (by decide +kernel)) (fun _ => ?_)
      refine ⟨_, rfl, a, _, 0, .str "tell", rfl, rfl, SqT.of ha, rfl, rfl, _, rfl, ?_⟩
      refine ite2 (fun c => absurd c (by decide +kernel)) (fun _ => ?_)
      exact q _ (fun _ _ h => h)
    | sure ns =>
      obtain ⟨b, n, rfl, hu⟩ := hi
      change H a = some (.tup [.str "sure", .ref b, .int n, .int ((i : Int) + 1)]) at ha
      refine ⟨_, rfl, a, _, 0, .str "sure", rfl, rfl, SqT.of ha, rfl, rfl, _, rfl, ?_⟩
      refine ite2 (fun c => absurd c (by decide +kernel)) (fun _ => ?_)
      refine ⟨_, rfl, a, _, 0, .str "sure", rfl, rfl, SqT.of ha, rfl, rfl, _, rfl, ?_⟩
      refine ite2 (fun c => absurd c (by decide +kernel)) (fun _ => ?_)
      exact q _ (fun _ _ h => h)
    | fin =>
      obtain rfl := hi
      change H a = some (.tup [.str "end"]) at ha
      refine ⟨_, rfl, a, _, 0, .str "end", rfl, rfl, SqT.of ha, rfl, rfl, _, rfl, ?_⟩
      refine ite2 (fun c => absurd c (by decide +kernel)) (fun _ => ?_)
      refine ⟨_, rfl, a, _, 0, .str "end", rfl, rfl, SqT.of ha, rfl, rfl, _, rfl, ?_⟩
      refine ite2 (fun c => absurd c (by decide +kernel)) (fun _ => ?_)
      exact q _ (fun _ _ h => h)
theorem ok_sureNames (T : Bi mg) (a0 : At K mg "sure_names" sSureNames pSureNames) : Cal P w K mg base CX0 "sure_names" 1 pSureNames spSn := by
  refine Cal.of a0 scSureNames (fun vs H Q E h => ?_) (fun f cdv A outer s H vs Q E hr h => ?_)
  · obtain ⟨a, i, r, rfl, _⟩ := h
    rfl
  · obtain ⟨a, i, r, rfl, ⟨a', its, ea, ha, hi⟩, q⟩ := h
    cases ea
    refine ⟨_, (pss_cons (ps_if (pt_cmpR op_eq (pe_ix ix_tup (pv 0) pe_int (fun _ _ => rfl)) pe_str (nomark _))
        (pss_one (ps_ret (pe_ix ix_tup (pv 0) pe_int (fun _ _ => rfl))))
        pss_nil) -- if row[0] == 'sure':
      (pss_one (ps_ret (pe_tup pa_nil)))), ?_⟩
    cases r with
    | set x t =>
      obtain ⟨u, rfl, hu⟩ := hi
      change H a = some (.tup [.str "set", .str x, u, .int ((i : Int) + 1)]) at ha
      refine ⟨_, rfl, a, _, 0, .str "set", rfl, rfl, SqT.of ha, rfl, rfl, _, rfl, ?_⟩
      refine ite2 (fun c => absurd c (by decide +kernel)) (fun _ => ?_)
      exact ⟨Nat.zero_le _, fun p np => q p _ (same_new np) upd_same⟩
    | read x =>
      obtain ⟨u, rfl⟩ := hi
      change H a = some (.tup [.str "read", .str x, u, .int ((i : Int) + 1)]) at ha
      refine ⟨_, rfl, a, _, 0, .str "read", rfl, rfl, SqT.of ha, rfl, rfl, _, rfl, ?_⟩
      refine ite2 (fun c => absurd c (by decide +kernel)) (fun _ => ?_)
      exact ⟨Nat.zero_le _, fun p np => q p _ (same_new np) upd_same⟩
    | tell t =>
      obtain ⟨u, rfl, hu⟩ := hi
      change H a = some (.tup [.str "tell", u, .int ((i : Int) + 1)]) at ha
      refine ⟨_, rfl, a, _, 0, .str "tell", rfl, rfl, SqT.of ha, rfl, rfl, _, rfl, ?_⟩
      refine ite2 (fun c => absurd c (by decide +kernel)) (fun _ => ?_)
      exact ⟨Nat.zero_le _, fun p np => q p _ (same_new np) upd_same⟩
    | sure ns =>
      obtain ⟨b, n, rfl, hu⟩ := hi
      change H a = some (.tup [.str "sure", .ref b, .int n, .int ((i : Int) + 1)]) at ha
      refine ⟨_, rfl, a, _, 0, .str "sure", rfl, rfl, SqT.of ha, rfl, rfl, _, rfl, ?_⟩
      refine ite2 (fun _ => ?_) (fun c => absurd (by decide +kernel) c)
      exact ⟨_, rfl, a, _, 1, _, rfl, rfl, SqT.of ha, rfl, q b _ (fun _ _ h => h) hu⟩
    | fin =>
      obtain rfl := hi
      change H a = some (.tup [.str "end"]) at ha
      refine ⟨_, rfl, a, _, 0, .str "end", rfl, rfl, SqT.of ha, rfl, rfl, _, rfl, ?_⟩
      refine ite2 (fun c => absurd c (by decide +kernel)) (fun _ => ?_)
      exact ⟨Nat.zero_le _, fun p np => q p _ (same_new np) upd_same⟩
end
end K36
namespace K36
open PySem PySem.Spec PyProof.Rows L2
/-! ### rows of a straight program: plain facts -/
structure RS (R : List Rw) : Prop where
  ex : ∃ rs, R = rs ++ [.fin] ∧ rs.length ≤ 58 ∧ ∀ r ∈ rs, r ≠ .fin
  ok : ∀ r ∈ R, r.ok6
  nm : ∃ C : List Str, C.length ≤ 5 ∧ ∀ r ∈ R, ∀ x ∈ r.sn, x ∈ C
theorem RS.len {R : List Rw} (h : RS R) : 1 ≤ R.length ∧ R.length ≤ 59 := by
  obtain ⟨rs, e, l, _⟩ := h.ex
  rw [e, List.length_append, List.length_singleton]
  omega
theorem RS.fin {R : List Rw} (h : RS R) {i : Nat} {r : Rw} (hr : R[i]? = some r) : (r = .fin ↔ i + 1 = R.length) := by
  obtain ⟨rs, e, l, nf⟩ := h.ex
  subst e
  have li := (List.getElem?_eq_some_iff.mp hr).1
  rw [List.length_append, List.length_singleton] at li ⊢
  by_cases c : i < rs.length
  · rw [List.getElem?_append_left c] at hr
    exact ⟨fun z => absurd z (nf r (List.mem_of_getElem? hr)), fun z => by omega⟩
  · have ei : i = rs.length := by omega
    subst ei
    rw [List.getElem?_append_right (Nat.le_refl _), Nat.sub_self] at hr
    exact ⟨fun _ => rfl, fun _ => (Option.some.inj hr).symm⟩
theorem nx_ne {r : Rw} {i : Nat} (h : r ≠ .fin) : nx r i = [V.int ((i : Int) + 1)] := by
  cases r with
  | fin => exact absurd rfl h
  | set _ _ => rfl
  | read _ => rfl
  | tell _ => rfl
  | sure _ => rfl
/-- from where name x is wanted -/
def wantB (x : Str) : List Rw → Bool
  | [] => false
  | r :: l => decide (x ∈ r.sn) || (decide (r.wr ≠ some x) && wantB x l)
def wantAt (R : List Rw) (x : Str) (i : Nat) : Bool := wantB x (R.drop i)
theorem wantAt_step {R : List Rw} {x : Str} {i : Nat} {r : Rw} (h : R[i]? = some r) : wantAt R x i = (decide (x ∈ r.sn) || (decide (r.wr ≠ some x) && wantAt R x (i + 1))) := by
  obtain ⟨l, e⟩ := List.getElem?_eq_some_iff.mp h
  unfold wantAt
  rw [List.drop_eq_getElem_cons l, e]
  rfl
theorem wantAt_end {R : List Rw} {x : Str} {i : Nat} (h : R.length ≤ i) : wantAt R x i = false := by
  unfold wantAt
  rw [List.drop_eq_nil_of_le h]
  rfl
theorem sorted_ext : ∀ {a b : List Int}, a.Pairwise (· < ·) → b.Pairwise (· < ·) → (∀ x, x ∈ a ↔ x ∈ b) → a = b
  | [], [], _, _, _ => rfl
  | [], y :: b, _, _, h => absurd ((h y).mpr List.mem_cons_self) List.not_mem_nil
  | x :: a, [], _, _, h => absurd ((h x).mp List.mem_cons_self) List.not_mem_nil
  | x :: a, y :: b, ha, hb, h => by
    have pa := List.pairwise_cons.mp ha
    have pb := List.pairwise_cons.mp hb
    have exy : x = y := by
      rcases List.mem_cons.mp ((h x).mp List.mem_cons_self) with e | e
      · exact e
      · rcases List.mem_cons.mp ((h y).mpr List.mem_cons_self) with e2 | e2
        · exact e2.symm
        · have h1 := pb.1 x e
          have h2 := pa.1 y e2
          omega
    subst exy
    rw [sorted_ext pa.2 pb.2 fun z => ⟨fun hz => ?_, fun hz => ?_⟩]
    · rcases List.mem_cons.mp ((h z).mp (List.mem_cons_of_mem _ hz)) with e | e
      · rw [e] at hz
        exact absurd (pa.1 x hz) (Int.lt_irrefl x)
      · exact e
    · rcases List.mem_cons.mp ((h z).mpr (List.mem_cons_of_mem _ hz)) with e | e
      · rw [e] at hz
        exact absurd (pb.1 x hz) (Int.lt_irrefl x)
      · exact e
theorem pw_lt {a : List Int} (h : a.Pairwise (· ≤ ·)) (n : a.Nodup) : a.Pairwise (· < ·) := by
  refine (h.and n).imp fun {x y} z => ?_
  have h1 : x ≤ y := z.1
  have h2 : x ≠ y := z.2
  omega
/-- the places at which f holds, ahead of n -/
def plc (n : Nat) (f : Nat → Bool) : List Int := ((List.range n).filter f).map fun i => ((i : Nat) : Int)
theorem plc_mem {n : Nat} {f : Nat → Bool} {z : Int} : z ∈ plc n f ↔ ∃ i : Nat, i < n ∧ f i = true ∧ z = (i : Int) := by
  unfold plc
  rw [List.mem_map]
  constructor
  · rintro ⟨i, h, rfl⟩
    obtain ⟨h1, h2⟩ := List.mem_filter.mp h
    exact ⟨i, List.mem_range.mp h1, h2, rfl⟩
  · rintro ⟨i, h1, h2, rfl⟩
    exact ⟨i, List.mem_filter.mpr ⟨List.mem_range.mpr h1, h2⟩, rfl⟩
theorem plc_lt {n : Nat} {f : Nat → Bool} : (plc n f).Pairwise (· < ·) := by
  unfold plc
  rw [List.pairwise_map]
  refine (List.Pairwise.filter _ List.pairwise_lt_range).imp fun {a b} h => ?_
  show ((a : Nat) : Int) < b
  omega
theorem plc_len {n : Nat} {f : Nat → Bool} : (plc n f).length ≤ n := by
  unfold plc
  rw [List.length_map]
  refine Nat.le_trans (List.length_filter_le _ _) ?_
  rw [List.length_range]
  exact Nat.le_refl _
/-- what is sorted out of such places -/
theorem plc_of {n : Nat} {f : Nat → Bool} {ys ks : List Int} (p : ys.Perm ks) (s : ys.Pairwise (· ≤ ·)) (nd : ks.Nodup) (h : ∀ z, z ∈ ks ↔ ∃ i : Nat, i < n ∧ f i = true ∧ z = (i : Int)) : ys = plc n f :=
  sorted_ext (pw_lt s (p.nodup_iff.mpr nd)) plc_lt fun z => by rw [p.mem_iff, h, plc_mem]
end K36
namespace K36
open PySem PySem.Spec PyProof.Rows L2
/-! ### wanted (the law's) -/
theorem RowAt.sure {H : Hp} {i : Nat} {r : Rw} {v : V} (h : RowAt H i r v) : ∃ (a : Addr) (wd : Str) (tl : List V), v = .ref a ∧ H a = some (.tup (.str wd :: tl)) ∧ ((wd ≠ "sure" ∧ r.sn = []) ∨ (wd = "sure" ∧ ∃ b tl', tl = .ref b :: tl' ∧ H b = some (.tup (r.sn.map V.str)))) := by
  obtain ⟨a, its, e, ha, hi⟩ := h
  cases r with
  | set x t =>
    obtain ⟨u, rfl, _⟩ := hi
    exact ⟨a, "set", _, e, ha, .inl ⟨by decide +kernel, rfl⟩⟩
  | read x =>
    obtain ⟨u, rfl⟩ := hi
    exact ⟨a, "read", _, e, ha, .inl ⟨by decide +kernel, rfl⟩⟩
  | tell t =>
    obtain ⟨u, rfl, _⟩ := hi
    exact ⟨a, "tell", _, e, ha, .inl ⟨by decide +kernel, rfl⟩⟩
  | sure ns =>
    obtain ⟨b, n, rfl, hb⟩ := hi
    exact ⟨a, "sure", _, e, ha, .inr ⟨rfl, b, _, rfl, hb⟩⟩
  | fin =>
    obtain rfl := hi
    exact ⟨a, "end", _, e, ha, .inl ⟨by decide +kernel, rfl⟩⟩
theorem nx_at {r : Rw} {i j : Nat} {v : V} (h : (nx r i)[j]? = some v) : j = 0 ∧ v = .int ((i : Int) + 1) ∧ nx r i = [.int ((i : Int) + 1)] := by
  by_cases c : r = .fin
  · rw [c] at h
    have h' : ([] : List V)[j]? = some v := h
    rw [List.getElem?_nil] at h'
    cases h'
  · rw [nx_ne c] at h ⊢
    cases j with
    | zero => exact ⟨rfl, (Option.some.inj h).symm, rfl⟩
    | succ j => cases h
theorem wr_ne {o : Option Str} {x : Str} : (!decide (wrV o = .str x)) = decide (o ≠ some x) := by
  cases o with
  | none => simp [wrV]
  | some y => simp [wrV]
theorem wr_scal {o : Option Str} {x : Str} : scal (wrV o) (.str x) = true := by
  cases o <;> rfl
theorem int_sub_len {n : Nat} {ks : List Int} (nd : ks.Nodup) (h : ∀ z ∈ ks, ∃ i : Nat, i < n ∧ z = (i : Int)) : ks.length ≤ n := by
  have h2 : ks.length ≤ ((List.range n).map fun i => ((i : Nat) : Int)).length := Nm.sub_len nd fun z hz => by
    obtain ⟨i, h1, h3⟩ := h z hz
    exact List.mem_map.mpr ⟨i, List.mem_range.mpr h1, h3.symm⟩
  rw [List.length_map, List.length_range] at h2
  exact h2
def spWanted : Sp := fun vs H Q _ => ∃ (a : Addr) (x : Str) (R : List Rw), vs = [.ref a, .str x] ∧ RowsAt H a R ∧ RS R ∧ ∀ p H', Same H H' → H p = none → H' p = some (.lst ((plc R.length (wantAt R x)).map V.int)) → Q (.ref p) H'
section
variable {P : Program} {w : World} {K : PySem.W.Frag} {mg : Str → Option Value} {base : Heap}
-- _law_wanted (printed by gen.py); slots: 0 _law_rows_here, 1 _law_name, 2 _law_found*, 3 _law_more, 4 _law_at, 5 _law_row, 6 _law_here, 7 _law_k
abbrev nLWanted : List Str := ["_law_rows_here", "_law_name", "_law_found", "_law_more", "_law_at", "_law_row", "_law_here", "_law_k"]
abbrev pLWanted : List Str := ["_law_rows_here", "_law_name"]
theorem scLWanted : FnScope nLWanted pLWanted (defScope sLWanted) := ⟨rfl, rfl, rfl, by decide +kernel, rfl, by decide +kernel, by decide +kernel⟩
theorem ok_wanted (T : Bi mg) (a0 : At K mg "_law_wanted" sLWanted pLWanted) (cLLeads : Cal P w K mg base CX0 "_law_leads" 1 pLLeads spLeadsL) (cLWritten : Cal P w K mg base CX0 "_law_written" 1 pLWritten spWr) :
    Cal P w K mg base CX0 "_law_wanted" 2 pLWanted spWanted := by
  refine Cal.of a0 scLWanted (fun vs H Q E h => ?_) (fun f cdv A outer s H vs Q E hr h => ?_)
  · obtain ⟨a, x, R, rfl, _⟩ := h
    rfl
  · obtain ⟨a, x, R, rfl, ⟨xs, hxs, lxs, hrow⟩, rs, q⟩ := h
    refine ⟨_, (pss_cons (ps_asg (pe_tup (pa_cons pe_dnewK (pa_cons pe_bl pa_nil))) (pg_tup rfl (pgs_cons (pg_name (i := 2) scLWanted.nd rfl (.inr rfl)) (pgs_cons (pg_name (i := 3) scLWanted.nd rfl (.inl rfl)) pgs_nil)))) -- _law_found, _law_more = ({}, True)
      (pss_cons (ps_while PassesOwn.never (pt_val (pv 3))
        (pss_cons (ps_set (i := 3) scLWanted.nd rfl (.inl rfl) pe_bl) -- _law_more = False
        (pss_one (ps_for PassesOwn.never rfl (RT.pi_revA (by rfl) T.reversed (pe_listEn rfl (pv 0) (by rfl) T.list (by rfl) T.enumerate)) (pg_tup rfl (pgs_cons (pg_name (i := 4) scLWanted.nd rfl (.inl rfl)) (pgs_cons (pg_name (i := 5) scLWanted.nd rfl (.inl rfl)) pgs_nil)))
          (Evl.pss_cut (ps_set (i := 6) scLWanted.nd rfl (.inl rfl) (pe_and (pe_cmpR op_eq (pe_ix ix_tup (pv 5) pe_int (fun _ _ => rfl)) pe_str (nomark _)) (pe_one (pe_cmpR op_in_seq (pv 1) (pe_ix ix_tup (pv 5) pe_int (fun _ _ => rfl)) (by rfl))))) -- _law_here = _law_row[0] == 'sure' and _law_name in _law_row[1]
          (Evl.pss_cut (ps_if (PW.pt (pw_and (pt_cmpR op_ne (pe_c cLWritten hr pass0 (pa_cons (pv 5) pa_nil)) (pv 1) (nomark _)) (pw_and1 (pt_cmpR (op_neD hr.units) (pe_lc (own := [("_law_k", 7)]) (g := gName 7) rfl scLWanted.nd (pi_list (pe_c cLLeads hr pass0 (pa_cons (pv 5) pa_nil))) (blkOk_by (own := [("_law_k", 7)]) (N := nLWanted) (sc := defScope sLWanted) (by decide +kernel)) (fun _ _ _ _ _ => (pg_name (i := 7) scLWanted.nd rfl (.inl rfl))) (fun _ _ _ _ _ => (pts_one (pt_cmp (pc_din (hu_of hr) (pv 7) (pv 2))))) (fun _ _ _ _ _ => (pv 7))) (pe_lst pa_nil) (nomark _)))))
            (pss_one (ps_set (i := 6) scLWanted.nd rfl (.inl rfl) pe_bl))
            pss_nil) -- if _law_written(_law_row) != _law_name and [_law_k for _law_k in _law_leads(_law_row) if _law_k in _law_found]
          (pss_one (ps_if (PW.pt (pw_and (pt_val (pv 6)) (pw_and1 (pt_cmp (pc_dnotin (hu_of hr) (pv 4) (pv 2))))))
            (pss_cons (ps_dput (hu_of hr) (pv 2) (pv 4) pe_bl rfl) -- _law_found[_law_at] = True
            (pss_one (ps_set (i := 3) scLWanted.nd rfl (.inl rfl) pe_bl)))
            pss_nil)))))))) -- while _law_more:
      (pss_one (ps_ret (pe_callB (call_sortedDI rfl) (by rfl) T.sorted bo_sorted (pa_cons (pv 2) pa_nil)))))), ?_⟩
    refine fun FR nFR => ⟨(by show 2 ≤ sizeLine; decide), fun p0 np0 => ⟨p0, _, rfl, SqT.of upd_same, rfl, _, _, rfl, _, _, rfl, rfl, ?_⟩⟩
    have m0 := same_new (o := .dK []) nFR
    have m1 := m0.trans (same_new (o := .tup [.ref FR, .bl true]) np0)
    have hF0 := same_new (o := .tup [.ref FR, .bl true]) np0 _ _ (upd_same (H := H) (a := FR) (o := .dK []))
    have ln := rs.len
    refine ⟨fun m σ' H' => ∃ (y4 y5 y6 : Option V) (mo : Bool) (kvs : List (Key × V)) (ks : List Int), σ' = [some (.ref a), some (.str x), some (.ref FR), some (.bl mo), y4, y5, y6, none] ∧ H' FR = some (.dK kvs) ∧ kvs.map (·.1) = ks.map Sum.inl ∧ ks.Nodup ∧ (∀ z ∈ ks, ∃ i : Nat, i < R.length ∧ wantAt R x i = true ∧ z = (i : Int)) ∧ Kp NoM H H' ∧
      ((m = 2 ∧ mo = true) ∨ (m = 1 ∧ ∀ i : Nat, i < R.length → wantAt R x i = true → (i : Int) ∈ ks) ∨ (m = 0 ∧ mo = false ∧ ∀ i : Nat, i < R.length → wantAt R x i = true → (i : Int) ∈ ks)),
      ⟨2, none, none, none, true, [], [], rfl, hF0, rfl, List.nodup_nil, fun z h => absurd h List.not_mem_nil, Kp.same m1, .inl ⟨rfl, rfl⟩⟩, fun m σ' H1 hW => ?_⟩
    obtain ⟨y4, y5, y6, mo, kvs, ks, rfl, hFR, hks, nd, hsub, k1, hm⟩ := hW
    refine ⟨_, rfl, _, rfl, ?_⟩
    refine ite2 (fun hmo => ?_) (fun hmo => ?_)
    · skip
      have hm' : m = 2 ∨ (m = 1 ∧ ∀ i : Nat, i < R.length → wantAt R x i = true → (i : Int) ∈ ks) := by
        rcases hm with h | h | h
        · exact .inl h.1
        · exact .inr h
        · rw [h.2.1] at hmo
          cases hmo
      refine ⟨fun σ' H' => ∃ (y4 y5 y6 : Option V) (mo : Bool) (kvs : List (Key × V)) (ks : List Int), σ' = [some (.ref a), some (.str x), some (.ref FR), some (.bl mo), y4, y5, y6, none] ∧ H' FR = some (.dK kvs) ∧ kvs.map (·.1) = ks.map Sum.inl ∧ ks.Nodup ∧ (∀ z ∈ ks, ∃ i : Nat, i < R.length ∧ wantAt R x i = true ∧ z = (i : Int)) ∧ Kp NoM H H' ∧
        (m = 1 → mo = false) ∧ ∀ i : Nat, i < R.length → wantAt R x i = true → (i : Int) ∈ ks, fun σ' H' h => ?_, ?_⟩
      · obtain ⟨z4, z5, z6, mo', kvs', ks', h1, h2, h3, h4, h5, h6, h7, h8⟩ := h
        rcases hm' with e | ⟨e, _⟩
        · exact ⟨1, by omega, z4, z5, z6, mo', kvs', ks', h1, h2, h3, h4, h5, h6, .inr (.inl ⟨rfl, h8⟩)⟩
        · exact ⟨0, by omega, z4, z5, z6, mo', kvs', ks', h1, h2, h3, h4, h5, h6, .inr (.inr ⟨rfl, h7 e, h8⟩)⟩
      · -- a pass
        refine ⟨_, rfl, a, xs, rfl, SqT.of (k1.t _ _ hxs), fun H2 p ts s2 np hp lts hts => ⟨p, _, rfl, .inl ⟨SqL.of hp, ?_⟩⟩⟩
        have hFR2 := s2 _ _ hFR
        have k2 := k1.trans (Kp.same s2)
        have npF : p ≠ FR := (ne_of_none hFR np).symm
        have ltR : (ts.map V.ref).length = R.length := by rw [List.length_map, lts, lxs]
        refine RT.for_Itv (fun i σ' H' => ∃ (y4 y5 y6 : Option V) (mo : Bool) (kvs : List (Key × V)) (ks : List Int), σ' = [some (.ref a), some (.str x), some (.ref FR), some (.bl mo), y4, y5, y6, none] ∧ H' FR = some (.dK kvs) ∧ kvs.map (·.1) = ks.map Sum.inl ∧ ks.Nodup ∧ (∀ z ∈ ks, ∃ i : Nat, i < R.length ∧ wantAt R x i = true ∧ z = (i : Int)) ∧ Kp NoM H H' ∧ TL H2 H' ∧ H' p = some (.lst (ts.map V.ref)) ∧
          (m = 1 → mo = false ∧ ∀ i : Nat, i < R.length → wantAt R x i = true → (i : Int) ∈ ks) ∧ ∀ j : Nat, R.length - i ≤ j → j < R.length → wantAt R x j = true → (j : Int) ∈ ks)
          ⟨y4, y5, y6, false, kvs, ks, rfl, hFR2, hks, nd, hsub, k2, TL.refl _, hp, fun e => ⟨rfl, hm'.elim (fun z => by omega) fun z => z.2⟩, fun j h1 h2 => by omega⟩ (fun i σ' H' hP => by obtain ⟨_, _, _, _, _, _, _, _, _, _, _, _, _, h, _⟩ := hP; exact SqL.of h) (fun i v σ' H3 hi hv hP => ?_) (fun σ' H3 hP => ?_)
        · obtain ⟨z4, z5, z6, mo, kvs, ks, rfl, hFR, hks, nd, hsub, k3, t23, hp3, hfull, htail⟩ := hP
          rw [ltR] at hi hv
          generalize hat : R.length - 1 - i = at' at hv
          have la : at' < R.length := by omega
          obtain ⟨t, ht, rfl⟩ : ∃ t, ts[at']? = some t ∧ v = V.ref t := by
            rw [List.getElem?_map] at hv
            cases ht : ts[at']? with
            | none => rw [ht] at hv; cases hv
            | some t => rw [ht] at hv; exact ⟨t, rfl, (Option.some.inj hv).symm⟩
          obtain ⟨y, hy, htt⟩ := hts at' t ht
          have hr0 : R[at']? = some R[at'] := List.getElem?_eq_getElem la
          obtain ⟨y', hy', hra0⟩ := hrow at' _ hr0
          have eyy : y = y' := Option.some.inj (hy.symm.trans hy')
          rw [← eyy] at hra0
          generalize R[at'] = r at hr0 hra0
          have hra := hra0.tl k3.t
          have step := wantAt_step (x := x) hr0
          obtain ⟨ra, wd, tl, rfl, hra1, hra2⟩ := hra.sure
          refine ⟨t, _, rfl, SqT.of (t23 _ _ htt), rfl, _, _, rfl, _, _, rfl, rfl, ?_⟩
          -- here
          refine ⟨fun σ' H' => σ' = [some (.ref a), some (.str x), some (.ref FR), some (.bl mo), some (.int at'), some (.ref ra), some (.bl (decide (x ∈ r.sn))), none] ∧ H' = H3, ?_, fun σ' H' hM => ?_⟩
          · refine ⟨_, rfl, ra, _, 0, .str wd, rfl, rfl, SqT.of hra1, at_nat (j := 0) rfl rfl, rfl, _, rfl, ?_⟩
            rcases hra2 with ⟨n, e⟩ | ⟨e, b, tl', e2, hb⟩
            · refine ite2 (fun c => absurd (V.str.inj (of_decide_eq_true c)) n) (fun _ => ?_)
              rw [e]
              exact ⟨rfl, rfl⟩
            · subst e2
              subst e
              refine ite2 (fun _ => ?_) (fun c => absurd (by decide +kernel) c)
              refine ⟨_, rfl, _, rfl, ra, _, 1, .ref b, rfl, rfl, SqT.of hra1, at_nat (j := 1) rfl rfl, b, _, rfl, .inr (SqT.of hb), rfl, flat_strs _, ?_⟩
              refine ⟨?_, rfl⟩
              show [some (V.ref a), some (V.str x), some (V.ref FR), some (V.bl mo), some (V.int at'), some (V.ref ra), some (V.bl (inV (.str x) (r.sn.map V.str))), none] = _
              rw [inV_strs]
          · obtain ⟨rfl, e3⟩ := hM
            rw [e3]
            clear e3
            have inks : ∀ z : Int, (valV kvs (Sum.inl z : Key)).isSome = decide (z ∈ ks) := fun z => by
              rw [Bool.eq_iff_iff, has_mem, hks, decide_eq_true_eq, List.mem_map]
              exact ⟨fun ⟨y, h1, h2⟩ => by rw [← Sum.inl.inj h2]; exact h1, fun h => ⟨z, h, rfl⟩⟩
            have tail : wantAt R x (at' + 1) = decide (((at' : Int) + 1) ∈ ks) := by
              rw [Bool.eq_iff_iff, decide_eq_true_eq]
              constructor
              · intro h
                by_cases c : at' + 1 < R.length
                · have := htail (at' + 1) (by omega) c h
                  rw [show ((at' + 1 : Nat) : Int) = (at' : Int) + 1 by omega] at this
                  exact this
                · rw [wantAt_end (by omega)] at h
                  cases h
              · intro h
                obtain ⟨j, h1, h2, h3⟩ := hsub _ h
                have ej : j = at' + 1 := by omega
                rw [← ej]
                exact h2
            -- the second if
            refine ⟨fun σ' H' => σ' = [some (.ref a), some (.str x), some (.ref FR), some (.bl mo), some (.int at'), some (.ref ra), some (.bl (wantAt R x at')), none] ∧ Same H3 H', ?_, fun σ' H' hM => ?_⟩
            · rw [step, tail]
              refine ⟨_, rfl, ra, at', r, rfl, hra, fun H4 s4 => ⟨_, rfl, wr_scal, _, rfl, ?_⟩⟩
              rw [wr_ne]
              refine ite2 (fun c => ?_) (fun c => ?_)
              · refine ⟨_, rfl, ra, at', r, rfl, hra.tl (TL.of s4), fun lp H5 s5 nlp hlp => ⟨lp, rfl, ⟨_, SqL.of hlp⟩, fun Dl nDl => ?_⟩⟩
                have m6 := same_new (o := .lst []) nDl
                refine lc_list (fun j H' => H' Dl = some (.lst (((nx r at').take j).filter fun v => decide (v = .int ((at' : Int) + 1)) && decide (((at' : Int) + 1) ∈ ks))) ∧ Same H5 H') ⟨by rw [upd_same]; rfl, m6⟩ (fun j H' _ hP => SqL.of (hP.2 _ _ hlp)) (fun j v H' hj hP => ?_) (fun H' hP => ?_)
                · obtain ⟨e0, ev, en⟩ := nx_at hj
                  obtain ⟨hD, sm⟩ := hP
                  subst e0
                  rw [en] at hD ⊢
                  have hFR6 := (s4.trans (s5.trans sm)) _ _ hFR
                  refine ⟨rfl, _, rfl, _, rfl, FR, _, rfl, by rw [ev]; exact DGet.k (k := Sum.inl ((at' : Int) + 1)) hFR6, _, rfl, ?_⟩
                  rw [inks, ev]
                  refine ite2 (fun c2 => ?_) (fun c2 => ?_)
                  · refine ⟨_, rfl, [], hD, by decide, ?_, Same.mut (H := H5) sm nDl⟩
                    rw [upd_same]
                    simp [c2]
                  · refine ⟨?_, sm⟩
                    rw [hD]
                    simp [c2]
                · obtain ⟨hD, sm⟩ := hP
                  rw [List.take_length] at hD
                  have val : H' Dl = some (.lst (if decide (((at' : Int) + 1) ∈ ks) = true then [V.int ((at' : Int) + 1)] else [])) := by
                    rw [hD]
                    by_cases cf : r = .fin
                    · have e1 := (rs.fin hr0).mp cf
                      have nk : ((at' : Int) + 1) ∉ ks := fun h => by
                        obtain ⟨j, h1, _, h3⟩ := hsub _ h
                        omega
                      rw [cf, if_neg (by simpa using nk)]
                      rfl
                    · rw [nx_ne cf]
                      by_cases ck : ((at' : Int) + 1) ∈ ks
                      · simp [ck]
                      · simp [ck]
                  refine ⟨Nat.zero_le _, fun e2 ne2 => ?_⟩
                  have m7 := same_new (o := .lst []) ne2
                  have sm7 : Same H3 (upd H' e2 (.lst [])) := s4.trans (s5.trans (sm.trans m7))
                  have c' : decide (r.wr ≠ some x) = true := c
                  rw [c', Bool.true_and]
                  generalize decide (((at' : Int) + 1) ∈ ks) = kk at val ⊢
                  cases kk with
                  | true =>
                    refine ⟨.list [.int ((at' : Int) + 1)], .list [], Dp.lst (SqL.of (m7 _ _ val)) (.cons (.int _) .nil), Dp.lst (SqL.of upd_same) .nil, rfl, rfl, _, rfl, ?_⟩
                    rw [Bool.or_true]
                    exact ⟨rfl, sm7⟩
                  | false =>
                    refine ⟨.list [], .list [], Dp.lst (SqL.of (m7 _ _ val)) .nil, Dp.lst (SqL.of upd_same) .nil, rfl, rfl, _, rfl, ?_⟩
                    rw [Bool.or_false]
                    exact ⟨rfl, sm7⟩
              · have e : decide (r.wr ≠ some x) = false := by
                  cases h : decide (r.wr ≠ some x) with
                  | true => exact absurd h c
                  | false => rfl
                rw [e, Bool.false_and, Bool.or_false]
                exact ⟨rfl, s4⟩
            · obtain ⟨rfl, s4⟩ := hM
              refine ⟨_, rfl, _, rfl, ?_⟩
              have hFR4 := s4 _ _ hFR
              have k4 := k3.trans (Kp.same s4)
              have t4 := t23.trans (TL.of s4)
              have hp4 := s4 _ _ hp3
              have back : ∀ {ks' : List Int}, (∀ z ∈ ks, z ∈ ks') → (wantAt R x at' = true → (at' : Int) ∈ ks') → ∀ j : Nat, R.length - (i + 1) ≤ j → j < R.length → wantAt R x j = true → (j : Int) ∈ ks' := fun {ks'} h1 h2 j j1 j2 j3 => by
                by_cases e : j = at'
                · rw [e] at j3 ⊢
                  exact h2 j3
                · exact h1 _ (htail j (by omega) j2 j3)
              refine ite2 (fun c => ?_) (fun c => ?_)
              · refine ⟨_, rfl, _, rfl, FR, _, rfl, DGet.k (k := Sum.inl (at' : Int)) hFR4, _, rfl, ?_⟩
                rw [inks]
                refine ite2 (fun c2 => ?_) (fun c2 => ?_)
                · have nin : (at' : Int) ∉ ks := by simpa using c2
                  refine ⟨_, rfl, _, rfl, FR, _, rfl, DPut.k (k := Sum.inl (at' : Int)) hFR4 (szt ?_), ?_⟩
                  · have e1 := congrArg List.length hks
                    rw [List.length_map, List.length_map] at e1
                    have := int_sub_len nd fun z hz => (let ⟨i, h1, _, h3⟩ := hsub z hz; ⟨i, h1, h3⟩)
                    omega
                  · have hn : ¬ (valV kvs (Sum.inl (at' : Int) : Key)).isSome = true := by rw [inks]; simpa using nin
                    refine ⟨_, _, _, true, putK kvs (Sum.inl (at' : Int)) (.bl true), ks ++ [(at' : Int)], rfl, upd_same, by rw [put_keys, if_neg hn, hks, List.map_append]; rfl, ?_, fun z hz => ?_, k4.mut nFR, t4.trans (Kp.upd (M := Is FR) rfl hFR4 dK_ne_tup).t, by rw [upd_ne npF]; exact hp4, fun e => ?_, ?_⟩
                    · exact List.nodup_append.mpr ⟨nd, by simp, fun y hy z hz e => nin (by rw [← List.mem_singleton.mp hz, ← e]; exact hy)⟩
                    · rcases List.mem_append.mp hz with h | h
                      · exact hsub z h
                      · exact ⟨at', la, c, List.mem_singleton.mp h⟩
                    · obtain ⟨_, h2⟩ := hfull e
                      exact absurd (h2 at' la c) nin
                    · exact back (fun z h => List.mem_append.mpr (.inl h)) fun _ => List.mem_append.mpr (.inr (List.mem_singleton.mpr rfl))
                · have yin : (at' : Int) ∈ ks := by simpa using c2
                  exact ⟨_, _, _, mo, kvs, ks, rfl, hFR4, hks, nd, hsub, k4, t4, hp4, hfull, back (fun z h => h) fun _ => yin⟩
              · exact ⟨_, _, _, mo, kvs, ks, rfl, hFR4, hks, nd, hsub, k4, t4, hp4, hfull, back (fun z h => h) fun h => absurd h c⟩
        · obtain ⟨z4, z5, z6, mo, kvs, ks, rfl, hFR, hks, nd, hsub, k3, t23, hp3, hfull, htail⟩ := hP
          rw [ltR] at htail
          exact ⟨z4, z5, z6, mo, kvs, ks, rfl, hFR, hks, nd, hsub, k3, fun e => (hfull e).1, fun i h1 h2 => htail i (by omega) h1 h2⟩
    · have full : ∀ i : Nat, i < R.length → wantAt R x i = true → (i : Int) ∈ ks := by
        rcases hm with h | h | h
        · exact absurd h.2 hmo
        · exact h.2
        · exact h.2.2
      have lks : ks.length ≤ R.length := int_sub_len nd fun z hz => (let ⟨i, h1, _, h3⟩ := hsub z hz; ⟨i, h1, h3⟩)
      refine ⟨_, rfl, FR, kvs, ks, rfl, .inl hFR, hks, by omega, fun ys p perm srt np => ?_⟩
      have e := plc_of perm srt nd fun z => ⟨fun h => hsub z h, fun ⟨i, h1, h2, h3⟩ => by rw [h3]; exact full i h1 h2⟩
      have m2 := same_new (o := .lst (ys.map V.int)) np
      exact q p _ (k1.toSame.trans m2) (k1.free np) (by rw [upd_same, e])
end
end K36
namespace K36
open PySem PySem.Spec PyProof.Rows L2
/-! ### wanted (the program's) -/
def wantL (R : List Rw) (x : Str) : List Bool := (List.range R.length).map fun i => wantAt R x i
def spWantedR : Sp := fun vs H Q _ => ∃ (a : Addr) (x : Str) (R : List Rw), vs = [.ref a, .str x] ∧ RowsAt H a R ∧ RS R ∧ ∀ p H', Same H H' → H p = none → H' p = some (.lst ((wantL R x).map V.bl)) → Q (.ref p) H'
theorem bools_ext {R : List Rw} {x : Str} {bs : List Bool} (h : bs.length = R.length) (h2 : ∀ i : Nat, i < R.length → ∀ b, bs[i]? = some b → b = wantAt R x i) : bs = wantL R x := by
  unfold wantL
  refine List.ext_getElem? fun i => ?_
  rw [List.getElem?_map]
  by_cases c : i < R.length
  · rw [List.getElem?_range c, List.getElem?_eq_getElem (by omega : i < bs.length)]
    exact congrArg some (h2 i c _ (List.getElem?_eq_getElem (by omega)))
  · rw [List.getElem?_eq_none (by omega), List.getElem?_eq_none (by rw [List.length_range]; omega)]
    rfl
section
variable {P : Program} {w : World} {K : PySem.W.Frag} {mg : Str → Option Value} {base : Heap}
-- wanted_rows (printed by gen.py); slots: 0 rows, 1 name*, 2 row, 3 found*, 4 more, 5 at, 6 k
abbrev nWantedRows : List Str := ["rows", "name", "row", "found", "more", "at", "k"]
abbrev pWantedRows : List Str := ["rows", "name"]
theorem scWantedRows : FnScope nWantedRows pWantedRows (defScope sWantedRows) := ⟨rfl, rfl, rfl, by decide +kernel, rfl, by decide +kernel, by decide +kernel⟩
theorem ok_wantedR (T : Bi mg) (a0 : At K mg "wanted_rows" sWantedRows pWantedRows) (cSureNames : Cal P w K mg base CX0 "sure_names" 1 pSureNames spSn) (cLeadsTo : Cal P w K mg base CX0 "leads_to" 1 pLeadsTo spLeadsT) (cWrittenBy : Cal P w K mg base CX0 "written_by" 1 pWrittenBy spWr) :
    Cal P w K mg base CX0 "wanted_rows" 2 pWantedRows spWantedR := by
  refine Cal.of a0 scWantedRows (fun vs H Q E h => ?_) (fun f cdv A outer s H vs Q E hr h => ?_)
  · obtain ⟨a, x, R, rfl, _⟩ := h
    rfl
  · obtain ⟨a, x, R, rfl, ⟨xs, hxs, lxs, hrow⟩, rs, q⟩ := h
    refine ⟨_, (pss_cons (ps_set (i := 3) scWantedRows.nd rfl (.inr rfl) (pe_lc (own := [("row", 2)]) (g := gName 2) rfl scWantedRows.nd (pi_tup (pv 0)) (blkOk_by (own := [("row", 2)]) (N := nWantedRows) (sc := defScope sWantedRows) (by decide +kernel)) (fun _ _ _ _ _ => (pg_name (i := 2) scWantedRows.nd rfl (.inl rfl))) (fun _ _ _ _ _ => pts_nil) (fun _ _ _ _ _ => (pe_cmpR (inK (K := K) rfl) (pv 1) (pe_c cSureNames hr pass0 (pa_cons (pv 2) pa_nil)) (by rfl))))) -- found = [name in sure_names(row) for row in rows]
      (pss_cons (ps_set (i := 4) scWantedRows.nd rfl (.inl rfl) pe_bl) -- more = True
      (pss_cons (ps_while PassesOwn.never (pt_val (pv 4))
        (pss_cons (ps_set (i := 4) scWantedRows.nd rfl (.inl rfl) pe_bl) -- more = False
        (pss_one (ps_for PassesOwn.never rfl (RT.pi_revA (by rfl) T.reversed (pe_listEn rfl (pv 0) (by rfl) T.list (by rfl) T.enumerate)) (pg_tup rfl (pgs_cons (pg_name (i := 5) scWantedRows.nd rfl (.inl rfl)) (pgs_cons (pg_name (i := 2) scWantedRows.nd rfl (.inl rfl)) pgs_nil)))
          (pss_one (ps_if (PW.pt (pw_and (pt_not (pt_val (pe_ix ix_list (pv 3) (pv 5) (fun _ _ => rfl)))) (pw_and (pt_cmpR op_ne (pe_c cWrittenBy hr pass0 (pa_cons (pv 2) pa_nil)) (pv 1) (nomark _)) (pw_and1 (pt_val (pe_callB (cr_any rfl) (by rfl) T.any bo_any (pa_cons (pe_lc (own := [("k", 6)]) (g := gName 6) rfl scWantedRows.nd (pi_tup (pe_c cLeadsTo hr pass0 (pa_cons (pv 2) pa_nil))) (blkOk_by (own := [("k", 6)]) (N := nWantedRows) (sc := defScope sWantedRows) (by decide +kernel)) (fun _ _ _ _ _ => (pg_name (i := 6) scWantedRows.nd rfl (.inl rfl))) (fun _ _ _ _ _ => pts_nil) (fun _ _ _ _ _ => (pe_ix (ixL (K := K) rfl) (pv 3) (pv 6) (fun _ _ => rfl)))) pa_nil)))))))
            (pss_cons (ps_asg pe_bl (pg_sub (pv 3) (pv 5) set_list)) -- found[at] = True
            (pss_one (ps_set (i := 4) scWantedRows.nd rfl (.inl rfl) pe_bl)))
            pss_nil)))))) -- while more:
      (pss_one (ps_ret (pv 3)))))), ?_⟩
    have ln := rs.len
    refine ⟨_, rfl, a, rfl, ⟨_, SqT.of hxs⟩, fun fo nfo => ?_⟩
    refine lc_tup (fun j H' => ∃ bs : List Bool, bs.length = j ∧ H' fo = some (.lst (bs.map V.bl)) ∧ Same H H' ∧ ∀ (i : Nat) (r : Rw) (b : Bool), R[i]? = some r → bs[i]? = some b → b = decide (x ∈ r.sn)) ⟨[], rfl, upd_same, same_new nfo, fun i r b _ h => by rw [List.getElem?_nil] at h; cases h⟩ (fun j H' _ hP => by obtain ⟨_, _, _, s, _⟩ := hP; exact SqT.of (s _ _ hxs)) (fun j v H' hj hP => ?_) (fun H1 hP => ?_)
    · obtain ⟨bs, lb, hb, sm, hbs⟩ := hP
      have lj : j < R.length := by rw [← lxs]; exact (List.getElem?_eq_some_iff.mp hj).1
      obtain ⟨v', hv', hr0⟩ := hrow j R[j] (List.getElem?_eq_getElem lj)
      have ev : v = v' := Option.some.inj (hj.symm.trans hv')
      subst ev
      obtain ⟨ra, wd, tl, rfl, _⟩ := hr0.sure
      refine ⟨rfl, _, rfl, _, rfl, ra, j, R[j], rfl, hr0.tl (TL.of sm), fun np H2 s2 hnp => ⟨np, _, rfl, .inr (SqT.of hnp), rfl, flat_strs _, ?_⟩⟩
      refine ⟨bs.map V.bl, s2 _ _ hb, szt (by rw [List.length_map]; omega), bs ++ [decide (x ∈ R[j].sn)], by rw [List.length_append, List.length_singleton, lb], ?_, Same.mut (H := H) (sm.trans s2) nfo, fun i r b h1 h2 => ?_⟩
      · rw [upd_same, List.map_append]
        show some (HO.lst (bs.map V.bl ++ [V.bl (inV (.str x) (R[j].sn.map V.str))])) = _
        rw [inV_strs]
        rfl
      · by_cases c : i < bs.length
        · rw [List.getElem?_append_left c] at h2
          exact hbs i r b h1 h2
        · have ei : i = bs.length := by
            have := (List.getElem?_eq_some_iff.mp h2).1
            rw [List.length_append, List.length_singleton] at this
            omega
          rw [List.getElem?_append_right (by omega), ei, Nat.sub_self] at h2
          have er : R[j] = r := by
            rw [ei, lb, List.getElem?_eq_getElem lj] at h1
            exact Option.some.inj h1
          rw [← er]
          exact (Option.some.inj h2).symm
    · obtain ⟨bs0, lb0, hb0, sm0, hbs0⟩ := hP
      rw [lxs] at lb0
      have sure0 : ∀ (i : Nat) (r : Rw), R[i]? = some r → x ∈ r.sn → bs0[i]? = some true := fun i r h1 h2 => by
        have li := (List.getElem?_eq_some_iff.mp h1).1
        have e := hbs0 i r _ h1 (List.getElem?_eq_getElem (by omega))
        rw [List.getElem?_eq_getElem (by omega), e]
        simp [h2]
      have sound0 : ∀ (i : Nat), bs0[i]? = some true → wantAt R x i = true := fun i h => by
        have li := (List.getElem?_eq_some_iff.mp h).1
        have hr0 : R[i]? = some R[i] := List.getElem?_eq_getElem (by omega)
        rw [wantAt_step hr0, ← hbs0 i _ _ hr0 h]
        rfl
      refine ⟨fun m σ' H' => ∃ (y2 y5 : Option V) (mo : Bool) (bs : List Bool), σ' = [some (.ref a), some (.str x), y2, some (.ref fo), some (.bl mo), y5, none] ∧ H' fo = some (.lst (bs.map V.bl)) ∧ bs.length = R.length ∧ (∀ i : Nat, bs[i]? = some true → wantAt R x i = true) ∧ (∀ (i : Nat) (r : Rw), R[i]? = some r → x ∈ r.sn → bs[i]? = some true) ∧ Kp NoM H H' ∧
        ((m = 2 ∧ mo = true) ∨ (m = 1 ∧ ∀ i : Nat, i < R.length → wantAt R x i = true → bs[i]? = some true) ∨ (m = 0 ∧ mo = false ∧ ∀ i : Nat, i < R.length → wantAt R x i = true → bs[i]? = some true)),
        ⟨2, none, none, true, bs0, rfl, hb0, lb0, sound0, sure0, Kp.same sm0, .inl ⟨rfl, rfl⟩⟩, fun m σ' H1 hW => ?_⟩
      obtain ⟨y2, y5, mo, bs, rfl, hb, lb, sound, sure, k1, hm⟩ := hW
      refine ⟨_, rfl, _, rfl, ?_⟩
      refine ite2 (fun hmo => ?_) (fun hmo => ?_)
      · have hm' : m = 2 ∨ (m = 1 ∧ ∀ i : Nat, i < R.length → wantAt R x i = true → bs[i]? = some true) := by
          rcases hm with h | h | h
          · exact .inl h.1
          · exact .inr h
          · rw [h.2.1] at hmo
            cases hmo
        refine ⟨fun σ' H' => ∃ (y2 y5 : Option V) (mo : Bool) (bs : List Bool), σ' = [some (.ref a), some (.str x), y2, some (.ref fo), some (.bl mo), y5, none] ∧ H' fo = some (.lst (bs.map V.bl)) ∧ bs.length = R.length ∧ (∀ i : Nat, bs[i]? = some true → wantAt R x i = true) ∧ (∀ (i : Nat) (r : Rw), R[i]? = some r → x ∈ r.sn → bs[i]? = some true) ∧ Kp NoM H H' ∧
          (m = 1 → mo = false) ∧ ∀ i : Nat, i < R.length → wantAt R x i = true → bs[i]? = some true, fun σ' H' h => ?_, ?_⟩
        · obtain ⟨z2, z5, mo', bs', h1, h2, h3, h4, h5, h6, h7, h8⟩ := h
          rcases hm' with e | ⟨e, _⟩
          · exact ⟨1, by omega, z2, z5, mo', bs', h1, h2, h3, h4, h5, h6, .inr (.inl ⟨rfl, h8⟩)⟩
          · exact ⟨0, by omega, z2, z5, mo', bs', h1, h2, h3, h4, h5, h6, .inr (.inr ⟨rfl, h7 e, h8⟩)⟩
        · refine ⟨_, rfl, a, xs, rfl, SqT.of (k1.t _ _ hxs), fun H2 p ts s2 np hp lts hts => ⟨p, _, rfl, .inl ⟨SqL.of hp, ?_⟩⟩⟩
          have hb2 := s2 _ _ hb
          have k2 := k1.trans (Kp.same s2)
          have npF : p ≠ fo := (ne_of_none hb np).symm
          have ltR : (ts.map V.ref).length = R.length := by rw [List.length_map, lts, lxs]
          refine RT.for_Itv (fun i σ' H' => ∃ (y2 y5 : Option V) (mo : Bool) (bs : List Bool), σ' = [some (.ref a), some (.str x), y2, some (.ref fo), some (.bl mo), y5, none] ∧ H' fo = some (.lst (bs.map V.bl)) ∧ bs.length = R.length ∧ (∀ i : Nat, bs[i]? = some true → wantAt R x i = true) ∧ (∀ (i : Nat) (r : Rw), R[i]? = some r → x ∈ r.sn → bs[i]? = some true) ∧ Kp NoM H H' ∧ TL H2 H' ∧ H' p = some (.lst (ts.map V.ref)) ∧
            (m = 1 → mo = false ∧ ∀ i : Nat, i < R.length → wantAt R x i = true → bs[i]? = some true) ∧ ∀ j : Nat, R.length - i ≤ j → j < R.length → wantAt R x j = true → bs[j]? = some true)
            ⟨y2, y5, false, bs, rfl, hb2, lb, sound, sure, k2, TL.refl _, hp, fun e => ⟨rfl, hm'.elim (fun z => by omega) fun z => z.2⟩, fun j h1 h2 => by omega⟩ (fun i σ' H' hP => by obtain ⟨_, _, _, _, _, _, _, _, _, _, _, h, _⟩ := hP; exact SqL.of h) (fun i v σ' H3 hi hv hP => ?_) (fun σ' H3 hP => ?_)
          · obtain ⟨z2, z5, mo, bs, rfl, hb, lb, sound, sure, k3, t23, hp3, hfull, htail⟩ := hP
            rw [ltR] at hi hv
            generalize hat : R.length - 1 - i = at' at hv
            have la : at' < R.length := by omega
            obtain ⟨t, ht, rfl⟩ : ∃ t, ts[at']? = some t ∧ v = V.ref t := by
              rw [List.getElem?_map] at hv
              cases ht : ts[at']? with
              | none => rw [ht] at hv; cases hv
              | some t => rw [ht] at hv; exact ⟨t, rfl, (Option.some.inj hv).symm⟩
            obtain ⟨y, hy, htt⟩ := hts at' t ht
            have hr0 : R[at']? = some R[at'] := List.getElem?_eq_getElem la
            obtain ⟨y', hy', hra0⟩ := hrow at' _ hr0
            have eyy : y = y' := Option.some.inj (hy.symm.trans hy')
            rw [← eyy] at hra0
            generalize R[at'] = r at hr0 hra0
            have hra := hra0.tl k3.t
            have step := wantAt_step (x := x) hr0
            obtain ⟨ra, wd, tl, rfl, _⟩ := hra.sure
            obtain ⟨b, hbb⟩ : ∃ b, bs[at']? = some b := ⟨_, List.getElem?_eq_getElem (by omega)⟩
            have back : ∀ {bs' : List Bool}, (∀ j : Nat, bs[j]? = some true → bs'[j]? = some true) → (wantAt R x at' = true → bs'[at']? = some true) → ∀ j : Nat, R.length - (i + 1) ≤ j → j < R.length → wantAt R x j = true → bs'[j]? = some true := fun {bs'} h1 h2 j j1 j2 j3 => by
              by_cases e : j = at'
              · rw [e] at j3 ⊢
                exact h2 j3
              · exact h1 _ (htail j (by omega) j2 j3)
            have keep : ∀ H', Same H3 H' → (wantAt R x at' = true → b = true) → ∃ (y2 y5 : Option V) (mo' : Bool) (bs : List Bool), ([some (.ref a), some (.str x), some (.ref ra), some (.ref fo), some (.bl mo), some (.int at'), none] : L2.St) = [some (.ref a), some (.str x), y2, some (.ref fo), some (.bl mo'), y5, none] ∧ H' fo = some (.lst (bs.map V.bl)) ∧ bs.length = R.length ∧ (∀ i : Nat, bs[i]? = some true → wantAt R x i = true) ∧ (∀ (i : Nat) (r : Rw), R[i]? = some r → x ∈ r.sn → bs[i]? = some true) ∧ Kp NoM H H' ∧ TL H2 H' ∧ H' p = some (.lst (ts.map V.ref)) ∧
              (m = 1 → mo' = false ∧ ∀ i : Nat, i < R.length → wantAt R x i = true → bs[i]? = some true) ∧ ∀ j : Nat, R.length - (i + 1) ≤ j → j < R.length → wantAt R x j = true → bs[j]? = some true := fun H' s4 hw =>
              ⟨_, _, mo, bs, rfl, s4 _ _ hb, lb, sound, sure, k3.trans (Kp.same s4), t23.trans (TL.of s4), s4 _ _ hp3, hfull, back (fun j h => h) fun h => by rw [hbb, hw h]⟩
            refine ⟨t, _, rfl, SqT.of (t23 _ _ htt), rfl, _, _, rfl, _, _, rfl, rfl, ?_⟩
            refine ⟨_, rfl, _, rfl, fo, bs.map V.bl, _, .bl b, rfl, rfl, SqL.of hb, at_nat (j := at') rfl (by rw [List.getElem?_map, hbb]; rfl), b, rfl, ?_⟩
            refine ite2 (fun c1 => ?_) (fun c1 => ?_)
            · have bf : b = false := by simpa using c1
              have nsn : x ∉ r.sn := fun h => by
                have := sure at' r hr0 h
                rw [hbb, bf] at this
                cases this
              refine ⟨_, rfl, ra, at', r, rfl, hra, fun H4 s4 => ⟨_, rfl, wr_scal, _, rfl, ?_⟩⟩
              rw [wr_ne]
              refine ite2 (fun c2 => ?_) (fun c2 => ?_)
              · refine ⟨_, rfl, ra, at', r, rfl, hra.tl (TL.of s4), fun lp H5 s5 nlp hlp => ⟨lp, rfl, ⟨_, SqT.of hlp⟩, fun Dl nDl => ?_⟩⟩
                have m6 := same_new (o := .lst []) nDl
                refine lc_tup (fun j H' => H' Dl = some (.lst (((nx r at').take j).map fun _ => V.bl (wantAt R x (at' + 1)))) ∧ Same H5 H') ⟨by rw [upd_same]; rfl, m6⟩ (fun j H' _ hP => SqT.of (hP.2 _ _ hlp)) (fun j v H' hj hP => ?_) (fun H' hP => ?_)
                · obtain ⟨e0, ev, en⟩ := nx_at hj
                  obtain ⟨hD, sm⟩ := hP
                  subst e0
                  subst ev
                  rw [en] at hD ⊢
                  have nlast : at' + 1 < R.length := by
                    have h1 : at' + 1 ≠ R.length := fun h => by
                      rw [(rs.fin hr0).mpr h] at en
                      cases en
                    omega
                  obtain ⟨b1, hb1⟩ : ∃ b1, bs[at' + 1]? = some b1 := ⟨_, List.getElem?_eq_getElem (by omega)⟩
                  have e1 : b1 = wantAt R x (at' + 1) := by
                    cases hw : wantAt R x (at' + 1) with
                    | true =>
                      have := htail (at' + 1) (by omega) nlast hw
                      rw [hb1] at this
                      exact Option.some.inj this
                    | false =>
                      cases b1 with
                      | false => rfl
                      | true => rw [sound _ hb1] at hw; cases hw
                  refine ⟨rfl, _, rfl, _, rfl, fo, bs.map V.bl, _, .bl b1, rfl, rfl, SqL.of ((s4.trans (s5.trans sm)) _ _ hb), at_nat (j := at' + 1) (by omega) (by rw [List.getElem?_map, hb1]; rfl), [], hD, by decide, ?_, Same.mut (H := H5) sm nDl⟩
                  rw [upd_same, e1]
                  rfl
                · obtain ⟨hD, sm⟩ := hP
                  rw [List.take_length] at hD
                  have s34 : Same H3 H' := s4.trans (s5.trans sm)
                  have c2' : decide (r.wr ≠ some x) = true := c2
                  have hsn : decide (x ∈ r.sn) = false := by simpa using nsn
                  have want : wantAt R x at' = ((nx r at').map fun _ => wantAt R x (at' + 1)).any id := by
                    rw [step, c2', hsn, Bool.false_or, Bool.true_and]
                    by_cases cf : r = .fin
                    · have e1 := (rs.fin hr0).mp cf
                      rw [wantAt_end (by omega), cf]
                      rfl
                    · rw [nx_ne cf]
                      simp
                  refine ⟨Dl, (nx r at').map fun _ => wantAt R x (at' + 1), rfl, SqL.of (by rw [hD, List.map_map]; rfl), _, rfl, ?_⟩
                  rw [← want]
                  refine ite2 (fun c3 => ?_) (fun c3 => ?_)
                  · have hb4 := s34 _ _ hb
                    refine ⟨_, rfl, _, rfl, fo, bs.map V.bl, _, at', rfl, rfl, hb4, Evl.ixN_nat (by rw [List.length_map]; omega), ?_⟩
                    rw [← List.map_set]
                    have nz : at' < bs.length := by omega
                    refine ⟨_, _, true, bs.set at' true, rfl, upd_same, by rw [List.length_set]; exact lb, fun j h => ?_, fun j r' h1 h2 => ?_, (k3.trans (Kp.same s34)).mut nfo, (t23.trans (TL.of s34)).trans (Kp.upd (M := Is fo) rfl hb4 lst_ne_tup).t, by rw [upd_ne npF]; exact s34 _ _ hp3, fun e => ?_, back (fun j h => ?_) fun _ => ?_⟩
                    · by_cases e : j = at'
                      · rw [e]
                        exact c3
                      · rw [List.getElem?_set_ne (Ne.symm e)] at h
                        exact sound j h
                    · by_cases e : j = at'
                      · rw [e]
                        exact List.getElem?_set_self nz
                      · rw [List.getElem?_set_ne (Ne.symm e)]
                        exact sure j r' h1 h2
                    · obtain ⟨_, h2⟩ := hfull e
                      have := h2 at' la c3
                      rw [hbb, bf] at this
                      cases this
                    · by_cases e : j = at'
                      · rw [e]
                        exact List.getElem?_set_self nz
                      · rw [List.getElem?_set_ne (Ne.symm e)]
                        exact h
                    · exact List.getElem?_set_self nz
                  · exact keep H' s34 fun h => absurd h c3
              · refine keep H4 s4 fun h => ?_
                have e : decide (r.wr ≠ some x) = false := by
                  cases h : decide (r.wr ≠ some x) with
                  | true => exact absurd h c2
                  | false => rfl
                rw [step, e, Bool.false_and, Bool.or_false, decide_eq_true_eq] at h
                exact absurd h nsn
            · have bt : b = true := by simpa using c1
              exact keep H3 (fun _ _ h => h) fun _ => bt
          · obtain ⟨z2, z5, mo, bs, rfl, hb, lb, sound, sure, k3, t23, hp3, hfull, htail⟩ := hP
            rw [ltR] at htail
            exact ⟨z2, z5, mo, bs, rfl, hb, lb, sound, sure, k3, fun e => (hfull e).1, fun i h1 h2 => htail i (by omega) h1 h2⟩
      · have full : ∀ i : Nat, i < R.length → wantAt R x i = true → bs[i]? = some true := by
          rcases hm with h | h | h
          · exact absurd h.2 hmo
          · exact h.2
          · exact h.2.2
        refine ⟨_, rfl, q fo _ k1.toSame nfo ?_⟩
        rw [hb, bools_ext lb fun i hi b hb' => ?_]
        cases hw : wantAt R x i with
        | true =>
          have := full i hi hw
          rw [hb'] at this
          exact Option.some.inj this
        | false =>
          cases b with
          | false => rfl
          | true => rw [sound i hb'] at hw; cases hw
end
end K36
namespace K36
open PySem PySem.Spec PyProof.Rows L2
/-! ### names, barred rows, free rows (the law's) -/
def Named (R : List Rw) (x : Str) : Prop := ∃ r ∈ R, x ∈ r.sn
def barB (R : List Rw) (i : Nat) : Bool := (R.flatMap Rw.sn).any fun x => wantAt R x i
theorem barB_iff {R : List Rw} {i : Nat} : barB R i = true ↔ ∃ x, Named R x ∧ wantAt R x i = true := by
  unfold barB Named
  rw [List.any_eq_true]
  constructor
  · rintro ⟨x, h1, h2⟩
    obtain ⟨r, h3, h4⟩ := List.mem_flatMap.mp h1
    exact ⟨x, ⟨r, h3, h4⟩, h2⟩
  · rintro ⟨x, ⟨r, h3, h4⟩, h2⟩
    exact ⟨x, List.mem_flatMap.mpr ⟨r, h3, h4⟩, h2⟩
def freeB (R : List Rw) (i : Nat) : Bool := decide (1 ≤ i) && (decide (i + 1 < R.length) && !barB R i)
/-- the places at which rows may be cut -/
def fr (R : List Rw) : List Int := plc R.length (freeB R)
theorem plc_succ {n : Nat} {f : Nat → Bool} : plc (n + 1) f = plc n f ++ if f n = true then [((n : Nat) : Int)] else [] := by
  unfold plc
  rw [List.range_succ, List.filter_append, List.map_append]
  congr 1
  cases h : f n <;> simp [h]
theorem inV_ints {z : Int} : ∀ {l : List Int}, inV (.int z) (l.map V.int) = decide (z ∈ l)
  | [] => rfl
  | y :: l => by
    have ih := inV_ints (z := z) (l := l)
    unfold inV at ih ⊢
    rw [List.map_cons, List.any_cons, ih]
    have e : eqV (V.int y) (V.int z) = decide (y = z) := by
      rw [Bool.eq_iff_iff]
      simp [eqV]
    rw [e, Bool.eq_iff_iff]
    simp only [Bool.or_eq_true, decide_eq_true_eq, List.mem_cons]
    exact ⟨fun h => h.imp Eq.symm id, fun h => h.imp Eq.symm id⟩
theorem flat_ints : ∀ l : List Int, (l.map V.int).all flatV = true
  | [] => rfl
  | _ :: l => by
    rw [List.map_cons, List.all_cons, flat_ints l]
    rfl
def spNamesL : Sp := fun vs H Q _ => ∃ (a : Addr) (R : List Rw), vs = [.ref a] ∧ RowsAt H a R ∧ RS R ∧ ∀ p (ys : List Str) H', Same H H' → H p = none → H' p = some (.lst (ys.map V.str)) → (∀ x, x ∈ ys ↔ Named R x) → Q (.ref p) H'
def spBarL : Sp := fun vs H Q _ => ∃ (a : Addr) (R : List Rw), vs = [.ref a] ∧ RowsAt H a R ∧ RS R ∧ ∀ p H', Same H H' → H p = none → H' p = some (.lst ((plc R.length (barB R)).map V.int)) → Q (.ref p) H'
def spFreeL : Sp := fun vs H Q _ => ∃ (a : Addr) (R : List Rw), vs = [.ref a] ∧ RowsAt H a R ∧ RS R ∧ ∀ p H', Same H H' → H p = none → H' p = some (.lst ((fr R).map V.int)) → Q (.ref p) H'
theorem fr_range {R : List Rw} (h : 1 ≤ R.length) : plc (R.length - 2 + 1) (freeB R) = fr R := by
  unfold fr
  by_cases c : R.length = 1
  · rw [c]
  · have e : R.length = (R.length - 2 + 1) + 1 := by omega
    have f : freeB R (R.length - 2 + 1) = false := by
      unfold freeB
      rw [show decide (R.length - 2 + 1 + 1 < R.length) = false from decide_eq_false (by omega), Bool.false_and, Bool.and_false]
    have := plc_succ (n := R.length - 2 + 1) (f := freeB R)
    rw [f, ← e] at this
    rw [this]
    simp
theorem freeB_at {R : List Rw} {i : Nat} (h : i < R.length - 2) : freeB R (i + 1) = !decide (((1 : Int) + (i : Nat)) ∈ plc R.length (barB R)) := by
  have e1 : decide (1 ≤ i + 1) = true := decide_eq_true (by omega)
  have e2 : decide (i + 1 + 1 < R.length) = true := decide_eq_true (by omega)
  unfold freeB
  rw [e1, e2, Bool.true_and, Bool.true_and]
  congr 1
  rw [Bool.eq_iff_iff, decide_eq_true_eq, plc_mem]
  constructor
  · intro h2
    exact ⟨i + 1, by omega, h2, by omega⟩
  · rintro ⟨j, h1, h2, h3⟩
    have ej : j = i + 1 := by omega
    rw [← ej]
    exact h2
theorem freeB_0 {R : List Rw} : plc 1 (freeB R) = [] := rfl
section
variable {P : Program} {w : World} {K : PySem.W.Frag} {mg : Str → Option Value} {base : Heap}
-- _law_sure_names (printed by gen.py); slots: 0 _law_rows_here, 1 _law_found*, 2 _law_row, 3 _law_name
abbrev nLSureNames : List Str := ["_law_rows_here", "_law_found", "_law_row", "_law_name"]
abbrev pLSureNames : List Str := ["_law_rows_here"]
theorem scLSureNames : FnScope nLSureNames pLSureNames (defScope sLSureNames) := ⟨rfl, rfl, rfl, by decide +kernel, rfl, by decide +kernel, by decide +kernel⟩
-- _law_barred (printed by gen.py); slots: 0 _law_rows_here, 1 _law_found*, 2 _law_name, 3 _law_at
abbrev nLBarred : List Str := ["_law_rows_here", "_law_found", "_law_name", "_law_at"]
abbrev pLBarred : List Str := ["_law_rows_here"]
theorem scLBarred : FnScope nLBarred pLBarred (defScope sLBarred) := ⟨rfl, rfl, rfl, by decide +kernel, rfl, by decide +kernel, by decide +kernel⟩
-- _law_free (printed by gen.py); slots: 0 _law_rows_here, 1 _law_none*, 2 _law_at
abbrev nLFree : List Str := ["_law_rows_here", "_law_none", "_law_at"]
abbrev pLFree : List Str := ["_law_rows_here"]
theorem scLFree : FnScope nLFree pLFree (defScope sLFree) := ⟨rfl, rfl, rfl, by decide +kernel, rfl, by decide +kernel, by decide +kernel⟩
theorem ok_sureNamesL (T : Bi mg) (a0 : At K mg "_law_sure_names" sLSureNames pLSureNames) : Cal P w K mg base CX0 "_law_sure_names" 1 pLSureNames spNamesL := by
  refine Cal.of a0 scLSureNames (fun vs H Q E h => ?_) (fun f cdv A outer s H vs Q E hr h => ?_)
  · obtain ⟨a, R, rfl, _⟩ := h
    rfl
  · obtain ⟨a, R, rfl, ⟨xs, hxs, lxs, hrow⟩, rs, q⟩ := h
    refine ⟨_, (pss_cons (ps_set (i := 1) scLSureNames.nd rfl (.inr rfl) (pe_lst pa_nil)) -- _law_found = []
      (pss_cons (ps_for PassesOwn.never rfl (pi_tup (pv 0)) (pg_name (i := 2) scLSureNames.nd rfl (.inl rfl))
        (pss_one (ps_if (pt_cmpR op_eq (pe_ix ix_tup (pv 2) pe_int (fun _ _ => rfl)) pe_str (nomark _))
          (pss_one (ps_expr (pe_bm PySem.F.plainAttrs_list PySem.F.slot_list_extend PySem.F.type_list_extend mt_extend (pv 1) (pa_cons (pe_lc (own := [("_law_name", 3)]) (g := gName 3) rfl scLSureNames.nd (pi_tup (pe_ix ix_tup (pv 2) pe_int (fun _ _ => rfl))) (blkOk_by (own := [("_law_name", 3)]) (N := nLSureNames) (sc := defScope sLSureNames) (by decide +kernel)) (fun _ _ _ _ _ => (pg_name (i := 3) scLSureNames.nd rfl (.inl rfl))) (fun _ _ _ _ _ => (pts_one (pt_cmpR (notInK (K := K) rfl) (pv 3) (pv 1) (by rfl)))) (fun _ _ _ _ _ => (pv 3))) pa_nil))))
          pss_nil))) -- for _law_row in _law_rows_here:
      (pss_one (ps_ret (pe_callB cr_sortedA (by rfl) T.sorted bo_sorted (pa_cons (pv 1) pa_nil)))))), ?_⟩
    have ln := rs.len
    refine ⟨Nat.zero_le _, fun fo nfo => ⟨_, rfl, a, rfl, ⟨_, SqT.of ((same_new nfo) _ _ hxs)⟩, ?_⟩⟩
    refine for_tup (fun i σ' H' => ∃ (y2 : Option V) (ys : List Str), σ' = [some (.ref a), some (.ref fo), y2, none] ∧ H' fo = some (.lst (ys.map V.str)) ∧ ys.length ≤ 10 * i ∧ (∀ x, x ∈ ys ↔ ∃ (j : Nat) (r : Rw), j < i ∧ R[j]? = some r ∧ x ∈ r.sn) ∧ Same H H')
      ⟨none, [], rfl, upd_same, Nat.zero_le _, fun x => ⟨fun h => absurd h List.not_mem_nil, fun ⟨j, r, h, _⟩ => absurd h (Nat.not_lt_zero j)⟩, same_new nfo⟩ (fun i σ' H' _ hP => by obtain ⟨_, _, _, _, _, _, s⟩ := hP; exact SqT.of (s _ _ hxs)) (fun i v σ' H1 hv hP => ?_) (fun σ' H1 hP => ?_)
    · obtain ⟨y2, ys, rfl, hfo, lys, hys, sm⟩ := hP
      have li : i < R.length := by rw [← lxs]; exact (List.getElem?_eq_some_iff.mp hv).1
      have hr0 : R[i]? = some R[i] := List.getElem?_eq_getElem li
      obtain ⟨v', hv', hra0⟩ := hrow i _ hr0
      have ev : v = v' := Option.some.inj (hv.symm.trans hv')
      subst ev
      generalize R[i] = r at hr0 hra0
      have hra := hra0.tl (TL.of sm)
      have ok6 := rs.ok r (List.mem_of_getElem? hr0)
      have next : ∀ (zs : List Str), (∀ x, x ∈ zs ↔ x ∈ ys ∨ x ∈ r.sn) → ∀ x, x ∈ zs ↔ ∃ (j : Nat) (r : Rw), j < i + 1 ∧ R[j]? = some r ∧ x ∈ r.sn := fun zs hz x => by
        rw [hz, hys]
        constructor
        · rintro (⟨j, r', h1, h2, h3⟩ | h)
          · exact ⟨j, r', by omega, h2, h3⟩
          · exact ⟨i, r, by omega, hr0, h⟩
        · rintro ⟨j, r', h1, h2, h3⟩
          by_cases e : j = i
          · subst e
            rw [hr0] at h2
            cases h2
            exact .inr h3
          · exact .inl ⟨j, r', by omega, h2, h3⟩
      obtain ⟨ra, wd, tl, rfl, hra1, hra2⟩ := hra.sure
      refine ⟨_, rfl, ra, _, 0, .str wd, rfl, rfl, SqT.of hra1, at_nat (j := 0) rfl rfl, rfl, _, rfl, ?_⟩
      rcases hra2 with ⟨n, e⟩ | ⟨e, b, tl', e2, hb⟩
      · refine ite2 (fun c => absurd (V.str.inj (of_decide_eq_true c)) n) (fun _ => ?_)
        exact ⟨_, ys, rfl, hfo, by omega, next ys fun x => by rw [e]; simp, sm⟩
      · subst e2
        subst e
        refine ite2 (fun _ => ?_) (fun c => absurd (by decide +kernel) c)
        have nl : r.sn.length ≤ 10 := by
          cases r with
          | sure ns => exact ok6
          | _ => exact Nat.zero_le _
        refine ⟨_, rfl, .inl ⟨rfl, _, SqL.of hfo⟩, _, rfl, ra, _, 1, .ref b, rfl, rfl, SqT.of hra1, at_nat (j := 1) rfl rfl, b, rfl, ⟨_, SqT.of hb⟩, fun Dl nDl => ?_⟩
        have nfD : fo ≠ Dl := ne_of_none hfo nDl
        refine lc_tup (fun j H' => ∃ ms : List Str, ms.length ≤ j ∧ H' Dl = some (.lst (ms.map V.str)) ∧ Same H1 H' ∧ ∀ x, x ∈ ms ↔ x ∈ r.sn.take j ∧ x ∉ ys) ⟨[], Nat.le_refl 0, upd_same, same_new nDl, fun x => by simp⟩ (fun j H' _ hP => by obtain ⟨_, _, _, s, _⟩ := hP; exact SqT.of (s _ _ hb)) (fun j v H' hj hP => ?_) (fun H' hP => ?_)
        · obtain ⟨ms, lm, hD, s1, hms⟩ := hP
          obtain ⟨y, hy, rfl⟩ : ∃ y, r.sn[j]? = some y ∧ v = V.str y := by
            rw [List.getElem?_map] at hj
            cases hy : r.sn[j]? with
            | none => rw [hy] at hj; cases hj
            | some y => rw [hy] at hj; exact ⟨y, rfl, (Option.some.inj hj).symm⟩
          have lj := (List.getElem?_eq_some_iff.mp hy).1
          have tk : r.sn.take (j + 1) = r.sn.take j ++ [y] := by
            rw [List.take_add_one, hy]
            rfl
          refine ⟨rfl, _, rfl, _, rfl, fo, _, rfl, .inl (SqL.of (s1 _ _ hfo)), rfl, flat_strs _, _, rfl, ?_⟩
          show if (!inV (.str y) (ys.map V.str)) = true then _ else _
          rw [inV_strs]
          refine ite2 (fun c => ?_) (fun c => ?_)
          · have ny : y ∉ ys := by simpa using c
            refine ⟨_, rfl, ms.map V.str, hD, szt (by rw [List.length_map]; omega), ms ++ [y], by rw [List.length_append, List.length_singleton]; omega, by rw [upd_same, List.map_append]; rfl, Same.mut (H := H1) s1 nDl, fun x => ?_⟩
            rw [tk, List.mem_append, List.mem_append, hms, List.mem_singleton]
            constructor
            · rintro (⟨h1, h2⟩ | h)
              · exact ⟨.inl h1, h2⟩
              · exact ⟨.inr h, by rw [h]; exact ny⟩
            · rintro ⟨h1 | h1, h2⟩
              · exact .inl ⟨h1, h2⟩
              · exact .inr h1
          · have yy : y ∈ ys := by simpa using c
            refine ⟨ms, by omega, hD, s1, fun x => ?_⟩
            rw [tk, List.mem_append, hms, List.mem_singleton]
            constructor
            · rintro ⟨h1, h2⟩
              exact ⟨.inl h1, h2⟩
            · rintro ⟨h1 | h1, h2⟩
              · exact ⟨h1, h2⟩
              · exact absurd (by rw [h1]; exact yy) h2
        · obtain ⟨ms, lm, hD, s1, hms⟩ := hP
          rw [List.length_map] at lm hms
          rw [List.take_length] at hms
          have hfo1 := s1 _ _ hfo
          refine ⟨fo, Dl, ys.map V.str, ms.map V.str, rfl, rfl, hfo1, hD, szl (by rw [List.length_map, List.length_map]; omega), _, ys ++ ms, rfl, by rw [upd_same, List.map_append], by rw [List.length_append]; omega, next (ys ++ ms) fun x => ?_, Same.mut (H := H) (sm.trans s1) nfo⟩
          rw [List.mem_append, hms]
          constructor
          · rintro (h | ⟨h, _⟩)
            · exact .inl h
            · exact .inr h
          · rintro (h | h)
            · exact .inl h
            · by_cases c : x ∈ ys
              · exact .inl c
              · exact .inr ⟨h, c⟩
    · obtain ⟨y2, ys, rfl, hfo, lys, hys, sm⟩ := hP
      refine ⟨_, rfl, fo, ys, rfl, SqL.of hfo, fun zs p perm _ np => ?_⟩
      have m := same_new (o := .lst (zs.map V.str)) np
      refine q p zs _ (sm.trans m) ((Kp.same (M := NoM) sm).free np) upd_same fun x => ?_
      rw [perm.mem_iff, hys, lxs]
      unfold Named
      constructor
      · rintro ⟨j, r, _, h2, h3⟩
        exact ⟨r, List.mem_of_getElem? h2, h3⟩
      · rintro ⟨r, h1, h2⟩
        obtain ⟨j, hj⟩ := List.getElem?_of_mem h1
        exact ⟨j, r, (List.getElem?_eq_some_iff.mp hj).1, hj, h2⟩
theorem ok_barredL (T : Bi mg) (a0 : At K mg "_law_barred" sLBarred pLBarred) (cLSureNames : Cal P w K mg base CX0 "_law_sure_names" 1 pLSureNames spNamesL) (cLWanted : Cal P w K mg base CX0 "_law_wanted" 2 pLWanted spWanted) : Cal P w K mg base CX0 "_law_barred" 3 pLBarred spBarL := by
  refine Cal.of a0 scLBarred (fun vs H Q E h => ?_) (fun f cdv A outer s H vs Q E hr h => ?_)
  · obtain ⟨a, R, rfl, _⟩ := h
    rfl
  · obtain ⟨a, R, rfl, hra, rs, q⟩ := h
    refine ⟨_, (pss_cons (ps_set (i := 1) scLBarred.nd rfl (.inr rfl) (pe_lst pa_nil)) -- _law_found = []
      (pss_cons (ps_for PassesOwn.never rfl (pi_list (pe_c cLSureNames hr pass0 (pa_cons (pv 0) pa_nil))) (pg_name (i := 2) scLBarred.nd rfl (.inl rfl))
        (pss_one (ps_expr (pe_bm PySem.F.plainAttrs_list PySem.F.slot_list_extend PySem.F.type_list_extend mt_extend (pv 1) (pa_cons (pe_lc (own := [("_law_at", 3)]) (g := gName 3) rfl scLBarred.nd (pi_list (pe_c cLWanted hr pass0 (pa_cons (pv 0) (pa_cons (pv 2) pa_nil)))) (blkOk_by (own := [("_law_at", 3)]) (N := nLBarred) (sc := defScope sLBarred) (by decide +kernel)) (fun _ _ _ _ _ => (pg_name (i := 3) scLBarred.nd rfl (.inl rfl))) (fun _ _ _ _ _ => (pts_one (pt_cmpR (notInK (K := K) rfl) (pv 3) (pv 1) (by rfl)))) (fun _ _ _ _ _ => (pv 3))) pa_nil))))) -- for _law_name in _law_sure_names(_law_rows_here):
      (pss_one (ps_ret (pe_callB cr_sortedI (by rfl) T.sorted bo_sorted (pa_cons (pv 1) pa_nil)))))), ?_⟩
    have ln := rs.len
    refine ⟨Nat.zero_le _, fun fo nfo => ⟨_, rfl, a, R, rfl, hra.tl (TL.of (same_new nfo)), rs, fun np ys H1 s1 nnp hnp hys => ⟨np, rfl, ⟨_, SqL.of hnp⟩, ?_⟩⟩⟩
    have s01 := (same_new (o := .lst []) nfo).trans s1
    have hfo1 := s1 _ _ (upd_same (H := H) (a := fo) (o := .lst []))
    have npf : np ≠ fo := (ne_of_none (upd_same (H := H) (a := fo) (o := .lst [])) nnp).symm
    refine for_list (fun i σ' H' => ∃ (y2 : Option V) (ks : List Int), σ' = [some (.ref a), some (.ref fo), y2, none] ∧ H' fo = some (.lst (ks.map V.int)) ∧ ks.Nodup ∧ (∀ z, z ∈ ks ↔ ∃ (x : Str) (j : Nat), x ∈ ys.take i ∧ j < R.length ∧ wantAt R x j = true ∧ z = (j : Int)) ∧ Same H H' ∧ H' np = some (.lst (ys.map V.str)))
      ⟨none, [], rfl, hfo1, List.nodup_nil, fun z => ⟨fun h => absurd h List.not_mem_nil, fun ⟨x, j, h, _⟩ => absurd h (by simp)⟩, s01, hnp⟩ (fun i σ' H' _ hP => by obtain ⟨_, _, _, _, _, _, _, h⟩ := hP; exact SqL.of h) (fun i v σ' H2 hv hP => ?_) (fun σ' H2 hP => ?_)
    · obtain ⟨y2, ks, rfl, hfo, nd, hks, sm, hnp2⟩ := hP
      obtain ⟨x, hx, rfl⟩ : ∃ x, ys[i]? = some x ∧ v = V.str x := by
        rw [List.getElem?_map] at hv
        cases hx : ys[i]? with
        | none => rw [hx] at hv; cases hv
        | some x => rw [hx] at hv; exact ⟨x, rfl, (Option.some.inj hv).symm⟩
      have tk : ys.take (i + 1) = ys.take i ++ [x] := by
        rw [List.take_add_one, hx]
        rfl
      have lks : ks.length ≤ R.length := int_sub_len nd fun z hz => (let ⟨_, j, _, h2, _, h4⟩ := (hks z).mp hz; ⟨j, h2, h4⟩)
      refine ⟨_, rfl, .inl ⟨rfl, _, SqL.of hfo⟩, _, rfl, _, rfl, a, x, R, rfl, hra.tl (TL.of sm), rs, fun wp H3 s3 nwp hwp => ⟨wp, rfl, ⟨_, SqL.of hwp⟩, fun Dl nDl => ?_⟩⟩
      have hfo3 := s3 _ _ hfo
      have hnp3 := s3 _ _ hnp2
      refine lc_list (fun j H' => ∃ ms : List Int, H' Dl = some (.lst (ms.map V.int)) ∧ ms.Nodup ∧ Same H3 H' ∧ ∀ z, z ∈ ms ↔ z ∈ (plc R.length (wantAt R x)).take j ∧ z ∉ ks) ⟨[], upd_same, List.nodup_nil, same_new nDl, fun z => by simp⟩ (fun j H' _ hP => by obtain ⟨_, _, _, s, _⟩ := hP; exact SqL.of (s _ _ hwp)) (fun j v H' hj hP => ?_) (fun H' hP => ?_)
      · obtain ⟨ms, hD, ndm, s4, hms⟩ := hP
        obtain ⟨z, hz, rfl⟩ : ∃ z, (plc R.length (wantAt R x))[j]? = some z ∧ v = V.int z := by
          rw [List.getElem?_map] at hj
          cases hz : (plc R.length (wantAt R x))[j]? with
          | none => rw [hz] at hj; cases hj
          | some z => rw [hz] at hj; exact ⟨z, rfl, (Option.some.inj hj).symm⟩
        have lj := (List.getElem?_eq_some_iff.mp hz).1
        have tkz : (plc R.length (wantAt R x)).take (j + 1) = (plc R.length (wantAt R x)).take j ++ [z] := by
          rw [List.take_add_one, hz]
          rfl
        have lms : ms.length ≤ R.length := int_sub_len ndm fun y hy => (let ⟨k, h1, _, h3⟩ := plc_mem.mp (List.mem_of_mem_take ((hms y).mp hy).1); ⟨k, h1, h3⟩)
        refine ⟨rfl, _, rfl, _, rfl, fo, _, rfl, .inl (SqL.of (s4 _ _ hfo3)), rfl, flat_ints _, _, rfl, ?_⟩
        show if (!inV (.int z) (ks.map V.int)) = true then _ else _
        rw [inV_ints]
        refine ite2 (fun c => ?_) (fun c => ?_)
        · have nz : z ∉ ks := by simpa using c
          have nzm : z ∉ (plc R.length (wantAt R x)).take j := fun h => by
            have nd2 : (plc R.length (wantAt R x)).Nodup := plc_lt.imp fun {a b} h => Int.ne_of_lt h
            have nd3 := nd2.sublist (List.take_sublist (j + 1) _)
            rw [tkz] at nd3
            exact (List.nodup_append.mp nd3).2.2 z h z (List.mem_singleton.mpr rfl) rfl
          refine ⟨_, rfl, ms.map V.int, hD, szt (by rw [List.length_map]; omega), ms ++ [z], by rw [upd_same, List.map_append]; rfl, List.nodup_append.mpr ⟨ndm, by simp, fun y hy w hw e => nzm (by rw [List.mem_singleton.mp hw] at e; rw [← e]; exact ((hms y).mp hy).1)⟩, Same.mut (H := H3) s4 nDl, fun y => ?_⟩
          rw [tkz, List.mem_append, List.mem_append, hms, List.mem_singleton]
          constructor
          · rintro (⟨h1, h2⟩ | h)
            · exact ⟨.inl h1, h2⟩
            · exact ⟨.inr h, by rw [h]; exact nz⟩
          · rintro ⟨h1 | h1, h2⟩
            · exact .inl ⟨h1, h2⟩
            · exact .inr h1
        · have yz : z ∈ ks := by simpa using c
          refine ⟨ms, hD, ndm, s4, fun y => ?_⟩
          rw [tkz, List.mem_append, hms, List.mem_singleton]
          constructor
          · rintro ⟨h1, h2⟩
            exact ⟨.inl h1, h2⟩
          · rintro ⟨h1 | h1, h2⟩
            · exact ⟨h1, h2⟩
            · exact absurd (by rw [h1]; exact yz) h2
      · obtain ⟨ms, hD, ndm, s4, hms⟩ := hP
        rw [List.length_map] at hms
        rw [List.take_length] at hms
        have lms : ms.length ≤ R.length := int_sub_len ndm fun y hy => (let ⟨k, h1, _, h3⟩ := plc_mem.mp ((hms y).mp hy).1; ⟨k, h1, h3⟩)
        have hfo4 := s4 _ _ hfo3
        have npf2 : np ≠ fo := npf
        refine ⟨fo, Dl, ks.map V.int, ms.map V.int, rfl, rfl, hfo4, hD, szl (by rw [List.length_map, List.length_map]; omega), _, ks ++ ms, rfl, by rw [upd_same, List.map_append], List.nodup_append.mpr ⟨nd, ndm, fun y hy w hw e => ((hms w).mp hw).2 (by rw [← e]; exact hy)⟩, fun z => ?_, Same.mut (H := H) (sm.trans (s3.trans s4)) nfo, by rw [upd_ne npf2]; exact s4 _ _ hnp3⟩
        rw [List.mem_append, hks, hms, plc_mem, tk]
        constructor
        · rintro (⟨y, j, h1, h2⟩ | ⟨⟨j, h1, h2, h3⟩, _⟩)
          · exact ⟨y, j, List.mem_append.mpr (.inl h1), h2⟩
          · exact ⟨x, j, List.mem_append.mpr (.inr (List.mem_singleton.mpr rfl)), h1, h2, h3⟩
        · rintro ⟨y, j, h1, h2, h3, h4⟩
          rcases List.mem_append.mp h1 with h | h
          · exact .inl ⟨y, j, h, h2, h3, h4⟩
          · rw [List.mem_singleton.mp h] at h3
            by_cases c : z ∈ ks
            · exact .inl ((hks z).mp c)
            · exact .inr ⟨⟨j, h2, h3, h4⟩, c⟩
    · obtain ⟨y2, ks, rfl, hfo, nd, hks, sm, hnp2⟩ := hP
      refine ⟨_, rfl, fo, ks, rfl, SqL.of hfo, fun zs p perm srt npp => ?_⟩
      have m := same_new (o := .lst (zs.map V.int)) npp
      refine q p _ (sm.trans m) ((Kp.same (M := NoM) sm).free npp) ?_
      rw [upd_same, plc_of perm srt nd fun z => ?_]
      rw [hks, List.length_map, List.take_length]
      constructor
      · rintro ⟨x, j, h1, h2, h3, h4⟩
        exact ⟨j, h2, barB_iff.mpr ⟨x, (hys x).mp h1, h3⟩, h4⟩
      · rintro ⟨j, h1, h2, h3⟩
        obtain ⟨x, h4, h5⟩ := barB_iff.mp h2
        exact ⟨x, j, (hys x).mpr h4, h1, h5, h3⟩
theorem ok_freeL (T : Bi mg) (a0 : At K mg "_law_free" sLFree pLFree) (cLBarred : Cal P w K mg base CX0 "_law_barred" 3 pLBarred spBarL) : Cal P w K mg base CX0 "_law_free" 4 pLFree spFreeL := by
  refine Cal.of a0 scLFree (fun vs H Q E h => ?_) (fun f cdv A outer s H vs Q E hr h => ?_)
  · obtain ⟨a, R, rfl, _⟩ := h
    rfl
  · obtain ⟨a, R, rfl, hra, rs, q⟩ := h
    refine ⟨_, (pss_cons (ps_set (i := 1) scLFree.nd rfl (.inr rfl) (pe_c cLBarred hr pass0 (pa_cons (pv 0) pa_nil))) -- _law_none = _law_barred(_law_rows_here)
      (pss_one (ps_ret (pe_lc (own := [("_law_at", 2)]) (g := gName 2) rfl scLFree.nd (pi_range2 (by rfl) T.range (pa_cons pe_int (pa_cons (pe_op op_sub (pe_callB call_len_seq (by rfl) T.len bo_len (pa_cons (pv 0) pa_nil)) pe_int) pa_nil))) (blkOk_by (own := [("_law_at", 2)]) (N := nLFree) (sc := defScope sLFree) (by decide +kernel)) (fun _ _ _ _ _ => (pg_name (i := 2) scLFree.nd rfl (.inl rfl))) (fun _ _ _ _ _ => (pts_one (pt_cmpR (notInK (K := K) rfl) (pv 2) (pv 1) (by rfl)))) (fun _ _ _ _ _ => (pv 2)))))), ?_⟩
    have ln := rs.len
    obtain ⟨xs, hxs, lxs, hrow⟩ := hra
    refine ⟨_, rfl, a, R, rfl, ⟨xs, hxs, lxs, hrow⟩, rs, fun np H1 s1 nnp hnp => ?_⟩
    refine ⟨_, rfl, a, xs, rfl, .inr (SqT.of (s1 _ _ hxs)), ?_⟩
    refine ⟨_, _, rfl, rfl, 1, (xs.length : Int) - 1, rfl, ⟨by decide, by decide, by omega, by omega⟩, fun Dl nDl => ?_⟩
    have en : (((xs.length : Int) - 1) - 1).toNat = R.length - 2 := by omega
    rw [en]
    refine lc_range (lo := 1) (n := R.length - 2) (fun i H' => H' Dl = some (.lst ((plc (i + 1) (freeB R)).map V.int)) ∧ Same H1 H') ⟨by rw [upd_same]; rfl, same_new nDl⟩ (fun i H' hi hP => ?_) (fun H' hP => ?_)
    · obtain ⟨hD, sm⟩ := hP
      refine ⟨rfl, _, rfl, _, rfl, np, _, rfl, .inl (SqL.of (sm _ _ hnp)), rfl, flat_ints _, _, rfl, ?_⟩
      show if (!inV (.int (1 + (i : Nat))) ((plc R.length (barB R)).map V.int)) = true then _ else _
      rw [inV_ints, ← freeB_at hi]
      have lp : (plc (i + 1) (freeB R)).length ≤ i + 1 := plc_len
      have step := plc_succ (n := i + 1) (f := freeB R)
      refine ite2 (fun c => ?_) (fun c => ?_)
      · rw [c, if_pos rfl] at step
        refine ⟨_, rfl, (plc (i + 1) (freeB R)).map V.int, hD, szt (by rw [List.length_map]; omega), ?_, Same.mut (H := H1) sm nDl⟩
        rw [upd_same, step, List.map_append, show (((i + 1 : Nat)) : Int) = 1 + (i : Nat) by omega]
        rfl
      · rw [if_neg c, List.append_nil] at step
        exact ⟨by rw [step]; exact hD, sm⟩
    · obtain ⟨hD, sm⟩ := hP
      rw [fr_range ln.1] at hD
      exact q Dl H' (s1.trans sm) ((Kp.same (M := NoM) s1).free nDl) hD
end
end K36
namespace K36
open PySem PySem.Spec PyProof.Rows L2
/-! ### names, barred rows, free rows (the program's) -/
theorem walk_enum {K : PySem.W.Frag} {a : Addr} {xs : List V} : Walk (Ite K a) xs.length (fun H => SqL K H a xs) (fun i H v H' => ∃ T x, v = .ref T ∧ H T = none ∧ H' = upd H T (.tup [.int (i : Nat), x]) ∧ xs[i]? = some x) :=
  ⟨fun i H hi h => ⟨xs, _, h, List.getElem?_eq_getElem hi⟩, fun H h => ⟨xs, h, Nat.le_refl _⟩, fun i H x H' hi h y => by
    obtain ⟨T, v, e1, e2, e3, e4⟩ := y
    exact ⟨T, v, e1, e2, e3, e4 xs h⟩⟩
def spBarT : Sp := fun vs H Q _ => ∃ (a : Addr) (R : List Rw), vs = [.ref a] ∧ RowsAt H a R ∧ RS R ∧ ∀ p H', Same H H' → H p = none → H' p = some (.tup ((plc R.length (barB R)).map V.int)) → Q (.ref p) H'
def spFreeT : Sp := fun vs H Q _ => ∃ (a : Addr) (R : List Rw), vs = [.ref a] ∧ RowsAt H a R ∧ RS R ∧ ∀ p H', Same H H' → H p = none → H' p = some (.tup ((fr R).map V.int)) → Q (.ref p) H'
section
variable {P : Program} {w : World} {K : PySem.W.Frag} {mg : Str → Option Value} {base : Heap}
-- all_names (printed by gen.py); slots: 0 rows, 1 found, 2 row
abbrev nAllNames : List Str := ["rows", "found", "row"]
abbrev pAllNames : List Str := ["rows"]
theorem scAllNames : FnScope nAllNames pAllNames (defScope sAllNames) := ⟨rfl, rfl, rfl, by decide +kernel, rfl, by decide +kernel, by decide +kernel⟩
-- barred_in (printed by gen.py); slots: 0 rows, 1 found, 2 name, 3 at, 4 is_wanted
abbrev nBarredIn : List Str := ["rows", "found", "name", "at", "is_wanted"]
abbrev pBarredIn : List Str := ["rows"]
theorem scBarredIn : FnScope nBarredIn pBarredIn (defScope sBarredIn) := ⟨rfl, rfl, rfl, by decide +kernel, rfl, by decide +kernel, by decide +kernel⟩
-- finest (printed by gen.py); slots: 0 rows, 1 none*, 2 at
abbrev nFinest : List Str := ["rows", "none", "at"]
abbrev pFinest : List Str := ["rows"]
theorem scFinest : FnScope nFinest pFinest (defScope sFinest) := ⟨rfl, rfl, rfl, by decide +kernel, rfl, by decide +kernel, by decide +kernel⟩
theorem ok_allNames (T : Bi mg) (a0 : At K mg "all_names" sAllNames pAllNames) (cSureNames : Cal P w K mg base CX0 "sure_names" 1 pSureNames spSn) : Cal P w K mg base CX0 "all_names" 2 pAllNames spNamesL := by
  refine Cal.of a0 scAllNames (fun vs H Q E h => ?_) (fun f cdv A outer s H vs Q E hr h => ?_)
  · obtain ⟨a, R, rfl, _⟩ := h
    rfl
  · obtain ⟨a, R, rfl, ⟨xs, hxs, lxs, hrow⟩, rs, q⟩ := h
    refine ⟨_, (pss_cons (ps_set (i := 1) scAllNames.nd rfl (.inl rfl) (pe_lst pa_nil)) -- found = []
      (pss_cons (ps_for PassesOwn.never rfl (pi_tup (pv 0)) (pg_name (i := 2) scAllNames.nd rfl (.inl rfl))
        (pss_one (ps_expr (pe_bm PySem.F.plainAttrs_list PySem.F.slot_list_extend PySem.F.type_list_extend mt_extend (pv 1) (pa_cons (pe_callTy call_list_of (by rfl) T.list bo_list (pa_cons (pe_c cSureNames hr pass0 (pa_cons (pv 2) pa_nil)) pa_nil)) pa_nil))))) -- for row in rows:
      (pss_one (ps_ret (pe_callB (cr_sortedSS rfl) (by rfl) T.sorted bo_sorted (pa_cons (pe_callTy (cr_setOfS rfl) (by rfl) T.set bo_set (pa_cons (pv 1) pa_nil)) pa_nil)))))), ?_⟩
    have ln := rs.len
    refine ⟨Nat.zero_le _, fun fo nfo => ⟨_, rfl, a, rfl, ⟨_, SqT.of ((same_new nfo) _ _ hxs)⟩, ?_⟩⟩
    refine for_tup (fun i σ' H' => ∃ (y2 : Option V) (ys : List Str), σ' = [some (.ref a), some (.ref fo), y2] ∧ H' fo = some (.lst (ys.map V.str)) ∧ ys.length ≤ 10 * i ∧ (∀ x, x ∈ ys ↔ ∃ (j : Nat) (r : Rw), j < i ∧ R[j]? = some r ∧ x ∈ r.sn) ∧ Same H H')
      ⟨none, [], rfl, upd_same, Nat.zero_le _, fun x => ⟨fun h => absurd h List.not_mem_nil, fun ⟨j, r, h, _⟩ => absurd h (Nat.not_lt_zero j)⟩, same_new nfo⟩ (fun i σ' H' _ hP => by obtain ⟨_, _, _, _, _, _, s⟩ := hP; exact SqT.of (s _ _ hxs)) (fun i v σ' H1 hv hP => ?_) (fun σ' H1 hP => ?_)
    · obtain ⟨y2, ys, rfl, hfo, lys, hys, sm⟩ := hP
      have li : i < R.length := by rw [← lxs]; exact (List.getElem?_eq_some_iff.mp hv).1
      have hr0 : R[i]? = some R[i] := List.getElem?_eq_getElem li
      obtain ⟨v', hv', hra0⟩ := hrow i _ hr0
      have ev : v = v' := Option.some.inj (hv.symm.trans hv')
      subst ev
      generalize R[i] = r at hr0 hra0
      have hra := hra0.tl (TL.of sm)
      have ok6 := rs.ok r (List.mem_of_getElem? hr0)
      have nl : r.sn.length ≤ 10 := by
        cases r with
        | sure ns => exact ok6
        | _ => exact Nat.zero_le _
      obtain ⟨ra, wd, tl, rfl, _⟩ := hra.sure
      refine ⟨_, rfl, .inl ⟨rfl, _, SqL.of hfo⟩, _, rfl, ra, i, r, rfl, hra, fun np H2 s2 hnp => ⟨np, _, rfl, .inr (SqT.of hnp), fun nl2 nnl => ?_⟩⟩
      have m3 := same_new (o := .lst (r.sn.map V.str)) nnl
      have s3 := s2.trans m3
      refine ⟨fo, nl2, ys.map V.str, r.sn.map V.str, rfl, rfl, s3 _ _ hfo, upd_same, szl (by rw [List.length_map, List.length_map]; omega), _, ys ++ r.sn, rfl, by rw [upd_same, List.map_append], by rw [List.length_append]; omega, fun x => ?_, Same.mut (H := H) (sm.trans s3) nfo⟩
      rw [List.mem_append, hys]
      constructor
      · rintro (⟨j, r', h1, h2, h3⟩ | h)
        · exact ⟨j, r', by omega, h2, h3⟩
        · exact ⟨i, r, by omega, hr0, h⟩
      · rintro ⟨j, r', h1, h2, h3⟩
        by_cases e : j = i
        · subst e
          rw [hr0] at h2
          cases h2
          exact .inr h3
        · exact .inl ⟨j, r', by omega, h2, h3⟩
    · obtain ⟨y2, ys, rfl, hfo, lys, hys, sm⟩ := hP
      refine ⟨_, rfl, fo, ys, rfl, SqL.of hfo, by rw [lxs] at lys; omega, fun sa n nsa => ?_⟩
      have m2 := same_new (o := SetSO w sa (fun j => decide (j ∈ ys)) n) nsa
      refine ⟨sa, _, n, rfl, upd_same, fun zs p _ _ hm np => ?_⟩
      have m3 := same_new (o := .lst (zs.map V.str)) np
      refine q p zs _ (sm.trans (m2.trans m3)) ((Kp.same (M := NoM) (sm.trans m2)).free np) upd_same fun x => ?_
      rw [hm, decide_eq_true_eq, hys, lxs]
      unfold Named
      constructor
      · rintro ⟨j, r, _, h2, h3⟩
        exact ⟨r, List.mem_of_getElem? h2, h3⟩
      · rintro ⟨r, h1, h2⟩
        obtain ⟨j, hj⟩ := List.getElem?_of_mem h1
        exact ⟨j, r, (List.getElem?_eq_some_iff.mp hj).1, hj, h2⟩
theorem ok_barredIn (T : Bi mg) (a0 : At K mg "barred_in" sBarredIn pBarredIn) (cAllNames : Cal P w K mg base CX0 "all_names" 2 pAllNames spNamesL) (cWantedRows : Cal P w K mg base CX0 "wanted_rows" 2 pWantedRows spWantedR) : Cal P w K mg base CX0 "barred_in" 3 pBarredIn spBarT := by
  refine Cal.of a0 scBarredIn (fun vs H Q E h => ?_) (fun f cdv A outer s H vs Q E hr h => ?_)
  · obtain ⟨a, R, rfl, _⟩ := h
    rfl
  · obtain ⟨a, R, rfl, hra, rs, q⟩ := h
    refine ⟨_, (pss_cons (ps_set (i := 1) scBarredIn.nd rfl (.inl rfl) pe_dnewK) -- found = {}
      (pss_cons (ps_for PassesOwn.never rfl (pi_list (pe_c cAllNames hr pass0 (pa_cons (pv 0) pa_nil))) (pg_name (i := 2) scBarredIn.nd rfl (.inl rfl))
        (pss_one (ps_for PassesOwn.never rfl (pi_enum (by rfl) T.enumerate (pa_cons (pe_c cWantedRows hr pass0 (pa_cons (pv 0) (pa_cons (pv 2) pa_nil))) pa_nil)) (pg_tup rfl (pgs_cons (pg_name (i := 3) scBarredIn.nd rfl (.inl rfl)) (pgs_cons (pg_name (i := 4) scBarredIn.nd rfl (.inl rfl)) pgs_nil)))
          (pss_one (ps_if (pt_val (pv 4))
            (pss_one (ps_dput (hu_of hr) (pv 1) (pv 3) pe_bl rfl))
            pss_nil))))) -- for name in all_names(rows):
      (pss_one (ps_ret (pe_callTy call_tuple_of (by rfl) T.tuple bo_tuple (pa_cons (pe_callB (call_sortedDI rfl) (by rfl) T.sorted bo_sorted (pa_cons (pv 1) pa_nil)) pa_nil)))))), ?_⟩
    have ln := rs.len
    intro FR nFR
    refine ⟨_, rfl, a, R, rfl, hra.tl (TL.of (same_new nFR)), rs, fun np ys H1 s1 nnp hnp hys => ⟨np, rfl, ⟨_, SqL.of hnp⟩, ?_⟩⟩
    have s01 := (same_new (o := .dK []) nFR).trans s1
    have hF1 := s1 _ _ (upd_same (H := H) (a := FR) (o := .dK []))
    have npF : np ≠ FR := (ne_of_none (upd_same (H := H) (a := FR) (o := .dK [])) nnp).symm
    refine for_list (fun i σ' H' => ∃ (y2 y3 y4 : Option V) (kvs : List (Key × V)) (ks : List Int), σ' = [some (.ref a), some (.ref FR), y2, y3, y4] ∧ H' FR = some (.dK kvs) ∧ kvs.map (·.1) = ks.map Sum.inl ∧ ks.Nodup ∧ (∀ z, z ∈ ks ↔ ∃ (x : Str) (j : Nat), x ∈ ys.take i ∧ j < R.length ∧ wantAt R x j = true ∧ z = (j : Int)) ∧ Same H H' ∧ H' np = some (.lst (ys.map V.str)))
      ⟨none, none, none, [], [], rfl, hF1, rfl, List.nodup_nil, fun z => ⟨fun h => absurd h List.not_mem_nil, fun ⟨x, j, h, _⟩ => absurd h (by simp)⟩, s01, hnp⟩ (fun i σ' H' _ hP => by obtain ⟨_, _, _, _, _, _, _, _, _, _, _, h⟩ := hP; exact SqL.of h) (fun i v σ' H2 hv hP => ?_) (fun σ' H2 hP => ?_)
    · obtain ⟨y2, y3, y4, kvs, ks, rfl, hF, hk, nd, hks, sm, hnp2⟩ := hP
      obtain ⟨x, hx, rfl⟩ : ∃ x, ys[i]? = some x ∧ v = V.str x := by
        rw [List.getElem?_map] at hv
        cases hx : ys[i]? with
        | none => rw [hx] at hv; cases hv
        | some x => rw [hx] at hv; exact ⟨x, rfl, (Option.some.inj hv).symm⟩
      have tk : ys.take (i + 1) = ys.take i ++ [x] := by
        rw [List.take_add_one, hx]
        rfl
      refine ⟨_, rfl, _, rfl, a, x, R, rfl, hra.tl (TL.of sm), rs, fun wp H3 s3 nwp hwp => ⟨wp, _, rfl, SqL.of hwp, ?_⟩⟩
      have lw : ((wantL R x).map V.bl).length = R.length := by
        unfold wantL
        rw [List.length_map, List.length_map, List.length_range]
      have nwF : wp ≠ FR := (ne_of_none hF nwp).symm
      refine for_it walk_enum (fun i' σ' H' => ∃ (y3 y4 : Option V) (kvs : List (Key × V)) (ks' : List Int), σ' = [some (.ref a), some (.ref FR), some (.str x), y3, y4] ∧ H' FR = some (.dK kvs) ∧ kvs.map (·.1) = ks'.map Sum.inl ∧ ks'.Nodup ∧ (∀ z, z ∈ ks' ↔ z ∈ ks ∨ ∃ j : Nat, j < i' ∧ wantAt R x j = true ∧ z = (j : Int)) ∧ Same H H' ∧ H' np = some (.lst (ys.map V.str)) ∧ H' wp = some (.lst ((wantL R x).map V.bl)) ∧ i' ≤ R.length)
        ⟨y3, y4, kvs, ks, rfl, s3 _ _ hF, hk, nd, fun z => ⟨.inl, fun h => h.elim id fun ⟨j, h, _⟩ => absurd h (Nat.not_lt_zero j)⟩, sm.trans s3, s3 _ _ hnp2, hwp, Nat.zero_le _⟩ (fun i' σ' H' _ hP => by obtain ⟨_, _, _, _, _, _, _, _, _, _, _, h, _⟩ := hP; exact SqL.of h) (fun i' v σ' H4 H5 hi' hP hy => ?_) (fun σ' H4 hP => ?_)
      · obtain ⟨y3, y4, kvs, ks', rfl, hF, hk, nd', hks', sm, hnp4, hwp4, _⟩ := hP
        obtain ⟨t, b, rfl, nt, rfl, hb⟩ := hy
        rw [lw] at hi'
        have eb : b = .bl (wantAt R x i') := by
          unfold wantL at hb
          rw [List.getElem?_map, List.getElem?_map, List.getElem?_range hi'] at hb
          exact (Option.some.inj hb).symm
        subst eb
        have m5 := same_new (o := .tup [.int (i' : Nat), .bl (wantAt R x i')]) nt
        refine ⟨t, _, rfl, SqT.of upd_same, rfl, _, _, rfl, _, _, rfl, rfl, _, rfl, _, rfl, ?_⟩
        have hF5 := m5 _ _ hF
        have nxt : ∀ {ks2 : List Int}, (∀ z, z ∈ ks2 ↔ z ∈ ks' ∨ (wantAt R x i' = true ∧ z = (i' : Int))) → ∀ z, z ∈ ks2 ↔ z ∈ ks ∨ ∃ j : Nat, j < i' + 1 ∧ wantAt R x j = true ∧ z = (j : Int) := fun {ks2} h z => by
          rw [h, hks']
          constructor
          · rintro ((h1 | ⟨j, h1, h2⟩) | ⟨h1, h2⟩)
            · exact .inl h1
            · exact .inr ⟨j, by omega, h2⟩
            · exact .inr ⟨i', by omega, h1, h2⟩
          · rintro (h1 | ⟨j, h1, h2, h3⟩)
            · exact .inl (.inl h1)
            · by_cases e : j = i'
              · rw [e] at h2 h3
                exact .inr ⟨h2, h3⟩
              · exact .inl (.inr ⟨j, by omega, h2, h3⟩)
        refine ite2 (fun c => ?_) (fun c => ?_)
        · have lk : kvs.length ≤ R.length := by
            have e1 := congrArg List.length hk
            rw [List.length_map, List.length_map] at e1
            have := int_sub_len nd' fun z hz => (show ∃ j : Nat, j < R.length ∧ z = (j : Int) by
              rcases (hks' z).mp hz with h | ⟨j, h1, _, h3⟩
              · obtain ⟨_, j, _, h2, _, h4⟩ := (hks z).mp h
                exact ⟨j, h2, h4⟩
              · exact ⟨j, by omega, h3⟩)
            omega
          have inks : (valV kvs (Sum.inl (i' : Int) : Key)).isSome = true ↔ (i' : Int) ∈ ks' := by
            rw [has_mem, hk, List.mem_map]
            exact ⟨fun ⟨y, h1, h2⟩ => by rw [← Sum.inl.inj h2]; exact h1, fun h => ⟨_, h, rfl⟩⟩
          refine ⟨_, rfl, _, rfl, FR, _, rfl, DPut.k (k := Sum.inl (i' : Int)) hF5 (szt (by omega)), ?_⟩
          have fin : ∃ ks2 : List Int, (putK kvs (Sum.inl (i' : Int)) (.bl true)).map (·.1) = ks2.map Sum.inl ∧ ks2.Nodup ∧ ∀ z, z ∈ ks2 ↔ z ∈ ks' ∨ (wantAt R x i' = true ∧ z = (i' : Int)) := by
            by_cases h : (i' : Int) ∈ ks'
            · exact ⟨ks', by rw [put_keys, if_pos (inks.mpr h)]; exact hk, nd', fun z => ⟨.inl, fun z2 => z2.elim id fun e => by rw [e.2]; exact h⟩⟩
            · refine ⟨ks' ++ [(i' : Int)], by rw [put_keys, if_neg (fun z => h (inks.mp z)), hk, List.map_append]; rfl, List.nodup_append.mpr ⟨nd', by simp, fun y hy z hz e => h (by rw [← List.mem_singleton.mp hz, ← e]; exact hy)⟩, fun z => ?_⟩
              rw [List.mem_append, List.mem_singleton]
              exact ⟨fun z2 => z2.imp id fun e => ⟨c, e⟩, fun z2 => z2.imp id And.right⟩
          obtain ⟨ks2, f1, f2, f3⟩ := fin
          exact ⟨_, _, _, ks2, rfl, upd_same, f1, f2, nxt f3, Same.mut (H := H) (sm.trans m5) nFR, by rw [upd_ne npF]; exact m5 _ _ hnp4, by rw [upd_ne nwF]; exact m5 _ _ hwp4, by omega⟩
        · exact ⟨_, _, kvs, ks', rfl, hF5, hk, nd', nxt fun z => ⟨.inl, fun h => h.elim id fun h => absurd h.1 c⟩, sm.trans m5, m5 _ _ hnp4, m5 _ _ hwp4, by omega⟩
      · obtain ⟨y3, y4, kvs, ks', rfl, hF, hk, nd', hks', sm, hnp4, hwp4, _⟩ := hP
        rw [lw] at hks'
        refine ⟨_, _, _, kvs, ks', rfl, hF, hk, nd', fun z => ?_, sm, hnp4⟩
        rw [hks', hks, tk]
        constructor
        · rintro (⟨y, j, h1, h2⟩ | ⟨j, h1, h2, h3⟩)
          · exact ⟨y, j, List.mem_append.mpr (.inl h1), h2⟩
          · exact ⟨x, j, List.mem_append.mpr (.inr (List.mem_singleton.mpr rfl)), h1, h2, h3⟩
        · rintro ⟨y, j, h1, h2, h3, h4⟩
          rcases List.mem_append.mp h1 with h | h
          · exact .inl ⟨y, j, h, h2, h3, h4⟩
          · rw [List.mem_singleton.mp h] at h3
            exact .inr ⟨j, h2, h3, h4⟩
    · obtain ⟨y2, y3, y4, kvs, ks, rfl, hF, hk, nd, hks, sm, hnp2⟩ := hP
      have lks : ks.length ≤ R.length := int_sub_len nd fun z hz => (let ⟨_, j, _, h2, _, h4⟩ := (hks z).mp hz; ⟨j, h2, h4⟩)
      refine ⟨_, rfl, FR, kvs, ks, rfl, .inl hF, hk, by omega, fun zs p perm srt npp => ⟨p, _, rfl, .inl ⟨SqL.of upd_same, fun t nt => ?_⟩⟩⟩
      have m1 := same_new (o := .lst (zs.map V.int)) npp
      have m2 := same_new (o := .tup (zs.map V.int)) nt
      refine q t _ (sm.trans (m1.trans m2)) ((Kp.same (M := NoM) (sm.trans m1)).free nt) ?_
      rw [upd_same, plc_of perm srt nd fun z => ?_]
      rw [hks, List.length_map, List.take_length]
      constructor
      · rintro ⟨x, j, h1, h2, h3, h4⟩
        exact ⟨j, h2, barB_iff.mpr ⟨x, (hys x).mp h1, h3⟩, h4⟩
      · rintro ⟨j, h1, h2, h3⟩
        obtain ⟨x, h4, h5⟩ := barB_iff.mp h2
        exact ⟨x, j, (hys x).mpr h4, h1, h5, h3⟩
theorem ok_finest (T : Bi mg) (a0 : At K mg "finest" sFinest pFinest) (cBarredIn : Cal P w K mg base CX0 "barred_in" 3 pBarredIn spBarT) : Cal P w K mg base CX0 "finest" 4 pFinest spFreeT := by
  refine Cal.of a0 scFinest (fun vs H Q E h => ?_) (fun f cdv A outer s H vs Q E hr h => ?_)
  · obtain ⟨a, R, rfl, _⟩ := h
    rfl
  · obtain ⟨a, R, rfl, hra, rs, q⟩ := h
    refine ⟨_, (pss_cons (ps_set (i := 1) scFinest.nd rfl (.inr rfl) (pe_c cBarredIn hr pass0 (pa_cons (pv 0) pa_nil))) -- none = barred_in(rows)
      (pss_one (ps_ret (pe_callTy call_tuple_of (by rfl) T.tuple bo_tuple (pa_cons (pe_lc (own := [("at", 2)]) (g := gName 2) rfl scFinest.nd (pi_range2 (by rfl) T.range (pa_cons pe_int (pa_cons (pe_op op_sub (pe_callB call_len_seq (by rfl) T.len bo_len (pa_cons (pv 0) pa_nil)) pe_int) pa_nil))) (blkOk_by (own := [("at", 2)]) (N := nFinest) (sc := defScope sFinest) (by decide +kernel)) (fun _ _ _ _ _ => (pg_name (i := 2) scFinest.nd rfl (.inl rfl))) (fun _ _ _ _ _ => (pts_one (pt_cmpR (notInK (K := K) rfl) (pv 2) (pv 1) (by rfl)))) (fun _ _ _ _ _ => (pv 2))) pa_nil))))), ?_⟩
    have ln := rs.len
    obtain ⟨xs, hxs, lxs, hrow⟩ := hra
    refine ⟨_, rfl, a, R, rfl, ⟨xs, hxs, lxs, hrow⟩, rs, fun np H1 s1 nnp hnp => ?_⟩
    refine ⟨_, rfl, a, xs, rfl, .inr (SqT.of (s1 _ _ hxs)), ?_⟩
    refine ⟨_, _, rfl, rfl, 1, (xs.length : Int) - 1, rfl, ⟨by decide, by decide, by omega, by omega⟩, fun Dl nDl => ?_⟩
    have en : (((xs.length : Int) - 1) - 1).toNat = R.length - 2 := by omega
    rw [en]
    refine lc_range (lo := 1) (n := R.length - 2) (fun i H' => H' Dl = some (.lst ((plc (i + 1) (freeB R)).map V.int)) ∧ Same H1 H') ⟨by rw [upd_same]; rfl, same_new nDl⟩ (fun i H' hi hP => ?_) (fun H' hP => ?_)
    · obtain ⟨hD, sm⟩ := hP
      refine ⟨rfl, _, rfl, _, rfl, np, _, rfl, .inr (SqT.of (sm _ _ hnp)), rfl, flat_ints _, _, rfl, ?_⟩
      show if (!inV (.int (1 + (i : Nat))) ((plc R.length (barB R)).map V.int)) = true then _ else _
      rw [inV_ints, ← freeB_at hi]
      have lp : (plc (i + 1) (freeB R)).length ≤ i + 1 := plc_len
      have step := plc_succ (n := i + 1) (f := freeB R)
      refine ite2 (fun c => ?_) (fun c => ?_)
      · rw [c, if_pos rfl] at step
        refine ⟨_, rfl, (plc (i + 1) (freeB R)).map V.int, hD, szt (by rw [List.length_map]; omega), ?_, Same.mut (H := H1) sm nDl⟩
        rw [upd_same, step, List.map_append, show (((i + 1 : Nat)) : Int) = 1 + (i : Nat) by omega]
        rfl
      · rw [if_neg c, List.append_nil] at step
        exact ⟨by rw [step]; exact hD, sm⟩
    · obtain ⟨hD, sm⟩ := hP
      rw [fr_range ln.1] at hD
      refine ⟨Dl, _, rfl, .inl ⟨SqL.of hD, fun t nt => ?_⟩⟩
      have m := same_new (o := .tup ((fr R).map V.int)) nt
      exact q t _ (s1.trans (sm.trans m)) ((Kp.same (M := NoM) (s1.trans sm)).free nt) upd_same
end
end K36
namespace K36
open PySem PySem.Spec PyProof.Rows L2
/-! ### lists of ints as data; the heaviest from a place -/
def intsD (l : List Int) : PyData := .list (l.map PyData.int)
theorem ints_lay : ∀ l : List Int, PyData.canLayAll0 (l.map PyData.int) = true
  | [] => by simp [PyData.canLayAll0]
  | z :: l => by
    have ih := ints_lay l
    simp [PyData.canLayAll0, PyData.canLay0]
    simpa using ih
theorem ints_depth : ∀ l : List Int, PyData.depthAll (l.map PyData.int) ≤ 1
  | [] => by simp [PyData.depthAll]
  | z :: l => by
    have ih := ints_depth l
    simp only [List.map_cons, PyData.depthAll, PyData.depth]
    omega
theorem intsD_shaped (l : List Int) : SeqAt.shaped (intsD l) = true := by
  have h1 := ints_depth l
  have h2 : PyData.depth (intsD l) ≤ 64 := by
    simp only [intsD, PyData.depth]
    omega
  show (PyData.canLay0 (intsD l) && decide (PyData.depth (intsD l) ≤ 64)) = true
  rw [Bool.and_eq_true]
  exact ⟨by simp only [intsD, PyData.canLay0]; exact ints_lay l, decide_eq_true h2⟩
theorem Dp_ints {K : PySem.W.Frag} {H : Hp} : ∀ l : List Int, DpAll K H (l.map V.int) (l.map PyData.int)
  | [] => .nil
  | z :: l => .cons (.int z) (Dp_ints l)
theorem Dp_intsL {K : PySem.W.Frag} {H : Hp} {a : Addr} {l : List Int} (h : H a = some (.lst (l.map V.int))) : Dp K H (.ref a) (intsD l) := Dp.lst (SqL.of h) (Dp_ints l)
theorem intsD_eqv : ∀ a b : List Int, PyData.eqv (intsD a) (intsD b) = decide (a = b)
  | [], [] => by simp [intsD, PyData.eqv, PyData.eqvAll]
  | [], _ :: _ => by simp [intsD, PyData.eqv, PyData.eqvAll]
  | _ :: _, [] => by simp [intsD, PyData.eqv, PyData.eqvAll]
  | x :: a, y :: b => by
    have ih := intsD_eqv a b
    simp only [intsD, PyData.eqv] at ih
    simp only [intsD, PyData.eqv, List.map_cons, PyData.eqvAll]
    rw [ih, Bool.eq_iff_iff]
    simp
/-- the heaviest from the head on, cut ahead of the places of c; i: the head's place -/
def hv (c : Nat → Bool) : Nat → List Rw → Nat
  | _, [] => 0
  | i, r :: l => r.wk + if c (i + 1) = true then 0 else hv c (i + 1) l
def hvAt (R : List Rw) (c : Nat → Bool) (i : Nat) : Nat := hv c i (R.drop i)
theorem hvAt_step {R : List Rw} {c : Nat → Bool} {i : Nat} {r : Rw} (h : R[i]? = some r) : hvAt R c i = r.wk + if c (i + 1) = true then 0 else hvAt R c (i + 1) := by
  obtain ⟨l, e⟩ := List.getElem?_eq_some_iff.mp h
  unfold hvAt
  rw [List.drop_eq_getElem_cons l, e]
  rfl
theorem hvAt_end {R : List Rw} {c : Nat → Bool} {i : Nat} (h : R.length ≤ i) : hvAt R c i = 0 := by
  unfold hvAt
  rw [List.drop_eq_nil_of_le h]
  rfl
def inI (ks : List Int) (i : Nat) : Bool := decide (((i : Nat) : Int) ∈ ks)
def hvL (R : List Rw) (ks : List Int) : List Int := (List.range R.length).map fun i => ((hvAt R (inI ks) i : Nat) : Int)
theorem hvL_ext {R : List Rw} {ks fs : List Int} (h : fs.length = R.length) (h2 : ∀ i : Nat, i < R.length → fs[i]? = some ((hvAt R (inI ks) i : Nat) : Int)) : fs = hvL R ks := by
  unfold hvL
  refine List.ext_getElem? fun i => ?_
  rw [List.getElem?_map]
  by_cases c : i < R.length
  · rw [List.getElem?_range c, h2 i c]
    rfl
  · rw [List.getElem?_eq_none (by omega), List.getElem?_eq_none (by rw [List.length_range]; omega)]
    rfl
/-- what stands behind a row -/
def rst (R : List Rw) (ks : List Int) (i : Nat) : List Int := if i + 1 < R.length then (if inI ks (i + 1) = true then [] else [((hvAt R (inI ks) (i + 1) : Nat) : Int)]) else []
theorem rst_max {R : List Rw} {ks : List Int} {i : Nat} {r : Rw} {m : Int} (hr : R[i]? = some r) (h1 : m ∈ rst R ks i ++ [0]) (h2 : ∀ y, y ∈ rst R ks i ++ [0] → y ≤ m) : ((r.wk : Nat) : Int) + m = ((hvAt R (inI ks) i : Nat) : Int) := by
  rw [hvAt_step hr]
  unfold rst at h1 h2
  by_cases c1 : i + 1 < R.length
  · rw [if_pos c1] at h1 h2
    by_cases c2 : inI ks (i + 1) = true
    · rw [if_pos c2] at h1 h2
      rw [if_pos c2]
      have e : m = 0 := by simpa using h1
      omega
    · rw [if_neg c2] at h1 h2
      rw [if_neg c2]
      have h3 := h2 _ (by simp : ((hvAt R (inI ks) (i + 1) : Nat) : Int) ∈ _)
      have h4 : m = ((hvAt R (inI ks) (i + 1) : Nat) : Int) ∨ m = 0 := by simpa using h1
      rcases h4 with h4 | h4 <;> omega
  · rw [if_neg c1] at h1 h2
    have e : m = 0 := by simpa using h1
    rw [hvAt_end (i := i + 1) (by omega)]
    split <;> omega
end K36
namespace K36
open PySem PySem.Spec PyProof.Rows L2
/-! ### the heaviest from each row (the law's) -/
/-- ints in a list or in a tuple -/
def LT (H : Hp) (c : Addr) (ks : List Int) : Prop := H c = some (.lst (ks.map V.int)) ∨ H c = some (.tup (ks.map V.int))
theorem LT.sm {H H' : Hp} {c : Addr} {ks : List Int} (s : Same H H') (h : LT H c ks) : LT H' c ks := h.elim (fun h => .inl (s _ _ h)) fun h => .inr (s _ _ h)
def spHeavyL : Sp := fun vs H Q _ => ∃ (a c : Addr) (R : List Rw) (ks : List Int), vs = [.ref a, .ref c] ∧ RowsAt H a R ∧ RS R ∧ LT H c ks ∧ ∀ p H', Same H H' → H p = none → H' p = some (.lst ((hvL R ks).map V.int)) → Q (.ref p) H'
section
variable {P : Program} {w : World} {K : PySem.W.Frag} {mg : Str → Option Value} {base : Heap}
-- _law_heaviest (printed by gen.py); slots: 0 _law_rows_here, 1 _law_cuts*, 2 _law_row, 3 _law_found*, 4 _law_turn, 5 _law_before, 6 _law_at, 7 _law_behind, 8 _law_k
abbrev nLHeaviest : List Str := ["_law_rows_here", "_law_cuts", "_law_row", "_law_found", "_law_turn", "_law_before", "_law_at", "_law_behind", "_law_k"]
abbrev pLHeaviest : List Str := ["_law_rows_here", "_law_cuts"]
theorem scLHeaviest : FnScope nLHeaviest pLHeaviest (defScope sLHeaviest) := ⟨rfl, rfl, rfl, by decide +kernel, rfl, by decide +kernel, by decide +kernel⟩
theorem ok_heaviest (T : Bi mg) (a0 : At K mg "_law_heaviest" sLHeaviest pLHeaviest) (cLLeads : Cal P w K mg base CX0 "_law_leads" 1 pLLeads spLeadsL) (cLWork : Cal P w K mg base CX0 "_law_work" 7 pLWork spWork) :
    Cal P w K mg base CX0 "_law_heaviest" 8 pLHeaviest spHeavyL := by
  refine Cal.of a0 scLHeaviest (fun vs H Q E h => ?_) (fun f cdv A outer s H vs Q E hr h => ?_)
  · obtain ⟨a, c, R, ks, rfl, _⟩ := h
    rfl
  · obtain ⟨a, c, R, ks, rfl, ⟨xs, hxs, lxs, hrow⟩, rs, hc, q⟩ := h
    have ln := rs.len
    refine ⟨_, (pss_cons (ps_set (i := 3) scLHeaviest.nd rfl (.inr rfl) (pe_lc (own := [("_law_row", 2)]) (g := gName 2) rfl scLHeaviest.nd (pi_tup (pv 0)) (blkOk_by (own := [("_law_row", 2)]) (N := nLHeaviest) (sc := defScope sLHeaviest) (by decide +kernel)) (fun _ _ _ _ _ => (pg_name (i := 2) scLHeaviest.nd rfl (.inl rfl))) (fun _ _ _ _ _ => pts_nil) (fun _ _ _ _ _ => pe_int))) -- _law_found = [0 for _law_row in _law_rows_here]
      (pss_cons (ps_for PassesOwn.never rfl (pi_tup (pv 0)) (pg_name (i := 4) scLHeaviest.nd rfl (.inl rfl))
        (pss_cons (ps_set (i := 5) scLHeaviest.nd rfl (.inl rfl) (pe_callTy call_list_of (by rfl) T.list bo_list (pa_cons (pv 3) pa_nil))) -- _law_before = list(_law_found)
        (pss_cons (ps_for PassesOwn.never rfl (RT.pi_revA (by rfl) T.reversed (pe_listEn rfl (pv 0) (by rfl) T.list (by rfl) T.enumerate)) (pg_tup rfl (pgs_cons (pg_name (i := 6) scLHeaviest.nd rfl (.inl rfl)) (pgs_cons (pg_name (i := 2) scLHeaviest.nd rfl (.inl rfl)) pgs_nil)))
          (pss_cons (ps_setLc (i := 7) (own := [("_law_k", 8)]) (g := gName 8) rfl scLHeaviest.nd rfl rfl (sw_true rfl rfl rfl (by decide +kernel)) (pi_list (pe_c cLLeads hr pass0 (pa_cons (pv 2) pa_nil))) (blkOk_by (own := [("_law_k", 8)]) (N := nLHeaviest) (sc := defScope sLHeaviest) (by decide +kernel)) (fun _ _ _ _ _ => (pg_name (i := 8) scLHeaviest.nd rfl (.inl rfl))) (fun _ _ _ _ _ => (pts_one (PW.pt (pw_and (pt_cmpR op_ne (pv 8) pe_int (nomark _)) (pw_and1 (pt_cmpR (notInK (K := K) rfl) (pv 8) (pv 1) (by rfl))))))) (fun _ _ _ _ _ => (pe_ix (ixL (K := K) rfl) (pv 3) (pv 8) (fun _ _ => rfl)))) -- _law_behind = [_law_found[_law_k] for _law_k in _law_leads(_law_row) if _law_k != 0 and _law_k not in _law_cut
          (pss_one (ps_asg (pe_op op_add (pe_c cLWork hr pass0 (pa_cons (pv 2) pa_nil)) (pe_callB (cr_max rfl) (by rfl) T.max bo_max (pa_cons (pe_op op_cat (pv 7) (pe_lst (pa_cons pe_int pa_nil))) pa_nil))) (pg_sub (pv 3) (pv 6) set_list))))) -- for _law_at, _law_row in reversed(list(enumerate(_law_rows_here))):
        (pss_one (ps_if (pt_cmpR (op_eqD hr.units) (pv 5) (pv 3) (nomark _))
          (pss_one (ps_ret (pv 3)))
          pss_nil))))) -- for _law_turn in _law_rows_here:
      (pss_one (ps_ret (pv 3))))), ?_⟩
    refine ⟨_, rfl, a, rfl, ⟨_, SqT.of hxs⟩, fun fo nfo => ?_⟩
    refine lc_tup (fun j H' => H' fo = some (.lst ((List.replicate j (0 : Int)).map V.int)) ∧ Same H H') ⟨upd_same, same_new nfo⟩ (fun j H' _ hP => SqT.of (hP.2 _ _ hxs)) (fun j v H' hj hP => ?_) (fun H1 hP => ?_)
    · obtain ⟨hb, sm⟩ := hP
      have lj : j < R.length := by rw [← lxs]; exact (List.getElem?_eq_some_iff.mp hj).1
      refine ⟨rfl, (List.replicate j (0 : Int)).map V.int, hb, szt (by rw [List.length_map, List.length_replicate]; omega), ?_, Same.mut (H := H) sm nfo⟩
      rw [upd_same, List.replicate_succ', List.map_append]
      rfl
    · obtain ⟨hb, sm⟩ := hP
      rw [lxs] at hb
      refine ⟨_, rfl, a, rfl, ⟨xs, SqT.of (sm _ _ hxs)⟩, for_tup (fun i σ' H' => ∃ (y2 y4 y5 y6 y7 : Option V) (fs : List Int), σ' = [some (.ref a), some (.ref c), y2, some (.ref fo), y4, y5, y6, y7, none] ∧ fs.length = R.length ∧ H' fo = some (.lst (fs.map V.int)) ∧ Same H H' ∧ (i = 0 ∨ fs = hvL R ks)) ⟨_, _, _, _, _, List.replicate R.length 0, rfl, List.length_replicate, hb, sm, .inl rfl⟩ (fun i σ' H' _ hP => by obtain ⟨_, _, _, _, _, _, _, _, _, s, _⟩ := hP; exact SqT.of (s _ _ hxs)) (fun i v σ' H2 hv hP => ?_) (fun σ' H2 hP => ?_)⟩
      · obtain ⟨y2, y4, y5, y6, y7, fs, rfl, lf, hf, sm, hi⟩ := hP
        refine ⟨_, rfl, fo, _, rfl, .inl (SqL.of hf), fun bf nbf => ?_⟩
        have m2 := same_new (o := .lst (fs.map V.int)) nbf
        refine ⟨_, rfl, a, xs, rfl, SqT.of ((sm.trans m2) _ _ hxs), fun H3 p ts s3 np hp lts hts => ⟨p, _, rfl, .inl ⟨SqL.of hp, ?_⟩⟩⟩
        have hf3 := (m2.trans s3) _ _ hf
        have hbf3 := s3 _ _ (upd_same (H := H2) (a := bf) (o := .lst (fs.map V.int)))
        have k3 : Kp NoM H H3 := Kp.same (sm.trans (m2.trans s3))
        have npF : p ≠ fo := (ne_of_none (m2 _ _ hf) np).symm
        have nbF : bf ≠ fo := (ne_of_none hf nbf).symm
        have ltR : (ts.map V.ref).length = R.length := by rw [List.length_map, lts, lxs]
        refine RT.for_Itv (fun i σ' H' => ∃ (y2 y6 y7 : Option V) (gs : List Int), σ' = [some (.ref a), some (.ref c), y2, some (.ref fo), some v, some (.ref bf), y6, y7, none] ∧ gs.length = R.length ∧ H' fo = some (.lst (gs.map V.int)) ∧ Kp NoM H H' ∧ TL H3 H' ∧ H' p = some (.lst (ts.map V.ref)) ∧ H' bf = some (.lst (fs.map V.int)) ∧ ∀ j : Nat, R.length - i ≤ j → j < R.length → gs[j]? = some ((hvAt R (inI ks) j : Nat) : Int))
          ⟨y2, y6, y7, fs, rfl, lf, hf3, k3, TL.refl _, hp, hbf3, fun j h1 h2 => by omega⟩ (fun i σ' H' hP => by obtain ⟨_, _, _, _, _, _, _, _, _, h, _⟩ := hP; exact SqL.of h) (fun i v' σ' H4 hi hv hP => ?_) (fun σ' H4 hP => ?_)
        · obtain ⟨z2, z6, z7, gs, rfl, lg, hg, k4, t34, hp4, hbf4, htail⟩ := hP
          rw [ltR] at hi hv
          generalize hat : R.length - 1 - i = at' at hv
          have la : at' < R.length := by omega
          obtain ⟨t, ht, rfl⟩ : ∃ t, ts[at']? = some t ∧ v' = V.ref t := by
            rw [List.getElem?_map] at hv
            cases ht : ts[at']? with
            | none => rw [ht] at hv; cases hv
            | some t => rw [ht] at hv; exact ⟨t, rfl, (Option.some.inj hv).symm⟩
          obtain ⟨y, hy, htt⟩ := hts at' t ht
          have hr0 : R[at']? = some R[at'] := List.getElem?_eq_getElem la
          obtain ⟨y', hy', hra0⟩ := hrow at' _ hr0
          have eyy : y = y' := Option.some.inj (hy.symm.trans hy')
          rw [← eyy] at hra0
          have okr : R[at'].ok6 := rs.ok _ (List.getElem_mem la)
          generalize R[at'] = r at hr0 hra0 okr
          have hra := hra0.tl k4.t
          obtain ⟨ra, wd, tl, rfl, _⟩ := hra.sure
          refine ⟨t, _, rfl, SqT.of (t34 _ _ htt), rfl, _, _, rfl, _, _, rfl, rfl, ?_⟩
          refine ⟨_, rfl, ra, at', r, rfl, hra, fun lp H5 s5 nlp hlp => ⟨lp, rfl, ⟨_, SqL.of hlp⟩, fun Dl nDl => ?_⟩⟩
          have k5 := k4.trans (Kp.same s5)
          have m6 := same_new (o := .lst []) nDl
          refine lc_list (fun j H' => H' Dl = some (.lst (((nx r at').take j).flatMap fun _ => (rst R ks at').map V.int)) ∧ Same H5 H') ⟨upd_same, m6⟩ (fun j H' _ hP => SqL.of (hP.2 _ _ hlp)) (fun j u H' hj hP => ?_) (fun H6 hP => ?_)
          · obtain ⟨e0, ev, en⟩ := nx_at hj
            obtain ⟨hD, sm6⟩ := hP
            subst e0
            subst ev
            rw [en] at hD ⊢
            have hg6 := (s5.trans sm6) _ _ hg
            have hc6 := LT.sm (k5.toSame.trans sm6) hc
            have nz : V.int ((at' : Int) + 1) ≠ V.int 0 := fun h => by
              have := V.int.inj h
              omega
            have nlast : at' + 1 < R.length := by
              have h1 : at' + 1 ≠ R.length := fun h => by
                rw [(rs.fin hr0).mpr h] at en
                cases en
              omega
            have ei : inI ks (at' + 1) = decide (((at' : Int) + 1) ∈ ks) := by
              unfold inI
              rw [show ((at' + 1 : Nat) : Int) = (at' : Int) + 1 by omega]
            have vr : rst R ks at' = if inI ks (at' + 1) = true then [] else [((hvAt R (inI ks) (at' + 1) : Nat) : Int)] := if_pos nlast
            refine ⟨rfl, _, rfl, rfl, _, rfl, ?_⟩
            rw [show (!decide (V.int ((at' : Int) + 1) = V.int 0)) = true by rw [decide_eq_false nz]; rfl]
            refine ⟨_, rfl, _, rfl, c, ks.map V.int, rfl, hc6.elim (fun h => .inl (SqL.of h)) (fun h => .inr (SqT.of h)), rfl, flat_ints _, _, rfl, ?_⟩
            rw [inV_ints]
            rw [← ei]
            rw [vr]
            cases inI ks (at' + 1) with
            | true => exact ⟨by rw [hD]; rfl, sm6⟩
            | false =>
              refine ⟨_, rfl, _, rfl, fo, gs.map V.int, _, .int ((hvAt R (inI ks) (at' + 1) : Nat) : Int), rfl, rfl, SqL.of hg6, at_nat (j := at' + 1) (by omega) (by rw [List.getElem?_map, htail (at' + 1) (by omega) nlast]; rfl), [], hD, by decide, ?_, Same.mut (H := H5) sm6 nDl⟩
              rw [upd_same]
              rfl
          · obtain ⟨hD, sm6⟩ := hP
            rw [List.take_length] at hD
            have val : H6 Dl = some (.lst ((rst R ks at').map V.int)) := by
              rw [hD]
              by_cases cf : r = .fin
              · have e1 := (rs.fin hr0).mp cf
                have e2 : rst R ks at' = [] := if_neg (by omega)
                rw [cf, e2]
                rfl
              · rw [nx_ne cf]
                exact congrArg (fun x => some (HO.lst x)) (List.append_nil _)
            have hra6 := hra.tl ((TL.of s5).trans (TL.of sm6))
            refine ⟨_, rfl, ra, at', r, rfl, hra6, okr, fun H7 s7 => ?_⟩
            have val7 := s7 _ _ val
            have lr : (rst R ks at').length ≤ 1 := by
              unfold rst
              split
              · split
                · exact Nat.zero_le _
                · exact Nat.le_refl _
              · exact Nat.zero_le _
            refine ⟨_, rfl, (by show 1 ≤ sizeLine; decide), fun zp nzp => ?_⟩
            have m8 := same_new (o := .lst [.int 0]) nzp
            refine ⟨Dl, zp, (rst R ks at').map V.int, [.int 0], rfl, rfl, m8 _ _ val7, upd_same, szl (by rw [List.length_map]; show _ + 1 ≤ _; omega), fun mp nmp => ?_⟩
            have m9 := same_new (o := .lst ((rst R ks at').map V.int ++ [.int 0])) nmp
            refine ⟨mp, rst R ks at' ++ [0], rfl, SqL.of (by rw [upd_same, List.map_append]; rfl), by rw [List.length_append]; show 0 < _ + 1; omega, fun m h1 h2 => ?_⟩
            have em := rst_max hr0 h1 h2
            have s59 := sm6.trans (s7.trans (m8.trans m9))
            have hg9 := (s5.trans s59) _ _ hg
            have k9 := k5.trans (Kp.same s59)
            refine ⟨_, _, rfl, rfl, ?_⟩
            refine ⟨_, rfl, _, rfl, fo, gs.map V.int, _, at', rfl, rfl, hg9, Evl.ixN_nat (by rw [List.length_map]; omega), ?_⟩
            rw [← List.map_set]
            have kf : Kp (Is fo) _ (upd _ fo (.lst ((gs.set at' ((r.wk : Nat) + m)).map V.int))) := Kp.upd (M := Is fo) rfl hg9 lst_ne_tup
            refine ⟨_, _, _, gs.set at' ((r.wk : Nat) + m), rfl, by rw [List.length_set]; exact lg, upd_same, k9.mut nfo, (t34.trans (TL.of (s5.trans s59))).trans kf.t, by rw [upd_ne npF]; exact (s5.trans s59) _ _ hp4, by rw [upd_ne nbF]; exact (s5.trans s59) _ _ hbf4, fun j j1 j2 => ?_⟩
            by_cases e : j = at'
            · rw [e, ← em]
              exact List.getElem?_set_self (by omega)
            · rw [List.getElem?_set_ne (Ne.symm e)]
              exact htail j (by omega) j2
        · obtain ⟨z2, z6, z7, gs, rfl, lg, hg, k4, t34, hp4, hbf4, htail⟩ := hP
          rw [ltR] at htail
          have e : gs = hvL R ks := hvL_ext lg fun j hj => htail j (by omega) hj
          refine ⟨_, rfl, _, rfl, intsD fs, intsD gs, Dp_intsL hbf4, Dp_intsL hg, intsD_shaped _, intsD_shaped _, _, rfl, ?_⟩
          refine ite2 (fun c => ?_) (fun c => ?_)
          · exact ⟨_, rfl, q fo H4 k4.toSame nfo (by rw [hg, e])⟩
          · exact ⟨_, _, _, _, _, gs, rfl, lg, hg, k4.toSame, .inr e⟩
      · obtain ⟨y2, y4, y5, y6, y7, fs, rfl, lf, hf, sm, hi⟩ := hP
        have e := hi.resolve_left (by omega)
        refine ⟨_, rfl, q fo H2 sm nfo (by rw [hf, e])⟩
end
end K36
namespace K36
open PySem PySem.Spec PyProof.Rows L2
/-! ### classes that are made by their names -/
structure KAt (K : PySem.W.Frag) (mg : Str → Option Value) (C : Str) (st : Stmt) (dvs : List V) (ps : List Str) : Prop where
  ex : ∃ f fd, FnP K "__init__" (C ++ ".__init__") st dvs f fd ∧ Mk K (He.ga K C) f ∧ mg C = some (.ref (He.ga K C)) ∧ Binds K fd ps []
structure KCal (P : Program) (w : World) (K : PySem.W.Frag) (mg : Str → Option Value) (base : Heap) (CX : CXT) (C : Str) (k : Nat) (ps : List Str) (sp : Sp) : Prop where
  ex : ∃ f fd, Mk K (He.ga K C) f ∧ mg C = some (.ref (He.ga K C)) ∧ Binds K fd ps [] ∧ FnOk P w K mg base CX k f fd ps sp
section
variable {P : Program} {w : World} {K : PySem.W.Frag} {mg : Str → Option Value} {base : Heap} {C : Str} {st : Stmt} {dvs : List V} {N ps : List Str} {k : Nat} {sp : Sp}
theorem KCal.of (a : KAt K mg C st dvs ps) (S : FnScope N ps (defScope st)) (len : ∀ vs H Q E, sp vs H Q E → vs.length = ps.length)
    (hbody : ∀ (f : Addr) (cdv : Value) (A : Around) (outer : List Env) (s : Shared) (H : Hp) (vs : List V) (Q : VK) (E : XK), Room k (A.deeper (envOfC (C ++ ".__init__") (defScope st) s.heap.objs.size f cdv)) → sp vs H Q E →
      ∃ t, PSs (cxOf CX0 P w K mg base N (C ++ ".__init__") (defScope st) f cdv A outer s H E).nox (defBody st) t ∧ t { nx := fun _ H' => Q .non H', rt := Q } (start N vs) H) : KCal P w K mg base CX0 C (k + 1) ps sp := by
  obtain ⟨f, fd, F, M, g, b⟩ := a.ex
  refine ⟨f, fd, M, g, b, F.ok S len fun cdv A outer s H vs Q E hr h => ?_⟩
  obtain ⟨t, h1, h2⟩ := hbody f cdv A outer s H vs Q E hr h
  exact ⟨t, h1.nox, h2⟩
theorem KCal.mono {CX : CXT} {j : Nat} (c : KCal P w K mg base CX C j ps sp) (h : j ≤ k) : KCal P w K mg base CX C k ps sp := by
  obtain ⟨f, fd, h1, h2, h3, h4⟩ := c.ex
  exact ⟨f, fd, h1, h2, h3, h4.mono h⟩
end
section
variable {X : Cx} {CX : CXT} {k j : Nat} {ps : List Str} {sp : Sp} {E : XK} {C : Str} {p pos : Pos} {e : Expr} {es : List Expr} {t : TA}
/-- C(e, ..) -/
theorem pe_k (c : KCal X.prog X.w X.K X.mg X.base CX C j ps sp) (hr : Room k X.A) (hx : Passes CX X E) (ha : PA X (e :: es) t) (hj : j + 1 ≤ k := by first | decide | omega) (hg : Gl X C := by rfl)
    (hdb : (C == ("__debug__" : Str)) = false := by decide) (he : starEach (e :: es) X.env = (false, eval e X.env) :: starEach es X.env := by rfl) (hpl : (backTo pos (starEach es X.env)).any (·.1) = false := by rfl) :
    PE X (.Call (.Name C p) (e :: es) [] pos) (tMake (He.ga X.K C) sp [] E t) := by
  obtain ⟨f, fd, h1, h2, h3, h4⟩ := c.ex
  exact pe_make h1 h4 (hr.mono hj) hg h2 h3 .nil hx ha hdb he hpl
end
/-! ### limits -/
structure LimC (K : PySem.W.Frag) : Prop where
  c : Cls K (He.ga K "Limits")
  n1 : NoAttr K (He.ga K "Limits") "charge"
  n2 : NoAttr K (He.ga K "Limits") "opening"
  n3 : NoAttr K (He.ga K "Limits") "putting"
def LimAt (K : PySem.W.Frag) (H : Hp) (l : Addr) (ch op pu : Int) : Prop := ∃ dx fs, H l = some (.ins (He.ga K "Limits") dx fs) ∧ fs.lookup ("charge" : Str) = some (V.int ch) ∧ fs.lookup ("opening" : Str) = some (V.int op) ∧ fs.lookup ("putting" : Str) = some (V.int pu) ∧ fs.lookup ("taken" : Str) = none
theorem LimAt.sm {K : PySem.W.Frag} {H H' : Hp} {l : Addr} {ch op pu : Int} (s : Same H H') (h : LimAt K H l ch op pu) : LimAt K H' l ch op pu := by
  obtain ⟨dx, fs, h1, h2⟩ := h
  exact ⟨dx, fs, s _ _ h1, h2⟩
def spLimits (K : PySem.W.Frag) : Sp := fun vs H Q _ => ∃ (l dx : Addr) (ch op pu : Int), vs = [.ref l, .int ch, .int op, .int pu] ∧ H l = some (.ins (He.ga K "Limits") dx []) ∧ ∀ H', (∀ b, b ≠ l → H' b = H b) → LimAt K H' l ch op pu → Q .non H'
def spTaken (K : PySem.W.Frag) : Sp := fun vs H Q _ => ∃ (l : Addr) (ch op pu n : Int), vs = [.ref l, .int n] ∧ LimAt K H l ch op pu ∧ Q (.int (op + n + pu)) H
/-- the works of rows, added up -/
def wkAt (R : List Rw) (j : Nat) : Nat := match R[j]? with
  | some r => r.wk
  | none => 0
def wkS (R : List Rw) (js : List Nat) : Nat := (js.map (wkAt R)).sum
def spAlong : Sp := fun vs H Q _ => ∃ (a c : Addr) (R : List Rw) (js : List Nat), vs = [.ref a, .ref c] ∧ RowsAt H a R ∧ RS R ∧ H c = some (.tup (js.map fun j => V.int (j : Nat))) ∧ (∀ j ∈ js, j < R.length) ∧ js.length ≤ 60 ∧ ∀ H', Same H H' → Q (.int (wkS R js : Nat)) H'
def spTooHeavy (K : PySem.W.Frag) : Sp := fun vs H Q _ => ∃ (a l c : Addr) (ch op pu : Int) (R : List Rw) (js : List Nat), vs = [.ref a, .ref l, .ref c] ∧ RowsAt H a R ∧ RS R ∧ LimAt K H l ch op pu ∧ H c = some (.tup (js.map fun j => V.int (j : Nat))) ∧ (∀ j ∈ js, j < R.length) ∧ js.length ≤ 60 ∧
  ∀ H', Same H H' → Q (.bl (decide (op + (wkS R js : Nat) + pu > ch))) H'
section
variable {P : Program} {w : World} {K : PySem.W.Frag} {mg : Str → Option Value} {base : Heap}
-- Limits.__init__ (printed by gen.py); slots: 0 self, 1 charge, 2 opening, 3 putting
abbrev nLimitsInit : List Str := ["self", "charge", "opening", "putting"]
abbrev pLimitsInit : List Str := ["self", "charge", "opening", "putting"]
theorem scLimitsInit : FnScope nLimitsInit pLimitsInit (defScope sLimitsInit) := ⟨rfl, rfl, rfl, by decide +kernel, rfl, by decide +kernel, by decide +kernel⟩
-- Limits.taken (printed by gen.py); slots: 0 self, 1 work
abbrev nLimitsTaken : List Str := ["self", "work"]
abbrev pLimitsTaken : List Str := ["self", "work"]
theorem scLimitsTaken : FnScope nLimitsTaken pLimitsTaken (defScope sLimitsTaken) := ⟨rfl, rfl, rfl, by decide +kernel, rfl, by decide +kernel, by decide +kernel⟩
-- work_along (printed by gen.py); slots: 0 rows*, 1 way, 2 at
abbrev nWorkAlong : List Str := ["rows", "way", "at"]
abbrev pWorkAlong : List Str := ["rows", "way"]
theorem scWorkAlong : FnScope nWorkAlong pWorkAlong (defScope sWorkAlong) := ⟨rfl, rfl, rfl, by decide +kernel, rfl, by decide +kernel, by decide +kernel⟩
-- too_heavy (printed by gen.py); slots: 0 rows, 1 limits, 2 way
abbrev nTooHeavy : List Str := ["rows", "limits", "way"]
abbrev pTooHeavy : List Str := ["rows", "limits", "way"]
theorem scTooHeavy : FnScope nTooHeavy pTooHeavy (defScope sTooHeavy) := ⟨rfl, rfl, rfl, by decide +kernel, rfl, by decide +kernel, by decide +kernel⟩
theorem ok_limits (LC : LimC K) (a0 : KAt K mg "Limits" sLimitsInit [.int 1, .int 1] pLimitsInit) : KCal P w K mg base CX0 "Limits" 1 pLimitsInit (spLimits K) := by
  refine KCal.of a0 scLimitsInit (fun vs H Q E h => ?_) (fun f cdv A outer s H vs Q E hr h => ?_)
  · obtain ⟨l, dx, ch, op, pu, rfl, _⟩ := h
    rfl
  · obtain ⟨l, dx, ch, op, pu, rfl, hl, q⟩ := h
    refine ⟨_, (pss_cons (ps_fld (pv 0) (pv 1) rfl) -- self.charge = charge
      (pss_cons (ps_fld (pv 0) (pv 2) rfl) -- self.opening = opening
      (pss_one (ps_fld (pv 0) (pv 3) rfl)))), ?_⟩
    refine ⟨_, rfl, _, rfl, l, _, dx, _, rfl, hl, LC.c, LC.n1, (by show 0 < 1000; decide), ?_⟩
    refine ⟨_, rfl, _, rfl, l, _, dx, _, rfl, upd_same, LC.c, LC.n2, (by show 1 < 1000; decide), ?_⟩
    refine ⟨_, rfl, _, rfl, l, _, dx, _, rfl, upd_same, LC.c, LC.n3, Nat.lt_of_le_of_lt (Nat.le_trans (length_putF _ _ _) (Nat.succ_le_succ (length_putF _ _ _))) (by show 0 + 1 + 1 < 1000; decide), ?_⟩
    refine q _ (fun b n => by rw [upd_ne n, upd_ne n, upd_ne n]) ⟨dx, _, upd_same, ?_, ?_, ?_, ?_⟩
    · rw [lookup_putF, if_neg (by decide +kernel), lookup_putF, if_neg (by decide +kernel), lookup_putF, if_pos rfl]
    · rw [lookup_putF, if_neg (by decide +kernel), lookup_putF, if_pos rfl]
    · rw [lookup_putF, if_pos rfl]
    · rw [lookup_putF, if_neg (by decide +kernel), lookup_putF, if_neg (by decide +kernel), lookup_putF, if_neg (by decide +kernel)]
      rfl
theorem ok_taken (LC : LimC K) (a0 : MAt K "Limits" "taken" sLimitsTaken pLimitsTaken) : MCal P w K mg base CX0 "Limits" "taken" 1 pLimitsTaken (spTaken K) := by
  refine MCal.of a0 scLimitsTaken (fun vs H Q E h => ?_) (fun f cdv A outer s H vs Q E hr h => ?_)
  · obtain ⟨l, ch, op, pu, n, rfl, _⟩ := h
    rfl
  · obtain ⟨l, ch, op, pu, n, rfl, ⟨dx, fs, hl, h1, h2, h3, h4⟩, q⟩ := h
    refine ⟨_, (pss_one (ps_ret (pe_op op_add (pe_op op_add (pe_fld (pv 0) rfl) (pv 1)) (pe_fld (pv 0) rfl)))), ?_⟩
    refine ⟨_, rfl, l, _, dx, fs, _, rfl, hl, LC.c, LC.n2, h2, _, rfl, _, _, rfl, rfl, _, rfl, l, _, dx, fs, _, rfl, hl, LC.c, LC.n3, h3, _, _, rfl, rfl, q⟩
theorem ok_along (T : Bi mg) (a0 : At K mg "work_along" sWorkAlong pWorkAlong) (cWorkOf : Cal P w K mg base CX0 "work_of" 7 pWorkOf spWork) : Cal P w K mg base CX0 "work_along" 8 pWorkAlong spAlong := by
  refine Cal.of a0 scWorkAlong (fun vs H Q E h => ?_) (fun f cdv A outer s H vs Q E hr h => ?_)
  · obtain ⟨a, c, R, js, rfl, _⟩ := h
    rfl
  · obtain ⟨a, c, R, js, rfl, ⟨xs, hxs, lxs, hrow⟩, rs, hc, hjs, lj, q⟩ := h
    refine ⟨_, (pss_one (ps_ret (pe_callB (cr_sum rfl) (by rfl) T.sum bo_sum (pa_cons (pe_lc (own := [("at", 2)]) (g := gName 2) rfl scWorkAlong.nd (pi_tup (pv 1)) (blkOk_by (own := [("at", 2)]) (N := nWorkAlong) (sc := defScope sWorkAlong) (by decide +kernel)) (fun _ _ _ _ _ => (pg_name (i := 2) scWorkAlong.nd rfl (.inl rfl))) (fun _ _ _ _ _ => pts_nil) (fun _ _ _ _ _ => (pe_c cWorkOf hr pass0 (pa_cons (pe_ix (ixT (K := K) rfl) (pv 0) (pv 2) (fun _ _ => rfl)) pa_nil)))) pa_nil)))), ?_⟩
    refine ⟨_, rfl, c, rfl, ⟨_, SqT.of hc⟩, fun fo nfo => ?_⟩
    refine lc_tup (fun j H' => H' fo = some (.lst (((js.take j).map fun j => ((wkAt R j : Nat) : Int)).map V.int)) ∧ Same H H') ⟨upd_same, same_new nfo⟩ (fun j H' _ hP => SqT.of (hP.2 _ _ hc)) (fun j v H' hj hP => ?_) (fun H1 hP => ?_)
    · obtain ⟨hb, sm⟩ := hP
      obtain ⟨i, hi, rfl⟩ : ∃ i, js[j]? = some i ∧ v = V.int (i : Nat) := by
        rw [List.getElem?_map] at hj
        cases hi : js[j]? with
        | none => rw [hi] at hj; cases hj
        | some i => rw [hi] at hj; exact ⟨i, rfl, (Option.some.inj hj).symm⟩
      have li := hjs i (List.mem_of_getElem? hi)
      have lj' := (List.getElem?_eq_some_iff.mp hi).1
      obtain ⟨v', hv', hr0⟩ := hrow i R[i] (List.getElem?_eq_getElem li)
      have ew : wkAt R i = R[i].wk := by
        unfold wkAt
        rw [List.getElem?_eq_getElem li]
      have hr1 := hr0.tl (TL.of sm)
      obtain ⟨ra, wd, tl, rfl, _⟩ := hr1.sure
      refine ⟨rfl, _, rfl, _, rfl, a, xs, _, _, rfl, rfl, SqT.of (sm _ _ hxs), at_nat (j := i) rfl hv', ?_⟩
      refine ⟨ra, i, R[i], rfl, hr1, rs.ok _ (List.getElem_mem li), fun H2 s2 => ⟨_, s2 _ _ hb, szt (by rw [List.length_map, List.length_map, List.length_take]; omega), ?_, Same.mut (H := H) (sm.trans s2) nfo⟩⟩
      rw [upd_same, List.take_add_one, hi, List.map_append, List.map_append, ← ew]
      rfl
    · obtain ⟨hb, sm⟩ := hP
      rw [List.length_map, List.take_length] at hb
      refine ⟨fo, _, rfl, SqL.of hb, ?_⟩
      have e : (js.map fun j => ((wkAt R j : Nat) : Int)).sum = ((wkS R js : Nat) : Int) := by
        unfold wkS
        clear hc hjs lj q hb
        induction js with
        | nil => rfl
        | cons j js ih =>
          rw [List.map_cons, List.map_cons, List.sum_cons, List.sum_cons, ih]
          omega
      rw [e]
      exact q H1 sm
theorem ok_tooHeavy (LC : LimC K) (CL : Cls K (He.ga K "Limits")) (a0 : At K mg "too_heavy" sTooHeavy pTooHeavy) (cWorkAlong : Cal P w K mg base CX0 "work_along" 8 pWorkAlong spAlong) (cTaken : MCal P w K mg base CX0 "Limits" "taken" 1 pLimitsTaken (spTaken K)) :
    Cal P w K mg base CX0 "too_heavy" 9 pTooHeavy (spTooHeavy K) := by
  refine Cal.of a0 scTooHeavy (fun vs H Q E h => ?_) (fun f cdv A outer s H vs Q E hr h => ?_)
  · obtain ⟨a, l, c, ch, op, pu, R, js, rfl, _⟩ := h
    rfl
  · obtain ⟨a, l, c, ch, op, pu, R, js, rfl, hR, rs, hl, hc, hjs, lj, q⟩ := h
    refine ⟨_, (pss_one (ps_ret (pe_cmpR op_gt (pe_m cTaken CL hr pass0 (pv 1) (pa_cons (pe_c cWorkAlong hr pass0 (pa_cons (pv 0) (pa_cons (pv 2) pa_nil))) pa_nil)) (pe_fld (pv 1) rfl) (nomark _)))), ?_⟩
    obtain ⟨dx, fs, hl1, hl2⟩ := id hl
    refine ⟨_, rfl, l, dx, fs, rfl, hl1, hl2.2.2.2, _, rfl, _, rfl, a, c, R, js, rfl, hR, rs, hc, hjs, lj, fun H' s' => ?_⟩
    refine ⟨l, ch, op, pu, _, rfl, LimAt.sm s' hl, _, rfl, l, _, dx, fs, _, rfl, s' _ _ hl1, LC.c, LC.n1, hl2.1, _, _, rfl, rfl, q H' s'⟩
end
end K36
namespace K36
open PySem PySem.Spec PyProof.Rows L2
/-! ### the fewest cuts: the mathematics -/
/-- the works of the rows from b on, e of them left out -/
def wkR (R : List Rw) (b e : Nat) : Nat := wkS R (List.range' b (e - b))
theorem wkR_nil {R : List Rw} {b e : Nat} (h : e ≤ b) : wkR R b e = 0 := by
  unfold wkR
  rw [Nat.sub_eq_zero_of_le h]
  rfl
theorem wkR_snoc {R : List Rw} {b e : Nat} (h : b ≤ e) : wkR R b (e + 1) = wkR R b e + wkAt R e := by
  unfold wkR wkS
  rw [show e + 1 - b = (e - b) + 1 from by omega, List.range'_concat, List.map_append, List.sum_append]
  simp
  rw [show b + (e - b) = e from by omega]
theorem wkR_cons {R : List Rw} {b e : Nat} (h : b < e) : wkR R b e = wkAt R b + wkR R (b + 1) e := by
  unfold wkR wkS
  rw [show e - b = (e - (b + 1)) + 1 from by omega, List.range'_succ, List.map_cons, List.sum_cons]
theorem wkR_le {R : List Rw} {b e e' : Nat} (h : e ≤ e') : wkR R b e ≤ wkR R b e' := by
  induction e' with
  | zero =>
    rw [show e = 0 from by omega]
    exact Nat.le_refl _
  | succ n ih =>
    by_cases c : e = n + 1
    · rw [c]
      exact Nat.le_refl _
    · have i := ih (by omega)
      by_cases d : b ≤ n
      · rw [wkR_snoc d]
        omega
      · rw [wkR_nil (e := n) (by omega)] at i
        omega
/-- with no cut up to e (e left out) what is behind counts too -/
theorem hv_to {R : List Rw} {c : Nat → Bool} : ∀ (k : Nat) {b e : Nat}, e - b = k → b < e → e ≤ R.length → (∀ i, b < i → i < e → c i = false) → hvAt R c b = wkR R b e + if c e = true then 0 else hvAt R c e
  | 0, b, e, h, lt, le, n => absurd h (by omega)
  | k + 1, b, e, h, lt, le, n => by
    have hb : R[b]? = some (R[b]'(by omega)) := List.getElem?_eq_getElem (by omega)
    have wb : wkAt R b = (R[b]'(by omega)).wk := by
      unfold wkAt
      rw [hb]
    rw [hvAt_step hb, wkR_cons lt, wb]
    by_cases z : b + 1 = e
    · subst z
      rw [wkR_nil (Nat.le_refl _)]
      omega
    · rw [n (b + 1) (by omega) (by omega), hv_to k (b := b + 1) (e := e) (by omega) (by omega) le fun i h1 h2 => n i (by omega) h2]
      simp
      omega
theorem hv_cut {R : List Rw} {c : Nat → Bool} {b e : Nat} (lt : b < e) (le : e ≤ R.length) (n : ∀ i, b < i → i < e → c i = false) (h : c e = true) : hvAt R c b = wkR R b e := by
  rw [hv_to _ rfl lt le n, h]
  rfl
theorem hv_all {R : List Rw} {c : Nat → Bool} {b : Nat} (lt : b < R.length) (n : ∀ i, b < i → i < R.length → c i = false) : hvAt R c b = wkR R b R.length := by
  rw [hv_to _ rfl lt (Nat.le_refl _) n, hvAt_end (Nat.le_refl _)]
  split <;> rfl
theorem hv_ge {R : List Rw} {c : Nat → Bool} {b e : Nat} (lt : b < e) (le : e ≤ R.length) (n : ∀ i, b < i → i < e → c i = false) : wkR R b e ≤ hvAt R c b := by
  rw [hv_to _ rfl lt le n]
  exact Nat.le_add_right _ _
/-- cuts and the ends of ways, as they are found from a begin on -/
def Gd (R : List Rw) (f : Nat → Bool) (op pu ch : Int) : Nat → List (Nat × Nat) → Prop
  | b, [] => b < R.length ∧ op + (wkR R b R.length : Nat) + pu ≤ ch
  | b, (c, e) :: l => b < c ∧ c ≤ e ∧ e < R.length ∧ f c = true ∧ (∀ k, c < k → k ≤ e → f k = false) ∧ op + (wkR R b c : Nat) + pu ≤ ch ∧ ch < op + (wkR R b (e + 1) : Nat) + pu ∧ Gd R f op pu ch c l
/-- the ways' rows -/
def wys : Nat → List (Nat × Nat) → List (List Nat)
  | _, [] => []
  | b, (c, e) :: l => List.range' b (e + 1 - b) :: wys c l
theorem wys_len : ∀ {l : List (Nat × Nat)} {b : Nat}, (wys b l).length = l.length
  | [], _ => rfl
  | (c, e) :: l, b => by
    show (wys c l).length + 1 = _
    rw [wys_len]
    rfl
def lastB : Nat → List (Nat × Nat) → Nat
  | b, [] => b
  | _, (c, _) :: l => lastB c l
theorem wys_snoc : ∀ {l : List (Nat × Nat)} {b c e : Nat}, wys b (l ++ [(c, e)]) = wys b l ++ [List.range' (lastB b l) (e + 1 - lastB b l)]
  | [], _, _, _ => rfl
  | (d, g) :: l, b, c, e => by
    show _ :: wys d (l ++ [(c, e)]) = _ :: (wys d l ++ _)
    rw [wys_snoc]
    rfl
theorem lastB_snoc : ∀ {l : List (Nat × Nat)} {b c e : Nat}, lastB b (l ++ [(c, e)]) = c
  | [], _, _, _ => rfl
  | (d, g) :: l, b, c, e => by
    show lastB d (l ++ [(c, e)]) = c
    exact lastB_snoc
/-- the loop's invariant ahead of row i: what goes on well from the last begin is well from the first -/
structure Gr (R : List Rw) (f : Nat → Bool) (op pu ch : Int) (i : Nat) (l : List (Nat × Nat)) : Prop where
  on : ∀ t, Gd R f op pu ch (lastB 0 l) t → Gd R f op pu ch 0 (l ++ t)
  le : lastB 0 l ≤ i
  lt : lastB 0 l < R.length
  fit : op + (wkR R (lastB 0 l) i : Nat) + pu ≤ ch
  fr : lastB 0 l = 0 ∨ f (lastB 0 l) = true
  len : l.length ≤ i
theorem Gr.nil {R : List Rw} {f : Nat → Bool} {op pu ch : Int} (h : 0 < R.length) (h2 : op + (hvAt R f 0 : Nat) + pu ≤ ch) : Gr R f op pu ch 0 [] := by
  refine ⟨fun t ht => ht, Nat.le_refl _, h, ?_, .inl rfl, Nat.le_refl _⟩
  show op + (wkR R 0 0 : Nat) + pu ≤ ch
  rw [wkR_nil (Nat.le_refl _)]
  omega
theorem Gr.light {R : List Rw} {f : Nat → Bool} {op pu ch : Int} {i : Nat} {l : List (Nat × Nat)} (g : Gr R f op pu ch i l) (h : op + (wkR R (lastB 0 l) (i + 1) : Nat) + pu ≤ ch) : Gr R f op pu ch (i + 1) l :=
  ⟨g.on, Nat.le_succ_of_le g.le, g.lt, h, g.fr, Nat.le_succ_of_le g.len⟩
/-- a way too heavy has a row that may be cut -/
theorem Gr.some {R : List Rw} {f : Nat → Bool} {op pu ch : Int} {i : Nat} {l : List (Nat × Nat)} (g : Gr R f op pu ch i l) (hi : i < R.length) (hf : ∀ b, b < R.length → b = 0 ∨ f b = true → op + (hvAt R f b : Nat) + pu ≤ ch)
    (h : ch < op + (wkR R (lastB 0 l) (i + 1) : Nat) + pu) : ∃ k, lastB 0 l < k ∧ k ≤ i ∧ f k = true := by
  refine Classical.byContradiction fun no => ?_
  have h1 := hf _ g.lt g.fr
  have h2 := hv_ge (R := R) (c := f) (b := lastB 0 l) (e := i + 1) (Nat.lt_succ_of_le g.le) hi fun j j1 j2 => by
    cases e : f j with
    | false => rfl
    | true => exact absurd ⟨j, j1, by omega, e⟩ no
  omega
theorem Gr.heavy {R : List Rw} {f : Nat → Bool} {op pu ch : Int} {i c : Nat} {l : List (Nat × Nat)} (g : Gr R f op pu ch i l) (hi : i < R.length) (hf : ∀ b, b < R.length → b = 0 ∨ f b = true → op + (hvAt R f b : Nat) + pu ≤ ch)
    (h : ch < op + (wkR R (lastB 0 l) (i + 1) : Nat) + pu) (c1 : lastB 0 l < c) (c2 : c ≤ i) (c3 : f c = true) (c4 : ∀ k, lastB 0 l < k → k ≤ i → f k = true → k ≤ c) : Gr R f op pu ch (i + 1) (l ++ [(c, i)]) := by
  have no : ∀ k, c < k → k ≤ i → f k = false := fun k k1 k2 => by
    cases e : f k with
    | false => rfl
    | true =>
      have := c4 k (by omega) k2 e
      omega
  have fc := hf c (by omega) (.inr c3)
  have ge := hv_ge (R := R) (c := f) (b := c) (e := i + 1) (by omega) hi fun j j1 j2 => no j j1 (by omega)
  refine ⟨fun t ht => ?_, ?_, ?_, ?_, ?_, ?_⟩
  · rw [lastB_snoc] at ht
    rw [List.append_assoc]
    refine g.on _ ?_
    have fb := g.fit
    have le := wkR_le (R := R) (b := lastB 0 l) (e := c) (e' := i) c2
    exact ⟨c1, c2, hi, c3, no, by omega, h, ht⟩
  · rw [lastB_snoc]
    omega
  · rw [lastB_snoc]
    omega
  · rw [lastB_snoc]
    omega
  · rw [lastB_snoc]
    exact .inr c3
  · rw [List.length_append, List.length_singleton]
    have := g.len
    omega
theorem Gr.done {R : List Rw} {f : Nat → Bool} {op pu ch : Int} {l : List (Nat × Nat)} (g : Gr R f op pu ch R.length l) : Gd R f op pu ch 0 l := by
  have := g.on [] ⟨g.lt, g.fit⟩
  rwa [List.append_nil] at this
/-! what is asked of them -/
theorem Gd.bs {R : List Rw} {f : Nat → Bool} {op pu ch : Int} : ∀ {l : List (Nat × Nat)} {b : Nat}, Gd R f op pu ch b l → b < R.length
  | [], _, h => h.1
  | (c, e) :: l, b, h => by
    have h1 := h.1
    have h2 := h.2.1
    have h3 := h.2.2.1
    omega
/-- the cuts rise, may be cut -/
theorem Gd.gt {R : List Rw} {f : Nat → Bool} {op pu ch : Int} : ∀ {l : List (Nat × Nat)} {b : Nat}, Gd R f op pu ch b l → ∀ p ∈ l, b < p.1 ∧ p.1 < R.length ∧ f p.1 = true
  | [], _, h => fun p hp => absurd hp List.not_mem_nil
  | (c, e) :: l, b, h => fun p hp => by
    obtain ⟨h1, h2, h3, h4, h5, h6, h7, h8⟩ := h
    rcases List.mem_cons.mp hp with q | q
    · rw [q]
      exact ⟨h1, show c < R.length from by omega, h4⟩
    · have := Gd.gt h8 p q
      exact ⟨by omega, this.2⟩
theorem Gd.rise {R : List Rw} {f : Nat → Bool} {op pu ch : Int} : ∀ {l : List (Nat × Nat)} {b : Nat}, Gd R f op pu ch b l → (l.map (·.1)).Pairwise (· < ·)
  | [], _, h => List.Pairwise.nil
  | (c, e) :: l, b, h => by
    obtain ⟨h1, h2, h3, h4, h5, h6, h7, h8⟩ := h
    refine List.pairwise_cons.mpr ⟨fun x hx => ?_, Gd.rise h8⟩
    obtain ⟨p, hp, rfl⟩ := List.mem_map.mp hx
    exact (Gd.gt h8 p hp).1
/-- with these cuts each stretch fits -/
theorem Gd.fits {R : List Rw} {f g : Nat → Bool} {op pu ch : Int} : ∀ {l : List (Nat × Nat)} {b : Nat}, Gd R f op pu ch b l → (∀ i, b < i → (g i = true ↔ i ∈ l.map (·.1))) → ∀ x, x = b ∨ x ∈ l.map (·.1) → op + (hvAt R g x : Nat) + pu ≤ ch
  | [], b, h, hg, x, hx => by
    rcases hx with rfl | hx
    · rw [hv_all h.1 fun i h1 h2 => by
        cases e : g i with
        | false => rfl
        | true => exact absurd ((hg i h1).mp e) List.not_mem_nil]
      exact h.2
    · exact absurd hx List.not_mem_nil
  | (c, e) :: l, b, h, hg, x, hx => by
    obtain ⟨h1, h2, h3, h4, h5, h6, h7, h8⟩ := h
    have gt := Gd.gt h8
    rcases hx with rfl | hx
    · rw [hv_cut (e := c) h1 (by omega) (fun i i1 i2 => by
        cases e : g i with
        | false => rfl
        | true =>
          rcases List.mem_cons.mp ((hg i i1).mp e) with z | z
          · have z : i = c := z
            omega
          · obtain ⟨p, hp, rfl⟩ := List.mem_map.mp z
            have := (gt p hp).1
            omega) ((hg c h1).mpr List.mem_cons_self)]
      exact h6
    · refine Gd.fits h8 (g := g) (fun i hi => ?_) x (List.mem_cons.mp hx)
      rw [hg i (by omega), List.map_cons, List.mem_cons]
      exact ⟨fun z => z.resolve_left (fun z => by have z : i = c := z; omega), .inr⟩
/-- a way's rows -/
structure WyOk (R : List Rw) (f : Nat → Bool) (op pu ch : Int) (u : List Nat) (w : List Nat) : Prop where
  ex : ∃ b e, b ≤ e ∧ e < R.length ∧ w = List.range' b (e + 1 - b)
  heavy : ch < op + (wkS R w : Nat) + pu
  apart : ∀ x ∈ w.tail, x ∉ u
theorem tail_range {b n : Nat} : (List.range' b n).tail = List.range' (b + 1) (n - 1) := by
  cases n with
  | zero => rfl
  | succ n => rfl
/-- each way with what the ones ahead used -/
theorem Gd.way {R : List Rw} {f : Nat → Bool} {op pu ch : Int} : ∀ {l : List (Nat × Nat)} {b : Nat} {u : List Nat}, Gd R f op pu ch b l → (∀ x ∈ u, x ≤ b) → ∀ (k : Nat) (w : List Nat), (wys b l)[k]? = some w →
    WyOk R f op pu ch (u ++ (((wys b l).take k).flatMap fun v => v.tail.filter f)) w
  | [], b, u, h, hu, k, w, hk => by
    have hk : ([] : List (List Nat))[k]? = some w := hk
    rw [List.getElem?_nil] at hk
    cases hk
  | (c, e) :: l, b, u, h, hu, k, w, hk => by
    obtain ⟨h1, h2, h3, h4, h5, h6, h7, h8⟩ := h
    cases k with
    | zero =>
      have hk : List.range' b (e + 1 - b) = w := Option.some.inj hk
      subst hk
      refine ⟨⟨b, e, by omega, h3, rfl⟩, h7, fun x hx hx2 => ?_⟩
      rw [tail_range, List.mem_range'_1] at hx
      rw [List.take_zero, List.flatMap_nil, List.append_nil] at hx2
      have := hu x hx2
      omega
    | succ k =>
      have hk : (wys c l)[k]? = some w := hk
      have := Gd.way h8 (u := u ++ (List.range' b (e + 1 - b)).tail.filter f) (fun x hx => ?_) k w hk
      · show WyOk R f op pu ch (u ++ ((List.range' b (e + 1 - b) :: (wys c l).take k).flatMap fun v => v.tail.filter f)) w
        rw [List.flatMap_cons, ← List.append_assoc]
        exact this
      · rcases List.mem_append.mp hx with q | q
        · have := hu x q
          omega
        · obtain ⟨q1, q2⟩ := List.mem_filter.mp q
          rw [tail_range, List.mem_range'_1] at q1
          refine Classical.byContradiction fun n => ?_
          rw [h5 x (by omega) (by omega)] at q2
          cases q2
end K36
namespace K36
open PySem PySem.Spec PyProof.Rows L2
/-! ### no ring in a straight program -/
def spRing : Sp := fun vs H Q _ => ∃ (a c : Addr) (R : List Rw) (S : List Int), vs = [.ref a, .ref c] ∧ RowsAt H a R ∧ RS R ∧ H c = some (.lst (S.map V.int)) ∧ S.Nodup ∧ (∀ z ∈ S, ∃ i : Nat, i < R.length ∧ z = (i : Int)) ∧ ∀ H', Same H H' → Q .non H'
def Ent (S : List Int) (H : Hp) (kvs : List (Key × V)) : Prop := ∀ (z : Int) (v : V), ((Sum.inl z : Key), v) ∈ kvs → ∃ b, v = .ref b ∧ H b = some (.lst (if z + 1 ∈ S then [V.int (z + 1)] else []))
theorem Ent.sm {S : List Int} {H H' : Hp} {kvs : List (Key × V)} (h : Ent S H kvs) (s : Same H H') : Ent S H' kvs := fun z v m => by
  obtain ⟨b, e, hb⟩ := h z v m
  exact ⟨b, e, s _ _ hb⟩
theorem merge_nd : ∀ (more kvs : List (Key × V)), ((kvs ++ more).map (·.1)).Nodup → mergeK kvs more = kvs ++ more
  | [], kvs, _ => (List.append_nil kvs).symm
  | p :: more, kvs, h => by
    have hn : ¬ (valV kvs p.1).isSome = true := fun e => by
      have m := has_mem.mp e
      rw [List.map_append, List.map_cons] at h
      exact (List.nodup_append.mp h).2.2 _ m _ List.mem_cons_self rfl
    have e : putK kvs p.1 p.2 = kvs ++ [p] := by
      unfold putK
      rw [if_neg (fun h => hn (by rw [← valV_any]; exact h))]
    show mergeK (putK kvs p.1 p.2) more = _
    rw [e, merge_nd more (kvs ++ [p]) (by rw [List.append_assoc]; exact h), List.append_assoc]
    rfl
theorem pr_app {α β : Type} {F : α → β → Prop} : ∀ {as : List α} {bs : List β} {cs : List α} {ds : List β}, Paired F as bs → Paired F cs ds → Paired F (as ++ cs) (bs ++ ds)
  | _, _, _, _, .nil, h => h
  | _, _, _, _, .cons x y, h => .cons x (pr_app y h)
theorem drop_keysI {kvs : List (Key × V)} {ks : List Int} {x : Int} (h : kvs.map (·.1) = ks.map Sum.inl) : (dropK kvs (Sum.inl x)).map (·.1) = (ks.filter fun y => decide (y ≠ x)).map Sum.inl := by
  unfold dropK
  induction kvs generalizing ks with
  | nil =>
    cases ks with
    | nil => rfl
    | cons => cases h
  | cons p kvs ih =>
    cases ks with
    | nil => cases h
    | cons y ks =>
      rw [List.map_cons, List.map_cons] at h
      injection h with h1 h2
      rw [List.filter_cons, List.filter_cons]
      by_cases e : y = x
      · rw [if_neg (by rw [h1, e]; simp), if_neg (by simp [e])]
        exact ih h2
      · rw [if_pos (by rw [h1]; simp [e]), if_pos (by simp [e]), List.map_cons, List.map_cons, h1, ih h2]
theorem filt_len {x : Int} : ∀ {ks : List Int}, ks.Nodup → x ∈ ks → (ks.filter fun y => decide (y ≠ x)).length + 1 = ks.length
  | [], _, m => absurd m List.not_mem_nil
  | y :: ks, n, m => by
    obtain ⟨n1, n2⟩ := List.nodup_cons.mp n
    rw [List.filter_cons]
    by_cases e : y = x
    · rw [if_neg (by simp [e])]
      have e2 : ks.filter (fun y => decide (y ≠ x)) = ks := List.filter_eq_self.mpr fun z hz => decide_eq_true fun h => n1 (by rw [e, ← h]; exact hz)
      rw [e2]
      rfl
    · rw [if_pos (by simp [e]), List.length_cons, filt_len n2 ((List.mem_cons.mp m).resolve_left (Ne.symm e))]
      rfl
/-- a greatest one has none behind it -/
theorem top_of : ∀ (ks : List Int), ks ≠ [] → ∃ z ∈ ks, ∀ y ∈ ks, y ≤ z
  | [], h => absurd rfl h
  | [z], _ => ⟨z, List.mem_singleton.mpr rfl, fun y h => by rw [List.mem_singleton.mp h]; exact Int.le_refl _⟩
  | z :: y :: ks, _ => by
    obtain ⟨t, ht, h⟩ := top_of (y :: ks) (fun e => nomatch e)
    by_cases c : z ≤ t
    · exact ⟨t, List.mem_cons_of_mem _ ht, fun x hx => by
        rcases List.mem_cons.mp hx with e | e
        · rw [e]; exact c
        · exact h x e⟩
    · exact ⟨z, List.mem_cons_self, fun x hx => by
        rcases List.mem_cons.mp hx with e | e
        · rw [e]; exact Int.le_refl _
        · have := h x e
          omega⟩
theorem val_mem {k : Key} {v : V} : ∀ {kvs : List (Key × V)}, valV kvs k = some v → (k, v) ∈ kvs
  | [], h => by rw [valV_nil] at h; cases h
  | p :: r, h => by
    by_cases e : p.1 = k
    · rw [valV_pos e] at h
      have e2 : p = (k, v) := by rw [← e, ← Option.some.inj h]
      rw [e2]
      exact List.mem_cons_self
    · rw [valV_neg e] at h
      exact List.mem_cons_of_mem _ (val_mem h)
section
variable {P : Program} {w : World} {K : PySem.W.Frag} {mg : Str → Option Value} {base : Heap}
-- ring_among (printed by gen.py); slots: 0 rows*, 1 some*, 2 at, 3 kept*, 4 more, 5 last, 6 way, 7 k
abbrev nRingAmong : List Str := ["rows", "some", "at", "kept", "more", "last", "way", "k"]
abbrev pRingAmong : List Str := ["rows", "some"]
theorem scRingAmong : FnScope nRingAmong pRingAmong (defScope sRingAmong) := ⟨rfl, rfl, rfl, by decide +kernel, rfl, by decide +kernel, by decide +kernel⟩
theorem ok_ring (T : Bi mg) (a0 : At K mg "ring_among" sRingAmong pRingAmong) (cLeadsTo : Cal P w K mg base CX0 "leads_to" 1 pLeadsTo spLeadsT) :
    Cal P w K mg base CX0 "ring_among" 2 pRingAmong spRing := by
  refine Cal.of a0 scRingAmong (fun vs H Q E h => ?_) (fun f cdv A outer s H vs Q E hr h => ?_)
  · obtain ⟨a, c, R, S, rfl, _⟩ := h
    rfl
  · obtain ⟨a, c, R, S, rfl, ⟨xs, hxs, lxs, hrow⟩, rs, hc, nd, hS, q⟩ := h
    refine ⟨_, (pss_cons (ps_set (i := 3) scRingAmong.nd rfl (.inr rfl) (pe_callTy (call_dictP rfl) (by rfl) T.dict bo_dict (pa_cons (pe_lc (own := [("at", 2)]) (g := gName 2) rfl scRingAmong.nd (pi_list (pv 1)) (blkOk_by (own := [("at", 2)]) (N := nRingAmong) (sc := defScope sRingAmong) (by decide +kernel)) (fun _ _ _ _ _ => (pg_name (i := 2) scRingAmong.nd rfl (.inl rfl))) (fun _ _ _ _ _ => pts_nil) (fun _ _ _ _ _ => (pe_tup (pa_cons (pv 2) (pa_cons (pe_lc (own := [("k", 7)]) (g := gName 7) rfl scRingAmong.nd (pi_tupK (K := K) rfl (pe_c cLeadsTo hr pass0 (pa_cons (pe_ix (ixT (K := K) rfl) (pv 0) (pv 2) (fun _ _ => rfl)) pa_nil))) (blkOk_by (own := [("k", 7)]) (by kernel_rfl)) (fun _ _ _ _ _ => (pg_name (i := 7) scRingAmong.nd rfl (.inl rfl))) (fun _ _ _ _ _ => (pts_one (pt_cmpR (inK (K := K) rfl) (pv 7) (pv 1) (by rfl)))) (fun _ _ _ _ _ => (pv 7))) pa_nil))))) pa_nil))) -- kept = dict([(at, [k for k in leads_to(rows[at]) if k in some]) for at in some])
      (pss_cons (ps_set (i := 4) scRingAmong.nd rfl (.inl rfl) pe_bl) -- more = True
      (pss_cons (ps_while PassesOwn.never (pt_val (pv 4))
        (pss_cons (ps_lock (ps_setLc (i := 5) (own := [("at", 2)]) (g := gName 2) rfl scRingAmong.nd rfl rfl (sw_true rfl rfl rfl (by decide +kernel)) (pi_keys (pv 3)) (blkOk_by (own := [("at", 2)]) (N := nRingAmong) (sc := defScope sRingAmong) (by decide +kernel)) (fun _ _ _ _ _ => (pg_name (i := 2) scRingAmong.nd rfl (.inl rfl))) (fun _ _ _ _ _ => (pts_one (pt_not (pt_val (pe_callB (anyK (K := K) rfl rfl) (by rfl) T.any bo_any (pa_cons (pe_lc (own := [("k", 7)]) (g := gName 7) rfl scRingAmong.nd (pi_listK (K := K) rfl (pe_dget (hu_of hr) (pv 3) (pv 2) (fun _ _ => rfl))) (blkOk_by (own := [("k", 7)]) (by kernel_rfl)) (fun _ _ _ _ _ => (pg_name (i := 7) scRingAmong.nd rfl (.inl rfl))) (fun _ _ _ _ _ => pts_nil) (fun _ _ _ _ _ => (pe_cmp (pc_din (hu_of hr) (pv 7) (pv 3)) rfl))) pa_nil)))))) (fun _ _ _ _ _ => (pv 2)))) -- last = [at for at in kept if not any([k in kept for k in kept[at]])]
        (pss_cons (ps_set (i := 4) scRingAmong.nd rfl (.inl rfl) (pe_cmpR op_gt (pe_callB call_len_seq (by rfl) T.len bo_len (pa_cons (pv 5) pa_nil)) pe_int (nomark _))) -- more = len(last) > 0
        (pss_one (ps_for PassesOwn.never rfl (pi_list (pv 5)) (pg_name (i := 2) scRingAmong.nd rfl (.inl rfl))
          (pss_one (ps_expr (pe_dpop1 (pv 3) (pv 2) ⟨rfl, rfl, rfl, rfl⟩)))))))) -- while more:
      (pss_cons (ps_if (pt_cmpR op_eq (pe_callB call_lenD (by rfl) T.len bo_len (pa_cons (pv 3) pa_nil)) pe_int (nomark _))
        (pss_one (ps_ret pe_non))
        pss_nil) -- if len(kept) == 0:
      (pss_cons (ps_set (i := 6) scRingAmong.nd rfl (.inl rfl) (pe_lst (pa_cons (pe_callB (cr_min rfl) (by rfl) T.min bo_min (pa_cons (pv 3) pa_nil)) pa_nil))) -- way = [min(kept)]
      (pss_cons (ps_while PassesOwn.never (pt_cmpR op_notIn_seq (pe_ix ix_list (pv 6) (pe_un un_neg pe_int) (fun _ _ => rfl)) (pe_slice sl_list (pv 6) po_none (po_some (pe_un un_neg pe_int))) (by rfl))
        (pss_one (ps_expr (pe_bm PySem.F.plainAttrs_list PySem.F.slot_list_append PySem.F.type_list_append mt_append (pv 6) (pa_cons (pe_ix ix_list (pe_lc (own := [("k", 7)]) (g := gName 7) rfl scRingAmong.nd (pi_list (pe_dget (hu_of hr) (pv 3) (pe_ix ix_list (pv 6) (pe_un un_neg pe_int) (fun _ _ => rfl)) (fun _ _ => rfl))) (blkOk_by (own := [("k", 7)]) (by kernel_rfl)) (fun _ _ _ _ _ => (pg_name (i := 7) scRingAmong.nd rfl (.inl rfl))) (fun _ _ _ _ _ => (pts_one (pt_cmp (pc_din (hu_of hr) (pv 7) (pv 3))))) (fun _ _ _ _ _ => (pv 7))) pe_int (fun _ _ => rfl)) pa_nil))))) -- while way[-1] not in way[:-1]:
      (pss_one (ps_ret (pe_callTy call_tuple_of (by rfl) T.tuple bo_tuple (pa_cons (pe_slice sl_list (pv 6) (po_some (pe_bm PySem.F.plainAttrs_list PySem.F.slot_list_index PySem.F.type_list_index mt_index (pv 6) (pa_cons (pe_ix ix_list (pv 6) (pe_un un_neg pe_int) (fun _ _ => rfl)) pa_nil))) (po_some (pe_un un_neg pe_int))) pa_nil)))))))))), ?_⟩
    have ln := rs.len
    refine ⟨_, rfl, c, rfl, ⟨_, SqL.of hc⟩, fun Dl nDl => ?_⟩
    have mD := same_new (o := .lst []) nDl
    refine lc_list (fun j H' => ∃ (ps : List Addr) (kvs : List (Key × V)), H' Dl = some (.lst (ps.map V.ref)) ∧ kvs.map (·.1) = (S.take j).map Sum.inl ∧ Paired (fun p kv => H' p = some (.tup [kV kv.1, kv.2])) ps kvs ∧ Ent S H' kvs ∧ (∀ p ∈ kvs, p.2 ≠ V.ref Dl) ∧ Same H H') ⟨[], [], upd_same, rfl, .nil, fun z v h => absurd h List.not_mem_nil, fun p h => absurd h List.not_mem_nil, mD⟩ (fun j H' _ hP => by obtain ⟨_, _, _, _, _, _, _, s⟩ := hP; exact SqL.of (s _ _ hc)) (fun j v H' hj hP => ?_) (fun H1 hP => ?_)
    · obtain ⟨ps, kvs, hD, hk, hps, en, nl, sm⟩ := hP
      obtain ⟨z, hz, rfl⟩ : ∃ z, S[j]? = some z ∧ v = V.int z := by
        rw [List.getElem?_map] at hj
        cases hz : S[j]? with
        | none => rw [hz] at hj; cases hj
        | some z => rw [hz] at hj; exact ⟨z, rfl, (Option.some.inj hj).symm⟩
      obtain ⟨i, li, rfl⟩ := hS z (List.mem_of_getElem? hz)
      obtain ⟨v', hv', hr0⟩ := hrow i R[i] (List.getElem?_eq_getElem li)
      have hri : R[i]? = some R[i] := List.getElem?_eq_getElem li
      generalize R[i] = r at hr0 hri
      have hr1 := hr0.tl (TL.of sm)
      obtain ⟨ra, wd, tl, rfl, _⟩ := hr1.sure
      refine ⟨rfl, _, rfl, _, rfl, _, rfl, a, xs, _, _, rfl, rfl, SqT.of (sm _ _ hxs), at_nat (j := i) rfl hv', ?_⟩
      refine ⟨ra, i, r, rfl, hr1, fun lp H2 s2 nlp hlp => ⟨lp, rfl, ⟨_, SqT.of hlp⟩, fun D2 nD2 => ?_⟩⟩
      have m3 := same_new (o := .lst []) nD2
      refine lc_tup (fun j H' => H' D2 = some (.lst (((nx r i).take j).flatMap fun _ => if (i : Int) + 1 ∈ S then [V.int ((i : Int) + 1)] else [])) ∧ Same H2 H') ⟨upd_same, m3⟩ (fun j H' _ hP => SqT.of (hP.2 _ _ hlp)) (fun j v H' hj hP => ?_) (fun H3 hP => ?_)
      · obtain ⟨e0, ev, en⟩ := nx_at hj
        obtain ⟨hD2, sm2⟩ := hP
        subst e0
        subst ev
        rw [en] at hD2 ⊢
        have hc3 := (sm.trans (s2.trans sm2)) _ _ hc
        refine ⟨rfl, _, rfl, _, rfl, c, S.map V.int, rfl, .inl (SqL.of hc3), rfl, flat_ints _, _, rfl, ?_⟩
        rw [inV_ints]
        refine ite2 (fun c1 => ?_) (fun c1 => ?_)
        · have c1' : (i : Int) + 1 ∈ S := by simpa using c1
          refine ⟨_, rfl, [], hD2, by decide, ?_, Same.mut (H := H2) sm2 nD2⟩
          rw [upd_same]
          simp [c1']
        · have c1' : ¬ (i : Int) + 1 ∈ S := by simpa using c1
          refine ⟨?_, sm2⟩
          rw [hD2]
          simp [c1']
      · obtain ⟨hD2, sm2⟩ := hP
        rw [List.take_length] at hD2
        have val : H3 D2 = some (.lst (if (i : Int) + 1 ∈ S then [V.int ((i : Int) + 1)] else [])) := by
          rw [hD2]
          by_cases cf : r = .fin
          · have e1 := (rs.fin hri).mp cf
            have nk : ¬ (i : Int) + 1 ∈ S := fun h => by
              obtain ⟨j, h1, h3⟩ := hS _ h
              omega
            rw [cf, if_neg nk]
            rfl
          · rw [nx_ne cf]
            exact congrArg (fun x => some (HO.lst x)) (List.append_nil _)
        refine ⟨(by show 2 ≤ sizeLine; decide), fun tp ntp => ?_⟩
        have m4 := same_new (o := .tup [.int (i : Int), .ref D2]) ntp
        have s24 := s2.trans (sm2.trans m4)
        have lS : S.length ≤ R.length := int_sub_len nd hS
        refine ⟨ps.map V.ref, s24 _ _ hD, szt ?_, ps ++ [tp], kvs ++ [(Sum.inl (i : Int), .ref D2)], by rw [upd_same, List.map_append]; rfl, by rw [List.map_append, List.take_add_one, hz, hk, List.map_append]; rfl, ?_, ?_, ?_, Same.mut (H := H) (sm.trans s24) nDl⟩
        · have h1 := hps.length
          have h2 := congrArg List.length hk
          rw [List.length_map, List.length_map, List.length_take] at h2
          rw [List.length_map]
          omega
        · have nt : tp ≠ Dl := (ne_of_none ((s2.trans sm2) _ _ hD) ntp).symm
          refine pr_app (L2.Paired.mapP hps fun p kv e => ?_) (.cons ?_ .nil)
          · rw [upd_ne (ne_of (s24 _ _ e) (s24 _ _ hD) (fun z => nomatch z))]
            exact s24 _ _ e
          · rw [upd_ne nt]
            exact upd_same
        · intro z v hm
          rcases List.mem_append.mp hm with h | h
          · obtain ⟨b, e1, e2⟩ := en z v h
            have nb : b ≠ Dl := fun e => nl _ h (by rw [← e]; exact e1)
            exact ⟨b, e1, by rw [upd_ne nb]; exact s24 _ _ e2⟩
          · have e := List.mem_singleton.mp h
            injection e with e1 e2
            injection e1 with e1
            subst e1
            subst e2
            have nb : D2 ≠ Dl := (ne_of_none (s2 _ _ hD) nD2).symm
            exact ⟨D2, rfl, by rw [upd_ne nb]; exact m4 _ _ val⟩
        · intro p hp
          rcases List.mem_append.mp hp with h | h
          · exact nl p h
          · rw [List.mem_singleton.mp h]
            exact fun e => (ne_of_none (s2 _ _ hD) nD2) (V.ref.inj e).symm
    · obtain ⟨ps, kvs, hD, hk, hps, en, nl, sm⟩ := hP
      rw [List.length_map, List.take_length] at hk
      have kn : (kvs.map (·.1)).Nodup := by
        rw [hk]
        exact List.Pairwise.map _ (fun a b h e => h (Sum.inl.inj e)) nd
      refine ⟨Dl, ps, kvs, rfl, SqL.of hD, L2.Paired.mapP hps fun p kv e => SqT.of e, fun Kd nKd => ?_⟩
      have hkd := upd_same (H := H1) (a := Kd) (o := .dK (mergeK [] kvs))
      have m5 := same_new (o := .dK (mergeK [] kvs)) nKd
      rw [merge_nd kvs [] kn] at hkd m5 ⊢
      have en5 := en.sm m5
      have k5 : Kp NoM H (upd H1 Kd (.dK ([] ++ kvs))) := Kp.same (sm.trans m5)
      have nKH : H Kd = none := (Kp.same (M := NoM) sm).free nKd
      refine ⟨fun m σ' H' => ∃ (y2 y5 : Option V) (mo : Bool) (kvs : List (Key × V)) (ks : List Int), σ' = [some (.ref a), some (.ref c), y2, some (.ref Kd), some (.bl mo), y5, none, none] ∧ H' Kd = some (.dK kvs) ∧ kvs.map (·.1) = ks.map Sum.inl ∧ ks.Nodup ∧ (∀ z ∈ ks, z ∈ S) ∧ Ent S H' kvs ∧ Kp NoM H H' ∧
        ((mo = true ∧ m = ks.length + 1) ∨ (mo = false ∧ ks = [] ∧ m = 0)), ⟨S.length + 1, none, none, true, _, S, rfl, hkd, hk, nd, fun z h => h, en5, k5, .inl ⟨rfl, rfl⟩⟩, fun m σ' H2 hW => ?_⟩
      obtain ⟨y2, y5, mo, kvs, ks, rfl, hKd, hks, nks, sub, ent, k2, hm⟩ := hW
      have lks : ks.length ≤ R.length := int_sub_len nks fun z hz => hS z (sub z hz)
      refine ⟨_, rfl, _, rfl, ?_⟩
      refine ite2 (fun hmo => ?_) (fun hmo => ?_)
      · have hm' : m = ks.length + 1 := by
          rcases hm with h | h
          · exact h.2
          · rw [h.1] at hmo
            cases hmo
        refine ⟨fun σ' H' => ∃ (y2 y5 : Option V) (mo : Bool) (kvs : List (Key × V)) (ks2 : List Int), σ' = [some (.ref a), some (.ref c), y2, some (.ref Kd), some (.bl mo), y5, none, none] ∧ H' Kd = some (.dK kvs) ∧ kvs.map (·.1) = ks2.map Sum.inl ∧ ks2.Nodup ∧ (∀ z ∈ ks2, z ∈ S) ∧ Ent S H' kvs ∧ Kp NoM H H' ∧
          ((mo = true ∧ ks2.length < ks.length) ∨ (mo = false ∧ ks2 = [])), fun σ' H' h => ?_, ?_⟩
        · obtain ⟨z2, z5, mo', kv', ks', h1, h2, h3, h4, h5, h6, h7, h8⟩ := h
          rcases h8 with ⟨e1, e2⟩ | ⟨e1, e2⟩
          · exact ⟨ks'.length + 1, by omega, z2, z5, mo', kv', ks', h1, h2, h3, h4, h5, h6, h7, .inl ⟨e1, rfl⟩⟩
          · exact ⟨0, by omega, z2, z5, mo', kv', ks', h1, h2, h3, h4, h5, h6, h7, .inr ⟨e1, e2, rfl⟩⟩
        · refine ⟨Kd, .dK kvs, hKd, trivial, fun od => ?_⟩
          have k3 := k2.mut (o := .frz od (.dK kvs)) nKH
          have ent3 : Ent S (upd H2 Kd (.frz od (.dK kvs))) kvs := fun z v h => by
            obtain ⟨b, e, hb⟩ := ent z v h
            exact ⟨b, e, by rw [upd_ne (ne_of hb hKd (fun z => nomatch z))]; exact hb⟩
          have hK3 := upd_same (H := H2) (a := Kd) (o := .frz od (.dK kvs))
          generalize upd H2 Kd (.frz od (.dK kvs)) = H3 at k3 ent3 hK3 ⊢
          refine ⟨_, rfl, Kd, od, rfl, .inl ⟨kvs, hK3, fun Ld nLd => ?_⟩⟩
          have m4 := same_new (o := .lst []) nLd
          refine lc_it walk_keys (fun j H' => H' Ld = some (.lst (((ks.take j).filter fun z => decide (¬ z + 1 ∈ ks)).map V.int)) ∧ Same H3 H') ⟨upd_same, m4⟩ (fun j H' _ hP => hP.2 _ _ hK3) (fun j v H0 H' hj hP hy => ?_) (fun H4 hP => ?_)
          · obtain ⟨hL, sm⟩ := hP
            obtain ⟨rfl, kk, vv, hkj, rfl⟩ := hy
            have hz0 : (kvs.map (·.1))[j]? = some kk := by rw [List.getElem?_map, hkj]; rfl
            rw [hks, List.getElem?_map] at hz0
            obtain ⟨z, hz, rfl⟩ : ∃ z, ks[j]? = some z ∧ kk = Sum.inl z := by
              cases hz : ks[j]? with
              | none => rw [hz] at hz0; cases hz0
              | some z => rw [hz] at hz0; exact ⟨z, rfl, (Option.some.inj hz0).symm⟩
            have zin : z ∈ ks := List.mem_of_getElem? hz
            obtain ⟨v2, hv2⟩ := Option.isSome_iff_exists.mp (has_mem.mpr (by rw [hks]; exact List.mem_map.mpr ⟨z, zin, rfl⟩) : (valV kvs (Sum.inl z : Key)).isSome = true)
            obtain ⟨b, rfl, hb⟩ := ent3 z v2 (val_mem hv2)
            have hb4 := sm _ _ hb
            have hK4 := sm _ _ hK3
            have inks : ∀ y : Int, (valV kvs (Sum.inl y : Key)).isSome = decide (y ∈ ks) := fun y => by
              rw [Bool.eq_iff_iff, has_mem, hks, decide_eq_true_eq, List.mem_map]
              exact ⟨fun ⟨x, h1, h2⟩ => by rw [← Sum.inl.inj h2]; exact h1, fun h => ⟨y, h, rfl⟩⟩
            refine ⟨rfl, _, rfl, _, rfl, Kd, .ref b, rfl, .inl ⟨kvs, Sum.inl z, .inr ⟨od, hK4⟩, rfl, hv2.symm⟩, b, rfl, ⟨_, SqL.of hb4⟩, fun D2 nD2 => ?_⟩
            have m5 := same_new (o := .lst []) nD2
            refine lc_list (fun j H'' => H'' D2 = some (.lst (((if z + 1 ∈ S then [V.int (z + 1)] else []).take j).map fun _ => V.bl (decide (z + 1 ∈ ks)))) ∧ Same H' H'') ⟨upd_same, m5⟩ (fun j H'' _ hP => SqL.of (hP.2 _ _ hb4)) (fun j2 v H'' hj2 hP => ?_) (fun H5 hP => ?_)
            · obtain ⟨hD2, sm2⟩ := hP
              by_cases cS : z + 1 ∈ S
              · rw [if_pos cS] at hj2 hD2 ⊢
                obtain ⟨rfl, rfl⟩ : j2 = 0 ∧ v = V.int (z + 1) := by
                  cases j2 with
                  | zero => exact ⟨rfl, (Option.some.inj hj2).symm⟩
                  | succ j => cases hj2
                refine ⟨rfl, _, rfl, _, rfl, Kd, _, rfl, .inl ⟨kvs, Sum.inl (z + 1), .inr ⟨od, sm2 _ _ hK4⟩, rfl, rfl⟩, [], hD2, by decide, ?_, Same.mut (H := H') sm2 nD2⟩
                rw [upd_same, inks]
                rfl
              · rw [if_neg cS] at hj2
                cases hj2
            · obtain ⟨hD2, sm2⟩ := hP
              rw [List.take_length] at hD2
              have s6 := sm.trans sm2
              refine ⟨D2, (if z + 1 ∈ S then [V.int (z + 1)] else []).map fun _ => decide (z + 1 ∈ ks), rfl, SqL.of (by rw [hD2, List.map_map]; rfl), _, rfl, ?_⟩
              have ev : (((if z + 1 ∈ S then [V.int (z + 1)] else []).map fun _ => decide (z + 1 ∈ ks)).any id) = decide (z + 1 ∈ ks) := by
                by_cases cS : z + 1 ∈ S
                · rw [if_pos cS]
                  simp
                · rw [if_neg cS]
                  exact (decide_eq_false fun h => cS (sub _ h)).symm
              rw [ev]
              refine ite2 (fun c1 => ?_) (fun c1 => ?_)
              · have c1' : ¬ z + 1 ∈ ks := by simpa using c1
                refine ⟨_, rfl, _, sm2 _ _ hL, szt ?_, ?_, Same.mut (H := H3) s6 ?_⟩
                · have := List.length_filter_le (fun z => decide (¬ z + 1 ∈ ks)) (ks.take j)
                  rw [List.length_map]
                  rw [List.length_take] at this
                  omega
                · rw [upd_same, List.take_add_one, hz, List.filter_append, List.map_append]
                  simp [c1']
                  rfl
                · exact nLd
              · have c1' : z + 1 ∈ ks := by simpa using c1
                refine ⟨?_, s6⟩
                rw [sm2 _ _ hL, List.take_add_one, hz, List.filter_append, List.map_append]
                simp [c1']
          · obtain ⟨hL, sm⟩ := hP
            rw [show kvs.length = ks.length by have := congrArg List.length hks; rwa [List.length_map, List.length_map] at this, List.take_length] at hL
            generalize hls : ks.filter (fun z => decide (¬ z + 1 ∈ ks)) = ls at hL
            have lsub : ∀ z ∈ ls, z ∈ ks := fun z hz => by rw [← hls] at hz; exact (List.mem_filter.mp hz).1
            have lnd : ls.Nodup := by rw [← hls]; exact nks.filter _
            have nLK : Ld ≠ Kd := (ne_of_none hK3 nLd).symm
            have hK4 := sm _ _ hK3
            refine ⟨hK4, ?_⟩
            have k5 := (k3.trans (Kp.same sm)).mut (o := .dK kvs) nKH
            have hL5 : upd H4 Kd (.dK kvs) Ld = some (.lst (ls.map V.int)) := by rw [upd_ne nLK]; exact hL
            have hK5 := upd_same (H := H4) (a := Kd) (o := .dK kvs)
            have ent5 : Ent S (upd H4 Kd (.dK kvs)) kvs := fun z v h => by
              obtain ⟨b, e, hb⟩ := ent3 z v h
              exact ⟨b, e, by rw [upd_ne (ne_of hb hK3 (fun z => nomatch z))]; exact sm _ _ hb⟩
            generalize upd H4 Kd (.dK kvs) = H5 at k5 hL5 hK5 ent5 ⊢
            refine ⟨_, rfl, Ld, _, rfl, .inl (SqL.of hL5), _, _, rfl, rfl, ?_⟩
            refine ⟨_, rfl, Ld, rfl, ⟨_, SqL.of hL5⟩, ?_⟩
            refine for_list (fun i σ' H' => ∃ (y2 : Option V) (kv : List (Key × V)) (ks2 : List Int), σ' = [some (.ref a), some (.ref c), y2, some (.ref Kd), some (.bl (decide ((0 : Int) < ((ls.map V.int).length : Nat)))), some (.ref Ld), none, none] ∧ H' Ld = some (.lst (ls.map V.int)) ∧ H' Kd = some (.dK kv) ∧ kv.map (·.1) = ks2.map Sum.inl ∧ ks2.Nodup ∧ (∀ z ∈ ks2, z ∈ S) ∧ Ent S H' kv ∧ Kp NoM H H' ∧ ks2.length + i = ks.length ∧ ∀ (j : Nat) (z : Int), i ≤ j → ls[j]? = some z → z ∈ ks2)
              ⟨y2, kvs, ks, rfl, hL5, hK5, hks, nks, sub, ent5, k5, rfl, fun j z _ h => lsub z (List.mem_of_getElem? h)⟩ (fun i σ' H' _ hP => by obtain ⟨_, _, _, _, h, _⟩ := hP; exact SqL.of h) (fun i v σ' H' hv hP => ?_) (fun σ' H' hP => ?_)
            · obtain ⟨z2, kv, ks2, rfl, hL6, hK6, hks2, nks2, sub2, ent6, k6, len6, mem6⟩ := hP
              obtain ⟨z, hz, rfl⟩ : ∃ z, ls[i]? = some z ∧ v = V.int z := by
                rw [List.getElem?_map] at hv
                cases hz : ls[i]? with
                | none => rw [hz] at hv; cases hv
                | some z => rw [hz] at hv; exact ⟨z, rfl, (Option.some.inj hv).symm⟩
              have zin := mem6 i z (Nat.le_refl _) hz
              obtain ⟨v2, hv2⟩ := Option.isSome_iff_exists.mp (has_mem.mpr (by rw [hks2]; exact List.mem_map.mpr ⟨z, zin, rfl⟩) : (valV kv (Sum.inl z : Key)).isSome = true)
              refine ⟨_, rfl, Kd, rfl, .inl ⟨_, .inl hK6⟩, _, rfl, kv, Sum.inl z, v2, hK6, rfl, hv2, ?_⟩
              refine ⟨_, _, ks2.filter fun y => decide (y ≠ z), rfl, by rw [upd_ne nLK]; exact hL6, upd_same, drop_keysI hks2, nks2.filter _, fun y hy => sub2 y (List.mem_filter.mp hy).1, fun y v h => ?_, k6.mut nKH, ?_, fun j y hj hy => ?_⟩
              · obtain ⟨b, e, hb⟩ := ent6 y v (List.mem_filter.mp h).1
                exact ⟨b, e, by rw [upd_ne (ne_of hb hK6 (fun z => nomatch z))]; exact hb⟩
              · have := filt_len nks2 zin
                omega
              · refine List.mem_filter.mpr ⟨mem6 j y (by omega) hy, decide_eq_true fun e => ?_⟩
                obtain ⟨l1, e1⟩ := List.getElem?_eq_some_iff.mp hz
                have := (List.getElem?_inj l1 lnd).mp (hz.trans (by rw [hy, e]))
                omega
            · obtain ⟨z2, kv, ks2, rfl, hL6, hK6, hks2, nks2, sub2, ent6, k6, len6, mem6⟩ := hP
              rw [List.length_map] at len6
              refine ⟨_, _, _, kv, ks2, rfl, hK6, hks2, nks2, sub2, ent6, k6, ?_⟩
              rw [List.length_map]
              by_cases ce : ks = []
              · rw [ce] at len6 hls
                have e1 : ls = [] := hls.symm
                rw [e1]
                refine .inr ⟨rfl, List.length_eq_zero_iff.mp ?_⟩
                have : ks2.length + ls.length = 0 := len6
                omega
              · obtain ⟨t, ht, htop⟩ := top_of ks ce
                have tin : t ∈ ls := by
                  rw [← hls]
                  refine List.mem_filter.mpr ⟨ht, decide_eq_true fun h => ?_⟩
                  have := htop _ h
                  omega
                have : 0 < ls.length := List.length_pos_of_mem tin
                exact .inl ⟨decide_eq_true (by omega), by omega⟩
      · have e : mo = false := by simpa using hmo
        have eks : ks = [] := by
          rcases hm with h | h
          · rw [h.1] at e
            cases e
          · exact h.2.1
        subst eks
        have ekv : kvs = [] := List.map_eq_nil_iff.mp hks
        subst ekv
        refine ⟨_, rfl, Kd, [], rfl, hKd, rfl, _, rfl, ?_⟩
        exact q H2 k2.toSame
end
end K36
namespace K36
open PySem PySem.Spec PyProof.Rows L2
/-! ### all that may be cut holds -/
def spHold : Sp := fun vs H Q _ => ∃ (a c : Addr) (R : List Rw), vs = [.ref a, .ref c] ∧ RowsAt H a R ∧ RS R ∧ H c = some (.tup ((fr R).map V.int)) ∧ ∀ H', Same H H' → Q (.bl true) H'
theorem fr_bar {R : List Rw} {z : Int} (h : z ∈ plc R.length (barB R)) : ¬ z ∈ fr R := fun h2 => by
  obtain ⟨i, h3, h4, h5⟩ := plc_mem.mp h
  obtain ⟨j, h6, h7, h8⟩ := plc_mem.mp h2
  have e : i = j := by omega
  subst e
  unfold freeB at h7
  rw [h4] at h7
  simp at h7
section
variable {P : Program} {w : World} {K : PySem.W.Frag} {mg : Str → Option Value} {base : Heap}
-- hold_in (printed by gen.py); slots: 0 rows, 1 cuts*, 2 some, 3 at
abbrev nHoldIn : List Str := ["rows", "cuts", "some", "at"]
abbrev pHoldIn : List Str := ["rows", "cuts"]
theorem scHoldIn : FnScope nHoldIn pHoldIn (defScope sHoldIn) := ⟨rfl, rfl, rfl, by decide +kernel, rfl, by decide +kernel, by decide +kernel⟩
theorem ok_hold (T : Bi mg) (a0 : At K mg "hold_in" sHoldIn pHoldIn) (cBarredIn : Cal P w K mg base CX0 "barred_in" 3 pBarredIn spBarT) (cRingAmong : Cal P w K mg base CX0 "ring_among" 2 pRingAmong spRing) :
    Cal P w K mg base CX0 "hold_in" 4 pHoldIn spHold := by
  refine Cal.of a0 scHoldIn (fun vs H Q E h => ?_) (fun f cdv A outer s H vs Q E hr h => ?_)
  · obtain ⟨a, c, R, rfl, _⟩ := h
    rfl
  · obtain ⟨a, c, R, rfl, hR, rs, hc, q⟩ := h
    obtain ⟨xs, hxs, lxs, hrow⟩ := id hR
    refine ⟨_, (pss_cons (ps_setLc (i := 2) (own := [("at", 3)]) (g := gName 3) rfl scHoldIn.nd rfl rfl (sw_true rfl rfl rfl (by decide +kernel)) (pi_range2 (by rfl) T.range (pa_cons pe_int (pa_cons (pe_callB call_len_seq (by rfl) T.len bo_len (pa_cons (pv 0) pa_nil)) pa_nil))) (blkOk_by (own := [("at", 3)]) (N := nHoldIn) (sc := defScope sHoldIn) (by decide +kernel)) (fun _ _ _ _ _ => (pg_name (i := 3) scHoldIn.nd rfl (.inl rfl))) (fun _ _ _ _ _ => (pts_one (pt_cmpR (notInK (K := K) rfl) (pv 3) (pv 1) (by rfl)))) (fun _ _ _ _ _ => (pv 3))) -- some = [at for at in range(1, len(rows)) if at not in cuts]
      (pss_cons (ps_if (pt_val (pe_callB (cr_any rfl) (by rfl) T.any bo_any (pa_cons (pe_lc (own := [("at", 3)]) (g := gName 3) rfl scHoldIn.nd (pi_tup (pe_c cBarredIn hr pass0 (pa_cons (pv 0) pa_nil))) (blkOk_by (own := [("at", 3)]) (N := nHoldIn) (sc := defScope sHoldIn) (by decide +kernel)) (fun _ _ _ _ _ => (pg_name (i := 3) scHoldIn.nd rfl (.inl rfl))) (fun _ _ _ _ _ => pts_nil) (fun _ _ _ _ _ => (pe_cmpR (inK (K := K) rfl) (pv 3) (pv 1) (by rfl)))) pa_nil)))
        (pss_one (ps_ret pe_bl))
        pss_nil) -- if any([at in cuts for at in barred_in(rows)]):
      (pss_one (ps_ret (pe_cmpR op_isN (pe_c cRingAmong hr pass0 (pa_cons (pv 0) (pa_cons (pv 2) pa_nil))) pe_non (nomark _)))))), ?_⟩
    have ln := rs.len
    refine ⟨_, rfl, a, xs, rfl, .inr (SqT.of hxs), 1, (xs.length : Int), rfl, ⟨by decide, by decide, by omega, by omega⟩, fun Dl nDl => ?_⟩
    have en : ((xs.length : Int) - 1).toNat = R.length - 1 := by omega
    rw [en]
    refine lc_range (lo := 1) (n := R.length - 1) (fun i H' => ∃ S : List Int, H' Dl = some (.lst (S.map V.int)) ∧ S.length ≤ i ∧ S.Nodup ∧ (∀ z ∈ S, ∃ j : Nat, j < i ∧ z = 1 + (j : Int)) ∧ Same H H') ⟨[], upd_same, Nat.le_refl _, List.nodup_nil, fun z h => absurd h List.not_mem_nil, same_new nDl⟩ (fun i H' hi hP => ?_) (fun H1 hP => ?_)
    · obtain ⟨S, hD, lS, nd, hS, sm⟩ := hP
      refine ⟨rfl, _, rfl, _, rfl, c, _, rfl, .inr (SqT.of (sm _ _ hc)), rfl, flat_ints _, _, rfl, ?_⟩
      refine ite2 (fun c1 => ?_) (fun c1 => ?_)
      · refine ⟨_, rfl, _, hD, szt (by rw [List.length_map]; omega), S ++ [1 + (i : Int)], by rw [upd_same, List.map_append]; rfl, by rw [List.length_append, List.length_singleton]; omega, ?_, fun z hz => ?_, Same.mut (H := H) sm nDl⟩
        · exact List.nodup_append.mpr ⟨nd, by simp, fun y hy z hz e => by
            obtain ⟨j, h1, h2⟩ := hS y hy
            have e2 := List.mem_singleton.mp hz
            omega⟩
        · rcases List.mem_append.mp hz with h | h
          · obtain ⟨j, h1, h2⟩ := hS z h
            exact ⟨j, by omega, h2⟩
          · exact ⟨i, by omega, List.mem_singleton.mp h⟩
      · refine ⟨S, hD, by omega, nd, fun z hz => ?_, sm⟩
        obtain ⟨j, h1, h2⟩ := hS z hz
        exact ⟨j, by omega, h2⟩
    · obtain ⟨S, hD, lS, nd, hS, sm⟩ := hP
      refine ⟨_, rfl, a, R, rfl, hR.tl (TL.of sm), rs, fun bp H2 s2 nbp hbp => ⟨bp, rfl, ⟨_, SqT.of hbp⟩, fun D2 nD2 => ?_⟩⟩
      have s12 := sm.trans s2
      have m3 := same_new (o := .lst []) nD2
      refine lc_tup (fun j H' => ∃ bs : List Bool, H' D2 = some (.lst (bs.map V.bl)) ∧ bs.length = j ∧ (∀ b ∈ bs, b = false) ∧ Same H2 H') ⟨[], upd_same, rfl, fun b h => absurd h List.not_mem_nil, m3⟩ (fun j H' _ hP => by obtain ⟨_, _, _, _, s⟩ := hP; exact SqT.of (s _ _ hbp)) (fun j v H' hj hP => ?_) (fun H3 hP => ?_)
      · obtain ⟨bs, hD2, lb, hb, sm2⟩ := hP
        obtain ⟨z, hz, rfl⟩ : ∃ z, (plc R.length (barB R))[j]? = some z ∧ v = V.int z := by
          rw [List.getElem?_map] at hj
          cases hz : (plc R.length (barB R))[j]? with
          | none => rw [hz] at hj; cases hj
          | some z => rw [hz] at hj; exact ⟨z, rfl, (Option.some.inj hj).symm⟩
        have lj := (List.getElem?_eq_some_iff.mp hz).1
        have lp : (plc R.length (barB R)).length ≤ R.length := plc_len
        refine ⟨rfl, _, rfl, _, rfl, c, _, rfl, .inr (SqT.of ((s12.trans sm2) _ _ hc)), rfl, flat_ints _, bs.map V.bl, hD2, szt (by rw [List.length_map]; omega), bs ++ [false], ?_, by rw [List.length_append, List.length_singleton, lb], fun b hb2 => ?_, Same.mut (H := H2) sm2 nD2⟩
        · rw [upd_same, List.map_append, inV_ints, decide_eq_false (fr_bar (List.mem_of_getElem? hz))]
          rfl
        · rcases List.mem_append.mp hb2 with h | h
          · exact hb b h
          · exact List.mem_singleton.mp h
      · obtain ⟨bs, hD2, lb, hb, sm2⟩ := hP
        refine ⟨D2, bs, rfl, SqL.of hD2, _, rfl, ?_⟩
        have ea : bs.any id = false := by
          rw [List.any_eq_false]
          intro b h
          rw [hb b h]
          exact Bool.false_ne_true
        rw [ea]
        have s13 := s12.trans sm2
        have hD3 := (s2.trans sm2) _ _ hD
        refine ⟨_, rfl, _, rfl, a, Dl, R, S, rfl, hR.tl (TL.of s13), rs, hD3, nd, fun z hz => ?_, fun H4 s4 => ⟨rfl, q H4 (s13.trans s4)⟩⟩
        obtain ⟨j, h1, h2⟩ := hS z hz
        exact ⟨j + 1, by omega, by omega⟩
end
end K36
namespace K36
open PySem PySem.Spec PyProof.Rows L2
/-! ### the heaviest ways -/
abbrev Ex := LamX.ExtN
abbrev TbS := List (Addr × Str)
theorem Ex.tl {H H' : Hp} (x : Ex H H') : TL H H' := ⟨fun b xs h => x b _ h (fun _ z => nomatch z), fun b o xs h => x b _ h (fun _ z => nomatch z)⟩
theorem Ex.l {H H' : Hp} (x : Ex H H') {b : Addr} {xs : List V} (h : H b = some (.lst xs)) : H' b = some (.lst xs) := x b _ h (fun _ z => nomatch z)
theorem Ex.d {H H' : Hp} (x : Ex H H') {b : Addr} {xs : List (Key × V)} (h : H b = some (.dK xs)) : H' b = some (.dK xs) := x b _ h (fun _ z => nomatch z)
theorem Ex.mut {H H' : Hp} (x : Ex H H') {p : Addr} {o : HO} (h : H p = none) : Ex H (upd H' p o) := fun b u e n => by
  rw [upd_ne (ne_of_none e h)]
  exact x b u e n
theorem tabs_upd {TT : TbS} {H : Hp} {a : Addr} {u o : HO} (t : LamX.Tabs TT H) (h : H a = some u) (n1 : ∀ ps, u ≠ .tbl ps) (n2 : ∀ c q, u ≠ LamX.CodeO c q) : LamX.Tabs TT (upd H a o) := fun p hp => by
  obtain ⟨ps, h1, h2, h3⟩ := t p hp
  refine ⟨ps, by rw [upd_ne (ne_of h1 h (fun z => n1 ps z.symm))]; exact h1, h2, fun pos cv hc => ?_⟩
  obtain ⟨c, e, hco⟩ := h3 pos cv hc
  exact ⟨c, e, by rw [upd_ne (ne_of hco h (fun z => n2 _ _ z.symm))]; exact hco⟩
theorem tabs_dK {TT : TbS} {H : Hp} {a : Addr} {xs : List (Key × V)} {o : HO} (t : LamX.Tabs TT H) (h : H a = some (.dK xs)) : LamX.Tabs TT (upd H a o) := tabs_upd t h (fun _ z => nomatch z) (fun _ _ z => by unfold LamX.CodeO at z; cases z)
theorem tabs_lst {TT : TbS} {H : Hp} {a : Addr} {xs : List V} {o : HO} (t : LamX.Tabs TT H) (h : H a = some (.lst xs)) : LamX.Tabs TT (upd H a o) := tabs_upd t h (fun _ z => nomatch z) (fun _ _ z => by unfold LamX.CodeO at z; cases z)
/-- a work and its way -/
def WayV (H : Hp) (v : V) (m : Int) (n : Nat) : Prop := ∃ t wp ws, v = .ref t ∧ H t = some (.tup [.int m, .ref wp]) ∧ H wp = some (.tup ws) ∧ ws.length ≤ n
theorem WayV.tl {H H' : Hp} (x : TL H H') {v : V} {m : Int} {n : Nat} (h : WayV H v m n) : WayV H' v m n := by
  obtain ⟨t, wp, ws, e, h1, h2, h3⟩ := h
  exact ⟨t, wp, ws, e, x _ _ h1, x _ _ h2, h3⟩
theorem WayV.le {H : Hp} {v : V} {m : Int} {n k : Nat} (h : WayV H v m n) (l : n ≤ k) : WayV H v m k := by
  obtain ⟨t, wp, ws, e, h1, h2, h3⟩ := h
  exact ⟨t, wp, ws, e, h1, h2, Nat.le_trans h3 l⟩
theorem rev_at {n j : Nat} {v : V} (h : (rgV 0 (n : Int)).reverse[j]? = some v) : j < n ∧ v = V.int ((n - 1 - j : Nat) : Int) := by
  have l : (rgV 0 (n : Int)).length = n := by rw [rgV_length]; omega
  have lj : j < n := by
    have := (List.getElem?_eq_some_iff.mp h).1
    rwa [List.length_reverse, l] at this
  refine ⟨lj, ?_⟩
  rw [List.getElem?_reverse (by omega), l] at h
  unfold rgV at h
  rw [List.getElem?_map, List.getElem?_range (by omega)] at h
  have e := Option.some.inj h
  rw [← e]
  show V.int (0 + ((n - 1 - j : Nat) : Int)) = _
  rw [Int.zero_add]
def spFrom (TT : TbS) : Sp := fun vs H Q _ => ∃ (a b : Addr) (i : Nat) (R : List Rw) (o : Option (V × Int)) (n : Nat), vs = [.ref a, .int i, .ref b] ∧ RowsAt H a R ∧ RS R ∧ i < R.length ∧ H b = some (.lst (o.toList.map (·.1))) ∧ (∀ p, o = some p → WayV H p.1 p.2 n) ∧ n ≤ 100 ∧ LamX.Tabs TT H ∧
  ∀ v H', Ex H H' → LamX.Tabs TT H' → WayV H' v (((wkAt R i : Nat) : Int) + (match o with | some p => p.2 | none => 0)) (n + 1) → Q v H'
def spWays (TT : TbS) : Sp := fun vs H Q _ => ∃ (a c : Addr) (R : List Rw) (bs : List Int), vs = [.ref a, .ref c] ∧ RowsAt H a R ∧ RS R ∧ H c = some (.tup (bs.map V.int)) ∧ LamX.Tabs TT H ∧
  ∀ D kvs H', Ex H H' → LamX.Tabs TT H' → H' D = some (.dK kvs) → (∀ i : Nat, i < R.length → ∃ v, valV kvs (Sum.inl (i : Int)) = some v ∧ WayV H' v ((hvAt R (inI bs) i : Nat) : Int) 100) → Q (.ref D) H'
section
variable {P : Program} {w : World} {K : PySem.W.Frag} {mg : Str → Option Value} {base : Heap} {TT : TbS}
-- heaviest_ways (printed by gen.py); slots: 0 rows, 1 begins*, 2 found*, 3 left, 4 later, 5 at, 6 inner, 7 k
abbrev nHeaviestWays : List Str := ["rows", "begins", "found", "left", "later", "at", "inner", "k"]
abbrev pHeaviestWays : List Str := ["rows", "begins"]
theorem scHeaviestWays : FnScope nHeaviestWays pHeaviestWays (defScope sHeaviestWays) := ⟨rfl, rfl, rfl, by decide +kernel, rfl, by decide +kernel, by decide +kernel⟩
-- heaviest_from (printed by gen.py); slots: 0 rows, 1 at, 2 behind, 3 work, 4 way
abbrev nHeaviestFrom : List Str := ["rows", "at", "behind", "work", "way"]
abbrev pHeaviestFrom : List Str := ["rows", "at", "behind"]
theorem scHeaviestFrom : FnScope nHeaviestFrom pHeaviestFrom (defScope sHeaviestFrom) := ⟨rfl, rfl, rfl, by decide +kernel, rfl, by decide +kernel, by decide +kernel⟩
theorem ok_ways (T : Bi mg) (a0 : At K mg "heaviest_ways" sHeaviestWays pHeaviestWays) (cLeadsTo : Cal P w K mg base CX0 "leads_to" 1 pLeadsTo spLeadsT) (cHeaviestFrom : Cal P w K mg base CX0 "heaviest_from" 9 pHeaviestFrom (spFrom TT)) :
    Cal P w K mg base CX0 "heaviest_ways" 10 pHeaviestWays (spWays TT) := by
  refine Cal.of a0 scHeaviestWays (fun vs H Q E h => ?_) (fun f cdv A outer s H vs Q E hr h => ?_)
  · obtain ⟨a, c, R, bs, rfl, _⟩ := h
    rfl
  · obtain ⟨a, c, R, bs, rfl, hR, rs, hc, tb, q⟩ := h
    obtain ⟨xs, hxs, lxs, hrow⟩ := id hR
    have ln := rs.len
    refine ⟨_, (pss_cons (ps_set (i := 2) scHeaviestWays.nd rfl (.inr rfl) pe_dnewK) -- found = {}
      (pss_cons (ps_set (i := 3) scHeaviestWays.nd rfl (.inl rfl) (pe_revL (pe_listRg rfl (by rfl) T.list (prg_1 (by rfl) T.range (pe_callB call_len_seq (by rfl) T.len bo_len (pa_cons (pv 0) pa_nil)))))) -- left = list(range(len(rows)))[::-1]
      (pss_cons (ps_while PassesOwn.never (pt_cmpR op_gt (pe_callB call_len_seq (by rfl) T.len bo_len (pa_cons (pv 3) pa_nil)) pe_int (nomark _))
        (pss_cons (ps_set (i := 4) scHeaviestWays.nd rfl (.inl rfl) (pe_lst pa_nil)) -- later = []
        (pss_cons (ps_for PassesOwn.never rfl (pi_list (pv 3)) (pg_name (i := 5) scHeaviestWays.nd rfl (.inl rfl))
          (pss_cons (ps_setLc (i := 6) (own := [("k", 7)]) (g := gName 7) rfl scHeaviestWays.nd rfl rfl (sw_true rfl rfl rfl (by decide +kernel)) (pi_tup (pe_c cLeadsTo hr pass0 (pa_cons (pe_ix ix_tup (pv 0) (pv 5) (fun _ _ => rfl)) pa_nil))) (blkOk_by (own := [("k", 7)]) (N := nHeaviestWays) (sc := defScope sHeaviestWays) (by decide +kernel)) (fun _ _ _ _ _ => (pg_name (i := 7) scHeaviestWays.nd rfl (.inl rfl))) (fun _ _ _ _ _ => (pts_one (pt_cmpR (notInK (K := K) rfl) (pv 7) (pv 1) (by rfl)))) (fun _ _ _ _ _ => (pv 7))) -- inner = [k for k in leads_to(rows[at]) if k not in begins]
          (pss_one (ps_if (pt_val (pe_callB (cr_all rfl) (by rfl) T.all bo_all (pa_cons (pe_lc (own := [("k", 7)]) (g := gName 7) rfl scHeaviestWays.nd (pi_list (pv 6)) (blkOk_by (own := [("k", 7)]) (N := nHeaviestWays) (sc := defScope sHeaviestWays) (by decide +kernel)) (fun _ _ _ _ _ => (pg_name (i := 7) scHeaviestWays.nd rfl (.inl rfl))) (fun _ _ _ _ _ => pts_nil) (fun _ _ _ _ _ => (pe_cmp (pc_din (hu_of hr) (pv 7) (pv 2)) rfl))) pa_nil)))
            (pss_one (ps_dput (hu_of hr) (pv 2) (pv 5) (pe_c cHeaviestFrom hr pass0 (pa_cons (pv 0) (pa_cons (pv 5) (pa_cons (pe_lc (own := [("k", 7)]) (g := gName 7) rfl scHeaviestWays.nd (pi_list (pv 6)) (blkOk_by (own := [("k", 7)]) (N := nHeaviestWays) (sc := defScope sHeaviestWays) (by decide +kernel)) (fun _ _ _ _ _ => (pg_name (i := 7) scHeaviestWays.nd rfl (.inl rfl))) (fun _ _ _ _ _ => pts_nil) (fun _ _ _ _ _ => (pe_dget (hu_of hr) (pv 2) (pv 7) (fun _ _ => rfl)))) pa_nil)))) rfl))
            (pss_one (ps_expr (pe_bm PySem.F.plainAttrs_list PySem.F.slot_list_append PySem.F.type_list_append mt_append (pv 4) (pa_cons (pv 5) pa_nil)))))))) -- for at in left:
        (pss_one (ps_set (i := 3) scHeaviestWays.nd rfl (.inl rfl) (pv 4)))))) -- while len(left) > 0:
      (pss_one (ps_ret (pv 2)))))), ?_⟩
    refine fun Fd nFd => ?_
    have m1 := same_new (o := .dK []) nFd
    refine ⟨_, rfl, a, xs, rfl, .inr (SqT.of (m1 _ _ hxs)), ?_⟩
    have ex : xs.length = R.length := lxs
    refine ⟨_, rfl, RgOk.of_le (by decide) (by omega) (by decide) (by omega), fun L0 n0 => ⟨L0, _, rfl, SqL.of upd_same, fun L1 n1 => ?_⟩⟩
    have m2 := m1.trans (same_new (o := .lst (rgV 0 (xs.length : Int))) n0)
    have m3 := m2.trans (same_new (o := .lst (rgV 0 (xs.length : Int)).reverse) n1)
    have hF3 := (same_new (o := .lst (rgV 0 (xs.length : Int))) n0).trans (same_new (o := .lst (rgV 0 (xs.length : Int)).reverse) n1) _ _ (upd_same (H := H) (a := Fd) (o := .dK []))
    have hL3 := upd_same (H := upd (upd H Fd (.dK [])) L0 (.lst (rgV 0 (xs.length : Int)))) (a := L1) (o := .lst (rgV 0 (xs.length : Int)).reverse)
    generalize upd (upd (upd H Fd (.dK [])) L0 (.lst (rgV 0 (xs.length : Int)))) L1 (.lst (rgV 0 (xs.length : Int)).reverse) = H3 at m3 hF3 hL3 ⊢
    rw [lxs] at hL3
    refine ⟨fun m σ' H' => ∃ (y4 y5 y6 : Option V) (Ll : Addr) (kvs : List (Key × V)), σ' = [some (.ref a), some (.ref c), some (.ref Fd), some (.ref Ll), y4, y5, y6, none] ∧ H' Fd = some (.dK kvs) ∧ Ex H H' ∧ LamX.Tabs TT H' ∧
      ((m = 1 ∧ kvs = [] ∧ H' Ll = some (.lst (rgV 0 (R.length : Int)).reverse)) ∨ (m = 0 ∧ H' Ll = some (.lst []) ∧ ∀ i : Nat, i < R.length → ∃ v, valV kvs (Sum.inl (i : Int)) = some v ∧ WayV H' v ((hvAt R (inI bs) i : Nat) : Int) 100)),
      ⟨1, none, none, none, L1, [], rfl, hF3, LamX.ExtN.of m3, tb.ext m3, .inl ⟨rfl, rfl, hL3⟩⟩, fun m σ' H4 hW => ?_⟩
    obtain ⟨y4, y5, y6, Ll, kvs, rfl, hF, e4, tb4, hm⟩ := hW
    obtain ⟨zs, hLl, hzs⟩ : ∃ zs, H4 Ll = some (.lst zs) ∧ ((m = 1 ∧ kvs = [] ∧ zs = (rgV 0 (R.length : Int)).reverse) ∨ (m = 0 ∧ zs = [] ∧ ∀ i : Nat, i < R.length → ∃ v, valV kvs (Sum.inl (i : Int)) = some v ∧ WayV H4 v ((hvAt R (inI bs) i : Nat) : Int) 100)) := by
      rcases hm with ⟨h1, h2, h3⟩ | ⟨h1, h2, h3⟩
      · exact ⟨_, h3, .inl ⟨h1, h2, rfl⟩⟩
      · exact ⟨_, h2, .inr ⟨h1, rfl, h3⟩⟩
    have lrev : ((rgV 0 (R.length : Int)).reverse).length = R.length := by rw [List.length_reverse, rgV_length]; omega
    refine ⟨_, rfl, Ll, zs, rfl, .inl (SqL.of hLl), _, _, rfl, rfl, _, rfl, ?_⟩
    refine ite2 (fun c0 => ?_) (fun c0 => ?_)
    · have c0' : 0 < zs.length := by
        have := of_decide_eq_true c0
        omega
      obtain ⟨em, ek, ez⟩ : m = 1 ∧ kvs = [] ∧ zs = (rgV 0 (R.length : Int)).reverse := by
        rcases hzs with h | h
        · exact h
        · rw [h.2.1] at c0'
          exact absurd c0' (Nat.lt_irrefl 0)
      subst em
      subst ek
      refine ⟨fun σ' H' => ∃ (y4 y5 y6 : Option V) (Ll : Addr) (kvs : List (Key × V)), σ' = [some (.ref a), some (.ref c), some (.ref Fd), some (.ref Ll), y4, y5, y6, none] ∧ H' Fd = some (.dK kvs) ∧ Ex H H' ∧ LamX.Tabs TT H' ∧ H' Ll = some (.lst []) ∧ ∀ i : Nat, i < R.length → ∃ v, valV kvs (Sum.inl (i : Int)) = some v ∧ WayV H' v ((hvAt R (inI bs) i : Nat) : Int) 100, fun σ' H' h => ?_, ?_⟩
      · obtain ⟨z4, z5, z6, Ll', kv', h1, h2, h3, h4, h5, h6⟩ := h
        exact ⟨0, by decide, z4, z5, z6, Ll', kv', h1, h2, h3, h4, .inr ⟨rfl, h5, h6⟩⟩
      · refine ⟨Nat.zero_le _, fun Lt nLt => ?_⟩
        have m5 := same_new (o := .lst []) nLt
        have hF5 := m5 _ _ hF
        have hL5 := m5 _ _ hLl
        have hT5 := upd_same (H := H4) (a := Lt) (o := .lst [])
        have e5 := e4.trans (LamX.ExtN.of m5)
        have tb5 := tb4.ext m5
        generalize upd H4 Lt (.lst []) = H5 at hF5 hL5 hT5 e5 tb5 ⊢
        rw [ez] at hL5
        refine ⟨_, rfl, Ll, rfl, ⟨_, SqL.of hL5⟩, ?_⟩
        refine for_list (fun i σ' H' => ∃ (y5 y6 : Option V) (kvs : List (Key × V)), σ' = [some (.ref a), some (.ref c), some (.ref Fd), some (.ref Ll), some (.ref Lt), y5, y6, none] ∧ H' Fd = some (.dK kvs) ∧ kvs.length ≤ i ∧ Ex H H' ∧ LamX.Tabs TT H' ∧ H' Ll = some (.lst (rgV 0 (R.length : Int)).reverse) ∧ H' Lt = some (.lst []) ∧ ∀ j : Nat, R.length - i ≤ j → j < R.length → ∃ v, valV kvs (Sum.inl (j : Int)) = some v ∧ WayV H' v ((hvAt R (inI bs) j : Nat) : Int) (R.length - j))
          ⟨y5, y6, [], rfl, hF5, Nat.zero_le _, e5, tb5, hL5, hT5, fun j h1 h2 => by omega⟩ (fun i σ' H' _ hP => by obtain ⟨_, _, _, _, _, _, _, _, h, _⟩ := hP; exact SqL.of h) (fun i v σ' H6 hv hP => ?_) (fun σ' H6 hP => ?_)
        · obtain ⟨z5, z6, kvs, rfl, hF6, lk, e6, tb6, hL6, hT6, done⟩ := hP
          obtain ⟨li, rfl⟩ := rev_at hv
          generalize hat : R.length - 1 - i = at'
          have la : at' < R.length := by omega
          obtain ⟨v', hv', hr0⟩ := hrow at' R[at'] (List.getElem?_eq_getElem la)
          have hri : R[at']? = some R[at'] := List.getElem?_eq_getElem la
          have ewk : wkAt R at' = R[at'].wk := by
            unfold wkAt
            rw [hri]
          generalize R[at'] = r at hr0 hri ewk
          have hra := hr0.tl e6.tl
          obtain ⟨ra, wd, tl, rfl, _⟩ := hra.sure
          obtain ⟨o, ho, hval⟩ : ∃ o : Option (V × Int), (match o with | some p => (at' + 1 < R.length ∧ inI bs (at' + 1) = false) ∧ valV kvs (Sum.inl ((at' + 1 : Nat) : Int)) = some p.1 ∧ WayV H6 p.1 p.2 (R.length - (at' + 1)) | none => ¬ (at' + 1 < R.length ∧ inI bs (at' + 1) = false)) ∧
              ((wkAt R at' : Nat) : Int) + (match o with | some p => p.2 | none => 0) = ((hvAt R (inI bs) at' : Nat) : Int) := by
            have st := hvAt_step (c := inI bs) hri
            by_cases cb : at' + 1 < R.length ∧ inI bs (at' + 1) = false
            · obtain ⟨u, hu, hw⟩ := done (at' + 1) (by omega) cb.1
              refine ⟨some (u, ((hvAt R (inI bs) (at' + 1) : Nat) : Int)), ⟨cb, hu, hw⟩, ?_⟩
              rw [st, cb.2, if_neg (fun e => nomatch e), ewk]
              show (r.wk : Int) + ((hvAt R (inI bs) (at' + 1) : Nat) : Int) = _
              omega
            · refine ⟨none, cb, ?_⟩
              rw [st, ewk]
              show (r.wk : Int) + 0 = _
              by_cases c1 : at' + 1 < R.length
              · have c2 : inI bs (at' + 1) = true := by
                  cases h : inI bs (at' + 1) with
                  | true => rfl
                  | false => exact absurd ⟨c1, h⟩ cb
                rw [c2, if_pos rfl]
                omega
              · rw [hvAt_end (i := at' + 1) (by omega)]
                split <;> omega
          have one : ∀ {j : Nat} {u : V} {g : V × Int → V}, (o.toList.map g)[j]? = some u → ∃ p, o = some p ∧ j = 0 ∧ u = g p := fun {j u g} h => by
            cases o with
            | none => cases h
            | some p =>
              cases j with
              | zero => exact ⟨p, rfl, rfl, (Option.some.inj h).symm⟩
              | succ j => cases h
          have lo : ∀ j, (o.toList.take j).length ≤ 1 := fun j => by
            rw [List.length_take]
            cases o with
            | none => exact Nat.le_trans (Nat.min_le_right _ _) (Nat.zero_le _)
            | some p => exact Nat.min_le_right _ _
          refine ⟨_, rfl, _, rfl, a, xs, _, _, rfl, rfl, SqT.of (e6.tl.t _ _ hxs), at_nat (j := at') rfl hv', ?_⟩
          refine ⟨ra, at', r, rfl, hra, fun lp H7 s7 nlp hlp => ⟨lp, rfl, ⟨_, SqT.of hlp⟩, fun Dl nDl => ?_⟩⟩
          have m8 := same_new (o := .lst []) nDl
          refine lc_tup (fun j H' => H' Dl = some (.lst (((nx r at').take j).flatMap fun _ => if inI bs (at' + 1) = true then [] else [V.int ((at' : Int) + 1)])) ∧ Same H7 H') ⟨upd_same, m8⟩ (fun j H' _ hP => SqT.of (hP.2 _ _ hlp)) (fun j u H' hj hP => ?_) (fun H8 hP => ?_)
          · obtain ⟨e0, ev, en⟩ := nx_at hj
            obtain ⟨hD, sm⟩ := hP
            subst e0
            subst ev
            rw [en] at hD ⊢
            have ei : inI bs (at' + 1) = decide (((at' : Int) + 1) ∈ bs) := by
              unfold inI
              rw [show ((at' + 1 : Nat) : Int) = (at' : Int) + 1 by omega]
            refine ⟨rfl, _, rfl, _, rfl, c, bs.map V.int, rfl, .inr (SqT.of ((s7.trans sm) _ _ (e6.tl.t _ _ hc))), rfl, flat_ints _, _, rfl, ?_⟩
            rw [inV_ints, ← ei]
            cases inI bs (at' + 1) with
            | true => exact ⟨by rw [hD]; rfl, sm⟩
            | false =>
              refine ⟨_, rfl, [], hD, by decide, ?_, Same.mut (H := H7) sm nDl⟩
              rw [upd_same]
              rfl
          · obtain ⟨hD, sm⟩ := hP
            rw [List.take_length] at hD
            have val : H8 Dl = some (.lst (o.toList.map fun _ => V.int ((at' + 1 : Nat) : Int))) := by
              rw [hD]
              by_cases cf : r = .fin
              · have e1 := (rs.fin hri).mp cf
                cases o with
                | none => rw [cf]; rfl
                | some p => exact absurd ho.1.1 (by omega)
              · have e1 : at' + 1 < R.length := by
                  have h1 : at' + 1 ≠ R.length := fun h => cf ((rs.fin hri).mpr h)
                  omega
                rw [nx_ne cf]
                cases o with
                | none =>
                  have c2 : inI bs (at' + 1) = true := by
                    cases h : inI bs (at' + 1) with
                    | true => rfl
                    | false => exact absurd ⟨e1, h⟩ ho
                  rw [c2]
                  rfl
                | some p =>
                  rw [ho.1.2]
                  rfl
            have s68 := s7.trans sm
            refine ⟨_, rfl, Dl, rfl, ⟨_, SqL.of val⟩, fun D2 nD2 => ?_⟩
            have m9 := same_new (o := .lst []) nD2
            have hF8 := s68 _ _ hF6
            refine lc_list (fun j H' => H' D2 = some (.lst ((o.toList.take j).map fun _ => V.bl true)) ∧ Same H8 H') ⟨upd_same, m9⟩ (fun j H' _ hP => SqL.of (hP.2 _ _ val)) (fun j u H' hj hP => ?_) (fun H9 hP => ?_)
            · obtain ⟨p, eo, rfl, rfl⟩ := one hj
              obtain ⟨hD2, sm2⟩ := hP
              subst eo
              refine ⟨rfl, _, rfl, _, rfl, Fd, _, rfl, DGet.k (k := Sum.inl ((at' + 1 : Nat) : Int)) (sm2 _ _ hF8), [], hD2, by decide, ?_, Same.mut (H := H8) sm2 nD2⟩
              rw [upd_same, ho.2.1]
              rfl
            · obtain ⟨hD2, sm2⟩ := hP
              rw [List.length_map, List.take_length] at hD2
              refine ⟨D2, o.toList.map fun _ => true, rfl, SqL.of (by rw [hD2, List.map_map]; rfl), _, rfl, ?_⟩
              have ea : (o.toList.map fun _ => true).all id = true := by cases o <;> rfl
              rw [ea]
              refine ite2 (fun _ => ?_) (fun c => absurd rfl c)
              have s69 := s68.trans sm2
              have val9 := sm2 _ _ val
              refine ⟨_, rfl, _, rfl, _, rfl, Dl, rfl, ⟨_, SqL.of val9⟩, fun D3 nD3 => ?_⟩
              have m10 := same_new (o := .lst []) nD3
              have hF9 := sm2 _ _ hF8
              refine lc_list (fun j H' => H' D3 = some (.lst ((o.toList.take j).map (·.1))) ∧ Same H9 H') ⟨upd_same, m10⟩ (fun j H' _ hP => SqL.of (hP.2 _ _ val9)) (fun j u H' hj hP => ?_) (fun H10 hP => ?_)
              · obtain ⟨p, eo, rfl, rfl⟩ := one hj
                obtain ⟨hD3, sm3⟩ := hP
                subst eo
                refine ⟨rfl, _, rfl, _, rfl, Fd, p.1, rfl, .inl ⟨kvs, Sum.inl ((at' + 1 : Nat) : Int), .inl (sm3 _ _ hF9), rfl, ho.2.1.symm⟩, [], hD3, by decide, ?_, Same.mut (H := H9) sm3 nD3⟩
                rw [upd_same]
                rfl
              · obtain ⟨hD3, sm3⟩ := hP
                rw [List.length_map, List.take_length] at hD3
                have s610 := s69.trans sm3
                have tl10 := e6.tl.trans (TL.of s610)
                refine ⟨a, D3, at', R, o, R.length - (at' + 1), rfl, hR.tl tl10, rs, la, hD3, fun p hp => ?_, by omega, tb6.ext s610, fun v H11 e11 tb11 hw11 => ?_⟩
                · subst hp
                  exact ho.2.2.tl (TL.of s610)
                · rw [hval] at hw11
                  have hF11 := e11.d (s610 _ _ hF6)
                  have e611 : Ex H6 H11 := (LamX.ExtN.of s610).trans e11
                  refine ⟨_, rfl, _, rfl, Fd, _, rfl, DPut.k (k := Sum.inl (at' : Int)) hF11 (szt (by omega)), ?_⟩
                  have nLF : Ll ≠ Fd := ne_of hL6 hF6 (fun z => nomatch z)
                  have nTF : Lt ≠ Fd := ne_of hT6 hF6 (fun z => nomatch z)
                  have ku : TL H11 (upd H11 Fd (.dK (putK kvs (Sum.inl (at' : Int)) v))) := (Kp.upd (M := Is Fd) rfl hF11 dK_ne_tup).t
                  have lp : (putK kvs (Sum.inl (at' : Int) : Key) v).length ≤ kvs.length + 1 := by
                    have := congrArg List.length (put_keys (kvs := kvs) (k := (Sum.inl (at' : Int) : Key)) (v := v))
                    rw [List.length_map] at this
                    rw [this]
                    split
                    · rw [List.length_map]; omega
                    · rw [List.length_append, List.length_map, List.length_singleton]; omega
                  refine ⟨_, _, putK kvs (Sum.inl (at' : Int)) v, rfl, upd_same, by omega, Ex.mut (e6.trans e611) nFd, tabs_dK tb11 hF11, by rw [upd_ne nLF]; exact e611.l hL6, by rw [upd_ne nTF]; exact e611.l hT6, fun j j1 j2 => ?_⟩
                  rw [valV_put]
                  by_cases ej : j = at'
                  · refine ⟨v, if_pos (by rw [ej]), ?_⟩
                    rw [ej]
                    have en : R.length - (at' + 1) + 1 = R.length - at' := by omega
                    rw [en] at hw11
                    exact hw11.tl ku
                  · obtain ⟨u, hu, hw⟩ := done j (by omega) j2
                    exact ⟨u, by rw [if_neg (fun h => ej (by have := Sum.inl.inj h; omega))]; exact hu, hw.tl (e611.tl.trans ku)⟩
        · obtain ⟨z5, z6, kvs, rfl, hF6, lk, e6, tb6, hL6, hT6, done⟩ := hP
          rw [lrev] at done
          refine ⟨_, rfl, ?_⟩
          exact ⟨_, _, _, Lt, kvs, rfl, hF6, e6, tb6, hT6, fun i hi => by
            obtain ⟨v, h1, h2⟩ := done i (by omega) hi
            exact ⟨v, h1, h2.le (by omega)⟩⟩
    · have c0' : zs = [] := by
        cases zs with
        | nil => rfl
        | cons z zs => exact absurd (decide_eq_true (by rw [List.length_cons]; omega)) c0
      have full : ∀ i : Nat, i < R.length → ∃ v, valV kvs (Sum.inl (i : Int)) = some v ∧ WayV H4 v ((hvAt R (inI bs) i : Nat) : Int) 100 := by
        rcases hzs with h | h
        · have := congrArg List.length (c0'.symm.trans h.2.2)
          rw [lrev, List.length_nil] at this
          omega
        · exact h.2.2
      exact ⟨_, rfl, q Fd kvs H4 e4 tb4 hF full⟩
end
end K36
namespace K36
open PySem PySem.Spec PyProof.Rows L2
/-! ### whether all that may be cut fits -/
theorem hv_ext {c d : Nat → Bool} : ∀ {l : List Rw} {i : Nat}, (∀ j, c (j + 1) = d (j + 1)) → hv c i l = hv d i l
  | [], _, _ => rfl
  | r :: l, i, h => by
    unfold hv
    rw [h i, hv_ext (i := i + 1) h]
theorem inI_0 {ks : List Int} {j : Nat} : inI (0 :: ks) (j + 1) = inI ks (j + 1) := by
  unfold inI
  rw [Bool.eq_iff_iff, decide_eq_true_eq, decide_eq_true_eq, List.mem_cons]
  exact ⟨fun h => h.resolve_left (by omega), .inr⟩
theorem hvAt_0 {R : List Rw} {ks : List Int} {i : Nat} : hvAt R (inI (0 :: ks)) i = hvAt R (inI ks) i := hv_ext fun _ => inI_0
/-- opening, the heaviest from a place, putting -/
def fitB (R : List Rw) (op pu ch : Int) : Bool := ((0 : Int) :: fr R).all fun z => decide (op + (hvAt R (inI (fr R)) z.toNat : Nat) + pu ≤ ch)
theorem LimAt.ex {K : PySem.W.Frag} {H H' : Hp} {l : Addr} {ch op pu : Int} (s : Ex H H') (h : LimAt K H l ch op pu) : LimAt K H' l ch op pu := by
  obtain ⟨dx, fs, h1, h2⟩ := h
  exact ⟨dx, fs, s _ _ h1 (fun _ z => nomatch z), h2⟩
def spFit (K : PySem.W.Frag) (TT : TbS) : Sp := fun vs H Q _ => ∃ (a l c : Addr) (ch op pu : Int) (R : List Rw), vs = [.ref a, .ref l, .ref c] ∧ RowsAt H a R ∧ RS R ∧ LimAt K H l ch op pu ∧ H c = some (.tup ((fr R).map V.int)) ∧ LamX.Tabs TT H ∧
  ∀ H', Ex H H' → LamX.Tabs TT H' → Q (.bl (fitB R op pu ch)) H'
section
variable {P : Program} {w : World} {K : PySem.W.Frag} {mg : Str → Option Value} {base : Heap} {TT : TbS}
-- fit_in (printed by gen.py); slots: 0 rows, 1 limits*, 2 cuts, 3 found*, 4 at
abbrev nFitIn : List Str := ["rows", "limits", "cuts", "found", "at"]
abbrev pFitIn : List Str := ["rows", "limits", "cuts"]
theorem scFitIn : FnScope nFitIn pFitIn (defScope sFitIn) := ⟨rfl, rfl, rfl, by decide +kernel, rfl, by decide +kernel, by decide +kernel⟩
theorem ok_fit (T : Bi mg) (LC : LimC K) (CL : Cls K (He.ga K "Limits")) (a0 : At K mg "fit_in" sFitIn pFitIn) (cHoldIn : Cal P w K mg base CX0 "hold_in" 4 pHoldIn spHold) (cHeaviestWays : Cal P w K mg base CX0 "heaviest_ways" 10 pHeaviestWays (spWays TT))
    (cTaken : MCal P w K mg base CX0 "Limits" "taken" 1 pLimitsTaken (spTaken K)) :
    Cal P w K mg base CX0 "fit_in" 11 pFitIn (spFit K TT) := by
  refine Cal.of a0 scFitIn (fun vs H Q E h => ?_) (fun f cdv A outer s H vs Q E hr h => ?_)
  · obtain ⟨a, l, c, ch, op, pu, R, rfl, _⟩ := h
    rfl
  · obtain ⟨a, l, c, ch, op, pu, R, rfl, hR, rs, hl, hc, tb, q⟩ := h
    have ln := rs.len
    refine ⟨_, (pss_cons (ps_if (pt_not (pt_val (pe_c cHoldIn hr pass0 (pa_cons (pv 0) (pa_cons (pv 2) pa_nil)))))
        (pss_one (ps_ret pe_bl))
        pss_nil) -- if not hold_in(rows, cuts):
      (pss_cons (ps_set (i := 3) scFitIn.nd rfl (.inr rfl) (pe_c cHeaviestWays hr pass0 (pa_cons (pv 0) (pa_cons (pe_op op_catA (pe_tup (pa_cons pe_int pa_nil)) (pe_callTy call_tuple_of (by rfl) T.tuple bo_tuple (pa_cons (pv 2) pa_nil))) pa_nil)))) -- found = heaviest_ways(rows, (0,) + tuple(cuts))
      (pss_one (ps_ret (pe_callB (cr_all rfl) (by rfl) T.all bo_all (pa_cons (pe_lc (own := [("at", 4)]) (g := gName 4) rfl scFitIn.nd (pi_tup (pe_op op_catA (pe_tup (pa_cons pe_int pa_nil)) (pe_callTy call_tuple_of (by rfl) T.tuple bo_tuple (pa_cons (pv 2) pa_nil)))) (blkOk_by (own := [("at", 4)]) (N := nFitIn) (sc := defScope sFitIn) (by decide +kernel)) (fun _ _ _ _ _ => (pg_name (i := 4) scFitIn.nd rfl (.inl rfl))) (fun _ _ _ _ _ => pts_nil) (fun _ _ _ _ _ => (pe_cmpR op_le (pe_mK (K := K) rfl cTaken CL hr pass0 (pv 1) (pa_cons (pe_ix (ixT (K := K) rfl) (pe_dget (hu_of hr) (pv 3) (pv 4) (fun _ _ => rfl)) pe_int (fun _ _ => rfl)) pa_nil)) (pe_fldK (K := K) rfl (pv 1) rfl) (nomark _)))) pa_nil)))))), ?_⟩
    refine ⟨_, rfl, _, rfl, a, c, R, rfl, hR, rs, hc, fun H1 s1 => ⟨_, rfl, ?_⟩⟩
    refine ite2 (fun c => nomatch c) (fun _ => ?_)
    refine ⟨_, rfl, (by show 1 ≤ sizeLine; decide), fun z1 nz1 => ?_⟩
    have m2 := s1.trans (same_new (o := .tup [.int 0]) nz1)
    have hz2 := upd_same (H := H1) (a := z1) (o := .tup [.int 0])
    generalize upd H1 z1 (.tup [.int 0]) = H2 at m2 hz2 ⊢
    refine ⟨_, rfl, c, _, rfl, .inr ⟨SqT.of (m2 _ _ hc), ?_⟩⟩
    have lf : (fr R).length ≤ R.length := plc_len
    -- (0,) + cuts: a new one, or the first of the two
    have cat : ∀ (H2 : Hp) (z1 : Addr) (Q : VK), H2 z1 = some (.tup [.int 0]) → H2 c = some (.tup ((fr R).map V.int)) → (∀ p H', Same H2 H' → H' p = some (.tup (((0 : Int) :: fr R).map V.int)) → Q (.ref p) H') → rCatA K (.ref z1) (.ref c) H2 Q := fun H2 z1 Q h1 h2 q => by
      refine ⟨z1, c, [.int 0], (fr R).map V.int, rfl, rfl, SqT.of h1, SqT.of h2, szl (by rw [List.length_map]; show 1 + _ ≤ _; omega), (fun e => nomatch e), fun _ e => ?_, fun _ _ p np => ?_⟩
      · have e2 : fr R = [] := List.map_eq_nil_iff.mp e
        exact q z1 H2 (fun _ _ h => h) (by rw [e2]; exact h1)
      · exact q p _ (same_new np) upd_same
    refine cat H2 z1 _ hz2 (m2 _ _ hc) fun bp H3 s3 hbp => ?_
    have s03 := m2.trans s3
    refine ⟨a, bp, R, (0 : Int) :: fr R, rfl, hR.tl (TL.of s03), rs, hbp, tb.ext s03, fun D kvs H4 e4 tb4 hD full => ?_⟩
    have e04 : Ex H H4 := (LamX.ExtN.of s03).trans e4
    refine ⟨(by show 1 ≤ sizeLine; decide), fun z2 nz2 => ?_⟩
    have m5 := same_new (o := .tup [.int 0]) nz2
    have e05 := e04.trans (LamX.ExtN.of m5)
    refine ⟨_, rfl, c, _, rfl, .inr ⟨SqT.of (Ex.tl e05 |>.t _ _ hc), ?_⟩⟩
    refine cat _ z2 _ upd_same (Ex.tl e05 |>.t _ _ hc) fun bp2 H6 s6 hbp2 => ?_
    have s46 := m5.trans s6
    refine ⟨bp2, rfl, ⟨_, SqT.of hbp2⟩, fun D2 nD2 => ?_⟩
    have e06 : Ex H H6 := e04.trans (LamX.ExtN.of s46)
    have tb6 := tb4.ext s46
    have hl6 := LimAt.ex e06 hl
    have hD6 := s46 _ _ hD
    have full6 : ∀ i : Nat, i < R.length → ∃ v, valV kvs (Sum.inl (i : Int)) = some v ∧ WayV H6 v ((hvAt R (inI (fr R)) i : Nat) : Int) 100 := fun i hi => by
      obtain ⟨v, h1, h2⟩ := full i hi
      rw [hvAt_0] at h2
      exact ⟨v, h1, h2.tl (TL.of s46)⟩
    have m7 := same_new (o := .lst []) nD2
    refine lc_tup (fun j H' => H' D2 = some (.lst ((((0 : Int) :: fr R).take j).map fun z => V.bl (decide (op + (hvAt R (inI (fr R)) z.toNat : Nat) + pu ≤ ch)))) ∧ Same H6 H') ⟨upd_same, m7⟩ (fun j H' _ hP => SqT.of (hP.2 _ _ hbp2)) (fun j v H' hj hP => ?_) (fun H7 hP => ?_)
    · obtain ⟨hD2, sm⟩ := hP
      obtain ⟨z, hz, rfl⟩ : ∃ z, ((0 : Int) :: fr R)[j]? = some z ∧ v = V.int z := by
        rw [List.getElem?_map] at hj
        cases hz : ((0 : Int) :: fr R)[j]? with
        | none => rw [hz] at hj; cases hj
        | some z => rw [hz] at hj; exact ⟨z, rfl, (Option.some.inj hj).symm⟩
      obtain ⟨i, li, rfl⟩ : ∃ i : Nat, i < R.length ∧ z = (i : Int) := by
        rcases List.mem_cons.mp (List.mem_of_getElem? hz) with h | h
        · exact ⟨0, by omega, h⟩
        · obtain ⟨i, h1, _, h3⟩ := plc_mem.mp h
          exact ⟨i, h1, h3⟩
      obtain ⟨v, hv, t, wp, ws, rfl, ht, _⟩ := full6 i li
      obtain ⟨dx, fs, hl1, hl2⟩ := id (LimAt.sm sm hl6)
      refine ⟨rfl, _, rfl, l, dx, fs, rfl, hl1, hl2.2.2.2, ?_⟩
      refine ⟨_, rfl, _, rfl, D, .ref t, rfl, .inl ⟨kvs, Sum.inl (i : Int), .inl (sm _ _ hD6), rfl, hv.symm⟩, ?_⟩
      refine ⟨t, _, _, _, rfl, rfl, SqT.of (sm _ _ ht), at_nat (j := 0) rfl rfl, ?_⟩
      refine ⟨l, ch, op, pu, _, rfl, LimAt.sm sm hl6, _, rfl, l, _, dx, fs, _, rfl, hl1, LC.c, LC.n1, hl2.1, _, _, rfl, rfl, ?_⟩
      have lj : (((0 : Int) :: fr R).take j).length ≤ 60 := by
        rw [List.length_take, List.length_cons]
        omega
      refine ⟨_, hD2, szt (by rw [List.length_map]; omega), ?_, Same.mut (H := H6) sm nD2⟩
      rw [upd_same, List.take_add_one, hz, List.map_append]
      rfl
    · obtain ⟨hD2, sm⟩ := hP
      rw [List.length_map, List.take_length] at hD2
      refine ⟨D2, ((0 : Int) :: fr R).map fun z => decide (op + (hvAt R (inI (fr R)) z.toNat : Nat) + pu ≤ ch), rfl, SqL.of (by rw [hD2, List.map_map]; rfl), ?_⟩
      have ea : (((0 : Int) :: fr R).map fun z => decide (op + (hvAt R (inI (fr R)) z.toNat : Nat) + pu ≤ ch)).all id = fitB R op pu ch := by
        unfold fitB
        rw [List.all_map]
        rfl
      rw [ea]
      exact q H7 (e06.trans (LamX.ExtN.of sm)) (tb6.ext sm)
end
end K36
namespace K36
open PySem PySem.Spec PyProof.Rows L2
/-! ### the layer: statements, how long they are -/
inductive S1 where
  | pl (r : Rw)
  | ife
  | whe
  | wht (r : Rw)
def S1.lg : S1 → Nat
  | .wht _ => 2
  | _ => 1
inductive Sg where
  | one (s : S1)
  | times (n : Nat) (s : S1)
  | call (s : S1)
def Sg.fl : Sg → List S1
  | .one s => [s]
  | .times n s => List.replicate n s
  | .call s => [s]
def lgs (ss : List S1) : Nat := (ss.map S1.lg).sum
def PlAt (H : Hp) (r : Rw) (v : V) : Prop := StAt H r v ∧ r ≠ .fin
def S1At (H : Hp) : S1 → V → Prop
  | .pl r, v => PlAt H r v
  | .ife, v => ∃ a x e1 e2, v = .ref a ∧ H a = some (.tup [.str "if", x, .ref e1, .ref e2]) ∧ H e1 = some (.tup []) ∧ H e2 = some (.tup [])
  | .whe, v => ∃ a x e, v = .ref a ∧ H a = some (.tup [.str "while", x, .ref e]) ∧ H e = some (.tup [])
  | .wht r, v => ∃ a x e u, v = .ref a ∧ H a = some (.tup [.str "while", x, .ref e]) ∧ H e = some (.tup [u]) ∧ PlAt H r u
def SgAt (H : Hp) (hd : Addr) : Sg → V → Prop
  | .one s, v => S1At H s v
  | .times n s, v => ∃ a b u, v = .ref a ∧ H a = some (.tup [.str "times", .int (n : Nat), .ref b]) ∧ H b = some (.tup [u]) ∧ S1At H s u
  | .call s, v => ∃ a nm b u kvs, v = .ref a ∧ H a = some (.tup [.str "call", .str nm]) ∧ H hd = some (.dK kvs) ∧ valV kvs (Sum.inr nm) = some (.ref b) ∧ H b = some (.tup [u]) ∧ S1At H s u
theorem PlAt.tl {H H' : Hp} (x : TL H H') {r : Rw} {v : V} (h : PlAt H r v) : PlAt H' r v := ⟨h.1.tl x, h.2⟩
theorem S1At.tl {H H' : Hp} (x : TL H H') {s : S1} {v : V} (h : S1At H s v) : S1At H' s v := by
  cases s with
  | pl r => exact PlAt.tl x h
  | ife =>
    obtain ⟨a, y, e1, e2, h1, h2, h3, h4⟩ := h
    exact ⟨a, y, e1, e2, h1, x _ _ h2, x _ _ h3, x _ _ h4⟩
  | whe =>
    obtain ⟨a, y, e, h1, h2, h3⟩ := h
    exact ⟨a, y, e, h1, x _ _ h2, x _ _ h3⟩
  | wht r =>
    obtain ⟨a, y, e, u, h1, h2, h3, h4⟩ := h
    exact ⟨a, y, e, u, h1, x _ _ h2, x _ _ h3, h4.tl x⟩
theorem SgAt.sm {H H' : Hp} (x : Same H H') {hd : Addr} {s : Sg} {v : V} (h : SgAt H hd s v) : SgAt H' hd s v := by
  cases s with
  | one s => exact S1At.tl (TL.of x) h
  | times n s =>
    obtain ⟨a, b, u, h1, h2, h3, h4⟩ := h
    exact ⟨a, b, u, h1, x _ _ h2, x _ _ h3, S1At.tl (TL.of x) h4⟩
  | call s =>
    obtain ⟨a, nm, b, u, kvs, h1, h2, h3, h4, h5, h6⟩ := h
    exact ⟨a, nm, b, u, kvs, h1, x _ _ h2, x _ _ h3, h4, x _ _ h5, S1At.tl (TL.of x) h6⟩
/-- a statement's word -/
theorem PlAt.word {H : Hp} {r : Rw} {v : V} (h : PlAt H r v) : ∃ (a : Addr) (w : Str) (tl : List V), v = .ref a ∧ H a = some (.tup (.str w :: tl)) ∧ w ≠ "if" ∧ w ≠ "while" ∧ w ≠ "times" ∧ w ≠ "call" ∧ RwIt H r (.str w :: tl) := by
  obtain ⟨⟨a, its, e, ha, hi⟩, nf⟩ := h
  cases r with
  | set x t =>
    obtain ⟨u, rfl, h2⟩ := hi
    exact ⟨a, "set", _, e, ha, by decide +kernel, by decide +kernel, by decide +kernel, by decide +kernel, u, rfl, h2⟩
  | read x =>
    obtain ⟨u, rfl⟩ := hi
    exact ⟨a, "read", _, e, ha, by decide +kernel, by decide +kernel, by decide +kernel, by decide +kernel, u, rfl⟩
  | tell t =>
    obtain ⟨u, rfl, h2⟩ := hi
    exact ⟨a, "tell", _, e, ha, by decide +kernel, by decide +kernel, by decide +kernel, by decide +kernel, u, rfl, h2⟩
  | sure ns =>
    obtain ⟨b, n, rfl, hb⟩ := hi
    exact ⟨a, "sure", _, e, ha, by decide +kernel, by decide +kernel, by decide +kernel, by decide +kernel, b, n, rfl, hb⟩
  | fin => exact absurd rfl nf
/-- the layer -/
structure LayC (K : PySem.W.Frag) : Prop where
  c : Cls K (He.ga K "Layer")
  n1 : NoAttr K (He.ga K "Layer") "helpers"
def LayAt (K : PySem.W.Frag) (H : Hp) (l hd : Addr) : Prop := ∃ dx fs, H l = some (.ins (He.ga K "Layer") dx fs) ∧ fs.lookup ("helpers" : Str) = some (.ref hd) ∧ fs.lookup ("long" : Str) = none ∧ fs.lookup ("long_of" : Str) = none ∧ fs.lookup ("flat" : Str) = none ∧ fs.lookup ("laid" : Str) = none ∧ fs.lookup ("laid_one" : Str) = none
theorem LayAt.sm {K : PySem.W.Frag} {H H' : Hp} {l hd : Addr} (s : Same H H') (h : LayAt K H l hd) : LayAt K H' l hd := by
  obtain ⟨dx, fs, h1, h2⟩ := h
  exact ⟨dx, fs, s _ _ h1, h2⟩
abbrev PrT := Hp → Addr → V → Nat → Prop
def PrSm (Pr : PrT) : Prop := ∀ H H' hd v n, Same H H' → Pr H hd v n → Pr H' hd v n
/-- how long a statement is -/
def spLo (K : PySem.W.Frag) (Pr : PrT) : Sp := fun vs H Q _ => ∃ (l hd : Addr) (v : V) (n : Nat), vs = [.ref l, v] ∧ LayAt K H l hd ∧ Pr H hd v n ∧ ∀ H', Same H H' → Q (.int n) H'
def PrAll (Pr : PrT) (H : Hp) (hd : Addr) (xs : List V) (ns : List Nat) : Prop := xs.length = ns.length ∧ ∀ (i : Nat) (v : V) (n : Nat), xs[i]? = some v → ns[i]? = some n → Pr H hd v n
def spLgT (K : PySem.W.Frag) (Pr : PrT) : Sp := fun vs H Q _ => ∃ (l hd b : Addr) (xs : List V) (ns : List Nat), vs = [.ref l, .ref b] ∧ LayAt K H l hd ∧ H b = some (.tup xs) ∧ PrAll Pr H hd xs ns ∧ xs.length ≤ 1000 ∧ ∀ H', Same H H' → Q (.int (ns.sum : Nat)) H'
def spLgL (K : PySem.W.Frag) (Pr : PrT) : Sp := fun vs H Q _ => ∃ (l hd b : Addr) (xs : List V) (ns : List Nat), vs = [.ref l, .ref b] ∧ LayAt K H l hd ∧ H b = some (.lst xs) ∧ PrAll Pr H hd xs ns ∧ xs.length ≤ 1000 ∧ ∀ H', Same H H' → Q (.int (ns.sum : Nat)) H'
theorem sum_cast : ∀ ns : List Nat, (ns.map fun n => ((n : Nat) : Int)).sum = ((ns.sum : Nat) : Int)
  | [] => rfl
  | n :: ns => by
    rw [List.map_cons, List.sum_cons, List.sum_cons, sum_cast ns]
    omega
section
variable {P : Program} {w : World} {K : PySem.W.Frag} {mg : Str → Option Value} {base : Heap} {Pr : PrT} {k : Nat}
-- Layer.long (printed by gen.py); slots: 0 self*, 1 body, 2 statement
abbrev nLayerLong : List Str := ["self", "body", "statement"]
abbrev pLayerLong : List Str := ["self", "body"]
theorem scLayerLong : FnScope nLayerLong pLayerLong (defScope sLayerLong) := ⟨rfl, rfl, rfl, by decide +kernel, rfl, by decide +kernel, by decide +kernel⟩
-- Layer.long_of (printed by gen.py); slots: 0 self, 1 statement, 2 word
abbrev nLayerLongOf : List Str := ["self", "statement", "word"]
abbrev pLayerLongOf : List Str := ["self", "statement"]
theorem scLayerLongOf : FnScope nLayerLongOf pLayerLongOf (defScope sLayerLongOf) := ⟨rfl, rfl, rfl, by decide +kernel, rfl, by decide +kernel, by decide +kernel⟩
theorem ok_longT (T : Bi mg) (LC : LayC K) (CL : Cls K (He.ga K "Layer")) (sm : PrSm Pr) (a0 : MAt K "Layer" "long" sLayerLong pLayerLong) (cLongOf : MCal P w K mg base CX0 "Layer" "long_of" k pLayerLongOf (spLo K Pr)) :
    MCal P w K mg base CX0 "Layer" "long" (k + 1) pLayerLong (spLgT K Pr) := by
  refine MCal.of a0 scLayerLong (fun vs H Q E h => ?_) (fun f cdv A outer s H vs Q E hr h => ?_)
  · obtain ⟨l, hd, b, xs, ns, rfl, _⟩ := h
    rfl
  · obtain ⟨l, hd, b, xs, ns, rfl, hl, hb, ⟨le, pr⟩, lx, q⟩ := h
    refine ⟨_, (pss_one (ps_ret (pe_callB (cr_sum rfl) (by rfl) T.sum bo_sum (pa_cons (pe_lc (own := [("statement", 2)]) (g := gName 2) rfl scLayerLong.nd (pi_tup (pv 1)) (blkOk_by (own := [("statement", 2)]) (N := nLayerLong) (sc := defScope sLayerLong) (by decide +kernel)) (fun _ _ _ _ _ => (pg_name (i := 2) scLayerLong.nd rfl (.inl rfl))) (fun _ _ _ _ _ => pts_nil) (fun _ _ _ _ _ => (pe_mK (K := K) rfl cLongOf CL hr pass0 (pv 0) (pa_cons (pv 2) pa_nil)))) pa_nil)))), ?_⟩
    refine ⟨_, rfl, b, rfl, ⟨_, SqT.of hb⟩, fun fo nfo => ?_⟩
    refine lc_tup (fun j H' => H' fo = some (.lst (((ns.take j).map fun n => ((n : Nat) : Int)).map V.int)) ∧ Same H H') ⟨upd_same, same_new nfo⟩ (fun j H' _ hP => SqT.of (hP.2 _ _ hb)) (fun j v H' hj hP => ?_) (fun H1 hP => ?_)
    · obtain ⟨hD, s1⟩ := hP
      have lj := (List.getElem?_eq_some_iff.mp hj).1
      have hn : ns[j]? = some ns[j] := List.getElem?_eq_getElem (by omega)
      have hp := pr j v _ hj hn
      generalize ns[j] = n at hn hp
      obtain ⟨dx, fs, hl1, hl2⟩ := id (LayAt.sm s1 hl)
      refine ⟨rfl, _, rfl, l, dx, fs, rfl, hl1, hl2.2.2.1, _, rfl, l, hd, v, n, rfl, LayAt.sm s1 hl, sm _ _ _ _ _ s1 hp, fun H2 s2 => ⟨_, s2 _ _ hD, szt (by rw [List.length_map, List.length_map, List.length_take]; omega), ?_, Same.mut (H := H) (s1.trans s2) nfo⟩⟩
      rw [upd_same, List.take_add_one, hn, List.map_append, List.map_append]
      rfl
    · obtain ⟨hD, s1⟩ := hP
      rw [le, List.take_length] at hD
      refine ⟨fo, _, rfl, SqL.of hD, ?_⟩
      rw [sum_cast]
      exact q H1 s1
theorem ok_longL (T : Bi mg) (LC : LayC K) (CL : Cls K (He.ga K "Layer")) (sm : PrSm Pr) (a0 : MAt K "Layer" "long" sLayerLong pLayerLong) (cLongOf : MCal P w K mg base CX0 "Layer" "long_of" k pLayerLongOf (spLo K Pr)) :
    MCal P w K mg base CX0 "Layer" "long" (k + 1) pLayerLong (spLgL K Pr) := by
  refine MCal.of a0 scLayerLong (fun vs H Q E h => ?_) (fun f cdv A outer s H vs Q E hr h => ?_)
  · obtain ⟨l, hd, b, xs, ns, rfl, _⟩ := h
    rfl
  · obtain ⟨l, hd, b, xs, ns, rfl, hl, hb, ⟨le, pr⟩, lx, q⟩ := h
    refine ⟨_, (pss_one (ps_ret (pe_callB (cr_sum rfl) (by rfl) T.sum bo_sum (pa_cons (pe_lc (own := [("statement", 2)]) (g := gName 2) rfl scLayerLong.nd (pi_list (pv 1)) (blkOk_by (own := [("statement", 2)]) (N := nLayerLong) (sc := defScope sLayerLong) (by decide +kernel)) (fun _ _ _ _ _ => (pg_name (i := 2) scLayerLong.nd rfl (.inl rfl))) (fun _ _ _ _ _ => pts_nil) (fun _ _ _ _ _ => (pe_mK (K := K) rfl cLongOf CL hr pass0 (pv 0) (pa_cons (pv 2) pa_nil)))) pa_nil)))), ?_⟩
    refine ⟨_, rfl, b, rfl, ⟨_, SqL.of hb⟩, fun fo nfo => ?_⟩
    refine lc_list (fun j H' => H' fo = some (.lst (((ns.take j).map fun n => ((n : Nat) : Int)).map V.int)) ∧ Same H H') ⟨upd_same, same_new nfo⟩ (fun j H' _ hP => SqL.of (hP.2 _ _ hb)) (fun j v H' hj hP => ?_) (fun H1 hP => ?_)
    · obtain ⟨hD, s1⟩ := hP
      have lj := (List.getElem?_eq_some_iff.mp hj).1
      have hn : ns[j]? = some ns[j] := List.getElem?_eq_getElem (by omega)
      have hp := pr j v _ hj hn
      generalize ns[j] = n at hn hp
      obtain ⟨dx, fs, hl1, hl2⟩ := id (LayAt.sm s1 hl)
      refine ⟨rfl, _, rfl, l, dx, fs, rfl, hl1, hl2.2.2.1, _, rfl, l, hd, v, n, rfl, LayAt.sm s1 hl, sm _ _ _ _ _ s1 hp, fun H2 s2 => ⟨_, s2 _ _ hD, szt (by rw [List.length_map, List.length_map, List.length_take]; omega), ?_, Same.mut (H := H) (s1.trans s2) nfo⟩⟩
      rw [upd_same, List.take_add_one, hn, List.map_append, List.map_append]
      rfl
    · obtain ⟨hD, s1⟩ := hP
      rw [le, List.take_length] at hD
      refine ⟨fo, _, rfl, SqL.of hD, ?_⟩
      rw [sum_cast]
      exact q H1 s1
end
end K36
namespace K36
open PySem PySem.Spec PyProof.Rows L2
/-! ### how long a statement is -/
def LoC (Pin : PrT) : PrT := fun H hd v n =>
  ((∃ r, PlAt H r v) ∧ n = 1) ∨
  ((∃ a x e1 e2, v = .ref a ∧ H a = some (.tup [.str "if", x, .ref e1, .ref e2]) ∧ H e1 = some (.tup []) ∧ H e2 = some (.tup [])) ∧ n = 1) ∨
  ((∃ a x e, v = .ref a ∧ H a = some (.tup [.str "while", x, .ref e]) ∧ H e = some (.tup [])) ∧ n = 1) ∨
  (∃ a x e u m, v = .ref a ∧ H a = some (.tup [.str "while", x, .ref e]) ∧ H e = some (.tup [u]) ∧ Pin H hd u m ∧ n = 1 + m) ∨
  (∃ a b u t m, v = .ref a ∧ H a = some (.tup [.str "times", .int (t : Nat), .ref b]) ∧ H b = some (.tup [u]) ∧ Pin H hd u m ∧ n = t * m ∧ t ≤ 100) ∨
  ∃ a nm b u kvs, v = .ref a ∧ H a = some (.tup [.str "call", .str nm]) ∧ H hd = some (.dK kvs) ∧ valV kvs (Sum.inr nm) = some (.ref b) ∧ H b = some (.tup [u]) ∧ Pin H hd u n
theorem LoC.sm {Pin : PrT} (s : PrSm Pin) : PrSm (LoC Pin) := fun H H' hd v n x h => by
  rcases h with ⟨⟨r, h⟩, e⟩ | ⟨⟨a, y, e1, e2, h1, h2, h3, h4⟩, e⟩ | ⟨⟨a, y, e1, h1, h2, h3⟩, e⟩ | ⟨a, y, e1, u, m, h1, h2, h3, h4, e⟩ | ⟨a, b, u, t, m, h1, h2, h3, h4, e, lt⟩ | ⟨a, nm, b, u, kvs, h1, h2, h3, h4, h5, h6⟩
  · exact .inl ⟨⟨r, h.tl (TL.of x)⟩, e⟩
  · exact .inr (.inl ⟨⟨a, y, e1, e2, h1, x _ _ h2, x _ _ h3, x _ _ h4⟩, e⟩)
  · exact .inr (.inr (.inl ⟨⟨a, y, e1, h1, x _ _ h2, x _ _ h3⟩, e⟩))
  · exact .inr (.inr (.inr (.inl ⟨a, y, e1, u, m, h1, x _ _ h2, x _ _ h3, s _ _ _ _ _ x h4, e⟩)))
  · exact .inr (.inr (.inr (.inr (.inl ⟨a, b, u, t, m, h1, x _ _ h2, x _ _ h3, s _ _ _ _ _ x h4, e, lt⟩))))
  · exact .inr (.inr (.inr (.inr (.inr ⟨a, nm, b, u, kvs, h1, x _ _ h2, x _ _ h3, h4, x _ _ h5, s _ _ _ _ _ x h6⟩))))
theorem one_all {Pin : PrT} {H : Hp} {hd : Addr} {u : V} {m : Nat} (h : Pin H hd u m) : PrAll Pin H hd [u] [m] := ⟨rfl, fun i v n h1 h2 => by
  cases i with
  | zero => rw [← Option.some.inj h1, ← Option.some.inj h2]; exact h
  | succ i => cases h1⟩
theorem nil_all {Pin : PrT} {H : Hp} {hd : Addr} : PrAll Pin H hd [] [] := ⟨rfl, fun i v n h => by rw [List.getElem?_nil] at h; cases h⟩
theorem one_sum {m : Nat} : ([m] : List Nat).sum = m := by simp
section
variable {P : Program} {w : World} {K : PySem.W.Frag} {mg : Str → Option Value} {base : Heap} {Pin : PrT} {k : Nat}
theorem ok_longOf (T : Bi mg) (LC : LayC K) (CL : Cls K (He.ga K "Layer")) (sm : PrSm Pin) (a0 : MAt K "Layer" "long_of" sLayerLongOf pLayerLongOf) (cLong : MCal P w K mg base CX0 "Layer" "long" k pLayerLong (spLgT K Pin)) :
    MCal P w K mg base CX0 "Layer" "long_of" (k + 1) pLayerLongOf (spLo K (LoC Pin)) := by
  refine MCal.of a0 scLayerLongOf (fun vs H Q E h => ?_) (fun f cdv A outer s H vs Q E hr h => ?_)
  · obtain ⟨l, hd, v, n, rfl, _⟩ := h
    rfl
  · obtain ⟨l, hd, v, n, rfl, hl, hp, q⟩ := h
    refine ⟨_, (pss_cons (ps_set (i := 2) scLayerLongOf.nd rfl (.inl rfl) (pe_ix ix_tup (pv 1) pe_int (fun _ _ => rfl))) -- word = statement[0]
      (pss_cons (ps_if (pt_cmpR op_eq (pv 2) pe_str (nomark _))
        (pss_one (ps_ret (pe_op op_add (pe_op op_add pe_int (pe_m cLong CL hr pass0 (pv 0) (pa_cons (pe_ix ix_tup (pv 1) pe_int (fun _ _ => rfl)) pa_nil))) (pe_m cLong CL hr pass0 (pv 0) (pa_cons (pe_ix ix_tup (pv 1) pe_int (fun _ _ => rfl)) pa_nil)))))
        pss_nil) -- if word == 'if':
      (pss_cons (ps_if (pt_cmpR op_eq (pv 2) pe_str (nomark _))
        (pss_one (ps_ret (pe_op op_add pe_int (pe_m cLong CL hr pass0 (pv 0) (pa_cons (pe_ix ix_tup (pv 1) pe_int (fun _ _ => rfl)) pa_nil)))))
        pss_nil) -- if word == 'while':
      (pss_cons (ps_if (pt_cmpR op_eq (pv 2) pe_str (nomark _))
        (pss_one (ps_ret (pe_op op_mul (pe_ix ix_tup (pv 1) pe_int (fun _ _ => rfl)) (pe_m cLong CL hr pass0 (pv 0) (pa_cons (pe_ix ix_tup (pv 1) pe_int (fun _ _ => rfl)) pa_nil)))))
        pss_nil) -- if word == 'times':
      (pss_cons (ps_if (pt_cmpR op_eq (pv 2) pe_str (nomark _))
        (pss_one (ps_ret (pe_m cLong CL hr pass0 (pv 0) (pa_cons (pe_dget (hu_of hr) (pe_fld (pv 0) rfl) (pe_ix ix_tup (pv 1) pe_int (fun _ _ => rfl)) (fun _ _ => rfl)) pa_nil))))
        pss_nil) -- if word == 'call':
      (pss_one (ps_ret pe_int))))))), ?_⟩
    obtain ⟨dx, fs, hl1, hl2, hl3, hl4⟩ := id hl
    rcases hp with ⟨⟨r, h⟩, e⟩ | ⟨⟨a, y, e1, e2, rfl, h2, h3, h4⟩, e⟩ | ⟨⟨a, y, e1, rfl, h2, h3⟩, e⟩ | ⟨a, y, e1, u, m, rfl, h2, h3, h4, e⟩ | ⟨a, b, u, t, m, rfl, h2, h3, h4, e, lt⟩ | ⟨a, nm, b, u, kvs, rfl, h2, h3, h4, h5, h6⟩
    · obtain ⟨a, w, tl, rfl, ha, w1, w2, w3, w4, _⟩ := h.word
      refine ⟨_, rfl, a, _, _, _, rfl, rfl, SqT.of ha, at_nat (j := 0) rfl rfl, ?_⟩
      refine ⟨_, rfl, rfl, _, rfl, ite2 (fun c => absurd (V.str.inj (of_decide_eq_true c)) w1) fun _ => ?_⟩
      refine ⟨_, rfl, rfl, _, rfl, ite2 (fun c => absurd (V.str.inj (of_decide_eq_true c)) w2) fun _ => ?_⟩
      refine ⟨_, rfl, rfl, _, rfl, ite2 (fun c => absurd (V.str.inj (of_decide_eq_true c)) w3) fun _ => ?_⟩
      refine ⟨_, rfl, rfl, _, rfl, ite2 (fun c => absurd (V.str.inj (of_decide_eq_true c)) w4) fun _ => ?_⟩
      subst e
      exact q H fun _ _ h => h
    · refine ⟨_, rfl, a, _, _, _, rfl, rfl, SqT.of h2, at_nat (j := 0) rfl rfl, ?_⟩
      refine ⟨_, rfl, rfl, _, rfl, ite2 (fun _ => ?_) fun c => absurd (by decide +kernel) c⟩
      subst e
      refine ⟨_, rfl, l, dx, fs, rfl, hl1, hl3, _, rfl, a, _, _, _, rfl, rfl, SqT.of h2, at_nat (j := 2) rfl rfl, l, hd, e1, [], [], rfl, hl, h3, nil_all, (by decide), fun H1 s1 => ⟨_, _, rfl, rfl, ?_⟩⟩
      refine ⟨_, rfl, l, dx, fs, rfl, s1 _ _ hl1, hl3, _, rfl, a, _, _, _, rfl, rfl, SqT.of (s1 _ _ h2), at_nat (j := 3) rfl rfl, l, hd, e2, [], [], rfl, LayAt.sm s1 hl, s1 _ _ h4, nil_all, (by decide), fun H2 s2 => ⟨_, _, rfl, rfl, q H2 (s1.trans s2)⟩⟩
    · refine ⟨_, rfl, a, _, _, _, rfl, rfl, SqT.of h2, at_nat (j := 0) rfl rfl, ?_⟩
      refine ⟨_, rfl, rfl, _, rfl, ite2 (fun c => absurd c (by decide +kernel)) fun _ => ?_⟩
      refine ⟨_, rfl, rfl, _, rfl, ite2 (fun _ => ?_) fun c => absurd (by decide +kernel) c⟩
      subst e
      refine ⟨_, rfl, l, dx, fs, rfl, hl1, hl3, _, rfl, a, _, _, _, rfl, rfl, SqT.of h2, at_nat (j := 2) rfl rfl, l, hd, e1, [], [], rfl, hl, h3, nil_all, (by decide), fun H1 s1 => ⟨_, _, rfl, rfl, q H1 s1⟩⟩
    · refine ⟨_, rfl, a, _, _, _, rfl, rfl, SqT.of h2, at_nat (j := 0) rfl rfl, ?_⟩
      refine ⟨_, rfl, rfl, _, rfl, ite2 (fun c => absurd c (by decide +kernel)) fun _ => ?_⟩
      refine ⟨_, rfl, rfl, _, rfl, ite2 (fun _ => ?_) fun c => absurd (by decide +kernel) c⟩
      subst e
      refine ⟨_, rfl, l, dx, fs, rfl, hl1, hl3, _, rfl, a, _, _, _, rfl, rfl, SqT.of h2, at_nat (j := 2) rfl rfl, l, hd, e1, [u], [m], rfl, hl, h3, one_all h4, (by show 1 ≤ 1000; decide), fun H1 s1 => ⟨_, _, rfl, rfl, ?_⟩⟩
      have := q H1 s1
      rw [one_sum]
      rw [Int.natCast_add] at this
      exact this
    · refine ⟨_, rfl, a, _, _, _, rfl, rfl, SqT.of h2, at_nat (j := 0) rfl rfl, ?_⟩
      refine ⟨_, rfl, rfl, _, rfl, ite2 (fun c => absurd c (by decide +kernel)) fun _ => ?_⟩
      refine ⟨_, rfl, rfl, _, rfl, ite2 (fun c => absurd c (by decide +kernel)) fun _ => ?_⟩
      refine ⟨_, rfl, rfl, _, rfl, ite2 (fun _ => ?_) fun c => absurd (by decide +kernel) c⟩
      subst e
      refine ⟨_, rfl, a, _, _, _, rfl, rfl, SqT.of h2, at_nat (j := 1) rfl rfl, _, rfl, l, dx, fs, rfl, hl1, hl3, _, rfl, a, _, _, _, rfl, rfl, SqT.of h2, at_nat (j := 2) rfl rfl, l, hd, b, [u], [m], rfl, hl, h3, one_all h4, (by show 1 ≤ 1000; decide), fun H1 s1 => ⟨_, _, rfl, rfl, .inl ⟨by omega, by omega⟩, ?_⟩⟩
      have := q H1 s1
      rw [one_sum]
      rw [Int.natCast_mul] at this
      exact this
    · refine ⟨_, rfl, a, _, _, _, rfl, rfl, SqT.of h2, at_nat (j := 0) rfl rfl, ?_⟩
      refine ⟨_, rfl, rfl, _, rfl, ite2 (fun c => absurd c (by decide +kernel)) fun _ => ?_⟩
      refine ⟨_, rfl, rfl, _, rfl, ite2 (fun c => absurd c (by decide +kernel)) fun _ => ?_⟩
      refine ⟨_, rfl, rfl, _, rfl, ite2 (fun c => absurd c (by decide +kernel)) fun _ => ?_⟩
      refine ⟨_, rfl, rfl, _, rfl, ite2 (fun _ => ?_) fun c => absurd (by decide +kernel) c⟩
      refine ⟨_, rfl, l, dx, fs, rfl, hl1, hl3, ?_⟩
      refine ⟨_, rfl, l, _, dx, fs, _, rfl, hl1, LC.c, LC.n1, hl2, _, rfl, a, _, _, _, rfl, rfl, SqT.of h2, at_nat (j := 1) rfl rfl, hd, _, rfl, dget_s h3 h4, l, hd, b, [u], [n], rfl, hl, h5, one_all h6, (by show 1 ≤ 1000; decide), fun H1 s1 => ?_⟩
      rw [one_sum]
      exact q H1 s1
end
end K36
namespace K36
open PySem PySem.Spec PyProof.Rows L2
/-! ### a body, calls and times put in their place -/
abbrev FlT := Hp → Addr → V → List V → Prop
def FlSm (F : FlT) : Prop := ∀ H H' hd v ys, Same H H' → F H hd v ys → F H' hd v ys
def HdW (H : Hp) (v : V) : Prop := ∃ (a : Addr) (w : Str) (tl : List V), v = .ref a ∧ H a = some (.tup (.str w :: tl)) ∧ w ≠ "times" ∧ w ≠ "call"
def FlC (F : FlT) : FlT := fun H hd v ys =>
  (HdW H v ∧ ys = [v]) ∨
  (∃ a b u zs t, v = .ref a ∧ H a = some (.tup [.str "times", .int (t : Nat), .ref b]) ∧ H b = some (.tup [u]) ∧ F H hd u zs ∧ zs.length ≤ 10 ∧ t ≤ 100 ∧ ys = (List.replicate t zs).flatten) ∨
  ∃ a nm b u kvs, v = .ref a ∧ H a = some (.tup [.str "call", .str nm]) ∧ H hd = some (.dK kvs) ∧ valV kvs (Sum.inr nm) = some (.ref b) ∧ H b = some (.tup [u]) ∧ F H hd u ys ∧ ys.length ≤ 10
theorem FlC.sm {F : FlT} (s : FlSm F) : FlSm (FlC F) := fun H H' hd v ys x h => by
  rcases h with ⟨⟨a, w, tl, h1, h2, h3⟩, e⟩ | ⟨a, b, u, zs, t, h1, h2, h3, h4, h5⟩ | ⟨a, nm, b, u, kvs, h1, h2, h3, h4, h5, h6, h7⟩
  · exact .inl ⟨⟨a, w, tl, h1, x _ _ h2, h3⟩, e⟩
  · exact .inr (.inl ⟨a, b, u, zs, t, h1, x _ _ h2, x _ _ h3, s _ _ _ _ _ x h4, h5⟩)
  · exact .inr (.inr ⟨a, nm, b, u, kvs, h1, x _ _ h2, x _ _ h3, h4, x _ _ h5, s _ _ _ _ _ x h6, h7⟩)
def FlAll (F : FlT) (H : Hp) (hd : Addr) (xs : List V) (yss : List (List V)) : Prop := xs.length = yss.length ∧ ∀ (i : Nat) (v : V) (ys : List V), xs[i]? = some v → yss[i]? = some ys → F H hd v ys
def spFlat (K : PySem.W.Frag) (F : FlT) : Sp := fun vs H Q _ => ∃ (l hd b : Addr) (xs : List V) (yss : List (List V)), vs = [.ref l, .ref b] ∧ LayAt K H l hd ∧ H b = some (.tup xs) ∧ FlAll F H hd xs yss ∧ yss.flatten.length ≤ 1000 ∧ ∀ p H', Same H H' → H p = none → H' p = some (.lst yss.flatten) → Q (.ref p) H'
theorem one_fl {F : FlT} {H : Hp} {hd : Addr} {u : V} {m : List V} (h : F H hd u m) : FlAll F H hd [u] [m] := ⟨rfl, fun i v n h1 h2 => by
  cases i with
  | zero => rw [← Option.some.inj h1, ← Option.some.inj h2]; exact h
  | succ i => cases h1⟩
def spFlat1 (K : PySem.W.Frag) (F : FlT) : Sp := fun vs H Q _ => ∃ (l hd b : Addr) (u : V) (zs : List V), vs = [.ref l, .ref b] ∧ LayAt K H l hd ∧ H b = some (.tup [u]) ∧ F H hd u zs ∧ zs.length ≤ 1000 ∧ ∀ p H', Same H H' → H p = none → H' p = some (.lst zs) → Q (.ref p) H'
theorem MCal.imp {P : Program} {w : World} {K : PySem.W.Frag} {mg : Str → Option Value} {base : Heap} {CX : CXT} {C m : Str} {k : Nat} {ps : List Str} {sp sp' : Sp} (c : MCal P w K mg base CX C m k ps sp) (h : ∀ vs H Q E, sp' vs H Q E → sp vs H Q E) : MCal P w K mg base CX C m k ps sp' := by
  obtain ⟨f, fd, h1, h2, h3⟩ := c.ex
  exact ⟨f, fd, h1, h2, h3.imp h⟩
-- Layer.flat (printed by gen.py); slots: 0 self, 1 body, 2 found, 3 statement
abbrev nLayerFlat : List Str := ["self", "body", "found", "statement"]
abbrev pLayerFlat : List Str := ["self", "body"]
theorem scLayerFlat : FnScope nLayerFlat pLayerFlat (defScope sLayerFlat) := ⟨rfl, rfl, rfl, by decide +kernel, rfl, by decide +kernel, by decide +kernel⟩
section
variable {P : Program} {w : World} {K : PySem.W.Frag} {mg : Str → Option Value} {base : Heap} {F : FlT} {k : Nat}
theorem flat1 (c : MCal P w K mg base CX0 "Layer" "flat" k pLayerFlat (spFlat K F)) : MCal P w K mg base CX0 "Layer" "flat" k pLayerFlat (spFlat1 K F) := c.imp fun vs H Q E h => by
  obtain ⟨l, hd, b, u, zs, e, hl, hb, hf, lz, q⟩ := h
  have ez : ([zs] : List (List V)).flatten = zs := List.append_nil zs
  exact ⟨l, hd, b, [u], [zs], e, hl, hb, one_fl hf, by rw [ez]; exact lz, fun p H' s np hp => q p H' s np (by rw [ez] at hp; exact hp)⟩
theorem ok_flat (T : Bi mg) (LC : LayC K) (CL : Cls K (He.ga K "Layer")) (sm : FlSm F) (a0 : MAt K "Layer" "flat" sLayerFlat pLayerFlat) (cFlat : MCal P w K mg base CX0 "Layer" "flat" k pLayerFlat (spFlat1 K F)) :
    MCal P w K mg base CX0 "Layer" "flat" (k + 1) pLayerFlat (spFlat K (FlC F)) := by
  refine MCal.of a0 scLayerFlat (fun vs H Q E h => ?_) (fun f cdv A outer s H vs Q E hr h => ?_)
  · obtain ⟨l, hd, b, xs, yss, rfl, _⟩ := h
    rfl
  · obtain ⟨l, hd, b, xs, yss, rfl, hl, hb, ⟨le, fa⟩, lx, q⟩ := h
    refine ⟨_, (pss_cons (ps_set (i := 2) scLayerFlat.nd rfl (.inl rfl) (pe_lst pa_nil)) -- found = []
      (pss_cons (ps_for PassesOwn.never rfl (pi_tup (pv 1)) (pg_name (i := 3) scLayerFlat.nd rfl (.inl rfl))
        (pss_one (ps_if (pt_cmpR op_eq (pe_ix ix_tup (pv 3) pe_int (fun _ _ => rfl)) pe_str (nomark _))
          (pss_one (ps_expr (pe_bm PySem.F.plainAttrs_list PySem.F.slot_list_extend PySem.F.type_list_extend mt_extend (pv 2) (pa_cons (pe_op op_rep (pe_m cFlat CL hr pass0 (pv 0) (pa_cons (pe_ix ix_tup (pv 3) pe_int (fun _ _ => rfl)) pa_nil)) (pe_ix ix_tup (pv 3) pe_int (fun _ _ => rfl))) pa_nil))))
          (pss_one (ps_if (pt_cmpR op_eq (pe_ix ix_tup (pv 3) pe_int (fun _ _ => rfl)) pe_str (nomark _))
            (pss_one (ps_expr (pe_bm PySem.F.plainAttrs_list PySem.F.slot_list_extend PySem.F.type_list_extend mt_extend (pv 2) (pa_cons (pe_m cFlat CL hr pass0 (pv 0) (pa_cons (pe_dget (hu_of hr) (pe_fld (pv 0) rfl) (pe_ix ix_tup (pv 3) pe_int (fun _ _ => rfl)) (fun _ _ => rfl)) pa_nil)) pa_nil))))
            (pss_one (ps_expr (pe_bm PySem.F.plainAttrs_list PySem.F.slot_list_append PySem.F.type_list_append mt_append (pv 2) (pa_cons (pv 3) pa_nil))))))))) -- for statement in body:
      (pss_one (ps_ret (pv 2))))), ?_⟩
    refine ⟨Nat.zero_le _, fun fo nfo => ?_⟩
    have m1 := same_new (o := .lst []) nfo
    refine ⟨_, rfl, b, rfl, ⟨_, SqT.of (m1 _ _ hb)⟩, ?_⟩
    refine for_tup (fun i σ' H' => ∃ y3 : Option V, σ' = [some (.ref l), some (.ref b), some (.ref fo), y3] ∧ H' fo = some (.lst (yss.take i).flatten) ∧ Same H H') ⟨none, rfl, upd_same, m1⟩ (fun i σ' H' _ hP => by obtain ⟨_, _, _, s⟩ := hP; exact SqT.of (s _ _ hb)) (fun i v σ' H1 hv hP => ?_) (fun σ' H1 hP => ?_)
    · obtain ⟨y3, rfl, hfo, s1⟩ := hP
      have li := (List.getElem?_eq_some_iff.mp hv).1
      have hy : yss[i]? = some yss[i] := List.getElem?_eq_getElem (by omega)
      have hp := FlC.sm sm _ _ _ _ _ s1 (fa i v _ hv hy)
      have tk : (yss.take (i + 1)).flatten = (yss.take i).flatten ++ yss[i] := by
        rw [List.take_add_one, hy, List.flatten_append]
        simp
      have lt : (yss.take i).flatten.length + (yss[i]).length ≤ 1000 := by
        have e : yss.flatten = (yss.take (i + 1)).flatten ++ (yss.drop (i + 1)).flatten := by rw [← List.flatten_append, List.take_append_drop]
        rw [e, List.length_append, tk, List.length_append] at lx
        omega
      generalize yss[i] = ys at hy hp tk lt
      obtain ⟨dx, fs, hl1, hl2, hl3, hl4, hl5, hl6⟩ := id (LayAt.sm s1 hl)
      rcases hp with ⟨⟨a, wd, tl, rfl, h2, w1, w2⟩, e⟩ | ⟨a, c, u, zs, t, rfl, h2, h3, h4, lz, lt2, e⟩ | ⟨a, nm, c, u, kvs, rfl, h2, h3, h4, h5, h6, lz⟩
      · subst e
        refine ⟨_, rfl, a, _, _, _, rfl, rfl, SqT.of h2, at_nat (j := 0) rfl rfl, rfl, _, rfl, ite2 (fun c => absurd (V.str.inj (of_decide_eq_true c)) w1) fun _ => ?_⟩
        refine ⟨_, rfl, a, _, _, _, rfl, rfl, SqT.of h2, at_nat (j := 0) rfl rfl, rfl, _, rfl, ite2 (fun c => absurd (V.str.inj (of_decide_eq_true c)) w2) fun _ => ?_⟩
        refine ⟨_, rfl, .inl ⟨rfl, _, SqL.of hfo⟩, _, rfl, fo, _, _, rfl, rfl, hfo, szt (by rw [List.length_singleton] at lt; omega), ?_⟩
        exact ⟨_, rfl, by rw [upd_same, tk], Same.mut (H := H) s1 nfo⟩
      · subst e
        refine ⟨_, rfl, a, _, _, _, rfl, rfl, SqT.of h2, at_nat (j := 0) rfl rfl, rfl, _, rfl, ite2 (fun _ => ?_) fun c => absurd (by decide +kernel) c⟩
        refine ⟨_, rfl, .inl ⟨rfl, _, SqL.of hfo⟩, _, rfl, l, dx, fs, rfl, hl1, hl5, _, rfl, a, _, _, _, rfl, rfl, SqT.of h2, at_nat (j := 2) rfl rfl, l, hd, c, u, zs, rfl, LayAt.sm s1 hl, h3, h4, by omega, fun p H2 s2 np hp => ?_⟩
        refine ⟨_, rfl, a, _, _, _, rfl, rfl, SqT.of (s2 _ _ h2), at_nat (j := 1) rfl rfl, p, t, zs, rfl, rfl, hp, by omega, by omega, ?_, fun p2 np2 => ?_⟩
        · refine szl ?_
          rw [Int.toNat_natCast]
          exact Nat.le_trans (Nat.mul_le_mul lz lt2) (by decide)
        · rw [Int.toNat_natCast]
          have m3 := same_new (o := .lst (List.replicate t zs).flatten) np2
          refine ⟨fo, p2, _, _, rfl, rfl, (s2.trans m3) _ _ hfo, upd_same, szl (by omega), ?_⟩
          exact ⟨_, rfl, by rw [upd_same, tk], Same.mut (H := H) (s1.trans (s2.trans m3)) nfo⟩
      · refine ⟨_, rfl, a, _, _, _, rfl, rfl, SqT.of h2, at_nat (j := 0) rfl rfl, rfl, _, rfl, ite2 (fun c => absurd c (by decide +kernel)) fun _ => ?_⟩
        refine ⟨_, rfl, a, _, _, _, rfl, rfl, SqT.of h2, at_nat (j := 0) rfl rfl, rfl, _, rfl, ite2 (fun _ => ?_) fun c => absurd (by decide +kernel) c⟩
        refine ⟨_, rfl, .inl ⟨rfl, _, SqL.of hfo⟩, _, rfl, l, dx, fs, rfl, hl1, hl5, _, rfl, l, _, dx, fs, _, rfl, hl1, LC.c, LC.n1, hl2, _, rfl, a, _, _, _, rfl, rfl, SqT.of h2, at_nat (j := 1) rfl rfl, hd, _, rfl, dget_s h3 h4, l, hd, c, u, ys, rfl, LayAt.sm s1 hl, h5, h6, by omega, fun p H2 s2 np hp => ?_⟩
        refine ⟨fo, p, _, _, rfl, rfl, s2 _ _ hfo, hp, szl (by omega), ?_⟩
        exact ⟨_, rfl, by rw [upd_same, tk], Same.mut (H := H) (s1.trans s2) nfo⟩
    · obtain ⟨y3, rfl, hfo, s1⟩ := hP
      rw [le, List.take_length] at hfo
      exact ⟨_, rfl, q fo H1 s1 nfo hfo⟩
end
end K36
namespace K36
open PySem PySem.Spec PyProof.Rows L2
/-! ### the rows of one statement, of a body -/
def RowLike (H : Hp) (r : Rw) (fol : Int) (y : V) : Prop := ∃ b its, y = .ref b ∧ H b = some (.tup (its ++ [.int fol])) ∧ RwIt H r its
def HdS (H : Hp) (y : V) : Prop := ∃ (a : Addr) (w : Str) (tl : List V), y = .ref a ∧ H a = some (.tup (.str w :: tl))
def IfHd (H : Hp) (y : V) : Prop := ∃ (a : Addr) (tl : List V), y = .ref a ∧ H a = some (.tup (.str "if" :: tl))
def OutS (H : Hp) : S1 → Int → List V → Prop
  | .pl r, fol, ys => ∃ y, ys = [y] ∧ RowLike H r fol y
  | .ife, _, ys => ∃ y, ys = [y] ∧ IfHd H y
  | .whe, _, ys => ∃ y, ys = [y] ∧ IfHd H y
  | .wht _, _, ys => ∃ y z, ys = [y, z] ∧ IfHd H y ∧ HdS H z
theorem RowLike.tl {H H' : Hp} (x : TL H H') {r : Rw} {fol : Int} {y : V} (h : RowLike H r fol y) : RowLike H' r fol y := by
  obtain ⟨b, its, e, h1, h2⟩ := h
  exact ⟨b, its, e, x _ _ h1, h2.tl x⟩
theorem OutS.tl {H H' : Hp} (x : TL H H') {s : S1} {fol : Int} {ys : List V} (h : OutS H s fol ys) : OutS H' s fol ys := by
  cases s with
  | pl r =>
    obtain ⟨y, e, h⟩ := h
    exact ⟨y, e, h.tl x⟩
  | ife =>
    obtain ⟨y, e, a, tl, e2, h⟩ := h
    exact ⟨y, e, a, tl, e2, x _ _ h⟩
  | whe =>
    obtain ⟨y, e, a, tl, e2, h⟩ := h
    exact ⟨y, e, a, tl, e2, x _ _ h⟩
  | wht r =>
    obtain ⟨y, z, e, ⟨a, tl, e2, h⟩, a2, w, tl2, e3, h3⟩ := h
    exact ⟨y, z, e, ⟨a, tl, e2, x _ _ h⟩, a2, w, tl2, e3, x _ _ h3⟩
theorem OutS.len {H : Hp} {s : S1} {fol : Int} {ys : List V} (h : OutS H s fol ys) : ys.length = s.lg := by
  cases s with
  | pl r =>
    obtain ⟨y, e, h⟩ := h
    rw [e]
    rfl
  | ife =>
    obtain ⟨y, e, h⟩ := h
    rw [e]
    rfl
  | whe =>
    obtain ⟨y, e, h⟩ := h
    rw [e]
    rfl
  | wht r =>
    obtain ⟨y, z, e, h⟩ := h
    rw [e]
    rfl
theorem RowLike.hd {H : Hp} {r : Rw} {fol : Int} {y : V} (h : RowLike H r fol y) : HdS H y := by
  obtain ⟨b, its, e, h1, h2⟩ := h
  cases r with
  | set x t =>
    obtain ⟨u, rfl, _⟩ := h2
    exact ⟨b, "set", _, e, h1⟩
  | read x =>
    obtain ⟨u, rfl⟩ := h2
    exact ⟨b, "read", _, e, h1⟩
  | tell t =>
    obtain ⟨u, rfl, _⟩ := h2
    exact ⟨b, "tell", _, e, h1⟩
  | sure ns =>
    obtain ⟨c, n, rfl, _⟩ := h2
    exact ⟨b, "sure", _, e, h1⟩
  | fin =>
    have h2 : its = [.str "end"] := h2
    subst h2
    exact ⟨b, "end", _, e, h1⟩
def spOne (K : PySem.W.Frag) (ok : S1 → Prop) : Sp := fun vs H Q _ => ∃ (l hd : Addr) (v : V) (at' fol : Int) (s : S1), vs = [.ref l, v, .int at', .int fol] ∧ LayAt K H l hd ∧ S1At H s v ∧ ok s ∧ ∀ p H' ys, Same H H' → H p = none → H' p = some (.lst ys) → OutS H' s fol ys → Q (.ref p) H'
/-- where a statement of a flat body leads -/
def folAt (ss : List S1) (at' fol : Int) (k : Nat) : Int := if k + 1 = ss.length then fol else at' + (lgs (ss.take (k + 1)) : Nat)
def GsAt (H : Hp) (hd : Addr) (gs : List Sg) (xs : List V) : Prop := xs.length = gs.length ∧ ∀ (i : Nat) (g : Sg) (v : V), gs[i]? = some g → xs[i]? = some v → SgAt H hd g v
theorem gs_nil {H : Hp} {hd : Addr} : GsAt H hd [] [] := ⟨rfl, fun i g v h => by rw [List.getElem?_nil] at h; cases h⟩
def spLaid (K : PySem.W.Frag) (okg : Sg → Prop) : Sp := fun vs H Q _ => ∃ (l hd b : Addr) (at' fol : Int) (xs : List V) (gs : List Sg), vs = [.ref l, .ref b, .int at', .int fol] ∧ LayAt K H l hd ∧ H b = some (.tup xs) ∧ GsAt H hd gs xs ∧ (∀ g ∈ gs, okg g) ∧ lgs (gs.flatMap Sg.fl) ≤ 100 ∧
  ∀ (p : Addr) (H' : Hp) (outs : List (List V)), Same H H' → H p = none → H' p = some (.lst outs.flatten) → outs.length = (gs.flatMap Sg.fl).length → (∀ (k : Nat) (s : S1) (o : List V), (gs.flatMap Sg.fl)[k]? = some s → outs[k]? = some o → OutS H' s (folAt (gs.flatMap Sg.fl) at' fol k) o) → Q (.ref p) H'
section
variable {P : Program} {w : World} {K : PySem.W.Frag} {mg : Str → Option Value} {base : Heap} {k : Nat}
-- Layer.laid (printed by gen.py); slots: 0 self, 1 body, 2 at, 3 behind, 4 found, 5 left, 6 k, 7 statement, 8 here, 9 follows
abbrev nLayerLaid : List Str := ["self", "body", "at", "behind", "found", "left", "k", "statement", "here", "follows"]
abbrev pLayerLaid : List Str := ["self", "body", "at", "behind"]
theorem scLayerLaid : FnScope nLayerLaid pLayerLaid (defScope sLayerLaid) := ⟨rfl, rfl, rfl, by decide +kernel, rfl, by decide +kernel, by decide +kernel⟩
-- Layer.laid_one (printed by gen.py); slots: 0 self, 1 statement, 2 at, 3 behind, 4 inner, 5 first, 6 one, 7 other, 8 leads, 9 rows
abbrev nLayerLaidOne : List Str := ["self", "statement", "at", "behind", "inner", "first", "one", "other", "leads", "rows"]
abbrev pLayerLaidOne : List Str := ["self", "statement", "at", "behind"]
theorem scLayerLaidOne : FnScope nLayerLaidOne pLayerLaidOne (defScope sLayerLaidOne) := ⟨rfl, rfl, rfl, by decide +kernel, rfl, by decide +kernel, by decide +kernel⟩
def okPl : S1 → Prop
  | .pl _ => True
  | _ => False
def okgPl : Sg → Prop
  | .one (.pl _) => True
  | _ => False
theorem ok_one (T : Bi mg) (LC : LayC K) (CL : Cls K (He.ga K "Layer")) {ok : S1 → Prop} {okg : Sg → Prop} (hok : (∀ r, okg (.one (.pl r))) ∨ ∀ s, ok s → okPl s) (a0 : MAt K "Layer" "laid_one" sLayerLaidOne pLayerLaidOne) (cLaid : MCal P w K mg base CX0 "Layer" "laid" k pLayerLaid (spLaid K okg)) :
    MCal P w K mg base CX0 "Layer" "laid_one" (k + 1) pLayerLaidOne (spOne K ok) := by
  refine MCal.of a0 scLayerLaidOne (fun vs H Q E h => ?_) (fun f cdv A outer s H vs Q E hr h => ?_)
  · obtain ⟨l, hd, v, at', fol, s, rfl, _⟩ := h
    rfl
  · obtain ⟨l, hd, v, at', fol, s1, rfl, hl, hs, oks, q⟩ := h
    refine ⟨_, (pss_cons (ps_if (pt_cmpR op_eq (pe_ix ix_tup (pv 1) pe_int (fun _ _ => rfl)) pe_str (nomark _))
        (pss_cons (ps_set (i := 4) scLayerLaidOne.nd rfl (.inl rfl) (pe_m cLaid CL hr pass0 (pv 0) (pa_cons (pe_ix ix_tup (pv 1) pe_int (fun _ _ => rfl)) (pa_cons (pe_op op_add (pv 2) pe_int) (pa_cons (pv 2) pa_nil))))) -- inner = self.laid(statement[2], at + 1, at)
        (pss_cons (ps_set (i := 5) scLayerLaidOne.nd rfl (.inl rfl) (pv 2)) -- first = at
        (pss_cons (ps_if (pt_cmpR op_gt (pe_callB call_len_seq (by rfl) T.len bo_len (pa_cons (pv 4) pa_nil)) pe_int (nomark _))
          (pss_one (ps_set (i := 5) scLayerLaidOne.nd rfl (.inl rfl) (pe_op op_add (pv 2) pe_int)))
          pss_nil) -- if len(inner) > 0:
        (pss_one (ps_ret (pe_op op_cat (pe_lst (pa_cons (pe_tup (pa_cons pe_str (pa_cons (pe_ix ix_tup (pv 1) pe_int (fun _ _ => rfl)) (pa_cons (pv 5) (pa_cons (pv 3) pa_nil))))) pa_nil)) (pv 4)))))))
        pss_nil) -- if statement[0] == 'while':
      (pss_cons (ps_if (pt_cmpR op_ne (pe_ix ix_tup (pv 1) pe_int (fun _ _ => rfl)) pe_str (nomark _))
        (pss_one (ps_ret (pe_lst (pa_cons (pe_op op_catA (pv 1) (pe_tup (pa_cons (pv 3) pa_nil))) pa_nil))))
        pss_nil) -- if statement[0] != 'if':
      (pss_cons (ps_set (i := 6) scLayerLaidOne.nd rfl (.inl rfl) (pe_m cLaid CL hr pass0 (pv 0) (pa_cons (pe_ix ix_tup (pv 1) pe_int (fun _ _ => rfl)) (pa_cons (pe_op op_add (pv 2) pe_int) (pa_cons (pv 3) pa_nil))))) -- one = self.laid(statement[2], at + 1, behind)
      (pss_cons (ps_set (i := 7) scLayerLaidOne.nd rfl (.inl rfl) (pe_m cLaid CL hr pass0 (pv 0) (pa_cons (pe_ix ix_tup (pv 1) pe_int (fun _ _ => rfl)) (pa_cons (pe_op op_add (pe_op op_add (pv 2) pe_int) (pe_callB call_len_seq (by rfl) T.len bo_len (pa_cons (pv 6) pa_nil))) (pa_cons (pv 3) pa_nil))))) -- other = self.laid(statement[3], at + 1 + len(one), behind)
      (pss_cons (ps_set (i := 8) scLayerLaidOne.nd rfl (.inl rfl) (pe_lst pa_nil)) -- leads = []
      (pss_cons (ps_for PassesOwn.never rfl (pi_list (pe_lst (pa_cons (pe_tup (pa_cons (pv 6) (pa_cons (pe_op op_add (pv 2) pe_int) pa_nil))) (pa_cons (pe_tup (pa_cons (pv 7) (pa_cons (pe_op op_add (pe_op op_add (pv 2) pe_int) (pe_callB call_len_seq (by rfl) T.len bo_len (pa_cons (pv 6) pa_nil))) pa_nil))) pa_nil)))) (pg_tup rfl (pgs_cons (pg_name (i := 9) scLayerLaidOne.nd rfl (.inl rfl)) (pgs_cons (pg_name (i := 5) scLayerLaidOne.nd rfl (.inl rfl)) pgs_nil)))
        (pss_cons (ps_if (pt_cmpR op_eq (pe_callB call_len_seq (by rfl) T.len bo_len (pa_cons (pv 9) pa_nil)) pe_int (nomark _))
          (pss_one (ps_set (i := 5) scLayerLaidOne.nd rfl (.inl rfl) (pv 3)))
          pss_nil) -- if len(rows) == 0:
        (pss_one (ps_expr (pe_bm PySem.F.plainAttrs_list PySem.F.slot_list_append PySem.F.type_list_append mt_append (pv 8) (pa_cons (pv 5) pa_nil)))))) -- for rows, first in [(one, at + 1), (other, at + 1 + len(one))]:
      (pss_one (ps_ret (pe_op op_cat (pe_op op_cat (pe_lst (pa_cons (pe_tup (pa_cons pe_str (pa_cons (pe_ix ix_tup (pv 1) pe_int (fun _ _ => rfl)) (pa_cons (pe_ix ix_list (pv 8) pe_int (fun _ _ => rfl)) (pa_cons (pe_ix ix_list (pv 8) pe_int (fun _ _ => rfl)) pa_nil))))) pa_nil)) (pv 6)) (pv 7)))))))))), ?_⟩
    obtain ⟨dx, fs, hl1, hl2, hl3, hl4, hl5, hl6, hl7⟩ := id hl
    cases s1 with
    | pl r =>
      have hs : PlAt H r v := hs
      obtain ⟨a, wd, tl, rfl, h2, w1, w2, w3, w4, hi⟩ := hs.word
      refine ⟨_, rfl, a, _, _, _, rfl, rfl, SqT.of h2, at_nat (j := 0) rfl rfl, rfl, _, rfl, ite2 (fun c => absurd (V.str.inj (of_decide_eq_true c)) w2) fun _ => ?_⟩
      refine ⟨_, rfl, a, _, _, _, rfl, rfl, SqT.of h2, at_nat (j := 0) rfl rfl, rfl, _, rfl, ite2 (fun _ => ?_) fun c => absurd (by simp [w1]) c⟩
      refine ⟨_, rfl, _, rfl, (by show 1 ≤ sizeLine; decide), fun tp ntp => ?_⟩
      have m1 := same_new (o := .tup [.int fol]) ntp
      have lt : tl.length ≤ 3 := by
        obtain ⟨⟨a2, its, e1, h3, h4⟩, _⟩ := hs
        cases r with
        | set x t => obtain ⟨u, h5, _⟩ := hi; injection h5 with _ h5; rw [h5]; exact Nat.le_succ 2
        | read x => obtain ⟨u, h5⟩ := hi; injection h5 with _ h5; rw [h5]; exact Nat.le_succ 2
        | tell t => obtain ⟨u, h5, _⟩ := hi; injection h5 with _ h5; rw [h5]; show 1 ≤ 3; decide
        | sure ns => obtain ⟨b, n, h5, _⟩ := hi; injection h5 with _ h5; rw [h5]; exact Nat.le_succ 2
        | fin => have h5 : V.str wd :: tl = [.str "end"] := hi; injection h5 with _ h5; rw [h5]; decide
      refine ⟨a, tp, .str wd :: tl, [.int fol], rfl, rfl, SqT.of (m1 _ _ h2), SqT.of upd_same, szl (by show tl.length + 1 + 1 ≤ _; omega), (fun e => nomatch e), (fun _ e => nomatch e), fun _ _ rp nrp => ?_⟩
      have m2 := same_new (o := .tup (.str wd :: tl ++ [.int fol])) nrp
      refine ⟨(by show 1 ≤ sizeLine; decide), fun p np => ?_⟩
      have m3 := same_new (o := .lst [.ref rp]) np
      have s3 := m1.trans (m2.trans m3)
      refine q p _ [.ref rp] s3 ((Kp.same (M := NoM) (m1.trans m2)).free np) upd_same ⟨_, rfl, rp, _, rfl, m3 _ _ upd_same, hi.tl (TL.of s3)⟩
    | ife =>
      obtain ⟨a, y, e1, e2, rfl, h2, h3, h4⟩ := hs
      refine ⟨_, rfl, a, _, _, _, rfl, rfl, SqT.of h2, at_nat (j := 0) rfl rfl, rfl, _, rfl, ite2 (fun c => absurd c (by decide +kernel)) fun _ => ?_⟩
      refine ⟨_, rfl, a, _, _, _, rfl, rfl, SqT.of h2, at_nat (j := 0) rfl rfl, rfl, _, rfl, ite2 (fun c => absurd c (by decide +kernel)) fun _ => ?_⟩
      refine ⟨_, rfl, l, dx, fs, rfl, hl1, hl6, _, rfl, a, _, _, _, rfl, rfl, SqT.of h2, at_nat (j := 2) rfl rfl, _, rfl, _, _, rfl, rfl, _, rfl, ?_⟩
      refine ⟨l, hd, e1, at' + 1, fol, [], [], rfl, hl, h3, gs_nil, fun g h => absurd h List.not_mem_nil, Nat.zero_le _, fun p1 H1 outs s1 np1 hp1 lo ho => ?_⟩
      have eo : outs = [] := List.length_eq_zero_iff.mp lo
      subst eo
      have hp1 : H1 p1 = some (.lst []) := hp1
      clear lo ho
      refine ⟨_, rfl, l, dx, fs, rfl, s1 _ _ hl1, hl6, _, rfl, a, _, _, _, rfl, rfl, SqT.of (s1 _ _ h2), at_nat (j := 3) rfl rfl, _, rfl, _, _, rfl, rfl, _, rfl, p1, _, rfl, .inl (SqL.of hp1), _, _, rfl, rfl, _, rfl, ?_⟩
      refine ⟨l, hd, e2, _, fol, [], [], rfl, LayAt.sm s1 hl, s1 _ _ h4, gs_nil, fun g h => absurd h List.not_mem_nil, Nat.zero_le _, fun p2 H2 outs s2 np2 hp2 lo ho => ?_⟩
      have eo : outs = [] := List.length_eq_zero_iff.mp lo
      subst eo
      have hp2 : H2 p2 = some (.lst []) := hp2
      clear lo ho
      have s02 := s1.trans s2
      have hp1 := s2 _ _ hp1
      refine ⟨Nat.zero_le _, fun ld nld => ?_⟩
      have m3 := same_new (o := .lst []) nld
      have hld := upd_same (H := H2) (a := ld) (o := .lst [])
      have hp13 := m3 _ _ hp1
      have hp23 := m3 _ _ hp2
      generalize upd H2 ld (.lst []) = H3 at m3 hld hp13 hp23 ⊢
      refine ⟨_, rfl, _, rfl, _, _, rfl, rfl, (by show 2 ≤ sizeLine; decide), fun t1 nt1 => ?_⟩
      have m4 := same_new (o := .tup [.ref p1, .int (at' + 1)]) nt1
      refine ⟨_, rfl, _, rfl, _, _, rfl, rfl, _, rfl, p1, _, rfl, .inl (SqL.of (m4 _ _ hp13)), _, _, rfl, rfl, (by show 2 ≤ sizeLine; decide), fun t2 nt2 => ⟨(by show 2 ≤ sizeLine; decide), fun ll nll => ?_⟩⟩
      have m5 := same_new (o := .tup [.ref p2, .int (at' + 1 + ((([] : List V).length : Nat) : Int))]) nt2
      have m6 := same_new (o := .lst [.ref t1, .ref t2]) nll
      have ht1 := (m5.trans m6) _ _ (upd_same (H := H3) (a := t1) (o := .tup [.ref p1, .int (at' + 1)]))
      have ht2 := m6 _ _ (upd_same (H := upd H3 t1 (.tup [.ref p1, .int (at' + 1)])) (a := t2) (o := .tup [.ref p2, .int (at' + 1 + ((([] : List V).length : Nat) : Int))]))
      have hll := upd_same (H := upd (upd H3 t1 (.tup [.ref p1, .int (at' + 1)])) t2 (.tup [.ref p2, .int (at' + 1 + ((([] : List V).length : Nat) : Int))])) (a := ll) (o := .lst [.ref t1, .ref t2])
      have m36 := (m4.trans m5).trans m6
      have m26 := m3.trans m36
      have hld := m36 _ _ hld
      generalize upd (upd (upd H3 t1 (.tup [.ref p1, .int (at' + 1)])) t2 (.tup [.ref p2, .int (at' + 1 + ((([] : List V).length : Nat) : Int))])) ll (.lst [.ref t1, .ref t2]) = H6 at ht1 ht2 hll m26 hld ⊢
      have n1 : t1 ≠ ld := fun z => by rw [z, hld] at ht1; cases ht1
      have n2 : t2 ≠ ld := fun z => by rw [z, hld] at ht2; cases ht2
      refine ⟨ll, rfl, ⟨_, SqL.of hll⟩, ?_⟩
      have nl : ll ≠ ld := fun z => by
        rw [z, hld] at hll
        cases HO.lst.inj (Option.some.inj hll)
      refine for_list (xs := [.ref t1, .ref t2]) (fun j σ' H' => ∃ y5 y9 : Option V, σ' = [some (.ref l), some (.ref a), some (.int at'), some (.int fol), none, y5, some (.ref p1), some (.ref p2), some (.ref ld), y9] ∧ H' ld = some (.lst (List.replicate j (.int fol))) ∧ H' t1 = some (.tup [.ref p1, .int (at' + 1)]) ∧ H' t2 = some (.tup [.ref p2, .int (at' + 1 + ((([] : List V).length : Nat) : Int))]) ∧ H' ll = some (.lst [.ref t1, .ref t2]) ∧ Same H2 H')
        ⟨none, none, rfl, hld, ht1, ht2, hll, m26⟩ (fun j σ' H' _ hP => by obtain ⟨_, _, _, _, _, _, h, _⟩ := hP; exact SqL.of h) (fun j v σ' H7 hv hP => ?_) (fun σ' H7 hP => ?_)
      · obtain ⟨y5, y9, rfl, hld, ht1, ht2, hll, sm⟩ := hP
        have lj : j < 2 := (List.getElem?_eq_some_iff.mp hv).1
        have hr : (List.replicate j (V.int fol)).length = j := List.length_replicate
        obtain ⟨t, pp, z, rfl, ht, hpp⟩ : ∃ t pp z, v = .ref t ∧ H7 t = some (.tup [.ref pp, .int z]) ∧ H2 pp = some (.lst []) := by
          rcases (show j = 0 ∨ j = 1 by omega) with e | e
          · subst e
            exact ⟨t1, p1, _, (Option.some.inj hv).symm, ht1, hp1⟩
          · subst e
            exact ⟨t2, p2, _, (Option.some.inj hv).symm, ht2, hp2⟩
        refine ⟨t, _, rfl, SqT.of ht, rfl, _, _, rfl, _, _, rfl, rfl, ?_⟩
        refine ⟨_, rfl, pp, _, rfl, .inl (SqL.of (sm _ _ hpp)), rfl, _, rfl, ite2 (fun _ => ?_) fun c => absurd (by decide) c⟩
        refine ⟨_, rfl, ?_⟩
        refine ⟨_, rfl, .inl ⟨rfl, _, SqL.of hld⟩, _, rfl, ld, _, _, rfl, rfl, hld, szt (by omega), ?_⟩
        exact ⟨_, _, rfl, by rw [upd_same, List.replicate_succ'], by rw [upd_ne n1]; exact ht1, by rw [upd_ne n2]; exact ht2, by rw [upd_ne nl]; exact hll, Same.mut (H := H2) sm nld⟩
      · obtain ⟨y5, y9, rfl, hld, ht1, ht2, hll, sm⟩ := hP
        have hld : H7 ld = some (.lst [.int fol, .int fol]) := hld
        have ha7 := (s02.trans sm) _ _ h2
        refine ⟨_, rfl, a, _, _, _, rfl, rfl, SqT.of ha7, at_nat (j := 1) rfl rfl, _, rfl, ld, _, _, _, rfl, rfl, SqL.of hld, at_nat (j := 0) rfl rfl, _, rfl, ld, _, _, _, rfl, rfl, SqL.of hld, at_nat (j := 1) rfl rfl, (by show 4 ≤ sizeLine; decide), fun tp ntp => ⟨(by show 1 ≤ sizeLine; decide), fun lp nlp => ?_⟩⟩
        have m1 := same_new (o := .tup [.str "if", y, .int fol, .int fol]) ntp
        have m2 := same_new (o := .lst [.ref tp]) nlp
        have m12 := m1.trans m2
        refine ⟨_, rfl, lp, p1, [.ref tp], [], rfl, rfl, upd_same, (sm.trans m12) _ _ hp1, szl (by show 1 + 0 ≤ 100000; decide), fun rp nrp => ?_⟩
        have m3 := same_new (o := .lst ([.ref tp] ++ [])) nrp
        refine ⟨_, rfl, rp, p2, [.ref tp], [], rfl, rfl, upd_same, (sm.trans (m12.trans m3)) _ _ hp2, szl (by show 1 + 0 ≤ 100000; decide), fun rq nrq => ?_⟩
        have m4 := same_new (o := .lst ([.ref tp] ++ [])) nrq
        have s7 := s02.trans (sm.trans (m12.trans m3))
        exact q rq _ [.ref tp] (s7.trans m4) ((Kp.same (M := NoM) s7).free nrq) upd_same ⟨_, rfl, tp, _, rfl, (m2.trans (m3.trans m4)) _ _ upd_same⟩
    | whe =>
      obtain ⟨a, y, e, rfl, h2, h3⟩ := hs
      refine ⟨_, rfl, a, _, _, _, rfl, rfl, SqT.of h2, at_nat (j := 0) rfl rfl, rfl, _, rfl, ite2 (fun _ => ?_) fun c => absurd (by decide +kernel) c⟩
      refine ⟨_, rfl, l, dx, fs, rfl, hl1, hl6, _, rfl, a, _, _, _, rfl, rfl, SqT.of h2, at_nat (j := 2) rfl rfl, _, rfl, _, _, rfl, rfl, _, rfl, ?_⟩
      refine ⟨l, hd, e, at' + 1, at', [], [], rfl, hl, h3, ⟨rfl, fun i g v h => by rw [List.getElem?_nil] at h; cases h⟩, fun g h => absurd h List.not_mem_nil, Nat.zero_le _, fun p H1 outs s1 np hp lo ho => ?_⟩
      have eo : outs = [] := List.length_eq_zero_iff.mp lo
      subst eo
      have hp : H1 p = some (.lst []) := hp
      refine ⟨_, rfl, ?_⟩
      refine ⟨_, rfl, p, _, rfl, .inl (SqL.of hp), _, _, rfl, rfl, _, rfl, ite2 (fun c => absurd c (by decide)) fun _ => ?_⟩
      refine ⟨_, rfl, a, _, _, _, rfl, rfl, SqT.of (s1 _ _ h2), at_nat (j := 1) rfl rfl, _, rfl, _, rfl, (by show 4 ≤ sizeLine; decide), fun tp ntp => ⟨(by show 1 ≤ sizeLine; decide), fun lp nlp => ?_⟩⟩
      have m1 := same_new (o := .tup [.str "if", y, .int at', .int fol]) ntp
      have m2 := same_new (o := .lst [.ref tp]) nlp
      refine ⟨_, rfl, lp, p, [.ref tp], [], rfl, rfl, upd_same, (m1.trans m2) _ _ hp, szl (by show 1 + 0 ≤ 100000; decide), fun rp nrp => ?_⟩
      have m3 := same_new (o := .lst ([.ref tp] ++ [])) nrp
      have s3 := s1.trans (m1.trans (m2.trans m3))
      exact q rp _ [.ref tp] s3 ((Kp.same (M := NoM) (s1.trans (m1.trans m2))).free nrp) upd_same ⟨_, rfl, tp, _, rfl, (m2.trans m3) _ _ upd_same⟩
    | wht r =>
      obtain ⟨a, y, e, u, rfl, h2, h3, h4⟩ := hs
      have hg : ∀ r, okg (.one (.pl r)) := hok.resolve_right fun z => z _ oks
      refine ⟨_, rfl, a, _, _, _, rfl, rfl, SqT.of h2, at_nat (j := 0) rfl rfl, rfl, _, rfl, ite2 (fun _ => ?_) fun c => absurd (by decide +kernel) c⟩
      refine ⟨_, rfl, l, dx, fs, rfl, hl1, hl6, _, rfl, a, _, _, _, rfl, rfl, SqT.of h2, at_nat (j := 2) rfl rfl, _, rfl, _, _, rfl, rfl, _, rfl, ?_⟩
      refine ⟨l, hd, e, at' + 1, at', [u], [.one (.pl r)], rfl, hl, h3, ⟨rfl, fun i g v h hv => ?_⟩, fun g h => ?_, (by show 1 ≤ 100; decide), fun p H1 outs s1 np hp lo ho => ?_⟩
      · cases i with
        | zero => rw [← Option.some.inj h, ← Option.some.inj hv]; exact h4
        | succ i => cases h
      · rw [List.mem_singleton.mp h]
        exact hg r
      obtain ⟨o, rfl⟩ : ∃ o, outs = [o] := List.length_eq_one_iff.mp lo
      obtain ⟨z, rfl, hz⟩ := ho 0 (.pl r) o rfl rfl
      have hp : H1 p = some (.lst [z]) := hp
      clear lo ho
      refine ⟨_, rfl, ?_⟩
      refine ⟨_, rfl, p, _, rfl, .inl (SqL.of hp), _, _, rfl, rfl, _, rfl, ite2 (fun _ => ?_) fun c => absurd (by show decide ((0 : Int) < ((1 : Nat) : Int)) = true; decide) c⟩
      refine ⟨_, rfl, _, _, rfl, rfl, ?_⟩
      refine ⟨_, rfl, a, _, _, _, rfl, rfl, SqT.of (s1 _ _ h2), at_nat (j := 1) rfl rfl, _, rfl, _, rfl, (by show 4 ≤ sizeLine; decide), fun tp ntp => ⟨(by show 1 ≤ sizeLine; decide), fun lp nlp => ?_⟩⟩
      have m1 := same_new (o := .tup [.str "if", y, .int (at' + 1), .int fol]) ntp
      have m2 := same_new (o := .lst [.ref tp]) nlp
      refine ⟨_, rfl, lp, p, [.ref tp], [z], rfl, rfl, upd_same, (m1.trans m2) _ _ hp, szl (by show 1 + 1 ≤ 100000; decide), fun rp nrp => ?_⟩
      have m3 := same_new (o := .lst ([.ref tp] ++ [z])) nrp
      have s3 := s1.trans (m1.trans (m2.trans m3))
      exact q rp _ [.ref tp, z] s3 ((Kp.same (M := NoM) (s1.trans (m1.trans m2))).free nrp) upd_same ⟨_, _, rfl, ⟨tp, _, rfl, (m2.trans m3) _ _ upd_same⟩, (hz.tl (TL.of (m1.trans (m2.trans m3)))).hd⟩
end
end K36
namespace K36
open PySem PySem.Spec PyProof.Rows L2
/-! ### a body laid out -/
theorem S1.lg_pos (s : S1) : 1 ≤ s.lg := by
  cases s with
  | pl r => exact Nat.le_refl 1
  | ife => exact Nat.le_refl 1
  | whe => exact Nat.le_refl 1
  | wht r => exact Nat.le_succ 1
theorem S1.lg_le (s : S1) : s.lg ≤ 2 := by
  cases s with
  | pl r => exact Nat.le_succ 1
  | ife => exact Nat.le_succ 1
  | whe => exact Nat.le_succ 1
  | wht r => exact Nat.le_refl 2
theorem lgs_app (a b : List S1) : lgs (a ++ b) = lgs a + lgs b := by
  unfold lgs
  rw [List.map_append, List.sum_append]
theorem lgs_one (s : S1) : lgs [s] = s.lg := by
  unfold lgs
  simp
theorem lgs_rep (n : Nat) (s : S1) : lgs (List.replicate n s) = n * s.lg := by
  unfold lgs
  rw [List.map_replicate, List.sum_replicate_nat]
theorem lgs_ge : ∀ ss : List S1, ss.length ≤ lgs ss
  | [] => Nat.zero_le _
  | s :: ss => by
    have h1 := lgs_ge ss
    have h2 := s.lg_pos
    rw [show s :: ss = [s] ++ ss from rfl, lgs_app, lgs_one, List.length_append, List.length_singleton]
    omega
abbrev Lo0 : PrT := fun _ _ _ _ => False
abbrev Lo1 : PrT := LoC Lo0
abbrev Lo2 : PrT := LoC Lo1
abbrev Lo3 : PrT := LoC Lo2
theorem Lo0.sm : PrSm Lo0 := fun _ _ _ _ _ _ h => h
theorem Lo1.sm : PrSm Lo1 := LoC.sm Lo0.sm
theorem Lo2.sm : PrSm Lo2 := LoC.sm Lo1.sm
theorem Lo3.sm : PrSm Lo3 := LoC.sm Lo2.sm
theorem LoC.mono {A B : PrT} (s : ∀ H hd v n, A H hd v n → B H hd v n) : ∀ H hd v n, LoC A H hd v n → LoC B H hd v n := fun H hd v n h => by
  rcases h with h | h | h | ⟨a, y, e1, u, m, h1, h2, h3, h4, e⟩ | ⟨a, b, u, t, m, h1, h2, h3, h4, e⟩ | ⟨a, nm, b, u, kvs, h1, h2, h3, h4, h5, h6⟩
  · exact .inl h
  · exact .inr (.inl h)
  · exact .inr (.inr (.inl h))
  · exact .inr (.inr (.inr (.inl ⟨a, y, e1, u, m, h1, h2, h3, s _ _ _ _ h4, e⟩)))
  · exact .inr (.inr (.inr (.inr (.inl ⟨a, b, u, t, m, h1, h2, h3, s _ _ _ _ h4, e⟩))))
  · exact .inr (.inr (.inr (.inr (.inr ⟨a, nm, b, u, kvs, h1, h2, h3, h4, h5, s _ _ _ _ h6⟩))))
theorem S1At.lo {H : Hp} {hd : Addr} {s : S1} {v : V} (h : S1At H s v) : Lo2 H hd v s.lg := by
  cases s with
  | pl r => exact .inl ⟨⟨r, h⟩, rfl⟩
  | ife => exact .inr (.inl ⟨h, rfl⟩)
  | whe => exact .inr (.inr (.inl ⟨h, rfl⟩))
  | wht r =>
    obtain ⟨a, x, e, u, h1, h2, h3, h4⟩ := h
    exact .inr (.inr (.inr (.inl ⟨a, x, e, u, 1, h1, h2, h3, .inl ⟨⟨r, h4⟩, rfl⟩, rfl⟩)))
theorem times_le {n : Nat} {s : S1} {m : Nat} (h : lgs (Sg.times n s).fl ≤ m) : n ≤ m := by
  have h : lgs (List.replicate n s) ≤ m := h
  rw [lgs_rep] at h
  have := Nat.le_mul_of_pos_right n s.lg_pos
  omega
theorem SgAt.lo {H : Hp} {hd : Addr} {g : Sg} {v : V} (h : SgAt H hd g v) (l : lgs g.fl ≤ 100) : Lo3 H hd v (lgs g.fl) := by
  cases g with
  | one s =>
    rw [show (Sg.one s).fl = [s] from rfl, lgs_one]
    exact LoC.mono (A := Lo1) (B := Lo2) (LoC.mono (A := Lo0) (B := Lo1) fun _ _ _ _ z => (show False from z).elim) _ _ _ _ (S1At.lo (hd := hd) h)
  | times n s =>
    have ln := times_le l
    obtain ⟨a, b, u, h1, h2, h3, h4⟩ := h
    rw [show (Sg.times n s).fl = List.replicate n s from rfl, lgs_rep]
    exact .inr (.inr (.inr (.inr (.inl ⟨a, b, u, n, s.lg, h1, h2, h3, S1At.lo h4, rfl, ln⟩))))
  | call s =>
    obtain ⟨a, nm, b, u, kvs, h1, h2, h3, h4, h5, h6⟩ := h
    rw [show (Sg.call s).fl = [s] from rfl, lgs_one]
    exact .inr (.inr (.inr (.inr (.inr ⟨a, nm, b, u, kvs, h1, h2, h3, h4, h5, S1At.lo h6⟩))))
theorem S1At.hdw {H : Hp} {s : S1} {v : V} (h : S1At H s v) : HdW H v := by
  cases s with
  | pl r =>
    obtain ⟨a, w, tl, e, ha, w1, w2, w3, w4, _⟩ := PlAt.word h
    exact ⟨a, w, tl, e, ha, w3, w4⟩
  | ife =>
    obtain ⟨a, x, e1, e2, h1, h2, _⟩ := h
    exact ⟨a, "if", _, h1, h2, by decide +kernel, by decide +kernel⟩
  | whe =>
    obtain ⟨a, x, e, h1, h2, _⟩ := h
    exact ⟨a, "while", _, h1, h2, by decide +kernel, by decide +kernel⟩
  | wht r =>
    obtain ⟨a, x, e, u, h1, h2, _⟩ := h
    exact ⟨a, "while", _, h1, h2, by decide +kernel, by decide +kernel⟩
abbrev Fl0 : FlT := fun _ _ _ _ => False
abbrev Fl1 : FlT := FlC Fl0
abbrev Fl2 : FlT := FlC Fl1
theorem Fl0.sm : FlSm Fl0 := fun _ _ _ _ _ _ h => h
theorem Fl1.sm : FlSm Fl1 := FlC.sm Fl0.sm
theorem Fl2.sm : FlSm Fl2 := FlC.sm Fl1.sm
theorem SgAt.flat {H : Hp} {hd : Addr} {g : Sg} {v : V} (h : SgAt H hd g v) (l : lgs g.fl ≤ 100) : ∃ ys, Fl2 H hd v ys ∧ ys.length = g.fl.length ∧ ∀ (i : Nat) (s : S1) (y : V), g.fl[i]? = some s → ys[i]? = some y → S1At H s y := by
  have one : ∀ {s : S1} {u : V}, S1At H s u → ∀ (i : Nat) (s' : S1) (y : V), [s][i]? = some s' → [u][i]? = some y → S1At H s' y := fun {s u} h i s' y e1 e2 => by
    cases i with
    | zero => rw [← Option.some.inj e1, ← Option.some.inj e2]; exact h
    | succ i => cases e1
  cases g with
  | one s => exact ⟨[v], .inl ⟨S1At.hdw h, rfl⟩, rfl, one h⟩
  | times n s =>
    have ln := times_le l
    obtain ⟨a, b, u, h1, h2, h3, h4⟩ := h
    refine ⟨(List.replicate n [u]).flatten, .inr (.inl ⟨a, b, u, [u], n, h1, h2, h3, .inl ⟨S1At.hdw h4, rfl⟩, (by show 1 ≤ 10; decide), ln, rfl⟩), ?_, fun i s' y e1 e2 => ?_⟩
    · show _ = (List.replicate n s).length
      simp
    · have m1 := List.mem_of_getElem? e1
      have m2 := List.mem_of_getElem? e2
      obtain ⟨z, m3, m4⟩ := List.mem_flatten.mp m2
      rw [List.eq_of_mem_replicate m3] at m4
      rw [List.mem_singleton.mp m4, show s' = s from List.eq_of_mem_replicate m1]
      exact h4
  | call s =>
    obtain ⟨a, nm, b, u, kvs, h1, h2, h3, h4, h5, h6⟩ := h
    exact ⟨[u], .inr (.inr ⟨a, nm, b, u, kvs, h1, h2, h3, h4, h5, .inl ⟨S1At.hdw h6, rfl⟩, (by show 1 ≤ 10; decide)⟩), rfl, one h6⟩
theorem GsAt.flat {H : Hp} {hd : Addr} : ∀ {gs : List Sg} {xs : List V}, GsAt H hd gs xs → lgs (gs.flatMap Sg.fl) ≤ 100 → ∃ yss, FlAll Fl2 H hd xs yss ∧ yss.flatten.length = (gs.flatMap Sg.fl).length ∧ ∀ (i : Nat) (s : S1) (y : V), (gs.flatMap Sg.fl)[i]? = some s → yss.flatten[i]? = some y → S1At H s y
  | [], xs, h, l => by
    have e : xs = [] := List.length_eq_zero_iff.mp h.1
    subst e
    exact ⟨[], ⟨rfl, fun i v ys h => by rw [List.getElem?_nil] at h; cases h⟩, rfl, fun i s y h => by
      have h : ([] : List S1)[i]? = some s := h
      rw [List.getElem?_nil] at h
      cases h⟩
  | g :: gs, xs, h, l => by
    obtain ⟨h1, h2⟩ := h
    cases xs with
    | nil => cases h1
    | cons x xs =>
      rw [List.flatMap_cons, lgs_app] at l
      obtain ⟨ys, a1, a2, a3⟩ := SgAt.flat (h2 0 g x rfl rfl) (by omega)
      obtain ⟨yss, b1, b2, b3⟩ := GsAt.flat (gs := gs) (xs := xs) (hd := hd) (H := H) ⟨Nat.succ.inj h1, fun i g v e1 e2 => h2 (i + 1) g v e1 e2⟩ (by omega)
      refine ⟨ys :: yss, ⟨congrArg Nat.succ b1.1, fun i v ws e1 e2 => ?_⟩, ?_, fun i s y e1 e2 => ?_⟩
      · cases i with
        | zero => rw [← Option.some.inj e1, ← Option.some.inj e2]; exact a1
        | succ i => exact b1.2 i v ws e1 e2
      · rw [List.flatten_cons, List.length_append, List.flatMap_cons, List.length_append, a2, b2]
      · rw [List.flatMap_cons] at e1
        rw [List.flatten_cons] at e2
        by_cases c : i < g.fl.length
        · rw [List.getElem?_append_left c] at e1
          rw [List.getElem?_append_left (by omega)] at e2
          exact a3 i s y e1 e2
        · rw [List.getElem?_append_right (by omega)] at e1
          rw [List.getElem?_append_right (by omega), a2] at e2
          exact b3 _ s y e1 e2
theorem outs_lg {H : Hp} : ∀ {outs : List (List V)} {ss : List S1} {g : Nat → Int}, outs.length ≤ ss.length → (∀ (k : Nat) (s : S1) (o : List V), ss[k]? = some s → outs[k]? = some o → OutS H s (g k) o) → outs.flatten.length = lgs (ss.take outs.length)
  | [], ss, g, l, h => by
    rw [List.length_nil, List.take_zero]
    rfl
  | o :: outs, [], g, l, h => absurd l (by simp)
  | o :: outs, s :: ss, g, l, h => by
    have ih := outs_lg (outs := outs) (ss := ss) (g := fun k => g (k + 1)) (Nat.le_of_succ_le_succ l) fun k s o e1 e2 => h (k + 1) s o e1 e2
    rw [List.flatten_cons, List.length_append, List.length_cons, List.take_succ_cons, show s :: ss.take outs.length = [s] ++ ss.take outs.length from rfl, lgs_app, lgs_one, ih, (h 0 s o rfl rfl).len]
theorem cut_from {xs : List V} {i : Nat} : cutV xs (some ((i : Int) + 1)) none = xs.drop (i + 1) := by
  have e := HT.sIx_nat xs.length 0 (i + 1)
  unfold cutV
  rw [HT.sIx_none, show (some ((i : Int) + 1)) = some (((i + 1 : Nat)) : Int) from rfl, e]
  rw [List.take_of_length_le (by rw [List.length_drop]; omega)]
  by_cases c : i + 1 ≤ xs.length
  · rw [Nat.min_eq_left c]
  · rw [Nat.min_eq_right (by omega), List.drop_eq_nil_of_le (by omega), List.drop_eq_nil_of_le (by omega)]
section
variable {P : Program} {w : World} {K : PySem.W.Frag} {mg : Str → Option Value} {base : Heap} {k : Nat}
theorem ok_laid (T : Bi mg) (LC : LayC K) (CL : Cls K (He.ga K "Layer")) {ok : S1 → Prop} {okg : Sg → Prop} (hok : ∀ g, okg g → ∀ s ∈ g.fl, ok s) (a0 : MAt K "Layer" "laid" sLayerLaid pLayerLaid)
    (cFlat : MCal P w K mg base CX0 "Layer" "flat" k pLayerFlat (spFlat K Fl2)) (cLongOf : MCal P w K mg base CX0 "Layer" "long_of" k pLayerLongOf (spLo K Lo2)) (cLong : MCal P w K mg base CX0 "Layer" "long" k pLayerLong (spLgL K Lo2))
    (cLaidOne : MCal P w K mg base CX0 "Layer" "laid_one" k pLayerLaidOne (spOne K ok)) :
    MCal P w K mg base CX0 "Layer" "laid" (k + 1) pLayerLaid (spLaid K okg) := by
  refine MCal.of a0 scLayerLaid (fun vs H Q E h => ?_) (fun f cdv A outer s H vs Q E hr h => ?_)
  · obtain ⟨l, hd, b, at', fol, xs, gs, rfl, _⟩ := h
    rfl
  · obtain ⟨l, hd, b, at', fol, xs, gs, rfl, hl, hb, hg, okgs, lg, q⟩ := h
    refine ⟨_, (pss_cons (ps_set (i := 4) scLayerLaid.nd rfl (.inl rfl) (pe_lst pa_nil)) -- found = []
      (pss_cons (ps_set (i := 5) scLayerLaid.nd rfl (.inl rfl) (pe_m cFlat CL hr pass0 (pv 0) (pa_cons (pv 1) pa_nil))) -- left = self.flat(body)
      (pss_cons (ps_for PassesOwn.never rfl (pi_enum (by rfl) T.enumerate (pa_cons (pv 5) pa_nil)) (pg_tup rfl (pgs_cons (pg_name (i := 6) scLayerLaid.nd rfl (.inl rfl)) (pgs_cons (pg_name (i := 7) scLayerLaid.nd rfl (.inl rfl)) pgs_nil)))
        (pss_cons (ps_set (i := 8) scLayerLaid.nd rfl (.inl rfl) (pe_op op_add (pv 2) (pe_callB call_len_seq (by rfl) T.len bo_len (pa_cons (pv 4) pa_nil)))) -- here = at + len(found)
        (pss_cons (ps_set (i := 9) scLayerLaid.nd rfl (.inl rfl) (pe_op op_add (pv 8) (pe_m cLongOf CL hr pass0 (pv 0) (pa_cons (pv 7) pa_nil)))) -- follows = here + self.long_of(statement)
        (Evl.pss_cut (ps_if (pt_cmpR op_eq (pe_m cLong CL hr pass0 (pv 0) (pa_cons (pe_slice sl_list (pv 5) (po_some (pe_op op_add (pv 6) pe_int)) po_none) pa_nil)) pe_int (nomark _))
          (pss_one (ps_set (i := 9) scLayerLaid.nd rfl (.inl rfl) (pv 3)))
          pss_nil) -- if self.long(left[k + 1:]) == 0:
        (pss_one (ps_expr (pe_bm PySem.F.plainAttrs_list PySem.F.slot_list_extend PySem.F.type_list_extend mt_extend (pv 4) (pa_cons (pe_m cLaidOne CL hr pass0 (pv 0) (pa_cons (pv 7) (pa_cons (pv 8) (pa_cons (pv 9) pa_nil)))) pa_nil)))))))) -- for k, statement in enumerate(left):
      (pss_one (ps_ret (pv 4)))))), ?_⟩
    obtain ⟨yss, fa, lf, sa⟩ := GsAt.flat hg lg
    have oks : ∀ s ∈ gs.flatMap Sg.fl, ok s := fun s hs => by
      obtain ⟨g, h1, h2⟩ := List.mem_flatMap.mp hs
      exact hok g (okgs g h1) s h2
    generalize gs.flatMap Sg.fl = ss at lg q lf sa oks
    have lss := lgs_ge ss
    obtain ⟨dx, fs, hl1, hl2, hl3, hl4, hl5, hl6, hl7⟩ := id hl
    refine ⟨Nat.zero_le _, fun fo nfo => ?_⟩
    have m1 := same_new (o := .lst []) nfo
    refine ⟨_, rfl, l, dx, fs, rfl, m1 _ _ hl1, hl5, _, rfl, l, hd, b, xs, yss, rfl, LayAt.sm m1 hl, m1 _ _ hb, ⟨fa.1, fun i v ys e1 e2 => Fl2.sm _ _ _ _ _ m1 (fa.2 i v ys e1 e2)⟩, by omega, fun p H1 s1 np hp => ?_⟩
    refine ⟨_, rfl, p, _, rfl, SqL.of hp, ?_⟩
    refine for_it walk_enum (fun i σ' H' => ∃ (y6 y7 y8 y9 : Option V) (outs : List (List V)), σ' = [some (.ref l), some (.ref b), some (.int at'), some (.int fol), some (.ref fo), some (.ref p), y6, y7, y8, y9] ∧ H' fo = some (.lst outs.flatten) ∧ outs.length = i ∧ (∀ (k : Nat) (s : S1) (o : List V), ss[k]? = some s → outs[k]? = some o → OutS H' s (folAt ss at' fol k) o) ∧ Same H H' ∧ H' p = some (.lst yss.flatten))
      ⟨none, none, none, none, [], rfl, s1 _ _ upd_same, rfl, (fun k s o _ h => by rw [List.getElem?_nil] at h; cases h), m1.trans s1, hp⟩ (fun i σ' H' _ hP => by obtain ⟨_, _, _, _, _, _, _, _, _, _, h⟩ := hP; exact SqL.of h) (fun i v σ' H4 H5 hi hP hy => ?_) (fun σ' H4 hP => ?_)
    · obtain ⟨y6, y7, y8, y9, outs, rfl, hfo, lo, ho, sm, hp4⟩ := hP
      obtain ⟨t, x, rfl, nt, rfl, hx⟩ := hy
      have hs : ss[i]? = some ss[i] := List.getElem?_eq_getElem (by omega)
      have sx := sa i _ x hs hx
      have os := oks _ (List.mem_of_getElem? hs)
      have lt : lgs (ss.take (i + 1)) = lgs (ss.take i) + (ss[i]).lg := by
        rw [List.take_add_one, hs, lgs_app]
        show _ + lgs [ss[i]] = _
        rw [lgs_one]
      generalize ss[i] = s at hs sx os lt
      have lof : outs.flatten.length = lgs (ss.take i) := by
        have := outs_lg (by omega) ho
        rw [lo] at this
        exact this
      have ltt : lgs (ss.take i) ≤ 100 := by
        have e : lgs ss = lgs (ss.take i) + lgs (ss.drop i) := by rw [← lgs_app, List.take_append_drop]
        omega
      have m5 := same_new (o := .tup [.int (i : Nat), x]) nt
      have sm5 := sm.trans m5
      refine ⟨t, _, rfl, SqT.of upd_same, rfl, _, _, rfl, _, _, rfl, rfl, ?_⟩
      have hfo5 := m5 _ _ hfo
      have hp5 := m5 _ _ hp4
      have ho5 := fun k s o e1 e2 => (ho k s o e1 e2).tl (TL.of m5)
      generalize upd H4 t (.tup [.int (i : Nat), x]) = H5 at sm5 hfo5 hp5 ho5 ⊢
      refine ⟨_, rfl, _, rfl, fo, _, rfl, .inl (SqL.of hfo5), _, _, rfl, rfl, ?_⟩
      refine ⟨_, rfl, _, rfl, l, dx, fs, rfl, sm5 _ _ hl1, hl4, _, rfl, l, hd, x, s.lg, rfl, LayAt.sm sm5 hl, S1At.lo (sx.tl (TL.of sm5)), fun H6 s6 => ⟨_, _, rfl, rfl, ?_⟩⟩
      refine ⟨fun σ' H' => ∃ y8, σ' = [some (.ref l), some (.ref b), some (.int at'), some (.int fol), some (.ref fo), some (.ref p), some (.int (i : Nat)), some x, some (.int y8), some (.int (folAt ss at' fol i))] ∧ Same H5 H', ?_, fun σ' H7 hM => ?_⟩
      · have sm6 := sm5.trans s6
        refine ⟨_, rfl, l, dx, fs, rfl, sm6 _ _ hl1, hl3, _, rfl, _, rfl, _, _, rfl, rfl, _, rfl, p, _, rfl, SqL.of (s6 _ _ hp5), fun c nc => ?_⟩
        have m7 := same_new (o := .lst (cutV yss.flatten (some ((i : Int) + 1)) none)) nc
        have hc := upd_same (H := H6) (a := c) (o := .lst (cutV yss.flatten (some ((i : Int) + 1)) none))
        rw [cut_from] at hc m7
        have sm7 := sm6.trans m7
        refine ⟨l, hd, c, yss.flatten.drop (i + 1), (ss.drop (i + 1)).map S1.lg, rfl, LayAt.sm (by rw [cut_from]; exact sm7) hl, by rw [cut_from]; exact hc, ⟨by rw [List.length_drop, List.length_map, List.length_drop, lf], fun j v n e1 e2 => ?_⟩, by rw [List.length_drop]; omega, fun H8 s8 => ?_⟩
        · rw [List.getElem?_drop] at e1
          rw [List.getElem?_map, List.getElem?_drop] at e2
          cases e3 : ss[i + 1 + j]? with
          | none => rw [e3] at e2; cases e2
          | some s2 =>
            rw [e3] at e2
            rw [← Option.some.inj e2, cut_from]
            exact S1At.lo ((sa _ s2 v e3 e1).tl (TL.of sm7))
        · rw [cut_from] at s8
          have s58 := s6.trans (m7.trans s8)
          have ge := lgs_ge (ss.drop (i + 1))
          rw [List.length_drop] at ge
          refine ⟨rfl, _, rfl, ite2 (fun c => ?_) (fun c => ?_)⟩
          · have c0 : ((lgs (ss.drop (i + 1)) : Nat) : Int) = 0 := V.int.inj (of_decide_eq_true c)
            have ef : folAt ss at' fol i = fol := by
              unfold folAt
              rw [if_pos (by omega)]
            refine ⟨_, rfl, at' + ((outs.flatten.length : Nat) : Int), ?_, s58⟩
            rw [ef]
            rfl
          · have c0 : ((lgs (ss.drop (i + 1)) : Nat) : Int) ≠ 0 := fun z => c (decide_eq_true (congrArg V.int z))
            have ef : folAt ss at' fol i = at' + ((outs.flatten.length : Nat) : Int) + ((s.lg : Nat) : Int) := by
              unfold folAt
              rw [if_neg (fun z => c0 (by rw [List.drop_eq_nil_of_le (by omega)]; rfl)), lt, lof]
              omega
            refine ⟨at' + ((outs.flatten.length : Nat) : Int), ?_, s58⟩
            rw [ef]
            rfl
      · obtain ⟨y8, rfl, s7⟩ := hM
        have sm7 := sm5.trans s7
        have hfo7 := s7 _ _ hfo5
        refine ⟨_, rfl, .inl ⟨rfl, _, SqL.of hfo7⟩, _, rfl, l, dx, fs, rfl, sm7 _ _ hl1, hl7, _, rfl, _, rfl, _, rfl, l, hd, x, _, _, s, rfl, LayAt.sm sm7 hl, sx.tl (TL.of sm7), os, fun p2 H9 ys s9 np2 hp2 hout => ?_⟩
        have hfo9 := s9 _ _ hfo7
        have ll := hout.len
        have l2 := s.lg_le
        have npf : p ≠ fo := fun z => by
          rw [z] at np
          have e := m1
          rw [upd_same] at np
          cases np
        refine ⟨fo, p2, _, _, rfl, rfl, hfo9, hp2, szl (by omega), ?_⟩
        have tu : TL H5 (upd H9 fo (.lst (outs.flatten ++ ys))) := (TL.of (s7.trans s9)).trans (Kp.upd (M := Is fo) rfl hfo9 lst_ne_tup).tl
        have tu9 : TL H9 (upd H9 fo (.lst (outs.flatten ++ ys))) := (Kp.upd (M := Is fo) rfl hfo9 lst_ne_tup).tl
        refine ⟨_, _, _, _, outs ++ [ys], rfl, by rw [upd_same, List.flatten_append]; simp, by rw [List.length_append, List.length_singleton, lo], fun k s2 o e1 e2 => ?_, Same.mut (H := H) (sm7.trans s9) nfo, by rw [upd_ne npf]; exact (s7.trans s9) _ _ hp5⟩
        by_cases c : k < i
        · rw [List.getElem?_append_left (by omega)] at e2
          exact (ho5 k s2 o e1 e2).tl tu
        · have lk := (List.getElem?_eq_some_iff.mp e2).1
          rw [List.length_append, List.length_singleton] at lk
          have ek : k = i := by omega
          subst ek
          rw [List.getElem?_append_right (by omega), lo, Nat.sub_self] at e2
          have e3 : ys = o := Option.some.inj e2
          rw [hs] at e1
          rw [← Option.some.inj e1, ← e3]
          exact hout.tl tu9
    · obtain ⟨y6, y7, y8, y9, outs, rfl, hfo, lo, ho, sm, hp4⟩ := hP
      exact ⟨_, rfl, q fo H4 outs sm nfo hfo (by omega) ho⟩
end
end K36
namespace K36
open PySem PySem.Spec PyProof.Rows L2
/-! ### the heaviest from one row -/
/-- a def whose code object is told -/
structure AtC (K : PySem.W.Frag) (mg : Str → Option Value) (x : Str) (st : Stmt) (ps : List Str) (c : Addr) : Prop where
  ex : ∃ f fd, FnP K x x st [] f fd ∧ fd.code = .ref c ∧ mg x = some (.ref f) ∧ Binds K fd ps []
theorem Cal.ofC {P : Program} {w : World} {K : PySem.W.Frag} {mg : Str → Option Value} {base : Heap} {x : Str} {st : Stmt} {N ps : List Str} {k : Nat} {sp : Sp} {c : Addr} (a : AtC K mg x st ps c) (S : FnScope N ps (defScope st)) (len : ∀ vs H Q E, sp vs H Q E → vs.length = ps.length)
    (hbody : ∀ (f : Addr) (A : Around) (outer : List Env) (s : Shared) (H : Hp) (vs : List V) (Q : VK) (E : XK), Room k (A.deeper (envOfC x (defScope st) s.heap.objs.size f (.ref c))) → sp vs H Q E →
      ∃ t, PSs (cxOf CX0 P w K mg base N x (defScope st) f (.ref c) A outer s H E).nox (defBody st) t ∧ t { nx := fun _ H' => Q .non H', rt := Q } (start N vs) H) : Cal P w K mg base CX0 x (k + 1) ps sp := by
  obtain ⟨f, fd, F, ec, g, b⟩ := a.ex
  refine ⟨f, fd, g, F.kp, b, ?_⟩
  obtain ⟨oc, od, dV, kV, doc, pm, an, cdv, ct, osl, rfl, lk, hcd, _, _⟩ := F.ex
  have ec : cdv = .ref c := ec
  subst ec
  exact fn_of lk hcd S len fun A outer s H vs Q E hr h => by
    obtain ⟨t, h1, h2⟩ := hbody f A outer s H vs Q E hr h
    exact ⟨t, h1.nox, h2⟩
section
variable {P : Program} {w : World} {K : PySem.W.Frag} {mg : Str → Option Value} {base : Heap} {TT : TbS} {c tb : Addr}
theorem ok_from {nm : Str} (T : Bi mg) (TB : LamX.TabB base mg c tb) (hmT : (tb, nm ++ ".<locals>." ++ "<lambda>") ∈ TT) (huT : ∀ p ∈ TT, p.1 = tb → p.2 = nm ++ ".<locals>." ++ "<lambda>") (a0 : AtC K mg nm sHeaviestFrom pHeaviestFrom c) (cWorkOf : Cal P w K mg base CX0 "work_of" 7 pWorkOf spWork) :
    Cal P w K mg base CX0 nm 9 pHeaviestFrom (spFrom TT) := by
  refine Cal.ofC a0 scHeaviestFrom (fun vs H Q E h => ?_) (fun f A outer s H vs Q E hr h => ?_)
  · obtain ⟨a, b, i, R, o, n, rfl, _⟩ := h
    rfl
  · obtain ⟨a, b, i, R, o, n, rfl, hR, rs, li, hb, hw, ln, tbs, q⟩ := h
    refine ⟨_, (pss_cons (ps_asg (pe_maxL (T := TT) TB (by rfl) (by exact hmT) (by exact huT) (by rfl) hr (by rfl) (by rfl) T.max (by rfl) (by rfl) (pa_cons (pv 2) pa_nil) (pe_tup (pa_cons pe_int (pa_cons (pe_tup pa_nil) pa_nil))) (by rfl) (by rfl) (by rfl) (by decide +kernel) (by rfl) (by rfl) (by intros; rfl)) (pg_tup rfl (pgs_cons (pg_name (i := 3) scHeaviestFrom.nd rfl (.inl rfl)) (pgs_cons (pg_name (i := 4) scHeaviestFrom.nd rfl (.inl rfl)) pgs_nil)))) -- work, way = max(behind, key=lambda one: one[0], default=(0, ()))
      (pss_one (ps_ret (pe_tup (pa_cons (pe_op op_add (pe_c cWorkOf hr pass0 (pa_cons (pe_ix ix_tup (pv 0) (pv 1) (fun _ _ => rfl)) pa_nil)) (pv 3)) (pa_cons (pe_op op_catA (pe_tup (pa_cons (pv 1) pa_nil)) (pv 4)) pa_nil)))))), ?_⟩
    obtain ⟨vs, hvs, lvs, hrow⟩ := id hR
    obtain ⟨r, hr1⟩ : ∃ r, R[i]? = some r := ⟨_, List.getElem?_eq_getElem li⟩
    obtain ⟨v, hv, ra, its, ev, hra, hits⟩ := hrow i r hr1
    have ok6 := rs.ok r (List.mem_of_getElem? hr1)
    have ewk : wkAt R i = r.wk := by
      unfold wkAt
      rw [hr1]
    refine ⟨_, rfl, b, o.toList.map (·.1), rfl, ?_, tbs, fun c' H1 e1 tb1 hco => ?_⟩
    · cases o with
      | none => exact Nat.zero_le _
      | some p => exact Nat.le_refl 1
    · refine ⟨Nat.zero_le _, fun p1 np1 => ⟨(by show 2 ≤ sizeLine; decide), fun p2 np2 => ?_⟩⟩
      have m1 := same_new (o := .tup []) np1
      have m2 := same_new (o := .tup [.int 0, .ref p1]) np2
      have m12 := m1.trans m2
      have hp1 := m2 _ _ (upd_same (H := H1) (a := p1) (o := .tup []))
      have hp2 := upd_same (H := upd H1 p1 (.tup [])) (a := p2) (o := .tup [.int 0, .ref p1])
      have e2 : Ex H _ := e1.trans (LamX.ExtN.of m12)
      have tb2 := tb1.ext m12
      have hco2 := m12 _ _ hco
      generalize upd (upd H1 p1 (.tup [])) p2 (.tup [.int 0, .ref p1]) = H2 at hp1 hp2 e2 tb2 hco2 ⊢
      refine ⟨hco2, Ex.l e2 hb, fun x hx => ?_, fun x hx => ?_⟩
      · obtain ⟨p, hp, rfl⟩ := List.mem_map.mp hx
        cases o with
        | none => cases hp
        | some p' =>
          obtain rfl : p = p' := List.mem_singleton.mp hp
          obtain ⟨t, wp, ws, e, h1, _⟩ := (hw p rfl).tl e2.tl
          exact ⟨t, _, _, e, h1⟩
      · obtain ⟨m, q, hwx⟩ : ∃ m : Int, (∀ v H', Ex H H' → LamX.Tabs TT H' → WayV H' v (((wkAt R i : Nat) : Int) + m) (n + 1) → Q v H') ∧ WayV H2 x m n := by
          rcases hx with hx | ⟨hx, rfl⟩
          · obtain ⟨p, hp, rfl⟩ := List.mem_map.mp hx
            cases o with
            | none => cases hp
            | some p' =>
              obtain rfl : p = p' := List.mem_singleton.mp hp
              exact ⟨_, q, (hw p rfl).tl e2.tl⟩
          · cases o with
            | none => exact ⟨_, q, p2, p1, [], rfl, hp2, hp1, Nat.zero_le _⟩
            | some p' => cases hx
        obtain ⟨t, wp, ws, rfl, ht, hwp, lws⟩ := hwx
        have hR2 := hR.tl e2.tl
        refine ⟨t, _, rfl, SqT.of ht, rfl, _, _, rfl, _, _, rfl, rfl, ?_⟩
        subst ev
        refine ⟨_, rfl, _, rfl, a, _, _, _, rfl, rfl, SqT.of (e2.tl _ _ hvs), at_nat (j := i) rfl hv, ra, i, r, rfl, ⟨ra, its, rfl, e2.tl _ _ hra, hits.tl e2.tl⟩, ok6, fun H3 s3 => ⟨_, rfl, _, _, rfl, rfl, ?_⟩⟩
        refine ⟨_, rfl, (by show 1 ≤ sizeLine; decide), fun t1 nt1 => ?_⟩
        have m4 := same_new (o := .tup [.int (i : Nat)]) nt1
        have s4 := s3.trans m4
        have ht1 := upd_same (H := H3) (a := t1) (o := .tup [.int (i : Nat)])
        generalize upd H3 t1 (.tup [.int (i : Nat)]) = H4 at s4 ht1 ⊢
        have fin : ∀ (wq : Addr) (zs : List V) (H5 : Hp), Same H4 H5 → H5 wq = some (.tup zs) → zs.length ≤ n + 1 → 2 ≤ sizeLine ∧ ∀ p, H5 p = none → Q (.ref p) (upd H5 p (.tup [.int ((r.wk : Nat) + m), .ref wq])) := fun wq zs H5 s5 hq lz => ⟨by decide, fun p np => by
          have m6 := same_new (o := .tup [.int ((r.wk : Nat) + m), .ref wq]) np
          have s6 := s4.trans (s5.trans m6)
          refine q (.ref p) _ (e2.trans (LamX.ExtN.of s6)) (tb2.ext s6) ⟨p, wq, zs, rfl, ?_, m6 _ _ hq, lz⟩
          rw [ewk]
          exact upd_same⟩
        refine ⟨_, rfl, t1, wp, [.int (i : Nat)], ws, rfl, rfl, SqT.of ht1, SqT.of (s4 _ _ hwp), szl (by show 1 + ws.length ≤ 100000; omega), (fun e => nomatch e), fun _ e => ?_, fun _ _ pp npp => ?_⟩
        · exact fin t1 _ H4 (fun _ _ h => h) ht1 (by show 1 ≤ n + 1; omega)
        · exact fin pp ([.int (i : Nat)] ++ ws) _ (same_new npp) upd_same (by show ([V.int (i : Nat)] ++ ws).length ≤ n + 1; rw [List.length_append, List.length_singleton]; omega)
end
end K36
namespace K36
open PySem PySem.Spec PyProof.Rows L2
/-! ### the layer's making; the rows of a program -/
/-- the helpers' tuple, told with its object, its pairs -/
structure HdAt (K : PySem.W.Frag) (H : Hp) (h : Addr) (kvs : List (Key × V)) : Prop where
  ex : ∃ (o : Obj) (ps : List Addr), H h = some (.frz o (.tup (ps.map V.ref))) ∧ PlT o ∧ Paired (fun p kv => H p = some (.tup [kV kv.1, kv.2])) ps kvs
theorem HdAt.sm {K : PySem.W.Frag} {H H' : Hp} {h : Addr} {kvs : List (Key × V)} (s : Same H H') (a : HdAt K H h kvs) : HdAt K H' h kvs := by
  obtain ⟨o, ps, h1, h2, h3⟩ := a.ex
  exact ⟨o, ps, s _ _ h1, h2, Paired.mapP h3 fun _ _ z => s _ _ z⟩
def spLayer (K : PySem.W.Frag) : Sp := fun vs H Q _ => ∃ (l dx h : Addr) (kvs : List (Key × V)), vs = [.ref l, .ref h] ∧ H l = some (.ins (He.ga K "Layer") dx []) ∧ HdAt K H h kvs ∧
  ∀ (hd : Addr) (H' : Hp), H hd = none → (∀ b, b ≠ l → b ≠ hd → H' b = H b) → H' hd = some (.dK (mergeK [] kvs)) → LayAt K H' l hd → Q .non H'
/-- the rows: of each statement of the flat body what OutS tells, then the end -/
def spRowsOf (K : PySem.W.Frag) : Sp := fun vs H Q _ => ∃ (p g h b : Addr) (kvs : List (Key × V)) (xs : List V) (gs : List Sg), vs = [.ref p] ∧ H p = some (.tup [.ref g, .ref h, .ref b]) ∧ HdAt K H h kvs ∧ H b = some (.tup xs) ∧ xs.length ≤ 100 ∧
  (∀ hd H', Same H H' → H' hd = some (.dK (mergeK [] kvs)) → GsAt H' hd gs xs) ∧ lgs (gs.flatMap Sg.fl) ≤ 59 ∧
  ∀ (a e : Addr) (H' : Hp) (outs : List (List V)), Same H H' → H' a = some (.tup (outs.flatten ++ [.ref e])) → H' e = some (.tup [.str "end"]) → outs.length = (gs.flatMap Sg.fl).length →
    (∀ (k : Nat) (s : S1) (o : List V), (gs.flatMap Sg.fl)[k]? = some s → outs[k]? = some o → OutS H' s (folAt (gs.flatMap Sg.fl) 0 (lgs (gs.flatMap Sg.fl) : Nat) k) o) → Q (.ref a) H'
theorem lgs_map : ∀ gs : List Sg, (gs.map fun g => lgs g.fl).sum = lgs (gs.flatMap Sg.fl)
  | [] => rfl
  | g :: gs => by
    rw [List.map_cons, List.sum_cons, lgs_map gs, List.flatMap_cons, lgs_app]
theorem fl_le : ∀ {gs : List Sg} {g : Sg}, g ∈ gs → lgs g.fl ≤ lgs (gs.flatMap Sg.fl)
  | g' :: gs, g, h => by
    rw [List.flatMap_cons, lgs_app]
    rcases List.mem_cons.mp h with h | h
    · rw [h]
      exact Nat.le_add_right _ _
    · exact Nat.le_trans (fl_le h) (Nat.le_add_left _ _)
section
variable {P : Program} {w : World} {K : PySem.W.Frag} {mg : Str → Option Value} {base : Heap} {k : Nat}
-- Layer.__init__ (printed by gen.py); slots: 0 self, 1 helpers
abbrev nLayerInit : List Str := ["self", "helpers"]
abbrev pLayerInit : List Str := ["self", "helpers"]
theorem scLayerInit : FnScope nLayerInit pLayerInit (defScope sLayerInit) := ⟨rfl, rfl, rfl, by decide +kernel, rfl, by decide +kernel, by decide +kernel⟩
theorem ok_layer (T : Bi mg) (LC : LayC K) (a0 : KAt K mg "Layer" sLayerInit [] pLayerInit) : KCal P w K mg base CX0 "Layer" 1 pLayerInit (spLayer K) := by
  refine KCal.of a0 scLayerInit (fun vs H Q E h => ?_) (fun f cdv A outer s H vs Q E hr h => ?_)
  · obtain ⟨l, dx, h, kvs, rfl, _⟩ := h
    rfl
  · obtain ⟨l, dx, h, kvs, rfl, hl, hh, q⟩ := h
    obtain ⟨oh, ps, hh1, po, pr⟩ := hh.ex
    refine ⟨_, (pss_one (ps_fld (pv 0) (pe_callTy (call_dictF rfl) (by rfl) T.dict bo_dict (pa_cons (pv 1) pa_nil)) rfl)), ?_⟩
    refine ⟨_, rfl, h, oh, ps, kvs, rfl, hh1, po, Paired.mapP pr fun _ _ z => SqT.of z, fun hd nhd => ?_⟩
    have nl : l ≠ hd := ne_of_none hl nhd
    refine ⟨_, rfl, l, _, dx, _, rfl, by rw [upd_ne nl]; exact hl, LC.c, LC.n1, (by show 0 < 1000; decide), ?_⟩
    refine q hd _ nhd (fun b n1 n2 => by rw [upd_ne n1, upd_ne n2]) (by rw [upd_ne nl.symm]; exact upd_same) ⟨dx, _, upd_same, ?_, ?_, ?_, ?_, ?_, ?_⟩
    · rw [lookup_putF, if_pos rfl]
    all_goals
      rw [lookup_putF, if_neg (by decide +kernel)]
      rfl
-- rows_of (printed by gen.py); slots: 0 program, 1 layer, 2 many
abbrev nRowsOf : List Str := ["program", "layer", "many"]
abbrev pRowsOf : List Str := ["program"]
theorem scRowsOf : FnScope nRowsOf pRowsOf (defScope sRowsOf) := ⟨rfl, rfl, rfl, by decide +kernel, rfl, by decide +kernel, by decide +kernel⟩
theorem ok_rowsOf {tk : Tok} (T : Bi mg) (MOST_ROWS_mg : mg "MOST_ROWS" = some (.int 60 tk)) (CL : Cls K (He.ga K "Layer")) (a0 : At K mg "rows_of" sRowsOf pRowsOf) (cLayer : KCal P w K mg base CX0 "Layer" 1 pLayerInit (spLayer K))
    (cLong : MCal P w K mg base CX0 "Layer" "long" k pLayerLong (spLgT K Lo3)) (cLaid : MCal P w K mg base CX0 "Layer" "laid" k pLayerLaid (spLaid K fun _ => True)) (hk : 2 ≤ k) :
    Cal P w K mg base CX0 "rows_of" (k + 1) pRowsOf (spRowsOf K) := by
  refine Cal.of a0 scRowsOf (fun vs H Q E h => ?_) (fun f cdv A outer s H vs Q E hr h => ?_)
  · obtain ⟨p, g, h, b, kvs, xs, gs, rfl, _⟩ := h
    rfl
  · obtain ⟨p, g, h, b, kvs, xs, gs, rfl, hp, hh, hb, lx, hg, lg, q⟩ := h
    refine ⟨_, (pss_cons (ps_set (i := 1) scRowsOf.nd rfl (.inl rfl) (pe_k cLayer hr pass0 (pa_cons (pe_ix ix_tup (pv 0) pe_int (fun _ _ => rfl)) pa_nil))) -- layer = Layer(program[1])
      (pss_cons (ps_set (i := 2) scRowsOf.nd rfl (.inl rfl) (pe_m cLong CL hr pass0 (pv 1) (pa_cons (pe_ix ix_tup (pv 0) pe_int (fun _ _ => rfl)) pa_nil))) -- many = layer.long(program[2])
      (pss_cons (ps_if (pt_cmpR op_gt (pe_op op_add (pv 2) pe_int) (pe_glob (v := .int 60) rfl MOST_ROWS_mg ⟨_, rfl⟩) (nomark _))
        (pss_one ps_never)
        pss_nil) -- if many + 1 > MOST_ROWS:
      (pss_one (ps_ret (pe_callTy call_tuple_of (by rfl) T.tuple bo_tuple (pa_cons (pe_op op_cat (pe_m cLaid CL hr pass0 (pv 1) (pa_cons (pe_ix ix_tup (pv 0) pe_int (fun _ _ => rfl)) (pa_cons pe_int (pa_cons (pv 2) pa_nil)))) (pe_lst (pa_cons (pe_tup (pa_cons pe_str pa_nil)) pa_nil))) pa_nil))))))), ?_⟩
    refine ⟨_, rfl, p, _, _, _, rfl, rfl, SqT.of hp, at_nat (j := 1) rfl rfl, fun l dx nl ndx nex => ?_⟩
    have s0 := (same_new (o := .own l) ndx).trans (same_new (o := .ins (He.ga K "Layer") dx []) (show upd H dx (.own l) l = none by rw [upd_ne nex.symm]; exact nl))
    refine ⟨l, dx, h, kvs, rfl, upd_same, hh.sm s0, fun hd H1 nhd eq hdd lay => ⟨rfl, ?_⟩⟩
    have s1 : Same H H1 := fun c o e => by
      rw [eq c (ne_of_none e nl) (ne_of_none (s0 _ _ e) nhd)]
      exact s0 _ _ e
    have gsH := hg hd H1 s1 hdd
    obtain ⟨dx', fs, hl1, hl2, hl3, hl4, hl5, hl6, hl7⟩ := id lay
    refine ⟨_, rfl, l, dx', fs, rfl, hl1, hl3, _, rfl, p, _, _, _, rfl, rfl, SqT.of (s1 _ _ hp), at_nat (j := 2) rfl rfl, l, hd, b, xs, gs.map fun g => lgs g.fl, rfl, lay, s1 _ _ hb, ⟨by rw [List.length_map]; exact gsH.1, fun i v n e1 e2 => ?_⟩, by omega, fun H2 s2 => ?_⟩
    · rw [List.getElem?_map] at e2
      cases e3 : gs[i]? with
      | none => rw [e3] at e2; cases e2
      | some g' =>
        rw [e3] at e2
        rw [← Option.some.inj e2]
        exact (gsH.2 i g' v e3 e1).lo (Nat.le_trans (fl_le (List.mem_of_getElem? e3)) (by omega))
    · rw [lgs_map]
      have s02 := s1.trans s2
      refine ⟨_, rfl, _, _, rfl, rfl, _, _, rfl, rfl, _, rfl, ite2 (fun c => ?_) (fun _ => ?_)⟩
      · have c := of_decide_eq_true c
        omega
      · refine ⟨_, rfl, l, dx', fs, rfl, s2 _ _ hl1, hl6, _, rfl, p, _, _, _, rfl, rfl, SqT.of (s02 _ _ hp), at_nat (j := 2) rfl rfl, _, rfl, l, hd, b, 0, _, xs, gs, rfl, LayAt.sm s2 lay, s02 _ _ hb, hg hd H2 s02 (s2 _ _ hdd), fun g _ => trivial, by omega, fun pl H3 outs s3 npl hpl lo ho => ?_⟩
        refine ⟨(by show 1 ≤ sizeLine; decide), fun e1 n1 => ⟨(by show 1 ≤ sizeLine; decide), fun e2 n2 => ?_⟩⟩
        have m1 := same_new (o := .tup [.str "end"]) n1
        have m2 := same_new (o := .lst [.ref e1]) n2
        have lof : outs.flatten.length = lgs (gs.flatMap Sg.fl) := by
          have := outs_lg (by omega) ho
          rw [lo, List.take_length] at this
          exact this
        refine ⟨pl, e2, outs.flatten, [.ref e1], rfl, rfl, (m1.trans m2) _ _ hpl, upd_same, szl (by rw [List.length_singleton]; omega), fun e3 n3 => ⟨e3, _, rfl, .inl ⟨SqL.of upd_same, fun rt nrt => ?_⟩⟩⟩
        have m3 := same_new (o := .lst (outs.flatten ++ [.ref e1])) n3
        have m4 := same_new (o := .tup (outs.flatten ++ [.ref e1])) nrt
        have m14 := ((m1.trans m2).trans m3).trans m4
        exact q rt e1 _ outs (s02.trans (s3.trans m14)) upd_same (((m2.trans m3).trans m4) _ _ upd_same) lo fun k s o h1 h2 => (ho k s o h1 h2).tl (TL.of m14)
end
end K36
namespace K36
open PySem PySem.Spec PyProof.Rows L2
/-! ### programs as the layer takes them -/
theorem fl_pl (R : List Rw) : (R.map fun r => Sg.one (.pl r)).flatMap Sg.fl = R.map S1.pl := by
  induction R with
  | nil => rfl
  | cons r R ih =>
    rw [List.map_cons, List.flatMap_cons, ih]
    rfl
theorem lgs_pl (R : List Rw) : lgs (R.map S1.pl) = R.length := by
  induction R with
  | nil => rfl
  | cons r R ih =>
    rw [List.map_cons, show S1.pl r :: R.map S1.pl = [S1.pl r] ++ R.map S1.pl from rfl, lgs_app, lgs_one, ih, List.length_cons]
    show 1 + R.length = _
    omega
theorem StsAt.gs {H : Hp} {hd : Addr} {xs : List V} {R : List Rw} (h : StsAt H xs R) (nf : ∀ r ∈ R, r ≠ .fin) : GsAt H hd (R.map fun r => Sg.one (.pl r)) xs := by
  refine ⟨by rw [List.length_map]; exact h.1, fun i g v e1 e2 => ?_⟩
  rw [List.getElem?_map] at e1
  cases e3 : R[i]? with
  | none => rw [e3] at e1; cases e1
  | some r =>
    rw [e3] at e1
    rw [← Option.some.inj e1]
    obtain ⟨v', h1, h2⟩ := h.2 i r e3
    rw [e2] at h1
    rw [Option.some.inj h1]
    exact ⟨h2, nf r (List.mem_of_getElem? e3)⟩
theorem HlAt.hd {K : PySem.W.Frag} {H : Hp} {h : Addr} (a : HlAt H h) : ∃ kvs, HdAt K H h kvs := by
  obtain ⟨o, hs, po, hh, e | ⟨e, f, nm, e1, e2⟩⟩ := a
  · subst e
    exact ⟨[], o, [], hh, po, .nil⟩
  · subst e1
    exact ⟨[(Sum.inr nm, .ref f)], o, [e], hh, po, .cons e2 .nil⟩
theorem singles : ∀ {outs : List (List V)}, (∀ (k : Nat) (o : List V), outs[k]? = some o → ∃ y, o = [y]) → outs.flatten.length = outs.length ∧ ∀ (k : Nat) (o : List V), outs[k]? = some o → ∃ y, o = [y] ∧ outs.flatten[k]? = some y
  | [], h => ⟨rfl, fun k o e => by rw [List.getElem?_nil] at e; cases e⟩
  | o :: outs, h => by
    obtain ⟨h1, h2⟩ := singles (outs := outs) fun k o e => h (k + 1) o e
    obtain ⟨y, rfl⟩ := h 0 o rfl
    refine ⟨by rw [List.flatten_cons, List.length_append, h1, List.length_cons]; show 1 + outs.length = _; rw [List.length_cons]; omega, fun k o e => ?_⟩
    cases k with
    | zero => exact ⟨y, (Option.some.inj e).symm, rfl⟩
    | succ k => exact h2 k o e
theorem fol_pl {R : List Rw} {k : Nat} (h : k < R.length) : folAt (R.map S1.pl) 0 (R.length : Nat) k = (k : Int) + 1 := by
  unfold folAt
  rw [List.length_map, ← List.map_take, lgs_pl, List.length_take]
  split <;> omega
theorem rows_pl {H : Hp} {a e : Addr} {R : List Rw} {outs : List (List V)} (ha : H a = some (.tup (outs.flatten ++ [.ref e]))) (he : H e = some (.tup [.str "end"])) (lo : outs.length = R.length)
    (ho : ∀ (k : Nat) (s : S1) (o : List V), (R.map S1.pl)[k]? = some s → outs[k]? = some o → OutS H s (folAt (R.map S1.pl) 0 (R.length : Nat) k) o) (nf : ∀ r ∈ R, r ≠ .fin) : RowsAt H a (R ++ [.fin]) := by
  have one : ∀ (k : Nat) (o : List V), outs[k]? = some o → ∃ r y, R[k]? = some r ∧ o = [y] ∧ RowLike H r ((k : Int) + 1) y := fun k o e1 => by
    have lk := (List.getElem?_eq_some_iff.mp e1).1
    have er : R[k]? = some (R[k]'(by omega)) := List.getElem?_eq_getElem (by omega)
    obtain ⟨y, h1, h2⟩ := ho k (.pl (R[k]'(by omega))) o (by rw [List.getElem?_map, er]; rfl) e1
    rw [fol_pl (by omega)] at h2
    exact ⟨_, y, er, h1, h2⟩
  obtain ⟨lf, hf⟩ := singles fun k o e1 => let ⟨_, y, _, h, _⟩ := one k o e1; ⟨y, h⟩
  refine ⟨_, ha, by rw [List.length_append, List.length_append, lf, lo]; rfl, fun i r hr => ?_⟩
  by_cases c : i < R.length
  · rw [List.getElem?_append_left c] at hr
    have eo : outs[i]? = some (outs[i]'(by omega)) := List.getElem?_eq_getElem (by omega)
    obtain ⟨y, e1, e2⟩ := hf i _ eo
    obtain ⟨r', y', e3, e4, b, its, e5, e6, e7⟩ := one i _ eo
    rw [e1] at e4
    obtain rfl : y = y' := (List.cons.inj e4).1
    rw [hr] at e3
    obtain rfl : r = r' := Option.some.inj e3
    refine ⟨y, by rw [List.getElem?_append_left (by omega)]; exact e2, b, its, e5, ?_, e7⟩
    rw [nx_ne (nf r (List.mem_of_getElem? hr))]
    exact e6
  · have ei : i = R.length := by
      have := (List.getElem?_eq_some_iff.mp hr).1
      rw [List.length_append, List.length_singleton] at this
      omega
    subst ei
    rw [List.getElem?_append_right (Nat.le_refl _), Nat.sub_self] at hr
    have er : Rw.fin = r := Option.some.inj hr
    subst er
    exact ⟨.ref e, by rw [List.getElem?_append_right (by omega), lf, lo, Nat.sub_self]; rfl, e, [.str "end"], rfl, he, rfl⟩
theorem RsOk.rs {cs : List Str} {R : List Rw} (h : RsOk cs R) (l : R.length ≤ 58) (lc : cs.length ≤ 5) : RS (R ++ [.fin]) := by
  refine ⟨⟨R, rfl, l, h.nf⟩, fun r hr => ?_, cs, lc, fun r hr x hx => ?_⟩
  · rcases List.mem_append.mp hr with q | q
    · exact h.ok r q
    · rw [List.mem_singleton.mp q]
      trivial
  · rcases List.mem_append.mp hr with q | q
    · exact h.nm r q x hx
    · rw [List.mem_singleton.mp q] at hx
      cases hx
/-- a row's word -/
theorem RowAt.word {H : Hp} {i : Nat} {r : Rw} {v : V} (h : RowAt H i r v) : ∃ (a : Addr) (w : Str) (tl : List V), v = .ref a ∧ H a = some (.tup (.str w :: tl)) ∧ w ≠ "if" := by
  obtain ⟨a, its, e, ha, hi⟩ := h
  cases r with
  | set x t =>
    obtain ⟨u, rfl, _⟩ := hi
    exact ⟨a, "set", _, e, ha, by decide +kernel⟩
  | read x =>
    obtain ⟨u, rfl⟩ := hi
    exact ⟨a, "read", _, e, ha, by decide +kernel⟩
  | tell t =>
    obtain ⟨u, rfl, _⟩ := hi
    exact ⟨a, "tell", _, e, ha, by decide +kernel⟩
  | sure ns =>
    obtain ⟨b, n, rfl, _⟩ := hi
    exact ⟨a, "sure", _, e, ha, by decide +kernel⟩
  | fin =>
    have hi : its = [.str "end"] := hi
    subst hi
    exact ⟨a, "end", _, e, ha, by decide +kernel⟩
theorem rg_nat (b e : Nat) : rgV (b : Int) (e : Int) = (List.range' b (e - b)).map fun j => V.int (j : Nat) := by
  unfold rgV
  rw [show ((e : Int) - (b : Int)).toNat = e - b by omega]
  refine List.ext_getElem? fun i => ?_
  rw [List.getElem?_map, List.getElem?_map]
  by_cases c : i < e - b
  · rw [List.getElem?_range c, List.getElem?_range' c]
    show some (V.int ((b : Int) + (i : Nat))) = some (V.int ((b + 1 * i : Nat) : Int))
    rw [Nat.one_mul]
    rfl
  · rw [List.getElem?_eq_none (by rw [List.length_range]; omega), List.getElem?_eq_none (by rw [List.length_range']; omega)]
    rfl
/-! ### what is told -/
structure ExcF (K : PySem.W.Frag) (mg : Str → Option Value) (x : Str) : Prop where
  q : PySem.W.excIn K (He.ga K x) He.veBase "ValueError.__new__" = true
  g : mg x = some (.ref (He.ga K x))
  k : PySem.W.keepIn K (.ref (He.ga K x)) = true
  s : PySem.W.subIn K (.ref (He.ga K x)) (.type "BaseException") = some true
  t : PySem.W.typeIn K (.ref (He.ga K x)) = some (.type "type")
def natV (l : List Nat) : List V := l.map fun j => V.int (j : Nat)
def WysAt (H : Hp) (ws : List Addr) (js : List (List Nat)) : Prop := ws.length = js.length ∧ ∀ (k : Nat) (a : Addr) (j : List Nat), ws[k]? = some a → js[k]? = some j → H a = some (.tup (natV j))
theorem WysAt.tl {H H' : Hp} (x : TL H H') {ws : List Addr} {js : List (List Nat)} (h : WysAt H ws js) : WysAt H' ws js := ⟨h.1, fun k a j e1 e2 => x _ _ (h.2 k a j e1 e2)⟩
theorem WysAt.snoc {H : Hp} {ws : List Addr} {js : List (List Nat)} {a : Addr} {j : List Nat} (h : WysAt H ws js) (e : H a = some (.tup (natV j))) : WysAt H (ws ++ [a]) (js ++ [j]) := by
  refine ⟨by rw [List.length_append, List.length_append, h.1]; rfl, fun k b i e1 e2 => ?_⟩
  by_cases c : k < ws.length
  · rw [List.getElem?_append_left c] at e1
    rw [List.getElem?_append_left (by rw [← h.1]; exact c)] at e2
    exact h.2 k b i e1 e2
  · have lk := (List.getElem?_eq_some_iff.mp e1).1
    rw [List.length_append, List.length_singleton] at lk
    have ek : k = ws.length := by omega
    subst ek
    rw [List.getElem?_append_right (Nat.le_refl _), Nat.sub_self] at e1
    rw [List.getElem?_append_right (by rw [h.1]; exact Nat.le_refl _), h.1, Nat.sub_self] at e2
    rw [← Option.some.inj e1, ← Option.some.inj e2]
    exact e
/-- the cuts and ways at t -/
def ToldAt (H : Hp) (t : Addr) (zs : List (Nat × Nat)) : Prop := ∃ (c wp : Addr) (ws : List Addr), H t = some (.tup [.ref c, .ref wp]) ∧ H c = some (.tup (natV (zs.map (·.1)))) ∧ H wp = some (.tup (ws.map V.ref)) ∧ WysAt H ws (wys 0 zs)
def spFewestS (K : PySem.W.Frag) (TT : TbS) : Sp := fun vs H Q E => ∃ (p l : Addr) (ch op pu : Int) (R : List Rw), vs = [.ref p, .ref l] ∧ PgAt H p R ∧ LimAt K H l ch op pu ∧ LamX.Tabs TT H ∧
  (fitB (R ++ [.fin]) op pu ch = true → ∀ (t : Addr) (zs : List (Nat × Nat)) (H' : Hp), Ex H H' → LamX.Tabs TT H' → Gd (R ++ [.fin]) (freeB (R ++ [.fin])) op pu ch 0 zs → ToldAt H' t zs → Q (.ref t) H') ∧
  (fitB (R ++ [.fin]) op pu ch = false → ∀ H', Ex H H' → LamX.Tabs TT H' → E (.ref (He.ga K "NoFit")) none H')
theorem inI_fr {R : List Rw} {i : Nat} (h : i < R.length) : inI (fr R) i = freeB R i := by
  unfold inI fr
  rw [Bool.eq_iff_iff, decide_eq_true_eq, plc_mem]
  constructor
  · rintro ⟨j, h1, h2, h3⟩
    have e : i = j := by omega
    rw [e]
    exact h2
  · intro h2
    exact ⟨i, h, h2, rfl⟩
theorem hv_eq {c d : Nat → Bool} : ∀ {l : List Rw} {i : Nat}, (∀ j, i < j → j < i + l.length → c j = d j) → c (i + l.length) = d (i + l.length) → hv c i l = hv d i l
  | [], _, _, _ => rfl
  | r :: l, i, h, h2 => by
    rw [List.length_cons] at h h2
    unfold hv
    cases l with
    | nil =>
      have e : c (i + 1) = d (i + 1) := h2
      rw [e]
      rfl
    | cons r' l =>
      rw [h (i + 1) (by omega) (by rw [List.length_cons]; omega), hv_eq (i := i + 1) (fun j h3 h4 => h j (by omega) (by omega)) (by
        rw [show i + 1 + (r' :: l).length = i + ((r' :: l).length + 1) by omega]
        exact h2)]
theorem hvAt_fr {R : List Rw} {i : Nat} (hi : i < R.length) : hvAt R (inI (fr R)) i = hvAt R (freeB R) i := by
  unfold hvAt
  have l : (R.drop i).length = R.length - i := List.length_drop
  refine hv_eq (fun j h1 h2 => inI_fr (by omega)) ?_
  rw [l, show i + (R.length - i) = R.length by omega]
  have e1 : inI (fr R) R.length = false := by
    unfold inI fr
    refine decide_eq_false fun h => ?_
    obtain ⟨j, h1, _, h3⟩ := plc_mem.mp h
    omega
  have e2 : freeB R R.length = false := by
    unfold freeB
    rw [decide_eq_false (show ¬ R.length + 1 < R.length by omega)]
    simp
  rw [e1, e2]
theorem fit_hv {R : List Rw} {op pu ch : Int} (h : fitB R op pu ch = true) {b : Nat} (hb : b < R.length) (hf : b = 0 ∨ freeB R b = true) : op + (hvAt R (freeB R) b : Nat) + pu ≤ ch := by
  unfold fitB at h
  have := List.all_eq_true.mp h (b : Int) (by
    rcases hf with e | e
    · rw [e]
      exact List.mem_cons_self
    · refine List.mem_cons_of_mem _ ?_
      unfold fr
      exact plc_mem.mpr ⟨b, hb, e, rfl⟩)
  have := of_decide_eq_true this
  rw [Int.toNat_natCast, hvAt_fr hb] at this
  exact this
end K36
namespace K36
open PySem PySem.Spec PyProof.Rows L2
section
variable {P : Program} {w : World} {K : PySem.W.Frag} {mg : Str → Option Value} {base : Heap} {TT : TbS}
-- fewest (printed by gen.py); slots: 0 program, 1 limits, 2 rows, 3 free, 4 cuts, 5 ways, 6 begin*, 7 at*, 8 way, 9 row, 10 k
abbrev nFewest : List Str := ["program", "limits", "rows", "free", "cuts", "ways", "begin", "at", "way", "row", "k"]
abbrev pFewest : List Str := ["program", "limits"]
theorem scFewest : FnScope nFewest pFewest (defScope sFewest) := ⟨rfl, rfl, rfl, by decide +kernel, rfl, by decide +kernel, by decide +kernel⟩
theorem ok_fewestS (T : Bi mg) (XF : ExcF K mg "NoFit") (a0 : At K mg "fewest" sFewest pFewest) (cRowsOf : Cal P w K mg base CX0 "rows_of" 11 pRowsOf (spRowsOf K)) (cFinest : Cal P w K mg base CX0 "finest" 4 pFinest spFreeT)
    (cFitIn : Cal P w K mg base CX0 "fit_in" 11 pFitIn (spFit K TT)) (cTooHeavy : Cal P w K mg base CX0 "too_heavy" 9 pTooHeavy (spTooHeavy K)) :
    Cal P w K mg base (L2.CX P w) "fewest" 12 pFewest (spFewestS K TT) := by
  refine Cal.ofX a0 scFewest (fun vs H Q E h => ?_) (fun f cdv A outer s H vs Q E hr h => ?_)
  · obtain ⟨p, l, ch, op, pu, R, rfl, _⟩ := h
    rfl
  · obtain ⟨p, l, ch, op, pu, R, rfl, ⟨g, h, b, gs, cs, xs, hp, hg, lg1, lg2, hl, hb, hS, lR, lc, oR⟩, hlm, tb, q1, q2⟩ := h
    refine ⟨_, (pss_cons (ps_set (i := 2) scFewest.nd rfl (.inl rfl) (pe_c cRowsOf hr pass0 (pa_cons (pv 0) pa_nil))) -- rows = rows_of(program)
      (pss_cons (ps_if (pt_val (pe_callB (cr_any rfl) (by rfl) T.any bo_any (pa_cons (pe_lc (own := [("row", 9)]) (g := gName 9) rfl scFewest.nd (pi_tup (pv 2)) (blkOk_by (own := [("row", 9)]) (N := nFewest) (sc := defScope sFewest) (by decide +kernel)) (fun _ _ _ _ _ => (pg_name (i := 9) scFewest.nd rfl (.inl rfl))) (fun _ _ _ _ _ => pts_nil) (fun _ _ _ _ _ => (pe_cmpR op_eq (pe_ix (ixT (K := K) rfl) (pv 9) pe_int (fun _ _ => rfl)) pe_str (nomark _)))) pa_nil)))
        (pss_one ps_never/-NotStraight-/)
        pss_nil) -- if any([row[0] == 'if' for row in rows]):
      (pss_cons (ps_set (i := 3) scFewest.nd rfl (.inl rfl) (pe_c cFinest hr pass0 (pa_cons (pv 2) pa_nil))) -- free = finest(rows)
      (pss_cons (ps_if (pt_not (pt_val (pe_c cFitIn hr pass0 (pa_cons (pv 2) (pa_cons (pv 1) (pa_cons (pv 3) pa_nil))))))
        (pss_one (ps_raise rfl (takes_of rfl rfl rfl rfl) (pmk_own0 PySem.F.excBase_ValueError XF.q XF.g XF.k (raises_own XF.s XF.t) rfl)))
        pss_nil) -- if not fit_in(rows, limits, free):
      (pss_cons (ps_set (i := 4) scFewest.nd rfl (.inl rfl) (pe_lst pa_nil)) -- cuts = []
      (pss_cons (ps_set (i := 5) scFewest.nd rfl (.inl rfl) (pe_lst pa_nil)) -- ways = []
      (pss_cons (ps_set (i := 6) scFewest.nd rfl (.inr rfl) pe_int) -- begin = 0
      (pss_cons (ps_for (passes_of rfl) rfl (pi_range1 (by rfl) T.range (pa_cons (pe_callB call_len_seq (by rfl) T.len bo_len (pa_cons (pv 2) pa_nil)) pa_nil)) (pg_name (i := 7) scFewest.nd rfl (.inr rfl))
        (pss_cons (ps_set (i := 8) scFewest.nd rfl (.inl rfl) (pe_tupRg rfl (by rfl) T.tuple (prg_2 (by rfl) T.range (pv 6) (pe_op op_add (pv 7) pe_int)))) -- way = tuple(range(begin, at + 1))
        (pss_one (ps_if (pt_val (pe_c cTooHeavy hr pass0 (pa_cons (pv 2) (pa_cons (pv 1) (pa_cons (pv 8) pa_nil)))))
          (pss_cons (ps_expr (pe_bm PySem.F.plainAttrs_list PySem.F.slot_list_append PySem.F.type_list_append mt_append (pv 5) (pa_cons (pv 8) pa_nil))) -- ways.append(way)
          (pss_cons (ps_set (i := 6) scFewest.nd rfl (.inr rfl) (pe_callB (cr_max rfl) (by rfl) T.max bo_max (pa_cons (pe_lc (own := [("k", 10)]) (g := gName 10) rfl scFewest.nd (pi_tup (pv 3)) (blkOk_by (own := [("k", 10)]) (N := nFewest) (sc := defScope sFewest) (by decide +kernel)) (fun _ _ _ _ _ => (pg_name (i := 10) scFewest.nd rfl (.inl rfl))) (fun _ _ _ _ _ => (pts_one (pt_chain op_lt op_le (pv 6) (pv 10) (pv 7)))) (fun _ _ _ _ _ => (pv 10))) pa_nil))) -- begin = max([k for k in free if begin < k <= at])
          (pss_one (ps_expr (pe_bm PySem.F.plainAttrs_list PySem.F.slot_list_append PySem.F.type_list_append mt_append (pv 4) (pa_cons (pv 6) pa_nil))))))
          pss_nil)))) -- for at in range(len(rows)):
      (pss_one (ps_ret (pe_tup (pa_cons (pe_callTy call_tuple_of (by rfl) T.tuple bo_tuple (pa_cons (pv 4) pa_nil)) (pa_cons (pe_callTy call_tuple_of (by rfl) T.tuple bo_tuple (pa_cons (pv 5) pa_nil)) pa_nil))))))))))))), ?_⟩
    have rs := oR.rs lR lc
    obtain ⟨kvs, hh⟩ := hl.hd (K := K)
    have lxs : xs.length = R.length := hS.1
    refine ⟨_, rfl, p, g, h, b, kvs, xs, R.map fun r => Sg.one (.pl r), rfl, hp, hh, hb, by omega, fun hd H' s' _ => (hS.tl (TL.of s')).gs oR.nf, by rw [fl_pl, lgs_pl]; omega, fun a1 e1 H1 outs s1 ha1 he1 lo ho => ?_⟩
    rw [fl_pl, List.length_map] at lo
    rw [fl_pl, lgs_pl] at ho
    have hR := rows_pl ha1 he1 lo ho oR.nf
    generalize R ++ [.fin] = R' at rs hR q1 q2
    clear ho lo ha1 he1 hS hh hl hp hg hb oR lxs
    obtain ⟨rv, hrv, lrv, hrow⟩ := id hR
    have ln := rs.len
    refine ⟨_, rfl, a1, rfl, ⟨_, SqT.of hrv⟩, fun D nD => ?_⟩
    refine lc_tup (fun j H' => H' D = some (.lst ((List.replicate j false).map V.bl)) ∧ Same H1 H') ⟨upd_same, same_new nD⟩ (fun j H' _ hP => SqT.of (hP.2 _ _ hrv)) (fun j v H' hj hP => ?_) (fun H2 hP => ?_)
    · obtain ⟨hD, sm⟩ := hP
      have lj := (List.getElem?_eq_some_iff.mp hj).1
      have er : R'[j]? = some (R'[j]'(by omega)) := List.getElem?_eq_getElem (by omega)
      obtain ⟨v', hv', hw⟩ := hrow j _ er
      rw [hj] at hv'
      obtain rfl := Option.some.inj hv'
      obtain ⟨ra, wd, tl, rfl, hra, nif⟩ := hw.word
      refine ⟨rfl, _, rfl, ra, _, _, _, rfl, rfl, SqT.of (sm _ _ hra), at_nat (j := 0) rfl rfl, rfl, _, hD, szt (by rw [List.length_map, List.length_replicate]; omega), ?_, Same.mut (H := H1) sm nD⟩
      rw [upd_same, List.replicate_succ', List.map_append, decide_eq_false (fun z => nif (V.str.inj z))]
      rfl
    · obtain ⟨hD, s2⟩ := hP
      refine ⟨D, _, rfl, SqL.of hD, _, rfl, ite2 (fun c => absurd c (by simp)) (fun _ => ?_)⟩
      have s12 := s1.trans s2
      refine ⟨_, rfl, a1, R', rfl, hR.tl (TL.of s2), rs, fun fa H3 s3 nfa hfa => ?_⟩
      have s13 := s12.trans s3
      have hR3 := hR.tl (TL.of (s2.trans s3))
      refine ⟨_, rfl, _, rfl, _, rfl, a1, l, fa, ch, op, pu, R', rfl, hR3, rs, hlm.sm s13, hfa, tb.ext s13, fun H4 e4 tb4 => ⟨_, rfl, ?_⟩⟩
      have e14 : Ex H H4 := (LamX.ExtN.of s13).trans e4
      have hR4 := hR3.tl e4.tl
      have hl4 := LimAt.ex e14 hlm
      have hfa4 := e4.tl _ _ hfa
      clear hD s2 s12 s3 s13 hR3 hR hrow hrv e4 hfa nfa s1 hlm tb
      refine ite2 (fun c => ?_) (fun c => ?_)
      · cases e : fitB R' op pu ch with
        | true => rw [e] at c; cases c
        | false => exact q2 e H4 e14 tb4
      · have fit : fitB R' op pu ch = true := by
          cases e : fitB R' op pu ch with
          | true => rfl
          | false => rw [e] at c; exact absurd rfl c
        have hf : ∀ b, b < R'.length → b = 0 ∨ freeB R' b = true → op + (hvAt R' (freeB R') b : Nat) + pu ≤ ch := fun b h1 h2 => fit_hv fit h1 h2
        refine ⟨Nat.zero_le _, fun cu ncu => ⟨Nat.zero_le _, fun wa nwa => ?_⟩⟩
        have m1 := same_new (o := .lst []) ncu
        have m2 := same_new (o := .lst []) nwa
        have m12 := m1.trans m2
        have hcu := m2 _ _ (upd_same (H := H4) (a := cu) (o := .lst []))
        have hwa := upd_same (H := upd H4 cu (.lst [])) (a := wa) (o := .lst [])
        have ncw : cu ≠ wa := ne_of_none (upd_same (H := H4) (a := cu) (o := .lst [])) nwa
        have nwa4 : H4 wa = none := by
          rw [upd_ne ncw.symm] at nwa
          exact nwa
        generalize upd (upd H4 cu (.lst [])) wa (.lst []) = H5 at m12 hcu hwa ⊢
        obtain ⟨rv5, hrv5, lrv5, _⟩ := id (hR4.tl (TL.of m12))
        refine ⟨_, rfl, a1, _, rfl, .inr (SqT.of hrv5), rv5.length, rfl, by omega, by omega, for_range (lo := 0) (n := rv5.length) (fun i σ' H' => ∃ (y7 y8 : Option V) (ws : List Addr) (zs : List (Nat × Nat)),
          σ' = [some (.ref p), some (.ref l), some (.ref a1), some (.ref fa), some (.ref cu), some (.ref wa), some (.int (lastB 0 zs : Nat)), y7, y8, none, none] ∧ H' cu = some (.lst (natV (zs.map (·.1)))) ∧ H' wa = some (.lst (ws.map V.ref)) ∧ WysAt H' ws (wys 0 zs) ∧
          Gr R' (freeB R') op pu ch i zs ∧ Same H4 H') ⟨none, none, [], [], rfl, hcu, hwa, ⟨rfl, fun k a j e => by rw [List.getElem?_nil] at e; cases e⟩, Gr.nil (by omega) (hf 0 (by omega) (.inl rfl)), m12⟩ (fun i σ' H6 hi hP => ?_) (fun σ' H6 hP => ?_)⟩
        · obtain ⟨y7, y8, ws, zs, rfl, hcu, hwa, hws, gr, sm⟩ := hP
          rw [Int.zero_add]
          have lb := gr.le
          have lz := gr.len
          have lws : ws.length = zs.length := by rw [hws.1, wys_len]
          have gs := fun h => gr.some (i := i) (by omega) hf h
          have gl := fun h => gr.light (i := i) h
          have gh := fun c h => gr.heavy (i := i) (c := c) (by omega) hf h
          have hR6 := hR4.tl (TL.of sm)
          have hl6 := hl4.sm sm
          have hfa6 := sm _ _ hfa4
          generalize eb : lastB 0 zs = b at lb gs gl gh ⊢
          refine ⟨_, rfl, _, rfl, _, _, rfl, rfl, _, _, rfl, rfl, RgOk.of_le (by omega) (by omega) (by omega) (by omega), fun wt nwt => ?_⟩
          have er : rgV (b : Int) ((i : Int) + 1) = natV (List.range' b (i + 1 - b)) := rg_nat b (i + 1)
          have m7 := same_new (o := .tup (rgV (b : Int) ((i : Int) + 1))) nwt
          have hwt := upd_same (H := H6) (a := wt) (o := .tup (rgV (b : Int) ((i : Int) + 1)))
          have hcu7 := m7 _ _ hcu
          have hwa7 := m7 _ _ hwa
          have hws7 := hws.tl (TL.of m7)
          have sm7 := sm.trans m7
          have hR7 := hR6.tl (TL.of m7)
          have hl7 := hl6.sm m7
          have hfa7 := m7 _ _ hfa6
          generalize upd H6 wt (.tup (rgV (b : Int) ((i : Int) + 1))) = H7 at hwt hcu7 hwa7 hws7 sm7 hR7 hl7 hfa7 ⊢
          rw [er] at hwt
          refine ⟨_, rfl, _, rfl, _, rfl, a1, l, wt, ch, op, pu, R', List.range' b (i + 1 - b), rfl, hR7, rs, hl7, hwt, fun j hj => ?_, by rw [List.length_range']; omega, fun H8 s8 => ⟨_, rfl, ?_⟩⟩
          · rw [List.mem_range'_1] at hj
            omega
          · have hcu8 := s8 _ _ hcu7
            have hwa8 := s8 _ _ hwa7
            have hws8 := hws7.tl (TL.of s8)
            have hwt8 := s8 _ _ hwt
            have sm8 := sm7.trans s8
            have hfa8 := s8 _ _ hfa7
            clear hcu hwa hws hcu7 hwa7 hws7 hwt sm sm7 hR6 hR7 hl6 hl7 hfa6 hfa7 m7 s8
            refine ite2 (fun c => ?_) (fun c => ?_)
            · have heavy : ch < op + (wkR R' b (i + 1) : Nat) + pu := of_decide_eq_true c
              refine ⟨_, rfl, .inl ⟨rfl, _, SqL.of hwa8⟩, _, rfl, wa, _, _, rfl, rfl, hwa8, szt (by rw [List.length_map]; omega), ?_⟩
              have ku : Kp (Is wa) H8 (upd H8 wa (.lst (ws.map V.ref ++ [.ref wt]))) := Kp.upd rfl hwa8 lst_ne_tup
              have hwa9 := upd_same (H := H8) (a := wa) (o := .lst (ws.map V.ref ++ [.ref wt]))
              have hcu9 : upd H8 wa (.lst (ws.map V.ref ++ [.ref wt])) cu = _ := (upd_ne ncw).trans hcu8
              have hws9 := (hws8.tl ku.t).snoc (ku.t _ _ hwt8)
              have hfa9 := ku.t _ _ hfa8
              have sm9 := Same.mut (o := .lst (ws.map V.ref ++ [.ref wt])) sm8 nwa4
              generalize upd H8 wa (.lst (ws.map V.ref ++ [.ref wt])) = H9 at hwa9 hcu9 hws9 hfa9 sm9 ⊢
              refine ⟨_, rfl, fa, rfl, ⟨_, SqT.of hfa9⟩, fun D nD => ?_⟩
              refine lc_tup (fun j H' => H' D = some (.lst ((((fr R').take j).filter fun z => decide ((b : Int) < z) && decide (z ≤ (i : Int))).map V.int)) ∧ Same H9 H') ⟨upd_same, same_new nD⟩ (fun j H' _ hP => SqT.of (hP.2 _ _ hfa9)) (fun j v H' hj hP => ?_) (fun H10 hP => ?_)
              · obtain ⟨hD, sm⟩ := hP
                obtain ⟨z, hz, rfl⟩ : ∃ z, (fr R')[j]? = some z ∧ v = V.int z := by
                  rw [List.getElem?_map] at hj
                  cases hz : (fr R')[j]? with
                  | none => rw [hz] at hj; cases hj
                  | some z => rw [hz] at hj; exact ⟨z, rfl, (Option.some.inj hj).symm⟩
                have tk : ((fr R').take (j + 1)).filter (fun z => decide ((b : Int) < z) && decide (z ≤ (i : Int))) = ((fr R').take j).filter (fun z => decide ((b : Int) < z) && decide (z ≤ (i : Int))) ++ if (decide ((b : Int) < z) && decide (z ≤ (i : Int))) = true then [z] else [] := by
                  rw [List.take_add_one, hz, List.filter_append]
                  congr 1
                  simp [List.filter_cons]
                have lf : (((fr R').take j).filter fun z => decide ((b : Int) < z) && decide (z ≤ (i : Int))).length ≤ 60 := by
                  have h1 := List.length_filter_le (fun z => decide ((b : Int) < z) && decide (z ≤ (i : Int))) ((fr R').take j)
                  have h2 : (fr R').length ≤ R'.length := plc_len
                  rw [List.length_take] at h1
                  omega
                refine ⟨rfl, _, rfl, _, rfl, _, _, rfl, rfl, _, rfl, ite2 (fun c1 => ?_) (fun c1 => ?_)⟩
                · refine ⟨_, rfl, _, _, rfl, rfl, _, rfl, ite2 (fun c2 => ?_) (fun c2 => ?_)⟩
                  · refine ⟨_, rfl, _, hD, szt (by rw [List.length_map]; omega), ?_, Same.mut (H := H9) sm nD⟩
                    rw [upd_same, tk, c1, c2, List.map_append]
                    rfl
                  · refine ⟨?_, sm⟩
                    rw [tk, c1, if_neg (by simpa using c2), List.append_nil]
                    exact hD
                · have fin : H' D = some (.lst ((((fr R').take (j + 1)).filter fun z => decide ((b : Int) < z) && decide (z ≤ (i : Int))).map V.int)) ∧ Same H9 H' := by
                    refine ⟨?_, sm⟩
                    rw [tk, if_neg (fun h => c1 (Bool.and_eq_true_iff.mp h).1), List.append_nil]
                    exact hD
                  exact ⟨_, rfl, fin⟩
              · obtain ⟨hD, s10⟩ := hP
                rw [List.length_map, List.take_length] at hD
                obtain ⟨k, k1, k2, k3⟩ := gs heavy
                have lk : k < R'.length := by omega
                have inn : ∀ k : Nat, b < k → k ≤ i → freeB R' k = true → (k : Int) ∈ (fr R').filter fun z => decide ((b : Int) < z) && decide (z ≤ (i : Int)) := fun k h1 h2 h3 => by
                  refine List.mem_filter.mpr ⟨?_, ?_⟩
                  · unfold fr
                    exact plc_mem.mpr ⟨k, by omega, h3, rfl⟩
                  · rw [decide_eq_true (show (b : Int) < k by omega), decide_eq_true (show (k : Int) ≤ i by omega)]
                    rfl
                refine ⟨D, _, rfl, SqL.of hD, List.length_pos_of_mem (inn k k1 k2 k3), fun m hm hle => ?_⟩
                obtain ⟨hm1, hm2⟩ := List.mem_filter.mp hm
                unfold fr at hm1
                obtain ⟨c', hc1, hc2, rfl⟩ := plc_mem.mp hm1
                obtain ⟨hc3, hc4⟩ := Bool.and_eq_true_iff.mp hm2
                have hc3 : b < c' := by have := of_decide_eq_true hc3; omega
                have hc4 : c' ≤ i := by have := of_decide_eq_true hc4; omega
                have gr2 := gh c' heavy hc3 hc4 hc2 fun k h1 h2 h3 => by
                  have := hle _ (inn k h1 h2 h3)
                  omega
                have hcu10 := s10 _ _ hcu9
                have hwa10 := s10 _ _ hwa9
                have hws10 := hws9.tl (TL.of s10)
                have sm10 := sm9.trans s10
                refine ⟨_, rfl, .inl ⟨rfl, _, SqL.of hcu10⟩, _, rfl, cu, _, _, rfl, rfl, hcu10, szt (by unfold natV; rw [List.length_map, List.length_map]; omega), ?_⟩
                have kc : Kp (Is cu) H10 (upd H10 cu (.lst (natV (zs.map (·.1)) ++ [.int (c' : Nat)]))) := Kp.upd rfl hcu10 lst_ne_tup
                refine ⟨some (.int (i : Nat)), some (.ref wt), ws ++ [wt], zs ++ [(c', i)], ?_, ?_, ?_, ?_, gr2, Same.mut (H := H4) sm10 ncu⟩
                · rw [lastB_snoc]
                  rfl
                · rw [upd_same]
                  unfold natV
                  rw [List.map_append, List.map_append]
                  rfl
                · rw [upd_ne ncw.symm, hwa10, List.map_append]
                  rfl
                · rw [wys_snoc, eb]
                  exact hws10.tl kc.t
            · have light : op + (wkR R' b (i + 1) : Nat) + pu ≤ ch := by
                have h1 : ¬ (ch < op + (wkR R' b (i + 1) : Nat) + pu) := fun h => c (decide_eq_true h)
                omega
              rw [← eb]
              exact ⟨_, _, ws, zs, rfl, hcu8, hwa8, hws8, gl light, sm8⟩
        · obtain ⟨y7, y8, ws, zs, rfl, hcu, hwa, hws, gr, sm⟩ := hP
          rw [lrv5] at gr
          refine ⟨_, rfl, cu, _, rfl, .inl ⟨SqL.of hcu, fun ct nct => ?_⟩⟩
          have m7 := same_new (o := .tup (natV (zs.map (·.1)))) nct
          refine ⟨_, rfl, wa, _, rfl, .inl ⟨SqL.of (m7 _ _ hwa), fun wp nwp => ⟨(by show 2 ≤ sizeLine; decide), fun t nt => ?_⟩⟩⟩
          have m8 := same_new (o := .tup (ws.map V.ref)) nwp
          have m9 := same_new (o := .tup [.ref ct, .ref wp]) nt
          have m79 := m7.trans (m8.trans m9)
          have s49 := sm.trans m79
          exact q1 fit t zs _ (e14.trans (LamX.ExtN.of s49)) (tb4.ext s49) gr.done ⟨ct, wp, ws, upd_same, (m8.trans m9) _ _ upd_same, m9 _ _ upd_same, hws.tl (TL.of m79)⟩
end
end K36
namespace K36
open PySem PySem.Spec PyProof.Rows L2
/-! ### a program with a choice or a round -/
def S1.isIf : S1 → Prop
  | .pl _ => False
  | _ => True
theorem IfHd.hds {H : Hp} {y : V} (h : IfHd H y) : HdS H y := by
  obtain ⟨a, tl, e, h⟩ := h
  exact ⟨a, "if", tl, e, h⟩
theorem OutS.hds {H : Hp} {s : S1} {fol : Int} {ys : List V} (h : OutS H s fol ys) : ∀ y ∈ ys, HdS H y := by
  cases s with
  | pl r =>
    obtain ⟨y, rfl, h⟩ := h
    intro z hz
    rw [List.mem_singleton.mp hz]
    exact h.hd
  | ife =>
    obtain ⟨y, rfl, h⟩ := h
    intro z hz
    rw [List.mem_singleton.mp hz]
    exact h.hds
  | whe =>
    obtain ⟨y, rfl, h⟩ := h
    intro z hz
    rw [List.mem_singleton.mp hz]
    exact h.hds
  | wht r =>
    obtain ⟨y, y2, rfl, h, h2⟩ := h
    intro z hz
    rcases List.mem_cons.mp hz with e | e
    · rw [e]
      exact h.hds
    · rw [List.mem_singleton.mp e]
      exact h2
theorem OutS.ifh {H : Hp} {s : S1} {fol : Int} {ys : List V} (h : OutS H s fol ys) (i : s.isIf) : ∃ y ∈ ys, IfHd H y := by
  cases s with
  | pl r => exact i.elim
  | ife =>
    obtain ⟨y, rfl, h⟩ := h
    exact ⟨y, List.mem_cons_self, h⟩
  | whe =>
    obtain ⟨y, rfl, h⟩ := h
    exact ⟨y, List.mem_cons_self, h⟩
  | wht r =>
    obtain ⟨y, y2, rfl, h, h2⟩ := h
    exact ⟨y, List.mem_cons_self, h⟩
theorem HdAt.tl {K : PySem.W.Frag} {H H' : Hp} {h : Addr} {kvs : List (Key × V)} (x : TL H H') (a : HdAt K H h kvs) : HdAt K H' h kvs := by
  obtain ⟨o, ps, h1, h2, h3⟩ := a.ex
  exact ⟨o, ps, x.f _ _ _ h1, h2, Paired.mapP h3 fun _ _ z => x _ _ z⟩
def FkAt (K : PySem.W.Frag) (H : Hp) (p : Addr) : Prop := ∃ (g h b : Addr) (kvs : List (Key × V)) (xs : List V) (gs : List Sg), H p = some (.tup [.ref g, .ref h, .ref b]) ∧ HdAt K H h kvs ∧ H b = some (.tup xs) ∧ xs.length ≤ 100 ∧
  (∀ hd H', TL H H' → H' hd = some (.dK (mergeK [] kvs)) → GsAt H' hd gs xs) ∧ lgs (gs.flatMap Sg.fl) ≤ 59 ∧ ∃ s ∈ gs.flatMap Sg.fl, s.isIf
theorem FkAt.tl {K : PySem.W.Frag} {H H' : Hp} {p : Addr} (x : TL H H') (a : FkAt K H p) : FkAt K H' p := by
  obtain ⟨g, h, b, kvs, xs, gs, h1, h2, h3, h4, h5, h6⟩ := a
  exact ⟨g, h, b, kvs, xs, gs, x _ _ h1, h2.tl x, x _ _ h3, h4, fun hd H2 y => h5 hd H2 (x.trans y), h6⟩
def spFewestF (K : PySem.W.Frag) : Sp := fun vs H _ E => ∃ (p l : Addr), vs = [.ref p, .ref l] ∧ FkAt K H p ∧ ∀ H', Same H H' → E (.ref (He.ga K "NotStraight")) none H'
section
variable {P : Program} {w : World} {K : PySem.W.Frag} {mg : Str → Option Value} {base : Heap} {TT : TbS}
theorem ok_fewestF (T : Bi mg) (XF : ExcF K mg "NotStraight") (a0 : At K mg "fewest" sFewest pFewest) (cRowsOf : Cal P w K mg base CX0 "rows_of" 11 pRowsOf (spRowsOf K)) (cFinest : Cal P w K mg base CX0 "finest" 4 pFinest spFreeT)
    (cFitIn : Cal P w K mg base CX0 "fit_in" 11 pFitIn (spFit K TT)) (cTooHeavy : Cal P w K mg base CX0 "too_heavy" 9 pTooHeavy (spTooHeavy K)) :
    Cal P w K mg base (L2.CX P w) "fewest" 12 pFewest (spFewestF K) := by
  refine Cal.ofX a0 scFewest (fun vs H Q E h => ?_) (fun f cdv A outer s H vs Q E hr h => ?_)
  · obtain ⟨p, l, rfl, _⟩ := h
    rfl
  · obtain ⟨p, l, rfl, ⟨g, h, b, kvs, xs, gs, hp, hh, hb, lx, hg, lg, s0, hs0, is0⟩, q⟩ := h
    refine ⟨_, (pss_cons (ps_set (i := 2) scFewest.nd rfl (.inl rfl) (pe_c cRowsOf hr pass0 (pa_cons (pv 0) pa_nil))) -- rows = rows_of(program)
      (pss_cons (ps_if (pt_val (pe_callB (cr_any rfl) (by rfl) T.any bo_any (pa_cons (pe_lc (own := [("row", 9)]) (g := gName 9) rfl scFewest.nd (pi_tup (pv 2)) (blkOk_by (own := [("row", 9)]) (N := nFewest) (sc := defScope sFewest) (by decide +kernel)) (fun _ _ _ _ _ => (pg_name (i := 9) scFewest.nd rfl (.inl rfl))) (fun _ _ _ _ _ => pts_nil) (fun _ _ _ _ _ => (pe_cmpR op_eq (pe_ix (ixT (K := K) rfl) (pv 9) pe_int (fun _ _ => rfl)) pe_str (nomark _)))) pa_nil)))
        (pss_one (ps_raise rfl (takes_of rfl rfl rfl rfl) (pmk_own0 PySem.F.excBase_ValueError XF.q XF.g XF.k (raises_own XF.s XF.t) rfl)))
        pss_nil) -- if any([row[0] == 'if' for row in rows]):
      (pss_cons (ps_set (i := 3) scFewest.nd rfl (.inl rfl) (pe_c cFinest hr pass0 (pa_cons (pv 2) pa_nil))) -- free = finest(rows)
      (pss_cons (ps_if (pt_not (pt_val (pe_c cFitIn hr pass0 (pa_cons (pv 2) (pa_cons (pv 1) (pa_cons (pv 3) pa_nil))))))
        (pss_one ps_never/-NoFit-/)
        pss_nil) -- if not fit_in(rows, limits, free):
      (pss_cons (ps_set (i := 4) scFewest.nd rfl (.inl rfl) (pe_lst pa_nil)) -- cuts = []
      (pss_cons (ps_set (i := 5) scFewest.nd rfl (.inl rfl) (pe_lst pa_nil)) -- ways = []
      (pss_cons (ps_set (i := 6) scFewest.nd rfl (.inr rfl) pe_int) -- begin = 0
      (pss_cons (ps_for (passes_of rfl) rfl (pi_range1 (by rfl) T.range (pa_cons (pe_callB call_len_seq (by rfl) T.len bo_len (pa_cons (pv 2) pa_nil)) pa_nil)) (pg_name (i := 7) scFewest.nd rfl (.inr rfl))
        (pss_cons (ps_set (i := 8) scFewest.nd rfl (.inl rfl) (pe_tupRg rfl (by rfl) T.tuple (prg_2 (by rfl) T.range (pv 6) (pe_op op_add (pv 7) pe_int)))) -- way = tuple(range(begin, at + 1))
        (pss_one (ps_if (pt_val (pe_c cTooHeavy hr pass0 (pa_cons (pv 2) (pa_cons (pv 1) (pa_cons (pv 8) pa_nil)))))
          (pss_cons (ps_expr (pe_bm PySem.F.plainAttrs_list PySem.F.slot_list_append PySem.F.type_list_append mt_append (pv 5) (pa_cons (pv 8) pa_nil))) -- ways.append(way)
          (pss_cons (ps_set (i := 6) scFewest.nd rfl (.inr rfl) (pe_callB (cr_max rfl) (by rfl) T.max bo_max (pa_cons (pe_lc (own := [("k", 10)]) (g := gName 10) rfl scFewest.nd (pi_tup (pv 3)) (blkOk_by (own := [("k", 10)]) (N := nFewest) (sc := defScope sFewest) (by decide +kernel)) (fun _ _ _ _ _ => (pg_name (i := 10) scFewest.nd rfl (.inl rfl))) (fun _ _ _ _ _ => (pts_one (pt_chain op_lt op_le (pv 6) (pv 10) (pv 7)))) (fun _ _ _ _ _ => (pv 10))) pa_nil))) -- begin = max([k for k in free if begin < k <= at])
          (pss_one (ps_expr (pe_bm PySem.F.plainAttrs_list PySem.F.slot_list_append PySem.F.type_list_append mt_append (pv 4) (pa_cons (pv 6) pa_nil))))))
          pss_nil)))) -- for at in range(len(rows)):
      (pss_one (ps_ret (pe_tup (pa_cons (pe_callTy call_tuple_of (by rfl) T.tuple bo_tuple (pa_cons (pv 4) pa_nil)) (pa_cons (pe_callTy call_tuple_of (by rfl) T.tuple bo_tuple (pa_cons (pv 5) pa_nil)) pa_nil))))))))))))), ?_⟩
    refine ⟨_, rfl, p, g, h, b, kvs, xs, gs, rfl, hp, hh, hb, lx, fun hd H' s' e => hg hd H' (TL.of s') e, lg, fun a1 e1 H1 outs s1 ha1 he1 lo ho => ?_⟩
    have lss := lgs_ge (gs.flatMap Sg.fl)
    have lof : outs.flatten.length = lgs (gs.flatMap Sg.fl) := by
      have := outs_lg (by omega) ho
      rw [lo, List.take_length] at this
      exact this
    -- each row has a word; one has «if»
    have hds : ∀ v ∈ outs.flatten ++ [V.ref e1], HdS H1 v := fun v hv => by
      rcases List.mem_append.mp hv with z | z
      · obtain ⟨o, z1, z2⟩ := List.mem_flatten.mp z
        obtain ⟨k, hk, e⟩ := List.mem_iff_getElem.mp z1
        have eo : outs[k]? = some o := by rw [List.getElem?_eq_getElem hk, e]
        have es : (gs.flatMap Sg.fl)[k]? = some ((gs.flatMap Sg.fl)[k]'(by omega)) := List.getElem?_eq_getElem (by omega)
        exact (ho k _ o es eo).hds v z2
      · rw [List.mem_singleton.mp z]
        exact ⟨e1, "end", [], rfl, he1⟩
    obtain ⟨i0, v0, hi0, hv0⟩ : ∃ (i0 : Nat) (v0 : V), (outs.flatten ++ [V.ref e1])[i0]? = some v0 ∧ IfHd H1 v0 := by
      obtain ⟨k, hk, e⟩ := List.mem_iff_getElem.mp hs0
      have es : (gs.flatMap Sg.fl)[k]? = some s0 := by rw [List.getElem?_eq_getElem hk, e]
      have eo : outs[k]? = some (outs[k]'(by omega)) := List.getElem?_eq_getElem (by omega)
      obtain ⟨y, hy, hi⟩ := (ho k s0 _ es eo).ifh is0
      have my : y ∈ outs.flatten ++ [V.ref e1] := List.mem_append_left _ (List.mem_flatten.mpr ⟨_, List.mem_of_getElem? eo, hy⟩)
      obtain ⟨i, hi1, hi2⟩ := List.mem_iff_getElem.mp my
      exact ⟨i, y, by rw [List.getElem?_eq_getElem hi1, hi2], hi⟩
    have lv : (outs.flatten ++ [V.ref e1]).length ≤ 60 := by
      rw [List.length_append, List.length_singleton]
      omega
    generalize outs.flatten ++ [V.ref e1] = vs at ha1 hds hi0 lv
    clear ho lo lof lss
    refine ⟨_, rfl, a1, rfl, ⟨_, SqT.of ha1⟩, fun D nD => ?_⟩
    refine lc_tup (fun j H' => ∃ bs : List Bool, bs.length = j ∧ H' D = some (.lst (bs.map V.bl)) ∧ (∀ (i : Nat) (v : V), i < j → vs[i]? = some v → IfHd H1 v → bs[i]? = some true) ∧ Same H1 H') ⟨[], rfl, upd_same, fun i v h => absurd h (Nat.not_lt_zero i), same_new nD⟩ (fun j H' _ hP => by obtain ⟨_, _, _, _, s⟩ := hP; exact SqT.of (s _ _ ha1)) (fun j v H' hj hP => ?_) (fun H2 hP => ?_)
    · obtain ⟨bs, lb, hD, hbs, sm⟩ := hP
      have lj := (List.getElem?_eq_some_iff.mp hj).1
      obtain ⟨ra, wd, tl, rfl, hra⟩ := hds v (List.mem_of_getElem? hj)
      refine ⟨rfl, _, rfl, ra, _, _, _, rfl, rfl, SqT.of (sm _ _ hra), at_nat (j := 0) rfl rfl, rfl, _, hD, szt (by rw [List.length_map]; omega), bs ++ [decide (V.str wd = V.str "if")], by rw [List.length_append, List.length_singleton, lb], by rw [upd_same, List.map_append]; rfl, fun i v hi hv hif => ?_, Same.mut (H := H1) sm nD⟩
      by_cases c : i < j
      · rw [List.getElem?_append_left (by omega)]
        exact hbs i v c hv hif
      · have ei : i = j := by omega
        subst ei
        rw [List.getElem?_append_right (by omega), lb, Nat.sub_self]
        rw [hj] at hv
        obtain ⟨a', tl', e2, h2⟩ := hif
        rw [← Option.some.inj hv] at e2
        have e3 : ra = a' := V.ref.inj e2
        rw [← e3, hra] at h2
        have e4 := (List.cons.inj (HO.tup.inj (Option.some.inj h2))).1
        rw [e4]
        exact congrArg some (decide_eq_true rfl)
    · obtain ⟨bs, lb, hD, hbs, sm⟩ := hP
      have an : bs.any id = true := List.any_eq_true.mpr ⟨true, List.mem_of_getElem? (hbs i0 v0 (List.getElem?_eq_some_iff.mp hi0).1 hi0 hv0), rfl⟩
      refine ⟨D, bs, rfl, SqL.of hD, _, rfl, ite2 (fun _ => ?_) (fun c => absurd an c)⟩
      exact q H2 (s1.trans sm)
end
end K36
namespace K36
open PySem PySem.Spec PyProof.Rows L2
/-! ### what is told of limits -/
theorem pss_when {X : Cx} {ss : List Stmt} {t : TS} {p : Prop} (h : p → PSs X ss t) : PSs X ss (fun D σ H => p ∧ t D σ H) := ⟨fun pins s σ H D I q => (h q.1).run pins s σ H D I q.2⟩
section
variable {X : Cx} {CX : CXT} {k j : Nat} {ps : List Str} {sp : Sp} {E : L2.St → XK} {x : Str} {p pos : Pos} {e : Expr} {es : List Expr} {t : TA}
/-- f(e, ..) within a try -/
theorem pe_cS (c : Cal X.prog X.w X.K X.mg X.base CX x j ps sp) (hr : Room k X.A) (hx : ∀ σ, PassesAt CX X σ (E σ)) (ha : PA X (e :: es) t) (hj : j ≤ k := by first | decide | omega) (hg : Gl X x := by rfl)
    (hdb : (x == ("__debug__" : Str)) = false := by decide) (he : starEach (e :: es) X.env = (false, eval e X.env) :: starEach es X.env := by rfl) (hpl : (backTo pos (starEach es X.env)).any (·.1) = false := by rfl) :
    PE X (.Call (.Name x p) (e :: es) [] pos) (tCallS sp E t) := by
  obtain ⟨f, fd, h1, h2, h3, h4⟩ := c.ex
  exact pe_callS h4 (hr.mono hj) hg h1 h2 h3 hx ha hdb he hpl
end
section
variable {X : Cx} {K : PySem.W.Frag} {CX : CXT} {k j : Nat} {ps : List Str} {sp : Sp} {E : XK} {C : Str} {p pos : Pos} {e : Expr} {es : List Expr} {t : TA}
/-- C(e, ..), told by K -/
theorem pe_kK (h : X.K = K) (c : KCal X.prog X.w K X.mg X.base CX C j ps sp) (hr : Room k X.A) (hx : Passes CX X E) (ha : PA X (e :: es) t) (hj : j + 1 ≤ k := by first | decide | omega) (hg : Gl X C := by rfl)
    (hdb : (C == ("__debug__" : Str)) = false := by decide) (he : starEach (e :: es) X.env = (false, eval e X.env) :: starEach es X.env := by rfl) (hpl : (backTo pos (starEach es X.env)).any (·.1) = false := by rfl) :
    PE X (.Call (.Name C p) (e :: es) [] pos) (tMake (He.ga K C) sp [] E t) := by
  subst h
  exact pe_k c hr hx ha hj hg hdb he hpl
end
/-- the two classes, held against one another -/
structure ExcP (K : PySem.W.Frag) (mg : Str → Option Value) : Prop where
  nf : ExcF K mg "NoFit"
  ns : ExcF K mg "NotStraight"
  fe : mg "FitError" = some (.ref (He.ga K "FitError"))
  ff : PySem.W.exmOne K (.ref (He.ga K "NoFit")) (.ref (He.ga K "NoFit")) = some true
  sf : PySem.W.exmOne K (.ref (He.ga K "NotStraight")) (.ref (He.ga K "NoFit")) = some false
  ss : PySem.W.exmOne K (.ref (He.ga K "NotStraight")) (.ref (He.ga K "NotStraight")) = some true
  cf : ExcC K (He.ga K "NoFit")
  cs : ExcC K (He.ga K "NotStraight")
  kf : PySem.W.kitOne K (.ref (He.ga K "NoFit")) (.ref (He.ga K "NotStraight")) = some false
  ks : PySem.W.kitOne K (.ref (He.ga K "NotStraight")) (.ref (He.ga K "NoFit")) = some false
def spToldS (TT : TbS) : Sp := fun vs H Q _ => ∃ (p m : Addr) (ch op pu : Int) (R : List Rw), vs = [.ref p, .ref m] ∧ PgAt H p R ∧ H m = some (.tup [.int ch, .int op, .int pu]) ∧ LamX.Tabs TT H ∧
  (fitB (R ++ [.fin]) op pu ch = true → ∀ (r t : Addr) (zs : List (Nat × Nat)) (H' : Hp), Ex H H' → LamX.Tabs TT H' → Gd (R ++ [.fin]) (freeB (R ++ [.fin])) op pu ch 0 zs → ToldAt H' t zs → H' r = some (.tup [.str "told", .ref t]) → Q (.ref r) H') ∧
  (fitB (R ++ [.fin]) op pu ch = false → ∀ (r : Addr) (H' : Hp), Ex H H' → LamX.Tabs TT H' → H' r = some (.tup [.str "none", .bl false]) → Q (.ref r) H')
def spToldF (K : PySem.W.Frag) (TT : TbS) : Sp := fun vs H Q _ => ∃ (p m : Addr) (ch op pu : Int), vs = [.ref p, .ref m] ∧ FkAt K H p ∧ H m = some (.tup [.int ch, .int op, .int pu]) ∧ LamX.Tabs TT H ∧
  ∀ (r : Addr) (H' : Hp), Ex H H' → LamX.Tabs TT H' → H' r = some (.tup [.str "forked", .bl false]) → Q (.ref r) H'
section
variable {P : Program} {w : World} {K : PySem.W.Frag} {mg : Str → Option Value} {base : Heap} {TT : TbS}
-- _law_told (printed by gen.py); slots: 0 _law_program_here, 1 _law_limits, 2 _law_found, 3 e
abbrev nLTold : List Str := ["_law_program_here", "_law_limits", "_law_found", "e"]
abbrev pLTold : List Str := ["_law_program_here", "_law_limits"]
theorem scLTold : FnScope nLTold pLTold (defScope sLTold) := ⟨rfl, rfl, rfl, by decide +kernel, rfl, by decide +kernel, by decide +kernel⟩
theorem ok_toldS (T : Bi mg) (XP : ExcP K mg) (a0 : At K mg "_law_told" sLTold pLTold) (cFewest : Cal P w K mg base (L2.CX P w) "fewest" 12 pFewest (spFewestS K TT)) (cLimits : KCal P w K mg base CX0 "Limits" 1 pLimitsInit (spLimits K)) :
    Cal P w K mg base CX0 "_law_told" 13 pLTold (spToldS TT) := by
  refine Cal.of a0 scLTold (fun vs H Q E h => ?_) (fun f cdv A outer s H vs Q E hr h => ?_)
  · obtain ⟨p, m, ch, op, pu, R, rfl, _⟩ := h
    rfl
  · obtain ⟨p, m, ch, op, pu, R, rfl, hp, hm, tb, q1, q2⟩ := h
    refine ⟨_, pss_cons (ps_set (i := 2) scLTold.nd rfl (.inl rfl) (pe_tup (pa_cons pe_str pa_nil)))
      (pss_cons (ps_try_cl rfl rfl scLTold.nd LamX.takes0
        (fun W pn xe tk _ => pss_one (ps_set (i := 2) scLTold.nd rfl (.inl rfl) (pe_tup (pa_cons pe_str (pa_cons (pe_cS cFewest hr (fun σ => passAt tk σ) (pa_cons (pv 0) (pa_cons (pe_kK (K := K) rfl cLimits hr pass0 (pa_cons (pe_ix (ixT (K := K) rfl) (pv 1) pe_int (fun _ _ => rfl)) (pa_cons (pe_ix (ixT (K := K) rfl) (pv 1) pe_int (fun _ _ => rfl)) (pa_cons (pe_ix (ixT (K := K) rfl) (pv 1) pe_int (fun _ _ => rfl)) pa_nil)))) pa_nil))) pa_nil)))))
        (.named ⟨rfl, by decide, .inl XP.nf.g⟩ (i := 3) rfl rfl (fun a oe cls d pn hz hf => pss_when (p := cls = .ref (He.ga K "NoFit") ∧ d = none) fun e => by
            obtain ⟨rfl, rfl⟩ := e
            exact pss_one (ps_set (i := 2) scLTold.nd rfl (.inl rfl) (pe_tup (pa_cons pe_str (pa_cons (pe_callB (call_isE XP.cf hz hf) (by rfl) T.isinstance bo_isinstance (pa_cons (pv 3) (pa_cons (pe_glob (v := .ref (He.ga K "NotStraight")) rfl XP.ns.g rfl) pa_nil))) pa_nil)))))
          (.named ⟨rfl, by decide, .inl XP.ns.g⟩ (i := 3) rfl rfl (fun a oe cls d pn hz hf => pss_one ps_never)
            (.plain ⟨rfl, by decide, .inl XP.fe⟩ (fun a oe cls d pn hz hf => pss_one ps_never) .nil))))
      (pss_one (ps_ret (pv 2)))), ?_⟩
    refine ⟨(by show 1 ≤ sizeLine; decide), fun o1 no1 => ?_⟩
    have m1 := same_new (o := .tup [.str "other"]) no1
    have hm1 := m1 _ _ hm
    have hp1 := hp.tl (TL.of m1)
    have tb1 := tb.ext m1
    generalize upd H o1 (.tup [.str "other"]) = H1 at m1 hm1 hp1 tb1 ⊢
    refine ⟨_, rfl, _, rfl, m, _, _, _, rfl, rfl, SqT.of hm1, at_nat (j := 0) rfl rfl, _, rfl, m, _, _, _, rfl, rfl, SqT.of hm1, at_nat (j := 1) rfl rfl, _, rfl, m, _, _, _, rfl, rfl, SqT.of hm1, at_nat (j := 2) rfl rfl, fun l dx nl ndx nex => ?_⟩
    have s0 := (same_new (o := .own l) ndx).trans (same_new (o := .ins (He.ga K "Limits") dx []) (show upd H1 dx (.own l) l = none by rw [upd_ne nex.symm]; exact nl))
    refine ⟨l, dx, ch, op, pu, rfl, upd_same, fun H2 eq lim => ⟨rfl, ?_⟩⟩
    have s2 : Same H1 H2 := fun c o e => by
      rw [eq c (ne_of_none e nl)]
      exact s0 _ _ e
    have s02 := m1.trans s2
    refine ⟨p, l, ch, op, pu, R, rfl, hp1.tl (TL.of s2), lim, tb1.ext s2, fun fit t zs H3 e3 tb3 gd td => ?_, fun nf H3 e3 tb3 => ?_⟩
    · refine ⟨(by show 2 ≤ sizeLine; decide), fun r nr => ⟨_, rfl, ?_⟩⟩
      have m4 := same_new (o := .tup [.str "told", .ref t]) nr
      obtain ⟨c, wp, ws, h1, h2, h3, h4⟩ := td
      exact q1 fit r t zs _ ((LamX.ExtN.of s02).trans (e3.trans (LamX.ExtN.of m4))) (tb3.ext m4) gd ⟨c, wp, ws, m4 _ _ h1, m4 _ _ h2, m4 _ _ h3, h4.tl (TL.of m4)⟩ upd_same
    · refine ⟨true, XP.ff, fun _ a na => ⟨⟨rfl, rfl⟩, ?_⟩, (fun e => nomatch e)⟩
      refine ⟨_, rfl, .ref (He.ga K "NotStraight"), .ref (He.ga K "NotStraight"), false, rfl, fun u h => h, XP.kf, (by show 2 ≤ sizeLine; decide), fun r nr => ⟨_, rfl, ?_⟩⟩
      have m4 := same_new (o := .tup [.str "none", .bl false]) nr
      exact q2 nf r _ ((LamX.ExtN.of s02).trans (e3.trans (LamX.ExtN.of m4))) (tb3.ext m4) upd_same
theorem ok_toldF (T : Bi mg) (XP : ExcP K mg) (a0 : At K mg "_law_told" sLTold pLTold) (cFewest : Cal P w K mg base (L2.CX P w) "fewest" 12 pFewest (spFewestF K)) (cLimits : KCal P w K mg base CX0 "Limits" 1 pLimitsInit (spLimits K)) :
    Cal P w K mg base CX0 "_law_told" 13 pLTold (spToldF K TT) := by
  refine Cal.of a0 scLTold (fun vs H Q E h => ?_) (fun f cdv A outer s H vs Q E hr h => ?_)
  · obtain ⟨p, m, ch, op, pu, rfl, _⟩ := h
    rfl
  · obtain ⟨p, m, ch, op, pu, rfl, hp, hm, tb, q⟩ := h
    refine ⟨_, pss_cons (ps_set (i := 2) scLTold.nd rfl (.inl rfl) (pe_tup (pa_cons pe_str pa_nil)))
      (pss_cons (ps_try_cl rfl rfl scLTold.nd LamX.takes0
        (fun W pn xe tk _ => pss_one (ps_set (i := 2) scLTold.nd rfl (.inl rfl) (pe_tup (pa_cons pe_str (pa_cons (pe_cS cFewest hr (fun σ => passAt tk σ) (pa_cons (pv 0) (pa_cons (pe_kK (K := K) rfl cLimits hr pass0 (pa_cons (pe_ix (ixT (K := K) rfl) (pv 1) pe_int (fun _ _ => rfl)) (pa_cons (pe_ix (ixT (K := K) rfl) (pv 1) pe_int (fun _ _ => rfl)) (pa_cons (pe_ix (ixT (K := K) rfl) (pv 1) pe_int (fun _ _ => rfl)) pa_nil)))) pa_nil))) pa_nil)))))
        (.named ⟨rfl, by decide, .inl XP.nf.g⟩ (i := 3) rfl rfl (fun a oe cls d pn hz hf => pss_one ps_never)
          (.named ⟨rfl, by decide, .inl XP.ns.g⟩ (i := 3) rfl rfl (fun a oe cls d pn hz hf => pss_when (p := cls = .ref (He.ga K "NotStraight") ∧ d = none) fun e => by
            obtain ⟨rfl, rfl⟩ := e
            exact pss_one (ps_set (i := 2) scLTold.nd rfl (.inl rfl) (pe_tup (pa_cons pe_str (pa_cons (pe_callB (call_isE XP.cs hz hf) (by rfl) T.isinstance bo_isinstance (pa_cons (pv 3) (pa_cons (pe_glob (v := .ref (He.ga K "NoFit")) rfl XP.nf.g rfl) pa_nil))) pa_nil)))))
            (.plain ⟨rfl, by decide, .inl XP.fe⟩ (fun a oe cls d pn hz hf => pss_one ps_never) .nil))))
      (pss_one (ps_ret (pv 2)))), ?_⟩
    refine ⟨(by show 1 ≤ sizeLine; decide), fun o1 no1 => ?_⟩
    have m1 := same_new (o := .tup [.str "other"]) no1
    have hm1 := m1 _ _ hm
    have hp1 := hp.tl (TL.of m1)
    have tb1 := tb.ext m1
    generalize upd H o1 (.tup [.str "other"]) = H1 at m1 hm1 hp1 tb1 ⊢
    refine ⟨_, rfl, _, rfl, m, _, _, _, rfl, rfl, SqT.of hm1, at_nat (j := 0) rfl rfl, _, rfl, m, _, _, _, rfl, rfl, SqT.of hm1, at_nat (j := 1) rfl rfl, _, rfl, m, _, _, _, rfl, rfl, SqT.of hm1, at_nat (j := 2) rfl rfl, fun l dx nl ndx nex => ?_⟩
    have s0 := (same_new (o := .own l) ndx).trans (same_new (o := .ins (He.ga K "Limits") dx []) (show upd H1 dx (.own l) l = none by rw [upd_ne nex.symm]; exact nl))
    refine ⟨l, dx, ch, op, pu, rfl, upd_same, fun H2 eq lim => ⟨rfl, ?_⟩⟩
    have s2 : Same H1 H2 := fun c o e => by
      rw [eq c (ne_of_none e nl)]
      exact s0 _ _ e
    have s02 := m1.trans s2
    refine ⟨p, l, rfl, hp1.tl (TL.of s2), fun H3 s3 => ?_⟩
    refine ⟨false, XP.sf, (fun e => nomatch e), fun _ => ⟨true, XP.ss, fun _ a na => ⟨⟨rfl, rfl⟩, ?_⟩, (fun e => nomatch e)⟩⟩
    refine ⟨_, rfl, .ref (He.ga K "NoFit"), .ref (He.ga K "NoFit"), false, rfl, fun u h => h, XP.ks, (by show 2 ≤ sizeLine; decide), fun r nr => ⟨_, rfl, ?_⟩⟩
    have m4 := same_new (o := .tup [.str "forked", .bl false]) nr
    have s4 := s02.trans (s3.trans m4)
    exact q r _ (LamX.ExtN.of s4) (tb.ext s4) upd_same
end
end K36
namespace K36
open PySem PySem.Spec PyProof.Rows L2
/-! ### the programs with a choice or a round -/
/-- what is put ahead or behind -/
def MoreAt (H : Hp) (f : Str) (hb : Addr) (v : V) : Prop := ∃ g : Sg, (∀ hd H', TL H H' → H' hd = some (.dK (mergeK [] [(Sum.inr f, .ref hb)])) → SgAt H' hd g v) ∧ lgs g.fl ≤ 4 ∧ ∃ s ∈ g.fl, s.isIf
theorem MoreAt.tl {H H' : Hp} {f : Str} {hb : Addr} {v : V} (x : TL H H') (h : MoreAt H f hb v) : MoreAt H' f hb v := by
  obtain ⟨g, h1, h2⟩ := h
  exact ⟨g, fun hd H2 y => h1 hd H2 (x.trans y), h2⟩
theorem GsAt.snoc {H : Hp} {hd : Addr} {gs : List Sg} {xs : List V} {g : Sg} {v : V} (h : GsAt H hd gs xs) (hv : SgAt H hd g v) : GsAt H hd (gs ++ [g]) (xs ++ [v]) := by
  refine ⟨by rw [List.length_append, List.length_append, h.1]; rfl, fun i g' v' e1 e2 => ?_⟩
  by_cases c : i < gs.length
  · rw [List.getElem?_append_left c] at e1
    rw [List.getElem?_append_left (by rw [h.1]; exact c)] at e2
    exact h.2 i g' v' e1 e2
  · have lk := (List.getElem?_eq_some_iff.mp e1).1
    rw [List.length_append, List.length_singleton] at lk
    have ei : i = gs.length := by omega
    subst ei
    rw [List.getElem?_append_right (Nat.le_refl _), Nat.sub_self] at e1
    rw [List.getElem?_append_right (by rw [h.1]; exact Nat.le_refl _), h.1, Nat.sub_self] at e2
    rw [← Option.some.inj e1, ← Option.some.inj e2]
    exact hv
theorem GsAt.cons {H : Hp} {hd : Addr} {gs : List Sg} {xs : List V} {g : Sg} {v : V} (h : GsAt H hd gs xs) (hv : SgAt H hd g v) : GsAt H hd ([g] ++ gs) ([v] ++ xs) := by
  refine ⟨congrArg Nat.succ h.1, fun i g' v' e1 e2 => ?_⟩
  cases i with
  | zero => rw [← Option.some.inj e1, ← Option.some.inj e2]; exact hv
  | succ i => exact h.2 i g' v' e1 e2
theorem StsAt.take {H : Hp} {xs : List V} {R : List Rw} (h : StsAt H xs R) (n : Nat) : StsAt H (xs.take n) (R.take n) := by
  refine ⟨by rw [List.length_take, List.length_take, h.1], fun i r e => ?_⟩
  have li := (List.getElem?_eq_some_iff.mp e).1
  rw [List.length_take] at li
  rw [List.getElem?_take_of_lt (by omega)] at e
  obtain ⟨v, h1, h2⟩ := h.2 i r e
  exact ⟨v, by rw [List.getElem?_take_of_lt (by omega)]; exact h1, h2⟩
/-- the program with it -/
theorem FkAt.mk {K : PySem.W.Frag} {H : Hp} {q g h b hb : Addr} {f : Str} {kp : Addr} {oh : Obj} {xs ws : List V} {R : List Rw} {v : V} (hq : H q = some (.tup [.ref g, .ref h, .ref b])) (hh : H h = some (.frz oh (.tup [.ref kp]))) (po : PlT oh) (hk : H kp = some (.tup [.str f, .ref hb]))
    (hS : StsAt H xs R) (nf : ∀ r ∈ R, r ≠ .fin) (lR : R.length ≤ 50) (hw : H b = some (.tup ws)) (ew : ws = xs ++ [v] ∨ ws = [v] ++ xs) (hm : MoreAt H f hb v) : FkAt K H q := by
  obtain ⟨mg, h1, h2, s, h3, h4⟩ := hm
  have lx : xs.length = R.length := hS.1
  rcases ew with rfl | rfl
  · refine ⟨g, h, b, [(Sum.inr f, .ref hb)], _, (R.map fun r => Sg.one (.pl r)) ++ [mg], hq, ⟨oh, [kp], hh, po, .cons hk .nil⟩, hw, by rw [List.length_append, List.length_singleton]; omega, fun hd H' x e => ((hS.tl x).gs nf).snoc (h1 hd H' x e), ?_, s, ?_, h4⟩
    · rw [List.flatMap_append, lgs_app, fl_pl, lgs_pl, List.flatMap_cons, List.flatMap_nil, List.append_nil]
      omega
    · rw [List.flatMap_append, List.flatMap_cons, List.flatMap_nil, List.append_nil]
      exact List.mem_append_right _ h3
  · refine ⟨g, h, b, [(Sum.inr f, .ref hb)], _, [mg] ++ (R.map fun r => Sg.one (.pl r)), hq, ⟨oh, [kp], hh, po, .cons hk .nil⟩, hw, by rw [List.length_append, List.length_singleton]; omega, fun hd H' x e => ((hS.tl x).gs nf).cons (h1 hd H' x e), ?_, s, ?_, h4⟩
    · rw [List.flatMap_append, lgs_app, fl_pl, lgs_pl, List.flatMap_cons, List.flatMap_nil, List.append_nil]
      omega
    · rw [List.flatMap_append, List.flatMap_cons, List.flatMap_nil, List.append_nil]
      exact List.mem_append_left _ h3
def spForks (K : PySem.W.Frag) : Sp := fun vs H Q _ => ∃ (F p : Addr) (R : List Rw), vs = [.ref F, .ref p] ∧ FlAt H F ∧ PgAt H p R ∧
  ∀ (L : Addr) (ps : List Addr) (H' : Hp), FlAt H' F → Kp (Is F) H H' → H' L = some (.lst (ps.map V.ref)) → ps.length = 3 → (∀ q ∈ ps, FkAt K H' q) → Q (.ref L) H'
theorem at_int {xs : List V} {d : Int} {n : Nat} (h0 : 0 ≤ d) (h1 : d < n) (hn : n = xs.length) : ∃ (j : Nat) (v : V), d = (j : Int) ∧ xs[j]? = some v := by
  refine ⟨d.toNat, xs[d.toNat]'(by omega), by omega, List.getElem?_eq_getElem _⟩
theorem catA_of {K : PySem.W.Frag} {H : Hp} {a b : Addr} {xs ys : List V} {Q : VK} (ha : H a = some (.tup xs)) (hb : H b = some (.tup ys)) (hz : xs.length + ys.length ≤ 100000) (h : ∀ p H', Same H H' → H' p = some (.tup (xs ++ ys)) → Q (.ref p) H') : rCatA K (.ref a) (.ref b) H Q := by
  refine ⟨a, b, xs, ys, rfl, rfl, SqT.of ha, SqT.of hb, szl hz, fun e => ?_, fun _ e => ?_, fun _ _ p np => ?_⟩
  · exact h b H (fun _ _ z => z) (by rw [hb, e]; rfl)
  · exact h a H (fun _ _ z => z) (by rw [ha, e, List.append_nil])
  · exact h p _ (same_new np) upd_same
theorem cut_to {xs : List V} {n : Nat} : cutV xs none (some (n : Int)) = xs.take n := by
  unfold cutV
  rw [HT.sIx_none, HT.sIx_nat, List.drop_zero, Nat.sub_zero]
  by_cases c : n ≤ xs.length
  · rw [Nat.min_eq_left c]
  · rw [Nat.min_eq_right (by omega), List.take_length, List.take_of_length_le (by omega)]
section
variable {P : Program} {w : World} {K : PySem.W.Frag} {mg : Str → Option Value} {base : Heap}
-- _law_forks (printed by gen.py); slots: 0 _law_flow_here, 1 _law_program_here, 2 _law_test, 3 _law_one, 4 _law_f, 5 _law_body_here, 6 _law_found, 7 _law_more
abbrev nLForks : List Str := ["_law_flow_here", "_law_program_here", "_law_test", "_law_one", "_law_f", "_law_body_here", "_law_found", "_law_more"]
abbrev pLForks : List Str := ["_law_flow_here", "_law_program_here"]
theorem scLForks : FnScope nLForks pLForks (defScope sLForks) := ⟨rfl, rfl, rfl, by decide +kernel, rfl, by decide +kernel, by decide +kernel⟩
theorem ok_forks (T : Bi mg) (a0 : At K mg "_law_forks" sLForks pLForks) (cLDraw : Cal P w K mg base CX0 "_law_draw" 1 pLDraw spD) : Cal P w K mg base CX0 "_law_forks" 2 pLForks (spForks K) := by
  refine Cal.of a0 scLForks (fun vs H Q E h => ?_) (fun f cdv A outer s H vs Q E hr h => ?_)
  · obtain ⟨F, p, R, rfl, _⟩ := h
    rfl
  · obtain ⟨F, p, R, rfl, fl, ⟨g, h, b, gs, cs, xs, hp, hg, lg1, lg2, hl, hb, hS, lR, lc, oR⟩, q⟩ := h
    refine ⟨_, (pss_cons (ps_set (i := 2) scLForks.nd rfl (.inl rfl) (pe_ix ix_list (pe_lst (pa_cons (pe_tup (pa_cons pe_str (pa_cons (pe_c cLDraw hr pass0 (pa_cons (pv 0) (pa_cons pe_int pa_nil))) pa_nil))) (pa_cons (pe_tup (pa_cons pe_str (pa_cons (pe_ix ix_tup (pe_ix ix_tup (pv 1) pe_int (fun _ _ => rfl)) pe_int (fun _ _ => rfl)) pa_nil))) pa_nil))) (pe_c cLDraw hr pass0 (pa_cons (pv 0) (pa_cons pe_int pa_nil))) (fun _ _ => rfl))) -- _law_test = [('num', _law_draw(_law_flow_here, 2)), ('cell', _law_program_here[0][0])][_law_draw(_law_flow_her
      (pss_cons (ps_set (i := 3) scLForks.nd rfl (.inl rfl) (pe_ix ix_list (pe_lst (pa_cons (pe_tup (pa_cons pe_str (pa_cons (pv 2) (pa_cons (pe_tup pa_nil) (pa_cons (pe_tup pa_nil) pa_nil))))) (pa_cons (pe_tup (pa_cons pe_str (pa_cons (pv 2) (pa_cons (pe_tup pa_nil) pa_nil)))) (pa_cons (pe_tup (pa_cons pe_str (pa_cons (pv 2) (pa_cons (pe_tup (pa_cons (pe_tup (pa_cons pe_str (pa_cons (pv 2) pa_nil))) pa_nil)) pa_nil)))) pa_nil)))) (pe_c cLDraw hr pass0 (pa_cons (pv 0) (pa_cons pe_int pa_nil))) (fun _ _ => rfl))) -- _law_one = [('if', _law_test, (), ()), ('while', _law_test, ()), ('while', _law_test, (('tell', _law_test),))]
      (Evl.pss_cut (ps_par (i := 4) (j := 5) rfl scLForks.nd rfl rfl (by decide) rfl rfl (pa_cons (pe_ix ix_tup (pe_ix ix_tup (pv 1) pe_int (fun _ _ => rfl)) pe_int (fun _ _ => rfl)) (pa_cons (pe_slice sl_tupA (pe_ix ix_tup (pv 1) pe_int (fun _ _ => rfl)) po_none (po_some pe_int)) pa_nil)) (by rfl)) -- _law_f, _law_body_here = (_law_program_here[0][0], _law_program_here[2][:50])
      (pss_cons (ps_set (i := 6) scLForks.nd rfl (.inl rfl) (pe_lst pa_nil)) -- _law_found = []
      (pss_cons (ps_for PassesOwn.never rfl (pi_tup (pe_tup (pa_cons (pv 3) (pa_cons (pe_tup (pa_cons pe_str (pa_cons (pe_op op_add pe_int (pe_c cLDraw hr pass0 (pa_cons (pv 0) (pa_cons pe_int pa_nil)))) (pa_cons (pe_tup (pa_cons (pv 3) pa_nil)) pa_nil)))) (pa_cons (pe_tup (pa_cons pe_str (pa_cons (pv 4) pa_nil))) pa_nil))))) (pg_name (i := 7) scLForks.nd rfl (.inl rfl))
        (pss_one (ps_expr (pe_bm PySem.F.plainAttrs_list PySem.F.slot_list_append PySem.F.type_list_append mt_append (pv 6) (pa_cons (pe_tup (pa_cons (pe_ix ix_tup (pv 1) pe_int (fun _ _ => rfl)) (pa_cons (pe_tupF (pa_cons (pe_tup (pa_cons (pv 4) (pa_cons (pe_tup (pa_cons (pv 3) pa_nil)) pa_nil))) pa_nil)) (pa_cons (pe_ix ix_list (pe_lst (pa_cons (pe_op op_catA (pv 5) (pe_tup (pa_cons (pv 7) pa_nil))) (pa_cons (pe_op op_catA (pe_tup (pa_cons (pv 7) pa_nil)) (pv 5)) pa_nil))) (pe_c cLDraw hr pass0 (pa_cons (pv 0) (pa_cons pe_int pa_nil))) (fun _ _ => rfl)) pa_nil)))) pa_nil))))) -- for _law_more in (_law_one, ('times', 1 + _law_draw(_law_flow_here, 2), (_law_one,)), ('call', _law_f)):
      (pss_one (ps_ret (pv 6)))))))), ?_⟩
    obtain ⟨nm, _, hnm⟩ := str_at (xs := gs) (i := 0) (by decide) (by omega)
    -- the test
    refine ⟨_, rfl, F, 2, rfl, fl, by decide, by decide, fun d H1 d0 d1 f1 k1 => ⟨(by show 2 ≤ sizeLine; decide), fun t1 n1 => ?_⟩⟩
    have m1 := same_new (o := .tup [.str "num", .int d]) n1
    have ht1 := upd_same (H := H1) (a := t1) (o := .tup [.str "num", .int d])
    have f2 := f1.k (Kp.same (M := fun _ => False) m1) (fun e => e)
    have k2 := k1.trans (Kp.same m1)
    generalize upd H1 t1 (.tup [.str "num", .int d]) = H2 at m1 ht1 f2 k2 ⊢
    refine ⟨_, rfl, p, _, 0, .ref g, rfl, rfl, SqT.of (k2.t _ _ hp), rfl, g, _, 0, .str nm, rfl, rfl, SqT.of (k2.t _ _ hg), hnm, (by show 2 ≤ sizeLine; decide), fun t2 n2 => ⟨(by show 2 ≤ sizeLine; decide), fun l1 n3 => ?_⟩⟩
    have m3 := same_new (o := .tup [.str "cell", .str nm]) n2
    have m4 := same_new (o := .lst [.ref t1, .ref t2]) n3
    have ht2 := m4 _ _ (upd_same (H := H2) (a := t2) (o := .tup [.str "cell", .str nm]))
    have hl1 := upd_same (H := upd H2 t2 (.tup [.str "cell", .str nm])) (a := l1) (o := .lst [.ref t1, .ref t2])
    have ht1 := (m3.trans m4) _ _ ht1
    have f4 := f2.k (Kp.same (M := fun _ => False) (m3.trans m4)) (fun e => e)
    have k4 := k2.trans (Kp.same (m3.trans m4))
    generalize upd (upd H2 t2 (.tup [.str "cell", .str nm])) l1 (.lst [.ref t1, .ref t2]) = H4 at ht2 hl1 ht1 f4 k4 ⊢
    refine ⟨_, rfl, F, 2, rfl, f4, by decide, by decide, fun d5 H5 d50 d51 f5 k5 => ?_⟩
    have k45 := k4.trans k5
    have hl5 := k5.k _ _ hl1 (f4.ne hl1 fun _ _ _ e => by cases HO.lst.inj e)
    obtain ⟨j, tv, rfl, htv⟩ := at_int (xs := [.ref t1, .ref t2]) (n := 2) d50 d51 rfl
    have hT : TmAt H5 .leaf tv := by
      have lj := (List.getElem?_eq_some_iff.mp htv).1
      rcases (show j = 0 ∨ j = 1 by have : j < 2 := lj; omega) with e | e
      · subst e
        exact ⟨t1, "num", _, (Option.some.inj htv).symm, k5.t _ _ ht1, by decide +kernel⟩
      · subst e
        exact ⟨t2, "cell", _, (Option.some.inj htv).symm, k5.t _ _ ht2, by decide +kernel⟩
    refine ⟨l1, _, _, tv, rfl, rfl, SqL.of hl5, at_nat (j := j) rfl htv, ?_⟩
    have f5' := f5
    have k05 := k45
    clear m1 ht1 f2 k2 m3 m4 ht2 hl1 f4 k4 k5 hl5 k45 f5'
    -- the choice or round
    refine ⟨_, rfl, Nat.zero_le _, fun e1 n1 => ⟨Nat.zero_le _, fun e2 n2 => ⟨(by show 4 ≤ sizeLine; decide), fun i1 n3 => ?_⟩⟩⟩
    have m1 := same_new (o := .tup []) n1
    have m2 := same_new (o := .tup []) n2
    have m3 := same_new (o := .tup [.str "if", tv, .ref e1, .ref e2]) n3
    have m13 := m1.trans (m2.trans m3)
    have hi1 : S1At _ .ife (.ref i1) := ⟨i1, tv, e1, e2, rfl, upd_same, (m2.trans m3) _ _ (upd_same (H := H5) (a := e1) (o := .tup [])), m3 _ _ (upd_same (H := upd H5 e1 (.tup [])) (a := e2) (o := .tup []))⟩
    generalize upd (upd (upd H5 e1 (.tup [])) e2 (.tup [])) i1 (.tup [.str "if", tv, .ref e1, .ref e2]) = H6 at m13 hi1 ⊢
    refine ⟨_, rfl, Nat.zero_le _, fun e3 n4 => ⟨(by show 3 ≤ sizeLine; decide), fun i2 n5 => ?_⟩⟩
    have m4 := same_new (o := .tup []) n4
    have m5 := same_new (o := .tup [.str "while", tv, .ref e3]) n5
    have m45 := m4.trans m5
    have hi2 : S1At _ .whe (.ref i2) := ⟨i2, tv, e3, rfl, upd_same, m5 _ _ (upd_same (H := H6) (a := e3) (o := .tup []))⟩
    generalize upd (upd H6 e3 (.tup [])) i2 (.tup [.str "while", tv, .ref e3]) = H7 at m45 hi2 ⊢
    refine ⟨_, rfl, _, rfl, (by show 2 ≤ sizeLine; decide), fun e4 n6 => ⟨(by show 1 ≤ sizeLine; decide), fun e5 n7 => ⟨(by show 3 ≤ sizeLine; decide), fun i3 n8 => ⟨(by show 3 ≤ sizeLine; decide), fun l2 n9 => ?_⟩⟩⟩⟩
    have m6 := same_new (o := .tup [.str "tell", tv]) n6
    have m7 := same_new (o := .tup [.ref e4]) n7
    have m8 := same_new (o := .tup [.str "while", tv, .ref e5]) n8
    have m9 := same_new (o := .lst [.ref i1, .ref i2, .ref i3]) n9
    have m69 := m6.trans (m7.trans (m8.trans m9))
    have m59 := m13.trans (m45.trans m69)
    have hT9 := hT.tl (TL.of m59)
    have hi3 : S1At _ (.wht (.tell .leaf)) (.ref i3) := ⟨i3, tv, e5, .ref e4, rfl, m9 _ _ upd_same, (m8.trans m9) _ _ (upd_same (H := upd H7 e4 (.tup [.str "tell", tv])) (a := e5) (o := .tup [.ref e4])),
      ⟨e4, _, rfl, (m7.trans (m8.trans m9)) _ _ (upd_same (H := H7) (a := e4) (o := .tup [.str "tell", tv])), tv, rfl, hT9⟩, fun e => nomatch e⟩
    have hl2 := upd_same (H := upd (upd (upd H7 e4 (.tup [.str "tell", tv])) e5 (.tup [.ref e4])) i3 (.tup [.str "while", tv, .ref e5])) (a := l2) (o := .lst [.ref i1, .ref i2, .ref i3])
    have hi1 := S1At.tl (TL.of (m45.trans m69)) hi1
    have hi2 := S1At.tl (TL.of m69) hi2
    have k9 := k05.trans (Kp.same m59)
    have f9 := f5.k (Kp.same (M := fun _ => False) m59) (fun e => e)
    generalize upd (upd (upd (upd H7 e4 (.tup [.str "tell", tv])) e5 (.tup [.ref e4])) i3 (.tup [.str "while", tv, .ref e5])) l2 (.lst [.ref i1, .ref i2, .ref i3]) = H9 at hT9 hi3 hl2 hi1 hi2 k9 f9 ⊢
    refine ⟨_, rfl, F, 3, rfl, f9, by decide, by decide, fun d10 H10 d100 d101 f10 k10 => ?_⟩
    have hl10 := k10.k _ _ hl2 (f9.ne hl2 fun _ _ _ e => by cases HO.lst.inj e)
    obtain ⟨j2, ov, rfl, hov⟩ := at_int (xs := [.ref i1, .ref i2, .ref i3]) (n := 3) d100 d101 rfl
    obtain ⟨s1, hs1, is1⟩ : ∃ s1 : S1, S1At H10 s1 ov ∧ s1.isIf := by
      have lj : j2 < 3 := (List.getElem?_eq_some_iff.mp hov).1
      rcases (show j2 = 0 ∨ j2 = 1 ∨ j2 = 2 by omega) with e | e | e
      · subst e
        rw [← Option.some.inj hov]
        exact ⟨.ife, S1At.tl k10.t hi1, trivial⟩
      · subst e
        rw [← Option.some.inj hov]
        exact ⟨.whe, S1At.tl k10.t hi2, trivial⟩
      · subst e
        rw [← Option.some.inj hov]
        exact ⟨.wht (.tell .leaf), S1At.tl k10.t hi3, trivial⟩
    refine ⟨l2, _, _, ov, rfl, rfl, SqL.of hl10, at_nat (j := j2) rfl hov, ?_⟩
    have k010 := k9.trans k10
    have hp10 := k010.t _ _ hp
    have hg10 := k010.t _ _ hg
    have hb10 := k010.t _ _ hb
    have hS10 := hS.tl k010.t
    clear m1 m2 m3 m13 m4 m5 m45 m6 m7 m8 m9 m69 m59 hT9 hi3 hl2 hi1 hi2 k9 f9 k10 hl10 k05 f5 hT hp hg hb hS
    refine ⟨fun σ' H' => ∃ b', σ' = [some (.ref F), some (.ref p), some tv, some ov, some (.str nm), some (.ref b'), none, none] ∧ H' b' = some (.tup (xs.take 50)) ∧ Same H10 H', ?_, fun σ' H11 hM => ?_⟩
    · refine ⟨_, rfl, p, _, 0, .ref g, rfl, rfl, SqT.of hp10, rfl, g, _, 0, .str nm, rfl, rfl, SqT.of hg10, hnm, ?_⟩
      have e50 : cutV xs none (some 50) = xs.take 50 := cut_to (n := 50)
      refine ⟨_, rfl, p, _, 2, .ref b, rfl, rfl, SqT.of hp10, rfl, _, rfl, b, xs, rfl, SqT.of hb10, fun hw => ?_, fun hw c nc => ?_⟩
      · refine ⟨_, _, rfl, b, rfl, ?_, fun _ _ z => z⟩
        have h50 : HT.sIx xs.length xs.length (some ((50 : Nat) : Int)) = xs.length := hw.2
        rw [HT.sIx_nat] at h50
        rw [List.take_of_length_le (by omega)]
        exact hb10
      · refine ⟨_, _, rfl, c, rfl, ?_, same_new nc⟩
        rw [upd_same, e50]
    obtain ⟨b', rfl, hb', s11⟩ := hM
    refine ⟨Nat.zero_le _, fun fo nfo => ?_⟩
    have m12 := same_new (o := .lst []) nfo
    have s12 := s11.trans m12
    have hfo := upd_same (H := H11) (a := fo) (o := .lst [])
    have f12 := f10.k (Kp.same (M := fun _ => False) s12) (fun e => e)
    have k12 := k010.trans (Kp.same s12)
    have zfo : H fo = none := (k010.trans (Kp.same s11)).free nfo
    have hb12 := m12 _ _ hb'
    generalize upd H11 fo (.lst []) = H12 at m12 s12 hfo f12 k12 hb12 ⊢
    have nFf : F ≠ fo := (fl.nn zfo).symm
    -- the three
    refine ⟨_, rfl, _, rfl, F, 2, rfl, f12, by decide, by decide, fun d13 H13 d130 d131 f13 k13 => ⟨_, _, rfl, rfl, ?_⟩⟩
    refine ⟨_, rfl, (by show 1 ≤ sizeLine; decide), fun b2 n14 => ⟨(by show 3 ≤ sizeLine; decide), fun tm n15 => ⟨_, rfl, (by show 2 ≤ sizeLine; decide), fun cl n16 => ⟨(by show 3 ≤ sizeLine; decide), fun tt n17 => ?_⟩⟩⟩⟩
    have m14 := same_new (o := .tup [ov]) n14
    have m15 := same_new (o := .tup [.str "times", .int (1 + d13), .ref b2]) n15
    have m16 := same_new (o := .tup [.str "call", .str nm]) n16
    have m17 := same_new (o := .tup [ov, .ref tm, .ref cl]) n17
    have m1317 := m14.trans (m15.trans (m16.trans m17))
    have hb2 := (m15.trans (m16.trans m17)) _ _ (upd_same (H := H13) (a := b2) (o := .tup [ov]))
    have htm := (m16.trans m17) _ _ (upd_same (H := upd H13 b2 (.tup [ov])) (a := tm) (o := .tup [.str "times", .int (1 + d13), .ref b2]))
    have hcl := m17 _ _ (upd_same (H := upd (upd H13 b2 (.tup [ov])) tm (.tup [.str "times", .int (1 + d13), .ref b2])) (a := cl) (o := .tup [.str "call", .str nm]))
    have htt := upd_same (H := upd (upd (upd H13 b2 (.tup [ov])) tm (.tup [.str "times", .int (1 + d13), .ref b2])) cl (.tup [.str "call", .str nm])) (a := tt) (o := .tup [ov, .ref tm, .ref cl])
    have f17 := f13.k (Kp.same (M := fun _ => False) m1317) (fun e => e)
    have k17 := k12.trans (k13.trans (Kp.same m1317))
    have hfo17 := m1317 _ _ (k13.k _ _ hfo nFf.symm)
    have t17 : TL H10 _ := (TL.of s12).trans (k13.t.trans (TL.of m1317))
    have hb17 := m1317 _ _ (k13.t _ _ hb12)
    generalize upd (upd (upd (upd H13 b2 (.tup [ov])) tm (.tup [.str "times", .int (1 + d13), .ref b2])) cl (.tup [.str "call", .str nm])) tt (.tup [ov, .ref tm, .ref cl]) = H17 at hb2 htm hcl htt f17 k17 hfo17 t17 hb17 ⊢
    have hs17 := S1At.tl t17 hs1
    have hp17 := t17 _ _ hp10
    have hS17 := (hS10.tl t17).take 50
    have sl := s1.lg_le
    have more : ∀ v ∈ [ov, V.ref tm, V.ref cl], ∀ (H' : Hp) (hb : Addr), TL H17 H' → H' hb = some (.tup [ov]) → MoreAt H' nm hb v := fun v hv H' hb x hh => by
      rcases List.mem_cons.mp hv with e | hv
      · subst e
        exact ⟨.one s1, fun hd H2 y _ => S1At.tl (x.trans y) hs17, by rw [show (Sg.one s1).fl = [s1] from rfl, lgs_one]; omega, s1, List.mem_cons_self, is1⟩
      · rcases List.mem_cons.mp hv with e | hv
        · subst e
          refine ⟨.times (1 + d13.toNat) s1, fun hd H2 y _ => ⟨tm, b2, ov, rfl, ?_, (x.trans y) _ _ hb2, S1At.tl (x.trans y) hs17⟩, ?_, s1, ?_, is1⟩
          · rw [show (((1 + d13.toNat : Nat)) : Int) = 1 + d13 by omega]
            exact (x.trans y) _ _ htm
          · rw [show (Sg.times (1 + d13.toNat) s1).fl = List.replicate (1 + d13.toNat) s1 from rfl, lgs_rep]
            exact Nat.le_trans (Nat.mul_le_mul (show 1 + d13.toNat ≤ 2 by omega) sl) (by decide)
          · exact List.mem_replicate.mpr ⟨by omega, rfl⟩
        · have e := List.mem_singleton.mp hv
          subst e
          refine ⟨.call s1, fun hd H2 y e => ⟨cl, nm, hb, ov, _, rfl, (x.trans y) _ _ hcl, e, ?_, y _ _ hh, S1At.tl (x.trans y) hs17⟩, by rw [show (Sg.call s1).fl = [s1] from rfl, lgs_one]; omega, s1, List.mem_cons_self, is1⟩
          simp [mergeK, putK, valV]
    refine ⟨tt, rfl, ⟨_, SqT.of htt⟩, ?_⟩
    refine for_tup (fun i σ' H' => ∃ (y7 : Option V) (ps : List Addr), σ' = [some (.ref F), some (.ref p), some tv, some ov, some (.str nm), some (.ref b'), some (.ref fo), y7] ∧ FlAt H' F ∧ Kp (Is F) H H' ∧ H' fo = some (.lst (ps.map V.ref)) ∧ ps.length = i ∧ (∀ q ∈ ps, FkAt K H' q) ∧ TL H17 H')
      ⟨none, [], rfl, f17, k17, hfo17, rfl, fun q h => absurd h List.not_mem_nil, TL.refl H17⟩ (fun i σ' H' _ hP => by obtain ⟨_, _, _, _, _, _, _, _, t⟩ := hP; exact SqT.of (t _ _ htt)) (fun i v σ' H18 hv hP => ?_) (fun σ' H18 hP => ?_)
    · obtain ⟨y7, ps, rfl, f18, k18, hfo18, lps, hps, t18⟩ := hP
      have mv := more v (List.mem_of_getElem? hv)
      have li : i < 3 := (List.getElem?_eq_some_iff.mp hv).1
      refine ⟨_, rfl, .inl ⟨rfl, _, SqL.of hfo18⟩, _, rfl, p, _, 0, .ref g, rfl, rfl, SqT.of (t18 _ _ hp17), rfl, _, rfl, _, rfl, (by show 1 ≤ sizeLine; decide), fun hbx n19 => ⟨(by show 2 ≤ sizeLine; decide), fun kp n20 => ⟨(by show 1 ≤ sizeLine; decide), fun ht oh n21 po => ?_⟩⟩⟩
      have m19 := same_new (o := .tup [ov]) n19
      have m20 := same_new (o := .tup [.str nm, .ref hbx]) n20
      have m21 := same_new (o := .frz oh (.tup [.ref kp])) n21
      have hhb := (m20.trans m21) _ _ (upd_same (H := H18) (a := hbx) (o := .tup [ov]))
      have hkp := m21 _ _ (upd_same (H := upd H18 hbx (.tup [ov])) (a := kp) (o := .tup [.str nm, .ref hbx]))
      have hht := upd_same (H := upd (upd H18 hbx (.tup [ov])) kp (.tup [.str nm, .ref hbx])) (a := ht) (o := .frz oh (.tup [.ref kp]))
      have s21 := m19.trans (m20.trans m21)
      generalize upd (upd (upd H18 hbx (.tup [ov])) kp (.tup [.str nm, .ref hbx])) ht (.frz oh (.tup [.ref kp])) = H21 at hhb hkp hht s21 ⊢
      have hb21 := s21 _ _ (t18 _ _ hb17)
      refine ⟨_, rfl, _, rfl, (by show 1 ≤ sizeLine; decide), fun q1 n22 => ?_⟩
      have m22 := same_new (o := .tup [v]) n22
      refine catA_of (m22 _ _ hb21) upd_same (by rw [List.length_take, List.length_singleton]; omega) fun c1 H23 s23 hc1 => ?_
      refine ⟨_, rfl, (by show 1 ≤ sizeLine; decide), fun q2 n24 => ⟨_, rfl, ?_⟩⟩
      have m24 := same_new (o := .tup [v]) n24
      have s2124 := m22.trans (s23.trans m24)
      refine catA_of upd_same (s2124 _ _ hb21) (by rw [List.length_take, List.length_singleton]; omega) fun c2 H25 s25 hc2 => ⟨(by show 2 ≤ sizeLine; decide), fun l3 n26 => ?_⟩
      have m26 := same_new (o := .lst [.ref c1, .ref c2]) n26
      have hl3 := upd_same (H := H25) (a := l3) (o := .lst [.ref c1, .ref c2])
      have s2126 := s2124.trans (s25.trans m26)
      have hc1 := (m24.trans (s25.trans m26)) _ _ hc1
      have hc2 := m26 _ _ hc2
      have f26 := f18.k (Kp.same (M := fun _ => False) (s21.trans s2126)) (fun e => e)
      generalize upd H25 l3 (.lst [.ref c1, .ref c2]) = H26 at hl3 s2126 hc1 hc2 f26 ⊢
      refine ⟨_, rfl, F, 2, rfl, f26, by decide, by decide, fun d27 H27 d270 d271 f27 k27 => ?_⟩
      have hl27 := k27.k _ _ hl3 (f26.ne hl3 fun _ _ _ e => by cases HO.lst.inj e)
      obtain ⟨j3, bv, rfl, hbv⟩ := at_int (xs := [.ref c1, .ref c2]) (n := 2) d270 d271 rfl
      obtain ⟨bw, ws, rfl, hbw, ew⟩ : ∃ bw ws, bv = .ref bw ∧ H27 bw = some (.tup ws) ∧ (ws = xs.take 50 ++ [v] ∨ ws = [v] ++ xs.take 50) := by
        have lj : j3 < 2 := (List.getElem?_eq_some_iff.mp hbv).1
        rcases (show j3 = 0 ∨ j3 = 1 by omega) with e | e
        · subst e
          exact ⟨c1, _, (Option.some.inj hbv).symm, k27.t _ _ hc1, .inl rfl⟩
        · subst e
          exact ⟨c2, _, (Option.some.inj hbv).symm, k27.t _ _ hc2, .inr rfl⟩
      refine ⟨l3, _, _, _, rfl, rfl, SqL.of hl27, at_nat (j := j3) rfl hbv, (by show 3 ≤ sizeLine; decide), fun qa nqa => ?_⟩
      have t1827 : TL H18 H27 := (TL.of (s21.trans s2126)).trans k27.t
      have t2127 : TL H21 H27 := (TL.of s2126).trans k27.t
      have m28 := same_new (o := .tup [.ref g, .ref ht, .ref bw]) nqa
      have hqa := upd_same (H := H27) (a := qa) (o := .tup [.ref g, .ref ht, .ref bw])
      have t2128 := t2127.trans (TL.of m28)
      have t1828 := t1827.trans (TL.of m28)
      have hfo28 := m28 _ _ (k27.k _ _ ((s21.trans s2126) _ _ hfo18) nFf.symm)
      have hbw28 := m28 _ _ hbw
      have f28 := f27.k (Kp.same (M := fun _ => False) m28) (fun e => e)
      have k28 := k18.trans ((Kp.same (s21.trans s2126)).trans (k27.trans (Kp.same m28)))
      generalize upd H27 qa (.tup [.ref g, .ref ht, .ref bw]) = H28 at hqa t2128 t1828 hfo28 hbw28 f28 k28 ⊢
      have t1728 := t18.trans t1828
      have fk : FkAt K H28 qa := FkAt.mk hqa (t2128.f _ _ _ hht) po (t2128 _ _ hkp) (hS17.tl t1728) (fun r hr => oR.nf r (List.mem_of_mem_take hr)) (by rw [List.length_take]; omega) hbw28 ew (mv H28 hbx t1728 (t2128 _ _ hhb))
      have ku : Kp (Is fo) H28 (upd H28 fo (.lst (ps.map V.ref ++ [.ref qa]))) := Kp.upd rfl hfo28 lst_ne_tup
      refine ⟨fo, _, _, rfl, rfl, hfo28, szt (by rw [List.length_map]; omega), _, ps ++ [qa], rfl, f28.upd nFf, k28.mut zfo, by rw [upd_same, List.map_append]; rfl, by rw [List.length_append, List.length_singleton, lps], fun q' hq' => ?_, t1728.trans ku.t⟩
      rcases List.mem_append.mp hq' with z | z
      · exact (hps q' z).tl (t1828.trans ku.t)
      · rw [List.mem_singleton.mp z]
        exact fk.tl ku.t
    · obtain ⟨y7, ps, rfl, f18, k18, hfo18, lps, hps, t18⟩ := hP
      exact ⟨_, rfl, q fo ps H18 f18 k18 hfo18 lps hps⟩
end
end K36
namespace K36
open PySem PySem.Spec PyProof.Rows L2
-- uses T0 A0 A1
/-! ### a op b op c op d; set(a tuple of ints) -/
/-- a op1 b op2 c op3 d -/
def tChain3 (r r' r'' : R2) (ta tb tc td : TE) : TE := fun σ H Q => ta σ H fun x H1 => tb σ H1 fun y H2 => r x y H2 fun z H3 => ∃ k, z = .bl k ∧
  (if k = true then tc σ H3 fun w' H4 => r' y w' H4 fun z2 H5 => ∃ k2, z2 = .bl k2 ∧ (if k2 = true then td σ H5 fun u' H6 => r'' w' u' H6 Q else Q (.bl false) H5) else Q (.bl false) H3)
section
variable {X : Cx} {a b c d : Expr} {ta tb tc td : TE} {pos : Pos}
theorem pt_chain3 {op op' op'' : CmpOp} {r r' r'' : R2} (ho : OpR X (compareOp op) r) (ho' : OpR X (compareOp op') r') (ho'' : OpR X (compareOp op'') r'') (ha : PE X a ta) (hb : PE X b tb) (hc : PE X c tc) (hd : PE X d td)
    (hm : lastMarks [op, op', op''] [b, c, d] = false := by with_unfolding_all rfl) : PT X (.Compare a [op, op', op''] [b, c, d] pos) (tTest (tChain3 r r' r'' ta tb tc td)) := by
  refine ⟨fun pins s σ H Q I h => ?_⟩
  refine isTrue_chain (thn (ha.run pins s σ H _ I h) fun v s1 ⟨x, H1, I1, r1, q1⟩ => test_link (thn (hb.run pins s1 σ H1 _ I1 q1) fun u s2 ⟨y, H2, I2, r2, q2⟩ =>
    thn (ho pins s2 σ H2 x y v u _ I2 r1 r2 q2) fun e s3 ⟨z, H3, I3, r3, k, ek, q3⟩ => ?_)) hm
  subst ek
  cases r3
  refine wpAny_truthy_bool ?_
  cases k with
  | false =>
    obtain ⟨k', e', q'⟩ := q3
    cases e'
    exact ite_ff ⟨H3, I3, q'⟩
  | true =>
    refine ite_tt (test_link (thn (hc.run pins s3 σ H3 _ I3 q3) fun w' s4 ⟨z', H4, I4, r4, q4⟩ => thn (ho' pins s4 σ H4 y z' u w' _ I4 r2 r4 q4) fun e2 s5 ⟨z2, H5, I5, r5, k2, ek2, q5⟩ => ?_))
    subst ek2
    cases r5
    refine wpAny_truthy_bool ?_
    cases k2 with
    | false =>
      obtain ⟨k', e', q'⟩ := q5
      cases e'
      exact ite_ff ⟨H5, I5, q'⟩
    | true =>
      refine ite_tt (test_last (thn (hd.run pins s5 σ H5 _ I5 q5) fun u' s6 ⟨z3, H6, I6, r6, q6⟩ => thn (ho'' pins s6 σ H6 z' z3 w' u' _ I6 r4 r6 q6) fun e3 s7 ⟨z4, H7, I7, r7, k3, ek3, q7⟩ => ?_))
      subst ek3
      cases r7
      exact wpAny_truthy_bool ⟨H7, I7, q7⟩
def rSetT (K : PySem.W.Frag) (w : World) : List V → Hp → VK → Prop := fun xs H Q => ∃ (l : Addr) (ns : List Int), xs = [V.ref l] ∧ SqT K H l (ns.map V.int) ∧ ns.length ≤ 1000 ∧ ∀ (p : Addr) (n : Nat), H p = none → n ≤ ns.length → Q (.ref p) (upd H p (SetO w p (fun j => decide (j ∈ ns)) n))
theorem cr_setT (hc : X.calm = true) : CallR X (.type "set") (rSetT X.K X.w) := by
  intro pins s σ H xs us Q I r h
  obtain ⟨l, ns, rfl, hl, hn, q⟩ := h
  rw [Vals.ref1 r]
  obtain ⟨its, rv, pt, hz⟩ := I.tuple hl
  refine call_set_tupI ns (I.ok.hd hc) (show s.heap.IsTuple l its.toArray from pt) (by simpa using rv.ints) (by show _ < 4096; omega) fun h' tk c R hcn k => ?_
  exact ⟨.ref s.heap.objs.size, _, I.laid (t' := tk) k (Nat.le_refl _) (setO_new R), rfl, q _ c (I.hok.fresh (Nat.le_refl _)) hcn⟩
end
end K36
namespace K36
open PySem PySem.Spec PyProof.Rows L2
/-! ### whether what is told is right -/
theorem natV_int (l : List Nat) : natV l = (l.map fun j => ((j : Nat) : Int)).map V.int := by
  unfold natV
  rw [List.map_map]
  rfl
theorem at_end1 {xs : List V} {v : V} (h : xs[xs.length - 1]? = some v) : atI xs (-1) = some v := by
  have l := (List.getElem?_eq_some_iff.mp h).1
  unfold atI
  have e : ixN xs.length (-1) = some (xs.length - 1) := by
    unfold ixN
    rw [if_neg (by decide)]
    rw [if_pos (by omega)]
    exact congrArg some (by omega)
  rw [e]
  exact h
def spRight : Sp := fun vs H Q _ => ∃ (a m c wp : Addr) (ch op pu : Int) (R : List Rw) (zs : List (Nat × Nat)) (ws : List Addr), vs = [.ref a, .ref m, .ref c, .ref wp] ∧ RowsAt H a R ∧ RS R ∧ H m = some (.tup [.int ch, .int op, .int pu]) ∧ H c = some (.tup (natV (zs.map (·.1)))) ∧
  H wp = some (.tup (ws.map V.ref)) ∧ WysAt H ws (wys 0 zs) ∧ Gd R (freeB R) op pu ch 0 zs ∧ ∀ H', Same H H' → Q (.bl true) H'
/-- the rows that may be cut, of ways, their first left out -/
def usedB (R : List Rw) (js : List (List Nat)) : List Nat := js.flatMap fun v => v.tail.filter (freeB R)
theorem used_len {R : List Rw} {n : Nat} : ∀ {js : List (List Nat)}, (∀ j ∈ js, j.length ≤ n) → (usedB R js).length ≤ js.length * n
  | [], _ => Nat.zero_le _
  | j :: js, h => by
    have ih := used_len (R := R) (n := n) (js := js) fun x hx => h x (List.mem_cons_of_mem _ hx)
    have h1 := h j List.mem_cons_self
    have h2 : (j.tail.filter (freeB R)).length ≤ j.tail.length := List.length_filter_le _ _
    rw [List.length_tail] at h2
    unfold usedB at ih ⊢
    rw [List.flatMap_cons, List.length_append, List.length_cons, Nat.succ_mul]
    omega
theorem natV_at {l : List Nat} {j : Nat} {v : V} (h : (natV l)[j]? = some v) : ∃ x, l[j]? = some x ∧ v = V.int (x : Nat) := by
  unfold natV at h
  rw [List.getElem?_map] at h
  cases e : l[j]? with
  | none => rw [e] at h; cases h
  | some x => rw [e] at h; exact ⟨x, rfl, (Option.some.inj h).symm⟩
theorem natV_len (l : List Nat) : (natV l).length = l.length := by
  unfold natV
  rw [List.length_map]
theorem natV_in {x : Nat} {l : List Nat} : inV (.int (x : Nat)) (natV l) = decide (x ∈ l) := by
  rw [natV_int, inV_ints, Bool.eq_iff_iff, decide_eq_true_eq, decide_eq_true_eq, List.mem_map]
  exact ⟨fun ⟨y, h1, h2⟩ => by rw [show x = y by omega]; exact h1, fun h => ⟨x, h, rfl⟩⟩
theorem flat_nat (l : List Nat) : (natV l).all flatV = true := by
  rw [natV_int]
  exact flat_ints _
theorem cut_1 {l : List Nat} : cutV (natV l) (some 1) none = natV l.tail := by
  have e := cut_from (xs := natV l) (i := 0)
  rw [show (1 : Int) = ((0 : Nat) : Int) + 1 from rfl, e]
  unfold natV
  rw [← List.map_drop, List.drop_one]
theorem range_at {b n : Nat} (h : 0 < n) : (List.range' b n)[0]? = some b ∧ (List.range' b n)[n - 1]? = some (b + n - 1) := by
  refine ⟨?_, ?_⟩
  · rw [List.getElem?_range' (by omega)]
    simp
  · rw [List.getElem?_range' (by omega)]
    exact congrArg some (by omega)
section
variable {P : Program} {w : World} {K : PySem.W.Frag} {mg : Str → Option Value} {base : Heap}
-- _law_right (printed by gen.py); slots: 0 _law_rows_here*, 1 _law_limits, 2 _law_cuts, 3 _law_ways, 4 _law_free_here*, 5 _law_works*, 6 _law_used*, 7 _law_way, 8 _law_work_here, 9 _law_at
abbrev nLRight : List Str := ["_law_rows_here", "_law_limits", "_law_cuts", "_law_ways", "_law_free_here", "_law_works", "_law_used", "_law_way", "_law_work_here", "_law_at"]
abbrev pLRight : List Str := ["_law_rows_here", "_law_limits", "_law_cuts", "_law_ways"]
theorem scLRight : FnScope nLRight pLRight (defScope sLRight) := ⟨rfl, rfl, rfl, by decide +kernel, rfl, by decide +kernel, by decide +kernel⟩
theorem ok_right (T : Bi mg) (a0 : At K mg "_law_right" sLRight pLRight) (cLFree : Cal P w K mg base CX0 "_law_free" 4 pLFree spFreeL) (cLHeaviest : Cal P w K mg base CX0 "_law_heaviest" 8 pLHeaviest spHeavyL) (cLWork : Cal P w K mg base CX0 "_law_work" 7 pLWork spWork) :
    Cal P w K mg base CX0 "_law_right" 9 pLRight spRight := by
  refine Cal.of a0 scLRight (fun vs H Q E h => ?_) (fun f cdv A outer s H vs Q E hr h => ?_)
  · obtain ⟨a, m, c, wp, ch, op, pu, R, zs, ws, rfl, _⟩ := h
    rfl
  · obtain ⟨a, m, c, wp, ch, op, pu, R, zs, ws, rfl, hR, rs, hm, hc, hwp, hws, gd, q⟩ := h
    refine ⟨_, (pss_cons (ps_set (i := 4) scLRight.nd rfl (.inr rfl) (pe_c cLFree hr pass0 (pa_cons (pv 0) pa_nil))) -- _law_free_here = _law_free(_law_rows_here)
      (pss_cons (ps_if (PW.pt (pw_or (pt_not (pt_val (pe_callB call_isi (by rfl) T.isinstance bo_isinstance (pa_cons (pv 2) (pa_cons (pe_bltn (v := .ty "tuple") (by rfl) T.tuple bo_tuple rfl) pa_nil))))) (pw_or (pt_not (pt_val (pe_callB call_isi (by rfl) T.isinstance bo_isinstance (pa_cons (pv 3) (pa_cons (pe_bltn (v := .ty "tuple") (by rfl) T.tuple bo_tuple rfl) pa_nil))))) (pw_or1 (pt_cmpR op_ne (pe_callB call_len_seq (by rfl) T.len bo_len (pa_cons (pv 3) pa_nil)) (pe_callB call_len_seq (by rfl) T.len bo_len (pa_cons (pv 2) pa_nil)) (nomark _))))))
        (pss_one (ps_ret pe_bl))
        pss_nil) -- if not isinstance(_law_cuts, tuple) or not isinstance(_law_ways, tuple) or len(_law_ways) != len(_law_cuts):
      (pss_cons (ps_set (i := 5) scLRight.nd rfl (.inr rfl) (pe_c cLHeaviest hr pass0 (pa_cons (pv 0) (pa_cons (pv 2) pa_nil)))) -- _law_works = _law_heaviest(_law_rows_here, _law_cuts)
      (pss_cons (ps_if (PW.pt (pw_or (pt_cmpR (op_neD hr.units) (pe_lc (own := [("_law_at", 9)]) (g := gName 9) rfl scLRight.nd (pi_tup (pv 2)) (blkOk_by (own := [("_law_at", 9)]) (N := nLRight) (sc := defScope sLRight) (by decide +kernel)) (fun _ _ _ _ _ => (pg_name (i := 9) scLRight.nd rfl (.inl rfl))) (fun _ _ _ _ _ => (pts_one (pt_cmpR (notInK (K := K) rfl) (pv 9) (pv 4) (by rfl)))) (fun _ _ _ _ _ => (pv 9))) (pe_lst pa_nil) (nomark _)) (pw_or1 (pt_cmpR (op_neD hr.units) (pe_callTy call_list_of (by rfl) T.list bo_list (pa_cons (pv 2) pa_nil)) (pe_callB (cr_sortedSet rfl) (by rfl) T.sorted bo_sorted (pa_cons (pe_callTy (cr_setT rfl) (by rfl) T.set bo_set (pa_cons (pv 2) pa_nil)) pa_nil)) (nomark _)))))
        (pss_one (ps_ret pe_bl))
        pss_nil) -- if [_law_at for _law_at in _law_cuts if _law_at not in _law_free_here] != [] or list(_law_cuts) != sorted(set(
      (pss_cons (ps_if (pt_cmpR op_gt (pe_op op_add (pe_op op_add (pe_ix ix_tup (pv 1) pe_int (fun _ _ => rfl)) (pe_ix ix_tup (pv 1) pe_int (fun _ _ => rfl))) (pe_callB (cr_max rfl) (by rfl) T.max bo_max (pa_cons (pe_lc (own := [("_law_at", 9)]) (g := gName 9) rfl scLRight.nd (pi_tup (pe_op op_catA (pe_tup (pa_cons pe_int pa_nil)) (pv 2))) (blkOk_by (own := [("_law_at", 9)]) (N := nLRight) (sc := defScope sLRight) (by decide +kernel)) (fun _ _ _ _ _ => (pg_name (i := 9) scLRight.nd rfl (.inl rfl))) (fun _ _ _ _ _ => pts_nil) (fun _ _ _ _ _ => (pe_ix (ixL (K := K) rfl) (pv 5) (pv 9) (fun _ _ => rfl)))) pa_nil))) (pe_ix ix_tup (pv 1) pe_int (fun _ _ => rfl)) (nomark _))
        (pss_one (ps_ret pe_bl))
        pss_nil) -- if _law_limits[1] + _law_limits[2] + max([_law_works[_law_at] for _law_at in (0,) + _law_cuts]) > _law_limits[
      (pss_cons (ps_set (i := 6) scLRight.nd rfl (.inr rfl) (pe_lst pa_nil)) -- _law_used = []
      (pss_cons (ps_for PassesOwn.never rfl (pi_tup (pv 3)) (pg_name (i := 7) scLRight.nd rfl (.inl rfl))
        (pss_cons (ps_if (PW.pt (pw_or (pt_not (pt_val (pe_callB call_isi (by rfl) T.isinstance bo_isinstance (pa_cons (pv 7) (pa_cons (pe_bltn (v := .ty "tuple") (by rfl) T.tuple bo_tuple rfl) pa_nil))))) (pw_or1 (pt_cmpR op_eq (pe_callB call_len_seq (by rfl) T.len bo_len (pa_cons (pv 7) pa_nil)) pe_int (nomark _)))))
          (pss_one (ps_ret pe_bl))
          pss_nil) -- if not isinstance(_law_way, tuple) or len(_law_way) == 0:
        (pss_cons (ps_if (PW.pt (pw_or (pt_cmpR (op_neD hr.units) (pe_callTy call_list_of (by rfl) T.list bo_list (pa_cons (pv 7) pa_nil)) (pe_listRg rfl (by rfl) T.list (prg_2 (by rfl) T.range (pe_ix ix_tup (pv 7) pe_int (fun _ _ => rfl)) (pe_op op_add (pe_ix ix_tup (pv 7) pe_int (fun _ _ => rfl)) (pe_callB call_len_seq (by rfl) T.len bo_len (pa_cons (pv 7) pa_nil))))) (nomark _)) (pw_or1 (pt_not (pt_chain3 op_le op_le op_lt pe_int (pe_ix ix_tup (pv 7) pe_int (fun _ _ => rfl)) (pe_ix ix_tup (pv 7) (pe_un un_neg pe_int) (fun _ _ => rfl)) (pe_callB call_len_seq (by rfl) T.len bo_len (pa_cons (pv 0) pa_nil)))))))
          (pss_one (ps_ret pe_bl))
          pss_nil) -- if list(_law_way) != list(range(_law_way[0], _law_way[0] + len(_law_way))) or not 0 <= _law_way[0] <= _law_way
        (pss_cons (ps_set (i := 8) scLRight.nd rfl (.inl rfl) (pe_callB (cr_sum rfl) (by rfl) T.sum bo_sum (pa_cons (pe_lc (own := [("_law_at", 9)]) (g := gName 9) rfl scLRight.nd (pi_tup (pv 7)) (blkOk_by (own := [("_law_at", 9)]) (N := nLRight) (sc := defScope sLRight) (by decide +kernel)) (fun _ _ _ _ _ => (pg_name (i := 9) scLRight.nd rfl (.inl rfl))) (fun _ _ _ _ _ => pts_nil) (fun _ _ _ _ _ => (pe_c cLWork hr pass0 (pa_cons (pe_ix (ixT (K := K) rfl) (pv 0) (pv 9) (fun _ _ => rfl)) pa_nil)))) pa_nil))) -- _law_work_here = sum([_law_work(_law_rows_here[_law_at]) for _law_at in _law_way])
        (pss_cons (ps_if (PW.pt (pw_or (pt_cmpR op_le (pe_op op_add (pe_op op_add (pe_ix ix_tup (pv 1) pe_int (fun _ _ => rfl)) (pv 8)) (pe_ix ix_tup (pv 1) pe_int (fun _ _ => rfl))) (pe_ix ix_tup (pv 1) pe_int (fun _ _ => rfl)) (nomark _)) (pw_or1 (pt_cmpR (op_neD hr.units) (pe_lc (own := [("_law_at", 9)]) (g := gName 9) rfl scLRight.nd (pi_tup (pe_slice sl_tupA (pv 7) (po_some pe_int) po_none)) (blkOk_by (own := [("_law_at", 9)]) (N := nLRight) (sc := defScope sLRight) (by decide +kernel)) (fun _ _ _ _ _ => (pg_name (i := 9) scLRight.nd rfl (.inl rfl))) (fun _ _ _ _ _ => (pts_one (pt_cmpR (inK (K := K) rfl) (pv 9) (pv 6) (by rfl)))) (fun _ _ _ _ _ => (pv 9))) (pe_lst pa_nil) (nomark _)))))
          (pss_one (ps_ret pe_bl))
          pss_nil) -- if _law_limits[1] + _law_work_here + _law_limits[2] <= _law_limits[0] or [_law_at for _law_at in _law_way[1:] 
        (pss_one (ps_expr (pe_bm PySem.F.plainAttrs_list PySem.F.slot_list_extend PySem.F.type_list_extend mt_extend (pv 6) (pa_cons (pe_lc (own := [("_law_at", 9)]) (g := gName 9) rfl scLRight.nd (pi_tup (pe_slice sl_tupA (pv 7) (po_some pe_int) po_none)) (blkOk_by (own := [("_law_at", 9)]) (N := nLRight) (sc := defScope sLRight) (by decide +kernel)) (fun _ _ _ _ _ => (pg_name (i := 9) scLRight.nd rfl (.inl rfl))) (fun _ _ _ _ _ => (pts_one (pt_cmpR (inK (K := K) rfl) (pv 9) (pv 4) (by rfl)))) (fun _ _ _ _ _ => (pv 9))) pa_nil))))))))) -- for _law_way in _law_ways:
      (pss_one (ps_ret pe_bl))))))))), ?_⟩
    have ln := rs.len
    have lws : ws.length = zs.length := by rw [hws.1, wys_len]
    have hlw := hws.1
    obtain ⟨cz, ecz⟩ : ∃ cz, cz = (zs.map (·.1)).map fun j => ((j : Nat) : Int) := ⟨_, rfl⟩
    have mcz : ∀ z ∈ cz, ∃ i : Nat, z = (i : Int) ∧ i < R.length ∧ freeB R i = true ∧ i ∈ zs.map (·.1) := fun z hz => by
      rw [ecz] at hz
      obtain ⟨i, h1, rfl⟩ := List.mem_map.mp hz
      obtain ⟨p, h2, rfl⟩ := List.mem_map.mp h1
      have := gd.gt p h2
      exact ⟨_, rfl, this.2.1, this.2.2, h1⟩
    have srt : cz.Pairwise (· < ·) := by
      rw [ecz, List.pairwise_map]
      exact gd.rise.imp fun {x y} h => by omega
    have lcz : cz.length = zs.length := by rw [ecz, List.length_map, List.length_map]
    have lzs : cz.length ≤ R.length := int_sub_len (srt.imp fun {x y} h e => by omega) fun z hz => let ⟨i, h1, h2, _⟩ := mcz z hz; ⟨i, h2, h1⟩
    have hc : H c = some (.tup (cz.map V.int)) := by rw [hc, natV_int, ecz]
    refine ⟨_, rfl, a, R, rfl, hR, rs, fun fp H1 s1 nfp hfp => ?_⟩
    refine ⟨_, rfl, .ref c, .ty "tuple", .type "tuple", .type "tuple", true, rfl, .ty _, .base (.tup (s1 _ _ hc)), kit_ty (by decide +kernel), _, rfl, ?_⟩
    refine ite2 (fun c => absurd c (by decide)) (fun _ => ?_)
    refine ⟨_, rfl, .ref wp, .ty "tuple", .type "tuple", .type "tuple", true, rfl, .ty _, .base (.tup (s1 _ _ hwp)), kit_ty (by decide +kernel), _, rfl, ?_⟩
    refine ite2 (fun c => absurd c (by decide)) (fun _ => ?_)
    refine ⟨_, rfl, wp, _, rfl, .inr (SqT.of (s1 _ _ hwp)), _, rfl, c, _, rfl, .inr (SqT.of (s1 _ _ hc)), rfl, _, rfl, ite2 (fun c => ?_) (fun _ => ?_)⟩
    · exfalso
      rw [List.length_map, List.length_map, lws, lcz, decide_eq_true rfl] at c
      exact absurd c (by decide)
    refine ⟨_, rfl, _, rfl, a, c, R, cz, rfl, hR.tl (TL.of s1), rs, .inr (s1 _ _ hc), fun wk H2 s2 nwk hwk => ?_⟩
    have s02 := s1.trans s2
    have hfp2 := s2 _ _ hfp
    have hc2 := s02 _ _ hc
    have hm2 := s02 _ _ hm
    have hwp2 := s02 _ _ hwp
    have hws2 := hws.tl (TL.of s02)
    have hR2 := hR.tl (TL.of s02)
    clear hR hm hc hwp hws hfp s1 s2
    -- the cuts may be cut
    refine ⟨_, rfl, c, rfl, ⟨_, SqT.of hc2⟩, fun D nD => ?_⟩
    refine lc_tup (fun j H' => H' D = some (.lst (([] : List Int).map V.int)) ∧ Same H2 H') ⟨upd_same, same_new nD⟩ (fun j H' _ hP => SqT.of (hP.2 _ _ hc2)) (fun j v H' hj hP => ?_) (fun H3 hP => ?_)
    · obtain ⟨hD, sm⟩ := hP
      obtain ⟨z, hz, rfl⟩ := List.mem_map.mp (List.mem_of_getElem? hj)
      obtain ⟨i, rfl, hi1, hi2, _⟩ := mcz z hz
      have inf : (i : Int) ∈ fr R := by
        unfold fr
        exact plc_mem.mpr ⟨i, hi1, hi2, rfl⟩
      refine ⟨rfl, _, rfl, _, rfl, fp, _, rfl, .inl (SqL.of (sm _ _ hfp2)), rfl, flat_ints _, _, rfl, ite2 (fun c => ?_) (fun _ => ⟨hD, sm⟩)⟩
      exfalso
      have c : (!inV (.int (i : Int)) ((fr R).map V.int)) = true := c
      rw [inV_ints, decide_eq_true inf] at c
      cases c
    · obtain ⟨hD, s3⟩ := hP
      refine ⟨Nat.zero_le _, fun e1 n1 => ?_⟩
      have m1 := same_new (o := .lst []) n1
      refine ⟨intsD [], intsD [], Dp_intsL (m1 _ _ hD), Dp_intsL upd_same, intsD_shaped _, intsD_shaped _, _, rfl, ?_⟩
      rw [intsD_eqv]
      refine ite2 (fun c => absurd c (by decide)) (fun _ => ?_)
      -- they rise
      have s4 := s3.trans m1
      refine ⟨_, rfl, c, _, rfl, .inr (SqT.of (s4 _ _ hc2)), fun lc nlc => ?_⟩
      have m5 := same_new (o := .lst (cz.map V.int)) nlc
      have hlc := upd_same (H := upd H3 e1 (.lst [])) (a := lc) (o := .lst (cz.map V.int))
      have s5 := s4.trans m5
      generalize upd (upd H3 e1 (.lst [])) lc (.lst (cz.map V.int)) = H5 at hlc s5 ⊢
      refine ⟨_, rfl, c, cz, rfl, SqT.of (s5 _ _ hc2), by omega, fun sp n nsp ln2 => ⟨sp, _, n, rfl, upd_same, by omega, fun ns np p1 p2 p3 p4 => ?_⟩⟩
      have m6 := same_new (o := SetO w sp (fun j => decide (j ∈ cz)) n) nsp
      have m7 := same_new (o := .lst (ns.map V.int)) p4
      have ens : cz = ns := sorted_ext srt p1 fun z => by rw [p2, decide_eq_true_eq]
      refine ⟨intsD cz, intsD ns, Dp_intsL ((m6.trans m7) _ _ hlc), Dp_intsL upd_same, intsD_shaped _, intsD_shaped _, _, rfl, ?_⟩
      rw [intsD_eqv, decide_eq_true ens]
      refine ite2 (fun c => absurd c (by decide)) (fun _ => ?_)
      have s7 := s5.trans (m6.trans m7)
      generalize upd (upd H5 sp (SetO w sp (fun j => decide (j ∈ cz)) n)) np (.lst (ns.map V.int)) = H7 at s7 ⊢
      have hfp7 := s7 _ _ hfp2
      have hc7 := s7 _ _ hc2
      have hm7 := s7 _ _ hm2
      have hwp7 := s7 _ _ hwp2
      have hws7 := hws2.tl (TL.of s7)
      have hR7 := hR2.tl (TL.of s7)
      have hwk7 := s7 _ _ hwk
      have s07 := s02.trans s7
      clear hD s3 m1 s4 m5 hlc s5 m6 m7 s7 hfp2 hc2 hm2 hwp2 hws2 hR2 hwk s02
      -- each stretch fits
      refine ⟨_, rfl, m, _, _, _, rfl, rfl, SqT.of hm7, at_nat (j := 1) rfl rfl, _, rfl, m, _, _, _, rfl, rfl, SqT.of hm7, at_nat (j := 2) rfl rfl, _, _, rfl, rfl, (by show 1 ≤ sizeLine; decide), fun z1 nz1 => ⟨_, rfl, ?_⟩⟩
      have m8 := same_new (o := .tup [.int 0]) nz1
      refine catA_of upd_same (m8 _ _ hc7) (by rw [List.length_map, List.length_singleton]; omega) fun tp H9 s9 htp => ⟨tp, rfl, ⟨_, SqT.of htp⟩, fun D nD => ?_⟩
      have s89 := m8.trans s9
      have htp : H9 tp = some (.tup (((0 : Int) :: cz).map V.int)) := htp
      refine lc_tup (fun j H' => H' D = some (.lst (((((0 : Int) :: cz).take j).map fun z => ((hvAt R (inI cz) z.toNat : Nat) : Int)).map V.int)) ∧ Same H9 H') ⟨upd_same, same_new nD⟩ (fun j H' _ hP => SqT.of (hP.2 _ _ htp)) (fun j v H' hj hP => ?_) (fun H10 hP => ?_)
      · obtain ⟨hD, sm⟩ := hP
        obtain ⟨z, hz, rfl⟩ : ∃ z, ((0 : Int) :: cz)[j]? = some z ∧ v = V.int z := by
          rw [List.getElem?_map] at hj
          cases hz : ((0 : Int) :: cz)[j]? with
          | none => rw [hz] at hj; cases hj
          | some z => rw [hz] at hj; exact ⟨z, rfl, (Option.some.inj hj).symm⟩
        obtain ⟨i, rfl, li⟩ : ∃ i : Nat, z = (i : Int) ∧ i < R.length := by
          rcases List.mem_cons.mp (List.mem_of_getElem? hz) with h | h
          · exact ⟨0, h, by omega⟩
          · obtain ⟨i, h1, h2, _⟩ := mcz z h
            exact ⟨i, h1, h2⟩
        have hwi : ((hvL R cz).map V.int)[i]? = some (V.int ((hvAt R (inI cz) i : Nat) : Int)) := by
          unfold hvL
          rw [List.getElem?_map, List.getElem?_map, List.getElem?_range li]
          rfl
        refine ⟨rfl, _, rfl, _, rfl, wk, _, _, _, rfl, rfl, SqL.of ((s89.trans sm) _ _ hwk7), at_nat (j := i) rfl hwi, _, hD, szt (by rw [List.length_map, List.length_map, List.length_take, List.length_cons]; omega), ?_, Same.mut (H := H9) sm nD⟩
        rw [upd_same, List.take_add_one, hz, List.map_append, List.map_append]
        rfl
      · obtain ⟨hD, s10⟩ := hP
        rw [List.length_map, List.take_length] at hD
        have s7a := s89.trans s10
        have hfpA := s7a _ _ hfp7
        have hmA := s7a _ _ hm7
        have hwpA := s7a _ _ hwp7
        have hwsA := hws7.tl (TL.of s7a)
        have hRA := hR7.tl (TL.of s7a)
        have s0A := s07.trans s7a
        clear m8 s9 s89 htp s7a hfp7 hc7 hm7 hwp7 hws7 hR7 hwk7 s07 nz1 nsp nlc p4
        refine ⟨D, _, rfl, SqL.of hD, by rw [List.length_map, List.length_cons]; omega, fun mx hmx _ => ⟨_, _, rfl, rfl, _, rfl, m, _, _, _, rfl, rfl, SqT.of hmA, at_nat (j := 0) rfl rfl, _, _, rfl, rfl, _, rfl, ite2 (fun c => ?_) (fun _ => ?_)⟩⟩
        · exfalso
          have c := of_decide_eq_true c
          obtain ⟨z, hz, rfl⟩ := List.mem_map.mp hmx
          obtain ⟨i, rfl, li⟩ : ∃ i : Nat, z = (i : Int) ∧ (i = 0 ∨ i ∈ zs.map (·.1)) := by
            rcases List.mem_cons.mp hz with h | h
            · exact ⟨0, h, .inl rfl⟩
            · obtain ⟨i, h1, _, _, h2⟩ := mcz z h
              exact ⟨i, h1, .inr h2⟩
          have := gd.fits (g := inI cz) (fun j _ => by
            unfold inI
            rw [decide_eq_true_eq, ecz, List.mem_map]
            exact ⟨fun ⟨y, h1, h2⟩ => by rw [show j = y by omega]; exact h1, fun h => ⟨j, h, rfl⟩⟩) i li
          rw [Int.toNat_natCast] at c
          omega
        -- the ways
        refine ⟨Nat.zero_le _, fun uh nuh => ?_⟩
        have m11 := same_new (o := .lst []) nuh
        have huh := upd_same (H := H10) (a := uh) (o := .lst [])
        generalize upd H10 uh (.lst []) = H11 at m11 huh ⊢
        refine ⟨_, rfl, wp, rfl, ⟨_, SqT.of (m11 _ _ hwpA)⟩, ?_⟩
        refine for_tup (fun i σ' H' => ∃ y7 y8 : Option V, σ' = [some (.ref a), some (.ref m), some (.ref c), some (.ref wp), some (.ref fp), some (.ref wk), some (.ref uh), y7, y8, none] ∧ H' uh = some (.lst (natV (usedB R ((wys 0 zs).take i)))) ∧ Same H10 H') ⟨none, none, rfl, huh, m11⟩ (fun i σ' H' _ hP => by obtain ⟨_, _, _, _, s⟩ := hP; exact SqT.of (s _ _ hwpA)) (fun i v σ' H12 hv hP => ?_) (fun σ' H12 hP => ?_)
        · obtain ⟨y7, y8, rfl, huh, sm⟩ := hP
          obtain ⟨wa, hwa1, rfl⟩ : ∃ wa, ws[i]? = some wa ∧ v = V.ref wa := by
            rw [List.getElem?_map] at hv
            cases hz : ws[i]? with
            | none => rw [hz] at hv; cases hv
            | some z => rw [hz] at hv; exact ⟨z, rfl, (Option.some.inj hv).symm⟩
          have li := (List.getElem?_eq_some_iff.mp hwa1).1
          obtain ⟨wy, hwy⟩ : ∃ wy, (wys 0 zs)[i]? = some wy := ⟨_, List.getElem?_eq_getElem (by omega)⟩
          have hwt := hwsA.2 i wa wy hwa1 hwy
          have tk : usedB R ((wys 0 zs).take (i + 1)) = usedB R ((wys 0 zs).take i) ++ wy.tail.filter (freeB R) := by
            unfold usedB
            rw [List.take_add_one, hwy, List.flatMap_append]
            simp
          have wl : ∀ (k : Nat) (x : List Nat), (wys 0 zs)[k]? = some x → x.length ≤ 60 := fun k x hx => by
            obtain ⟨⟨b, e, h1, h2, rfl⟩, _, _⟩ := gd.way (u := []) (fun x h => absurd h List.not_mem_nil) k x hx
            rw [List.length_range']
            omega
          have lus : (usedB R ((wys 0 zs).take i)).length ≤ 3600 := by
            have h1 := used_len (R := R) (n := 60) (js := (wys 0 zs).take i) fun x hx => by
              obtain ⟨k, hk, e⟩ := List.mem_iff_getElem.mp (List.mem_of_mem_take hx)
              exact wl k x (by rw [List.getElem?_eq_getElem hk, e])
            have h2 : ((wys 0 zs).take i).length ≤ 60 := by
              rw [List.length_take]
              omega
            exact Nat.le_trans h1 (Nat.mul_le_mul_right 60 h2)
          have wl1 := wl i wy hwy
          obtain ⟨⟨b, e, be, el, ew⟩, heavy, apart⟩ := gd.way (u := []) (fun x h => absurd h List.not_mem_nil) i wy hwy
          have apart : ∀ x ∈ wy.tail, x ∉ usedB R ((wys 0 zs).take i) := apart
          have lw : wy.length = e + 1 - b := by rw [ew, List.length_range']
          have lnw := natV_len wy
          have hwt12 := sm _ _ hwt
          obtain ⟨r1, r2⟩ := range_at (b := b) (n := e + 1 - b) (by omega)
          rw [← ew] at r1 r2
          have v0 : (natV wy)[0]? = some (V.int (b : Nat)) := by
            unfold natV
            rw [List.getElem?_map, r1]
            rfl
          have v1 : (natV wy)[(natV wy).length - 1]? = some (V.int (e : Nat)) := by
            rw [lnw, lw]
            unfold natV
            rw [List.getElem?_map, r2, show b + (e + 1 - b) - 1 = e by omega]
            rfl
          have mw : ∀ x ∈ wy, x < R.length := fun x hx => by
            rw [ew, List.mem_range'_1] at hx
            omega
          have er : rgV (b : Int) ((b : Int) + ((natV wy).length : Nat)) = natV wy := by
            have h1 := rg_nat b (b + (natV wy).length)
            rw [show b + (natV wy).length - b = e + 1 - b by omega, ← ew] at h1
            exact h1
          clear r1 r2 hwt
          -- the first test
          refine ⟨_, rfl, .ref wa, .ty "tuple", .type "tuple", .type "tuple", true, rfl, .ty _, .base (.tup hwt12), kit_ty (by decide +kernel), _, rfl, ?_⟩
          refine ite2 (fun c => absurd c (by decide)) (fun _ => ?_)
          refine ⟨_, rfl, wa, _, rfl, .inr (SqT.of hwt12), rfl, _, rfl, ite2 (fun c => ?_) (fun _ => ?_)⟩
          · exfalso
            have c := V.int.inj (of_decide_eq_true c)
            omega
          -- the second
          refine ⟨_, rfl, wa, _, rfl, .inr (SqT.of hwt12), fun l1 n1 => ?_⟩
          have m1 := same_new (o := .lst (natV wy)) n1
          have hl1 := upd_same (H := H12) (a := l1) (o := .lst (natV wy))
          have hwt13 := m1 _ _ hwt12
          have sm13 := sm.trans m1
          have huh13 := m1 _ _ huh
          generalize upd H12 l1 (.lst (natV wy)) = H13 at m1 hl1 hwt13 sm13 huh13 ⊢
          refine ⟨_, rfl, wa, _, _, _, rfl, rfl, SqT.of hwt13, at_nat (j := 0) rfl v0, _, rfl, wa, _, _, _, rfl, rfl, SqT.of hwt13, at_nat (j := 0) rfl v0, _, rfl, wa, _, rfl, .inr (SqT.of hwt13), _, _, rfl, rfl, _, _, rfl, rfl, RgOk.of_le (by omega) (by omega) (by omega) (by omega), fun l2 n2 => ?_⟩
          have m2 := same_new (o := .lst (rgV (b : Int) ((b : Int) + ((natV wy).length : Nat)))) n2
          have hl2 := upd_same (H := H13) (a := l2) (o := .lst (rgV (b : Int) ((b : Int) + ((natV wy).length : Nat))))
          have hl1 := m2 _ _ hl1
          have hwt14 := m2 _ _ hwt13
          have sm14 := sm13.trans m2
          have huh14 := m2 _ _ huh13
          generalize upd H13 l2 (.lst (rgV (b : Int) ((b : Int) + ((natV wy).length : Nat)))) = H14 at hl2 hl1 hwt14 sm14 huh14 ⊢
          rw [er, natV_int] at hl2
          rw [natV_int] at hl1
          refine ⟨intsD _, intsD _, Dp_intsL hl1, Dp_intsL hl2, intsD_shaped _, intsD_shaped _, _, rfl, ?_⟩
          rw [intsD_eqv, decide_eq_true rfl]
          refine ite2 (fun c => absurd c (by decide)) (fun _ => ?_)
          have hR14 := hRA.tl (TL.of sm14)
          obtain ⟨rv, hrv, lrv, hrow⟩ := id hR14
          refine ⟨_, rfl, wa, _, _, _, rfl, rfl, SqT.of hwt14, at_nat (j := 0) rfl v0, _, _, rfl, rfl, _, rfl, ite2 (fun _ => ?_) (fun c => absurd (decide_eq_true (show (0 : Int) ≤ (b : Nat) by omega)) c)⟩
          refine ⟨_, rfl, _, rfl, wa, _, _, _, rfl, rfl, SqT.of hwt14, at_end1 v1, _, _, rfl, rfl, _, rfl, ite2 (fun _ => ?_) (fun c => absurd (decide_eq_true (show ((b : Nat) : Int) ≤ (e : Nat) by omega)) c)⟩
          refine ⟨_, rfl, a, _, rfl, .inr (SqT.of hrv), _, _, rfl, rfl, _, rfl, ?_⟩
          refine ite2 (fun c => ?_) (fun _ => ?_)
          · exfalso
            rw [decide_eq_true (show ((e : Nat) : Int) < (rv.length : Nat) by omega)] at c
            exact absurd c (by decide)
          -- the work
          have hm14 := sm14 _ _ hmA
          have hfp14 := sm14 _ _ hfpA
          refine ⟨_, rfl, wa, rfl, ⟨_, SqT.of hwt14⟩, fun D nD => ?_⟩
          refine lc_tup (fun j H' => H' D = some (.lst ((((wy.take j).map (wkAt R)).map fun n => ((n : Nat) : Int)).map V.int)) ∧ Same H14 H') ⟨upd_same, same_new nD⟩ (fun j H' _ hP => SqT.of (hP.2 _ _ hwt14)) (fun j v H' hj hP => ?_) (fun H15 hP => ?_)
          · obtain ⟨hD, sm⟩ := hP
            obtain ⟨x, hx, rfl⟩ := natV_at hj
            have lx := mw x (List.mem_of_getElem? hx)
            have er1 : R[x]? = some (R[x]'lx) := List.getElem?_eq_getElem lx
            obtain ⟨v, hv1, hv2⟩ := hrow x _ er1
            have hv3 := hv2.tl (TL.of sm)
            obtain ⟨ra, its, rfl, _⟩ := id hv3
            have ew1 : wkAt R x = (R[x]'lx).wk := by
              unfold wkAt
              rw [er1]
            refine ⟨rfl, _, rfl, _, rfl, a, _, _, _, rfl, rfl, SqT.of (sm _ _ hrv), at_nat (j := x) rfl hv1, ra, x, _, rfl, hv3, rs.ok _ (List.mem_of_getElem? er1), fun H16 s16 => ⟨_, s16 _ _ hD, szt (by rw [List.length_map, List.length_map, List.length_map, List.length_take]; omega), ?_, Same.mut (H := H14) (sm.trans s16) nD⟩⟩
            rw [upd_same, List.take_add_one, hx, List.map_append, List.map_append, List.map_append, ← ew1]
            rfl
          · obtain ⟨hD, s15⟩ := hP
            rw [lnw, List.take_length] at hD
            refine ⟨D, _, rfl, SqL.of hD, ?_⟩
            rw [sum_cast]
            have hm15 := s15 _ _ hm14
            have hfp15 := s15 _ _ hfp14
            have hwt15 := s15 _ _ hwt14
            have huh15 := s15 _ _ huh14
            have sm15 := sm14.trans s15
            refine ⟨_, rfl, m, _, _, _, rfl, rfl, SqT.of hm15, at_nat (j := 1) rfl rfl, _, rfl, _, _, rfl, rfl, _, rfl, m, _, _, _, rfl, rfl, SqT.of hm15, at_nat (j := 2) rfl rfl, _, _, rfl, rfl, _, rfl, m, _, _, _, rfl, rfl, SqT.of hm15, at_nat (j := 0) rfl rfl, _, _, rfl, rfl, _, rfl, ite2 (fun c => ?_) (fun _ => ?_)⟩
            · exfalso
              have c := of_decide_eq_true c
              have hv : ch < op + ((wkS R wy : Nat) : Int) + pu := heavy
              have hv : ch < op + ((((wy.map (wkAt R)).sum : Nat)) : Int) + pu := hv
              omega
            -- none was used
            have nw : ¬ (HT.sIx (natV wy).length 0 (some 1) = 0 ∧ HT.sIx (natV wy).length (natV wy).length none = (natV wy).length) := fun h => by
              have h1 := h.1
              rw [show (some (1 : Int)) = some ((1 : Nat) : Int) from rfl, HT.sIx_nat] at h1
              omega
            refine ⟨_, rfl, _, rfl, wa, natV wy, rfl, SqT.of hwt15, fun hw => absurd hw nw, fun _ st nst => ⟨st, rfl, ⟨_, SqT.of upd_same⟩, fun D2 nD2 => ?_⟩⟩
            have m16 := same_new (o := .tup (cutV (natV wy) (some 1) none)) nst
            have hst := upd_same (H := H15) (a := st) (o := .tup (cutV (natV wy) (some 1) none))
            have huh16 := m16 _ _ huh15
            have hwt16 := m16 _ _ hwt15
            have hfp16 := m16 _ _ hfp15
            have sm16 := sm15.trans m16
            generalize upd H15 st (.tup (cutV (natV wy) (some 1) none)) = H16 at hst huh16 hwt16 hfp16 sm16 nD2 ⊢
            rw [cut_1] at hst
            refine lc_tup (fun j H' => H' D2 = some (.lst (([] : List Int).map V.int)) ∧ Same H16 H') ⟨upd_same, same_new nD2⟩ (fun j H' _ hP => SqT.of (hP.2 _ _ hst)) (fun j v H' hj hP => ?_) (fun H17 hP => ?_)
            · obtain ⟨hD, sm⟩ := hP
              obtain ⟨x, hx, rfl⟩ := natV_at hj
              refine ⟨rfl, _, rfl, _, rfl, uh, _, rfl, .inl (SqL.of (sm _ _ huh16)), rfl, flat_nat _, _, rfl, ite2 (fun c => ?_) (fun _ => ⟨hD, sm⟩)⟩
              exfalso
              have c : inV (.int (x : Nat)) (natV (usedB R ((wys 0 zs).take i))) = true := c
              rw [natV_in] at c
              exact apart x (List.mem_of_getElem? hx) (of_decide_eq_true c)
            · obtain ⟨hD, s17⟩ := hP
              refine ⟨Nat.zero_le _, fun e1 n1 => ?_⟩
              have m1 := same_new (o := .lst []) n1
              refine ⟨intsD [], intsD [], Dp_intsL (m1 _ _ hD), Dp_intsL upd_same, intsD_shaped _, intsD_shaped _, _, rfl, ?_⟩
              rw [intsD_eqv]
              refine ite2 (fun c => absurd c (by decide)) (fun _ => ?_)
              have s18 := s17.trans m1
              have huh18 := s18 _ _ huh16
              have hwt18 := s18 _ _ hwt16
              have hfp18 := s18 _ _ hfp16
              have sm18 := sm16.trans s18
              generalize upd H17 e1 (.lst []) = H18 at huh18 hwt18 hfp18 sm18 ⊢
              clear hD s17 m1 s18 hst m16 huh16 hwt16 hfp16 sm16 hm15 hfp15 hwt15 huh15 sm15
              -- used
              refine ⟨_, rfl, .inl ⟨rfl, _, SqL.of huh18⟩, _, rfl, _, rfl, wa, natV wy, rfl, SqT.of hwt18, fun hw => absurd hw nw, fun _ st nst => ⟨st, rfl, ⟨_, SqT.of upd_same⟩, fun D3 nD3 => ?_⟩⟩
              have m19 := same_new (o := .tup (cutV (natV wy) (some 1) none)) nst
              have hst := upd_same (H := H18) (a := st) (o := .tup (cutV (natV wy) (some 1) none))
              have huh19 := m19 _ _ huh18
              have hfp19 := m19 _ _ hfp18
              have sm19 := sm18.trans m19
              generalize upd H18 st (.tup (cutV (natV wy) (some 1) none)) = H19 at hst huh19 hfp19 sm19 nD3 ⊢
              rw [cut_1] at hst
              refine lc_tup (fun j H' => H' D3 = some (.lst (natV ((wy.tail.take j).filter (freeB R)))) ∧ Same H19 H') ⟨upd_same, same_new nD3⟩ (fun j H' _ hP => SqT.of (hP.2 _ _ hst)) (fun j v H' hj hP => ?_) (fun H20 hP => ?_)
              · obtain ⟨hD, sm⟩ := hP
                obtain ⟨x, hx, rfl⟩ := natV_at hj
                have lx := mw x (List.mem_of_mem_tail (List.mem_of_getElem? hx))
                have ef : inV (.int (x : Nat)) ((fr R).map V.int) = freeB R x := by
                  rw [inV_ints]
                  exact inI_fr lx
                have tk2 : (wy.tail.take (j + 1)).filter (freeB R) = (wy.tail.take j).filter (freeB R) ++ if freeB R x = true then [x] else [] := by
                  rw [List.take_add_one, hx, List.filter_append]
                  congr 1
                  simp [List.filter_cons]
                have lf : ((wy.tail.take j).filter (freeB R)).length ≤ 60 := by
                  have h1 := List.length_filter_le (freeB R) (wy.tail.take j)
                  rw [List.length_take, List.length_tail] at h1
                  omega
                refine ⟨rfl, _, rfl, _, rfl, fp, _, rfl, .inl (SqL.of (sm _ _ hfp19)), rfl, flat_ints _, _, rfl, ite2 (fun c => ?_) (fun c => ?_)⟩
                · have c : inV (.int (x : Nat)) ((fr R).map V.int) = true := c
                  rw [ef] at c
                  refine ⟨_, rfl, _, hD, szt (by rw [natV_len]; omega), ?_, Same.mut (H := H19) sm nD3⟩
                  rw [upd_same, tk2, if_pos c]
                  unfold natV
                  rw [List.map_append]
                  rfl
                · have c : ¬ inV (.int (x : Nat)) ((fr R).map V.int) = true := c
                  rw [ef] at c
                  refine ⟨?_, sm⟩
                  rw [tk2, if_neg c, List.append_nil]
                  exact hD
              · obtain ⟨hD, s20⟩ := hP
                rw [natV_len, List.take_length] at hD
                have huh20 := s20 _ _ huh19
                have lf : (wy.tail.filter (freeB R)).length ≤ 60 := by
                  have h1 := List.length_filter_le (freeB R) wy.tail
                  rw [List.length_tail] at h1
                  omega
                refine ⟨uh, D3, _, _, rfl, rfl, huh20, hD, szl (by rw [natV_len, natV_len]; omega), _, _, rfl, ?_, Same.mut (H := H10) (sm19.trans s20) nuh⟩
                rw [upd_same, tk]
                unfold natV
                rw [List.map_append]
        · obtain ⟨y7, y8, rfl, huh, sm⟩ := hP
          exact q H12 (s0A.trans sm)
end
end K36
namespace K36
open PySem PySem.Spec PyProof.Rows L2
/-! ### the least charge -/
theorem Tm.sz_lt : ∀ t : Tm, t.sz + 1 ≤ 2 ^ t.dp
  | .leaf => by
    show 1 + 1 ≤ 2 ^ 1
    decide
  | .op a b => by
    have h1 := Tm.sz_lt a
    have h2 := Tm.sz_lt b
    have p1 : 2 ^ a.dp ≤ 2 ^ max a.dp b.dp := Nat.pow_le_pow_right (by decide) (Nat.le_max_left _ _)
    have p2 : 2 ^ b.dp ≤ 2 ^ max a.dp b.dp := Nat.pow_le_pow_right (by decide) (Nat.le_max_right _ _)
    show 1 + a.sz + b.sz + 1 ≤ 2 ^ (1 + max a.dp b.dp)
    rw [Nat.add_comm 1 (max a.dp b.dp), Nat.pow_succ]
    omega
theorem Rw.wk_le {r : Rw} (h : r.ok6) : r.wk ≤ 64 := by
  have p6 : ∀ {t : Tm}, t.dp ≤ 6 → t.sz ≤ 64 := fun {t} h => by
    have h1 := t.sz_lt
    have h2 : 2 ^ t.dp ≤ 2 ^ 6 := Nat.pow_le_pow_right (by decide) h
    omega
  cases r with
  | set x t => exact p6 h
  | read x => show 2 ≤ 64; decide
  | tell t => exact p6 h
  | sure ns => show 1 ≤ 64; decide
  | fin => exact Nat.zero_le _
theorem hv_le {c : Nat → Bool} : ∀ {l : List Rw} {i : Nat}, (∀ r ∈ l, r.ok6) → hv c i l ≤ l.length * 64
  | [], _, _ => Nat.le_refl _
  | r :: l, i, h => by
    have h1 := Rw.wk_le (h r List.mem_cons_self)
    have h2 := hv_le (c := c) (l := l) (i := i + 1) fun x hx => h x (List.mem_cons_of_mem _ hx)
    show r.wk + (if c (i + 1) = true then 0 else hv c (i + 1) l) ≤ _
    rw [List.length_cons, Nat.succ_mul]
    split <;> omega
theorem RS.hv_le {R : List Rw} (h : RS R) (c : Nat → Bool) (i : Nat) : hvAt R c i ≤ 3776 := by
  have h1 := K36.hv_le (c := c) (l := R.drop i) (i := i) fun r hr => h.ok r (List.mem_of_mem_drop hr)
  have h2 : (R.drop i).length ≤ 59 := by
    rw [List.length_drop]
    have := h.len
    omega
  exact Nat.le_trans h1 (Nat.mul_le_mul_right 64 h2)
/-- what is needed: the works from the rows that may be cut, and from row 0 -/
def needL (R : List Rw) : List Int := ((0 : Int) :: fr R).map fun z => ((hvAt R (inI (fr R)) z.toNat : Nat) : Int)
theorem fit_need {R : List Rw} {op pu ch m : Int} (h1 : m ∈ needL R) (h2 : ∀ y, y ∈ needL R → y ≤ m) : fitB R op pu ch = decide (op + pu + m ≤ ch) := by
  unfold needL at h1 h2
  rw [Bool.eq_iff_iff, decide_eq_true_eq]
  unfold fitB
  rw [List.all_eq_true]
  constructor
  · intro h
    obtain ⟨z, h3, rfl⟩ := List.mem_map.mp h1
    have := of_decide_eq_true (h z h3)
    omega
  · intro h z hz
    have := h2 _ (List.mem_map.mpr ⟨z, hz, rfl⟩)
    exact decide_eq_true (by omega)
end K36
namespace K36
open PySem PySem.Spec PyProof.Rows L2
/-! ### the law -/
theorem tabs_kp {TT : TbS} {H H' : Hp} {F : Addr} (t : LamX.Tabs TT H) (f : FlAt H F) (k : Kp (Is F) H H') : LamX.Tabs TT H' := fun p hp => by
  obtain ⟨ps, h1, h2, h3⟩ := t p hp
  refine ⟨ps, k.k _ _ h1 (f.ne h1 fun _ _ _ z => nomatch z), h2, fun pos cv hc => ?_⟩
  obtain ⟨c, e, hco⟩ := h3 pos cv hc
  exact ⟨c, e, k.k _ _ hco (f.ne hco fun _ _ _ z => by unfold LamX.CodeO at z; cases z)⟩
theorem FlAt.ex {H H' : Hp} {F : Addr} (f : FlAt H F) (e : Ex H H') : FlAt H' F := by
  obtain ⟨a, b, c, h1, h2⟩ := f
  exact ⟨a, b, c, e.l h1, h2⟩
/-- the script: tracked, and not the flow; or written -/
def ScAt (K : PySem.W.Frag) (H : Hp) (a F : Addr) (xs : List V) : Prop := (Rd H a (.lst xs) ∧ a ≠ F) ∨ ∃ (o : Obj) (its : Array Value) (n : Nat), K.lookup a = some o ∧ o.cls = .type "list" ∧ o.dict = none ∧ o.data = .seq its n ∧ its.size ≤ sizeLine ∧ Vals xs its.toList
theorem ScAt.sq {K : PySem.W.Frag} {H : Hp} {a F : Addr} {xs : List V} (h : ScAt K H a F xs) : SqL K H a xs := h.imp (fun h => h.1) id
theorem ScAt.of {K : PySem.W.Frag} {H : Hp} {a F : Addr} {xs : List V} {o : HO} (h : SqL K H a xs) (n : H F = none) : ScAt K (upd H F o) a F xs := by
  rcases h with h | h
  · have ne : a ≠ F := by
      rcases h with h | ⟨ob, h⟩
      · exact ne_of_none h n
      · exact ne_of_none h n
    refine .inl ⟨?_, ne⟩
    rcases h with h | ⟨ob, h⟩
    · exact .inl (by rw [upd_ne ne]; exact h)
    · exact .inr ⟨ob, by rw [upd_ne ne]; exact h⟩
  · exact .inr h
theorem ScAt.kp {K : PySem.W.Frag} {H H' : Hp} {a F : Addr} {xs : List V} (h : ScAt K H a F xs) (k : Kp (Is F) H H') : ScAt K H' a F xs := by
  rcases h with ⟨h, ne⟩ | h
  · refine .inl ⟨?_, ne⟩
    rcases h with h | ⟨ob, h⟩
    · exact .inl (k.k _ _ h ne)
    · exact .inr ⟨ob, k.k _ _ h ne⟩
  · exact .inr h
theorem ScAt.ex {K : PySem.W.Frag} {H H' : Hp} {a F : Addr} {xs : List V} (h : ScAt K H a F xs) (e : Ex H H') : ScAt K H' a F xs := by
  rcases h with ⟨h, ne⟩ | h
  · refine .inl ⟨?_, ne⟩
    rcases h with h | ⟨ob, h⟩
    · exact .inl (e _ _ h fun _ z => nomatch z)
    · exact .inr ⟨ob, e _ _ h fun _ z => nomatch z⟩
  · exact .inr h
/-- what stands through an iteration -/
structure WdAt (K : PySem.W.Frag) (TT : TbS) (H : Hp) (a F p ra : Addr) (xs : List V) (R : List Rw) : Prop where
  sc : ScAt K H a F xs
  fl : FlAt H F
  pg : PgAt H p R
  rw' : RowsAt H ra (R ++ [.fin])
  tb : LamX.Tabs TT H
section
variable {K : PySem.W.Frag} {TT : TbS} {H H' : Hp} {a F p ra : Addr} {xs : List V} {R : List Rw}
theorem WdAt.kp (h : WdAt K TT H a F p ra xs R) (k : Kp (Is F) H H') (f : FlAt H' F) : WdAt K TT H' a F p ra xs R := ⟨h.sc.kp k, f, h.pg.tl k.t, h.rw'.tl k.t, tabs_kp h.tb h.fl k⟩
theorem WdAt.ex (h : WdAt K TT H a F p ra xs R) (e : Ex H H') (t : LamX.Tabs TT H') : WdAt K TT H' a F p ra xs R := ⟨h.sc.ex e, h.fl.ex e, h.pg.tl e.tl, h.rw'.tl e.tl, t⟩
theorem WdAt.sm (h : WdAt K TT H a F p ra xs R) (s : Same H H') : WdAt K TT H' a F p ra xs R := h.ex (LamX.ExtN.of s) (h.tb.ext s)
end
def spLaw (K : PySem.W.Frag) (TT : TbS) : Sp := fun vs H Q _ => ∃ (a : Addr) (ns : List Int), vs = [.ref a] ∧ SqL K H a (ns.map V.int) ∧ LamX.Tabs TT H ∧ ∀ H', Q (.bl true) H'
section
variable {P : Program} {w : World} {K : PySem.W.Frag} {mg : Str → Option Value} {base : Heap} {TT : TbS}
-- law (printed by gen.py); slots: 0 _law_script, 1 _law_k, 2 _law_flow_here, 3 _law_program_here, 4 _law_rows_here, 5 _law_opening, 6 _law_putting, 7 _law_works*, 8 _law_need, 9 _law_charge, 10 _law_limits, 11 _law_word, 12 _law_found, 13 _law_forked_here, 14 _law_at
abbrev nLaw : List Str := ["_law_script", "_law_k", "_law_flow_here", "_law_program_here", "_law_rows_here", "_law_opening", "_law_putting", "_law_works", "_law_need", "_law_charge", "_law_limits", "_law_word", "_law_found", "_law_forked_here", "_law_at"]
abbrev pLaw : List Str := ["_law_script"]
theorem scLaw : FnScope nLaw pLaw (defScope sLaw) := ⟨rfl, rfl, rfl, by decide +kernel, rfl, by decide +kernel, by decide +kernel⟩
theorem fn_nox {x q : Str} {st : Stmt} {dvs : List V} {N ps : List Str} {k : Nat} {sp : Sp} {f : Addr} {fd : FuncData} (F : FnP K x q st dvs f fd) (S : FnScope N ps (defScope st)) (len : ∀ vs H Q E, sp vs H Q E → vs.length = ps.length)
    (hbody : ∀ (cdv : Value) (A : Around) (outer : List Env) (s : Shared) (H : Hp) (vs : List V) (Q : VK) (E : XK), Room k (A.deeper (envOfC q (defScope st) s.heap.objs.size f cdv)) → sp vs H Q E →
      ∃ t, PSs (cxOf CX0 P w K mg base N q (defScope st) f cdv A outer s H E).nox (defBody st) t ∧ t { nx := fun _ H' => Q .non H', rt := Q } (start N vs) H) : FnOk P w K mg base CX0 (k + 1) f fd ps sp :=
  F.ok S len fun cdv A outer s H vs Q E hr h => let ⟨t, h1, h2⟩ := hbody cdv A outer s H vs Q E hr h; ⟨t, h1.nox, h2⟩
theorem ok_law {f : Addr} {fd : FuncData} (T : Bi mg) (a0 : FnP K "law" "law" sLaw [] f fd) (cLFlow : Cal P w K mg base CX0 "_law_flow" 2 pLFlow (spFlow K)) (cLStraight : Cal P w K mg base CX0 "_law_straight" 18 pLStraight spStraight) (cLRows : Cal P w K mg base CX0 "_law_rows" 2 pLRows spRows)
    (cLDraw : Cal P w K mg base CX0 "_law_draw" 1 pLDraw spD) (cLFree : Cal P w K mg base CX0 "_law_free" 4 pLFree spFreeL) (cLHeaviest : Cal P w K mg base CX0 "_law_heaviest" 8 pLHeaviest spHeavyL)
    (cToldS : Cal P w K mg base CX0 "_law_told" 13 pLTold (spToldS TT)) (cToldF : Cal P w K mg base CX0 "_law_told" 13 pLTold (spToldF K TT)) (cLRight : Cal P w K mg base CX0 "_law_right" 9 pLRight spRight) (cLForks : Cal P w K mg base CX0 "_law_forks" 2 pLForks (spForks K)) :
    FnOk P w K mg base CX0 19 f fd pLaw (spLaw K TT) := by
  refine fn_nox a0 scLaw (fun vs H Q E h => ?_) (fun cdv A outer s H vs Q E hr h => ?_)
  · obtain ⟨a, ns, rfl, _⟩ := h
    rfl
  · obtain ⟨a, ns, rfl, hS, tb, q⟩ := h
    refine ⟨_, (pss_cons (ps_for PassesOwn.never rfl (pi_range1 (by rfl) T.range (pa_cons (pe_callB (call_max2 rfl) (by rfl) T.max bo_max (pa_cons pe_int (pa_cons (pe_callB (call_min2 rfl) (by rfl) T.min bo_min (pa_cons pe_int (pa_cons (pe_callB call_len_seq (by rfl) T.len bo_len (pa_cons (pv 0) pa_nil)) pa_nil))) pa_nil))) pa_nil)) (pg_name (i := 1) scLaw.nd rfl (.inl rfl))
        (pss_cons (ps_set (i := 2) scLaw.nd rfl (.inl rfl) (pe_c cLFlow hr pass0 (pa_cons (pv 0) (pa_cons (pv 1) pa_nil)))) -- _law_flow_here = _law_flow(_law_script, _law_k)
        (pss_cons (ps_set (i := 3) scLaw.nd rfl (.inl rfl) (pe_c cLStraight hr pass0 (pa_cons (pv 2) pa_nil))) -- _law_program_here = _law_straight(_law_flow_here)
        (pss_cons (ps_set (i := 4) scLaw.nd rfl (.inl rfl) (pe_c cLRows hr pass0 (pa_cons (pv 3) pa_nil))) -- _law_rows_here = _law_rows(_law_program_here)
        (pss_cons (ps_par (i := 5) (j := 6) rfl scLaw.nd rfl rfl (by decide) rfl rfl (pa_cons (pe_c cLDraw hr pass0 (pa_cons (pv 2) (pa_cons pe_int pa_nil))) (pa_cons (pe_c cLDraw hr pass0 (pa_cons (pv 2) (pa_cons pe_int pa_nil))) pa_nil)) (by rfl)) -- _law_opening, _law_putting = (_law_draw(_law_flow_here, 21), _law_draw(_law_flow_here, 21))
        (pss_cons (ps_set (i := 7) scLaw.nd rfl (.inr rfl) (pe_c cLHeaviest hr pass0 (pa_cons (pv 4) (pa_cons (pe_c cLFree hr pass0 (pa_cons (pv 4) pa_nil)) pa_nil)))) -- _law_works = _law_heaviest(_law_rows_here, _law_free(_law_rows_here))
        (pss_cons (ps_set (i := 8) scLaw.nd rfl (.inl rfl) (pe_op op_add (pe_op op_add (pv 5) (pv 6)) (pe_callB (cr_max rfl) (by rfl) T.max bo_max (pa_cons (pe_lc (own := [("_law_at", 14)]) (g := gName 14) rfl scLaw.nd (pi_list (pe_op op_cat (pe_lst (pa_cons pe_int pa_nil)) (pe_c cLFree hr pass0 (pa_cons (pv 4) pa_nil)))) (blkOk_by (own := [("_law_at", 14)]) (N := nLaw) (sc := defScope sLaw) (by decide +kernel)) (fun _ _ _ _ _ => (pg_name (i := 14) scLaw.nd rfl (.inl rfl))) (fun _ _ _ _ _ => pts_nil) (fun _ _ _ _ _ => (pe_ix (ixL (K := K) rfl) (pv 7) (pv 14) (fun _ _ => rfl)))) pa_nil)))) -- _law_need = _law_opening + _law_putting + max([_law_works[_law_at] for _law_at in [0] + _law_free(_law_rows_he
        (pss_cons (ps_for PassesOwn.never rfl (pi_tup (pe_tup (pa_cons (pv 8) (pa_cons (pe_op op_add (pv 8) (pe_c cLDraw hr pass0 (pa_cons (pv 2) (pa_cons pe_int pa_nil)))) (pa_cons (pe_op op_add (pv 8) (pe_c cLDraw hr pass0 (pa_cons (pv 2) (pa_cons pe_int pa_nil)))) (pa_cons (pe_callB (call_max2 rfl) (by rfl) T.max bo_max (pa_cons pe_int (pa_cons (pe_op op_sub (pv 8) pe_int) pa_nil))) (pa_cons (pv 8) pa_nil))))))) (pg_name (i := 9) scLaw.nd rfl (.inl rfl))
          (pss_cons (ps_set (i := 10) scLaw.nd rfl (.inl rfl) (pe_tup (pa_cons (pv 9) (pa_cons (pv 5) (pa_cons (pv 6) pa_nil))))) -- _law_limits = (_law_charge, _law_opening, _law_putting)
          (pss_cons (ps_asg (pe_c cToldS hr pass0 (pa_cons (pv 3) (pa_cons (pv 10) pa_nil))) (pg_tup rfl (pgs_cons (pg_name (i := 11) scLaw.nd rfl (.inl rfl)) (pgs_cons (pg_name (i := 12) scLaw.nd rfl (.inl rfl)) pgs_nil)))) -- _law_word, _law_found = _law_told(_law_program_here, _law_limits)
          (pss_cons (ps_if (PW.pt (pw_or (pt_cmpR op_ne (pv 11) (pe_ix ix_list (pe_lst (pa_cons pe_str (pa_cons pe_str pa_nil))) (pe_callTy call_int1 (by rfl) T.int bo_int (pa_cons (pe_cmpR op_le (pv 8) (pv 9) (nomark _)) pa_nil)) (fun _ _ => rfl)) (nomark _)) (pw_or1 (PW.pt (pw_and (pt_cmpR op_eq (pv 11) pe_str (nomark _)) (pw_and1 (pt_val (pv 12))))))))
            (pss_one (ps_ret pe_bl))
            pss_nil) -- if _law_word != ['none', 'told'][int(_law_need <= _law_charge)] or (_law_word == 'none' and _law_found):
          (pss_cons (ps_if (PW.pt (pw_and (pt_cmpR op_eq (pv 11) pe_str (nomark _)) (pw_and1 (PW.pt (pw_or (pt_not (pt_val (pe_callB call_isi (by rfl) T.isinstance bo_isinstance (pa_cons (pv 12) (pa_cons (pe_bltn (v := .ty "tuple") (by rfl) T.tuple bo_tuple rfl) pa_nil))))) (pw_or1 (pt_cmpR op_ne (pe_callB call_len_seq (by rfl) T.len bo_len (pa_cons (pv 12) pa_nil)) pe_int (nomark _))))))))
            (pss_one (ps_ret pe_bl))
            pss_nil) -- if _law_word == 'told' and (not isinstance(_law_found, tuple) or len(_law_found) != 2):
          (pss_one (ps_if (PW.pt (pw_and (pt_cmpR op_eq (pv 11) pe_str (nomark _)) (pw_and1 (pt_not (pt_val (pe_c cLRight hr pass0 (pa_cons (pv 4) (pa_cons (pv 10) (pa_cons (pe_ix ix_tup (pv 12) pe_int (fun _ _ => rfl)) (pa_cons (pe_ix ix_tup (pv 12) pe_int (fun _ _ => rfl)) pa_nil))))))))))
            (pss_one (ps_ret pe_bl))
            pss_nil))))))) -- for _law_charge in (_law_need, _law_need + _law_draw(_law_flow_here, 12), _law_need + _law_draw(_law_flow_here
        (pss_one (ps_for PassesOwn.never rfl (pi_list (pe_c cLForks hr pass0 (pa_cons (pv 2) (pa_cons (pv 3) pa_nil)))) (pg_name (i := 13) scLaw.nd rfl (.inl rfl))
          (pss_one (ps_if (pt_cmpR (op_neD hr.units) (pe_c cToldF hr pass0 (pa_cons (pv 13) (pa_cons (pe_tup (pa_cons (pe_c cLDraw hr pass0 (pa_cons (pv 2) (pa_cons (pe_op op_add (pe_op op_mul pe_int (pv 8)) pe_int) pa_nil))) (pa_cons (pv 5) (pa_cons (pv 6) pa_nil)))) pa_nil))) (pe_tup (pa_cons pe_str (pa_cons pe_bl pa_nil))) (nomark _))
            (pss_one (ps_ret pe_bl))
            pss_nil)))))))))))) -- for _law_k in range(max(1, min(2, len(_law_script)))):
      (pss_one (ps_ret pe_bl))), ?_⟩
    obtain ⟨N, eN, lN⟩ : ∃ N : Nat, (if (if ((ns.map V.int).length : Int) < 2 then ((ns.map V.int).length : Int) else 2) > 1 then (if ((ns.map V.int).length : Int) < 2 then ((ns.map V.int).length : Int) else 2) else 1) = (N : Int) ∧ N ≤ 2 := by
      refine ⟨((if (if ((ns.map V.int).length : Int) < 2 then ((ns.map V.int).length : Int) else 2) > 1 then (if ((ns.map V.int).length : Int) < 2 then ((ns.map V.int).length : Int) else 2) else 1) : Int).toNat, ?_, ?_⟩
      · split <;> split <;> omega
      · split <;> split <;> omega
    refine ⟨_, rfl, a, _, rfl, .inl hS, _, _, rfl, _, _, rfl, N, congrArg (fun z => [V.int z]) eN, by omega, by omega, for_range (lo := 0) (n := N) (fun i σ' H' => ∃ y1 y2 y3 y4 y5 y6 y7 y8 y9 y10 y11 y12 y13 : Option V, σ' = [some (.ref a), y1, y2, y3, y4, y5, y6, y7, y8, y9, y10, y11, y12, y13, none] ∧ SqL K H' a (ns.map V.int) ∧ LamX.Tabs TT H')
      ⟨none, none, none, none, none, none, none, none, none, none, none, none, none, rfl, hS, tb⟩ (fun i σ' H1 hi hP => ?_) (fun σ' H1 hP => q H1)⟩
    obtain ⟨y1, y2, y3, y4, y5, y6, y7, y8, y9, y10, y11, y12, y13, rfl, hS, tb⟩ := hP
    rw [Int.zero_add]
    refine ⟨_, rfl, _, rfl, a, ns, (i : Int), rfl, hS, by omega, by omega, fun F z b c nF fg => ?_⟩
    have m2 := same_new (o := .lst [.int z, .int b, .int c]) nF
    have sc := ScAt.of (o := .lst [.int z, .int b, .int c]) hS nF
    have tb2 := tb.ext m2
    have fl2 : FlAt (upd H1 F (.lst [.int z, .int b, .int c])) F := ⟨z, b, c, upd_same, fg⟩
    generalize upd H1 F (.lst [.int z, .int b, .int c]) = H2 at m2 sc tb2 fl2 ⊢
    refine ⟨_, rfl, F, rfl, fl2, fun p R H3 fl3 k3 np pg3 => ?_⟩
    refine ⟨_, rfl, p, R, rfl, pg3, fun ra H4 k4 hR4 => ?_⟩
    have wd : WdAt K TT H4 a F p ra (ns.map V.int) R := ⟨(sc.kp k3).ex (LamX.ExtN.of k4.toSame), fl3.k k4 (fun e => e), pg3.tl k4.t, hR4, (tabs_kp tb2 fl2 k3).ext k4.toSame⟩
    have rs : RS (R ++ [.fin]) := by
      obtain ⟨_, _, _, _, cs, _, _, _, _, _, _, _, _, lR, lc, oR⟩ := pg3
      exact oR.rs lR lc
    clear sc tb2 fl2 fl3 k3 k4 np pg3 hR4 hS tb m2
    -- opening, putting
    refine ⟨_, rfl, F, 21, rfl, wd.fl, by decide, by decide, fun op H5 op0 op1 fl5 k5 => ⟨_, rfl, F, 21, rfl, fl5, by decide, by decide, fun pu H6 pu0 pu1 fl6 k6 => ⟨_, _, rfl, ?_⟩⟩⟩
    have wd := (wd.kp k5 fl5).kp k6 fl6
    clear fl5 k5 fl6 k6
    -- the works, what is needed
    refine ⟨_, rfl, _, rfl, ra, _, rfl, wd.rw', rs, fun fp H7 s7 nfp hfp => ⟨ra, fp, _, _, rfl, wd.rw'.tl (TL.of s7), rs, .inl hfp, fun wk H8 s8 nwk hwk => ?_⟩⟩
    have wd := (wd.sm s7).sm s8
    clear hfp s7 s8
    refine ⟨_, rfl, _, rfl, _, _, rfl, rfl, (by show 1 ≤ sizeLine; decide), fun z1 nz1 => ?_⟩
    have m9 := same_new (o := .lst [.int 0]) nz1
    have wd := wd.sm m9
    have hwk := m9 _ _ hwk
    have hz1 := upd_same (H := H8) (a := z1) (o := .lst [.int 0])
    generalize upd H8 z1 (.lst [.int 0]) = H9 at wd hwk hz1 ⊢
    refine ⟨_, rfl, ra, _, rfl, wd.rw', rs, fun fq H10 s10 nfq hfq => ?_⟩
    have lfr : (fr (R ++ [Rw.fin])).length ≤ (R ++ [Rw.fin]).length := plc_len
    have lnr := rs.len
    refine ⟨z1, fq, [.int 0], _, rfl, rfl, s10 _ _ hz1, hfq, szl (by rw [List.length_map]; show 1 + _ ≤ _; omega), fun cp ncp => ⟨cp, rfl, ⟨_, SqL.of upd_same⟩, fun D nD => ?_⟩⟩
    have m11 := same_new (o := .lst ([.int 0] ++ (fr (R ++ [.fin])).map V.int)) ncp
    have hcp : upd H10 cp (.lst ([.int 0] ++ (fr (R ++ [.fin])).map V.int)) cp = some (.lst (((0 : Int) :: fr (R ++ [.fin])).map V.int)) := upd_same
    have wd := (wd.sm s10).sm m11
    have hwk := (s10.trans m11) _ _ hwk
    generalize upd H10 cp (.lst ([.int 0] ++ (fr (R ++ [.fin])).map V.int)) = H11 at wd hwk hcp nD ⊢
    generalize hR' : R ++ [Rw.fin] = R' at rs hwk hcp lfr lnr ⊢
    refine lc_list (xs := ((0 : Int) :: fr R').map V.int) (fun j H' => H' D = some (.lst (((((0 : Int) :: fr R').take j).map fun z => ((hvAt R' (inI (fr R')) z.toNat : Nat) : Int)).map V.int)) ∧ Same H11 H') ⟨upd_same, same_new nD⟩ (fun j H' _ hP => SqL.of (hP.2 _ _ hcp)) (fun j v H' hj hP => ?_) (fun H12 hP => ?_)
    · obtain ⟨hD, sm⟩ := hP
      obtain ⟨z, hz, rfl⟩ : ∃ z, ((0 : Int) :: fr R')[j]? = some z ∧ v = V.int z := by
        rw [List.getElem?_map] at hj
        cases hz : ((0 : Int) :: fr R')[j]? with
        | none => rw [hz] at hj; cases hj
        | some z => rw [hz] at hj; exact ⟨z, rfl, (Option.some.inj hj).symm⟩
      obtain ⟨i', rfl, li⟩ : ∃ i' : Nat, z = (i' : Int) ∧ i' < R'.length := by
        rcases List.mem_cons.mp (List.mem_of_getElem? hz) with h | h
        · exact ⟨0, h, by omega⟩
        · obtain ⟨i', h1, _, h2⟩ := plc_mem.mp h
          exact ⟨i', h2, h1⟩
      have hwi : ((hvL R' (fr R')).map V.int)[i']? = some (V.int ((hvAt R' (inI (fr R')) i' : Nat) : Int)) := by
        unfold hvL
        rw [List.getElem?_map, List.getElem?_map, List.getElem?_range li]
        rfl
      refine ⟨rfl, _, rfl, _, rfl, wk, _, _, _, rfl, rfl, SqL.of (sm _ _ hwk), at_nat (j := i') rfl hwi, _, hD, szt (by rw [List.length_map, List.length_map, List.length_take, List.length_cons]; omega), ?_, Same.mut (H := H11) sm nD⟩
      rw [upd_same, List.take_add_one, hz, List.map_append, List.map_append]
      rfl
    · obtain ⟨hD, s12⟩ := hP
      rw [List.length_map, List.take_length] at hD
      have wd := wd.sm s12
      have hD : H12 D = some (.lst ((needL R').map V.int)) := hD
      refine ⟨D, needL R', rfl, SqL.of hD, by unfold needL; rw [List.length_map, List.length_cons]; omega, fun mx hmx hle => ⟨_, _, rfl, rfl, ?_⟩⟩
      have mx0 : 0 ≤ mx ∧ mx ≤ 3776 := by
        unfold needL at hmx
        obtain ⟨z, _, rfl⟩ := List.mem_map.mp hmx
        have := rs.hv_le (inI (fr R')) z.toNat
        omega
      have fit := fun ch => fit_need (op := op) (pu := pu) (ch := ch) hmx hle
      clear hmx hle hD s12 hwk hcp nD nz1 ncp hz1
      -- the charges
      refine ⟨_, rfl, _, rfl, _, rfl, F, 12, rfl, wd.fl, by decide, by decide, fun d1 H13 d10 d11 fl13 k13 => ⟨_, _, rfl, rfl, _, rfl, _, rfl, F, 60, rfl, fl13, by decide, by decide, fun d2 H14 d20 d21 fl14 k14 => ⟨_, _, rfl, rfl, ?_⟩⟩⟩
      have wd := (wd.kp k13 fl13).kp k14 fl14
      clear fl13 k13 fl14 k14
      refine ⟨_, rfl, _, _, rfl, rfl, _, _, rfl, _, rfl, (by show 5 ≤ sizeLine; decide), fun tt ntt => ?_⟩
      refine ⟨tt, rfl, ⟨_, SqT.of upd_same⟩, ?_⟩
      refine for_tup (fun j σ' H' => ∃ y9 y10 y11 y12 : Option V, σ' = [some (.ref a), some (.int (i : Nat)), some (.ref F), some (.ref p), some (.ref ra), some (.int op), some (.int pu), some (.ref wk), some (.int (op + pu + mx)), y9, y10, y11, y12, y13, none] ∧ WdAt K TT H' a F p ra (ns.map V.int) R ∧
        H' tt = some (.tup [.int (op + pu + mx), .int (op + pu + mx + d1), .int (op + pu + mx + d2), .int (if op + pu + mx - 1 > 0 then op + pu + mx - 1 else 0), .int (op + pu + mx)])) ⟨y9, y10, y11, y12, rfl, wd.sm (same_new ntt), upd_same⟩ (fun j σ' H' _ hP => by obtain ⟨_, _, _, _, _, _, h⟩ := hP; exact SqT.of h) (fun j v σ' H15 hv hP => ?_) (fun σ' H15 hP => ?_)
      · obtain ⟨y9, y10, y11, y12, rfl, wd, htt⟩ := hP
        obtain ⟨ch, rfl⟩ : ∃ ch, v = V.int ch := by
          have mv := List.mem_of_getElem? hv
          rcases List.mem_cons.mp mv with e | mv
          · exact ⟨_, e⟩
          rcases List.mem_cons.mp mv with e | mv
          · exact ⟨_, e⟩
          rcases List.mem_cons.mp mv with e | mv
          · exact ⟨_, e⟩
          rcases List.mem_cons.mp mv with e | mv
          · exact ⟨_, e⟩
          exact ⟨_, List.mem_singleton.mp mv⟩
        clear hv
        have fc := fit ch
        refine ⟨_, rfl, _, rfl, _, rfl, (by show 3 ≤ sizeLine; decide), fun lm nlm => ?_⟩
        have m16 := same_new (o := .tup [.int ch, .int op, .int pu]) nlm
        have hlm := upd_same (H := H15) (a := lm) (o := .tup [.int ch, .int op, .int pu])
        have wd := wd.sm m16
        have htt := m16 _ _ htt
        generalize upd H15 lm (.tup [.int ch, .int op, .int pu]) = H16 at hlm wd htt ⊢
        refine ⟨_, rfl, _, rfl, p, lm, ch, op, pu, R, rfl, wd.pg, hlm, wd.tb, fun fb r t zs H17 e17 tb17 gd td hr => ?_, fun fb r H17 e17 tb17 hr => ?_⟩
        · -- told
          rw [hR'] at fb gd
          rw [fb] at fc
          have le : op + pu + mx ≤ ch := of_decide_eq_true fc.symm
          have wd := wd.ex e17 tb17
          have htt := e17.tl _ _ htt
          have hlm := e17.tl _ _ hlm
          obtain ⟨c', wp, ws, ht, hc', hwp, hws⟩ := td
          refine ⟨r, _, rfl, SqT.of hr, rfl, _, _, rfl, _, _, rfl, rfl, ?_⟩
          refine ⟨_, rfl, (by show 2 ≤ sizeLine; decide), fun l1 nl1 => ?_⟩
          have m18 := same_new (o := .lst [.str "none", .str "told"]) nl1
          have hl1 := upd_same (H := H17) (a := l1) (o := .lst [.str "none", .str "told"])
          have wd := wd.sm m18
          have htt := m18 _ _ htt
          have hlm := m18 _ _ hlm
          have ht := m18 _ _ ht
          have hc' := m18 _ _ hc'
          have hwp := m18 _ _ hwp
          have hws := hws.tl (TL.of m18)
          generalize upd H17 l1 (.lst [.str "none", .str "told"]) = H18 at hl1 wd htt hlm ht hc' hwp hws ⊢
          refine ⟨_, rfl, _, rfl, _, _, rfl, rfl, .inr ⟨_, rfl, ?_⟩⟩
          rw [decide_eq_true le]
          refine ⟨l1, _, _, .str "told", rfl, rfl, SqL.of hl1, rfl, rfl, _, rfl, ite2 (fun c => absurd c (by decide +kernel)) (fun _ => ?_)⟩
          refine ⟨_, rfl, rfl, _, rfl, ite2 (fun c => absurd c (by decide +kernel)) (fun _ => ?_)⟩
          refine ite2 (fun c => absurd c (by decide)) (fun _ => ?_)
          refine ⟨_, rfl, rfl, _, rfl, ite2 (fun _ => ?_) (fun c => absurd (by decide +kernel) c)⟩
          refine ⟨_, rfl, .ref t, .ty "tuple", .type "tuple", .type "tuple", true, rfl, .ty _, .base (.tup ht), kit_ty (by decide +kernel), _, rfl, ?_⟩
          refine ite2 (fun c => absurd c (by decide)) (fun _ => ?_)
          refine ⟨_, rfl, t, _, rfl, .inr (SqT.of ht), rfl, _, rfl, ite2 (fun c => ?_) (fun _ => ?_)⟩
          · exfalso
            rw [decide_eq_true (show V.int (([V.ref c', V.ref wp].length : Nat) : Int) = V.int 2 from rfl)] at c
            exact absurd c (by decide)
          refine ⟨_, rfl, rfl, _, rfl, ite2 (fun _ => ?_) (fun c => absurd (by decide +kernel) c)⟩
          refine ⟨_, rfl, _, rfl, _, rfl, t, _, _, _, rfl, rfl, SqT.of ht, at_nat (j := 0) rfl rfl, _, rfl, t, _, _, _, rfl, rfl, SqT.of ht, at_nat (j := 1) rfl rfl, ra, lm, c', wp, ch, op, pu, R', zs, ws, rfl, by rw [← hR']; exact wd.rw', rs, hlm, hc', hwp, hws, gd, fun H19 s19 => ⟨_, rfl, ite2 (fun c => absurd c (by decide)) (fun _ => ?_)⟩⟩
          exact ⟨_, _, _, _, rfl, wd.sm s19, s19 _ _ htt⟩
        · -- none
          rw [hR'] at fb
          rw [fb] at fc
          have wd := wd.ex e17 tb17
          have htt := e17.tl _ _ htt
          refine ⟨r, _, rfl, SqT.of hr, rfl, _, _, rfl, _, _, rfl, rfl, ?_⟩
          refine ⟨_, rfl, (by show 2 ≤ sizeLine; decide), fun l1 nl1 => ?_⟩
          have m18 := same_new (o := .lst [.str "none", .str "told"]) nl1
          have hl1 := upd_same (H := H17) (a := l1) (o := .lst [.str "none", .str "told"])
          have wd := wd.sm m18
          have htt := m18 _ _ htt
          generalize upd H17 l1 (.lst [.str "none", .str "told"]) = H18 at hl1 wd htt ⊢
          refine ⟨_, rfl, _, rfl, _, _, rfl, rfl, .inr ⟨_, rfl, ?_⟩⟩
          refine ⟨l1, _, _, .str "none", rfl, rfl, SqL.of hl1, ?_, rfl, _, rfl, ite2 (fun c => absurd c (by decide +kernel)) (fun _ => ?_)⟩
          · show atI [V.str "none", V.str "told"] (if decide (op + pu + mx ≤ ch) = true then 1 else 0) = _
            rw [← fc]
            rfl
          refine ⟨_, rfl, rfl, _, rfl, ite2 (fun _ => ?_) (fun c => absurd (by decide +kernel) c)⟩
          refine ⟨_, rfl, _, rfl, ite2 (fun c => absurd c (by decide)) (fun _ => ?_)⟩
          refine ⟨_, rfl, rfl, _, rfl, ite2 (fun c => absurd c (by decide +kernel)) (fun _ => ?_)⟩
          refine ite2 (fun c => absurd c (by decide)) (fun _ => ?_)
          refine ⟨_, rfl, rfl, _, rfl, ite2 (fun c => absurd c (by decide +kernel)) (fun _ => ?_)⟩
          refine ite2 (fun c => absurd c (by decide)) (fun _ => ?_)
          exact ⟨_, _, _, _, rfl, wd, htt⟩
      · obtain ⟨y9, y10, y11, y12, rfl, wd, _⟩ := hP
        -- with a choice or a round
        refine ⟨_, rfl, _, rfl, F, p, R, rfl, wd.fl, wd.pg, fun L ps H16 fl16 k16 hL lps hps => ⟨L, rfl, ⟨_, SqL.of hL⟩, ?_⟩⟩
        have wd := wd.kp k16 fl16
        have nLF := wd.fl.ne hL fun _ _ _ e => by
          cases ps with
          | nil => cases lps
          | cons q ps => cases HO.lst.inj e
        refine for_list (fun j σ' H' => ∃ y13 : Option V, σ' = [some (.ref a), some (.int (i : Nat)), some (.ref F), some (.ref p), some (.ref ra), some (.int op), some (.int pu), some (.ref wk), some (.int (op + pu + mx)), y9, y10, y11, y12, y13, none] ∧ WdAt K TT H' a F p ra (ns.map V.int) R ∧ H' L = some (.lst (ps.map V.ref)) ∧ ∀ q ∈ ps, FkAt K H' q)
          ⟨y13, rfl, wd, hL, hps⟩ (fun j σ' H' _ hP => by obtain ⟨_, _, _, h, _⟩ := hP; exact SqL.of h) (fun j v σ' H17 hv hP => ?_) (fun σ' H17 hP => ?_)
        · obtain ⟨y13, rfl, wd, hL, hps⟩ := hP
          obtain ⟨fq, hfq, rfl⟩ := List.mem_map.mp (List.mem_of_getElem? hv)
          refine ⟨_, rfl, _, rfl, _, rfl, _, _, rfl, rfl, .inl (by constructor <;> decide), _, _, rfl, rfl, F, 2 * (op + pu + mx) + 1, rfl, wd.fl, by omega, by omega, fun d H18 d0 d1 fl18 k18 => ?_⟩
          have wd := wd.kp k18 fl18
          have hL := k18.k _ _ hL nLF
          have hps := fun q hq => (hps q hq).tl k18.t
          refine ⟨_, rfl, _, rfl, (by show 3 ≤ sizeLine; decide), fun lm nlm => ?_⟩
          have m19 := same_new (o := .tup [.int d, .int op, .int pu]) nlm
          have hlm := upd_same (H := H18) (a := lm) (o := .tup [.int d, .int op, .int pu])
          have wd := wd.sm m19
          have hL := m19 _ _ hL
          have hps := fun q hq => (hps q hq).tl (TL.of m19)
          generalize upd H18 lm (.tup [.int d, .int op, .int pu]) = H19 at hlm wd hL hps ⊢
          refine ⟨fq, lm, d, op, pu, rfl, hps fq hfq, hlm, wd.tb, fun r H20 e20 tb20 hr => ⟨(by show 2 ≤ sizeLine; decide), fun t2 nt2 => ?_⟩⟩
          have m21 := same_new (o := .tup [.str "forked", .bl false]) nt2
          have wd := (wd.ex e20 tb20).sm m21
          have hL := m21 _ _ (e20.l hL)
          have hps := fun q hq => ((hps q hq).tl e20.tl).tl (TL.of m21)
          have hr := m21 _ _ hr
          have ht2 := upd_same (H := H20) (a := t2) (o := .tup [.str "forked", .bl false])
          generalize upd H20 t2 (.tup [.str "forked", .bl false]) = H21 at wd hL hps hr ht2 ⊢
          refine ⟨.tuple [.str "forked", .bool false], .tuple [.str "forked", .bool false], .tup (SqT.of hr) (.cons (.str _) (.cons (.bl _) .nil)), .tup (SqT.of ht2) (.cons (.str _) (.cons (.bl _) .nil)), by decide +kernel, by decide +kernel, _, rfl, ite2 (fun c => absurd c (by decide +kernel)) (fun _ => ?_)⟩
          exact ⟨_, rfl, wd, hL, hps⟩
        · obtain ⟨y13, rfl, wd, _⟩ := hP
          exact ⟨_, _, _, _, _, _, _, _, _, _, _, _, _, rfl, wd.sc.sq, wd.tb⟩
end
end K36
namespace K36
open PySem PySem.Spec PyProof.Rows L2
-- uses T0
/-! ### the head: facts by names (the first part printed by genhead.py), the run -/
def dPartsOf : He.DefD := ⟨("parts_of", none), "parts_of", "parts_of", defArgs sPartsOf, defBody sPartsOf, defScope sPartsOf, [], []⟩
def dLayerInit : He.DefD := ⟨("Layer", some "__init__"), "__init__", "Layer.__init__", defArgs sLayerInit, defBody sLayerInit, defScope sLayerInit, [], []⟩
def dLayerLong : He.DefD := ⟨("Layer", some "long"), "long", "Layer.long", defArgs sLayerLong, defBody sLayerLong, defScope sLayerLong, [], []⟩
def dLayerLongOf : He.DefD := ⟨("Layer", some "long_of"), "long_of", "Layer.long_of", defArgs sLayerLongOf, defBody sLayerLongOf, defScope sLayerLongOf, [], []⟩
def dLayerLaid : He.DefD := ⟨("Layer", some "laid"), "laid", "Layer.laid", defArgs sLayerLaid, defBody sLayerLaid, defScope sLayerLaid, [], []⟩
def dLayerFlat : He.DefD := ⟨("Layer", some "flat"), "flat", "Layer.flat", defArgs sLayerFlat, defBody sLayerFlat, defScope sLayerFlat, [], []⟩
def dLayerLaidOne : He.DefD := ⟨("Layer", some "laid_one"), "laid_one", "Layer.laid_one", defArgs sLayerLaidOne, defBody sLayerLaidOne, defScope sLayerLaidOne, [], []⟩
def dRowsOf : He.DefD := ⟨("rows_of", none), "rows_of", "rows_of", defArgs sRowsOf, defBody sRowsOf, defScope sRowsOf, [], []⟩
def dWorkOf : He.DefD := ⟨("work_of", none), "work_of", "work_of", defArgs sWorkOf, defBody sWorkOf, defScope sWorkOf, [], []⟩
def dLeadsTo : He.DefD := ⟨("leads_to", none), "leads_to", "leads_to", defArgs sLeadsTo, defBody sLeadsTo, defScope sLeadsTo, [], []⟩
def dWrittenBy : He.DefD := ⟨("written_by", none), "written_by", "written_by", defArgs sWrittenBy, defBody sWrittenBy, defScope sWrittenBy, [], []⟩
def dSureNames : He.DefD := ⟨("sure_names", none), "sure_names", "sure_names", defArgs sSureNames, defBody sSureNames, defScope sSureNames, [], []⟩
def dWantedRows : He.DefD := ⟨("wanted_rows", none), "wanted_rows", "wanted_rows", defArgs sWantedRows, defBody sWantedRows, defScope sWantedRows, [], []⟩
def dAllNames : He.DefD := ⟨("all_names", none), "all_names", "all_names", defArgs sAllNames, defBody sAllNames, defScope sAllNames, [], []⟩
def dBarredIn : He.DefD := ⟨("barred_in", none), "barred_in", "barred_in", defArgs sBarredIn, defBody sBarredIn, defScope sBarredIn, [], []⟩
def dRingAmong : He.DefD := ⟨("ring_among", none), "ring_among", "ring_among", defArgs sRingAmong, defBody sRingAmong, defScope sRingAmong, [], []⟩
def dHoldIn : He.DefD := ⟨("hold_in", none), "hold_in", "hold_in", defArgs sHoldIn, defBody sHoldIn, defScope sHoldIn, [], []⟩
def dHeaviestWays : He.DefD := ⟨("heaviest_ways", none), "heaviest_ways", "heaviest_ways", defArgs sHeaviestWays, defBody sHeaviestWays, defScope sHeaviestWays, [], []⟩
def dHeaviestFrom : He.DefD := ⟨("heaviest_from", none), "heaviest_from", "heaviest_from", defArgs sHeaviestFrom, defBody sHeaviestFrom, defScope sHeaviestFrom, [], []⟩
def dFitIn : He.DefD := ⟨("fit_in", none), "fit_in", "fit_in", defArgs sFitIn, defBody sFitIn, defScope sFitIn, [], []⟩
def dLimitsInit : He.DefD := ⟨("Limits", some "__init__"), "__init__", "Limits.__init__", defArgs sLimitsInit, defBody sLimitsInit, defScope sLimitsInit, [.int 1, .int 1], []⟩
def dLimitsTaken : He.DefD := ⟨("Limits", some "taken"), "taken", "Limits.taken", defArgs sLimitsTaken, defBody sLimitsTaken, defScope sLimitsTaken, [], []⟩
def dWorkAlong : He.DefD := ⟨("work_along", none), "work_along", "work_along", defArgs sWorkAlong, defBody sWorkAlong, defScope sWorkAlong, [], []⟩
def dFinest : He.DefD := ⟨("finest", none), "finest", "finest", defArgs sFinest, defBody sFinest, defScope sFinest, [], []⟩
def dTooHeavy : He.DefD := ⟨("too_heavy", none), "too_heavy", "too_heavy", defArgs sTooHeavy, defBody sTooHeavy, defScope sTooHeavy, [], []⟩
def dFewest : He.DefD := ⟨("fewest", none), "fewest", "fewest", defArgs sFewest, defBody sFewest, defScope sFewest, [], []⟩
def dLCell : He.DefD := ⟨("_law_cell", none), "_law_cell", "_law_cell", defArgs sLCell, defBody sLCell, defScope sLCell, [], []⟩
def dLFlow : He.DefD := ⟨("_law_flow", none), "_law_flow", "_law_flow", defArgs sLFlow, defBody sLFlow, defScope sLFlow, [], []⟩
def dLDraw : He.DefD := ⟨("_law_draw", none), "_law_draw", "_law_draw", defArgs sLDraw, defBody sLDraw, defScope sLDraw, [], []⟩
def dLNames : He.DefD := ⟨("_law_names", none), "_law_names", "_law_names", defArgs sLNames, defBody sLNames, defScope sLNames, [], []⟩
def dLTerm : He.DefD := ⟨("_law_term", none), "_law_term", "_law_term", defArgs sLTerm, defBody sLTerm, defScope sLTerm, [], []⟩
def dLRoom : He.DefD := ⟨("_law_room", none), "_law_room", "_law_room", defArgs sLRoom, defBody sLRoom, defScope sLRoom, [], []⟩
def dLSure : He.DefD := ⟨("_law_sure", none), "_law_sure", "_law_sure", defArgs sLSure, defBody sLSure, defScope sLSure, [], []⟩
def dLRead : He.DefD := ⟨("_law_read", none), "_law_read", "_law_read", defArgs sLRead, defBody sLRead, defScope sLRead, [], []⟩
def dLSmall : He.DefD := ⟨("_law_small", none), "_law_small", "_law_small", defArgs sLSmall, defBody sLSmall, defScope sLSmall, [], []⟩
def dLShare : He.DefD := ⟨("_law_share", none), "_law_share", "_law_share", defArgs sLShare, defBody sLShare, defScope sLShare, [], []⟩
def dLForked : He.DefD := ⟨("_law_forked", none), "_law_forked", "_law_forked", defArgs sLForked, defBody sLForked, defScope sLForked, [], []⟩
def dLRound : He.DefD := ⟨("_law_round", none), "_law_round", "_law_round", defArgs sLRound, defBody sLRound, defScope sLRound, [], []⟩
def dLAgain : He.DefD := ⟨("_law_again", none), "_law_again", "_law_again", defArgs sLAgain, defBody sLAgain, defScope sLAgain, [], []⟩
def dLBody : He.DefD := ⟨("_law_body", none), "_law_body", "_law_body", defArgs sLBody, defBody sLBody, defScope sLBody, [], []⟩
def dLHelpers : He.DefD := ⟨("_law_helpers", none), "_law_helpers", "_law_helpers", defArgs sLHelpers, defBody sLHelpers, defScope sLHelpers, [], []⟩
def dLProgram : He.DefD := ⟨("_law_program", none), "_law_program", "_law_program", defArgs sLProgram, defBody sLProgram, defScope sLProgram, [], []⟩
def dLLay : He.DefD := ⟨("_law_lay", none), "_law_lay", "_law_lay", defArgs sLLay, defBody sLLay, defScope sLLay, [], []⟩
def dLRows : He.DefD := ⟨("_law_rows", none), "_law_rows", "_law_rows", defArgs sLRows, defBody sLRows, defScope sLRows, [], []⟩
def dLParts : He.DefD := ⟨("_law_parts", none), "_law_parts", "_law_parts", defArgs sLParts, defBody sLParts, defScope sLParts, [], []⟩
def dLWork : He.DefD := ⟨("_law_work", none), "_law_work", "_law_work", defArgs sLWork, defBody sLWork, defScope sLWork, [], []⟩
def dLLeads : He.DefD := ⟨("_law_leads", none), "_law_leads", "_law_leads", defArgs sLLeads, defBody sLLeads, defScope sLLeads, [], []⟩
def dLWritten : He.DefD := ⟨("_law_written", none), "_law_written", "_law_written", defArgs sLWritten, defBody sLWritten, defScope sLWritten, [], []⟩
def dLWanted : He.DefD := ⟨("_law_wanted", none), "_law_wanted", "_law_wanted", defArgs sLWanted, defBody sLWanted, defScope sLWanted, [], []⟩
def dLSureNames : He.DefD := ⟨("_law_sure_names", none), "_law_sure_names", "_law_sure_names", defArgs sLSureNames, defBody sLSureNames, defScope sLSureNames, [], []⟩
def dLBarred : He.DefD := ⟨("_law_barred", none), "_law_barred", "_law_barred", defArgs sLBarred, defBody sLBarred, defScope sLBarred, [], []⟩
def dLHeaviest : He.DefD := ⟨("_law_heaviest", none), "_law_heaviest", "_law_heaviest", defArgs sLHeaviest, defBody sLHeaviest, defScope sLHeaviest, [], []⟩
def dLFree : He.DefD := ⟨("_law_free", none), "_law_free", "_law_free", defArgs sLFree, defBody sLFree, defScope sLFree, [], []⟩
def dLStraight : He.DefD := ⟨("_law_straight", none), "_law_straight", "_law_straight", defArgs sLStraight, defBody sLStraight, defScope sLStraight, [], []⟩
def dLForks : He.DefD := ⟨("_law_forks", none), "_law_forks", "_law_forks", defArgs sLForks, defBody sLForks, defScope sLForks, [], []⟩
def dLTold : He.DefD := ⟨("_law_told", none), "_law_told", "_law_told", defArgs sLTold, defBody sLTold, defScope sLTold, [], []⟩
def dLRight : He.DefD := ⟨("_law_right", none), "_law_right", "_law_right", defArgs sLRight, defBody sLRight, defScope sLRight, [], []⟩
def dLaw : He.DefD := ⟨("law", none), "law", "law", defArgs sLaw, defBody sLaw, defScope sLaw, [], []⟩
def fnD0 : List He.DefD := [dPartsOf, dLayerInit, dLayerLong, dLayerLongOf, dLayerLaid, dLayerFlat, dLayerLaidOne, dRowsOf, dWorkOf, dLeadsTo, dWrittenBy, dSureNames, dWantedRows, dAllNames, dBarredIn, dRingAmong, dHoldIn, dHeaviestWays, dHeaviestFrom, dFitIn, dLimitsInit, dLimitsTaken, dWorkAlong, dFinest, dTooHeavy, dFewest, dLCell, dLFlow, dLDraw, dLNames]
def fnD1 : List He.DefD := [dLTerm, dLRoom, dLSure, dLRead, dLSmall, dLShare, dLForked, dLRound, dLAgain, dLBody, dLHelpers, dLProgram, dLLay, dLRows, dLParts, dLWork, dLLeads, dLWritten, dLWanted, dLSureNames, dLBarred, dLHeaviest, dLFree, dLStraight, dLForks, dLTold, dLRight, dLaw]
def fnD : List He.DefD := fnD0 ++ fnD1
def faD0 : List He.Fa := [.glo "FitError", .glo "TooMany", .glo "NoFit", .glo "NotStraight", .glo "parts_of", .glo "Layer", .glo "rows_of", .glo "work_of", .glo "leads_to", .glo "written_by", .glo "sure_names", .glo "wanted_rows", .glo "all_names", .glo "barred_in", .glo "ring_among", .glo "hold_in", .glo "heaviest_ways", .glo "heaviest_from", .glo "fit_in", .glo "Limits"]
def faD1 : List He.Fa := [.glo "work_along", .glo "finest", .glo "too_heavy", .glo "fewest", .glo "_law_cell", .glo "_law_flow", .glo "_law_draw", .glo "_law_names", .glo "_law_term", .glo "_law_room", .glo "_law_sure", .glo "_law_read", .glo "_law_small", .glo "_law_share", .glo "_law_forked", .glo "_law_round", .glo "_law_again", .glo "_law_body", .glo "_law_helpers", .glo "_law_program"]
def faD2 : List He.Fa := [.glo "_law_lay", .glo "_law_rows", .glo "_law_parts", .glo "_law_work", .glo "_law_leads", .glo "_law_written", .glo "_law_wanted", .glo "_law_sure_names", .glo "_law_barred", .glo "_law_heaviest", .glo "_law_free", .glo "_law_straight", .glo "_law_forks", .glo "_law_told", .glo "_law_right", .glo "law", .free "len", .free "range", .free "sum", .free "tuple"]
def faD3 : List He.Fa := [.free "list", .free "dict", .free "int", .free "isinstance", .free "sorted", .free "reversed", .free "enumerate", .free "any", .free "all", .free "set", .free "max", .free "min", .int "MOST_ROWS" 60, .cls "Layer", .noat "Layer" "helpers", .meth "Layer" "long", .meth "Layer" "long_of", .meth "Layer" "laid", .meth "Layer" "flat", .meth "Layer" "laid_one"]
def faD4 : List He.Fa := [.mkr "Layer", .cls "Limits", .noat "Limits" "charge", .noat "Limits" "opening", .noat "Limits" "putting", .meth "Limits" "taken", .mkr "Limits", .exc "NoFit", .exc "NotStraight", .exm "NoFit" "NoFit" true, .exm "NotStraight" "NoFit" false, .exm "NotStraight" "NotStraight" true]
def faD : List He.Fa := faD0 ++ faD1 ++ faD2 ++ faD3 ++ faD4
def looseN0 : List PySem.Str := ["__name__", "FitError", "TooMany", "NoFit", "NotStraight", "parts_of", "MOST_ROWS", "Layer", "rows_of", "work_of", "leads_to", "written_by", "sure_names", "wanted_rows", "all_names", "barred_in", "ring_among", "hold_in", "heaviest_ways", "heaviest_from"]
def looseN1 : List PySem.Str := ["fit_in", "Limits", "work_along", "finest", "too_heavy", "fewest", "_law_cell", "_law_flow", "_law_draw", "_law_names", "_law_term", "_law_room", "_law_sure", "_law_read", "_law_small", "_law_share", "_law_forked", "_law_round", "_law_again", "_law_body"]
def looseN2 : List PySem.Str := ["_law_helpers", "_law_program", "_law_lay", "_law_rows", "_law_parts", "_law_work", "_law_leads", "_law_written", "_law_wanted", "_law_sure_names", "_law_barred", "_law_heaviest", "_law_free", "_law_straight", "_law_forks", "_law_told", "_law_right"]
def looseN : List PySem.Str := looseN0 ++ looseN1 ++ looseN2
/-- what isinstance asks of an own exception class -/
def excCB (K : PySem.W.Frag) (x : Str) : Bool := He.eqO (PySem.W.findIn K (.ref (He.ga K x)) "__getattribute__") (some (some (.builtin "BaseException.__getattribute__"))) && (He.eqO (PySem.W.findIn K (.ref (He.ga K x)) "__getattr__") (some none) &&
  (decide (PySem.W.subIn K (.ref (He.ga K x)) (.type "BaseException") = some true) && (PySem.W.hasDictIn K (He.ga K x) && (He.eqO (PySem.W.findIn K (.ref (He.ga K x)) "__class__") (some (some (.builtin "object.__class__"))) &&
  (He.eqO (PySem.W.specialIn K (.builtin "object.__class__") "__get__") (some (some (.builtin "getset_descriptor.__get__"))) && (decide (PySem.W.takesIn K (.builtin "object.__class__") = some true) && decide (PySem.W.mroIn K (He.ga K x) (.type "object") = some true)))))))
def exB (K : PySem.W.Frag) : Bool := excCB K "NoFit" && (excCB K "NotStraight" && (decide (PySem.W.kitOne K (.ref (He.ga K "NoFit")) (.ref (He.ga K "NotStraight")) = some false) && decide (PySem.W.kitOne K (.ref (He.ga K "NotStraight")) (.ref (He.ga K "NoFit")) = some false)))
abbrev lawR : PySem.W.OpenRow := PySem.W.OpenLaw.row PySem.Challenge.rw_dimfits_k36_whole_fewest_cuts
abbrev tfD : List He.Defn := [("heaviest_from", none)]
abbrev lawHk : PySem.W.Hook := He.hookX 4 faD fnD [] tfD exB
def lawOb (s : PySem.W.SharedT) : He.AlX := He.obsX 4 faD fnD [] tfD exB (HandSHeadRun.getT s)
theorem lawOb_eq (s : PySem.W.SharedT) : lawOb s = lawHk.obs s.abs := He.obsX_eq (HandSHeadRun.getT_eq s)
end K36
namespace K36
open PySem PySem.Spec PyProof.Rows L2
-- uses T0 H1
set_option maxHeartbeats 0 in
theorem lawRun (w : World) : HandSHeadRun.RunEq lawR (PySem.W.view lawR.prog [64]) lawHk lawOb 60000 looseN w := by
  intro os
  kernel_rfl
end K36
namespace K36
open PySem PySem.Spec PyProof.Rows L2
/-! ### the facts of each def (printed by genfacts.py) -/
theorem atPartsOf {K : PySem.W.Frag} {h : Heap} {mg : Str → Option Value} (X : K.In h) (G : h.Ns mainGlobals mg) (c : He.SaysD faD fnD K) : At K mg "parts_of" sPartsOf pPartsOf := by
  obtain ⟨fd, F⟩ := c.def_ 0 (d := dPartsOf) rfl
  have F : FnP K "parts_of" "parts_of" sPartsOf [] (He.ga K "parts_of") fd := F
  exact ⟨_, fd, F, He.glo_ok X G (c.fact 4 (f := .glo "parts_of") rfl), FunD.bindsN (ps := pPartsOf) F fun _ _ _ _ _ _ us hl => match us, hl with | [_], _ => rfl⟩
theorem atLayerInit {K : PySem.W.Frag} {h : Heap} {mg : Str → Option Value} (X : K.In h) (G : h.Ns mainGlobals mg) (c : He.SaysD faD fnD K) : KAt K mg "Layer" sLayerInit [] pLayerInit := by
  obtain ⟨fd, F⟩ := c.def_ 1 (d := dLayerInit) rfl
  have F : FnP K "__init__" "Layer.__init__" sLayerInit [] (He.ma K (He.ga K "Layer") "__init__") fd := F
  exact ⟨_, fd, F, He.mkr_ok (c.fact 80 (f := .mkr "Layer") rfl), He.glo_ok X G (c.fact 5 (f := .glo "Layer") rfl), FunD.bindsN (ps := pLayerInit) F fun _ _ _ _ _ _ us hl => match us, hl with | [_, _], _ => rfl⟩
theorem atLayerLong {K : PySem.W.Frag} {h : Heap} {mg : Str → Option Value} (X : K.In h) (G : h.Ns mainGlobals mg) (c : He.SaysD faD fnD K) : MAt K "Layer" "long" sLayerLong pLayerLong := by
  obtain ⟨fd, F⟩ := c.def_ 2 (d := dLayerLong) rfl
  have F : FnP K "long" "Layer.long" sLayerLong [] (He.ma K (He.ga K "Layer") "long") fd := F
  exact ⟨_, fd, F, He.meth_ok (c.fact 75 (f := .meth "Layer" "long") rfl), FunD.bindsN (ps := pLayerLong) F fun _ _ _ _ _ _ us hl => match us, hl with | [_, _], _ => rfl⟩
theorem atLayerLongOf {K : PySem.W.Frag} {h : Heap} {mg : Str → Option Value} (X : K.In h) (G : h.Ns mainGlobals mg) (c : He.SaysD faD fnD K) : MAt K "Layer" "long_of" sLayerLongOf pLayerLongOf := by
  obtain ⟨fd, F⟩ := c.def_ 3 (d := dLayerLongOf) rfl
  have F : FnP K "long_of" "Layer.long_of" sLayerLongOf [] (He.ma K (He.ga K "Layer") "long_of") fd := F
  exact ⟨_, fd, F, He.meth_ok (c.fact 76 (f := .meth "Layer" "long_of") rfl), FunD.bindsN (ps := pLayerLongOf) F fun _ _ _ _ _ _ us hl => match us, hl with | [_, _], _ => rfl⟩
theorem atLayerLaid {K : PySem.W.Frag} {h : Heap} {mg : Str → Option Value} (X : K.In h) (G : h.Ns mainGlobals mg) (c : He.SaysD faD fnD K) : MAt K "Layer" "laid" sLayerLaid pLayerLaid := by
  obtain ⟨fd, F⟩ := c.def_ 4 (d := dLayerLaid) rfl
  have F : FnP K "laid" "Layer.laid" sLayerLaid [] (He.ma K (He.ga K "Layer") "laid") fd := F
  exact ⟨_, fd, F, He.meth_ok (c.fact 77 (f := .meth "Layer" "laid") rfl), FunD.bindsN (ps := pLayerLaid) F fun _ _ _ _ _ _ us hl => match us, hl with | [_, _, _, _], _ => rfl⟩
theorem atLayerFlat {K : PySem.W.Frag} {h : Heap} {mg : Str → Option Value} (X : K.In h) (G : h.Ns mainGlobals mg) (c : He.SaysD faD fnD K) : MAt K "Layer" "flat" sLayerFlat pLayerFlat := by
  obtain ⟨fd, F⟩ := c.def_ 5 (d := dLayerFlat) rfl
  have F : FnP K "flat" "Layer.flat" sLayerFlat [] (He.ma K (He.ga K "Layer") "flat") fd := F
  exact ⟨_, fd, F, He.meth_ok (c.fact 78 (f := .meth "Layer" "flat") rfl), FunD.bindsN (ps := pLayerFlat) F fun _ _ _ _ _ _ us hl => match us, hl with | [_, _], _ => rfl⟩
theorem atLayerLaidOne {K : PySem.W.Frag} {h : Heap} {mg : Str → Option Value} (X : K.In h) (G : h.Ns mainGlobals mg) (c : He.SaysD faD fnD K) : MAt K "Layer" "laid_one" sLayerLaidOne pLayerLaidOne := by
  obtain ⟨fd, F⟩ := c.def_ 6 (d := dLayerLaidOne) rfl
  have F : FnP K "laid_one" "Layer.laid_one" sLayerLaidOne [] (He.ma K (He.ga K "Layer") "laid_one") fd := F
  exact ⟨_, fd, F, He.meth_ok (c.fact 79 (f := .meth "Layer" "laid_one") rfl), FunD.bindsN (ps := pLayerLaidOne) F fun _ _ _ _ _ _ us hl => match us, hl with | [_, _, _, _], _ => rfl⟩
theorem atRowsOf {K : PySem.W.Frag} {h : Heap} {mg : Str → Option Value} (X : K.In h) (G : h.Ns mainGlobals mg) (c : He.SaysD faD fnD K) : At K mg "rows_of" sRowsOf pRowsOf := by
  obtain ⟨fd, F⟩ := c.def_ 7 (d := dRowsOf) rfl
  have F : FnP K "rows_of" "rows_of" sRowsOf [] (He.ga K "rows_of") fd := F
  exact ⟨_, fd, F, He.glo_ok X G (c.fact 6 (f := .glo "rows_of") rfl), FunD.bindsN (ps := pRowsOf) F fun _ _ _ _ _ _ us hl => match us, hl with | [_], _ => rfl⟩
theorem atWorkOf {K : PySem.W.Frag} {h : Heap} {mg : Str → Option Value} (X : K.In h) (G : h.Ns mainGlobals mg) (c : He.SaysD faD fnD K) : At K mg "work_of" sWorkOf pWorkOf := by
  obtain ⟨fd, F⟩ := c.def_ 8 (d := dWorkOf) rfl
  have F : FnP K "work_of" "work_of" sWorkOf [] (He.ga K "work_of") fd := F
  exact ⟨_, fd, F, He.glo_ok X G (c.fact 7 (f := .glo "work_of") rfl), FunD.bindsN (ps := pWorkOf) F fun _ _ _ _ _ _ us hl => match us, hl with | [_], _ => rfl⟩
theorem atLeadsTo {K : PySem.W.Frag} {h : Heap} {mg : Str → Option Value} (X : K.In h) (G : h.Ns mainGlobals mg) (c : He.SaysD faD fnD K) : At K mg "leads_to" sLeadsTo pLeadsTo := by
  obtain ⟨fd, F⟩ := c.def_ 9 (d := dLeadsTo) rfl
  have F : FnP K "leads_to" "leads_to" sLeadsTo [] (He.ga K "leads_to") fd := F
  exact ⟨_, fd, F, He.glo_ok X G (c.fact 8 (f := .glo "leads_to") rfl), FunD.bindsN (ps := pLeadsTo) F fun _ _ _ _ _ _ us hl => match us, hl with | [_], _ => rfl⟩
theorem atWrittenBy {K : PySem.W.Frag} {h : Heap} {mg : Str → Option Value} (X : K.In h) (G : h.Ns mainGlobals mg) (c : He.SaysD faD fnD K) : At K mg "written_by" sWrittenBy pWrittenBy := by
  obtain ⟨fd, F⟩ := c.def_ 10 (d := dWrittenBy) rfl
  have F : FnP K "written_by" "written_by" sWrittenBy [] (He.ga K "written_by") fd := F
  exact ⟨_, fd, F, He.glo_ok X G (c.fact 9 (f := .glo "written_by") rfl), FunD.bindsN (ps := pWrittenBy) F fun _ _ _ _ _ _ us hl => match us, hl with | [_], _ => rfl⟩
theorem atSureNames {K : PySem.W.Frag} {h : Heap} {mg : Str → Option Value} (X : K.In h) (G : h.Ns mainGlobals mg) (c : He.SaysD faD fnD K) : At K mg "sure_names" sSureNames pSureNames := by
  obtain ⟨fd, F⟩ := c.def_ 11 (d := dSureNames) rfl
  have F : FnP K "sure_names" "sure_names" sSureNames [] (He.ga K "sure_names") fd := F
  exact ⟨_, fd, F, He.glo_ok X G (c.fact 10 (f := .glo "sure_names") rfl), FunD.bindsN (ps := pSureNames) F fun _ _ _ _ _ _ us hl => match us, hl with | [_], _ => rfl⟩
theorem atWantedRows {K : PySem.W.Frag} {h : Heap} {mg : Str → Option Value} (X : K.In h) (G : h.Ns mainGlobals mg) (c : He.SaysD faD fnD K) : At K mg "wanted_rows" sWantedRows pWantedRows := by
  obtain ⟨fd, F⟩ := c.def_ 12 (d := dWantedRows) rfl
  have F : FnP K "wanted_rows" "wanted_rows" sWantedRows [] (He.ga K "wanted_rows") fd := F
  exact ⟨_, fd, F, He.glo_ok X G (c.fact 11 (f := .glo "wanted_rows") rfl), FunD.bindsN (ps := pWantedRows) F fun _ _ _ _ _ _ us hl => match us, hl with | [_, _], _ => rfl⟩
theorem atAllNames {K : PySem.W.Frag} {h : Heap} {mg : Str → Option Value} (X : K.In h) (G : h.Ns mainGlobals mg) (c : He.SaysD faD fnD K) : At K mg "all_names" sAllNames pAllNames := by
  obtain ⟨fd, F⟩ := c.def_ 13 (d := dAllNames) rfl
  have F : FnP K "all_names" "all_names" sAllNames [] (He.ga K "all_names") fd := F
  exact ⟨_, fd, F, He.glo_ok X G (c.fact 12 (f := .glo "all_names") rfl), FunD.bindsN (ps := pAllNames) F fun _ _ _ _ _ _ us hl => match us, hl with | [_], _ => rfl⟩
theorem atBarredIn {K : PySem.W.Frag} {h : Heap} {mg : Str → Option Value} (X : K.In h) (G : h.Ns mainGlobals mg) (c : He.SaysD faD fnD K) : At K mg "barred_in" sBarredIn pBarredIn := by
  obtain ⟨fd, F⟩ := c.def_ 14 (d := dBarredIn) rfl
  have F : FnP K "barred_in" "barred_in" sBarredIn [] (He.ga K "barred_in") fd := F
  exact ⟨_, fd, F, He.glo_ok X G (c.fact 13 (f := .glo "barred_in") rfl), FunD.bindsN (ps := pBarredIn) F fun _ _ _ _ _ _ us hl => match us, hl with | [_], _ => rfl⟩
theorem atRingAmong {K : PySem.W.Frag} {h : Heap} {mg : Str → Option Value} (X : K.In h) (G : h.Ns mainGlobals mg) (c : He.SaysD faD fnD K) : At K mg "ring_among" sRingAmong pRingAmong := by
  obtain ⟨fd, F⟩ := c.def_ 15 (d := dRingAmong) rfl
  have F : FnP K "ring_among" "ring_among" sRingAmong [] (He.ga K "ring_among") fd := F
  exact ⟨_, fd, F, He.glo_ok X G (c.fact 14 (f := .glo "ring_among") rfl), FunD.bindsN (ps := pRingAmong) F fun _ _ _ _ _ _ us hl => match us, hl with | [_, _], _ => rfl⟩
theorem atHoldIn {K : PySem.W.Frag} {h : Heap} {mg : Str → Option Value} (X : K.In h) (G : h.Ns mainGlobals mg) (c : He.SaysD faD fnD K) : At K mg "hold_in" sHoldIn pHoldIn := by
  obtain ⟨fd, F⟩ := c.def_ 16 (d := dHoldIn) rfl
  have F : FnP K "hold_in" "hold_in" sHoldIn [] (He.ga K "hold_in") fd := F
  exact ⟨_, fd, F, He.glo_ok X G (c.fact 15 (f := .glo "hold_in") rfl), FunD.bindsN (ps := pHoldIn) F fun _ _ _ _ _ _ us hl => match us, hl with | [_, _], _ => rfl⟩
theorem atHeaviestWays {K : PySem.W.Frag} {h : Heap} {mg : Str → Option Value} (X : K.In h) (G : h.Ns mainGlobals mg) (c : He.SaysD faD fnD K) : At K mg "heaviest_ways" sHeaviestWays pHeaviestWays := by
  obtain ⟨fd, F⟩ := c.def_ 17 (d := dHeaviestWays) rfl
  have F : FnP K "heaviest_ways" "heaviest_ways" sHeaviestWays [] (He.ga K "heaviest_ways") fd := F
  exact ⟨_, fd, F, He.glo_ok X G (c.fact 16 (f := .glo "heaviest_ways") rfl), FunD.bindsN (ps := pHeaviestWays) F fun _ _ _ _ _ _ us hl => match us, hl with | [_, _], _ => rfl⟩
theorem atFitIn {K : PySem.W.Frag} {h : Heap} {mg : Str → Option Value} (X : K.In h) (G : h.Ns mainGlobals mg) (c : He.SaysD faD fnD K) : At K mg "fit_in" sFitIn pFitIn := by
  obtain ⟨fd, F⟩ := c.def_ 19 (d := dFitIn) rfl
  have F : FnP K "fit_in" "fit_in" sFitIn [] (He.ga K "fit_in") fd := F
  exact ⟨_, fd, F, He.glo_ok X G (c.fact 18 (f := .glo "fit_in") rfl), FunD.bindsN (ps := pFitIn) F fun _ _ _ _ _ _ us hl => match us, hl with | [_, _, _], _ => rfl⟩
theorem atLimitsTaken {K : PySem.W.Frag} {h : Heap} {mg : Str → Option Value} (X : K.In h) (G : h.Ns mainGlobals mg) (c : He.SaysD faD fnD K) : MAt K "Limits" "taken" sLimitsTaken pLimitsTaken := by
  obtain ⟨fd, F⟩ := c.def_ 21 (d := dLimitsTaken) rfl
  have F : FnP K "taken" "Limits.taken" sLimitsTaken [] (He.ma K (He.ga K "Limits") "taken") fd := F
  exact ⟨_, fd, F, He.meth_ok (c.fact 85 (f := .meth "Limits" "taken") rfl), FunD.bindsN (ps := pLimitsTaken) F fun _ _ _ _ _ _ us hl => match us, hl with | [_, _], _ => rfl⟩
theorem atWorkAlong {K : PySem.W.Frag} {h : Heap} {mg : Str → Option Value} (X : K.In h) (G : h.Ns mainGlobals mg) (c : He.SaysD faD fnD K) : At K mg "work_along" sWorkAlong pWorkAlong := by
  obtain ⟨fd, F⟩ := c.def_ 22 (d := dWorkAlong) rfl
  have F : FnP K "work_along" "work_along" sWorkAlong [] (He.ga K "work_along") fd := F
  exact ⟨_, fd, F, He.glo_ok X G (c.fact 20 (f := .glo "work_along") rfl), FunD.bindsN (ps := pWorkAlong) F fun _ _ _ _ _ _ us hl => match us, hl with | [_, _], _ => rfl⟩
theorem atFinest {K : PySem.W.Frag} {h : Heap} {mg : Str → Option Value} (X : K.In h) (G : h.Ns mainGlobals mg) (c : He.SaysD faD fnD K) : At K mg "finest" sFinest pFinest := by
  obtain ⟨fd, F⟩ := c.def_ 23 (d := dFinest) rfl
  have F : FnP K "finest" "finest" sFinest [] (He.ga K "finest") fd := F
  exact ⟨_, fd, F, He.glo_ok X G (c.fact 21 (f := .glo "finest") rfl), FunD.bindsN (ps := pFinest) F fun _ _ _ _ _ _ us hl => match us, hl with | [_], _ => rfl⟩
theorem atTooHeavy {K : PySem.W.Frag} {h : Heap} {mg : Str → Option Value} (X : K.In h) (G : h.Ns mainGlobals mg) (c : He.SaysD faD fnD K) : At K mg "too_heavy" sTooHeavy pTooHeavy := by
  obtain ⟨fd, F⟩ := c.def_ 24 (d := dTooHeavy) rfl
  have F : FnP K "too_heavy" "too_heavy" sTooHeavy [] (He.ga K "too_heavy") fd := F
  exact ⟨_, fd, F, He.glo_ok X G (c.fact 22 (f := .glo "too_heavy") rfl), FunD.bindsN (ps := pTooHeavy) F fun _ _ _ _ _ _ us hl => match us, hl with | [_, _, _], _ => rfl⟩
theorem atFewest {K : PySem.W.Frag} {h : Heap} {mg : Str → Option Value} (X : K.In h) (G : h.Ns mainGlobals mg) (c : He.SaysD faD fnD K) : At K mg "fewest" sFewest pFewest := by
  obtain ⟨fd, F⟩ := c.def_ 25 (d := dFewest) rfl
  have F : FnP K "fewest" "fewest" sFewest [] (He.ga K "fewest") fd := F
  exact ⟨_, fd, F, He.glo_ok X G (c.fact 23 (f := .glo "fewest") rfl), FunD.bindsN (ps := pFewest) F fun _ _ _ _ _ _ us hl => match us, hl with | [_, _], _ => rfl⟩
theorem atLCell {K : PySem.W.Frag} {h : Heap} {mg : Str → Option Value} (X : K.In h) (G : h.Ns mainGlobals mg) (c : He.SaysD faD fnD K) : At K mg "_law_cell" sLCell pLCell := by
  obtain ⟨fd, F⟩ := c.def_ 26 (d := dLCell) rfl
  have F : FnP K "_law_cell" "_law_cell" sLCell [] (He.ga K "_law_cell") fd := F
  exact ⟨_, fd, F, He.glo_ok X G (c.fact 24 (f := .glo "_law_cell") rfl), FunD.bindsN (ps := pLCell) F fun _ _ _ _ _ _ us hl => match us, hl with | [_, _], _ => rfl⟩
theorem atLFlow {K : PySem.W.Frag} {h : Heap} {mg : Str → Option Value} (X : K.In h) (G : h.Ns mainGlobals mg) (c : He.SaysD faD fnD K) : At K mg "_law_flow" sLFlow pLFlow := by
  obtain ⟨fd, F⟩ := c.def_ 27 (d := dLFlow) rfl
  have F : FnP K "_law_flow" "_law_flow" sLFlow [] (He.ga K "_law_flow") fd := F
  exact ⟨_, fd, F, He.glo_ok X G (c.fact 25 (f := .glo "_law_flow") rfl), FunD.bindsN (ps := pLFlow) F fun _ _ _ _ _ _ us hl => match us, hl with | [_, _], _ => rfl⟩
theorem atLDraw {K : PySem.W.Frag} {h : Heap} {mg : Str → Option Value} (X : K.In h) (G : h.Ns mainGlobals mg) (c : He.SaysD faD fnD K) : At K mg "_law_draw" sLDraw pLDraw := by
  obtain ⟨fd, F⟩ := c.def_ 28 (d := dLDraw) rfl
  have F : FnP K "_law_draw" "_law_draw" sLDraw [] (He.ga K "_law_draw") fd := F
  exact ⟨_, fd, F, He.glo_ok X G (c.fact 26 (f := .glo "_law_draw") rfl), FunD.bindsN (ps := pLDraw) F fun _ _ _ _ _ _ us hl => match us, hl with | [_, _], _ => rfl⟩
theorem atLNames {K : PySem.W.Frag} {h : Heap} {mg : Str → Option Value} (X : K.In h) (G : h.Ns mainGlobals mg) (c : He.SaysD faD fnD K) : At K mg "_law_names" sLNames pLNames := by
  obtain ⟨fd, F⟩ := c.def_ 29 (d := dLNames) rfl
  have F : FnP K "_law_names" "_law_names" sLNames [] (He.ga K "_law_names") fd := F
  exact ⟨_, fd, F, He.glo_ok X G (c.fact 27 (f := .glo "_law_names") rfl), FunD.bindsN (ps := pLNames) F fun _ _ _ _ _ _ us hl => match us, hl with | [_, _], _ => rfl⟩
theorem atLTerm {K : PySem.W.Frag} {h : Heap} {mg : Str → Option Value} (X : K.In h) (G : h.Ns mainGlobals mg) (c : He.SaysD faD fnD K) : At K mg "_law_term" sLTerm pLTerm := by
  obtain ⟨fd, F⟩ := c.def_ 30 (d := dLTerm) rfl
  have F : FnP K "_law_term" "_law_term" sLTerm [] (He.ga K "_law_term") fd := F
  exact ⟨_, fd, F, He.glo_ok X G (c.fact 28 (f := .glo "_law_term") rfl), FunD.bindsN (ps := pLTerm) F fun _ _ _ _ _ _ us hl => match us, hl with | [_, _, _], _ => rfl⟩
theorem atLRoom {K : PySem.W.Frag} {h : Heap} {mg : Str → Option Value} (X : K.In h) (G : h.Ns mainGlobals mg) (c : He.SaysD faD fnD K) : At K mg "_law_room" sLRoom pLRoom := by
  obtain ⟨fd, F⟩ := c.def_ 31 (d := dLRoom) rfl
  have F : FnP K "_law_room" "_law_room" sLRoom [] (He.ga K "_law_room") fd := F
  exact ⟨_, fd, F, He.glo_ok X G (c.fact 29 (f := .glo "_law_room") rfl), FunD.bindsN (ps := pLRoom) F fun _ _ _ _ _ _ us hl => match us, hl with | [_, _], _ => rfl⟩
theorem atLSure {K : PySem.W.Frag} {h : Heap} {mg : Str → Option Value} (X : K.In h) (G : h.Ns mainGlobals mg) (c : He.SaysD faD fnD K) : At K mg "_law_sure" sLSure pLSure := by
  obtain ⟨fd, F⟩ := c.def_ 32 (d := dLSure) rfl
  have F : FnP K "_law_sure" "_law_sure" sLSure [] (He.ga K "_law_sure") fd := F
  exact ⟨_, fd, F, He.glo_ok X G (c.fact 30 (f := .glo "_law_sure") rfl), FunD.bindsN (ps := pLSure) F fun _ _ _ _ _ _ us hl => match us, hl with | [_, _, _], _ => rfl⟩
theorem atLRead {K : PySem.W.Frag} {h : Heap} {mg : Str → Option Value} (X : K.In h) (G : h.Ns mainGlobals mg) (c : He.SaysD faD fnD K) : At K mg "_law_read" sLRead pLRead := by
  obtain ⟨fd, F⟩ := c.def_ 33 (d := dLRead) rfl
  have F : FnP K "_law_read" "_law_read" sLRead [] (He.ga K "_law_read") fd := F
  exact ⟨_, fd, F, He.glo_ok X G (c.fact 31 (f := .glo "_law_read") rfl), FunD.bindsN (ps := pLRead) F fun _ _ _ _ _ _ us hl => match us, hl with | [_, _, _], _ => rfl⟩
theorem atLSmall {K : PySem.W.Frag} {h : Heap} {mg : Str → Option Value} (X : K.In h) (G : h.Ns mainGlobals mg) (c : He.SaysD faD fnD K) : At K mg "_law_small" sLSmall pLSmall := by
  obtain ⟨fd, F⟩ := c.def_ 34 (d := dLSmall) rfl
  have F : FnP K "_law_small" "_law_small" sLSmall [] (He.ga K "_law_small") fd := F
  exact ⟨_, fd, F, He.glo_ok X G (c.fact 32 (f := .glo "_law_small") rfl), FunD.bindsN (ps := pLSmall) F fun _ _ _ _ _ _ us hl => match us, hl with | [_, _, _], _ => rfl⟩
theorem atLShare {K : PySem.W.Frag} {h : Heap} {mg : Str → Option Value} (X : K.In h) (G : h.Ns mainGlobals mg) (c : He.SaysD faD fnD K) : At K mg "_law_share" sLShare pLShare := by
  obtain ⟨fd, F⟩ := c.def_ 35 (d := dLShare) rfl
  have F : FnP K "_law_share" "_law_share" sLShare [] (He.ga K "_law_share") fd := F
  exact ⟨_, fd, F, He.glo_ok X G (c.fact 33 (f := .glo "_law_share") rfl), FunD.bindsN (ps := pLShare) F fun _ _ _ _ _ _ us hl => match us, hl with | [_, _, _, _], _ => rfl⟩
theorem atLForked {K : PySem.W.Frag} {h : Heap} {mg : Str → Option Value} (X : K.In h) (G : h.Ns mainGlobals mg) (c : He.SaysD faD fnD K) : At K mg "_law_forked" sLForked pLForked := by
  obtain ⟨fd, F⟩ := c.def_ 36 (d := dLForked) rfl
  have F : FnP K "_law_forked" "_law_forked" sLForked [] (He.ga K "_law_forked") fd := F
  exact ⟨_, fd, F, He.glo_ok X G (c.fact 34 (f := .glo "_law_forked") rfl), FunD.bindsN (ps := pLForked) F fun _ _ _ _ _ _ us hl => match us, hl with | [_, _, _, _], _ => rfl⟩
theorem atLRound {K : PySem.W.Frag} {h : Heap} {mg : Str → Option Value} (X : K.In h) (G : h.Ns mainGlobals mg) (c : He.SaysD faD fnD K) : At K mg "_law_round" sLRound pLRound := by
  obtain ⟨fd, F⟩ := c.def_ 37 (d := dLRound) rfl
  have F : FnP K "_law_round" "_law_round" sLRound [] (He.ga K "_law_round") fd := F
  exact ⟨_, fd, F, He.glo_ok X G (c.fact 35 (f := .glo "_law_round") rfl), FunD.bindsN (ps := pLRound) F fun _ _ _ _ _ _ us hl => match us, hl with | [_, _, _, _], _ => rfl⟩
theorem atLAgain {K : PySem.W.Frag} {h : Heap} {mg : Str → Option Value} (X : K.In h) (G : h.Ns mainGlobals mg) (c : He.SaysD faD fnD K) : At K mg "_law_again" sLAgain pLAgain := by
  obtain ⟨fd, F⟩ := c.def_ 38 (d := dLAgain) rfl
  have F : FnP K "_law_again" "_law_again" sLAgain [] (He.ga K "_law_again") fd := F
  exact ⟨_, fd, F, He.glo_ok X G (c.fact 36 (f := .glo "_law_again") rfl), FunD.bindsN (ps := pLAgain) F fun _ _ _ _ _ _ us hl => match us, hl with | [_, _, _], _ => rfl⟩
theorem atLBody {K : PySem.W.Frag} {h : Heap} {mg : Str → Option Value} (X : K.In h) (G : h.Ns mainGlobals mg) (c : He.SaysD faD fnD K) : At K mg "_law_body" sLBody pLBody := by
  obtain ⟨fd, F⟩ := c.def_ 39 (d := dLBody) rfl
  have F : FnP K "_law_body" "_law_body" sLBody [] (He.ga K "_law_body") fd := F
  exact ⟨_, fd, F, He.glo_ok X G (c.fact 37 (f := .glo "_law_body") rfl), FunD.bindsN (ps := pLBody) F fun _ _ _ _ _ _ us hl => match us, hl with | [_, _, _, _], _ => rfl⟩
theorem atLHelpers {K : PySem.W.Frag} {h : Heap} {mg : Str → Option Value} (X : K.In h) (G : h.Ns mainGlobals mg) (c : He.SaysD faD fnD K) : At K mg "_law_helpers" sLHelpers pLHelpers := by
  obtain ⟨fd, F⟩ := c.def_ 40 (d := dLHelpers) rfl
  have F : FnP K "_law_helpers" "_law_helpers" sLHelpers [] (He.ga K "_law_helpers") fd := F
  exact ⟨_, fd, F, He.glo_ok X G (c.fact 38 (f := .glo "_law_helpers") rfl), FunD.bindsN (ps := pLHelpers) F fun _ _ _ _ _ _ us hl => match us, hl with | [_, _, _], _ => rfl⟩
theorem atLProgram {K : PySem.W.Frag} {h : Heap} {mg : Str → Option Value} (X : K.In h) (G : h.Ns mainGlobals mg) (c : He.SaysD faD fnD K) : At K mg "_law_program" sLProgram pLProgram := by
  obtain ⟨fd, F⟩ := c.def_ 41 (d := dLProgram) rfl
  have F : FnP K "_law_program" "_law_program" sLProgram [] (He.ga K "_law_program") fd := F
  exact ⟨_, fd, F, He.glo_ok X G (c.fact 39 (f := .glo "_law_program") rfl), FunD.bindsN (ps := pLProgram) F fun _ _ _ _ _ _ us hl => match us, hl with | [_, _], _ => rfl⟩
theorem atLLay {K : PySem.W.Frag} {h : Heap} {mg : Str → Option Value} (X : K.In h) (G : h.Ns mainGlobals mg) (c : He.SaysD faD fnD K) : At K mg "_law_lay" sLLay pLLay := by
  obtain ⟨fd, F⟩ := c.def_ 42 (d := dLLay) rfl
  have F : FnP K "_law_lay" "_law_lay" sLLay [] (He.ga K "_law_lay") fd := F
  exact ⟨_, fd, F, He.glo_ok X G (c.fact 40 (f := .glo "_law_lay") rfl), FunD.bindsN (ps := pLLay) F fun _ _ _ _ _ _ us hl => match us, hl with | [_, _, _, _], _ => rfl⟩
theorem atLRows {K : PySem.W.Frag} {h : Heap} {mg : Str → Option Value} (X : K.In h) (G : h.Ns mainGlobals mg) (c : He.SaysD faD fnD K) : At K mg "_law_rows" sLRows pLRows := by
  obtain ⟨fd, F⟩ := c.def_ 43 (d := dLRows) rfl
  have F : FnP K "_law_rows" "_law_rows" sLRows [] (He.ga K "_law_rows") fd := F
  exact ⟨_, fd, F, He.glo_ok X G (c.fact 41 (f := .glo "_law_rows") rfl), FunD.bindsN (ps := pLRows) F fun _ _ _ _ _ _ us hl => match us, hl with | [_], _ => rfl⟩
theorem atLParts {K : PySem.W.Frag} {h : Heap} {mg : Str → Option Value} (X : K.In h) (G : h.Ns mainGlobals mg) (c : He.SaysD faD fnD K) : At K mg "_law_parts" sLParts pLParts := by
  obtain ⟨fd, F⟩ := c.def_ 44 (d := dLParts) rfl
  have F : FnP K "_law_parts" "_law_parts" sLParts [] (He.ga K "_law_parts") fd := F
  exact ⟨_, fd, F, He.glo_ok X G (c.fact 42 (f := .glo "_law_parts") rfl), FunD.bindsN (ps := pLParts) F fun _ _ _ _ _ _ us hl => match us, hl with | [_], _ => rfl⟩
theorem atLWork {K : PySem.W.Frag} {h : Heap} {mg : Str → Option Value} (X : K.In h) (G : h.Ns mainGlobals mg) (c : He.SaysD faD fnD K) : At K mg "_law_work" sLWork pLWork := by
  obtain ⟨fd, F⟩ := c.def_ 45 (d := dLWork) rfl
  have F : FnP K "_law_work" "_law_work" sLWork [] (He.ga K "_law_work") fd := F
  exact ⟨_, fd, F, He.glo_ok X G (c.fact 43 (f := .glo "_law_work") rfl), FunD.bindsN (ps := pLWork) F fun _ _ _ _ _ _ us hl => match us, hl with | [_], _ => rfl⟩
theorem atLLeads {K : PySem.W.Frag} {h : Heap} {mg : Str → Option Value} (X : K.In h) (G : h.Ns mainGlobals mg) (c : He.SaysD faD fnD K) : At K mg "_law_leads" sLLeads pLLeads := by
  obtain ⟨fd, F⟩ := c.def_ 46 (d := dLLeads) rfl
  have F : FnP K "_law_leads" "_law_leads" sLLeads [] (He.ga K "_law_leads") fd := F
  exact ⟨_, fd, F, He.glo_ok X G (c.fact 44 (f := .glo "_law_leads") rfl), FunD.bindsN (ps := pLLeads) F fun _ _ _ _ _ _ us hl => match us, hl with | [_], _ => rfl⟩
theorem atLWritten {K : PySem.W.Frag} {h : Heap} {mg : Str → Option Value} (X : K.In h) (G : h.Ns mainGlobals mg) (c : He.SaysD faD fnD K) : At K mg "_law_written" sLWritten pLWritten := by
  obtain ⟨fd, F⟩ := c.def_ 47 (d := dLWritten) rfl
  have F : FnP K "_law_written" "_law_written" sLWritten [] (He.ga K "_law_written") fd := F
  exact ⟨_, fd, F, He.glo_ok X G (c.fact 45 (f := .glo "_law_written") rfl), FunD.bindsN (ps := pLWritten) F fun _ _ _ _ _ _ us hl => match us, hl with | [_], _ => rfl⟩
theorem atLWanted {K : PySem.W.Frag} {h : Heap} {mg : Str → Option Value} (X : K.In h) (G : h.Ns mainGlobals mg) (c : He.SaysD faD fnD K) : At K mg "_law_wanted" sLWanted pLWanted := by
  obtain ⟨fd, F⟩ := c.def_ 48 (d := dLWanted) rfl
  have F : FnP K "_law_wanted" "_law_wanted" sLWanted [] (He.ga K "_law_wanted") fd := F
  exact ⟨_, fd, F, He.glo_ok X G (c.fact 46 (f := .glo "_law_wanted") rfl), FunD.bindsN (ps := pLWanted) F fun _ _ _ _ _ _ us hl => match us, hl with | [_, _], _ => rfl⟩
theorem atLSureNames {K : PySem.W.Frag} {h : Heap} {mg : Str → Option Value} (X : K.In h) (G : h.Ns mainGlobals mg) (c : He.SaysD faD fnD K) : At K mg "_law_sure_names" sLSureNames pLSureNames := by
  obtain ⟨fd, F⟩ := c.def_ 49 (d := dLSureNames) rfl
  have F : FnP K "_law_sure_names" "_law_sure_names" sLSureNames [] (He.ga K "_law_sure_names") fd := F
  exact ⟨_, fd, F, He.glo_ok X G (c.fact 47 (f := .glo "_law_sure_names") rfl), FunD.bindsN (ps := pLSureNames) F fun _ _ _ _ _ _ us hl => match us, hl with | [_], _ => rfl⟩
theorem atLBarred {K : PySem.W.Frag} {h : Heap} {mg : Str → Option Value} (X : K.In h) (G : h.Ns mainGlobals mg) (c : He.SaysD faD fnD K) : At K mg "_law_barred" sLBarred pLBarred := by
  obtain ⟨fd, F⟩ := c.def_ 50 (d := dLBarred) rfl
  have F : FnP K "_law_barred" "_law_barred" sLBarred [] (He.ga K "_law_barred") fd := F
  exact ⟨_, fd, F, He.glo_ok X G (c.fact 48 (f := .glo "_law_barred") rfl), FunD.bindsN (ps := pLBarred) F fun _ _ _ _ _ _ us hl => match us, hl with | [_], _ => rfl⟩
theorem atLHeaviest {K : PySem.W.Frag} {h : Heap} {mg : Str → Option Value} (X : K.In h) (G : h.Ns mainGlobals mg) (c : He.SaysD faD fnD K) : At K mg "_law_heaviest" sLHeaviest pLHeaviest := by
  obtain ⟨fd, F⟩ := c.def_ 51 (d := dLHeaviest) rfl
  have F : FnP K "_law_heaviest" "_law_heaviest" sLHeaviest [] (He.ga K "_law_heaviest") fd := F
  exact ⟨_, fd, F, He.glo_ok X G (c.fact 49 (f := .glo "_law_heaviest") rfl), FunD.bindsN (ps := pLHeaviest) F fun _ _ _ _ _ _ us hl => match us, hl with | [_, _], _ => rfl⟩
theorem atLFree {K : PySem.W.Frag} {h : Heap} {mg : Str → Option Value} (X : K.In h) (G : h.Ns mainGlobals mg) (c : He.SaysD faD fnD K) : At K mg "_law_free" sLFree pLFree := by
  obtain ⟨fd, F⟩ := c.def_ 52 (d := dLFree) rfl
  have F : FnP K "_law_free" "_law_free" sLFree [] (He.ga K "_law_free") fd := F
  exact ⟨_, fd, F, He.glo_ok X G (c.fact 50 (f := .glo "_law_free") rfl), FunD.bindsN (ps := pLFree) F fun _ _ _ _ _ _ us hl => match us, hl with | [_], _ => rfl⟩
theorem atLStraight {K : PySem.W.Frag} {h : Heap} {mg : Str → Option Value} (X : K.In h) (G : h.Ns mainGlobals mg) (c : He.SaysD faD fnD K) : At K mg "_law_straight" sLStraight pLStraight := by
  obtain ⟨fd, F⟩ := c.def_ 53 (d := dLStraight) rfl
  have F : FnP K "_law_straight" "_law_straight" sLStraight [] (He.ga K "_law_straight") fd := F
  exact ⟨_, fd, F, He.glo_ok X G (c.fact 51 (f := .glo "_law_straight") rfl), FunD.bindsN (ps := pLStraight) F fun _ _ _ _ _ _ us hl => match us, hl with | [_], _ => rfl⟩
theorem atLForks {K : PySem.W.Frag} {h : Heap} {mg : Str → Option Value} (X : K.In h) (G : h.Ns mainGlobals mg) (c : He.SaysD faD fnD K) : At K mg "_law_forks" sLForks pLForks := by
  obtain ⟨fd, F⟩ := c.def_ 54 (d := dLForks) rfl
  have F : FnP K "_law_forks" "_law_forks" sLForks [] (He.ga K "_law_forks") fd := F
  exact ⟨_, fd, F, He.glo_ok X G (c.fact 52 (f := .glo "_law_forks") rfl), FunD.bindsN (ps := pLForks) F fun _ _ _ _ _ _ us hl => match us, hl with | [_, _], _ => rfl⟩
theorem atLTold {K : PySem.W.Frag} {h : Heap} {mg : Str → Option Value} (X : K.In h) (G : h.Ns mainGlobals mg) (c : He.SaysD faD fnD K) : At K mg "_law_told" sLTold pLTold := by
  obtain ⟨fd, F⟩ := c.def_ 55 (d := dLTold) rfl
  have F : FnP K "_law_told" "_law_told" sLTold [] (He.ga K "_law_told") fd := F
  exact ⟨_, fd, F, He.glo_ok X G (c.fact 53 (f := .glo "_law_told") rfl), FunD.bindsN (ps := pLTold) F fun _ _ _ _ _ _ us hl => match us, hl with | [_, _], _ => rfl⟩
theorem atLRight {K : PySem.W.Frag} {h : Heap} {mg : Str → Option Value} (X : K.In h) (G : h.Ns mainGlobals mg) (c : He.SaysD faD fnD K) : At K mg "_law_right" sLRight pLRight := by
  obtain ⟨fd, F⟩ := c.def_ 56 (d := dLRight) rfl
  have F : FnP K "_law_right" "_law_right" sLRight [] (He.ga K "_law_right") fd := F
  exact ⟨_, fd, F, He.glo_ok X G (c.fact 54 (f := .glo "_law_right") rfl), FunD.bindsN (ps := pLRight) F fun _ _ _ _ _ _ us hl => match us, hl with | [_, _, _, _], _ => rfl⟩
theorem atLimitsInit {K : PySem.W.Frag} {h : Heap} {mg : Str → Option Value} (X : K.In h) (G : h.Ns mainGlobals mg) (c : He.SaysD faD fnD K) : KAt K mg "Limits" sLimitsInit [.int 1, .int 1] pLimitsInit := by
  obtain ⟨fd, F⟩ := c.def_ 20 (d := dLimitsInit) rfl
  have F : FnP K "__init__" "Limits.__init__" sLimitsInit [.int 1, .int 1] (He.ma K (He.ga K "Limits") "__init__") fd := F
  obtain ⟨ds, hv, hb⟩ := FunD.binds1 (ps := pLimitsInit) F 4 2 (List.cons_ne_nil _ _) rfl fun T kV doc pm an cdv ct us its hu hi => match us, hu, its, hi with | [_, _, _, _], _, [_, _], _ => ⟨_, rfl, rfl⟩
  have hv : Vals [] ds := hv
  cases hv
  exact ⟨_, fd, F, He.mkr_ok (c.fact 86 (f := .mkr "Limits") rfl), He.glo_ok X G (c.fact 19 (f := .glo "Limits") rfl), hb⟩
theorem atHeaviestFrom {K : PySem.W.Frag} {h : Heap} {mg : Str → Option Value} (X : K.In h) (G : h.Ns mainGlobals mg) (c : He.SaysD faD fnD K) : AtC K mg "heaviest_from" sHeaviestFrom pHeaviestFrom (He.cT K ("heaviest_from", none)).1 := by
  obtain ⟨fd, F⟩ := c.def_ 18 (d := dHeaviestFrom) rfl
  have F : FnP K "heaviest_from" "heaviest_from" sHeaviestFrom [] (He.fAd K ("heaviest_from", none)) fd := F
  obtain ⟨oc, od, dV, kV, doc, pm, an, cdv, ct, osl, e, lk, hcd, _, _⟩ := F.ex
  obtain ⟨cc, ec⟩ := He.codeIn_ref hcd
  have ef : fd.code = .ref cc := by rw [e]; exact ec
  have e1 : (He.cT K ("heaviest_from", none)).1 = cc := He.codeOf_eq lk ef
  exact ⟨_, fd, F, ef.trans (congrArg Value.ref e1.symm), He.glo_ok X G (c.fact 17 (f := .glo "heaviest_from") rfl), FunD.bindsN (ps := pHeaviestFrom) F fun _ _ _ _ _ _ us hl => match us, hl with | [_, _, _], _ => rfl⟩
theorem biD {K : PySem.W.Frag} {h : Heap} {mg : Str → Option Value} (X : K.In h) (G : h.Ns mainGlobals mg) (c : He.SaysD faD fnD K) : Bi mg := ⟨He.free_ok X G (c.fact 56 (f := .free "len") rfl), He.free_ok X G (c.fact 57 (f := .free "range") rfl), He.free_ok X G (c.fact 58 (f := .free "sum") rfl), He.free_ok X G (c.fact 59 (f := .free "tuple") rfl), He.free_ok X G (c.fact 60 (f := .free "list") rfl), He.free_ok X G (c.fact 61 (f := .free "dict") rfl), He.free_ok X G (c.fact 62 (f := .free "int") rfl), He.free_ok X G (c.fact 63 (f := .free "isinstance") rfl), He.free_ok X G (c.fact 64 (f := .free "sorted") rfl), He.free_ok X G (c.fact 65 (f := .free "reversed") rfl), He.free_ok X G (c.fact 66 (f := .free "enumerate") rfl), He.free_ok X G (c.fact 67 (f := .free "any") rfl), He.free_ok X G (c.fact 68 (f := .free "all") rfl), He.free_ok X G (c.fact 69 (f := .free "set") rfl), He.free_ok X G (c.fact 70 (f := .free "max") rfl), He.free_ok X G (c.fact 71 (f := .free "min") rfl)⟩
theorem layD {K : PySem.W.Frag} (c : He.SaysD faD fnD K) : LayC K := ⟨He.cls_ok (c.fact 73 (f := .cls "Layer") rfl), He.noat_ok (c.fact 74 (f := .noat "Layer" "helpers") rfl)⟩
theorem limD {K : PySem.W.Frag} (c : He.SaysD faD fnD K) : LimC K := ⟨He.cls_ok (c.fact 81 (f := .cls "Limits") rfl), He.noat_ok (c.fact 82 (f := .noat "Limits" "charge") rfl), He.noat_ok (c.fact 83 (f := .noat "Limits" "opening") rfl), He.noat_ok (c.fact 84 (f := .noat "Limits" "putting") rfl)⟩
theorem mostD {K : PySem.W.Frag} {h : Heap} {mg : Str → Option Value} (X : K.In h) (G : h.Ns mainGlobals mg) (c : He.SaysD faD fnD K) : ∃ t, mg "MOST_ROWS" = some (.int 60 t) := He.int_ok X G (c.fact 72 (f := .int "MOST_ROWS" 60) rfl)
theorem excNF {K : PySem.W.Frag} {h : Heap} {mg : Str → Option Value} (X : K.In h) (G : h.Ns mainGlobals mg) (c : He.SaysD faD fnD K) : ExcF K mg "NoFit" := by
  obtain ⟨h1, h2, h3, h4⟩ := He.exc_ok (c.fact 87 (f := .exc "NoFit") rfl)
  exact ⟨h1, He.glo_ok X G (c.fact 2 (f := .glo "NoFit") rfl), h2, h3, h4⟩
theorem excNS {K : PySem.W.Frag} {h : Heap} {mg : Str → Option Value} (X : K.In h) (G : h.Ns mainGlobals mg) (c : He.SaysD faD fnD K) : ExcF K mg "NotStraight" := by
  obtain ⟨h1, h2, h3, h4⟩ := He.exc_ok (c.fact 88 (f := .exc "NotStraight") rfl)
  exact ⟨h1, He.glo_ok X G (c.fact 3 (f := .glo "NotStraight") rfl), h2, h3, h4⟩
theorem excC_of {K : PySem.W.Frag} {x : Str} (h : excCB K x = true) : ExcC K (He.ga K x) := by
  obtain ⟨h1, h⟩ := He.ba h
  obtain ⟨h2, h⟩ := He.ba h
  obtain ⟨h3, h⟩ := He.ba h
  obtain ⟨h4, h⟩ := He.ba h
  obtain ⟨h5, h⟩ := He.ba h
  obtain ⟨h6, h⟩ := He.ba h
  obtain ⟨h7, h8⟩ := He.ba h
  exact ⟨He.eqO_ok h1, He.eqO_ok h2, of_decide_eq_true h3, h4, He.eqO_ok h5, He.eqO_ok h6, of_decide_eq_true h7, of_decide_eq_true h8⟩
theorem excD {K : PySem.W.Frag} {h : Heap} {mg : Str → Option Value} (X : K.In h) (G : h.Ns mainGlobals mg) (c : He.SaysD faD fnD K) (e : exB K = true) : ExcP K mg := by
  obtain ⟨h1, e⟩ := He.ba e
  obtain ⟨h2, e⟩ := He.ba e
  obtain ⟨h3, h4⟩ := He.ba e
  exact ⟨excNF X G c, excNS X G c, He.glo_ok X G (c.fact 0 (f := .glo "FitError") rfl), He.exm_ok (c.fact 89 (f := .exm "NoFit" "NoFit" true) rfl), He.exm_ok (c.fact 90 (f := .exm "NotStraight" "NoFit" false) rfl), He.exm_ok (c.fact 91 (f := .exm "NotStraight" "NotStraight" true) rfl), excC_of h1, excC_of h2, of_decide_eq_true h3, of_decide_eq_true h4⟩
end K36
namespace K36
open PySem PySem.Spec PyProof.Rows L2
/-! ### all promises joined; the law at the head's heap -/
abbrev tbD (K : PySem.W.Frag) : Addr := (He.cT K ("heaviest_from", none)).2
abbrev TTD (K : PySem.W.Frag) : TbS := [(tbD K, ("heaviest_from" : Str) ++ ".<locals>." ++ "<lambda>")]
section
variable {P : Program} {w : World} {K : PySem.W.Frag} {h : Heap} {mg : Str → Option Value} {base : Heap}
theorem all_layer (X : K.In h) (G : h.Ns mainGlobals mg) (c : He.SaysD faD fnD K) : Cal P w K mg base CX0 "rows_of" 11 pRowsOf (spRowsOf K) := by
  have T := biD X G c
  have LC := layD c
  have CL := LC.c
  have aL := atLayerLong X G c
  have aO := atLayerLongOf X G c
  have aF := atLayerFlat X G c
  have aD := atLayerLaid X G c
  have a1 := atLayerLaidOne X G c
  have o0 : MCal P w K mg base CX0 "Layer" "long_of" 0 pLayerLongOf (spLo K Lo0) := MCal.none aO fun vs H Q E z => by
    obtain ⟨_, _, _, _, _, _, z, _⟩ := z
    exact z
  have o1 : MCal P w K mg base CX0 "Layer" "long_of" 2 pLayerLongOf (spLo K Lo1) := ok_longOf T LC CL Lo0.sm aO (ok_longT T LC CL Lo0.sm aL o0)
  have o2 : MCal P w K mg base CX0 "Layer" "long_of" 4 pLayerLongOf (spLo K Lo2) := ok_longOf T LC CL Lo1.sm aO (ok_longT T LC CL Lo1.sm aL o1)
  have o3 : MCal P w K mg base CX0 "Layer" "long_of" 6 pLayerLongOf (spLo K Lo3) := ok_longOf T LC CL Lo2.sm aO (ok_longT T LC CL Lo2.sm aL o2)
  have l2 : MCal P w K mg base CX0 "Layer" "long" 5 pLayerLong (spLgL K Lo2) := ok_longL T LC CL Lo2.sm aL o2
  have l3 : MCal P w K mg base CX0 "Layer" "long" 7 pLayerLong (spLgT K Lo3) := ok_longT T LC CL Lo3.sm aL o3
  have f0 : MCal P w K mg base CX0 "Layer" "flat" 0 pLayerFlat (spFlat1 K Fl0) := MCal.none aF fun vs H Q E z => by
    obtain ⟨_, _, _, _, _, _, _, _, z, _⟩ := z
    exact z
  have f1 : MCal P w K mg base CX0 "Layer" "flat" 1 pLayerFlat (spFlat K Fl1) := ok_flat T LC CL Fl0.sm aF f0
  have f2 : MCal P w K mg base CX0 "Layer" "flat" 2 pLayerFlat (spFlat K Fl2) := ok_flat T LC CL Fl1.sm aF (flat1 f1)
  have n0 : MCal P w K mg base CX0 "Layer" "laid_one" 5 pLayerLaidOne (spOne K fun _ => False) := MCal.none a1 fun vs H Q E z => by
    obtain ⟨_, _, _, _, _, _, _, _, _, z, _⟩ := z
    exact z
  have d0 : MCal P w K mg base CX0 "Layer" "laid" 6 pLayerLaid (spLaid K fun _ => False) := ok_laid T LC CL (fun g z => z.elim) aD (f2.mono (by decide)) (o2.mono (by decide)) l2 n0
  have n1 : MCal P w K mg base CX0 "Layer" "laid_one" 7 pLayerLaidOne (spOne K okPl) := ok_one T LC CL (.inr fun s z => z) a1 d0
  have d1 : MCal P w K mg base CX0 "Layer" "laid" 8 pLayerLaid (spLaid K okgPl) := ok_laid T LC CL (fun g z s hs => by
    match g, z, hs with
    | .one (.pl r), _, hs =>
      obtain rfl := List.mem_singleton.mp hs
      exact True.intro) aD (f2.mono (by decide)) (o2.mono (by decide)) (l2.mono (by decide)) n1
  have n2 : MCal P w K mg base CX0 "Layer" "laid_one" 9 pLayerLaidOne (spOne K fun _ => True) := ok_one T LC CL (.inl fun r => True.intro) a1 d1
  have d2 : MCal P w K mg base CX0 "Layer" "laid" 10 pLayerLaid (spLaid K fun _ => True) := ok_laid T LC CL (fun _ _ _ _ => True.intro) aD (f2.mono (by decide)) (o2.mono (by decide)) (l2.mono (by decide)) n2
  obtain ⟨t, hM⟩ := mostD X G c
  exact ok_rowsOf (k := 10) T hM CL (atRowsOf X G c) (ok_layer T LC (atLayerInit X G c)) (l3.mono (by decide)) d2 (by decide)
theorem all_law {fd : FuncData} (X : K.In h) (G : h.Ns mainGlobals mg) (c : He.SaysD faD fnD K) (e : exB K = true) (TB : LamX.TabB base mg (He.cT K ("heaviest_from", none)).1 (tbD K)) (F : FnP K "law" "law" sLaw [] (He.ga K "law") fd) :
    FnOk P w K mg base CX0 19 (He.ga K "law") fd pLaw (spLaw K (TTD K)) := by
  have T := biD X G c
  have LM := limD c
  have CM := LM.c
  have XP := excD X G c e
  have draw : Cal P w K mg base CX0 "_law_draw" 1 pLDraw spD := cal_draw (atLDraw X G c)
  have cell : Cal P w K mg base CX0 "_law_cell" 1 pLCell (spCell K) := ok_cell T (atLCell X G c)
  have flow : Cal P w K mg base CX0 "_law_flow" 2 pLFlow (spFlow K) := ok_flow (atLFlow X G c) cell
  have names : Cal P w K mg base CX0 "_law_names" 2 pLNames spNames := ok_names T (atLNames X G c) draw
  have term : Cal P w K mg base CX0 "_law_term" 7 pLTerm (spTerm 6) := ok_term T (atLTerm X G c) draw 6
  have room : Cal P w K mg base CX0 "_law_room" 2 pLRoom spRoom := ok_room T (atLRoom X G c) draw
  have read : Cal P w K mg base CX0 "_law_read" 2 pLRead spSm := ok_read T (atLRead X G c) draw
  have sure : Cal P w K mg base CX0 "_law_sure" 3 pLSure spSm := ok_sure T (atLSure X G c) draw read
  have small : Cal P w K mg base CX0 "_law_small" 8 pLSmall spSm := ok_small T (atLSmall X G c) draw read sure room term
  have again : Cal P w K mg base CX0 "_law_again" 9 pLAgain spAgain := ok_again T (atLAgain X G c) draw small
  have body : Cal P w K mg base CX0 "_law_body" 16 pLBody (spBody 2) := cal_body T (atLBody X G c) (atLShare X G c) (atLForked X G c) (atLRound X G c) draw small again room term
  have helpers : Cal P w K mg base CX0 "_law_helpers" 9 pLHelpers spHelpers := ok_helpers T (atLHelpers X G c) draw small term
  have program : Cal P w K mg base CX0 "_law_program" 17 pLProgram spProgram := ok_program T (atLProgram X G c) draw names small helpers body
  have straight : Cal P w K mg base CX0 "_law_straight" 18 pLStraight spStraight := ok_straight T (atLStraight X G c) draw program
  have lay : Cal P w K mg base CX0 "_law_lay" 1 pLLay spLay := ok_lay T (atLLay X G c)
  have rows : Cal P w K mg base CX0 "_law_rows" 2 pLRows spRows := ok_rows T (atLRows X G c) lay
  have work : Cal P w K mg base CX0 "_law_work" 7 pLWork spWork := ok_work T (atLWork X G c) (cal_parts T (atLParts X G c) 6)
  have workOf : Cal P w K mg base CX0 "work_of" 7 pWorkOf spWork := ok_workOf T (atWorkOf X G c) (cal_partsOf T (atPartsOf X G c) 6)
  have leads : Cal P w K mg base CX0 "_law_leads" 1 pLLeads spLeadsL := ok_leads T (atLLeads X G c)
  have leadsTo : Cal P w K mg base CX0 "leads_to" 1 pLeadsTo spLeadsT := ok_leadsTo T (atLeadsTo X G c)
  have written : Cal P w K mg base CX0 "_law_written" 1 pLWritten spWr := ok_written T (atLWritten X G c)
  have writtenBy : Cal P w K mg base CX0 "written_by" 1 pWrittenBy spWr := ok_writtenBy T (atWrittenBy X G c)
  have sureNames : Cal P w K mg base CX0 "sure_names" 1 pSureNames spSn := ok_sureNames T (atSureNames X G c)
  have wanted : Cal P w K mg base CX0 "_law_wanted" 2 pLWanted spWanted := ok_wanted T (atLWanted X G c) leads written
  have wantedR : Cal P w K mg base CX0 "wanted_rows" 2 pWantedRows spWantedR := ok_wantedR T (atWantedRows X G c) sureNames leadsTo writtenBy
  have sureNamesL : Cal P w K mg base CX0 "_law_sure_names" 1 pLSureNames spNamesL := ok_sureNamesL T (atLSureNames X G c)
  have barredL : Cal P w K mg base CX0 "_law_barred" 3 pLBarred spBarL := ok_barredL T (atLBarred X G c) sureNamesL wanted
  have freeL : Cal P w K mg base CX0 "_law_free" 4 pLFree spFreeL := ok_freeL T (atLFree X G c) barredL
  have allNames : Cal P w K mg base CX0 "all_names" 2 pAllNames spNamesL := ok_allNames T (atAllNames X G c) sureNames
  have barredIn : Cal P w K mg base CX0 "barred_in" 3 pBarredIn spBarT := ok_barredIn T (atBarredIn X G c) allNames wantedR
  have finest : Cal P w K mg base CX0 "finest" 4 pFinest spFreeT := ok_finest T (atFinest X G c) barredIn
  have heaviestL : Cal P w K mg base CX0 "_law_heaviest" 8 pLHeaviest spHeavyL := ok_heaviest T (atLHeaviest X G c) leads work
  have limits : KCal P w K mg base CX0 "Limits" 1 pLimitsInit (spLimits K) := ok_limits LM (atLimitsInit X G c)
  have taken : MCal P w K mg base CX0 "Limits" "taken" 1 pLimitsTaken (spTaken K) := ok_taken LM (atLimitsTaken X G c)
  have along : Cal P w K mg base CX0 "work_along" 8 pWorkAlong spAlong := ok_along T (atWorkAlong X G c) workOf
  have tooHeavy : Cal P w K mg base CX0 "too_heavy" 9 pTooHeavy (spTooHeavy K) := ok_tooHeavy LM CM (atTooHeavy X G c) along taken
  have ring : Cal P w K mg base CX0 "ring_among" 2 pRingAmong spRing := ok_ring T (atRingAmong X G c) leadsTo
  have hold : Cal P w K mg base CX0 "hold_in" 4 pHoldIn spHold := ok_hold T (atHoldIn X G c) barredIn ring
  have from' : Cal P w K mg base CX0 "heaviest_from" 9 pHeaviestFrom (spFrom (TTD K)) := ok_from (nm := "heaviest_from") (TT := TTD K) T TB (List.mem_singleton.mpr rfl) (fun p hp _ => by rw [List.mem_singleton.mp hp]) (atHeaviestFrom X G c) workOf
  have ways : Cal P w K mg base CX0 "heaviest_ways" 10 pHeaviestWays (spWays (TTD K)) := ok_ways T (atHeaviestWays X G c) leadsTo from'
  have fit : Cal P w K mg base CX0 "fit_in" 11 pFitIn (spFit K (TTD K)) := ok_fit T LM CM (atFitIn X G c) hold ways taken
  have rowsOf : Cal P w K mg base CX0 "rows_of" 11 pRowsOf (spRowsOf K) := all_layer X G c
  have fewestS : Cal P w K mg base (L2.CX P w) "fewest" 12 pFewest (spFewestS K (TTD K)) := ok_fewestS T XP.nf (atFewest X G c) rowsOf finest fit tooHeavy
  have fewestF : Cal P w K mg base (L2.CX P w) "fewest" 12 pFewest (spFewestF K) := ok_fewestF T XP.ns (atFewest X G c) rowsOf finest fit tooHeavy
  have toldS : Cal P w K mg base CX0 "_law_told" 13 pLTold (spToldS (TTD K)) := ok_toldS T XP (atLTold X G c) fewestS limits
  have toldF : Cal P w K mg base CX0 "_law_told" 13 pLTold (spToldF K (TTD K)) := ok_toldF T XP (atLTold X G c) fewestF limits
  have right : Cal P w K mg base CX0 "_law_right" 9 pLRight spRight := ok_right T (atLRight X G c) freeL heaviestL work
  have forks : Cal P w K mg base CX0 "_law_forks" 2 pLForks (spForks K) := ok_forks T (atLForks X G c) draw
  exact ok_law T F flow straight rows draw freeL heaviestL toldS toldF right forks
end
/-- the law's promise at the head's heap -/
theorem lawAt {l : PySem.W.OpenLaw} {w : World} {mg : Str → Option Value} {fa : Addr} {h : Heap} {K : PySem.W.Frag} (X : K.In h) (Y : He.SaysX faD fnD [] tfD exB w h K) (G : h.Ns mainGlobals mg) (hmg : mg ("law" : Str) = some (.ref fa)) :
    LamX.LawAtS l w K CX0 19 63 "_law_script" mg fa h := by
  have c : He.SaysD faD fnD K := Y.t.d
  obtain ⟨fd, F⟩ := c.def_ 57 (d := dLaw) rfl
  have F : FnP K "law" "law" sLaw [] (He.ga K "law") fd := F
  have e := hmg.symm.trans (He.glo_ok X G (c.fact 55 (f := .glo "law") rfl))
  cases e
  have b := FunD.bindsA (ps := pLaw) F fun _ _ _ _ _ _ us hl => match us, hl with | [_], _ => rfl
  have m : ∀ p ∈ [He.cT K ("heaviest_from", none)], ∃ q ∈ tfD, p = He.cT K q := fun p hp => ⟨("heaviest_from", none), List.mem_singleton.mpr rfl, List.mem_singleton.mp hp⟩
  refine ⟨fd, [He.cT K ("heaviest_from", none)], spLaw K (TTD K), fun p hp => ?_, fun p hp => ?_, fun p hp => ?_, fun s v => b s [v] rfl, fun H a ns hl _ hT hS => ?_, fun base hK hns hTB => ?_⟩
  · obtain ⟨q, hq, rfl⟩ := m p hp
    exact Y.empty q hq
  · obtain ⟨q, hq, rfl⟩ := m p hp
    exact Y.out q hq
  · obtain ⟨q, hq, rfl⟩ := m p hp
    exact PySem.W.codeHd_of_K X (Y.hd q hq)
  · refine ⟨a, ns, rfl, hS, fun p hp => ?_, fun _ => rfl⟩
    obtain rfl := List.mem_singleton.mp hp
    exact LamX.TabS.nil (hT _ (List.mem_singleton.mpr rfl))
  · exact all_law X G c Y.more (hTB _ (List.mem_singleton.mpr rfl)) F
end K36
open PySem PySem.W PySem.Calls PyProof.Rows
set_option maxHeartbeats 0
theorem PySem.Challenge.cw_dimfits_k36_whole_fewest_cuts_holds : PySem.Challenge.rw_dimfits_k36_whole_fewest_cuts.Holds := by
  w_on; o_law
  refine HandSHeadRun.head_any (r := OpenLaw.row PySem.Challenge.rw_dimfits_k36_whole_fewest_cuts) (q := view (OpenLaw.row PySem.Challenge.rw_dimfits_k36_whole_fewest_cuts).prog [64]) (H := K36.lawHk) (ob := K36.lawOb) (M := 60000) (loose := K36.looseN)
    (d := HandSHeadRun.topDef (OpenLaw.row PySem.Challenge.rw_dimfits_k36_whole_fewest_cuts).prog 64) (kwd := []) K36.lawOb_eq (by kernel_rfl) (fun s => by kernel_rfl) K36.lawRun (by kernel_rfl) (by kernel_rfl) (by kernel_rfl) (by rfl) (by first | assumption | decide +kernel) (by decide +kernel) ⟨rfl, rfl, rfl, rfl, rfl, by decide +kernel⟩ ?hw ?hc
  case hw => w_witness2
  case hc =>
    refine LamX.walk_ofTsE (l := PySem.Challenge.rw_dimfits_k36_whole_fewest_cuts) (n := 63) (k := 19) (x := "_law_script") (CX := fun _ => L2.CX0) rfl (by decide) (by kernel_rfl) ⟨rfl, by decide, by decide⟩ ?F (fun _ _ _ _ _ z => z)
    intro w mg fa h Y G hmg0
    obtain ⟨K, KX, c⟩ := Y
    have hmg : mg ("law" : PySem.Str) = some (.ref fa) := by
      have e : (HandSHeadRun.topDef (OpenLaw.row PySem.Challenge.rw_dimfits_k36_whole_fewest_cuts).prog 64).name = ("law" : PySem.Str) := by kernel_rfl
      rw [← e]
      exact hmg0
    exact ⟨K, KX, K36.lawAt KX c G hmg⟩

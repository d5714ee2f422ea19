import PyProof.Rows.All
import Wide.All
import OpenK.AllK
import Wide.FinOn
import HandS.ForMost
import HandS.ForExc
import HandS.Style
import HandS.SortInts
import HandS.Zip
import HandS.Conv
import HandS.IsInst
import HandS.TryMany
import HandS.Walk
import HandS.Head0
import HandS.Head1
import HandS.Head2
import HandS.HeadEnd
import HandS.HeadHook1
import HandS.HeadHook2
import HandS.HeadHook3
import HandS.HeadHook4
import HandS.ExcIs
import HandS.ExcOwn
import HandS.SetFor
import HandS.Strs
import HandS.SortOrd
import PySem.Challenge.RW_gatetown_k78_older_files_and_little_room
set_option Elab.async false
set_option linter.all false
set_option maxRecDepth 100000
namespace Kt
open PySem PySem.Spec PyProof.Rows L2

/-! ### defs by their names -/
instance : Inhabited FuncData := ⟨PySem.W.fnOf "" "" ⟨[], [], none, [], [], none, []⟩ [] ⟨.function, [], false, false, []⟩ .none .none .none .none none .none .none⟩
/-- the function object that stands at an address -/
def fdA (K : PySem.W.Frag) (f : Addr) : FuncData := match K.lookup f with
  | some ⟨_, _, .func fd, _⟩ => fd
  | _ => default
/-- a def stands at its name as its text has it -/
def Fd (K : PySem.W.Frag) (d : He.DefD) : Prop := FunD K d.name d.qual d.params d.body d.scope (d.dvs K) (d.kws K) (He.fAd K d.at_) (fdA K (He.fAd K d.at_))
theorem Fd.of {K : PySem.W.Frag} {d : He.DefD} (h : ∃ fd, FunD K d.name d.qual d.params d.body d.scope (d.dvs K) (d.kws K) (He.fAd K d.at_) fd) : Fd K d := by
  obtain ⟨fd, F⟩ := h
  obtain ⟨oc, od, dV, kV, doc, pm, an, cdv, ct, osl, e, lk, r⟩ := F.ex
  have e2 : fdA K (He.fAd K d.at_) = fd := by unfold fdA; rw [lk]
  unfold Fd
  rw [e2]
  exact F
section
variable (P : Program) (w : World) (K : PySem.W.Frag) (mg : Str → Option Value) (base : Heap) (CX : CXT)
/-- a global def keeps its promise, stands under its name, binds its arguments -/
structure Fn (k : Nat) (x : Str) (ps : List Str) (sp : Sp) : Prop where
  ok : FnOk P w K mg base CX k (He.ga K x) (fdA K (He.ga K x)) ps sp
  g : mg x = some (.ref (He.ga K x))
  kp : PySem.W.keepIn K (.ref (He.ga K x)) = true
  b : Binds K (fdA K (He.ga K x)) ps []
/-- a method -/
structure Mt (k : Nat) (C m : Str) (ps : List Str) (sp : Sp) : Prop where
  ok : FnOk P w K mg base CX k (He.ma K (He.ga K C) m) (fdA K (He.ma K (He.ga K C) m)) ps sp
  b : Binds K (fdA K (He.ma K (He.ga K C) m)) ps []
end
section
variable {P : Program} {w : World} {K : PySem.W.Frag} {mg : Str → Option Value} {base : Heap} {CX : CXT}
theorem Fn.mk_ {k : Nat} {x : Str} {ps : List Str} {sp : Sp} {a : Arguments} {bd : List Stmt} {sc : Scope} (d : Fd K ⟨(x, none), x, x, a, bd, sc, [], []⟩) (g : mg x = some (.ref (He.ga K x)))
    (b : ∀ (kV doc pm : Value) (an : Option Addr) (cdv ct : Value) (us : List Value), us.length = ps.length → bindArgs (PySem.W.fnOf x x a bd sc .none kV doc pm an cdv ct) ⟨us, []⟩ = pure (ps.zip us))
    (ok : FunD K x x a bd sc [] [] (He.ga K x) (fdA K (He.ga K x)) → FnOk P w K mg base CX k (He.ga K x) (fdA K (He.ga K x)) ps sp) : Fn P w K mg base CX k x ps sp :=
  ⟨ok d, g, FunD.kp d, FunD.bindsN d b⟩
theorem Mt.mk_ {k : Nat} {C m q : Str} {ps : List Str} {sp : Sp} {a : Arguments} {bd : List Stmt} {sc : Scope} (d : Fd K ⟨(C, some m), m, q, a, bd, sc, [], []⟩)
    (b : ∀ (kV doc pm : Value) (an : Option Addr) (cdv ct : Value) (us : List Value), us.length = ps.length → bindArgs (PySem.W.fnOf m q a bd sc .none kV doc pm an cdv ct) ⟨us, []⟩ = pure (ps.zip us))
    (ok : FunD K m q a bd sc [] [] (He.ma K (He.ga K C) m) (fdA K (He.ma K (He.ga K C) m)) → FnOk P w K mg base CX k (He.ma K (He.ga K C) m) (fdA K (He.ma K (He.ga K C) m)) ps sp) : Mt P w K mg base CX k C m ps sp :=
  ⟨ok d, FunD.bindsN d b⟩
end

/-! ### calls, in short -/
theorem hr0 {k : Nat} {A : Around} (r : Room k A) : A.units + 64 < cLine := r.units
section
variable {X : Cx} {CX : CXT} {k : Nat} {x C m : Str} {ps : List Str} {sp : Sp} {E : XK} {e o : Expr} {es : List Expr} {ta : TE} {t : TA} {p pos apos : Pos}
theorem pcall (F : Fn X.prog X.w X.K X.mg X.base CX k x ps sp) (hr : Room k X.A) (hg : Gl X x) (hx : Passes CX X E) (ha : PA X (e :: es) t)
    (hdb : (x == ("__debug__" : Str)) = false := by decide) (he : starEach (e :: es) X.env = (false, eval e X.env) :: starEach es X.env := by rfl) (hpl : (backTo pos (starEach es X.env)).any (·.1) = false := by rfl) :
    PE X (.Call (.Name x p) (e :: es) [] pos) (tCall sp [] E t) := pe_call F.ok hr hg F.g F.kp F.b .nil hx ha hdb he hpl
theorem pcall0 (F : Fn X.prog X.w X.K X.mg X.base CX k x ps sp) (hr : Room k X.A) (hg : Gl X x) (hx : Passes CX X E) (hdb : (x == ("__debug__" : Str)) = false := by decide) :
    PE X (.Call (.Name x p) [] [] pos) (tCall sp [] E tNil) := pe_call0 F.ok hr hg F.g F.kp F.b .nil hx hdb
theorem pmeth {pl : Sem Bool} (c : Cls X.K (He.ga X.K C)) (hm : Meth X.K (He.ga X.K C) m (He.ma X.K (He.ga X.K C) m)) (he : PE X o ta) (F : Mt X.prog X.w X.K X.mg X.base CX k C m ps sp) (hr : Room k X.A) (hx : Passes CX X E) (ha : PA X (e :: es) t)
    (hst : starEach (e :: es) X.env = (false, eval e X.env) :: starEach es X.env := by rfl) (hpl : (backTo pos (starEach es X.env)).any (·.1) = false := by rfl)
    (ht : eval (.Call (.Attribute o m apos) (e :: es) [] pos) X.env = (do
      let ov ← eval o X.env
      standAt apos.atName
      let (f, first) ← holding [ov] (getMethod ov m pl)
      callWith pos f first (backTo pos (starEach (e :: es) X.env)) (backToKw pos (keywordEach [] X.env))) := by rfl) :
    PE X (.Call (.Attribute o m apos) (e :: es) [] pos) (tMeth (He.ga X.K C) m sp [] E ta t) := pe_meth he c hm F.ok hr F.b .nil hx ha hst hpl ht
theorem pmeth0 {pl : Sem Bool} (c : Cls X.K (He.ga X.K C)) (hm : Meth X.K (He.ga X.K C) m (He.ma X.K (He.ga X.K C) m)) (he : PE X o ta) (F : Mt X.prog X.w X.K X.mg X.base CX k C m ps sp) (hr : Room k X.A) (hx : Passes CX X E)
    (ht : eval (.Call (.Attribute o m apos) [] [] pos) X.env = (do
      let ov ← eval o X.env
      standAt apos.atName
      let (f, first) ← holding [ov] (getMethod ov m pl)
      callWith pos f first (backTo pos (starEach [] X.env)) (backToKw pos (keywordEach [] X.env))) := by rfl) :
    PE X (.Call (.Attribute o m apos) [] [] pos) (tMeth (He.ga X.K C) m sp [] E ta tNil) := pe_meth0 he c hm F.ok hr F.b .nil hx ht
theorem pmk (g : X.mg C = some (.ref (He.ga X.K C))) (M : Mk X.K (He.ga X.K C) (He.ma X.K (He.ga X.K C) "__init__")) (F : Mt X.prog X.w X.K X.mg X.base CX k C "__init__" ps sp) (hr : Room (k + 1) X.A) (hg : Gl X C) (hx : Passes CX X E) (ha : PA X (e :: es) t)
    (hdb : (C == ("__debug__" : Str)) = false := by decide) (he : starEach (e :: es) X.env = (false, eval e X.env) :: starEach es X.env := by rfl) (hpl : (backTo pos (starEach es X.env)).any (·.1) = false := by rfl) :
    PE X (.Call (.Name C p) (e :: es) [] pos) (tMake (He.ga X.K C) sp [] E t) := pe_make M F.ok hr hg g F.b .nil hx ha hdb he hpl
theorem pmk0 (g : X.mg C = some (.ref (He.ga X.K C))) (M : Mk X.K (He.ga X.K C) (He.ma X.K (He.ga X.K C) "__init__")) (F : Mt X.prog X.w X.K X.mg X.base CX k C "__init__" ps sp) (hr : Room (k + 1) X.A) (hg : Gl X C) (hx : Passes CX X E)
    (hdb : (C == ("__debug__" : Str)) = false := by decide) : PE X (.Call (.Name C p) [] [] pos) (tMake (He.ga X.K C) sp [] E tNil) := pe_make0 M F.ok hr hg g F.b .nil hx hdb
/-- a constant of the module: an int, a text -/
theorem pgi {i : Int} (h : ∃ tk, X.mg x = some (.int i tk)) (hg : Gl X x := by rfl) (hd : (x == ("__debug__" : Str)) = false := by decide) : PE X (.Name x pos) (tC (.int i)) := by
  obtain ⟨tk, h⟩ := h
  exact pe_glob hg h ⟨tk, rfl⟩ hd
theorem pgs {z : Str} (h : ∃ tk, X.mg x = some (.str z tk)) (hg : Gl X x := by rfl) (hd : (x == ("__debug__" : Str)) = false := by decide) : PE X (.Name x pos) (tC (.str z)) := by
  obtain ⟨tk, h⟩ := h
  exact pe_glob hg h ⟨tk, rfl⟩ hd
/-- a global object by its name -/
theorem pgr (h : X.mg x = some (.ref (He.ga X.K x))) (hg : Gl X x := by rfl) (hd : (x == ("__debug__" : Str)) = false := by decide) : PE X (.Name x pos) (tC (.ref (He.ga X.K x))) := pe_glob hg h rfl hd
/-- a built-in class as a value -/
theorem pgt {n : String} (hm : X.mg x = none) (hv : bootBuiltins x = some (.type n)) (hg : Gl X x := by rfl) (hn : x ≠ "__name__" := by decide) (hd : (x == ("__debug__" : Str)) = false := by decide) : PE X (.Name x pos) (tC (.ty n)) :=
  pe_bltn hg hm hv rfl hn hd
/-- xs += ys -/
theorem ip_ext : PIp X .Add rExt2 := iop_ext
end

/-- the readings that name the model's part, in a comprehension too -/
theorem opInK {X : Cx} (K : PySem.W.Frag) (h : X.K = K := by rfl) : OpR X (compareOp .In) (rIn K false) := h ▸ op_in_seq
theorem opNotInK {X : Cx} (K : PySem.W.Frag) (h : X.K = K := by rfl) : OpR X (compareOp .NotIn) (rIn K true) := h ▸ op_notIn_seq
theorem opEqK {X : Cx} (K : PySem.W.Frag) (hu : X.A.units + 64 < cLine) (h : X.K = K := by rfl) : OpR X (compareOp .Eq) (rEqD K) := h ▸ op_eqD hu
theorem opNeK {X : Cx} (K : PySem.W.Frag) (hu : X.A.units + 64 < cLine) (h : X.K = K := by rfl) : OpR X (compareOp .NotEq) (rNeD K) := h ▸ op_neD hu
/-! ### readings -/
theorem noxK (X : Cx) : X.nox.K = X.K := rfl
theorem cxK {CX : CXT} {P : Program} {w : World} {K : PySem.W.Frag} {mg : Str → Option Value} {base : Heap} {N : List Str} {qual : Str} {scope : Scope} {f : Addr} {cd : Value} {A : Around} {outer : List Env} {s : Shared} {H : Hp} {E : XK} :
    (cxOf CX P w K mg base N qual scope f cd A outer s H E).K = K := rfl
theorem seq_ {t u : TS} {D : Ends} {σ : L2.St} {H : Hp} (h : ∀ N : L2.St → Hp → Prop, (∀ σ' H', u D σ' H' → N σ' H') → t { D with nx := N } σ H) : tSeq t u D σ H := h (u D) fun _ _ x => x
theorem Same.new {H : Hp} {p : Addr} {o : HO} (h : H p = none) : Same H (upd H p o) := fun b u e => by rw [upd_ne (ne_of_none e h)]; exact e
/-- an object that stood not at H may change -/
theorem Same.mut {H H' : Hp} {p : Addr} {o : HO} (e : Same H H') (h : H p = none) : Same H (upd H' p o) := fun b u q => by rw [upd_ne (ne_of_none q h)]; exact e b u q
theorem Same.tup {K : PySem.W.Frag} {H H' : Hp} {a : Addr} {xs : List V} (e : Same H H') (h : SqT K H a xs) : SqT K H' a xs := by
  rcases h with (h | ⟨o, h⟩) | h
  · exact .inl (.inl (e _ _ h))
  · exact .inl (.inr ⟨o, e _ _ h⟩)
  · exact .inr h

/-! ### statements: what stands behind is kept shut while the head is read -/
section
variable {t u : TS} {D : Ends} {σ : L2.St} {H : Hp}
theorem if_ {c : TT} (h : ∀ T U : Hp → Prop, (∀ H1, t D σ H1 → T H1) → (∀ H1, u D σ H1 → U H1) → c σ H fun b H1 => if b = true then T H1 else U H1) : tIfS c t u D σ H := h (fun H1 => t D σ H1) (fun H1 => u D σ H1) (fun _ x => x) fun _ x => x
/-- a loop over what J gives -/
def Loop (J : It) (g : TG) (tb : TS) (D : Ends) (σ : L2.St) (H : Hp) : Prop := ∃ W : Nat → Nat → L2.St → Hp → Prop, (∃ m, W 0 m σ H) ∧ ∀ i m σ H, W i m σ H →
      (J.stop i H ∧ D.nx σ H) ∨ (J.go i H ∧ ∃ N : L2.St → Hp → Prop, (∀ σ' H', N σ' H' → ∃ m', m' < m ∧ W (i + 1) m' σ' H') ∧ ∀ x H', J.yld i H x H' → g x σ H' fun σ2 H2 => tb { D with nx := N, ct := N, bk := D.nx } σ2 H2)
theorem for_ {wi : TI} {g : TG} {tb : TS} (h : ∀ LP : It → Hp → Prop, (∀ J H1, Loop J g tb D σ H1 → LP J H1) → wi σ H LP) : tFor wi g tb D σ H := h (fun J H1 => Loop J g tb D σ H1) fun _ _ x => x
variable {K : PySem.W.Frag} {a b : Addr} {xs ys : List V} {tb : TS} {g : TG}
/-- one turn: the body is kept shut while the target is read -/
def Turned (g : TG) (tb : TS) (D : Ends) (v : V) (σ : L2.St) (H : Hp) (P : L2.St → Hp → Prop) : Prop :=
  ∀ B : L2.St → Hp → Prop, (∀ σ2 H2, (∀ N : L2.St → Hp → Prop, (∀ σ' H', P σ' H' → N σ' H') → tb { D with nx := N, ct := N, bk := D.nx } σ2 H2) → B σ2 H2) → g v σ H B
theorem Turned.go {v : V} {P : L2.St → Hp → Prop} (h : Turned g tb D v σ H P) : g v σ H fun σ2 H2 => tb { D with nx := P, ct := P, bk := D.nx } σ2 H2 := h _ fun σ2 H2 k => k P fun _ _ x => x
theorem lp_list (Pv : Nat → L2.St → Hp → Prop) (h0 : Pv 0 σ H) (hl : ∀ i σ H, i ≤ xs.length → Pv i σ H → SqL K H a xs)
    (hs : ∀ i x σ H, i < xs.length → xs[i]? = some x → Pv i σ H → Turned g tb D x σ H (Pv (i + 1))) (hd : ∀ σ H, Pv xs.length σ H → D.nx σ H) : Loop (Itl K a) g tb D σ H :=
  for_it walk_list Pv h0 hl (fun i x σ H H' hi p y => by obtain ⟨rfl, hx⟩ := y; exact (hs i x σ H' hi hx p).go) hd
theorem lp_tup (Pv : Nat → L2.St → Hp → Prop) (h0 : Pv 0 σ H) (hl : ∀ i σ H, i ≤ xs.length → Pv i σ H → SqT K H a xs)
    (hs : ∀ i x σ H, i < xs.length → xs[i]? = some x → Pv i σ H → Turned g tb D x σ H (Pv (i + 1))) (hd : ∀ σ H, Pv xs.length σ H → D.nx σ H) : Loop (Itt K a) g tb D σ H :=
  for_it walk_tup Pv h0 hl (fun i x σ H H' hi p y => by obtain ⟨rfl, hx⟩ := y; exact (hs i x σ H' hi hx p).go) hd
theorem lp_range {lo : Int} {n : Nat} (Pv : Nat → L2.St → Hp → Prop) (h0 : Pv 0 σ H)
    (hs : ∀ i σ H, i < n → Pv i σ H → Turned g tb D (.int (lo + (i : Int))) σ H (Pv (i + 1))) (hd : ∀ σ H, Pv n σ H → D.nx σ H) : Loop (Itr lo n) g tb D σ H :=
  for_it walk_range Pv h0 (fun _ _ _ _ _ => trivial) (fun i x σ H H' hi p y => by obtain ⟨rfl, rfl⟩ := y; exact (hs i σ H' hi p).go) hd
/-- enumerate: each turn's pair is a new object -/
theorem lp_enum (Pv : Nat → L2.St → Hp → Prop) (h0 : Pv 0 σ H) (hl : ∀ i σ H, i ≤ xs.length → Pv i σ H → SqL K H a xs)
    (hs : ∀ i x T σ H, i < xs.length → xs[i]? = some x → H T = none → Pv i σ H → Turned g tb D (.ref T) σ (upd H T (.tup [.int (i : Nat), x])) (Pv (i + 1))) (hd : ∀ σ H, Pv xs.length σ H → D.nx σ H) :
    Loop (Ite K a) g tb D σ H :=
  for_it walk_enum Pv h0 hl (fun i x σ H H' hi p y => by
    obtain ⟨T, x1, x2, rfl, hT, rfl, h1, h2⟩ := y
    cases h1
    exact (hs i x2 T σ H hi h2 hT p).go) hd
theorem lp_zip (Pv : Nat → L2.St → Hp → Prop) (h0 : Pv 0 σ H) (hl : ∀ i σ H, i ≤ min xs.length ys.length → Pv i σ H → SqL K H a xs ∧ SqL K H b ys)
    (hs : ∀ i x y T σ H, i < min xs.length ys.length → xs[i]? = some x → ys[i]? = some y → H T = none → Pv i σ H → Turned g tb D (.ref T) σ (upd H T (.tup [x, y])) (Pv (i + 1)))
    (hd : ∀ σ H, Pv (min xs.length ys.length) σ H → D.nx σ H) : Loop (Itz K a b) g tb D σ H :=
  for_it (walk_zip rfl) Pv h0 hl (fun i x σ H H' hi p y => by
    obtain ⟨T, x1, x2, rfl, hT, rfl, h1, h2⟩ := y
    exact (hs i x1 x2 T σ H hi h1 h2 hT p).go) hd
theorem lp_keys {d : Addr} {o : Obj} {kvs : List (Key × V)} (Pv : Nat → L2.St → Hp → Prop) (h0 : Pv 0 σ H) (hl : ∀ i σ H, i ≤ kvs.length → Pv i σ H → H d = some (.frz o (.dK kvs)))
    (hs : ∀ i k v σ H, i < kvs.length → kvs[i]? = some (k, v) → Pv i σ H → Turned g tb D (kV k) σ H (Pv (i + 1))) (hd : ∀ σ H, Pv kvs.length σ H → D.nx σ H) : Loop (Itk d o kvs) g tb D σ H :=
  for_it walk_keys Pv h0 hl (fun i x σ H H' hi p y => by obtain ⟨rfl, k, v, hx, rfl⟩ := y; exact (hs i k v σ H' hi hx p).go) hd
/-- the target reads a pair that has just been laid -/
theorem tgt2 {T : Addr} {x y : V} {i1 i2 : Nat} {Q : L2.St → Hp → Prop} (h : Q ((σ.set i1 (some x)).set i2 (some y)) (upd H T (.tup [x, y]))) : gTup K 2 (gCons (gName i1) (gCons (gName i2) gNil)) (.ref T) σ (upd H T (.tup [x, y])) Q :=
  ⟨T, [x, y], rfl, SqT.of upd_same, rfl, x, [y], rfl, y, [], rfl, rfl, h⟩
end

/-! ### comprehensions -/
section
/-- a comprehension's own loop -/
def LoopC (J : It) (g : TG) (tt : TT) (te : TE) (vs : List Nat) (σ : L2.St) (H1 : Hp) (Q : VK) : Prop := ∀ D, H1 D = none → ∃ W : Nat → Nat → Hp → Prop, (∃ m, W 0 m (upd H1 D (.lst []))) ∧ ∀ i m H, W i m H →
      (J.stop i H ∧ Q (.ref D) H) ∨ (J.go i H ∧ ∃ Nx : Hp → Prop, (∀ H', Nx H' → ∃ m', m' < m ∧ W (i + 1) m' H') ∧ ∀ x H', J.yld i H x H' → g x (wipe σ vs) H' fun σ2 H2 => wipe σ2 vs = wipe σ vs ∧ tt σ2 H2 fun b H3 =>
        if b = true then te σ2 H3 fun y H4 => ∃ acc, H4 D = some (.lst acc) ∧ acc.length < sizeLine ∧ Nx (upd H4 D (.lst (acc ++ [y]))) else Nx H3)
theorem lc_ {wi : TI} {g : TG} {tt : TT} {te : TE} {vs : List Nat} {σ : L2.St} {H : Hp} {Q : VK} (h : ∀ LP : It → Hp → Prop, (∀ J H1, LoopC J g tt te vs σ H1 Q → LP J H1) → wi σ H LP) : tLc wi g tt te vs σ H Q := h (fun J H1 => LoopC J g tt te vs σ H1 Q) fun _ _ x => x
variable {K : PySem.W.Frag} {a b : Addr} {xs ys : List V} {g : TG} {tt : TT} {te : TE} {vs : List Nat} {σ : L2.St} {H1 : Hp} {Q : VK} {j : Nat}
/-- what is made on the way does not matter; A tells what the new list holds at each turn -/
theorem lc_walk {J : It} {n : Nat} {G : Hp → Prop} {X : Nat → V → Prop} (w : Walk J n G (fun i H x H' => H' = H ∧ X i x)) (hG : ∀ H, Same H1 H → G H) (p : Nat → Bool) (f : Nat → V) (A : Nat → List V) (hA0 : A 0 = []) (hA : ∀ i, i < n → A (i + 1) = if p i = true then A i ++ [f i] else A i)
    (hn : n < sizeLine) (hw : ∀ x, wipe ((wipe σ vs).set j (some x)) vs = wipe σ vs)
    (ht : ∀ i x H, i < n → X i x → Same H1 H → ∀ R : Bool → Hp → Prop, (∀ H3, Same H H3 → R (p i) H3) → tt ((wipe σ vs).set j (some x)) H R)
    (he : ∀ i x H, i < n → X i x → p i = true → Same H1 H → ∀ R : VK, (∀ H4, Same H H4 → R (f i) H4) → te ((wipe σ vs).set j (some x)) H R)
    (hd : ∀ D H, H1 D = none → Same H1 H → H D = some (.lst (A n)) → Q (.ref D) H) : LoopC J (gName j) tt te vs σ H1 Q := fun D hD => by
  have len : ∀ i, i ≤ n → (A i).length ≤ i := by
    intro i
    induction i with
    | zero => intro _; rw [hA0]; exact Nat.le_refl _
    | succ i ih =>
      intro hi
      have h := ih (by omega)
      rw [hA i (by omega)]
      split
      · rw [List.length_append, List.length_singleton]; omega
      · omega
  refine lc_it w (fun i H => Same H1 H ∧ H D = some (.lst (A i))) ⟨Same.new hD, by rw [upd_same, hA0]⟩ (fun i H _ q => hG H q.1) ?_ (fun H q => hd D H hD q.1 q.2)
  rintro i x H H' hi ⟨s1, hl⟩ ⟨rfl, hx⟩
  refine ⟨hw x, ht i x _ hi hx s1 _ fun H3 s3 => ?_⟩
  have step := hA i hi
  by_cases hp : p i = true
  · rw [if_pos hp]
    rw [if_pos hp] at step
    refine he i x H3 hi hx hp (s1.trans s3) _ fun H4 s4 => ⟨A i, s4 _ _ (s3 _ _ hl), Nat.lt_of_le_of_lt (len i (by omega)) (by omega), ?_, ?_⟩
    · exact Same.mut ((s1.trans s3).trans s4) hD
    · rw [upd_same, step]
  · rw [if_neg hp]
    rw [if_neg hp] at step
    exact ⟨s1.trans s3, by rw [step]; exact s3 _ _ hl⟩
/-- each item gives an object: R tells of it; D is the new list's own place -/
theorem lcr_walk {J : It} {n : Nat} {G : Hp → Prop} {X : Nat → V → Prop} (w : Walk J n G (fun i H x H' => H' = H ∧ X i x)) (hG : ∀ H, Same H1 H → G H) (R : Addr → Nat → V → Hp → Prop)
    (hR : ∀ D i v (H H' : Hp), (∀ b o, H b = some o → b ≠ D → H' b = some o) → R D i v H → R D i v H') (hn : n < sizeLine) (hw : ∀ x, wipe ((wipe σ vs).set j (some x)) vs = wipe σ vs)
    (he : ∀ D acc i x H, i < n → X i x → Same H1 H → H D = some (.lst acc) → ∀ R' : VK, (∀ v H4, Same H H4 → R D i v H4 → R' v H4) → te ((wipe σ vs).set j (some x)) H R')
    (hd : ∀ D us H, H1 D = none → Same H1 H → H D = some (.lst us) → us.length = n → (∀ i v, us[i]? = some v → R D i v H) → Q (.ref D) H) : LoopC J (gName j) tYes te vs σ H1 Q := fun D hD => by
  refine lc_it w (fun i H => Same H1 H ∧ ∃ us, H D = some (.lst us) ∧ us.length = i ∧ ∀ k v, us[k]? = some v → R D k v H) ⟨Same.new hD, [], upd_same, rfl, fun k v e => by simp at e⟩ (fun i H _ q => hG H q.1) ?_ (fun H ⟨s, us, h1, h2, h3⟩ => hd D us H hD s h1 h2 h3)
  rintro i x H H' hi ⟨s1, us, hl, hu, hr⟩ ⟨rfl, hx⟩
  refine ⟨hw x, ?_⟩
  unfold tYes
  dsimp only
  rw [if_pos rfl]
  refine he D us i x _ hi hx s1 hl _ fun v H4 s4 r4 => ⟨us, s4 _ _ hl, by omega, Same.mut (s1.trans s4) hD, us ++ [v], upd_same, by rw [List.length_append, hu] <;> rfl, fun k y e => ?_⟩
  have keep : ∀ b o, H4 b = some o → b ≠ D → (upd H4 D (.lst (us ++ [v]))) b = some o := fun b o h hb => by rw [upd_ne hb]; exact h
  by_cases hk : k < us.length
  · rw [List.getElem?_append_left hk] at e
    exact hR D k y _ _ keep (hR D k y _ _ (fun b o h _ => s4 b o h) (hr k y e))
  · have hk2 : k = us.length := by
      have h1 := (List.getElem?_eq_some_iff.mp e).1
      rw [List.length_append] at h1
      have : ([v] : List V).length = 1 := rfl
      omega
    rw [hk2, List.getElem?_append_right (Nat.le_refl _), Nat.sub_self] at e
    cases e
    rw [hk2, hu]
    exact hR D i v _ _ keep r4
theorem take_succ {α : Type} {l : List α} {i : Nat} {x : α} (h : l[i]? = some x) : l.take (i + 1) = l.take i ++ [x] := by
  rw [List.take_add_one, h] <;> rfl
theorem tYes_ {σ : L2.St} {H : Hp} {R : Bool → Hp → Prop} (h : ∀ H3, Same H H3 → R true H3) : tYes σ H R := h H (Same.refl H)
/-- over a list: [f(x) for x in xs] -/
theorem lcm_list (f : V → V) (hx : SqL K H1 a xs) (hz : xs.length < sizeLine) (hw : ∀ x, wipe ((wipe σ vs).set j (some x)) vs = wipe σ vs)
    (he : ∀ i x H, i < xs.length → xs[i]? = some x → Same H1 H → ∀ R : VK, (∀ H4, Same H H4 → R (f x) H4) → te ((wipe σ vs).set j (some x)) H R)
    (hd : ∀ D H, H1 D = none → Same H1 H → H D = some (.lst (xs.map f)) → Q (.ref D) H) : LoopC (Itl K a) (gName j) tYes te vs σ H1 Q :=
  lc_walk walk_list (fun H s => s.seq hx) (fun _ => true) (fun i => f (xs.getD i .non)) (fun i => (xs.take i).map f) rfl (fun i hi => by
    rw [if_pos rfl, take_succ (List.getElem?_eq_getElem hi), List.map_append]
    simp [hi]) hz hw (fun i x H _ _ _ R h => tYes_ h) (fun i x H hi hx _ s R h => he i x H hi hx s R (by
      intro H4 s4
      have := h H4 s4
      rw [List.getD_eq_getElem?_getD, hx] at this
      exact this)) (fun D H hD s h => hd D H hD s (by rw [h, List.take_length]))
/-- with a test -/
theorem lcf_list (p : V → Bool) (f : V → V) (hx : SqL K H1 a xs) (hz : xs.length < sizeLine) (hw : ∀ x, wipe ((wipe σ vs).set j (some x)) vs = wipe σ vs)
    (ht : ∀ i x H, i < xs.length → xs[i]? = some x → Same H1 H → ∀ R : Bool → Hp → Prop, (∀ H3, Same H H3 → R (p x) H3) → tt ((wipe σ vs).set j (some x)) H R)
    (he : ∀ i x H, i < xs.length → xs[i]? = some x → p x = true → Same H1 H → ∀ R : VK, (∀ H4, Same H H4 → R (f x) H4) → te ((wipe σ vs).set j (some x)) H R)
    (hd : ∀ D H, H1 D = none → Same H1 H → H D = some (.lst ((xs.filter p).map f)) → Q (.ref D) H) : LoopC (Itl K a) (gName j) tt te vs σ H1 Q := by
  have g : ∀ {i : Nat} {x : V}, xs[i]? = some x → xs.getD i .non = x := fun {i x} h => by rw [List.getD_eq_getElem?_getD, h] <;> rfl
  refine lc_walk walk_list (fun H s => s.seq hx) (fun i => p (xs.getD i .non)) (fun i => f (xs.getD i .non)) (fun i => ((xs.take i).filter p).map f) rfl (fun i hi => ?_) hz hw (fun i x H hi hx s R h => ?_) (fun i x H hi hx hp s R h => ?_) (fun D H hD s h => hd D H hD s (by rw [h, List.take_length]))
  · rw [take_succ (List.getElem?_eq_getElem hi), List.filter_append, List.map_append, g (List.getElem?_eq_getElem hi)]
    by_cases hp : p xs[i] = true
    · rw [if_pos hp, List.filter_cons, if_pos hp] <;> rfl
    · rw [if_neg hp, List.filter_cons, if_neg hp]; simp
  · rw [g hx] at h; exact ht i x H hi hx s R h
  · rw [g hx] at h hp; exact he i x H hi hx hp s R h
/-- over a range -/
theorem lcm_range {lo : Int} {n : Nat} (f : Int → V) (hz : n < sizeLine) (hw : ∀ x, wipe ((wipe σ vs).set j (some x)) vs = wipe σ vs)
    (he : ∀ (i : Nat) H, i < n → Same H1 H → ∀ R : VK, (∀ H4, Same H H4 → R (f (lo + i)) H4) → te ((wipe σ vs).set j (some (.int (lo + i)))) H R)
    (hd : ∀ D H, H1 D = none → Same H1 H → H D = some (.lst ((List.range n).map fun (i : Nat) => f (lo + i))) → Q (.ref D) H) : LoopC (Itr lo n) (gName j) tYes te vs σ H1 Q :=
  lc_walk (X := fun i x => x = .int (lo + i)) walk_range (fun _ _ => trivial) (fun _ => true) (fun i => f (lo + i)) (fun i => (List.range i).map fun (i : Nat) => f (lo + i)) rfl (fun i hi => by
    rw [if_pos rfl, List.range_succ, List.map_append] <;> rfl) hz hw (fun i x H _ _ _ R h => tYes_ h) (fun i x H hi hx _ s R h => by subst hx; exact he i H hi s R h) hd
theorem lcf_range {lo : Int} {n : Nat} (p : Int → Bool) (f : Int → V) (hz : n < sizeLine) (hw : ∀ x, wipe ((wipe σ vs).set j (some x)) vs = wipe σ vs)
    (ht : ∀ (i : Nat) H, i < n → Same H1 H → ∀ R : Bool → Hp → Prop, (∀ H3, Same H H3 → R (p (lo + i)) H3) → tt ((wipe σ vs).set j (some (.int (lo + i)))) H R)
    (he : ∀ (i : Nat) H, i < n → p (lo + i) = true → Same H1 H → ∀ R : VK, (∀ H4, Same H H4 → R (f (lo + i)) H4) → te ((wipe σ vs).set j (some (.int (lo + i)))) H R)
    (hd : ∀ D H, H1 D = none → Same H1 H → H D = some (.lst (((List.range n).filter fun (i : Nat) => p (lo + i)).map fun (i : Nat) => f (lo + i))) → Q (.ref D) H) : LoopC (Itr lo n) (gName j) tt te vs σ H1 Q :=
  lc_walk (X := fun i x => x = .int (lo + i)) walk_range (fun _ _ => trivial) (fun i => p (lo + i)) (fun i => f (lo + i)) (fun i => ((List.range i).filter fun (i : Nat) => p (lo + i)).map fun (i : Nat) => f (lo + i)) rfl (fun i hi => by
    rw [List.range_succ, List.filter_append, List.map_append]
    by_cases hp : p (lo + i) = true
    · rw [if_pos hp, List.filter_cons, if_pos hp] <;> rfl
    · rw [if_neg hp, List.filter_cons, if_neg hp]; simp) hz hw (fun i x H hi hx s R h => by subst hx; exact ht i H hi s R h) (fun i x H hi hx hp s R h => by subst hx; exact he i H hi hp s R h) hd
end

/-! ### data by their types -/
mutual
theorem Dp.same {K : PySem.W.Frag} {H H' : Hp} (e : Same H H') : ∀ {v : V} {d : PyData}, Dp K H v d → Dp K H' v d
  | _, _, .non => .non
  | _, _, .bl b => .bl b
  | _, _, .int i => .int i
  | _, _, .str x => .str x
  | _, _, .lst h a => .lst (e.seq h) (DpAll.same e a)
  | _, _, .tup h a => .tup (Same.tup e h) (DpAll.same e a)
theorem DpAll.same {K : PySem.W.Frag} {H H' : Hp} (e : Same H H') : ∀ {v : List V} {d : List PyData}, DpAll K H v d → DpAll K H' v d
  | _, _, .nil => .nil
  | _, _, .cons h t => .cons (Dp.same e h) (DpAll.same e t)
end
/-- a type of data: how it is written as Python's data, when that can be laid, how deep it is -/
class Enc (α : Type) where
  enc : α → PyData
  good : α → Prop
  dep : Nat
  eq : ∀ x y : α, PyData.eqv (enc x) (enc y) = true ↔ x = y
  lay : ∀ x, good x → (enc x).canLay0 = true
  dp : ∀ x, (enc x).depth ≤ dep
theorem Enc.eqd {α : Type} [Enc α] [DecidableEq α] (x y : α) : PyData.eqv (Enc.enc x) (Enc.enc y) = decide (x = y) := by
  by_cases h : x = y
  · rw [decide_eq_true h]; exact (Enc.eq x y).mpr h
  · rw [decide_eq_false h]
    cases q : PyData.eqv (Enc.enc x) (Enc.enc y) with
    | false => rfl
    | true => exact absurd ((Enc.eq x y).mp q) h
theorem Enc.shaped {α : Type} [Enc α] {x : α} (h : Enc.good x) (hd : Enc.dep α ≤ 64) : SeqAt.shaped (Enc.enc x) = true := by
  unfold SeqAt.shaped
  rw [Enc.lay x h, decide_eq_true (Nat.le_trans (Enc.dp x) hd)] <;> rfl
instance : Enc Int where
  enc := .int
  good := fun _ => True
  dep := 0
  eq := fun x y => by simp [PyData.eqv]
  lay := fun _ _ => rfl
  dp := fun _ => Nat.le_refl 0
instance : Enc Bool where
  enc := .bool
  good := fun _ => True
  dep := 0
  eq := fun x y => by simp [PyData.eqv]
  lay := fun _ _ => rfl
  dp := fun _ => Nat.le_refl 0
instance : Enc Str where
  enc := .str
  good := fun x => ∀ c ∈ x.cps.toList, c < 0x110000
  dep := 0
  eq := fun x y => by simp [PyData.eqv]
  lay := fun x h => by
    unfold PyData.canLay0 PyData.strOk
    rw [Array.all_eq_true]
    intro i hi
    exact decide_eq_true (h _ (by simp))
  dp := fun _ => Nat.le_refl 0
theorem Enc.eqAll {α : Type} [Enc α] : ∀ xs ys : List α, PyData.eqvAll (xs.map Enc.enc) (ys.map Enc.enc) = true ↔ xs = ys
  | [], [] => by simp [PyData.eqvAll]
  | [], _ :: _ => by simp [PyData.eqvAll]
  | _ :: _, [] => by simp [PyData.eqvAll]
  | x :: xs, y :: ys => by
    rw [List.map_cons, List.map_cons, PyData.eqvAll, Bool.and_eq_true, Enc.eq, Enc.eqAll xs ys, List.cons.injEq]
theorem Enc.layAll {α : Type} [Enc α] : ∀ xs : List α, (∀ x ∈ xs, Enc.good x) → PyData.canLayAll0 (xs.map Enc.enc) = true
  | [], _ => rfl
  | x :: xs, h => by
    rw [List.map_cons, PyData.canLayAll0, Enc.lay x (h x (List.mem_cons_self ..)), Enc.layAll xs fun y hy => h y (List.mem_cons_of_mem _ hy)] <;> rfl
theorem Enc.dpAll {α : Type} [Enc α] : ∀ xs : List α, PyData.depthAll (xs.map Enc.enc) ≤ Enc.dep α
  | [] => Nat.zero_le _
  | x :: xs => by
    rw [List.map_cons, PyData.depthAll]
    exact Nat.max_le.mpr ⟨Enc.dp x, Enc.dpAll xs⟩
instance {α : Type} [Enc α] : Enc (List α) where
  enc := fun xs => .list (xs.map Enc.enc)
  good := fun xs => ∀ x ∈ xs, Enc.good x
  dep := Enc.dep α + 1
  eq := fun xs ys => by rw [PyData.eqv]; exact Enc.eqAll xs ys
  lay := fun xs h => by rw [PyData.canLay0]; exact Enc.layAll xs h
  dp := fun xs => by rw [PyData.depth]; exact Nat.succ_le_succ (Enc.dpAll xs)
instance {α β : Type} [Enc α] [Enc β] : Enc (α × β) where
  enc := fun p => .tuple [Enc.enc p.1, Enc.enc p.2]
  good := fun p => Enc.good p.1 ∧ Enc.good p.2
  dep := max (Enc.dep α) (Enc.dep β) + 1
  eq := fun x y => by
    rw [PyData.eqv, PyData.eqvAll, PyData.eqvAll, PyData.eqvAll, Bool.and_true, Bool.and_eq_true, Enc.eq, Enc.eq, Prod.ext_iff]
  lay := fun x h => by
    rw [PyData.canLay0, PyData.canLayAll0, PyData.canLayAll0, PyData.canLayAll0, Enc.lay _ h.1, Enc.lay _ h.2] <;> rfl
  dp := fun x => by
    rw [PyData.depth, PyData.depthAll, PyData.depthAll, PyData.depthAll]
    have h1 := Enc.dp x.1
    have h2 := Enc.dp x.2
    omega
/-- v stands for x in the heap H -/
def Is {α : Type} [Enc α] (K : PySem.W.Frag) (H : Hp) (v : V) (x : α) : Prop := Dp K H v (Enc.enc x)
theorem Is.same {α : Type} [Enc α] {K : PySem.W.Frag} {H H' : Hp} {v : V} {x : α} (h : Is K H v x) (e : Same H H') : Is K H' v x := Dp.same e h
theorem is_int {K : PySem.W.Frag} {H : Hp} (i : Int) : Is K H (.int i) i := .int i
theorem is_str {K : PySem.W.Frag} {H : Hp} (x : Str) : Is K H (.str x) x := .str x
theorem is_bl {K : PySem.W.Frag} {H : Hp} (x : Bool) : Is K H (.bl x) x := .bl x
theorem dp_map {α : Type} [Enc α] {K : PySem.W.Frag} {H : Hp} (f : α → V) (h : ∀ x, Is K H (f x) x) : ∀ xs : List α, DpAll K H (xs.map f) (xs.map Enc.enc)
  | [] => .nil
  | x :: xs => .cons (h x) (dp_map f h xs)
theorem is_ints {K : PySem.W.Frag} {H : Hp} {a : Addr} {ns : List Int} (h : SqL K H a (ns.map V.int)) : Is K H (.ref a) ns := .lst h (dp_map V.int is_int ns)
theorem is_strs {K : PySem.W.Frag} {H : Hp} {a : Addr} {ns : List Str} (h : SqL K H a (ns.map V.str)) : Is K H (.ref a) ns := .lst h (dp_map V.str is_str ns)
theorem is_bls {K : PySem.W.Frag} {H : Hp} {a : Addr} {ns : List Bool} (h : SqL K H a (ns.map V.bl)) : Is K H (.ref a) ns := .lst h (dp_map V.bl is_bl ns)
theorem is_pair {α β : Type} [Enc α] [Enc β] {K : PySem.W.Frag} {H : Hp} {a : Addr} {v u : V} {x : α} {y : β} (h : SqT K H a [v, u]) (h1 : Is K H v x) (h2 : Is K H u y) : Is K H (.ref a) (x, y) := .tup h (.cons h1 (.cons h2 .nil))
theorem good_ints (ns : List Int) : Enc.good ns := fun _ _ => trivial
theorem good_bls (ns : List Bool) : Enc.good ns := fun _ _ => trivial
/-- == and != of data -/
theorem eqD_ {α : Type} [Enc α] [DecidableEq α] {K : PySem.W.Frag} {H : Hp} {v u : V} {x y : α} {Q : VK} (h1 : Is K H v x) (h2 : Is K H u y) (g1 : Enc.good x) (g2 : Enc.good y) (hd : Enc.dep α ≤ 64) (q : Q (.bl (decide (x = y))) H) : rEqD K v u H Q :=
  ⟨_, _, h1, h2, Enc.shaped g1 hd, Enc.shaped g2 hd, by rw [Enc.eqd]; exact q⟩
theorem neD_ {α : Type} [Enc α] [DecidableEq α] {K : PySem.W.Frag} {H : Hp} {v u : V} {x y : α} {Q : VK} (h1 : Is K H v x) (h2 : Is K H u y) (g1 : Enc.good x) (g2 : Enc.good y) (hd : Enc.dep α ≤ 64) (q : Q (.bl (!decide (x = y))) H) : rNeD K v u H Q :=
  ⟨_, _, h1, h2, Enc.shaped g1 hd, Enc.shaped g2 hd, by rw [Enc.eqd]; exact q⟩
/-- isinstance(x, c) -/
theorem isi_ {K : PySem.W.Frag} {H : Hp} {x c : V} {t u : Value} {b : Bool} {Q : VK} (hc : ClsV c u) (ht : TyX K H x t) (hk : PySem.W.kitOne K t u = some b) (q : Q (.bl b) H) : rIsi K [x, c] H Q := ⟨x, c, t, u, b, rfl, hc, ht, hk, q⟩
theorem tyLst {K : PySem.W.Frag} {H : Hp} {a : Addr} {xs : List V} (h : SqL K H a xs) : tyV K "list" (.ref a) H := .inl ⟨rfl, _, h⟩
/-! ### slices -/
theorem cut_take (xs : List V) (k : Nat) : cutV xs none (some (k : Int)) = xs.take k := by
  unfold cutV
  rw [HT.sIx_none, HT.sIx_nat, List.drop_zero, Nat.sub_zero, List.take_eq_take_iff]
  omega
theorem cut_drop (xs : List V) (k : Nat) : cutV xs (some (k : Int)) none = xs.drop k := by
  unfold cutV
  rw [HT.sIx_none, HT.sIx_nat]
  by_cases h : k ≤ xs.length
  · rw [Nat.min_eq_left h, List.take_of_length_le (by rw [List.length_drop]; exact Nat.le_refl _)]
  · rw [Nat.min_eq_right (by omega), List.drop_length, List.take_nil, List.drop_of_length_le (by omega)]
theorem cut_mid (xs : List V) (i j : Nat) : cutV xs (some (i : Int)) (some (j : Int)) = (xs.drop i).take (j - i) := by
  unfold cutV
  rw [HT.sIx_nat, HT.sIx_nat]
  by_cases h : i ≤ xs.length
  · rw [show min i xs.length = i by omega, List.take_eq_take_iff, List.length_drop]
    omega
  · rw [show min i xs.length = xs.length by omega, List.drop_length, List.take_nil, List.drop_of_length_le (by omega), List.take_nil]
/-! ### a caught exception, kept as a value -/
def ExV (cls : Value) (a : Addr) : HO := .ext fun h => ∃ (ob : Obj) (vs : Array Value), h.get? a = some ob ∧ Zc cls none ob ∧ ob.data = .fields vs
section
variable {X : Cx} {pi_ : List (Addr × Obj)} {σ : L2.St} {H : Hp} {s : Shared}
theorem exV_ok {P : Program} {w : World} {h : Heap} {a : Addr} {cls : Value} {ob : Obj} {vs : Array Value} (e : h.get? a = some ob) (z : Zc cls none ob) (d : ob.data = .fields vs) : ObjOk P w H h a (ExV cls a) :=
  ⟨⟨ob, vs, e, z, d⟩, ⟨ob, e⟩, fun _ _ ⟨o, v, q, r⟩ k => ⟨o, v, k o q, r⟩⟩
/-- an object that stood not at the entry, untracked till now, is tracked -/
theorem Inv.track_ {a : Addr} {o : HO} (I : Inv X pi_ σ H s) (n0 : X.s_0.heap.get? a = none) (nH : H a = none) (nL : a ≠ X.env.locals) (nC : ∀ x c, X.env.cells.lookup x = some c → c ≠ a) (nP : ∀ p ∈ X.pn ++ pi_, p.1 ≠ a)
    (new : ObjOk X.prog X.w (upd H a o) s.heap a o) : Inv X pi_ σ (upd H a o) s := by
  have ne0 : ∀ b u, X.s_0.heap.get? b = some u → b ≠ a := fun b u e z => by rw [z, n0] at e; cases e
  refine ⟨I.ok, I.os, I.bare, ⟨I.base.keep, I.base.slot, fun b u e n hx => ?_, I.base.there, fun b xs e => ?_, fun b u v e => ?_, fun b ps e => ?_⟩, I.loc, I.cell, ?_, fun x c e => ?_, fun p hp => ?_, fun b u e => ?_, I.len⟩
  · rw [upd_ne (ne0 b u e)]; exact I.base.free b u e n hx
  · have q := I.base.tups b xs e
    rw [upd_ne (ne_of_none q nH)]; exact q
  · have q := I.base.frzs b u v e
    rw [upd_ne (ne_of_none q nH)]; exact q
  · obtain ⟨m, q⟩ := I.base.tbls b ps e
    exact ⟨m, by rw [upd_ne (ne_of_none q nH)]; exact q⟩
  · rw [upd_ne nL.symm]; exact I.free
  · rw [upd_ne (nC x c e)]; exact I.freeC x c e
  · obtain ⟨e, n, r⟩ := I.pin p hp
    exact ⟨e, by rw [upd_ne (nP p hp)]; exact n, r⟩
  · by_cases hb : b = a
    · subst hb
      rw [upd_same] at e
      cases e
      exact new
    · rw [upd_ne hb] at e
      exact (I.hok b u e).stay (fun c v _ q => q) (fun c q => by rw [upd_ne (ne_of_none q nH)]; exact q) fun c xs q => by rw [upd_ne (ne_of_none q nH)]; exact q
end
/-- what the clause 'except c as n' wishes, where the exception stays tracked behind the suite -/
def wKp (K : PySem.W.Frag) (c : Value) (i : Nat) (ts : Addr → Value → Option Addr → TS) (Wout : WX) (Dn : Ends) : WX := fun cls d σ H =>
  ∃ b, PySem.W.exmOne K cls c = some b ∧ (b = true → d = none ∧ ∀ a, H a = none → ts a cls d { nx := fun σ' H' => H' a = none → Dn.nx (σ'.set i none) (upd H' a (ExV cls a)), rt := fun _ _ => False, bk := fun _ _ => False, ct := fun _ _ => False } (σ.set i (some (.ref a))) H) ∧
    (b = false → Wout cls d σ H)
section
variable {X : Cx} {x n : Str} {c : Value} {i : Nat} {body suite : List Stmt} {b₀ : Stmt} {np pos pos' : Pos} {tb : WX → TS} {ts : Addr → Value → Option Addr → TS} {Wout : WX}
theorem ps_try_kp (hs : X.stack = X.env :: X.outer) (hf : X.env.frame = some X.env.locals) (hN : X.N.Nodup) (hi : X.N[i]? = some n) (hlo : X.env.kindOf n = some .local) (hc : Names X x c) (hex : X.ex = []) (tk : Takes X Wout)
    (hb : ∀ (W : WX) (pn : List (Addr × Obj)) (xe : Value → Shared → Prop), Takes (X.tr pn xe) W → PassesOwn (model X.prog X.w) X.A X.env xe → PSs (X.tr pn xe) body (tb W))
    (hst_ : ∀ (a : Addr) (ob : Obj) (cls : Value) (d : Option Addr) (pn : List (Addr × Obj)), Zc cls d ob → (∃ vs, ob.data = .fields vs) → PSs (X.suite a ((a, ob) :: pn)) (b₀ :: suite) (ts a cls d)) :
    PS X (.Try body [.ExceptHandler (some (.Name x np)) (some n) (b₀ :: suite) pos'] [] [] pos) (fun Dn σ H => tb (wKp X.K c i ts Wout Dn) Dn σ H) := by
  refine ⟨fun pi_ s σ H Dn I h => ?_⟩
  have ok := I.ok
  have kfr : X.A.frames = some (X.env :: X.outer) := by rw [ok.frames, hs]
  have lcn : Loc X.env.scope n := .inl hlo
  refine wpAny_Try_except ?_
  refine wpAny_mono ((hb (wKp X.K c i ts Wout Dn) (X.pn ++ pi_) (fun e s₁ => wpAny (model X.prog X.w) X.A (noteFrame e X.env) (fun _ s₂ => wpAny (model X.prog X.w) X.A (setFlight e none) (fun _ s₃ =>
    wpAny (model X.prog X.w) X.A (handleBy e X.env [.ExceptHandler (some (.Name x np)) (some n) (b₀ :: suite) pos']) (SP X pi_ Dn) X.xe s₃) X.xe s₂) X.xe s₁) (fun u s' thr => ?_) PassesOwn.looking).run [] s σ H Dn (I.toTry _) h) (fun f s1 hend => ?_) (fun e s1 he => he)
  · obtain ⟨a, B, sg, pins', σ', H', cls, d, rfl, Ja, grd, upa, airy, na, sos, ag, b, hb1, hyes, hno⟩ := thr
    have Jb : Inv X pi_ σ' H' sg := Ja.ofTry ok
    have air : Sky B (X.env :: X.outer) a (Zc cls d) X.env.locals s'.heap := by rw [← hs]; exact airy
    show wpAny (model X.prog X.w) X.A (noteFrame (.ref a) X.env) _ _ _
    refine Sky.land Zc.steady kfr hf air fun hp3 fly upc => ?_
    have Jc : Inv X pi_ σ' H' { s' with heap := hp3 } := Jb.landed grd fly.1 (upa.trans upc) sos ag
    obtain ⟨ob3, fs3, at3, cl3, da3⟩ := fly.there
    have noFr : ∀ {h : Heap} {o : Obj} {vs : Array Value}, h.FunFrames B (X.env :: X.outer) → h.get? a = some o → o.data = .fields vs → a ∉ frs (X.env :: X.outer) := fun {h o vs} ff e dd hm => by
      obtain ⟨_, o', e', hnf⟩ := ff.mem hm
      rw [e] at e'; cases e'
      exact hnf _ dd
    have offFr := noFr fly.2.2.1 at3 da3
    have nL : a ≠ X.env.locals := fun z => offFr (List.mem_filterMap.mpr ⟨X.env, List.mem_cons_self, by rw [hf, z]⟩)
    have nF : a ∉ X.fs := fun hm => by
      obtain ⟨e, he, q⟩ := List.mem_filterMap.mp hm
      exact offFr (List.mem_filterMap.mpr ⟨e, List.mem_cons_of_mem _ he, q⟩)
    -- new since the entry
    have nI : sg.heap.get? a = none := by
      cases e : sg.heap.get? a with
      | none => rfl
      | some o =>
        have := grd a o e (by rw [hs]; exact offFr)
        rw [fly.2.1] at this; cases this
    have n0 : X.s_0.heap.get? a = none := by
      cases e : X.s_0.heap.get? a with
      | none => rfl
      | some o =>
        obtain ⟨o', q⟩ := Jb.base.there a o e (by rw [hex]; exact fun z => nomatch z)
        rw [nI] at q; cases q
    have nP : ∀ p ∈ X.pn ++ pi_, p.1 ≠ a := fun p hp z => by
      have q := (Jb.pin p hp).1
      rw [z, nI] at q; cases q
    have Sc := Jc.suite at3 da3 na nL nF
    refine wpAny_handleBy_cons (codeAny_handlers_test ?_) (by intro q; cases q)
    have lookT : PySem.W.Looks (model X.prog X.w) hp3 (typeOf (.ref a)) cls := fun A Q E s k q => wpAny_typeOf_ref (k _ _ at3) (by rw [cl3.1]; exact q)
    have lookM := PySem.W.exm_one (M := model X.prog X.w) (Jc.kIn) lookT hb1
    have asks : ∀ {Q : Value → Shared → Prop} {E : Value → Shared → Prop}, Q c { s' with heap := hp3 } → wpAny (model X.prog X.w) (X.A.mark (some (.ref a))) (eval (.Name x np) X.env) Q E { s' with heap := hp3 } := fun {Q E} q => by
      obtain ⟨hgl, ndbg, hm | ⟨hm, hval, nnm⟩⟩ := hc
      · exact ld_glob (X := X.suite a ((a, ob3) :: (X.pn ++ pi_))) Sc hgl hm q ndbg
      · exact ld_blt (X := X.suite a ((a, ob3) :: (X.pn ++ pi_))) Sc hgl hm hval q nnm ndbg
    refine asks (lookM.here ?_)
    cases b with
    | true =>
      refine codeAny_handlers_suite_as ?_
      refine HandSPX.lands_againZ fly fun hp4 fly2 upd_ => ?_
      have Jd : Inv X pi_ σ' H' { s' with heap := hp4 } := Jb.landed grd fly2.1 ((upa.trans upc).trans upd_) sos ag
      obtain ⟨ob4, fs4, at4, cl4, da4⟩ := fly2.there
      have Sd := Jd.suite at4 da4 na nL nF
      obtain ⟨rfl, hyes⟩ := hyes rfl
      refine store_ok (X := X.suite a ((a, ob4) :: (X.pn ++ pi_))) (v := .ref a) Sd hN hi lcn rfl (fun s5 Se => ?_) (.inr hlo)
      refine wpAny_mono ((hst_ a ob4 cls none (X.pn ++ pi_) cl4 ⟨_, da4⟩).run [] s5 _ H' _ Se (hyes a na)) (fun f se hend => ?_) (fun _ _ z => False.elim z)
      cases f with
      | next =>
        obtain ⟨σe, He_, Sf, qe⟩ := hend
        -- the pin stays while the name goes
        have S6' : Inv (X.tr ((a, ob4) :: (X.pn ++ pi_)) X.xe) [] σe He_ se := ⟨ok.toTry _ _, Sf.os, Sf.bare, Sf.base, Sf.loc, Sf.cell, Sf.free, Sf.freeC, Sf.pin, Sf.hok, Sf.len⟩
        refine gone_ok (X := X.tr ((a, ob4) :: (X.pn ++ pi_)) X.xe) S6' hN hi hlo fun s7 S7 => ?_
        obtain ⟨e7, n7, l7, f7, c7⟩ := S7.pin (a, ob4) (List.mem_append_left _ List.mem_cons_self)
        have Jg : Inv X pi_ (σe.set i none) He_ s7 := ⟨ok, S7.os, S7.bare, S7.base, S7.loc, S7.cell, S7.free, S7.freeC, fun p hp => S7.pin p (List.mem_append_left _ (List.mem_cons_of_mem _ hp)), S7.hok, S7.len⟩
        refine ⟨_, _, Inv.track_ Jg n0 n7 nL (fun y k e z => ?_) nP (exV_ok e7 cl4 da4), qe n7⟩
        obtain ⟨v, o, ho, hval⟩ := Jg.cell y k e
        rw [z, e7] at ho
        cases ho
        exact c7 v hval
      | brk =>
        obtain ⟨σe, He_, Sf, qe⟩ := hend
        exact qe.elim
      | cont =>
        obtain ⟨σe, He_, Sf, qe⟩ := hend
        exact qe.elim
      | ret u =>
        obtain ⟨ve, σe, He_, Sf, re, qe⟩ := hend
        exact qe.elim
    | false =>
      show wpAny _ X.A (handleBy (.ref a) X.env []) _ _ _
      refine wpAny_handleBy_nil ?_
      obtain ⟨ka, kb, kc, ob, vs, T, oT, tsx, he, hz, hd, ha_, hro⟩ := id fly
      unfold PySem.passOn
      refine wpAny_bind (wpAny_field he hd ha_ ?_)
      rw [if_neg (show ¬ ((Value.ref T == Value.none) = true) from by simp)]
      have off : wpAny (model X.prog X.w) X.A (setFlight (.ref a) X.env.frame) (fun _ s4 => wpAny (model X.prog X.w) X.A (throw (.ref a) : Sem Flow) (SP X pi_ Dn) X.xe s4) X.xe { s' with heap := hp3 } := by
        rw [hf]
        refine HandSPX.setFlight_upZ fly fun hp4 hx4 upd_ => wpAny_throw (tk _ _ ?_)
        exact ⟨a, B, sg, pi_, σ', H', cls, d, rfl, Jb, grd, (upa.trans upc).trans upd_, .inr (.inr (by rw [hs]; exact hx4)), na, sos, ag, hno rfl⟩
      first
        | exact wpAny_bind (wpAny_pure (wpAny_bind off))
        | exact wpAny_bind off
  · cases f with
    | next =>
      obtain ⟨σ', H', Ja, q⟩ := hend
      exact wpAny_execs_nil ⟨σ', H', Ja.ofTry ok, q⟩
    | brk =>
      obtain ⟨σ', H', Ja, q⟩ := hend
      exact ⟨σ', H', Ja.ofTry ok, q⟩
    | cont =>
      obtain ⟨σ', H', Ja, q⟩ := hend
      exact ⟨σ', H', Ja.ofTry ok, q⟩
    | ret u =>
      obtain ⟨v, σ', H', Ja, r, q⟩ := hend
      exact ⟨v, σ', H', Ja.ofTry ok, r, q⟩
end
/-! ### calls in a try's body -/
section
variable {X : Cx} {CX : CXT} {k : Nat} {x C m : Str} {ps : List Str} {sp : Sp} {E : L2.St → XK} {e o : Expr} {es : List Expr} {ta : TE} {t : TA} {p pos apos : Pos}
def tMethS (C : Addr) (m : Str) (sp : Sp) (E : L2.St → XK) (ta : TE) (t : TA) : TE := fun σ H Q => tMeth C m sp [] (E σ) ta t σ H Q
theorem pmethS0 {plm : Sem Bool} (hx : ∀ σ, PassesAt CX X σ (E σ)) (c : Cls X.K (He.ga X.K C)) (hm : Meth X.K (He.ga X.K C) m (He.ma X.K (He.ga X.K C) m)) (he : PE X o ta) (F : Mt X.prog X.w X.K X.mg X.base CX k C m ps sp) (hro : Room k X.A) (ha : PA X (e :: es) t)
    (hstar : starEach (e :: es) X.env = (false, eval e X.env) :: starEach es X.env := by rfl) (hplain : (backTo pos (starEach es X.env)).any (·.1) = false := by rfl)
    (heval : eval (.Call (.Attribute o m apos) (e :: es) [] pos) X.env = (do
      let ov ← eval o X.env
      standAt apos.atName
      let (f, first) ← holding [ov] (getMethod ov m plm)
      callWith pos f first (backTo pos (starEach (e :: es) X.env)) (backToKw pos (keywordEach [] X.env))) := by rfl) :
    PE X (.Call (.Attribute o m apos) (e :: es) [] pos) (tMethS (He.ga X.K C) m sp E ta t) := by
  refine ⟨fun pi_ s σ H Q I h => ?_⟩
  refine PySem.W.methodCall_KW (pl := plm) (thn (he.run pi_ s σ H _ I h) fun u s1 ⟨x, Ha, Ia, rx_, a, dx, fs, ex_, ea_, l, q⟩ => ?_) heval
  subst ex_
  obtain rfl : u = Value.ref a := rx_
  refine getmeth_ok Ia ea_ c hm l ?_
  refine PySem.W.callWith_K (first := [.ref a]) (h₀ := X.base) I.ok.mod.kin hm.kp (thn (ha.run pos pi_ s1 σ Ha _ Ia q) fun us s2 ⟨vs, Hb, Ib, r, q2⟩ => ⟨Ib.kIn, ?_⟩) hstar hplain
  exact run_fnS (us := .ref a :: us) (vs := .ref a :: vs) F.ok hro F.b (hx σ) Ib (.cons rfl r) (by simpa using q2)
theorem pmethS {K : PySem.W.Frag} {plm : Sem Bool} (hx : ∀ σ, PassesAt CX X σ (E σ)) (c : Cls K (He.ga K C)) (hm : Meth K (He.ga K C) m (He.ma K (He.ga K C) m)) (he : PE X o ta) (F : Mt X.prog X.w K X.mg X.base CX k C m ps sp) (hro : Room k X.A) (ha : PA X (e :: es) t)
    (hK : X.K = K := by rfl) (hstar : starEach (e :: es) X.env = (false, eval e X.env) :: starEach es X.env := by rfl) (hplain : (backTo pos (starEach es X.env)).any (·.1) = false := by rfl)
    (heval : eval (.Call (.Attribute o m apos) (e :: es) [] pos) X.env = (do
      let ov ← eval o X.env
      standAt apos.atName
      let fb ← holding [ov] (getMethod ov m plm)
      callWith pos fb.1 fb.2 (backTo pos (starEach (e :: es) X.env)) (backToKw pos (keywordEach [] X.env))) := by rfl) :
    PE X (.Call (.Attribute o m apos) (e :: es) [] pos) (tMethS (He.ga K C) m sp E ta t) := by
  subst hK
  exact pmethS0 (plm := plm) hx c hm he F hro ha hstar hplain heval
end
/-! ### isinstance of a kept exception -/
def excCb (K : PySem.W.Frag) (Dn : Addr) : Bool :=
  PySem.W.findIn K (.ref Dn) "__getattribute__" == some (some (.builtin "BaseException.__getattribute__")) && (PySem.W.findIn K (.ref Dn) "__getattr__" == some none && (PySem.W.subIn K (.ref Dn) (.type "BaseException") == some true && (PySem.W.hasDictIn K Dn && (PySem.W.findIn K (.ref Dn) "__class__" == some (some (.builtin "object.__class__")) && (PySem.W.specialIn K (.builtin "object.__class__") "__get__" == some (some (.builtin "getset_descriptor.__get__")) && (PySem.W.takesIn K (.builtin "object.__class__") == some true && PySem.W.mroIn K Dn (.type "object") == some true))))))
theorem excC_of {K : PySem.W.Frag} {Dn : Addr} (h : excCb K Dn = true) : ExcC K Dn := by
  obtain ⟨ha_, h⟩ := He.ba h
  obtain ⟨hb_, h⟩ := He.ba h
  obtain ⟨hp3, h⟩ := He.ba h
  obtain ⟨hp4, h⟩ := He.ba h
  obtain ⟨h5, h⟩ := He.ba h
  obtain ⟨h6, h⟩ := He.ba h
  obtain ⟨h7, h8⟩ := He.ba h
  exact ⟨eq_of_beq ha_, eq_of_beq hb_, eq_of_beq hp3, hp4, eq_of_beq h5, eq_of_beq h6, eq_of_beq h7, eq_of_beq h8⟩
def rIsx (K : PySem.W.Frag) : List V → Hp → VK → Prop := fun xs H Q => ∃ (a Dn : Addr) (c : V) (u : Value) (b : Bool), xs = [.ref a, c] ∧ H a = some (ExV (.ref Dn) a) ∧ ClsV c u ∧ ExcC K Dn ∧ PySem.W.kitOne K (.ref Dn) u = some b ∧ Q (.bl b) H
def rIsxT (K : PySem.W.Frag) : List V → Hp → VK → Prop := fun xs H Q => ∃ (a Dn tp : Addr) (cs : List V) (us : List Value) (b : Bool), xs = [.ref a, .ref tp] ∧ H a = some (ExV (.ref Dn) a) ∧ H tp = some (.tup cs) ∧ Paired ClsV cs us ∧ ExcC K Dn ∧ PySem.W.kitAny K (.ref Dn) us = some b ∧ Q (.bl b) H
theorem exv_at {X : Cx} {pi_ : List (Addr × Obj)} {σ : L2.St} {H : Hp} {s : Shared} {a Dn : Addr} (I : Inv X pi_ σ H s) (h : H a = some (ExV (.ref Dn) a)) : ∃ ob, PySem.W.InstAt s.heap a ob Dn none := by
  obtain ⟨⟨ob, vs, e, ⟨z1, z2⟩, d⟩, _⟩ := I.hok a _ h
  obtain ⟨cl_, dc_, da_, sl_⟩ := ob
  dsimp only at z1 z2 d
  subst z1 z2 d
  exact ⟨_, e, rfl, rfl, trivial⟩
theorem call_isx {X : Cx} : CallR X (.builtin "isinstance") (rIsx X.K) := by
  intro pi_ s σ H xs us Q I r h
  obtain ⟨a, Dn, c, u, b, rfl, ha, k, C, e, q⟩ := h
  obtain ⟨w1, w2, rfl, ra, rb⟩ := vals2 r
  have e2 := k.eq rb
  subst e2
  cases (show w1 = Value.ref a from ra)
  obtain ⟨ob, Jb⟩ := exv_at I ha
  exact PySem.W.kia_one (PySem.W.handS_kitx_exc C.hg C.hk C.hs C.hd C.ha C.hn C.ht C.hm) I.kIn Jb e (fun z => nomatch z) fun tk => ⟨.bl b, H, I.tok tk, rfl, q⟩
theorem call_isxT {X : Cx} : CallR X (.builtin "isinstance") (rIsxT X.K) := by
  intro pi_ s σ H xs us Q I r h
  obtain ⟨a, Dn, tp, cs, ws, b, rfl, ha, hT, k, C, e, q⟩ := h
  obtain ⟨w1, w2, rfl, ra, rb⟩ := vals2 r
  cases (show w1 = Value.ref a from ra)
  cases (show w2 = Value.ref tp from rb)
  obtain ⟨ob, Jb⟩ := exv_at I ha
  obtain ⟨_, its, rv, o, ha_, hb_, n, hp3⟩ := (show ObjOk X.prog X.w H s.heap tp (.tup cs) from I.hok tp _ hT)
  have eq3 := ClsV.all k rv
  subst eq3
  obtain ⟨cl_, dc_, dt, sl⟩ := o
  simp only at hb_ hp3
  subst hb_ hp3
  exact PySem.W.kia_tup (PySem.W.handS_kitx_exc C.hg C.hk C.hs C.hd C.ha C.hn C.ht C.hm) I.kIn Jb ha_ e (fun z => nomatch z) fun tk => ⟨.bl b, H, I.tok tk, rfl, q⟩
set_option maxHeartbeats 4000000
/-! ### set(xs), sorted(set(xs)) of any number of ints -/
section
variable {P : Program} {w : World} {A : Around} {E : Value → Shared → Prop} {s : Shared}
theorem call_set_lstI {l : Addr} {items : Array Value} (nums : List Int) {Q : Value → Shared → Prop} (hcalm : A.handled = none) (hlst : s.heap.IsList l items) (ints_ : IntsAre items.toList nums) (hroom : nums.length + 1 < scanBound)
    (h : ∀ (hp : Heap) (tk c : Nat), SetR w hp s.heap.objs.size (fun j => decide (j ∈ nums)) c → c ≤ nums.length → (∀ b o, s.heap.get? b = some o → hp.get? b = some o) → Q (.ref s.heap.objs.size) { s with heap := hp, toks := tk }) :
    wpAny (model P w) A (call (.type "set") [.ref l]) Q E s := by
  have sz_ : items.size = nums.length := by
    have q := IntsAre.length ints_
    rw [Array.length_toList] at q
    exact q
  obtain ⟨c, rest_, mro_⟩ := F.called_set.mro
  have made_ := F.called_set.made
  have sub_ := F.called_set.sub
  refine wpAny_call (codeAny_of_tree ?_)
  show wpAny _ _ (callAny (.type "set") _) _ _ _
  refine wpAny_pure ⟨Code.quiet_builtin _ (by decide +kernel), codeAny_builtin F.entry_type_call ?_⟩
  rw [Around.under_plain (weight_type_call_type "set" [.ref l] []) rfl]
  have ho1 := F.called_set.notType
  have ho2 := F.called_set.canCreate
  have tcall := F.typeCall_set_1 (.ref l)
  repeat (any_goals (first | assumption | wp_step))

  refine codeAny_mono (code_set_led1 (.ref l) (E := E) (Q₁ := fun made_o s₁ => made_o = .ref s.heap.objs.size ∧ s₁ = { s with heap := s.heap.push { cls := .type "set", dict := none, data := .set #[] 0 (.fresh 0 0 (!w.params.followText "set-order")) } }) ⟨rfl, rfl⟩) fun r s₁ hres => ?_
  cases r with
  | error e => exact hres
  | ok flw =>
    cases flw with
    | ret made_o =>
      obtain ⟨rfl, rfl⟩ := hres
      have newS : (s.heap.push { cls := .type "set", dict := none, data := .set #[] 0 (.fresh 0 0 (!w.params.followText "set-order")) }).get? s.heap.objs.size = some { cls := .type "set", dict := none, data := .set #[] 0 (.fresh 0 0 (!w.params.followText "set-order")) } := Heap.get?_push_size _ rfl
      have newT : Shared.TypeIs { s with heap := s.heap.push { cls := .type "set", dict := none, data := .set #[] 0 (.fresh 0 0 (!w.params.followText "set-order")) } } (.ref s.heap.objs.size) "set" := ⟨_, newS, rfl⟩
      have ini := F.called_set.init.lookup
      have inib := F.called_set.init.bind (.ref s.heap.objs.size)
      repeat (any_goals (first | assumption | wp_step))

      refine codeAny_mono (codeAny_call_builtin (R := wants (fun r s₂ => r = .none ∧ ∃ hp tk c, s₂ = { s with heap := hp, toks := tk } ∧ SetR w hp s.heap.objs.size (fun j => decide (j ∈ nums)) c ∧ c ≤ nums.length ∧
          (∀ b o, s.heap.get? b = some o → hp.get? b = some o)) E) F.called_set.init.plain F.entry_set_init (check_set_init_1 newT ?_)) fun r₂ s₂ hres2 => ?_
      · obtain ⟨obl, hobl, hcls, nl, hdata⟩ := hlst
        obtain ⟨c_, d_, x_, l_⟩ := obl
        simp only at hcls hdata
        subst hcls; subst hdata
        have hobl2 : (s.heap.push { cls := .type "set", dict := none, data := .set #[] 0 (.fresh 0 0 (!w.params.followText "set-order")) }).get? l = some { cls := .type "list", dict := d_, data := .seq items nl, slots := l_ } := Heap.get?_push_of_some _ hobl
        have nset := F.sub_list_set
        have nfro := F.sub_list_frozenset
        have hnd : (Value.type "list" == Value.type "dict") = false := by decide
        have isl : (s.heap.push { cls := .type "set", dict := none, data := .set #[] 0 (.fresh 0 0 (!w.params.followText "set-order")) }).IsList l items := ⟨_, hobl2, rfl, nl, rfl⟩
        unfold Builtin.«set.__init__» noKeywords Builtin.Frozenset.updateFrom
        generalize hPIt : pyIter = PIt
        wp_walk
        subst hPIt

        refine wpAny_pyIter_list isl ?_
        refine wpAny_bind (wpAny_runValue ?_)
        have ltS : l < s.heap.objs.size := Heap.lt_size hobl
        have noh : A.in1.in1.in1.handled = none := by simp [hcalm]
        have szp : (s.heap.push { cls := .type "set", dict := none, data := .set #[] 0 (.fresh 0 0 (!w.params.followText "set-order")) }).objs.size = s.heap.objs.size + 1 := Heap.size_push ..
        have neI : l ≠ (s.heap.push { cls := .type "set", dict := none, data := .set #[] 0 (.fresh 0 0 (!w.params.followText "set-order")) }).objs.size := by
          rw [Heap.size_push]; exact Nat.ne_of_lt (Nat.lt_succ_of_lt ltS)
        have notF : s.heap.objs.size ∉ [(s.heap.push { cls := .type "set", dict := none, data := .set #[] 0 (.fresh 0 0 (!w.params.followText "set-order")) }).objs.size, l] := by
          rw [Heap.size_push]; simp only [List.mem_cons, List.mem_singleton, List.not_mem_nil, or_false, not_or]
          exact ⟨Nat.ne_of_lt (Nat.lt_succ_self _), Nat.ne_of_gt ltS⟩
        have vals_ : ∀ (i : Nat) (v : Value), items[i]? = some v → ∃ k t, nums[i]? = some k ∧ v = .int k t := fun i v hv => by
          have hi : i < nums.length := by rw [← sz_]; exact (Array.getElem?_eq_some_iff.mp hv).1
          obtain ⟨t, e⟩ := PyProof.Rows.IntsAre.int_at ints_ i v (by rw [Array.getElem?_toList]; exact hv)
          refine ⟨nums[i], t, List.getElem?_eq_getElem hi, ?_⟩
          rw [e, List.getD_eq_getElem?_getD, List.getElem?_eq_getElem hi] <;> rfl
        refine set_update_ints ((Walks.list noh _ l neI items).toS) s.heap.objs.size
          notF nums sz_ hroom vals_ (items.size - 0) 0 _ (by omega) (Nat.zero_le _)
          ⟨⟨_, Heap.get?_push_size _ rfl, rfl, rfl⟩, (isl.push _)⟩ ?hS0 ?hR
        case hS0 =>
          have got : ((s.heap.push { cls := .type "set", dict := none, data := .set #[] 0 (.fresh 0 0 (!w.params.followText "set-order")) }).push { cls := .type "list_iterator", data := .fields #[.ref l, .int 0 0] }).get? s.heap.objs.size
              = some { cls := .type "set", dict := none, data := .set #[] 0 (.fresh 0 0 (!w.params.followText "set-order")) } := Heap.get?_push_of_some _ newS
          exact ⟨0, Nat.le_refl 0, setR_new_at got⟩
        case hR =>
          intro sz cc mv few setE
          obtain ⟨hp, gg, dd, tt, oo⟩ := sz
          have sg_ : gg = s.gens := mv.gens
          have sd_ : dd = s.drawn := mv.drawn
          have so_ : oo = s.os := mv.os
          subst sg_; subst sd_; subst so_
          show wpAny _ _ _ _ _ _
          refine wpAny_pure ?_
          show wpAny _ _ (ret Value.none) _ _ _
          rw [sz_] at few
          refine wpAny_pure ⟨rfl, hp, tt, cc, rfl, setE, few, fun b o e => ?_⟩
          have b0 : b < s.heap.objs.size := Heap.lt_size e
          have b1 : b ≠ s.heap.objs.size := Nat.ne_of_lt b0
          have b2 : b ≠ (s.heap.push { cls := .type "set", dict := none, data := .set #[] 0 (.fresh 0 0 (!w.params.followText "set-order")) }).objs.size := by
            rw [Heap.size_push]; exact Nat.ne_of_lt (Nat.lt_succ_of_lt b0)
          exact mv.heap b o (by simp only [List.mem_cons, List.mem_singleton, List.not_mem_nil, or_false, not_or]; exact ⟨b1, b2⟩) (Heap.get?_push_of_some _ (Heap.get?_push_of_some _ e))

      · cases r₂ with
        | error e => exact hres2
        | ok flw2 =>
          cases flw2 with
          | ret r =>
            obtain ⟨rfl, hp, tk, cc, rfl, setE, few, keeps_⟩ := hres2
            repeat (any_goals (first | assumption | wp_step))
            exact h _ _ _ setE few keeps_
          | _ => exact hres2.elim
    | _ => exact hres.elim

end
section
variable {P : Program} {w : World} {A : Around} {E : Value → Shared → Prop} {s : Shared} {a : Addr}
theorem sortedSetAny {S : Int → Bool} {n : Nat} {Q : Value → Shared → Prop} (R : SetR w s.heap a S n) (calm : A.handled = none)
    (hQ : ∀ s' p (out : List Value) (c : Nat) (ns : List Int), (∀ b o, s.heap.get? b = some o → s'.heap.get? b = some o) → s'.gens = s.gens → s'.os = s.os → s.heap.objs.size ≤ p →
      s'.heap.get? p = some (seqObj "list" out.toArray c) → IntsAre out ns → ns.Pairwise (· < ·) → (∀ k, k ∈ ns ↔ S k = true) → ns.length ≤ 4096 → Q (.ref p) s') :
    wpAny (model P w) A (call (.builtin "sorted") [.ref a]) Q E s := by
  obtain ⟨o, es, ep, t, at_, exact_, dat, good, nd, mem, room, fits, cnt, ris, led⟩ := R
  have few : es.size < 4096 := room
  refine Calls.call_function_entry kind_sorted plain_sorted entry_sorted (args_sorted1 _) ?_
  unfold Builtin.«sorted»
  refine wpAny_bind (m := checkCount "sorted" 1 1 _) (wpAny_pure (wpAny_bind (collect_set (A := A.in1) calm ⟨o, at_, exact_.1, dat⟩ fits room ris led fun s1 vs old grown gens os perm => ?_)))
  have len : vs.length = es.size := by rw [perm.length_eq, List.length_map, Array.length_toList]
  have ints_ : IntsAre vs (vs.map Builtin.Re.reRawOf) := ints_of vs fun v hv => by
    obtain ⟨e, he, q⟩ := List.mem_map.mp (perm.mem_iff.mp hv)
    obtain ⟨k, tk, z, _⟩ := good e he
    exact ⟨k, tk, q.symm.trans z⟩
  have permK : (vs.map Builtin.Re.reRawOf).Perm (es.toList.map keyOf) := by
    have := perm.map Builtin.Re.reRawOf
    rwa [List.map_map] at this
  have line : vs.length ≤ sizeLine := by rw [len, sizeLine_eq]; omega
  refine wpAny_bind (wpAny_newList ?_ line)
  have new : (s1.heap.push (seqObj "list" vs.toArray 0)).get? s1.heap.objs.size = some (seqObj "list" vs.toArray 0) := Heap.get?_push_size _ rfl
  refine wpAny_bind (wpAny_holding (wpAny_call_entry slot_list_sort ⟨_, new, rfl⟩ entry_list_sort (SrtO.list_sort_ord SrtO.swo_int new line (fun two => SrtO.ints_sortable ints_ two) fun out h1 h2 => ⟨_, rfl, ?_⟩) (args_list_sort _)))
  obtain ⟨k1, k2, k3⟩ := SrtO.ints_out ints_ h1 h2
  obtain ⟨c, hc⟩ := sortedHeap_at (vs := vs) (out := out.toArray) new
  have all := k2.trans permK
  refine wpAny_pure ⟨_, rfl, hQ _ s1.heap.objs.size out c (out.map SrtO.iv) (fun b u e => ?_) gens os grown hc k1 (lt_of_le_nodup _ k3 (all.nodup_iff.mpr nd)) (fun k => by rw [all.mem_iff, ← mem k]) (by rw [all.length_eq, List.length_map, Array.length_toList]; omega)⟩
  have q := old b u e
  have lt := Heap.lt_size q
  show (sortedHeap (s1.heap.push (seqObj "list" vs.toArray 0)) s1.heap.objs.size vs out.toArray).get? b = some u
  rw [sortedHeap_old (Nat.ne_of_lt lt) (by rw [size_push']; exact Nat.lt_succ_of_lt lt)]
  exact Heap.get?_push_of_some _ q
end
section
variable {X : Cx}
/-- set(xs), ints_ -/
def rSetI (K : PySem.W.Frag) (w : World) : List V → Hp → VK → Prop := fun xs H Q => ∃ (l : Addr) (ns : List Int), xs = [V.ref l] ∧ SqL K H l (ns.map V.int) ∧ ns.length < 4095 ∧ ∀ p c, H p = none → Q (.ref p) (upd H p (SetO w p (fun j => decide (j ∈ ns)) c))
theorem call_setI (calm : X.calm = true) : CallR X (.type "set") (rSetI X.K X.w) := by
  intro pi_ s σ H xs us Q I r h
  obtain ⟨l, ns, rfl, hs, few, q⟩ := h
  obtain ⟨its, rv, hl, _⟩ := I.list hs
  rw [Vals.ref1 r]
  refine call_set_lstI ns (I.ok.hd calm) hl.isList (by simpa using rv.«ints») (show ns.length + 1 < 4096 by omega) fun h' tk c R _ keeps => ?_
  exact ⟨.ref _, upd H s.heap.objs.size (SetO X.w s.heap.objs.size (fun j => decide (j ∈ ns)) c), I.laid (t' := tk) keeps (Nat.le_refl _) (setO_new R), rfl, q _ c (I.hok.fresh (Nat.le_refl _))⟩
/-- sorted(found), any number of members -/
def rSortedSt (w : World) : List V → Hp → VK → Prop := fun vs H Q => ∃ (a : Addr) (S : Int → Bool) (n : Nat), vs = [V.ref a] ∧ H a = some (SetO w a S n) ∧
  ∀ (ns : List Int) (p : Addr), ns.Pairwise (· < ·) → (∀ k : Int, k ∈ ns ↔ S k = true) → H p = none → Q (.ref p) (upd H p (.lst (ns.map V.int)))
theorem cr_sortedSt (calm : X.calm = true) : CallR X (.builtin "sorted") (rSortedSt X.w) := by
  intro pi_ s σ H vs us Q I r h
  obtain ⟨a, S, n, rfl, ha, q⟩ := h
  rw [Vals.ref1 r]
  refine sortedSetAny (setO_get I ha) (I.ok.hd calm) fun s' p out c ns k g o grown at_ ints_ asc mem few => ?_
  have fresh : H p = none := I.hok.fresh grown
  have J : Inv X pi_ σ (upd H p (.lst (ns.map V.int))) { s with heap := s'.heap, gens := s'.gens, drawn := s'.drawn, toks := s'.toks } :=
    I.call (ch := []) (Un.laid k grown fresh) (I.hok.laid k grown ⟨by rw [List.length_map, sizeLine_eq]; omega, out, c, vals_of_ints ints_, at_⟩) (by rw [g]; exact I.bare) fun _ z => nomatch z
  have e : s' = { s with heap := s'.heap, gens := s'.gens, drawn := s'.drawn, toks := s'.toks } := by
    obtain ⟨h1, h2, h3, h4, h5⟩ := s'
    cases o
    rfl
  rw [e]
  exact ⟨.ref p, _, J, rfl, q ns p asc mem fresh⟩
end
section
variable {X : Cx}
/-- text * int -/
def rRepS : R2 := fun x y H Q => ∃ (a : Str) (n : Int), x = .str a ∧ y = .int n ∧ MulOk a n ∧ Q (.str (Txt.mul a n)) H
theorem op_repS : OpR X (binaryOp .Mult) rRepS := by
  intro pi_ s σ H x y v u Q I rx ry h
  obtain ⟨a, n, rfl, rfl, fits, q⟩ := h
  obtain ⟨t, rfl⟩ := rx
  obtain ⟨t2, rfl⟩ := ry
  exact SB.mul fits fun t' k => ⟨.str _, H, I.tok k, ⟨t', rfl⟩, q⟩
theorem mul_few {a : Str} {n : Int} (h1 : 0 ≤ n) (h2 : n ≤ 64) (h3 : a.length ≤ 64) : MulOk a n := by
  refine ⟨by simp; omega, fun h _ z => ?_, fun h _ => ?_⟩
  · have : (64 : Int) ≤ (2 ^ 63 - 1) / n := Int.le_ediv_of_mul_le (by omega) (by omega)
    omega
  · have : a.length * n.toNat ≤ 64 * 64 := Nat.mul_le_mul h3 (by omega)
    unfold Builtin.Str.tooLong
    rw [sizeLine_eq]
    simp
    omega
theorem mul_good {a : Str} {n : Int} (h : Enc.good a) : Enc.good (Txt.mul a n) := by
  unfold Txt.mul
  split
  · intro c hc
    have : c ∈ ([] : List Nat) := hc
    cases this
  · split
    · exact h
    · intro c hc
      have key : ∀ (l : List (Array Nat)) (b : Array Nat), (∀ z ∈ l, z = a.cps) → (∀ c ∈ b.toList, c < 0x110000) → ∀ c ∈ (l.foldl (· ++ ·) b).toList, c < 0x110000 := by
        intro l
        induction l with
        | nil => intro b _ hb; exact hb
        | cons z l ih =>
          intro b hl hb
          refine ih (b ++ z) (fun y hy => hl y (List.mem_cons_of_mem _ hy)) fun c hc => ?_
          rw [Array.toList_append] at hc
          rcases List.mem_append.mp hc with q | q
          · exact hb c q
          · rw [hl z (List.mem_cons_self ..)] at q
            exact h c q
      exact key _ #[] (fun z hz => (List.mem_replicate.mp hz).2) (fun c hc => by cases hc) c hc
end
/-! ### in a comprehension: the model's part by name -/
section
variable {X : Cx} {CX : CXT} {k : Nat} {x C m : Str} {ps : List Str} {sp : Sp} {E : XK} {e o : Expr} {es : List Expr} {ta : TE} {t : TA} {p pos apos : Pos}
theorem pmethK {K : PySem.W.Frag} {plm : Sem Bool} (c : Cls K (He.ga K C)) (hm : Meth K (He.ga K C) m (He.ma K (He.ga K C) m)) (he : PE X o ta) (F : Mt X.prog X.w K X.mg X.base CX k C m ps sp) (hro : Room k X.A) (hx : Passes CX X E) (ha : PA X (e :: es) t)
    (hK : X.K = K := by rfl) (hstar : starEach (e :: es) X.env = (false, eval e X.env) :: starEach es X.env := by rfl) (hplain : (backTo pos (starEach es X.env)).any (·.1) = false := by rfl)
    (heval : eval (.Call (.Attribute o m apos) (e :: es) [] pos) X.env = (do
      let ov ← eval o X.env
      standAt apos.atName
      let fb ← holding [ov] (getMethod ov m plm)
      callWith pos fb.1 fb.2 (backTo pos (starEach (e :: es) X.env)) (backToKw pos (keywordEach [] X.env))) := by rfl) :
    PE X (.Call (.Attribute o m apos) (e :: es) [] pos) (tMeth (He.ga K C) m sp [] E ta t) := by
  subst hK
  exact pmeth (pl := plm) c hm he F hro hx ha hstar hplain heval
theorem pfldK {K : PySem.W.Frag} (he : PE X o ta) (hb : attributeBase o m X.env (eval o X.env) = eval o X.env) (hK : X.K = K := by rfl) : PE X (.Attribute o m pos) (tFld K ta m) := by
  subst hK
  exact pe_fld he hb
end
abbrev PR : PySem.Program := PySem.Challenge.pw_gatetown_k78_older_files_and_little_room
def top (i : Nat) : Stmt := PySem.Challenge.pw_gatetown_k78_older_files_and_little_room.main.body.getD i (.Pass ⟨0, 0, 0, 0⟩)
abbrev dF (i : Nat) (x : Str) : He.DefD := ⟨(x, none), x, x, defArgs (top i), defBody (top i), defScope (top i), [], []⟩
abbrev dM (i j : Nat) (c x q : Str) : He.DefD := ⟨(c, some x), x, q, defArgs (inClass (top i) j), defBody (inClass (top i) j), defScope (inClass (top i) j), [], []⟩
def fn0 : List He.DefD := [dF 12 "blocks_for", dM 13 0 "Floor" "__init__" "Floor.__init__", dM 13 1 "Floor" "taken" "Floor.taken", dM 13 2 "Floor" "free" "Floor.free", dM 13 3 "Floor" "look_name" "Floor.look_name", dM 13 4 "Floor" "keep" "Floor.keep", dM 13 5 "Floor" "drop" "Floor.drop", dM 13 6 "Floor" "words_of" "Floor.words_of", dM 13 7 "Floor" "blocks_of" "Floor.blocks_of", dM 13 8 "Floor" "names" "Floor.names", dM 13 9 "Floor" "block" "Floor.block", dF 15 "_law_cell", dF 16 "_law_mixed", dF 17 "_law_parts", dF 18 "_law_filled", dF 19 "_law_whole", dF 20 "_law_list_is", dF 21 "_law_refused", dF 22 "_law_all", dF 23 "_law_kept", dF 24 "law"]
def fn : List He.DefD := fn0
def fa0 : List He.Fa := [.glo "blocks_for", .glo "_law_cell", .glo "_law_mixed", .glo "_law_parts", .glo "_law_filled", .glo "_law_whole", .glo "_law_list_is", .glo "_law_refused", .glo "_law_all", .glo "_law_kept", .glo "law", .glo "TownError", .glo "BadRow", .glo "BadLine", .glo "BadKind", .glo "TooLong", .glo "Lacking", .glo "GivenTwice", .glo "NoRoom", .glo "NoFile", .glo "Floor", .int "BLOCK" 16, .free "ValueError", .free "abs", .free "all", .free "bool", .free "enumerate", .free "int", .free "isinstance", .free "len"]
def fa1 : List He.Fa := [.free "list", .free "max", .free "min", .free "range", .free "sorted", .cls "Floor", .mkr "Floor", .noat "Floor" "blocks", .noat "Floor" "places", .noat "Floor" "counts", .meth "Floor" "taken", .meth "Floor" "free", .meth "Floor" "look_name", .meth "Floor" "keep", .meth "Floor" "drop", .meth "Floor" "words_of", .meth "Floor" "blocks_of", .meth "Floor" "names", .meth "Floor" "block", .exc "NoRoom", .exc "NoFile", .exm "NoRoom" "TownError" true, .exm "NoFile" "TownError" true]
def fa : List He.Fa := fa0 ++ fa1
def exx0 (K : PySem.W.Frag) : Bool := excCb K (He.ga K "NoRoom")
def exx1 (K : PySem.W.Frag) : Bool := PySem.W.kitOne K (.ref (He.ga K "NoRoom")) (.ref (He.ga K "TownError")) == some true
def exx2 (K : PySem.W.Frag) : Bool := PySem.W.kitOne K (.ref (He.ga K "NoRoom")) (.type "ValueError") == some true
def exx3 (K : PySem.W.Frag) : Bool := PySem.W.kitOne K (.ref (He.ga K "NoRoom")) (.ref (He.ga K "NoFile")) == some false
def exx4 (K : PySem.W.Frag) : Bool := PySem.W.kitOne K (.ref (He.ga K "NoRoom")) (.ref (He.ga K "NoRoom")) == some true
def exx5 (K : PySem.W.Frag) : Bool := PySem.W.kitAny K (.ref (He.ga K "NoRoom")) ([.ref (He.ga K "BadKind"), .ref (He.ga K "BadLine"), .ref (He.ga K "BadRow"), .ref (He.ga K "GivenTwice"), .ref (He.ga K "Lacking"), .ref (He.ga K "TooLong")]) == some false
def exx6 (K : PySem.W.Frag) : Bool := excCb K (He.ga K "NoFile")
def exx7 (K : PySem.W.Frag) : Bool := PySem.W.kitOne K (.ref (He.ga K "NoFile")) (.ref (He.ga K "TownError")) == some true
def exx8 (K : PySem.W.Frag) : Bool := PySem.W.kitOne K (.ref (He.ga K "NoFile")) (.type "ValueError") == some true
def exx9 (K : PySem.W.Frag) : Bool := PySem.W.kitOne K (.ref (He.ga K "NoFile")) (.ref (He.ga K "NoFile")) == some true
def exx10 (K : PySem.W.Frag) : Bool := PySem.W.kitOne K (.ref (He.ga K "NoFile")) (.ref (He.ga K "NoRoom")) == some false
def exx11 (K : PySem.W.Frag) : Bool := PySem.W.kitAny K (.ref (He.ga K "NoFile")) ([.ref (He.ga K "BadKind"), .ref (He.ga K "BadLine"), .ref (He.ga K "BadRow"), .ref (He.ga K "GivenTwice"), .ref (He.ga K "Lacking"), .ref (He.ga K "TooLong")]) == some false
def exx (K : PySem.W.Frag) : Bool := exx0 K && (exx1 K && (exx2 K && (exx3 K && (exx4 K && (exx5 K && (exx6 K && (exx7 K && (exx8 K && (exx9 K && (exx10 K && (exx11 K)))))))))))
structure En (K : PySem.W.Frag) (mg : Str → Option Value) : Prop where
  g_blocks_for : mg "blocks_for" = some (.ref (He.ga K "blocks_for"))
  g__law_cell : mg "_law_cell" = some (.ref (He.ga K "_law_cell"))
  g__law_mixed : mg "_law_mixed" = some (.ref (He.ga K "_law_mixed"))
  g__law_parts : mg "_law_parts" = some (.ref (He.ga K "_law_parts"))
  g__law_filled : mg "_law_filled" = some (.ref (He.ga K "_law_filled"))
  g__law_whole : mg "_law_whole" = some (.ref (He.ga K "_law_whole"))
  g__law_list_is : mg "_law_list_is" = some (.ref (He.ga K "_law_list_is"))
  g__law_refused : mg "_law_refused" = some (.ref (He.ga K "_law_refused"))
  g__law_all : mg "_law_all" = some (.ref (He.ga K "_law_all"))
  g__law_kept : mg "_law_kept" = some (.ref (He.ga K "_law_kept"))
  g_law : mg "law" = some (.ref (He.ga K "law"))
  g_TownError : mg "TownError" = some (.ref (He.ga K "TownError"))
  g_BadRow : mg "BadRow" = some (.ref (He.ga K "BadRow"))
  g_BadLine : mg "BadLine" = some (.ref (He.ga K "BadLine"))
  g_BadKind : mg "BadKind" = some (.ref (He.ga K "BadKind"))
  g_TooLong : mg "TooLong" = some (.ref (He.ga K "TooLong"))
  g_Lacking : mg "Lacking" = some (.ref (He.ga K "Lacking"))
  g_GivenTwice : mg "GivenTwice" = some (.ref (He.ga K "GivenTwice"))
  g_NoRoom : mg "NoRoom" = some (.ref (He.ga K "NoRoom"))
  g_NoFile : mg "NoFile" = some (.ref (He.ga K "NoFile"))
  g_Floor : mg "Floor" = some (.ref (He.ga K "Floor"))
  i_BLOCK : ∃ t, mg "BLOCK" = some (.int 16 t)
  b_ValueError : mg "ValueError" = none
  b_abs : mg "abs" = none
  b_all : mg "all" = none
  b_bool : mg "bool" = none
  b_enumerate : mg "enumerate" = none
  b_int : mg "int" = none
  b_isinstance : mg "isinstance" = none
  b_len : mg "len" = none
  b_list : mg "list" = none
  b_max : mg "max" = none
  b_min : mg "min" = none
  b_range : mg "range" = none
  b_sorted : mg "sorted" = none
  c_Floor : Cls K (He.ga K "Floor")
  k_Floor : Mk K (He.ga K "Floor") (He.ma K (He.ga K "Floor") "__init__")
  na_Floor_blocks : NoAttr K (He.ga K "Floor") "blocks"
  na_Floor_places : NoAttr K (He.ga K "Floor") "places"
  na_Floor_counts : NoAttr K (He.ga K "Floor") "counts"
  m_Floor_taken : Meth K (He.ga K "Floor") "taken" (He.ma K (He.ga K "Floor") "taken")
  m_Floor_free : Meth K (He.ga K "Floor") "free" (He.ma K (He.ga K "Floor") "free")
  m_Floor_look_name : Meth K (He.ga K "Floor") "look_name" (He.ma K (He.ga K "Floor") "look_name")
  m_Floor_keep : Meth K (He.ga K "Floor") "keep" (He.ma K (He.ga K "Floor") "keep")
  m_Floor_drop : Meth K (He.ga K "Floor") "drop" (He.ma K (He.ga K "Floor") "drop")
  m_Floor_words_of : Meth K (He.ga K "Floor") "words_of" (He.ma K (He.ga K "Floor") "words_of")
  m_Floor_blocks_of : Meth K (He.ga K "Floor") "blocks_of" (He.ma K (He.ga K "Floor") "blocks_of")
  m_Floor_names : Meth K (He.ga K "Floor") "names" (He.ma K (He.ga K "Floor") "names")
  m_Floor_block : Meth K (He.ga K "Floor") "block" (He.ma K (He.ga K "Floor") "block")
  e_NoRoom : PySem.W.excIn K (He.ga K "NoRoom") He.veBase "ValueError.__new__" = true ∧ PySem.W.keepIn K (.ref (He.ga K "NoRoom")) = true ∧ PySem.W.subIn K (.ref (He.ga K "NoRoom")) (.type "BaseException") = some true ∧ PySem.W.typeIn K (.ref (He.ga K "NoRoom")) = some (.type "type")
  e_NoFile : PySem.W.excIn K (He.ga K "NoFile") He.veBase "ValueError.__new__" = true ∧ PySem.W.keepIn K (.ref (He.ga K "NoFile")) = true ∧ PySem.W.subIn K (.ref (He.ga K "NoFile")) (.type "BaseException") = some true ∧ PySem.W.typeIn K (.ref (He.ga K "NoFile")) = some (.type "type")
  xm_NoRoom_TownError : PySem.W.exmOne K (.ref (He.ga K "NoRoom")) (.ref (He.ga K "TownError")) = some true
  xm_NoFile_TownError : PySem.W.exmOne K (.ref (He.ga K "NoFile")) (.ref (He.ga K "TownError")) = some true
  d_blocks_for : Fd K (dF 12 "blocks_for")
  d_Floor_init : Fd K (dM 13 0 "Floor" "__init__" "Floor.__init__")
  d_Floor_taken : Fd K (dM 13 1 "Floor" "taken" "Floor.taken")
  d_Floor_free : Fd K (dM 13 2 "Floor" "free" "Floor.free")
  d_Floor_look_name : Fd K (dM 13 3 "Floor" "look_name" "Floor.look_name")
  d_Floor_keep : Fd K (dM 13 4 "Floor" "keep" "Floor.keep")
  d_Floor_drop : Fd K (dM 13 5 "Floor" "drop" "Floor.drop")
  d_Floor_words_of : Fd K (dM 13 6 "Floor" "words_of" "Floor.words_of")
  d_Floor_blocks_of : Fd K (dM 13 7 "Floor" "blocks_of" "Floor.blocks_of")
  d_Floor_names : Fd K (dM 13 8 "Floor" "names" "Floor.names")
  d_Floor_block : Fd K (dM 13 9 "Floor" "block" "Floor.block")
  d__law_cell : Fd K (dF 15 "_law_cell")
  d__law_mixed : Fd K (dF 16 "_law_mixed")
  d__law_parts : Fd K (dF 17 "_law_parts")
  d__law_filled : Fd K (dF 18 "_law_filled")
  d__law_whole : Fd K (dF 19 "_law_whole")
  d__law_list_is : Fd K (dF 20 "_law_list_is")
  d__law_refused : Fd K (dF 21 "_law_refused")
  d__law_all : Fd K (dF 22 "_law_all")
  d__law_kept : Fd K (dF 23 "_law_kept")
  d_law : Fd K (dF 24 "law")
  ec_NoRoom : ExcC K (He.ga K "NoRoom")
  is_NoRoom_TownError : PySem.W.kitOne K (.ref (He.ga K "NoRoom")) (.ref (He.ga K "TownError")) = some true
  is_NoRoom_ValueError : PySem.W.kitOne K (.ref (He.ga K "NoRoom")) (.type "ValueError") = some true
  is_NoRoom_NoFile : PySem.W.kitOne K (.ref (He.ga K "NoRoom")) (.ref (He.ga K "NoFile")) = some false
  is_NoRoom_NoRoom : PySem.W.kitOne K (.ref (He.ga K "NoRoom")) (.ref (He.ga K "NoRoom")) = some true
  ia_NoRoom_0 : PySem.W.kitAny K (.ref (He.ga K "NoRoom")) ([.ref (He.ga K "BadKind"), .ref (He.ga K "BadLine"), .ref (He.ga K "BadRow"), .ref (He.ga K "GivenTwice"), .ref (He.ga K "Lacking"), .ref (He.ga K "TooLong")]) = some false
  ec_NoFile : ExcC K (He.ga K "NoFile")
  is_NoFile_TownError : PySem.W.kitOne K (.ref (He.ga K "NoFile")) (.ref (He.ga K "TownError")) = some true
  is_NoFile_ValueError : PySem.W.kitOne K (.ref (He.ga K "NoFile")) (.type "ValueError") = some true
  is_NoFile_NoFile : PySem.W.kitOne K (.ref (He.ga K "NoFile")) (.ref (He.ga K "NoFile")) = some true
  is_NoFile_NoRoom : PySem.W.kitOne K (.ref (He.ga K "NoFile")) (.ref (He.ga K "NoRoom")) = some false
  ia_NoFile_0 : PySem.W.kitAny K (.ref (He.ga K "NoFile")) ([.ref (He.ga K "BadKind"), .ref (He.ga K "BadLine"), .ref (He.ga K "BadRow"), .ref (He.ga K "GivenTwice"), .ref (He.ga K "Lacking"), .ref (He.ga K "TooLong")]) = some false
theorem en_of {K : PySem.W.Frag} {mg : Str → Option Value} {h : Heap} (X : K.In h) (G : h.Ns mainGlobals mg) (c : He.SaysD fa fn K) (e : exx K = true) : En K mg := by
  obtain ⟨e0, e⟩ := He.ba e
  obtain ⟨e1, e⟩ := He.ba e
  obtain ⟨e2, e⟩ := He.ba e
  obtain ⟨e3, e⟩ := He.ba e
  obtain ⟨e4, e⟩ := He.ba e
  obtain ⟨e5, e⟩ := He.ba e
  obtain ⟨e6, e⟩ := He.ba e
  obtain ⟨e7, e⟩ := He.ba e
  obtain ⟨e8, e⟩ := He.ba e
  obtain ⟨e9, e⟩ := He.ba e
  obtain ⟨e10, e⟩ := He.ba e
  have e11 := e
  exact {
    g_blocks_for := He.glo_ok X G (c.fact 0 rfl)
    g__law_cell := He.glo_ok X G (c.fact 1 rfl)
    g__law_mixed := He.glo_ok X G (c.fact 2 rfl)
    g__law_parts := He.glo_ok X G (c.fact 3 rfl)
    g__law_filled := He.glo_ok X G (c.fact 4 rfl)
    g__law_whole := He.glo_ok X G (c.fact 5 rfl)
    g__law_list_is := He.glo_ok X G (c.fact 6 rfl)
    g__law_refused := He.glo_ok X G (c.fact 7 rfl)
    g__law_all := He.glo_ok X G (c.fact 8 rfl)
    g__law_kept := He.glo_ok X G (c.fact 9 rfl)
    g_law := He.glo_ok X G (c.fact 10 rfl)
    g_TownError := He.glo_ok X G (c.fact 11 rfl)
    g_BadRow := He.glo_ok X G (c.fact 12 rfl)
    g_BadLine := He.glo_ok X G (c.fact 13 rfl)
    g_BadKind := He.glo_ok X G (c.fact 14 rfl)
    g_TooLong := He.glo_ok X G (c.fact 15 rfl)
    g_Lacking := He.glo_ok X G (c.fact 16 rfl)
    g_GivenTwice := He.glo_ok X G (c.fact 17 rfl)
    g_NoRoom := He.glo_ok X G (c.fact 18 rfl)
    g_NoFile := He.glo_ok X G (c.fact 19 rfl)
    g_Floor := He.glo_ok X G (c.fact 20 rfl)
    i_BLOCK := He.int_ok X G (c.fact 21 rfl)
    b_ValueError := He.free_ok X G (c.fact 22 rfl)
    b_abs := He.free_ok X G (c.fact 23 rfl)
    b_all := He.free_ok X G (c.fact 24 rfl)
    b_bool := He.free_ok X G (c.fact 25 rfl)
    b_enumerate := He.free_ok X G (c.fact 26 rfl)
    b_int := He.free_ok X G (c.fact 27 rfl)
    b_isinstance := He.free_ok X G (c.fact 28 rfl)
    b_len := He.free_ok X G (c.fact 29 rfl)
    b_list := He.free_ok X G (c.fact 30 rfl)
    b_max := He.free_ok X G (c.fact 31 rfl)
    b_min := He.free_ok X G (c.fact 32 rfl)
    b_range := He.free_ok X G (c.fact 33 rfl)
    b_sorted := He.free_ok X G (c.fact 34 rfl)
    c_Floor := He.cls_ok (c.fact 35 rfl)
    k_Floor := He.mkr_ok (c.fact 36 rfl)
    na_Floor_blocks := He.noat_ok (c.fact 37 rfl)
    na_Floor_places := He.noat_ok (c.fact 38 rfl)
    na_Floor_counts := He.noat_ok (c.fact 39 rfl)
    m_Floor_taken := He.meth_ok (c.fact 40 rfl)
    m_Floor_free := He.meth_ok (c.fact 41 rfl)
    m_Floor_look_name := He.meth_ok (c.fact 42 rfl)
    m_Floor_keep := He.meth_ok (c.fact 43 rfl)
    m_Floor_drop := He.meth_ok (c.fact 44 rfl)
    m_Floor_words_of := He.meth_ok (c.fact 45 rfl)
    m_Floor_blocks_of := He.meth_ok (c.fact 46 rfl)
    m_Floor_names := He.meth_ok (c.fact 47 rfl)
    m_Floor_block := He.meth_ok (c.fact 48 rfl)
    e_NoRoom := He.exc_ok (c.fact 49 rfl)
    e_NoFile := He.exc_ok (c.fact 50 rfl)
    xm_NoRoom_TownError := He.exm_ok (c.fact 51 rfl)
    xm_NoFile_TownError := He.exm_ok (c.fact 52 rfl)
    d_blocks_for := Fd.of (c.def_ 0 rfl)
    d_Floor_init := Fd.of (c.def_ 1 rfl)
    d_Floor_taken := Fd.of (c.def_ 2 rfl)
    d_Floor_free := Fd.of (c.def_ 3 rfl)
    d_Floor_look_name := Fd.of (c.def_ 4 rfl)
    d_Floor_keep := Fd.of (c.def_ 5 rfl)
    d_Floor_drop := Fd.of (c.def_ 6 rfl)
    d_Floor_words_of := Fd.of (c.def_ 7 rfl)
    d_Floor_blocks_of := Fd.of (c.def_ 8 rfl)
    d_Floor_names := Fd.of (c.def_ 9 rfl)
    d_Floor_block := Fd.of (c.def_ 10 rfl)
    d__law_cell := Fd.of (c.def_ 11 rfl)
    d__law_mixed := Fd.of (c.def_ 12 rfl)
    d__law_parts := Fd.of (c.def_ 13 rfl)
    d__law_filled := Fd.of (c.def_ 14 rfl)
    d__law_whole := Fd.of (c.def_ 15 rfl)
    d__law_list_is := Fd.of (c.def_ 16 rfl)
    d__law_refused := Fd.of (c.def_ 17 rfl)
    d__law_all := Fd.of (c.def_ 18 rfl)
    d__law_kept := Fd.of (c.def_ 19 rfl)
    d_law := Fd.of (c.def_ 20 rfl)
    ec_NoRoom := excC_of e0
    is_NoRoom_TownError := eq_of_beq e1
    is_NoRoom_ValueError := eq_of_beq e2
    is_NoRoom_NoFile := eq_of_beq e3
    is_NoRoom_NoRoom := eq_of_beq e4
    ia_NoRoom_0 := eq_of_beq e5
    ec_NoFile := excC_of e6
    is_NoFile_TownError := eq_of_beq e7
    is_NoFile_ValueError := eq_of_beq e8
    is_NoFile_NoFile := eq_of_beq e9
    is_NoFile_NoRoom := eq_of_beq e10
    ia_NoFile_0 := eq_of_beq e11
  }
local macro_rules | `(tactic| walk_at "rd") => `(tactic| simp only [tAsg, tOp, tUn, tVar, tC, rI, rI0, rU, gName, tRet, tRetN, tDrop, tNext, tBreak, tCont, tIfS, tAnd, tOr, tNot, tB, tTest, tIf, tAndV, tOrV, tNotV, tCB, tCons, tNil, tTup, tLst, tFld, sFld, tCall, tMeth, tMake, tYes, rEq, rNe, scal, tAug, ipI, tChain, tSl, tPart, tNoPart, tBM, CDiv, CMul, CDivN, CPow, rIxL, rSlL, rAppend, gSub, rSetL, tDGet, tDGet1, tDGet2, tDIn, tDNotIn, sDPut, tDPop1, tDPop2, tDNewK, rExt2, rCat, rRep, rReverse, tBM0, iEnum, iList, iTup, iRng1, iRng2, iRng3, iZip, iRev, iStr, iKeys, iItems, iVals, gTup, gLst, gCons, gNil,
  L2.start, List.map_cons, List.map_nil, List.length_cons, List.length_nil, List.replicate, Nat.reduceAdd, Nat.reduceSub, Nat.zero_add, List.cons_append, List.nil_append, List.append_nil,
  List.getElem?_cons_zero, List.getElem?_cons_succ, List.set_cons_zero, List.set_cons_succ, Option.some.injEq, V.int.injEq, V.bl.injEq, V.str.injEq, V.ref.injEq, V.ty.injEq, List.cons.injEq, Prod.mk.injEq, reduceCtorEq,
  exists_eq_left, exists_eq_left', exists_eq_right, exists_eq_right', exists_and_left, exists_and_right, and_true, true_and, and_false, false_and, ite_true, ite_false, if_true, if_false, Bool.true_eq_false, Bool.false_eq_true, decide_eq_true_eq, decide_true, decide_false, Bool.not_true, Bool.not_false, Bool.not_eq_true', decide_eq_false_iff_not,
  Int.reduceLT, Int.reduceLE, Int.reduceNeg, Int.reducePow, Int.reduceEq, Int.reduceNe, Nat.reduceLT, Nat.reduceLeDiff, Nat.reducePow, or_true, true_or, and_assoc])
local macro_rules | `(tactic| walk_at "go") => `(tactic| simp only [noxK, cxK, L2.start, List.map_cons, List.map_nil, List.length_cons, List.length_nil, List.replicate, Nat.reduceAdd, Nat.reduceSub, Nat.zero_add, List.cons_append, List.nil_append])
local macro_rules | `(tactic| walk_at "st") => `(tactic| (refine seq_ fun _ _ => ?_; try walk_at "rd"))
local macro_rules | `(tactic| walk_at "if") => `(tactic| (refine if_ fun _ _ _ _ => ?_; walk_at "rd"))
local macro_rules | `(tactic| walk_at "for") => `(tactic| (refine for_ fun _ _ => ?_; walk_at "rd"))
local macro_rules | `(tactic| walk_at "nx") => `(tactic| apply_assumption)

/-- numbers below their sizes -/
inductive Below : List Int → List Int → Prop
  | nil : Below [] []
  | cons {r s : Int} {rs ss : List Int} : 0 ≤ r → r < s → Below rs ss → Below (r :: rs) (s :: ss)
theorem Below.snoc {r s : Int} {rs ss : List Int} (h : Below rs ss) (h0 : 0 ≤ r) (h1 : r < s) : Below (rs ++ [r]) (ss ++ [s]) := by
  induction h with
  | nil => exact .cons h0 h1 .nil
  | cons a b _ ih => exact .cons a b ih
theorem Below.len {rs ss : List Int} (h : Below rs ss) : rs.length = ss.length := by
  induction h with
  | nil => rfl
  | cons _ _ _ ih => rw [List.length_cons, List.length_cons, ih]
theorem map_get {ns : List Int} {i : Nat} {x : V} (h : (ns.map V.int)[i]? = some x) : ∃ n, ns[i]? = some n ∧ x = .int n := by
  rw [List.getElem?_map] at h
  cases e : ns[i]? with
  | none => rw [e] at h; cases h
  | some n => rw [e] at h; exact ⟨n, rfl, (Option.some.inj h).symm⟩
section
variable {P : Program} {w : World} {K : PySem.W.Frag} {mg : Str → Option Value} {base : Heap}
abbrev s_f_law_cell : Stmt := top 15
abbrev n_f_law_cell : List PySem.Str := ["_law_script", "_law_k"]
abbrev p_f_law_cell : List PySem.Str := ["_law_script", "_law_k"]
theorem sc_f_law_cell : FnScope n_f_law_cell p_f_law_cell (defScope s_f_law_cell) := ⟨rfl, rfl, rfl, by decide +kernel, rfl, by decide +kernel, by decide +kernel⟩
/-- some number of the script, or 0 -/
def sp_cell (K : PySem.W.Frag) : Sp := fun vs H Q _ => ∃ (a : Addr) (ns : List Int) (k : Int), vs = [.ref a, .int k] ∧ SqL K H a (ns.map V.int) ∧ 0 ≤ k ∧ ∀ c : Int, Q (.int c) H
theorem ok_f_law_cell (T : En K mg) : Fn P w K mg base CX0 1 "_law_cell" p_f_law_cell (sp_cell K) := by
  refine Fn.mk_ T.d__law_cell T.g__law_cell (fun _ _ _ _ _ _ us hl => match us, hl with | [_, _], _ => rfl) fun F => F.ok sc_f_law_cell (fun vs H Q E h => ?_) (fun cdv A outer s H vs Q E hr h => ?_)
  · obtain ⟨a, ns, k, rfl, _⟩ := h; rfl
  · obtain ⟨a, ns, k, rfl, hS, h0, q⟩ := h
    refine ⟨_, PSs.nox ((pss_cons (ps_if (pt_cmpR op_lt (pv 1) (pe_callB call_len_seq (by rfl) T.b_len (by decide +kernel) (pa_cons (pv 0) pa_nil)) (nomark _)) (pss_one (ps_ret (pe_ix ix_list (pv 0) (pv 1) (fun _ _ => rfl)))) pss_nil)
      (pss_one (ps_ret pe_int)))), ?_⟩
    walk_at "go"
    refine seq_ fun N hN => ?_
    refine if_ fun T U hT hU => ?_
    walk_at "rd"
    refine ⟨_, .inl hS, ?_⟩
    split
    · rename_i hlt
      refine hT _ ?_
      walk_at "rd"
      rw [List.length_map] at hlt
      obtain ⟨n, hn⟩ : ∃ n, ns[k.toNat]? = some n := ⟨_, List.getElem?_eq_getElem (by omega)⟩
      refine ⟨ns.map V.int, hS, .int n, ?_, q n⟩
      have e : ((k.toNat : Nat) : Int) = k := by omega
      rw [← e]
      exact atI_nat (by rw [List.getElem?_map, hn] <;> rfl)
    · refine hU _ (hN _ _ ?_)
      walk_at "rd"
      exact q 0
abbrev s_f_law_mixed : Stmt := top 16
abbrev n_f_law_mixed : List PySem.Str := ["_law_cell_here", "_law_k", "_law_once"]
abbrev p_f_law_mixed : List PySem.Str := ["_law_cell_here", "_law_k"]
theorem sc_f_law_mixed : FnScope n_f_law_mixed p_f_law_mixed (defScope s_f_law_mixed) := ⟨rfl, rfl, rfl, by decide +kernel, rfl, by decide +kernel, by decide +kernel⟩
def mixed (c k : Int) : Int := ((c % 2305843009213693951 + 3 * k + 1) * (k * k + 48271) % 2147483399) * ((c % 2305843009213693951 + 3 * k + 1) * (k * k + 48271) % 2147483399 % 1013 + k + 7) % 998244353
theorem mixed_lo (c k : Int) : 0 ≤ mixed c k := Int.emod_nonneg _ (by decide)
def sp_mixed : Sp := fun vs H Q _ => ∃ c k : Int, vs = [.int c, .int k] ∧ 0 ≤ k ∧ k ≤ 100000 ∧ Q (.int (mixed c k)) H
theorem ok_f_law_mixed (T : En K mg) : Fn P w K mg base CX0 1 "_law_mixed" p_f_law_mixed sp_mixed := by
  refine Fn.mk_ T.d__law_mixed T.g__law_mixed (fun _ _ _ _ _ _ us hl => match us, hl with | [_, _], _ => rfl) fun F => F.ok sc_f_law_mixed (fun vs H Q E h => ?_) (fun cdv A outer s H vs Q E hr h => ?_)
  · obtain ⟨c, k, rfl, _⟩ := h; rfl
  · obtain ⟨c, k, rfl, h0, h1, q⟩ := h
    refine ⟨_, PSs.nox ((pss_cons (ps_set (i := 2) (sc_f_law_mixed.nd) rfl (by first | exact .inl rfl | exact .inr rfl) (pe_op op_mod (pe_op op_mul (pe_op op_add (pe_op op_add (pe_op op_mod (pv 0) pe_int) (pe_op op_mul pe_int (pv 1))) pe_int) (pe_op op_add (pe_op op_mul (pv 1) (pv 1)) pe_int)) pe_int))
      (pss_one (ps_ret (pe_op op_mod (pe_op op_mul (pv 2) (pe_op op_add (pe_op op_add (pe_op op_mod (pv 2) pe_int) (pv 1)) pe_int)) pe_int))))), ?_⟩
    walk_at "go"
    refine seq_ fun N hN => ?_
    walk_at "rd"
    refine ⟨.inl (by omega), .inl (by omega), hN _ _ ?_⟩
    walk_at "rd"
    exact ⟨.inl (by omega), q⟩
abbrev s_f_law_parts : Stmt := top 17
abbrev n_f_law_parts : List PySem.Str := ["_law_script", "_law_k", "_law_sizes", "_law_rest", "_law_plain", "_law_found", "_law_j", "_law_size", "_law_cell_here"]
abbrev p_f_law_parts : List PySem.Str := ["_law_script", "_law_k", "_law_sizes"]
theorem sc_f_law_parts : FnScope n_f_law_parts p_f_law_parts (defScope s_f_law_parts) := ⟨rfl, rfl, rfl, by decide +kernel, rfl, by decide +kernel, by decide +kernel⟩
def sp_parts (K : PySem.W.Frag) : Sp := fun vs H Q _ => ∃ (a b : Addr) (ns ss : List Int) (k : Int), vs = [.ref a, .int k, .ref b] ∧ SqL K H a (ns.map V.int) ∧ SqL K H b (ss.map V.int) ∧ 0 ≤ k ∧ k ≤ 1000 ∧ ss.length ≤ 1000 ∧ (∀ s ∈ ss, 0 < s ∧ s < 1073741824) ∧
  ∀ rs p H', Below rs ss → H p = none → Same H H' → H' p = some (.lst (rs.map V.int)) → Q (.ref p) H'
theorem ok_f_law_parts (T : En K mg) : Fn P w K mg base CX0 2 "_law_parts" p_f_law_parts (sp_parts K) := by
  refine Fn.mk_ T.d__law_parts T.g__law_parts (fun _ _ _ _ _ _ us hl => match us, hl with | [_, _, _], _ => rfl) fun F => F.ok sc_f_law_parts (fun vs H Q E h => ?_) (fun cdv A outer s H vs Q E hr h => ?_)
  · obtain ⟨a, b, ns, ss, k, rfl, _⟩ := h; rfl
  · obtain ⟨a, b, ns, ss, k, rfl, hS, hB, h0, h1, hl, hs, q⟩ := h
    refine ⟨_, PSs.nox ((pss_cons (ps_set (i := 3) (sc_f_law_parts.nd) rfl (by first | exact .inl rfl | exact .inr rfl) (pe_callB call_abs (by rfl) T.b_abs (by decide +kernel) (pa_cons (pcall (ok_f_law_cell T) (hr.mono (by decide)) rfl pass0 (pa_cons (pv 0) (pa_cons (pv 1) pa_nil))) pa_nil)))
      (pss_cons (ps_set (i := 4) (sc_f_law_parts.nd) rfl (by first | exact .inl rfl | exact .inr rfl) (pe_cmpR op_ge (pv 3) (pe_op op_pow pe_int pe_int) (nomark _)))
      (pss_cons (ps_set (i := 5) (sc_f_law_parts.nd) rfl (by first | exact .inl rfl | exact .inr rfl) (pe_lst pa_nil))
      (pss_cons (ps_for PassesOwn.never rfl (pi_enum (by rfl) T.b_enumerate (pa_cons (pv 2) pa_nil)) (pg_tup (n := 2) rfl (pgs_cons (pg_name (i := 6) (sc_f_law_parts.nd) rfl (by first | exact .inl rfl | exact .inr rfl)) (pgs_cons (pg_name (i := 7) (sc_f_law_parts.nd) rfl (by first | exact .inl rfl | exact .inr rfl)) pgs_nil))) (pss_one (ps_if (PW.pt (pw_and (pt_val (pv 4)) (pw_and1 (pt_cmpR op_gt (pv 3) pe_int (nomark _))))) (pss_cons (ps_expr (pe_bm PySem.F.plainAttrs_list PySem.F.slot_list_append PySem.F.type_list_append mt_append (pv 5) (pa_cons (pe_op op_mod (pv 3) (pv 7)) pa_nil)))
      (pss_one (ps_set (i := 3) (sc_f_law_parts.nd) rfl (by first | exact .inl rfl | exact .inr rfl) (pe_op op_fdiv (pv 3) (pv 7))))) (pss_cons (ps_set (i := 8) (sc_f_law_parts.nd) rfl (by first | exact .inl rfl | exact .inr rfl) (pcall (ok_f_law_cell T) (hr.mono (by decide)) rfl pass0 (pa_cons (pv 0) (pa_cons (pe_op op_mod (pv 1) (pe_callB (call_max2 rfl) (by rfl) T.b_max (by decide +kernel) (pa_cons pe_int (pa_cons (pe_callB call_len_seq (by rfl) T.b_len (by decide +kernel) (pa_cons (pv 0) pa_nil)) pa_nil)))) pa_nil))))
      (pss_one (ps_expr (pe_bm PySem.F.plainAttrs_list PySem.F.slot_list_append PySem.F.type_list_append mt_append (pv 5) (pa_cons (pe_op op_mod (pcall (ok_f_law_mixed T) (hr.mono (by decide)) rfl pass0 (pa_cons (pcall (ok_f_law_mixed T) (hr.mono (by decide)) rfl pass0 (pa_cons (pv 8) (pa_cons (pe_op op_add (pv 6) (pe_op op_mul pe_int (pv 1))) pa_nil))) (pa_cons (pv 6) pa_nil))) (pv 7)) pa_nil))))))))
      (pss_one (ps_ret (pv 5)))))))), ?_⟩
    walk_at "go"
    walk_at "st"
    refine ⟨_, ns, _, rfl, hS, h0, fun c => ?_⟩
    walk_at "rd"
    walk_at "nx"
    walk_at "st"
    refine ⟨by decide, ?_⟩
    walk_at "nx"
    walk_at "st"
    refine ⟨Nat.zero_le _, fun p hp => ?_⟩
    walk_at "nx"
    walk_at "st"
    walk_at "for"
    refine ⟨⟨_, (Same.new hp).seq hB⟩, ?_⟩
    have hc0 : (0 : Int) ≤ if c < 0 then -c else c := by split <;> omega
    generalize (if c < 0 then -c else c) = c0 at *
    generalize decide (10 ^ Int.toNat 18 ≤ c0) = pl at *
    walk_at "nx"
    refine lp_enum (fun i σ' H' => ∃ (rest : Int) (x y z : Option V) (rs : List Int), σ' = [some (.ref a), some (.int k), some (.ref b), some (.int rest), some (.bl pl), some (.ref p), x, y, z] ∧ 0 ≤ rest ∧ Same H H' ∧ H' p = some (.lst (rs.map V.int)) ∧ Below rs (ss.take i))
      ⟨c0, none, none, none, [], rfl, hc0, Same.new hp, upd_same, .nil⟩ (fun i σ' H' _ ⟨_, _, _, _, _, _, _, s1, _⟩ => s1.seq hB) ?_ ?_
    · rintro i x T σ' H' hi hx hT ⟨rest, x1, y1, z1, rs, rfl, hr0, s1, hP, hB1⟩
      obtain ⟨z, hz, rfl⟩ := map_get hx
      have hz1 := hs z (List.mem_of_getElem? hz)
      have hil : i < 1000 := by rw [List.length_map] at hi; omega
      have hlen := hB1.len
      rw [List.length_take] at hlen
      intro B hB2
      refine tgt2 (hB2 _ _ fun N hN => ?_)
      have s2 := s1.trans (Same.new (o := .tup [V.int (i : Nat), .int z]) hT)
      have hP2 : (upd H' T (.tup [V.int (i : Nat), .int z])) p = some (.lst (rs.map V.int)) := (Same.new hT) _ _ hP
      generalize upd H' T (.tup [V.int (i : Nat), .int z]) = G at s2 hP2
      have close : ∀ (r rest' : Int) (x' y' z' : Option V), 0 ≤ rest' → 0 ≤ r → r < z → N [some (.ref a), some (.int k), some (.ref b), some (.int rest'), some (.bl pl), some (.ref p), x', y', z'] (upd G p (.lst (rs.map V.int ++ [.int r]))) := fun r rest' x' y' z' e0 e1 e2 =>
        hN _ _ ⟨rest', x', y', z', rs ++ [r], rfl, e0, Same.mut s2 hp, by rw [upd_same, List.map_append] <;> rfl, by rw [take_succ hz]; exact hB1.snoc e1 e2⟩
      have hsz : (rs.map V.int).length < sizeLine := by rw [List.length_map]; exact Nat.lt_of_lt_of_le (show rs.length < 1001 by omega) (by decide)
      refine if_ fun T U hT hU => ?_
      have hE : U G := by
        refine hU _ ?_
        walk_at "st"
        refine ⟨ns.map V.int, .inl (s2.seq hS), by split <;> omega, a, ns, _, rfl, s2.seq hS, Int.emod_nonneg _ (by split <;> omega), fun c2 => ?_⟩
        walk_at "rd"
        walk_at "nx"
        walk_at "rd"
        refine ⟨.inl ⟨rfl, _, .inl (.inl hP2)⟩, ?_⟩
        refine ⟨c2, _, rfl, by omega, by omega, ?_⟩
        walk_at "rd"
        refine ⟨_, _, rfl, by omega, by omega, ?_⟩
        walk_at "rd"
        exact ⟨hz1.1, _, hP2, hsz, close _ _ _ _ _ hr0 (Int.emod_nonneg _ (by omega)) (Int.emod_lt_of_pos _ hz1.1)⟩
      walk_at "rd"
      split
      · split
        · refine hT _ ?_
          walk_at "st"
          refine ⟨.inl ⟨rfl, _, .inl (.inl hP2)⟩, hz1.1, _, hP2, hsz, ?_⟩
          walk_at "nx"
          walk_at "rd"
          exact ⟨hz1.1, hz1.2, close _ _ _ _ _ (Int.ediv_nonneg hr0 (by omega)) (Int.emod_nonneg _ (by omega)) (Int.emod_lt_of_pos _ hz1.1)⟩
        · exact hE
      · exact hE
    · rintro σ' H' ⟨rest, x1, y1, z1, rs, rfl, hr0, s1, hP, hB1⟩
      walk_at "nx"
      walk_at "rd"
      rw [List.length_map, List.take_length] at hB1
      exact q rs p H' hB1 hp s1 hP
abbrev s_f_law_filled : Stmt := top 18
abbrev n_f_law_filled : List PySem.Str := ["_law_count", "_law_first", "_law_step", "_law_k"]
abbrev p_f_law_filled : List PySem.Str := ["_law_count", "_law_first", "_law_step"]
theorem sc_f_law_filled : FnScope n_f_law_filled p_f_law_filled (defScope s_f_law_filled) := ⟨rfl, rfl, rfl, by decide +kernel, rfl, by decide +kernel, by decide +kernel⟩
def sp_filled : Sp := fun vs H Q _ => ∃ n f s : Int, vs = [.int n, .int f, .int s] ∧ 0 ≤ n ∧ n ≤ 100000 ∧ 0 ≤ s ∧ s < 65536 ∧
  ∀ (ws : List Int) p H', (ws.length : Int) = n → (∀ x ∈ ws, 0 ≤ x ∧ x < 65536) → H p = none → Same H H' → H' p = some (.lst (ws.map V.int)) → Q (.ref p) H'
theorem ok_f_law_filled (T : En K mg) : Fn P w K mg base CX0 1 "_law_filled" p_f_law_filled sp_filled := by
  refine Fn.mk_ T.d__law_filled T.g__law_filled (fun _ _ _ _ _ _ us hl => match us, hl with | [_, _, _], _ => rfl) fun F => F.ok sc_f_law_filled (fun vs H Q E h => ?_) (fun cdv A outer s H vs Q E hr h => ?_)
  · obtain ⟨n, f, z, rfl, _⟩ := h; rfl
  · obtain ⟨n, f, z, rfl, h0, h1, h2, h3, q⟩ := h
    refine ⟨_, PSs.nox ((pss_one (ps_ret (pe_lc (own := [("_law_k", 3)]) (by rfl) (sc_f_law_filled.nd) (pi_range1 (by rfl) T.b_range (pa_cons (pv 0) pa_nil)) (blkOk_by (own := [("_law_k", 3)]) (N := n_f_law_filled) (sc := (defScope s_f_law_filled)) (by decide +kernel)) (fun _ _ _ _ _ => (pg_name (i := 3) (sc_f_law_filled.nd) rfl (by first | exact .inl rfl | exact .inr rfl))) (fun _ _ _ _ _ => pts_nil) (fun _ _ _ _ _ => (pe_op op_mod (pe_op op_add (pv 1) (pe_op op_mul (pv 2) (pv 3))) pe_int)))))), ?_⟩
    walk_at "go"
    walk_at "rd"
    refine lc_ fun LP hLP => ?_
    walk_at "rd"
    refine ⟨by omega, by omega, hLP _ _ ?_⟩
    refine lcm_range (lo := 0) (n := n.toNat) (fun i => .int ((f + z * i) % 65536)) (by rw [sizeLine_eq]; omega) (fun _ => rfl) (fun i H1 hi s1 R hR => ?_) (fun D H1 hD s1 hl => ?_)
    · show tOp _ _ _ [some (V.int n), some (.int f), some (.int z), some (.int (0 + (i : Int)))] H1 R
      walk_at "rd"
      exact ⟨.inl (by omega), hR H1 (Same.refl _)⟩
    · refine q ((List.range n.toNat).map fun (i : Nat) => (f + z * (0 + (i : Int))) % 65536) D H1 (by rw [List.length_map, List.length_range]; omega) (fun x hx => ?_) hD s1 (by rw [hl, List.map_map] <;> rfl)
      obtain ⟨i, _, rfl⟩ := List.mem_map.mp hx
      omega
abbrev s_f_law_whole : Stmt := top 19
abbrev n_f_law_whole : List PySem.Str := ["_law_found"]
abbrev p_f_law_whole : List PySem.Str := ["_law_found"]
theorem sc_f_law_whole : FnScope n_f_law_whole p_f_law_whole (defScope s_f_law_whole) := ⟨rfl, rfl, rfl, by decide +kernel, rfl, by decide +kernel, by decide +kernel⟩
def sp_whole : Sp := fun vs H Q _ => ∃ n : Int, vs = [.int n] ∧ Q (.bl true) H
theorem ok_f_law_whole (T : En K mg) : Fn P w K mg base CX0 1 "_law_whole" p_f_law_whole sp_whole := by
  refine Fn.mk_ T.d__law_whole T.g__law_whole (fun _ _ _ _ _ _ us hl => match us, hl with | [_], _ => rfl) fun F => F.ok sc_f_law_whole (fun vs H Q E h => ?_) (fun cdv A outer s H vs Q E hr h => ?_)
  · obtain ⟨n, rfl, _⟩ := h; rfl
  · obtain ⟨n, rfl, q⟩ := h
    refine ⟨_, PSs.nox ((pss_one (ps_ret (pe_and (pe_callB call_isi (by rfl) T.b_isinstance (by decide +kernel) (pa_cons (pv 0) (pa_cons (pgt (n := "int") T.b_int (by decide +kernel)) pa_nil))) (pe_one (pe_not (pe_callB call_isi (by rfl) T.b_isinstance (by decide +kernel) (pa_cons (pv 0) (pa_cons (pgt (n := "bool") T.b_bool (by decide +kernel)) pa_nil))))))))), ?_⟩
    walk_at "go"
    walk_at "rd"
    refine isi_ (.ty _) (.base (.int n)) (kit_ty (b := "int") (r := true) (by decide +kernel)) ?_
    walk_at "rd"
    refine isi_ (.ty _) (.base (.int n)) (kit_ty (b := "bool") (r := false) (by decide +kernel)) ?_
    walk_at "rd"
    exact q
abbrev s_f_law_list_is : Stmt := top 20
abbrev n_f_law_list_is : List PySem.Str := ["_law_found", "_law_due", "_law_one"]
abbrev p_f_law_list_is : List PySem.Str := ["_law_found", "_law_due"]
theorem sc_f_law_list_is : FnScope n_f_law_list_is p_f_law_list_is (defScope s_f_law_list_is) := ⟨rfl, rfl, rfl, by decide +kernel, rfl, by decide +kernel, by decide +kernel⟩
def sp_list_is (K : PySem.W.Frag) : Sp := fun vs H Q _ => ∃ (a b : Addr) (xs ys : List Int), vs = [.ref a, .ref b] ∧ H a = some (.lst (xs.map V.int)) ∧ SqL K H b (ys.map V.int) ∧ xs.length ≤ 100000 ∧ ∀ H', Same H H' → Q (.bl (decide (xs = ys))) H'
theorem ok_f_law_list_is (T : En K mg) : Fn P w K mg base CX0 2 "_law_list_is" p_f_law_list_is (sp_list_is K) := by
  refine Fn.mk_ T.d__law_list_is T.g__law_list_is (fun _ _ _ _ _ _ us hl => match us, hl with | [_, _], _ => rfl) fun F => F.ok sc_f_law_list_is (fun vs H Q E h => ?_) (fun cdv A outer s H vs Q E hr h => ?_)
  · obtain ⟨a, b, xs, ys, rfl, _⟩ := h; rfl
  · obtain ⟨a, b, xs, ys, rfl, hA, hB, hl, q⟩ := h
    refine ⟨_, PSs.nox ((pss_one (ps_ret (pe_and (pe_callB call_isi (by rfl) T.b_isinstance (by decide +kernel) (pa_cons (pv 0) (pa_cons (pgt (n := "list") T.b_list (by decide +kernel)) pa_nil))) (pe_and (pe_cmpR (op_eqD (hr0 hr)) (pv 0) (pv 1) (nomark _)) (pe_one (pe_callB (cr_all rfl) (by rfl) T.b_all (by decide +kernel) (pa_cons (pe_lc (own := [("_law_one", 2)]) (by rfl) (sc_f_law_list_is.nd) (pi_list (pv 0)) (blkOk_by (own := [("_law_one", 2)]) (N := n_f_law_list_is) (sc := (defScope s_f_law_list_is)) (by decide +kernel)) (fun _ _ _ _ _ => (pg_name (i := 2) (sc_f_law_list_is.nd) rfl (by first | exact .inl rfl | exact .inr rfl))) (fun _ _ _ _ _ => pts_nil) (fun _ _ _ _ _ => (pcall (ok_f_law_whole T) (hr.mono (by decide)) rfl pass0 (pa_cons (pv 2) pa_nil)))) pa_nil)))))))), ?_⟩
    walk_at "go"
    walk_at "rd"
    refine isi_ (.ty _) (.base (.lst hA)) (kit_ty (b := "list") (r := true) (by decide +kernel)) ?_
    walk_at "rd"
    refine eqD_ (is_ints (.inl (.inl hA))) (is_ints hB) (good_ints _) (good_ints _) (by decide) ?_
    walk_at "rd"
    split
    · rename_i hxy
      refine lc_ fun LP hLP => ?_
      walk_at "rd"
      refine ⟨⟨_, .inl (.inl hA)⟩, hLP _ _ ?_⟩
      refine lcm_list (fun _ => .bl true) (.inl (.inl hA)) (by rw [List.length_map, sizeLine_eq]; omega) (fun _ => rfl) (fun i x H1 hi hx s1 R hR => ?_) (fun D H1 hD s1 hl => ?_)
      · obtain ⟨z, hz, rfl⟩ := map_get hx
        exact ⟨_, rfl, z, rfl, hR H1 (Same.refl _)⟩
      · refine ⟨D, xs.map fun _ => true, rfl, .inl (.inl (by rw [hl, List.map_map, List.map_map] <;> rfl)), ?_⟩
        have e : (xs.map fun _ => true).all id = true := by rw [List.all_map]; exact List.all_eq_true.mpr fun _ _ => rfl
        rw [e]
        have := q H1 s1
        rw [decide_eq_true hxy] at this
        exact this
    · rename_i hxy
      have := q H (Same.refl _)
      rw [decide_eq_false hxy] at this
      exact this
end

/-! ### a floor of files -/
structure File where
  nm : Str
  bl : List Nat
  ws : List Int
/-- how many blocks so many words need -/
def nb (k : Nat) : Nat := (k + 15) / 16
def used (fs : List File) : List Nat := fs.flatMap (·.bl)
def has (fs : List File) (x : Str) : Option File := fs.find? fun f => decide (f.nm = x)
def del (fs : List File) (x : Str) : List File := fs.filter fun f => decide (f.nm ≠ x)
def chunk (ws : List Int) (k : Nat) : List Int := (ws.drop (16 * k)).take 16 ++ List.replicate (16 - ((ws.drop (16 * k)).take 16).length) 0
def zeros : List Int := List.replicate 16 0
structure FsOk (n : Nat) (fs : List File) : Prop where
  nd : (fs.map (·.nm)).Nodup
  ud : (used fs).Nodup
  lt : ∀ b ∈ used fs, b < n
  ln : ∀ f ∈ fs, f.bl.length = nb f.ws.length
structure Cont (fs : List File) (n : Nat) (ct : Nat → List Int) : Prop where
  fl : ∀ f ∈ fs, ∀ (k b : Nat), f.bl[k]? = some b → ct b = chunk f.ws k
  zr : ∀ b, b < n → b ∉ used fs → ct b = zeros
/-- where a floor's objects stand -/
structure FA where
  p : Addr
  dx : Addr
  lb : Addr
  dp : Addr
  dc : Addr
def flF (A : FA) : List (Str × V) := [("blocks", .ref A.lb), ("places", .ref A.dp), ("counts", .ref A.dc)]
theorem fl_b (A : FA) : (flF A).lookup ("blocks" : Str) = some (.ref A.lb) := rfl
theorem fl_p (A : FA) : (flF A).lookup ("places" : Str) = some (.ref A.dp) := by
  have e : (("places" : Str) == "blocks") = false := by decide +kernel
  unfold flF
  rw [List.lookup_cons, e] <;> rfl
theorem fl_c (A : FA) : (flF A).lookup ("counts" : Str) = some (.ref A.dc) := by
  have e : (("counts" : Str) == "blocks") = false := by decide +kernel
  have e2 : (("counts" : Str) == "places") = false := by decide +kernel
  unfold flF
  rw [List.lookup_cons, e]
  show List.lookup _ _ = _
  rw [List.lookup_cons, e2] <;> rfl
theorem fl_no (A : FA) {m : Str} (h1 : (m == ("blocks" : Str)) = false) (h2 : (m == ("places" : Str)) = false) (h3 : (m == ("counts" : Str)) = false) : (flF A).lookup m = none := by
  unfold flF
  rw [List.lookup_cons, h1]
  show List.lookup _ _ = _
  rw [List.lookup_cons, h2]
  show List.lookup _ _ = _
  rw [List.lookup_cons, h3] <;> rfl
def blV (f : File) : List V := f.bl.map fun (b : Nat) => V.int (b : Int)
/-- a floor of n blocks stands at A, with the files fs -/
structure FloorAt (K : PySem.W.Frag) (H : Hp) (A : FA) (n : Nat) (fs : List File) : Prop where
  ob : H A.p = some (.ins (He.ga K "Floor") A.dx (flF A))
  bk : ∃ (ba : Nat → Addr) (ct : Nat → List Int), H A.lb = some (.lst ((List.range n).map fun i => V.ref (ba i))) ∧ (∀ i, i < n → H (ba i) = some (.lst ((ct i).map V.int))) ∧ Cont fs n ct
  pl : ∃ pa : Str → Addr, H A.dp = some (.dK (fs.map fun f => (Sum.inr f.nm, V.ref (pa f.nm)))) ∧ ∀ f ∈ fs, H (pa f.nm) = some (.lst (blV f))
  ct : H A.dc = some (.dK (fs.map fun f => (Sum.inr f.nm, V.int f.ws.length)))
  ok : FsOk n fs
  n1 : 1 ≤ n
  n2 : n ≤ 256
  ne : A.dp ≠ A.dc
theorem FloorAt.same {K : PySem.W.Frag} {H H' : Hp} {A : FA} {n : Nat} {fs : List File} (F : FloorAt K H A n fs) (e : Same H H') : FloorAt K H' A n fs := by
  obtain ⟨ba, ct, h1, h2, h3⟩ := F.bk
  obtain ⟨pa, h4, h5⟩ := F.pl
  exact ⟨e _ _ F.ob, ⟨ba, ct, e _ _ h1, fun i hi => e _ _ (h2 i hi), h3⟩, ⟨pa, e _ _ h4, fun f hf => e _ _ (h5 f hf)⟩, e _ _ F.ct, F.ok, F.n1, F.n2, F.ne⟩
theorem valV_files (fs : List File) (v : File → V) (x : Str) : valV (fs.map fun f => (Sum.inr f.nm, v f)) (Sum.inr x : Key) = (has fs x).map v := by
  unfold valV has
  rw [List.find?_map, Option.map_map]
  have e : ((fun kv : Key × V => decide (kv.1 = (Sum.inr x : Key))) ∘ fun f : File => ((Sum.inr f.nm, v f) : Key × V)) = fun f : File => decide (f.nm = x) := by
    funext f
    exact key_rr _ _
  rw [e] <;> rfl
theorem has_mem {fs : List File} {x : Str} {f : File} (h : has fs x = some f) : f ∈ fs ∧ f.nm = x := ⟨List.mem_of_find?_eq_some h, of_decide_eq_true (List.find?_some (p := fun f : File => decide (f.nm = x)) h)⟩
theorem has_none {fs : List File} {x : Str} (h : has fs x = none) : ∀ f ∈ fs, f.nm ≠ x := fun f hf e => by
  have := List.find?_eq_none.mp h f hf
  exact this (decide_eq_true e)
theorem keys_files (fs : List File) (v : File → V) : (fs.map fun f => ((Sum.inr f.nm, v f) : Key × V)).map (fun kv => kV kv.1) = (fs.map (·.nm)).map V.str := by
  rw [List.map_map, List.map_map] <;> rfl
theorem len_of_lt : ∀ (n : Nat) (l : List Nat), l.Nodup → (∀ b ∈ l, b < n) → l.length ≤ n
  | 0, [], _, _ => Nat.le_refl _
  | 0, b :: l, _, h => absurd (h b (List.mem_cons_self ..)) (Nat.not_lt_zero _)
  | n + 1, l, hn, h => by
    have e := len_of_lt n (l.erase n) (hn.erase n) fun b hb => by
      have h1 := h b (List.mem_of_mem_erase hb)
      have h2 : b ≠ n := fun q => by rw [q] at hb; exact (hn.not_mem_erase hb).elim
      omega
    have h3 := List.length_erase (a := n) (l := l)
    split at h3 <;> omega
theorem used_take {fs : List File} {i : Nat} {f : File} (h : fs[i]? = some f) : used (fs.take (i + 1)) = used (fs.take i) ++ f.bl := by
  unfold used
  rw [take_succ h, List.flatMap_append]
  simp
theorem used_le {fs : List File} (i : Nat) : (used (fs.take i)).length ≤ (used fs).length := by
  have e : used fs = used (fs.take i) ++ used (fs.drop i) := by
    unfold used
    rw [← List.flatMap_append, List.take_append_drop]
  rw [e, List.length_append]
  omega
theorem FsOk.few {n : Nat} {fs : List File} (h : FsOk n fs) : (used fs).length ≤ n := len_of_lt n _ h.ud h.lt
theorem map_file {fs : List File} {v : File → V} {i : Nat} {k : Key} {x : V} (h : (fs.map fun f => ((Sum.inr f.nm, v f) : Key × V))[i]? = some (k, x)) : ∃ f, fs[i]? = some f ∧ k = Sum.inr f.nm ∧ x = v f := by
  rw [List.getElem?_map] at h
  cases e : fs[i]? with
  | none => rw [e] at h; cases h
  | some f => rw [e] at h; cases h; exact ⟨f, rfl, rfl, rfl⟩
theorem nodup_has {fs : List File} (hn : (fs.map (·.nm)).Nodup) {f : File} (hf : f ∈ fs) : has fs f.nm = some f := by
  cases e : has fs f.nm with
  | none => exact absurd rfl (has_none e f hf)
  | some g =>
    obtain ⟨hg, hm⟩ := has_mem e
    induction fs with
    | nil => cases hf
    | cons y ys ih =>
      rw [List.map_cons, List.nodup_cons] at hn
      rcases List.mem_cons.mp hf with rfl | hf'
      · rcases List.mem_cons.mp hg with rfl | hg'
        · rfl
        · exact absurd (List.mem_map.mpr ⟨g, hg', hm⟩) hn.1
      · rcases List.mem_cons.mp hg with rfl | hg'
        · exact absurd (List.mem_map.mpr ⟨f, hf', hm.symm⟩) hn.1
        · have e2 : has ys f.nm = some g := by
            unfold has at e ⊢
            rw [List.find?_cons] at e
            split at e
            · rename_i h
              exact absurd (List.mem_map.mpr ⟨f, hf', (of_decide_eq_true h).symm⟩) hn.1
            · exact e
          have := ih hn.2 hf' e2 hg'
          exact this
theorem chunk_full {ws : List Int} {k : Nat} (h : k < nb ws.length) : chunk ws k = ((ws ++ List.replicate 15 0).drop (16 * k)).take 16 := by
  unfold chunk
  unfold nb at h
  rw [List.drop_append_of_le_length (by omega)]
  by_cases h16 : 16 ≤ (ws.drop (16 * k)).length
  · rw [List.take_append_of_le_length h16, List.length_take, Nat.min_eq_left h16] <;> simp
  · have hl : (ws.drop (16 * k)).length < 16 := by omega
    have hd := List.length_drop (i := 16 * k) (l := ws)
    rw [List.take_of_length_le (Nat.le_of_lt hl), List.take_append, List.take_of_length_le (Nat.le_of_lt hl), List.take_replicate, Nat.min_eq_left (by omega)]
theorem flat_chunks (L : List Int) : ∀ m, ((List.range m).flatMap fun k => (L.drop (16 * k)).take 16) = L.take (16 * m)
  | 0 => by simp
  | m + 1 => by
    rw [List.range_succ, List.flatMap_append, flat_chunks L m, Nat.mul_add, List.take_add]
    simp
theorem chunk_len (ws : List Int) (k : Nat) : (chunk ws k).length = 16 := by
  unfold chunk
  rw [List.length_append, List.length_replicate, List.length_take]
  omega
theorem flatMap_congr' {α β : Type} {f g : α → List β} : ∀ {l : List α}, (∀ x ∈ l, f x = g x) → l.flatMap f = l.flatMap g
  | [], _ => rfl
  | x :: l, h => by
    rw [List.flatMap_cons, List.flatMap_cons, h x (List.mem_cons_self ..), flatMap_congr' fun y hy => h y (List.mem_cons_of_mem _ hy)]
/-- the blocks' words, cut at the count, are the file's -/
theorem words_back (ws : List Int) : ((List.range (nb ws.length)).flatMap (chunk ws)).take ws.length = ws := by
  rw [flatMap_congr' (g := fun k => ((ws ++ List.replicate 15 0).drop (16 * k)).take 16) fun k hk => chunk_full (List.mem_range.mp hk), flat_chunks, List.take_take, Nat.min_eq_left (by unfold nb; omega), List.take_left' rfl]
/-- all but the addresses S is kept -/
def SameX (S : List Addr) (H H' : Hp) : Prop := ∀ b o, H b = some o → b ∉ S → H' b = some o
/-- what a floor's list and its dict name -/
def lists (H : Hp) (A : FA) (b : Addr) : Prop := (∃ xs, H A.lb = some (.lst xs) ∧ V.ref b ∈ xs) ∨ ∃ kvs k, H A.dp = some (.dK kvs) ∧ (k, V.ref b) ∈ kvs
/-- what the floor names anew is new -/
def Newly (A : FA) (H H' : Hp) : Prop := ∀ b, lists H' A b → lists H A b ∨ H b = none
theorem SameX.gone {S : List Addr} {H H' : Hp} {r : Addr} (e : SameX S H H') (hr : H' r = none) (hS : ∀ a ∈ S, H' a ≠ none) : H r = none := by
  cases q : H r with
  | none => rfl
  | some o =>
    by_cases h : r ∈ S
    · exact absurd hr (hS r h)
    · rw [e r o q h] at hr; cases hr
theorem FloorAt.alive {K : PySem.W.Frag} {H : Hp} {A : FA} {n : Nat} {fs : List File} (F : FloorAt K H A n fs) : ∀ a ∈ [A.lb, A.dp, A.dc], H a ≠ none := fun a ha e => by
  obtain ⟨ba, ct, h1, _⟩ := F.bk
  obtain ⟨pa, h2, _⟩ := F.pl
  simp only [List.mem_cons, List.not_mem_nil, or_false] at ha
  rcases ha with rfl | rfl | rfl
  · rw [h1] at e; cases e
  · rw [h2] at e; cases e
  · rw [F.ct] at e; cases e
theorem FloorAt.named {K : PySem.W.Frag} {H : Hp} {A : FA} {n : Nat} {fs : List File} (F : FloorAt K H A n fs) {b : Addr} (h : lists H A b) : H b ≠ none := fun e => by
  rcases h with ⟨xs, h1, h2⟩ | ⟨kvs, k, h1, h2⟩
  · obtain ⟨ba, ct, g1, g2, _⟩ := F.bk
    rw [g1] at h1
    cases h1
    obtain ⟨i, hi, q⟩ := List.mem_map.mp h2
    cases q
    rw [g2 i (List.mem_range.mp hi)] at e
    cases e
  · obtain ⟨pa, g1, g2⟩ := F.pl
    rw [g1] at h1
    cases h1
    obtain ⟨f, hf, q⟩ := List.mem_map.mp h2
    cases q
    rw [g2 f hf] at e
    cases e
theorem FloorAt.lists_same {K : PySem.W.Frag} {H H' : Hp} {A : FA} {n : Nat} {fs : List File} (F : FloorAt K H A n fs) (s : Same H H') {b : Addr} (h : lists H' A b) : lists H A b := by
  obtain ⟨ba, ct, g1, _⟩ := F.bk
  obtain ⟨pa, g2, _⟩ := F.pl
  rcases h with ⟨xs, h1, h2⟩ | ⟨kvs, k, h1, h2⟩
  · rw [s _ _ g1] at h1; cases h1; exact .inl ⟨_, g1, h2⟩
  · rw [s _ _ g2] at h1; cases h1; exact .inr ⟨_, k, g2, h2⟩
/-- another object may change -/
theorem FloorAt.mut {K : PySem.W.Frag} {H : Hp} {A : FA} {n : Nat} {fs : List File} (F : FloorAt K H A n fs) {a : Addr} {o : HO} (h1 : a ≠ A.p) (h2 : a ∉ [A.lb, A.dp, A.dc]) (h3 : ∀ b, lists H A b → b ≠ a) : FloorAt K (upd H a o) A n fs := by
  obtain ⟨ba, ct, g1, g2, g3⟩ := F.bk
  obtain ⟨pa, g4, g5⟩ := F.pl
  simp only [List.mem_cons, List.not_mem_nil, or_false, not_or] at h2
  refine ⟨(upd_ne h1.symm).trans F.ob, ⟨ba, ct, (upd_ne (Ne.symm h2.1)).trans g1, fun i hi => (upd_ne (h3 _ (.inl ⟨_, g1, List.mem_map.mpr ⟨i, List.mem_range.mpr hi, rfl⟩⟩))).trans (g2 i hi), g3⟩, ⟨pa, (upd_ne (Ne.symm h2.2.1)).trans g4, fun f hf => (upd_ne (h3 _ (.inr ⟨_, _, g4, List.mem_map.mpr ⟨f, hf, rfl⟩⟩))).trans (g5 f hf)⟩, (upd_ne (Ne.symm h2.2.2)).trans F.ct, F.ok, F.n1, F.n2, F.ne⟩
section
variable {P : Program} {w : World} {K : PySem.W.Frag} {mg : Str → Option Value} {base : Heap}
abbrev s_fblocks_for : Stmt := top 12
abbrev n_fblocks_for : List PySem.Str := ["many"]
abbrev p_fblocks_for : List PySem.Str := ["many"]
theorem sc_fblocks_for : FnScope n_fblocks_for p_fblocks_for (defScope s_fblocks_for) := ⟨rfl, rfl, rfl, by decide +kernel, rfl, by decide +kernel, by decide +kernel⟩
def sp_blocks_for : Sp := fun vs H Q _ => ∃ k : Nat, vs = [.int (k : Int)] ∧ Q (.int (nb k : Nat)) H
theorem ok_fblocks_for (T : En K mg) : Fn P w K mg base CX0 1 "blocks_for" p_fblocks_for sp_blocks_for := by
  refine Fn.mk_ T.d_blocks_for T.g_blocks_for (fun _ _ _ _ _ _ us hl => match us, hl with | [_], _ => rfl) fun F => F.ok sc_fblocks_for (fun vs H Q E h => ?_) (fun cdv A outer s H vs Q E hr h => ?_)
  · obtain ⟨k, rfl, _⟩ := h; rfl
  · obtain ⟨k, rfl, q⟩ := h
    refine ⟨_, PSs.nox ((pss_one (ps_ret (pe_op op_fdiv (pe_op op_sub (pe_op op_add (pv 0) (pgi T.i_BLOCK)) pe_int) (pgi T.i_BLOCK))))), ?_⟩
    walk_at "go"
    walk_at "rd"
    have e : ((k : Int) + 16 - 1) / 16 = ((nb k : Nat) : Int) := by unfold nb; omega
    rw [e]
    exact q
abbrev s_m_Floor_taken : Stmt := inClass (top 13) 1
abbrev n_m_Floor_taken : List PySem.Str := ["self", "taken", "name"]
abbrev p_m_Floor_taken : List PySem.Str := ["self"]
theorem sc_m_Floor_taken : FnScope n_m_Floor_taken p_m_Floor_taken (defScope s_m_Floor_taken) := ⟨rfl, rfl, rfl, by decide +kernel, rfl, by decide +kernel, by decide +kernel⟩
def sp_taken (K : PySem.W.Frag) : Sp := fun vs H Q _ => ∃ (A : FA) (n : Nat) (fs : List File), vs = [.ref A.p] ∧ FloorAt K H A n fs ∧ ∀ q H', H q = none → Same H H' → H' q = some (.lst ((used fs).map fun (b : Nat) => V.int (b : Int))) → Q (.ref q) H'
theorem ok_m_Floor_taken (T : En K mg) : Mt P w K mg base CX0 1 "Floor" "taken" p_m_Floor_taken (sp_taken K) := by
  refine Mt.mk_ T.d_Floor_taken (fun _ _ _ _ _ _ us hl => match us, hl with | [_], _ => rfl) fun F => F.ok sc_m_Floor_taken (fun vs H Q E h => ?_) (fun cdv A outer s H vs Q E hr h => ?_)
  · obtain ⟨A, n, fs, rfl, _⟩ := h; rfl
  · obtain ⟨fa, n, fs, rfl, hF, q⟩ := h
    refine ⟨_, PSs.nox ((pss_cons (ps_set (i := 1) (sc_m_Floor_taken.nd) rfl (by first | exact .inl rfl | exact .inr rfl) (pe_lst pa_nil))
      (pss_cons (ps_lock (ps_for PassesOwn.never rfl (pi_keys (pe_fld (pv 0) rfl)) (pg_name (i := 2) (sc_m_Floor_taken.nd) rfl (by first | exact .inl rfl | exact .inr rfl)) (pss_one (ps_aug (i := 1) (sc_m_Floor_taken.nd) rfl (by first | exact .inl rfl | exact .inr rfl) (pe_dget (hu_of hr) (pe_fld (pv 0) rfl) (pv 2) (fun _ _ => rfl)) ip_ext))))
      (pss_one (ps_ret (pv 1)))))), ?_⟩
    walk_at "go"
    walk_at "st"
    refine ⟨Nat.zero_le _, fun p hp => ?_⟩
    walk_at "nx"
    walk_at "st"
    obtain ⟨pa, h40, h50⟩ := hF.pl
    have hF1 := hF.same (Same.new (o := .lst []) hp)
    have hs1 : Same H (upd H p (.lst [])) := Same.new hp
    have hP1 : (upd H p (.lst [])) p = some (.lst []) := upd_same
    generalize upd H p (.lst []) = G at *
    have h4 := hs1 _ _ h40
    have h5 : ∀ f ∈ fs, G (pa f.nm) = some (.lst (blV f)) := fun f hf => hs1 _ _ (h50 f hf)
    have npd : fa.p ≠ fa.dp := ne_of hF1.ob h4 (by intro z; cases z)
    refine ⟨fa.dp, _, h4, trivial, fun od => ?_⟩
    have hfew := hF.ok.few
    have hn2 := hF.n2
    obtain ⟨hob, hct⟩ := And.intro hF1.ob hF1.ct
    have npp : p ≠ fa.dp := ne_of hP1 h4 (by intro z; cases z)
    walk_at "for"
    refine ⟨_, fa.dx, _, (upd_ne npd).trans hob, T.c_Floor, T.na_Floor_places, _, fl_p _, _, rfl, _, .inl ⟨_, upd_same, ?_⟩⟩
    walk_at "nx"
    generalize hGd : upd G fa.dp (.frz od (.dK (fs.map fun f => (Sum.inr f.nm, V.ref (pa f.nm))))) = Gd
    have gd : Gd fa.dp = some (.frz od (.dK (fs.map fun f => (Sum.inr f.nm, V.ref (pa f.nm))))) := by rw [← hGd]; exact upd_same
    have gne : ∀ b, b ≠ fa.dp → Gd b = G b := fun b hb => by rw [← hGd]; exact upd_ne hb
    refine lp_keys (fun i σ' H' => ∃ x : Option V, σ' = [some (.ref fa.p), some (.ref p), x] ∧ (∀ b, b ≠ p → Gd b = H' b) ∧ H' p = some (.lst ((used (fs.take i)).map fun (b : Nat) => V.int (b : Int))))
      ⟨none, rfl, fun _ _ => rfl, (gne _ npp).trans hP1⟩ (fun i σ' H' _ ⟨_, _, e, _⟩ => (e _ npp.symm).symm.trans gd) ?_ ?_
    · rintro i k v σ' H' hi hk ⟨x, rfl, e, hl⟩ B hB
      obtain ⟨f, hf, rfl, rfl⟩ := map_file hk
      refine hB _ _ fun N hN => ?_
      have hfm := List.mem_of_getElem? hf
      have hob' : H' fa.p = some (.ins (He.ga K "Floor") fa.dx (flF fa)) := by
        rw [← e _ (ne_of hob hP1 (by intro z; cases z)), gne _ npd]; exact hob
      have hdp' : H' fa.dp = some (.frz od (.dK (fs.map fun f => (Sum.inr f.nm, V.ref (pa f.nm))))) := (e _ npp.symm).symm.trans gd
      have hpf : H (pa f.nm) = some (.lst (blV f)) := h50 f hfm
      have hpf' : H' (pa f.nm) = some (.lst (blV f)) := by
        rw [← e _ (ne_of_none hpf hp), gne _ (ne_of (h5 f hfm) h4 (by intro z; cases z))]; exact h5 f hfm
      walk_at "rd"
      refine ⟨_, fa.dx, _, hob', T.c_Floor, T.na_Floor_places, _, fl_p _, _, rfl, V.ref (pa f.nm), .inl ⟨_, Sum.inr f.nm, .inr ⟨od, hdp'⟩, rfl, ?_⟩, ?_⟩
      · rw [valV_files fs (fun f => V.ref (pa f.nm)), nodup_has hF.ok.nd hfm] <;> rfl
      · refine ⟨_, rfl, _, hl, _, hpf', ?_, ?_⟩
        · have := used_le (fs := fs) i
          have h9 : f.bl.length ≤ 256 := by
            have := used_le (fs := fs) (i + 1)
            rw [used_take hf, List.length_append] at this
            omega
          rw [List.length_map, sizeLine_eq]
          unfold blV
          rw [List.length_map]
          omega
        · refine hN _ _ ⟨_, rfl, fun b hb => by rw [e b hb, upd_ne hb], ?_⟩
          rw [upd_same, used_take hf, List.map_append] <;> rfl
    · rintro σ' H' ⟨x, rfl, e, hl⟩
      refine ⟨(e _ npp.symm).symm.trans gd, ?_⟩
      walk_at "nx"
      walk_at "rd"
      rw [List.length_map, List.take_length] at hl
      refine q p _ hp (fun b o hb => ?_) (by rw [upd_ne npp]; exact hl)
      by_cases hbd : b = fa.dp
      · rw [hbd] at hb ⊢
        rw [upd_same, ← h40, hb]
      · rw [upd_ne hbd, ← e b (ne_of_none hb hp), gne b hbd]
        exact hs1 _ _ hb
abbrev s_m_Floor_free : Stmt := inClass (top 13) 2
abbrev n_m_Floor_free : List PySem.Str := ["self"]
abbrev p_m_Floor_free : List PySem.Str := ["self"]
theorem sc_m_Floor_free : FnScope n_m_Floor_free p_m_Floor_free (defScope s_m_Floor_free) := ⟨rfl, rfl, rfl, by decide +kernel, rfl, by decide +kernel, by decide +kernel⟩
def sp_free (K : PySem.W.Frag) : Sp := fun vs H Q _ => ∃ (A : FA) (n : Nat) (fs : List File), vs = [.ref A.p] ∧ FloorAt K H A n fs ∧ ∀ H', Same H H' → Q (.int ((n : Int) - ((used fs).length : Int))) H'
theorem ok_m_Floor_free (T : En K mg) : Mt P w K mg base CX0 2 "Floor" "free" p_m_Floor_free (sp_free K) := by
  refine Mt.mk_ T.d_Floor_free (fun _ _ _ _ _ _ us hl => match us, hl with | [_], _ => rfl) fun F => F.ok sc_m_Floor_free (fun vs H Q E h => ?_) (fun cdv A outer s H vs Q E hr h => ?_)
  · obtain ⟨A, n, fs, rfl, _⟩ := h; rfl
  · obtain ⟨fa, n, fs, rfl, hF, q⟩ := h
    refine ⟨_, PSs.nox ((pss_one (ps_ret (pe_op op_sub (pe_callB call_len_seq (by rfl) T.b_len (by decide +kernel) (pa_cons (pe_fld (pv 0) rfl) pa_nil)) (pe_callB call_len_seq (by rfl) T.b_len (by decide +kernel) (pa_cons (pmeth0 T.c_Floor T.m_Floor_taken (pv 0) (ok_m_Floor_taken T) (hr.mono (by decide)) pass0) pa_nil)))))), ?_⟩
    walk_at "go"
    walk_at "rd"
    obtain ⟨ba, ct, h1, h2, h3⟩ := hF.bk
    refine ⟨_, fa.dx, _, hF.ob, T.c_Floor, T.na_Floor_blocks, _, fl_b _, _, rfl, _, .inl (.inl (.inl h1)), fa.dx, _, hF.ob, fl_no _ (by decide +kernel) (by decide +kernel) (by decide +kernel), fa, n, fs, rfl, hF, fun p H1 hp s1 hl => ?_⟩
    walk_at "rd"
    refine ⟨_, .inl (.inl (.inl hl)), ?_⟩
    rw [List.length_map, List.length_map, List.length_range]
    exact q H1 s1
abbrev s_m_Floor_look_name : Stmt := inClass (top 13) 3
abbrev n_m_Floor_look_name : List PySem.Str := ["self", "name"]
abbrev p_m_Floor_look_name : List PySem.Str := ["self", "name"]
theorem sc_m_Floor_look_name : FnScope n_m_Floor_look_name p_m_Floor_look_name (defScope s_m_Floor_look_name) := ⟨rfl, rfl, rfl, by decide +kernel, rfl, by decide +kernel, by decide +kernel⟩
def sp_look (K : PySem.W.Frag) : Sp := fun vs H Q E => ∃ (A : FA) (n : Nat) (fs : List File) (x : Str), vs = [.ref A.p, .str x] ∧ FloorAt K H A n fs ∧ (∀ f, has fs x = some f → Q .non H) ∧ (has fs x = none → E (.ref (He.ga K "NoFile")) none H)
theorem ok_m_Floor_look_name (T : En K mg) : Mt P w K mg base (L2.CX P w) 1 "Floor" "look_name" p_m_Floor_look_name (sp_look K) := by
  refine Mt.mk_ T.d_Floor_look_name (fun _ _ _ _ _ _ us hl => match us, hl with | [_, _], _ => rfl) fun F => F.ok sc_m_Floor_look_name (fun vs H Q E h => ?_) (fun cdv A outer s H vs Q E hr h => ?_)
  · obtain ⟨A, n, fs, x, rfl, _⟩ := h; rfl
  · obtain ⟨fa, n, fs, x, rfl, hF, q1, q2⟩ := h
    refine ⟨_, (pss_one (ps_if (pt_cmp (pc_dnotin (hu_of hr) (pv 1) (pe_fld (pv 0) rfl))) (pss_one (ps_raise rfl (takes_of rfl rfl rfl rfl) (pmk_own PySem.F.excBase_ValueError T.e_NoFile.1 T.g_NoFile T.e_NoFile.2.1 (raises_own T.e_NoFile.2.2.1 T.e_NoFile.2.2.2) rfl))) pss_nil)), ?_⟩
    walk_at "go"
    walk_at "if"
    obtain ⟨pa, h4, h5⟩ := hF.pl
    refine ⟨_, fa.dx, _, hF.ob, T.c_Floor, T.na_Floor_places, _, fl_p _, fa.dp, rfl, _, DGet.k (k := Sum.inr x) h4, ?_⟩
    rw [valV_files fs (fun f => V.ref (pa f.nm))]
    cases e : has fs x with
    | some f =>
      rw [if_neg (by simp)]
      walk_at "nx"
      walk_at "rd"
      exact q1 f e
    | none =>
      rw [if_pos (by simp)]
      walk_at "nx"
      exact q2 e
abbrev s_m_Floor_names : Stmt := inClass (top 13) 8
abbrev n_m_Floor_names : List PySem.Str := ["self"]
abbrev p_m_Floor_names : List PySem.Str := ["self"]
theorem sc_m_Floor_names : FnScope n_m_Floor_names p_m_Floor_names (defScope s_m_Floor_names) := ⟨rfl, rfl, rfl, by decide +kernel, rfl, by decide +kernel, by decide +kernel⟩
def sp_names (K : PySem.W.Frag) : Sp := fun vs H Q _ => ∃ (A : FA) (n : Nat) (fs : List File), vs = [.ref A.p] ∧ FloorAt K H A n fs ∧ fs.length < 64 ∧ ∀ ys q H', ys.Perm (fs.map (·.nm)) → sortedS ys = true → H q = none → Same H H' → H' q = some (.lst (ys.map V.str)) → Q (.ref q) H'
theorem ok_m_Floor_names (T : En K mg) : Mt P w K mg base CX0 1 "Floor" "names" p_m_Floor_names (sp_names K) := by
  refine Mt.mk_ T.d_Floor_names (fun _ _ _ _ _ _ us hl => match us, hl with | [_], _ => rfl) fun F => F.ok sc_m_Floor_names (fun vs H Q E h => ?_) (fun cdv A outer s H vs Q E hr h => ?_)
  · obtain ⟨A, n, fs, rfl, _⟩ := h; rfl
  · obtain ⟨fa, n, fs, rfl, hF, h64, q⟩ := h
    refine ⟨_, PSs.nox ((pss_one (ps_ret (pe_callB cr_sortedS (by rfl) T.b_sorted (by decide +kernel) (pa_cons (pe_callTy (call_list_dK rfl) (by rfl) T.b_list (by decide +kernel) (pa_cons (pe_fld (pv 0) rfl) pa_nil)) pa_nil))))), ?_⟩
    walk_at "go"
    walk_at "rd"
    obtain ⟨pa, h4, h5⟩ := hF.pl
    refine ⟨_, fa.dx, _, hF.ob, T.c_Floor, T.na_Floor_places, _, fl_p _, fa.dp, _, rfl, h4, fun p hp => ?_⟩
    rw [keys_files fs (fun f => V.ref (pa f.nm))]
    refine ⟨p, fs.map (·.nm), rfl, .inl (.inl upd_same), by rw [List.length_map]; exact h64, fun ys r hy hs hr => ?_⟩
    exact q ys r _ hy hs ((Same.new hp).free hr) ((Same.new hp).trans (Same.new hr)) upd_same
abbrev s_m_Floor_block : Stmt := inClass (top 13) 9
abbrev n_m_Floor_block : List PySem.Str := ["self", "number"]
abbrev p_m_Floor_block : List PySem.Str := ["self", "number"]
theorem sc_m_Floor_block : FnScope n_m_Floor_block p_m_Floor_block (defScope s_m_Floor_block) := ⟨rfl, rfl, rfl, by decide +kernel, rfl, by decide +kernel, by decide +kernel⟩
def sp_block (K : PySem.W.Frag) : Sp := fun vs H Q _ => ∃ (A : FA) (n : Nat) (fs : List File) (i : Nat), vs = [.ref A.p, .int (i : Int)] ∧ FloorAt K H A n fs ∧ i < n ∧
  ∀ (xs : List Int) q H', (∀ f ∈ fs, ∀ k, f.bl[k]? = some i → xs = chunk f.ws k) → (i ∉ used fs → xs = zeros) → H q = none → Same H H' → H' q = some (.lst (xs.map V.int)) → Q (.ref q) H'
theorem ok_m_Floor_block (T : En K mg) : Mt P w K mg base CX0 1 "Floor" "block" p_m_Floor_block (sp_block K) := by
  refine Mt.mk_ T.d_Floor_block (fun _ _ _ _ _ _ us hl => match us, hl with | [_, _], _ => rfl) fun F => F.ok sc_m_Floor_block (fun vs H Q E h => ?_) (fun cdv A outer s H vs Q E hr h => ?_)
  · obtain ⟨A, n, fs, i, rfl, _⟩ := h; rfl
  · obtain ⟨fa, n, fs, i, rfl, hF, hi, q⟩ := h
    refine ⟨_, PSs.nox ((pss_one (ps_ret (pe_callTy call_list_of (by rfl) T.b_list (by decide +kernel) (pa_cons (pe_ix ix_list (pe_fld (pv 0) rfl) (pv 1) (fun _ _ => rfl)) pa_nil))))), ?_⟩
    walk_at "go"
    walk_at "rd"
    obtain ⟨ba, ct, h1, h2, h3⟩ := hF.bk
    refine ⟨_, fa.dx, _, hF.ob, T.c_Floor, T.na_Floor_blocks, _, fl_b _, fa.lb, rfl, _, .inl (.inl h1), .ref (ba i), atI_nat (by rw [List.getElem?_map, List.getElem?_range hi] <;> rfl), ba i, rfl, _, .inl (.inl (.inl (h2 i hi))), fun p hp => ?_⟩
    exact q (ct i) p _ (fun f hf k hk => h3.fl f hf k i hk) (h3.zr i hi) hp (Same.new hp) upd_same
abbrev s_m_Floor_blocks_of : Stmt := inClass (top 13) 7
abbrev n_m_Floor_blocks_of : List PySem.Str := ["self", "name"]
abbrev p_m_Floor_blocks_of : List PySem.Str := ["self", "name"]
theorem sc_m_Floor_blocks_of : FnScope n_m_Floor_blocks_of p_m_Floor_blocks_of (defScope s_m_Floor_blocks_of) := ⟨rfl, rfl, rfl, by decide +kernel, rfl, by decide +kernel, by decide +kernel⟩
def sp_blocks_of (K : PySem.W.Frag) : Sp := fun vs H Q E => ∃ (A : FA) (n : Nat) (fs : List File) (x : Str), vs = [.ref A.p, .str x] ∧ FloorAt K H A n fs ∧
  (∀ f q H', has fs x = some f → H q = none → Same H H' → H' q = some (.lst (blV f)) → Q (.ref q) H') ∧ (has fs x = none → E (.ref (He.ga K "NoFile")) none H)
theorem ok_m_Floor_blocks_of (T : En K mg) : Mt P w K mg base (L2.CX P w) 2 "Floor" "blocks_of" p_m_Floor_blocks_of (sp_blocks_of K) := by
  refine Mt.mk_ T.d_Floor_blocks_of (fun _ _ _ _ _ _ us hl => match us, hl with | [_, _], _ => rfl) fun F => F.ok sc_m_Floor_blocks_of (fun vs H Q E h => ?_) (fun cdv A outer s H vs Q E hr h => ?_)
  · obtain ⟨A, n, fs, x, rfl, _⟩ := h; rfl
  · obtain ⟨fa, n, fs, x, rfl, hF, q1, q2⟩ := h
    refine ⟨_, (pss_cons (ps_expr (pmeth T.c_Floor T.m_Floor_look_name (pv 0) (ok_m_Floor_look_name T) (hr.mono (by decide)) (passes_call (takes_of rfl rfl rfl rfl) (fun _ _ _ _ z => z)) (pa_cons (pv 1) pa_nil)))
      (pss_one (ps_ret (pe_callTy call_list_of (by rfl) T.b_list (by decide +kernel) (pa_cons (pe_dget (hu_of hr) (pe_fld (pv 0) rfl) (pv 1) (fun _ _ => rfl)) pa_nil))))), ?_⟩
    walk_at "go"
    walk_at "st"
    obtain ⟨pa, h4, h5⟩ := hF.pl
    refine ⟨fa.dx, _, hF.ob, fl_no _ (by decide +kernel) (by decide +kernel) (by decide +kernel), fa, n, fs, x, rfl, hF, fun f e => ?_, q2⟩
    walk_at "nx"
    walk_at "rd"
    obtain ⟨hm, rfl⟩ := has_mem e
    refine ⟨_, fa.dx, _, hF.ob, T.c_Floor, T.na_Floor_places, _, fl_p _, fa.dp, rfl, .ref (pa f.nm), ?_, pa f.nm, rfl, _, .inl (.inl (.inl (h5 f hm))), fun p hp => ?_⟩
    · have := DGet.k (k := Sum.inr f.nm) h4
      rw [valV_files fs (fun f => V.ref (pa f.nm)), e] at this
      exact this
    · exact q1 f p _ e hp (Same.new hp) upd_same
end

/-! ### files: plain facts -/
theorem sub_len {α : Type} [DecidableEq α] : ∀ {l m : List α}, l.Nodup → (∀ b ∈ l, b ∈ m) → l.length ≤ m.length
  | [], _, _, _ => Nat.zero_le _
  | b :: l, m, hn, h => by
    rw [List.nodup_cons] at hn
    have hb := h b (List.mem_cons_self ..)
    have e := sub_len (l := l) (m := m.erase b) hn.2 fun c hc => (List.mem_erase_of_ne (a := c) (b := b) (fun q => by rw [q] at hc; exact hn.1 hc)).mpr (h c (List.mem_cons_of_mem _ hc))
    rw [List.length_erase, if_pos hb] at e
    have := List.length_pos_of_mem hb
    rw [List.length_cons]
    omega
theorem used_app (a b : List File) : used (a ++ b) = used a ++ used b := by unfold used; exact List.flatMap_append
theorem used_cons (f : File) (b : List File) : used (f :: b) = f.bl ++ used b := by unfold used; exact List.flatMap_cons
theorem del_id {fs : List File} {x : Str} (h : ∀ f ∈ fs, f.nm ≠ x) : del fs x = fs := List.filter_eq_self.mpr fun f hf => decide_eq_true (h f hf)
theorem has_split : ∀ {fs : List File} {x : Str} {f : File}, (fs.map (·.nm)).Nodup → has fs x = some f → ∃ l1 l2, fs = l1 ++ f :: l2 ∧ del fs x = l1 ++ l2
  | [], _, _, _, h => by cases h
  | g :: fs, x, f, hn, h => by
    rw [List.map_cons, List.nodup_cons] at hn
    unfold has at h
    rw [List.find?_cons] at h
    by_cases hg : g.nm = x
    · rw [decide_eq_true hg] at h
      cases h
      refine ⟨[], fs, rfl, ?_⟩
      unfold del
      rw [List.filter_cons, if_neg (by simp [hg])]
      exact del_id fun y hy e => hn.1 (List.mem_map.mpr ⟨y, hy, e.trans hg.symm⟩)
    · rw [decide_eq_false hg] at h
      obtain ⟨l1, l2, e1, e2⟩ := has_split (fs := fs) hn.2 h
      refine ⟨g :: l1, l2, by rw [e1] <;> rfl, ?_⟩
      unfold del at e2 ⊢
      rw [List.filter_cons, if_pos (by simp [hg]), e2] <;> rfl
theorem FsOk.drop_ {n : Nat} {l1 l2 : List File} {f : File} (h : FsOk n (l1 ++ f :: l2)) : FsOk n (l1 ++ l2) ∧ f.bl.Nodup ∧ (∀ b ∈ f.bl, b ∉ used (l1 ++ l2)) ∧ (used (l1 ++ f :: l2)).length = f.bl.length + (used (l1 ++ l2)).length := by
  obtain ⟨a, b, c, d⟩ := h
  rw [List.map_append, List.map_cons] at a
  simp only [used_app, used_cons] at b c
  simp only [used_app, used_cons]
  have a1 := List.nodup_append.mp a
  have a2 := List.nodup_cons.mp a1.2.1
  have b1 := List.nodup_append.mp b
  have b2 := List.nodup_append.mp b1.2.1
  refine ⟨⟨?_, ?_, fun z hz => ?_, fun g hg => ?_⟩, b2.1, fun z hz hm => ?_, ?_⟩
  · rw [List.map_append]
    exact List.nodup_append.mpr ⟨a1.1, a2.2, fun x hx y hy => a1.2.2 x hx y (List.mem_cons_of_mem _ hy)⟩
  · simp only [used_app]
    exact List.nodup_append.mpr ⟨b1.1, b2.2.1, fun x hx y hy => b1.2.2 x hx y (List.mem_append_right _ hy)⟩
  · simp only [used_app] at hz
    rcases List.mem_append.mp hz with h | h
    · exact c z (List.mem_append_left _ h)
    · exact c z (List.mem_append_right _ (List.mem_append_right _ h))
  · rcases List.mem_append.mp hg with h | h
    · exact d g (List.mem_append_left _ h)
    · exact d g (List.mem_append_right _ (List.mem_cons_of_mem _ h))
  · rcases List.mem_append.mp hm with h | h
    · exact b1.2.2 z h z (List.mem_append_left _ hz) rfl
    · exact b2.2.2 z hz z h rfl
  · simp only [List.length_append]
    omega
theorem FsOk.snoc {n : Nat} {fs : List File} {g : File} (h : FsOk n fs) (h1 : ∀ f ∈ fs, f.nm ≠ g.nm) (h2 : g.bl.Nodup) (h3 : ∀ b ∈ g.bl, b < n ∧ b ∉ used fs) (h4 : g.bl.length = nb g.ws.length) : FsOk n (fs ++ [g]) := by
  have eu : used (fs ++ [g]) = used fs ++ g.bl := by rw [used_app, used_cons]; show _ ++ (g.bl ++ []) = _; rw [List.append_nil]
  refine ⟨?_, ?_, fun b hb => ?_, fun f hf => ?_⟩
  · rw [List.map_append]
    refine List.nodup_append.mpr ⟨h.nd, by simp, fun x hx y hy e => ?_⟩
    obtain ⟨f, hf, rfl⟩ := List.mem_map.mp hx
    have : y = g.nm := by simpa using hy
    exact h1 f hf (e.trans this)
  · rw [eu]
    exact List.nodup_append.mpr ⟨h.ud, h2, fun x hx y hy e => (h3 y hy).2 (e ▸ hx)⟩
  · rw [eu] at hb
    rcases List.mem_append.mp hb with q | q
    · exact h.lt b q
    · exact (h3 b q).1
  · rcases List.mem_append.mp hf with q | q
    · exact h.ln f q
    · have : f = g := by simpa using q
      rw [this]; exact h4
/-- the free blocks -/
def freeL (n : Nat) (U : List Nat) : List Nat := (List.range n).filter fun b => decide (b ∉ U)
theorem freeL_len {n : Nat} {U : List Nat} (hn : U.Nodup) (hl : ∀ b ∈ U, b < n) : (freeL n U).length + U.length = n := by
  have h1 : ((List.range n).filter fun b => decide (b ∈ U)).length = U.length := by
    refine Nat.le_antisymm (sub_len (List.nodup_range.filter _) fun b hb => ?_) (sub_len hn fun b hb => ?_)
    · exact of_decide_eq_true (List.mem_filter.mp hb).2
    · exact List.mem_filter.mpr ⟨List.mem_range.mpr (hl b hb), decide_eq_true hb⟩
  have h2 : ∀ l : List Nat, (l.filter fun b => decide (b ∉ U)).length + (l.filter fun b => decide (b ∈ U)).length = l.length := by
    intro l
    induction l with
    | nil => rfl
    | cons b l ih =>
      rw [List.filter_cons, List.filter_cons]
      by_cases hb : b ∈ U
      · rw [if_neg (by simp [hb]), if_pos (by simp [hb]), List.length_cons, List.length_cons]; omega
      · rw [if_pos (by simp [hb]), if_neg (by simp [hb]), List.length_cons, List.length_cons]; omega
  have h3 := h2 (List.range n)
  rw [h1, List.length_range] at h3
  exact h3
theorem freeL_mem {n : Nat} {U : List Nat} {b : Nat} (h : b ∈ freeL n U) : b < n ∧ b ∉ U := ⟨List.mem_range.mp (List.mem_filter.mp h).1, of_decide_eq_true (List.mem_filter.mp h).2⟩
theorem dropK_files (fs : List File) (v : File → V) (x : Str) : dropK (fs.map fun f => ((Sum.inr f.nm, v f) : Key × V)) (Sum.inr x) = (del fs x).map fun f => (Sum.inr f.nm, v f) := by
  unfold dropK del
  rw [List.filter_map]
  congr 1
  congr 1
  funext f
  show decide ((Sum.inr f.nm : Key) ≠ Sum.inr x) = decide (f.nm ≠ x)
  by_cases e : f.nm = x
  · simp [e]
  · simp [e]
theorem putK_files {fs : List File} {v : File → V} {x : Str} {u : V} (h : ∀ f ∈ fs, f.nm ≠ x) : putK (fs.map fun f => ((Sum.inr f.nm, v f) : Key × V)) (Sum.inr x) u = (fs.map fun f => ((Sum.inr f.nm, v f) : Key × V)) ++ [(Sum.inr x, u)] := by
  refine putK_new _ ?_
  rw [valV_files fs v]
  cases e : has fs x with
  | none => rfl
  | some f => exact absurd (has_mem e).2 (h f (has_mem e).1)
theorem inV_nat (b : Nat) (U : List Nat) : inV (.int (b : Int)) (U.map fun (c : Nat) => V.int (c : Int)) = decide (b ∈ U) := by
  unfold inV
  rw [List.any_map]
  by_cases h : b ∈ U
  · rw [decide_eq_true h]
    exact List.any_eq_true.mpr ⟨b, h, beq_self_eq_true _⟩
  · rw [decide_eq_false h]
    refine List.any_eq_false.mpr fun c hc e => h ?_
    have e2 : (c : Int) = (b : Int) := eq_of_beq (show ((c : Int) == (b : Int)) = true from e)
    have e3 : c = b := by omega
    rw [← e3]; exact hc
theorem flat_len (ws : List Int) : ∀ i, ((List.range i).flatMap (chunk ws)).length = 16 * i
  | 0 => rfl
  | i + 1 => by
    rw [List.range_succ, List.flatMap_append, List.length_append, flat_len ws i]
    simp [chunk_len]
    omega
section
variable {P : Program} {w : World} {K : PySem.W.Frag} {mg : Str → Option Value} {base : Heap}
abbrev s_m_Floor_words_of : Stmt := inClass (top 13) 6
abbrev n_m_Floor_words_of : List PySem.Str := ["self", "name", "words", "number"]
abbrev p_m_Floor_words_of : List PySem.Str := ["self", "name"]
theorem sc_m_Floor_words_of : FnScope n_m_Floor_words_of p_m_Floor_words_of (defScope s_m_Floor_words_of) := ⟨rfl, rfl, rfl, by decide +kernel, rfl, by decide +kernel, by decide +kernel⟩
def sp_words_of (K : PySem.W.Frag) : Sp := fun vs H Q E => ∃ (A : FA) (n : Nat) (fs : List File) (x : Str), vs = [.ref A.p, .str x] ∧ FloorAt K H A n fs ∧
  (∀ f q H', has fs x = some f → H q = none → Same H H' → H' q = some (.lst (f.ws.map V.int)) → Q (.ref q) H') ∧ (has fs x = none → E (.ref (He.ga K "NoFile")) none H)
theorem ok_m_Floor_words_of (T : En K mg) : Mt P w K mg base (L2.CX P w) 2 "Floor" "words_of" p_m_Floor_words_of (sp_words_of K) := by
  refine Mt.mk_ T.d_Floor_words_of (fun _ _ _ _ _ _ us hl => match us, hl with | [_, _], _ => rfl) fun F => F.ok sc_m_Floor_words_of (fun vs H Q E h => ?_) (fun cdv A outer s H vs Q E hr h => ?_)
  · obtain ⟨A, n, fs, x, rfl, _⟩ := h; rfl
  · obtain ⟨fa, n, fs, x, rfl, hF, q1, q2⟩ := h
    refine ⟨_, (pss_cons (ps_expr (pmeth T.c_Floor T.m_Floor_look_name (pv 0) (ok_m_Floor_look_name T) (hr.mono (by decide)) (passes_call (takes_of rfl rfl rfl rfl) (fun _ _ _ _ z => z)) (pa_cons (pv 1) pa_nil)))
      (pss_cons (ps_set (i := 2) (sc_m_Floor_words_of.nd) rfl (by first | exact .inl rfl | exact .inr rfl) (pe_lst pa_nil))
      (pss_cons (ps_for (passes_of rfl) rfl (pi_list (pe_dget (hu_of hr) (pe_fld (pv 0) rfl) (pv 1) (fun _ _ => rfl))) (pg_name (i := 3) (sc_m_Floor_words_of.nd) rfl (by first | exact .inl rfl | exact .inr rfl)) (pss_one (ps_aug (i := 2) (sc_m_Floor_words_of.nd) rfl (by first | exact .inl rfl | exact .inr rfl) (pe_ix ix_list (pe_fld (pv 0) rfl) (pv 3) (fun _ _ => rfl)) ip_ext)))
      (pss_one (ps_ret (pe_slice sl_list (pv 2) po_none (po_some (pe_dget (hu_of hr) (pe_fld (pv 0) rfl) (pv 1) (fun _ _ => rfl))))))))), ?_⟩
    walk_at "go"
    walk_at "st"
    refine ⟨fa.dx, _, hF.ob, fl_no _ (by decide +kernel) (by decide +kernel) (by decide +kernel), fa, n, fs, x, rfl, hF, fun f e => ?_, q2⟩
    obtain ⟨hm, rfl⟩ := has_mem e
    walk_at "nx"
    walk_at "st"
    refine ⟨Nat.zero_le _, fun p hp => ?_⟩
    walk_at "nx"
    have s1 : Same H (upd H p (.lst [])) := Same.new hp
    have hp1 : (upd H p (.lst [])) p = some (.lst []) := upd_same
    generalize upd H p (.lst []) = G at *
    have getd : ∀ {H' : Hp}, Same H H' → DGet H' fa.dp (kV (Sum.inr f.nm)) (some (V.ref (hF.pl.choose f.nm))) := fun {H'} s' => by
      have := DGet.k (k := Sum.inr f.nm) (s' _ _ hF.pl.choose_spec.1)
      rw [valV_files fs (fun f => V.ref (hF.pl.choose f.nm)), e] at this
      exact this
    have h5 := hF.pl.choose_spec.2 f hm
    generalize hF.pl.choose f.nm = pa at *
    obtain ⟨ba, ct, g1, g2, g3⟩ := hF.bk
    walk_at "st"
    walk_at "for"
    refine ⟨_, fa.dx, _, s1 _ _ hF.ob, T.c_Floor, T.na_Floor_places, _, fl_p _, fa.dp, rfl, _, getd s1, pa, rfl, ⟨_, .inl (.inl (s1 _ _ h5))⟩, ?_⟩
    walk_at "nx"
    refine lp_list (fun i σ' H' => ∃ z : Option V, σ' = [some (.ref fa.p), some (.str f.nm), some (.ref p), z] ∧ Same H H' ∧ H' p = some (.lst (((List.range i).flatMap (chunk f.ws)).map V.int)))
      ⟨none, rfl, s1, hp1⟩ (fun i σ' H' _ ⟨_, _, s2, _⟩ => .inl (.inl (s2 _ _ h5))) ?_ ?_
    · rintro i z σ' H' hi hz ⟨z0, rfl, s2, hl⟩ B hB
      refine hB _ _ fun N hN => ?_
      unfold blV at hz
      rw [List.getElem?_map] at hz
      obtain ⟨b, hb, rfl⟩ := Option.map_eq_some_iff.mp hz
      have hbn : b < n := hF.ok.lt b (List.mem_flatMap.mpr ⟨f, hm, List.mem_of_getElem? hb⟩)
      walk_at "rd"
      refine ⟨_, fa.dx, _, s2 _ _ hF.ob, T.c_Floor, T.na_Floor_blocks, _, fl_b _, fa.lb, rfl, _, .inl (.inl (s2 _ _ g1)), V.ref (ba b), atI_nat (by rw [List.getElem?_map, List.getElem?_range hbn] <;> rfl), ?_⟩
      have hil : i < 256 := by
        have := (List.getElem?_eq_some_iff.mp hb).1
        have h1 := hF.ok.few
        have h2 := hF.n2
        have h3 : f.bl.length ≤ (used fs).length := by
          obtain ⟨j, hj⟩ := List.mem_iff_getElem?.mp hm
          have := used_le (fs := fs) (j + 1)
          rw [used_take hj, List.length_append] at this
          omega
        omega
      refine ⟨_, rfl, _, hl, _, s2 _ _ (g2 b hbn), ?_, hN _ _ ⟨_, rfl, Same.mut s2 hp, ?_⟩⟩
      · rw [List.length_map, List.length_map, g3.fl f hm i b hb, chunk_len, sizeLine_eq]
        have := flat_len f.ws i
        omega
      · rw [upd_same, g3.fl f hm i b hb, ← List.map_append, List.range_succ, List.flatMap_append]
        simp
    · rintro σ' H' ⟨z0, rfl, s2, hl⟩
      walk_at "nx"
      walk_at "rd"
      unfold blV at hl
      rw [List.length_map, hF.ok.ln f hm] at hl
      refine ⟨_, fa.dx, _, s2 _ _ hF.ob, T.c_Floor, T.na_Floor_counts, _, fl_c _, fa.dc, rfl, V.int f.ws.length, ?_, _, rfl, _, .inl (.inl hl), fun r hr => ?_⟩
      · have := DGet.k (k := Sum.inr f.nm) (s2 _ _ hF.ct)
        rw [valV_files fs (fun f => V.int f.ws.length), e] at this
        exact this
      · refine q1 f r _ e (s2.free hr) (s2.trans (Same.new hr)) ?_
        rw [upd_same, cut_take, ← List.map_take, words_back]
abbrev s_m_Floor_drop : Stmt := inClass (top 13) 5
abbrev n_m_Floor_drop : List PySem.Str := ["self", "name", "number"]
abbrev p_m_Floor_drop : List PySem.Str := ["self", "name"]
theorem sc_m_Floor_drop : FnScope n_m_Floor_drop p_m_Floor_drop (defScope s_m_Floor_drop) := ⟨rfl, rfl, rfl, by decide +kernel, rfl, by decide +kernel, by decide +kernel⟩
def sp_drop (K : PySem.W.Frag) : Sp := fun vs H Q E => ∃ (A : FA) (n : Nat) (fs : List File) (x : Str), vs = [.ref A.p, .str x] ∧ FloorAt K H A n fs ∧
  (∀ f H', has fs x = some f → FloorAt K H' A n (del fs x) → SameX [A.lb, A.dp, A.dc] H H' → Newly A H H' → Q .non H') ∧ (has fs x = none → E (.ref (He.ga K "NoFile")) none H)
theorem ok_m_Floor_drop (T : En K mg) : Mt P w K mg base (L2.CX P w) 2 "Floor" "drop" p_m_Floor_drop (sp_drop K) := by
  refine Mt.mk_ T.d_Floor_drop (fun _ _ _ _ _ _ us hl => match us, hl with | [_, _], _ => rfl) fun F => F.ok sc_m_Floor_drop (fun vs H Q E h => ?_) (fun cdv A outer s H vs Q E hr h => ?_)
  · obtain ⟨A, n, fs, x, rfl, _⟩ := h; rfl
  · obtain ⟨fa, n, fs, x, rfl, hF, q1, q2⟩ := h
    refine ⟨_, (pss_cons (ps_expr (pmeth T.c_Floor T.m_Floor_look_name (pv 0) (ok_m_Floor_look_name T) (hr.mono (by decide)) (passes_call (takes_of rfl rfl rfl rfl) (fun _ _ _ _ z => z)) (pa_cons (pv 1) pa_nil)))
      (pss_cons (ps_for (passes_of rfl) rfl (pi_list (pe_dget (hu_of hr) (pe_fld (pv 0) rfl) (pv 1) (fun _ _ => rfl))) (pg_name (i := 2) (sc_m_Floor_drop.nd) rfl (by first | exact .inl rfl | exact .inr rfl)) (pss_one (ps_asg (pe_op op_rep (pe_lst (pa_cons pe_int pa_nil)) (pgi T.i_BLOCK)) (pg_sub (pe_fld (pv 0) rfl) (pv 2) set_list))))
      (pss_cons (ps_expr (pe_dpop1 (pe_fld (pv 0) rfl) (pv 1) ⟨rfl, rfl, rfl, rfl⟩))
      (pss_one (ps_expr (pe_dpop1 (pe_fld (pv 0) rfl) (pv 1) ⟨rfl, rfl, rfl, rfl⟩)))))), ?_⟩
    walk_at "go"
    walk_at "st"
    refine ⟨fa.dx, _, hF.ob, fl_no _ (by decide +kernel) (by decide +kernel) (by decide +kernel), fa, n, fs, x, rfl, hF, fun f e => ?_, q2⟩
    obtain ⟨hm, rfl⟩ := has_mem e
    obtain ⟨l1, l2, es, ed⟩ := has_split hF.ok.nd e
    obtain ⟨ok', fnd, fdis, flen⟩ := FsOk.drop_ (es ▸ hF.ok)
    rw [← ed] at ok' fdis flen
    walk_at "nx"
    walk_at "st"
    walk_at "for"
    obtain ⟨pa, h4, h5⟩ := hF.pl
    obtain ⟨ba, ct, g1, g2, g3⟩ := hF.bk
    have n1 := hF.n1
    have hlb : ∀ {a : Addr} {xs : List Int}, H a = some (.lst (xs.map V.int)) → a ≠ fa.lb := fun {a xs} h => ne_of h g1 (fun z => by
      injection z with z
      obtain ⟨m, rfl⟩ : ∃ m, n = m + 1 := ⟨n - 1, by omega⟩
      rw [List.range_succ_eq_map, List.map_cons] at z
      cases xs <;> cases z)
    have npl : fa.p ≠ fa.lb := ne_of hF.ob g1 (by intro z; cases z)
    have ndl : fa.dp ≠ fa.lb := ne_of h4 g1 (by intro z; cases z)
    have ncl : fa.dc ≠ fa.lb := ne_of hF.ct g1 (by intro z; cases z)
    have npd : fa.p ≠ fa.dp := ne_of hF.ob h4 (by intro z; cases z)
    have npc : fa.p ≠ fa.dc := ne_of hF.ob hF.ct (by intro z; cases z)
    have h5f := h5 f hm
    have h5i : H (pa f.nm) = some (.lst ((f.bl.map fun (b : Nat) => (b : Int)).map V.int)) := by rw [h5f]; unfold blV; rw [List.map_map] <;> rfl
    refine ⟨_, fa.dx, _, hF.ob, T.c_Floor, T.na_Floor_places, _, fl_p _, fa.dp, rfl, V.ref (pa f.nm), ?_, pa f.nm, rfl, ⟨_, .inl (.inl h5f)⟩, ?_⟩
    · have := DGet.k (k := Sum.inr f.nm) h4
      rw [valV_files fs (fun f => V.ref (pa f.nm)), e] at this
      exact this
    walk_at "nx"
    refine lp_list (fun i σ' H' => ∃ z : Option V, σ' = [some (.ref fa.p), some (.str f.nm), z] ∧ SameX [fa.lb] H H' ∧ ∃ (ba' : Nat → Addr), H' fa.lb = some (.lst ((List.range n).map fun i => V.ref (ba' i))) ∧ ∀ j, j < n → H' (ba' j) = some (.lst ((if j ∈ f.bl.take i then zeros else ct j).map V.int)) ∧ ba' j ≠ fa.lb ∧ (ba' j = ba j ∨ H (ba' j) = none))
      ⟨none, rfl, fun _ _ h _ => h, ba, g1, fun j hj => ⟨by rw [List.take_zero, if_neg (by simp)]; exact g2 j hj, hlb (g2 j hj), .inl rfl⟩⟩ (fun i σ' H' _ ⟨_, _, s2, _⟩ => .inl (.inl (s2 _ _ h5f (by simp [hlb h5i])))) ?_ ?_
    · rintro i z σ' H' hi hz ⟨z0, rfl, s2, ba', hl, hb'⟩ B hB
      refine hB _ _ fun N hN => ?_
      unfold blV at hz
      rw [List.getElem?_map] at hz
      obtain ⟨b, hb, rfl⟩ := Option.map_eq_some_iff.mp hz
      have hbn : b < n := hF.ok.lt b (List.mem_flatMap.mpr ⟨f, hm, List.mem_of_getElem? hb⟩)
      walk_at "rd"
      refine ⟨Nat.le_trans (show 1 ≤ 16 by decide) (by decide), fun r hr => ⟨_, upd_same, by decide, fun u hu => ?_⟩⟩
      have hu0 : H' u = none := (Same.new hr).free hu
      have s3 : Same H' (upd (upd H' r (HO.lst [V.int 0])) u (HO.lst (List.replicate (Int.toNat 16) [V.int 0]).flatten)) := (Same.new hr).trans (Same.new hu)
      have hU : (upd (upd H' r (HO.lst [V.int 0])) u (HO.lst (List.replicate (Int.toNat 16) [V.int 0]).flatten)) u = some (.lst (zeros.map V.int)) := upd_same
      generalize upd (upd H' r (HO.lst [V.int 0])) u (HO.lst (List.replicate (Int.toNat 16) [V.int 0]).flatten) = G at *
      refine ⟨_, fa.dx, _, s3 _ _ (s2 _ _ hF.ob (by simp [npl])), T.c_Floor, T.na_Floor_blocks, _, fl_b _, fa.lb, rfl, _, s3 _ _ hl, b, ?_, hN _ _ ⟨_, rfl, fun c o hc hn => ?_, fun j => if j = b then u else ba' j, ?_, fun j hj => ?_⟩⟩
      · rw [List.length_map, List.length_range]
        unfold ixN
        rw [if_pos (by omega), if_pos (by omega)] <;> simp
      · have hcl : c ≠ fa.lb := by simpa using hn
        rw [upd_ne hcl]
        exact s3 _ _ (s2 _ _ hc hn)
      · rw [upd_same]
        congr 2
        apply List.ext_getElem?
        intro k
        rw [List.getElem?_set, List.getElem?_map, List.getElem?_map]
        by_cases hk : k < n
        · rw [List.getElem?_range hk, List.length_map, List.length_range]
          by_cases hkb : b = k
          · rw [if_pos hkb, if_pos hbn]
            show _ = some (V.ref (if k = b then u else ba' k))
            rw [if_pos hkb.symm]
          · rw [if_neg hkb]
            show _ = some (V.ref (if k = b then u else ba' k))
            rw [if_neg (fun q => hkb q.symm)] <;> rfl
        · rw [List.getElem?_eq_none (by rw [List.length_range]; omega), if_neg (fun q => hk (by omega))] <;> rfl
      · have hul : u ≠ fa.lb := fun q => by rw [q, hl] at hu0; cases hu0
        obtain ⟨e1, e2, e3⟩ := hb' j hj
        show (upd G fa.lb _) (if j = b then u else ba' j) = _ ∧ (if j = b then u else ba' j) ≠ fa.lb ∧ ((if j = b then u else ba' j) = ba j ∨ H (if j = b then u else ba' j) = none)
        by_cases hjb : j = b
        · rw [if_pos hjb, upd_ne hul, if_pos (by rw [take_succ hb, hjb]; simp)]
          exact ⟨hU, hul, .inr (s2.gone hu0 (by simp [hl]))⟩
        · rw [if_neg hjb, upd_ne e2, s3 _ _ e1]
          refine ⟨?_, e2, e3⟩
          have : (j ∈ f.bl.take (i + 1)) = (j ∈ f.bl.take i) := by rw [take_succ hb, List.mem_append]; simp [hjb]
          simp only [this]
    · rintro σ' H' ⟨z0, rfl, s2, ba', hl, hb'⟩
      walk_at "nx"
      have hdp := s2 _ _ h4 (by simp [ndl])
      have hdc := s2 _ _ hF.ct (by simp [ncl])
      have hob := s2 _ _ hF.ob (by simp [npl])
      have ndc := hF.ne
      walk_at "st"
      refine ⟨_, fa.dx, _, hob, T.c_Floor, T.na_Floor_places, _, fl_p _, fa.dp, rfl, .inl ⟨_, .inl hdp⟩, _, hdp, Sum.inr f.nm, rfl, ⟨V.ref (pa f.nm), by rw [valV_files fs (fun f => V.ref (pa f.nm)), e] <;> rfl⟩, ?_⟩
      walk_at "nx"
      walk_at "rd"
      have hdc2 := (upd_ne (o := .dK (dropK (fs.map fun f => ((Sum.inr f.nm, V.ref (pa f.nm)) : Key × V)) (Sum.inr f.nm))) ndc.symm).trans hdc
      refine ⟨_, fa.dx, _, (upd_ne npd).trans hob, T.c_Floor, T.na_Floor_counts, _, fl_c _, fa.dc, rfl, .inl ⟨_, .inl hdc2⟩, _, hdc2, Sum.inr f.nm, rfl, ⟨V.int f.ws.length, by rw [valV_files fs (fun f => V.int f.ws.length), e] <;> rfl⟩, ?_⟩
      rw [dropK_files fs (fun f => V.ref (pa f.nm)), dropK_files fs (fun f => V.int f.ws.length)]
      have hsx : SameX [fa.lb, fa.dp, fa.dc] H (upd (upd H' fa.dp (.dK ((del fs f.nm).map fun f => (Sum.inr f.nm, V.ref (pa f.nm))))) fa.dc (.dK ((del fs f.nm).map fun f => (Sum.inr f.nm, V.int f.ws.length)))) := fun c o hc hn => by
        simp only [List.mem_cons, List.not_mem_nil, or_false, not_or] at hn
        rw [upd_ne hn.2.2, upd_ne hn.2.1]
        exact s2 _ _ hc (by simp [hn.1])
      have lst_keep : ∀ {c : Addr} {xs : List V}, H' c = some (.lst xs) → (upd (upd H' fa.dp (.dK ((del fs f.nm).map fun f => (Sum.inr f.nm, V.ref (pa f.nm))))) fa.dc (.dK ((del fs f.nm).map fun f => (Sum.inr f.nm, V.int f.ws.length)))) c = some (.lst xs) := fun {c xs} h => by
        rw [upd_ne (ne_of h hdc (by intro z; cases z)), upd_ne (ne_of h hdp (by intro z; cases z))]
        exact h
      have hsub : ∀ g ∈ del fs f.nm, g ∈ fs := fun g hg => (List.mem_filter.mp hg).1
      refine q1 f _ e ⟨?_, ⟨ba', fun j => if j ∈ f.bl then zeros else ct j, lst_keep hl, fun j hj => ?_, ⟨fun g hg k b hb => ?_, fun b hbn hb => ?_⟩⟩, ⟨pa, ?_, fun g hg => ?_⟩, upd_same, ok', hF.n1, hF.n2, ndc⟩ hsx fun b hbl => ?_
      · rw [upd_ne npc, upd_ne npd]; exact hob
      · have := (hb' j hj).1
        unfold blV at this
        rw [List.length_map, List.take_length] at this
        exact lst_keep this
      · have hbf : b ∉ f.bl := fun q => fdis b q (List.mem_flatMap.mpr ⟨g, hg, List.mem_of_getElem? hb⟩)
        show (if b ∈ f.bl then zeros else ct b) = _
        rw [if_neg hbf]
        exact g3.fl g (hsub g hg) k b hb
      · show (if b ∈ f.bl then zeros else ct b) = _
        by_cases hbf : b ∈ f.bl
        · rw [if_pos hbf]
        · rw [if_neg hbf]
          refine g3.zr b hbn fun q => ?_
          rw [es, used_app, used_cons] at q
          rw [ed, used_app] at hb
          rcases List.mem_append.mp q with q | q
          · exact hb (List.mem_append_left _ q)
          · rcases List.mem_append.mp q with q | q
            · exact hbf q
            · exact hb (List.mem_append_right _ q)
      · rw [upd_ne ndc, upd_same]
      · have h6 := h5 g (hsub g hg)
        refine lst_keep (s2 _ _ h6 ?_)
        have h7 : H (pa g.nm) = some (.lst ((g.bl.map fun (b : Nat) => (b : Int)).map V.int)) := by rw [h6]; unfold blV; rw [List.map_map] <;> rfl
        simp [hlb h7]
      · rcases hbl with ⟨xs, h1, h2⟩ | ⟨kvs, k, h1, h2⟩
        · rw [lst_keep hl] at h1
          cases h1
          obtain ⟨j, hj, z⟩ := List.mem_map.mp h2
          cases z
          rcases (hb' j (List.mem_range.mp hj)).2.2 with z | z
          · exact .inl (.inl ⟨_, g1, List.mem_map.mpr ⟨j, hj, by rw [z]⟩⟩)
          · exact .inr z
        · rw [upd_ne ndc, upd_same] at h1
          cases h1
          obtain ⟨g, hg, z⟩ := List.mem_map.mp h2
          cases z
          exact .inl (.inr ⟨_, _, h4, List.mem_map.mpr ⟨g, hsub g hg, rfl⟩⟩)
end

section
variable {P : Program} {w : World} {K : PySem.W.Frag} {mg : Str → Option Value} {base : Heap}
abbrev s_m_Floor_init : Stmt := inClass (top 13) 0
abbrev n_m_Floor_init : List PySem.Str := ["self", "blocks", "number"]
abbrev p_m_Floor_init : List PySem.Str := ["self", "blocks"]
theorem sc_m_Floor_init : FnScope n_m_Floor_init p_m_Floor_init (defScope s_m_Floor_init) := ⟨rfl, rfl, rfl, by decide +kernel, rfl, by decide +kernel, by decide +kernel⟩
def sp_init (K : PySem.W.Frag) : Sp := fun vs H Q _ => ∃ (p dx : Addr) (n : Nat), vs = [.ref p, .int (n : Int)] ∧ H p = some (.ins (He.ga K "Floor") dx []) ∧ 1 ≤ n ∧ n ≤ 256 ∧
  ∀ (lb dp dc : Addr) (H' : Hp), H lb = none → H dp = none → H dc = none → FloorAt K H' ⟨p, dx, lb, dp, dc⟩ n [] → SameX [p] H H' → Q .non H'
theorem ok_m_Floor_init (T : En K mg) : Mt P w K mg base CX0 1 "Floor" "__init__" p_m_Floor_init (sp_init K) := by
  refine Mt.mk_ T.d_Floor_init (fun _ _ _ _ _ _ us hl => match us, hl with | [_, _], _ => rfl) fun F => F.ok sc_m_Floor_init (fun vs H Q E h => ?_) (fun cdv A outer s H vs Q E hr h => ?_)
  · obtain ⟨p, dx, n, rfl, _⟩ := h; rfl
  · obtain ⟨p, dx, n, rfl, hp, n1, n2, q⟩ := h
    refine ⟨_, PSs.nox ((pss_cons (ps_fld (pv 0) (pe_lc (own := [("number", 2)]) (by rfl) (sc_m_Floor_init.nd) (pi_range1 (by rfl) T.b_range (pa_cons (pv 1) pa_nil)) (blkOk_by (own := [("number", 2)]) (N := n_m_Floor_init) (sc := (defScope s_m_Floor_init)) (by decide +kernel)) (fun _ _ _ _ _ => (pg_name (i := 2) (sc_m_Floor_init.nd) rfl (by first | exact .inl rfl | exact .inr rfl))) (fun _ _ _ _ _ => pts_nil) (fun _ _ _ _ _ => (pe_op op_rep (pe_lst (pa_cons pe_int pa_nil)) (pgi T.i_BLOCK)))) rfl)
      (pss_cons (ps_fld (pv 0) pe_dnewK rfl)
      (pss_one (ps_fld (pv 0) pe_dnewK rfl))))), ?_⟩
    walk_at "go"
    walk_at "st"
    refine lc_ fun LP hLP => ?_
    walk_at "rd"
    refine ⟨by omega, by omega, hLP _ _ ?_⟩
    have hn : Int.toNat (n : Int) = n := by omega
    rw [hn]
    refine lcr_walk (X := fun i x => x = .int (0 + (i : Int))) walk_range (fun _ _ => trivial) (fun D _ v H => ∃ u, v = .ref u ∧ u ≠ D ∧ H u = some (.lst (zeros.map V.int))) (fun D i v H1 H2 k ⟨u, e, hu, h⟩ => ⟨u, e, hu, k u _ h hu⟩) (by rw [sizeLine_eq]; omega) (fun _ => rfl)
      (fun D acc i x H1 hi hx s1 hD R hR => ?_) (fun D us H1 hD s1 hl hu hr => ?_)
    · subst hx
      walk_at "rd"
      refine ⟨Nat.le_trans (show 1 ≤ 16 by decide) (by decide), fun r hr => ⟨_, upd_same, by decide, fun u hu => ?_⟩⟩
      exact hR _ _ ((Same.new hr).trans (Same.new hu)) ⟨u, rfl, fun e => (by rw [e, (Same.new hr) _ _ hD] at hu; cases hu), upd_same⟩
    · have npD : p ≠ D := ne_of_none hp hD
      have hp1 := s1 _ _ hp
      refine ⟨_, dx, _, hp1, T.c_Floor, T.na_Floor_blocks, by show 0 < 1000; decide, ?_⟩
      walk_at "nx"
      have e1 : putF ("blocks" : Str) (V.ref D) [] = [(("blocks" : Str), V.ref D)] := rfl
      rw [e1]
      have hG1 : ∀ b o, H1 b = some o → b ≠ p → (upd H1 p (.ins (He.ga K "Floor") dx [(("blocks" : Str), V.ref D)])) b = some o := fun b o h hb => by rw [upd_ne hb]; exact h
      have hGp : (upd H1 p (.ins (He.ga K "Floor") dx [(("blocks" : Str), V.ref D)])) p = some (.ins (He.ga K "Floor") dx [(("blocks" : Str), V.ref D)]) := upd_same
      generalize upd H1 p (.ins (He.ga K "Floor") dx [(("blocks" : Str), V.ref D)]) = G1 at *
      walk_at "st"
      intro dp hdp
      have hGp2 := Same.new (o := .dK []) hdp _ _ hGp
      have hdp2 : (upd G1 dp (.dK [])) dp = some (.dK []) := upd_same
      have sdp : Same G1 (upd G1 dp (.dK [])) := Same.new hdp
      generalize upd G1 dp (.dK []) = G2 at *
      refine ⟨_, dx, _, hGp2, T.c_Floor, T.na_Floor_places, by show 1 < 1000; decide, ?_⟩
      walk_at "nx"
      have e2 : putF ("places" : Str) (V.ref dp) [(("blocks" : Str), V.ref D)] = [(("blocks" : Str), V.ref D), (("places" : Str), V.ref dp)] := by
        show (if ("blocks" : Str) = "places" then _ else _) = _
        rw [if_neg (by decide +kernel)] <;> rfl
      rw [e2]
      have npdp : p ≠ dp := ne_of hGp2 hdp2 (by intro z; cases z)
      have hG3 : ∀ b o, G2 b = some o → b ≠ p → (upd G2 p (.ins (He.ga K "Floor") dx [(("blocks" : Str), V.ref D), (("places" : Str), V.ref dp)])) b = some o := fun b o h hb => by rw [upd_ne hb]; exact h
      have hGp3 : (upd G2 p (.ins (He.ga K "Floor") dx [(("blocks" : Str), V.ref D), (("places" : Str), V.ref dp)])) p = some (.ins (He.ga K "Floor") dx [(("blocks" : Str), V.ref D), (("places" : Str), V.ref dp)]) := upd_same
      generalize upd G2 p (.ins (He.ga K "Floor") dx [(("blocks" : Str), V.ref D), (("places" : Str), V.ref dp)]) = G3 at *
      walk_at "rd"
      intro dc hdc
      have hGp4 := Same.new (o := .dK []) hdc _ _ hGp3
      have hdc4 : (upd G3 dc (.dK [])) dc = some (.dK []) := upd_same
      have sdc : Same G3 (upd G3 dc (.dK [])) := Same.new hdc
      generalize upd G3 dc (.dK []) = G4 at *
      refine ⟨_, dx, _, hGp4, T.c_Floor, T.na_Floor_counts, by show 2 < 1000; decide, ?_⟩
      have e3 : putF ("counts" : Str) (V.ref dc) [(("blocks" : Str), V.ref D), (("places" : Str), V.ref dp)] = flF ⟨p, dx, D, dp, dc⟩ := by
        show (if ("blocks" : Str) = "counts" then _ else (("blocks" : Str), V.ref D) :: (if ("places" : Str) = "counts" then _ else _)) = _
        rw [if_neg (by decide +kernel), if_neg (by decide +kernel)] <;> rfl
      rw [e3]
      have npdc : p ≠ dc := ne_of hGp4 hdc4 (by intro z; cases z)
      have ndd : dp ≠ dc := fun q => by
        have := hG3 _ _ hdp2 npdp.symm
        rw [q, hdc] at this
        cases this
      -- what stood at H1 but p stands
      have keep : ∀ b o, H1 b = some o → b ≠ p → (upd G4 p (.ins (He.ga K "Floor") dx (flF ⟨p, dx, D, dp, dc⟩))) b = some o := fun b o h hb => by
        rw [upd_ne hb]
        exact sdc _ _ (hG3 _ _ (sdp _ _ (hG1 _ _ h hb)) hb)
      have fresh : ∀ b, G1 b = none → b ≠ p → H b = none := fun b h hb => by
        cases e : H b with
        | none => rfl
        | some o => rw [hG1 _ _ (s1 _ _ e) hb] at h; cases h
      refine q D dp dc _ hD (fresh _ hdp npdp.symm) ?_ ⟨upd_same, ?_, ⟨fun _ => 0, ?_, fun f hf => (by cases hf)⟩, ?_, ⟨List.nodup_nil, List.nodup_nil, fun b hb => (by cases hb), fun f hf => (by cases hf)⟩, n1, n2, ndd⟩ fun b o h hb => keep b o (s1 _ _ h) (by simpa using hb)
      · cases e : H dc with
        | none => rfl
        | some o => rw [hG3 _ _ (sdp _ _ (hG1 _ _ (s1 _ _ e) npdc.symm)) npdc.symm] at hdc; cases hdc
      · have ha : ∀ i, i < n → ∃ u, us[i]? = some (.ref u) ∧ u ≠ D ∧ H1 u = some (.lst (zeros.map V.int)) := fun i hi => by
          obtain ⟨v, hv⟩ : ∃ v, us[i]? = some v := ⟨_, List.getElem?_eq_getElem (by omega)⟩
          obtain ⟨u, e, h1, h2⟩ := hr i v hv
          exact ⟨u, by rw [hv, e], h1, h2⟩
        refine ⟨fun i => if h : i < n then (ha i h).choose else 0, fun _ => zeros, ?_, fun i hi => ?_, ⟨fun f hf => (by cases hf), fun _ _ _ => rfl⟩⟩
        · have : us = (List.range n).map fun i => V.ref (if h : i < n then (ha i h).choose else 0) := by
            apply List.ext_getElem?
            intro i
            rw [List.getElem?_map]
            by_cases hi : i < n
            · rw [List.getElem?_range hi, (ha i hi).choose_spec.1]
              show _ = some (V.ref _)
              rw [dif_pos hi]
            · rw [List.getElem?_eq_none (by omega), List.getElem?_eq_none (by rw [List.length_range]; omega)] <;> rfl
          rw [← this]
          exact keep _ _ hl npD.symm
        · dsimp only
          rw [dif_pos hi]
          have h2 := (ha i hi).choose_spec.2.2
          exact keep _ _ h2 (ne_of h2 hp1 (by intro z; cases z))
      · show (upd G4 p _) dp = _
        rw [upd_ne npdp.symm]
        exact sdc _ _ (hG3 _ _ hdp2 npdp.symm)
      · show (upd G4 p _) dc = _
        rw [upd_ne npdc.symm]
        exact hdc4
end

theorem SameX.refl {S : List Addr} (H : Hp) : SameX S H H := fun _ _ h _ => h
theorem SameX.of {S : List Addr} {H H' : Hp} (e : Same H H') : SameX S H H' := fun b o h _ => e b o h
theorem SameX.then {S : List Addr} {H H' G : Hp} (e : SameX S H H') (s : Same H' G) : SameX S H G := fun b o h n => s b o (e b o h n)
theorem SameX.mut {S : List Addr} {H H' : Hp} {a : Addr} {o : HO} (e : SameX S H H') (h : a ∈ S) : SameX S H (upd H' a o) := fun b u hb n => by
  rw [upd_ne (fun q => n (by rw [q]; exact h))]; exact e b u hb n
theorem SameX.trans {S : List Addr} {H H' G : Hp} (e : SameX S H H') (s : SameX S H' G) : SameX S H G := fun b o h n => s b o (e b o h n) n
/-- the file that keep lays -/
def newF (n : Nat) (fs : List File) (x : Str) (ws : List Int) : File := ⟨x, (freeL n (used (del fs x))).take (nb ws.length), ws⟩
def roomy (n : Nat) (fs : List File) (x : Str) (ws : List Int) : Prop := nb ws.length ≤ (freeL n (used (del fs x))).length
section
variable {P : Program} {w : World} {K : PySem.W.Frag} {mg : Str → Option Value} {base : Heap}
abbrev s_m_Floor_keep : Stmt := inClass (top 13) 4
abbrev n_m_Floor_keep : List PySem.Str := ["self", "name", "words", "many", "taken", "some", "number", "k", "part"]
abbrev p_m_Floor_keep : List PySem.Str := ["self", "name", "words"]
theorem sc_m_Floor_keep : FnScope n_m_Floor_keep p_m_Floor_keep (defScope s_m_Floor_keep) := ⟨rfl, rfl, rfl, by decide +kernel, rfl, by decide +kernel, by decide +kernel⟩
def sp_keep (K : PySem.W.Frag) : Sp := fun vs H Q E => ∃ (A : FA) (n : Nat) (fs : List File) (x : Str) (a : Addr) (ws : List Int), vs = [.ref A.p, .str x, .ref a] ∧ FloorAt K H A n fs ∧ fs.length < 4096 ∧ H a = some (.lst (ws.map V.int)) ∧ a ∉ [A.lb, A.dp, A.dc] ∧
  (roomy n fs x ws → ∀ H', FloorAt K H' A n (del fs x ++ [newF n fs x ws]) → SameX [A.lb, A.dp, A.dc] H H' → Newly A H H' → Q .non H') ∧ (¬ roomy n fs x ws → ∀ H', Same H H' → E (.ref (He.ga K "NoRoom")) none H')
theorem ok_m_Floor_keep (T : En K mg) : Mt P w K mg base (L2.CX P w) 3 "Floor" "keep" p_m_Floor_keep (sp_keep K) := by
  refine Mt.mk_ T.d_Floor_keep (fun _ _ _ _ _ _ us hl => match us, hl with | [_, _, _], _ => rfl) fun F => F.ok sc_m_Floor_keep (fun vs H Q E h => ?_) (fun cdv A outer s H vs Q E hr h => ?_)
  · obtain ⟨A, n, fs, x, a, ws, rfl, _⟩ := h; rfl
  · obtain ⟨fa, n, fs, x, a, ws, rfl, hF, hfl, ha, hal, q1, q2⟩ := h
    refine ⟨_, (pss_cons (ps_set (i := 3) (sc_m_Floor_keep.nd) rfl (by first | exact .inl rfl | exact .inr rfl) (pcall (ok_fblocks_for T) (hr.mono (by decide)) rfl pass0 (pa_cons (pe_callB call_len_seq (by rfl) T.b_len (by decide +kernel) (pa_cons (pv 2) pa_nil)) pa_nil)))
      (pss_cons (ps_if (pt_cmpR op_gt (pv 3) (pe_op op_add (pmeth0 T.c_Floor T.m_Floor_free (pv 0) (ok_m_Floor_free T) (hr.mono (by decide)) pass0) (pe_callB call_len_seq (by rfl) T.b_len (by decide +kernel) (pa_cons (pe_dget2 (hu_of hr) (pe_fld (pv 0) rfl) (pv 1) (pe_lst pa_nil) ⟨rfl, rfl, rfl, rfl⟩) pa_nil))) (nomark _)) (pss_one (ps_raise rfl (takes_of rfl rfl rfl rfl) (pmk_own PySem.F.excBase_ValueError T.e_NoRoom.1 T.g_NoRoom T.e_NoRoom.2.1 (raises_own T.e_NoRoom.2.2.1 T.e_NoRoom.2.2.2) rfl))) pss_nil)
      (pss_cons (ps_if (pt_cmp (pc_din (hu_of hr) (pv 1) (pe_fld (pv 0) rfl))) (pss_one (ps_expr (pmeth T.c_Floor T.m_Floor_drop (pv 0) (ok_m_Floor_drop T) (hr.mono (by decide)) (passes_call (takes_of rfl rfl rfl rfl) (fun _ _ _ _ z => z)) (pa_cons (pv 1) pa_nil)))) pss_nil)
      (pss_cons (ps_set (i := 4) (sc_m_Floor_keep.nd) rfl (by first | exact .inl rfl | exact .inr rfl) (pmeth0 T.c_Floor T.m_Floor_taken (pv 0) (ok_m_Floor_taken T) (hr.mono (by decide)) pass0))
      (pss_cons (ps_set (i := 5) (sc_m_Floor_keep.nd) rfl (by first | exact .inl rfl | exact .inr rfl) (pe_slice sl_list (pe_lc (own := [("number", 6)]) (by rfl) (sc_m_Floor_keep.nd) (pi_range1 (by rfl) T.b_range (pa_cons (pe_callB call_len_seq (by rfl) T.b_len (by decide +kernel) (pa_cons (pe_fld (pv 0) rfl) pa_nil)) pa_nil)) (blkOk_by (own := [("number", 6)]) (N := n_m_Floor_keep) (sc := (defScope s_m_Floor_keep)) (by decide +kernel)) (fun _ _ _ _ _ => (pg_name (i := 6) (sc_m_Floor_keep.nd) rfl (by first | exact .inl rfl | exact .inr rfl))) (fun _ _ _ _ _ => (pts_one (pt_cmpR (opNotInK K) (pv 6) (pv 4) rfl))) (fun _ _ _ _ _ => (pv 6))) po_none (po_some (pv 3))))
      (pss_cons (ps_for (passes_of rfl) rfl (pi_enum (by rfl) T.b_enumerate (pa_cons (pv 5) pa_nil)) (pg_tup (n := 2) rfl (pgs_cons (pg_name (i := 7) (sc_m_Floor_keep.nd) rfl (by first | exact .inl rfl | exact .inr rfl)) (pgs_cons (pg_name (i := 6) (sc_m_Floor_keep.nd) rfl (by first | exact .inl rfl | exact .inr rfl)) pgs_nil))) (pss_cons (ps_set (i := 8) (sc_m_Floor_keep.nd) rfl (by first | exact .inl rfl | exact .inr rfl) (pe_callTy call_list_of (by rfl) T.b_list (by decide +kernel) (pa_cons (pe_slice sl_list (pv 2) (po_some (pe_op op_mul (pgi T.i_BLOCK) (pv 7))) (po_some (pe_op op_add (pe_op op_mul (pgi T.i_BLOCK) (pv 7)) (pgi T.i_BLOCK)))) pa_nil)))
      (pss_one (ps_asg (pe_op op_cat (pv 8) (pe_op op_rep (pe_lst (pa_cons pe_int pa_nil)) (pe_op op_sub (pgi T.i_BLOCK) (pe_callB call_len_seq (by rfl) T.b_len (by decide +kernel) (pa_cons (pv 8) pa_nil))))) (pg_sub (pe_fld (pv 0) rfl) (pv 6) set_list)))))
      (pss_cons (ps_dput (hu_of hr) (pe_fld (pv 0) rfl) (pv 1) (pv 5) rfl)
      (pss_one (ps_dput (hu_of hr) (pe_fld (pv 0) rfl) (pv 1) (pe_callB call_len_seq (by rfl) T.b_len (by decide +kernel) (pa_cons (pv 2) pa_nil)) rfl))))))))), ?_⟩
    walk_at "go"
    walk_at "st"
    refine ⟨_, .inl (.inl (.inl ha)), ws.length, by rw [List.length_map], ?_⟩
    walk_at "nx"
    walk_at "st"
    obtain ⟨pa, h4, h5⟩ := hF.pl
    refine ⟨fa.dx, _, hF.ob, fl_no _ (by decide +kernel) (by decide +kernel) (by decide +kernel), fa, n, fs, rfl, hF, fun H1 s1 => ?_⟩
    refine ⟨_, fa.dx, _, s1 _ _ hF.ob, T.c_Floor, T.na_Floor_places, _, fl_p _, fa.dp, rfl, .inl ⟨_, .inl (s1 _ _ h4)⟩, Nat.zero_le _, fun p hp => ⟨_, DGet.k (k := Sum.inr x) (Same.new hp _ _ (s1 _ _ h4)), ?_⟩⟩
    rw [valV_files fs (fun f => V.ref (pa f.nm))]
    have s2 : Same H (upd H1 p (.lst [])) := s1.trans (Same.new hp)
    have hp1 : (upd H1 p (.lst [])) p = some (.lst []) := upd_same
    generalize upd H1 p (.lst []) = G at *
    have key : ∃ (l : Nat) (a1 : Addr) (xs : List V), (Option.map (fun f => V.ref (pa f.nm)) (has fs x)).getD (V.ref p) = V.ref a1 ∧ G a1 = some (.lst xs) ∧ xs.length = l ∧ (((n : Int) - ((used fs).length : Int) + (l : Int) < ((nb ws.length : Nat) : Int)) ↔ ¬ roomy n fs x ws) := by
      unfold roomy
      have g0 := hF.ok.few
      cases e : has fs x with
      | none =>
        have g1 := freeL_len hF.ok.ud hF.ok.lt
        rw [del_id (has_none e)]
        exact ⟨0, p, [], rfl, hp1, rfl, by omega⟩
      | some f =>
        obtain ⟨hm, hx⟩ := has_mem e
        obtain ⟨l1, l2, es, ed⟩ := has_split hF.ok.nd e
        obtain ⟨ok', fnd, fdis, flen⟩ := FsOk.drop_ (es ▸ hF.ok)
        rw [← ed] at ok' flen
        rw [← es] at flen
        have g1 := freeL_len ok'.ud ok'.lt
        refine ⟨f.bl.length, pa f.nm, blV f, rfl, s2 _ _ (h5 f hm), by unfold blV; rw [List.length_map], by omega⟩
    obtain ⟨l, a1, xs, k1, k2, k3, k4⟩ := key
    refine ⟨a1, k1, xs, .inl (.inl (.inl k2)), _, rfl, ?_⟩
    rw [k3]
    by_cases hroom : roomy n fs x ws
    case neg =>
      rw [if_pos (k4.mpr hroom)]
      exact q2 hroom G s2
    rw [if_neg (fun z => k4.mp z hroom)]
    walk_at "nx"
    have hF2 := hF.same s2
    refine seq_ fun N hN => ?_
    have key : ∀ H3, FloorAt K H3 fa n (del fs x) → SameX [fa.lb, fa.dp, fa.dc] H H3 → Newly fa H H3 → N [some (.ref fa.p), some (.str x), some (.ref a), some (.int ((nb ws.length : Nat) : Int)), none, none, none, none, none] H3 := by
      intro H3 hF3 s3 w3
      apply hN
      walk_at "st"
      refine ⟨fa.dx, _, hF3.ob, fl_no _ (by decide +kernel) (by decide +kernel) (by decide +kernel), fa, n, _, rfl, hF3, fun t H4 ht s4 hl => ?_⟩
      have hF4 := hF3.same s4
      have s5 := s3.then s4
      have ha4 := s5 _ _ ha hal
      generalize hU : used (del fs x) = U at *
      walk_at "nx"
      refine seq_ fun N2 hN2 => ?_
      walk_at "rd"
      obtain ⟨ba, ct, g1, g2, g3⟩ := hF4.bk
      have n2 := hF.n2
      refine lc_ fun LP hLP => ?_
      walk_at "rd"
      refine ⟨_, fa.dx, _, hF4.ob, T.c_Floor, T.na_Floor_blocks, _, fl_b _, fa.lb, rfl, _, .inl (.inl (.inl g1)), ?_⟩
      rw [List.length_map, List.length_range]
      refine ⟨by omega, by omega, hLP _ _ ?_⟩
      rw [show Int.toNat (n : Int) = n by omega]
      refine lcf_range (fun i => !inV (.int i) (U.map fun (c : Nat) => V.int (c : Int))) V.int (by rw [sizeLine_eq]; omega) (fun _ => rfl) (fun i H5 hi s R hR => ?_) (fun i H5 hi hp s R hR => ?_) (fun D H5 hD s hl2 => ?_)
      · exact ⟨_, rfl, _, rfl, t, _, rfl, .inl (.inl (.inl (s _ _ hl))), rfl, by simp [flatV], _, rfl, hR _ (Same.refl _)⟩
      · exact ⟨_, rfl, hR _ (Same.refl _)⟩
      have e1 : ((List.range n).filter fun (i : Nat) => !inV (.int (0 + (i : Int))) (U.map fun (c : Nat) => V.int (c : Int))) = freeL n U := by
        unfold freeL
        congr 1
        funext i
        rw [Int.zero_add, inV_nat] <;> simp
      rw [e1] at hl2
      refine ⟨D, rfl, _, .inl (.inl hl2), fun r hr => ?_⟩
      rw [cut_take, ← List.map_take]
      have e2 : ((freeL n U).take (nb ws.length)).map (fun (i : Nat) => V.int (0 + (i : Int))) = ((freeL n U).take (nb ws.length)).map fun (i : Nat) => V.int (i : Int) := List.map_congr_left fun b _ => by rw [Int.zero_add]
      rw [e2]
      have hnew : newF n fs x ws = ⟨x, (freeL n U).take (nb ws.length), ws⟩ := by unfold newF; rw [hU]
      have hroom' : nb ws.length ≤ (freeL n U).length := by unfold roomy at hroom; rw [hU] at hroom; exact hroom
      rw [hnew] at q1
      have q1' := q1 hroom
      have hnl : ((freeL n U).take (nb ws.length)).length = nb ws.length := by rw [List.length_take]; omega
      have hnd : ((freeL n U).take (nb ws.length)).Nodup := (List.nodup_range.filter _).sublist (List.take_sublist _ _)
      have hnm : ∀ b ∈ (freeL n U).take (nb ws.length), b < n ∧ b ∉ U := fun b hb => freeL_mem (List.mem_of_mem_take hb)
      generalize (freeL n U).take (nb ws.length) = new at *
      have s6 : Same H4 (upd H5 r (.lst (new.map fun (i : Nat) => V.int (i : Int)))) := s.trans (Same.new hr)
      have hr0 : H r = none := (s5.then s).gone hr (hF4.same s).alive
      have hr6 : (upd H5 r (.lst (new.map fun (i : Nat) => V.int (i : Int)))) r = some (.lst (new.map fun (i : Nat) => V.int (i : Int))) := upd_same
      have hrl : r ≠ fa.lb := (ne_of_none (s _ _ g1) hr).symm
      have s7 := s5.then s6
      have w6 : Newly fa H (upd H5 r (.lst (new.map fun (i : Nat) => V.int (i : Int)))) := fun b hb => w3 b (hF3.lists_same (s4.trans s6) hb)
      have hF6 := hF4.same s6
      have ha6 := s6 _ _ ha4
      generalize upd H5 r (.lst (new.map fun (i : Nat) => V.int (i : Int))) = H6 at *
      clear s6 s5 s4 hF4 ha4 g1 g2 g3 hl hl2 hD s
      have gone : ∀ b, H6 b = none → H b = none := fun b hb => s7.gone hb hF6.alive
      obtain ⟨ba, ct, g1, g2, g3⟩ := hF6.bk
      have n1 := hF6.n1
      have hlb : ∀ {a : Addr} {xs : List Int}, H6 a = some (.lst (xs.map V.int)) → a ≠ fa.lb := fun {a xs} h => ne_of h g1 (fun z => by
        injection z with z
        obtain ⟨m, rfl⟩ : ∃ m, n = m + 1 := ⟨n - 1, by omega⟩
        rw [List.range_succ_eq_map, List.map_cons] at z
        cases xs <;> cases z)
      have halb : a ≠ fa.lb := hlb ha6
      walk_at "nx"
      walk_at "st"
      walk_at "for"
      refine ⟨⟨_, .inl (.inl hr6)⟩, ?_⟩
      walk_at "nx"
      refine lp_enum (xs := new.map fun (i : Nat) => V.int (i : Int)) (fun i σ' H' => ∃ v1 v2 v3 : Option V, σ' = [some (.ref fa.p), some (.str x), some (.ref a), some (.int ((nb ws.length : Nat) : Int)), some (.ref t), some (.ref r), v1, v2, v3] ∧ SameX [fa.lb] H6 H' ∧
          ∃ (ba' : Nat → Addr) (ct' : Nat → List Int), H' fa.lb = some (.lst ((List.range n).map fun i => V.ref (ba' i))) ∧ (∀ j, j < n → H' (ba' j) = some (.lst ((ct' j).map V.int)) ∧ ba' j ≠ fa.lb ∧ (ba' j = ba j ∨ H6 (ba' j) = none)) ∧ Cont (del fs x ++ [⟨x, new.take i, ws⟩]) n ct')
        ⟨none, none, none, rfl, SameX.refl _, ba, ct, g1, fun j hj => ⟨g2 j hj, hlb (g2 j hj), .inl rfl⟩, ⟨fun f hf k b hb => ?_, fun b hb hn => ?_⟩⟩ (fun i σ' H' _ ⟨_, _, _, _, s8, _⟩ => .inl (.inl (s8 _ _ hr6 (by simp [hrl])))) ?_ ?_
      · rcases List.mem_append.mp hf with hf | hf
        · exact g3.fl f hf k b hb
        · have : f = ⟨x, new.take 0, ws⟩ := by simpa using hf
          subst this
          simp at hb
      · refine g3.zr b hb fun q => hn ?_
        rw [used_app]
        exact List.mem_append_left _ q
      · rintro i z TT σ' H' hi hz hT ⟨v1, v2, v3, rfl, s8, ba', ct', k1, k2, k3⟩ B hB
        refine tgt2 (hB _ _ fun N3 hN3 => ?_)
        rw [List.getElem?_map] at hz
        obtain ⟨b, hb, rfl⟩ := Option.map_eq_some_iff.mp hz
        obtain ⟨hbn, hbU⟩ := hnm b (List.mem_of_getElem? hb)
        walk_at "st"
        refine ⟨_, .inl (.inl (((Same.new hT) _ _ (s8 _ _ ha6 (by simp [halb]))))), fun p hp => ⟨_, .inl (.inl (.inl upd_same)), fun l hl => ?_⟩⟩
        have ec : cutV (ws.map V.int) (some (16 * (i : Int))) (some (16 * (i : Int) + 16)) = ((ws.drop (16 * i)).take 16).map V.int := by
          have := cut_mid (ws.map V.int) (16 * i) (16 * i + 16)
          rw [show (((16 * i : Nat) : Int)) = 16 * (i : Int) by omega, show (((16 * i + 16 : Nat) : Int)) = 16 * (i : Int) + 16 by omega] at this
          rw [this, ← List.map_drop, ← List.map_take, show 16 * i + 16 - 16 * i = 16 by omega]
        rw [ec] at hl ⊢
        have s9 : Same H' (upd (upd (upd H' TT (HO.tup [V.int (i : Int), V.int (b : Int)])) p (HO.lst (((ws.drop (16 * i)).take 16).map V.int))) l (HO.lst (((ws.drop (16 * i)).take 16).map V.int))) := ((Same.new hT).trans (Same.new hp)).trans (Same.new hl)
        have hl9 : (upd (upd (upd H' TT (HO.tup [V.int (i : Int), V.int (b : Int)])) p (HO.lst (((ws.drop (16 * i)).take 16).map V.int))) l (HO.lst (((ws.drop (16 * i)).take 16).map V.int))) l = some (.lst (((ws.drop (16 * i)).take 16).map V.int)) := upd_same
        generalize upd (upd (upd H' TT (HO.tup [V.int (i : Int), V.int (b : Int)])) p (HO.lst (((ws.drop (16 * i)).take 16).map V.int))) l (HO.lst (((ws.drop (16 * i)).take 16).map V.int)) = G9 at *
        walk_at "nx"
        walk_at "rd"
        refine ⟨Nat.le_trans (show 1 ≤ 16 by decide) (by decide), fun r1 hr1 => ⟨_, .inl (.inl (.inl (Same.new hr1 _ _ hl9))), _, upd_same, ?_⟩⟩
        have hcl : (((ws.drop (16 * i)).take 16).map V.int).length ≤ 16 := by rw [List.length_map, List.length_take]; omega
        have ek : ∃ m : Nat, m ≤ 16 ∧ (16 : Int) - (((((ws.drop (16 * i)).take 16).map V.int).length : Nat) : Int) = (m : Int) ∧ m = 16 - ((ws.drop (16 * i)).take 16).length := ⟨16 - (((ws.drop (16 * i)).take 16).map V.int).length, by omega, by omega, by rw [List.length_map]⟩
        obtain ⟨m, m1, m2, m3⟩ := ek
        rw [m2, show Int.toNat (m : Int) = m by omega]
        refine ⟨by omega, by omega, by rw [sizeLine_eq]; simp; omega, fun r2 hr2 => ?_⟩
        have erep : (List.replicate m [V.int 0]).flatten = (List.replicate m (0 : Int)).map V.int := by simp
        rw [erep]
        refine ⟨_, Same.new hr2 _ _ (Same.new hr1 _ _ hl9), _, upd_same, by rw [sizeLine_eq, List.length_map, List.length_map, List.length_replicate, List.length_take]; omega, fun r3 hr3 => ?_⟩
        have ech : ((ws.drop (16 * i)).take 16).map V.int ++ (List.replicate m (0 : Int)).map V.int = (chunk ws i).map V.int := by rw [← List.map_append, m3] <;> rfl
        rw [ech]
        have s10 : Same H' (upd (upd (upd G9 r1 (.lst [V.int 0])) r2 (.lst ((List.replicate m (0 : Int)).map V.int))) r3 (.lst ((chunk ws i).map V.int))) := ((s9.trans (Same.new hr1)).trans (Same.new hr2)).trans (Same.new hr3)
        have hu0 : H' r3 = none := ((s9.trans (Same.new hr1)).trans (Same.new hr2)).free hr3
        have hu10 : (upd (upd (upd G9 r1 (.lst [V.int 0])) r2 (.lst ((List.replicate m (0 : Int)).map V.int))) r3 (.lst ((chunk ws i).map V.int))) r3 = some (.lst ((chunk ws i).map V.int)) := upd_same
        generalize upd (upd (upd G9 r1 (.lst [V.int 0])) r2 (.lst ((List.replicate m (0 : Int)).map V.int))) r3 (.lst ((chunk ws i).map V.int)) = G at *
        have npl : fa.p ≠ fa.lb := ne_of hF6.ob g1 (by intro z; cases z)
        refine ⟨_, fa.dx, _, s10 _ _ (s8 _ _ hF6.ob (by simp [npl])), T.c_Floor, T.na_Floor_blocks, _, fl_b _, fa.lb, rfl, _, s10 _ _ k1, b, ?_, hN3 _ _ ⟨_, _, _, rfl, fun c o hc hn => ?_, fun j => if j = b then r3 else ba' j, fun j => if j = b then chunk ws i else ct' j, ?_, fun j hj => ?_, ⟨fun f hf k b' hb' => ?_, fun b' hb' hn' => ?_⟩⟩⟩
        · rw [List.length_map, List.length_range]
          unfold ixN
          rw [if_pos (by omega), if_pos (by omega)] <;> simp
        · have hcl : c ≠ fa.lb := by simpa using hn
          rw [upd_ne hcl]
          exact s10 _ _ (s8 _ _ hc hn)
        · rw [upd_same]
          congr 2
          apply List.ext_getElem?
          intro k
          rw [List.getElem?_set, List.getElem?_map, List.getElem?_map]
          by_cases hk : k < n
          · rw [List.getElem?_range hk, List.length_map, List.length_range]
            by_cases hkb : b = k
            · rw [if_pos hkb, if_pos hbn]
              show _ = some (V.ref (if k = b then r3 else ba' k))
              rw [if_pos hkb.symm]
            · rw [if_neg hkb]
              show _ = some (V.ref (if k = b then r3 else ba' k))
              rw [if_neg (fun q => hkb q.symm)] <;> rfl
          · rw [List.getElem?_eq_none (by rw [List.length_range]; omega), if_neg (fun q => hk (by omega))] <;> rfl
        · have hul : r3 ≠ fa.lb := fun q => by rw [q, k1] at hu0; cases hu0
          obtain ⟨e1, e2, e3⟩ := k2 j hj
          show (upd G fa.lb _) (if j = b then r3 else ba' j) = some (.lst ((if j = b then chunk ws i else ct' j).map V.int)) ∧ (if j = b then r3 else ba' j) ≠ fa.lb ∧ ((if j = b then r3 else ba' j) = ba j ∨ H6 (if j = b then r3 else ba' j) = none)
          by_cases hjb : j = b
          · rw [if_pos hjb, if_pos hjb, upd_ne hul]
            exact ⟨hu10, hul, .inr (s8.gone hu0 (by simp [k1]))⟩
          · rw [if_neg hjb, if_neg hjb, upd_ne e2]
            exact ⟨s10 _ _ e1, e2, e3⟩
        · show (if b' = b then chunk ws i else ct' b') = _
          rcases List.mem_append.mp hf with hf1 | hf1
          · have : b' ≠ b := fun q => hbU (by rw [← hU, ← q]; exact List.mem_flatMap.mpr ⟨f, hf1, List.mem_of_getElem? hb'⟩)
            rw [if_neg this]
            exact k3.fl f (List.mem_append_left _ hf1) k b' hb'
          · have : f = ⟨x, new.take (i + 1), ws⟩ := by simpa using hf1
            subst this
            have hb2 : (new.take (i + 1))[k]? = some b' := hb'
            have hk : k < i + 1 := by
              have := (List.getElem?_eq_some_iff.mp hb2).1
              rw [List.length_take] at this
              omega
            rw [List.getElem?_take_of_lt hk] at hb2
            by_cases hki : k = i
            · rw [hki, hb] at hb2
              cases hb2
              rw [if_pos rfl, hki]
            · have hne : b' ≠ b := fun q => hki (by
                rw [q] at hb2
                exact (List.getElem?_inj (List.getElem?_eq_some_iff.mp hb2).1 hnd).mp (hb2.trans hb.symm))
              rw [if_neg hne]
              refine k3.fl ⟨x, new.take i, ws⟩ (List.mem_append_right _ (by simp)) k b' ?_
              show (new.take i)[k]? = _
              rw [List.getElem?_take_of_lt (by omega)]
              exact hb2
        · show (if b' = b then chunk ws i else ct' b') = _
          have h1 : b' ≠ b := fun q => hn' (by
            rw [used_app, used_cons]
            refine List.mem_append_right _ (List.mem_append_left _ ?_)
            show b' ∈ new.take (i + 1)
            rw [take_succ hb, q]; simp)
          rw [if_neg h1]
          refine k3.zr b' hb' fun q => hn' ?_
          rw [used_app, used_cons] at q ⊢
          rcases List.mem_append.mp q with q | q
          · exact List.mem_append_left _ q
          · rcases List.mem_append.mp q with q | q
            · refine List.mem_append_right _ (List.mem_append_left _ ?_)
              show b' ∈ new.take (i + 1)
              rw [take_succ hb]
              exact List.mem_append_left _ q
            · cases q
      · rintro σ' H' ⟨v1, v2, v3, rfl, s8, ba', ct', k1, k2, k3⟩
        walk_at "nx"
        rw [List.length_map, List.take_of_length_le (Nat.le_refl _)] at k3
        have h4' := hF6.pl.choose_spec
        generalize hF6.pl.choose = pa6 at *
        obtain ⟨h60, h61⟩ := h4'
        have ndl : fa.dp ≠ fa.lb := ne_of h60 g1 (by intro z; cases z)
        have ncl : fa.dc ≠ fa.lb := ne_of hF6.ct g1 (by intro z; cases z)
        have npl : fa.p ≠ fa.lb := ne_of hF6.ob g1 (by intro z; cases z)
        have npd : fa.p ≠ fa.dp := ne_of hF6.ob h60 (by intro z; cases z)
        have npc : fa.p ≠ fa.dc := ne_of hF6.ob hF6.ct (by intro z; cases z)
        have ndc := hF6.ne
        have hdel : (del fs x).length < 4096 := Nat.lt_of_le_of_lt (List.length_filter_le _ _) hfl
        walk_at "st"
        refine ⟨_, fa.dx, _, s8 _ _ hF6.ob (by simp [npl]), T.c_Floor, T.na_Floor_places, _, fl_p _, fa.dp, rfl, _, DPut.k (k := Sum.inr x) (s8 _ _ h60 (by simp [ndl])) (by rw [List.length_map, sizeLine_eq]; omega), ?_⟩
        have hno : ∀ f ∈ del fs x, f.nm ≠ x := fun f hf => of_decide_eq_true (List.mem_filter.mp hf).2
        rw [putK_files (v := fun f => V.ref (pa6 f.nm)) hno]
        walk_at "nx"
        walk_at "rd"
        simp only [List.mem_cons, List.not_mem_nil, or_false, not_or] at hal
        have ha8 := s8 _ _ ha6 (by simp [halb])
        have hob8 := s8 _ _ hF6.ob (by simp [npl])
        have hdc8 := s8 _ _ hF6.ct (by simp [ncl])
        refine ⟨_, .inl (.inl (.inl ((upd_ne hal.2.1).trans ha8))), _, fa.dx, _, (upd_ne npd).trans hob8, T.c_Floor, T.na_Floor_counts, _, fl_c _, fa.dc, rfl, _, DPut.k (k := Sum.inr x) ((upd_ne ndc.symm).trans hdc8) (by rw [List.length_map, sizeLine_eq]; omega), ?_⟩
        rw [putK_files (v := fun f => V.int f.ws.length) hno, List.length_map]
        have hrd : r ≠ fa.dp := ne_of hr6 h60 (by intro z; cases z)
        have hrc : r ≠ fa.dc := ne_of hr6 hF6.ct (by intro z; cases z)
        have lst_keep : ∀ {c : Addr} {xs : List V}, H' c = some (.lst xs) → (upd (upd H' fa.dp (.dK (List.map (fun f => (Sum.inr f.nm, V.ref (pa6 f.nm))) (del fs x) ++ [(Sum.inr x, V.ref r)]))) fa.dc (.dK (List.map (fun f => (Sum.inr f.nm, V.int f.ws.length)) (del fs x) ++ [(Sum.inr x, V.int ws.length)]))) c = some (.lst xs) := fun {c xs} h => by
          rw [upd_ne (ne_of h hdc8 (by intro z; cases z)), upd_ne (ne_of h (s8 _ _ h60 (by simp [ndl])) (by intro z; cases z))]
          exact h
        refine q1' _ ⟨?_, ⟨ba', ct', lst_keep k1, fun j hj => lst_keep (k2 j hj).1, k3⟩, ⟨fun y => if y = x then r else pa6 y, ?_, fun g hg => ?_⟩, ?_, ?_, hF.n1, hF.n2, ndc⟩ (fun c o hc hn => ?_) (fun b hbl => ?_)
        · rw [upd_ne npc, upd_ne npd]; exact hob8
        · rw [upd_ne ndc, upd_same, List.map_append]
          have z1 : List.map (fun f : File => ((Sum.inr f.nm : Key), V.ref (if f.nm = x then r else pa6 f.nm))) (del fs x) = List.map (fun f => (Sum.inr f.nm, V.ref (pa6 f.nm))) (del fs x) := List.map_congr_left fun g hg => by rw [if_neg (hno g hg)]
          have z2 : List.map (fun f : File => ((Sum.inr f.nm : Key), V.ref (if f.nm = x then r else pa6 f.nm))) [⟨x, new, ws⟩] = [((Sum.inr x : Key), V.ref r)] := by
            show [((Sum.inr x : Key), V.ref (if x = x then r else _))] = _
            rw [if_pos rfl]
          dsimp only
          rw [z1, z2]
        · rcases List.mem_append.mp hg with hg | hg
          · dsimp only
            rw [if_neg (hno g hg)]
            refine lst_keep (s8 _ _ (h61 g hg) ?_)
            have h7 : H6 (pa6 g.nm) = some (.lst ((g.bl.map fun (b : Nat) => (b : Int)).map V.int)) := by rw [h61 g hg]; unfold blV; rw [List.map_map] <;> rfl
            simp [hlb h7]
          · have : g = ⟨x, new, ws⟩ := by simpa using hg
            subst this
            dsimp only
            rw [if_pos rfl]
            exact lst_keep (s8 _ _ hr6 (by simp [hrl]))
        · rw [upd_same, List.map_append] <;> rfl
        · refine FsOk.snoc hF6.ok hno hnd (fun b hb => ?_) hnl
          rw [hU]
          exact hnm b hb
        · simp only [List.mem_cons, List.not_mem_nil, or_false, not_or] at hn
          rw [upd_ne hn.2.2, upd_ne hn.2.1]
          exact s8 _ _ (s7 _ _ hc (by simp [hn])) (by simp [hn])
        · rcases hbl with ⟨xs, h1, h2⟩ | ⟨kvs, k, h1, h2⟩
          · rw [lst_keep k1] at h1
            cases h1
            obtain ⟨j, hj, z⟩ := List.mem_map.mp h2
            cases z
            rcases (k2 j (List.mem_range.mp hj)).2.2 with z | z
            · exact w6 _ (.inl ⟨_, g1, List.mem_map.mpr ⟨j, hj, by rw [z]⟩⟩)
            · exact .inr (gone _ z)
          · rw [upd_ne ndc, upd_same] at h1
            cases h1
            rcases List.mem_append.mp h2 with h2 | h2
            · obtain ⟨g, hg, z⟩ := List.mem_map.mp h2
              cases z
              exact w6 _ (.inr ⟨_, _, h60, List.mem_map.mpr ⟨g, hg, rfl⟩⟩)
            · have z : (k, V.ref b) = ((Sum.inr x : Key), V.ref r) := by simpa using h2
              cases z
              exact .inr hr0
    walk_at "if"
    refine ⟨_, fa.dx, _, hF2.ob, T.c_Floor, T.na_Floor_places, _, fl_p _, fa.dp, rfl, _, DGet.k (k := Sum.inr x) (s2 _ _ h4), ?_⟩
    rw [valV_files fs (fun f => V.ref (pa f.nm))]
    cases e : has fs x with
    | none =>
      rw [if_neg (by simp)]
      walk_at "nx"
      walk_at "rd"
      exact key _ (by rw [del_id (has_none e)]; exact hF2) (SameX.of s2) (fun b hb => .inl (hF.lists_same s2 hb))
    | some f =>
      rw [if_pos (by simp)]
      walk_at "nx"
      walk_at "rd"
      refine ⟨fa.dx, _, hF2.ob, fl_no _ (by decide +kernel) (by decide +kernel) (by decide +kernel), fa, n, fs, x, rfl, hF2, fun f H3 _ hF3 s3 w3 => ?_, fun z => (by rw [e] at z; cases z)⟩
      refine key H3 hF3 ((SameX.of s2).trans s3) fun b hb => ?_
      rcases w3 b hb with z | z
      · exact .inl (hF.lists_same s2 z)
      · exact .inr (s2.free z)
end

section
variable {P : Program} {w : World} {K : PySem.W.Frag} {mg : Str → Option Value} {base : Heap}
theorem isx_ {K : PySem.W.Frag} {H : Hp} {a D : Addr} {c : V} {u : Value} {b : Bool} {Q : VK} (C : ExcC K D) (ha : H a = some (ExV (.ref D) a)) (hk : PySem.W.kitOne K (.ref D) u = some b) (hc : ClsV c u) (q : Q (.bl b) H) : rIsx K [.ref a, c] H Q := ⟨a, D, c, u, b, rfl, ha, hc, C, hk, q⟩
abbrev s_f_law_refused : Stmt := top 21
abbrev n_f_law_refused : List PySem.Str := ["_law_caught", "_law_which"]
abbrev p_f_law_refused : List PySem.Str := ["_law_caught", "_law_which"]
theorem sc_f_law_refused : FnScope n_f_law_refused p_f_law_refused (defScope s_f_law_refused) := ⟨rfl, rfl, rfl, by decide +kernel, rfl, by decide +kernel, by decide +kernel⟩
def sp_refused (K : PySem.W.Frag) : Sp := fun vs H Q _ => ∃ (c : Addr) (D x : Str), vs = [.ref c, .str x] ∧ H c = some (ExV (.ref (He.ga K D)) c) ∧ ((D = "NoRoom" ∧ x = "room") ∨ (D = "NoFile" ∧ x = "file")) ∧ ∀ H', Same H H' → Q (.bl true) H'
theorem ok_f_law_refused (T : En K mg) : Fn P w K mg base CX0 1 "_law_refused" p_f_law_refused (sp_refused K) := by
  refine Fn.mk_ T.d__law_refused T.g__law_refused (fun _ _ _ _ _ _ us hl => match us, hl with | [_, _], _ => rfl) fun F => F.ok sc_f_law_refused (fun vs H Q E h => ?_) (fun cdv A outer s H vs Q E hr h => ?_)
  · obtain ⟨c, D, x, rfl, _⟩ := h; rfl
  · obtain ⟨c, D, x, rfl, hc, hD, q⟩ := h
    refine ⟨_, PSs.nox ((pss_cons (ps_if (PW.pt (pw_or (pt_not (pt_val (pe_callB call_isx (by rfl) T.b_isinstance (by decide +kernel) (pa_cons (pv 0) (pa_cons (pgr T.g_TownError) pa_nil))))) (pw_or1 (pt_not (pt_val (pe_callB call_isx (by rfl) T.b_isinstance (by decide +kernel) (pa_cons (pv 0) (pa_cons (pgt (n := "ValueError") T.b_ValueError (by decide +kernel)) pa_nil)))))))) (pss_one (ps_ret pe_bl)) pss_nil)
      (pss_cons (ps_if (pt_val (pe_callB call_isxT (by rfl) T.b_isinstance (by decide +kernel) (pa_cons (pv 0) (pa_cons (pe_tup (pa_cons (pgr T.g_BadKind) (pa_cons (pgr T.g_BadLine) (pa_cons (pgr T.g_BadRow) (pa_cons (pgr T.g_GivenTwice) (pa_cons (pgr T.g_Lacking) (pa_cons (pgr T.g_TooLong) pa_nil))))))) pa_nil)))) (pss_one (ps_ret pe_bl)) pss_nil)
      (pss_one (ps_ret (pe_cmpR (op_eqD (hr0 hr)) (pe_lst (pa_cons (pe_callB call_isx (by rfl) T.b_isinstance (by decide +kernel) (pa_cons (pv 0) (pa_cons (pgr T.g_NoFile) pa_nil))) (pa_cons (pe_callB call_isx (by rfl) T.b_isinstance (by decide +kernel) (pa_cons (pv 0) (pa_cons (pgr T.g_NoRoom) pa_nil))) pa_nil))) (pe_lst (pa_cons (pe_cmpR op_eq (pv 1) pe_str (nomark _)) (pa_cons (pe_cmpR op_eq (pv 1) pe_str (nomark _)) pa_nil))) (nomark _))))))), ?_⟩
    walk_at "go"
    have key : ∃ b1 b2 : Bool, ExcC K (He.ga K D) ∧ PySem.W.kitOne K (.ref (He.ga K D)) (.ref (He.ga K "TownError")) = some true ∧ PySem.W.kitOne K (.ref (He.ga K D)) (.type "ValueError") = some true ∧
        PySem.W.kitAny K (.ref (He.ga K D)) [.ref (He.ga K "BadKind"), .ref (He.ga K "BadLine"), .ref (He.ga K "BadRow"), .ref (He.ga K "GivenTwice"), .ref (He.ga K "Lacking"), .ref (He.ga K "TooLong")] = some false ∧
        PySem.W.kitOne K (.ref (He.ga K D)) (.ref (He.ga K "NoFile")) = some b1 ∧ PySem.W.kitOne K (.ref (He.ga K D)) (.ref (He.ga K "NoRoom")) = some b2 ∧ decide (x = "file") = b1 ∧ decide (x = "room") = b2 := by
      rcases hD with ⟨rfl, rfl⟩ | ⟨rfl, rfl⟩
      · exact ⟨_, _, T.ec_NoRoom, T.is_NoRoom_TownError, T.is_NoRoom_ValueError, T.ia_NoRoom_0, T.is_NoRoom_NoFile, T.is_NoRoom_NoRoom, by decide +kernel, by decide +kernel⟩
      · exact ⟨_, _, T.ec_NoFile, T.is_NoFile_TownError, T.is_NoFile_ValueError, T.ia_NoFile_0, T.is_NoFile_NoFile, T.is_NoFile_NoRoom, by decide +kernel, by decide +kernel⟩
    obtain ⟨b1, b2, C, k1, k2, k3, k4, k5, k6, k7⟩ := key
    walk_at "st"
    refine isx_ C hc k1 (.own _) ⟨_, rfl, ?_⟩
    rw [if_neg (by simp)]
    refine isx_ C hc k2 (.ty _) ⟨_, rfl, ?_⟩
    rw [if_neg (by simp)]
    walk_at "nx"
    walk_at "st"
    refine ⟨Nat.le_trans (show 6 ≤ 16 by decide) (by decide), fun t ht => ⟨c, _, t, _, _, _, rfl, Same.new ht _ _ hc, upd_same, .cons (.own _) (.cons (.own _) (.cons (.own _) (.cons (.own _) (.cons (.own _) (.cons (.own _) .nil))))), C, k3, _, rfl, ?_⟩⟩
    rw [if_neg (by simp)]
    have s1 : Same H _ := Same.new (o := .tup [V.ref (He.ga K "BadKind"), V.ref (He.ga K "BadLine"), V.ref (He.ga K "BadRow"), V.ref (He.ga K "GivenTwice"), V.ref (He.ga K "Lacking"), V.ref (He.ga K "TooLong")]) ht
    walk_at "nx"
    walk_at "rd"
    refine isx_ C (s1 _ _ hc) k4 (.own _) (isx_ C (s1 _ _ hc) k5 (.own _) ⟨Nat.le_trans (show 2 ≤ 16 by decide) (by decide), fun p hp => ⟨Nat.le_trans (show 2 ≤ 16 by decide) (by decide), fun r hr2 => ?_⟩⟩)
    have s2 := (s1.trans (Same.new (o := .lst [V.bl b1, V.bl b2]) hp)).trans (Same.new (o := .lst [V.bl (decide (x = "file")), V.bl (decide (x = "room"))]) hr2)
    rw [k6, k7] at s2 ⊢
    refine eqD_ (x := [b1, b2]) (y := [b1, b2]) (is_bls (.inl (.inl (Same.new hr2 _ _ upd_same)))) (is_bls (.inl (.inl upd_same))) (good_bls _) (good_bls _) (by decide) ?_
    rw [decide_eq_true rfl]
    exact q _ s2
end

/-- what a block holds -/
def contOf (fs : List File) (i : Nat) : List Int := match fs.find? (fun f => decide (i ∈ f.bl)) with
  | some f => chunk f.ws (f.bl.idxOf i)
  | none => zeros
theorem contOf_eq {fs : List File} {i : Nat} {xs : List Int} (h1 : ∀ f ∈ fs, ∀ k, f.bl[k]? = some i → xs = chunk f.ws k) (h2 : i ∉ used fs → xs = zeros) : xs = contOf fs i := by
  unfold contOf
  cases e : fs.find? (fun f => decide (i ∈ f.bl)) with
  | some f =>
    have hm := List.mem_of_find?_eq_some e
    have hi : i ∈ f.bl := of_decide_eq_true (List.find?_some (p := fun f : File => decide (i ∈ f.bl)) e)
    have hk := List.idxOf_lt_length_of_mem hi
    exact h1 f hm _ (by rw [List.getElem?_eq_getElem hk, List.getElem_idxOf])
  | none =>
    refine h2 fun q => ?_
    obtain ⟨f, hf, hi⟩ := List.mem_flatMap.mp q
    exact List.find?_eq_none.mp e f hf (decide_eq_true hi)
theorem chunk_zero_len (fs : List File) (i : Nat) : (contOf fs i).length = 16 := by
  unfold contOf
  split
  · exact chunk_len _ _
  · rfl
theorem two_facts {fs : List File} {f1 f2 : File} (h : fs = [f1, f2] ∨ fs = [f2, f1]) (m1 : f1.nm = "one") (m2 : f2.nm = "two") : has fs "one" = some f1 ∧ has fs "two" = some f2 ∧ fs.length = 2 := by
  have h1 : ¬ (("two" : Str) = "one") := by decide +kernel
  have h2 : ¬ (("one" : Str) = "two") := by decide +kernel
  rcases h with rfl | rfl
  · refine ⟨?_, ?_, rfl⟩
    · unfold has; rw [List.find?_cons, m1, decide_eq_true rfl]
    · unfold has; rw [List.find?_cons, m1, decide_eq_false h2, List.find?_cons, m2, decide_eq_true rfl]
  · refine ⟨?_, ?_, rfl⟩
    · unfold has; rw [List.find?_cons, m2, decide_eq_false h1, List.find?_cons, m1, decide_eq_true rfl]
    · unfold has; rw [List.find?_cons, m2, decide_eq_true rfl]
theorem two_names {fs : List File} {f1 f2 : File} (h : fs = [f1, f2] ∨ fs = [f2, f1]) (m1 : f1.nm = "one") (m2 : f2.nm = "two") {ys : List Str} (hy : ys.Perm (fs.map (·.nm))) (hs : sortedS ys = true) : ys = [("one" : Str), "two"] := by
  have hp : ys.Perm [("one" : Str), "two"] := by
    rcases h with rfl | rfl
    · rw [show [f1, f2].map (·.nm) = [f1.nm, f2.nm] from rfl, m1, m2] at hy
      exact hy
    · rw [show [f2, f1].map (·.nm) = [f2.nm, f1.nm] from rfl, m1, m2] at hy
      exact hy.trans (.swap _ _ _)
  have hn : ys.Nodup := hp.nodup_iff.mpr (by decide +kernel)
  match ys, hp.length_eq, hs, hn with
  | [a, b], _, hs, hn =>
    have ha : a ∈ [("one" : Str), "two"] := hp.mem_iff.mp (by simp)
    have hb : b ∈ [("one" : Str), "two"] := hp.mem_iff.mp (by simp)
    have hab : a ≠ b := by
      rw [List.nodup_cons] at hn
      intro e
      exact hn.1 (by rw [e]; simp)
    simp only [List.mem_cons, List.not_mem_nil, or_false] at ha hb
    rcases ha with rfl | rfl
    · rcases hb with rfl | rfl
      · exact absurd rfl hab
      · rfl
    · rcases hb with rfl | rfl
      · exact absurd hs (by decide +kernel)
      · exact absurd rfl hab
section
variable {P : Program} {w : World} {K : PySem.W.Frag} {mg : Str → Option Value} {base : Heap}
abbrev s_f_law_kept : Stmt := top 23
abbrev n_f_law_kept : List PySem.Str := ["_law_floor", "_law_words", "_law_caught", "e"]
abbrev p_f_law_kept : List PySem.Str := ["_law_floor", "_law_words"]
theorem sc_f_law_kept : FnScope n_f_law_kept p_f_law_kept (defScope s_f_law_kept) := ⟨rfl, rfl, rfl, by decide +kernel, rfl, by decide +kernel, by decide +kernel⟩
def sp_kept (K : PySem.W.Frag) : Sp := fun vs H Q _ => ∃ (A : FA) (n : Nat) (fs : List File) (a : Addr) (ws : List Int), vs = [.ref A.p, .ref a] ∧ FloorAt K H A n fs ∧ fs.length < 4096 ∧ H a = some (.lst (ws.map V.int)) ∧ a ∉ [A.lb, A.dp, A.dc] ∧
  (roomy n fs "one" ws → ∀ H', FloorAt K H' A n (del fs "one" ++ [newF n fs "one" ws]) → SameX [A.lb, A.dp, A.dc] H H' → Newly A H H' → Q .non H') ∧
  (¬ roomy n fs "one" ws → ∀ H' c, Same H H' → H' c = some (ExV (.ref (He.ga K "NoRoom")) c) → Q (.ref c) H')
theorem ok_f_law_kept (T : En K mg) : Fn P w K mg base CX0 4 "_law_kept" p_f_law_kept (sp_kept K) := by
  refine Fn.mk_ T.d__law_kept T.g__law_kept (fun _ _ _ _ _ _ us hl => match us, hl with | [_, _], _ => rfl) fun F => F.ok sc_f_law_kept (fun vs H Q E h => ?_) (fun cdv A outer s H vs Q E hr h => ?_)
  · obtain ⟨A, n, fs, a, ws, rfl, _⟩ := h; rfl
  · obtain ⟨fa, n, fs, a, ws, rfl, hF, hfl, ha, hal, q1, q2⟩ := h
    refine ⟨_, PSs.nox ((pss_cons (ps_set (i := 2) (sc_f_law_kept.nd) rfl (by first | exact .inl rfl | exact .inr rfl) pe_non)
      (pss_cons (ps_try_kp (i := 3) rfl rfl (sc_f_law_kept.nd) rfl rfl ⟨rfl, by decide, .inl T.g_TownError⟩ rfl takes_none5 (by intro W pn xe tk pk; exact (pss_one (ps_expr (pmethS (fun σ => passAt tk σ) T.c_Floor T.m_Floor_keep (pv 0) (ok_m_Floor_keep T) (hr.mono (by decide)) (pa_cons pe_str (pa_cons (pv 1) pa_nil)))))) (by intro a oe cls d pn hz hf; exact (pss_one (ps_set (i := 2) (sc_f_law_kept.nd) rfl (by first | exact .inl rfl | exact .inr rfl) (pv 3)))))
      (pss_one (ps_ret (pv 2)))))), ?_⟩
    walk_at "go"
    walk_at "st"
    walk_at "nx"
    refine seq_ fun N hN => ?_
    walk_at "rd"
    unfold tMethS
    walk_at "rd"
    refine ⟨fa.dx, _, hF.ob, fl_no _ (by decide +kernel) (by decide +kernel) (by decide +kernel), fa, n, fs, "one", a, ws, rfl, hF, hfl, ha, hal, fun hr H' hF' s' w' => ?_, fun hr H' s' => ?_⟩
    · apply hN
      walk_at "rd"
      exact q1 hr H' hF' s' w'
    · refine ⟨true, T.xm_NoRoom_TownError, fun _ => ⟨rfl, fun c hc => ?_⟩, fun z => (by cases z)⟩
      walk_at "rd"
      intro hc2
      apply hN
      walk_at "rd"
      exact q2 hr _ c (s'.trans (Same.new hc)) upd_same
abbrev s_f_law_all : Stmt := top 22
abbrev n_f_law_all : List PySem.Str := ["_law_floor", "_law_blocks", "_law_told", "_law_number"]
abbrev p_f_law_all : List PySem.Str := ["_law_floor", "_law_blocks"]
theorem sc_f_law_all : FnScope n_f_law_all p_f_law_all (defScope s_f_law_all) := ⟨rfl, rfl, rfl, by decide +kernel, rfl, by decide +kernel, by decide +kernel⟩
def sp_all (K : PySem.W.Frag) : Sp := fun vs H Q _ => ∃ (A : FA) (n : Nat) (fs : List File) (f1 f2 : File), vs = [.ref A.p, .int (n : Int)] ∧ FloorAt K H A n fs ∧ (fs = [f1, f2] ∨ fs = [f2, f1]) ∧ f1.nm = "one" ∧ f2.nm = "two" ∧
  ∀ (p a0 a2 a3 a4 a5 : Addr) (srt : List Int) (us : List V) H', H p = none → Same H H' → H' p = some (.lst ([.ref a0, .int ((n : Int) - ((used fs).length : Int)), .ref a2, .ref a3, .ref a4, .ref a5] ++ us)) →
    H' a0 = some (.lst ([("one" : Str), "two"].map V.str)) → H' a2 = some (.lst (f1.ws.map V.int)) → H' a3 = some (.lst (f2.ws.map V.int)) → H' a4 = some (.lst (blV f2)) → H' a5 = some (.lst (srt.map V.int)) → srt.Perm (f1.bl.map fun (c : Nat) => (c : Int)) → srt.Pairwise (· ≤ ·) →
    us.length = n → (∀ i, i < n → ∃ u, us[i]? = some (.ref u) ∧ H' u = some (.lst ((contOf fs i).map V.int))) → Q (.ref p) H'
theorem ok_f_law_all (T : En K mg) : Fn P w K mg base CX0 4 "_law_all" p_f_law_all (sp_all K) := by
  refine Fn.mk_ T.d__law_all T.g__law_all (fun _ _ _ _ _ _ us hl => match us, hl with | [_, _], _ => rfl) fun F => F.ok sc_f_law_all (fun vs H Q E h => ?_) (fun cdv A outer s H vs Q E hr h => ?_)
  · obtain ⟨A, n, fs, f1, f2, rfl, _⟩ := h; rfl
  · obtain ⟨fa, n, fs, f1, f2, rfl, hF, hfs, m1, m2, q⟩ := h
    refine ⟨_, PSs.nox ((pss_cons (ps_set (i := 2) (sc_f_law_all.nd) rfl (by first | exact .inl rfl | exact .inr rfl) (pe_lst (pa_cons (pmeth0 T.c_Floor T.m_Floor_names (pv 0) (ok_m_Floor_names T) (hr.mono (by decide)) pass0) (pa_cons (pmeth0 T.c_Floor T.m_Floor_free (pv 0) (ok_m_Floor_free T) (hr.mono (by decide)) pass0) (pa_cons (pmeth T.c_Floor T.m_Floor_words_of (pv 0) (ok_m_Floor_words_of T) (hr.mono (by decide)) passL (pa_cons pe_str pa_nil)) (pa_cons (pmeth T.c_Floor T.m_Floor_words_of (pv 0) (ok_m_Floor_words_of T) (hr.mono (by decide)) passL (pa_cons pe_str pa_nil)) (pa_cons (pmeth T.c_Floor T.m_Floor_blocks_of (pv 0) (ok_m_Floor_blocks_of T) (hr.mono (by decide)) passL (pa_cons pe_str pa_nil)) pa_nil)))))))
      (pss_one (ps_ret (pe_op op_cat (pe_op op_cat (pv 2) (pe_lst (pa_cons (pe_callB cr_sortedI (by rfl) T.b_sorted (by decide +kernel) (pa_cons (pmeth T.c_Floor T.m_Floor_blocks_of (pv 0) (ok_m_Floor_blocks_of T) (hr.mono (by decide)) passL (pa_cons pe_str pa_nil)) pa_nil)) pa_nil))) (pe_lc (own := [("_law_number", 3)]) (by rfl) (sc_f_law_all.nd) (pi_range1 (by rfl) T.b_range (pa_cons (pv 1) pa_nil)) (blkOk_by (own := [("_law_number", 3)]) (N := n_f_law_all) (sc := (defScope s_f_law_all)) (by decide +kernel)) (fun _ _ _ _ _ => (pg_name (i := 3) (sc_f_law_all.nd) rfl (by first | exact .inl rfl | exact .inr rfl))) (fun _ _ _ _ _ => pts_nil) (by intro _ _ _ _ _; exact (pmethK T.c_Floor T.m_Floor_block (pv 0) (ok_m_Floor_block T) (hr.mono (by decide)) pass0 (pa_cons (pv 3) pa_nil))))))))), ?_⟩
    walk_at "go"
    walk_at "st"
    obtain ⟨x1, x2, hl2⟩ := two_facts hfs m1 m2
    refine ⟨fa.dx, _, hF.ob, fl_no _ (by decide +kernel) (by decide +kernel) (by decide +kernel), fa, n, fs, rfl, hF, by omega, fun ys a0 H1 hy hsort _ s1 h1 => ?_⟩
    rw [two_names hfs m1 m2 hy hsort] at h1
    have hF1 := hF.same s1
    refine ⟨fa.dx, _, hF1.ob, fl_no _ (by decide +kernel) (by decide +kernel) (by decide +kernel), fa, n, fs, rfl, hF1, fun H2 s2 => ?_⟩
    have hF2 := hF1.same s2
    refine ⟨fa.dx, _, hF2.ob, fl_no _ (by decide +kernel) (by decide +kernel) (by decide +kernel), fa, n, fs, "one", rfl, hF2, fun g3 a2 H3 e3 _ s3 h3 => ?_, fun z => (by rw [x1] at z; cases z)⟩
    have hF3 := hF2.same s3
    refine ⟨fa.dx, _, hF3.ob, fl_no _ (by decide +kernel) (by decide +kernel) (by decide +kernel), fa, n, fs, "two", rfl, hF3, fun g4 a3 H4 e4 _ s4 h4 => ?_, fun z => (by rw [x2] at z; cases z)⟩
    have hF4 := hF3.same s4
    refine ⟨fa.dx, _, hF4.ob, fl_no _ (by decide +kernel) (by decide +kernel) (by decide +kernel), fa, n, fs, "two", rfl, hF4, fun g5 a4 H5 e5 _ s5 h5 => ⟨Nat.le_trans (show 5 ≤ 16 by decide) (by decide), fun p6 hp6 => ?_⟩, fun z => (by rw [x2] at z; cases z)⟩
    rw [x1] at e3
    cases e3
    rw [x2] at e4 e5
    cases e4
    cases e5
    have s6 := Same.new (o := .lst [V.ref a0, V.int ((n : Int) - ((used fs).length : Int)), V.ref a2, V.ref a3, V.ref a4]) hp6
    have k0 := s6 _ _ (s5 _ _ (s4 _ _ (s3 _ _ (s2 _ _ h1))))
    have k2 := s6 _ _ (s5 _ _ (s4 _ _ h3))
    have k3 := s6 _ _ (s5 _ _ h4)
    have k4 := s6 _ _ h5
    have k6 : (upd H5 p6 (.lst [V.ref a0, V.int ((n : Int) - ((used fs).length : Int)), V.ref a2, V.ref a3, V.ref a4])) p6 = some (.lst [V.ref a0, V.int ((n : Int) - ((used fs).length : Int)), V.ref a2, V.ref a3, V.ref a4]) := upd_same
    have s7 : Same H _ := s1.trans (s2.trans (s3.trans (s4.trans (s5.trans s6))))
    have hF7 := hF4.same (s5.trans s6)
    generalize upd H5 p6 (.lst [V.ref a0, V.int ((n : Int) - ((used fs).length : Int)), V.ref a2, V.ref a3, V.ref a4]) = G at *
    clear s1 s2 s3 s4 s5 s6 h1 h3 h4 h5 hF1 hF2 hF3 hF4
    walk_at "nx"
    walk_at "rd"
    refine ⟨fa.dx, _, hF7.ob, fl_no _ (by decide +kernel) (by decide +kernel) (by decide +kernel), fa, n, fs, "one", rfl, hF7, fun g8 r8 H8 e8 _ s8 h8 => ?_, fun z => (by rw [x1] at z; cases z)⟩
    rw [x1] at e8
    cases e8
    have eo : blV f1 = (f1.bl.map fun (c : Nat) => (c : Int)).map V.int := by unfold blV; rw [List.map_map] <;> rfl
    rw [eo] at h8
    refine ⟨r8, _, rfl, .inl (.inl h8), fun srt a5 hp1 hp2 hr9 => ⟨Nat.le_trans (show 1 ≤ 16 by decide) (by decide), fun p9 hp9 => ?_⟩⟩
    have s9 : Same H8 (upd (upd H8 a5 (.lst (srt.map V.int))) p9 (.lst [.ref a5])) := (Same.new hr9).trans (Same.new hp9)
    have k5 : (upd (upd H8 a5 (.lst (srt.map V.int))) p9 (.lst [.ref a5])) a5 = some (.lst (srt.map V.int)) := Same.new hp9 _ _ upd_same
    have k9 : (upd (upd H8 a5 (.lst (srt.map V.int))) p9 (.lst [.ref a5])) p9 = some (.lst [.ref a5]) := upd_same
    generalize upd (upd H8 a5 (.lst (srt.map V.int))) p9 (.lst [.ref a5]) = H9 at *
    have s10 := s8.trans s9
    refine ⟨_, s10 _ _ k6, _, k9, Nat.le_trans (show 6 ≤ 16 by decide) (by decide), fun q1 hq1 => ?_⟩
    have kq : (upd H9 q1 (.lst ([V.ref a0, V.int ((n : Int) - ((used fs).length : Int)), V.ref a2, V.ref a3, V.ref a4] ++ [.ref a5]))) q1 = some (.lst ([V.ref a0, V.int ((n : Int) - ((used fs).length : Int)), V.ref a2, V.ref a3, V.ref a4] ++ [.ref a5])) := upd_same
    have s11 := s10.trans (Same.new (o := .lst ([V.ref a0, V.int ((n : Int) - ((used fs).length : Int)), V.ref a2, V.ref a3, V.ref a4] ++ [.ref a5])) hq1)
    have k5b := Same.new (o := .lst ([V.ref a0, V.int ((n : Int) - ((used fs).length : Int)), V.ref a2, V.ref a3, V.ref a4] ++ [.ref a5])) hq1 _ _ k5
    generalize upd H9 q1 (.lst ([V.ref a0, V.int ((n : Int) - ((used fs).length : Int)), V.ref a2, V.ref a3, V.ref a4] ++ [.ref a5])) = H10 at *
    have hF10 := hF7.same s11
    have n2 := hF.n2
    refine lc_ fun LP hLP => ?_
    walk_at "rd"
    refine ⟨by omega, by omega, hLP _ _ ?_⟩
    rw [show Int.toNat (n : Int) = n by omega]
    refine lcr_walk (X := fun i x => x = .int (0 + (i : Int))) walk_range (fun _ _ => trivial) (fun D i v H => ∃ u, v = .ref u ∧ u ≠ D ∧ H u = some (.lst ((contOf fs i).map V.int))) (fun D i v H1 H2 k ⟨u, e, hu, h⟩ => ⟨u, e, hu, k u _ h hu⟩) (by rw [sizeLine_eq]; omega) (fun _ => rfl)
      (fun D acc i x H1 hi hx s1 hD R hR => ?_) (fun D us H1 hD s1 hl hu hr => ?_)
    · subst hx
      rw [Int.zero_add]
      have hFx := hF10.same s1
      unfold tMeth
      refine ⟨_, rfl, fa.p, fa.dx, _, rfl, hFx.ob, fl_no _ (by decide +kernel) (by decide +kernel) (by decide +kernel), _, rfl, fa, n, fs, i, rfl, hFx, hi, fun xs y H2 e1 e2 hy s2 h2 => hR _ _ s2 ⟨y, rfl, fun z => (by rw [z, hD] at hy; cases hy), ?_⟩⟩
      rw [← contOf_eq e1 e2]
      exact h2
    · refine ⟨D, rfl, _, s1 _ _ kq, us, hl, ?_, fun t ht => ?_⟩
      · rw [hu, sizeLine_eq]
        show 6 + n ≤ _
        omega
      · have s12 := Same.new (o := .lst ([V.ref a0, V.int ((n : Int) - ((used fs).length : Int)), V.ref a2, V.ref a3, V.ref a4] ++ [.ref a5] ++ us)) ht
        have sk := s11.trans (s1.trans s12)
        refine q t a0 a2 a3 a4 a5 srt us _ ((s7.trans (s11.trans s1)).free ht) (s7.trans sk) upd_same (sk _ _ k0) (sk _ _ k2) (sk _ _ k3) (sk _ _ k4) (s12 _ _ (s1 _ _ k5b)) hp1 hp2 hu fun i hi => ?_
        obtain ⟨v, hv⟩ : ∃ v, us[i]? = some v := ⟨_, List.getElem?_eq_getElem (by omega)⟩
        obtain ⟨u, e, _, h2⟩ := hr i v hv
        exact ⟨u, by rw [hv, e], s12 _ _ h2⟩
end

theorem Below.head {rs : List Int} {s : Int} {ss : List Int} (h : Below rs (s :: ss)) : ∃ r rs', rs = r :: rs' ∧ (0 ≤ r ∧ r < s) ∧ Below rs' ss := by
  cases h with
  | cons a b h => exact ⟨_, _, rfl, ⟨a, b⟩, h⟩
theorem Below.none {rs : List Int} (h : Below rs []) : rs = [] := by
  cases h
  rfl
theorem pickI {ns : List Int} {x : Int} (h0 : 0 ≤ x) (h1 : x < ns.length) : ∃ n ∈ ns, atI (ns.map V.int) x = some (.int n) := by
  obtain ⟨k, rfl⟩ : ∃ k : Nat, x = (k : Int) := ⟨x.toNat, by omega⟩
  have hk : k < ns.length := by omega
  exact ⟨ns[k], List.getElem_mem hk, atI_nat (by rw [List.getElem?_map, List.getElem?_eq_getElem hk] <;> rfl)⟩
theorem Same.thenX {S : List Addr} {H G G' : Hp} (s : Same H G) (e : SameX S G G') (hn : ∀ b ∈ S, H b = none) : Same H G' := fun b o h => e b o (s b o h) fun z => by
  rw [hn b z] at h; cases h
theorem nodup_cast {l : List Nat} (h : l.Nodup) : (l.map fun (c : Nat) => (c : Int)).Nodup := by
  rw [List.Nodup, List.pairwise_map]
  exact h.imp fun {a b} z => by omega
theorem sorted_eq : ∀ {a b : List Int}, a.Pairwise (· < ·) → b.Pairwise (· ≤ ·) → (∀ k, k ∈ a ↔ k ∈ b) → b.Nodup → a = b
  | [], [], _, _, _, _ => rfl
  | [], y :: b, _, _, h, _ => absurd ((h y).mpr (List.mem_cons_self ..)) (by simp)
  | x :: a, [], _, _, h, _ => absurd ((h x).mp (List.mem_cons_self ..)) (by simp)
  | x :: a, y :: b, ha, hb, h, hn => by
    rw [List.pairwise_cons] at ha hb
    rw [List.nodup_cons] at hn
    have e : x = y := by
      rcases List.mem_cons.mp ((h x).mp (List.mem_cons_self ..)) with e | e
      · exact e
      · rcases List.mem_cons.mp ((h y).mpr (List.mem_cons_self ..)) with q | q
        · exact q.symm
        · have h1 := ha.1 y q
          have h2 := hb.1 x e
          omega
    subst e
    rw [sorted_eq (a := a) (b := b) ha.2 hb.2 (fun k => ?_) hn.2]
    have := h k
    rw [List.mem_cons, List.mem_cons] at this
    constructor
    · intro z
      rcases this.mp (.inr z) with q | q
      · have := ha.1 k z
        omega
      · exact q
    · intro z
      rcases this.mpr (.inr z) with q | q
      · rw [q] at z
        exact absurd z hn.1
      · exact q
theorem sorted_one {a b c : List Int} (ha : a.Perm c) (hb : b.Perm c) (h1 : a.Pairwise (· ≤ ·)) (h2 : b.Pairwise (· ≤ ·)) (hn : c.Nodup) : a = b :=
  sorted_eq (lt_of_le_nodup a h1 (ha.nodup_iff.mpr hn)) h2 (fun k => by rw [ha.mem_iff, hb.mem_iff]) (hb.nodup_iff.mpr hn)
/-! ### data of unlike parts -/
theorem dpAll_of {K : PySem.W.Frag} {H : Hp} : ∀ {us : List V} {ds : List PyData}, us.length = ds.length → (∀ (i : Nat) (v : V) (d : PyData), us[i]? = some v → ds[i]? = some d → Dp K H v d) → DpAll K H us ds
  | [], [], _, _ => .nil
  | u :: us, d :: ds, hl, h => .cons (h 0 u d rfl rfl) (dpAll_of (by simpa using hl) fun i v e h1 h2 => h (i + 1) v e (by simpa using h1) (by simpa using h2))
theorem eqvAll_self : ∀ {ds : List PyData}, (∀ d ∈ ds, PyData.eqv d d = true) → PyData.eqvAll ds ds = true
  | [], _ => rfl
  | d :: ds, h => by
    rw [PyData.eqvAll, h d (List.mem_cons_self ..), eqvAll_self fun e he => h e (List.mem_cons_of_mem _ he)] <;> rfl
theorem layAll_of : ∀ {ds : List PyData}, (∀ d ∈ ds, d.canLay0 = true) → PyData.canLayAll0 ds = true
  | [], _ => rfl
  | d :: ds, h => by
    rw [PyData.canLayAll0, h d (List.mem_cons_self ..), layAll_of fun e he => h e (List.mem_cons_of_mem _ he)] <;> rfl
theorem deepAll_of {k : Nat} : ∀ {ds : List PyData}, (∀ d ∈ ds, d.depth ≤ k) → PyData.depthAll ds ≤ k
  | [], _ => Nat.zero_le _
  | d :: ds, h => by
    rw [PyData.depthAll]
    exact Nat.max_le.mpr ⟨h d (List.mem_cons_self ..), deepAll_of fun e he => h e (List.mem_cons_of_mem _ he)⟩
/-- a value of ours: equal to itself, can be laid, not deep -/
def Own (d : PyData) : Prop := PyData.eqv d d = true ∧ d.canLay0 = true ∧ d.depth ≤ 8
theorem own_enc {α : Type} [Enc α] {x : α} (h : Enc.good x) (hd : Enc.dep α ≤ 8) : Own (Enc.enc x) := ⟨(Enc.eq x x).mpr rfl, Enc.lay x h, Nat.le_trans (Enc.dp x) hd⟩
/-- a list of own values is not unlike itself -/
theorem neD_own {K : PySem.W.Frag} {H : Hp} {v u : V} {ds : List PyData} {Q : VK} (h1 : Dp K H v (.list ds)) (h2 : Dp K H u (.list ds)) (h : ∀ d ∈ ds, Own d) (q : Q (.bl false) H) : rNeD K v u H Q := by
  have e : PyData.eqv (.list ds) (.list ds) = true := by rw [PyData.eqv]; exact eqvAll_self fun d hd => (h d hd).1
  have sh : SeqAt.shaped (.list ds) = true := by
    unfold SeqAt.shaped
    rw [show (PyData.list ds).canLay0 = true by rw [PyData.canLay0]; exact layAll_of fun d hd => (h d hd).2.1, decide_eq_true (show (PyData.list ds).depth ≤ 64 by
      rw [PyData.depth]
      exact Nat.le_trans (Nat.succ_le_succ (deepAll_of (k := 8) fun d hd => (h d hd).2.2)) (by decide))] <;> rfl
  exact ⟨_, _, h1, h2, sh, sh, by rw [e]; exact q⟩
theorem below4 {rs : List Int} {a b c d : Int} (h : Below rs [a, b, c, d]) : ∃ x1 x2 x3 x4 : Int, rs = [x1, x2, x3, x4] ∧ (0 ≤ x1 ∧ x1 < a) ∧ (0 ≤ x2 ∧ x2 < b) ∧ (0 ≤ x3 ∧ x3 < c) ∧ (0 ≤ x4 ∧ x4 < d) := by
  obtain ⟨x1, r1, rfl, b1, h⟩ := h.head
  obtain ⟨x2, r2, rfl, b2, h⟩ := h.head
  obtain ⟨x3, r3, rfl, b3, h⟩ := h.head
  obtain ⟨x4, r4, rfl, b4, h⟩ := h.head
  rw [h.none]
  exact ⟨_, _, _, _, rfl, b1, b2, b3, b4⟩
theorem below5 {rs : List Int} {a b c d e : Int} (h : Below rs [a, b, c, d, e]) : ∃ x1 x2 x3 x4 x5 : Int, rs = [x1, x2, x3, x4, x5] ∧ (0 ≤ x1 ∧ x1 < a) ∧ (0 ≤ x2 ∧ x2 < b) ∧ (0 ≤ x3 ∧ x3 < c) ∧ (0 ≤ x4 ∧ x4 < d) ∧ (0 ≤ x5 ∧ x5 < e) := by
  obtain ⟨x1, r1, rfl, b1, h⟩ := h.head
  obtain ⟨x2, x3, x4, x5, rfl, b⟩ := below4 h
  exact ⟨_, _, _, _, _, rfl, b1, b⟩
/-- all that the floor tells -/
def toldD (n : Nat) (fs : List File) (f1 f2 : File) (srt : List Int) : List PyData :=
  [Enc.enc [("one" : Str), "two"], .int ((n : Int) - ((used fs).length : Int)), Enc.enc f1.ws, Enc.enc f2.ws, Enc.enc (f2.bl.map fun (c : Nat) => (c : Int)), Enc.enc srt] ++ (List.range n).map fun i => Enc.enc (contOf fs i)
theorem toldD_own (n : Nat) (fs : List File) (f1 f2 : File) (srt : List Int) : ∀ d ∈ toldD n fs f1 f2 srt, Own d := fun d hd => by
  have hi : ∀ xs : List Int, Own (Enc.enc xs) := fun xs => own_enc (good_ints xs) (by decide)
  rcases List.mem_append.mp hd with h | h
  · simp only [List.mem_cons, List.not_mem_nil, or_false] at h
    rcases h with rfl | rfl | rfl | rfl | rfl | rfl
    · exact own_enc (show ∀ x ∈ [("one" : Str), "two"], ∀ c ∈ x.cps.toList, c < 0x110000 by decide +kernel) (by decide)
    · exact own_enc (α := Int) trivial (by decide)
    · exact hi _
    · exact hi _
    · exact hi _
    · exact hi _
  · obtain ⟨i, _, rfl⟩ := List.mem_map.mp h
    exact hi _
theorem toldD_dp {K : PySem.W.Frag} {H' : Hp} {n : Nat} {fs : List File} {f1 f2 : File} {p a0 a2 a3 a4 a5 : Addr} {srt : List Int} {us : List V} (h : H' p = some (.lst ([.ref a0, .int ((n : Int) - ((used fs).length : Int)), .ref a2, .ref a3, .ref a4, .ref a5] ++ us)))
    (h0 : H' a0 = some (.lst ([("one" : Str), "two"].map V.str))) (h2 : H' a2 = some (.lst (f1.ws.map V.int))) (h3 : H' a3 = some (.lst (f2.ws.map V.int))) (h4 : H' a4 = some (.lst (blV f2))) (h5 : H' a5 = some (.lst (srt.map V.int)))
    (hl : us.length = n) (hu : ∀ i, i < n → ∃ u, us[i]? = some (.ref u) ∧ H' u = some (.lst ((contOf fs i).map V.int))) : Dp K H' (.ref p) (.list (toldD n fs f1 f2 srt)) := by
  have eo : blV f2 = (f2.bl.map fun (c : Nat) => (c : Int)).map V.int := by unfold blV; rw [List.map_map] <;> rfl
  rw [eo] at h4
  refine .lst (.inl (.inl h)) (.cons (is_strs (.inl (.inl h0))) (.cons (.int _) (.cons (is_ints (.inl (.inl h2))) (.cons (is_ints (.inl (.inl h3))) (.cons (is_ints (.inl (.inl h4))) (.cons (is_ints (.inl (.inl h5))) (dpAll_of (by simpa using hl) fun i v d e1 e2 => ?_)))))))
  replace e2 : ((List.range n).map fun i => (Enc.enc (contOf fs i) : PyData))[i]? = some d := e2
  rw [List.getElem?_map] at e2
  obtain ⟨j, hj, rfl⟩ := Option.map_eq_some_iff.mp e2
  obtain ⟨hj1, hj2⟩ := List.getElem?_eq_some_iff.mp hj
  rw [List.length_range] at hj1
  rw [List.getElem_range] at hj2
  subst hj2
  obtain ⟨u, z1, z2⟩ := hu i hj1
  replace e1 : us[i]? = some v := e1
  rw [z1] at e1
  cases e1
  exact is_ints (.inl (.inl z2))
theorem del_ok {n : Nat} {fs : List File} (x : Str) (h : FsOk n fs) : FsOk n (del fs x) := by
  cases e : has fs x with
  | none => rw [del_id (has_none e)]; exact h
  | some f =>
    obtain ⟨l1, l2, e1, e2⟩ := has_split h.nd e
    rw [e2]
    exact (FsOk.drop_ (e1 ▸ h)).1
theorem roomy_iff {n : Nat} {fs : List File} {x : Str} {ws : List Int} (h : FsOk n fs) : roomy n fs x ws ↔ nb ws.length + (used (del fs x)).length ≤ n := by
  unfold roomy
  have := freeL_len (del_ok x h).ud (del_ok x h).lt
  omega
theorem one_two : ¬ (("one" : Str) = "two") := by decide +kernel
theorem two_one : ¬ (("two" : Str) = "one") := by decide +kernel
theorem used1 (f : File) : used [f] = f.bl := by unfold used; simp
theorem del_one {fs : List File} {f1 f2 : File} (h : fs = [f1, f2] ∨ fs = [f2, f1]) (m1 : f1.nm = "one") (m2 : f2.nm = "two") : del fs "one" = [f2] := by
  unfold del
  rcases h with rfl | rfl
  · rw [List.filter_cons, m1, if_neg (by simp), List.filter_cons, m2, if_pos (by rw [decide_eq_true_eq]; exact two_one), List.filter_nil]
  · rw [List.filter_cons, m2, if_pos (by rw [decide_eq_true_eq]; exact two_one), List.filter_cons, m1, if_neg (by simp), List.filter_nil]
theorem FloorAt.notS {K : PySem.W.Frag} {H : Hp} {A : FA} {n : Nat} {fs : List File} (F : FloorAt K H A n fs) {a : Addr} {xs : List Int} (h : H a = some (.lst (xs.map V.int))) : a ∉ [A.lb, A.dp, A.dc] := fun z => by
  obtain ⟨ba, ct, g1, _⟩ := F.bk
  obtain ⟨pa, g2, _⟩ := F.pl
  have n1 := F.n1
  simp only [List.mem_cons, List.not_mem_nil, or_false] at z
  rcases z with rfl | rfl | rfl
  · rw [g1] at h
    injection h with h
    injection h with h
    obtain ⟨m, rfl⟩ : ∃ m, n = m + 1 := ⟨n - 1, by omega⟩
    rw [List.range_succ_eq_map, List.map_cons] at h
    cases xs <;> cases h
  · rw [g2] at h; cases h
  · rw [F.ct] at h; cases h
section
variable {P : Program} {w : World} {K : PySem.W.Frag} {mg : Str → Option Value} {base : Heap}
abbrev s_flaw : Stmt := top 24
abbrev n_flaw : List PySem.Str := ["_law_script", "_law_blocks", "_law_left", "_law_some", "_law_first", "_law_step", "_law_floor", "_law_room", "_law_k", "_law_how", "_law_count", "_law_start", "_law_more", "_law_words", "_law_ahead", "_law_caught", "_law_own"]
abbrev p_flaw : List PySem.Str := ["_law_script"]
theorem sc_flaw : FnScope n_flaw p_flaw (defScope s_flaw) := ⟨rfl, rfl, rfl, by decide +kernel, rfl, by decide +kernel, by decide +kernel⟩
def lvl : Nat := 6
def spLaw (K : PySem.W.Frag) : Sp := fun vs H Q _ => ∃ (a : Addr) (ns : List Int), vs = [.ref a] ∧ SqL K H a (ns.map V.int) ∧ ns.length ≤ 63 ∧ ∀ H', Q (.bl true) H'
theorem ok_flaw (T : En K mg) : Fn P w K mg base CX0 lvl "law" p_flaw (spLaw K) := by
  refine Fn.mk_ T.d_law T.g_law (fun _ _ _ _ _ _ us hl => match us, hl with | [_], _ => rfl) fun F => F.ok sc_flaw (fun vs H Q E h => ?_) (fun cdv A outer s H vs Q E hr h => ?_)
  · obtain ⟨a, ns, rfl, _⟩ := h; rfl
  · obtain ⟨a, ns, rfl, hS, h63, q⟩ := h
    refine ⟨_, PSs.nox ((pss_cons (ps_asg (pcall (ok_f_law_parts T) (hr.mono (by decide)) rfl pass0 (pa_cons (pv 0) (pa_cons pe_int (pa_cons (pe_lst (pa_cons pe_int (pa_cons pe_int (pa_cons pe_int (pa_cons pe_int (pa_cons pe_int pa_nil)))))) pa_nil)))) (pg_lst (n := 5) rfl (pgs_cons (pg_name (i := 1) (sc_flaw.nd) rfl (by first | exact .inl rfl | exact .inr rfl)) (pgs_cons (pg_name (i := 2) (sc_flaw.nd) rfl (by first | exact .inl rfl | exact .inr rfl)) (pgs_cons (pg_name (i := 3) (sc_flaw.nd) rfl (by first | exact .inl rfl | exact .inr rfl)) (pgs_cons (pg_name (i := 4) (sc_flaw.nd) rfl (by first | exact .inl rfl | exact .inr rfl)) (pgs_cons (pg_name (i := 5) (sc_flaw.nd) rfl (by first | exact .inl rfl | exact .inr rfl)) pgs_nil)))))))
      (pss_cons (ps_set (i := 1) (sc_flaw.nd) rfl (by first | exact .inl rfl | exact .inr rfl) (pe_op op_add (pv 1) pe_int))
      (pss_cons (ps_set (i := 2) (sc_flaw.nd) rfl (by first | exact .inl rfl | exact .inr rfl) (pe_callB (call_min2 rfl) (by rfl) T.b_min (by decide +kernel) (pa_cons (pv 2) (pa_cons (pe_op op_sub (pv 1) pe_int) pa_nil))))
      (pss_cons (ps_set (i := 6) (sc_flaw.nd) rfl (by first | exact .inl rfl | exact .inr rfl) (pmk T.g_Floor T.k_Floor (ok_m_Floor_init T) (hr.mono (by decide)) rfl pass0 (pa_cons (pv 1) pa_nil)))
      (pss_cons (ps_expr (pmeth T.c_Floor T.m_Floor_keep (pv 6) (ok_m_Floor_keep T) (hr.mono (by decide)) passL (pa_cons pe_str (pa_cons (pcall (ok_f_law_filled T) (hr.mono (by decide)) rfl pass0 (pa_cons (pe_op op_sub (pe_op op_mul pe_int (pe_op op_sub (pv 1) (pv 2))) (pe_op op_mod (pv 3) pe_int)) (pa_cons (pv 4) (pa_cons (pv 5) pa_nil)))) pa_nil))))
      (pss_cons (ps_expr (pmeth T.c_Floor T.m_Floor_keep (pv 6) (ok_m_Floor_keep T) (hr.mono (by decide)) passL (pa_cons pe_str (pa_cons (pcall (ok_f_law_filled T) (hr.mono (by decide)) rfl pass0 (pa_cons (pe_callB (call_min2 rfl) (by rfl) T.b_min (by decide +kernel) (pa_cons (pe_op op_mul pe_int (pv 2)) (pa_cons (pv 3) pa_nil))) (pa_cons (pv 5) (pa_cons (pv 4) pa_nil)))) pa_nil))))
      (pss_cons (ps_set (i := 7) (sc_flaw.nd) rfl (by first | exact .inl rfl | exact .inr rfl) (pe_op op_sub (pv 1) (pe_op op_fdiv (pe_op op_add (pe_callB (call_min2 rfl) (by rfl) T.b_min (by decide +kernel) (pa_cons (pe_op op_mul pe_int (pv 2)) (pa_cons (pv 3) pa_nil))) pe_int) pe_int)))
      (pss_cons (ps_for PassesOwn.never rfl (pi_range1 (by rfl) T.b_range (pa_cons (pe_op op_add pe_int (pe_callB call_len_seq (by rfl) T.b_len (by decide +kernel) (pa_cons (pe_slice sl_list (pv 0) (po_some pe_int) (po_some pe_int)) pa_nil))) pa_nil)) (pg_name (i := 8) (sc_flaw.nd) rfl (by first | exact .inl rfl | exact .inr rfl)) (pss_cons (ps_asg (pcall (ok_f_law_parts T) (hr.mono (by decide)) rfl pass0 (pa_cons (pv 0) (pa_cons (pe_op op_add pe_int (pv 8)) (pa_cons (pe_lst (pa_cons pe_int (pa_cons pe_int (pa_cons pe_int (pa_cons pe_int pa_nil))))) pa_nil)))) (pg_lst (n := 4) rfl (pgs_cons (pg_name (i := 9) (sc_flaw.nd) rfl (by first | exact .inl rfl | exact .inr rfl)) (pgs_cons (pg_name (i := 10) (sc_flaw.nd) rfl (by first | exact .inl rfl | exact .inr rfl)) (pgs_cons (pg_name (i := 11) (sc_flaw.nd) rfl (by first | exact .inl rfl | exact .inr rfl)) (pgs_cons (pg_name (i := 12) (sc_flaw.nd) rfl (by first | exact .inl rfl | exact .inr rfl)) pgs_nil))))))
      (pss_cons (ps_set (i := 10) (sc_flaw.nd) rfl (by first | exact .inl rfl | exact .inr rfl) (pe_ix ix_list (pe_lst (pa_cons (pe_op op_mul pe_int (pv 7)) (pa_cons (pe_op op_add (pe_op op_mul pe_int (pv 7)) pe_int) (pa_cons (pe_op op_sub (pe_op op_mul pe_int (pv 7)) (pe_op op_mod (pv 10) pe_int)) (pa_cons (pv 10) (pa_cons (pe_op op_mod (pv 10) (pe_op op_add (pe_op op_mul pe_int (pv 7)) pe_int)) (pa_cons pe_int pa_nil))))))) (pv 9) (fun _ _ => rfl)))
      (pss_cons (ps_set (i := 13) (sc_flaw.nd) rfl (by first | exact .inl rfl | exact .inr rfl) (pcall (ok_f_law_filled T) (hr.mono (by decide)) rfl pass0 (pa_cons (pv 10) (pa_cons (pv 11) (pa_cons (pv 12) pa_nil)))))
      (pss_cons (ps_set (i := 14) (sc_flaw.nd) rfl (by first | exact .inl rfl | exact .inr rfl) (pcall (ok_f_law_all T) (hr.mono (by decide)) rfl pass0 (pa_cons (pv 6) (pa_cons (pv 1) pa_nil))))
      (pss_cons (ps_set (i := 15) (sc_flaw.nd) rfl (by first | exact .inl rfl | exact .inr rfl) (pcall (ok_f_law_kept T) (hr.mono (by decide)) rfl pass0 (pa_cons (pv 6) (pa_cons (pe_callTy call_list_of (by rfl) T.b_list (by decide +kernel) (pa_cons (pv 13) pa_nil)) pa_nil))))
      (pss_one (ps_if (pt_cmpR op_gt (pe_op op_fdiv (pe_op op_add (pv 10) pe_int) pe_int) (pv 7) (nomark _)) (pss_one (ps_if (PW.pt (pw_or (pt_not (pt_val (pcall (ok_f_law_refused T) (hr.mono (by decide)) rfl pass0 (pa_cons (pv 15) (pa_cons pe_str pa_nil))))) (pw_or1 (pt_cmpR (op_neD (hr0 hr)) (pcall (ok_f_law_all T) (hr.mono (by decide)) rfl pass0 (pa_cons (pv 6) (pa_cons (pv 1) pa_nil))) (pv 14) (nomark _))))) (pss_one (ps_ret pe_bl)) pss_nil)) (pss_cons (ps_if (PW.pt (pw_or (pt_cmpR op_notN (pv 15) pe_non (nomark _)) (pw_or (pt_not (pt_val (pcall (ok_f_law_list_is T) (hr.mono (by decide)) rfl pass0 (pa_cons (pmeth T.c_Floor T.m_Floor_words_of (pv 6) (ok_m_Floor_words_of T) (hr.mono (by decide)) passL (pa_cons pe_str pa_nil)) (pa_cons (pv 13) pa_nil))))) (pw_or1 (pt_cmpR (op_neD (hr0 hr)) (pmeth0 T.c_Floor T.m_Floor_names (pv 6) (ok_m_Floor_names T) (hr.mono (by decide)) pass0) (pe_lst (pa_cons pe_str (pa_cons pe_str pa_nil))) (nomark _)))))) (pss_one (ps_ret pe_bl)) pss_nil)
      (pss_cons (ps_set (i := 16) (sc_flaw.nd) rfl (by first | exact .inl rfl | exact .inr rfl) (pmeth T.c_Floor T.m_Floor_blocks_of (pv 6) (ok_m_Floor_blocks_of T) (hr.mono (by decide)) passL (pa_cons pe_str pa_nil)))
      (pss_cons (ps_if (PW.pt (pw_or (pt_cmpR op_ne (pe_callB call_len_seq (by rfl) T.b_len (by decide +kernel) (pa_cons (pv 16) pa_nil)) (pe_op op_fdiv (pe_op op_add (pv 10) pe_int) pe_int) (nomark _)) (pw_or1 (pt_cmpR op_ne (pmeth0 T.c_Floor T.m_Floor_free (pv 6) (ok_m_Floor_free T) (hr.mono (by decide)) pass0) (pe_op op_sub (pv 7) (pe_callB call_len_seq (by rfl) T.b_len (by decide +kernel) (pa_cons (pv 16) pa_nil))) (nomark _))))) (pss_one (ps_ret pe_bl)) pss_nil)
      (pss_one (ps_if (PW.pt (pw_or (pt_cmpR (op_neD (hr0 hr)) (pmeth T.c_Floor T.m_Floor_words_of (pv 6) (ok_m_Floor_words_of T) (hr.mono (by decide)) passL (pa_cons pe_str pa_nil)) (pe_ix ix_list (pv 14) pe_int (fun _ _ => rfl)) (nomark _)) (pw_or1 (pt_cmpR op_ne (pe_callB call_len_seq (by rfl) T.b_len (by decide +kernel) (pa_cons (pmeth T.c_Floor T.m_Floor_blocks_of (pv 6) (ok_m_Floor_blocks_of T) (hr.mono (by decide)) passL (pa_cons pe_str pa_nil)) pa_nil)) (pe_callB call_len_seq (by rfl) T.b_len (by decide +kernel) (pa_cons (pe_ix ix_list (pv 14) pe_int (fun _ _ => rfl)) pa_nil)) (nomark _))))) (pss_one (ps_ret pe_bl)) pss_nil)))))))))))))
      (pss_one (ps_ret pe_bl))))))))))), ?_⟩
    walk_at "go"
    walk_at "st"
    refine ⟨Nat.le_trans (show 5 ≤ 16 by decide) (by decide), fun p1 hp1 => ⟨a, p1, ns, [11, 4, 48, 65536, 65536], 1, rfl, (Same.new hp1).seq hS, .inl (.inl upd_same), by omega, by omega, by decide, by decide, fun rs p2 H2 hB2 hp2 s3 h2 => ?_⟩⟩
    obtain ⟨x1, x2, x3, x4, x5, rfl, b1, b2, b3, b4, b5⟩ := below5 hB2
    refine ⟨p2, rfl, _, .inl (.inl h2), rfl, _, _, rfl, _, _, rfl, _, _, rfl, _, _, rfl, _, _, rfl, rfl, ?_⟩
    have s4 := (Same.new (o := .lst [V.int 11, V.int 4, V.int 48, V.int 65536, V.int 65536]) hp1).trans s3
    clear s3 h2 hp2 hB2 hp1
    walk_at "nx"
    walk_at "st"
    walk_at "nx"
    walk_at "st"
    obtain ⟨n, hn⟩ : ∃ n : Nat, x1 + 2 = (n : Int) := ⟨(x1 + 2).toNat, by omega⟩
    obtain ⟨l, hl⟩ : ∃ l : Nat, (if x1 + 2 - 1 < x2 then x1 + 2 - 1 else x2) = (l : Int) := ⟨(if x1 + 2 - 1 < x2 then x1 + 2 - 1 else x2).toNat, by split <;> omega⟩
    have hln : l + 1 ≤ n ∧ l ≤ 3 := by split at hl <;> omega
    rw [hl, hn]
    obtain ⟨m, rfl⟩ : ∃ m : Nat, x3 = (m : Int) := ⟨x3.toNat, by omega⟩
    have hn12 : 2 ≤ n ∧ n ≤ 12 := by omega
    have hm48 : m < 48 := by omega
    clear hl b1 b2 b3
    walk_at "nx"
    walk_at "st"
    intro p dx hp hdx hne
    have s1 : Same H2 (upd (upd H2 dx (.own p)) p (.ins (He.ga K "Floor") dx [])) := Same.mut (Same.new hdx) hp
    refine ⟨p, dx, n, rfl, upd_same, by omega, by omega, fun lb dp dc H3 hlb hdp hdc hF sx => ?_⟩
    have hlb := s4.free (Same.free s1 hlb)
    have hdp := s4.free (Same.free s1 hdp)
    have hdc := s4.free (Same.free s1 hdc)
    have hpp := s4.free hp
    have s5 : Same H H3 := fun b o h => sx b o (s1 b o (s4 b o h)) (by simpa using ne_of_none h hpp)
    clear sx s1 s4
    generalize hA : (⟨p, dx, lb, dp, dc⟩ : FA) = A at *
    have ep : p = A.p := by rw [← hA]
    have hS3 : ∀ b ∈ [A.lb, A.dp, A.dc], H b = none := fun b hb => by
      subst hA
      simp only [List.mem_cons, List.not_mem_nil, or_false] at hb
      rcases hb with rfl | rfl | rfl <;> assumption
    rw [ep]
    clear hlb hdp hdc hpp hdx hne hp
    refine ⟨rfl, ?_⟩
    walk_at "nx"
    walk_at "st"
    refine ⟨A.dx, _, hF.ob, fl_no _ (by decide +kernel) (by decide +kernel) (by decide +kernel), 16 * ((n : Int) - (l : Int)) - (m : Int) % 16, x4, x5, rfl, by omega, by omega, by omega, by omega, fun ws1 p6 H4 hw1 _ hp6 s6 h6 => ?_⟩
    have hF4 := hF.same s6
    have hk1 : nb ws1.length = n - l := by unfold nb; omega
    refine ⟨A, n, [], "one", p6, ws1, rfl, hF4, by decide, h6, fun z => (hF.alive _ z) hp6, fun hr H5 hF5 s7 w7 => ?_, fun hr => absurd ((roomy_iff hF4.ok).mpr (by rw [hk1]; show n - l + 0 ≤ n; omega)) hr⟩
    have s8 := Same.thenX (s5.trans s6) s7 hS3
    have hF6 : FloorAt K H5 A n [newF n [] "one" ws1] := hF5
    have m1 : (newF n [] "one" ws1).nm = "one" := rfl
    have w1 : (newF n [] "one" ws1).ws = ws1 := rfl
    generalize newF n [] "one" ws1 = f1 at *
    clear s7 w7 h6 hp6 s6 s5 hF5 hF4 hF
    walk_at "nx"
    walk_at "st"
    generalize hc2 : (if (m : Int) < 16 * (l : Int) then (m : Int) else 16 * (l : Int)) = c2
    have hc3 : 0 ≤ c2 ∧ c2 ≤ 16 * (l : Int) := by split at hc2 <;> omega
    refine ⟨A.dx, _, hF6.ob, fl_no _ (by decide +kernel) (by decide +kernel) (by decide +kernel), c2, x5, x4, rfl, by omega, by omega, by omega, by omega, fun ws2 p7 H6 hw2 _ hp7 s9 h7 => ?_⟩
    have hF7 := hF6.same s9
    have hk2 : nb ws2.length ≤ l := by unfold nb; omega
    have hd2 : del [f1] "two" = [f1] := del_id fun f hf => by rw [List.mem_singleton.mp hf, m1]; exact one_two
    refine ⟨A, n, [f1], "two", p7, ws2, rfl, hF7, by show 1 < 4096; decide, h7, fun z => (hF6.alive _ z) hp7, fun hr H7 hF8 s10 w10 => ?_, fun hr => absurd ((roomy_iff hF7.ok).mpr (by rw [hd2, used1, hF7.ok.ln f1 (by simp), w1, hk1]; omega)) hr⟩
    have s11 := Same.thenX (s8.trans s9) s10 hS3
    rw [hd2] at hF8
    have hF9 : FloorAt K H7 A n [f1, newF n [f1] "two" ws2] := hF8
    have m2 : (newF n [f1] "two" ws2).nm = "two" := rfl
    have w2 : (newF n [f1] "two" ws2).ws = ws2 := rfl
    generalize newF n [f1] "two" ws2 = f2 at *
    clear s10 w10 h7 hp7 s9 s8 hF8 hF7 hF6
    walk_at "nx"
    walk_at "st"
    rw [hc2]
    obtain ⟨r, hr0⟩ : ∃ r : Nat, (n : Int) - (c2 + 15) / 16 = (r : Int) := ⟨((n : Int) - (c2 + 15) / 16).toNat, by omega⟩
    have hrn : nb ws2.length + r = n := by unfold nb; omega
    rw [hr0]
    clear hc2 hr0 hc3 hw2 hw1 hk1
    walk_at "nx"
    walk_at "st"
    walk_at "for"
    refine ⟨_, s11.seq hS, fun p8 hp8 => ⟨_, .inl (.inl (.inl upd_same)), ?_⟩⟩
    have hcl := cutV_length (ns.map V.int) (some 2) (some 10)
    rw [List.length_map] at hcl
    have s12 := s11.trans (Same.new (o := .lst (cutV (ns.map V.int) (some 2) (some 10))) hp8)
    have hF10 := hF9.same (Same.new (o := .lst (cutV (ns.map V.int) (some 2) (some 10))) hp8)
    generalize upd H7 p8 (.lst (cutV (ns.map V.int) (some 2) (some 10))) = H8 at *
    generalize (cutV (ns.map V.int) (some 2) (some 10)).length = turns at *
    refine ⟨by omega, by omega, ?_⟩
    walk_at "nx"
    refine lp_range (fun i σ' H' => ∃ v8 v9 v10 v11 v12 v13 v14 v15 v16 : Option V, σ' = [some (.ref a), some (.int (n : Int)), some (.int (l : Int)), some (.int (m : Int)), some (.int x4), some (.int x5), some (.ref A.p), some (.int (r : Int)), v8, v9, v10, v11, v12, v13, v14, v15, v16] ∧ Same H H' ∧
        ∃ (fs : List File) (g1 : File), FloorAt K H' A n fs ∧ (fs = [g1, f2] ∨ fs = [f2, g1]) ∧ g1.nm = "one") ⟨none, none, none, none, none, none, none, none, none, rfl, s12, _, f1, hF10, .inl rfl, m1⟩ ?_ ?_
    · rintro i σ' H' hi ⟨v8, v9, v10, v11, v12, v13, v14, v15, v16, rfl, t1, fs, g1, hG, hfs, n1⟩ B hB
      refine hB _ _ fun N hN => ?_
      rw [Int.zero_add]
      have hi2 : i ≤ 64 := by omega
      clear hF10 s12 hF9 s11
      walk_at "st"
      refine ⟨Nat.le_trans (show 4 ≤ 16 by decide) (by decide), fun p1 hp1 => ⟨a, p1, ns, [6, 260, 65536, 65536], 2 + i, rfl, (t1.trans (Same.new hp1)).seq hS, .inl (.inl upd_same), by omega, by omega, by decide, by decide, fun rs p2 H2 hB2 hp2 s3 h2 => ?_⟩⟩
      obtain ⟨y1, y2, y3, y4, rfl, b1, b2, b3, b4⟩ := below4 hB2
      refine ⟨p2, rfl, _, .inl (.inl h2), rfl, _, _, rfl, _, _, rfl, _, _, rfl, _, _, rfl, rfl, ?_⟩
      have s4 := (Same.new (o := .lst [V.int 6, V.int 260, V.int 65536, V.int 65536]) hp1).trans s3
      have hG2 := hG.same s4
      have t2 := t1.trans s4
      clear s3 s4 h2 hp2 hB2 hp1 t1 hG
      walk_at "nx"
      walk_at "st"
      have hr1 : 1 ≤ r := by omega
      obtain ⟨c, hcm, hat⟩ := pickI (ns := [16 * (r : Int), 16 * (r : Int) + 1, 16 * (r : Int) - y2 % 17, y2, y2 % (16 * (r : Int) + 20), 0]) b1.1 b1.2
      have hc01 : 0 ≤ c ∧ c ≤ 100000 := by
        simp only [List.mem_cons, List.not_mem_nil, or_false] at hcm
        rcases hcm with h | h | h | h | h | h
        · omega
        · omega
        · omega
        · omega
        · have h1 := Int.emod_nonneg y2 (b := 16 * (r : Int) + 20) (by omega)
          have h2 := Int.emod_lt_of_pos y2 (b := 16 * (r : Int) + 20) (by omega)
          omega
        · omega
      refine ⟨by omega, Nat.le_trans (show 6 ≤ 16 by decide) (by decide), fun p3 hp3 => ⟨_, .inl (.inl upd_same), _, hat, ?_⟩⟩
      have s5 := Same.new (o := .lst [V.int (16 * (r : Int)), V.int (16 * (r : Int) + 1), V.int (16 * (r : Int) - y2 % 17), V.int y2, V.int (y2 % (16 * (r : Int) + 20)), V.int 0]) hp3
      have hG3 := hG2.same s5
      have t3 := t2.trans s5
      generalize upd H2 p3 (.lst [V.int (16 * (r : Int)), V.int (16 * (r : Int) + 1), V.int (16 * (r : Int) - y2 % 17), V.int y2, V.int (y2 % (16 * (r : Int) + 20)), V.int 0]) = H3' at *
      clear s5 hp3 hat hcm t2 hG2
      walk_at "nx"
      walk_at "st"
      refine ⟨c, y3, y4, rfl, hc01.1, hc01.2, b4.1, b4.2, fun ws p5 H4 hwl _ hp5 s6 h5 => ?_⟩
      have hG4 := hG3.same s6
      have t4 := t3.trans s6
      have hp5H := t3.free hp5
      walk_at "nx"
      walk_at "st"
      refine ⟨A, n, fs, g1, f2, rfl, hG4, hfs, n1, m2, fun p6 a0 a2 a3 a4 a5 srt us H5 hp6 s7 h6 k0 k2 k3 k4 k5 q1 q2 hul hus => ?_⟩
      have hG5 := hG4.same s7
      have t5 := t4.trans s7
      have h5b := s7 _ _ h5
      walk_at "nx"
      walk_at "st"
      refine ⟨_, .inl (.inl (.inl h5b)), fun p7 hp7 => ?_⟩
      have s8 := Same.new (o := .lst (ws.map V.int)) hp7
      have h7 : (upd H5 p7 (.lst (ws.map V.int))) p7 = some (.lst (ws.map V.int)) := upd_same
      have hG6 := hG5.same s8
      have hp7S := fun z => (hG5.alive p7 z) hp7
      have t6 := t5.trans s8
      have hun : used (del fs "one") = f2.bl := by rw [del_one hfs n1 m2, used1]
      have hroom : roomy n fs "one" ws ↔ nb ws.length ≤ r := by
        rw [roomy_iff hG4.ok, hun, hG4.ok.ln f2 (by rcases hfs with rfl | rfl <;> simp), w2]
        omega
      have hem : (c + 15) / 16 = ((nb ws.length : Nat) : Int) := by unfold nb; omega
      have hl2 : fs.length = 2 := by rcases hfs with rfl | rfl <;> rfl
      generalize upd H5 p7 (.lst (ws.map V.int)) = H6 at *
      refine ⟨A, n, fs, p7, ws, rfl, hG6, by omega, h7, hp7S, fun hr H7 hG7 s9 w9 => ?_, fun hr H7 e s9 he => ?_⟩
      · dsimp only
        walk_at "nx"
        walk_at "if"
        rw [hem, if_neg (by rw [hroom] at hr; omega)]
        walk_at "nx"
        walk_at "st"
        rw [if_neg (by simp)]
        rw [del_one hfs n1 m2] at hG7
        replace hG7 : FloorAt K H7 A n [f2, newF n fs "one" ws] := hG7
        have mg : (newF n fs "one" ws).nm = "one" := rfl
        have wg : (newF n fs "one" ws).ws = ws := rfl
        generalize newF n fs "one" ws = g2 at *
        obtain ⟨z1, z2, _⟩ := two_facts (fs := [f2, g2]) (.inr rfl) mg m2
        have t7 := Same.thenX t6 s9 hS3
        have eo2 : blV f2 = (f2.bl.map fun (c : Nat) => (c : Int)).map V.int := by unfold blV; rw [List.map_map] <;> rfl
        have h5c := s9 _ _ (s8 _ _ h5b) (fun z => hG3.alive _ z hp5)
        have h6c := s9 _ _ (s8 _ _ h6) (fun z => hG4.alive _ z hp6)
        have k3c := s9 _ _ (s8 _ _ k3) (hG5.notS k3)
        have k4c := s9 _ _ (s8 _ _ k4) (hG5.notS (eo2 ▸ k4))
        clear k0 k2 k5 s9 w9 k3 k4 h6 h5b s8 t6 t5 hG6 hG5
        refine ⟨A.dx, _, hG7.ob, fl_no _ (by decide +kernel) (by decide +kernel) (by decide +kernel), A, n, [f2, g2], "one", rfl, hG7, fun f8 r8 H8 e8 _ s10 h8 => ?_, fun z => (by rw [z1] at z; cases z)⟩
        rw [z1] at e8
        cases e8
        rw [wg] at h8
        refine ⟨r8, p5, ws, ws, rfl, h8, .inl (.inl (s10 _ _ h5c)), by omega, fun H9 s11 => ⟨true, by rw [decide_eq_true rfl], ?_⟩⟩
        rw [if_neg (by simp)]
        have hG9 := hG7.same (s10.trans s11)
        refine ⟨A.dx, _, hG9.ob, fl_no _ (by decide +kernel) (by decide +kernel) (by decide +kernel), A, n, [f2, g2], rfl, hG9, (by show 2 < 64; decide), fun ys r9 H10 hy hso _ s12 h9 => ⟨Nat.le_trans (show 2 ≤ 16 by decide) (by decide), fun p10 hp10 => ?_⟩⟩
        rw [two_names (fs := [f2, g2]) (.inr rfl) mg m2 hy hso] at h9
        have s13 := s12.trans (Same.new (o := .lst [V.str "one", V.str "two"]) hp10)
        have good12 : Enc.good [("one" : Str), "two"] := show ∀ x ∈ [("one" : Str), "two"], ∀ c ∈ x.cps.toList, c < 0x110000 by decide +kernel
        refine neD_ (x := [("one" : Str), "two"]) (y := [("one" : Str), "two"]) (is_strs (.inl (.inl (Same.new hp10 _ _ h9)))) (is_strs (.inl (.inl upd_same))) good12 good12 (by decide) ⟨_, rfl, ?_⟩
        rw [if_neg (by simp)]
        have s14 := (s10.trans s11).trans s13
        have hG10 := hG9.same s13
        have t8 := t7.trans s14
        have h6d := s14 _ _ h6c
        have k3d := s14 _ _ k3c
        have k4d := s14 _ _ k4c
        generalize upd H10 p10 (.lst [V.str "one", V.str "two"]) = H11 at *
        clear s14 s13 s12 s11 s10 hG9 h8 h9 h6c k3c k4c h5c hG7 t7
        walk_at "nx"
        walk_at "st"
        refine ⟨A.dx, _, hG10.ob, fl_no _ (by decide +kernel) (by decide +kernel) (by decide +kernel), A, n, [f2, g2], "one", rfl, hG10, fun f9 own H12 e9 _ s15 hown => ?_, fun z => (by rw [z1] at z; cases z)⟩
        rw [z1] at e9
        cases e9
        have hG12 := hG10.same s15
        have t9 := t8.trans s15
        have hol : (blV g2).length = nb ws.length := by unfold blV; rw [List.length_map, hG12.ok.ln g2 (by simp), wg]
        walk_at "nx"
        walk_at "st"
        refine ⟨_, .inl (.inl (.inl hown)), ?_⟩
        rw [hol, hem, if_neg (by simp)]
        have hG12ob := hG12
        refine ⟨A.dx, _, hG12.ob, fl_no _ (by decide +kernel) (by decide +kernel) (by decide +kernel), A, n, [f2, g2], rfl, hG12, fun H13 s16 => ⟨_, .inl (.inl (.inl (s16 _ _ hown))), ?_⟩⟩
        walk_at "rd"
        have hub : (used [f2, g2]).length = f2.bl.length + g2.bl.length := by rw [used_cons, used1, List.length_append]
        have hb2 : f2.bl.length = nb ws2.length := by rw [hG12.ok.ln f2 (by simp), w2]
        have hbg : g2.bl.length = nb ws.length := by rw [hG12.ok.ln g2 (by simp), wg]
        rw [hol, hub, hb2, hbg, if_neg (by omega)]
        have hG13 := hG12.same s16
        have t10 := t9.trans s16
        have s17 := s15.trans s16
        walk_at "nx"
        walk_at "rd"
        refine ⟨A.dx, _, hG13.ob, fl_no _ (by decide +kernel) (by decide +kernel) (by decide +kernel), A, n, [f2, g2], "two", rfl, hG13, fun f14 r14 H14 e14 _ s18 h14 => ?_, fun z => (by rw [z2] at z; cases z)⟩
        rw [z2] at e14
        cases e14
        have s19 := s17.trans s18
        refine ⟨_, .inl (.inl (s19 _ _ h6d)), .ref a3, (show atI _ ((3 : Nat) : Int) = _ from atI_nat rfl), neD_ (x := f2.ws) (y := f2.ws) (is_ints (.inl (.inl h14))) (is_ints (.inl (.inl (s19 _ _ k3d)))) (good_ints _) (good_ints _) (by decide) ⟨_, rfl, ?_⟩⟩
        rw [if_neg (by simp)]
        have hG14 := hG13.same s18
        refine ⟨A.dx, _, hG14.ob, fl_no _ (by decide +kernel) (by decide +kernel) (by decide +kernel), A, n, [f2, g2], "two", rfl, hG14, fun f15 r15 H15 e15 _ s20 h15 => ?_, fun z => (by rw [z2] at z; cases z)⟩
        rw [z2] at e15
        cases e15
        have s21 := s19.trans s20
        refine ⟨r15, rfl, _, .inl (.inl (.inl h15)), _, .inl (.inl (s21 _ _ h6d)), .ref a4, (show atI _ ((4 : Nat) : Int) = _ from atI_nat rfl), a4, rfl, _, .inl (.inl (.inl (s21 _ _ k4d))), ?_⟩
        rw [if_neg (by simp)]
        exact hN _ _ ⟨_, _, _, _, _, _, _, _, _, rfl, t10.trans (s18.trans s20), [f2, g2], g2, hG14.same s20, .inr rfl, mg⟩
      · dsimp only
        walk_at "nx"
        walk_at "if"
        rw [hem, if_pos (by rw [hroom] at hr; omega)]
        walk_at "nx"
        walk_at "rd"
        refine ⟨e, "NoRoom", "room", rfl, he, .inl ⟨rfl, rfl⟩, fun H8 s10 => ⟨true, rfl, ?_⟩⟩
        rw [if_neg (by simp)]
        have hG8 := hG6.same (s9.trans s10)
        refine ⟨A, n, fs, g1, f2, rfl, hG8, hfs, n1, m2, fun b6 c0 c2 c3 c4 c5 srt2 us2 H9 hb6 s11 e6 e0 e2 e3 e4 e5 r1 r2 hul2 hus2 => ?_⟩
        have es : srt = srt2 := sorted_one q1 r1 q2 r2 (nodup_cast (by
          have := hG4.ok.ud
          rcases hfs with rfl | rfl
          · rw [used_cons] at this; exact (List.nodup_append.mp this).1
          · rw [used_cons, used_cons] at this
            exact (List.nodup_append.mp (List.nodup_append.mp this).2.1).1))
        have d1 := toldD_dp (K := K) h6 k0 k2 k3 k4 k5 hul hus
        have d2 := toldD_dp (K := K) e6 e0 e2 e3 e4 e5 hul2 hus2
        rw [← es] at d2
        refine neD_own d2 (Dp.same (s8.trans ((s9.trans s10).trans s11)) d1) (toldD_own _ _ _ _ _) ⟨_, rfl, ?_⟩
        rw [if_neg (by simp)]
        exact hN _ _ ⟨_, _, _, _, _, _, _, _, _, rfl, t6.trans ((s9.trans s10).trans s11), fs, g1, hG8.same s11, hfs, n1⟩
    · rintro σ' H' ⟨v8, v9, v10, v11, v12, v13, v14, v15, v16, rfl, s2, _⟩
      walk_at "nx"
      walk_at "rd"
      exact q _
end

abbrev RR : PySem.W.OpenRow := PySem.W.OpenLaw.row PySem.Challenge.rw_gatetown_k78_older_files_and_little_room
abbrev hk : PySem.W.Hook := He.hookX 4 fa fn [] [] exx
def ob (s : PySem.W.SharedT) : He.AlX := He.obsX 4 fa fn [] [] exx (HandSHeadRun.getT s)
theorem ob_eq (s : PySem.W.SharedT) : ob s = hk.obs s.abs := He.obsX_eq (HandSHeadRun.getT_eq s)
def loose0 : List PySem.Str := ["TownError", "BadRow", "BadLine", "BadKind", "TooLong", "Lacking", "GivenTwice", "NoRoom", "NoFile", "BLOCK", "blocks_for", "Floor", "_law_cell", "_law_mixed", "_law_parts", "_law_filled", "_law_whole", "_law_list_is", "_law_refused", "_law_all", "_law_kept"]
def loose : List PySem.Str := loose0
theorem run (w : World) : HandSHeadRun.RunEq RR (PySem.W.view RR.prog [24]) hk ob 6000 loose w := by
  intro os
  kernel_rfl
end Kt
open PySem PySem.W PySem.Calls PyProof.Rows
set_option maxHeartbeats 0 in
theorem PySem.Challenge.cw_gatetown_k78_older_files_and_little_room_holds : PySem.Challenge.rw_gatetown_k78_older_files_and_little_room.Holds := by
  w_on; o_law
  refine HandSHeadRun.head_any (r := OpenLaw.row PySem.Challenge.rw_gatetown_k78_older_files_and_little_room) (q := view (OpenLaw.row PySem.Challenge.rw_gatetown_k78_older_files_and_little_room).prog [24]) (H := Kt.hk) (ob := Kt.ob) (M := 6000) (loose := Kt.loose) (d := HandSHeadRun.topDef (OpenLaw.row PySem.Challenge.rw_gatetown_k78_older_files_and_little_room).prog 24) (kwd := []) Kt.ob_eq
    (by kernel_rfl) (fun s => by kernel_rfl) Kt.run (by kernel_rfl) (by kernel_rfl) (by kernel_rfl) (by rfl) (by first | assumption | decide +kernel) (by decide +kernel) ⟨rfl, rfl, rfl, rfl, rfl, by decide +kernel⟩ ?hw ?hc
  case hw => w_witness2
  case hc =>
    refine L2.walk_ofE (l := PySem.Challenge.rw_gatetown_k78_older_files_and_little_room) (n := 63) (k := Kt.lvl) (x := "_law_script") (CX := L2.CX0) rfl (by decide) (by kernel_rfl) ⟨rfl, by decide, by decide⟩ ?F (fun _ _ _ _ z => z)
    intro w mg fa h Y G hmg0
    obtain ⟨K, KX, c⟩ := Y
    have hmg : mg ("law" : PySem.Str) = some (.ref fa) := by
      have e : (HandSHeadRun.topDef (OpenLaw.row PySem.Challenge.rw_gatetown_k78_older_files_and_little_room).prog 24).name = ("law" : PySem.Str) := by kernel_rfl
      rw [← e]
      exact hmg0
    have T := Kt.en_of KX G c.t.d c.more
    have e := hmg.symm.trans T.g_law
    cases e
    exact ⟨K, Kt.fdA K (He.ga K "law"), Kt.spLaw K, KX, fun s v => L2.FunD.bindsA (ps := ["_law_script"]) T.d_law (fun _ _ _ _ _ _ us hl => match us, hl with | [_], _ => rfl) s [v] rfl, fun H a ns hl _ hS => ⟨a, ns, rfl, hS, hl, fun _ => rfl⟩, fun base _ _ => (Kt.ok_flaw (P := (PySem.Challenge.rw_gatetown_k78_older_files_and_little_room).prog) (w := w) (base := base) T).ok⟩

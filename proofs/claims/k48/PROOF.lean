import PyProof.Rows.All
import Wide.All
import OpenK.AllK
import Wide.FinOn
import PyProof.EqAt
import PyProof.EqKinds
import PyProof.TupleCall
import PyProof.ReprRoads
import HandS.ForMost
import HandS.ForExc
import HandS.Flow
import HandS.ExcInit
import HandS.ExcField
import HandS.ExcIs
import HandS.TryMany
import HandS.RaiseMore
import HandS.StrMore
import HandS.EndBits
import HandS.Deep
import HandS.Evl
import HandS.Walk
import PySem.Challenge.RW_pastamended_k48_disks
set_option Elab.async false
set_option linter.all false
set_option maxRecDepth 100000
set_option maxHeartbeats 4000000
/-! Own rules over the hand layer: defs called while no repr is under way (the guards are known), so that repr of data can be told. -/
namespace U
open PySem PySem.Spec PyProof.Rows L2

/-! ### room and guards in one -/
structure Go (k : Nat) (X : Cx) : Prop where
  rm : Room k X.A
  gd : X.A.guards = some []
theorem Go.mono {j k : Nat} {X : Cx} (g : Go k X) (h : j ≤ k) : Go j X := ⟨g.rm.mono h, g.gd⟩
theorem Go.hu {k : Nat} {X : Cx} (g : Go k X) : X.A.units + 1 < cLine := hu_of g.rm
theorem Go.u64 {k : Nat} {X : Cx} (g : Go k X) : X.A.units + 64 < cLine := g.rm.units

/-- a def at f keeps its promise, called where no repr is under way -/
structure FnG (P : Program) (w : World) (K : PySem.W.Frag) (mg : Str → Option Value) (base : Heap) (k : Nat) (f : Addr) (fd : FuncData) (ps : List Str) (sp : Sp) : Prop where
  len : ∀ vs H Q E, sp vs H Q E → vs.length = ps.length
  run : ∀ (A : Around) (outer : List Env) (s : Shared) (H : Hp) (args : Args) (us : List Value) (vs : List V) (Q : VK) (E : XK), Room k A → A.guards = some [] →
    Env0 P w K mg base A outer s H → BindsTo s fd args (ps.zip us) → Vals vs us → sp vs H Q E → codeAny (model P w) A (.call (.ref f) args) (CR (L2.CX P w) outer P w H s Q E) s

section
variable {P : Program} {w : World} {K : PySem.W.Frag} {mg : Str → Option Value} {base : Heap} {k : Nat} {f : Addr} {fd : FuncData} {ps : List Str} {sp : Sp}
theorem FnG.imp {sp' : Sp} (F : FnG P w K mg base k f fd ps sp) (h : ∀ vs H Q E, sp' vs H Q E → sp vs H Q E) : FnG P w K mg base k f fd ps sp' :=
  ⟨fun vs H Q E q => F.len vs H Q E (h _ _ _ _ q), fun A outer s H args us vs Q E hr hg he hb hv hs => F.run A outer s H args us vs Q E hr hg he hb hv (h _ _ _ _ hs)⟩
/-- a def of the text by its body -/
theorem okG {x qual : Str} {st : Stmt} {N : List Str} (F : Fun K x qual st f fd) (S : FnScope N ps (defScope st)) (len : ∀ vs H Q E, sp vs H Q E → vs.length = ps.length)
    (hbody : ∀ (cdv : Value) (A : Around) (outer : List Env) (s : Shared) (H : Hp) (vs : List V) (Q : VK) (E : XK), Go k (cxOf (L2.CX P w) P w K mg base N qual (defScope st) f cdv A outer s H E) → sp vs H Q E →
      ∃ t, PSs (cxOf (L2.CX P w) P w K mg base N qual (defScope st) f cdv A outer s H E) (defBody st) t ∧ t { nx := fun _ H' => Q .non H', rt := Q } (start N vs) H) :
    FnG P w K mg base (k + 1) f fd ps sp := by
  obtain ⟨oc, od, kV, doc, pm, an, cdv, ct, osl, hfd, lk, hcd⟩ := F.ex
  subst hfd
  refine ⟨len, fun A outer s H args us vs Q E hr hg e0 hb r hsp => ?_⟩
  have kin : K.In s.heap := e0.mod.kin.keeps fun b o e => (e0.bs b o e).1
  have nolim : s.heap.NoLimit := e0.mod.nolimit.keeps fun b o e => (e0.bs b o e).1
  have kinds : ∀ y ∈ ps.zip us, (defScope st).names.lookup y.1 = some .local ∨ ((defScope st).names.lookup y.1 = some .cell ∧ ((cellsFrom (s.heap.objs.size + 1) (defScope st).names []).lookup y.1).isSome = true) := fun ⟨n, v⟩ hy => by
    rcases S.par n (List.of_mem_zip hy).1 with q | q
    · exact Or.inl q
    · exact Or.inr ⟨q, PySem.W.cellsFrom_some _ _ _ (Or.inl q)⟩
  refine codeAny_call_function hr.depth (kin _ _ lk) rfl S.co S.gen rfl (PySem.W.codeRec_of kin hcd) (hb _ _ _ _ ?_)
  refine wpAny_newFunctionEnv_cells S.kind kinds fun env he s1 x => ?_
  subst he
  refine ⟨nolim.keeps x.toInCall.keep, codeAny_func ?_⟩
  obtain ⟨t, ht, hq⟩ := hbody cdv A outer s H vs Q E ⟨hr.deeper _, hg⟩ hsp
  have I0 := inv_start (CX := L2.CX P w) (E := E) S hr.hd e0 (len _ _ _ _ hsp) r x
  refine wpAny_mono (ht.run [] s1 (start N vs) H _ I0 hq) (fun fl s' hs => ?_) fun e s' hs => hs
  cases fl with
  | ret u =>
    obtain ⟨v, σ', H', J, rv, q⟩ := hs
    exact ⟨v, H', J.os, J.bare, J.base, J.hok, rv, q⟩
  | next =>
    obtain ⟨σ', H', J, q⟩ := hs
    exact ⟨V.non, H', J.os, J.bare, J.base, J.hok, rfl, q⟩
  | brk =>
    obtain ⟨_, _, _, q⟩ := hs
    exact q.elim
  | cont =>
    obtain ⟨_, _, _, q⟩ := hs
    exact q.elim
end

/-! ### what a caller knows of a def, a method, a class -/
structure GDef (P : Program) (w : World) (K : PySem.W.Frag) (mg : Str → Option Value) (base : Heap) (k : Nat) (x : Str) (sp : Sp) : Prop where
  ex : ∃ (f : Addr) (fd : FuncData) (ps : List Str), mg x = some (.ref f) ∧ PySem.W.keepIn K (.ref f) = true ∧ Binds K fd ps [] ∧ FnG P w K mg base k f fd ps sp
structure MDef (P : Program) (w : World) (K : PySem.W.Frag) (mg : Str → Option Value) (base : Heap) (k : Nat) (C : Addr) (m : Str) (sp : Sp) : Prop where
  ex : ∃ (f : Addr) (fd : FuncData) (ps : List Str), Meth K C m f ∧ Binds K fd ps [] ∧ FnG P w K mg base k f fd ps sp
structure CDef (P : Program) (w : World) (K : PySem.W.Frag) (mg : Str → Option Value) (base : Heap) (k : Nat) (x : Str) (C : Addr) (sp : Sp) : Prop where
  gC : mg x = some (.ref C)
  ex : ∃ (f : Addr) (fd : FuncData) (ps : List Str), Mk K C f ∧ Binds K fd ps [] ∧ FnG P w K mg base k f fd ps sp

section
variable {X : Cx} {W : WX} {j k : Nat} {f C : Addr} {fd : FuncData} {ps : List Str} {sp : Sp} {x m : Str} {p pos apos : Pos} {e o : Expr} {es : List Expr} {ta : TE} {t : TA}
theorem run_g {pins : List (Addr × Obj)} {σ : L2.St} {H : Hp} {s : Shared} {Q : VK} {us : List Value} {vs : List V} (F : FnG X.prog X.w X.K X.mg X.base k f fd ps sp) (hb : Binds X.K fd ps []) (g : Go k X) (tk : Takes X W)
    (I : Inv X pins σ H s) (r : Vals vs us) (h : sp vs H Q (WE W σ)) : wpAny (model X.prog X.w) X.A (call (.ref f) us) (EP X pins σ Q) X.xe s := by
  have hl : us.length = ps.length := r.length.symm.trans (F.len _ _ _ _ h)
  have hbb := hb s us I.kIn (by rw [List.append_nil]; exact hl)
  rw [List.append_nil] at hbb
  refine wpAny_call (codeAny_mono (F.run X.A X.stack s H ⟨us, []⟩ us vs Q (WE W σ) g.rm g.gd I.env0 hbb r h) fun r s' hq => ?_)
  cases r with
  | error u => exact passAt tk σ pins H s u s' I hq
  | ok fl =>
    cases fl with
    | ret u => exact I.after hq
    | next => exact hq.elim
    | brk => exact hq.elim
    | cont => exact hq.elim

/-- f(e, ..) -/
theorem pe_g (c : GDef X.prog X.w X.K X.mg X.base k x sp) (g : Go j X) (tk : Takes X W) (hk : k ≤ j) (ha : PA X (e :: es) t) (hg : Gl X x := by rfl)
    (hdb : (x == ("__debug__" : Str)) = false := by decide) (he : starEach (e :: es) X.env = (false, eval e X.env) :: starEach es X.env := by rfl) (hpl : (backTo pos (starEach es X.env)).any (·.1) = false := by rfl) :
    PE X (.Call (.Name x p) (e :: es) [] pos) (tCallS sp (WE W) t) := by
  obtain ⟨f, fd, ps, hm, kp, hb, F⟩ := c.ex
  refine ⟨fun pins s σ H Q I h => wpAny_Call_Name_kw (ld_glob I hg hm ?_ hdb)⟩
  refine PySem.W.callWith_K (h₀ := X.base) I.ok.mod.kin kp (thn (ha.run pos pins s σ H _ I h) fun us s1 hh => ?_) he hpl
  obtain ⟨vs, H1, I1, r, q⟩ := hh
  exact ⟨I1.kIn, run_g F hb (g.mono hk) tk I1 r q⟩
/-- f() -/
theorem pe_g0 (c : GDef X.prog X.w X.K X.mg X.base k x sp) (g : Go j X) (tk : Takes X W) (hk : k ≤ j) (hg : Gl X x := by rfl) (hdb : (x == ("__debug__" : Str)) = false := by decide) :
    PE X (.Call (.Name x p) [] [] pos) (tCallS sp (WE W) tNil) := by
  obtain ⟨f, fd, ps, hm, kp, hb, F⟩ := c.ex
  refine ⟨fun pins s σ H Q I h => wpAny_Call_Name_kw (ld_glob I hg hm ?_ hdb)⟩
  exact PySem.W.callWith_K0 I.kIn kp (run_g (us := []) F hb (g.mono hk) tk I .nil h)
/-- o.m(e, ..), o an instance of the class at C -/
def tMethS (C : Addr) (m : Str) (sp : Sp) (E : L2.St → XK) (ta : TE) (t : TA) : TE := fun σ H Q => ta σ H fun x H1 => ∃ a dx fs, x = .ref a ∧ H1 a = some (.ins C dx fs) ∧ fs.lookup m = none ∧
  t σ H1 fun vs H2 => sp (x :: vs) H2 Q (E σ)
theorem pe_m {pl : Sem Bool} (c : MDef X.prog X.w X.K X.mg X.base k C m sp) (T : Cls X.K C) (g : Go j X) (tk : Takes X W) (hk : k ≤ j) (ho : PE X o ta) (ha : PA X (e :: es) t)
    (hst : starEach (e :: es) X.env = (false, eval e X.env) :: starEach es X.env := by rfl) (hpl : (backTo pos (starEach es X.env)).any (·.1) = false := by rfl)
    (ht : eval (.Call (.Attribute o m apos) (e :: es) [] pos) X.env = (do
      let ov ← eval o X.env
      standAt apos.atName
      let (f, first) ← holding [ov] (getMethod ov m pl)
      callWith pos f first (backTo pos (starEach (e :: es) X.env)) (backToKw pos (keywordEach [] X.env))) := by rfl) :
    PE X (.Call (.Attribute o m apos) (e :: es) [] pos) (tMethS C m sp (WE W) ta t) := by
  obtain ⟨f, fd, ps, hm, hb, F⟩ := c.ex
  refine ⟨fun pins s σ H Q I h => PySem.W.methodCall_KW (pl := pl) (thn (ho.run pins s σ H _ I h) fun u s1 hh => ?_) ht⟩
  obtain ⟨y, H1, I1, ry, a, dx, fs, ey, ea, l, q⟩ := hh
  subst ey
  cases (show u = Value.ref a from ry)
  refine getmeth_ok I1 ea T hm l (PySem.W.callWith_K (first := [.ref a]) (h₀ := X.base) I.ok.mod.kin hm.kp (thn (ha.run pos pins s1 σ H1 _ I1 q) fun us s2 hh2 => ?_) hst hpl)
  obtain ⟨vs, H2, I2, r, q2⟩ := hh2
  exact ⟨I2.kIn, run_g (us := .ref a :: us) (vs := .ref a :: vs) F hb (g.mono hk) tk I2 (.cons rfl r) q2⟩
/-- o.m() -/
theorem pe_m0 {pl : Sem Bool} (c : MDef X.prog X.w X.K X.mg X.base k C m sp) (T : Cls X.K C) (g : Go j X) (tk : Takes X W) (hk : k ≤ j) (ho : PE X o ta)
    (ht : eval (.Call (.Attribute o m apos) [] [] pos) X.env = (do
      let ov ← eval o X.env
      standAt apos.atName
      let (f, first) ← holding [ov] (getMethod ov m pl)
      callWith pos f first (backTo pos (starEach [] X.env)) (backToKw pos (keywordEach [] X.env))) := by rfl) :
    PE X (.Call (.Attribute o m apos) [] [] pos) (tMethS C m sp (WE W) ta tNil) := by
  obtain ⟨f, fd, ps, hm, hb, F⟩ := c.ex
  refine ⟨fun pins s σ H Q I h => PySem.W.methodCall_KW (pl := pl) (thn (ho.run pins s σ H _ I h) fun u s1 hh => ?_) ht⟩
  obtain ⟨y, H1, I1, ry, a, dx, fs, ey, ea, l, q⟩ := hh
  subst ey
  cases (show u = Value.ref a from ry)
  exact getmeth_ok I1 ea T hm l (PySem.W.callWith_K0 (first := [.ref a]) I1.kIn hm.kp (run_g (us := [.ref a]) (vs := [.ref a]) F hb (g.mono hk) tk I1 (.cons rfl .nil) q))
/-- C(e, ..) -/
def tMakeS (C : Addr) (sp : Sp) (E : L2.St → XK) (t : TA) : TE := fun σ H Q => t σ H fun vs H1 => ∀ x dx, H1 x = none → H1 dx = none → dx ≠ x →
  sp (.ref x :: vs) (upd (upd H1 dx (.own x)) x (.ins C dx [])) (fun v H2 => v = .non ∧ Q (.ref x) H2) (E σ)
theorem guards_make {A : Around} {C : Addr} {us : List Value} {kw : List (Str × Value)} (h : A.guards = some []) : (A.under (.builtin "type.__call__" ⟨.ref C :: us, kw⟩)).guards = some [] := by
  first
    | exact h
    | (simp [Around.under, pushGuards, Code.guards, Code.isGuard, guardIds]; simp [h])
theorem run_mk {pins : List (Addr × Obj)} {σ : L2.St} {H : Hp} {s : Shared} {Q : VK} {us : List Value} {vs : List V} (M : Mk X.K C f) (F : FnG X.prog X.w X.K X.mg X.base k f fd ps sp) (hb : Binds X.K fd ps []) (g : Go (k + 1) X) (tk : Takes X W)
    (I : Inv X pins σ H s) (r : Vals vs us)
    (h : ∀ x dx, H x = none → H dx = none → dx ≠ x → sp (.ref x :: vs) (upd (upd H dx (.own x)) x (.ins C dx [])) (fun v H2 => v = .non ∧ Q (.ref x) H2) (WE W σ)) :
    wpAny (model X.prog X.w) X.A (call (.ref C) us) (EP X pins σ Q) X.xe s := by
  have h1 := h (s.heap.objs.size + 1) s.heap.objs.size (I.hok.fresh (Nat.le_succ _)) (I.hok.fresh (Nat.le_refl _)) (Nat.ne_of_lt (Nat.lt_succ_self _))
  have J := Inv.made (C := C) I
  have r2 : Vals (V.ref (s.heap.objs.size + 1) :: vs) (Value.ref (s.heap.objs.size + 1) :: us) := .cons rfl r
  have hl : (Value.ref (s.heap.objs.size + 1) :: us).length = ps.length := r2.length.symm.trans (F.len _ _ _ _ h1)
  have hbb := hb _ (Value.ref (s.heap.objs.size + 1) :: us) J.kIn (by rw [List.append_nil]; exact hl)
  rw [List.append_nil] at hbb
  refine wpAny_call (make_map (f := f) I.kIn M.makes M.init (beq_iff_eq.mp M.fn) (codeAny_mono (F.run _ X.stack _ _ ⟨Value.ref (s.heap.objs.size + 1) :: us, []⟩ (Value.ref (s.heap.objs.size + 1) :: us) _ _ (WE W σ) (g.rm.make C us [])
    (guards_make g.gd) (J.env0.make C us []) hbb r2 h1) fun r s' hq => ?_))
  cases r with
  | error u => exact passAt tk σ pins _ _ u s' J hq
  | ok fl =>
    cases fl with
    | ret u =>
      obtain ⟨v, H', I3, rv, ev, q3⟩ := J.after hq
      subst ev
      exact ⟨rv, V.ref (s.heap.objs.size + 1), H', I3, rfl, q3⟩
    | next => exact hq.elim
    | brk => exact hq.elim
    | cont => exact hq.elim
theorem pe_c (c : CDef X.prog X.w X.K X.mg X.base k x C sp) (g : Go j X) (tk : Takes X W) (hk : k + 1 ≤ j) (ha : PA X (e :: es) t) (hg : Gl X x := by rfl)
    (hdb : (x == ("__debug__" : Str)) = false := by decide) (he : starEach (e :: es) X.env = (false, eval e X.env) :: starEach es X.env := by rfl) (hpl : (backTo pos (starEach es X.env)).any (·.1) = false := by rfl) :
    PE X (.Call (.Name x p) (e :: es) [] pos) (tMakeS C sp (WE W) t) := by
  obtain ⟨f, fd, ps, M, hb, F⟩ := c.ex
  refine ⟨fun pins s σ H Q I h => wpAny_Call_Name_kw (ld_glob I hg c.gC ?_ hdb)⟩
  refine PySem.W.callWith_K (h₀ := X.base) I.ok.mod.kin M.kp (thn (ha.run pos pins s σ H _ I h) fun us s1 hh => ?_) he hpl
  obtain ⟨vs, H1, I1, r, q⟩ := hh
  exact ⟨I1.kIn, run_mk M F hb (g.mono hk) tk I1 r q⟩
theorem pe_c0 (c : CDef X.prog X.w X.K X.mg X.base k x C sp) (g : Go j X) (tk : Takes X W) (hk : k + 1 ≤ j) (hg : Gl X x := by rfl) (hdb : (x == ("__debug__" : Str)) = false := by decide) :
    PE X (.Call (.Name x p) [] [] pos) (tMakeS C sp (WE W) tNil) := by
  obtain ⟨f, fd, ps, M, hb, F⟩ := c.ex
  refine ⟨fun pins s σ H Q I h => wpAny_Call_Name_kw (ld_glob I hg c.gC ?_ hdb)⟩
  exact PySem.W.callWith_K0 I.kIn M.kp (run_mk (us := []) M F hb (g.mono hk) tk I .nil h)
end
end U

set_option Elab.async false
set_option linter.all false
set_option maxRecDepth 100000
set_option maxHeartbeats 4000000
namespace U
open PySem PySem.Spec PyProof.Rows L2

/-! ### repr of data -/
def rRepr (K : PySem.W.Frag) : List V → Hp → VK → Prop := fun xs H Q => ∃ (v : V) (d : PyData), xs = [v] ∧ Dp K H v d ∧ d.showable = true ∧ d.hasDict = false ∧ d.depth ≤ 60 ∧ d.shown.length ≤ sizeLine ∧ Q (.str d.shown) H
theorem call_reprD {X : Cx} {k : Nat} (g : Go k X) : CallR X (.builtin "repr") (rRepr X.K) := by
  intro pins s σ H xs us Q I r h
  obtain ⟨v, d, rfl, hd, hs, hn, hdep, hz, q⟩ := h
  have hu := g.rm.un
  cases r with
  | cons ru rr =>
    cases rr
    rename_i u
    obtain ⟨as, R⟩ := Dp.reads I d v u hd ru
    have fin : ∀ h' t tk, (∀ b o, s.heap.get? b = some o → h'.get? b = some o) → EP X pins σ Q (.str d.shown t) { s with heap := h', toks := tk } := fun h' t tk kk =>
      ⟨.str d.shown, H, I.kept kk, ⟨t, rfl⟩, q⟩
    cases d with
    | none =>
      cases hd
      cases ru
      exact PySem.P.repr_of_none (fin s.heap _ _ fun _ _ z => z)
    | bool b =>
      cases hd
      cases ru
      exact PySem.P.repr_of_bool (fin s.heap _ _ fun _ _ z => z)
    | int i =>
      cases hd
      obtain ⟨t, rfl⟩ := ru
      exact PySem.P.repr_of_int (of_decide_eq_true hs) (fin s.heap _ _ fun _ _ z => z)
    | str x =>
      cases hd
      obtain ⟨t, rfl⟩ := ru
      exact PySem.P.repr_of_str (fin s.heap _ _ fun _ _ z => z) hz
    | list ds =>
      cases hd
      cases ru
      exact repr_of_reads' R hs (PyData.noDict_hsm hn) g.gd (by omega) (fun _ _ z => z) fin hz
    | tuple ds =>
      cases hd
      cases ru
      exact repr_of_reads' R hs (PyData.noDict_hsm hn) g.gd (by omega) (fun _ _ z => z) fin hz
    | dict kv => cases hd

/-! ### X(), X an own exception class without own __init__ -/
theorem pmk_own0 {X : Cx} {C : Addr} {bmB : List Value} {B newId initId : String} {x : Str} {p pos : Pos} (F : ExcBaseFacts B newId initId bmB) (q : PySem.W.excIn X.K C bmB newId = true) (gC : X.mg x = some (.ref C))
    (kC : PySem.W.keepIn X.K (.ref C) = true) (r : Raises X (.ref C)) (hg : Gl X x := by rfl) (hdb : (x == ("__debug__" : Str)) = false := by decide) :
    PMk X (.Call (.Name x p) [] [] pos) (fun _ H Q => Q (.ref C) none H) := by
  intro pins s σ H Q I h
  refine wpAny_Call_Name_kw (ld_glob I hg gC ?_ hdb)
  refine PySem.W.callWith_K0 I.kIn kC ?_
  show wpAny _ _ (call (.ref C) []) _ _ _
  obtain ⟨bm, N, nm, qn, bs, hdct, sn, sub, ab, col, dd, k0, k1, k2, k3, k5, mN, hC, hN, hni, T⟩ := exc_obj I.kIn q
  exact wpAny_call_exc_subT F T hC hN hni (fun h' e hm => mk_of I hm r h (I.hok.gone hm.new)) (Nat.zero_le _)

/-! ### isinstance(e, C) that is True, e the exception that the suite holds, its class and C own classes -/
def rIsP (K : PySem.W.Frag) (D C a : Addr) : List V → Hp → VK → Prop := fun xs H Q => xs = [.ref a, .ref C] ∧ PySem.W.isIn K (.ref D) C = true ∧ Q (.bl true) H
theorem call_isP {X : Cx} {a D C : Addr} {d : Option Addr} {oe : Obj} {pn : List (Addr × Obj)} (hz : Zc (.ref D) d oe) : CallR (X.suite a ((a, oe) :: pn)) (.builtin "isinstance") (rIsP X.K D C a) := by
  intro pins s σ H xs us Q I r h
  obtain ⟨rfl, e, q⟩ := h
  cases r with
  | cons rx rr =>
    cases rr with
    | cons rt rr =>
      cases rr
      cases rx
      cases rt
      obtain ⟨hget, _⟩ := I.pin (a, oe) (List.mem_append.mpr (.inl List.mem_cons_self))
      exact PySem.W.isi_call I.kIn (fun M A Q E s k q => wpAny_typeOf_ref (k _ _ hget) (by rw [hz.1]; exact q)) e (fun z => nomatch z) ⟨.bl true, H, I, rfl, q⟩

/-! ### several except clauses, with and without a name -/
structure Cl where
  c : Value
  i : Option Nat
  ts : Addr → Value → Option Addr → TS
/-- what stands behind a suite: the clause's name is gone -/
def goneD (D : Ends) : Option Nat → Ends
  | none => D
  | some i => { nx := fun σ H => D.nx (σ.set i none) H, rt := D.rt, bk := fun σ H => D.bk (σ.set i none) H, ct := fun σ H => D.ct (σ.set i none) H }
def heldS (σ : L2.St) (a : Addr) : Option Nat → L2.St
  | none => σ
  | some i => σ.set i (some (.ref a))
def wMix (K : PySem.W.Frag) (Wout : WX) (D : Ends) : List Cl → WX
  | [] => Wout
  | c :: r => fun cls d σ H => ∃ b, PySem.W.exmOne K cls c.c = some b ∧ (b = true → ∀ a, H a = none → c.ts a cls d (goneD D c.i) (heldS σ a c.i) H) ∧ (b = false → wMix K Wout D r cls d σ H)
inductive MixOk (X : Cx) : List ExceptHandler → List Cl → Prop
  | nil : MixOk X [] []
  | bare {x : Str} {c : Value} {ts : Addr → Value → Option Addr → TS} {b₀ : Stmt} {suite : List Stmt} {np pos' : Pos} {hds : List ExceptHandler} {l : List Cl} (hc : Names X x c)
      (hsu : ∀ (a : Addr) (oe : Obj) (cls : Value) (d : Option Addr) (pn : List (Addr × Obj)), Zc cls d oe → (∃ vs, oe.data = .fields vs) → PSs (X.suite a ((a, oe) :: pn)) (b₀ :: suite) (ts a cls d)) (r : MixOk X hds l) :
      MixOk X (.ExceptHandler (some (.Name x np)) none (b₀ :: suite) pos' :: hds) (⟨c, none, ts⟩ :: l)
  | named {x n : Str} {i : Nat} {c : Value} {ts : Addr → Value → Option Addr → TS} {b₀ : Stmt} {suite : List Stmt} {np pos' : Pos} {hds : List ExceptHandler} {l : List Cl} (hc : Names X x c) (hi : X.N[i]? = some n) (hln : X.env.kindOf n = some .local)
      (hsu : ∀ (a : Addr) (oe : Obj) (cls : Value) (d : Option Addr) (pn : List (Addr × Obj)), Zc cls d oe → (∃ vs, oe.data = .fields vs) → PSs (X.suite a ((a, oe) :: pn)) (b₀ :: suite) (ts a cls d)) (r : MixOk X hds l) :
      MixOk X (.ExceptHandler (some (.Name x np)) (some n) (b₀ :: suite) pos' :: hds) (⟨c, some i, ts⟩ :: l)
section
variable {X : Cx} {body : List Stmt} {h₀ : ExceptHandler} {hds : List ExceptHandler} {l : List Cl} {pos : Pos} {tb : WX → TS} {Wout : WX}
def tMix (K : PySem.W.Frag) (Wout : WX) (l : List Cl) (tb : WX → TS) : TS := fun D σ H => tb (wMix K Wout D l) D σ H
theorem ps_try_mix (hN : X.N.Nodup) (tk : Takes X Wout) (hs : X.stack = X.env :: X.outer) (hf : X.env.frame = some X.env.locals)
    (hb : ∀ (W : WX) (pn : List (Addr × Obj)) (xe : Value → Shared → Prop), Takes (X.tr pn xe) W → PassesOwn (model X.prog X.w) X.A X.env xe → PSs (X.tr pn xe) body (tb W))
    (hh : MixOk X (h₀ :: hds) l) : PS X (.Try body (h₀ :: hds) [] [] pos) (tMix X.K Wout l tb) := by
  refine ⟨fun pins s σ H D I h => ?_⟩
  have ok := I.ok
  have hfr : X.A.frames = some (X.env :: X.outer) := ok.frames.trans (by rw [hs])
  refine wpAny_Try_except ?_
  refine wpAny_mono ((hb (wMix X.K Wout D l) (X.pn ++ pins) (fun e s₁ => wpAny (model X.prog X.w) X.A (noteFrame e X.env) (fun _ s₂ => wpAny (model X.prog X.w) X.A (setFlight e none) (fun _ s₃ =>
    wpAny (model X.prog X.w) X.A (handleBy e X.env (h₀ :: hds)) (SP X pins D) X.xe s₃) X.xe s₂) X.xe s₁) (fun u s' xx => ?_) PassesOwn.looking).run [] s σ H D (I.toTry _) h) (fun f s1 hsp => ?_) (fun e s1 he => he)
  · obtain ⟨a, B, sI, pins', σ', H', cls, d, rfl, J', nb, up, sky, na, os, ag, w⟩ := xx
    have J : Inv X pins σ' H' sI := J'.ofTry ok
    have sky' : Sky B (X.env :: X.outer) a (Zc cls d) X.env.locals s'.heap := by rw [← hs]; exact sky
    show wpAny (model X.prog X.w) X.A (noteFrame (.ref a) X.env) _ _ _
    refine Sky.land Zc.steady hfr hf sky' fun h3 fl3 up3 => ?_
    have J3 : Inv X pins σ' H' { s' with heap := h3 } := J.landed nb fl3.1 (up.trans up3) os ag
    obtain ⟨oe3, vs3, he3, hz3, hd3⟩ := fl3.there
    have nfr : a ∉ frs (X.env :: X.outer) := fun hm => by
      obtain ⟨_, o', e', hnf⟩ := fl3.2.2.1.mem hm
      rw [he3] at e'
      cases e'
      exact hnf _ hd3
    have nL : a ≠ X.env.locals := fun z => nfr (List.mem_filterMap.mpr ⟨X.env, List.mem_cons_self, by rw [hf, z]⟩)
    have nF : a ∉ X.fs := fun hm => by
      obtain ⟨e, he, q⟩ := List.mem_filterMap.mp hm
      exact nfr (List.mem_filterMap.mpr ⟨e, List.mem_cons_of_mem _ he, q⟩)
    have S3 := J3.suite he3 hd3 na nL nF
    have LT : PySem.W.Looks (model X.prog X.w) h3 (typeOf (.ref a)) cls := fun A Q E s k q => wpAny_typeOf_ref (k _ _ he3) (by rw [hz3.1]; exact q)
    have test : ∀ {x : Str} {c : Value} {np : Pos} {Q : Value → Shared → Prop} {E : Value → Shared → Prop}, Names X x c → Q c { s' with heap := h3 } →
        wpAny (model X.prog X.w) (X.A.mark (some (.ref a))) (eval (.Name x np) X.env) Q E { s' with heap := h3 } := fun {x c np Q E} hc q => by
      obtain ⟨hg, hdbg, hm | ⟨hm, hv, hnn⟩⟩ := hc
      · exact ld_glob (X := X.suite a ((a, oe3) :: (X.pn ++ pins))) S3 hg hm q hdbg
      · exact ld_blt (X := X.suite a ((a, oe3) :: (X.pn ++ pins))) S3 hg hm hv q hnn hdbg
    have go : ∀ {hds' : List ExceptHandler} {l' : List Cl}, MixOk X hds' l' → wMix X.K Wout D l' cls d σ' H' →
        wpAny (model X.prog X.w) X.A (handleBy (.ref a) X.env hds') (SP X pins D) X.xe { s' with heap := h3 } := by
      intro hds' l' hk
      induction hk with
      | nil =>
        intro w
        refine wpAny_handleBy_nil ?_
        obtain ⟨k1, k2, k3, oe, vs, T, oT, ts', he, hz, hd, h1, hr⟩ := id fl3
        unfold PySem.passOn
        refine wpAny_bind (wpAny_field he hd h1 ?_)
        rw [if_neg (show ¬ ((Value.ref T == Value.none) = true) from by simp)]
        have fin : wpAny (model X.prog X.w) X.A (setFlight (.ref a) X.env.frame) (fun _ s4 => wpAny (model X.prog X.w) X.A (throw (.ref a) : Sem Flow) (SP X pins D) X.xe s4) X.xe { s' with heap := h3 } := by
          rw [hf]
          refine HandSPX.setFlight_upZ fl3 fun h4 hh4 up4 => wpAny_throw (tk _ _ ?_)
          exact ⟨a, B, sI, pins, σ', H', cls, d, rfl, J, nb, (up.trans up3).trans up4, .inr (.inr (by rw [hs]; exact hh4)), na, os, ag, w⟩
        first
          | exact wpAny_bind (wpAny_pure (wpAny_bind fin))
          | exact wpAny_bind fin
      | @bare x c ts b₀ suite np pos' hds2 l2 hc hsu r ih =>
        intro w
        obtain ⟨b, hb1, hyes, hno⟩ := w
        refine wpAny_handleBy_cons (codeAny_handlers_test ?_) (by intro q; cases q)
        have LM := PySem.W.exm_one (M := model X.prog X.w) (J3.kIn) LT hb1
        refine test hc (LM.here ?_)
        cases b with
        | true =>
          refine codeAny_handlers_suite (HandSPX.lands_againZ fl3 fun h4 fl4 up4 => ?_)
          have J4 : Inv X pins σ' H' { s' with heap := h4 } := J.landed nb fl4.1 ((up.trans up3).trans up4) os ag
          obtain ⟨oe4, vs4, he4, hz4, hd4⟩ := fl4.there
          refine wpAny_mono ((hsu a oe4 cls d (X.pn ++ pins) hz4 ⟨_, hd4⟩).run [] _ _ H' _ (J4.suite he4 hd4 na nL nF) (hyes rfl a na)) (fun f s6 hsp => ?_) (fun _ _ z => False.elim z)
          cases f with
          | ret u =>
            obtain ⟨v6, σ6, H6, S6, r6, q6⟩ := hsp
            exact ⟨_, _, _, S6.unsuite ok, r6, q6⟩
          | next =>
            obtain ⟨σ6, H6, S6, q6⟩ := hsp
            exact ⟨_, _, S6.unsuite ok, q6⟩
          | brk =>
            obtain ⟨σ6, H6, S6, q6⟩ := hsp
            exact ⟨_, _, S6.unsuite ok, q6⟩
          | cont =>
            obtain ⟨σ6, H6, S6, q6⟩ := hsp
            exact ⟨_, _, S6.unsuite ok, q6⟩
        | false =>
          show wpAny _ X.A (handleBy (.ref a) X.env hds2) _ _ _
          exact ih (hno rfl)
      | @named x n i c ts b₀ suite np pos' hds2 l2 hc hi hln hsu r ih =>
        intro w
        obtain ⟨b, hb1, hyes, hno⟩ := w
        refine wpAny_handleBy_cons (codeAny_handlers_test ?_) (by intro q; cases q)
        have LM := PySem.W.exm_one (M := model X.prog X.w) (J3.kIn) LT hb1
        refine test hc (LM.here ?_)
        cases b with
        | true =>
          refine codeAny_handlers_suite_as (HandSPX.lands_againZ fl3 fun h4 fl4 up4 => ?_)
          have J4 : Inv X pins σ' H' { s' with heap := h4 } := J.landed nb fl4.1 ((up.trans up3).trans up4) os ag
          obtain ⟨oe4, vs4, he4, hz4, hd4⟩ := fl4.there
          refine store_ok (X := X.suite a ((a, oe4) :: (X.pn ++ pins))) (v := .ref a) (J4.suite he4 hd4 na nL nF) hN hi (.inl hln) rfl (fun s5 S5 => ?_) (.inr hln)
          refine wpAny_mono ((hsu a oe4 cls d (X.pn ++ pins) hz4 ⟨_, hd4⟩).run [] s5 _ H' _ S5 (hyes rfl a na)) (fun f s6 hsp => ?_) (fun _ _ z => False.elim z)
          have fin : ∀ {σ6 : L2.St} {H6 : Hp} {Q : Shared → Prop}, Inv (X.suite a ((a, oe4) :: (X.pn ++ pins))) [] σ6 H6 s6 → (∀ s7, Inv X pins (σ6.set i none) H6 s7 → Q s7) →
              wpAny (model X.prog X.w) X.A (do bindName X.env n .none; unbindBehindTheSuite X.env n pos') (fun _ s7 => Q s7) X.xe s6 := fun {σ6 H6 Q} S6 hq => gone_ok (S6.unsuite ok) hN hi hln hq
          cases f with
          | ret u =>
            obtain ⟨v6, σ6, H6, S6, r6, q6⟩ := hsp
            exact fin S6 fun s7 J7 => ⟨_, _, _, J7, r6, q6⟩
          | next =>
            obtain ⟨σ6, H6, S6, q6⟩ := hsp
            exact fin S6 fun s7 J7 => ⟨_, _, J7, q6⟩
          | brk =>
            obtain ⟨σ6, H6, S6, q6⟩ := hsp
            exact fin S6 fun s7 J7 => ⟨_, _, J7, q6⟩
          | cont =>
            obtain ⟨σ6, H6, S6, q6⟩ := hsp
            exact fin S6 fun s7 J7 => ⟨_, _, J7, q6⟩
        | false =>
          show wpAny _ X.A (handleBy (.ref a) X.env hds2) _ _ _
          exact ih (hno rfl)
    exact go hh w
  · cases f with
    | ret u =>
      obtain ⟨v, σ', H', J', r, q⟩ := hsp
      exact ⟨v, σ', H', J'.ofTry ok, r, q⟩
    | next =>
      obtain ⟨σ', H', J', q⟩ := hsp
      exact wpAny_execs_nil ⟨σ', H', J'.ofTry ok, q⟩
    | brk =>
      obtain ⟨σ', H', J', q⟩ := hsp
      exact ⟨σ', H', J'.ofTry ok, q⟩
    | cont =>
      obtain ⟨σ', H', J', q⟩ := hsp
      exact ⟨σ', H', J'.ofTry ok, q⟩
end
end U

set_option Elab.async false
set_option linter.all false
set_option maxRecDepth 100000
set_option maxHeartbeats 4000000
namespace U
open PySem PySem.Spec PyProof.Rows L2

/-! ### the end of a law row -/
theorem law_G {P : Program} {w : World} {K : PySem.W.Frag} {mg mb : Str → Option Value} {k : Nat} {fa a : Addr} {fd : FuncData} {x : Str} {sp : Sp} {s₁ : Shared} {vs : List Value} {ns : List Int}
    (KX : K.In s₁.heap) (hns : s₁.heap.Ns mainGlobals mg) (hb : s₁.heap.Ns builtinsNs mb) (hbb : ∀ x : Str, x ≠ "__name__" → mb x = bootBuiltins x) (hlim : s₁.heap.NoLimit) (hg : s₁.gens = #[])
    (ha : s₁.heap.get? a = some { cls := .type "list", data := .seq vs.toArray }) (hi : IntsAre vs ns) (hl : ns.length ≤ sizeLine) (hr : Room k callerA)
    (F : ∀ base : Heap, K.In base → base.Ns mainGlobals mg → FnG P w K mg base k fa fd [x] sp) (hbind : ∀ (s : Shared) (u : Value), BindsTo s fd ⟨[u], []⟩ [(x, u)])
    (hsp : ∀ H : Hp, Only H → SqL K H a (ns.map V.int) → sp [.ref a] H (fun v _ => v = .bl true) fun _ _ _ => False) :
    codeAny (model P w) callerA (.call (.ref fa) ⟨[.ref a], []⟩) (fun r s' => r = .ok (.ret (.bool true)) ∧ OldK s₁.heap s'.heap ∧ s'.os = s₁.os ∧ AllBare s'.gens) s₁ := by
  have rv := vals_ints hi
  have core : ∀ H : Hp, Only H → SqL K H a (ns.map V.int) → HOk P w H s₁.heap → (∀ b, H b ≠ none → b = a) → (H a ≠ none → K.lookup a = none) →
      codeAny (model P w) callerA (.call (.ref fa) ⟨[.ref a], []⟩) (fun r s' => r = .ok (.ret (.bool true)) ∧ OldK s₁.heap s'.heap ∧ s'.os = s₁.os ∧ AllBare s'.gens) s₁ := by
    intro H hO hS hok hA hK
    have isA : ∀ {b : Addr} {u : HO}, H b = some u → b = a := fun {b u} q => hA b (by rw [q]; simp)
    have nsK : ∀ {b : Addr} {m : Str → Option Value}, s₁.heap.Ns b m → (hidT s₁.heap H).Ns b m := fun {b m} hn => by
      obtain ⟨o, es, ep, e, d, r⟩ := hn
      refine ⟨o, es, ep, hidT_get e ?_, d, r⟩
      cases q : H b with
      | none => rfl
      | some u =>
        have z := isA q
        subst z
        rw [ha] at e
        cases e
        have d' : Data.seq vs.toArray _ = Data.dict es ep := d
        cases d'
    have hKb : K.In (hidT s₁.heap H) := fun b o e => hidT_get (KX b o e) (by
      cases q : H b with
      | none => rfl
      | some u =>
        have z := isA q
        subst z
        rw [hK (by rw [q]; simp)] at e
        cases e)
    have hM : Mod K mg (hidT s₁.heap H) := ⟨hKb, nsK hns, ⟨mb, nsK hb, hbb⟩, let ⟨mc, h1, h2⟩ := hlim; ⟨mc, nsK h1, h2⟩⟩
    have e0 : Env0 P w K mg (hidT s₁.heap H) callerA [] s₁ H := ⟨rfl, hM, fun b o e => of_hidT e, Nat.le_of_eq (hidT_size _ _), trivial, fun b hb => absurd (show b ∈ ([] : List Addr) from hb) (by simp), hok, .of_eq hg⟩
    refine codeAny_mono ((F _ hKb (nsK hns)).run callerA [] s₁ H ⟨[.ref a], []⟩ [.ref a] [.ref a] _ _ hr rfl e0 (hbind s₁ (.ref a)) (.cons rfl .nil) (hsp H hO hS)) fun r s' h => ?_
    cases r with
    | error e =>
      obtain ⟨_, _, _, _, _, _, _, _, _, _, _, _, z⟩ := h
      exact z.elim
    | ok fl =>
      cases fl with
      | next => exact False.elim h
      | brk => exact False.elim h
      | cont => exact False.elim h
      | ret u =>
        obtain ⟨v, H', os, bare, un, hok', r', q⟩ := h
        have q' : v = .bl true := q
        subst q'
        obtain rfl : u = Value.bool true := r'
        refine ⟨rfl, OldK.of_keep fun b o e => ?_, os, bare⟩
        cases q : H b with
        | none => exact un.keep b o e q (by intro z; exact absurd (show b ∈ ([] : List Addr) from z) (by simp)) (by simp)
        | some u =>
          rcases hO b with z | ⟨ob, xs, z⟩
          · rw [q] at z
            cases z
          · obtain ⟨e1, _⟩ := hok b _ z
            obtain ⟨e2, _⟩ := hok' b _ (un.frzs b ob _ z)
            rw [e] at e1
            cases e1
            exact e2
  cases hk : K.lookup a with
  | some o =>
    have e := KX a o hk
    rw [ha] at e
    cases e
    exact core (fun _ => none) (fun _ => .inl rfl) (.inr ⟨_, vs.toArray, _, hk, rfl, rfl, rfl, by rw [List.size_toArray, hi.length]; exact hl, by simpa using rv⟩) (fun b u z => by have z' : (none : Option HO) = some u := z; cases z') (fun b z => absurd rfl z) fun z => absurd rfl z
  | none =>
    have at_ : ∀ {b : Addr} {u : HO}, (if b = a then some (HO.frz { cls := .type "list", data := .seq vs.toArray } (.lst (ns.map V.int))) else none) = some u → b = a ∧ u = HO.frz { cls := .type "list", data := .seq vs.toArray } (.lst (ns.map V.int)) := fun {b u} z => by
      by_cases hb : b = a
      · rw [if_pos hb] at z
        cases z
        exact ⟨hb, rfl⟩
      · rw [if_neg hb] at z
        cases z
    refine core (fun b => if b = a then some (.frz { cls := .type "list", data := .seq vs.toArray } (.lst (ns.map V.int))) else none) (fun b => ?_) (.inl (.inr ⟨{ cls := .type "list", data := .seq vs.toArray }, if_pos rfl⟩)) (fun b u z => ?_) (fun b z => ?_) fun _ => hk
    · by_cases hb : b = a
      · exact .inr ⟨_, _, if_pos hb⟩
      · exact .inl (if_neg hb)
    · obtain ⟨rfl, rfl⟩ := at_ z
      exact ⟨ha, by rw [List.length_map]; exact hl, vs, _, rv, ha⟩
    · by_cases hb : b = a
      · exact hb
      · exact absurd (if_neg hb) z
theorem walk_G {l : PySem.W.OpenLaw} {n k : Nat} {q : Program} {loose : List Str} {XP : (Str → Option Value) → Heap → Prop} {YP : World → Heap → Prop} {d : DefRec} {sp : World → PySem.W.Frag → Sp} {x : Str}
    (hn : l.most = some n) (hn2 : n ≤ sizeLine) (hdf : d.params.defaults = []) (hr : Room k callerA)
    (F : ∀ (w : World) (mg : Str → Option Value) (fa : Addr) (h : Heap), YP w h → h.Ns mainGlobals mg → mg d.name = some (.ref fa) →
      ∃ (K : PySem.W.Frag) (fd : FuncData), K.In h ∧ (∀ (s : Shared) (u : Value), BindsTo s fd ⟨[u], []⟩ [(x, u)]) ∧
        ∀ base : Heap, K.In base → base.Ns mainGlobals mg → FnG l.prog w K mg base k fa fd [x] (sp w K))
    (hsp : ∀ (w : World) (K : PySem.W.Frag) (H : Hp) (a : Addr) (ns : List Int), ns.length ≤ n → (∀ z ∈ ns, Builtin.Int.intBits z ≤ 1048576) → Only H → SqL K H a (ns.map V.int) → sp w K [.ref a] H (fun v _ => v = .bl true) fun _ _ _ => False) :
    PySem.W.WalkO q loose XP YP l.row.toRowW d [] (fun f vs => PySem.call f vs) := by
  refine Att.attach_callB hn hdf fun w s₀ s₁ mg mb fa o pm cd doc a vs ns G Y ho hd hcd hmg hobj hints hlen hbits hg => ?_
  obtain ⟨K, fd, KX, hb, hF⟩ := F w mg fa _ Y G.T.g hmg
  exact law_G KX G.T.g G.T.b G.T.builtins G.T.nolimit hg hobj hints (Nat.le_trans hlen hn2) hr hF hb fun H hO hS => hsp w K H a ns hlen hbits hO hS
end U

set_option Elab.async false
set_option linter.all false
set_option maxRecDepth 100000
set_option maxHeartbeats 4000000
namespace U
open PySem PySem.Spec PyProof.Rows L2

/-! ### operators by short names -/
def oAdd : R2 := rI0 fun i j => .int (i + j)
def oSub : R2 := rI0 fun i j => .int (i - j)
def oMul : R2 := rI CMul fun i j => .int (i * j)
def oDiv : R2 := rI CDiv fun i j => .int (i / j)
def oMod : R2 := rI (fun _ j => 0 < j) fun i j => .int (i % j)
def oPow : R2 := rI CPow fun i j => .int (i ^ j.toNat)
def oAnd : R2 := rI0 fun i j => .int (Builtin.bitAnd i j)
def oLt : R2 := rI0 fun i j => .bl (decide (i < j))
def oLe : R2 := rI0 fun i j => .bl (decide (i ≤ j))
def oGt : R2 := rI0 fun i j => .bl (decide (j < i))
def oGe : R2 := rI0 fun i j => .bl (decide (j ≤ i))
def oAddS : R2 := fun x y H Q => ∃ i j, x = .str i ∧ y = .str j ∧ i.length + j.length ≤ sizeLine ∧ Q (.str (i ++ j)) H
def oIsN : R2 := fun x y H Q => y = .non ∧ Q (.bl (decide (x = .non))) H
def oNotN : R2 := fun x y H Q => y = .non ∧ Q (.bl (!decide (x = .non))) H
/-- one sign in a text, or not -/
def oInS : R2 := fun x y H Q => ∃ (c : Nat) (z : Str), x = .str ⟨#[c]⟩ ∧ y = .str z ∧ Q (.bl (decide (c ∈ z.cps.toList))) H
def oNotInS : R2 := fun x y H Q => ∃ (c : Nat) (z : Str), x = .str ⟨#[c]⟩ ∧ y = .str z ∧ Q (.bl (!decide (c ∈ z.cps.toList))) H
section
variable {X : Cx}
theorem q_add : OpR X (binaryOp .Add) oAdd := op_add
theorem q_sub : OpR X (binaryOp .Sub) oSub := op_sub
theorem q_mul : OpR X (binaryOp .Mult) oMul := op_mul
theorem q_div : OpR X (binaryOp .FloorDiv) oDiv := op_fdiv
theorem q_mod : OpR X (binaryOp .Mod) oMod := op_mod
theorem q_pow : OpR X (binaryOp .Pow) oPow := op_pow
theorem q_and : OpR X (binaryOp .BitAnd) oAnd := op_and
theorem q_lt : OpR X (compareOp .Lt) oLt := op_lt
theorem q_le : OpR X (compareOp .LtE) oLe := op_le
theorem q_gt : OpR X (compareOp .Gt) oGt := op_gt
theorem q_ge : OpR X (compareOp .GtE) oGe := op_ge
theorem q_addS : OpR X (binaryOp .Add) oAddS := op_add_str
theorem q_isN : OpR X (compareOp .Is) oIsN := op_isN
theorem q_notN : OpR X (compareOp .IsNot) oNotN := op_notN
theorem q_inS : OpR X (compareOp .In) oInS := op_in_sign
theorem q_notInS : OpR X (compareOp .NotIn) oNotInS := op_notIn_sign
end
/-- text * n, the text's codes n times -/
def repS (z : Str) (n : Int) : Str := ⟨(List.replicate n.toNat z.cps.toList).flatten.toArray⟩
def oRepS : R2 := fun x y H Q => ∃ z n, x = .str z ∧ y = .int n ∧ 0 ≤ n ∧ n < 100000 ∧ z.length ≤ 100 ∧ Q (.str (repS z n)) H
theorem foldl_cps (xs : List (Array Nat)) (acc : Array Nat) : (xs.foldl (· ++ ·) acc).toList = acc.toList ++ (xs.map (·.toList)).flatten := by
  induction xs generalizing acc with
  | nil => simp
  | cons x r ih =>
    show (r.foldl (· ++ ·) (acc ++ x)).toList = _
    rw [ih, Array.toList_append, List.map_cons, List.flatten_cons, List.append_assoc]
theorem repS_eq (z : Str) (n : Int) : (⟨(List.replicate n.toNat z.cps).foldl (· ++ ·) #[]⟩ : Str) = repS z n := by
  unfold repS
  congr 1
  apply Array.toList_inj.mp
  rw [foldl_cps]
  simp
theorem q_repS {X : Cx} : OpR X (binaryOp .Mult) oRepS := by
  intro pins s σ H x y v u Q I rx ry h
  obtain ⟨z, n, rfl, rfl, h0, h1, h2, q⟩ := h
  obtain ⟨t, rfl⟩ := rx
  obtain ⟨t', rfl⟩ := ry
  have e1 : decide (n < -(2 ^ 63 : Int)) = false := decide_eq_false (by omega)
  have e2 : decide (n ≥ 2 ^ 63) = false := decide_eq_false (by omega)
  refine PySem.P.mul_str (by rw [e1, e2]; rfl) (fun hn _ => ?_) (fun hn _ => ?_) ?_
  · have h3 : (92233720368547 : Int) ≤ (2 ^ 63 - 1) / n := Int.le_ediv_of_mul_le (by omega) (by omega)
    omega
  · have hm : z.length * n.toNat ≤ 100 * 100000 := Nat.mul_le_mul h2 (by omega)
    unfold Builtin.Str.tooLong
    rw [decide_eq_false_iff_not]
    have : sizeLine = 16777216 := sizeLine_eq
    omega
  · have hz : z.length * n.toNat ≤ sizeLine := Nat.le_trans (Nat.mul_le_mul h2 (show n.toNat ≤ 100000 by omega)) (by rw [sizeLine_eq]; decide)
    by_cases hn : n < 1
    · rw [if_pos hn]
      refine ⟨by show (0 : Nat) ≤ sizeLine; exact Nat.zero_le _, .str (repS z n), H, I.tok _, ⟨s.toks, ?_⟩, q⟩
      have e : n = 0 := by omega
      subst e
      rfl
    · rw [if_neg hn]
      by_cases hs : (n == 1 || z.length == 0) = true
      · rw [if_pos hs]
        refine ⟨.str (repS z n), H, I, ⟨t, ?_⟩, q⟩
        congr 1
        rw [← repS_eq]
        rcases Bool.or_eq_true_iff.mp hs with e | e
        · have e' : n = 1 := by simpa using e
          subst e'
          have : (1 : Int).toNat = 1 := rfl
          rw [this]
          simp [List.replicate]
        · have e' : z.cps = #[] := by
            have : z.cps.size = 0 := by simpa [Str.length] using e
            exact Array.eq_empty_of_size_eq_zero this
          obtain ⟨c⟩ := z
          simp only at e'
          subst e'
          congr 1
          apply Array.toList_inj.mp
          rw [foldl_cps]
          simp
      · rw [if_neg hs, repS_eq]
        refine ⟨?_, .str (repS z n), H, I.tok _, ⟨_, rfl⟩, q⟩
        have : (repS z n).length = z.length * n.toNat := by
          simp [repS, Str.length, Nat.mul_comm]
        rw [this]
        exact hz
end U

set_option Elab.async false
set_option linter.all false
set_option maxRecDepth 100000
set_option maxHeartbeats 4000000
namespace U
open PySem PySem.Spec PyProof.Rows L2
abbrev Ex := Evl.Ex
def tTru (K : PySem.W.Frag) (ta : TE) : TT := fun σ H Q => ta σ H fun x H' => ∃ k, TruV K x H' k ∧ Q k H'

/-! ### stepping through a reading: one lemma a head -/
section
variable {K : PySem.W.Frag} {σ : L2.St} {H : Hp} {Q : VK} {QT : Bool → Hp → Prop} {QA : List V → Hp → Prop} {D : Ends} {ta tb tc te tv : TE} {t u : TS} {tt tu : TT} {tr tz : TA} {r r' : R2} {x y v : V} {i j : Int} {b : Bool} {xs : List V} {a p C dx : Addr}
-- values
theorem r_var {n : Nat} (h : σ[n]? = some (some v)) (q : Q v H) : tVar n σ H Q := ⟨v, h, q⟩
theorem r_c (q : Q v H) : tC v σ H Q := q
theorem r_op (q : ta σ H fun x H1 => tb σ H1 fun y H2 => r x y H2 Q) : tOp r ta tb σ H Q := q
theorem r_un {f : V → Hp → VK → Prop} (q : ta σ H fun x H1 => f x H1 Q) : tUn f ta σ H Q := q
theorem r_nil (q : QA [] H) : tNil σ H QA := q
theorem r_cons (q : ta σ H fun x H1 => tr σ H1 fun xs H2 => QA (x :: xs) H2) : tCons ta tr σ H QA := q
theorem r_tup (q : tr σ H fun xs H1 => xs.length ≤ sizeLine ∧ ∀ p, H1 p = none → Q (.ref p) (upd H1 p (.tup xs))) : tTup tr σ H Q := q
theorem r_lst (q : tr σ H fun xs H1 => xs.length ≤ sizeLine ∧ ∀ p, H1 p = none → Q (.ref p) (upd H1 p (.lst xs))) : tLst tr σ H Q := q
theorem r_cb {f : List V → Hp → VK → Prop} (q : tr σ H fun vs H1 => f vs H1 Q) : tCB f tr σ H Q := q
theorem r_call {sp : Sp} {E : L2.St → XK} (q : tr σ H fun vs H1 => sp vs H1 Q (E σ)) : tCallS sp E tr σ H Q := q
theorem r_meth {sp : Sp} {m : Str} {E : L2.St → XK} (q : ta σ H fun x H1 => ∃ a dx fs, x = .ref a ∧ H1 a = some (.ins C dx fs) ∧ fs.lookup m = none ∧ tr σ H1 fun vs H2 => sp (x :: vs) H2 Q (E σ)) : tMethS C m sp E ta tr σ H Q := q
theorem r_methG {m : Str} {fs : List (Str × V)} {A : Prop} (h : H a = some (.ins C dx fs)) (l : fs.lookup m = none) (q : A) : ∃ a' dx' fs', V.ref a = .ref a' ∧ H a' = some (.ins C dx' fs') ∧ fs'.lookup m = none ∧ A := ⟨a, dx, fs, rfl, h, l, q⟩
theorem r_make {sp : Sp} {E : L2.St → XK} (q : tr σ H fun vs H1 => ∀ x dx, H1 x = none → H1 dx = none → dx ≠ x → sp (.ref x :: vs) (upd (upd H1 dx (.own x)) x (.ins C dx [])) (fun v H2 => v = .non ∧ Q (.ref x) H2) (E σ)) : tMakeS C sp E tr σ H Q := q
theorem r_fld {f : Str} (q : ta σ H fun x H1 => ∃ a C dx fs v, x = .ref a ∧ H1 a = some (.ins C dx fs) ∧ Cls K C ∧ NoAttr K C f ∧ fs.lookup f = some v ∧ Q v H1) : tFld K ta f σ H Q := q
theorem r_fldG {f : Str} {fs : List (Str × V)} {R : V → Prop} (h : H a = some (.ins C dx fs)) (c : Cls K C) (n : NoAttr K C f) (l : fs.lookup f = some v) (q : R v) :
    ∃ a' C' dx' fs' v', V.ref a = .ref a' ∧ H a' = some (.ins C' dx' fs') ∧ Cls K C' ∧ NoAttr K C' f ∧ fs'.lookup f = some v' ∧ R v' := ⟨a, C, dx, fs, v, rfl, h, c, n, l, q⟩
theorem r_if' (q : tt σ H fun c H1 => if c = true then ta σ H1 Q else tb σ H1 Q) : tIf tt ta tb σ H Q := q
theorem r_andV (q : ta σ H fun x H1 => ∃ c, x = .bl c ∧ if c = true then tb σ H1 Q else Q (.bl false) H1) : tAndV ta tb σ H Q := q
theorem r_orV (q : ta σ H fun x H1 => ∃ c, x = .bl c ∧ if c = true then Q (.bl true) H1 else tb σ H1 Q) : tOrV ta tb σ H Q := q
theorem r_notV (q : ta σ H fun x H1 => ∃ c, x = .bl c ∧ Q (.bl (!c)) H1) : tNotV ta σ H Q := q
theorem r_sl {f : V → Option Int → Option Int → Hp → VK → Prop} {tl th : TO} (q : te σ H fun x H1 => tl σ H1 fun l H2 => th σ H2 fun u H3 => f x l u H3 Q) : tSl f te tl th σ H Q := q
theorem r_noPart {QO : Option Int → Hp → Prop} (q : QO none H) : tNoPart σ H QO := q
theorem r_part {QO : Option Int → Hp → Prop} (q : te σ H fun x H1 => ∃ i, x = .int i ∧ QO (some i) H1) : tPart te σ H QO := q
theorem r_bm {T : String} {f : V → List V → Hp → VK → Prop} (q : ta σ H fun x H1 => tyV K T x H1 ∧ tr σ H1 fun xs H2 => f x xs H2 Q) : tBM K T f ta tr σ H Q := q
theorem r_bm0 {T : String} {f : V → List V → Hp → VK → Prop} (q : ta σ H fun x H1 => tyV K T x H1 ∧ f x [] H1 Q) : tBM0 K T f ta σ H Q := q
theorem r_m1 {f : V → List V → Hp → VK → Prop} (q : ta σ H fun x H1 => (∃ a, x = .str a) ∧ te σ H1 fun y H2 => f x [y] H2 Q) : tM1 f ta te σ H Q := q
-- what a value gives to ∃
theorem r_exI {R : Int → Prop} (q : R i) : ∃ k, V.int i = .int k ∧ R k := ⟨i, rfl, q⟩
theorem r_exB {R : Bool → Prop} (q : R b) : ∃ k, V.bl b = .bl k ∧ R k := ⟨b, rfl, q⟩
theorem r_exS {z : Str} {R : Prop} (q : R) : (∃ k, V.str z = .str k) ∧ R := ⟨⟨z, rfl⟩, q⟩
-- operators on values
theorem r_add (q : Q (.int (i + j)) H) : oAdd (.int i) (.int j) H Q := ⟨i, j, rfl, rfl, q⟩
theorem r_sub (q : Q (.int (i - j)) H) : oSub (.int i) (.int j) H Q := ⟨i, j, rfl, rfl, q⟩
theorem r_mul (h : CMul i j) (q : Q (.int (i * j)) H) : oMul (.int i) (.int j) H Q := ⟨i, j, rfl, rfl, h, q⟩
theorem r_div (h : CDiv i j) (q : Q (.int (i / j)) H) : oDiv (.int i) (.int j) H Q := ⟨i, j, rfl, rfl, h, q⟩
theorem r_mod (h : 0 < j) (q : Q (.int (i % j)) H) : oMod (.int i) (.int j) H Q := ⟨i, j, rfl, rfl, h, q⟩
theorem r_pow (h : CPow i j) (q : Q (.int (i ^ j.toNat)) H) : oPow (.int i) (.int j) H Q := ⟨i, j, rfl, rfl, h, q⟩
theorem r_and2 (q : Q (.int (Builtin.bitAnd i j)) H) : oAnd (.int i) (.int j) H Q := ⟨i, j, rfl, rfl, q⟩
theorem r_lt (q : Q (.bl (decide (i < j))) H) : oLt (.int i) (.int j) H Q := ⟨i, j, rfl, rfl, q⟩
theorem r_le (q : Q (.bl (decide (i ≤ j))) H) : oLe (.int i) (.int j) H Q := ⟨i, j, rfl, rfl, q⟩
theorem r_gt (q : Q (.bl (decide (j < i))) H) : oGt (.int i) (.int j) H Q := ⟨i, j, rfl, rfl, q⟩
theorem r_ge (q : Q (.bl (decide (j ≤ i))) H) : oGe (.int i) (.int j) H Q := ⟨i, j, rfl, rfl, q⟩
theorem r_addS {z w : Str} (h : z.length + w.length ≤ sizeLine) (q : Q (.str (z ++ w)) H) : oAddS (.str z) (.str w) H Q := ⟨z, w, rfl, rfl, h, q⟩
theorem r_repS {z : Str} (h : 0 ≤ i ∧ i < 100000 ∧ z.length ≤ 100) (q : Q (.str (repS z i)) H) : oRepS (.str z) (.int i) H Q := ⟨z, i, rfl, rfl, h.1, h.2.1, h.2.2, q⟩
theorem dI : decide (V.int i = V.int j) = decide (i = j) := by rw [Bool.eq_iff_iff]; simp
theorem dS {z w : Str} : decide (V.str z = V.str w) = decide (z = w) := by rw [Bool.eq_iff_iff]; simp
theorem dB {b c : Bool} : decide (V.bl b = V.bl c) = decide (b = c) := by rw [Bool.eq_iff_iff]; simp
theorem r_eqI (q : Q (.bl (decide (i = j))) H) : rEq (.int i) (.int j) H Q := ⟨rfl, by rw [dI]; exact q⟩
theorem r_neI (q : Q (.bl (!decide (i = j))) H) : rNe (.int i) (.int j) H Q := ⟨rfl, by rw [dI]; exact q⟩
theorem r_eqS {z w : Str} (q : Q (.bl (decide (z = w))) H) : rEq (.str z) (.str w) H Q := ⟨rfl, by rw [dS]; exact q⟩
theorem r_neS {z w : Str} (q : Q (.bl (!decide (z = w))) H) : rNe (.str z) (.str w) H Q := ⟨rfl, by rw [dS]; exact q⟩
theorem r_eqNI (q : Q (.bl false) H) : rEq .non (.int j) H Q := ⟨rfl, by exact q⟩
theorem r_isNN (q : Q (.bl true) H) : oIsN .non .non H Q := ⟨rfl, q⟩
theorem r_isNI (q : Q (.bl false) H) : oIsN (.int i) .non H Q := ⟨rfl, by exact q⟩
theorem r_isNR (q : Q (.bl false) H) : oIsN (.ref a) .non H Q := ⟨rfl, by exact q⟩
theorem r_notNN (q : Q (.bl false) H) : oNotN .non .non H Q := ⟨rfl, q⟩
theorem r_notNI (q : Q (.bl true) H) : oNotN (.int i) .non H Q := ⟨rfl, by exact q⟩
theorem r_notNR (q : Q (.bl true) H) : oNotN (.ref a) .non H Q := ⟨rfl, by exact q⟩
theorem r_inS {c : Nat} {z : Str} (q : Q (.bl (decide (c ∈ z.cps.toList))) H) : oInS (.str ⟨#[c]⟩) (.str z) H Q := ⟨c, z, rfl, rfl, q⟩
theorem r_notInS {c : Nat} {z : Str} (q : Q (.bl (!decide (c ∈ z.cps.toList))) H) : oNotInS (.str ⟨#[c]⟩) (.str z) H Q := ⟨c, z, rfl, rfl, q⟩
theorem r_ixL (h : SqL K H p xs) (e : atI xs i = some v) (q : Q v H) : rIxL K (.ref p) (.int i) H Q := ⟨p, xs, i, v, rfl, rfl, h, e, q⟩
theorem r_ixT (h : SqT K H p xs) (e : atI xs i = some v) (q : Q v H) : rIxT K (.ref p) (.int i) H Q := ⟨p, xs, i, v, rfl, rfl, h, e, q⟩
theorem r_ixS {z : Str} {c : Nat} (h : z.length ≤ sizeLine) (e : atI z.cps.toList i = some c) (q : Q (.str ⟨#[c]⟩) H) : rIxS (.str z) (.int i) H Q := ⟨z, i, c, rfl, rfl, h, e, q⟩
-- tests
theorem r_test (q : te σ H fun x H1 => ∃ k, x = .bl k ∧ QT k H1) : tTest te σ H QT := q
theorem r_B (q : te σ H fun x H1 => ∃ k, x = .bl k ∧ QT k H1) : tB te σ H QT := q
theorem r_tru (q : te σ H fun x H1 => ∃ k, TruV K x H1 k ∧ QT k H1) : tTru K te σ H QT := q
theorem r_truI {R : Bool → Prop} (q : R (i != 0)) : ∃ k, TruV K (.int i) H k ∧ R k := ⟨_, rfl, q⟩
theorem r_truB {R : Bool → Prop} (q : R b) : ∃ k, TruV K (.bl b) H k ∧ R k := ⟨_, rfl, q⟩
theorem r_truN {R : Bool → Prop} (q : R false) : ∃ k, TruV K .non H k ∧ R k := ⟨_, rfl, q⟩
theorem r_truS {R : Bool → Prop} {z : Str} (h : z.length ≤ sizeLine) (q : R ((z.length : Int) != 0)) : ∃ k, TruV K (.str z) H k ∧ R k := ⟨_, ⟨h, rfl⟩, q⟩
theorem r_truL {R : Bool → Prop} (h : SqL K H p xs) (q : R (!xs.isEmpty)) : ∃ k, TruV K (.ref p) H k ∧ R k := ⟨_, .inl ⟨xs, h, rfl⟩, q⟩
theorem r_truT {R : Bool → Prop} (h : SqT K H p xs) (q : R (!xs.isEmpty)) : ∃ k, TruV K (.ref p) H k ∧ R k := ⟨_, .inr (.inl ⟨xs, h, rfl⟩), q⟩
theorem r_and (q : tt σ H fun c H1 => if c = true then tu σ H1 QT else QT false H1) : tAnd tt tu σ H QT := q
theorem r_or (q : tt σ H fun c H1 => if c = true then QT true H1 else tu σ H1 QT) : tOr tt tu σ H QT := q
theorem r_not (q : tt σ H fun c H1 => QT (!c) H1) : tNot tt σ H QT := q
theorem r_chain (q : ta σ H fun x H1 => tb σ H1 fun y H2 => r x y H2 fun z H3 => ∃ k, z = .bl k ∧ (if k = true then tc σ H3 fun w' H4 => r' y w' H4 Q else Q (.bl false) H3)) : tChain r r' ta tb tc σ H Q := q
-- statements
theorem r_seq (q : t { D with nx := u D } σ H) : tSeq t u D σ H := q
theorem r_next (q : D.nx σ H) : tNext D σ H := q
theorem r_brk (q : D.bk σ H) : tBreak D σ H := q
theorem r_cont (q : D.ct σ H) : tCont D σ H := q
theorem r_drop (q : te σ H fun _ H1 => D.nx σ H1) : tDrop te D σ H := q
theorem r_ret (q : te σ H D.rt) : tRet te D σ H := q
theorem r_retN (q : D.rt .non H) : tRetN D σ H := q
theorem r_if (q : tt σ H fun b H1 => if b = true then t D σ H1 else u D σ H1) : tIfS tt t u D σ H := q
theorem r_asg {g : TG} (q : te σ H fun x H1 => g x σ H1 D.nx) : tAsg te g D σ H := q
theorem r_name {n : Nat} {R : L2.St → Hp → Prop} (q : R (σ.set n (some v)) H) : gName n v σ H R := q
theorem r_gTup {n : Nat} {g : TGs} {R : L2.St → Hp → Prop} (h : SqT K H a xs) (l : xs.length = n) (q : g xs σ H R) : gTup K n g (.ref a) σ H R := ⟨a, xs, rfl, h, l, q⟩
theorem r_gNil {R : L2.St → Hp → Prop} (q : R σ H) : gNil [] σ H R := ⟨rfl, q⟩
theorem r_gCons {g : TG} {gs : TGs} {R : L2.St → Hp → Prop} (q : g v σ H fun σ' H' => gs xs σ' H' R) : gCons g gs (v :: xs) σ H R := ⟨v, xs, rfl, q⟩
theorem r_gSub {f : TSet} {R : L2.St → Hp → Prop} (q : ta σ H fun o H1 => tb σ H1 fun i H2 => f o i v H2 fun H3 => R σ H3) : gSub ta tb f v σ H R := q
theorem r_setL {n : Nat} {R : Hp → Prop} (h : H p = some (.lst xs)) (e : ixN xs.length i = some n) (q : R (upd H p (.lst (xs.set n v)))) : rSetL (.ref p) (.int i) v H R := ⟨p, xs, i, n, rfl, rfl, h, e, q⟩
theorem r_sFld {f : Str} (q : tv σ H fun y H1 => ta σ H1 fun x H2 => ∃ a C dx fs, x = .ref a ∧ H2 a = some (.ins C dx fs) ∧ Cls K C ∧ NoAttr K C f ∧ fs.length < 1000 ∧ D.nx σ (upd H2 a (.ins C dx (putF f y fs)))) : sFld K ta tv f D σ H := q
theorem r_sFldG {f : Str} {fs fs2 : List (Str × V)} (h : H a = some (.ins C dx fs)) (c : Cls K C) (n : NoAttr K C f) (l : fs.length < 1000) (e : putF f y fs = fs2) (q : D.nx σ (upd H a (.ins C dx fs2))) :
    ∃ a' C' dx' fs', V.ref a = .ref a' ∧ H a' = some (.ins C' dx' fs') ∧ Cls K C' ∧ NoAttr K C' f ∧ fs'.length < 1000 ∧ D.nx σ (upd H a' (.ins C' dx' (putF f y fs'))) := ⟨a, C, dx, fs, rfl, h, c, n, l, by rw [e]; exact q⟩
-- raise
def tRaiseP (W : WX) (tm : L2.St → Hp → XK → Prop) : TS := fun _ σ H => tm σ H fun cls d H' => W cls d σ H'
theorem r_raise {W : WX} {tm : L2.St → Hp → XK → Prop} (q : tm σ H fun cls d H' => W cls d σ H') : tRaiseP W tm D σ H := q
-- branches
theorem ifT {A B : Prop} {c : Prop} [Decidable c] (h : c) (q : A) : if decide c = true then A else B := by rw [if_pos (decide_eq_true h)]; exact q
theorem ifF {A B : Prop} {c : Prop} [Decidable c] (h : ¬ c) (q : B) : if decide c = true then A else B := by rw [decide_eq_false h, if_neg Bool.false_ne_true]; exact q
theorem ifNT {A B : Prop} {c : Prop} [Decidable c] (h : ¬ c) (q : A) : if (!decide c) = true then A else B := by rw [decide_eq_false h, Bool.not_false, if_pos rfl]; exact q
theorem ifNF {A B : Prop} {c : Prop} [Decidable c] (h : c) (q : B) : if (!decide c) = true then A else B := by rw [decide_eq_true h, Bool.not_true, if_neg Bool.false_ne_true]; exact q
theorem if2 {A B : Prop} {c : Prop} [Decidable c] (h1 : c → A) (h2 : ¬ c → B) : if decide c = true then A else B := by
  by_cases h : c
  · exact ifT h (h1 h)
  · exact ifF h (h2 h)
theorem ifN2 {A B : Prop} {c : Prop} [Decidable c] (h1 : ¬ c → A) (h2 : c → B) : if (!decide c) = true then A else B := by
  by_cases h : c
  · exact ifNF h (h2 h)
  · exact ifNT h (h1 h)
theorem ifb2 {A B : Prop} {c : Bool} (h1 : c = true → A) (h2 : c = false → B) : if c = true then A else B := by
  cases c with
  | true => rw [if_pos rfl]; exact h1 rfl
  | false => rw [if_neg Bool.false_ne_true]; exact h2 rfl
theorem r_small {n : Nat} {A : Prop} (h : n ≤ 1000) (q : A) : n ≤ sizeLine ∧ A := ⟨Nat.le_trans h (by decide), q⟩
end
end U

set_option Elab.async false
set_option linter.all false
set_option maxRecDepth 100000
set_option maxHeartbeats 4000000
namespace U
open PySem PySem.Spec PyProof.Rows L2

/-! ### further operators and built-ins by short names -/
def oNeg : V → Hp → VK → Prop := rU fun i => .int (-i)
theorem q_neg {X : Cx} : UnR X (unaryOp .USub) oNeg := un_neg
def rS_lt : R2 := fun x y H Q => ∃ i j, x = .str i ∧ y = .str j ∧ Q (.bl (decide (i.cps.toList < j.cps.toList))) H
def bLenS : List V → Hp → VK → Prop := fun xs H Q => ∃ z, xs = [.str z] ∧ z.length ≤ sizeLine ∧ Q (.int z.length) H
def bLen (K : PySem.W.Frag) : List V → Hp → VK → Prop := fun xs H Q => ∃ p ys, xs = [.ref p] ∧ (SqL K H p ys ∨ SqT K H p ys) ∧ Q (.int ys.length) H
def bAbs : List V → Hp → VK → Prop := fun xs H Q => ∃ i, xs = [.int i] ∧ Q (.int (if i < 0 then -i else i)) H
def bMax : List V → Hp → VK → Prop := fun xs H Q => ∃ i j, xs = [.int i, .int j] ∧ Q (.int (if j > i then j else i)) H
def bMin : List V → Hp → VK → Prop := fun xs H Q => ∃ i j, xs = [.int i, .int j] ∧ Q (.int (if j < i then j else i)) H
def bInt : List V → Hp → VK → Prop := fun xs H Q => (∃ i, xs = [.int i] ∧ Q (.int i) H) ∨ ∃ k, xs = [.bl k] ∧ Q (.int (if k then 1 else 0)) H
def bIntS : List V → Hp → VK → Prop := fun xs H Q => ∃ a n, xs = [.str a] ∧ PySem.intText? a = some n ∧ a.length ≤ 640 ∧ Q (.int n) H
def bStr : List V → Hp → VK → Prop := fun xs H Q => ∃ i : Int, xs = [.int i] ∧ i.natAbs.log2 < 1920 ∧ Q (.str (toString i)) H
def bOrd : List V → Hp → VK → Prop := fun xs H Q => ∃ x, xs = [.str x] ∧ x.length = 1 ∧ Q (.int (x.cps.getD 0 0 : Nat)) H
def bList (K : PySem.W.Frag) : List V → Hp → VK → Prop := fun xs H Q => ∃ p ys, xs = [.ref p] ∧ (SqL K H p ys ∨ SqT K H p ys) ∧ ∀ l, H l = none → Q (.ref l) (upd H l (.lst ys))
def bTuple (K : PySem.W.Frag) : List V → Hp → VK → Prop := fun xs H Q => ∃ p ys, xs = [.ref p] ∧ ((SqL K H p ys ∧ ∀ l, H l = none → Q (.ref l) (upd H l (.tup ys))) ∨ (SqT K H p ys ∧ Q (.ref p) H))
def bFind : V → List V → Hp → VK → Prop := fun x xs H Q => ∃ a b, x = .str a ∧ xs = [.str b] ∧ Q (.int (Txt.find a b)) H
def bFind3 : V → List V → Hp → VK → Prop := fun x xs H Q => ∃ (a b : Str) (i : Int), x = .str a ∧ xs = [.str b, .int i] ∧ Q (.int (Txt.find3 a b i)) H
section
variable {X : Cx}
theorem c_lenS : CallR X (.builtin "len") bLenS := call_len_str
theorem c_len : CallR X (.builtin "len") (bLen X.K) := call_len_seq
theorem c_abs : CallR X (.builtin "abs") bAbs := call_abs
theorem c_max (hc : X.calm = true) : CallR X (.builtin "max") bMax := call_max2 hc
theorem c_min (hc : X.calm = true) : CallR X (.builtin "min") bMin := call_min2 hc
theorem c_int : CallR X (.type "int") bInt := call_int1
theorem c_intS : CallR X (.type "int") bIntS := call_int_str
theorem c_str : CallR X (.type "str") bStr := call_str_int
theorem c_ord : CallR X (.builtin "ord") bOrd := call_ord
theorem c_list : CallR X (.type "list") (bList X.K) := call_list_of
theorem c_tuple : CallR X (.type "tuple") (bTuple X.K) := call_tuple_of
theorem m_find : MtR X "str.find" bFind := mt_find
theorem m_find3 : MtR X "str.find" bFind3 := mt_find3
/-- a constant of the module -/
theorem pe_k {x : Str} {v : V} {pos : Pos} (h : ∃ u, X.mg x = some u ∧ RelV v u) (hg : Gl X x := by rfl) (hd : (x == ("__debug__" : Str)) = false := by decide) : PE X (.Name x pos) (tC v) := by
  obtain ⟨u, hm, r⟩ := h
  exact pe_glob hg hm r hd
end
section
variable {K : PySem.W.Frag} {H : Hp} {Q : VK} {i j : Int} {p : Addr} {xs : List V}
theorem r_neg (q : Q (.int (-i)) H) : oNeg (.int i) H Q := ⟨i, rfl, q⟩
theorem r_lenS {z : Str} (h : z.length ≤ sizeLine) (q : Q (.int z.length) H) : bLenS [.str z] H Q := ⟨z, rfl, h, q⟩
theorem r_lenL (h : SqL K H p xs) (q : Q (.int xs.length) H) : bLen K [.ref p] H Q := ⟨p, xs, rfl, .inl h, q⟩
theorem r_lenT (h : SqT K H p xs) (q : Q (.int xs.length) H) : bLen K [.ref p] H Q := ⟨p, xs, rfl, .inr h, q⟩
theorem r_abs (q : Q (.int (if i < 0 then -i else i)) H) : bAbs [.int i] H Q := ⟨i, rfl, q⟩
theorem r_max (q : Q (.int (if j > i then j else i)) H) : bMax [.int i, .int j] H Q := ⟨i, j, rfl, q⟩
theorem r_min (q : Q (.int (if j < i then j else i)) H) : bMin [.int i, .int j] H Q := ⟨i, j, rfl, q⟩
theorem r_int (q : Q (.int i) H) : bInt [.int i] H Q := .inl ⟨i, rfl, q⟩
theorem r_intB {b : Bool} (q : Q (.int (if b then 1 else 0)) H) : bInt [.bl b] H Q := .inr ⟨b, rfl, q⟩
theorem r_intS {z : Str} (h : PySem.intText? z = some i) (l : z.length ≤ 640) (q : Q (.int i) H) : bIntS [.str z] H Q := ⟨z, i, rfl, h, l, q⟩
theorem r_str (h : i.natAbs.log2 < 1920) (q : Q (.str (toString i)) H) : bStr [.int i] H Q := ⟨i, rfl, h, q⟩
theorem r_ord {c : Nat} (q : Q (.int c) H) : bOrd [.str ⟨#[c]⟩] H Q := ⟨⟨#[c]⟩, rfl, rfl, q⟩
theorem r_list (h : SqL K H p xs) (q : ∀ l, H l = none → Q (.ref l) (upd H l (.lst xs))) : bList K [.ref p] H Q := ⟨p, xs, rfl, .inl h, q⟩
theorem r_listT (h : SqT K H p xs) (q : ∀ l, H l = none → Q (.ref l) (upd H l (.lst xs))) : bList K [.ref p] H Q := ⟨p, xs, rfl, .inr h, q⟩
theorem r_tupleL (h : SqL K H p xs) (q : ∀ l, H l = none → Q (.ref l) (upd H l (.tup xs))) : bTuple K [.ref p] H Q := ⟨p, xs, rfl, .inl ⟨h, q⟩⟩
theorem r_find {z w : Str} (q : Q (.int (Txt.find z w)) H) : bFind (.str z) [.str w] H Q := ⟨z, w, rfl, rfl, q⟩
theorem r_append {v : V} (h : H p = some (.lst xs)) (l : xs.length < sizeLine) (q : Q .non (upd H p (.lst (xs ++ [v])))) : rAppend (.ref p) [v] H Q := ⟨p, xs, v, rfl, rfl, h, l, q⟩
theorem r_tyL {A : Prop} (h : SqL K H p xs) (q : A) : tyV K "list" (.ref p) H ∧ A := ⟨.inl ⟨rfl, xs, h⟩, q⟩
end

/-! ### own exceptions -/
/-- what the written part says of an own exception class without __init__ -/
structure ExcT (K : PySem.W.Frag) (mg : Str → Option Value) (x : Str) (C : Addr) : Prop where
  gC : mg x = some (.ref C)
  xP : PySem.W.excIn K C [.type "ValueError", .type "Exception", .type "BaseException", .type "object"] "ValueError.__new__" = true
  kC : PySem.W.keepIn K (.ref C) = true
  bP : PySem.W.subIn K (.ref C) (.type "BaseException") = some true
  tP : PySem.W.typeIn K (.ref C) = some (.type "type")
theorem ExcT.rs {K : PySem.W.Frag} {mg : Str → Option Value} {x : Str} {C : Addr} (T : ExcT K mg x C) {X : Cx} (hK : X.K = K := by rfl) : Raises X (.ref C) := by
  subst hK
  exact raises_own T.bP T.tP
/-- .. with an __init__ that stores its arguments in the fields fs -/
def spX1 (K : PySem.W.Frag) (C : Addr) (f : Str) : Sp := fun vs H Q _ => ∃ (a : Addr) (v : V), vs = [.ref a, v] ∧ H a = some (exo a C none) ∧
  ∀ d, H d = none → d ≠ a → Q .non (upd (upd H d (exd d [(f, v)])) a (exo a C (some d)))
structure ExcI (P : Program) (w : World) (K : PySem.W.Frag) (mg : Str → Option Value) (base : Heap) (x : Str) (C : Addr) (sp : Sp) : Prop where
  gC : mg x = some (.ref C)
  ox : OexC K C
  ex : ∃ (f : Addr) (fd : FuncData) (ps : List Str), PySem.W.findIn K (.ref C) "__init__" = some (some (.ref f)) ∧ PySem.W.typeIn K (.ref f) = some (.type "function") ∧ Binds K fd ps [] ∧ FnOk P w K mg base CX0 1 f fd ps sp
def tMkX (C : Addr) (f : Str) (ta : TA) : L2.St → Hp → XK → Prop := fun σ H Q => ta σ H fun vs H1 => ∃ v, vs = [v] ∧ ∀ d, H1 d = none → Q (.ref C) (some d) (upd H1 d (.xd [(f, v)]))
section
variable {X : Cx} {C : Addr} {k : Nat} {x f : Str} {p pos : Pos} {e : Expr} {ta : TA}
/-- an argument list's reading, weakened -/
def tMono (ta : TA) : TA := fun σ H Q => ∃ Q1 : List V → Hp → Prop, ta σ H Q1 ∧ ∀ vs H', Q1 vs H' → Q vs H'
theorem pa_mono {es : List Expr} (ha : PA X es ta) : PA X es (tMono ta) := by
  refine ⟨fun pos pins s σ H Q I h => ?_⟩
  obtain ⟨Q1, h1, hm⟩ := h
  exact thn (ha.run pos pins s σ H Q1 I h1) fun us s1 hh => by
    obtain ⟨vs, H1, I1, r, q⟩ := hh
    exact ⟨vs, H1, I1, r, hm vs H1 q⟩
theorem upd_del {H : Hp} {a d : Addr} {o1 o2 o3 o4 : HO} (ha : H a = none) (hd : d ≠ a) : upd (del (upd (upd (upd H a o1) d o2) a o3) a) d o4 = upd H d o4 := by
  funext b
  by_cases h1 : b = d
  · subst h1
    rw [upd_same, upd_same]
  · rw [upd_ne h1, upd_ne h1]
    by_cases h2 : b = a
    · subst h2
      rw [del_same, ha]
    · rw [del_ne h2, upd_ne h2, upd_ne h1, upd_ne h2]
theorem pmk_x1 (E : ExcI X.prog X.w X.K X.mg X.base x C (spX1 X.K C f)) (g : Go (k + 2) X) (ha : PA X [e] ta) (hg : Gl X x := by rfl)
    (hdb : (x == ("__debug__" : Str)) = false := by decide) (he : starEach [e] X.env = (false, eval e X.env) :: starEach [] X.env := by rfl) (hpl : (backTo pos (starEach [] X.env)).any (·.1) = false := by rfl) :
    PMk X (.Call (.Name x p) [e] [] pos) (tMkX C f ta) := by
  obtain ⟨fI, fd, ps, iC, tI, hb, F⟩ := E.ex
  have main : PMk X (.Call (.Name x p) [e] [] pos) (tMkO C (spX1 X.K C f) [] (tMono ta)) :=
    pmk_oex (k := 1) (dvs := []) (ds := []) E.ox iC tI F (g.rm.mono (by omega)) hb .nil (fun _ _ _ _ _ _ _ h => h.elim) hg E.gC (pa_mono ha) hdb he hpl
  intro pins s σ H Q I h
  refine main pins s σ H Q I ⟨_, h, fun vs H1 hh => ?_⟩
  obtain ⟨v, rfl, q⟩ := hh
  refine ⟨by show 1 ≤ 1000; decide, fun a ha' => ⟨a, v, rfl, upd_same, fun d hd hne => ⟨rfl, d, [(f, v)], upd_same, ?_, ?_, ?_⟩⟩⟩
  · rw [upd_ne hne, upd_same]
  · rw [upd_ne hne] at hd
    exact hd
  · rw [upd_del ha' hne]
    refine q d ?_
    rw [upd_ne hne] at hd
    exact hd
end

/-! ### isinstance in an except suite; the clause's class told by the reading -/
def rIsPc (K : PySem.W.Frag) (D C a : Addr) (cls : Value) : List V → Hp → VK → Prop := fun xs H Q => cls = .ref D ∧ rIsP K D C a xs H Q
theorem call_isPc {X : Cx} {a D C : Addr} {cls : Value} {d : Option Addr} {oe : Obj} {pn : List (Addr × Obj)} (hz : Zc cls d oe) : CallR (X.suite a ((a, oe) :: pn)) (.builtin "isinstance") (rIsPc X.K D C a cls) := by
  intro pins s σ H xs us Q I r h
  obtain ⟨rfl, h⟩ := h
  exact call_isP hz pins s σ H xs us Q I r h
def rIsEc (K : PySem.W.Frag) (D a : Addr) (cls : Value) (d : Option Addr) : List V → Hp → VK → Prop := fun xs H Q => cls = .ref D ∧ d = none ∧ rIsE K D a xs H Q
theorem call_isEc {X : Cx} {a D : Addr} {cls : Value} {d : Option Addr} {oe : Obj} {pn : List (Addr × Obj)} (T : ExcC X.K D) (hz : Zc cls d oe) (hf : ∃ vs, oe.data = .fields vs) : CallR (X.suite a ((a, oe) :: pn)) (.builtin "isinstance") (rIsEc X.K D a cls d) := by
  intro pins s σ H xs us Q I r h
  obtain ⟨rfl, rfl, h⟩ := h
  exact call_isE T hz hf pins s σ H xs us Q I r h
/-- the class that an except clause names is an own one -/
theorem nm {X : Cx} {x : Str} {C : Addr} (h : X.mg x = some (.ref C)) (hg : Gl X x := by rfl) (hd : (x == ("__debug__" : Str)) = false := by decide) : Names X x (.ref C) := ⟨hg, hd, .inl h⟩
end U

set_option Elab.async false
set_option linter.all false
set_option maxRecDepth 100000
set_option maxHeartbeats 4000000
namespace U
open PySem PySem.Spec PyProof.Rows L2

/-! ### comprehensions: what a comprehension gives, by its items -/
theorem mapI_length {α : Type} (f : Nat → α) (n : Nat) : ((List.range n).map f).length = n := by simp
theorem mapI_succ {α : Type} (f : Nat → α) (n : Nat) : (List.range (n + 1)).map f = (List.range n).map f ++ [f n] := by
  rw [List.range_succ, List.map_append]
  rfl
/-- a list's items, one by one, in a relation -/
def Rel (R : Nat → V → Hp → Prop) (ys : List V) (H : Hp) : Prop := ∀ i y, ys[i]? = some y → R i y H
theorem line_of {n : Nat} (h : n ≤ 1000000) : n < sizeLine := Nat.lt_of_le_of_lt h (by rw [sizeLine_eq]; decide)
def LcG (J : It) (g : TG) (tt : TT) (te : TE) (vs : List Nat) (σ : L2.St) (H1 : Hp) (Q : VK) : Prop := ∀ D, H1 D = none → ∃ W : Nat → Nat → Hp → Prop, (∃ m, W 0 m (upd H1 D (.lst []))) ∧ ∀ i m H, W i m H →
      (J.stop i H ∧ Q (.ref D) H) ∨ (J.go i H ∧ ∃ Nx : Hp → Prop, (∀ H', Nx H' → ∃ m', m' < m ∧ W (i + 1) m' H') ∧ ∀ x H', J.yld i H x H' → g x (wipe σ vs) H' fun σ2 H2 => wipe σ2 vs = wipe σ vs ∧ tt σ2 H2 fun b H3 =>
        if b = true then te σ2 H3 fun y H4 => ∃ acc, H4 D = some (.lst acc) ∧ acc.length < sizeLine ∧ Nx (upd H4 D (.lst (acc ++ [y]))) else Nx H3)
section
variable {J : It} {n : Nat} {G : Hp → Prop} {Y : Nat → Hp → V → Hp → Prop} {g : TG} {tt : TT} {te : TE} {vs : List Nat} {σ : L2.St} {H1 : Hp} {Q : VK}
/-- no test, each item a value known ahead -/
theorem r_lcF (w : Walk J n G Y) (f : Nat → V) (hn : n ≤ 1000000) (hG : ∀ H', Ex H1 H' → G H')
    (he : ∀ (i : Nat) (x : V) (H H' : Hp) (P : VK), i < n → Ex H1 H → Y i H x H' → (∀ H4, Ex H H4 → P (f i) H4) → g x (wipe σ vs) H' fun σ2 H2 => wipe σ2 vs = wipe σ vs ∧ te σ2 H2 P)
    (hd : ∀ D H', H1 D = none → Ex H1 H' → H' D = some (.lst ((List.range n).map f)) → Q (.ref D) H') :
    LcG J g tYes te vs σ H1 Q := by
  intro D hD
  refine lc_it w (fun i H => Ex H1 H ∧ H D = some (.lst ((List.range i).map f))) ⟨Evl.Ex.new hD, upd_same⟩ (fun i H _ p => hG H p.1) (fun i x H H' hi p y => ?_) (fun H p => hd D H hD p.1 p.2)
  simp only [tYes, if_true]
  refine he i x H H' _ hi p.1 y fun H4 e => ⟨_, e D _ p.2, ?_, Evl.Ex.mut (p.1.trans e) hD, ?_⟩
  · rw [mapI_length]
    exact line_of (by omega)
  · rw [mapI_succ]
    exact upd_same
/-- no test, each item in a relation that a growing heap keeps -/
theorem r_lcR (w : Walk J n G Y) (R : Nat → V → Hp → Prop) (hR : ∀ i y H H', Ex H H' → R i y H → R i y H') (hn : n ≤ 1000000) (hG : ∀ H', Ex H1 H' → G H')
    (he : ∀ (i : Nat) (x : V) (H H' H0 : Hp) (P : VK), i < n → Ex H1 H0 → Ex H0 H → Y i H x H' → (∀ y H4, Ex H H4 → (∀ D o, H0 D = none → R i y (upd H4 D o)) → P y H4) → g x (wipe σ vs) H' fun σ2 H2 => wipe σ2 vs = wipe σ vs ∧ te σ2 H2 P)
    (hd : ∀ D ys H', H1 D = none → Ex H1 H' → ys.length = n → H' D = some (.lst ys) → Rel R ys H' → Q (.ref D) H') : True := trivial
end
theorem Ex_drop {H H' : Hp} {D : Addr} (hD : H D = none) (e : Ex H H') : Ex H (del H' D) := fun a o h => by
  rw [del_ne (ne_of_none h hD)]
  exact e a o h
/-! ### loops -/
def ForG (J : It) (g : TG) (tb : TS) (D : Ends) (σ : L2.St) (H : Hp) : Prop := ∃ W : Nat → Nat → L2.St → Hp → Prop, (∃ m, W 0 m σ H) ∧ ∀ i m σ H, W i m σ H →
  (J.stop i H ∧ D.nx σ H) ∨ (J.go i H ∧ ∃ N : L2.St → Hp → Prop, (∀ σ' H', N σ' H' → ∃ m', m' < m ∧ W (i + 1) m' σ' H') ∧ ∀ x H', J.yld i H x H' → g x σ H' fun σ2 H2 => tb { D with nx := N, ct := N, bk := D.nx } σ2 H2)
section
variable {K : PySem.W.Frag} {σ : L2.St} {H : Hp} {Q : VK} {D : Ends} {te : TE} {ta : TA} {tb : TS} {g : TG} {xs : List V} {a : Addr} {i j : Int}
theorem r_forL (q : te σ H fun x H1 => ∃ a, x = .ref a ∧ (∃ xs, SqL K H1 a xs) ∧ ForG (Itl K a) g tb D σ H1) : tFor (iList K te) g tb D σ H := q
theorem r_forT (q : te σ H fun x H1 => ∃ a, x = .ref a ∧ (∃ xs, SqT K H1 a xs) ∧ ForG (Itt K a) g tb D σ H1) : tFor (iTup K te) g tb D σ H := q
theorem r_forS (q : te σ H fun v H1 => ∃ x, v = .str x ∧ ForG (Its x) g tb D σ H1) : tFor (iStr te) g tb D σ H := q
theorem r_forR1 (q : ta σ H fun vs H1 => ∃ j : Int, vs = [.int j] ∧ -(2 ^ 62) ≤ j ∧ j < 2 ^ 62 ∧ ForG (Itr 0 j.toNat) g tb D σ H1) : tFor (iRng1 ta) g tb D σ H := q
theorem r_forR2 (q : ta σ H fun vs H1 => ∃ i j : Int, vs = [.int i, .int j] ∧ (-(2 ^ 62) ≤ i ∧ i < 2 ^ 62 ∧ -(2 ^ 62) ≤ j ∧ j < 2 ^ 62) ∧ ForG (Itr i (j - i).toNat) g tb D σ H1) : tFor (iRng2 ta) g tb D σ H := q
theorem r_gL {B : Addr → Prop} (h : SqL K H a xs) (q : B a) : ∃ a', V.ref a = .ref a' ∧ (∃ xs, SqL K H a' xs) ∧ B a' := ⟨a, rfl, ⟨xs, h⟩, q⟩
theorem r_gT {B : Addr → Prop} (h : SqT K H a xs) (q : B a) : ∃ a', V.ref a = .ref a' ∧ (∃ xs, SqT K H a' xs) ∧ B a' := ⟨a, rfl, ⟨xs, h⟩, q⟩
theorem r_gS {z : Str} {B : Str → Prop} (q : B z) : ∃ x, V.str z = .str x ∧ B x := ⟨z, rfl, q⟩
theorem r_gR1 {B : Int → Prop} (h : -(2 ^ 62) ≤ j ∧ j < 2 ^ 62) (q : B j) : ∃ j' : Int, [V.int j] = [.int j'] ∧ -(2 ^ 62) ≤ j' ∧ j' < 2 ^ 62 ∧ B j' := ⟨j, rfl, h.1, h.2, q⟩
theorem r_gR2 {B : Int → Int → Prop} (h : (-(2 ^ 62) ≤ i ∧ i < 2 ^ 62) ∧ -(2 ^ 62) ≤ j ∧ j < 2 ^ 62) (q : B i j) : ∃ i' j' : Int, [V.int i, V.int j] = [.int i', .int j'] ∧ (-(2 ^ 62) ≤ i' ∧ i' < 2 ^ 62 ∧ -(2 ^ 62) ≤ j' ∧ j' < 2 ^ 62) ∧ B i' j' :=
  ⟨i, j, rfl, ⟨h.1.1, h.1.2, h.2.1, h.2.2⟩, q⟩
theorem r_lc {wi : TI} {tt : TT} {vs : List Nat} (q : wi σ H fun J H1 => LcG J g tt te vs σ H1 Q) : tLc wi g tt te vs σ H Q := q
theorem r_iL {R : It → Hp → Prop} (q : te σ H fun x H1 => ∃ a, x = .ref a ∧ (∃ xs, SqL K H1 a xs) ∧ R (Itl K a) H1) : iList K te σ H R := q
theorem r_iT {R : It → Hp → Prop} (q : te σ H fun x H1 => ∃ a, x = .ref a ∧ (∃ xs, SqT K H1 a xs) ∧ R (Itt K a) H1) : iTup K te σ H R := q
theorem r_iS {R : It → Hp → Prop} (q : te σ H fun v H1 => ∃ x, v = .str x ∧ R (Its x) H1) : iStr te σ H R := q
theorem r_iR1 {R : It → Hp → Prop} (q : ta σ H fun vs H1 => ∃ j : Int, vs = [.int j] ∧ -(2 ^ 62) ≤ j ∧ j < 2 ^ 62 ∧ R (Itr 0 j.toNat) H1) : iRng1 ta σ H R := q
theorem r_iR2 {R : It → Hp → Prop} (q : ta σ H fun vs H1 => ∃ i j : Int, vs = [.int i, .int j] ∧ (-(2 ^ 62) ≤ i ∧ i < 2 ^ 62 ∧ -(2 ^ 62) ≤ j ∧ j < 2 ^ 62) ∧ R (Itr i (j - i).toNat) H1) : iRng2 ta σ H R := q
theorem r_iR3 {R : It → Hp → Prop} (q : ta σ H fun vs H1 => ∃ (i j c : Int) (n : Nat), vs = [.int i, .int j, .int c] ∧ RgC i j c n ∧ R (Itc i c n) H1) : iRng3 ta σ H R := q
theorem r_mkx {C : Addr} {f : Str} {QX : XK} (q : ta σ H fun vs H1 => ∃ v, vs = [v] ∧ ∀ d, H1 d = none → QX (.ref C) (some d) (upd H1 d (.xd [(f, v)]))) : tMkX C f ta σ H QX := q
theorem r_mkG {v : V} {B : V → Prop} (q : B v) : ∃ v', [v] = [v'] ∧ B v' := ⟨v, rfl, q⟩
theorem if_nf {A B : Prop} (q : A) : if (!false) = true then A else B := q
theorem if_nt {A B : Prop} (q : B) : if (!true) = true then A else B := q
theorem r_all {bs : List Bool} (h : SqL K H a (bs.map V.bl)) (q : Q (.bl (bs.all id)) H) : rAll K [.ref a] H Q := ⟨a, bs, rfl, h, q⟩
theorem r_any {bs : List Bool} (h : SqL K H a (bs.map V.bl)) (q : Q (.bl (bs.any id)) H) : rAny K [.ref a] H Q := ⟨a, bs, rfl, h, q⟩
/-- a for over a list that the body leaves as it is: the invariant by the turn -/
theorem f_list (Pv : Nat → L2.St → Hp → Prop) (h0 : Pv 0 σ H) (hl : ∀ i σ H, i ≤ xs.length → Pv i σ H → SqL K H a xs)
    (hs : ∀ i x σ H, xs[i]? = some x → Pv i σ H → g x σ H fun σ2 H2 => tb { D with nx := Pv (i + 1), ct := Pv (i + 1), bk := D.nx } σ2 H2) (hd : ∀ σ H, Pv xs.length σ H → D.nx σ H) : ForG (Itl K a) g tb D σ H := for_list Pv h0 hl hs hd
theorem f_it {J : It} {n : Nat} {G : Hp → Prop} {Y : Nat → Hp → V → Hp → Prop} (w : Walk J n G Y) (Pv : Nat → L2.St → Hp → Prop) (h0 : Pv 0 σ H) (hG : ∀ i σ H, i ≤ n → Pv i σ H → G H)
    (hs : ∀ i x σ H H', i < n → Pv i σ H → Y i H x H' → g x σ H' fun σ2 H2 => tb { D with nx := Pv (i + 1), ct := Pv (i + 1), bk := D.nx } σ2 H2) (hd : ∀ σ H, Pv n σ H → D.nx σ H) : ForG J g tb D σ H := for_it w Pv h0 hG hs hd
theorem f_range {lo : Int} {n : Nat} (Pv : Nat → L2.St → Hp → Prop) (h0 : Pv 0 σ H)
    (hs : ∀ i σ H, i < n → Pv i σ H → g (.int (lo + i)) σ H fun σ2 H2 => tb { D with nx := Pv (i + 1), ct := Pv (i + 1), bk := D.nx } σ2 H2) (hd : ∀ σ H, Pv n σ H → D.nx σ H) : ForG (Itr lo n) g tb D σ H := for_range Pv h0 hs hd
end
theorem hp_ne {H : Hp} {a b : Addr} {o : HO} {r : Option HO} (h : b ≠ a) (q : H b = r) : upd H a o b = r := (upd_ne h).trans q
theorem hp_ex {H H' : Hp} {a : Addr} {o : HO} (e : Ex H H') (q : H a = some o) : H' a = some o := e a o q
theorem r_cut {t u : TS} {D : Ends} {σ : L2.St} {H : Hp} (M : L2.St → Hp → Prop) (h : t { D with nx := M } σ H) (k : ∀ σ' H', M σ' H' → u D σ' H') : Evl.tCut t u D σ H := ⟨M, h, k⟩
end U

set_option Elab.async false
set_option linter.all false
set_option maxRecDepth 100000
set_option maxHeartbeats 4000000
namespace U
open PySem PySem.Spec PyProof.Rows L2
/-- where the classes stand -/
structure Adr where
  DatabaseError : Addr
  BadBlock : Addr
  PowerLost : Addr
  Disk : Addr
structure TxtP (K : PySem.W.Frag) (A : Adr) : Prop where
  c_Disk : Cls K A.Disk
  n_Disk_size : NoAttr K A.Disk "size"
  n_Disk_blocks : NoAttr K A.Disk "blocks"
  n_Disk_queue : NoAttr K A.Disk "queue"
  n_Disk_left : NoAttr K A.Disk "left"
  n_Disk_down : NoAttr K A.Disk "down"
  m_BadBlock_BadBlock : PySem.W.exmOne K (.ref A.BadBlock) (.ref A.BadBlock) = some true
  m_PowerLost_BadBlock : PySem.W.exmOne K (.ref A.PowerLost) (.ref A.BadBlock) = some false
  m_PowerLost_PowerLost : PySem.W.exmOne K (.ref A.PowerLost) (.ref A.PowerLost) = some true
  i_BadBlock_DatabaseError : PySem.W.isIn K (.ref A.BadBlock) A.DatabaseError = true
  i_PowerLost_DatabaseError : PySem.W.isIn K (.ref A.PowerLost) A.DatabaseError = true
  i_PowerLost_BadBlock : PySem.W.kitOne K (.ref A.PowerLost) (.ref A.BadBlock) = some false
structure Txt (K : PySem.W.Frag) (mg : Str → Option Value) (A : Adr) : Prop where
  pure : TxtP K A
  b_abs : mg "abs" = none
  b_all : mg "all" = none
  b_int : mg "int" = none
  b_isinstance : mg "isinstance" = none
  b_len : mg "len" = none
  b_ord : mg "ord" = none
  b_range : mg "range" = none
  b_str : mg "str" = none
  e_PowerLost : ExcT K mg "PowerLost" A.PowerLost
  ec_PowerLost : ExcC K A.PowerLost
  g_BadBlock : mg "BadBlock" = some (.ref A.BadBlock)
  g_PowerLost : mg "PowerLost" = some (.ref A.PowerLost)
  k_BadBlock : ∃ u, mg "BadBlock" = some u ∧ RelV (.ref A.BadBlock) u
  k_DatabaseError : ∃ u, mg "DatabaseError" = some u ∧ RelV (.ref A.DatabaseError) u
  k_MOST_CHARACTERS : ∃ u, mg "MOST_CHARACTERS" = some u ∧ RelV (.int 64) u
  xf_BadBlock : XfC K A.BadBlock
  xn_BadBlock_index : PySem.W.findIn K (.ref A.BadBlock) "index" = some none
theorem Txt.c_Disk {K : PySem.W.Frag} {mg : Str → Option Value} {A : Adr} (T : Txt K mg A) : Cls K A.Disk := T.pure.c_Disk
def oDisk (A : Adr) (dx : Addr) (vsize vblocks vqueue vleft vdown : V) : HO := .ins A.Disk dx [("size", vsize), ("blocks", vblocks), ("queue", vqueue), ("left", vleft), ("down", vdown)]
theorem g_Disk_size {K : PySem.W.Frag} {A : Adr} (T : TxtP K A) {H : Hp} {p dx : Addr} {vsize vblocks vqueue vleft vdown : V} {R : V → Prop} (h : H p = some (oDisk A dx vsize vblocks vqueue vleft vdown)) (q : R vsize) :
    ∃ a C dx fs v, V.ref p = .ref a ∧ H a = some (.ins C dx fs) ∧ Cls K C ∧ NoAttr K C "size" ∧ fs.lookup ("size" : Str) = some v ∧ R v := r_fldG h T.c_Disk T.n_Disk_size (by kernel_rfl) q
theorem w_Disk_size {K : PySem.W.Frag} {A : Adr} (T : TxtP K A) {H : Hp} {p dx : Addr} {vsize vblocks vqueue vleft vdown : V} {y : V} {D : Ends} {σ : L2.St} (h : H p = some (oDisk A dx vsize vblocks vqueue vleft vdown)) (q : D.nx σ (upd H p (oDisk A dx y vblocks vqueue vleft vdown))) :
    ∃ a C dx fs, V.ref p = .ref a ∧ H a = some (.ins C dx fs) ∧ Cls K C ∧ NoAttr K C "size" ∧ fs.length < 1000 ∧ D.nx σ (upd H a (.ins C dx (putF "size" y fs))) := r_sFldG h T.c_Disk T.n_Disk_size (by show 5 < 1000; decide) (by kernel_rfl) q
theorem g_Disk_blocks {K : PySem.W.Frag} {A : Adr} (T : TxtP K A) {H : Hp} {p dx : Addr} {vsize vblocks vqueue vleft vdown : V} {R : V → Prop} (h : H p = some (oDisk A dx vsize vblocks vqueue vleft vdown)) (q : R vblocks) :
    ∃ a C dx fs v, V.ref p = .ref a ∧ H a = some (.ins C dx fs) ∧ Cls K C ∧ NoAttr K C "blocks" ∧ fs.lookup ("blocks" : Str) = some v ∧ R v := r_fldG h T.c_Disk T.n_Disk_blocks (by kernel_rfl) q
theorem w_Disk_blocks {K : PySem.W.Frag} {A : Adr} (T : TxtP K A) {H : Hp} {p dx : Addr} {vsize vblocks vqueue vleft vdown : V} {y : V} {D : Ends} {σ : L2.St} (h : H p = some (oDisk A dx vsize vblocks vqueue vleft vdown)) (q : D.nx σ (upd H p (oDisk A dx vsize y vqueue vleft vdown))) :
    ∃ a C dx fs, V.ref p = .ref a ∧ H a = some (.ins C dx fs) ∧ Cls K C ∧ NoAttr K C "blocks" ∧ fs.length < 1000 ∧ D.nx σ (upd H a (.ins C dx (putF "blocks" y fs))) := r_sFldG h T.c_Disk T.n_Disk_blocks (by show 5 < 1000; decide) (by kernel_rfl) q
theorem g_Disk_queue {K : PySem.W.Frag} {A : Adr} (T : TxtP K A) {H : Hp} {p dx : Addr} {vsize vblocks vqueue vleft vdown : V} {R : V → Prop} (h : H p = some (oDisk A dx vsize vblocks vqueue vleft vdown)) (q : R vqueue) :
    ∃ a C dx fs v, V.ref p = .ref a ∧ H a = some (.ins C dx fs) ∧ Cls K C ∧ NoAttr K C "queue" ∧ fs.lookup ("queue" : Str) = some v ∧ R v := r_fldG h T.c_Disk T.n_Disk_queue (by kernel_rfl) q
theorem w_Disk_queue {K : PySem.W.Frag} {A : Adr} (T : TxtP K A) {H : Hp} {p dx : Addr} {vsize vblocks vqueue vleft vdown : V} {y : V} {D : Ends} {σ : L2.St} (h : H p = some (oDisk A dx vsize vblocks vqueue vleft vdown)) (q : D.nx σ (upd H p (oDisk A dx vsize vblocks y vleft vdown))) :
    ∃ a C dx fs, V.ref p = .ref a ∧ H a = some (.ins C dx fs) ∧ Cls K C ∧ NoAttr K C "queue" ∧ fs.length < 1000 ∧ D.nx σ (upd H a (.ins C dx (putF "queue" y fs))) := r_sFldG h T.c_Disk T.n_Disk_queue (by show 5 < 1000; decide) (by kernel_rfl) q
theorem g_Disk_left {K : PySem.W.Frag} {A : Adr} (T : TxtP K A) {H : Hp} {p dx : Addr} {vsize vblocks vqueue vleft vdown : V} {R : V → Prop} (h : H p = some (oDisk A dx vsize vblocks vqueue vleft vdown)) (q : R vleft) :
    ∃ a C dx fs v, V.ref p = .ref a ∧ H a = some (.ins C dx fs) ∧ Cls K C ∧ NoAttr K C "left" ∧ fs.lookup ("left" : Str) = some v ∧ R v := r_fldG h T.c_Disk T.n_Disk_left (by kernel_rfl) q
theorem w_Disk_left {K : PySem.W.Frag} {A : Adr} (T : TxtP K A) {H : Hp} {p dx : Addr} {vsize vblocks vqueue vleft vdown : V} {y : V} {D : Ends} {σ : L2.St} (h : H p = some (oDisk A dx vsize vblocks vqueue vleft vdown)) (q : D.nx σ (upd H p (oDisk A dx vsize vblocks vqueue y vdown))) :
    ∃ a C dx fs, V.ref p = .ref a ∧ H a = some (.ins C dx fs) ∧ Cls K C ∧ NoAttr K C "left" ∧ fs.length < 1000 ∧ D.nx σ (upd H a (.ins C dx (putF "left" y fs))) := r_sFldG h T.c_Disk T.n_Disk_left (by show 5 < 1000; decide) (by kernel_rfl) q
theorem g_Disk_down {K : PySem.W.Frag} {A : Adr} (T : TxtP K A) {H : Hp} {p dx : Addr} {vsize vblocks vqueue vleft vdown : V} {R : V → Prop} (h : H p = some (oDisk A dx vsize vblocks vqueue vleft vdown)) (q : R vdown) :
    ∃ a C dx fs v, V.ref p = .ref a ∧ H a = some (.ins C dx fs) ∧ Cls K C ∧ NoAttr K C "down" ∧ fs.lookup ("down" : Str) = some v ∧ R v := r_fldG h T.c_Disk T.n_Disk_down (by kernel_rfl) q
theorem w_Disk_down {K : PySem.W.Frag} {A : Adr} (T : TxtP K A) {H : Hp} {p dx : Addr} {vsize vblocks vqueue vleft vdown : V} {y : V} {D : Ends} {σ : L2.St} (h : H p = some (oDisk A dx vsize vblocks vqueue vleft vdown)) (q : D.nx σ (upd H p (oDisk A dx vsize vblocks vqueue vleft y))) :
    ∃ a C dx fs, V.ref p = .ref a ∧ H a = some (.ins C dx fs) ∧ Cls K C ∧ NoAttr K C "down" ∧ fs.length < 1000 ∧ D.nx σ (upd H a (.ins C dx (putF "down" y fs))) := r_sFldG h T.c_Disk T.n_Disk_down (by show 5 < 1000; decide) (by kernel_rfl) q
theorem w0_Disk_size {K : PySem.W.Frag} {A : Adr} (T : TxtP K A) {H : Hp} {p dx : Addr} { y : V} {D : Ends} {σ : L2.St} (h : H p = some (.ins A.Disk dx [])) (q : D.nx σ (upd H p (.ins A.Disk dx [("size", y)]))) :
    ∃ a C dx fs, V.ref p = .ref a ∧ H a = some (.ins C dx fs) ∧ Cls K C ∧ NoAttr K C "size" ∧ fs.length < 1000 ∧ D.nx σ (upd H a (.ins C dx (putF "size" y fs))) := r_sFldG (fs2 := [("size", y)]) h T.c_Disk T.n_Disk_size (by show 0 < 1000; decide) (by kernel_rfl) q
theorem w0_Disk_blocks {K : PySem.W.Frag} {A : Adr} (T : TxtP K A) {H : Hp} {p dx : Addr} {vsize y : V} {D : Ends} {σ : L2.St} (h : H p = some (.ins A.Disk dx [("size", vsize)])) (q : D.nx σ (upd H p (.ins A.Disk dx [("size", vsize), ("blocks", y)]))) :
    ∃ a C dx fs, V.ref p = .ref a ∧ H a = some (.ins C dx fs) ∧ Cls K C ∧ NoAttr K C "blocks" ∧ fs.length < 1000 ∧ D.nx σ (upd H a (.ins C dx (putF "blocks" y fs))) := r_sFldG (fs2 := [("size", vsize), ("blocks", y)]) h T.c_Disk T.n_Disk_blocks (by show 1 < 1000; decide) (by kernel_rfl) q
theorem w0_Disk_queue {K : PySem.W.Frag} {A : Adr} (T : TxtP K A) {H : Hp} {p dx : Addr} {vsize vblocks y : V} {D : Ends} {σ : L2.St} (h : H p = some (.ins A.Disk dx [("size", vsize), ("blocks", vblocks)])) (q : D.nx σ (upd H p (.ins A.Disk dx [("size", vsize), ("blocks", vblocks), ("queue", y)]))) :
    ∃ a C dx fs, V.ref p = .ref a ∧ H a = some (.ins C dx fs) ∧ Cls K C ∧ NoAttr K C "queue" ∧ fs.length < 1000 ∧ D.nx σ (upd H a (.ins C dx (putF "queue" y fs))) := r_sFldG (fs2 := [("size", vsize), ("blocks", vblocks), ("queue", y)]) h T.c_Disk T.n_Disk_queue (by show 2 < 1000; decide) (by kernel_rfl) q
theorem w0_Disk_left {K : PySem.W.Frag} {A : Adr} (T : TxtP K A) {H : Hp} {p dx : Addr} {vsize vblocks vqueue y : V} {D : Ends} {σ : L2.St} (h : H p = some (.ins A.Disk dx [("size", vsize), ("blocks", vblocks), ("queue", vqueue)])) (q : D.nx σ (upd H p (.ins A.Disk dx [("size", vsize), ("blocks", vblocks), ("queue", vqueue), ("left", y)]))) :
    ∃ a C dx fs, V.ref p = .ref a ∧ H a = some (.ins C dx fs) ∧ Cls K C ∧ NoAttr K C "left" ∧ fs.length < 1000 ∧ D.nx σ (upd H a (.ins C dx (putF "left" y fs))) := r_sFldG (fs2 := [("size", vsize), ("blocks", vblocks), ("queue", vqueue), ("left", y)]) h T.c_Disk T.n_Disk_left (by show 3 < 1000; decide) (by kernel_rfl) q
theorem w0_Disk_down {K : PySem.W.Frag} {A : Adr} (T : TxtP K A) {H : Hp} {p dx : Addr} {vsize vblocks vqueue vleft y : V} {D : Ends} {σ : L2.St} (h : H p = some (.ins A.Disk dx [("size", vsize), ("blocks", vblocks), ("queue", vqueue), ("left", vleft)])) (q : D.nx σ (upd H p (oDisk A dx vsize vblocks vqueue vleft y))) :
    ∃ a C dx fs, V.ref p = .ref a ∧ H a = some (.ins C dx fs) ∧ Cls K C ∧ NoAttr K C "down" ∧ fs.length < 1000 ∧ D.nx σ (upd H a (.ins C dx (putF "down" y fs))) := r_sFldG (fs2 := [("size", vsize), ("blocks", vblocks), ("queue", vqueue), ("left", vleft), ("down", y)]) h T.c_Disk T.n_Disk_down (by show 4 < 1000; decide) (by kernel_rfl) q
theorem mm_Disk_spend {A : Adr} {H : Hp} {p dx : Addr} {vsize vblocks vqueue vleft vdown : V} {B : Prop} (h : H p = some (oDisk A dx vsize vblocks vqueue vleft vdown)) (q : B) :
    ∃ a dx fs, V.ref p = .ref a ∧ H a = some (.ins A.Disk dx fs) ∧ fs.lookup ("spend" : Str) = none ∧ B := r_methG h (by kernel_rfl) q
theorem mm_Disk_block {A : Adr} {H : Hp} {p dx : Addr} {vsize vblocks vqueue vleft vdown : V} {B : Prop} (h : H p = some (oDisk A dx vsize vblocks vqueue vleft vdown)) (q : B) :
    ∃ a dx fs, V.ref p = .ref a ∧ H a = some (.ins A.Disk dx fs) ∧ fs.lookup ("block" : Str) = none ∧ B := r_methG h (by kernel_rfl) q
theorem mm_Disk_write {A : Adr} {H : Hp} {p dx : Addr} {vsize vblocks vqueue vleft vdown : V} {B : Prop} (h : H p = some (oDisk A dx vsize vblocks vqueue vleft vdown)) (q : B) :
    ∃ a dx fs, V.ref p = .ref a ∧ H a = some (.ins A.Disk dx fs) ∧ fs.lookup ("write" : Str) = none ∧ B := r_methG h (by kernel_rfl) q
theorem mm_Disk_sync {A : Adr} {H : Hp} {p dx : Addr} {vsize vblocks vqueue vleft vdown : V} {B : Prop} (h : H p = some (oDisk A dx vsize vblocks vqueue vleft vdown)) (q : B) :
    ∃ a dx fs, V.ref p = .ref a ∧ H a = some (.ins A.Disk dx fs) ∧ fs.lookup ("sync" : Str) = none ∧ B := r_methG h (by kernel_rfl) q
theorem mm_Disk_waiting {A : Adr} {H : Hp} {p dx : Addr} {vsize vblocks vqueue vleft vdown : V} {B : Prop} (h : H p = some (oDisk A dx vsize vblocks vqueue vleft vdown)) (q : B) :
    ∃ a dx fs, V.ref p = .ref a ∧ H a = some (.ins A.Disk dx fs) ∧ fs.lookup ("waiting" : Str) = none ∧ B := r_methG h (by kernel_rfl) q
theorem mm_Disk_fall_after {A : Adr} {H : Hp} {p dx : Addr} {vsize vblocks vqueue vleft vdown : V} {B : Prop} (h : H p = some (oDisk A dx vsize vblocks vqueue vleft vdown)) (q : B) :
    ∃ a dx fs, V.ref p = .ref a ∧ H a = some (.ins A.Disk dx fs) ∧ fs.lookup ("fall_after" : Str) = none ∧ B := r_methG h (by kernel_rfl) q
theorem mm_Disk_restart {A : Adr} {H : Hp} {p dx : Addr} {vsize vblocks vqueue vleft vdown : V} {B : Prop} (h : H p = some (oDisk A dx vsize vblocks vqueue vleft vdown)) (q : B) :
    ∃ a dx fs, V.ref p = .ref a ∧ H a = some (.ins A.Disk dx fs) ∧ fs.lookup ("restart" : Str) = none ∧ B := r_methG h (by kernel_rfl) q


/-! ### the disk, in plain Lean -/
structure DS where
  size : Nat
  blocks : List Str
  queue : List (Nat × Str)
  left : Option Int
  down : Bool
def oI : Option Int → V
  | none => .non
  | some i => .int i
def okCh (c : Nat) : Bool := c == 10 || ((decide (32 ≤ c) && decide (c ≤ 126)) && c != 37)
def isBlk (z : Str) : Bool := decide (z.length ≤ 64) && z.cps.toList.all okCh
def putQ (bs : List Str) (q : List (Nat × Str)) : List Str := q.foldl (fun bs e => bs.set e.1 e.2) bs
def seenQ (t : Str) (q : List (Nat × Str)) (i : Nat) : Str := q.foldl (fun t e => if e.1 = i then e.2 else t) t
def lastS (s : List Str × Int) (e : Nat × Str) : List Str × Int := (if s.2 % 2 = 1 then s.1.set e.1 e.2 else s.1, s.2 / 2)
def lastQ (bs : List Str) (q : List (Nat × Str)) (c : Int) : List Str × Int := q.foldl lastS (bs, c)
/-- the power may be lost at this write or sync -/
def DS.cnt (d : DS) : DS := if d.left = some 0 then { d with down := true } else d
def DS.spent (d : DS) : DS := { d with left := d.left.map fun i => i - 1 }
def DS.seen (d : DS) (i : Nat) : Str := seenQ (d.blocks.getD i ("" : Str)) d.queue i
def DS.wrote (d : DS) (i : Nat) (t : Str) : DS := { d.cnt.spent with queue := d.queue ++ [(i, t)] }
def DS.synced (d : DS) : DS := { d.cnt.spent with blocks := putQ d.blocks d.queue, queue := [] }
def DS.restarted (d : DS) (c : Int) : DS := { size := d.size, blocks := (lastQ d.blocks d.queue c).1, queue := [], left := none, down := false }
structure DOk (d : DS) : Prop where
  bl : d.blocks.length = d.size
  sz : d.size ≤ 5000
  ql : d.queue.length ≤ 900000
  ix : ∀ e ∈ d.queue, e.1 < d.size
  tx : (∀ t ∈ d.blocks, isBlk t = true) ∧ ∀ e ∈ d.queue, isBlk e.2 = true
/-- the waiting writes as tuples -/
def Tups (H : Hp) (ps : List Addr) (q : List (Nat × Str)) : Prop := Paired (fun a e => H a = some (.tup [.int (e.1 : Nat), .str e.2])) ps q
/-- a disk stands at p, its blocks at lb, its queue at lq -/
structure DAt (A : Adr) (H : Hp) (p lb lq : Addr) (d : DS) : Prop where
  ob : ∃ dx, H p = some (oDisk A dx (.int (d.size : Nat)) (.ref lb) (.ref lq) (oI d.left) (.bl d.down))
  bl : H lb = some (.lst (d.blocks.map V.str))
  qu : ∃ ps : List Addr, H lq = some (.lst (ps.map V.ref)) ∧ Tups H ps d.queue
  ok : DOk d
  ne : lb ≠ lq
/-- all but what stands at fp is kept -/
def Kp (fp : List Addr) (H H' : Hp) : Prop := ∀ b o, H b = some o → b ∉ fp → H' b = some o

def sp_is_block_text (K : PySem.W.Frag) (A : Adr) : Sp := fun vs H Q _ => ∃ t : Str, vs = [.str t] ∧ t.length ≤ 100000 ∧ ∀ H', Ex H H' → Q (.bl (isBlk t)) H'
def sp_Disk_init (K : PySem.W.Frag) (A : Adr) : Sp := fun vs H Q _ => ∃ (p dx : Addr) (n : Nat), vs = [.ref p, .int (n : Nat)] ∧ n ≤ 5000 ∧ H p = some (.ins A.Disk dx []) ∧
  ∀ lb lq H', H lb = none → H lq = none → Kp [p] H H' → DAt A H' p lb lq { size := n, blocks := List.replicate n ("" : Str), queue := [], left := none, down := false } → Q .non H'
def sp_Disk_spend (K : PySem.W.Frag) (A : Adr) : Sp := fun vs H Q E => ∃ p lb lq d, vs = [.ref p] ∧ DAt A H p lb lq d ∧
  (d.cnt.down = true → ∀ H', DAt A H' p lb lq d.cnt → Kp [p] H H' → E (.ref A.PowerLost) none H') ∧
  (d.cnt.down = false → ∀ H', DAt A H' p lb lq d.cnt.spent → Kp [p] H H' → Q .non H')
def sp_Disk_block (K : PySem.W.Frag) (A : Adr) : Sp := fun vs H Q E => ∃ p lb lq d i, vs = [.ref p, .int i] ∧ DAt A H p lb lq d ∧
  (d.down = true → E (.ref A.PowerLost) none H) ∧
  (d.down = false → ¬ (0 ≤ i ∧ i < (d.size : Nat)) → ∀ e, H e = none → E (.ref A.BadBlock) (some e) (upd H e (.xd [("index", .int i)]))) ∧
  (d.down = false → 0 ≤ i → i < (d.size : Nat) → Q (.str (d.seen i.toNat)) H)
def sp_Disk_write (K : PySem.W.Frag) (A : Adr) : Sp := fun vs H Q E => ∃ p lb lq d i t, vs = [.ref p, .int i, .str t] ∧ DAt A H p lb lq d ∧ d.queue.length < 900000 ∧ t.length ≤ 100000 ∧
  (d.down = true → E (.ref A.PowerLost) none H) ∧
  (d.down = false → ¬ (0 ≤ i ∧ i < (d.size : Nat) ∧ isBlk t = true) → ∀ e H', Ex H H' → H' e = none → E (.ref A.BadBlock) (some e) (upd H' e (.xd [("index", .int i)]))) ∧
  (d.down = false → 0 ≤ i → i < (d.size : Nat) → isBlk t = true → d.cnt.down = true → ∀ H', DAt A H' p lb lq d.cnt → Kp [p] H H' → E (.ref A.PowerLost) none H') ∧
  (d.down = false → 0 ≤ i → i < (d.size : Nat) → isBlk t = true → d.cnt.down = false → ∀ H', DAt A H' p lb lq (d.wrote i.toNat t) → Kp [p, lq] H H' → Q .non H')
def sp_Disk_sync (K : PySem.W.Frag) (A : Adr) : Sp := fun vs H Q E => ∃ p lb lq d, vs = [.ref p] ∧ DAt A H p lb lq d ∧
  (d.cnt.down = true → ∀ H', DAt A H' p lb lq d.cnt → Kp [p] H H' → E (.ref A.PowerLost) none H') ∧
  (d.cnt.down = false → ∀ lq' H', H lq' = none → DAt A H' p lb lq' d.synced → Kp [p, lb] H H' → Q .non H')
def sp_Disk_waiting (K : PySem.W.Frag) (A : Adr) : Sp := fun vs H Q _ => ∃ p lb lq d, vs = [.ref p] ∧ DAt A H p lb lq d ∧ Q (.int (d.queue.length : Nat)) H
def sp_Disk_fall_after (K : PySem.W.Frag) (A : Adr) : Sp := fun vs H Q _ => ∃ p lb lq d n, vs = [.ref p, oI n] ∧ DAt A H p lb lq d ∧
  ∀ H', DAt A H' p lb lq { d with left := n } → Kp [p] H H' → Q .non H'
def sp_Disk_restart (K : PySem.W.Frag) (A : Adr) : Sp := fun vs H Q _ => ∃ p lb lq d c, vs = [.ref p, .int c] ∧ 0 ≤ c ∧ DAt A H p lb lq d ∧
  ∀ lq' H', H lq' = none → DAt A H' p lb lq' (d.restarted c) → Kp [p, lb] H H' → Q .non H'

/-! ### the law's own defs -/
def rowT : List Str := ["", "a", "b c", repS "x" 64, repS "x" 65, "a\nb", "~ !", repS "\n" 64, repS "\n" 65, "a\tb"]
def textOf (k n : Int) : Str := if k < 10 then rowT.getD k.toNat "" else Str.ofString (toString n)
def isGood (z : Str) : Bool := decide (z.length ≤ 64) && !decide (9 ∈ z.cps.toList)
structure MAt (H : Hp) (m mq lb : Addr) (d : DS) : Prop where
  ob : H m = some (.lst [.ref mq, oI d.left, .bl d.down])
  bl : H lb = some (.lst (d.blocks.map V.str))
  qu : ∃ ps : List Addr, H mq = some (.lst (ps.map V.ref)) ∧ Tups H ps d.queue
  ok : DOk d
  n1 : m ≠ mq
  n2 : m ≠ lb
  n3 : mq ≠ lb
def sp__law_cell (K : PySem.W.Frag) (A : Adr) : Sp := fun vs H Q _ => ∃ (a : Addr) (ns : List Int) (k : Nat), vs = [.ref a, .int (k : Nat)] ∧ SqL K H a (ns.map V.int) ∧ Q (.int (ns.getD k 0)) H
def sp__law_numbers (K : PySem.W.Frag) (A : Adr) : Sp := fun vs H Q _ => ∃ (c : Int) (b : Addr) (bs : List Int), vs = [.int c, .ref b] ∧ SqL K H b (bs.map V.int) ∧ bs.length ≤ 1000 ∧ (∀ x ∈ bs, 0 < x ∧ x < 1073741824) ∧
  ∀ (H' : Hp) (p : Addr) (rs : List Int), Ex H H' → H p = none → H' p = some (.lst (rs.map V.int)) → rs.length = bs.length → (∀ (i : Nat) (x y : Int), rs[i]? = some x → bs[i]? = some y → 0 ≤ x ∧ x < y) → Q (.ref p) H'
def sp__law_text (K : PySem.W.Frag) (A : Adr) : Sp := fun vs H Q _ => ∃ k n : Int, vs = [.int k, .int n] ∧ 0 ≤ k ∧ 0 ≤ n ∧ n < 1000000 ∧ ∀ H', Ex H H' → Q (.str (textOf k n)) H'
def sp__law_is_good (K : PySem.W.Frag) (A : Adr) : Sp := fun vs H Q _ => ∃ t : Str, vs = [.str t] ∧ t.length ≤ 100000 ∧ Q (.bl (isGood t)) H
def sp__law_written (K : PySem.W.Frag) (A : Adr) : Sp := fun vs H Q _ => ∃ p lb lq d i t, vs = [.ref p, .int i, .str t] ∧ DAt A H p lb lq d ∧ d.queue.length < 900000 ∧ t.length ≤ 100000 ∧
  (d.down = true → Q (.str "lost") H) ∧
  (d.down = false → ¬ (0 ≤ i ∧ i < (d.size : Nat) ∧ isBlk t = true) → ∀ r H', Ex H H' → H' r = some (.tup [.str "bad", .int i, .bl true]) → Q (.ref r) H') ∧
  (d.down = false → 0 ≤ i → i < (d.size : Nat) → isBlk t = true → d.cnt.down = true → ∀ H', DAt A H' p lb lq d.cnt → Kp [p] H H' → Q (.str "lost") H') ∧
  (d.down = false → 0 ≤ i → i < (d.size : Nat) → isBlk t = true → d.cnt.down = false → ∀ H', DAt A H' p lb lq (d.wrote i.toNat t) → Kp [p, lq] H H' → Q (.str "done") H')
def sp__law_synced (K : PySem.W.Frag) (A : Adr) : Sp := fun vs H Q _ => ∃ p lb lq d, vs = [.ref p] ∧ DAt A H p lb lq d ∧
  (d.cnt.down = true → ∀ H', DAt A H' p lb lq d.cnt → Kp [p] H H' → Q (.str "lost") H') ∧
  (d.cnt.down = false → ∀ lq' H', H lq' = none → DAt A H' p lb lq' d.synced → Kp [p, lb] H H' → Q (.str "done") H')
def sp__law_read (K : PySem.W.Frag) (A : Adr) : Sp := fun vs H Q _ => ∃ p lb lq d i, vs = [.ref p, .int i] ∧ DAt A H p lb lq d ∧
  (d.down = true → ∀ r H', Ex H H' → H' r = some (.tup [.bl true, .bl false]) → Q (.ref r) H') ∧
  (d.down = false → ¬ (0 ≤ i ∧ i < (d.size : Nat)) → ∀ r H', Ex H H' → H' r = some (.tup [.str "bad", .int i]) → Q (.ref r) H') ∧
  (d.down = false → 0 ≤ i → i < (d.size : Nat) → Q (.str (d.seen i.toNat)) H)
def sp__law_seen (K : PySem.W.Frag) (A : Adr) : Sp := fun vs H Q _ => ∃ (b q : Addr) (bs : List Str) (qs : List (Nat × Str)) (ps : List Addr) (i : Nat), vs = [.ref b, .ref q, .int (i : Nat)] ∧ H b = some (.lst (bs.map V.str)) ∧ H q = some (.lst (ps.map V.ref)) ∧ Tups H ps qs ∧ i < bs.length ∧
  Q (.str (seenQ (bs.getD i "") qs i)) H
def sp__law_write_due (K : PySem.W.Frag) (A : Adr) : Sp := fun vs H Q _ => ∃ m mq lb d i t, vs = [.ref m, .int (d.size : Nat), .int i, .str t] ∧ MAt H m mq lb d ∧ d.queue.length < 900000 ∧ t.length ≤ 100000 ∧ isGood t = isBlk t ∧
  (d.down = true → Q (.str "lost") H) ∧
  (d.down = false → ¬ (0 ≤ i ∧ i < (d.size : Nat) ∧ isGood t = true) → ∀ r H', Ex H H' → H r = none → H' r = some (.tup [.str "bad", .int i, .bl true]) → Q (.ref r) H') ∧
  (d.down = false → 0 ≤ i → i < (d.size : Nat) → isGood t = true → d.cnt.down = true → ∀ H', MAt H' m mq lb d.cnt → Kp [m] H H' → Q (.str "lost") H') ∧
  (d.down = false → 0 ≤ i → i < (d.size : Nat) → isGood t = true → d.cnt.down = false → ∀ H', MAt H' m mq lb (d.wrote i.toNat t) → Kp [m, mq] H H' → Q (.str "done") H')
def sp__law_sync_due (K : PySem.W.Frag) (A : Adr) : Sp := fun vs H Q _ => ∃ m mq lb d, vs = [.ref m, .ref lb] ∧ MAt H m mq lb d ∧
  (d.cnt.down = true → ∀ H', MAt H' m mq lb d.cnt → Kp [m] H H' → Q (.str "lost") H') ∧
  (d.cnt.down = false → ∀ mq' H', H mq' = none → MAt H' m mq' lb d.synced → Kp [m, lb] H H' → Q (.str "done") H')
def sp__law_restart (K : PySem.W.Frag) (A : Adr) : Sp := fun vs H Q _ => ∃ m mq lb d c, vs = [.ref m, .ref lb, .int c] ∧ 0 ≤ c ∧ MAt H m mq lb d ∧
  ∀ mq' H', H mq' = none → MAt H' m mq' lb (d.restarted c) → Kp [m, lb] H H' → Q .non H'
def sp_law (K : PySem.W.Frag) (A : Adr) : Sp := fun vs H Q _ => ∃ (a : Addr) (ns : List Int), vs = [.ref a] ∧ SqL K H a (ns.map V.int) ∧ ns.length ≤ 63 ∧ ∀ H', Q (.bl true) H'

def N_is_block_text : List Str := ["text", "char"]
def t_is_block_text (K : PySem.W.Frag) (A : Adr) (W : WX) : TS :=
  (tSeq (tIfS (tTest (tOp oGt (tCB bLenS (tCons (tVar 0) tNil)) (tC (.int 64))))
  (tRet (tC (.bl false)))
  tNext)
  (tRet (tCB (rAll K) (tCons (tLc (iStr (tVar 0)) (gName 1) tYes (tOrV (tOp rEq (tVar 1) (tC (.str "\n"))) (tAndV (tChain oLe oLe (tC (.int 32)) (tCB bOrd (tCons (tVar 1) tNil)) (tC (.int 126))) (tOp rNe (tCB bOrd (tCons (tVar 1) tNil)) (tC (.int 37))))) [1]) tNil))))

def N_Disk_init : List Str := ["self", "size", "_"]
def t_Disk_init (K : PySem.W.Frag) (A : Adr) (W : WX) : TS :=
  (tSeq (sFld K (tVar 0) (tVar 1) "size")
  (tSeq (sFld K (tVar 0) (tLc (iRng1 (tCons (tVar 1) tNil)) (gName 2) tYes (tC (.str "")) [2]) "blocks")
  (tSeq (sFld K (tVar 0) (tLst tNil) "queue")
  (tSeq (sFld K (tVar 0) (tC .non) "left")
  (sFld K (tVar 0) (tC (.bl false)) "down")))))

def N_Disk_spend : List Str := ["self"]
def t_Disk_spend (K : PySem.W.Frag) (A : Adr) (W : WX) : TS :=
  (tSeq (tIfS (tAnd (tTest (tOp oNotN (tFld K (tVar 0) "left") (tC .non))) (tTest (tOp rEq (tFld K (tVar 0) "left") (tC (.int 0)))))
  (sFld K (tVar 0) (tC (.bl true)) "down")
  tNext)
  (tSeq (tIfS (tB (tFld K (tVar 0) "down"))
  (tRaiseP W (fun _ H Q => Q (.ref A.PowerLost) none H))
  tNext)
  (tIfS (tTest (tOp oNotN (tFld K (tVar 0) "left") (tC .non)))
  (sFld K (tVar 0) (tOp oSub (tFld K (tVar 0) "left") (tC (.int 1))) "left")
  tNext)))

def N_Disk_block : List Str := ["self", "index", "text", "at", "other"]
def t_Disk_block (K : PySem.W.Frag) (A : Adr) (W : WX) : TS :=
  (tSeq (tIfS (tB (tFld K (tVar 0) "down"))
  (tRaiseP W (fun _ H Q => Q (.ref A.PowerLost) none H))
  tNext)
  (tSeq (tIfS (tNot (tTest (tChain oLe oLt (tC (.int 0)) (tVar 1) (tFld K (tVar 0) "size"))))
  (tRaiseP W (tMkX A.BadBlock "index" (tCons (tVar 1) tNil)))
  tNext)
  (tSeq (tAsg (tOp (rIxL K) (tFld K (tVar 0) "blocks") (tVar 1)) (gName 2))
  (tSeq (tFor (iList K (tFld K (tVar 0) "queue")) (gTup K 2 (gCons (gName 3) (gCons (gName 4) gNil)))
  (tIfS (tTest (tOp rEq (tVar 3) (tVar 1)))
  (tAsg (tVar 4) (gName 2))
  tNext))
  (tRet (tVar 2))))))

def N_Disk_write : List Str := ["self", "index", "text"]
def t_Disk_write (K : PySem.W.Frag) (A : Adr) (W : WX) : TS :=
  (tSeq (tIfS (tB (tFld K (tVar 0) "down"))
  (tRaiseP W (fun _ H Q => Q (.ref A.PowerLost) none H))
  tNext)
  (tSeq (tIfS (tOr (tNot (tTest (tChain oLe oLt (tC (.int 0)) (tVar 1) (tFld K (tVar 0) "size")))) (tNot (tB (tCallS (sp_is_block_text K A) (WE W) (tCons (tVar 2) tNil)))))
  (tRaiseP W (tMkX A.BadBlock "index" (tCons (tVar 1) tNil)))
  tNext)
  (tSeq (tDrop (tMethS A.Disk "spend" (sp_Disk_spend K A) (WE W) (tVar 0) tNil))
  (tDrop (tBM K "list" rAppend (tFld K (tVar 0) "queue") (tCons (tTup (tCons (tVar 1) (tCons (tVar 2) tNil))) tNil))))))

def N_Disk_sync : List Str := ["self", "at", "text"]
def t_Disk_sync (K : PySem.W.Frag) (A : Adr) (W : WX) : TS :=
  (tSeq (tDrop (tMethS A.Disk "spend" (sp_Disk_spend K A) (WE W) (tVar 0) tNil))
  (tSeq (tFor (iList K (tFld K (tVar 0) "queue")) (gTup K 2 (gCons (gName 1) (gCons (gName 2) gNil)))
  (tAsg (tVar 2) (gSub (tFld K (tVar 0) "blocks") (tVar 1) rSetL)))
  (sFld K (tVar 0) (tLst tNil) "queue")))

def N_Disk_waiting : List Str := ["self"]
def t_Disk_waiting (K : PySem.W.Frag) (A : Adr) (W : WX) : TS :=
  (tRet (tCB (bLen K) (tCons (tFld K (tVar 0) "queue") tNil)))

def N_Disk_fall_after : List Str := ["self", "n"]
def t_Disk_fall_after (K : PySem.W.Frag) (A : Adr) (W : WX) : TS :=
  (sFld K (tVar 0) (tVar 1) "left")

def N_Disk_restart : List Str := ["self", "choice", "at", "text"]
def t_Disk_restart (K : PySem.W.Frag) (A : Adr) (W : WX) : TS :=
  (tSeq (tFor (iList K (tFld K (tVar 0) "queue")) (gTup K 2 (gCons (gName 2) (gCons (gName 3) gNil)))
  (tSeq (tIfS (tTest (tOp rEq (tOp oAnd (tVar 1) (tC (.int 1))) (tC (.int 1))))
  (tAsg (tVar 3) (gSub (tFld K (tVar 0) "blocks") (tVar 2) rSetL))
  tNext)
  (tAsg (tOp oDiv (tVar 1) (tC (.int 2))) (gName 1))))
  (tSeq (sFld K (tVar 0) (tLst tNil) "queue")
  (tSeq (sFld K (tVar 0) (tC .non) "left")
  (sFld K (tVar 0) (tC (.bl false)) "down"))))

def N__law_cell : List Str := ["_law_script", "_law_k"]
def t__law_cell (K : PySem.W.Frag) (A : Adr) (W : WX) : TS :=
  (tSeq (tIfS (tTest (tOp oLt (tVar 1) (tCB (bLen K) (tCons (tVar 0) tNil))))
  (tRet (tOp (rIxL K) (tVar 0) (tVar 1)))
  tNext)
  (tRet (tC (.int 0))))

def N__law_numbers : List Str := ["_law_cell_here", "_law_bounds", "_law_result", "_law_many", "_law_k", "_law_mixed"]
def t__law_numbers (K : PySem.W.Frag) (A : Adr) (W : WX) : TS :=
  (tSeq (tAsg (tLst tNil) (gName 2))
  (tSeq (tIfS (tTest (tOp oGe (tVar 0) (tOp oPow (tC (.int 10)) (tC (.int 18)))))
  (tSeq (tFor (iList K (tVar 1)) (gName 3)
  (tSeq (tDrop (tBM K "list" rAppend (tVar 2) (tCons (tOp oMod (tCB bInt (tCons (tVar 0) tNil)) (tVar 3)) tNil)))
  (tAsg (tOp oDiv (tVar 0) (tVar 3)) (gName 0))))
  (tRet (tVar 2)))
  tNext)
  (tSeq (tFor (iRng1 (tCons (tCB (bLen K) (tCons (tVar 1) tNil)) tNil)) (gName 4)
  (tSeq (tAsg (tOp oMod (tCB bInt (tCons (tOp oAdd (tOp oAdd (tOp oMul (tVar 0) (tC (.int 48271))) (tOp oMul (tVar 4) (tC (.int 69621)))) (tC (.int 11))) tNil)) (tC (.int 2147483647))) (gName 5))
  (tSeq (tAsg (tOp oMod (tCB bInt (tCons (tOp oAdd (tOp oAdd (tOp oMul (tVar 5) (tC (.int 16807))) (tOp oMul (tVar 4) (tC (.int 7919)))) (tC (.int 5))) tNil)) (tC (.int 2147483629))) (gName 5))
  (tDrop (tBM K "list" rAppend (tVar 2) (tCons (tOp oMod (tVar 5) (tOp (rIxL K) (tVar 1) (tVar 4))) tNil))))))
  (tRet (tVar 2)))))

def N__law_text : List Str := ["_law_kind", "_law_number", "_law_row"]
def t__law_text (K : PySem.W.Frag) (A : Adr) (W : WX) : TS :=
  (tSeq (tAsg (tLst (tCons (tC (.str "")) (tCons (tC (.str "a")) (tCons (tC (.str "b c")) (tCons (tOp oRepS (tC (.str "x")) (tC (.int 64))) (tCons (tOp oRepS (tC (.str "x")) (tC (.int 65))) (tCons (tC (.str "a\nb")) (tCons (tC (.str "~ !")) (tCons (tOp oRepS (tC (.str "\n")) (tC (.int 64))) (tCons (tOp oRepS (tC (.str "\n")) (tC (.int 65))) (tCons (tC (.str "a\tb")) tNil))))))))))) (gName 2))
  (tSeq (tIfS (tTest (tOp oLt (tVar 0) (tC (.int 10))))
  (tRet (tOp (rIxL K) (tVar 2) (tVar 0)))
  tNext)
  (tRet (tCB bStr (tCons (tVar 1) tNil)))))

def N__law_is_good : List Str := ["_law_text_here"]
def t__law_is_good (K : PySem.W.Frag) (A : Adr) (W : WX) : TS :=
  (tRet (tAndV (tOp oLe (tCB bLenS (tCons (tVar 0) tNil)) (tC (.int 64))) (tOp oNotInS (tC (.str "\t")) (tVar 0))))

def N__law_written : List Str := ["_law_disk", "_law_index", "_law_text_here", "e"]
def t__law_written (K : PySem.W.Frag) (A : Adr) (W : WX) : TS :=
  (tSeq (tMix K W [⟨.ref A.BadBlock, some 3, fun a cls d => (tRet (tTup (tCons (tC (.str "bad")) (tCons (tXf a cls d A.BadBlock "index" (tVar 3)) (tCons (tCB (rIsPc K A.BadBlock A.DatabaseError a cls) (tCons (tVar 3) (tCons (tC (.ref A.DatabaseError)) tNil))) tNil)))))⟩, ⟨.ref A.PowerLost, none, fun a cls d => (tRet (tC (.str "lost")))⟩] (fun W1 => (tDrop (tMethS A.Disk "write" (sp_Disk_write K A) (WE W1) (tVar 0) (tCons (tVar 1) (tCons (tVar 2) tNil))))))
  (tRet (tC (.str "done"))))

def N__law_synced : List Str := ["_law_disk"]
def t__law_synced (K : PySem.W.Frag) (A : Adr) (W : WX) : TS :=
  (tSeq (tMix K W [⟨.ref A.PowerLost, none, fun a cls d => (tRet (tC (.str "lost")))⟩] (fun W1 => (tDrop (tMethS A.Disk "sync" (sp_Disk_sync K A) (WE W1) (tVar 0) tNil))))
  (tRet (tC (.str "done"))))

def N__law_read : List Str := ["_law_disk", "_law_index", "e"]
def t__law_read (K : PySem.W.Frag) (A : Adr) (W : WX) : TS :=
  (tMix K W [⟨.ref A.BadBlock, some 2, fun a cls d => (tRet (tTup (tCons (tC (.str "bad")) (tCons (tXf a cls d A.BadBlock "index" (tVar 2)) tNil))))⟩, ⟨.ref A.PowerLost, some 2, fun a cls d => (tRet (tTup (tCons (tCB (rIsPc K A.PowerLost A.DatabaseError a cls) (tCons (tVar 2) (tCons (tC (.ref A.DatabaseError)) tNil))) (tCons (tCB (rIsEc K A.PowerLost a cls d) (tCons (tVar 2) (tCons (tC (.ref A.BadBlock)) tNil))) tNil))))⟩] (fun W1 => (tRet (tMethS A.Disk "block" (sp_Disk_block K A) (WE W1) (tVar 0) (tCons (tVar 1) tNil)))))

def N__law_seen : List Str := ["_law_blocks", "_law_queue", "_law_index", "_law_text_here", "_law_pair"]
def t__law_seen (K : PySem.W.Frag) (A : Adr) (W : WX) : TS :=
  (tSeq (tAsg (tOp (rIxL K) (tVar 0) (tVar 2)) (gName 3))
  (tSeq (tFor (iList K (tVar 1)) (gName 4)
  (tIfS (tTest (tOp rEq (tOp (rIxT K) (tVar 4) (tC (.int 0))) (tVar 2)))
  (tAsg (tOp (rIxT K) (tVar 4) (tC (.int 1))) (gName 3))
  tNext))
  (tRet (tVar 3))))

def N__law_write_due : List Str := ["_law_model", "_law_size", "_law_index", "_law_text_here"]
def t__law_write_due (K : PySem.W.Frag) (A : Adr) (W : WX) : TS :=
  (tSeq (tIfS (tB (tOp (rIxL K) (tVar 0) (tC (.int 2))))
  (tRet (tC (.str "lost")))
  tNext)
  (tSeq (tIfS (tOr (tTest (tOp oLt (tVar 2) (tC (.int 0)))) (tOr (tTest (tOp oGe (tVar 2) (tVar 1))) (tNot (tB (tCallS (sp__law_is_good K A) (WE W) (tCons (tVar 3) tNil))))))
  (tRet (tTup (tCons (tC (.str "bad")) (tCons (tVar 2) (tCons (tC (.bl true)) tNil)))))
  tNext)
  (tSeq (tIfS (tTest (tOp rEq (tOp (rIxL K) (tVar 0) (tC (.int 1))) (tC (.int 0))))
  (tSeq (tAsg (tC (.bl true)) (gSub (tVar 0) (tC (.int 2)) rSetL))
  (tRet (tC (.str "lost"))))
  tNext)
  (tSeq (tIfS (tTest (tOp oNotN (tOp (rIxL K) (tVar 0) (tC (.int 1))) (tC .non)))
  (tAsg (tOp oSub (tOp (rIxL K) (tVar 0) (tC (.int 1))) (tC (.int 1))) (gSub (tVar 0) (tC (.int 1)) rSetL))
  tNext)
  (tSeq (tDrop (tBM K "list" rAppend (tOp (rIxL K) (tVar 0) (tC (.int 0))) (tCons (tTup (tCons (tVar 2) (tCons (tVar 3) tNil))) tNil)))
  (tRet (tC (.str "done"))))))))

def N__law_sync_due : List Str := ["_law_model", "_law_blocks", "_law_pair"]
def t__law_sync_due (K : PySem.W.Frag) (A : Adr) (W : WX) : TS :=
  (tSeq (tIfS (tTest (tOp rEq (tOp (rIxL K) (tVar 0) (tC (.int 1))) (tC (.int 0))))
  (tAsg (tC (.bl true)) (gSub (tVar 0) (tC (.int 2)) rSetL))
  tNext)
  (tSeq (tIfS (tB (tOp (rIxL K) (tVar 0) (tC (.int 2))))
  (tRet (tC (.str "lost")))
  tNext)
  (tSeq (tIfS (tTest (tOp oNotN (tOp (rIxL K) (tVar 0) (tC (.int 1))) (tC .non)))
  (tAsg (tOp oSub (tOp (rIxL K) (tVar 0) (tC (.int 1))) (tC (.int 1))) (gSub (tVar 0) (tC (.int 1)) rSetL))
  tNext)
  (tSeq (tFor (iList K (tOp (rIxL K) (tVar 0) (tC (.int 0)))) (gName 2)
  (tAsg (tOp (rIxT K) (tVar 2) (tC (.int 1))) (gSub (tVar 1) (tOp (rIxT K) (tVar 2) (tC (.int 0))) rSetL)))
  (tSeq (tAsg (tLst tNil) (gSub (tVar 0) (tC (.int 0)) rSetL))
  (tRet (tC (.str "done"))))))))

def N__law_restart : List Str := ["_law_model", "_law_blocks", "_law_choice", "_law_pair"]
def t__law_restart (K : PySem.W.Frag) (A : Adr) (W : WX) : TS :=
  (tSeq (tFor (iList K (tOp (rIxL K) (tVar 0) (tC (.int 0)))) (gName 3)
  (tSeq (tIfS (tTest (tOp rEq (tOp oMod (tVar 2) (tC (.int 2))) (tC (.int 1))))
  (tAsg (tOp (rIxT K) (tVar 3) (tC (.int 1))) (gSub (tVar 1) (tOp (rIxT K) (tVar 3) (tC (.int 0))) rSetL))
  tNext)
  (tAsg (tOp oDiv (tVar 2) (tC (.int 2))) (gName 2))))
  (tSeq (tAsg (tLst tNil) (gSub (tVar 0) (tC (.int 0)) rSetL))
  (tSeq (tAsg (tC .non) (gSub (tVar 0) (tC (.int 1)) rSetL))
  (tAsg (tC (.bl false)) (gSub (tVar 0) (tC (.int 2)) rSetL)))))

def N_law : List Str := ["_law_script", "_law_size", "_law_disk", "_law_blocks", "_law_model", "_law_cell_here", "_law_kind", "_law_index", "_law_text_here", "_law_number", "_law_due", "_law_choice", "_law_k"]
def t_law (K : PySem.W.Frag) (A : Adr) (W : WX) : TS :=
  (tSeq (tAsg (tOp oAdd (tC (.int 1)) (tOp oMod (tCallS (sp__law_cell K A) (WE W) (tCons (tVar 0) (tCons (tC (.int 0)) tNil))) (tC (.int 9)))) (gName 1))
  (tSeq (tAsg (tMakeS A.Disk (sp_Disk_init K A) (WE W) (tCons (tVar 1) tNil)) (gName 2))
  (tSeq (tAsg (tOp rRep (tLst (tCons (tC (.str "")) tNil)) (tVar 1)) (gName 3))
  (tSeq (tAsg (tLst (tCons (tLst tNil) (tCons (tC .non) (tCons (tC (.bl false)) tNil)))) (gName 4))
  (tSeq (tFor (iList K (tSl (rSlL K) (tVar 0) (tPart (tC (.int 1))) (tPart (tC (.int 41))))) (gName 5)
  (tSeq (tAsg (tCallS (sp__law_numbers K A) (WE W) (tCons (tVar 5) (tCons (tLst (tCons (tC (.int 9)) (tCons (tOp oAdd (tVar 1) (tC (.int 2))) (tCons (tC (.int 13)) (tCons (tOp oPow (tC (.int 10)) (tC (.int 6))) tNil))))) tNil))) (gLst K 4 (gCons (gName 6) (gCons (gName 7) (gCons (gName 8) (gCons (gName 9) gNil))))))
  (tSeq (tAsg (tOp oAdd (tOp oSub (tVar 7) (tC (.int 1))) (tCB bInt (tCons (tAndV (tOp rEq (tOp oMod (tVar 9) (tC (.int 2))) (tC (.int 1))) (tOp rEq (tVar 7) (tC (.int 0)))) tNil))) (gName 7))
  (Evl.tCut (tIfS (tTest (tOp oLt (tVar 6) (tC (.int 4))))
  (tSeq (tAsg (tCallS (sp__law_write_due K A) (WE W) (tCons (tVar 4) (tCons (tVar 1) (tCons (tVar 7) (tCons (tCallS (sp__law_text K A) (WE W) (tCons (tVar 8) (tCons (tVar 9) tNil))) tNil))))) (gName 10))
  (tIfS (tTest (tOp (rNeD K) (tCallS (sp__law_written K A) (WE W) (tCons (tVar 2) (tCons (tVar 7) (tCons (tCallS (sp__law_text K A) (WE W) (tCons (tVar 8) (tCons (tVar 9) tNil))) tNil)))) (tVar 10)))
  (tRet (tC (.bl false)))
  tNext))
  (tIfS (tTest (tOp rEq (tVar 6) (tC (.int 4))))
  (tIfS (tTest (tOp rNe (tCallS (sp__law_synced K A) (WE W) (tCons (tVar 2) tNil)) (tCallS (sp__law_sync_due K A) (WE W) (tCons (tVar 4) (tCons (tVar 3) tNil)))))
  (tRet (tC (.bl false)))
  tNext)
  (tIfS (tTest (tOp rEq (tVar 6) (tC (.int 5))))
  (tSeq (tAsg (tTup (tCons (tC (.bl true)) (tCons (tC (.bl false)) tNil))) (gName 10))
  (tSeq (tIfS (tNot (tB (tOp (rIxL K) (tVar 4) (tC (.int 2)))))
  (tSeq (tAsg (tTup (tCons (tC (.str "bad")) (tCons (tVar 7) tNil))) (gName 10))
  (tIfS (tAnd (tTest (tOp oLe (tC (.int 0)) (tVar 7))) (tTest (tOp oLt (tVar 7) (tVar 1))))
  (tAsg (tCallS (sp__law_seen K A) (WE W) (tCons (tVar 3) (tCons (tOp (rIxL K) (tVar 4) (tC (.int 0))) (tCons (tVar 7) tNil)))) (gName 10))
  tNext))
  tNext)
  (tIfS (tTest (tOp (rNeD K) (tCallS (sp__law_read K A) (WE W) (tCons (tVar 2) (tCons (tVar 7) tNil))) (tVar 10)))
  (tRet (tC (.bl false)))
  tNext)))
  (tIfS (tTest (tOp rEq (tVar 6) (tC (.int 6))))
  (tSeq (tAsg (tOp (rIxL K) (tLst (tCons (tC .non) (tCons (tC (.int 0)) (tCons (tC (.int 1)) (tCons (tC (.int 2)) (tCons (tC (.int 5)) tNil)))))) (tOp oMod (tVar 9) (tC (.int 5)))) (gSub (tVar 4) (tC (.int 1)) rSetL))
  (tDrop (tMethS A.Disk "fall_after" (sp_Disk_fall_after K A) (WE W) (tVar 2) (tCons (tOp (rIxL K) (tVar 4) (tC (.int 1))) tNil))))
  (tIfS (tTest (tOp rEq (tVar 6) (tC (.int 7))))
  (tSeq (tAsg (tOp oMul (tVar 9) (tCB bInt (tCons (tVar 5) tNil))) (gName 11))
  (tSeq (tAsg (tCB bAbs (tCons (tVar 11) tNil)) (gName 11))
  (tSeq (tDrop (tMethS A.Disk "restart" (sp_Disk_restart K A) (WE W) (tVar 2) (tCons (tVar 11) tNil)))
  (tDrop (tCallS (sp__law_restart K A) (WE W) (tCons (tVar 4) (tCons (tVar 3) (tCons (tVar 11) tNil))))))))
  tNext)))))
  (tIfS (tOr (tTest (tOp rNe (tFld K (tVar 2) "size") (tVar 1))) (tTest (tOp rNe (tMethS A.Disk "waiting" (sp_Disk_waiting K A) (WE W) (tVar 2) tNil) (tCB (bLen K) (tCons (tOp (rIxL K) (tVar 4) (tC (.int 0))) tNil)))))
  (tRet (tC (.bl false)))
  tNext)))))
  (tSeq (tIfS (tNot (tB (tOp (rIxL K) (tVar 4) (tC (.int 2)))))
  (tRet (tOp (rEqD K) (tLc (iRng1 (tCons (tVar 1) tNil)) (gName 12) tYes (tMethS A.Disk "block" (sp_Disk_block K A) (WE (fun _ _ _ _ => False)) (tVar 2) (tCons (tVar 12) tNil)) [12]) (tLc (iRng1 (tCons (tVar 1) tNil)) (gName 12) tYes (tCallS (sp__law_seen K A) (WE (fun _ _ _ _ => False)) (tCons (tVar 3) (tCons (tOp (rIxL K) (tVar 4) (tC (.int 0))) (tCons (tVar 12) tNil)))) [12])))
  tNext)
  (tSeq (tDrop (tMethS A.Disk "restart" (sp_Disk_restart K A) (WE W) (tVar 2) (tCons (tC (.int 0)) tNil)))
  (tRet (tOp (rEqD K) (tLc (iRng1 (tCons (tVar 1) tNil)) (gName 12) tYes (tMethS A.Disk "block" (sp_Disk_block K A) (WE (fun _ _ _ _ => False)) (tVar 2) (tCons (tVar 12) tNil)) [12]) (tVar 3))))))))))


end U

set_option Elab.async false
set_option linter.all false
set_option maxRecDepth 100000
set_option maxHeartbeats 4000000
namespace U
open PySem PySem.Spec PyProof.Rows L2
/-! ### stepping: local words (walk_at "..": a word of the library's syntax, given a meaning of our own here) -/
local macro_rules | `(tactic| walk_at "ne") => `(tactic| first
  | assumption
  | exact Ne.symm (by assumption)
  | exact ne_of_none (by assumption) (by assumption)
  | exact (ne_of_none (by assumption) (by assumption)).symm
  | exact ne_of (by assumption) (by assumption) (by intro z; cases z)
  | exact (ne_of (by assumption) (by assumption) (by intro z; cases z)).symm)
local macro_rules | `(tactic| walk_at "hp") => `(tactic| first
  | assumption
  | exact upd_same
  | ((apply hp_ne); (focus (walk_at "ne")); (walk_at "hp"))
  | ((apply hp_ex); assumption; (walk_at "hp")))
local macro_rules | `(tactic| walk_at "sq") => `(tactic| first
  | assumption
  | ((apply Evl.sq_of); (walk_at "hp"))
  | ((apply Evl.st_of); (walk_at "hp"))
  | ((apply Evl.ex_l); assumption; (walk_at "sq"))
  | ((apply Evl.ex_t); assumption; (walk_at "sq")))
local macro_rules | `(tactic| walk_at "sz") => `(tactic| first | (simp only [List.length_cons, List.length_nil]; omega) | omega | decide)
local macro_rules | `(tactic| walk_at "ar") => `(tactic| first | omega | decide | assumption)
local macro_rules | `(tactic| walk_at "s1") => `(tactic| first
  | (with_reducible first
      | refine r_seq ?_ | refine r_asg ?_ | refine r_drop ?_ | refine r_ret ?_ | refine r_retN ?_ | refine r_if ?_ | refine r_next ?_ | refine r_brk ?_ | refine r_cont ?_ | refine r_sFld ?_ | refine r_raise ?_
      | refine r_op ?_ | refine r_cons ?_ | refine r_nil ?_ | refine r_c ?_ | refine r_cb ?_ | refine r_call ?_ | refine r_meth ?_ | refine r_make ?_ | refine r_fld ?_ | refine r_tup ?_ | refine r_lst ?_ | refine r_un ?_
      | refine r_name ?_ | refine r_gCons ?_ | refine r_gNil ?_ | refine r_gSub ?_ | refine r_test ?_ | refine r_B ?_ | refine r_tru ?_ | refine r_and ?_ | refine r_or ?_ | refine r_not ?_ | refine r_chain ?_
      | refine r_andV ?_ | refine r_orV ?_ | refine r_notV ?_ | refine r_if' ?_ | refine r_sl ?_ | refine r_noPart ?_ | refine r_part ?_ | refine r_bm ?_ | refine r_bm0 ?_ | refine r_m1 ?_
      | refine r_exI ?_ | refine r_exB ?_ | refine r_exS ?_
      | refine r_add ?_ | refine r_sub ?_ | refine r_lt ?_ | refine r_le ?_ | refine r_gt ?_ | refine r_ge ?_ | refine r_and2 ?_ | refine r_neg ?_
      | refine r_eqI ?_ | refine r_neI ?_ | refine r_eqS ?_ | refine r_neS ?_ | refine r_eqNI ?_ | refine r_isNN ?_ | refine r_isNI ?_ | refine r_isNR ?_ | refine r_notNN ?_ | refine r_notNI ?_ | refine r_notNR ?_
      | refine r_inS ?_ | refine r_notInS ?_ | refine r_truI ?_ | refine r_truB ?_ | refine r_truN ?_ | refine r_abs ?_ | refine r_max ?_ | refine r_min ?_ | refine r_int ?_ | refine r_intB ?_ | refine r_ord ?_ | refine r_find ?_
      | refine iteT ?_ | refine iteF ?_ | refine if_nf ?_ | refine if_nt ?_ | refine r_mkx ?_ | refine r_mkG ?_ | refine r_gS ?_
      | refine r_forL ?_ | refine r_forT ?_ | refine r_forS ?_ | refine r_forR1 ?_ | refine r_forR2 ?_ | refine r_lc ?_ | refine r_iL ?_ | refine r_iT ?_ | refine r_iS ?_ | refine r_iR1 ?_ | refine r_iR2 ?_ | refine r_iR3 ?_)
  | ((with_reducible apply r_var); (with_unfolding_all rfl))
  | ((with_reducible first | refine r_mod ?_ ?_ | refine r_mul ?_ ?_ | refine r_div ?_ ?_ | refine r_pow ?_ ?_); (first | omega | decide | exact ⟨by omega, by omega⟩ | exact ⟨by decide, by decide⟩ | exact .inr ⟨by omega, by omega⟩ | exact .inl ⟨by omega, by omega⟩ | exact .inr ⟨by decide, by decide⟩ | exact ⟨by decide, by decide, by decide⟩))
  | ((with_reducible first | apply r_tyL | apply r_ixL | apply r_ixT | apply r_lenL | apply r_lenT | apply r_truL | apply r_truT | apply r_gL | apply r_gT); (walk_at "sq"); (try (first | assumption | (exact atI_nat (by assumption)) | rfl)))
  | ((with_reducible first | apply r_gR1 | apply r_gR2 | apply r_addS | apply r_lenS | apply r_str | apply r_repS); (first | omega | decide | exact ⟨by omega, by omega⟩ | exact ⟨⟨by omega, by omega⟩, by omega, by omega⟩ | (exact Nat.le_trans (by assumption) (by decide)) | exact ⟨by omega, by omega, by decide +kernel⟩))
  | ((with_reducible refine ifT ?_ ?_); (walk_at "ar"))
  | ((with_reducible refine ifF ?_ ?_); (walk_at "ar"))
  | ((with_reducible refine ifNT ?_ ?_); (walk_at "ar"))
  | ((with_reducible refine ifNF ?_ ?_); (walk_at "ar")))
local macro_rules | `(tactic| walk_at "go") => `(tactic| repeat (walk_at "s1"))

local macro_rules | `(tactic| walk_at "cls") => `(tactic| (with_reducible first
  | apply g_Disk_size (by assumption)
  | apply w_Disk_size (by assumption)
  | apply g_Disk_blocks (by assumption)
  | apply w_Disk_blocks (by assumption)
  | apply g_Disk_queue (by assumption)
  | apply w_Disk_queue (by assumption)
  | apply g_Disk_left (by assumption)
  | apply w_Disk_left (by assumption)
  | apply g_Disk_down (by assumption)
  | apply w_Disk_down (by assumption)
  | apply mm_Disk_spend
  | apply mm_Disk_block
  | apply mm_Disk_write
  | apply mm_Disk_sync
  | apply mm_Disk_waiting
  | apply mm_Disk_fall_after
  | apply mm_Disk_restart); walk_at "hp")
local macro_rules | `(tactic| walk_at "cls0") => `(tactic| (with_reducible first
  | apply w0_Disk_size (by assumption)
  | apply w0_Disk_blocks (by assumption)
  | apply w0_Disk_queue (by assumption)
  | apply w0_Disk_left (by assumption)
  | apply w0_Disk_down (by assumption)); walk_at "hp")
local macro_rules | `(tactic| walk_at "go") => `(tactic| repeat (first | walk_at "s1" | walk_at "cls"))

/-! ### the disk's defs keep their promises -/
theorem kp_of {fp : List Addr} {H H' H2 : Hp} (k : Kp fp H H') (e : Ex H' H2) : Kp fp H H2 := fun b o h n => e b o (k b o h n)
theorem kp_upd {p : Addr} {H : Hp} {o : HO} : Kp [p] H (upd H p o) := fun b u h n => by
  rw [upd_ne (fun z => n (by rw [z]; exact List.mem_singleton.mpr rfl))]
  exact h
theorem kp_trans {fp : List Addr} {H H' H2 : Hp} (a : Kp fp H H') (b : Kp fp H' H2) : Kp fp H H2 := fun x o h n => b x o (a x o h n) n
theorem kp_mono {fp fq : List Addr} {H H' : Hp} (a : Kp fp H H') (h : ∀ x ∈ fp, x ∈ fq) : Kp fq H H' := fun x o e n => a x o e fun z => n (h x z)
theorem kp_ex {fp : List Addr} {H H' : Hp} (a : Ex H H') : Kp fp H H' := fun x o e _ => a x o e
theorem tups_kp {H H' : Hp} {ps : List Addr} {q : List (Nat × Str)} (h : Tups H ps q) (k : ∀ b xs, H b = some (.tup xs) → H' b = some (.tup xs)) : Tups H' ps q :=
  Paired.mapP h fun a e z => k _ _ z
theorem tups_get {H : Hp} : ∀ {ps : List Addr} {q : List (Nat × Str)} {i : Nat} {a : Addr}, Tups H ps q → ps[i]? = some a → ∃ e, q[i]? = some e ∧ H a = some (.tup [.int (e.1 : Nat), .str e.2])
  | _, _, _, _, .nil, h => by simp at h
  | _, _, 0, _, .cons r _, h => by
    simp at h
    subst h
    exact ⟨_, rfl, r⟩
  | _, _, i + 1, a, .cons _ t, h => by
    obtain ⟨e, h1, h2⟩ := tups_get (i := i) (a := a) t (by simpa using h)
    exact ⟨e, by simpa using h1, h2⟩
theorem tups_len {H : Hp} {ps : List Addr} {q : List (Nat × Str)} (h : Tups H ps q) : ps.length = q.length := Paired.length h
theorem tups_app {H : Hp} {ps : List Addr} {q : List (Nat × Str)} {a : Addr} {e : Nat × Str} (h : Tups H ps q) (ha : H a = some (.tup [.int (e.1 : Nat), .str e.2])) : Tups H (ps ++ [a]) (q ++ [e]) := by
  induction h with
  | nil => exact .cons ha .nil
  | cons r t ih => exact .cons r ih
theorem cnt_size (d : DS) : d.cnt.size = d.size := by unfold DS.cnt; split <;> rfl
theorem cnt_blocks (d : DS) : d.cnt.blocks = d.blocks := by unfold DS.cnt; split <;> rfl
theorem cnt_queue (d : DS) : d.cnt.queue = d.queue := by unfold DS.cnt; split <;> rfl
theorem cnt_left (d : DS) : d.cnt.left = d.left := by unfold DS.cnt; split <;> rfl
theorem DOk.cnt {d : DS} (h : DOk d) : DOk d.cnt := ⟨by rw [cnt_size, cnt_blocks]; exact h.bl, by rw [cnt_size]; exact h.sz, by rw [cnt_queue]; exact h.ql, by rw [cnt_queue, cnt_size]; exact h.ix, by rw [cnt_queue, cnt_blocks]; exact h.tx⟩
theorem DOk.spent {d : DS} (h : DOk d) : DOk d.spent := ⟨h.bl, h.sz, h.ql, h.ix, h.tx⟩
/-- the object at p is changed, the same blocks and queue -/
theorem DAt.put {A : Adr} {H : Hp} {p lb lq dx : Addr} {d d' : DS} {o : HO} (h : DAt A H p lb lq d) (ho : o = oDisk A dx (.int (d'.size : Nat)) (.ref lb) (.ref lq) (oI d'.left) (.bl d'.down)) (hs : d'.size = d.size) (hb : d'.blocks = d.blocks) (hq : d'.queue = d.queue) : DAt A (upd H p o) p lb lq d' := by
  obtain ⟨⟨dx0, h1⟩, h2, ⟨ps, h3, h4⟩, ok, ne⟩ := h
  have n1 : lb ≠ p := ne_of h2 h1 (by intro z; cases z)
  have n2 : lq ≠ p := ne_of h3 h1 (by intro z; cases z)
  refine ⟨⟨dx, ?_⟩, ?_, ⟨ps, ?_, ?_⟩, ?_, ne⟩
  · rw [ho]
    exact upd_same
  · rw [upd_ne n1, hb]
    exact h2
  · rw [upd_ne n2]
    exact h3
  · rw [hq]
    exact tups_kp h4 fun b xs z => by rw [upd_ne (ne_of z h1 (by intro z; cases z))]; exact z
  · exact ⟨by rw [hs, hb]; exact ok.bl, by rw [hs]; exact ok.sz, by rw [hq]; exact ok.ql, by rw [hs, hq]; exact ok.ix, by rw [hb, hq]; exact ok.tx⟩
/-- a heap that keeps the disk's parts -/
theorem DAt.ex {A : Adr} {H H' : Hp} {p lb lq : Addr} {d : DS} (h : DAt A H p lb lq d) (e : Ex H H') : DAt A H' p lb lq d := by
  obtain ⟨⟨dx0, h1⟩, h2, ⟨ps, h3, h4⟩, ok, ne⟩ := h
  exact ⟨⟨dx0, e _ _ h1⟩, e _ _ h2, ⟨ps, e _ _ h3, tups_kp h4 fun b xs z => e _ _ z⟩, ok, ne⟩
theorem DAt.kp {A : Adr} {H H' : Hp} {p lb lq : Addr} {d : DS} {fp : List Addr} (h : DAt A H p lb lq d) (k : Kp fp H H') (n1 : p ∉ fp) (n2 : lb ∉ fp) (n3 : lq ∉ fp) (nt : ∀ b ∈ fp, ∀ xs, H b ≠ some (.tup xs)) : DAt A H' p lb lq d := by
  obtain ⟨⟨dx0, h1⟩, h2, ⟨ps, h3, h4⟩, ok, ne⟩ := h
  exact ⟨⟨dx0, k _ _ h1 n1⟩, k _ _ h2 n2, ⟨ps, k _ _ h3 n3, tups_kp h4 fun b xs z => k _ _ z fun hb => nt b hb xs z⟩, ok, ne⟩
section
variable {K : PySem.W.Frag} {A : Adr}
theorem len_is_block_text (vs : List V) (H : Hp) (Q : VK) (E : XK) (h : sp_is_block_text K A vs H Q E) : vs.length = 1 := by obtain ⟨_, rfl, _⟩ := h; rfl
theorem len_Disk_init (vs : List V) (H : Hp) (Q : VK) (E : XK) (h : sp_Disk_init K A vs H Q E) : vs.length = 2 := by obtain ⟨_, _, _, rfl, _⟩ := h; rfl
theorem len_Disk_spend (vs : List V) (H : Hp) (Q : VK) (E : XK) (h : sp_Disk_spend K A vs H Q E) : vs.length = 1 := by obtain ⟨_, _, _, _, rfl, _⟩ := h; rfl
theorem len_Disk_block (vs : List V) (H : Hp) (Q : VK) (E : XK) (h : sp_Disk_block K A vs H Q E) : vs.length = 2 := by obtain ⟨_, _, _, _, _, rfl, _⟩ := h; rfl
theorem len_Disk_write (vs : List V) (H : Hp) (Q : VK) (E : XK) (h : sp_Disk_write K A vs H Q E) : vs.length = 3 := by obtain ⟨_, _, _, _, _, _, rfl, _⟩ := h; rfl
theorem len_Disk_sync (vs : List V) (H : Hp) (Q : VK) (E : XK) (h : sp_Disk_sync K A vs H Q E) : vs.length = 1 := by obtain ⟨_, _, _, _, rfl, _⟩ := h; rfl
theorem len_Disk_waiting (vs : List V) (H : Hp) (Q : VK) (E : XK) (h : sp_Disk_waiting K A vs H Q E) : vs.length = 1 := by obtain ⟨_, _, _, _, rfl, _⟩ := h; rfl
theorem len_Disk_fall_after (vs : List V) (H : Hp) (Q : VK) (E : XK) (h : sp_Disk_fall_after K A vs H Q E) : vs.length = 2 := by obtain ⟨_, _, _, _, _, rfl, _⟩ := h; rfl
theorem len_Disk_restart (vs : List V) (H : Hp) (Q : VK) (E : XK) (h : sp_Disk_restart K A vs H Q E) : vs.length = 2 := by obtain ⟨_, _, _, _, _, rfl, _⟩ := h; rfl

theorem cnt_no {d : DS} (h : ¬ d.left = some 0) : d.cnt = d := if_neg h
theorem cnt_yes {d : DS} (h : d.left = some 0) : d.cnt = { d with down := true } := if_pos h
theorem pure_Disk_spend (T : TxtP K A) (vs : List V) (H : Hp) (Q : VK) (E : XK) (h : sp_Disk_spend K A vs H Q E) : t_Disk_spend K A (fun cls d _ H => E cls d H) { nx := fun _ H' => Q .non H', rt := Q } (start N_Disk_spend vs) H := by
  obtain ⟨p, lb, lq, d, rfl, D, kE, kQ⟩ := h
  obtain ⟨dx, hp⟩ := D.ob
  obtain ⟨size, blocks, queue, left, down⟩ := d
  unfold t_Disk_spend
  cases left with
  | none =>
    rw [cnt_no (by simp)] at kE kQ
    dsimp only [oI] at hp
    walk_at "go"
    refine ifb2 (fun hd => ?_) (fun hd => ?_)
    · walk_at "go"
      exact kE hd H D fun b o h _ => h
    · walk_at "go"
      exact kQ hd H D fun b o h _ => h
  | some i =>
    dsimp only [oI] at hp
    walk_at "go"
    refine if2 (fun h0 => ?_) (fun h0 => ?_)
    · subst h0
      rw [cnt_yes rfl] at kE
      walk_at "go"
      exact kE rfl _ (D.put rfl rfl rfl rfl) kp_upd
    · rw [cnt_no (by simpa using h0)] at kE kQ
      walk_at "go"
      refine ifb2 (fun hd => ?_) (fun hd => ?_)
      · walk_at "go"
        exact kE hd H D fun b o h _ => h
      · walk_at "go"
        exact kQ hd _ (D.put rfl rfl rfl rfl) kp_upd
theorem seen_turn {t : Str} {q : List (Nat × Str)} {i k : Nat} {e : Nat × Str} (h : q[k]? = some e) : seenQ t (q.take (k + 1)) i = if e.1 = i then e.2 else seenQ t (q.take k) i := by
  unfold seenQ
  rw [List.take_succ, h, List.foldl_append]
  rfl
theorem pure_Disk_block (T : TxtP K A) (vs : List V) (H : Hp) (Q : VK) (E : XK) (h : sp_Disk_block K A vs H Q E) : t_Disk_block K A (fun cls d _ H => E cls d H) { nx := fun _ H' => Q .non H', rt := Q } (start N_Disk_block vs) H := by
  obtain ⟨p, lb, lq, d, i, rfl, D, kP, kB, kQ⟩ := h
  obtain ⟨⟨dx, hp⟩, hb, ⟨ps, hq, ht⟩, ok, ne⟩ := D
  unfold t_Disk_block
  walk_at "go"
  refine ifb2 (fun hd => ?_) (fun hd => ?_)
  · walk_at "go"
    exact kP hd
  by_cases h0 : 0 ≤ i
  · by_cases h1 : i < (d.size : Nat)
    · walk_at "go"
      · show atI (d.blocks.map V.str) i = some _
        have e : (d.blocks.map V.str)[i.toNat]? = some (V.str (d.blocks.getD i.toNat ("" : Str))) := by
          have hl : i.toNat < d.blocks.length := by rw [ok.bl]; omega
          rw [List.getElem?_map, List.getElem?_eq_getElem hl, List.getD_eq_getElem?_getD, List.getElem?_eq_getElem hl]
          rfl
        exact at_of (by omega) e
      · walk_at "go"
        refine f_list (fun k σ H' => ∃ v1 v2 : Option V, σ = [some (.ref p), some (.int i), some (.str (seenQ (d.blocks.getD i.toNat ("" : Str)) (d.queue.take k) i.toNat)), v1, v2] ∧ H' = H) ⟨none, none, rfl, rfl⟩ (fun k σ H' _ ⟨_, _, _, e⟩ => by subst e; exact Evl.sq_of hq) ?_ ?_
        · rintro k x σ H' hx ⟨v1, v2, rfl, rfl⟩
          obtain ⟨a, ha, rfl⟩ : ∃ a, ps[k]? = some a ∧ V.ref a = x := by simpa using hx
          obtain ⟨e, he, hae⟩ := tups_get ht ha
          have tn := seen_turn (t := d.blocks.getD i.toNat ("" : Str)) (i := i.toNat) he
          refine r_gTup (Evl.st_of hae) rfl ?_
          walk_at "go"
          refine if2 (fun hi => ?_) (fun hi => ?_)
          · walk_at "go"
            show ∃ _ _, _ ∧ _
            rw [tn, if_pos (by omega)]
            exact ⟨_, _, rfl, rfl⟩
          · walk_at "go"
            show ∃ _ _, _ ∧ _
            rw [tn, if_neg (by omega)]
            exact ⟨_, _, rfl, rfl⟩
        · rintro σ H' ⟨v1, v2, rfl, rfl⟩
          rw [List.length_map, tups_len ht, List.take_length]
          walk_at "go"
          exact kQ hd h0 h1
    · walk_at "go"
      intro e he
      exact kB hd (fun z => h1 z.2) e he
  · walk_at "go"
    intro e he
    exact kB hd (fun z => h0 z.1) e he
theorem size_codes (t : Str) : ((List.range t.cps.size).map fun i => okCh (t.cps.getD i 0)).all id = t.cps.toList.all okCh := by
  have e : t.cps.toList = (List.range t.cps.size).map fun i => t.cps.getD i 0 := by
    refine List.ext_getElem (by simp) fun i h1 h2 => ?_
    have h3 : i < t.cps.size := by simpa using h1
    simp [Array.getD, h3]
  rw [e, List.all_map, List.all_map]
  rfl
theorem one_eq {c : Nat} : ((⟨#[c]⟩ : Str) = ("\n" : Str)) ↔ c = 10 := by
  have e : ("\n" : Str) = ⟨#[10]⟩ := by decide +kernel
  rw [e]
  constructor
  · intro h
    have h2 := congrArg Str.cps h
    simpa using h2
  · rintro rfl
    rfl
theorem pure_is_block_text (T : TxtP K A) (vs : List V) (H : Hp) (Q : VK) (E : XK) (h : sp_is_block_text K A vs H Q E) : t_is_block_text K A (fun cls d _ H => E cls d H) { nx := fun _ H' => Q .non H', rt := Q } (start N_is_block_text vs) H := by
  obtain ⟨t, rfl, hl, k⟩ := h
  unfold t_is_block_text
  walk_at "go"
  refine if2 (fun h64 => ?_) (fun h64 => ?_)
  · walk_at "go"
    have e : isBlk t = false := by
      unfold isBlk
      rw [decide_eq_false (by omega), Bool.false_and]
    rw [← e]
    exact k H (Evl.Ex.refl H)
  · walk_at "go"
    refine r_lcF walk_str (fun i => .bl (okCh (t.cps.getD i 0))) (by show t.length ≤ _; omega) (fun _ _ => trivial) ?_ ?_
    · rintro i x H1 H' P hi e1 ⟨rfl, c, hc, rfl⟩ kP
      refine ⟨rfl, ?_⟩
      have ec : t.cps.getD i 0 = c := by
        rw [Array.getD_eq_getD_getElem?, hc]
        rfl
      rw [ec] at kP
      walk_at "go"
      refine if2 (fun h10 => ?_) (fun h10 => ?_)
      · have e : okCh c = true := by
          rw [one_eq.mp h10]
          rfl
        rw [e] at kP
        exact kP _ (Evl.Ex.refl _)
      · have n10 : c ≠ 10 := fun z => h10 (one_eq.mpr z)
        walk_at "go"
        refine if2 (fun h32 => ?_) (fun h32 => ?_)
        · walk_at "go"
          refine if2 (fun h126 => ?_) (fun h126 => ?_)
          · walk_at "go"
            have e : okCh c = !decide ((c : Int) = 37) := by
              have d1 : decide (32 ≤ c) = true := decide_eq_true (by omega)
              have d2 : decide (c ≤ 126) = true := decide_eq_true (by omega)
              have d3 : (c == 10) = false := by simpa using n10
              have d4 : (c != 37) = !decide ((c : Int) = 37) := by
                by_cases z : c = 37
                · subst z
                  rfl
                · have z2 : ¬ (c : Int) = 37 := by omega
                  simp [z, z2]
              unfold okCh
              rw [d1, d2, d3, d4]
              rfl
            rw [e] at kP
            exact kP _ (Evl.Ex.refl _)
          · walk_at "go"
            have e : okCh c = false := by
              have d2 : decide (c ≤ 126) = false := decide_eq_false (by omega)
              have d3 : (c == 10) = false := by simpa using n10
              unfold okCh
              rw [d2, d3, Bool.and_false, Bool.false_and, Bool.or_false]
            rw [e] at kP
            exact kP _ (Evl.Ex.refl _)
        · walk_at "go"
          have e : okCh c = false := by
            have d2 : decide (32 ≤ c) = false := decide_eq_false (by omega)
            have d3 : (c == 10) = false := by simpa using n10
            unfold okCh
            rw [d2, d3, Bool.false_and, Bool.false_and, Bool.or_false]
          rw [e] at kP
          exact kP _ (Evl.Ex.refl _)
    · intro D H' hD e hD'
      walk_at "go"
      refine r_all (bs := (List.range t.cps.size).map fun i => okCh (t.cps.getD i 0)) (Evl.sq_of (by rw [hD', List.map_map]; rfl)) ?_
      have e2 : isBlk t = ((List.range t.cps.size).map fun i => okCh (t.cps.getD i 0)).all id := by
        rw [size_codes]
        unfold isBlk
        rw [decide_eq_true (by omega), Bool.true_and]
      rw [← e2]
      exact k H' e
theorem pure_Disk_waiting (T : TxtP K A) (vs : List V) (H : Hp) (Q : VK) (E : XK) (h : sp_Disk_waiting K A vs H Q E) : t_Disk_waiting K A (fun cls d _ H => E cls d H) { nx := fun _ H' => Q .non H', rt := Q } (start N_Disk_waiting vs) H := by
  obtain ⟨p, lb, lq, d, rfl, D, k⟩ := h
  obtain ⟨⟨dx, hp⟩, hb, ⟨ps, hq, ht⟩, ok, ne⟩ := D
  unfold t_Disk_waiting
  walk_at "go"
  rw [List.length_map, tups_len ht]
  exact k
theorem pure_Disk_fall_after (T : TxtP K A) (vs : List V) (H : Hp) (Q : VK) (E : XK) (h : sp_Disk_fall_after K A vs H Q E) : t_Disk_fall_after K A (fun cls d _ H => E cls d H) { nx := fun _ H' => Q .non H', rt := Q } (start N_Disk_fall_after vs) H := by
  obtain ⟨p, lb, lq, d, n, rfl, D, k⟩ := h
  obtain ⟨dx, hp⟩ := D.ob
  unfold t_Disk_fall_after
  walk_at "go"
  exact k _ (D.put rfl rfl rfl rfl) kp_upd
theorem pure_Disk_init (T : TxtP K A) (vs : List V) (H : Hp) (Q : VK) (E : XK) (h : sp_Disk_init K A vs H Q E) : t_Disk_init K A (fun cls d _ H => E cls d H) { nx := fun _ H' => Q .non H', rt := Q } (start N_Disk_init vs) H := by
  obtain ⟨p, dx, n, rfl, hn, hp, k⟩ := h
  unfold t_Disk_init
  walk_at "go"
  walk_at "cls0"
  walk_at "go"
  refine r_lcF (n := (n : Int).toNat) walk_range (fun _ => .str "") (by omega) (fun _ _ => trivial) ?_ ?_
  · rintro i x H1 H' P hi e1 ⟨rfl, rfl⟩ kP
    refine ⟨rfl, ?_⟩
    walk_at "go"
    exact kP _ (Evl.Ex.refl _)
  · intro lb H1 hlb e1 hlb1
    have hp1 : H1 p = some (.ins A.Disk dx [("size", .int (n : Nat))]) := e1 _ _ upd_same
    have nb : lb ≠ p := by
      rintro rfl
      rw [upd_same] at hlb
      cases hlb
    rw [upd_ne nb] at hlb
    walk_at "go"
    walk_at "cls0"
    walk_at "go"
    refine r_small (by decide) fun lq hlq => ?_
    have nq : lq ≠ p := by
      rintro rfl
      rw [upd_same] at hlq
      cases hlq
    rw [upd_ne nq] at hlq
    have nbq : lb ≠ lq := ne_of_none hlb1 hlq
    walk_at "go"
    walk_at "cls0"
    walk_at "go"
    walk_at "cls0"
    walk_at "go"
    walk_at "cls0"
    have hlq0 : H lq = none := by
      cases e : H lq with
      | none => rfl
      | some o =>
        have z := e1 lq o (by rw [upd_ne nq]; exact e)
        rw [hlq] at z
        cases z
    refine k lb lq _ hlb hlq0 ?_ ⟨⟨dx, upd_same⟩, ?_, ⟨[], ?_, .nil⟩, ⟨by simp, hn, by simp, by simp, fun t ht => by rw [(List.mem_replicate.mp ht).2]; rfl, by simp⟩, nbq⟩
    · intro b o hb hf
      have hbp : b ≠ p := fun z => hf (by rw [z]; exact List.mem_singleton.mpr rfl)
      have h1 : H1 b = some o := e1 b o (by rw [upd_ne hbp]; exact hb)
      have nbl : b ≠ lq := ne_of_none h1 hlq
      simp only [upd_ne hbp, upd_ne nbl]
      exact h1
    · simp only [upd_ne nb, upd_ne nbq]
      rw [hlb1]
      simp [List.map_const', List.replicate]
    · simp only [upd_ne nq]
      exact upd_same
end

end U

set_option Elab.async false
set_option linter.all false
set_option maxRecDepth 100000
set_option maxHeartbeats 4000000
namespace U
open PySem PySem.Spec PyProof.Rows L2
/-! ### stepping: local words (walk_at "..": a word of the library's syntax, given a meaning of our own here) -/
local macro_rules | `(tactic| walk_at "ne") => `(tactic| first
  | assumption
  | exact Ne.symm (by assumption)
  | exact ne_of_none (by assumption) (by assumption)
  | exact (ne_of_none (by assumption) (by assumption)).symm
  | exact ne_of (by assumption) (by assumption) (by intro z; cases z)
  | exact (ne_of (by assumption) (by assumption) (by intro z; cases z)).symm)
local macro_rules | `(tactic| walk_at "hp") => `(tactic| first
  | assumption
  | exact upd_same
  | ((apply hp_ne); (focus (walk_at "ne")); (walk_at "hp"))
  | ((apply hp_ex); assumption; (walk_at "hp")))
local macro_rules | `(tactic| walk_at "sq") => `(tactic| first
  | assumption
  | ((apply Evl.sq_of); (walk_at "hp"))
  | ((apply Evl.st_of); (walk_at "hp"))
  | ((apply Evl.ex_l); assumption; (walk_at "sq"))
  | ((apply Evl.ex_t); assumption; (walk_at "sq")))
local macro_rules | `(tactic| walk_at "sz") => `(tactic| first | (simp only [List.length_cons, List.length_nil]; omega) | omega | decide)
local macro_rules | `(tactic| walk_at "ar") => `(tactic| first | omega | decide | assumption)
local macro_rules | `(tactic| walk_at "s1") => `(tactic| first
  | (with_reducible first
      | refine r_seq ?_ | refine r_asg ?_ | refine r_drop ?_ | refine r_ret ?_ | refine r_retN ?_ | refine r_if ?_ | refine r_next ?_ | refine r_brk ?_ | refine r_cont ?_ | refine r_sFld ?_ | refine r_raise ?_
      | refine r_op ?_ | refine r_cons ?_ | refine r_nil ?_ | refine r_c ?_ | refine r_cb ?_ | refine r_call ?_ | refine r_meth ?_ | refine r_make ?_ | refine r_fld ?_ | refine r_tup ?_ | refine r_lst ?_ | refine r_un ?_
      | refine r_name ?_ | refine r_gCons ?_ | refine r_gNil ?_ | refine r_gSub ?_ | refine r_test ?_ | refine r_B ?_ | refine r_tru ?_ | refine r_and ?_ | refine r_or ?_ | refine r_not ?_ | refine r_chain ?_
      | refine r_andV ?_ | refine r_orV ?_ | refine r_notV ?_ | refine r_if' ?_ | refine r_sl ?_ | refine r_noPart ?_ | refine r_part ?_ | refine r_bm ?_ | refine r_bm0 ?_ | refine r_m1 ?_
      | refine r_exI ?_ | refine r_exB ?_ | refine r_exS ?_
      | refine r_add ?_ | refine r_sub ?_ | refine r_lt ?_ | refine r_le ?_ | refine r_gt ?_ | refine r_ge ?_ | refine r_and2 ?_ | refine r_neg ?_
      | refine r_eqI ?_ | refine r_neI ?_ | refine r_eqS ?_ | refine r_neS ?_ | refine r_eqNI ?_ | refine r_isNN ?_ | refine r_isNI ?_ | refine r_isNR ?_ | refine r_notNN ?_ | refine r_notNI ?_ | refine r_notNR ?_
      | refine r_inS ?_ | refine r_notInS ?_ | refine r_truI ?_ | refine r_truB ?_ | refine r_truN ?_ | refine r_abs ?_ | refine r_max ?_ | refine r_min ?_ | refine r_int ?_ | refine r_intB ?_ | refine r_ord ?_ | refine r_find ?_
      | refine iteT ?_ | refine iteF ?_ | refine if_nf ?_ | refine if_nt ?_ | refine r_mkx ?_ | refine r_mkG ?_ | refine r_gS ?_
      | refine r_forL ?_ | refine r_forT ?_ | refine r_forS ?_ | refine r_forR1 ?_ | refine r_forR2 ?_ | refine r_lc ?_ | refine r_iL ?_ | refine r_iT ?_ | refine r_iS ?_ | refine r_iR1 ?_ | refine r_iR2 ?_ | refine r_iR3 ?_)
  | ((with_reducible apply r_var); (with_unfolding_all rfl))
  | ((with_reducible first | refine r_mod ?_ ?_ | refine r_mul ?_ ?_ | refine r_div ?_ ?_ | refine r_pow ?_ ?_); (first | omega | decide | exact ⟨by omega, by omega⟩ | exact ⟨by decide, by decide⟩ | exact .inr ⟨by omega, by omega⟩ | exact .inl ⟨by omega, by omega⟩ | exact .inr ⟨by decide, by decide⟩ | exact ⟨by decide, by decide, by decide⟩))
  | ((with_reducible first | apply r_tyL | apply r_ixL | apply r_ixT | apply r_lenL | apply r_lenT | apply r_truL | apply r_truT | apply r_gL | apply r_gT); (walk_at "sq"); (try (first | assumption | (exact atI_nat (by assumption)) | rfl)))
  | ((with_reducible first | apply r_gR1 | apply r_gR2 | apply r_addS | apply r_lenS | apply r_str | apply r_repS); (first | omega | decide | exact ⟨by omega, by omega⟩ | exact ⟨⟨by omega, by omega⟩, by omega, by omega⟩ | (exact Nat.le_trans (by assumption) (by decide)) | exact ⟨by omega, by omega, by decide +kernel⟩))
  | ((with_reducible refine ifT ?_ ?_); (walk_at "ar"))
  | ((with_reducible refine ifF ?_ ?_); (walk_at "ar"))
  | ((with_reducible refine ifNT ?_ ?_); (walk_at "ar"))
  | ((with_reducible refine ifNF ?_ ?_); (walk_at "ar")))
local macro_rules | `(tactic| walk_at "go") => `(tactic| repeat (walk_at "s1"))

local macro_rules | `(tactic| walk_at "cls") => `(tactic| (with_reducible first
  | apply g_Disk_size (by assumption)
  | apply w_Disk_size (by assumption)
  | apply g_Disk_blocks (by assumption)
  | apply w_Disk_blocks (by assumption)
  | apply g_Disk_queue (by assumption)
  | apply w_Disk_queue (by assumption)
  | apply g_Disk_left (by assumption)
  | apply w_Disk_left (by assumption)
  | apply g_Disk_down (by assumption)
  | apply w_Disk_down (by assumption)
  | apply mm_Disk_spend
  | apply mm_Disk_block
  | apply mm_Disk_write
  | apply mm_Disk_sync
  | apply mm_Disk_waiting
  | apply mm_Disk_fall_after
  | apply mm_Disk_restart); walk_at "hp")
local macro_rules | `(tactic| walk_at "cls0") => `(tactic| (with_reducible first
  | apply w0_Disk_size (by assumption)
  | apply w0_Disk_blocks (by assumption)
  | apply w0_Disk_queue (by assumption)
  | apply w0_Disk_left (by assumption)
  | apply w0_Disk_down (by assumption)); walk_at "hp")
local macro_rules | `(tactic| walk_at "go") => `(tactic| repeat (first | walk_at "s1" | walk_at "cls"))

theorem ixN_nat {n k : Nat} (h : k < n) : ixN n (k : Int) = some k := by
  unfold ixN
  rw [if_pos (by omega), if_pos (by omega), Int.toNat_natCast]
theorem putQ_len (bs : List Str) (q : List (Nat × Str)) : (putQ bs q).length = bs.length := by
  induction q generalizing bs with
  | nil => rfl
  | cons e r ih =>
    show (putQ (bs.set e.1 e.2) r).length = _
    rw [ih, List.length_set]
theorem putQ_turn {bs : List Str} {q : List (Nat × Str)} {k : Nat} {e : Nat × Str} (h : q[k]? = some e) : putQ bs (q.take (k + 1)) = (putQ bs (q.take k)).set e.1 e.2 := by
  unfold putQ
  rw [List.take_succ, h, List.foldl_append]
  rfl
theorem mem_set_or {α : Type} {l : List α} {i : Nat} {x y : α} (h : y ∈ l.set i x) : y ∈ l ∨ y = x := List.mem_or_eq_of_mem_set h
theorem putQ_all {P : Str → Prop} (bs : List Str) (q : List (Nat × Str)) (hb : ∀ t ∈ bs, P t) (hq : ∀ e ∈ q, P e.2) : ∀ t ∈ putQ bs q, P t := by
  induction q generalizing bs with
  | nil => exact hb
  | cons e r ih =>
    refine ih (bs.set e.1 e.2) (fun t ht => ?_) fun x hx => hq x (List.mem_cons_of_mem _ hx)
    rcases mem_set_or ht with z | z
    · exact hb t z
    · rw [z]
      exact hq e (List.mem_cons_self ..)
theorem lastQ_all {P : Str → Prop} (bs : List Str) (q : List (Nat × Str)) (c : Int) (hb : ∀ t ∈ bs, P t) (hq : ∀ e ∈ q, P e.2) : ∀ t ∈ (lastQ bs q c).1, P t := by
  unfold lastQ
  induction q generalizing bs c with
  | nil => exact hb
  | cons e r ih =>
    show ∀ t ∈ (r.foldl lastS (lastS (bs, c) e)).1, P t
    refine ih _ _ (fun t ht => ?_) fun x hx => hq x (List.mem_cons_of_mem _ hx)
    unfold lastS at ht
    dsimp only at ht
    split at ht
    · rcases mem_set_or ht with z | z
      · exact hb t z
      · rw [z]
        exact hq e (List.mem_cons_self ..)
    · exact hb t ht
theorem lastQ_len (bs : List Str) (q : List (Nat × Str)) (c : Int) : (lastQ bs q c).1.length = bs.length := by
  unfold lastQ
  induction q generalizing bs c with
  | nil => rfl
  | cons e r ih =>
    show (r.foldl lastS (lastS (bs, c) e)).1.length = _
    have := ih (lastS (bs, c) e).1 (lastS (bs, c) e).2
    rw [this]
    unfold lastS
    dsimp only
    split
    · rw [List.length_set]
    · rfl
theorem lastQ_turn {bs : List Str} {q : List (Nat × Str)} {c : Int} {k : Nat} {e : Nat × Str} (h : q[k]? = some e) : lastQ bs (q.take (k + 1)) c = lastS (lastQ bs (q.take k) c) e := by
  unfold lastQ
  rw [List.take_succ, h, List.foldl_append]
  rfl
theorem lastQ_nonneg (bs : List Str) (q : List (Nat × Str)) (c : Int) (h : 0 ≤ c) : 0 ≤ (lastQ bs q c).2 := by
  unfold lastQ
  induction q generalizing bs c with
  | nil => exact h
  | cons e r ih =>
    show 0 ≤ (r.foldl lastS (lastS (bs, c) e)).2
    exact ih _ _ (by show 0 ≤ c / 2; omega)
theorem and_one {c : Int} (h : 0 ≤ c) : Builtin.bitAnd c 1 = c % 2 := by
  rw [PyProof.Rows.bitAnd_pp h (by decide)]
  have e : (1 : Int).toNat = 1 := rfl
  rw [e, Nat.and_one_is_mod]
  omega
section
variable {K : PySem.W.Frag} {A : Adr}
theorem DAt.wrote {H : Hp} {p lb lq a : Addr} {d : DS} {ps : List Addr} {i : Nat} {t : Str} (D : DAt A H p lb lq d.cnt.spent) (hq : H lq = some (.lst (ps.map V.ref))) (ht : Tups H ps d.queue) (hl : d.queue.length < 900000) (hi : i < d.size) (hbt : isBlk t = true) (ha : H a = none) :
    DAt A (upd (upd H a (.tup [.int (i : Nat), .str t])) lq (.lst (ps.map V.ref ++ [.ref a]))) p lb lq (d.wrote i t) := by
  obtain ⟨⟨dx, hp⟩, hb, _, ok, ne⟩ := D
  have n1 : lb ≠ a := ne_of_none hb ha
  have n2 : p ≠ a := ne_of_none hp ha
  have n3 : p ≠ lq := ne_of hp hq (by intro z; cases z)
  have n4 : a ≠ lq := (ne_of_none hq ha).symm
  refine ⟨⟨dx, ?_⟩, ?_, ⟨ps ++ [a], ?_, ?_⟩, ⟨?_, ?_, ?_, ?_, ?_⟩, ne⟩
  · rw [upd_ne n3, upd_ne n2]
    exact hp
  · rw [upd_ne ne, upd_ne n1]
    exact hb
  · rw [List.map_append]
    exact upd_same
  · refine tups_app (tups_kp ht fun b xs z => ?_) ?_
    · rw [upd_ne (ne_of z hq (by intro y; cases y)), upd_ne (ne_of_none z ha)]
      exact z
    · rw [upd_ne n4]
      exact upd_same
  · exact ok.bl
  · exact ok.sz
  · show (d.queue ++ [(i, t)]).length ≤ 900000
    rw [List.length_append]
    show d.queue.length + 1 ≤ 900000
    omega
  · intro e he
    have he' : e ∈ d.queue ++ [(i, t)] := he
    have hs : (d.wrote i t).size = d.size := cnt_size d
    rw [hs]
    rcases List.mem_append.mp he' with z | z
    · have := ok.ix e (by show e ∈ d.cnt.queue; rw [cnt_queue]; exact z)
      have hs2 : d.cnt.spent.size = d.size := cnt_size d
      rw [hs2] at this
      exact this
    · rw [List.mem_singleton.mp z]
      exact hi
  · have h1 : ∀ t ∈ d.cnt.blocks, isBlk t = true := ok.tx.1
    have h2 : ∀ e ∈ d.cnt.queue, isBlk e.2 = true := ok.tx.2
    rw [cnt_queue] at h2
    refine ⟨h1, fun e he => ?_⟩
    have he' : e ∈ d.queue ++ [(i, t)] := he
    rcases List.mem_append.mp he' with z | z
    · exact h2 e z
    · rw [List.mem_singleton.mp z]
      exact hbt
theorem pure_Disk_write (T : TxtP K A) (vs : List V) (H : Hp) (Q : VK) (E : XK) (h : sp_Disk_write K A vs H Q E) : t_Disk_write K A (fun cls d _ H => E cls d H) { nx := fun _ H' => Q .non H', rt := Q } (start N_Disk_write vs) H := by
  obtain ⟨p, lb, lq, d, i, t, rfl, D, hql, htl, kP, kB, kP2, kQ⟩ := h
  obtain ⟨dx, hp⟩ := D.ob
  unfold t_Disk_write
  walk_at "go"
  refine ifb2 (fun hd => ?_) (fun hd => ?_)
  · walk_at "go"
    exact kP hd
  by_cases h0 : 0 ≤ i
  · by_cases h1 : i < (d.size : Nat)
    · walk_at "go"
      refine ⟨t, rfl, htl, fun H1 e1 => ?_⟩
      walk_at "go"
      refine ifb2 (fun hb => ?_) (fun hb => ?_)
      · walk_at "go"
        intro e he
        exact kB hd (fun z => by rw [z.2.2] at hb; cases hb) e H1 e1 he
      · have hb' : isBlk t = true := by simpa using hb
        walk_at "go"
        refine ⟨p, lb, lq, d, rfl, D.ex e1, fun hc H2 D2 k2 => ?_, fun hc H2 D2 k2 => ?_⟩
        · exact kP2 hd h0 h1 hb' hc H2 D2 (kp_trans (kp_ex e1) k2)
        · obtain ⟨⟨dx2, hp2⟩, hb2, ⟨ps, hq2, ht2⟩, ok2, ne2⟩ := id D2
          walk_at "go"
          refine r_small (by show 2 ≤ 1000; decide) fun a ha => ?_
          have na : lq ≠ a := ne_of_none hq2 ha
          walk_at "go"
          have hlen : (ps.map V.ref).length < sizeLine := by
            rw [List.length_map, tups_len ht2]
            show d.cnt.queue.length < _
            rw [cnt_queue]
            exact line_of (by omega)
          refine r_append (by rw [upd_ne na]; exact hq2) hlen ?_
          have ht3 : Tups H2 ps d.queue := by
            have := ht2
            have e : d.cnt.spent.queue = d.queue := cnt_queue d
            rw [e] at this
            exact this
          have ei : (i.toNat : Int) = i := Int.toNat_of_nonneg h0
          have DD := DAt.wrote (t := t) D2 hq2 ht3 hql (show i.toNat < d.size by omega) hb' ha
          rw [ei] at DD
          refine kQ hd h0 h1 hb' hc _ DD fun b o hbo hf => ?_
          have hbp : b ≠ p := fun z => hf (by rw [z]; exact List.mem_cons_self ..)
          have hbq : b ≠ lq := fun z => hf (by rw [z]; exact List.mem_cons_of_mem _ (List.mem_singleton.mpr rfl))
          have h2 : H2 b = some o := k2 b o (e1 b o hbo) (by simpa using hbp)
          rw [upd_ne hbq, upd_ne (ne_of_none h2 ha)]
          exact h2
    · walk_at "go"
      intro e he
      exact kB hd (fun z => h1 z.2.1) e H (Evl.Ex.refl H) he
  · walk_at "go"
    intro e he
    exact kB hd (fun z => h0 z.1) e H (Evl.Ex.refl H) he
/-- what a loop over the queue leaves: the blocks changed, all else as it was -/
theorem pure_Disk_sync (T : TxtP K A) (vs : List V) (H : Hp) (Q : VK) (E : XK) (h : sp_Disk_sync K A vs H Q E) : t_Disk_sync K A (fun cls d _ H => E cls d H) { nx := fun _ H' => Q .non H', rt := Q } (start N_Disk_sync vs) H := by
  obtain ⟨p, lb, lq, d, rfl, D, kP, kQ⟩ := h
  obtain ⟨dx, hp⟩ := D.ob
  unfold t_Disk_sync
  walk_at "go"
  refine ⟨p, lb, lq, d, rfl, D, fun hc H2 D2 k2 => kP hc H2 D2 k2, fun hc H2 D2 k2 => ?_⟩
  obtain ⟨⟨dx2, hp2⟩, hb2, ⟨ps, hq2, ht2⟩, ok2, ne2⟩ := id D2
  have eq1 : d.cnt.spent.queue = d.queue := cnt_queue d
  have eb1 : d.cnt.spent.blocks = d.blocks := cnt_blocks d
  have es1 : d.cnt.spent.size = d.size := cnt_size d
  rw [eq1] at ht2
  rw [eb1] at hb2
  have npb : p ≠ lb := ne_of hp2 hb2 (by intro z; cases z)
  have nqb : lq ≠ lb := ne2.symm
  walk_at "go"
  refine f_list (fun k σ H' => ∃ v1 v2 : Option V, σ = [some (.ref p), v1, v2] ∧ H' lb = some (.lst ((putQ d.blocks (d.queue.take k)).map V.str)) ∧ ∀ b, b ≠ lb → H' b = H2 b) ⟨none, none, rfl, hb2, fun _ _ => rfl⟩
    (fun k σ H' _ ⟨_, _, _, _, e⟩ => Evl.sq_of ((e lq nqb).trans hq2)) ?_ ?_
  · rintro k x σ H' hx ⟨v1, v2, rfl, hb', e'⟩
    obtain ⟨a, ha, rfl⟩ : ∃ a, ps[k]? = some a ∧ V.ref a = x := by simpa using hx
    obtain ⟨e, he, hae⟩ := tups_get ht2 ha
    have nab : a ≠ lb := ne_of hae hb2 (by intro z; cases z)
    have hp' : H' p = _ := (e' p npb).trans hp2
    refine r_gTup (Evl.st_of ((e' a nab).trans hae)) rfl ?_
    walk_at "go"
    have hlt : e.1 < ((putQ d.blocks (d.queue.take k)).map V.str).length := by
      rw [List.length_map, putQ_len, D.ok.bl]
      exact D.ok.ix e (List.mem_of_getElem? he)
    refine r_setL hb' (ixN_nat hlt) ?_
    refine ⟨_, _, rfl, ?_, fun b hb => by rw [upd_ne hb]; exact e' b hb⟩
    rw [upd_same, putQ_turn he, List.map_set]
  · rintro σ H' ⟨v1, v2, rfl, hb', e'⟩
    rw [List.length_map, tups_len ht2, List.take_length] at hb'
    have hp' : H' p = _ := (e' p npb).trans hp2
    walk_at "go"
    refine r_small (by decide) fun lq' hlq' => ?_
    have np' : p ≠ lq' := ne_of_none hp' hlq'
    have nb' : lb ≠ lq' := ne_of_none hb' hlq'
    walk_at "go"
    have hH : H lq' = none := by
      cases z : H lq' with
      | none => rfl
      | some o =>
        by_cases y : lq' = p
        · exact absurd y.symm np'
        · have z2 := k2 lq' o z (by simpa using y)
          rw [← e' lq' nb'.symm, hlq'] at z2
          cases z2
    refine kQ hc lq' _ hH ⟨⟨dx2, ?_⟩, ?_, ⟨[], ?_, .nil⟩, ⟨?_, ?_, by show (0 : Nat) ≤ _; omega, (by intro e he; cases he), putQ_all _ _ D.ok.tx.1 D.ok.tx.2, (by intro e he; cases he)⟩, nb'⟩ fun b o hbo hf => ?_
    · have e3 : d.synced.size = d.size := cnt_size d
      have e4 : d.synced.left = d.cnt.spent.left := rfl
      rw [e3, ← es1, e4]
      exact upd_same
    · rw [upd_ne npb.symm, upd_ne nb']
      exact hb'
    · rw [upd_ne np'.symm]
      exact upd_same
    · show (putQ d.blocks d.queue).length = d.cnt.size
      rw [putQ_len, cnt_size]
      exact D.ok.bl
    · show d.cnt.size ≤ 5000
      rw [cnt_size]
      exact D.ok.sz
    · have hbp : b ≠ p := fun z => hf (by rw [z]; exact List.mem_cons_self ..)
      have hbl : b ≠ lb := fun z => hf (by rw [z]; exact List.mem_cons_of_mem _ (List.mem_singleton.mpr rfl))
      have h2 : H' b = some o := (e' b hbl).trans (k2 b o hbo (by simpa using hbp))
      rw [upd_ne hbp, upd_ne (ne_of_none h2 hlq')]
      exact h2
theorem pure_Disk_restart (T : TxtP K A) (vs : List V) (H : Hp) (Q : VK) (E : XK) (h : sp_Disk_restart K A vs H Q E) : t_Disk_restart K A (fun cls d _ H => E cls d H) { nx := fun _ H' => Q .non H', rt := Q } (start N_Disk_restart vs) H := by
  obtain ⟨p, lb, lq, d, c, rfl, hc0, D, kQ⟩ := h
  obtain ⟨⟨dx, hp⟩, hb, ⟨ps, hq, ht⟩, ok, ne⟩ := id D
  have npb : p ≠ lb := ne_of hp hb (by intro z; cases z)
  unfold t_Disk_restart
  walk_at "go"
  refine f_list (fun k σ H' => ∃ v1 v2 : Option V, σ = [some (.ref p), some (.int (lastQ d.blocks (d.queue.take k) c).2), v1, v2] ∧ H' lb = some (.lst ((lastQ d.blocks (d.queue.take k) c).1.map V.str)) ∧ ∀ b, b ≠ lb → H' b = H b) ⟨none, none, rfl, hb, fun _ _ => rfl⟩
    (fun k σ H' _ ⟨_, _, _, _, e⟩ => Evl.sq_of ((e lq ne.symm).trans hq)) ?_ ?_
  · rintro k x σ H' hx ⟨v1, v2, rfl, hb', e'⟩
    obtain ⟨a, ha, rfl⟩ : ∃ a, ps[k]? = some a ∧ V.ref a = x := by simpa using hx
    obtain ⟨e, he, hae⟩ := tups_get ht ha
    have nab : a ≠ lb := ne_of hae hb (by intro z; cases z)
    have hp' : H' p = _ := (e' p npb).trans hp
    refine r_gTup (Evl.st_of ((e' a nab).trans hae)) rfl ?_
    have h2 := lastQ_nonneg d.blocks (d.queue.take k) c hc0
    have tn := lastQ_turn (bs := d.blocks) (c := c) he
    walk_at "go"
    rw [and_one h2]
    refine if2 (fun h1 => ?_) (fun h1 => ?_)
    · walk_at "go"
      have hlt : e.1 < ((lastQ d.blocks (d.queue.take k) c).1.map V.str).length := by
        rw [List.length_map, lastQ_len, D.ok.bl]
        exact D.ok.ix e (List.mem_of_getElem? he)
      refine r_setL hb' (ixN_nat hlt) ?_
      walk_at "go"
      refine ⟨_, _, by rw [tn]; rfl, ?_, fun b hb => by rw [upd_ne hb]; exact e' b hb⟩
      rw [upd_same, tn]
      unfold lastS
      rw [if_pos h1, List.map_set]
    · walk_at "go"
      refine ⟨_, _, by rw [tn]; rfl, ?_, e'⟩
      rw [hb', tn]
      unfold lastS
      rw [if_neg h1]
  · rintro σ H' ⟨v1, v2, rfl, hb', e'⟩
    rw [List.length_map, tups_len ht, List.take_length] at hb'
    have hp' : H' p = _ := (e' p npb).trans hp
    walk_at "go"
    refine r_small (by decide) fun lq' hlq' => ?_
    have np' : p ≠ lq' := ne_of_none hp' hlq'
    have nb' : lb ≠ lq' := ne_of_none hb' hlq'
    walk_at "go"
    have hH : H lq' = none := (e' lq' nb'.symm).symm.trans hlq'
    refine kQ lq' _ hH ⟨⟨dx, upd_same⟩, ?_, ⟨[], ?_, .nil⟩, ⟨?_, ok.sz, by show (0 : Nat) ≤ _; omega, (by intro e he; cases he), lastQ_all _ _ _ ok.tx.1 ok.tx.2, (by intro e he; cases he)⟩, nb'⟩ fun b o hbo hf => ?_
    · simp only [upd_ne npb.symm, upd_ne nb']
      exact hb'
    · simp only [upd_ne np'.symm]
      exact upd_same
    · show (lastQ d.blocks d.queue c).1.length = d.size
      rw [lastQ_len]
      exact ok.bl
    · have hbp : b ≠ p := fun z => hf (by rw [z]; exact List.mem_cons_self ..)
      have hbl : b ≠ lb := fun z => hf (by rw [z]; exact List.mem_cons_of_mem _ (List.mem_singleton.mpr rfl))
      have h2 : H' b = some o := (e' b hbl).trans hbo
      simp only [upd_ne hbp, upd_ne (ne_of_none h2 hlq')]
      exact h2
end

end U

set_option Elab.async false
set_option linter.all false
set_option maxRecDepth 100000
set_option maxHeartbeats 4000000
namespace U
open PySem PySem.Spec PyProof.Rows L2
/-! ### stepping: local words (walk_at "..": a word of the library's syntax, given a meaning of our own here) -/
local macro_rules | `(tactic| walk_at "ne") => `(tactic| first
  | assumption
  | exact Ne.symm (by assumption)
  | exact ne_of_none (by assumption) (by assumption)
  | exact (ne_of_none (by assumption) (by assumption)).symm
  | exact ne_of (by assumption) (by assumption) (by intro z; cases z)
  | exact (ne_of (by assumption) (by assumption) (by intro z; cases z)).symm)
local macro_rules | `(tactic| walk_at "hp") => `(tactic| first
  | assumption
  | exact upd_same
  | ((apply hp_ne); (focus (walk_at "ne")); (walk_at "hp"))
  | ((apply hp_ex); assumption; (walk_at "hp")))
local macro_rules | `(tactic| walk_at "sq") => `(tactic| first
  | assumption
  | ((apply Evl.sq_of); (walk_at "hp"))
  | ((apply Evl.st_of); (walk_at "hp"))
  | ((apply Evl.ex_l); assumption; (walk_at "sq"))
  | ((apply Evl.ex_t); assumption; (walk_at "sq")))
local macro_rules | `(tactic| walk_at "sz") => `(tactic| first | (simp only [List.length_cons, List.length_nil]; omega) | omega | decide)
local macro_rules | `(tactic| walk_at "ar") => `(tactic| first | omega | decide | assumption)
local macro_rules | `(tactic| walk_at "s1") => `(tactic| first
  | (with_reducible first
      | refine r_seq ?_ | refine r_asg ?_ | refine r_drop ?_ | refine r_ret ?_ | refine r_retN ?_ | refine r_if ?_ | refine r_next ?_ | refine r_brk ?_ | refine r_cont ?_ | refine r_sFld ?_ | refine r_raise ?_
      | refine r_op ?_ | refine r_cons ?_ | refine r_nil ?_ | refine r_c ?_ | refine r_cb ?_ | refine r_call ?_ | refine r_meth ?_ | refine r_make ?_ | refine r_fld ?_ | refine r_tup ?_ | refine r_lst ?_ | refine r_un ?_
      | refine r_name ?_ | refine r_gCons ?_ | refine r_gNil ?_ | refine r_gSub ?_ | refine r_test ?_ | refine r_B ?_ | refine r_tru ?_ | refine r_and ?_ | refine r_or ?_ | refine r_not ?_ | refine r_chain ?_
      | refine r_andV ?_ | refine r_orV ?_ | refine r_notV ?_ | refine r_if' ?_ | refine r_sl ?_ | refine r_noPart ?_ | refine r_part ?_ | refine r_bm ?_ | refine r_bm0 ?_ | refine r_m1 ?_
      | refine r_exI ?_ | refine r_exB ?_ | refine r_exS ?_
      | refine r_add ?_ | refine r_sub ?_ | refine r_lt ?_ | refine r_le ?_ | refine r_gt ?_ | refine r_ge ?_ | refine r_and2 ?_ | refine r_neg ?_
      | refine r_eqI ?_ | refine r_neI ?_ | refine r_eqS ?_ | refine r_neS ?_ | refine r_eqNI ?_ | refine r_isNN ?_ | refine r_isNI ?_ | refine r_isNR ?_ | refine r_notNN ?_ | refine r_notNI ?_ | refine r_notNR ?_
      | refine r_inS ?_ | refine r_notInS ?_ | refine r_truI ?_ | refine r_truB ?_ | refine r_truN ?_ | refine r_abs ?_ | refine r_max ?_ | refine r_min ?_ | refine r_int ?_ | refine r_intB ?_ | refine r_ord ?_ | refine r_find ?_
      | refine iteT ?_ | refine iteF ?_ | refine if_nf ?_ | refine if_nt ?_ | refine r_mkx ?_ | refine r_mkG ?_ | refine r_gS ?_
      | refine r_forL ?_ | refine r_forT ?_ | refine r_forS ?_ | refine r_forR1 ?_ | refine r_forR2 ?_ | refine r_lc ?_ | refine r_iL ?_ | refine r_iT ?_ | refine r_iS ?_ | refine r_iR1 ?_ | refine r_iR2 ?_ | refine r_iR3 ?_)
  | ((with_reducible apply r_var); (with_unfolding_all rfl))
  | ((with_reducible first | refine r_mod ?_ ?_ | refine r_mul ?_ ?_ | refine r_div ?_ ?_ | refine r_pow ?_ ?_); (first | omega | decide | exact ⟨by omega, by omega⟩ | exact ⟨by decide, by decide⟩ | exact .inr ⟨by omega, by omega⟩ | exact .inl ⟨by omega, by omega⟩ | exact .inr ⟨by decide, by decide⟩ | exact ⟨by decide, by decide, by decide⟩))
  | ((with_reducible first | apply r_tyL | apply r_ixL | apply r_ixT | apply r_lenL | apply r_lenT | apply r_truL | apply r_truT | apply r_gL | apply r_gT); (walk_at "sq"); (try (first | assumption | (exact atI_nat (by assumption)) | rfl)))
  | ((with_reducible first | apply r_gR1 | apply r_gR2 | apply r_addS | apply r_lenS | apply r_str | apply r_repS); (first | omega | decide | exact ⟨by omega, by omega⟩ | exact ⟨⟨by omega, by omega⟩, by omega, by omega⟩ | (exact Nat.le_trans (by assumption) (by decide)) | exact ⟨by omega, by omega, by decide +kernel⟩))
  | ((with_reducible refine ifT ?_ ?_); (walk_at "ar"))
  | ((with_reducible refine ifF ?_ ?_); (walk_at "ar"))
  | ((with_reducible refine ifNT ?_ ?_); (walk_at "ar"))
  | ((with_reducible refine ifNF ?_ ?_); (walk_at "ar")))
local macro_rules | `(tactic| walk_at "go") => `(tactic| repeat (walk_at "s1"))

local macro_rules | `(tactic| walk_at "cls") => `(tactic| (with_reducible first
  | apply g_Disk_size (by assumption)
  | apply w_Disk_size (by assumption)
  | apply g_Disk_blocks (by assumption)
  | apply w_Disk_blocks (by assumption)
  | apply g_Disk_queue (by assumption)
  | apply w_Disk_queue (by assumption)
  | apply g_Disk_left (by assumption)
  | apply w_Disk_left (by assumption)
  | apply g_Disk_down (by assumption)
  | apply w_Disk_down (by assumption)
  | apply mm_Disk_spend
  | apply mm_Disk_block
  | apply mm_Disk_write
  | apply mm_Disk_sync
  | apply mm_Disk_waiting
  | apply mm_Disk_fall_after
  | apply mm_Disk_restart); walk_at "hp")
local macro_rules | `(tactic| walk_at "cls0") => `(tactic| (with_reducible first
  | apply w0_Disk_size (by assumption)
  | apply w0_Disk_blocks (by assumption)
  | apply w0_Disk_queue (by assumption)
  | apply w0_Disk_left (by assumption)
  | apply w0_Disk_down (by assumption)); walk_at "hp")
local macro_rules | `(tactic| walk_at "go") => `(tactic| repeat (first | walk_at "s1" | walk_at "cls"))

theorem if_true' {c A B : Prop} [Decidable c] (h : c) (q : A) : if c then A else B := by rw [if_pos h]; exact q
theorem r_xf {a : Addr} {cls : Value} {d : Option Addr} {C : Addr} {f : Str} {te : TE} {σ : L2.St} {H : Hp} {Q : VK} (q : te σ H fun x H1 => x = .ref a ∧ cls = .ref C ∧ ∃ (dd : Addr) (fs : List (Str × V)) (v : V), d = some dd ∧ H1 dd = some (.xd fs) ∧ fs.lookup f = some v ∧ Q v H1) : tXf a cls d C f te σ H Q := q
theorem r_xfG {a dd C : Addr} {f : Str} {v : V} {H : Hp} {B : V → Prop} (h : H dd = some (.xd [(f, v)])) (q : B v) : V.ref a = .ref a ∧ Value.ref C = .ref C ∧ ∃ (d' : Addr) (fs : List (Str × V)) (v' : V), some dd = some d' ∧ H d' = some (.xd fs) ∧ fs.lookup f = some v' ∧ B v' :=
  ⟨rfl, rfl, dd, _, v, rfl, h, by simp [List.lookup], q⟩
section
variable {K : PySem.W.Frag} {A : Adr}
theorem len__law_cell (vs : List V) (H : Hp) (Q : VK) (E : XK) (h : sp__law_cell K A vs H Q E) : vs.length = 2 := by obtain ⟨_, _, _, rfl, _⟩ := h; rfl
theorem len__law_numbers (vs : List V) (H : Hp) (Q : VK) (E : XK) (h : sp__law_numbers K A vs H Q E) : vs.length = 2 := by obtain ⟨_, _, _, rfl, _⟩ := h; rfl
theorem len__law_text (vs : List V) (H : Hp) (Q : VK) (E : XK) (h : sp__law_text K A vs H Q E) : vs.length = 2 := by obtain ⟨_, _, rfl, _⟩ := h; rfl
theorem len__law_is_good (vs : List V) (H : Hp) (Q : VK) (E : XK) (h : sp__law_is_good K A vs H Q E) : vs.length = 1 := by obtain ⟨_, rfl, _⟩ := h; rfl
theorem len__law_written (vs : List V) (H : Hp) (Q : VK) (E : XK) (h : sp__law_written K A vs H Q E) : vs.length = 3 := by obtain ⟨_, _, _, _, _, _, rfl, _⟩ := h; rfl
theorem len__law_synced (vs : List V) (H : Hp) (Q : VK) (E : XK) (h : sp__law_synced K A vs H Q E) : vs.length = 1 := by obtain ⟨_, _, _, _, rfl, _⟩ := h; rfl
theorem len__law_read (vs : List V) (H : Hp) (Q : VK) (E : XK) (h : sp__law_read K A vs H Q E) : vs.length = 2 := by obtain ⟨_, _, _, _, _, rfl, _⟩ := h; rfl
theorem len__law_seen (vs : List V) (H : Hp) (Q : VK) (E : XK) (h : sp__law_seen K A vs H Q E) : vs.length = 3 := by obtain ⟨_, _, _, _, _, _, rfl, _⟩ := h; rfl
theorem len__law_write_due (vs : List V) (H : Hp) (Q : VK) (E : XK) (h : sp__law_write_due K A vs H Q E) : vs.length = 4 := by obtain ⟨_, _, _, _, _, _, rfl, _⟩ := h; rfl
theorem len__law_sync_due (vs : List V) (H : Hp) (Q : VK) (E : XK) (h : sp__law_sync_due K A vs H Q E) : vs.length = 2 := by obtain ⟨_, _, _, _, rfl, _⟩ := h; rfl
theorem len__law_restart (vs : List V) (H : Hp) (Q : VK) (E : XK) (h : sp__law_restart K A vs H Q E) : vs.length = 3 := by obtain ⟨_, _, _, _, _, rfl, _⟩ := h; rfl
theorem len_law (vs : List V) (H : Hp) (Q : VK) (E : XK) (h : sp_law K A vs H Q E) : vs.length = 1 := by obtain ⟨_, _, rfl, _⟩ := h; rfl

theorem pure__law_cell (T : TxtP K A) (vs : List V) (H : Hp) (Q : VK) (E : XK) (h : sp__law_cell K A vs H Q E) : t__law_cell K A (fun cls d _ H => E cls d H) { nx := fun _ H' => Q .non H', rt := Q } (start N__law_cell vs) H := by
  obtain ⟨a, ns, k, rfl, hs, q⟩ := h
  unfold t__law_cell
  walk_at "go"
  rw [List.length_map]
  refine if2 (fun hk => ?_) (fun hk => ?_)
  · walk_at "go"
    · have hk' : k < ns.length := by omega
      show atI (ns.map V.int) (k : Int) = some (.int (ns.getD k 0))
      refine atI_nat ?_
      rw [List.getElem?_map, List.getElem?_eq_getElem hk', List.getD_eq_getElem?_getD, List.getElem?_eq_getElem hk']
      rfl
    · exact q
  · walk_at "go"
    have e : ns.getD k 0 = 0 := by
      rw [List.getD_eq_getElem?_getD, List.getElem?_eq_none (by omega)]
      rfl
    rw [e] at q
    exact q
theorem ints_app {rs : List Int} {x : Int} : rs.map V.int ++ [V.int x] = (rs ++ [x]).map V.int := by rw [List.map_append]; rfl
theorem pure__law_numbers (T : TxtP K A) (vs : List V) (H : Hp) (Q : VK) (E : XK) (h : sp__law_numbers K A vs H Q E) : t__law_numbers K A (fun cls d _ H => E cls d H) { nx := fun _ H' => Q .non H', rt := Q } (start N__law_numbers vs) H := by
  obtain ⟨c, b, bs, rfl, hs, hl, hb, kQ⟩ := h
  unfold t__law_numbers
  walk_at "go"
  refine r_small (by decide) fun r hr => ?_
  have er : Ex H (upd H r (.lst [])) := Evl.Ex.new hr
  walk_at "go"
  have bnd : ∀ {i : Nat} {y : V}, (bs.map V.int)[i]? = some y → ∃ x, bs[i]? = some x ∧ y = .int x ∧ 0 < x ∧ x < 1073741824 := fun {i y} hy => by
    rw [List.getElem?_map] at hy
    cases e : bs[i]? with
    | none => rw [e] at hy; cases hy
    | some x =>
      rw [e] at hy
      exact ⟨x, rfl, (Option.some.inj hy).symm, hb x (List.mem_of_getElem? e)⟩
  have grow : ∀ {rs : List Int} {k : Nat} {x y : Int}, rs.length = k → (∀ (i : Nat) (x y : Int), rs[i]? = some x → bs[i]? = some y → 0 ≤ x ∧ x < y) → bs[k]? = some y → 0 ≤ x → x < y →
      ∀ (i : Nat) (x' y' : Int), (rs ++ [x])[i]? = some x' → bs[i]? = some y' → 0 ≤ x' ∧ x' < y' := fun {rs k x y} hk hr hy h0 h1 i x' y' hx' hy' => by
    by_cases hi : i < rs.length
    · rw [List.getElem?_append_left hi] at hx'
      exact hr i x' y' hx' hy'
    · have hi2 : i = rs.length := by
        have := (List.getElem?_eq_some_iff.mp hx').1
        rw [List.length_append] at this
        simp only [List.length_cons, List.length_nil] at this
        omega
      subst hi2
      rw [List.getElem?_append_right (Nat.le_refl _), Nat.sub_self] at hx'
      have e1 : x = x' := by simpa using hx'
      subst e1
      rw [hk, hy] at hy'
      cases hy'
      exact ⟨h0, h1⟩
  refine if2 (fun hc => ?_) (fun hc => ?_)
  · walk_at "go"
    refine f_list (fun k σ H' => ∃ (c' : Int) (v1 : Option V) (rs : List Int), σ = [some (.int c'), some (.ref b), some (.ref r), v1, none, none] ∧ Ex H H' ∧ H' r = some (.lst (rs.map V.int)) ∧ rs.length = k ∧ (∀ (i : Nat) (x y : Int), rs[i]? = some x → bs[i]? = some y → 0 ≤ x ∧ x < y))
      ⟨c, none, [], rfl, Evl.Ex.new hr, upd_same, rfl, by simp⟩ (fun k σ H' _ ⟨_, _, _, _, e, _⟩ => Evl.ex_l e hs) ?_ ?_
    · rintro k y σ H' hy ⟨c', v1, rs, rfl, e', hr', hk, hrs⟩
      obtain ⟨x, hx, rfl, h0, h1⟩ := bnd hy
      have hlt : k < bs.length := (List.getElem?_eq_some_iff.mp hx).1
      walk_at "go"
      refine r_append hr' (by rw [List.length_map]; exact line_of (by omega)) ?_
      walk_at "go"
      refine ⟨_, _, rs ++ [c' % x], rfl, Evl.Ex.mut e' hr, ?_, by rw [List.length_append, hk]; rfl, grow hk hrs hx (Int.emod_nonneg _ (by omega)) (Int.emod_lt_of_pos _ h0)⟩
      rw [upd_same, ints_app]
    · rintro σ H' ⟨c', v1, rs, rfl, e', hr', hk, hrs⟩
      rw [List.length_map] at hk
      walk_at "go"
      exact kQ H' r rs e' hr hr' hk hrs
  · walk_at "go"
    rw [List.length_map]
    walk_at "go"
    refine f_range (n := bs.length) (fun k σ H' => ∃ (v1 v2 : Option V) (rs : List Int), σ = [some (.int c), some (.ref b), some (.ref r), none, v1, v2] ∧ Ex H H' ∧ H' r = some (.lst (rs.map V.int)) ∧ rs.length = k ∧ (∀ (i : Nat) (x y : Int), rs[i]? = some x → bs[i]? = some y → 0 ≤ x ∧ x < y))
      ⟨none, none, [], rfl, Evl.Ex.new hr, upd_same, rfl, by simp⟩ ?_ ?_
    · rintro k σ H' hk' ⟨v1, v2, rs, rfl, e', hr', hk, hrs⟩
      rw [Int.zero_add]
      have hx : bs[k]? = some bs[k] := List.getElem?_eq_getElem hk'
      obtain ⟨h0, h1⟩ := hb _ (List.mem_of_getElem? hx)
      have ha : atI (bs.map V.int) (k : Int) = some (.int bs[k]) := atI_nat (by rw [List.getElem?_map, hx]; rfl)
      walk_at "go"
      refine r_append hr' (by rw [List.length_map]; exact line_of (by omega)) ?_
      refine ⟨_, _, rs ++ [((c * 48271 + (k : Int) * 69621 + 11) % 2147483647 * 16807 + (k : Int) * 7919 + 5) % 2147483629 % bs[k]], rfl, Evl.Ex.mut e' hr, ?_, by rw [List.length_append, hk]; rfl, grow hk hrs hx (Int.emod_nonneg _ (by omega)) (Int.emod_lt_of_pos _ h0)⟩
      rw [upd_same, ints_app]
    · rintro σ H' ⟨v1, v2, rs, rfl, e', hr', hk, hrs⟩
      walk_at "go"
      exact kQ H' r rs e' hr hr' hk hrs
end

end U

set_option Elab.async false
set_option linter.all false
set_option maxRecDepth 100000
set_option maxHeartbeats 4000000
namespace U
open PySem PySem.Spec PyProof.Rows L2
/-! ### stepping: local words (walk_at "..": a word of the library's syntax, given a meaning of our own here) -/
local macro_rules | `(tactic| walk_at "ne") => `(tactic| first
  | assumption
  | exact Ne.symm (by assumption)
  | exact ne_of_none (by assumption) (by assumption)
  | exact (ne_of_none (by assumption) (by assumption)).symm
  | exact ne_of (by assumption) (by assumption) (by intro z; cases z)
  | exact (ne_of (by assumption) (by assumption) (by intro z; cases z)).symm)
local macro_rules | `(tactic| walk_at "hp") => `(tactic| first
  | assumption
  | exact upd_same
  | ((apply hp_ne); (focus (walk_at "ne")); (walk_at "hp"))
  | ((apply hp_ex); assumption; (walk_at "hp")))
local macro_rules | `(tactic| walk_at "sq") => `(tactic| first
  | assumption
  | ((apply Evl.sq_of); (walk_at "hp"))
  | ((apply Evl.st_of); (walk_at "hp"))
  | ((apply Evl.ex_l); assumption; (walk_at "sq"))
  | ((apply Evl.ex_t); assumption; (walk_at "sq")))
local macro_rules | `(tactic| walk_at "sz") => `(tactic| first | (simp only [List.length_cons, List.length_nil]; omega) | omega | decide)
local macro_rules | `(tactic| walk_at "ar") => `(tactic| first | omega | decide | assumption)
local macro_rules | `(tactic| walk_at "s1") => `(tactic| first
  | (with_reducible first
      | refine r_seq ?_ | refine r_asg ?_ | refine r_drop ?_ | refine r_ret ?_ | refine r_retN ?_ | refine r_if ?_ | refine r_next ?_ | refine r_brk ?_ | refine r_cont ?_ | refine r_sFld ?_ | refine r_raise ?_
      | refine r_op ?_ | refine r_cons ?_ | refine r_nil ?_ | refine r_c ?_ | refine r_cb ?_ | refine r_call ?_ | refine r_meth ?_ | refine r_make ?_ | refine r_fld ?_ | refine r_tup ?_ | refine r_lst ?_ | refine r_un ?_
      | refine r_name ?_ | refine r_gCons ?_ | refine r_gNil ?_ | refine r_gSub ?_ | refine r_test ?_ | refine r_B ?_ | refine r_tru ?_ | refine r_and ?_ | refine r_or ?_ | refine r_not ?_ | refine r_chain ?_
      | refine r_andV ?_ | refine r_orV ?_ | refine r_notV ?_ | refine r_if' ?_ | refine r_sl ?_ | refine r_noPart ?_ | refine r_part ?_ | refine r_bm ?_ | refine r_bm0 ?_ | refine r_m1 ?_
      | refine r_exI ?_ | refine r_exB ?_ | refine r_exS ?_
      | refine r_add ?_ | refine r_sub ?_ | refine r_lt ?_ | refine r_le ?_ | refine r_gt ?_ | refine r_ge ?_ | refine r_and2 ?_ | refine r_neg ?_
      | refine r_eqI ?_ | refine r_neI ?_ | refine r_eqS ?_ | refine r_neS ?_ | refine r_eqNI ?_ | refine r_isNN ?_ | refine r_isNI ?_ | refine r_isNR ?_ | refine r_notNN ?_ | refine r_notNI ?_ | refine r_notNR ?_
      | refine r_inS ?_ | refine r_notInS ?_ | refine r_truI ?_ | refine r_truB ?_ | refine r_truN ?_ | refine r_abs ?_ | refine r_max ?_ | refine r_min ?_ | refine r_int ?_ | refine r_intB ?_ | refine r_ord ?_ | refine r_find ?_
      | refine iteT ?_ | refine iteF ?_ | refine if_nf ?_ | refine if_nt ?_ | refine r_mkx ?_ | refine r_mkG ?_ | refine r_gS ?_
      | refine r_forL ?_ | refine r_forT ?_ | refine r_forS ?_ | refine r_forR1 ?_ | refine r_forR2 ?_ | refine r_lc ?_ | refine r_iL ?_ | refine r_iT ?_ | refine r_iS ?_ | refine r_iR1 ?_ | refine r_iR2 ?_ | refine r_iR3 ?_)
  | ((with_reducible apply r_var); (with_unfolding_all rfl))
  | ((with_reducible first | refine r_mod ?_ ?_ | refine r_mul ?_ ?_ | refine r_div ?_ ?_ | refine r_pow ?_ ?_); (first | omega | decide | exact ⟨by omega, by omega⟩ | exact ⟨by decide, by decide⟩ | exact .inr ⟨by omega, by omega⟩ | exact .inl ⟨by omega, by omega⟩ | exact .inr ⟨by decide, by decide⟩ | exact ⟨by decide, by decide, by decide⟩))
  | ((with_reducible first | apply r_tyL | apply r_ixL | apply r_ixT | apply r_lenL | apply r_lenT | apply r_truL | apply r_truT | apply r_gL | apply r_gT); (walk_at "sq"); (try (first | assumption | (exact atI_nat (by assumption)) | rfl)))
  | ((with_reducible first | apply r_gR1 | apply r_gR2 | apply r_addS | apply r_lenS | apply r_str | apply r_repS); (first | omega | decide | exact ⟨by omega, by omega⟩ | exact ⟨⟨by omega, by omega⟩, by omega, by omega⟩ | (exact Nat.le_trans (by assumption) (by decide)) | exact ⟨by omega, by omega, by decide +kernel⟩))
  | ((with_reducible refine ifT ?_ ?_); (walk_at "ar"))
  | ((with_reducible refine ifF ?_ ?_); (walk_at "ar"))
  | ((with_reducible refine ifNT ?_ ?_); (walk_at "ar"))
  | ((with_reducible refine ifNF ?_ ?_); (walk_at "ar")))
local macro_rules | `(tactic| walk_at "go") => `(tactic| repeat (walk_at "s1"))

local macro_rules | `(tactic| walk_at "cls") => `(tactic| (with_reducible first
  | apply g_Disk_size (by assumption)
  | apply w_Disk_size (by assumption)
  | apply g_Disk_blocks (by assumption)
  | apply w_Disk_blocks (by assumption)
  | apply g_Disk_queue (by assumption)
  | apply w_Disk_queue (by assumption)
  | apply g_Disk_left (by assumption)
  | apply w_Disk_left (by assumption)
  | apply g_Disk_down (by assumption)
  | apply w_Disk_down (by assumption)
  | apply mm_Disk_spend
  | apply mm_Disk_block
  | apply mm_Disk_write
  | apply mm_Disk_sync
  | apply mm_Disk_waiting
  | apply mm_Disk_fall_after
  | apply mm_Disk_restart); walk_at "hp")
local macro_rules | `(tactic| walk_at "cls0") => `(tactic| (with_reducible first
  | apply w0_Disk_size (by assumption)
  | apply w0_Disk_blocks (by assumption)
  | apply w0_Disk_queue (by assumption)
  | apply w0_Disk_left (by assumption)
  | apply w0_Disk_down (by assumption)); walk_at "hp")
local macro_rules | `(tactic| walk_at "go") => `(tactic| repeat (first | walk_at "s1" | walk_at "cls"))

section
variable {K : PySem.W.Frag} {A : Adr}
theorem rowT_map : [V.str "", V.str "a", V.str "b c", V.str (repS "x" 64), V.str (repS "x" 65), V.str "a\nb", V.str "~ !", V.str (repS "\n" 64), V.str (repS "\n" 65), V.str "a\tb"] = rowT.map V.str := rfl
theorem pure__law_text (T : TxtP K A) (vs : List V) (H : Hp) (Q : VK) (E : XK) (h : sp__law_text K A vs H Q E) : t__law_text K A (fun cls d _ H => E cls d H) { nx := fun _ H' => Q .non H', rt := Q } (start N__law_text vs) H := by
  obtain ⟨k, n, rfl, hk, h0, h1, kQ⟩ := h
  unfold t__law_text
  walk_at "go"
  refine r_small (by show 10 ≤ 1000; decide) fun r hr => ?_
  walk_at "go"
  refine if2 (fun hc => ?_) (fun hc => ?_)
  · walk_at "go"
    · rw [rowT_map]
      have e : (rowT.map V.str)[k.toNat]? = some (.str (textOf k n)) := by
        have hl : k.toNat < rowT.length := by show k.toNat < 10; omega
        unfold textOf
        rw [if_pos hc, List.getElem?_map, List.getElem?_eq_getElem hl, List.getD_eq_getElem?_getD, List.getElem?_eq_getElem hl]
        rfl
      exact at_of (by omega) e
    · exact kQ _ (Evl.Ex.new hr)
  · have hlog : n.natAbs.log2 < 1920 := by
      have : n.natAbs < 2 ^ 20 := by omega
      rcases Nat.eq_zero_or_pos n.natAbs with z | z
      · rw [z]
        decide
      · exact Nat.lt_trans ((Nat.log2_lt (by omega)).mpr this) (by decide)
    walk_at "go"
    have e : textOf k n = Str.ofString (toString n) := if_neg hc
    rw [← e]
    exact kQ _ (Evl.Ex.new hr)
theorem tab_is : ("\t" : Str) = ⟨#[9]⟩ := by decide +kernel
theorem pure__law_is_good (T : TxtP K A) (vs : List V) (H : Hp) (Q : VK) (E : XK) (h : sp__law_is_good K A vs H Q E) : t__law_is_good K A (fun cls d _ H => E cls d H) { nx := fun _ H' => Q .non H', rt := Q } (start N__law_is_good vs) H := by
  obtain ⟨t, rfl, hl, kQ⟩ := h
  unfold t__law_is_good
  walk_at "go"
  refine if2 (fun h64 => ?_) (fun h64 => ?_)
  · walk_at "go"
    rw [tab_is]
    walk_at "go"
    have e : isGood t = !decide (9 ∈ t.cps.toList) := by
      unfold isGood
      rw [decide_eq_true (by omega), Bool.true_and]
    rw [← e]
    exact kQ
  · have e : isGood t = false := by
      unfold isGood
      rw [decide_eq_false (by omega), Bool.false_and]
    rw [← e]
    exact kQ
theorem pure__law_written (T : TxtP K A) (vs : List V) (H : Hp) (Q : VK) (E : XK) (h : sp__law_written K A vs H Q E) : t__law_written K A (fun cls d _ H => E cls d H) { nx := fun _ H' => Q .non H', rt := Q } (start N__law_written vs) H := by
  obtain ⟨p, lb, lq, d, i, t, rfl, D, hql, htl, kP, kB, kL, kQ⟩ := h
  obtain ⟨dx, hp⟩ := D.ob
  unfold t__law_written
  walk_at "go"
  show tDrop _ _ _ _
  walk_at "go"
  refine ⟨p, lb, lq, d, i, t, rfl, D, hql, htl, fun hd => ?_, fun hd hb e H1 e1 he => ?_, fun hd h0 h1 hb hc H1 D1 k1 => ?_, fun hd h0 h1 hb hc H1 D1 k1 => ?_⟩
  · refine ⟨false, T.m_PowerLost_BadBlock, fun z => (by cases z), fun _ => ⟨true, T.m_PowerLost_PowerLost, fun _ a ha => ?_, fun z => (by cases z)⟩⟩
    dsimp only [heldS, goneD]
    walk_at "go"
    exact kP hd
  · refine ⟨true, T.m_BadBlock_BadBlock, fun _ a ha => ?_, fun z => (by cases z)⟩
    dsimp only [heldS, goneD]
    walk_at "go"
    refine r_xf ?_
    walk_at "go"
    refine r_xfG upd_same ?_
    walk_at "go"
    refine ⟨rfl, rfl, T.i_BadBlock_DatabaseError, ?_⟩
    walk_at "go"
    refine r_small (by show 3 ≤ 1000; decide) fun r hr => ?_
    exact kB hd hb r _ (e1.trans ((Evl.Ex.new he).trans (Evl.Ex.new hr))) upd_same
  · refine ⟨false, T.m_PowerLost_BadBlock, fun z => (by cases z), fun _ => ⟨true, T.m_PowerLost_PowerLost, fun _ a ha => ?_, fun z => (by cases z)⟩⟩
    dsimp only [heldS, goneD]
    walk_at "go"
    exact kL hd h0 h1 hb hc H1 D1 k1
  · walk_at "go"
    exact kQ hd h0 h1 hb hc H1 D1 k1
theorem pure__law_synced (T : TxtP K A) (vs : List V) (H : Hp) (Q : VK) (E : XK) (h : sp__law_synced K A vs H Q E) : t__law_synced K A (fun cls d _ H => E cls d H) { nx := fun _ H' => Q .non H', rt := Q } (start N__law_synced vs) H := by
  obtain ⟨p, lb, lq, d, rfl, D, kP, kQ⟩ := h
  obtain ⟨dx, hp⟩ := D.ob
  unfold t__law_synced
  walk_at "go"
  show tDrop _ _ _ _
  walk_at "go"
  refine ⟨p, lb, lq, d, rfl, D, fun hc H1 D1 k1 => ?_, fun hc lq' H1 hn D1 k1 => ?_⟩
  · refine ⟨true, T.m_PowerLost_PowerLost, fun _ a ha => ?_, fun z => (by cases z)⟩
    dsimp only [heldS, goneD]
    walk_at "go"
    exact kP hc H1 D1 k1
  · walk_at "go"
    exact kQ hc lq' H1 hn D1 k1
theorem pure__law_read (T : TxtP K A) (vs : List V) (H : Hp) (Q : VK) (E : XK) (h : sp__law_read K A vs H Q E) : t__law_read K A (fun cls d _ H => E cls d H) { nx := fun _ H' => Q .non H', rt := Q } (start N__law_read vs) H := by
  obtain ⟨p, lb, lq, d, i, rfl, D, kP, kB, kQ⟩ := h
  obtain ⟨dx, hp⟩ := D.ob
  unfold t__law_read
  show tRet _ _ _ _
  walk_at "go"
  refine ⟨p, lb, lq, d, i, rfl, D, fun hd => ?_, fun hd hb e he => ?_, fun hd h0 h1 => ?_⟩
  · refine ⟨false, T.m_PowerLost_BadBlock, fun z => (by cases z), fun _ => ⟨true, T.m_PowerLost_PowerLost, fun _ a ha => ?_, fun z => (by cases z)⟩⟩
    dsimp only [heldS, goneD]
    walk_at "go"
    refine ⟨rfl, rfl, T.i_PowerLost_DatabaseError, ?_⟩
    walk_at "go"
    refine ⟨rfl, rfl, .ref A.BadBlock, .ref A.BadBlock, false, rfl, fun u r => r, T.i_PowerLost_BadBlock, ?_⟩
    walk_at "go"
    refine r_small (by show 2 ≤ 1000; decide) fun r hr => ?_
    exact kP hd r _ (Evl.Ex.new hr) upd_same
  · refine ⟨true, T.m_BadBlock_BadBlock, fun _ a ha => ?_, fun z => (by cases z)⟩
    dsimp only [heldS, goneD]
    walk_at "go"
    refine r_xf ?_
    walk_at "go"
    refine r_xfG upd_same ?_
    walk_at "go"
    refine r_small (by show 2 ≤ 1000; decide) fun r hr => ?_
    exact kB hd hb r _ ((Evl.Ex.new he).trans (Evl.Ex.new hr)) upd_same
  · exact kQ hd h0 h1
theorem pure__law_seen (T : TxtP K A) (vs : List V) (H : Hp) (Q : VK) (E : XK) (h : sp__law_seen K A vs H Q E) : t__law_seen K A (fun cls d _ H => E cls d H) { nx := fun _ H' => Q .non H', rt := Q } (start N__law_seen vs) H := by
  obtain ⟨b, q, bs, qs, ps, i, rfl, hb, hq, ht, hi, kQ⟩ := h
  unfold t__law_seen
  have e0 : atI (bs.map V.str) (i : Int) = some (V.str (bs.getD i "")) := atI_nat (by
    rw [List.getElem?_map, List.getElem?_eq_getElem hi, List.getD_eq_getElem?_getD, List.getElem?_eq_getElem hi]
    rfl)
  walk_at "go"
  refine f_list (fun k σ H' => ∃ v1 : Option V, σ = [some (.ref b), some (.ref q), some (.int (i : Nat)), some (.str (seenQ (bs.getD i "") (qs.take k) i)), v1] ∧ H' = H) ⟨none, rfl, rfl⟩ (fun k σ H' _ ⟨_, _, e⟩ => by subst e; exact Evl.sq_of hq) ?_ ?_
  · rintro k x σ H' hx ⟨v1, rfl, rfl⟩
    obtain ⟨a, ha, rfl⟩ : ∃ a, ps[k]? = some a ∧ V.ref a = x := by simpa using hx
    obtain ⟨e, he, hae⟩ := tups_get ht ha
    have tn := seen_turn (t := bs.getD i "") (i := i) he
    have a0 : atI [V.int (e.1 : Nat), V.str e.2] 0 = some (V.int (e.1 : Nat)) := rfl
    have a1 : atI [V.int (e.1 : Nat), V.str e.2] 1 = some (V.str e.2) := rfl
    walk_at "go"
    refine if2 (fun hc => ?_) (fun hc => ?_)
    · walk_at "go"
      show ∃ _, _ ∧ _
      rw [tn, if_pos (by omega)]
      exact ⟨_, rfl, rfl⟩
    · walk_at "go"
      show ∃ _, _ ∧ _
      rw [tn, if_neg (by omega)]
      exact ⟨_, rfl, rfl⟩
  · rintro σ H' ⟨v1, rfl, rfl⟩
    rw [List.length_map, tups_len ht, List.take_length]
    walk_at "go"
    exact kQ
end

end U

set_option Elab.async false
set_option linter.all false
set_option maxRecDepth 100000
set_option maxHeartbeats 4000000
namespace U
open PySem PySem.Spec PyProof.Rows L2
/-! ### stepping: local words (walk_at "..": a word of the library's syntax, given a meaning of our own here) -/
local macro_rules | `(tactic| walk_at "ne") => `(tactic| first
  | assumption
  | exact Ne.symm (by assumption)
  | exact ne_of_none (by assumption) (by assumption)
  | exact (ne_of_none (by assumption) (by assumption)).symm
  | exact ne_of (by assumption) (by assumption) (by intro z; cases z)
  | exact (ne_of (by assumption) (by assumption) (by intro z; cases z)).symm)
local macro_rules | `(tactic| walk_at "hp") => `(tactic| first
  | assumption
  | exact upd_same
  | ((apply hp_ne); (focus (walk_at "ne")); (walk_at "hp"))
  | ((apply hp_ex); assumption; (walk_at "hp")))
local macro_rules | `(tactic| walk_at "sq") => `(tactic| first
  | assumption
  | ((apply Evl.sq_of); (walk_at "hp"))
  | ((apply Evl.st_of); (walk_at "hp"))
  | ((apply Evl.ex_l); assumption; (walk_at "sq"))
  | ((apply Evl.ex_t); assumption; (walk_at "sq")))
local macro_rules | `(tactic| walk_at "sz") => `(tactic| first | (simp only [List.length_cons, List.length_nil]; omega) | omega | decide)
local macro_rules | `(tactic| walk_at "ar") => `(tactic| first | omega | decide | assumption)
local macro_rules | `(tactic| walk_at "s1") => `(tactic| first
  | (with_reducible first
      | refine r_seq ?_ | refine r_asg ?_ | refine r_drop ?_ | refine r_ret ?_ | refine r_retN ?_ | refine r_if ?_ | refine r_next ?_ | refine r_brk ?_ | refine r_cont ?_ | refine r_sFld ?_ | refine r_raise ?_
      | refine r_op ?_ | refine r_cons ?_ | refine r_nil ?_ | refine r_c ?_ | refine r_cb ?_ | refine r_call ?_ | refine r_meth ?_ | refine r_make ?_ | refine r_fld ?_ | refine r_tup ?_ | refine r_lst ?_ | refine r_un ?_
      | refine r_name ?_ | refine r_gCons ?_ | refine r_gNil ?_ | refine r_gSub ?_ | refine r_test ?_ | refine r_B ?_ | refine r_tru ?_ | refine r_and ?_ | refine r_or ?_ | refine r_not ?_ | refine r_chain ?_
      | refine r_andV ?_ | refine r_orV ?_ | refine r_notV ?_ | refine r_if' ?_ | refine r_sl ?_ | refine r_noPart ?_ | refine r_part ?_ | refine r_bm ?_ | refine r_bm0 ?_ | refine r_m1 ?_
      | refine r_exI ?_ | refine r_exB ?_ | refine r_exS ?_
      | refine r_add ?_ | refine r_sub ?_ | refine r_lt ?_ | refine r_le ?_ | refine r_gt ?_ | refine r_ge ?_ | refine r_and2 ?_ | refine r_neg ?_
      | refine r_eqI ?_ | refine r_neI ?_ | refine r_eqS ?_ | refine r_neS ?_ | refine r_eqNI ?_ | refine r_isNN ?_ | refine r_isNI ?_ | refine r_isNR ?_ | refine r_notNN ?_ | refine r_notNI ?_ | refine r_notNR ?_
      | refine r_inS ?_ | refine r_notInS ?_ | refine r_truI ?_ | refine r_truB ?_ | refine r_truN ?_ | refine r_abs ?_ | refine r_max ?_ | refine r_min ?_ | refine r_int ?_ | refine r_intB ?_ | refine r_ord ?_ | refine r_find ?_
      | refine iteT ?_ | refine iteF ?_ | refine if_nf ?_ | refine if_nt ?_ | refine r_mkx ?_ | refine r_mkG ?_ | refine r_gS ?_
      | refine r_forL ?_ | refine r_forT ?_ | refine r_forS ?_ | refine r_forR1 ?_ | refine r_forR2 ?_ | refine r_lc ?_ | refine r_iL ?_ | refine r_iT ?_ | refine r_iS ?_ | refine r_iR1 ?_ | refine r_iR2 ?_ | refine r_iR3 ?_)
  | ((with_reducible apply r_var); (with_unfolding_all rfl))
  | ((with_reducible first | refine r_mod ?_ ?_ | refine r_mul ?_ ?_ | refine r_div ?_ ?_ | refine r_pow ?_ ?_); (first | omega | decide | exact ⟨by omega, by omega⟩ | exact ⟨by decide, by decide⟩ | exact .inr ⟨by omega, by omega⟩ | exact .inl ⟨by omega, by omega⟩ | exact .inr ⟨by decide, by decide⟩ | exact ⟨by decide, by decide, by decide⟩))
  | ((with_reducible first | apply r_tyL | apply r_ixL | apply r_ixT | apply r_lenL | apply r_lenT | apply r_truL | apply r_truT | apply r_gL | apply r_gT); (walk_at "sq"); (try (first | assumption | (exact atI_nat (by assumption)) | rfl)))
  | ((with_reducible first | apply r_gR1 | apply r_gR2 | apply r_addS | apply r_lenS | apply r_str | apply r_repS); (first | omega | decide | exact ⟨by omega, by omega⟩ | exact ⟨⟨by omega, by omega⟩, by omega, by omega⟩ | (exact Nat.le_trans (by assumption) (by decide)) | exact ⟨by omega, by omega, by decide +kernel⟩))
  | ((with_reducible refine ifT ?_ ?_); (walk_at "ar"))
  | ((with_reducible refine ifF ?_ ?_); (walk_at "ar"))
  | ((with_reducible refine ifNT ?_ ?_); (walk_at "ar"))
  | ((with_reducible refine ifNF ?_ ?_); (walk_at "ar")))
local macro_rules | `(tactic| walk_at "go") => `(tactic| repeat (walk_at "s1"))

local macro_rules | `(tactic| walk_at "cls") => `(tactic| (with_reducible first
  | apply g_Disk_size (by assumption)
  | apply w_Disk_size (by assumption)
  | apply g_Disk_blocks (by assumption)
  | apply w_Disk_blocks (by assumption)
  | apply g_Disk_queue (by assumption)
  | apply w_Disk_queue (by assumption)
  | apply g_Disk_left (by assumption)
  | apply w_Disk_left (by assumption)
  | apply g_Disk_down (by assumption)
  | apply w_Disk_down (by assumption)
  | apply mm_Disk_spend
  | apply mm_Disk_block
  | apply mm_Disk_write
  | apply mm_Disk_sync
  | apply mm_Disk_waiting
  | apply mm_Disk_fall_after
  | apply mm_Disk_restart); walk_at "hp")
local macro_rules | `(tactic| walk_at "cls0") => `(tactic| (with_reducible first
  | apply w0_Disk_size (by assumption)
  | apply w0_Disk_blocks (by assumption)
  | apply w0_Disk_queue (by assumption)
  | apply w0_Disk_left (by assumption)
  | apply w0_Disk_down (by assumption)); walk_at "hp")
local macro_rules | `(tactic| walk_at "go") => `(tactic| repeat (first | walk_at "s1" | walk_at "cls"))

theorem MAt.put {H : Hp} {m mq lb : Addr} {d d' : DS} {xs : List V} (h : MAt H m mq lb d) (hx : xs = [.ref mq, oI d'.left, .bl d'.down]) (hs : d'.size = d.size) (hb : d'.blocks = d.blocks) (hq : d'.queue = d.queue) : MAt (upd H m (.lst xs)) m mq lb d' := by
  obtain ⟨h1, h2, ⟨ps, h3, h4⟩, ok, n1, n2, n3⟩ := h
  refine ⟨by rw [hx]; exact upd_same, ?_, ⟨ps, ?_, ?_⟩, ?_, n1, n2, n3⟩
  · rw [upd_ne n2.symm, hb]
    exact h2
  · rw [upd_ne n1.symm]
    exact h3
  · rw [hq]
    exact tups_kp h4 fun b ys z => by rw [upd_ne (ne_of z h1 (by intro y; cases y))]; exact z
  · exact ⟨by rw [hs, hb]; exact ok.bl, by rw [hs]; exact ok.sz, by rw [hq]; exact ok.ql, by rw [hs, hq]; exact ok.ix, by rw [hb, hq]; exact ok.tx⟩
theorem MAt.ex {H H' : Hp} {m mq lb : Addr} {d : DS} (h : MAt H m mq lb d) (e : Ex H H') : MAt H' m mq lb d := by
  obtain ⟨h1, h2, ⟨ps, h3, h4⟩, ok, n1, n2, n3⟩ := h
  exact ⟨e _ _ h1, e _ _ h2, ⟨ps, e _ _ h3, tups_kp h4 fun b xs z => e _ _ z⟩, ok, n1, n2, n3⟩
theorem MAt.kp {H H' : Hp} {m mq lb : Addr} {d : DS} {fp : List Addr} (h : MAt H m mq lb d) (k : Kp fp H H') (n1 : m ∉ fp) (n2 : lb ∉ fp) (n3 : mq ∉ fp) (nt : ∀ b ∈ fp, ∀ xs, H b ≠ some (.tup xs)) : MAt H' m mq lb d := by
  obtain ⟨h1, h2, ⟨ps, h3, h4⟩, ok, m1, m2, m3⟩ := h
  exact ⟨k _ _ h1 n1, k _ _ h2 n2, ⟨ps, k _ _ h3 n3, tups_kp h4 fun b xs z => k _ _ z fun hb => nt b hb xs z⟩, ok, m1, m2, m3⟩
/-- one more waiting write -/
theorem MAt.wrote {H : Hp} {m mq lb a : Addr} {d : DS} {ps : List Addr} {i : Nat} {t : Str} (M : MAt H m mq lb d.cnt.spent) (hq : H mq = some (.lst (ps.map V.ref))) (ht : Tups H ps d.queue) (hl : d.queue.length < 900000) (hi : i < d.size) (hbt : isBlk t = true) (ha : H a = none) :
    MAt (upd (upd H a (.tup [.int (i : Nat), .str t])) mq (.lst (ps.map V.ref ++ [.ref a]))) m mq lb (d.wrote i t) := by
  obtain ⟨hm, hb, _, ok, n1, n2, n3⟩ := M
  have k1 : lb ≠ a := ne_of_none hb ha
  have k2 : m ≠ a := ne_of_none hm ha
  have k4 : a ≠ mq := (ne_of_none hq ha).symm
  refine ⟨?_, ?_, ⟨ps ++ [a], ?_, ?_⟩, ⟨ok.bl, ok.sz, ?_, ?_, ?_⟩, n1, n2, n3⟩
  · rw [upd_ne n1, upd_ne k2]
    exact hm
  · rw [upd_ne n3.symm, upd_ne k1]
    exact hb
  · rw [List.map_append]
    exact upd_same
  · refine tups_app (tups_kp ht fun b xs z => ?_) ?_
    · rw [upd_ne (ne_of z hq (by intro y; cases y)), upd_ne (ne_of_none z ha)]
      exact z
    · rw [upd_ne k4]
      exact upd_same
  · show (d.queue ++ [(i, t)]).length ≤ 900000
    rw [List.length_append]
    show d.queue.length + 1 ≤ 900000
    omega
  · intro e he
    have he' : e ∈ d.queue ++ [(i, t)] := he
    have hs : (d.wrote i t).size = d.size := cnt_size d
    rw [hs]
    rcases List.mem_append.mp he' with z | z
    · have := ok.ix e (by show e ∈ d.cnt.queue; rw [cnt_queue]; exact z)
      have hs2 : d.cnt.spent.size = d.size := cnt_size d
      rw [hs2] at this
      exact this
    · rw [List.mem_singleton.mp z]
      exact hi
  · have h1 : ∀ t ∈ d.cnt.blocks, isBlk t = true := ok.tx.1
    have h2 : ∀ e ∈ d.cnt.queue, isBlk e.2 = true := ok.tx.2
    rw [cnt_queue] at h2
    refine ⟨h1, fun e he => ?_⟩
    have he' : e ∈ d.queue ++ [(i, t)] := he
    rcases List.mem_append.mp he' with z | z
    · exact h2 e z
    · rw [List.mem_singleton.mp z]
      exact hbt
section
variable {K : PySem.W.Frag} {A : Adr}
theorem pure__law_write_due (T : TxtP K A) (vs : List V) (H : Hp) (Q : VK) (E : XK) (h : sp__law_write_due K A vs H Q E) : t__law_write_due K A (fun cls d _ H => E cls d H) { nx := fun _ H' => Q .non H', rt := Q } (start N__law_write_due vs) H := by
  obtain ⟨m, mq, lb, d, i, t, rfl, M, hql, htl, hgb, kP, kB, kL, kQ⟩ := h
  obtain ⟨hm, hb, ⟨ps, hq, ht⟩, ok, n1, n2, n3⟩ := id M
  unfold t__law_write_due
  walk_at "go"
  refine ifb2 (fun hd => ?_) (fun hd => ?_)
  · walk_at "go"
    exact kP hd
  walk_at "go"
  refine if2 (fun h0 => ?_) (fun h0 => ?_)
  · walk_at "go"
    refine r_small (by show 3 ≤ 1000; decide) fun r hr => ?_
    exact kB hd (fun z => by omega) r _ (Evl.Ex.new hr) hr upd_same
  walk_at "go"
  refine if2 (fun h1 => ?_) (fun h1 => ?_)
  · walk_at "go"
    refine r_small (by show 3 ≤ 1000; decide) fun r hr => ?_
    exact kB hd (fun z => by omega) r _ (Evl.Ex.new hr) hr upd_same
  walk_at "go"
  refine ⟨t, rfl, htl, ?_⟩
  walk_at "go"
  refine ifb2 (fun hg => ?_) (fun hg => ?_)
  · walk_at "go"
    refine r_small (by show 3 ≤ 1000; decide) fun r hr => ?_
    exact kB hd (fun z => by rw [z.2.2] at hg; cases hg) r _ (Evl.Ex.new hr) hr upd_same
  have hg' : isGood t = true := by simpa using hg
  have g0 : 0 ≤ i := by omega
  have g1 : i < (d.size : Nat) := by omega
  have ei : (i.toNat : Int) = i := Int.toNat_of_nonneg g0
  -- behind the tests: one more waiting write
  have fin : ∀ H2 : Hp, Kp [m] H H2 → MAt H2 m mq lb d.cnt.spent → d.cnt.down = false →
      (tSeq (tDrop (tBM K "list" rAppend (tOp (rIxL K) (tVar 0) (tC (.int 0))) (tCons (tTup (tCons (tVar 2) (tCons (tVar 3) tNil))) tNil))) (tRet (tC (.str "done")))) { nx := fun _ H' => Q .non H', rt := Q } (start N__law_write_due [V.ref m, .int (d.size : Nat), .int i, .str t]) H2 := by
    intro H2 k2 M2 hc
    obtain ⟨hm2, hb2, ⟨ps2, hq2, ht2⟩, ok2, _, _, _⟩ := id M2
    have eq1 : d.cnt.spent.queue = d.queue := cnt_queue d
    rw [eq1] at ht2
    walk_at "go"
    refine r_small (by show 2 ≤ 1000; decide) fun a ha => ?_
    have na : mq ≠ a := ne_of_none hq2 ha
    walk_at "go"
    have hlen : (ps2.map V.ref).length < sizeLine := by
      rw [List.length_map, tups_len ht2]
      exact line_of (by omega)
    refine r_append (by rw [upd_ne na]; exact hq2) hlen ?_
    walk_at "go"
    have MM := MAt.wrote (t := t) M2 hq2 ht2 hql (show i.toNat < d.size by omega) (by rw [← hgb]; exact hg') ha
    rw [ei] at MM
    refine kQ hd g0 g1 hg' hc _ MM fun b o hbo hf => ?_
    have hbp : b ≠ m := fun z => hf (by rw [z]; exact List.mem_cons_self ..)
    have hbq : b ≠ mq := fun z => hf (by rw [z]; exact List.mem_cons_of_mem _ (List.mem_singleton.mpr rfl))
    have h2 : H2 b = some o := k2 b o hbo (by simpa using hbp)
    rw [upd_ne hbq, upd_ne (ne_of_none h2 ha)]
    exact h2
  obtain ⟨size, blocks, queue, left, down⟩ := d
  dsimp only at hd
  subst hd
  cases left with
  | none =>
    have ec : DS.cnt { size := size, blocks := blocks, queue := queue, left := none, down := false } = _ := cnt_no (by simp)
    dsimp only [oI] at hm
    have f0 := fin H (fun b o h _ => h) (by rw [ec]; exact M) (by rw [ec])
    repeat (first | (with_reducible exact f0) | walk_at "s1")
  | some j =>
    dsimp only [oI] at hm
    walk_at "go"
    refine if2 (fun hj => ?_) (fun hj => ?_)
    · subst hj
      have ec : DS.cnt { size := size, blocks := blocks, queue := queue, left := some 0, down := false } = _ := cnt_yes rfl
      walk_at "go"
      refine r_setL (n := 2) hm rfl ?_
      walk_at "go"
      exact kL rfl g0 g1 hg' (by rw [ec]) _ (by rw [ec]; exact M.put rfl rfl rfl rfl) kp_upd
    · have ec : DS.cnt { size := size, blocks := blocks, queue := queue, left := some j, down := false } = _ := cnt_no (by simpa using hj)
      walk_at "go"
      refine r_setL (n := 1) hm rfl ?_
      exact fin _ kp_upd (by rw [ec]; exact M.put rfl rfl rfl rfl) (by rw [ec])
theorem pure__law_sync_due (T : TxtP K A) (vs : List V) (H : Hp) (Q : VK) (E : XK) (h : sp__law_sync_due K A vs H Q E) : t__law_sync_due K A (fun cls d _ H => E cls d H) { nx := fun _ H' => Q .non H', rt := Q } (start N__law_sync_due vs) H := by
  obtain ⟨m, mq, lb, d, rfl, M, kP, kQ⟩ := h
  -- behind the tests: the writes last
  have fin : ∀ H2 : Hp, Kp [m] H H2 → MAt H2 m mq lb d.cnt.spent → d.cnt.down = false →
      (tSeq (tFor (iList K (tOp (rIxL K) (tVar 0) (tC (.int 0)))) (gName 2) (tAsg (tOp (rIxT K) (tVar 2) (tC (.int 1))) (gSub (tVar 1) (tOp (rIxT K) (tVar 2) (tC (.int 0))) rSetL)))
        (tSeq (tAsg (tLst tNil) (gSub (tVar 0) (tC (.int 0)) rSetL)) (tRet (tC (.str "done"))))) { nx := fun _ H' => Q .non H', rt := Q } (start N__law_sync_due [V.ref m, .ref lb]) H2 := by
    intro H2 k2 M2 hc
    obtain ⟨hm2, hb2, ⟨ps, hq2, ht2⟩, ok2, n1, n2, n3⟩ := id M2
    have eq1 : d.cnt.spent.queue = d.queue := cnt_queue d
    have eb1 : d.cnt.spent.blocks = d.blocks := cnt_blocks d
    have es1 : d.cnt.spent.size = d.size := cnt_size d
    have tx1 : (∀ t ∈ d.blocks, isBlk t = true) ∧ ∀ e ∈ d.queue, isBlk e.2 = true := by
      have := ok2.tx
      rw [eb1, eq1] at this
      exact this
    have okd : d.blocks.length = d.size ∧ ∀ e ∈ d.queue, e.1 < d.size := by
      have b1 := ok2.bl
      have b2 := ok2.ix
      rw [eb1, es1] at b1
      rw [eq1, es1] at b2
      exact ⟨b1, b2⟩
    rw [eq1] at ht2
    rw [eb1] at hb2
    walk_at "go"
    refine f_list (fun k σ H' => ∃ v1 : Option V, σ = [some (.ref m), some (.ref lb), v1] ∧ H' lb = some (.lst ((putQ d.blocks (d.queue.take k)).map V.str)) ∧ ∀ b, b ≠ lb → H' b = H2 b) ⟨none, rfl, hb2, fun _ _ => rfl⟩
      (fun k σ H' _ ⟨_, _, _, e⟩ => Evl.sq_of ((e mq n3).trans hq2)) ?_ ?_
    · rintro k x σ H' hx ⟨v1, rfl, hb', e'⟩
      obtain ⟨a, ha, rfl⟩ : ∃ a, ps[k]? = some a ∧ V.ref a = x := by simpa using hx
      obtain ⟨e, he, hae⟩ := tups_get ht2 ha
      have nab : a ≠ lb := ne_of hae hb2 (by intro z; cases z)
      have ha' : H' a = some (.tup [.int (e.1 : Nat), .str e.2]) := (e' a nab).trans hae
      have a0 : atI [V.int (e.1 : Nat), V.str e.2] 0 = some (V.int (e.1 : Nat)) := rfl
      have a1 : atI [V.int (e.1 : Nat), V.str e.2] 1 = some (V.str e.2) := rfl
      walk_at "go"
      have hlt : e.1 < ((putQ d.blocks (d.queue.take k)).map V.str).length := by
        rw [List.length_map, putQ_len, okd.1]
        exact okd.2 e (List.mem_of_getElem? he)
      refine r_setL hb' (ixN_nat hlt) ?_
      refine ⟨_, rfl, ?_, fun b hb => by rw [upd_ne hb]; exact e' b hb⟩
      rw [upd_same, putQ_turn he, List.map_set]
    · rintro σ H' ⟨v1, rfl, hb', e'⟩
      rw [List.length_map, tups_len ht2, List.take_length] at hb'
      have hm' : H' m = _ := (e' m n2).trans hm2
      walk_at "go"
      refine r_small (by decide) fun mq' hmq' => ?_
      have nm' : m ≠ mq' := ne_of_none hm' hmq'
      have nb' : lb ≠ mq' := ne_of_none hb' hmq'
      walk_at "go"
      refine r_setL (n := 0) ((upd_ne nm').trans hm') rfl ?_
      walk_at "go"
      have hH : H mq' = none := by
        cases z : H mq' with
        | none => rfl
        | some o =>
          have z2 := k2 mq' o z (by simpa using nm'.symm)
          rw [← e' mq' nb'.symm, hmq'] at z2
          cases z2
      refine kQ hc mq' _ hH ⟨?_, ?_, ⟨[], ?_, .nil⟩, ⟨?_, ?_, by show (0 : Nat) ≤ _; omega, (by intro e he; cases he), putQ_all _ _ tx1.1 tx1.2, (by intro e he; cases he)⟩, nm', n2, nb'.symm⟩ fun b o hbo hf => ?_
      · exact upd_same
      · rw [upd_ne n2.symm, upd_ne nb']
        exact hb'
      · rw [upd_ne nm'.symm]
        exact upd_same
      · show (putQ d.blocks d.queue).length = d.cnt.size
        rw [putQ_len, cnt_size]
        exact okd.1
      · have := ok2.sz
        rw [es1] at this
        show d.cnt.size ≤ 5000
        rw [cnt_size]
        exact this
      · have hbm : b ≠ m := fun z => hf (by rw [z]; exact List.mem_cons_self ..)
        have hbl : b ≠ lb := fun z => hf (by rw [z]; exact List.mem_cons_of_mem _ (List.mem_singleton.mpr rfl))
        have h2 : H' b = some o := (e' b hbl).trans (k2 b o hbo (by simpa using hbm))
        rw [upd_ne hbm, upd_ne (ne_of_none h2 hmq')]
        exact h2
  obtain ⟨hm, hb, ⟨ps, hq, ht⟩, ok, n1, n2, n3⟩ := id M
  obtain ⟨size, blocks, queue, left, down⟩ := d
  unfold t__law_sync_due
  cases left with
  | none =>
    have ec : DS.cnt { size := size, blocks := blocks, queue := queue, left := none, down := down } = _ := cnt_no (by simp)
    dsimp only [oI] at hm
    walk_at "go"
    refine ifb2 (fun hd => ?_) (fun hd => ?_)
    · walk_at "go"
      exact kP (by rw [ec]; exact hd) H (by rw [ec]; exact M) fun b o h _ => h
    · have f0 := fin H (fun b o h _ => h) (by rw [ec]; exact M) (by rw [ec]; exact hd)
      repeat (first | (with_reducible exact f0) | walk_at "s1")
  | some j =>
    dsimp only [oI] at hm
    walk_at "go"
    refine if2 (fun hj => ?_) (fun hj => ?_)
    · subst hj
      have ec : DS.cnt { size := size, blocks := blocks, queue := queue, left := some 0, down := down } = _ := cnt_yes rfl
      walk_at "go"
      refine r_setL (n := 2) hm rfl ?_
      have hm' : upd H m (.lst ([V.ref mq, V.int 0, V.bl down].set 2 (V.bl true))) m = some (.lst [V.ref mq, V.int 0, V.bl true]) := upd_same
      walk_at "go"
      exact kP (by rw [ec]) _ (by rw [ec]; exact M.put rfl rfl rfl rfl) kp_upd
    · have ec : DS.cnt { size := size, blocks := blocks, queue := queue, left := some j, down := down } = _ := cnt_no (by simpa using hj)
      walk_at "go"
      refine ifb2 (fun hd => ?_) (fun hd => ?_)
      · walk_at "go"
        exact kP (by rw [ec]; exact hd) H (by rw [ec]; exact M) fun b o h _ => h
      · walk_at "go"
        refine r_setL (n := 1) hm rfl ?_
        exact fin _ kp_upd (by rw [ec]; exact M.put rfl rfl rfl rfl) (by rw [ec]; exact hd)
theorem pure__law_restart (T : TxtP K A) (vs : List V) (H : Hp) (Q : VK) (E : XK) (h : sp__law_restart K A vs H Q E) : t__law_restart K A (fun cls d _ H => E cls d H) { nx := fun _ H' => Q .non H', rt := Q } (start N__law_restart vs) H := by
  obtain ⟨m, mq, lb, d, c, rfl, hc0, M, kQ⟩ := h
  obtain ⟨hm, hb, ⟨ps, hq, ht⟩, ok, n1, n2, n3⟩ := id M
  unfold t__law_restart
  walk_at "go"
  refine f_list (fun k σ H' => ∃ v1 : Option V, σ = [some (.ref m), some (.ref lb), some (.int (lastQ d.blocks (d.queue.take k) c).2), v1] ∧ H' lb = some (.lst ((lastQ d.blocks (d.queue.take k) c).1.map V.str)) ∧ ∀ b, b ≠ lb → H' b = H b) ⟨none, rfl, hb, fun _ _ => rfl⟩
    (fun k σ H' _ ⟨_, _, _, e⟩ => Evl.sq_of ((e mq n3).trans hq)) ?_ ?_
  · rintro k x σ H' hx ⟨v1, rfl, hb', e'⟩
    obtain ⟨a, ha, rfl⟩ : ∃ a, ps[k]? = some a ∧ V.ref a = x := by simpa using hx
    obtain ⟨e, he, hae⟩ := tups_get ht ha
    have nab : a ≠ lb := ne_of hae hb (by intro z; cases z)
    have ha' : H' a = some (.tup [.int (e.1 : Nat), .str e.2]) := (e' a nab).trans hae
    have a0 : atI [V.int (e.1 : Nat), V.str e.2] 0 = some (V.int (e.1 : Nat)) := rfl
    have a1 : atI [V.int (e.1 : Nat), V.str e.2] 1 = some (V.str e.2) := rfl
    have tn := lastQ_turn (bs := d.blocks) (c := c) he
    walk_at "go"
    refine if2 (fun h1 => ?_) (fun h1 => ?_)
    · walk_at "go"
      have hlt : e.1 < ((lastQ d.blocks (d.queue.take k) c).1.map V.str).length := by
        rw [List.length_map, lastQ_len, ok.bl]
        exact ok.ix e (List.mem_of_getElem? he)
      refine r_setL hb' (ixN_nat hlt) ?_
      walk_at "go"
      refine ⟨_, by rw [tn]; rfl, ?_, fun b hb => by rw [upd_ne hb]; exact e' b hb⟩
      rw [upd_same, tn]
      unfold lastS
      rw [if_pos h1, List.map_set]
    · walk_at "go"
      refine ⟨_, by rw [tn]; rfl, ?_, e'⟩
      rw [hb', tn]
      unfold lastS
      rw [if_neg h1]
  · rintro σ H' ⟨v1, rfl, hb', e'⟩
    rw [List.length_map, tups_len ht, List.take_length] at hb'
    have hm' : H' m = _ := (e' m n2).trans hm
    walk_at "go"
    refine r_small (by decide) fun mq' hmq' => ?_
    have nm' : m ≠ mq' := ne_of_none hm' hmq'
    have nb' : lb ≠ mq' := ne_of_none hb' hmq'
    walk_at "go"
    refine r_setL (n := 0) ((upd_ne nm').trans hm') rfl ?_
    walk_at "go"
    refine r_setL (n := 1) upd_same rfl ?_
    walk_at "go"
    refine r_setL (n := 2) upd_same rfl ?_
    have hH : H mq' = none := (e' mq' nb'.symm).symm.trans hmq'
    refine kQ mq' _ hH ⟨upd_same, ?_, ⟨[], ?_, .nil⟩, ⟨?_, ok.sz, by show (0 : Nat) ≤ _; omega, (by intro e he; cases he), lastQ_all _ _ _ ok.tx.1 ok.tx.2, (by intro e he; cases he)⟩, nm', n2, nb'.symm⟩ fun b o hbo hf => ?_
    · simp only [upd_ne n2.symm, upd_ne nb']
      exact hb'
    · simp only [upd_ne nm'.symm]
      exact upd_same
    · show (lastQ d.blocks d.queue c).1.length = d.size
      rw [lastQ_len]
      exact ok.bl
    · have hbm : b ≠ m := fun z => hf (by rw [z]; exact List.mem_cons_self ..)
      have hbl : b ≠ lb := fun z => hf (by rw [z]; exact List.mem_cons_of_mem _ (List.mem_singleton.mpr rfl))
      have h2 : H' b = some o := (e' b hbl).trans hbo
      simp only [upd_ne hbm, upd_ne (ne_of_none h2 hmq')]
      exact h2
end

end U

set_option Elab.async false
set_option linter.all false
set_option maxRecDepth 100000
set_option maxHeartbeats 4000000
namespace U
open PySem PySem.Spec PyProof.Rows L2
/-! ### stepping: local words (walk_at "..": a word of the library's syntax, given a meaning of our own here) -/
local macro_rules | `(tactic| walk_at "ne") => `(tactic| first
  | assumption
  | exact Ne.symm (by assumption)
  | exact ne_of_none (by assumption) (by assumption)
  | exact (ne_of_none (by assumption) (by assumption)).symm
  | exact ne_of (by assumption) (by assumption) (by intro z; cases z)
  | exact (ne_of (by assumption) (by assumption) (by intro z; cases z)).symm)
local macro_rules | `(tactic| walk_at "hp") => `(tactic| first
  | assumption
  | exact upd_same
  | ((apply hp_ne); (focus (walk_at "ne")); (walk_at "hp"))
  | ((apply hp_ex); assumption; (walk_at "hp")))
local macro_rules | `(tactic| walk_at "sq") => `(tactic| first
  | assumption
  | ((apply Evl.sq_of); (walk_at "hp"))
  | ((apply Evl.st_of); (walk_at "hp"))
  | ((apply Evl.ex_l); assumption; (walk_at "sq"))
  | ((apply Evl.ex_t); assumption; (walk_at "sq")))
local macro_rules | `(tactic| walk_at "sz") => `(tactic| first | (simp only [List.length_cons, List.length_nil]; omega) | omega | decide)
local macro_rules | `(tactic| walk_at "ar") => `(tactic| first | omega | decide | assumption)
local macro_rules | `(tactic| walk_at "s1") => `(tactic| first
  | (with_reducible first
      | refine r_seq ?_ | refine r_asg ?_ | refine r_drop ?_ | refine r_ret ?_ | refine r_retN ?_ | refine r_if ?_ | refine r_next ?_ | refine r_brk ?_ | refine r_cont ?_ | refine r_sFld ?_ | refine r_raise ?_
      | refine r_op ?_ | refine r_cons ?_ | refine r_nil ?_ | refine r_c ?_ | refine r_cb ?_ | refine r_call ?_ | refine r_meth ?_ | refine r_make ?_ | refine r_fld ?_ | refine r_tup ?_ | refine r_lst ?_ | refine r_un ?_
      | refine r_name ?_ | refine r_gCons ?_ | refine r_gNil ?_ | refine r_gSub ?_ | refine r_test ?_ | refine r_B ?_ | refine r_tru ?_ | refine r_and ?_ | refine r_or ?_ | refine r_not ?_ | refine r_chain ?_
      | refine r_andV ?_ | refine r_orV ?_ | refine r_notV ?_ | refine r_if' ?_ | refine r_sl ?_ | refine r_noPart ?_ | refine r_part ?_ | refine r_bm ?_ | refine r_bm0 ?_ | refine r_m1 ?_
      | refine r_exI ?_ | refine r_exB ?_ | refine r_exS ?_
      | refine r_add ?_ | refine r_sub ?_ | refine r_lt ?_ | refine r_le ?_ | refine r_gt ?_ | refine r_ge ?_ | refine r_and2 ?_ | refine r_neg ?_
      | refine r_eqI ?_ | refine r_neI ?_ | refine r_eqS ?_ | refine r_neS ?_ | refine r_eqNI ?_ | refine r_isNN ?_ | refine r_isNI ?_ | refine r_isNR ?_ | refine r_notNN ?_ | refine r_notNI ?_ | refine r_notNR ?_
      | refine r_inS ?_ | refine r_notInS ?_ | refine r_truI ?_ | refine r_truB ?_ | refine r_truN ?_ | refine r_abs ?_ | refine r_max ?_ | refine r_min ?_ | refine r_int ?_ | refine r_intB ?_ | refine r_ord ?_ | refine r_find ?_
      | refine iteT ?_ | refine iteF ?_ | refine if_nf ?_ | refine if_nt ?_ | refine r_mkx ?_ | refine r_mkG ?_ | refine r_gS ?_
      | refine r_forL ?_ | refine r_forT ?_ | refine r_forS ?_ | refine r_forR1 ?_ | refine r_forR2 ?_ | refine r_lc ?_ | refine r_iL ?_ | refine r_iT ?_ | refine r_iS ?_ | refine r_iR1 ?_ | refine r_iR2 ?_ | refine r_iR3 ?_)
  | ((with_reducible apply r_var); (with_unfolding_all rfl))
  | ((with_reducible first | refine r_mod ?_ ?_ | refine r_mul ?_ ?_ | refine r_div ?_ ?_ | refine r_pow ?_ ?_); (first | omega | decide | exact ⟨by omega, by omega⟩ | exact ⟨by decide, by decide⟩ | exact .inr ⟨by omega, by omega⟩ | exact .inl ⟨by omega, by omega⟩ | exact .inr ⟨by decide, by decide⟩ | exact ⟨by decide, by decide, by decide⟩))
  | ((with_reducible first | apply r_tyL | apply r_ixL | apply r_ixT | apply r_lenL | apply r_lenT | apply r_truL | apply r_truT | apply r_gL | apply r_gT); (walk_at "sq"); (try (first | assumption | (exact atI_nat (by assumption)) | rfl)))
  | ((with_reducible first | apply r_gR1 | apply r_gR2 | apply r_addS | apply r_lenS | apply r_str | apply r_repS); (first | omega | decide | exact ⟨by omega, by omega⟩ | exact ⟨⟨by omega, by omega⟩, by omega, by omega⟩ | (exact Nat.le_trans (by assumption) (by decide)) | exact ⟨by omega, by omega, by decide +kernel⟩))
  | ((with_reducible refine ifT ?_ ?_); (walk_at "ar"))
  | ((with_reducible refine ifF ?_ ?_); (walk_at "ar"))
  | ((with_reducible refine ifNT ?_ ?_); (walk_at "ar"))
  | ((with_reducible refine ifNF ?_ ?_); (walk_at "ar")))
local macro_rules | `(tactic| walk_at "go") => `(tactic| repeat (walk_at "s1"))

local macro_rules | `(tactic| walk_at "cls") => `(tactic| (with_reducible first
  | apply g_Disk_size (by assumption)
  | apply w_Disk_size (by assumption)
  | apply g_Disk_blocks (by assumption)
  | apply w_Disk_blocks (by assumption)
  | apply g_Disk_queue (by assumption)
  | apply w_Disk_queue (by assumption)
  | apply g_Disk_left (by assumption)
  | apply w_Disk_left (by assumption)
  | apply g_Disk_down (by assumption)
  | apply w_Disk_down (by assumption)
  | apply mm_Disk_spend
  | apply mm_Disk_block
  | apply mm_Disk_write
  | apply mm_Disk_sync
  | apply mm_Disk_waiting
  | apply mm_Disk_fall_after
  | apply mm_Disk_restart); walk_at "hp")
local macro_rules | `(tactic| walk_at "cls0") => `(tactic| (with_reducible first
  | apply w0_Disk_size (by assumption)
  | apply w0_Disk_blocks (by assumption)
  | apply w0_Disk_queue (by assumption)
  | apply w0_Disk_left (by assumption)
  | apply w0_Disk_down (by assumption)); walk_at "hp")
local macro_rules | `(tactic| walk_at "go") => `(tactic| repeat (first | walk_at "s1" | walk_at "cls"))

theorem numL_len : ∀ (k n : Nat), n < 10 ^ k → 0 < k → (TL.numL n).length ≤ k
  | 0, _, _, h => absurd h (Nat.lt_irrefl 0)
  | 1, n, h, _ => by
    rw [TL.numL_lt (by omega)]
    exact Nat.le_refl 1
  | k + 2, n, h, _ => by
    by_cases h10 : n < 10
    · rw [TL.numL_lt h10]
      show 1 ≤ k + 2
      omega
    · rw [TL.numL_step (by omega), List.length_append]
      have := numL_len (k + 1) (n / 10) (by rw [Nat.pow_succ] at h; omega) (by omega)
      show _ + 1 ≤ k + 2
      omega
theorem str_nat {n : Int} (h : 0 ≤ n) : (Str.ofString (toString n)).cps.toList = TL.numL n.toNat := by
  have e : n = ((n.toNat : Nat) : Int) := (Int.toNat_of_nonneg h).symm
  have := TL.tl_num n.toNat
  rw [← e] at this
  exact this
theorem rowT_good : ∀ j, j < 10 → isGood (rowT.getD j "") = isBlk (rowT.getD j "") ∧ (rowT.getD j "").length ≤ 100000 := by decide +kernel
theorem text_good {k n : Int} (hk : 0 ≤ k) (h0 : 0 ≤ n) (h1 : n < 1000000) : isGood (textOf k n) = isBlk (textOf k n) ∧ (textOf k n).length ≤ 100000 := by
  unfold textOf
  by_cases h : k < 10
  · rw [if_pos h]
    exact rowT_good k.toNat (by omega)
  · rw [if_neg h]
    have e := str_nat h0
    have hl : (Str.ofString (toString n)).length ≤ 6 := by
      have : (Str.ofString (toString n)).cps.toList.length ≤ 6 := by
        rw [e]
        exact numL_len 6 _ (by omega) (by decide)
      simpa [Str.length] using this
    refine ⟨?_, by omega⟩
    unfold isGood isBlk
    have z1 : decide (9 ∈ (Str.ofString (toString n)).cps.toList) = false := by
      rw [e]
      exact decide_eq_false (TL.numL_free (by omega))
    have z2 : (Str.ofString (toString n)).cps.toList.all okCh = true := by
      rw [e, List.all_eq_true]
      intro c hc
      have := TL.numL_digits n.toNat c hc
      unfold okCh
      have d1 : decide (32 ≤ c) = true := decide_eq_true (by omega)
      have d2 : decide (c ≤ 126) = true := decide_eq_true (by omega)
      have d3 : (c != 37) = true := by
        have : c ≠ 37 := by omega
        simpa using this
      rw [d1, d2, d3]
      simp
    rw [z1, z2]
    rfl
/-- the law's state: the disk, its model, the list of the cells -/
structure LAt (A : Adr) (H : Hp) (p lb lq m mq lc sl : Addr) (xs : List V) (d1 d2 : DS) : Prop where
  D : DAt A H p lb lq d1
  M : MAt H m mq lc d2
  S : H sl = some (.lst xs)
  nd : [lb, lq, lc, m, mq, sl].Nodup
theorem lst_ne {H : Hp} {a : Addr} {o : HO} {xs : List V} (h : H a = some o) (ht : ∀ ys, o ≠ .tup ys) : H a ≠ some (.tup xs) := fun z => by
  rw [h] at z
  exact ht xs (Option.some.inj z)
theorem LAt.disk {A : Adr} {H H' : Hp} {p lb lq lq' m mq lc sl : Addr} {xs : List V} {d1 d2 d : DS} {fp : List Addr} (L : LAt A H p lb lq m mq lc sl xs d1 d2) (hfp : ∀ b ∈ fp, b = p ∨ b = lb ∨ b = lq) (k : Kp fp H H') (D' : DAt A H' p lb lq' d) (hn : lq' = lq ∨ H lq' = none) :
    LAt A H' p lb lq' m mq lc sl xs d d2 := by
  obtain ⟨D, M, S, nd⟩ := L
  obtain ⟨⟨dx, hp⟩, hb, ⟨ps, hq, ht⟩, ok, ne⟩ := D
  have nm : m ∉ fp := fun z => by
    rcases hfp m z with y | y | y
    · rw [← y, M.ob] at hp; cases hp
    · simp [y] at nd
    · simp [y] at nd
  have nc : lc ∉ fp := fun z => by
    rcases hfp lc z with y | y | y
    · rw [← y, M.bl] at hp; cases hp
    · simp [y] at nd
    · simp [y] at nd
  have nq : mq ∉ fp := fun z => by
    obtain ⟨ps2, hq2, _⟩ := M.qu
    rcases hfp mq z with y | y | y
    · rw [← y, hq2] at hp; cases hp
    · simp [y] at nd
    · simp [y] at nd
  have ns : sl ∉ fp := fun z => by
    rcases hfp sl z with y | y | y
    · rw [← y, S] at hp; cases hp
    · simp [y] at nd
    · simp [y] at nd
  have nt : ∀ b ∈ fp, ∀ ys, H b ≠ some (.tup ys) := fun b z ys => by
    rcases hfp b z with y | y | y
    · rw [y, hp]; intro w; cases w
    · rw [y, hb]; intro w; cases w
    · rw [y, hq]; intro w; cases w
  refine ⟨D', M.kp k nm nc nq nt, k _ _ S ns, ?_⟩
  rcases hn with e | e
  · rw [e]
    exact nd
  · obtain ⟨psm, hqm, _⟩ := M.qu
    have q1 : lb ≠ lq' := D'.ne
    have q2 : lc ≠ lq' := ne_of_none M.bl e
    have q3 : m ≠ lq' := ne_of_none M.ob e
    have q4 : mq ≠ lq' := ne_of_none hqm e
    have q5 : sl ≠ lq' := ne_of_none S e
    simp only [List.nodup_cons, List.mem_cons, List.not_mem_nil, not_or, or_false, not_false_eq_true, and_true, List.nodup_nil] at nd ⊢
    obtain ⟨⟨_, a2, a3, a4, a5⟩, _, r⟩ := nd
    exact ⟨⟨q1, a2, a3, a4, a5⟩, ⟨q2.symm, q3.symm, q4.symm, q5.symm⟩, r⟩
theorem LAt.model {A : Adr} {H H' : Hp} {p lb lq m mq mq' lc sl : Addr} {xs : List V} {d1 d2 d : DS} {fp : List Addr} (L : LAt A H p lb lq m mq lc sl xs d1 d2) (hfp : ∀ b ∈ fp, b = m ∨ b = lc ∨ b = mq) (k : Kp fp H H') (M' : MAt H' m mq' lc d) (hn : mq' = mq ∨ H mq' = none) :
    LAt A H' p lb lq m mq' lc sl xs d1 d := by
  obtain ⟨D, M, S, nd⟩ := L
  obtain ⟨⟨dx, hp⟩, hb, ⟨ps, hq, ht⟩, ok, ne⟩ := id D
  obtain ⟨psm, hqm, _⟩ := M.qu
  have ob := M.ob
  have bl := M.bl
  have np : p ∉ fp := fun z => by
    rcases hfp p z with y | y | y
    · rw [y, ob] at hp; cases hp
    · rw [y, bl] at hp; cases hp
    · rw [y, hqm] at hp; cases hp
  have nb : lb ∉ fp := fun z => by
    rcases hfp lb z with y | y | y <;> simp [y] at nd
  have nq : lq ∉ fp := fun z => by
    rcases hfp lq z with y | y | y <;> simp [y] at nd
  have ns : sl ∉ fp := fun z => by
    rcases hfp sl z with y | y | y <;> simp [y] at nd
  have nt : ∀ b ∈ fp, ∀ ys, H b ≠ some (.tup ys) := fun b z ys => by
    rcases hfp b z with y | y | y
    · rw [y, ob]; intro w; cases w
    · rw [y, bl]; intro w; cases w
    · rw [y, hqm]; intro w; cases w
  refine ⟨D.kp k np nb nq nt, M', k _ _ S ns, ?_⟩
  rcases hn with e | e
  · rw [e]
    exact nd
  · have q1 : lb ≠ mq' := ne_of_none hb e
    have q2 : lq ≠ mq' := ne_of_none hq e
    have q3 : lc ≠ mq' := ne_of_none bl e
    have q4 : m ≠ mq' := ne_of_none ob e
    have q5 : sl ≠ mq' := ne_of_none S e
    simp only [List.nodup_cons, List.mem_cons, List.not_mem_nil, not_or, or_false, not_false_eq_true, and_true, List.nodup_nil] at nd ⊢
    obtain ⟨⟨a1, a2, a3, _, a5⟩, ⟨b2, b3, _, b5⟩, ⟨c3, _, c5⟩, ⟨_, e5⟩, _⟩ := nd
    exact ⟨⟨a1, a2, a3, q1, a5⟩, ⟨b2, b3, q2, b5⟩, ⟨c3, q3, c5⟩, ⟨q4, e5⟩, q5.symm⟩
theorem LAt.ex {A : Adr} {H H' : Hp} {p lb lq m mq lc sl : Addr} {xs : List V} {d1 d2 : DS} (L : LAt A H p lb lq m mq lc sl xs d1 d2) (e : Ex H H') : LAt A H' p lb lq m mq lc sl xs d1 d2 := ⟨L.D.ex e, L.M.ex e, e _ _ L.S, L.nd⟩

end U

set_option Elab.async false
set_option linter.all false
set_option maxRecDepth 100000
set_option maxHeartbeats 4000000
namespace U
open PySem PySem.Spec PyProof.Rows L2
/-! ### stepping: local words (walk_at "..": a word of the library's syntax, given a meaning of our own here) -/
local macro_rules | `(tactic| walk_at "ne") => `(tactic| first
  | assumption
  | exact Ne.symm (by assumption)
  | exact ne_of_none (by assumption) (by assumption)
  | exact (ne_of_none (by assumption) (by assumption)).symm
  | exact ne_of (by assumption) (by assumption) (by intro z; cases z)
  | exact (ne_of (by assumption) (by assumption) (by intro z; cases z)).symm)
local macro_rules | `(tactic| walk_at "hp") => `(tactic| first
  | assumption
  | exact upd_same
  | ((apply hp_ne); (focus (walk_at "ne")); (walk_at "hp"))
  | ((apply hp_ex); assumption; (walk_at "hp")))
local macro_rules | `(tactic| walk_at "sq") => `(tactic| first
  | assumption
  | ((apply Evl.sq_of); (walk_at "hp"))
  | ((apply Evl.st_of); (walk_at "hp"))
  | ((apply Evl.ex_l); assumption; (walk_at "sq"))
  | ((apply Evl.ex_t); assumption; (walk_at "sq")))
local macro_rules | `(tactic| walk_at "sz") => `(tactic| first | (simp only [List.length_cons, List.length_nil]; omega) | omega | decide)
local macro_rules | `(tactic| walk_at "ar") => `(tactic| first | omega | decide | assumption)
local macro_rules | `(tactic| walk_at "s1") => `(tactic| first
  | (with_reducible first
      | refine r_seq ?_ | refine r_asg ?_ | refine r_drop ?_ | refine r_ret ?_ | refine r_retN ?_ | refine r_if ?_ | refine r_next ?_ | refine r_brk ?_ | refine r_cont ?_ | refine r_sFld ?_ | refine r_raise ?_
      | refine r_op ?_ | refine r_cons ?_ | refine r_nil ?_ | refine r_c ?_ | refine r_cb ?_ | refine r_call ?_ | refine r_meth ?_ | refine r_make ?_ | refine r_fld ?_ | refine r_tup ?_ | refine r_lst ?_ | refine r_un ?_
      | refine r_name ?_ | refine r_gCons ?_ | refine r_gNil ?_ | refine r_gSub ?_ | refine r_test ?_ | refine r_B ?_ | refine r_tru ?_ | refine r_and ?_ | refine r_or ?_ | refine r_not ?_ | refine r_chain ?_
      | refine r_andV ?_ | refine r_orV ?_ | refine r_notV ?_ | refine r_if' ?_ | refine r_sl ?_ | refine r_noPart ?_ | refine r_part ?_ | refine r_bm ?_ | refine r_bm0 ?_ | refine r_m1 ?_
      | refine r_exI ?_ | refine r_exB ?_ | refine r_exS ?_
      | refine r_add ?_ | refine r_sub ?_ | refine r_lt ?_ | refine r_le ?_ | refine r_gt ?_ | refine r_ge ?_ | refine r_and2 ?_ | refine r_neg ?_
      | refine r_eqI ?_ | refine r_neI ?_ | refine r_eqS ?_ | refine r_neS ?_ | refine r_eqNI ?_ | refine r_isNN ?_ | refine r_isNI ?_ | refine r_isNR ?_ | refine r_notNN ?_ | refine r_notNI ?_ | refine r_notNR ?_
      | refine r_inS ?_ | refine r_notInS ?_ | refine r_truI ?_ | refine r_truB ?_ | refine r_truN ?_ | refine r_abs ?_ | refine r_max ?_ | refine r_min ?_ | refine r_int ?_ | refine r_intB ?_ | refine r_ord ?_ | refine r_find ?_
      | refine iteT ?_ | refine iteF ?_ | refine if_nf ?_ | refine if_nt ?_ | refine r_mkx ?_ | refine r_mkG ?_ | refine r_gS ?_
      | refine r_forL ?_ | refine r_forT ?_ | refine r_forS ?_ | refine r_forR1 ?_ | refine r_forR2 ?_ | refine r_lc ?_ | refine r_iL ?_ | refine r_iT ?_ | refine r_iS ?_ | refine r_iR1 ?_ | refine r_iR2 ?_ | refine r_iR3 ?_)
  | ((with_reducible apply r_var); (with_unfolding_all rfl))
  | ((with_reducible first | refine r_mod ?_ ?_ | refine r_mul ?_ ?_ | refine r_div ?_ ?_ | refine r_pow ?_ ?_); (first | omega | decide | exact ⟨by omega, by omega⟩ | exact ⟨by decide, by decide⟩ | exact .inr ⟨by omega, by omega⟩ | exact .inl ⟨by omega, by omega⟩ | exact .inr ⟨by decide, by decide⟩ | exact ⟨by decide, by decide, by decide⟩))
  | ((with_reducible first | apply r_tyL | apply r_ixL | apply r_ixT | apply r_lenL | apply r_lenT | apply r_truL | apply r_truT | apply r_gL | apply r_gT); (walk_at "sq"); (try (first | assumption | (exact atI_nat (by assumption)) | rfl)))
  | ((with_reducible first | apply r_gR1 | apply r_gR2 | apply r_addS | apply r_lenS | apply r_str | apply r_repS); (first | omega | decide | exact ⟨by omega, by omega⟩ | exact ⟨⟨by omega, by omega⟩, by omega, by omega⟩ | (exact Nat.le_trans (by assumption) (by decide)) | exact ⟨by omega, by omega, by decide +kernel⟩))
  | ((with_reducible refine ifT ?_ ?_); (walk_at "ar"))
  | ((with_reducible refine ifF ?_ ?_); (walk_at "ar"))
  | ((with_reducible refine ifNT ?_ ?_); (walk_at "ar"))
  | ((with_reducible refine ifNF ?_ ?_); (walk_at "ar")))
local macro_rules | `(tactic| walk_at "go") => `(tactic| repeat (walk_at "s1"))

local macro_rules | `(tactic| walk_at "cls") => `(tactic| (with_reducible first
  | apply g_Disk_size (by assumption)
  | apply w_Disk_size (by assumption)
  | apply g_Disk_blocks (by assumption)
  | apply w_Disk_blocks (by assumption)
  | apply g_Disk_queue (by assumption)
  | apply w_Disk_queue (by assumption)
  | apply g_Disk_left (by assumption)
  | apply w_Disk_left (by assumption)
  | apply g_Disk_down (by assumption)
  | apply w_Disk_down (by assumption)
  | apply mm_Disk_spend
  | apply mm_Disk_block
  | apply mm_Disk_write
  | apply mm_Disk_sync
  | apply mm_Disk_waiting
  | apply mm_Disk_fall_after
  | apply mm_Disk_restart); walk_at "hp")
local macro_rules | `(tactic| walk_at "cls0") => `(tactic| (with_reducible first
  | apply w0_Disk_size (by assumption)
  | apply w0_Disk_blocks (by assumption)
  | apply w0_Disk_queue (by assumption)
  | apply w0_Disk_left (by assumption)
  | apply w0_Disk_down (by assumption)); walk_at "hp")
local macro_rules | `(tactic| walk_at "go") => `(tactic| repeat (first | walk_at "s1" | walk_at "cls"))

theorem bx {b : Bool} {P : Prop} (h1 : b = true) (h2 : b = false) : P := Bool.noConfusion (h1.symm.trans h2)
theorem blk_ok {t : Str} (h : isBlk t = true) : PyData.strOk t = true := by
  unfold isBlk at h
  rw [Bool.and_eq_true, List.all_eq_true] at h
  unfold PyData.strOk
  rw [← Array.all_toList, List.all_eq_true]
  intro c hc
  have := h.2 c hc
  unfold okCh at this
  simp at this ⊢
  omega
theorem sh_str {t : Str} (h : isBlk t = true) : SeqAt.shaped (.str t) = true := by
  unfold SeqAt.shaped
  simp [PyData.canLay0, PyData.depth, blk_ok h]
theorem sh_strsA : ∀ ts : List Str, (∀ t ∈ ts, isBlk t = true) → PyData.canLayAll0 (ts.map PyData.str) = true ∧ PyData.depthAll (ts.map PyData.str) ≤ 8
  | [], _ => ⟨rfl, by simp [PyData.depthAll]⟩
  | t :: ts, h => by
    have ⟨a, b⟩ := sh_strsA ts fun x hx => h x (List.mem_cons_of_mem _ hx)
    refine ⟨?_, ?_⟩
    · show (PyData.canLay0 (.str t) && _) = true
      rw [a]
      simp [PyData.canLay0, blk_ok (h t (List.mem_cons_self ..))]
    · simp only [List.map_cons, PyData.depthAll, PyData.depth]
      omega
theorem sh_strs {ts : List Str} (h : ∀ t ∈ ts, isBlk t = true) : SeqAt.shaped (.list (ts.map PyData.str)) = true := by
  have ⟨a, b⟩ := sh_strsA ts h
  unfold SeqAt.shaped
  rw [Bool.and_eq_true]
  refine ⟨a, decide_eq_true ?_⟩
  simp only [PyData.depth]
  omega
theorem seenQ_blk {t : Str} {q : List (Nat × Str)} {i : Nat} (ht : isBlk t = true) (hq : ∀ e ∈ q, isBlk e.2 = true) : isBlk (seenQ t q i) = true := by
  unfold seenQ
  induction q generalizing t with
  | nil => exact ht
  | cons e r ih =>
    refine ih (t := if e.1 = i then e.2 else t) ?_ fun x hx => hq x (List.mem_cons_of_mem _ hx)
    split
    · exact hq e (List.mem_cons_self ..)
    · exact ht
theorem DOk.seen {d : DS} (h : DOk d) {i : Nat} (hi : i < d.size) : isBlk (d.seen i) = true := by
  refine seenQ_blk ?_ h.tx.2
  have hl : i < d.blocks.length := by rw [h.bl]; exact hi
  rw [List.getD_eq_getElem?_getD, List.getElem?_eq_getElem hl]
  exact h.tx.1 _ (List.getElem_mem hl)
section
variable {K : PySem.W.Frag} {H : Hp} {Q : VK}
theorem r_neSame {x y : V} {d : PyData} (hx : Dp K H x d) (hy : Dp K H y d) (s : SeqAt.shaped d = true) (q : Q (.bl false) H) : rNeD K x y H Q := ⟨d, d, hx, hy, s, s, by rw [SeqAt.eqv_refl d (SeqAt.canLay_of_shaped s)]; exact q⟩
theorem r_eqSame {x y : V} {d : PyData} (hx : Dp K H x d) (hy : Dp K H y d) (s : SeqAt.shaped d = true) (q : Q (.bl true) H) : rEqD K x y H Q := ⟨d, d, hx, hy, s, s, by rw [SeqAt.eqv_refl d (SeqAt.canLay_of_shaped s)]; exact q⟩
theorem dp_strs : ∀ ts : List Str, DpAll K H (ts.map V.str) (ts.map PyData.str)
  | [] => .nil
  | t :: ts => .cons (.str t) (dp_strs ts)
theorem dp_strL {a : Addr} {ts : List Str} (h : H a = some (.lst (ts.map V.str))) : Dp K H (.ref a) (.list (ts.map PyData.str)) := .lst (Evl.sq_of h) (dp_strs ts)
theorem dp_bad {a : Addr} {i : Int} (h : H a = some (.tup [.str "bad", .int i])) : Dp K H (.ref a) (.tuple [.str "bad", .int i]) := .tup (Evl.st_of h) (.cons (.str _) (.cons (.int _) .nil))
theorem dp_bad3 {a : Addr} {i : Int} (h : H a = some (.tup [.str "bad", .int i, .bl true])) : Dp K H (.ref a) (.tuple [.str "bad", .int i, .bool true]) := .tup (Evl.st_of h) (.cons (.str _) (.cons (.int _) (.cons (.bl _) .nil)))
theorem dp_tf {a : Addr} (h : H a = some (.tup [.bl true, .bl false])) : Dp K H (.ref a) (.tuple [.bool true, .bool false]) := .tup (Evl.st_of h) (.cons (.bl _) (.cons (.bl _) .nil))
theorem sh_bad {i : Int} : SeqAt.shaped (.tuple [.str "bad", .int i]) = true := by
  simp [SeqAt.shaped, PyData.canLay0, PyData.canLayAll0, PyData.depth, PyData.depthAll]
  decide +kernel
theorem sh_bad3 {i : Int} : SeqAt.shaped (.tuple [.str "bad", .int i, .bool true]) = true := by
  simp [SeqAt.shaped, PyData.canLay0, PyData.canLayAll0, PyData.depth, PyData.depthAll]
  decide +kernel
theorem r_gLst {a : Addr} {xs : List V} {n : Nat} {g : TGs} {σ : L2.St} {R : L2.St → Hp → Prop} (h : SqL K H a xs) (l : xs.length = n) (q : g xs σ H R) : gLst K n g (.ref a) σ H R := ⟨a, xs, rfl, h, l, q⟩
theorem r_slL {a : Addr} {xs : List V} {lo hi : Option Int} (h : SqL K H a xs) (q : ∀ p, H p = none → Q (.ref p) (upd H p (.lst (cutV xs lo hi)))) : rSlL K (.ref a) lo hi H Q := ⟨a, xs, rfl, h, q⟩
end
theorem cutV_len (xs : List V) (lo hi : Option Int) : (cutV xs lo hi).length ≤ xs.length := by
  unfold cutV
  rw [List.length_take, List.length_drop]
  omega
theorem cutV_mem {xs : List V} {lo hi : Option Int} {x : V} (h : x ∈ cutV xs lo hi) : x ∈ xs := List.mem_of_mem_drop (List.mem_of_mem_take h)
theorem rep_flat (n : Nat) (x : V) : (List.replicate n [x]).flatten = List.replicate n x := by
  induction n with
  | zero => rfl
  | succ n ih => rw [List.replicate_succ, List.flatten_cons, ih]; rfl
/-- the law's loop, at the k-th cell -/
def LPv (A : Adr) (a p lb lc m sl : Addr) (n : Nat) (xs : List V) (k : Nat) (σ : L2.St) (H : Hp) : Prop := ∃ (lq mq : Addr) (d : DS) (v5 v6 v7 v8 v9 v10 v11 v12 : Option V),
  σ = [some (.ref a), some (.int (n : Nat)), some (.ref p), some (.ref lc), some (.ref m), v5, v6, v7, v8, v9, v10, v11, v12] ∧ LAt A H p lb lq m mq lc sl xs d d ∧ d.size = n ∧ d.queue.length ≤ k

end U

set_option Elab.async false
set_option linter.all false
set_option maxRecDepth 100000
set_option maxHeartbeats 4000000
namespace U
open PySem PySem.Spec PyProof.Rows L2
/-! ### stepping: local words (walk_at "..": a word of the library's syntax, given a meaning of our own here) -/
local macro_rules | `(tactic| walk_at "ne") => `(tactic| first
  | assumption
  | exact Ne.symm (by assumption)
  | exact ne_of_none (by assumption) (by assumption)
  | exact (ne_of_none (by assumption) (by assumption)).symm
  | exact ne_of (by assumption) (by assumption) (by intro z; cases z)
  | exact (ne_of (by assumption) (by assumption) (by intro z; cases z)).symm)
local macro_rules | `(tactic| walk_at "hp") => `(tactic| first
  | assumption
  | exact upd_same
  | ((apply hp_ne); (focus (walk_at "ne")); (walk_at "hp"))
  | ((apply hp_ex); assumption; (walk_at "hp")))
local macro_rules | `(tactic| walk_at "sq") => `(tactic| first
  | assumption
  | ((apply Evl.sq_of); (walk_at "hp"))
  | ((apply Evl.st_of); (walk_at "hp"))
  | ((apply Evl.ex_l); assumption; (walk_at "sq"))
  | ((apply Evl.ex_t); assumption; (walk_at "sq")))
local macro_rules | `(tactic| walk_at "sz") => `(tactic| first | (simp only [List.length_cons, List.length_nil]; omega) | omega | decide)
local macro_rules | `(tactic| walk_at "ar") => `(tactic| first | omega | decide | assumption)
local macro_rules | `(tactic| walk_at "s1") => `(tactic| first
  | (with_reducible first
      | refine r_seq ?_ | refine r_asg ?_ | refine r_drop ?_ | refine r_ret ?_ | refine r_retN ?_ | refine r_if ?_ | refine r_next ?_ | refine r_brk ?_ | refine r_cont ?_ | refine r_sFld ?_ | refine r_raise ?_
      | refine r_op ?_ | refine r_cons ?_ | refine r_nil ?_ | refine r_c ?_ | refine r_cb ?_ | refine r_call ?_ | refine r_meth ?_ | refine r_make ?_ | refine r_fld ?_ | refine r_tup ?_ | refine r_lst ?_ | refine r_un ?_
      | refine r_name ?_ | refine r_gCons ?_ | refine r_gNil ?_ | refine r_gSub ?_ | refine r_test ?_ | refine r_B ?_ | refine r_tru ?_ | refine r_and ?_ | refine r_or ?_ | refine r_not ?_ | refine r_chain ?_
      | refine r_andV ?_ | refine r_orV ?_ | refine r_notV ?_ | refine r_if' ?_ | refine r_sl ?_ | refine r_noPart ?_ | refine r_part ?_ | refine r_bm ?_ | refine r_bm0 ?_ | refine r_m1 ?_
      | refine r_exI ?_ | refine r_exB ?_ | refine r_exS ?_
      | refine r_add ?_ | refine r_sub ?_ | refine r_lt ?_ | refine r_le ?_ | refine r_gt ?_ | refine r_ge ?_ | refine r_and2 ?_ | refine r_neg ?_
      | refine r_eqI ?_ | refine r_neI ?_ | refine r_eqS ?_ | refine r_neS ?_ | refine r_eqNI ?_ | refine r_isNN ?_ | refine r_isNI ?_ | refine r_isNR ?_ | refine r_notNN ?_ | refine r_notNI ?_ | refine r_notNR ?_
      | refine r_inS ?_ | refine r_notInS ?_ | refine r_truI ?_ | refine r_truB ?_ | refine r_truN ?_ | refine r_abs ?_ | refine r_max ?_ | refine r_min ?_ | refine r_int ?_ | refine r_intB ?_ | refine r_ord ?_ | refine r_find ?_
      | refine iteT ?_ | refine iteF ?_ | refine if_nf ?_ | refine if_nt ?_ | refine r_mkx ?_ | refine r_mkG ?_ | refine r_gS ?_
      | refine r_forL ?_ | refine r_forT ?_ | refine r_forS ?_ | refine r_forR1 ?_ | refine r_forR2 ?_ | refine r_lc ?_ | refine r_iL ?_ | refine r_iT ?_ | refine r_iS ?_ | refine r_iR1 ?_ | refine r_iR2 ?_ | refine r_iR3 ?_)
  | ((with_reducible apply r_var); (with_unfolding_all rfl))
  | ((with_reducible first | refine r_mod ?_ ?_ | refine r_mul ?_ ?_ | refine r_div ?_ ?_ | refine r_pow ?_ ?_); (first | omega | decide | exact ⟨by omega, by omega⟩ | exact ⟨by decide, by decide⟩ | exact .inr ⟨by omega, by omega⟩ | exact .inl ⟨by omega, by omega⟩ | exact .inr ⟨by decide, by decide⟩ | exact ⟨by decide, by decide, by decide⟩))
  | ((with_reducible first | apply r_tyL | apply r_ixL | apply r_ixT | apply r_lenL | apply r_lenT | apply r_truL | apply r_truT | apply r_gL | apply r_gT); (walk_at "sq"); (try (first | assumption | (exact atI_nat (by assumption)) | rfl)))
  | ((with_reducible first | apply r_gR1 | apply r_gR2 | apply r_addS | apply r_lenS | apply r_str | apply r_repS); (first | omega | decide | exact ⟨by omega, by omega⟩ | exact ⟨⟨by omega, by omega⟩, by omega, by omega⟩ | (exact Nat.le_trans (by assumption) (by decide)) | exact ⟨by omega, by omega, by decide +kernel⟩))
  | ((with_reducible refine ifT ?_ ?_); (walk_at "ar"))
  | ((with_reducible refine ifF ?_ ?_); (walk_at "ar"))
  | ((with_reducible refine ifNT ?_ ?_); (walk_at "ar"))
  | ((with_reducible refine ifNF ?_ ?_); (walk_at "ar")))
local macro_rules | `(tactic| walk_at "go") => `(tactic| repeat (walk_at "s1"))

local macro_rules | `(tactic| walk_at "cls") => `(tactic| (with_reducible first
  | apply g_Disk_size (by assumption)
  | apply w_Disk_size (by assumption)
  | apply g_Disk_blocks (by assumption)
  | apply w_Disk_blocks (by assumption)
  | apply g_Disk_queue (by assumption)
  | apply w_Disk_queue (by assumption)
  | apply g_Disk_left (by assumption)
  | apply w_Disk_left (by assumption)
  | apply g_Disk_down (by assumption)
  | apply w_Disk_down (by assumption)
  | apply mm_Disk_spend
  | apply mm_Disk_block
  | apply mm_Disk_write
  | apply mm_Disk_sync
  | apply mm_Disk_waiting
  | apply mm_Disk_fall_after
  | apply mm_Disk_restart); walk_at "hp")
local macro_rules | `(tactic| walk_at "cls0") => `(tactic| (with_reducible first
  | apply w0_Disk_size (by assumption)
  | apply w0_Disk_blocks (by assumption)
  | apply w0_Disk_queue (by assumption)
  | apply w0_Disk_left (by assumption)
  | apply w0_Disk_down (by assumption)); walk_at "hp")
local macro_rules | `(tactic| walk_at "go") => `(tactic| repeat (first | walk_at "s1" | walk_at "cls"))

section
variable {K : PySem.W.Frag} {A : Adr}
theorem law_ix {σ : L2.St} {H : Hp} {R : VK} {i n : Int} (h7 : σ[7]? = some (some (.int i))) (h9 : σ[9]? = some (some (.int n))) (q : ∀ ix : Int, R (.int ix) H) :
    tOp oAdd (tOp oSub (tVar 7) (tC (.int 1))) (tCB bInt (tCons (tAndV (tOp rEq (tOp oMod (tVar 9) (tC (.int 2))) (tC (.int 1))) (tOp rEq (tVar 7) (tC (.int 0)))) tNil)) σ H R := by
  walk_at "go"
  refine r_var h7 ?_
  walk_at "go"
  refine r_var h9 ?_
  walk_at "go"
  refine if2 (fun _ => ?_) (fun _ => ?_)
  · refine r_op ?_
    refine r_var h7 ?_
    walk_at "go"
    exact q _
  · walk_at "go"
    exact q _
theorem law_ixS {σ : L2.St} {H : Hp} {U : TS} {D : Ends} {i n : Int} (h7 : σ[7]? = some (some (.int i))) (h9 : σ[9]? = some (some (.int n))) (q : ∀ ix : Int, U D (σ.set 7 (some (.int ix))) H) :
    tSeq (tAsg (tOp oAdd (tOp oSub (tVar 7) (tC (.int 1))) (tCB bInt (tCons (tAndV (tOp rEq (tOp oMod (tVar 9) (tC (.int 2))) (tC (.int 1))) (tOp rEq (tVar 7) (tC (.int 0)))) tNil))) (gName 7)) U D σ H := r_seq (r_asg (law_ix h7 h9 fun ix => r_name (q ix)))
theorem law_left (y : Int) : ∃ o : Option Int, atI [V.non, .int 0, .int 1, .int 2, .int 5] (y % 5) = some (oI o) := by
  have : y % 5 = 0 ∨ y % 5 = 1 ∨ y % 5 = 2 ∨ y % 5 = 3 ∨ y % 5 = 4 := by omega
  rcases this with e | e | e | e | e
  · rw [e]; exact ⟨none, rfl⟩
  · rw [e]; exact ⟨some 0, rfl⟩
  · rw [e]; exact ⟨some 1, rfl⟩
  · rw [e]; exact ⟨some 2, rfl⟩
  · rw [e]; exact ⟨some 5, rfl⟩
theorem range_str (n : Nat) (s : Nat → Str) : (List.range n).map (fun i => V.str (s i)) = ((List.range n).map s).map V.str := by rw [List.map_map]; rfl
theorem range_getD (bs : List Str) (n : Nat) (h : bs.length = n) : (List.range n).map (fun i => bs.getD i "") = bs := by
  subst h
  refine List.ext_getElem (by simp) fun i h1 h2 => ?_
  rw [List.getElem_map, List.getElem_range, List.getD_eq_getElem?_getD, List.getElem?_eq_getElem h2]
  rfl
theorem lastQ_zero (bs : List Str) (q : List (Nat × Str)) : lastQ bs q 0 = (bs, 0) := by
  unfold lastQ
  induction q with
  | nil => rfl
  | cons e r ih => exact ih
/-- [disk.block(k) for k in range(size)] -/
theorem blocks_lc {w0 w1 w3 w4 w5 w6 w7 w8 w9 w10 w11 w12 : Option V} {H : Hp} {Q : VK} {p lb lq : Addr} {d : DS} {n : Nat} {e1 : XK} (D : DAt A H p lb lq d) (hd : d.down = false) (hn : d.size = n)
    (q : ∀ D H', H D = none → Ex H H' → H' D = some (.lst (((List.range n).map d.seen).map V.str)) → Q (.ref D) H') :
    LcG (Itr 0 (n : Int).toNat) (gName 12) tYes (tMethS A.Disk "block" (sp_Disk_block K A) (fun _ => e1) (tVar 2) (tCons (tVar 12) tNil)) [12] [w0, w1, some (.ref p), w3, w4, w5, w6, w7, w8, w9, w10, w11, w12] H Q := by
  refine r_lcF (n := (n : Int).toNat) walk_range (fun i => .str (d.seen i)) (by have := D.ok.sz; omega) (fun _ _ => trivial) ?_ ?_
  · rintro i x H1 H' P hi e1 ⟨rfl, rfl⟩ kP
    have D := D.ex e1
    obtain ⟨dx, hp⟩ := D.ob
    walk_at "go"
    refine ⟨rfl, ?_⟩
    walk_at "go"
    refine ⟨p, lb, lq, d, 0 + i, rfl, D, fun hd' => bx hd' hd, fun _ hn => absurd ⟨by omega, by omega⟩ hn, fun _ _ _ => ?_⟩
    have := kP _ (Evl.Ex.refl _)
    rw [show ((0 : Int) + (i : Int)).toNat = i by omega]
    exact this
  · intro D H1 hD e1 h1
    rw [range_str, Int.toNat_natCast] at h1
    exact q D H1 hD e1 h1
theorem LAt.init {H1 H2 : Hp} {p lb lq lc mq m sl : Addr} {n : Nat} {xs : List V} (D : DAt A H1 p lb lq { size := n, blocks := List.replicate n ("" : Str), queue := [], left := none, down := false }) (x0 : Ex H1 H2)
    (hc : H2 lc = none) (hmq : upd H2 lc (.lst (List.replicate n (V.str ""))) mq = none) (hm : upd (upd H2 lc (.lst (List.replicate n (V.str "")))) mq (.lst []) m = none) (hsl : upd (upd (upd H2 lc (.lst (List.replicate n (V.str "")))) mq (.lst [])) m (.lst [.ref mq, .non, .bl false]) sl = none) :
    LAt A (upd (upd (upd (upd H2 lc (.lst (List.replicate n (V.str "")))) mq (.lst [])) m (.lst [.ref mq, .non, .bl false])) sl (.lst xs)) p lb lq m mq lc sl xs { size := n, blocks := List.replicate n ("" : Str), queue := [], left := none, down := false } { size := n, blocks := List.replicate n ("" : Str), queue := [], left := none, down := false } := by
  obtain ⟨ps, hq, ht⟩ := D.qu
  have x1 : Ex _ _ := Evl.Ex.new (o := .lst (List.replicate n (V.str ""))) hc
  have x2 : Ex _ _ := Evl.Ex.new (o := .lst []) hmq
  have x3 : Ex _ _ := Evl.Ex.new (o := .lst [.ref mq, .non, .bl false]) hm
  have x4 : Ex _ _ := Evl.Ex.new (o := .lst xs) hsl
  have b1 := x0 _ _ D.bl
  have b2 := x1 _ _ b1
  have b3 := x2 _ _ b2
  have b4 := x3 _ _ b3
  have q1 := x0 _ _ hq
  have q2 := x1 _ _ q1
  have q3 := x2 _ _ q2
  have q4 := x3 _ _ q3
  have c2 : upd H2 lc (.lst (List.replicate n (V.str ""))) lc = some _ := upd_same
  have c3 := x2 _ _ c2
  have c4 := x3 _ _ c3
  have m3 : upd (upd H2 lc (.lst (List.replicate n (V.str "")))) mq (.lst []) mq = some _ := upd_same
  have m4 := x3 _ _ m3
  have o4 : upd (upd (upd H2 lc (.lst (List.replicate n (V.str "")))) mq (.lst [])) m (.lst [.ref mq, .non, .bl false]) m = some _ := upd_same
  refine ⟨D.ex (x0.trans (x1.trans (x2.trans (x3.trans x4)))), ⟨x4 _ _ o4, x4 _ _ (by rw [List.map_replicate]; exact c4), ⟨[], x4 _ _ m4, .nil⟩, D.ok, (ne_of_none m3 hm).symm, (ne_of_none c3 hm).symm, (ne_of_none c2 hmq).symm⟩, upd_same, ?_⟩
  simp only [List.nodup_cons, List.mem_cons, List.not_mem_nil, not_or, or_false, not_false_eq_true, and_true, List.nodup_nil]
  exact ⟨⟨D.ne, ne_of_none b1 hc, ne_of_none b3 hm, ne_of_none b2 hmq, ne_of_none b4 hsl⟩, ⟨ne_of_none q1 hc, ne_of_none q3 hm, ne_of_none q2 hmq, ne_of_none q4 hsl⟩, ⟨ne_of_none c3 hm, ne_of_none c2 hmq, ne_of_none c4 hsl⟩, ⟨(ne_of_none m3 hm).symm, ne_of_none o4 hsl⟩, ne_of_none m4 hsl⟩
theorem pure_law (T : TxtP K A) (vs : List V) (H : Hp) (Q : VK) (E : XK) (h : sp_law K A vs H Q E) : t_law K A (fun cls d _ H => E cls d H) { nx := fun _ H' => Q .non H', rt := Q } (start N_law vs) H := by
  obtain ⟨a, ns, rfl, hs, hl, kQ⟩ := h
  unfold t_law
  walk_at "go"
  refine ⟨a, ns, 0, rfl, hs, ?_⟩
  walk_at "go"
  obtain ⟨n, hn, hn1, hn9⟩ : ∃ n : Nat, 1 + ns.getD 0 0 % 9 = (n : Int) ∧ 1 ≤ n ∧ n ≤ 9 := ⟨(1 + ns.getD 0 0 % 9).toNat, by omega, by omega, by omega⟩
  rw [hn]
  walk_at "go"
  intro p dx hp hdx hpd
  refine ⟨p, dx, n, rfl, by omega, upd_same, fun lb lq H1 hlb hlq k1 D => ?_⟩
  have e1 : Ex H H1 := fun b o h => k1 b o (by rw [upd_ne (ne_of_none h hp), upd_ne (ne_of_none h hdx)]; exact h) (by simpa using ne_of_none h hp)
  refine ⟨rfl, ?_⟩
  walk_at "go"
  refine r_small (by show 1 ≤ 1000; decide) fun r0 h0 => ?_
  walk_at "go"
  refine ⟨r0, n, _, rfl, rfl, upd_same, by omega, by omega, Nat.le_trans (show 1 * n ≤ 9 by omega) (by decide), fun lc hc => ?_⟩
  walk_at "go"
  rw [Int.toNat_natCast, rep_flat]
  refine r_small (by show 0 ≤ 1000; decide) fun mq hmq => ?_
  walk_at "go"
  refine r_small (by show 3 ≤ 1000; decide) fun m hm => ?_
  walk_at "go"
  have e2 := (((Evl.Ex.new (o := .lst [V.str ""]) h0).trans (Evl.Ex.new (o := .lst (List.replicate n (V.str ""))) hc)).trans (Evl.Ex.new (o := .lst []) hmq)).trans (Evl.Ex.new (o := .lst [.ref mq, .non, .bl false]) hm)
  refine r_slL (Evl.ex_l (e1.trans e2) hs) fun sl hsl => ?_
  walk_at "go"
  have L0 := LAt.init (xs := cutV (List.map V.int ns) (some 1) (some 41)) D (Evl.Ex.new (o := .lst [V.str ""]) h0) hc hmq hm hsl
  refine f_list (xs := cutV (List.map V.int ns) (some 1) (some 41)) (LPv A a p lb lc m sl n (cutV (List.map V.int ns) (some 1) (some 41))) ⟨lq, mq, _, none, none, none, none, none, none, none, none, rfl, L0, rfl, Nat.le_refl _⟩ (fun k σ H hk hP => ?_) (fun k x σ H hx hP => ?_) (fun σ H hP => ?_)
  · obtain ⟨lq, mq, d, v5, v6, v7, v8, v9, v10, v11, v12, rfl, L, hdn, hql⟩ := hP
    exact Evl.sq_of L.S
  · obtain ⟨lq, mq, d, v5, v6, v7, v8, v9, v10, v11, v12, rfl, L, hdn, hql⟩ := hP
    obtain ⟨c, rfl⟩ : ∃ c : Int, x = .int c := by
      obtain ⟨c, _, e⟩ := List.mem_map.mp (cutV_mem (List.mem_of_getElem? hx))
      exact ⟨c, e.symm⟩
    have hk : k < 63 := by
      have h1 := (List.getElem?_eq_some_iff.mp hx).1
      have h2 := cutV_len (List.map V.int ns) (some 1) (some 41)
      rw [List.length_map] at h2
      omega
    walk_at "go"
    refine r_small (by show 4 ≤ 1000; decide) fun b hb => ?_
    walk_at "go"
    refine ⟨c, b, [9, (n : Int) + 2, 13, (10 : Int) ^ (6 : Int).toNat], rfl, Evl.sq_of upd_same, by show 4 ≤ 1000; decide, fun x hx => ?_, fun H2 q rs e2 _ hq hrl hrb => ?_⟩
    · simp only [List.mem_cons, List.not_mem_nil, or_false] at hx
      have : (10 : Int) ^ (6 : Int).toNat = 1000000 := by decide
      omega
    obtain ⟨x0, x1, x2, x3, rfl⟩ : ∃ x0 x1 x2 x3, rs = [x0, x1, x2, x3] := by
      match rs, hrl with
      | [x0, x1, x2, x3], _ => exact ⟨x0, x1, x2, x3, rfl⟩
    have h0 := hrb 0 _ _ rfl rfl
    have h2 := hrb 2 _ _ rfl rfl
    have h3 := hrb 3 _ _ rfl rfl
    have h3' : x3 < 1000000 := h3.2
    have L := (L.ex (Evl.Ex.new hb)).ex e2
    walk_at "go"
    refine r_gLst (xs := [.int x0, .int x1, .int x2, .int x3]) (Evl.sq_of hq) rfl ?_
    iterate 4 (refine r_gCons ?_; refine r_name ?_)
    refine r_gNil ?_
    refine law_ixS (i := x1) (n := x3) rfl rfl fun ix => ?_
    refine r_cut (LPv A a p lb lc m sl n (cutV (List.map V.int ns) (some 1) (some 41)) (k + 1)) ?_ fun σ3 H3 hP3 => ?_
    · have hsz : d.queue.length < 900000 := by omega
      have tg := text_good h2.1 h3.1 h3'
      obtain ⟨dx, hp⟩ := L.D.ob
      have hm := L.M.ob
      walk_at "go"
      refine if2 (fun h6 => ?_) (fun h6 => ?_)
      · walk_at "go"
        refine ⟨x2, x3, rfl, h2.1, h3.1, h3', fun H3 e3 => ?_⟩
        have L := L.ex e3
        walk_at "go"
        refine ⟨m, mq, lc, d, ix, textOf x2 x3, by rw [hdn], L.M, hsz, tg.2, tg.1, fun hd => ?_, fun hd hb r H4 e4 hr hr' => ?_, fun hd i0 i1 hg hc H4 M4 k4 => ?_, fun hd i0 i1 hg hc H4 M4 k4 => ?_⟩
        · walk_at "go"
          refine ⟨x2, x3, rfl, h2.1, h3.1, h3', fun H5 e5 => ?_⟩
          have L := L.ex e5
          walk_at "go"
          refine ⟨p, lb, lq, d, ix, textOf x2 x3, rfl, L.D, hsz, tg.2, fun _ => ?_, fun hd' => bx hd hd', fun hd' => bx hd hd', fun hd' => bx hd hd'⟩
          walk_at "go"
          refine r_neSame (.str _) (.str _) (by decide +kernel) ?_
          walk_at "go"
          exact ⟨lq, mq, d, _, _, _, _, _, _, _, _, rfl, L, hdn, by omega⟩
        · have L := L.ex e4
          walk_at "go"
          refine ⟨x2, x3, rfl, h2.1, h3.1, h3', fun H5 e5 => ?_⟩
          have L := L.ex e5
          walk_at "go"
          refine ⟨p, lb, lq, d, ix, textOf x2 x3, rfl, L.D, hsz, tg.2, fun hd' => bx hd' hd, fun _ _ r' H6 e6 hr6 => ?_, fun _ i0 i1 hb' => absurd ⟨i0, i1, tg.1.trans hb'⟩ hb, fun _ i0 i1 hb' => absurd ⟨i0, i1, tg.1.trans hb'⟩ hb⟩
          have L := L.ex e6
          walk_at "go"
          refine r_neSame (dp_bad3 hr6) (dp_bad3 (e6 _ _ (e5 _ _ hr'))) sh_bad3 ?_
          walk_at "go"
          exact ⟨lq, mq, d, _, _, _, _, _, _, _, _, rfl, L, hdn, by omega⟩
        · have L := L.model (fp := [m]) (by simp) k4 M4 (.inl rfl)
          walk_at "go"
          refine ⟨x2, x3, rfl, h2.1, h3.1, h3', fun H5 e5 => ?_⟩
          have L := L.ex e5
          walk_at "go"
          refine ⟨p, lb, lq, d, ix, textOf x2 x3, rfl, L.D, hsz, tg.2, fun hd' => bx hd' hd, fun _ hb => absurd ⟨i0, i1, tg.1.symm.trans hg⟩ hb, fun _ _ _ _ _ H6 D6 k6 => ?_, fun _ _ _ _ hc' => bx hc hc'⟩
          have L := L.disk (fp := [p]) (by simp) k6 D6 (.inl rfl)
          walk_at "go"
          refine r_neSame (.str _) (.str _) (by decide +kernel) ?_
          walk_at "go"
          exact ⟨lq, mq, d.cnt, _, _, _, _, _, _, _, _, rfl, L, (cnt_size d).trans hdn, by rw [cnt_queue]; omega⟩
        · have L := L.model (fp := [m, mq]) (by simp) k4 M4 (.inl rfl)
          walk_at "go"
          refine ⟨x2, x3, rfl, h2.1, h3.1, h3', fun H5 e5 => ?_⟩
          have L := L.ex e5
          walk_at "go"
          refine ⟨p, lb, lq, d, ix, textOf x2 x3, rfl, L.D, hsz, tg.2, fun hd' => bx hd' hd, fun _ hb => absurd ⟨i0, i1, tg.1.symm.trans hg⟩ hb, fun _ _ _ _ hc' => bx hc' hc, fun _ _ _ _ _ H6 D6 k6 => ?_⟩
          have L := L.disk (fp := [p, lq]) (by simp) k6 D6 (.inl rfl)
          walk_at "go"
          refine r_neSame (.str _) (.str _) (by decide +kernel) ?_
          walk_at "go"
          exact ⟨lq, mq, d.wrote ix.toNat (textOf x2 x3), _, _, _, _, _, _, _, _, rfl, L, (cnt_size d).trans hdn, by show (d.queue ++ _).length ≤ _; rw [List.length_append]; show _ + 1 ≤ _; omega⟩
      walk_at "go"
      refine if2 (fun h6 => ?_) (fun h6 => ?_)
      · walk_at "go"
        refine ⟨p, lb, lq, d, rfl, L.D, fun hc H4 D4 k4 => ?_, fun hc lq' H4 hl4 D4 k4 => ?_⟩
        · have L := L.disk (fp := [p]) (by simp) k4 D4 (.inl rfl)
          walk_at "go"
          refine ⟨m, mq, lc, d, rfl, L.M, fun _ H5 M5 k5 => ?_, fun hc' => bx hc hc'⟩
          have L := L.model (fp := [m]) (by simp) k5 M5 (.inl rfl)
          walk_at "go"
          exact ⟨lq, mq, d.cnt, _, _, _, _, _, _, _, _, rfl, L, (cnt_size d).trans hdn, by rw [cnt_queue]; omega⟩
        · have L := L.disk (fp := [p, lb]) (by simp) k4 D4 (.inr hl4)
          walk_at "go"
          refine ⟨m, mq, lc, d, rfl, L.M, fun hc' => bx hc' hc, fun _ mq' H5 hq5 M5 k5 => ?_⟩
          have L := L.model (fp := [m, lc]) (by simp) k5 M5 (.inr hq5)
          walk_at "go"
          exact ⟨lq', mq', d.synced, _, _, _, _, _, _, _, _, rfl, L, (cnt_size d).trans hdn, Nat.zero_le _⟩
      walk_at "go"
      refine if2 (fun h6 => ?_) (fun h6 => ?_)
      · obtain ⟨ps, hq, ht⟩ := L.M.qu
        walk_at "go"
        refine r_small (by show 2 ≤ 1000; decide) fun r0 hr0 => ?_
        have L := L.ex (Evl.Ex.new (o := .tup [.bl true, .bl false]) hr0)
        have er : Ex H2 (upd H2 r0 (.tup [.bl true, .bl false])) := Evl.Ex.new hr0
        rcases Bool.eq_false_or_eq_true d.down with hd | hd
        · rw [hd] at hm
          walk_at "go"
          refine ⟨p, lb, lq, d, ix, rfl, L.D, fun _ r' H5 e5 hr5 => ?_, fun hd' => bx hd hd', fun hd' => bx hd hd'⟩
          have L := L.ex e5
          walk_at "go"
          refine r_neSame (dp_tf hr5) (dp_tf (e5 _ _ upd_same)) (by decide +kernel) ?_
          walk_at "go"
          exact ⟨lq, mq, d, _, _, _, _, _, _, _, _, rfl, L, hdn, by omega⟩
        · rw [hd] at hm
          walk_at "go"
          refine r_small (by show 2 ≤ 1000; decide) fun r1 hr1 => ?_
          have L := L.ex (Evl.Ex.new (o := .tup [.str "bad", .int ix]) hr1)
          have er1 : Ex _ (upd (upd H2 r0 (.tup [.bl true, .bl false])) r1 (.tup [.str "bad", .int ix])) := Evl.Ex.new hr1
          walk_at "go"
          by_cases hin : 0 ≤ ix ∧ ix < (n : Int)
          · walk_at "go"
            have hq' := er1 _ _ (er _ _ hq)
            refine ⟨lc, mq, d.blocks, d.queue, ps, ix.toNat, by rw [Int.toNat_of_nonneg hin.1], L.M.bl, hq', tups_kp ht (fun _ _ z => er1 _ _ (er _ _ z)), by rw [L.D.ok.bl]; omega, ?_⟩
            walk_at "go"
            refine ⟨p, lb, lq, d, ix, rfl, L.D, fun hd' => bx hd' hd, fun _ hn => absurd ⟨hin.1, by rw [hdn]; exact hin.2⟩ hn, fun _ _ _ => ?_⟩
            walk_at "go"
            refine r_neSame (.str _) (.str _) (sh_str (L.D.ok.seen (i := ix.toNat) (by omega))) ?_
            walk_at "go"
            exact ⟨lq, mq, d, _, _, _, _, _, _, _, _, rfl, L, hdn, by omega⟩
          · refine if2 (fun ha => ?_) (fun ha => ?_)
            all_goals
              walk_at "go"
              refine ⟨p, lb, lq, d, ix, rfl, L.D, fun hd' => bx hd' hd, fun _ _ r' H5 e5 hr5 => ?_, fun _ y0 y1 => absurd ⟨y0, by rw [hdn] at y1; exact y1⟩ hin⟩
              have L := L.ex e5
              walk_at "go"
              refine r_neSame (dp_bad hr5) (dp_bad (e5 _ _ upd_same)) sh_bad ?_
              walk_at "go"
              exact ⟨lq, mq, d, _, _, _, _, _, _, _, _, rfl, L, hdn, by omega⟩
      walk_at "go"
      refine if2 (fun h6 => ?_) (fun h6 => ?_)
      · obtain ⟨o, ho⟩ : ∃ o : Option Int, atI [V.non, .int 0, .int 1, .int 2, .int 5] (x3 % 5) = some (oI o) := law_left x3
        walk_at "go"
        refine r_small (by show 5 ≤ 1000; decide) fun r0 hr0 => ?_
        have L := L.ex (Evl.Ex.new (o := .lst [V.non, .int 0, .int 1, .int 2, .int 5]) hr0)
        have hm := L.M.ob
        walk_at "go"
        refine r_setL hm rfl ?_
        have L := L.model (fp := [m]) (by simp) kp_upd (L.M.put (d' := { d with left := o }) (xs := [.ref mq, oI o, .bl d.down]) rfl rfl rfl rfl) (.inl rfl)
        have hm := L.M.ob
        obtain ⟨dx, hp⟩ := L.D.ob
        walk_at "go"
        refine ⟨p, lb, lq, _, o, rfl, L.D, fun H4 D4 k4 => ?_⟩
        have L := L.disk (fp := [p]) (by simp) k4 D4 (.inl rfl)
        walk_at "go"
        exact ⟨lq, mq, _, _, _, _, _, _, _, _, _, rfl, L, hdn, Nat.le_succ_of_le hql⟩
      walk_at "go"
      refine if2 (fun h6 => ?_) (fun h6 => ?_)
      · walk_at "go"
        obtain ⟨ch, hch⟩ : ∃ ch, ch = (if x3 * c < 0 then -(x3 * c) else x3 * c) := ⟨_, rfl⟩
        have hch0 : 0 ≤ ch := by rw [hch]; split <;> omega
        rw [← hch]
        walk_at "go"
        refine ⟨p, lb, lq, d, ch, rfl, hch0, L.D, fun lq' H4 hl4 D4 k4 => ?_⟩
        have L := L.disk (fp := [p, lb]) (by simp) k4 D4 (.inr hl4)
        walk_at "go"
        refine ⟨m, mq, lc, d, ch, rfl, hch0, L.M, fun mq' H5 hq5 M5 k5 => ?_⟩
        have L := L.model (fp := [m, lc]) (by simp) k5 M5 (.inr hq5)
        walk_at "go"
        exact ⟨lq', mq', d.restarted ch, _, _, _, _, _, _, _, _, rfl, L, hdn, Nat.zero_le _⟩
      · walk_at "go"
        exact ⟨lq, mq, d, _, _, _, _, _, _, _, _, rfl, L, hdn, by omega⟩
    · obtain ⟨lq, mq, d, v5, v6, v7, v8, v9, v10, v11, v12, rfl, L, hdn, hql⟩ := hP3
      obtain ⟨dx, hp⟩ := L.D.ob
      obtain ⟨ps, hq, ht⟩ := L.M.qu
      have hm := L.M.ob
      walk_at "go"
      refine ⟨p, lb, lq, d, rfl, L.D, ?_⟩
      walk_at "go"
      refine ifNF (by rw [List.length_map, tups_len ht]) ?_
      walk_at "go"
      exact ⟨lq, mq, d, _, _, _, _, _, _, _, _, rfl, L, hdn, hql⟩
  · obtain ⟨lq, mq, d, v5, v6, v7, v8, v9, v10, v11, v12, rfl, L, hdn, hql⟩ := hP
    obtain ⟨dx, hp⟩ := L.D.ob
    obtain ⟨ps, hq, ht⟩ := L.M.qu
    have hm := L.M.ob
    rcases Bool.eq_false_or_eq_true d.down with hd | hd
    · rw [hd] at hm
      walk_at "go"
      refine ⟨p, lb, lq, d, 0, rfl, by decide, L.D, fun lq' H4 hl4 D4 k4 => ?_⟩
      have L := L.disk (fp := [p, lb]) (by simp) k4 D4 (.inr hl4)
      obtain ⟨dx, hp⟩ := L.D.ob
      walk_at "go"
      refine blocks_lc L.D rfl hdn fun r0 H5 _ e5 hr0 => ?_
      have es : (d.restarted 0).seen = fun i => d.blocks.getD i "" := by
        funext i
        show (lastQ d.blocks d.queue 0).1.getD i "" = _
        rw [lastQ_zero]
      have L := L.ex e5
      rw [es, range_getD d.blocks n (by rw [L.M.ok.bl]; exact hdn)] at hr0
      walk_at "go"
      refine r_eqSame (dp_strL hr0) (dp_strL L.M.bl) (sh_strs L.M.ok.tx.1) ?_
      exact kQ _
    · rw [hd] at hm
      walk_at "go"
      refine blocks_lc L.D hd hdn fun r0 H5 _ e5 hr0 => ?_
      have L := L.ex e5
      obtain ⟨dx, hp⟩ := L.D.ob
      obtain ⟨ps, hq, ht⟩ := L.M.qu
      have hm := L.M.ob
      rw [hd] at hm
      walk_at "go"
      refine r_lcF (n := (n : Int).toNat) walk_range (fun i => .str (d.seen i)) (by omega) (fun _ _ => trivial) ?_ ?_
      · rintro i x H1 H' P hi e1 ⟨rfl, rfl⟩ kP
        have hm := e1 _ _ hm
        walk_at "go"
        refine ⟨rfl, ?_⟩
        walk_at "go"
        refine ⟨lc, mq, d.blocks, d.queue, ps, i, by simp, e1 _ _ L.M.bl, e1 _ _ hq, tups_kp ht (fun _ _ z => e1 _ _ z), by rw [L.D.ok.bl]; omega, ?_⟩
        exact kP _ (Evl.Ex.refl _)
      · intro r1 H6 _ e6 hr1
        rw [range_str, Int.toNat_natCast] at hr1
        walk_at "go"
        refine r_eqSame (dp_strL (e6 _ _ hr0)) (dp_strL hr1) (sh_strs fun t ht => ?_) ?_
        · obtain ⟨i, hi, rfl⟩ := List.mem_map.mp ht
          exact L.D.ok.seen (by rw [hdn]; exact List.mem_range.mp hi)
        · exact kQ _
end

end U

set_option Elab.async false
set_option linter.all false
set_option maxRecDepth 100000
set_option maxHeartbeats 4000000
namespace U
open PySem PySem.Spec PyProof.Rows L2
def top (i : Nat) : Stmt := PySem.Challenge.pw_pastamended_k48_disks.main.body.getD i (.Pass ⟨0, 0, 0, 0⟩)
abbrev s_is_block_text : Stmt := (top 6)
theorem sc_is_block_text : FnScope ["text", "char"] ["text"] (defScope s_is_block_text) := ⟨rfl, rfl, rfl, by decide +kernel, rfl, by decide +kernel, by decide +kernel⟩
theorem d_is_block_text {P : Program} {w : World} {K : PySem.W.Frag} {mg : Str → Option Value} {base : Heap} {A : Adr} (T : Txt K mg A) {f : Addr} {cdv : Value} {Ar : Around} {outer : List Env} {s : Shared} {H : Hp} {E : XK}
    (go : Go 0 (cxOf (L2.CX P w) P w K mg base ["text", "char"] "is_block_text" (defScope s_is_block_text) f cdv Ar outer s H E)) :
    PSs (cxOf (L2.CX P w) P w K mg base ["text", "char"] "is_block_text" (defScope s_is_block_text) f cdv Ar outer s H E) (defBody s_is_block_text) (t_is_block_text K A (fun cls d _ H => E cls d H)) :=
  (pss_cons (ps_if (pt_cmpR q_gt (pe_callB c_lenS (by rfl) T.b_len (by decide +kernel) (pa_cons (pv 0) pa_nil)) (pe_k T.k_MOST_CHARACTERS) (nomark _))
  (pss_one (ps_ret pe_bl))
  pss_nil)
  (pss_one (ps_ret (pe_callB (cr_all rfl) (by rfl) T.b_all (by decide +kernel) (pa_cons (pe_lc (own := [("char", 1)]) (g := (gName 1)) (tt := tYes) rfl sc_is_block_text.nd (pi_str (pv 0)) (blkOk_by (own := [("char", 1)]) (N := ["text", "char"]) (sc := defScope s_is_block_text) (by decide +kernel)) (fun _ _ _ _ _ => (pg_name (i := 1) sc_is_block_text.nd rfl (by first | exact Or.inl rfl | exact Or.inr rfl))) (fun _ _ _ _ _ => pts_nil) (fun _ _ _ _ _ => (pe_or (pe_cmpR op_eq (pv 1) pe_str (nomark _)) (pe_one (pe_and (pe_chain q_le q_le pe_int (pe_callB c_ord (by rfl) T.b_ord (by decide +kernel) (pa_cons (pv 1) pa_nil)) pe_int) (pe_one (pe_cmpR op_ne (pe_callB c_ord (by rfl) T.b_ord (by decide +kernel) (pa_cons (pv 1) pa_nil)) pe_int (nomark _)))))))) pa_nil)))))
theorem ok_is_block_text {P : Program} {w : World} {K : PySem.W.Frag} {mg : Str → Option Value} {base : Heap} {A : Adr} (T : Txt K mg A) {f : Addr} {fd : FuncData} (F : Fun K "is_block_text" "is_block_text" s_is_block_text f fd) : FnG P w K mg base 1 f fd ["text"] (sp_is_block_text K A) :=
  okG F sc_is_block_text len_is_block_text fun cdv Ar outer s H vs Q E go h => ⟨_, d_is_block_text T go, pure_is_block_text T.pure vs H Q E h⟩

abbrev s_Disk_init : Stmt := (inClass (top 7) 0)
theorem sc_Disk_init : FnScope ["self", "size", "_"] ["self", "size"] (defScope s_Disk_init) := ⟨rfl, rfl, rfl, by decide +kernel, rfl, by decide +kernel, by decide +kernel⟩
theorem d_Disk_init {P : Program} {w : World} {K : PySem.W.Frag} {mg : Str → Option Value} {base : Heap} {A : Adr} (T : Txt K mg A) {f : Addr} {cdv : Value} {Ar : Around} {outer : List Env} {s : Shared} {H : Hp} {E : XK}
    (go : Go 0 (cxOf (L2.CX P w) P w K mg base ["self", "size", "_"] "Disk.__init__" (defScope s_Disk_init) f cdv Ar outer s H E)) :
    PSs (cxOf (L2.CX P w) P w K mg base ["self", "size", "_"] "Disk.__init__" (defScope s_Disk_init) f cdv Ar outer s H E) (defBody s_Disk_init) (t_Disk_init K A (fun cls d _ H => E cls d H)) :=
  (pss_cons (ps_fld (pv 0) (pv 1) (by rfl))
  (pss_cons (ps_fld (pv 0) (pe_lc (own := [("_", 2)]) (g := (gName 2)) (tt := tYes) rfl sc_Disk_init.nd (pi_range1 rfl T.b_range (pa_cons (pv 1) pa_nil)) (blkOk_by (own := [("_", 2)]) (N := ["self", "size", "_"]) (sc := defScope s_Disk_init) (by decide +kernel)) (fun _ _ _ _ _ => (pg_name (i := 2) sc_Disk_init.nd rfl (by first | exact Or.inl rfl | exact Or.inr rfl))) (fun _ _ _ _ _ => pts_nil) (fun _ _ _ _ _ => pe_str)) (by rfl))
  (pss_cons (ps_fld (pv 0) (pe_lst pa_nil) (by rfl))
  (pss_cons (ps_fld (pv 0) pe_non (by rfl))
  (pss_one (ps_fld (pv 0) pe_bl (by rfl)))))))
theorem ok_Disk_init {P : Program} {w : World} {K : PySem.W.Frag} {mg : Str → Option Value} {base : Heap} {A : Adr} (T : Txt K mg A) {f : Addr} {fd : FuncData} (F : Fun K "__init__" "Disk.__init__" s_Disk_init f fd) : FnG P w K mg base 1 f fd ["self", "size"] (sp_Disk_init K A) :=
  okG F sc_Disk_init len_Disk_init fun cdv Ar outer s H vs Q E go h => ⟨_, d_Disk_init T go, pure_Disk_init T.pure vs H Q E h⟩

abbrev s_Disk_spend : Stmt := (inClass (top 7) 1)
theorem sc_Disk_spend : FnScope ["self"] ["self"] (defScope s_Disk_spend) := ⟨rfl, rfl, rfl, by decide +kernel, rfl, by decide +kernel, by decide +kernel⟩
theorem d_Disk_spend {P : Program} {w : World} {K : PySem.W.Frag} {mg : Str → Option Value} {base : Heap} {A : Adr} (T : Txt K mg A) {f : Addr} {cdv : Value} {Ar : Around} {outer : List Env} {s : Shared} {H : Hp} {E : XK}
    (go : Go 0 (cxOf (L2.CX P w) P w K mg base ["self"] "Disk.spend" (defScope s_Disk_spend) f cdv Ar outer s H E)) :
    PSs (cxOf (L2.CX P w) P w K mg base ["self"] "Disk.spend" (defScope s_Disk_spend) f cdv Ar outer s H E) (defBody s_Disk_spend) (t_Disk_spend K A (fun cls d _ H => E cls d H)) :=
  (pss_cons (ps_if (PW.pt (pw_and (pt_cmpR q_notN (pe_fld (pv 0) rfl) pe_non (nomark _)) (pw_and1 (pt_cmpR op_eq (pe_fld (pv 0) rfl) pe_int (nomark _)))))
  (pss_one (ps_fld (pv 0) pe_bl (by rfl)))
  pss_nil)
  (pss_cons (ps_if (pt_val (pe_fld (pv 0) rfl))
  (pss_one (ps_raise rfl (takes_of rfl rfl rfl rfl) (pmk_own0 PySem.F.excBase_ValueError T.e_PowerLost.xP T.e_PowerLost.gC T.e_PowerLost.kC T.e_PowerLost.rs)))
  pss_nil)
  (pss_one (ps_if (pt_cmpR q_notN (pe_fld (pv 0) rfl) pe_non (nomark _))
  (pss_one (ps_fld (pv 0) (pe_op q_sub (pe_fld (pv 0) rfl) pe_int) (by rfl)))
  pss_nil))))
theorem ok_Disk_spend {P : Program} {w : World} {K : PySem.W.Frag} {mg : Str → Option Value} {base : Heap} {A : Adr} (T : Txt K mg A) {f : Addr} {fd : FuncData} (F : Fun K "spend" "Disk.spend" s_Disk_spend f fd) : FnG P w K mg base 1 f fd ["self"] (sp_Disk_spend K A) :=
  okG F sc_Disk_spend len_Disk_spend fun cdv Ar outer s H vs Q E go h => ⟨_, d_Disk_spend T go, pure_Disk_spend T.pure vs H Q E h⟩

abbrev s_Disk_block : Stmt := (inClass (top 7) 2)
theorem sc_Disk_block : FnScope ["self", "index", "text", "at", "other"] ["self", "index"] (defScope s_Disk_block) := ⟨rfl, rfl, rfl, by decide +kernel, rfl, by decide +kernel, by decide +kernel⟩
theorem d_Disk_block {P : Program} {w : World} {K : PySem.W.Frag} {mg : Str → Option Value} {base : Heap} {A : Adr} (T : Txt K mg A) (x_BadBlock : ExcI P w K mg base "BadBlock" A.BadBlock (spX1 K A.BadBlock "index")) {f : Addr} {cdv : Value} {Ar : Around} {outer : List Env} {s : Shared} {H : Hp} {E : XK}
    (go : Go 2 (cxOf (L2.CX P w) P w K mg base ["self", "index", "text", "at", "other"] "Disk.block" (defScope s_Disk_block) f cdv Ar outer s H E)) :
    PSs (cxOf (L2.CX P w) P w K mg base ["self", "index", "text", "at", "other"] "Disk.block" (defScope s_Disk_block) f cdv Ar outer s H E) (defBody s_Disk_block) (t_Disk_block K A (fun cls d _ H => E cls d H)) :=
  (pss_cons (ps_if (pt_val (pe_fld (pv 0) rfl))
  (pss_one (ps_raise rfl (takes_of rfl rfl rfl rfl) (pmk_own0 PySem.F.excBase_ValueError T.e_PowerLost.xP T.e_PowerLost.gC T.e_PowerLost.kC T.e_PowerLost.rs)))
  pss_nil)
  (pss_cons (ps_if (pt_not (pt_chain q_le q_lt pe_int (pv 1) (pe_fld (pv 0) rfl)))
  (pss_one (ps_raise rfl (takes_of rfl rfl rfl rfl) (pmk_x1 (k := 0) x_BadBlock ⟨go.rm.mono (by decide), go.gd⟩ (pa_cons (pv 1) pa_nil))))
  pss_nil)
  (pss_cons (ps_set (i := 2) sc_Disk_block.nd rfl (by first | exact Or.inl rfl | exact Or.inr rfl) (pe_ix ix_list (pe_fld (pv 0) rfl) (pv 1) (fun _ _ => rfl)))
  (pss_cons (ps_for (passes_of rfl) rfl (pi_list (pe_fld (pv 0) rfl)) (pg_tup rfl (pgs_cons (pg_name (i := 3) sc_Disk_block.nd rfl (by first | exact Or.inl rfl | exact Or.inr rfl)) (pgs_cons (pg_name (i := 4) sc_Disk_block.nd rfl (by first | exact Or.inl rfl | exact Or.inr rfl)) pgs_nil)))
  (pss_one (ps_if (pt_cmpR op_eq (pv 3) (pv 1) (nomark _))
  (pss_one (ps_set (i := 2) sc_Disk_block.nd rfl (by first | exact Or.inl rfl | exact Or.inr rfl) (pv 4)))
  pss_nil)))
  (pss_one (ps_ret (pv 2)))))))
theorem ok_Disk_block {P : Program} {w : World} {K : PySem.W.Frag} {mg : Str → Option Value} {base : Heap} {A : Adr} (T : Txt K mg A) (x_BadBlock : ExcI P w K mg base "BadBlock" A.BadBlock (spX1 K A.BadBlock "index")) {f : Addr} {fd : FuncData} (F : Fun K "block" "Disk.block" s_Disk_block f fd) : FnG P w K mg base 3 f fd ["self", "index"] (sp_Disk_block K A) :=
  okG F sc_Disk_block len_Disk_block fun cdv Ar outer s H vs Q E go h => ⟨_, d_Disk_block T x_BadBlock go, pure_Disk_block T.pure vs H Q E h⟩

abbrev s_Disk_write : Stmt := (inClass (top 7) 3)
theorem sc_Disk_write : FnScope ["self", "index", "text"] ["self", "index", "text"] (defScope s_Disk_write) := ⟨rfl, rfl, rfl, by decide +kernel, rfl, by decide +kernel, by decide +kernel⟩
theorem d_Disk_write {P : Program} {w : World} {K : PySem.W.Frag} {mg : Str → Option Value} {base : Heap} {A : Adr} (T : Txt K mg A) (c_is_block_text : GDef P w K mg base 1 "is_block_text" (sp_is_block_text K A)) (x_BadBlock : ExcI P w K mg base "BadBlock" A.BadBlock (spX1 K A.BadBlock "index")) (c_Disk_spend : MDef P w K mg base 1 A.Disk "spend" (sp_Disk_spend K A)) {f : Addr} {cdv : Value} {Ar : Around} {outer : List Env} {s : Shared} {H : Hp} {E : XK}
    (go : Go 2 (cxOf (L2.CX P w) P w K mg base ["self", "index", "text"] "Disk.write" (defScope s_Disk_write) f cdv Ar outer s H E)) :
    PSs (cxOf (L2.CX P w) P w K mg base ["self", "index", "text"] "Disk.write" (defScope s_Disk_write) f cdv Ar outer s H E) (defBody s_Disk_write) (t_Disk_write K A (fun cls d _ H => E cls d H)) :=
  (pss_cons (ps_if (pt_val (pe_fld (pv 0) rfl))
  (pss_one (ps_raise rfl (takes_of rfl rfl rfl rfl) (pmk_own0 PySem.F.excBase_ValueError T.e_PowerLost.xP T.e_PowerLost.gC T.e_PowerLost.kC T.e_PowerLost.rs)))
  pss_nil)
  (pss_cons (ps_if (PW.pt (pw_or (pt_not (pt_chain q_le q_lt pe_int (pv 1) (pe_fld (pv 0) rfl))) (pw_or1 (pt_not (pt_val (pe_g c_is_block_text ⟨go.rm, go.gd⟩ (takes_of rfl rfl rfl rfl) (by decide) (pa_cons (pv 2) pa_nil)))))))
  (pss_one (ps_raise rfl (takes_of rfl rfl rfl rfl) (pmk_x1 (k := 0) x_BadBlock ⟨go.rm.mono (by decide), go.gd⟩ (pa_cons (pv 1) pa_nil))))
  pss_nil)
  (pss_cons (ps_expr (pe_m0 c_Disk_spend T.c_Disk ⟨go.rm, go.gd⟩ (takes_of rfl rfl rfl rfl) (by decide) (pv 0)))
  (pss_one (ps_expr (pe_bm PySem.F.plainAttrs_list PySem.F.slot_list_append PySem.F.type_list_append mt_append (pe_fld (pv 0) rfl) (pa_cons (pe_tup (pa_cons (pv 1) (pa_cons (pv 2) pa_nil))) pa_nil)))))))
theorem ok_Disk_write {P : Program} {w : World} {K : PySem.W.Frag} {mg : Str → Option Value} {base : Heap} {A : Adr} (T : Txt K mg A) (c_is_block_text : GDef P w K mg base 1 "is_block_text" (sp_is_block_text K A)) (x_BadBlock : ExcI P w K mg base "BadBlock" A.BadBlock (spX1 K A.BadBlock "index")) (c_Disk_spend : MDef P w K mg base 1 A.Disk "spend" (sp_Disk_spend K A)) {f : Addr} {fd : FuncData} (F : Fun K "write" "Disk.write" s_Disk_write f fd) : FnG P w K mg base 3 f fd ["self", "index", "text"] (sp_Disk_write K A) :=
  okG F sc_Disk_write len_Disk_write fun cdv Ar outer s H vs Q E go h => ⟨_, d_Disk_write T c_is_block_text x_BadBlock c_Disk_spend go, pure_Disk_write T.pure vs H Q E h⟩

abbrev s_Disk_sync : Stmt := (inClass (top 7) 4)
theorem sc_Disk_sync : FnScope ["self", "at", "text"] ["self"] (defScope s_Disk_sync) := ⟨rfl, rfl, rfl, by decide +kernel, rfl, by decide +kernel, by decide +kernel⟩
theorem d_Disk_sync {P : Program} {w : World} {K : PySem.W.Frag} {mg : Str → Option Value} {base : Heap} {A : Adr} (T : Txt K mg A) (c_Disk_spend : MDef P w K mg base 1 A.Disk "spend" (sp_Disk_spend K A)) {f : Addr} {cdv : Value} {Ar : Around} {outer : List Env} {s : Shared} {H : Hp} {E : XK}
    (go : Go 1 (cxOf (L2.CX P w) P w K mg base ["self", "at", "text"] "Disk.sync" (defScope s_Disk_sync) f cdv Ar outer s H E)) :
    PSs (cxOf (L2.CX P w) P w K mg base ["self", "at", "text"] "Disk.sync" (defScope s_Disk_sync) f cdv Ar outer s H E) (defBody s_Disk_sync) (t_Disk_sync K A (fun cls d _ H => E cls d H)) :=
  (pss_cons (ps_expr (pe_m0 c_Disk_spend T.c_Disk ⟨go.rm, go.gd⟩ (takes_of rfl rfl rfl rfl) (by decide) (pv 0)))
  (pss_cons (ps_for (passes_of rfl) rfl (pi_list (pe_fld (pv 0) rfl)) (pg_tup rfl (pgs_cons (pg_name (i := 1) sc_Disk_sync.nd rfl (by first | exact Or.inl rfl | exact Or.inr rfl)) (pgs_cons (pg_name (i := 2) sc_Disk_sync.nd rfl (by first | exact Or.inl rfl | exact Or.inr rfl)) pgs_nil)))
  (pss_one (ps_asg (pv 2) (pg_sub (pe_fld (pv 0) rfl) (pv 1) set_list))))
  (pss_one (ps_fld (pv 0) (pe_lst pa_nil) (by rfl)))))
theorem ok_Disk_sync {P : Program} {w : World} {K : PySem.W.Frag} {mg : Str → Option Value} {base : Heap} {A : Adr} (T : Txt K mg A) (c_Disk_spend : MDef P w K mg base 1 A.Disk "spend" (sp_Disk_spend K A)) {f : Addr} {fd : FuncData} (F : Fun K "sync" "Disk.sync" s_Disk_sync f fd) : FnG P w K mg base 2 f fd ["self"] (sp_Disk_sync K A) :=
  okG F sc_Disk_sync len_Disk_sync fun cdv Ar outer s H vs Q E go h => ⟨_, d_Disk_sync T c_Disk_spend go, pure_Disk_sync T.pure vs H Q E h⟩

abbrev s_Disk_waiting : Stmt := (inClass (top 7) 5)
theorem sc_Disk_waiting : FnScope ["self"] ["self"] (defScope s_Disk_waiting) := ⟨rfl, rfl, rfl, by decide +kernel, rfl, by decide +kernel, by decide +kernel⟩
theorem d_Disk_waiting {P : Program} {w : World} {K : PySem.W.Frag} {mg : Str → Option Value} {base : Heap} {A : Adr} (T : Txt K mg A) {f : Addr} {cdv : Value} {Ar : Around} {outer : List Env} {s : Shared} {H : Hp} {E : XK}
    (go : Go 0 (cxOf (L2.CX P w) P w K mg base ["self"] "Disk.waiting" (defScope s_Disk_waiting) f cdv Ar outer s H E)) :
    PSs (cxOf (L2.CX P w) P w K mg base ["self"] "Disk.waiting" (defScope s_Disk_waiting) f cdv Ar outer s H E) (defBody s_Disk_waiting) (t_Disk_waiting K A (fun cls d _ H => E cls d H)) :=
  (pss_one (ps_ret (pe_callB c_len (by rfl) T.b_len (by decide +kernel) (pa_cons (pe_fld (pv 0) rfl) pa_nil))))
theorem ok_Disk_waiting {P : Program} {w : World} {K : PySem.W.Frag} {mg : Str → Option Value} {base : Heap} {A : Adr} (T : Txt K mg A) {f : Addr} {fd : FuncData} (F : Fun K "waiting" "Disk.waiting" s_Disk_waiting f fd) : FnG P w K mg base 1 f fd ["self"] (sp_Disk_waiting K A) :=
  okG F sc_Disk_waiting len_Disk_waiting fun cdv Ar outer s H vs Q E go h => ⟨_, d_Disk_waiting T go, pure_Disk_waiting T.pure vs H Q E h⟩

abbrev s_Disk_fall_after : Stmt := (inClass (top 7) 6)
theorem sc_Disk_fall_after : FnScope ["self", "n"] ["self", "n"] (defScope s_Disk_fall_after) := ⟨rfl, rfl, rfl, by decide +kernel, rfl, by decide +kernel, by decide +kernel⟩
theorem d_Disk_fall_after {P : Program} {w : World} {K : PySem.W.Frag} {mg : Str → Option Value} {base : Heap} {A : Adr} (T : Txt K mg A) {f : Addr} {cdv : Value} {Ar : Around} {outer : List Env} {s : Shared} {H : Hp} {E : XK}
    (go : Go 0 (cxOf (L2.CX P w) P w K mg base ["self", "n"] "Disk.fall_after" (defScope s_Disk_fall_after) f cdv Ar outer s H E)) :
    PSs (cxOf (L2.CX P w) P w K mg base ["self", "n"] "Disk.fall_after" (defScope s_Disk_fall_after) f cdv Ar outer s H E) (defBody s_Disk_fall_after) (t_Disk_fall_after K A (fun cls d _ H => E cls d H)) :=
  (pss_one (ps_fld (pv 0) (pv 1) (by rfl)))
theorem ok_Disk_fall_after {P : Program} {w : World} {K : PySem.W.Frag} {mg : Str → Option Value} {base : Heap} {A : Adr} (T : Txt K mg A) {f : Addr} {fd : FuncData} (F : Fun K "fall_after" "Disk.fall_after" s_Disk_fall_after f fd) : FnG P w K mg base 1 f fd ["self", "n"] (sp_Disk_fall_after K A) :=
  okG F sc_Disk_fall_after len_Disk_fall_after fun cdv Ar outer s H vs Q E go h => ⟨_, d_Disk_fall_after T go, pure_Disk_fall_after T.pure vs H Q E h⟩

abbrev s_Disk_restart : Stmt := (inClass (top 7) 7)
theorem sc_Disk_restart : FnScope ["self", "choice", "at", "text"] ["self", "choice"] (defScope s_Disk_restart) := ⟨rfl, rfl, rfl, by decide +kernel, rfl, by decide +kernel, by decide +kernel⟩
theorem d_Disk_restart {P : Program} {w : World} {K : PySem.W.Frag} {mg : Str → Option Value} {base : Heap} {A : Adr} (T : Txt K mg A) {f : Addr} {cdv : Value} {Ar : Around} {outer : List Env} {s : Shared} {H : Hp} {E : XK}
    (go : Go 0 (cxOf (L2.CX P w) P w K mg base ["self", "choice", "at", "text"] "Disk.restart" (defScope s_Disk_restart) f cdv Ar outer s H E)) :
    PSs (cxOf (L2.CX P w) P w K mg base ["self", "choice", "at", "text"] "Disk.restart" (defScope s_Disk_restart) f cdv Ar outer s H E) (defBody s_Disk_restart) (t_Disk_restart K A (fun cls d _ H => E cls d H)) :=
  (pss_cons (ps_for (passes_of rfl) rfl (pi_list (pe_fld (pv 0) rfl)) (pg_tup rfl (pgs_cons (pg_name (i := 2) sc_Disk_restart.nd rfl (by first | exact Or.inl rfl | exact Or.inr rfl)) (pgs_cons (pg_name (i := 3) sc_Disk_restart.nd rfl (by first | exact Or.inl rfl | exact Or.inr rfl)) pgs_nil)))
  (pss_cons (ps_if (pt_cmpR op_eq (pe_op q_and (pv 1) pe_int) pe_int (nomark _))
  (pss_one (ps_asg (pv 3) (pg_sub (pe_fld (pv 0) rfl) (pv 2) set_list)))
  pss_nil)
  (pss_one (ps_set (i := 1) sc_Disk_restart.nd rfl (by first | exact Or.inl rfl | exact Or.inr rfl) (pe_op q_div (pv 1) pe_int)))))
  (pss_cons (ps_fld (pv 0) (pe_lst pa_nil) (by rfl))
  (pss_cons (ps_fld (pv 0) pe_non (by rfl))
  (pss_one (ps_fld (pv 0) pe_bl (by rfl))))))
theorem ok_Disk_restart {P : Program} {w : World} {K : PySem.W.Frag} {mg : Str → Option Value} {base : Heap} {A : Adr} (T : Txt K mg A) {f : Addr} {fd : FuncData} (F : Fun K "restart" "Disk.restart" s_Disk_restart f fd) : FnG P w K mg base 1 f fd ["self", "choice"] (sp_Disk_restart K A) :=
  okG F sc_Disk_restart len_Disk_restart fun cdv Ar outer s H vs Q E go h => ⟨_, d_Disk_restart T go, pure_Disk_restart T.pure vs H Q E h⟩

abbrev s__law_cell : Stmt := (top 9)
theorem sc__law_cell : FnScope ["_law_script", "_law_k"] ["_law_script", "_law_k"] (defScope s__law_cell) := ⟨rfl, rfl, rfl, by decide +kernel, rfl, by decide +kernel, by decide +kernel⟩
theorem d__law_cell {P : Program} {w : World} {K : PySem.W.Frag} {mg : Str → Option Value} {base : Heap} {A : Adr} (T : Txt K mg A) {f : Addr} {cdv : Value} {Ar : Around} {outer : List Env} {s : Shared} {H : Hp} {E : XK}
    (go : Go 0 (cxOf (L2.CX P w) P w K mg base ["_law_script", "_law_k"] "_law_cell" (defScope s__law_cell) f cdv Ar outer s H E)) :
    PSs (cxOf (L2.CX P w) P w K mg base ["_law_script", "_law_k"] "_law_cell" (defScope s__law_cell) f cdv Ar outer s H E) (defBody s__law_cell) (t__law_cell K A (fun cls d _ H => E cls d H)) :=
  (pss_cons (ps_if (pt_cmpR q_lt (pv 1) (pe_callB c_len (by rfl) T.b_len (by decide +kernel) (pa_cons (pv 0) pa_nil)) (nomark _))
  (pss_one (ps_ret (pe_ix ix_list (pv 0) (pv 1) (fun _ _ => rfl))))
  pss_nil)
  (pss_one (ps_ret pe_int)))
theorem ok__law_cell {P : Program} {w : World} {K : PySem.W.Frag} {mg : Str → Option Value} {base : Heap} {A : Adr} (T : Txt K mg A) {f : Addr} {fd : FuncData} (F : Fun K "_law_cell" "_law_cell" s__law_cell f fd) : FnG P w K mg base 1 f fd ["_law_script", "_law_k"] (sp__law_cell K A) :=
  okG F sc__law_cell len__law_cell fun cdv Ar outer s H vs Q E go h => ⟨_, d__law_cell T go, pure__law_cell T.pure vs H Q E h⟩

abbrev s__law_numbers : Stmt := (top 10)
theorem sc__law_numbers : FnScope ["_law_cell_here", "_law_bounds", "_law_result", "_law_many", "_law_k", "_law_mixed"] ["_law_cell_here", "_law_bounds"] (defScope s__law_numbers) := ⟨rfl, rfl, rfl, by decide +kernel, rfl, by decide +kernel, by decide +kernel⟩
theorem d__law_numbers {P : Program} {w : World} {K : PySem.W.Frag} {mg : Str → Option Value} {base : Heap} {A : Adr} (T : Txt K mg A) {f : Addr} {cdv : Value} {Ar : Around} {outer : List Env} {s : Shared} {H : Hp} {E : XK}
    (go : Go 0 (cxOf (L2.CX P w) P w K mg base ["_law_cell_here", "_law_bounds", "_law_result", "_law_many", "_law_k", "_law_mixed"] "_law_numbers" (defScope s__law_numbers) f cdv Ar outer s H E)) :
    PSs (cxOf (L2.CX P w) P w K mg base ["_law_cell_here", "_law_bounds", "_law_result", "_law_many", "_law_k", "_law_mixed"] "_law_numbers" (defScope s__law_numbers) f cdv Ar outer s H E) (defBody s__law_numbers) (t__law_numbers K A (fun cls d _ H => E cls d H)) :=
  (pss_cons (ps_set (i := 2) sc__law_numbers.nd rfl (by first | exact Or.inl rfl | exact Or.inr rfl) (pe_lst pa_nil))
  (pss_cons (ps_if (pt_cmpR q_ge (pv 0) (pe_op q_pow pe_int pe_int) (nomark _))
  (pss_cons (ps_for (passes_of rfl) rfl (pi_list (pv 1)) (pg_name (i := 3) sc__law_numbers.nd rfl (by first | exact Or.inl rfl | exact Or.inr rfl))
  (pss_cons (ps_expr (pe_bm PySem.F.plainAttrs_list PySem.F.slot_list_append PySem.F.type_list_append mt_append (pv 2) (pa_cons (pe_op q_mod (pe_callTy c_int (by rfl) T.b_int (by decide +kernel) (pa_cons (pv 0) pa_nil)) (pv 3)) pa_nil)))
  (pss_one (ps_set (i := 0) sc__law_numbers.nd rfl (by first | exact Or.inl rfl | exact Or.inr rfl) (pe_op q_div (pv 0) (pv 3))))))
  (pss_one (ps_ret (pv 2))))
  pss_nil)
  (pss_cons (ps_for (passes_of rfl) rfl (pi_range1 rfl T.b_range (pa_cons (pe_callB c_len (by rfl) T.b_len (by decide +kernel) (pa_cons (pv 1) pa_nil)) pa_nil)) (pg_name (i := 4) sc__law_numbers.nd rfl (by first | exact Or.inl rfl | exact Or.inr rfl))
  (pss_cons (ps_set (i := 5) sc__law_numbers.nd rfl (by first | exact Or.inl rfl | exact Or.inr rfl) (pe_op q_mod (pe_callTy c_int (by rfl) T.b_int (by decide +kernel) (pa_cons (pe_op q_add (pe_op q_add (pe_op q_mul (pv 0) pe_int) (pe_op q_mul (pv 4) pe_int)) pe_int) pa_nil)) pe_int))
  (pss_cons (ps_set (i := 5) sc__law_numbers.nd rfl (by first | exact Or.inl rfl | exact Or.inr rfl) (pe_op q_mod (pe_callTy c_int (by rfl) T.b_int (by decide +kernel) (pa_cons (pe_op q_add (pe_op q_add (pe_op q_mul (pv 5) pe_int) (pe_op q_mul (pv 4) pe_int)) pe_int) pa_nil)) pe_int))
  (pss_one (ps_expr (pe_bm PySem.F.plainAttrs_list PySem.F.slot_list_append PySem.F.type_list_append mt_append (pv 2) (pa_cons (pe_op q_mod (pv 5) (pe_ix ix_list (pv 1) (pv 4) (fun _ _ => rfl))) pa_nil)))))))
  (pss_one (ps_ret (pv 2))))))
theorem ok__law_numbers {P : Program} {w : World} {K : PySem.W.Frag} {mg : Str → Option Value} {base : Heap} {A : Adr} (T : Txt K mg A) {f : Addr} {fd : FuncData} (F : Fun K "_law_numbers" "_law_numbers" s__law_numbers f fd) : FnG P w K mg base 1 f fd ["_law_cell_here", "_law_bounds"] (sp__law_numbers K A) :=
  okG F sc__law_numbers len__law_numbers fun cdv Ar outer s H vs Q E go h => ⟨_, d__law_numbers T go, pure__law_numbers T.pure vs H Q E h⟩

abbrev s__law_text : Stmt := (top 11)
theorem sc__law_text : FnScope ["_law_kind", "_law_number", "_law_row"] ["_law_kind", "_law_number"] (defScope s__law_text) := ⟨rfl, rfl, rfl, by decide +kernel, rfl, by decide +kernel, by decide +kernel⟩
theorem d__law_text {P : Program} {w : World} {K : PySem.W.Frag} {mg : Str → Option Value} {base : Heap} {A : Adr} (T : Txt K mg A) {f : Addr} {cdv : Value} {Ar : Around} {outer : List Env} {s : Shared} {H : Hp} {E : XK}
    (go : Go 0 (cxOf (L2.CX P w) P w K mg base ["_law_kind", "_law_number", "_law_row"] "_law_text" (defScope s__law_text) f cdv Ar outer s H E)) :
    PSs (cxOf (L2.CX P w) P w K mg base ["_law_kind", "_law_number", "_law_row"] "_law_text" (defScope s__law_text) f cdv Ar outer s H E) (defBody s__law_text) (t__law_text K A (fun cls d _ H => E cls d H)) :=
  (pss_cons (ps_set (i := 2) sc__law_text.nd rfl (by first | exact Or.inl rfl | exact Or.inr rfl) (pe_lst (pa_cons pe_str (pa_cons pe_str (pa_cons pe_str (pa_cons (pe_op q_repS pe_str pe_int) (pa_cons (pe_op q_repS pe_str pe_int) (pa_cons pe_str (pa_cons pe_str (pa_cons (pe_op q_repS pe_str pe_int) (pa_cons (pe_op q_repS pe_str pe_int) (pa_cons pe_str pa_nil))))))))))))
  (pss_cons (ps_if (pt_cmpR q_lt (pv 0) pe_int (nomark _))
  (pss_one (ps_ret (pe_ix ix_list (pv 2) (pv 0) (fun _ _ => rfl))))
  pss_nil)
  (pss_one (ps_ret (pe_callTy c_str (by rfl) T.b_str (by decide +kernel) (pa_cons (pv 1) pa_nil))))))
theorem ok__law_text {P : Program} {w : World} {K : PySem.W.Frag} {mg : Str → Option Value} {base : Heap} {A : Adr} (T : Txt K mg A) {f : Addr} {fd : FuncData} (F : Fun K "_law_text" "_law_text" s__law_text f fd) : FnG P w K mg base 1 f fd ["_law_kind", "_law_number"] (sp__law_text K A) :=
  okG F sc__law_text len__law_text fun cdv Ar outer s H vs Q E go h => ⟨_, d__law_text T go, pure__law_text T.pure vs H Q E h⟩

abbrev s__law_is_good : Stmt := (top 12)
theorem sc__law_is_good : FnScope ["_law_text_here"] ["_law_text_here"] (defScope s__law_is_good) := ⟨rfl, rfl, rfl, by decide +kernel, rfl, by decide +kernel, by decide +kernel⟩
theorem d__law_is_good {P : Program} {w : World} {K : PySem.W.Frag} {mg : Str → Option Value} {base : Heap} {A : Adr} (T : Txt K mg A) {f : Addr} {cdv : Value} {Ar : Around} {outer : List Env} {s : Shared} {H : Hp} {E : XK}
    (go : Go 0 (cxOf (L2.CX P w) P w K mg base ["_law_text_here"] "_law_is_good" (defScope s__law_is_good) f cdv Ar outer s H E)) :
    PSs (cxOf (L2.CX P w) P w K mg base ["_law_text_here"] "_law_is_good" (defScope s__law_is_good) f cdv Ar outer s H E) (defBody s__law_is_good) (t__law_is_good K A (fun cls d _ H => E cls d H)) :=
  (pss_one (ps_ret (pe_and (pe_cmpR q_le (pe_callB c_lenS (by rfl) T.b_len (by decide +kernel) (pa_cons (pv 0) pa_nil)) pe_int (nomark _)) (pe_one (pe_cmpR q_notInS pe_str (pv 0) (by rfl))))))
theorem ok__law_is_good {P : Program} {w : World} {K : PySem.W.Frag} {mg : Str → Option Value} {base : Heap} {A : Adr} (T : Txt K mg A) {f : Addr} {fd : FuncData} (F : Fun K "_law_is_good" "_law_is_good" s__law_is_good f fd) : FnG P w K mg base 1 f fd ["_law_text_here"] (sp__law_is_good K A) :=
  okG F sc__law_is_good len__law_is_good fun cdv Ar outer s H vs Q E go h => ⟨_, d__law_is_good T go, pure__law_is_good T.pure vs H Q E h⟩

abbrev s__law_written : Stmt := (top 13)
theorem sc__law_written : FnScope ["_law_disk", "_law_index", "_law_text_here", "e"] ["_law_disk", "_law_index", "_law_text_here"] (defScope s__law_written) := ⟨rfl, rfl, rfl, by decide +kernel, rfl, by decide +kernel, by decide +kernel⟩
theorem d__law_written {P : Program} {w : World} {K : PySem.W.Frag} {mg : Str → Option Value} {base : Heap} {A : Adr} (T : Txt K mg A) (c_Disk_write : MDef P w K mg base 3 A.Disk "write" (sp_Disk_write K A)) {f : Addr} {cdv : Value} {Ar : Around} {outer : List Env} {s : Shared} {H : Hp} {E : XK}
    (go : Go 3 (cxOf (L2.CX P w) P w K mg base ["_law_disk", "_law_index", "_law_text_here", "e"] "_law_written" (defScope s__law_written) f cdv Ar outer s H E)) :
    PSs (cxOf (L2.CX P w) P w K mg base ["_law_disk", "_law_index", "_law_text_here", "e"] "_law_written" (defScope s__law_written) f cdv Ar outer s H E) (defBody s__law_written) (t__law_written K A (fun cls d _ H => E cls d H)) :=
  (pss_cons (ps_try_mix (tb := fun W1 => (tDrop (tMethS A.Disk "write" (sp_Disk_write K A) (WE W1) (tVar 0) (tCons (tVar 1) (tCons (tVar 2) tNil))))) sc__law_written.nd (takes_of rfl rfl rfl rfl) rfl rfl (fun W1 pn xe tk1 hp1 => (pss_one (ps_expr (pe_m c_Disk_write T.c_Disk ⟨go.rm, go.gd⟩ tk1 (by decide) (pv 0) (pa_cons (pv 1) (pa_cons (pv 2) pa_nil)))))) (MixOk.named (nm T.g_BadBlock) rfl rfl (fun a oe cls d pn hz hf => (pss_one (ps_ret (pe_tup (pa_cons pe_str (pa_cons (pe_xf T.xf_BadBlock T.xn_BadBlock_index hz hf (pv 3)) (pa_cons (pe_callB (call_isPc hz) (by rfl) T.b_isinstance (by decide +kernel) (pa_cons (pv 3) (pa_cons (pe_k T.k_DatabaseError) pa_nil))) pa_nil))))))) (MixOk.bare (nm T.g_PowerLost) (fun a oe cls d pn hz hf => (pss_one (ps_ret pe_str))) MixOk.nil)))
  (pss_one (ps_ret pe_str)))
theorem ok__law_written {P : Program} {w : World} {K : PySem.W.Frag} {mg : Str → Option Value} {base : Heap} {A : Adr} (T : Txt K mg A) (c_Disk_write : MDef P w K mg base 3 A.Disk "write" (sp_Disk_write K A)) {f : Addr} {fd : FuncData} (F : Fun K "_law_written" "_law_written" s__law_written f fd) : FnG P w K mg base 4 f fd ["_law_disk", "_law_index", "_law_text_here"] (sp__law_written K A) :=
  okG F sc__law_written len__law_written fun cdv Ar outer s H vs Q E go h => ⟨_, d__law_written T c_Disk_write go, pure__law_written T.pure vs H Q E h⟩

abbrev s__law_synced : Stmt := (top 14)
theorem sc__law_synced : FnScope ["_law_disk"] ["_law_disk"] (defScope s__law_synced) := ⟨rfl, rfl, rfl, by decide +kernel, rfl, by decide +kernel, by decide +kernel⟩
theorem d__law_synced {P : Program} {w : World} {K : PySem.W.Frag} {mg : Str → Option Value} {base : Heap} {A : Adr} (T : Txt K mg A) (c_Disk_sync : MDef P w K mg base 2 A.Disk "sync" (sp_Disk_sync K A)) {f : Addr} {cdv : Value} {Ar : Around} {outer : List Env} {s : Shared} {H : Hp} {E : XK}
    (go : Go 2 (cxOf (L2.CX P w) P w K mg base ["_law_disk"] "_law_synced" (defScope s__law_synced) f cdv Ar outer s H E)) :
    PSs (cxOf (L2.CX P w) P w K mg base ["_law_disk"] "_law_synced" (defScope s__law_synced) f cdv Ar outer s H E) (defBody s__law_synced) (t__law_synced K A (fun cls d _ H => E cls d H)) :=
  (pss_cons (ps_try_mix (tb := fun W1 => (tDrop (tMethS A.Disk "sync" (sp_Disk_sync K A) (WE W1) (tVar 0) tNil))) sc__law_synced.nd (takes_of rfl rfl rfl rfl) rfl rfl (fun W1 pn xe tk1 hp1 => (pss_one (ps_expr (pe_m0 c_Disk_sync T.c_Disk ⟨go.rm, go.gd⟩ tk1 (by decide) (pv 0))))) (MixOk.bare (nm T.g_PowerLost) (fun a oe cls d pn hz hf => (pss_one (ps_ret pe_str))) MixOk.nil))
  (pss_one (ps_ret pe_str)))
theorem ok__law_synced {P : Program} {w : World} {K : PySem.W.Frag} {mg : Str → Option Value} {base : Heap} {A : Adr} (T : Txt K mg A) (c_Disk_sync : MDef P w K mg base 2 A.Disk "sync" (sp_Disk_sync K A)) {f : Addr} {fd : FuncData} (F : Fun K "_law_synced" "_law_synced" s__law_synced f fd) : FnG P w K mg base 3 f fd ["_law_disk"] (sp__law_synced K A) :=
  okG F sc__law_synced len__law_synced fun cdv Ar outer s H vs Q E go h => ⟨_, d__law_synced T c_Disk_sync go, pure__law_synced T.pure vs H Q E h⟩

abbrev s__law_read : Stmt := (top 15)
theorem sc__law_read : FnScope ["_law_disk", "_law_index", "e"] ["_law_disk", "_law_index"] (defScope s__law_read) := ⟨rfl, rfl, rfl, by decide +kernel, rfl, by decide +kernel, by decide +kernel⟩
theorem d__law_read {P : Program} {w : World} {K : PySem.W.Frag} {mg : Str → Option Value} {base : Heap} {A : Adr} (T : Txt K mg A) (c_Disk_block : MDef P w K mg base 3 A.Disk "block" (sp_Disk_block K A)) {f : Addr} {cdv : Value} {Ar : Around} {outer : List Env} {s : Shared} {H : Hp} {E : XK}
    (go : Go 3 (cxOf (L2.CX P w) P w K mg base ["_law_disk", "_law_index", "e"] "_law_read" (defScope s__law_read) f cdv Ar outer s H E)) :
    PSs (cxOf (L2.CX P w) P w K mg base ["_law_disk", "_law_index", "e"] "_law_read" (defScope s__law_read) f cdv Ar outer s H E) (defBody s__law_read) (t__law_read K A (fun cls d _ H => E cls d H)) :=
  (pss_one (ps_try_mix (tb := fun W1 => (tRet (tMethS A.Disk "block" (sp_Disk_block K A) (WE W1) (tVar 0) (tCons (tVar 1) tNil)))) sc__law_read.nd (takes_of rfl rfl rfl rfl) rfl rfl (fun W1 pn xe tk1 hp1 => (pss_one (ps_ret (pe_m c_Disk_block T.c_Disk ⟨go.rm, go.gd⟩ tk1 (by decide) (pv 0) (pa_cons (pv 1) pa_nil))))) (MixOk.named (nm T.g_BadBlock) rfl rfl (fun a oe cls d pn hz hf => (pss_one (ps_ret (pe_tup (pa_cons pe_str (pa_cons (pe_xf T.xf_BadBlock T.xn_BadBlock_index hz hf (pv 2)) pa_nil)))))) (MixOk.named (nm T.g_PowerLost) rfl rfl (fun a oe cls d pn hz hf => (pss_one (ps_ret (pe_tup (pa_cons (pe_callB (call_isPc hz) (by rfl) T.b_isinstance (by decide +kernel) (pa_cons (pv 2) (pa_cons (pe_k T.k_DatabaseError) pa_nil))) (pa_cons (pe_callB (call_isEc T.ec_PowerLost hz hf) (by rfl) T.b_isinstance (by decide +kernel) (pa_cons (pv 2) (pa_cons (pe_k T.k_BadBlock) pa_nil))) pa_nil)))))) MixOk.nil))))
theorem ok__law_read {P : Program} {w : World} {K : PySem.W.Frag} {mg : Str → Option Value} {base : Heap} {A : Adr} (T : Txt K mg A) (c_Disk_block : MDef P w K mg base 3 A.Disk "block" (sp_Disk_block K A)) {f : Addr} {fd : FuncData} (F : Fun K "_law_read" "_law_read" s__law_read f fd) : FnG P w K mg base 4 f fd ["_law_disk", "_law_index"] (sp__law_read K A) :=
  okG F sc__law_read len__law_read fun cdv Ar outer s H vs Q E go h => ⟨_, d__law_read T c_Disk_block go, pure__law_read T.pure vs H Q E h⟩

abbrev s__law_seen : Stmt := (top 16)
theorem sc__law_seen : FnScope ["_law_blocks", "_law_queue", "_law_index", "_law_text_here", "_law_pair"] ["_law_blocks", "_law_queue", "_law_index"] (defScope s__law_seen) := ⟨rfl, rfl, rfl, by decide +kernel, rfl, by decide +kernel, by decide +kernel⟩
theorem d__law_seen {P : Program} {w : World} {K : PySem.W.Frag} {mg : Str → Option Value} {base : Heap} {A : Adr} (T : Txt K mg A) {f : Addr} {cdv : Value} {Ar : Around} {outer : List Env} {s : Shared} {H : Hp} {E : XK}
    (go : Go 0 (cxOf (L2.CX P w) P w K mg base ["_law_blocks", "_law_queue", "_law_index", "_law_text_here", "_law_pair"] "_law_seen" (defScope s__law_seen) f cdv Ar outer s H E)) :
    PSs (cxOf (L2.CX P w) P w K mg base ["_law_blocks", "_law_queue", "_law_index", "_law_text_here", "_law_pair"] "_law_seen" (defScope s__law_seen) f cdv Ar outer s H E) (defBody s__law_seen) (t__law_seen K A (fun cls d _ H => E cls d H)) :=
  (pss_cons (ps_set (i := 3) sc__law_seen.nd rfl (by first | exact Or.inl rfl | exact Or.inr rfl) (pe_ix ix_list (pv 0) (pv 2) (fun _ _ => rfl)))
  (pss_cons (ps_for (passes_of rfl) rfl (pi_list (pv 1)) (pg_name (i := 4) sc__law_seen.nd rfl (by first | exact Or.inl rfl | exact Or.inr rfl))
  (pss_one (ps_if (pt_cmpR op_eq (pe_ix ix_tup (pv 4) pe_int (fun _ _ => rfl)) (pv 2) (nomark _))
  (pss_one (ps_set (i := 3) sc__law_seen.nd rfl (by first | exact Or.inl rfl | exact Or.inr rfl) (pe_ix ix_tup (pv 4) pe_int (fun _ _ => rfl))))
  pss_nil)))
  (pss_one (ps_ret (pv 3)))))
theorem ok__law_seen {P : Program} {w : World} {K : PySem.W.Frag} {mg : Str → Option Value} {base : Heap} {A : Adr} (T : Txt K mg A) {f : Addr} {fd : FuncData} (F : Fun K "_law_seen" "_law_seen" s__law_seen f fd) : FnG P w K mg base 1 f fd ["_law_blocks", "_law_queue", "_law_index"] (sp__law_seen K A) :=
  okG F sc__law_seen len__law_seen fun cdv Ar outer s H vs Q E go h => ⟨_, d__law_seen T go, pure__law_seen T.pure vs H Q E h⟩

abbrev s__law_write_due : Stmt := (top 17)
theorem sc__law_write_due : FnScope ["_law_model", "_law_size", "_law_index", "_law_text_here"] ["_law_model", "_law_size", "_law_index", "_law_text_here"] (defScope s__law_write_due) := ⟨rfl, rfl, rfl, by decide +kernel, rfl, by decide +kernel, by decide +kernel⟩
theorem d__law_write_due {P : Program} {w : World} {K : PySem.W.Frag} {mg : Str → Option Value} {base : Heap} {A : Adr} (T : Txt K mg A) (c__law_is_good : GDef P w K mg base 1 "_law_is_good" (sp__law_is_good K A)) {f : Addr} {cdv : Value} {Ar : Around} {outer : List Env} {s : Shared} {H : Hp} {E : XK}
    (go : Go 1 (cxOf (L2.CX P w) P w K mg base ["_law_model", "_law_size", "_law_index", "_law_text_here"] "_law_write_due" (defScope s__law_write_due) f cdv Ar outer s H E)) :
    PSs (cxOf (L2.CX P w) P w K mg base ["_law_model", "_law_size", "_law_index", "_law_text_here"] "_law_write_due" (defScope s__law_write_due) f cdv Ar outer s H E) (defBody s__law_write_due) (t__law_write_due K A (fun cls d _ H => E cls d H)) :=
  (pss_cons (ps_if (pt_val (pe_ix ix_list (pv 0) pe_int (fun _ _ => rfl)))
  (pss_one (ps_ret pe_str))
  pss_nil)
  (pss_cons (ps_if (PW.pt (pw_or (pt_cmpR q_lt (pv 2) pe_int (nomark _)) (pw_or (pt_cmpR q_ge (pv 2) (pv 1) (nomark _)) (pw_or1 (pt_not (pt_val (pe_g c__law_is_good ⟨go.rm, go.gd⟩ (takes_of rfl rfl rfl rfl) (by decide) (pa_cons (pv 3) pa_nil))))))))
  (pss_one (ps_ret (pe_tup (pa_cons pe_str (pa_cons (pv 2) (pa_cons pe_bl pa_nil))))))
  pss_nil)
  (pss_cons (ps_if (pt_cmpR op_eq (pe_ix ix_list (pv 0) pe_int (fun _ _ => rfl)) pe_int (nomark _))
  (pss_cons (ps_asg pe_bl (pg_sub (pv 0) pe_int set_list))
  (pss_one (ps_ret pe_str)))
  pss_nil)
  (pss_cons (ps_if (pt_cmpR q_notN (pe_ix ix_list (pv 0) pe_int (fun _ _ => rfl)) pe_non (nomark _))
  (pss_one (ps_asg (pe_op q_sub (pe_ix ix_list (pv 0) pe_int (fun _ _ => rfl)) pe_int) (pg_sub (pv 0) pe_int set_list)))
  pss_nil)
  (pss_cons (ps_expr (pe_bm PySem.F.plainAttrs_list PySem.F.slot_list_append PySem.F.type_list_append mt_append (pe_ix ix_list (pv 0) pe_int (fun _ _ => rfl)) (pa_cons (pe_tup (pa_cons (pv 2) (pa_cons (pv 3) pa_nil))) pa_nil)))
  (pss_one (ps_ret pe_str)))))))
theorem ok__law_write_due {P : Program} {w : World} {K : PySem.W.Frag} {mg : Str → Option Value} {base : Heap} {A : Adr} (T : Txt K mg A) (c__law_is_good : GDef P w K mg base 1 "_law_is_good" (sp__law_is_good K A)) {f : Addr} {fd : FuncData} (F : Fun K "_law_write_due" "_law_write_due" s__law_write_due f fd) : FnG P w K mg base 2 f fd ["_law_model", "_law_size", "_law_index", "_law_text_here"] (sp__law_write_due K A) :=
  okG F sc__law_write_due len__law_write_due fun cdv Ar outer s H vs Q E go h => ⟨_, d__law_write_due T c__law_is_good go, pure__law_write_due T.pure vs H Q E h⟩

abbrev s__law_sync_due : Stmt := (top 18)
theorem sc__law_sync_due : FnScope ["_law_model", "_law_blocks", "_law_pair"] ["_law_model", "_law_blocks"] (defScope s__law_sync_due) := ⟨rfl, rfl, rfl, by decide +kernel, rfl, by decide +kernel, by decide +kernel⟩
theorem d__law_sync_due {P : Program} {w : World} {K : PySem.W.Frag} {mg : Str → Option Value} {base : Heap} {A : Adr} (T : Txt K mg A) {f : Addr} {cdv : Value} {Ar : Around} {outer : List Env} {s : Shared} {H : Hp} {E : XK}
    (go : Go 0 (cxOf (L2.CX P w) P w K mg base ["_law_model", "_law_blocks", "_law_pair"] "_law_sync_due" (defScope s__law_sync_due) f cdv Ar outer s H E)) :
    PSs (cxOf (L2.CX P w) P w K mg base ["_law_model", "_law_blocks", "_law_pair"] "_law_sync_due" (defScope s__law_sync_due) f cdv Ar outer s H E) (defBody s__law_sync_due) (t__law_sync_due K A (fun cls d _ H => E cls d H)) :=
  (pss_cons (ps_if (pt_cmpR op_eq (pe_ix ix_list (pv 0) pe_int (fun _ _ => rfl)) pe_int (nomark _))
  (pss_one (ps_asg pe_bl (pg_sub (pv 0) pe_int set_list)))
  pss_nil)
  (pss_cons (ps_if (pt_val (pe_ix ix_list (pv 0) pe_int (fun _ _ => rfl)))
  (pss_one (ps_ret pe_str))
  pss_nil)
  (pss_cons (ps_if (pt_cmpR q_notN (pe_ix ix_list (pv 0) pe_int (fun _ _ => rfl)) pe_non (nomark _))
  (pss_one (ps_asg (pe_op q_sub (pe_ix ix_list (pv 0) pe_int (fun _ _ => rfl)) pe_int) (pg_sub (pv 0) pe_int set_list)))
  pss_nil)
  (pss_cons (ps_for (passes_of rfl) rfl (pi_list (pe_ix ix_list (pv 0) pe_int (fun _ _ => rfl))) (pg_name (i := 2) sc__law_sync_due.nd rfl (by first | exact Or.inl rfl | exact Or.inr rfl))
  (pss_one (ps_asg (pe_ix ix_tup (pv 2) pe_int (fun _ _ => rfl)) (pg_sub (pv 1) (pe_ix ix_tup (pv 2) pe_int (fun _ _ => rfl)) set_list))))
  (pss_cons (ps_asg (pe_lst pa_nil) (pg_sub (pv 0) pe_int set_list))
  (pss_one (ps_ret pe_str)))))))
theorem ok__law_sync_due {P : Program} {w : World} {K : PySem.W.Frag} {mg : Str → Option Value} {base : Heap} {A : Adr} (T : Txt K mg A) {f : Addr} {fd : FuncData} (F : Fun K "_law_sync_due" "_law_sync_due" s__law_sync_due f fd) : FnG P w K mg base 1 f fd ["_law_model", "_law_blocks"] (sp__law_sync_due K A) :=
  okG F sc__law_sync_due len__law_sync_due fun cdv Ar outer s H vs Q E go h => ⟨_, d__law_sync_due T go, pure__law_sync_due T.pure vs H Q E h⟩

abbrev s__law_restart : Stmt := (top 19)
theorem sc__law_restart : FnScope ["_law_model", "_law_blocks", "_law_choice", "_law_pair"] ["_law_model", "_law_blocks", "_law_choice"] (defScope s__law_restart) := ⟨rfl, rfl, rfl, by decide +kernel, rfl, by decide +kernel, by decide +kernel⟩
theorem d__law_restart {P : Program} {w : World} {K : PySem.W.Frag} {mg : Str → Option Value} {base : Heap} {A : Adr} (T : Txt K mg A) {f : Addr} {cdv : Value} {Ar : Around} {outer : List Env} {s : Shared} {H : Hp} {E : XK}
    (go : Go 0 (cxOf (L2.CX P w) P w K mg base ["_law_model", "_law_blocks", "_law_choice", "_law_pair"] "_law_restart" (defScope s__law_restart) f cdv Ar outer s H E)) :
    PSs (cxOf (L2.CX P w) P w K mg base ["_law_model", "_law_blocks", "_law_choice", "_law_pair"] "_law_restart" (defScope s__law_restart) f cdv Ar outer s H E) (defBody s__law_restart) (t__law_restart K A (fun cls d _ H => E cls d H)) :=
  (pss_cons (ps_for (passes_of rfl) rfl (pi_list (pe_ix ix_list (pv 0) pe_int (fun _ _ => rfl))) (pg_name (i := 3) sc__law_restart.nd rfl (by first | exact Or.inl rfl | exact Or.inr rfl))
  (pss_cons (ps_if (pt_cmpR op_eq (pe_op q_mod (pv 2) pe_int) pe_int (nomark _))
  (pss_one (ps_asg (pe_ix ix_tup (pv 3) pe_int (fun _ _ => rfl)) (pg_sub (pv 1) (pe_ix ix_tup (pv 3) pe_int (fun _ _ => rfl)) set_list)))
  pss_nil)
  (pss_one (ps_set (i := 2) sc__law_restart.nd rfl (by first | exact Or.inl rfl | exact Or.inr rfl) (pe_op q_div (pv 2) pe_int)))))
  (pss_cons (ps_asg (pe_lst pa_nil) (pg_sub (pv 0) pe_int set_list))
  (pss_cons (ps_asg pe_non (pg_sub (pv 0) pe_int set_list))
  (pss_one (ps_asg pe_bl (pg_sub (pv 0) pe_int set_list))))))
theorem ok__law_restart {P : Program} {w : World} {K : PySem.W.Frag} {mg : Str → Option Value} {base : Heap} {A : Adr} (T : Txt K mg A) {f : Addr} {fd : FuncData} (F : Fun K "_law_restart" "_law_restart" s__law_restart f fd) : FnG P w K mg base 1 f fd ["_law_model", "_law_blocks", "_law_choice"] (sp__law_restart K A) :=
  okG F sc__law_restart len__law_restart fun cdv Ar outer s H vs Q E go h => ⟨_, d__law_restart T go, pure__law_restart T.pure vs H Q E h⟩

abbrev s_law : Stmt := (top 20)
theorem sc_law : FnScope ["_law_script", "_law_size", "_law_disk", "_law_blocks", "_law_model", "_law_cell_here", "_law_kind", "_law_index", "_law_text_here", "_law_number", "_law_due", "_law_choice", "_law_k"] ["_law_script"] (defScope s_law) := ⟨rfl, rfl, rfl, by decide +kernel, rfl, by decide +kernel, by decide +kernel⟩
theorem d_law {P : Program} {w : World} {K : PySem.W.Frag} {mg : Str → Option Value} {base : Heap} {A : Adr} (T : Txt K mg A) (c__law_cell : GDef P w K mg base 1 "_law_cell" (sp__law_cell K A)) (c_Disk_init : CDef P w K mg base 1 "Disk" A.Disk (sp_Disk_init K A)) (c__law_numbers : GDef P w K mg base 1 "_law_numbers" (sp__law_numbers K A)) (c__law_text : GDef P w K mg base 1 "_law_text" (sp__law_text K A)) (c__law_write_due : GDef P w K mg base 2 "_law_write_due" (sp__law_write_due K A)) (c__law_written : GDef P w K mg base 4 "_law_written" (sp__law_written K A)) (c__law_synced : GDef P w K mg base 3 "_law_synced" (sp__law_synced K A)) (c__law_sync_due : GDef P w K mg base 1 "_law_sync_due" (sp__law_sync_due K A)) (c__law_seen : GDef P w K mg base 1 "_law_seen" (sp__law_seen K A)) (c__law_read : GDef P w K mg base 4 "_law_read" (sp__law_read K A)) (c_Disk_fall_after : MDef P w K mg base 1 A.Disk "fall_after" (sp_Disk_fall_after K A)) (c_Disk_restart : MDef P w K mg base 1 A.Disk "restart" (sp_Disk_restart K A)) (c__law_restart : GDef P w K mg base 1 "_law_restart" (sp__law_restart K A)) (c_Disk_waiting : MDef P w K mg base 1 A.Disk "waiting" (sp_Disk_waiting K A)) (c_Disk_block : MDef P w K mg base 3 A.Disk "block" (sp_Disk_block K A)) {f : Addr} {cdv : Value} {Ar : Around} {outer : List Env} {s : Shared} {H : Hp} {E : XK}
    (go : Go 4 (cxOf (L2.CX P w) P w K mg base ["_law_script", "_law_size", "_law_disk", "_law_blocks", "_law_model", "_law_cell_here", "_law_kind", "_law_index", "_law_text_here", "_law_number", "_law_due", "_law_choice", "_law_k"] "law" (defScope s_law) f cdv Ar outer s H E)) :
    PSs (cxOf (L2.CX P w) P w K mg base ["_law_script", "_law_size", "_law_disk", "_law_blocks", "_law_model", "_law_cell_here", "_law_kind", "_law_index", "_law_text_here", "_law_number", "_law_due", "_law_choice", "_law_k"] "law" (defScope s_law) f cdv Ar outer s H E) (defBody s_law) (t_law K A (fun cls d _ H => E cls d H)) :=
  (pss_cons (ps_set (i := 1) sc_law.nd rfl (by first | exact Or.inl rfl | exact Or.inr rfl) (pe_op q_add pe_int (pe_op q_mod (pe_g c__law_cell ⟨go.rm, go.gd⟩ (takes_of rfl rfl rfl rfl) (by decide) (pa_cons (pv 0) (pa_cons pe_int pa_nil))) pe_int)))
  (pss_cons (ps_set (i := 2) sc_law.nd rfl (by first | exact Or.inl rfl | exact Or.inr rfl) (pe_c c_Disk_init ⟨go.rm, go.gd⟩ (takes_of rfl rfl rfl rfl) (by decide) (pa_cons (pv 1) pa_nil)))
  (pss_cons (ps_set (i := 3) sc_law.nd rfl (by first | exact Or.inl rfl | exact Or.inr rfl) (pe_op op_rep (pe_lst (pa_cons pe_str pa_nil)) (pv 1)))
  (pss_cons (ps_set (i := 4) sc_law.nd rfl (by first | exact Or.inl rfl | exact Or.inr rfl) (pe_lst (pa_cons (pe_lst pa_nil) (pa_cons pe_non (pa_cons pe_bl pa_nil)))))
  (pss_cons (ps_for (passes_of rfl) rfl (pi_list (pe_slice sl_list (pv 0) (po_some pe_int) (po_some pe_int))) (pg_name (i := 5) sc_law.nd rfl (by first | exact Or.inl rfl | exact Or.inr rfl))
  (pss_cons (ps_asg (pe_g c__law_numbers ⟨go.rm, go.gd⟩ (takes_of rfl rfl rfl rfl) (by decide) (pa_cons (pv 5) (pa_cons (pe_lst (pa_cons pe_int (pa_cons (pe_op q_add (pv 1) pe_int) (pa_cons pe_int (pa_cons (pe_op q_pow pe_int pe_int) pa_nil))))) pa_nil))) (pg_lst rfl (pgs_cons (pg_name (i := 6) sc_law.nd rfl (by first | exact Or.inl rfl | exact Or.inr rfl)) (pgs_cons (pg_name (i := 7) sc_law.nd rfl (by first | exact Or.inl rfl | exact Or.inr rfl)) (pgs_cons (pg_name (i := 8) sc_law.nd rfl (by first | exact Or.inl rfl | exact Or.inr rfl)) (pgs_cons (pg_name (i := 9) sc_law.nd rfl (by first | exact Or.inl rfl | exact Or.inr rfl)) pgs_nil))))))
  (pss_cons (ps_set (i := 7) sc_law.nd rfl (by first | exact Or.inl rfl | exact Or.inr rfl) (pe_op q_add (pe_op q_sub (pv 7) pe_int) (pe_callTy c_int (by rfl) T.b_int (by decide +kernel) (pa_cons (pe_and (pe_cmpR op_eq (pe_op q_mod (pv 9) pe_int) pe_int (nomark _)) (pe_one (pe_cmpR op_eq (pv 7) pe_int (nomark _)))) pa_nil))))
  (Evl.pss_cut (ps_if (pt_cmpR q_lt (pv 6) pe_int (nomark _))
  (pss_cons (ps_set (i := 10) sc_law.nd rfl (by first | exact Or.inl rfl | exact Or.inr rfl) (pe_g c__law_write_due ⟨go.rm, go.gd⟩ (takes_of rfl rfl rfl rfl) (by decide) (pa_cons (pv 4) (pa_cons (pv 1) (pa_cons (pv 7) (pa_cons (pe_g c__law_text ⟨go.rm, go.gd⟩ (takes_of rfl rfl rfl rfl) (by decide) (pa_cons (pv 8) (pa_cons (pv 9) pa_nil))) pa_nil))))))
  (pss_one (ps_if (pt_cmpR (op_neD go.u64) (pe_g c__law_written ⟨go.rm, go.gd⟩ (takes_of rfl rfl rfl rfl) (by decide) (pa_cons (pv 2) (pa_cons (pv 7) (pa_cons (pe_g c__law_text ⟨go.rm, go.gd⟩ (takes_of rfl rfl rfl rfl) (by decide) (pa_cons (pv 8) (pa_cons (pv 9) pa_nil))) pa_nil)))) (pv 10) (nomark _))
  (pss_one (ps_ret pe_bl))
  pss_nil)))
  (pss_one (ps_if (pt_cmpR op_eq (pv 6) pe_int (nomark _))
  (pss_one (ps_if (pt_cmpR op_ne (pe_g c__law_synced ⟨go.rm, go.gd⟩ (takes_of rfl rfl rfl rfl) (by decide) (pa_cons (pv 2) pa_nil)) (pe_g c__law_sync_due ⟨go.rm, go.gd⟩ (takes_of rfl rfl rfl rfl) (by decide) (pa_cons (pv 4) (pa_cons (pv 3) pa_nil))) (nomark _))
  (pss_one (ps_ret pe_bl))
  pss_nil))
  (pss_one (ps_if (pt_cmpR op_eq (pv 6) pe_int (nomark _))
  (pss_cons (ps_set (i := 10) sc_law.nd rfl (by first | exact Or.inl rfl | exact Or.inr rfl) (pe_tup (pa_cons pe_bl (pa_cons pe_bl pa_nil))))
  (pss_cons (ps_if (pt_not (pt_val (pe_ix ix_list (pv 4) pe_int (fun _ _ => rfl))))
  (pss_cons (ps_set (i := 10) sc_law.nd rfl (by first | exact Or.inl rfl | exact Or.inr rfl) (pe_tup (pa_cons pe_str (pa_cons (pv 7) pa_nil))))
  (pss_one (ps_if (PW.pt (pw_and (pt_cmpR q_le pe_int (pv 7) (nomark _)) (pw_and1 (pt_cmpR q_lt (pv 7) (pv 1) (nomark _)))))
  (pss_one (ps_set (i := 10) sc_law.nd rfl (by first | exact Or.inl rfl | exact Or.inr rfl) (pe_g c__law_seen ⟨go.rm, go.gd⟩ (takes_of rfl rfl rfl rfl) (by decide) (pa_cons (pv 3) (pa_cons (pe_ix ix_list (pv 4) pe_int (fun _ _ => rfl)) (pa_cons (pv 7) pa_nil))))))
  pss_nil)))
  pss_nil)
  (pss_one (ps_if (pt_cmpR (op_neD go.u64) (pe_g c__law_read ⟨go.rm, go.gd⟩ (takes_of rfl rfl rfl rfl) (by decide) (pa_cons (pv 2) (pa_cons (pv 7) pa_nil))) (pv 10) (nomark _))
  (pss_one (ps_ret pe_bl))
  pss_nil))))
  (pss_one (ps_if (pt_cmpR op_eq (pv 6) pe_int (nomark _))
  (pss_cons (ps_asg (pe_ix ix_list (pe_lst (pa_cons pe_non (pa_cons pe_int (pa_cons pe_int (pa_cons pe_int (pa_cons pe_int pa_nil)))))) (pe_op q_mod (pv 9) pe_int) (fun _ _ => rfl)) (pg_sub (pv 4) pe_int set_list))
  (pss_one (ps_expr (pe_m c_Disk_fall_after T.c_Disk ⟨go.rm, go.gd⟩ (takes_of rfl rfl rfl rfl) (by decide) (pv 2) (pa_cons (pe_ix ix_list (pv 4) pe_int (fun _ _ => rfl)) pa_nil)))))
  (pss_one (ps_if (pt_cmpR op_eq (pv 6) pe_int (nomark _))
  (pss_cons (ps_set (i := 11) sc_law.nd rfl (by first | exact Or.inl rfl | exact Or.inr rfl) (pe_op q_mul (pv 9) (pe_callTy c_int (by rfl) T.b_int (by decide +kernel) (pa_cons (pv 5) pa_nil))))
  (pss_cons (ps_set (i := 11) sc_law.nd rfl (by first | exact Or.inl rfl | exact Or.inr rfl) (pe_callB c_abs (by rfl) T.b_abs (by decide +kernel) (pa_cons (pv 11) pa_nil)))
  (pss_cons (ps_expr (pe_m c_Disk_restart T.c_Disk ⟨go.rm, go.gd⟩ (takes_of rfl rfl rfl rfl) (by decide) (pv 2) (pa_cons (pv 11) pa_nil)))
  (pss_one (ps_expr (pe_g c__law_restart ⟨go.rm, go.gd⟩ (takes_of rfl rfl rfl rfl) (by decide) (pa_cons (pv 4) (pa_cons (pv 3) (pa_cons (pv 11) pa_nil)))))))))
  pss_nil)))))))))
  (pss_one (ps_if (PW.pt (pw_or (pt_cmpR op_ne (pe_fld (pv 2) rfl) (pv 1) (nomark _)) (pw_or1 (pt_cmpR op_ne (pe_m0 c_Disk_waiting T.c_Disk ⟨go.rm, go.gd⟩ (takes_of rfl rfl rfl rfl) (by decide) (pv 2)) (pe_callB c_len (by rfl) T.b_len (by decide +kernel) (pa_cons (pe_ix ix_list (pv 4) pe_int (fun _ _ => rfl)) pa_nil)) (nomark _)))))
  (pss_one (ps_ret pe_bl))
  pss_nil))))))
  (pss_cons (ps_if (pt_not (pt_val (pe_ix ix_list (pv 4) pe_int (fun _ _ => rfl))))
  (pss_one (ps_ret (pe_cmpR (op_eqD go.u64) (pe_lc (own := [("_law_k", 12)]) (g := (gName 12)) (tt := tYes) rfl sc_law.nd (pi_range1 rfl T.b_range (pa_cons (pv 1) pa_nil)) (blkOk_by (own := [("_law_k", 12)]) (N := ["_law_script", "_law_size", "_law_disk", "_law_blocks", "_law_model", "_law_cell_here", "_law_kind", "_law_index", "_law_text_here", "_law_number", "_law_due", "_law_choice", "_law_k"]) (sc := defScope s_law) (by decide +kernel)) (fun _ _ _ _ _ => (pg_name (i := 12) sc_law.nd rfl (by first | exact Or.inl rfl | exact Or.inr rfl))) (fun _ _ _ _ _ => pts_nil) (fun _ _ _ _ _ => (pe_m c_Disk_block T.c_Disk ⟨go.rm, go.gd⟩ takes0 (by decide) (pv 2) (pa_cons (pv 12) pa_nil)))) (pe_lc (own := [("_law_k", 12)]) (g := (gName 12)) (tt := tYes) rfl sc_law.nd (pi_range1 rfl T.b_range (pa_cons (pv 1) pa_nil)) (blkOk_by (own := [("_law_k", 12)]) (N := ["_law_script", "_law_size", "_law_disk", "_law_blocks", "_law_model", "_law_cell_here", "_law_kind", "_law_index", "_law_text_here", "_law_number", "_law_due", "_law_choice", "_law_k"]) (sc := defScope s_law) (by decide +kernel)) (fun _ _ _ _ _ => (pg_name (i := 12) sc_law.nd rfl (by first | exact Or.inl rfl | exact Or.inr rfl))) (fun _ _ _ _ _ => pts_nil) (fun _ _ _ _ _ => (pe_g c__law_seen ⟨go.rm, go.gd⟩ takes0 (by decide) (pa_cons (pv 3) (pa_cons (pe_ix ix_list (pv 4) pe_int (fun _ _ => rfl)) (pa_cons (pv 12) pa_nil)))))) (nomark _))))
  pss_nil)
  (pss_cons (ps_expr (pe_m c_Disk_restart T.c_Disk ⟨go.rm, go.gd⟩ (takes_of rfl rfl rfl rfl) (by decide) (pv 2) (pa_cons pe_int pa_nil)))
  (pss_one (ps_ret (pe_cmpR (op_eqD go.u64) (pe_lc (own := [("_law_k", 12)]) (g := (gName 12)) (tt := tYes) rfl sc_law.nd (pi_range1 rfl T.b_range (pa_cons (pv 1) pa_nil)) (blkOk_by (own := [("_law_k", 12)]) (N := ["_law_script", "_law_size", "_law_disk", "_law_blocks", "_law_model", "_law_cell_here", "_law_kind", "_law_index", "_law_text_here", "_law_number", "_law_due", "_law_choice", "_law_k"]) (sc := defScope s_law) (by decide +kernel)) (fun _ _ _ _ _ => (pg_name (i := 12) sc_law.nd rfl (by first | exact Or.inl rfl | exact Or.inr rfl))) (fun _ _ _ _ _ => pts_nil) (fun _ _ _ _ _ => (pe_m c_Disk_block T.c_Disk ⟨go.rm, go.gd⟩ takes0 (by decide) (pv 2) (pa_cons (pv 12) pa_nil)))) (pv 3) (nomark _)))))))))))
theorem ok_law {P : Program} {w : World} {K : PySem.W.Frag} {mg : Str → Option Value} {base : Heap} {A : Adr} (T : Txt K mg A) (c__law_cell : GDef P w K mg base 1 "_law_cell" (sp__law_cell K A)) (c_Disk_init : CDef P w K mg base 1 "Disk" A.Disk (sp_Disk_init K A)) (c__law_numbers : GDef P w K mg base 1 "_law_numbers" (sp__law_numbers K A)) (c__law_text : GDef P w K mg base 1 "_law_text" (sp__law_text K A)) (c__law_write_due : GDef P w K mg base 2 "_law_write_due" (sp__law_write_due K A)) (c__law_written : GDef P w K mg base 4 "_law_written" (sp__law_written K A)) (c__law_synced : GDef P w K mg base 3 "_law_synced" (sp__law_synced K A)) (c__law_sync_due : GDef P w K mg base 1 "_law_sync_due" (sp__law_sync_due K A)) (c__law_seen : GDef P w K mg base 1 "_law_seen" (sp__law_seen K A)) (c__law_read : GDef P w K mg base 4 "_law_read" (sp__law_read K A)) (c_Disk_fall_after : MDef P w K mg base 1 A.Disk "fall_after" (sp_Disk_fall_after K A)) (c_Disk_restart : MDef P w K mg base 1 A.Disk "restart" (sp_Disk_restart K A)) (c__law_restart : GDef P w K mg base 1 "_law_restart" (sp__law_restart K A)) (c_Disk_waiting : MDef P w K mg base 1 A.Disk "waiting" (sp_Disk_waiting K A)) (c_Disk_block : MDef P w K mg base 3 A.Disk "block" (sp_Disk_block K A)) {f : Addr} {fd : FuncData} (F : Fun K "law" "law" s_law f fd) : FnG P w K mg base 5 f fd ["_law_script"] (sp_law K A) :=
  okG F sc_law len_law fun cdv Ar outer s H vs Q E go h => ⟨_, d_law T c__law_cell c_Disk_init c__law_numbers c__law_text c__law_write_due c__law_written c__law_synced c__law_sync_due c__law_seen c__law_read c_Disk_fall_after c_Disk_restart c__law_restart c_Disk_waiting c_Disk_block go, pure_law T.pure vs H Q E h⟩


end U

set_option Elab.async false
set_option linter.all false
set_option maxRecDepth 100000
set_option maxHeartbeats 4000000
namespace U
open PySem PySem.Spec PyProof.Rows L2 HandSPX
theorem kit_no {K : PySem.W.Frag} {D C : Addr} (h : PySem.W.subIn K (.ref D) (.ref C) = some false) (h0 : PySem.W.subIn K (.ref C) (.ref C) = some true) (hd : PySem.W.hasDictIn K C = true) (ht : PySem.W.typeIn K (.ref C) = some (.type "type")) :
    PySem.W.kitOne K (.ref D) (.ref C) = some false := by
  by_cases e : D = C
  · subst e
    rw [h] at h0
    cases h0
  · obtain ⟨cd, hc, _⟩ := PySem.W.any_some hd
    have e1 : (Value.ref D == Value.ref C) = false := by simpa using e
    have e2 : ((PySem.W.clsIn K C).isSome && PySem.W.typeIn K (.ref C) == some (.type "type")) = true := by rw [hc, ht] <;> rfl
    show (if (Value.ref D == Value.ref C) = true then some true else (if ((PySem.W.clsIn K C).isSome && PySem.W.typeIn K (.ref C) == some (.type "type")) = true then PySem.W.subIn K (.ref D) (.ref C) else none)) = some false
    rw [e1, if_neg Bool.false_ne_true, if_pos e2]
    exact h
abbrev sx_BadBlock : Stmt := (inClass (top 2) 0)
theorem scx_BadBlock : FnScope ["self", "index"] ["self", "index"] (defScope sx_BadBlock) := ⟨rfl, rfl, rfl, by decide +kernel, rfl, by decide +kernel, by decide +kernel⟩
theorem okx_BadBlock {P : Program} {w : World} {K : PySem.W.Frag} {mg : Str → Option Value} {base : Heap} {C : Addr} (O : OexC K C) (no : PySem.W.findIn K (.ref C) "index" = some none) {f : Addr} {fd : FuncData} (F : Fun K "__init__" "BadBlock.__init__" sx_BadBlock f fd) : FnOk P w K mg base CX0 1 f fd ["self", "index"] (spX1 K C "index") :=
  F.ok scx_BadBlock (fun vs H Q E h => by obtain ⟨a, v, rfl, _⟩ := h; rfl) fun cdv A outer s H vs Q E hr h => by
    obtain ⟨a, v, rfl, ha, k⟩ := h
    exact ⟨_, pss_one (ps_ost (pv 0) (pv 1)), _, rfl, _, rfl, a, C, rfl, O, no, .inl ⟨ha, fun dx hd hne => k dx hd hne⟩⟩
theorem all_mk {P : Program} {w : World} {K : PySem.W.Frag} {h : Heap} {mg : Str → Option Value} {fa : Addr} (X : K.In h) (G : h.Ns mainGlobals mg) (hfa : mg "law" = some (.ref fa)) {C0 C1 C2 C3 : Addr}
    {tk_MOST_CHARACTERS : Tok}
    {f0 : Addr} {od0 an0 : Option Addr} {sl0 : Array (Option Value)} {oc0 kV0 dc0 pm0 cd0 ct0 : Value}
    {nm0 q0 : Str} {N0 : Addr} {bs0 sub0 : List Value} {sn0 : List Str} {ab0 : Bool} {col0 : Option Bool} {dd0 : Option Addr} {ma0 mb0 mc0 md0 me0 : Option Value}
    {f1 : Addr} {od1 an1 : Option Addr} {sl1 : Array (Option Value)} {oc1 kV1 dc1 pm1 cd1 ct1 : Value}
    {f2 : Addr} {od2 an2 : Option Addr} {sl2 : Array (Option Value)} {oc2 kV2 dc2 pm2 cd2 ct2 : Value}
    {f3 : Addr} {od3 an3 : Option Addr} {sl3 : Array (Option Value)} {oc3 kV3 dc3 pm3 cd3 ct3 : Value}
    {f4 : Addr} {od4 an4 : Option Addr} {sl4 : Array (Option Value)} {oc4 kV4 dc4 pm4 cd4 ct4 : Value}
    {f5 : Addr} {od5 an5 : Option Addr} {sl5 : Array (Option Value)} {oc5 kV5 dc5 pm5 cd5 ct5 : Value}
    {f6 : Addr} {od6 an6 : Option Addr} {sl6 : Array (Option Value)} {oc6 kV6 dc6 pm6 cd6 ct6 : Value}
    {f7 : Addr} {od7 an7 : Option Addr} {sl7 : Array (Option Value)} {oc7 kV7 dc7 pm7 cd7 ct7 : Value}
    {f8 : Addr} {od8 an8 : Option Addr} {sl8 : Array (Option Value)} {oc8 kV8 dc8 pm8 cd8 ct8 : Value}
    {f9 : Addr} {od9 an9 : Option Addr} {sl9 : Array (Option Value)} {oc9 kV9 dc9 pm9 cd9 ct9 : Value}
    {f10 : Addr} {od10 an10 : Option Addr} {sl10 : Array (Option Value)} {oc10 kV10 dc10 pm10 cd10 ct10 : Value}
    {f11 : Addr} {od11 an11 : Option Addr} {sl11 : Array (Option Value)} {oc11 kV11 dc11 pm11 cd11 ct11 : Value}
    {f12 : Addr} {od12 an12 : Option Addr} {sl12 : Array (Option Value)} {oc12 kV12 dc12 pm12 cd12 ct12 : Value}
    {f13 : Addr} {od13 an13 : Option Addr} {sl13 : Array (Option Value)} {oc13 kV13 dc13 pm13 cd13 ct13 : Value}
    {f14 : Addr} {od14 an14 : Option Addr} {sl14 : Array (Option Value)} {oc14 kV14 dc14 pm14 cd14 ct14 : Value}
    {f15 : Addr} {od15 an15 : Option Addr} {sl15 : Array (Option Value)} {oc15 kV15 dc15 pm15 cd15 ct15 : Value}
    {f16 : Addr} {od16 an16 : Option Addr} {sl16 : Array (Option Value)} {oc16 kV16 dc16 pm16 cd16 ct16 : Value}
    {f17 : Addr} {od17 an17 : Option Addr} {sl17 : Array (Option Value)} {oc17 kV17 dc17 pm17 cd17 ct17 : Value}
    {f18 : Addr} {od18 an18 : Option Addr} {sl18 : Array (Option Value)} {oc18 kV18 dc18 pm18 cd18 ct18 : Value}
    {f19 : Addr} {od19 an19 : Option Addr} {sl19 : Array (Option Value)} {oc19 kV19 dc19 pm19 cd19 ct19 : Value}
    {f20 : Addr} {od20 an20 : Option Addr} {sl20 : Array (Option Value)} {oc20 kV20 dc20 pm20 cd20 ct20 : Value}
    {f21 : Addr} {od21 an21 : Option Addr} {sl21 : Array (Option Value)} {oc21 kV21 dc21 pm21 cd21 ct21 : Value}
    (aC_DatabaseError : PySem.W.nsIn K mainGlobals "DatabaseError" = some (some (.ref C0)))
    (aC_BadBlock : PySem.W.nsIn K mainGlobals "BadBlock" = some (some (.ref C1)))
    (aC_PowerLost : PySem.W.nsIn K mainGlobals "PowerLost" = some (some (.ref C2)))
    (aC_Disk : PySem.W.nsIn K mainGlobals "Disk" = some (some (.ref C3)))
    (pg_Disk : PySem.W.plainGet K C3 Str.empty = true)
    (hd_Disk : PySem.W.hasDictIn K C3 = true)
    (po_Disk : PySem.W.plainOver K C3 = true)
    (sa_Disk : PySem.W.findIn K (.ref C3) "__setattr__" = some (some (.builtin "object.__setattr__")))
    (z_n_Disk_size : PySem.W.findIn K (.ref C3) "size" = some none)
    (z_n_Disk_blocks : PySem.W.findIn K (.ref C3) "blocks" = some none)
    (z_n_Disk_queue : PySem.W.findIn K (.ref C3) "queue" = some none)
    (z_n_Disk_left : PySem.W.findIn K (.ref C3) "left" = some none)
    (z_n_Disk_down : PySem.W.findIn K (.ref C3) "down" = some none)
    (sub_BadBlock_BadBlock : PySem.W.subIn K (.ref C1) (.ref C1) = some true)
    (bP_BadBlock : PySem.W.subIn K (.ref C1) (.type "BaseException") = some true)
    (hd_BadBlock : PySem.W.hasDictIn K C1 = true)
    (tP_BadBlock : PySem.W.typeIn K (.ref C1) = some (.type "type"))
    (sub_PowerLost_BadBlock : PySem.W.subIn K (.ref C2) (.ref C1) = some false)
    (sub_PowerLost_PowerLost : PySem.W.subIn K (.ref C2) (.ref C2) = some true)
    (bP_PowerLost : PySem.W.subIn K (.ref C2) (.type "BaseException") = some true)
    (hd_PowerLost : PySem.W.hasDictIn K C2 = true)
    (tP_PowerLost : PySem.W.typeIn K (.ref C2) = some (.type "type"))
    (z_i_BadBlock_DatabaseError : PySem.W.isIn K (.ref C1) C0 = true)
    (z_i_PowerLost_DatabaseError : PySem.W.isIn K (.ref C2) C0 = true)
    (z_b_abs : PySem.W.nsIn K mainGlobals "abs" = some none)
    (z_b_all : PySem.W.nsIn K mainGlobals "all" = some none)
    (z_b_int : PySem.W.nsIn K mainGlobals "int" = some none)
    (z_b_isinstance : PySem.W.nsIn K mainGlobals "isinstance" = some none)
    (z_b_len : PySem.W.nsIn K mainGlobals "len" = some none)
    (z_b_ord : PySem.W.nsIn K mainGlobals "ord" = some none)
    (z_b_range : PySem.W.nsIn K mainGlobals "range" = some none)
    (z_b_str : PySem.W.nsIn K mainGlobals "str" = some none)
    (xP_PowerLost : PySem.W.excIn K C2 [.type "ValueError", .type "Exception", .type "BaseException", .type "object"] "ValueError.__new__" = true)
    (kC_PowerLost : PySem.W.keepIn K (.ref C2) = true)
    (ga_PowerLost : PySem.W.findIn K (.ref C2) "__getattribute__" = some (some (.builtin "BaseException.__getattribute__")))
    (gg_PowerLost : PySem.W.findIn K (.ref C2) "__getattr__" = some none)
    (ha_PowerLost : PySem.W.findIn K (.ref C2) "__class__" = some (some (.builtin "object.__class__")))
    (hn_x : PySem.W.specialIn K (.builtin "object.__class__") "__get__" = some (some (.builtin "getset_descriptor.__get__")))
    (ht_x : PySem.W.takesIn K (.builtin "object.__class__") = some true)
    (hm_PowerLost : PySem.W.mroIn K C2 (.type "object") = some true)
    (z_k_MOST_CHARACTERS : PySem.W.nsIn K mainGlobals "MOST_CHARACTERS" = some (some (.int 64 tk_MOST_CHARACTERS)))
    (ga_BadBlock : PySem.W.findIn K (.ref C1) "__getattribute__" = some (some (.builtin "BaseException.__getattribute__")))
    (gg_BadBlock : PySem.W.findIn K (.ref C1) "__getattr__" = some none)
    (z_xn_BadBlock_index : PySem.W.findIn K (.ref C1) "index" = some none)
    (a0 : PySem.W.findIn K (.ref C1) "__init__" = some (some (.ref f0)))
    (i0 : PySem.W.isFn K (.ref f0) = true)
    (l0 : K.lookup f0 = some ⟨oc0, od0, .func (PySem.W.fnOf "__init__" "BadBlock.__init__" (defArgs sx_BadBlock) (defBody sx_BadBlock) (defScope sx_BadBlock) .none kV0 dc0 pm0 an0 cd0 ct0), sl0⟩)
    (c0 : PySem.W.codeIn K cd0 "BadBlock.__init__" = true)
    (k0 : PySem.W.keepIn K (.ref f0) = true)
    (ti0 : PySem.W.typeIn K (.ref f0) = some (.type "function"))
    (xL_BadBlock : K.lookup C1 = some (excClassObj nm0 q0 C1 N0 bs0 [.ref C0, .type "ValueError", .type "Exception", .type "BaseException", .type "object"] true sn0 sub0 ab0 col0 dd0 ma0 mb0 mc0 md0 me0 "ValueError.__new__"))
    (sa_BadBlock : PySem.W.findIn K (.ref C1) "__setattr__" = some (some (.builtin "object.__setattr__")))
    (kC_BadBlock : PySem.W.keepIn K (.ref C1) = true)
    (a1 : PySem.W.nsIn K mainGlobals "is_block_text" = some (some (.ref f1)))
    (l1 : K.lookup f1 = some ⟨oc1, od1, .func (PySem.W.fnOf "is_block_text" "is_block_text" (defArgs s_is_block_text) (defBody s_is_block_text) (defScope s_is_block_text) .none kV1 dc1 pm1 an1 cd1 ct1), sl1⟩)
    (c1 : PySem.W.codeIn K cd1 "is_block_text" = true)
    (k1 : PySem.W.keepIn K (.ref f1) = true)
    (a2 : PySem.W.findIn K (.ref C3) "__init__" = some (some (.ref f2)))
    (i2 : PySem.W.isFn K (.ref f2) = true)
    (l2 : K.lookup f2 = some ⟨oc2, od2, .func (PySem.W.fnOf "__init__" "Disk.__init__" (defArgs s_Disk_init) (defBody s_Disk_init) (defScope s_Disk_init) .none kV2 dc2 pm2 an2 cd2 ct2), sl2⟩)
    (c2 : PySem.W.codeIn K cd2 "Disk.__init__" = true)
    (k2 : PySem.W.keepIn K (.ref f2) = true)
    (mk_Disk : PySem.W.makesIn K C3 = true)
    (kC_Disk : PySem.W.keepIn K (.ref C3) = true)
    (a3 : PySem.W.findIn K (.ref C3) "spend" = some (some (.ref f3)))
    (i3 : PySem.W.isFn K (.ref f3) = true)
    (l3 : K.lookup f3 = some ⟨oc3, od3, .func (PySem.W.fnOf "spend" "Disk.spend" (defArgs s_Disk_spend) (defBody s_Disk_spend) (defScope s_Disk_spend) .none kV3 dc3 pm3 an3 cd3 ct3), sl3⟩)
    (c3 : PySem.W.codeIn K cd3 "Disk.spend" = true)
    (k3 : PySem.W.keepIn K (.ref f3) = true)
    (a4 : PySem.W.findIn K (.ref C3) "block" = some (some (.ref f4)))
    (i4 : PySem.W.isFn K (.ref f4) = true)
    (l4 : K.lookup f4 = some ⟨oc4, od4, .func (PySem.W.fnOf "block" "Disk.block" (defArgs s_Disk_block) (defBody s_Disk_block) (defScope s_Disk_block) .none kV4 dc4 pm4 an4 cd4 ct4), sl4⟩)
    (c4 : PySem.W.codeIn K cd4 "Disk.block" = true)
    (k4 : PySem.W.keepIn K (.ref f4) = true)
    (a5 : PySem.W.findIn K (.ref C3) "write" = some (some (.ref f5)))
    (i5 : PySem.W.isFn K (.ref f5) = true)
    (l5 : K.lookup f5 = some ⟨oc5, od5, .func (PySem.W.fnOf "write" "Disk.write" (defArgs s_Disk_write) (defBody s_Disk_write) (defScope s_Disk_write) .none kV5 dc5 pm5 an5 cd5 ct5), sl5⟩)
    (c5 : PySem.W.codeIn K cd5 "Disk.write" = true)
    (k5 : PySem.W.keepIn K (.ref f5) = true)
    (a6 : PySem.W.findIn K (.ref C3) "sync" = some (some (.ref f6)))
    (i6 : PySem.W.isFn K (.ref f6) = true)
    (l6 : K.lookup f6 = some ⟨oc6, od6, .func (PySem.W.fnOf "sync" "Disk.sync" (defArgs s_Disk_sync) (defBody s_Disk_sync) (defScope s_Disk_sync) .none kV6 dc6 pm6 an6 cd6 ct6), sl6⟩)
    (c6 : PySem.W.codeIn K cd6 "Disk.sync" = true)
    (k6 : PySem.W.keepIn K (.ref f6) = true)
    (a7 : PySem.W.findIn K (.ref C3) "waiting" = some (some (.ref f7)))
    (i7 : PySem.W.isFn K (.ref f7) = true)
    (l7 : K.lookup f7 = some ⟨oc7, od7, .func (PySem.W.fnOf "waiting" "Disk.waiting" (defArgs s_Disk_waiting) (defBody s_Disk_waiting) (defScope s_Disk_waiting) .none kV7 dc7 pm7 an7 cd7 ct7), sl7⟩)
    (c7 : PySem.W.codeIn K cd7 "Disk.waiting" = true)
    (k7 : PySem.W.keepIn K (.ref f7) = true)
    (a8 : PySem.W.findIn K (.ref C3) "fall_after" = some (some (.ref f8)))
    (i8 : PySem.W.isFn K (.ref f8) = true)
    (l8 : K.lookup f8 = some ⟨oc8, od8, .func (PySem.W.fnOf "fall_after" "Disk.fall_after" (defArgs s_Disk_fall_after) (defBody s_Disk_fall_after) (defScope s_Disk_fall_after) .none kV8 dc8 pm8 an8 cd8 ct8), sl8⟩)
    (c8 : PySem.W.codeIn K cd8 "Disk.fall_after" = true)
    (k8 : PySem.W.keepIn K (.ref f8) = true)
    (a9 : PySem.W.findIn K (.ref C3) "restart" = some (some (.ref f9)))
    (i9 : PySem.W.isFn K (.ref f9) = true)
    (l9 : K.lookup f9 = some ⟨oc9, od9, .func (PySem.W.fnOf "restart" "Disk.restart" (defArgs s_Disk_restart) (defBody s_Disk_restart) (defScope s_Disk_restart) .none kV9 dc9 pm9 an9 cd9 ct9), sl9⟩)
    (c9 : PySem.W.codeIn K cd9 "Disk.restart" = true)
    (k9 : PySem.W.keepIn K (.ref f9) = true)
    (a10 : PySem.W.nsIn K mainGlobals "_law_cell" = some (some (.ref f10)))
    (l10 : K.lookup f10 = some ⟨oc10, od10, .func (PySem.W.fnOf "_law_cell" "_law_cell" (defArgs s__law_cell) (defBody s__law_cell) (defScope s__law_cell) .none kV10 dc10 pm10 an10 cd10 ct10), sl10⟩)
    (c10 : PySem.W.codeIn K cd10 "_law_cell" = true)
    (k10 : PySem.W.keepIn K (.ref f10) = true)
    (a11 : PySem.W.nsIn K mainGlobals "_law_numbers" = some (some (.ref f11)))
    (l11 : K.lookup f11 = some ⟨oc11, od11, .func (PySem.W.fnOf "_law_numbers" "_law_numbers" (defArgs s__law_numbers) (defBody s__law_numbers) (defScope s__law_numbers) .none kV11 dc11 pm11 an11 cd11 ct11), sl11⟩)
    (c11 : PySem.W.codeIn K cd11 "_law_numbers" = true)
    (k11 : PySem.W.keepIn K (.ref f11) = true)
    (a12 : PySem.W.nsIn K mainGlobals "_law_text" = some (some (.ref f12)))
    (l12 : K.lookup f12 = some ⟨oc12, od12, .func (PySem.W.fnOf "_law_text" "_law_text" (defArgs s__law_text) (defBody s__law_text) (defScope s__law_text) .none kV12 dc12 pm12 an12 cd12 ct12), sl12⟩)
    (c12 : PySem.W.codeIn K cd12 "_law_text" = true)
    (k12 : PySem.W.keepIn K (.ref f12) = true)
    (a13 : PySem.W.nsIn K mainGlobals "_law_is_good" = some (some (.ref f13)))
    (l13 : K.lookup f13 = some ⟨oc13, od13, .func (PySem.W.fnOf "_law_is_good" "_law_is_good" (defArgs s__law_is_good) (defBody s__law_is_good) (defScope s__law_is_good) .none kV13 dc13 pm13 an13 cd13 ct13), sl13⟩)
    (c13 : PySem.W.codeIn K cd13 "_law_is_good" = true)
    (k13 : PySem.W.keepIn K (.ref f13) = true)
    (a14 : PySem.W.nsIn K mainGlobals "_law_written" = some (some (.ref f14)))
    (l14 : K.lookup f14 = some ⟨oc14, od14, .func (PySem.W.fnOf "_law_written" "_law_written" (defArgs s__law_written) (defBody s__law_written) (defScope s__law_written) .none kV14 dc14 pm14 an14 cd14 ct14), sl14⟩)
    (c14 : PySem.W.codeIn K cd14 "_law_written" = true)
    (k14 : PySem.W.keepIn K (.ref f14) = true)
    (a15 : PySem.W.nsIn K mainGlobals "_law_synced" = some (some (.ref f15)))
    (l15 : K.lookup f15 = some ⟨oc15, od15, .func (PySem.W.fnOf "_law_synced" "_law_synced" (defArgs s__law_synced) (defBody s__law_synced) (defScope s__law_synced) .none kV15 dc15 pm15 an15 cd15 ct15), sl15⟩)
    (c15 : PySem.W.codeIn K cd15 "_law_synced" = true)
    (k15 : PySem.W.keepIn K (.ref f15) = true)
    (a16 : PySem.W.nsIn K mainGlobals "_law_read" = some (some (.ref f16)))
    (l16 : K.lookup f16 = some ⟨oc16, od16, .func (PySem.W.fnOf "_law_read" "_law_read" (defArgs s__law_read) (defBody s__law_read) (defScope s__law_read) .none kV16 dc16 pm16 an16 cd16 ct16), sl16⟩)
    (c16 : PySem.W.codeIn K cd16 "_law_read" = true)
    (k16 : PySem.W.keepIn K (.ref f16) = true)
    (a17 : PySem.W.nsIn K mainGlobals "_law_seen" = some (some (.ref f17)))
    (l17 : K.lookup f17 = some ⟨oc17, od17, .func (PySem.W.fnOf "_law_seen" "_law_seen" (defArgs s__law_seen) (defBody s__law_seen) (defScope s__law_seen) .none kV17 dc17 pm17 an17 cd17 ct17), sl17⟩)
    (c17 : PySem.W.codeIn K cd17 "_law_seen" = true)
    (k17 : PySem.W.keepIn K (.ref f17) = true)
    (a18 : PySem.W.nsIn K mainGlobals "_law_write_due" = some (some (.ref f18)))
    (l18 : K.lookup f18 = some ⟨oc18, od18, .func (PySem.W.fnOf "_law_write_due" "_law_write_due" (defArgs s__law_write_due) (defBody s__law_write_due) (defScope s__law_write_due) .none kV18 dc18 pm18 an18 cd18 ct18), sl18⟩)
    (c18 : PySem.W.codeIn K cd18 "_law_write_due" = true)
    (k18 : PySem.W.keepIn K (.ref f18) = true)
    (a19 : PySem.W.nsIn K mainGlobals "_law_sync_due" = some (some (.ref f19)))
    (l19 : K.lookup f19 = some ⟨oc19, od19, .func (PySem.W.fnOf "_law_sync_due" "_law_sync_due" (defArgs s__law_sync_due) (defBody s__law_sync_due) (defScope s__law_sync_due) .none kV19 dc19 pm19 an19 cd19 ct19), sl19⟩)
    (c19 : PySem.W.codeIn K cd19 "_law_sync_due" = true)
    (k19 : PySem.W.keepIn K (.ref f19) = true)
    (a20 : PySem.W.nsIn K mainGlobals "_law_restart" = some (some (.ref f20)))
    (l20 : K.lookup f20 = some ⟨oc20, od20, .func (PySem.W.fnOf "_law_restart" "_law_restart" (defArgs s__law_restart) (defBody s__law_restart) (defScope s__law_restart) .none kV20 dc20 pm20 an20 cd20 ct20), sl20⟩)
    (c20 : PySem.W.codeIn K cd20 "_law_restart" = true)
    (k20 : PySem.W.keepIn K (.ref f20) = true)
    (a21 : PySem.W.nsIn K mainGlobals "law" = some (some (.ref f21)))
    (l21 : K.lookup f21 = some ⟨oc21, od21, .func (PySem.W.fnOf "law" "law" (defArgs s_law) (defBody s_law) (defScope s_law) .none kV21 dc21 pm21 an21 cd21 ct21), sl21⟩)
    (c21 : PySem.W.codeIn K cd21 "law" = true)
    (k21 : PySem.W.keepIn K (.ref f21) = true) :
    ∃ (A : Adr) (fd : FuncData), (∀ (s : Shared) (u : Value), BindsTo s fd ⟨[u], []⟩ [("_law_script", u)]) ∧ ∀ base : Heap, K.In base → base.Ns mainGlobals mg → FnG P w K mg base 5 fa fd ["_law_script"] (sp_law K A) := by
  have e := hfa.symm.trans (PySem.W.mg_of X G a21)
  cases e
  obtain ⟨A, hA⟩ : ∃ A : Adr, A = ⟨C0, C1, C2, C3⟩ := ⟨_, rfl⟩
  have T : Txt K mg A := by
    subst hA
    exact ⟨⟨⟨pg_Disk, hd_Disk, po_Disk, sa_Disk⟩, z_n_Disk_size, z_n_Disk_blocks, z_n_Disk_queue, z_n_Disk_left, z_n_Disk_down, (PySem.W.exm_ref bP_BadBlock hd_BadBlock tP_BadBlock sub_BadBlock_BadBlock), (PySem.W.exm_ref bP_BadBlock hd_BadBlock tP_BadBlock sub_PowerLost_BadBlock), (PySem.W.exm_ref bP_PowerLost hd_PowerLost tP_PowerLost sub_PowerLost_PowerLost), z_i_BadBlock_DatabaseError, z_i_PowerLost_DatabaseError, (kit_no sub_PowerLost_BadBlock sub_BadBlock_BadBlock hd_BadBlock tP_BadBlock)⟩, (PySem.W.mg_none_of X G z_b_abs), (PySem.W.mg_none_of X G z_b_all), (PySem.W.mg_none_of X G z_b_int), (PySem.W.mg_none_of X G z_b_isinstance), (PySem.W.mg_none_of X G z_b_len), (PySem.W.mg_none_of X G z_b_ord), (PySem.W.mg_none_of X G z_b_range), (PySem.W.mg_none_of X G z_b_str), ⟨PySem.W.mg_of X G aC_PowerLost, xP_PowerLost, kC_PowerLost, bP_PowerLost, tP_PowerLost⟩, ⟨ga_PowerLost, gg_PowerLost, bP_PowerLost, hd_PowerLost, ha_PowerLost, hn_x, ht_x, hm_PowerLost⟩, (PySem.W.mg_of X G aC_BadBlock), (PySem.W.mg_of X G aC_PowerLost), ⟨_, PySem.W.mg_of X G aC_BadBlock, rfl⟩, ⟨_, PySem.W.mg_of X G aC_DatabaseError, rfl⟩, ⟨_, PySem.W.mg_of X G z_k_MOST_CHARACTERS, ⟨_, rfl⟩⟩, ⟨ga_BadBlock, gg_BadBlock, bP_BadBlock, hd_BadBlock⟩, z_xn_BadBlock_index⟩
  have F0 := fun_mk (st := sx_BadBlock) l0 c0 k0
  have b0 := F0.binds (ps := ["self", "index"]) fun _ _ _ _ _ _ us hl => match us, hl with | [_, _], _ => rfl
  have O0 : OexC K C1 := ⟨⟨_, _, _, _, _, _, _, _, _, _, _, _, _, _, _, xL_BadBlock, (by first | rfl | decide +kernel)⟩, sa_BadBlock, bP_BadBlock, tP_BadBlock, kC_BadBlock⟩
  have F1 := fun_mk (st := s_is_block_text) l1 c1 k1
  have b1 := F1.binds (ps := ["text"]) fun _ _ _ _ _ _ us hl => match us, hl with | [_], _ => rfl
  have F2 := fun_mk (st := s_Disk_init) l2 c2 k2
  have b2 := F2.binds (ps := ["self", "size"]) fun _ _ _ _ _ _ us hl => match us, hl with | [_, _], _ => rfl
  have F3 := fun_mk (st := s_Disk_spend) l3 c3 k3
  have b3 := F3.binds (ps := ["self"]) fun _ _ _ _ _ _ us hl => match us, hl with | [_], _ => rfl
  have F4 := fun_mk (st := s_Disk_block) l4 c4 k4
  have b4 := F4.binds (ps := ["self", "index"]) fun _ _ _ _ _ _ us hl => match us, hl with | [_, _], _ => rfl
  have F5 := fun_mk (st := s_Disk_write) l5 c5 k5
  have b5 := F5.binds (ps := ["self", "index", "text"]) fun _ _ _ _ _ _ us hl => match us, hl with | [_, _, _], _ => rfl
  have F6 := fun_mk (st := s_Disk_sync) l6 c6 k6
  have b6 := F6.binds (ps := ["self"]) fun _ _ _ _ _ _ us hl => match us, hl with | [_], _ => rfl
  have F7 := fun_mk (st := s_Disk_waiting) l7 c7 k7
  have b7 := F7.binds (ps := ["self"]) fun _ _ _ _ _ _ us hl => match us, hl with | [_], _ => rfl
  have F8 := fun_mk (st := s_Disk_fall_after) l8 c8 k8
  have b8 := F8.binds (ps := ["self", "n"]) fun _ _ _ _ _ _ us hl => match us, hl with | [_, _], _ => rfl
  have F9 := fun_mk (st := s_Disk_restart) l9 c9 k9
  have b9 := F9.binds (ps := ["self", "choice"]) fun _ _ _ _ _ _ us hl => match us, hl with | [_, _], _ => rfl
  have F10 := fun_mk (st := s__law_cell) l10 c10 k10
  have b10 := F10.binds (ps := ["_law_script", "_law_k"]) fun _ _ _ _ _ _ us hl => match us, hl with | [_, _], _ => rfl
  have F11 := fun_mk (st := s__law_numbers) l11 c11 k11
  have b11 := F11.binds (ps := ["_law_cell_here", "_law_bounds"]) fun _ _ _ _ _ _ us hl => match us, hl with | [_, _], _ => rfl
  have F12 := fun_mk (st := s__law_text) l12 c12 k12
  have b12 := F12.binds (ps := ["_law_kind", "_law_number"]) fun _ _ _ _ _ _ us hl => match us, hl with | [_, _], _ => rfl
  have F13 := fun_mk (st := s__law_is_good) l13 c13 k13
  have b13 := F13.binds (ps := ["_law_text_here"]) fun _ _ _ _ _ _ us hl => match us, hl with | [_], _ => rfl
  have F14 := fun_mk (st := s__law_written) l14 c14 k14
  have b14 := F14.binds (ps := ["_law_disk", "_law_index", "_law_text_here"]) fun _ _ _ _ _ _ us hl => match us, hl with | [_, _, _], _ => rfl
  have F15 := fun_mk (st := s__law_synced) l15 c15 k15
  have b15 := F15.binds (ps := ["_law_disk"]) fun _ _ _ _ _ _ us hl => match us, hl with | [_], _ => rfl
  have F16 := fun_mk (st := s__law_read) l16 c16 k16
  have b16 := F16.binds (ps := ["_law_disk", "_law_index"]) fun _ _ _ _ _ _ us hl => match us, hl with | [_, _], _ => rfl
  have F17 := fun_mk (st := s__law_seen) l17 c17 k17
  have b17 := F17.binds (ps := ["_law_blocks", "_law_queue", "_law_index"]) fun _ _ _ _ _ _ us hl => match us, hl with | [_, _, _], _ => rfl
  have F18 := fun_mk (st := s__law_write_due) l18 c18 k18
  have b18 := F18.binds (ps := ["_law_model", "_law_size", "_law_index", "_law_text_here"]) fun _ _ _ _ _ _ us hl => match us, hl with | [_, _, _, _], _ => rfl
  have F19 := fun_mk (st := s__law_sync_due) l19 c19 k19
  have b19 := F19.binds (ps := ["_law_model", "_law_blocks"]) fun _ _ _ _ _ _ us hl => match us, hl with | [_, _], _ => rfl
  have F20 := fun_mk (st := s__law_restart) l20 c20 k20
  have b20 := F20.binds (ps := ["_law_model", "_law_blocks", "_law_choice"]) fun _ _ _ _ _ _ us hl => match us, hl with | [_, _, _], _ => rfl
  have F21 := fun_mk (st := s_law) l21 c21 k21
  have b21 := F21.binds (ps := ["_law_script"]) fun _ _ _ _ _ _ us hl => match us, hl with | [_], _ => rfl
  refine ⟨A, PySem.W.fnOf "law" "law" (defArgs s_law) (defBody s_law) (defScope s_law) .none kV21 dc21 pm21 an21 cd21 ct21, fun s v => .of_eq rfl, fun base _ _ => ?_⟩
  subst hA
  let A : Adr := ⟨C0, C1, C2, C3⟩
  have x_BadBlock : ExcI P w K mg base "BadBlock" C1 (spX1 K C1 "index") := ⟨PySem.W.mg_of X G aC_BadBlock, O0, ⟨_, _, _, a0, ti0, b0, okx_BadBlock O0 z_xn_BadBlock_index F0⟩⟩
  have h1 := ok_is_block_text (P := P) (w := w) (base := base) T F1
  have d_1 : GDef P w K mg base 1 "is_block_text" (sp_is_block_text K A) := ⟨⟨_, _, _, PySem.W.mg_of X G a1, k1, b1, h1⟩⟩
  have h2 := ok_Disk_init (P := P) (w := w) (base := base) T F2
  have d_2 : CDef P w K mg base 1 "Disk" A.Disk (sp_Disk_init K A) := ⟨PySem.W.mg_of X G aC_Disk, ⟨_, _, _, ⟨mk_Disk, a2, i2, kC_Disk⟩, b2, h2⟩⟩
  have h3 := ok_Disk_spend (P := P) (w := w) (base := base) T F3
  have d_3 : MDef P w K mg base 1 A.Disk "spend" (sp_Disk_spend K A) := ⟨⟨_, _, _, ⟨a3, i3, k3⟩, b3, h3⟩⟩
  have h4 := ok_Disk_block (P := P) (w := w) (base := base) T x_BadBlock F4
  have d_4 : MDef P w K mg base 3 A.Disk "block" (sp_Disk_block K A) := ⟨⟨_, _, _, ⟨a4, i4, k4⟩, b4, h4⟩⟩
  have h5 := ok_Disk_write (P := P) (w := w) (base := base) T d_1 x_BadBlock d_3 F5
  have d_5 : MDef P w K mg base 3 A.Disk "write" (sp_Disk_write K A) := ⟨⟨_, _, _, ⟨a5, i5, k5⟩, b5, h5⟩⟩
  have h6 := ok_Disk_sync (P := P) (w := w) (base := base) T d_3 F6
  have d_6 : MDef P w K mg base 2 A.Disk "sync" (sp_Disk_sync K A) := ⟨⟨_, _, _, ⟨a6, i6, k6⟩, b6, h6⟩⟩
  have h7 := ok_Disk_waiting (P := P) (w := w) (base := base) T F7
  have d_7 : MDef P w K mg base 1 A.Disk "waiting" (sp_Disk_waiting K A) := ⟨⟨_, _, _, ⟨a7, i7, k7⟩, b7, h7⟩⟩
  have h8 := ok_Disk_fall_after (P := P) (w := w) (base := base) T F8
  have d_8 : MDef P w K mg base 1 A.Disk "fall_after" (sp_Disk_fall_after K A) := ⟨⟨_, _, _, ⟨a8, i8, k8⟩, b8, h8⟩⟩
  have h9 := ok_Disk_restart (P := P) (w := w) (base := base) T F9
  have d_9 : MDef P w K mg base 1 A.Disk "restart" (sp_Disk_restart K A) := ⟨⟨_, _, _, ⟨a9, i9, k9⟩, b9, h9⟩⟩
  have h10 := ok__law_cell (P := P) (w := w) (base := base) T F10
  have d_10 : GDef P w K mg base 1 "_law_cell" (sp__law_cell K A) := ⟨⟨_, _, _, PySem.W.mg_of X G a10, k10, b10, h10⟩⟩
  have h11 := ok__law_numbers (P := P) (w := w) (base := base) T F11
  have d_11 : GDef P w K mg base 1 "_law_numbers" (sp__law_numbers K A) := ⟨⟨_, _, _, PySem.W.mg_of X G a11, k11, b11, h11⟩⟩
  have h12 := ok__law_text (P := P) (w := w) (base := base) T F12
  have d_12 : GDef P w K mg base 1 "_law_text" (sp__law_text K A) := ⟨⟨_, _, _, PySem.W.mg_of X G a12, k12, b12, h12⟩⟩
  have h13 := ok__law_is_good (P := P) (w := w) (base := base) T F13
  have d_13 : GDef P w K mg base 1 "_law_is_good" (sp__law_is_good K A) := ⟨⟨_, _, _, PySem.W.mg_of X G a13, k13, b13, h13⟩⟩
  have h14 := ok__law_written (P := P) (w := w) (base := base) T d_5 F14
  have d_14 : GDef P w K mg base 4 "_law_written" (sp__law_written K A) := ⟨⟨_, _, _, PySem.W.mg_of X G a14, k14, b14, h14⟩⟩
  have h15 := ok__law_synced (P := P) (w := w) (base := base) T d_6 F15
  have d_15 : GDef P w K mg base 3 "_law_synced" (sp__law_synced K A) := ⟨⟨_, _, _, PySem.W.mg_of X G a15, k15, b15, h15⟩⟩
  have h16 := ok__law_read (P := P) (w := w) (base := base) T d_4 F16
  have d_16 : GDef P w K mg base 4 "_law_read" (sp__law_read K A) := ⟨⟨_, _, _, PySem.W.mg_of X G a16, k16, b16, h16⟩⟩
  have h17 := ok__law_seen (P := P) (w := w) (base := base) T F17
  have d_17 : GDef P w K mg base 1 "_law_seen" (sp__law_seen K A) := ⟨⟨_, _, _, PySem.W.mg_of X G a17, k17, b17, h17⟩⟩
  have h18 := ok__law_write_due (P := P) (w := w) (base := base) T d_13 F18
  have d_18 : GDef P w K mg base 2 "_law_write_due" (sp__law_write_due K A) := ⟨⟨_, _, _, PySem.W.mg_of X G a18, k18, b18, h18⟩⟩
  have h19 := ok__law_sync_due (P := P) (w := w) (base := base) T F19
  have d_19 : GDef P w K mg base 1 "_law_sync_due" (sp__law_sync_due K A) := ⟨⟨_, _, _, PySem.W.mg_of X G a19, k19, b19, h19⟩⟩
  have h20 := ok__law_restart (P := P) (w := w) (base := base) T F20
  have d_20 : GDef P w K mg base 1 "_law_restart" (sp__law_restart K A) := ⟨⟨_, _, _, PySem.W.mg_of X G a20, k20, b20, h20⟩⟩
  have h21 := ok_law (P := P) (w := w) (base := base) T d_10 d_2 d_11 d_12 d_18 d_14 d_15 d_19 d_17 d_16 d_8 d_9 d_20 d_7 d_4 F21
  have d_21 : GDef P w K mg base 5 "law" (sp_law K A) := ⟨⟨_, _, _, PySem.W.mg_of X G a21, k21, b21, h21⟩⟩
  exact h21
theorem all_fin {P : Program} {w : World} {K : PySem.W.Frag} {h : Heap} {mg : Str → Option Value} {fa : Addr} (KX : K.In h)
    (a : ∃ (A : Adr) (fd : FuncData), (∀ (s : Shared) (u : Value), BindsTo s fd ⟨[u], []⟩ [("_law_script", u)]) ∧ ∀ base : Heap, K.In base → base.Ns mainGlobals mg → FnG P w K mg base 5 fa fd ["_law_script"] (sp_law K A)) :
    ∃ (K : PySem.W.Frag) (fd : FuncData), K.In h ∧ (∀ (s : Shared) (u : Value), BindsTo s fd ⟨[u], []⟩ [("_law_script", u)]) ∧ ∀ base : Heap, K.In base → base.Ns mainGlobals mg → FnG P w K mg base 5 fa fd ["_law_script"] (fun vs H Q E => ∀ A, sp_law K A vs H Q E) := by
  obtain ⟨A, fd, hb, hF⟩ := a
  exact ⟨K, fd, KX, hb, fun base hk hn => (hF base hk hn).imp fun vs H Q E h => h A⟩
end U
open PySem PySem.W PyProof.Rows
set_option maxRecDepth 100000 in
set_option maxHeartbeats 0 in
theorem PySem.Challenge.cw_pastamended_k48_disks_holds : PySem.Challenge.rw_pastamended_k48_disks.Holds := by
  w_on; o_law; k_head; (case hw => w_witness2)
  k_fill
  refine U.walk_G (l := PySem.Challenge.rw_pastamended_k48_disks) (n := 63) (k := 5) (sp := fun w K vs H Q E => ∀ A, U.sp_law K A vs H Q E) (x := "_law_script") rfl (by decide) rfl ⟨rfl, by decide, by decide⟩ ?F ?S
  case S => exact fun w K H a ns hl hb hO hS A => ⟨a, ns, rfl, hS, hl, fun _ => rfl⟩
  case F =>
    intro w mg fa h Y G hmg
    have KX := PySem.W.kIn_of Y
    refine' U.all_fin KX (U.all_mk KX G hmg ?aC_DatabaseError ?aC_BadBlock ?aC_PowerLost ?aC_Disk ?pg_Disk ?hd_Disk ?po_Disk ?sa_Disk ?z_n_Disk_size ?z_n_Disk_blocks ?z_n_Disk_queue ?z_n_Disk_left ?z_n_Disk_down ?sub_BadBlock_BadBlock ?bP_BadBlock ?hd_BadBlock ?tP_BadBlock ?sub_PowerLost_BadBlock ?sub_PowerLost_PowerLost ?bP_PowerLost ?hd_PowerLost ?tP_PowerLost ?z_i_BadBlock_DatabaseError ?z_i_PowerLost_DatabaseError ?z_b_abs ?z_b_all ?z_b_int ?z_b_isinstance ?z_b_len ?z_b_ord ?z_b_range ?z_b_str ?xP_PowerLost ?kC_PowerLost ?ga_PowerLost ?gg_PowerLost ?ha_PowerLost ?hn_x ?ht_x ?hm_PowerLost ?z_k_MOST_CHARACTERS ?ga_BadBlock ?gg_BadBlock ?z_xn_BadBlock_index ?a0 ?i0 ?l0 ?c0 ?k0 ?ti0 ?xL_BadBlock ?sa_BadBlock ?kC_BadBlock ?a1 ?l1 ?c1 ?k1 ?a2 ?i2 ?l2 ?c2 ?k2 ?mk_Disk ?kC_Disk ?a3 ?i3 ?l3 ?c3 ?k3 ?a4 ?i4 ?l4 ?c4 ?k4 ?a5 ?i5 ?l5 ?c5 ?k5 ?a6 ?i6 ?l6 ?c6 ?k6 ?a7 ?i7 ?l7 ?c7 ?k7 ?a8 ?i8 ?l8 ?c8 ?k8 ?a9 ?i9 ?l9 ?c9 ?k9 ?a10 ?l10 ?c10 ?k10 ?a11 ?l11 ?c11 ?k11 ?a12 ?l12 ?c12 ?k12 ?a13 ?l13 ?c13 ?k13 ?a14 ?l14 ?c14 ?k14 ?a15 ?l15 ?c15 ?k15 ?a16 ?l16 ?c16 ?k16 ?a17 ?l17 ?c17 ?k17 ?a18 ?l18 ?c18 ?k18 ?a19 ?l19 ?c19 ?k19 ?a20 ?l20 ?c20 ?k20 ?a21 ?l21 ?c21 ?k21)
    (case aC_DatabaseError => k_is)
    (case aC_BadBlock => k_is)
    (case aC_PowerLost => k_is)
    (case aC_Disk => k_is)
    (case pg_Disk => k_is)
    (case hd_Disk => k_is)
    (case po_Disk => k_is)
    (case sa_Disk => k_is)
    (case z_n_Disk_size => k_is)
    (case z_n_Disk_blocks => k_is)
    (case z_n_Disk_queue => k_is)
    (case z_n_Disk_left => k_is)
    (case z_n_Disk_down => k_is)
    (case sub_BadBlock_BadBlock => k_is)
    (case bP_BadBlock => k_is)
    (case hd_BadBlock => k_is)
    (case tP_BadBlock => k_is)
    (case sub_PowerLost_BadBlock => k_is)
    (case sub_PowerLost_PowerLost => k_is)
    (case bP_PowerLost => k_is)
    (case hd_PowerLost => k_is)
    (case tP_PowerLost => k_is)
    (case z_i_BadBlock_DatabaseError => k_is)
    (case z_i_PowerLost_DatabaseError => k_is)
    (case z_b_abs => k_is)
    (case z_b_all => k_is)
    (case z_b_int => k_is)
    (case z_b_isinstance => k_is)
    (case z_b_len => k_is)
    (case z_b_ord => k_is)
    (case z_b_range => k_is)
    (case z_b_str => k_is)
    (case xP_PowerLost => k_exc)
    (case kC_PowerLost => k_is)
    (case ga_PowerLost => k_is)
    (case gg_PowerLost => k_is)
    (case ha_PowerLost => k_is)
    (case hn_x => k_is)
    (case ht_x => k_is)
    (case hm_PowerLost => k_is)
    (case z_k_MOST_CHARACTERS => k_is)
    (case ga_BadBlock => k_is)
    (case gg_BadBlock => k_is)
    (case z_xn_BadBlock_index => k_is)
    (case a0 => k_is)
    (case i0 => k_is)
    (case l0 => k_is)
    (case c0 => k_is)
    (case k0 => k_is)
    (case ti0 => k_is)
    (case xL_BadBlock => k_is)
    (case sa_BadBlock => k_is)
    (case kC_BadBlock => k_is)
    (case a1 => k_is)
    (case l1 => k_is)
    (case c1 => k_is)
    (case k1 => k_is)
    (case a2 => k_is)
    (case i2 => k_is)
    (case l2 => k_is)
    (case c2 => k_is)
    (case k2 => k_is)
    (case mk_Disk => k_is)
    (case kC_Disk => k_is)
    (case a3 => k_is)
    (case i3 => k_is)
    (case l3 => k_is)
    (case c3 => k_is)
    (case k3 => k_is)
    (case a4 => k_is)
    (case i4 => k_is)
    (case l4 => k_is)
    (case c4 => k_is)
    (case k4 => k_is)
    (case a5 => k_is)
    (case i5 => k_is)
    (case l5 => k_is)
    (case c5 => k_is)
    (case k5 => k_is)
    (case a6 => k_is)
    (case i6 => k_is)
    (case l6 => k_is)
    (case c6 => k_is)
    (case k6 => k_is)
    (case a7 => k_is)
    (case i7 => k_is)
    (case l7 => k_is)
    (case c7 => k_is)
    (case k7 => k_is)
    (case a8 => k_is)
    (case i8 => k_is)
    (case l8 => k_is)
    (case c8 => k_is)
    (case k8 => k_is)
    (case a9 => k_is)
    (case i9 => k_is)
    (case l9 => k_is)
    (case c9 => k_is)
    (case k9 => k_is)
    (case a10 => k_is)
    (case l10 => k_is)
    (case c10 => k_is)
    (case k10 => k_is)
    (case a11 => k_is)
    (case l11 => k_is)
    (case c11 => k_is)
    (case k11 => k_is)
    (case a12 => k_is)
    (case l12 => k_is)
    (case c12 => k_is)
    (case k12 => k_is)
    (case a13 => k_is)
    (case l13 => k_is)
    (case c13 => k_is)
    (case k13 => k_is)
    (case a14 => k_is)
    (case l14 => k_is)
    (case c14 => k_is)
    (case k14 => k_is)
    (case a15 => k_is)
    (case l15 => k_is)
    (case c15 => k_is)
    (case k15 => k_is)
    (case a16 => k_is)
    (case l16 => k_is)
    (case c16 => k_is)
    (case k16 => k_is)
    (case a17 => k_is)
    (case l17 => k_is)
    (case c17 => k_is)
    (case k17 => k_is)
    (case a18 => k_is)
    (case l18 => k_is)
    (case c18 => k_is)
    (case k18 => k_is)
    (case a19 => k_is)
    (case l19 => k_is)
    (case c19 => k_is)
    (case k19 => k_is)
    (case a20 => k_is)
    (case l20 => k_is)
    (case c20 => k_is)
    (case k20 => k_is)
    (case a21 => k_is)
    (case l21 => k_is)
    (case c21 => k_is)
    (case k21 => k_is)



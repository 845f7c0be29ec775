import PyProof.Rows.All
import Wide.All
import OpenK.AllK
import Wide.FinOn
import PyProof.EqAt
import PyProof.EqKinds
import PyProof.TupleCall
import PyProof.ReprRoads
import HandS.ForMost
import HandS.ForExc
import HandS.Flow
import HandS.ExcInit
import HandS.ExcField
import HandS.ExcIs
import HandS.TryMany
import HandS.RaiseMore
import HandS.StrMore
import HandS.EndBits
import HandS.Deep
import HandS.Evl
import HandS.Walk
import PySem.Challenge.RW_pastamended_k51_records_in_a_journal
set_option Elab.async false
set_option linter.all false
set_option maxRecDepth 100000
set_option maxHeartbeats 4000000
/-! Own rules over the hand layer: defs called while no repr is under way (the guards are known), so that repr of data can be told. -/
namespace U
open PySem PySem.Spec PyProof.Rows L2

/-! ### room and guards in one -/
structure Go (k : Nat) (X : Cx) : Prop where
  rm : Room k X.A
  gd : X.A.guards = some []
theorem Go.mono {j k : Nat} {X : Cx} (g : Go k X) (h : j ≤ k) : Go j X := ⟨g.rm.mono h, g.gd⟩
theorem Go.hu {k : Nat} {X : Cx} (g : Go k X) : X.A.units + 1 < cLine := hu_of g.rm
theorem Go.u64 {k : Nat} {X : Cx} (g : Go k X) : X.A.units + 64 < cLine := g.rm.units

/-- a def at f keeps its promise, called where no repr is under way -/
structure FnG (P : Program) (w : World) (K : PySem.W.Frag) (mg : Str → Option Value) (base : Heap) (k : Nat) (f : Addr) (fd : FuncData) (ps : List Str) (sp : Sp) : Prop where
  len : ∀ vs H Q E, sp vs H Q E → vs.length = ps.length
  run : ∀ (A : Around) (outer : List Env) (s : Shared) (H : Hp) (args : Args) (us : List Value) (vs : List V) (Q : VK) (E : XK), Room k A → A.guards = some [] →
    Env0 P w K mg base A outer s H → BindsTo s fd args (ps.zip us) → Vals vs us → sp vs H Q E → codeAny (model P w) A (.call (.ref f) args) (CR (L2.CX P w) outer P w H s Q E) s

section
variable {P : Program} {w : World} {K : PySem.W.Frag} {mg : Str → Option Value} {base : Heap} {k : Nat} {f : Addr} {fd : FuncData} {ps : List Str} {sp : Sp}
theorem FnG.imp {sp' : Sp} (F : FnG P w K mg base k f fd ps sp) (h : ∀ vs H Q E, sp' vs H Q E → sp vs H Q E) : FnG P w K mg base k f fd ps sp' :=
  ⟨fun vs H Q E q => F.len vs H Q E (h _ _ _ _ q), fun A outer s H args us vs Q E hr hg he hb hv hs => F.run A outer s H args us vs Q E hr hg he hb hv (h _ _ _ _ hs)⟩
/-- a def of the text by its body -/
theorem okG {x qual : Str} {st : Stmt} {N : List Str} (F : Fun K x qual st f fd) (S : FnScope N ps (defScope st)) (len : ∀ vs H Q E, sp vs H Q E → vs.length = ps.length)
    (hbody : ∀ (cdv : Value) (A : Around) (outer : List Env) (s : Shared) (H : Hp) (vs : List V) (Q : VK) (E : XK), Go k (cxOf (L2.CX P w) P w K mg base N qual (defScope st) f cdv A outer s H E) → sp vs H Q E →
      ∃ t, PSs (cxOf (L2.CX P w) P w K mg base N qual (defScope st) f cdv A outer s H E) (defBody st) t ∧ t { nx := fun _ H' => Q .non H', rt := Q } (start N vs) H) :
    FnG P w K mg base (k + 1) f fd ps sp := by
  obtain ⟨oc, od, kV, doc, pm, an, cdv, ct, osl, hfd, lk, hcd⟩ := F.ex
  subst hfd
  refine ⟨len, fun A outer s H args us vs Q E hr hg e0 hb r hsp => ?_⟩
  have kin : K.In s.heap := e0.mod.kin.keeps fun b o e => (e0.bs b o e).1
  have nolim : s.heap.NoLimit := e0.mod.nolimit.keeps fun b o e => (e0.bs b o e).1
  have kinds : ∀ y ∈ ps.zip us, (defScope st).names.lookup y.1 = some .local ∨ ((defScope st).names.lookup y.1 = some .cell ∧ ((cellsFrom (s.heap.objs.size + 1) (defScope st).names []).lookup y.1).isSome = true) := fun ⟨n, v⟩ hy => by
    rcases S.par n (List.of_mem_zip hy).1 with q | q
    · exact Or.inl q
    · exact Or.inr ⟨q, PySem.W.cellsFrom_some _ _ _ (Or.inl q)⟩
  refine codeAny_call_function hr.depth (kin _ _ lk) rfl S.co S.gen rfl (PySem.W.codeRec_of kin hcd) (hb _ _ _ _ ?_)
  refine wpAny_newFunctionEnv_cells S.kind kinds fun env he s1 x => ?_
  subst he
  refine ⟨nolim.keeps x.toInCall.keep, codeAny_func ?_⟩
  obtain ⟨t, ht, hq⟩ := hbody cdv A outer s H vs Q E ⟨hr.deeper _, hg⟩ hsp
  have I0 := inv_start (CX := L2.CX P w) (E := E) S hr.hd e0 (len _ _ _ _ hsp) r x
  refine wpAny_mono (ht.run [] s1 (start N vs) H _ I0 hq) (fun fl s' hs => ?_) fun e s' hs => hs
  cases fl with
  | ret u =>
    obtain ⟨v, σ', H', J, rv, q⟩ := hs
    exact ⟨v, H', J.os, J.bare, J.base, J.hok, rv, q⟩
  | next =>
    obtain ⟨σ', H', J, q⟩ := hs
    exact ⟨V.non, H', J.os, J.bare, J.base, J.hok, rfl, q⟩
  | brk =>
    obtain ⟨_, _, _, q⟩ := hs
    exact q.elim
  | cont =>
    obtain ⟨_, _, _, q⟩ := hs
    exact q.elim
end

/-! ### what a caller knows of a def, a method, a class -/
structure GDef (P : Program) (w : World) (K : PySem.W.Frag) (mg : Str → Option Value) (base : Heap) (k : Nat) (x : Str) (sp : Sp) : Prop where
  ex : ∃ (f : Addr) (fd : FuncData) (ps : List Str), mg x = some (.ref f) ∧ PySem.W.keepIn K (.ref f) = true ∧ Binds K fd ps [] ∧ FnG P w K mg base k f fd ps sp
structure MDef (P : Program) (w : World) (K : PySem.W.Frag) (mg : Str → Option Value) (base : Heap) (k : Nat) (C : Addr) (m : Str) (sp : Sp) : Prop where
  ex : ∃ (f : Addr) (fd : FuncData) (ps : List Str), Meth K C m f ∧ Binds K fd ps [] ∧ FnG P w K mg base k f fd ps sp
structure CDef (P : Program) (w : World) (K : PySem.W.Frag) (mg : Str → Option Value) (base : Heap) (k : Nat) (x : Str) (C : Addr) (sp : Sp) : Prop where
  gC : mg x = some (.ref C)
  ex : ∃ (f : Addr) (fd : FuncData) (ps : List Str), Mk K C f ∧ Binds K fd ps [] ∧ FnG P w K mg base k f fd ps sp

section
variable {X : Cx} {W : WX} {j k : Nat} {f C : Addr} {fd : FuncData} {ps : List Str} {sp : Sp} {x m : Str} {p pos apos : Pos} {e o : Expr} {es : List Expr} {ta : TE} {t : TA}
theorem run_g {pins : List (Addr × Obj)} {σ : L2.St} {H : Hp} {s : Shared} {Q : VK} {us : List Value} {vs : List V} (F : FnG X.prog X.w X.K X.mg X.base k f fd ps sp) (hb : Binds X.K fd ps []) (g : Go k X) (tk : Takes X W)
    (I : Inv X pins σ H s) (r : Vals vs us) (h : sp vs H Q (WE W σ)) : wpAny (model X.prog X.w) X.A (call (.ref f) us) (EP X pins σ Q) X.xe s := by
  have hl : us.length = ps.length := r.length.symm.trans (F.len _ _ _ _ h)
  have hbb := hb s us I.kIn (by rw [List.append_nil]; exact hl)
  rw [List.append_nil] at hbb
  refine wpAny_call (codeAny_mono (F.run X.A X.stack s H ⟨us, []⟩ us vs Q (WE W σ) g.rm g.gd I.env0 hbb r h) fun r s' hq => ?_)
  cases r with
  | error u => exact passAt tk σ pins H s u s' I hq
  | ok fl =>
    cases fl with
    | ret u => exact I.after hq
    | next => exact hq.elim
    | brk => exact hq.elim
    | cont => exact hq.elim

/-- f(e, ..) -/
theorem pe_g (c : GDef X.prog X.w X.K X.mg X.base k x sp) (g : Go j X) (tk : Takes X W) (hk : k ≤ j) (ha : PA X (e :: es) t) (hg : Gl X x := by rfl)
    (hdb : (x == ("__debug__" : Str)) = false := by decide) (he : starEach (e :: es) X.env = (false, eval e X.env) :: starEach es X.env := by rfl) (hpl : (backTo pos (starEach es X.env)).any (·.1) = false := by rfl) :
    PE X (.Call (.Name x p) (e :: es) [] pos) (tCallS sp (WE W) t) := by
  obtain ⟨f, fd, ps, hm, kp, hb, F⟩ := c.ex
  refine ⟨fun pins s σ H Q I h => wpAny_Call_Name_kw (ld_glob I hg hm ?_ hdb)⟩
  refine PySem.W.callWith_K (h₀ := X.base) I.ok.mod.kin kp (thn (ha.run pos pins s σ H _ I h) fun us s1 hh => ?_) he hpl
  obtain ⟨vs, H1, I1, r, q⟩ := hh
  exact ⟨I1.kIn, run_g F hb (g.mono hk) tk I1 r q⟩
/-- f() -/
theorem pe_g0 (c : GDef X.prog X.w X.K X.mg X.base k x sp) (g : Go j X) (tk : Takes X W) (hk : k ≤ j) (hg : Gl X x := by rfl) (hdb : (x == ("__debug__" : Str)) = false := by decide) :
    PE X (.Call (.Name x p) [] [] pos) (tCallS sp (WE W) tNil) := by
  obtain ⟨f, fd, ps, hm, kp, hb, F⟩ := c.ex
  refine ⟨fun pins s σ H Q I h => wpAny_Call_Name_kw (ld_glob I hg hm ?_ hdb)⟩
  exact PySem.W.callWith_K0 I.kIn kp (run_g (us := []) F hb (g.mono hk) tk I .nil h)
/-- o.m(e, ..), o an instance of the class at C -/
def tMethS (C : Addr) (m : Str) (sp : Sp) (E : L2.St → XK) (ta : TE) (t : TA) : TE := fun σ H Q => ta σ H fun x H1 => ∃ a dx fs, x = .ref a ∧ H1 a = some (.ins C dx fs) ∧ fs.lookup m = none ∧
  t σ H1 fun vs H2 => sp (x :: vs) H2 Q (E σ)
theorem pe_m {pl : Sem Bool} (c : MDef X.prog X.w X.K X.mg X.base k C m sp) (T : Cls X.K C) (g : Go j X) (tk : Takes X W) (hk : k ≤ j) (ho : PE X o ta) (ha : PA X (e :: es) t)
    (hst : starEach (e :: es) X.env = (false, eval e X.env) :: starEach es X.env := by rfl) (hpl : (backTo pos (starEach es X.env)).any (·.1) = false := by rfl)
    (ht : eval (.Call (.Attribute o m apos) (e :: es) [] pos) X.env = (do
      let ov ← eval o X.env
      standAt apos.atName
      let (f, first) ← holding [ov] (getMethod ov m pl)
      callWith pos f first (backTo pos (starEach (e :: es) X.env)) (backToKw pos (keywordEach [] X.env))) := by rfl) :
    PE X (.Call (.Attribute o m apos) (e :: es) [] pos) (tMethS C m sp (WE W) ta t) := by
  obtain ⟨f, fd, ps, hm, hb, F⟩ := c.ex
  refine ⟨fun pins s σ H Q I h => PySem.W.methodCall_KW (pl := pl) (thn (ho.run pins s σ H _ I h) fun u s1 hh => ?_) ht⟩
  obtain ⟨y, H1, I1, ry, a, dx, fs, ey, ea, l, q⟩ := hh
  subst ey
  cases (show u = Value.ref a from ry)
  refine getmeth_ok I1 ea T hm l (PySem.W.callWith_K (first := [.ref a]) (h₀ := X.base) I.ok.mod.kin hm.kp (thn (ha.run pos pins s1 σ H1 _ I1 q) fun us s2 hh2 => ?_) hst hpl)
  obtain ⟨vs, H2, I2, r, q2⟩ := hh2
  exact ⟨I2.kIn, run_g (us := .ref a :: us) (vs := .ref a :: vs) F hb (g.mono hk) tk I2 (.cons rfl r) q2⟩
/-- o.m() -/
theorem pe_m0 {pl : Sem Bool} (c : MDef X.prog X.w X.K X.mg X.base k C m sp) (T : Cls X.K C) (g : Go j X) (tk : Takes X W) (hk : k ≤ j) (ho : PE X o ta)
    (ht : eval (.Call (.Attribute o m apos) [] [] pos) X.env = (do
      let ov ← eval o X.env
      standAt apos.atName
      let (f, first) ← holding [ov] (getMethod ov m pl)
      callWith pos f first (backTo pos (starEach [] X.env)) (backToKw pos (keywordEach [] X.env))) := by rfl) :
    PE X (.Call (.Attribute o m apos) [] [] pos) (tMethS C m sp (WE W) ta tNil) := by
  obtain ⟨f, fd, ps, hm, hb, F⟩ := c.ex
  refine ⟨fun pins s σ H Q I h => PySem.W.methodCall_KW (pl := pl) (thn (ho.run pins s σ H _ I h) fun u s1 hh => ?_) ht⟩
  obtain ⟨y, H1, I1, ry, a, dx, fs, ey, ea, l, q⟩ := hh
  subst ey
  cases (show u = Value.ref a from ry)
  exact getmeth_ok I1 ea T hm l (PySem.W.callWith_K0 (first := [.ref a]) I1.kIn hm.kp (run_g (us := [.ref a]) (vs := [.ref a]) F hb (g.mono hk) tk I1 (.cons rfl .nil) q))
/-- C(e, ..) -/
def tMakeS (C : Addr) (sp : Sp) (E : L2.St → XK) (t : TA) : TE := fun σ H Q => t σ H fun vs H1 => ∀ x dx, H1 x = none → H1 dx = none → dx ≠ x →
  sp (.ref x :: vs) (upd (upd H1 dx (.own x)) x (.ins C dx [])) (fun v H2 => v = .non ∧ Q (.ref x) H2) (E σ)
theorem guards_make {A : Around} {C : Addr} {us : List Value} {kw : List (Str × Value)} (h : A.guards = some []) : (A.under (.builtin "type.__call__" ⟨.ref C :: us, kw⟩)).guards = some [] := by
  first
    | exact h
    | (simp [Around.under, pushGuards, Code.guards, Code.isGuard, guardIds]; simp [h])
theorem run_mk {pins : List (Addr × Obj)} {σ : L2.St} {H : Hp} {s : Shared} {Q : VK} {us : List Value} {vs : List V} (M : Mk X.K C f) (F : FnG X.prog X.w X.K X.mg X.base k f fd ps sp) (hb : Binds X.K fd ps []) (g : Go (k + 1) X) (tk : Takes X W)
    (I : Inv X pins σ H s) (r : Vals vs us)
    (h : ∀ x dx, H x = none → H dx = none → dx ≠ x → sp (.ref x :: vs) (upd (upd H dx (.own x)) x (.ins C dx [])) (fun v H2 => v = .non ∧ Q (.ref x) H2) (WE W σ)) :
    wpAny (model X.prog X.w) X.A (call (.ref C) us) (EP X pins σ Q) X.xe s := by
  have h1 := h (s.heap.objs.size + 1) s.heap.objs.size (I.hok.fresh (Nat.le_succ _)) (I.hok.fresh (Nat.le_refl _)) (Nat.ne_of_lt (Nat.lt_succ_self _))
  have J := Inv.made (C := C) I
  have r2 : Vals (V.ref (s.heap.objs.size + 1) :: vs) (Value.ref (s.heap.objs.size + 1) :: us) := .cons rfl r
  have hl : (Value.ref (s.heap.objs.size + 1) :: us).length = ps.length := r2.length.symm.trans (F.len _ _ _ _ h1)
  have hbb := hb _ (Value.ref (s.heap.objs.size + 1) :: us) J.kIn (by rw [List.append_nil]; exact hl)
  rw [List.append_nil] at hbb
  refine wpAny_call (make_map (f := f) I.kIn M.makes M.init (beq_iff_eq.mp M.fn) (codeAny_mono (F.run _ X.stack _ _ ⟨Value.ref (s.heap.objs.size + 1) :: us, []⟩ (Value.ref (s.heap.objs.size + 1) :: us) _ _ (WE W σ) (g.rm.make C us [])
    (guards_make g.gd) (J.env0.make C us []) hbb r2 h1) fun r s' hq => ?_))
  cases r with
  | error u => exact passAt tk σ pins _ _ u s' J hq
  | ok fl =>
    cases fl with
    | ret u =>
      obtain ⟨v, H', I3, rv, ev, q3⟩ := J.after hq
      subst ev
      exact ⟨rv, V.ref (s.heap.objs.size + 1), H', I3, rfl, q3⟩
    | next => exact hq.elim
    | brk => exact hq.elim
    | cont => exact hq.elim
theorem pe_c (c : CDef X.prog X.w X.K X.mg X.base k x C sp) (g : Go j X) (tk : Takes X W) (hk : k + 1 ≤ j) (ha : PA X (e :: es) t) (hg : Gl X x := by rfl)
    (hdb : (x == ("__debug__" : Str)) = false := by decide) (he : starEach (e :: es) X.env = (false, eval e X.env) :: starEach es X.env := by rfl) (hpl : (backTo pos (starEach es X.env)).any (·.1) = false := by rfl) :
    PE X (.Call (.Name x p) (e :: es) [] pos) (tMakeS C sp (WE W) t) := by
  obtain ⟨f, fd, ps, M, hb, F⟩ := c.ex
  refine ⟨fun pins s σ H Q I h => wpAny_Call_Name_kw (ld_glob I hg c.gC ?_ hdb)⟩
  refine PySem.W.callWith_K (h₀ := X.base) I.ok.mod.kin M.kp (thn (ha.run pos pins s σ H _ I h) fun us s1 hh => ?_) he hpl
  obtain ⟨vs, H1, I1, r, q⟩ := hh
  exact ⟨I1.kIn, run_mk M F hb (g.mono hk) tk I1 r q⟩
theorem pe_c0 (c : CDef X.prog X.w X.K X.mg X.base k x C sp) (g : Go j X) (tk : Takes X W) (hk : k + 1 ≤ j) (hg : Gl X x := by rfl) (hdb : (x == ("__debug__" : Str)) = false := by decide) :
    PE X (.Call (.Name x p) [] [] pos) (tMakeS C sp (WE W) tNil) := by
  obtain ⟨f, fd, ps, M, hb, F⟩ := c.ex
  refine ⟨fun pins s σ H Q I h => wpAny_Call_Name_kw (ld_glob I hg c.gC ?_ hdb)⟩
  exact PySem.W.callWith_K0 I.kIn M.kp (run_mk (us := []) M F hb (g.mono hk) tk I .nil h)
end
end U

set_option Elab.async false
set_option linter.all false
set_option maxRecDepth 100000
set_option maxHeartbeats 4000000
namespace U
open PySem PySem.Spec PyProof.Rows L2

/-! ### repr of data -/
def rRepr (K : PySem.W.Frag) : List V → Hp → VK → Prop := fun xs H Q => ∃ (v : V) (d : PyData), xs = [v] ∧ Dp K H v d ∧ d.showable = true ∧ d.hasDict = false ∧ d.depth ≤ 60 ∧ d.shown.length ≤ sizeLine ∧ Q (.str d.shown) H
theorem call_reprD {X : Cx} {k : Nat} (g : Go k X) : CallR X (.builtin "repr") (rRepr X.K) := by
  intro pins s σ H xs us Q I r h
  obtain ⟨v, d, rfl, hd, hs, hn, hdep, hz, q⟩ := h
  have hu := g.rm.un
  cases r with
  | cons ru rr =>
    cases rr
    rename_i u
    obtain ⟨as, R⟩ := Dp.reads I d v u hd ru
    have fin : ∀ h' t tk, (∀ b o, s.heap.get? b = some o → h'.get? b = some o) → EP X pins σ Q (.str d.shown t) { s with heap := h', toks := tk } := fun h' t tk kk =>
      ⟨.str d.shown, H, I.kept kk, ⟨t, rfl⟩, q⟩
    cases d with
    | none =>
      cases hd
      cases ru
      exact PySem.P.repr_of_none (fin s.heap _ _ fun _ _ z => z)
    | bool b =>
      cases hd
      cases ru
      exact PySem.P.repr_of_bool (fin s.heap _ _ fun _ _ z => z)
    | int i =>
      cases hd
      obtain ⟨t, rfl⟩ := ru
      exact PySem.P.repr_of_int (of_decide_eq_true hs) (fin s.heap _ _ fun _ _ z => z)
    | str x =>
      cases hd
      obtain ⟨t, rfl⟩ := ru
      exact PySem.P.repr_of_str (fin s.heap _ _ fun _ _ z => z) hz
    | list ds =>
      cases hd
      cases ru
      exact repr_of_reads' R hs (PyData.noDict_hsm hn) g.gd (by omega) (fun _ _ z => z) fin hz
    | tuple ds =>
      cases hd
      cases ru
      exact repr_of_reads' R hs (PyData.noDict_hsm hn) g.gd (by omega) (fun _ _ z => z) fin hz
    | dict kv => cases hd

/-! ### X(), X an own exception class without own __init__ -/
theorem pmk_own0 {X : Cx} {C : Addr} {bmB : List Value} {B newId initId : String} {x : Str} {p pos : Pos} (F : ExcBaseFacts B newId initId bmB) (q : PySem.W.excIn X.K C bmB newId = true) (gC : X.mg x = some (.ref C))
    (kC : PySem.W.keepIn X.K (.ref C) = true) (r : Raises X (.ref C)) (hg : Gl X x := by rfl) (hdb : (x == ("__debug__" : Str)) = false := by decide) :
    PMk X (.Call (.Name x p) [] [] pos) (fun _ H Q => Q (.ref C) none H) := by
  intro pins s σ H Q I h
  refine wpAny_Call_Name_kw (ld_glob I hg gC ?_ hdb)
  refine PySem.W.callWith_K0 I.kIn kC ?_
  show wpAny _ _ (call (.ref C) []) _ _ _
  obtain ⟨bm, N, nm, qn, bs, hdct, sn, sub, ab, col, dd, k0, k1, k2, k3, k5, mN, hC, hN, hni, T⟩ := exc_obj I.kIn q
  exact wpAny_call_exc_subT F T hC hN hni (fun h' e hm => mk_of I hm r h (I.hok.gone hm.new)) (Nat.zero_le _)

/-! ### isinstance(e, C) that is True, e the exception that the suite holds, its class and C own classes -/
def rIsP (K : PySem.W.Frag) (D C a : Addr) : List V → Hp → VK → Prop := fun xs H Q => xs = [.ref a, .ref C] ∧ PySem.W.isIn K (.ref D) C = true ∧ Q (.bl true) H
theorem call_isP {X : Cx} {a D C : Addr} {d : Option Addr} {oe : Obj} {pn : List (Addr × Obj)} (hz : Zc (.ref D) d oe) : CallR (X.suite a ((a, oe) :: pn)) (.builtin "isinstance") (rIsP X.K D C a) := by
  intro pins s σ H xs us Q I r h
  obtain ⟨rfl, e, q⟩ := h
  cases r with
  | cons rx rr =>
    cases rr with
    | cons rt rr =>
      cases rr
      cases rx
      cases rt
      obtain ⟨hget, _⟩ := I.pin (a, oe) (List.mem_append.mpr (.inl List.mem_cons_self))
      exact PySem.W.isi_call I.kIn (fun M A Q E s k q => wpAny_typeOf_ref (k _ _ hget) (by rw [hz.1]; exact q)) e (fun z => nomatch z) ⟨.bl true, H, I, rfl, q⟩

/-! ### several except clauses, with and without a name -/
structure Cl where
  c : Value
  i : Option Nat
  ts : Addr → Value → Option Addr → TS
/-- what stands behind a suite: the clause's name is gone -/
def goneD (D : Ends) : Option Nat → Ends
  | none => D
  | some i => { nx := fun σ H => D.nx (σ.set i none) H, rt := D.rt, bk := fun σ H => D.bk (σ.set i none) H, ct := fun σ H => D.ct (σ.set i none) H }
def heldS (σ : L2.St) (a : Addr) : Option Nat → L2.St
  | none => σ
  | some i => σ.set i (some (.ref a))
def wMix (K : PySem.W.Frag) (Wout : WX) (D : Ends) : List Cl → WX
  | [] => Wout
  | c :: r => fun cls d σ H => ∃ b, PySem.W.exmOne K cls c.c = some b ∧ (b = true → ∀ a, H a = none → c.ts a cls d (goneD D c.i) (heldS σ a c.i) H) ∧ (b = false → wMix K Wout D r cls d σ H)
inductive MixOk (X : Cx) : List ExceptHandler → List Cl → Prop
  | nil : MixOk X [] []
  | bare {x : Str} {c : Value} {ts : Addr → Value → Option Addr → TS} {b₀ : Stmt} {suite : List Stmt} {np pos' : Pos} {hds : List ExceptHandler} {l : List Cl} (hc : Names X x c)
      (hsu : ∀ (a : Addr) (oe : Obj) (cls : Value) (d : Option Addr) (pn : List (Addr × Obj)), Zc cls d oe → (∃ vs, oe.data = .fields vs) → PSs (X.suite a ((a, oe) :: pn)) (b₀ :: suite) (ts a cls d)) (r : MixOk X hds l) :
      MixOk X (.ExceptHandler (some (.Name x np)) none (b₀ :: suite) pos' :: hds) (⟨c, none, ts⟩ :: l)
  | named {x n : Str} {i : Nat} {c : Value} {ts : Addr → Value → Option Addr → TS} {b₀ : Stmt} {suite : List Stmt} {np pos' : Pos} {hds : List ExceptHandler} {l : List Cl} (hc : Names X x c) (hi : X.N[i]? = some n) (hln : X.env.kindOf n = some .local)
      (hsu : ∀ (a : Addr) (oe : Obj) (cls : Value) (d : Option Addr) (pn : List (Addr × Obj)), Zc cls d oe → (∃ vs, oe.data = .fields vs) → PSs (X.suite a ((a, oe) :: pn)) (b₀ :: suite) (ts a cls d)) (r : MixOk X hds l) :
      MixOk X (.ExceptHandler (some (.Name x np)) (some n) (b₀ :: suite) pos' :: hds) (⟨c, some i, ts⟩ :: l)
section
variable {X : Cx} {body : List Stmt} {h₀ : ExceptHandler} {hds : List ExceptHandler} {l : List Cl} {pos : Pos} {tb : WX → TS} {Wout : WX}
def tMix (K : PySem.W.Frag) (Wout : WX) (l : List Cl) (tb : WX → TS) : TS := fun D σ H => tb (wMix K Wout D l) D σ H
theorem ps_try_mix (hN : X.N.Nodup) (tk : Takes X Wout) (hs : X.stack = X.env :: X.outer) (hf : X.env.frame = some X.env.locals)
    (hb : ∀ (W : WX) (pn : List (Addr × Obj)) (xe : Value → Shared → Prop), Takes (X.tr pn xe) W → PassesOwn (model X.prog X.w) X.A X.env xe → PSs (X.tr pn xe) body (tb W))
    (hh : MixOk X (h₀ :: hds) l) : PS X (.Try body (h₀ :: hds) [] [] pos) (tMix X.K Wout l tb) := by
  refine ⟨fun pins s σ H D I h => ?_⟩
  have ok := I.ok
  have hfr : X.A.frames = some (X.env :: X.outer) := ok.frames.trans (by rw [hs])
  refine wpAny_Try_except ?_
  refine wpAny_mono ((hb (wMix X.K Wout D l) (X.pn ++ pins) (fun e s₁ => wpAny (model X.prog X.w) X.A (noteFrame e X.env) (fun _ s₂ => wpAny (model X.prog X.w) X.A (setFlight e none) (fun _ s₃ =>
    wpAny (model X.prog X.w) X.A (handleBy e X.env (h₀ :: hds)) (SP X pins D) X.xe s₃) X.xe s₂) X.xe s₁) (fun u s' xx => ?_) PassesOwn.looking).run [] s σ H D (I.toTry _) h) (fun f s1 hsp => ?_) (fun e s1 he => he)
  · obtain ⟨a, B, sI, pins', σ', H', cls, d, rfl, J', nb, up, sky, na, os, ag, w⟩ := xx
    have J : Inv X pins σ' H' sI := J'.ofTry ok
    have sky' : Sky B (X.env :: X.outer) a (Zc cls d) X.env.locals s'.heap := by rw [← hs]; exact sky
    show wpAny (model X.prog X.w) X.A (noteFrame (.ref a) X.env) _ _ _
    refine Sky.land Zc.steady hfr hf sky' fun h3 fl3 up3 => ?_
    have J3 : Inv X pins σ' H' { s' with heap := h3 } := J.landed nb fl3.1 (up.trans up3) os ag
    obtain ⟨oe3, vs3, he3, hz3, hd3⟩ := fl3.there
    have nfr : a ∉ frs (X.env :: X.outer) := fun hm => by
      obtain ⟨_, o', e', hnf⟩ := fl3.2.2.1.mem hm
      rw [he3] at e'
      cases e'
      exact hnf _ hd3
    have nL : a ≠ X.env.locals := fun z => nfr (List.mem_filterMap.mpr ⟨X.env, List.mem_cons_self, by rw [hf, z]⟩)
    have nF : a ∉ X.fs := fun hm => by
      obtain ⟨e, he, q⟩ := List.mem_filterMap.mp hm
      exact nfr (List.mem_filterMap.mpr ⟨e, List.mem_cons_of_mem _ he, q⟩)
    have S3 := J3.suite he3 hd3 na nL nF
    have LT : PySem.W.Looks (model X.prog X.w) h3 (typeOf (.ref a)) cls := fun A Q E s k q => wpAny_typeOf_ref (k _ _ he3) (by rw [hz3.1]; exact q)
    have test : ∀ {x : Str} {c : Value} {np : Pos} {Q : Value → Shared → Prop} {E : Value → Shared → Prop}, Names X x c → Q c { s' with heap := h3 } →
        wpAny (model X.prog X.w) (X.A.mark (some (.ref a))) (eval (.Name x np) X.env) Q E { s' with heap := h3 } := fun {x c np Q E} hc q => by
      obtain ⟨hg, hdbg, hm | ⟨hm, hv, hnn⟩⟩ := hc
      · exact ld_glob (X := X.suite a ((a, oe3) :: (X.pn ++ pins))) S3 hg hm q hdbg
      · exact ld_blt (X := X.suite a ((a, oe3) :: (X.pn ++ pins))) S3 hg hm hv q hnn hdbg
    have go : ∀ {hds' : List ExceptHandler} {l' : List Cl}, MixOk X hds' l' → wMix X.K Wout D l' cls d σ' H' →
        wpAny (model X.prog X.w) X.A (handleBy (.ref a) X.env hds') (SP X pins D) X.xe { s' with heap := h3 } := by
      intro hds' l' hk
      induction hk with
      | nil =>
        intro w
        refine wpAny_handleBy_nil ?_
        obtain ⟨k1, k2, k3, oe, vs, T, oT, ts', he, hz, hd, h1, hr⟩ := id fl3
        unfold PySem.passOn
        refine wpAny_bind (wpAny_field he hd h1 ?_)
        rw [if_neg (show ¬ ((Value.ref T == Value.none) = true) from by simp)]
        have fin : wpAny (model X.prog X.w) X.A (setFlight (.ref a) X.env.frame) (fun _ s4 => wpAny (model X.prog X.w) X.A (throw (.ref a) : Sem Flow) (SP X pins D) X.xe s4) X.xe { s' with heap := h3 } := by
          rw [hf]
          refine HandSPX.setFlight_upZ fl3 fun h4 hh4 up4 => wpAny_throw (tk _ _ ?_)
          exact ⟨a, B, sI, pins, σ', H', cls, d, rfl, J, nb, (up.trans up3).trans up4, .inr (.inr (by rw [hs]; exact hh4)), na, os, ag, w⟩
        first
          | exact wpAny_bind (wpAny_pure (wpAny_bind fin))
          | exact wpAny_bind fin
      | @bare x c ts b₀ suite np pos' hds2 l2 hc hsu r ih =>
        intro w
        obtain ⟨b, hb1, hyes, hno⟩ := w
        refine wpAny_handleBy_cons (codeAny_handlers_test ?_) (by intro q; cases q)
        have LM := PySem.W.exm_one (M := model X.prog X.w) (J3.kIn) LT hb1
        refine test hc (LM.here ?_)
        cases b with
        | true =>
          refine codeAny_handlers_suite (HandSPX.lands_againZ fl3 fun h4 fl4 up4 => ?_)
          have J4 : Inv X pins σ' H' { s' with heap := h4 } := J.landed nb fl4.1 ((up.trans up3).trans up4) os ag
          obtain ⟨oe4, vs4, he4, hz4, hd4⟩ := fl4.there
          refine wpAny_mono ((hsu a oe4 cls d (X.pn ++ pins) hz4 ⟨_, hd4⟩).run [] _ _ H' _ (J4.suite he4 hd4 na nL nF) (hyes rfl a na)) (fun f s6 hsp => ?_) (fun _ _ z => False.elim z)
          cases f with
          | ret u =>
            obtain ⟨v6, σ6, H6, S6, r6, q6⟩ := hsp
            exact ⟨_, _, _, S6.unsuite ok, r6, q6⟩
          | next =>
            obtain ⟨σ6, H6, S6, q6⟩ := hsp
            exact ⟨_, _, S6.unsuite ok, q6⟩
          | brk =>
            obtain ⟨σ6, H6, S6, q6⟩ := hsp
            exact ⟨_, _, S6.unsuite ok, q6⟩
          | cont =>
            obtain ⟨σ6, H6, S6, q6⟩ := hsp
            exact ⟨_, _, S6.unsuite ok, q6⟩
        | false =>
          show wpAny _ X.A (handleBy (.ref a) X.env hds2) _ _ _
          exact ih (hno rfl)
      | @named x n i c ts b₀ suite np pos' hds2 l2 hc hi hln hsu r ih =>
        intro w
        obtain ⟨b, hb1, hyes, hno⟩ := w
        refine wpAny_handleBy_cons (codeAny_handlers_test ?_) (by intro q; cases q)
        have LM := PySem.W.exm_one (M := model X.prog X.w) (J3.kIn) LT hb1
        refine test hc (LM.here ?_)
        cases b with
        | true =>
          refine codeAny_handlers_suite_as (HandSPX.lands_againZ fl3 fun h4 fl4 up4 => ?_)
          have J4 : Inv X pins σ' H' { s' with heap := h4 } := J.landed nb fl4.1 ((up.trans up3).trans up4) os ag
          obtain ⟨oe4, vs4, he4, hz4, hd4⟩ := fl4.there
          refine store_ok (X := X.suite a ((a, oe4) :: (X.pn ++ pins))) (v := .ref a) (J4.suite he4 hd4 na nL nF) hN hi (.inl hln) rfl (fun s5 S5 => ?_) (.inr hln)
          refine wpAny_mono ((hsu a oe4 cls d (X.pn ++ pins) hz4 ⟨_, hd4⟩).run [] s5 _ H' _ S5 (hyes rfl a na)) (fun f s6 hsp => ?_) (fun _ _ z => False.elim z)
          have fin : ∀ {σ6 : L2.St} {H6 : Hp} {Q : Shared → Prop}, Inv (X.suite a ((a, oe4) :: (X.pn ++ pins))) [] σ6 H6 s6 → (∀ s7, Inv X pins (σ6.set i none) H6 s7 → Q s7) →
              wpAny (model X.prog X.w) X.A (do bindName X.env n .none; unbindBehindTheSuite X.env n pos') (fun _ s7 => Q s7) X.xe s6 := fun {σ6 H6 Q} S6 hq => gone_ok (S6.unsuite ok) hN hi hln hq
          cases f with
          | ret u =>
            obtain ⟨v6, σ6, H6, S6, r6, q6⟩ := hsp
            exact fin S6 fun s7 J7 => ⟨_, _, _, J7, r6, q6⟩
          | next =>
            obtain ⟨σ6, H6, S6, q6⟩ := hsp
            exact fin S6 fun s7 J7 => ⟨_, _, J7, q6⟩
          | brk =>
            obtain ⟨σ6, H6, S6, q6⟩ := hsp
            exact fin S6 fun s7 J7 => ⟨_, _, J7, q6⟩
          | cont =>
            obtain ⟨σ6, H6, S6, q6⟩ := hsp
            exact fin S6 fun s7 J7 => ⟨_, _, J7, q6⟩
        | false =>
          show wpAny _ X.A (handleBy (.ref a) X.env hds2) _ _ _
          exact ih (hno rfl)
    exact go hh w
  · cases f with
    | ret u =>
      obtain ⟨v, σ', H', J', r, q⟩ := hsp
      exact ⟨v, σ', H', J'.ofTry ok, r, q⟩
    | next =>
      obtain ⟨σ', H', J', q⟩ := hsp
      exact wpAny_execs_nil ⟨σ', H', J'.ofTry ok, q⟩
    | brk =>
      obtain ⟨σ', H', J', q⟩ := hsp
      exact ⟨σ', H', J'.ofTry ok, q⟩
    | cont =>
      obtain ⟨σ', H', J', q⟩ := hsp
      exact ⟨σ', H', J'.ofTry ok, q⟩
end
end U

set_option Elab.async false
set_option linter.all false
set_option maxRecDepth 100000
set_option maxHeartbeats 4000000
namespace U
open PySem PySem.Spec PyProof.Rows L2

/-! ### the end of a law row -/
theorem law_G {P : Program} {w : World} {K : PySem.W.Frag} {mg mb : Str → Option Value} {k : Nat} {fa a : Addr} {fd : FuncData} {x : Str} {sp : Sp} {s₁ : Shared} {vs : List Value} {ns : List Int}
    (KX : K.In s₁.heap) (hns : s₁.heap.Ns mainGlobals mg) (hb : s₁.heap.Ns builtinsNs mb) (hbb : ∀ x : Str, x ≠ "__name__" → mb x = bootBuiltins x) (hlim : s₁.heap.NoLimit) (hg : s₁.gens = #[])
    (ha : s₁.heap.get? a = some { cls := .type "list", data := .seq vs.toArray }) (hi : IntsAre vs ns) (hl : ns.length ≤ sizeLine) (hr : Room k callerA)
    (F : ∀ base : Heap, K.In base → base.Ns mainGlobals mg → FnG P w K mg base k fa fd [x] sp) (hbind : ∀ (s : Shared) (u : Value), BindsTo s fd ⟨[u], []⟩ [(x, u)])
    (hsp : ∀ H : Hp, Only H → SqL K H a (ns.map V.int) → sp [.ref a] H (fun v _ => v = .bl true) fun _ _ _ => False) :
    codeAny (model P w) callerA (.call (.ref fa) ⟨[.ref a], []⟩) (fun r s' => r = .ok (.ret (.bool true)) ∧ OldK s₁.heap s'.heap ∧ s'.os = s₁.os ∧ AllBare s'.gens) s₁ := by
  have rv := vals_ints hi
  have core : ∀ H : Hp, Only H → SqL K H a (ns.map V.int) → HOk P w H s₁.heap → (∀ b, H b ≠ none → b = a) → (H a ≠ none → K.lookup a = none) →
      codeAny (model P w) callerA (.call (.ref fa) ⟨[.ref a], []⟩) (fun r s' => r = .ok (.ret (.bool true)) ∧ OldK s₁.heap s'.heap ∧ s'.os = s₁.os ∧ AllBare s'.gens) s₁ := by
    intro H hO hS hok hA hK
    have isA : ∀ {b : Addr} {u : HO}, H b = some u → b = a := fun {b u} q => hA b (by rw [q]; simp)
    have nsK : ∀ {b : Addr} {m : Str → Option Value}, s₁.heap.Ns b m → (hidT s₁.heap H).Ns b m := fun {b m} hn => by
      obtain ⟨o, es, ep, e, d, r⟩ := hn
      refine ⟨o, es, ep, hidT_get e ?_, d, r⟩
      cases q : H b with
      | none => rfl
      | some u =>
        have z := isA q
        subst z
        rw [ha] at e
        cases e
        have d' : Data.seq vs.toArray _ = Data.dict es ep := d
        cases d'
    have hKb : K.In (hidT s₁.heap H) := fun b o e => hidT_get (KX b o e) (by
      cases q : H b with
      | none => rfl
      | some u =>
        have z := isA q
        subst z
        rw [hK (by rw [q]; simp)] at e
        cases e)
    have hM : Mod K mg (hidT s₁.heap H) := ⟨hKb, nsK hns, ⟨mb, nsK hb, hbb⟩, let ⟨mc, h1, h2⟩ := hlim; ⟨mc, nsK h1, h2⟩⟩
    have e0 : Env0 P w K mg (hidT s₁.heap H) callerA [] s₁ H := ⟨rfl, hM, fun b o e => of_hidT e, Nat.le_of_eq (hidT_size _ _), trivial, fun b hb => absurd (show b ∈ ([] : List Addr) from hb) (by simp), hok, .of_eq hg⟩
    refine codeAny_mono ((F _ hKb (nsK hns)).run callerA [] s₁ H ⟨[.ref a], []⟩ [.ref a] [.ref a] _ _ hr rfl e0 (hbind s₁ (.ref a)) (.cons rfl .nil) (hsp H hO hS)) fun r s' h => ?_
    cases r with
    | error e =>
      obtain ⟨_, _, _, _, _, _, _, _, _, _, _, _, z⟩ := h
      exact z.elim
    | ok fl =>
      cases fl with
      | next => exact False.elim h
      | brk => exact False.elim h
      | cont => exact False.elim h
      | ret u =>
        obtain ⟨v, H', os, bare, un, hok', r', q⟩ := h
        have q' : v = .bl true := q
        subst q'
        obtain rfl : u = Value.bool true := r'
        refine ⟨rfl, OldK.of_keep fun b o e => ?_, os, bare⟩
        cases q : H b with
        | none => exact un.keep b o e q (by intro z; exact absurd (show b ∈ ([] : List Addr) from z) (by simp)) (by simp)
        | some u =>
          rcases hO b with z | ⟨ob, xs, z⟩
          · rw [q] at z
            cases z
          · obtain ⟨e1, _⟩ := hok b _ z
            obtain ⟨e2, _⟩ := hok' b _ (un.frzs b ob _ z)
            rw [e] at e1
            cases e1
            exact e2
  cases hk : K.lookup a with
  | some o =>
    have e := KX a o hk
    rw [ha] at e
    cases e
    exact core (fun _ => none) (fun _ => .inl rfl) (.inr ⟨_, vs.toArray, _, hk, rfl, rfl, rfl, by rw [List.size_toArray, hi.length]; exact hl, by simpa using rv⟩) (fun b u z => by have z' : (none : Option HO) = some u := z; cases z') (fun b z => absurd rfl z) fun z => absurd rfl z
  | none =>
    have at_ : ∀ {b : Addr} {u : HO}, (if b = a then some (HO.frz { cls := .type "list", data := .seq vs.toArray } (.lst (ns.map V.int))) else none) = some u → b = a ∧ u = HO.frz { cls := .type "list", data := .seq vs.toArray } (.lst (ns.map V.int)) := fun {b u} z => by
      by_cases hb : b = a
      · rw [if_pos hb] at z
        cases z
        exact ⟨hb, rfl⟩
      · rw [if_neg hb] at z
        cases z
    refine core (fun b => if b = a then some (.frz { cls := .type "list", data := .seq vs.toArray } (.lst (ns.map V.int))) else none) (fun b => ?_) (.inl (.inr ⟨{ cls := .type "list", data := .seq vs.toArray }, if_pos rfl⟩)) (fun b u z => ?_) (fun b z => ?_) fun _ => hk
    · by_cases hb : b = a
      · exact .inr ⟨_, _, if_pos hb⟩
      · exact .inl (if_neg hb)
    · obtain ⟨rfl, rfl⟩ := at_ z
      exact ⟨ha, by rw [List.length_map]; exact hl, vs, _, rv, ha⟩
    · by_cases hb : b = a
      · exact hb
      · exact absurd (if_neg hb) z
theorem walk_G {l : PySem.W.OpenLaw} {n k : Nat} {q : Program} {loose : List Str} {XP : (Str → Option Value) → Heap → Prop} {YP : World → Heap → Prop} {d : DefRec} {sp : World → PySem.W.Frag → Sp} {x : Str}
    (hn : l.most = some n) (hn2 : n ≤ sizeLine) (hdf : d.params.defaults = []) (hr : Room k callerA)
    (F : ∀ (w : World) (mg : Str → Option Value) (fa : Addr) (h : Heap), YP w h → h.Ns mainGlobals mg → mg d.name = some (.ref fa) →
      ∃ (K : PySem.W.Frag) (fd : FuncData), K.In h ∧ (∀ (s : Shared) (u : Value), BindsTo s fd ⟨[u], []⟩ [(x, u)]) ∧
        ∀ base : Heap, K.In base → base.Ns mainGlobals mg → FnG l.prog w K mg base k fa fd [x] (sp w K))
    (hsp : ∀ (w : World) (K : PySem.W.Frag) (H : Hp) (a : Addr) (ns : List Int), ns.length ≤ n → (∀ z ∈ ns, Builtin.Int.intBits z ≤ 1048576) → Only H → SqL K H a (ns.map V.int) → sp w K [.ref a] H (fun v _ => v = .bl true) fun _ _ _ => False) :
    PySem.W.WalkO q loose XP YP l.row.toRowW d [] (fun f vs => PySem.call f vs) := by
  refine Att.attach_callB hn hdf fun w s₀ s₁ mg mb fa o pm cd doc a vs ns G Y ho hd hcd hmg hobj hints hlen hbits hg => ?_
  obtain ⟨K, fd, KX, hb, hF⟩ := F w mg fa _ Y G.T.g hmg
  exact law_G KX G.T.g G.T.b G.T.builtins G.T.nolimit hg hobj hints (Nat.le_trans hlen hn2) hr hF hb fun H hO hS => hsp w K H a ns hlen hbits hO hS
end U

set_option Elab.async false
set_option linter.all false
set_option maxRecDepth 100000
set_option maxHeartbeats 4000000
namespace U
open PySem PySem.Spec PyProof.Rows L2

/-! ### operators by short names -/
def oAdd : R2 := rI0 fun i j => .int (i + j)
def oSub : R2 := rI0 fun i j => .int (i - j)
def oMul : R2 := rI CMul fun i j => .int (i * j)
def oDiv : R2 := rI CDiv fun i j => .int (i / j)
def oMod : R2 := rI (fun _ j => 0 < j) fun i j => .int (i % j)
def oPow : R2 := rI CPow fun i j => .int (i ^ j.toNat)
def oAnd : R2 := rI0 fun i j => .int (Builtin.bitAnd i j)
def oLt : R2 := rI0 fun i j => .bl (decide (i < j))
def oLe : R2 := rI0 fun i j => .bl (decide (i ≤ j))
def oGt : R2 := rI0 fun i j => .bl (decide (j < i))
def oGe : R2 := rI0 fun i j => .bl (decide (j ≤ i))
def oAddS : R2 := fun x y H Q => ∃ i j, x = .str i ∧ y = .str j ∧ i.length + j.length ≤ sizeLine ∧ Q (.str (i ++ j)) H
def oIsN : R2 := fun x y H Q => y = .non ∧ Q (.bl (decide (x = .non))) H
def oNotN : R2 := fun x y H Q => y = .non ∧ Q (.bl (!decide (x = .non))) H
/-- one sign in a text, or not -/
def oInS : R2 := fun x y H Q => ∃ (c : Nat) (z : Str), x = .str ⟨#[c]⟩ ∧ y = .str z ∧ Q (.bl (decide (c ∈ z.cps.toList))) H
def oNotInS : R2 := fun x y H Q => ∃ (c : Nat) (z : Str), x = .str ⟨#[c]⟩ ∧ y = .str z ∧ Q (.bl (!decide (c ∈ z.cps.toList))) H
section
variable {X : Cx}
theorem q_add : OpR X (binaryOp .Add) oAdd := op_add
theorem q_sub : OpR X (binaryOp .Sub) oSub := op_sub
theorem q_mul : OpR X (binaryOp .Mult) oMul := op_mul
theorem q_div : OpR X (binaryOp .FloorDiv) oDiv := op_fdiv
theorem q_mod : OpR X (binaryOp .Mod) oMod := op_mod
theorem q_pow : OpR X (binaryOp .Pow) oPow := op_pow
theorem q_and : OpR X (binaryOp .BitAnd) oAnd := op_and
theorem q_lt : OpR X (compareOp .Lt) oLt := op_lt
theorem q_le : OpR X (compareOp .LtE) oLe := op_le
theorem q_gt : OpR X (compareOp .Gt) oGt := op_gt
theorem q_ge : OpR X (compareOp .GtE) oGe := op_ge
theorem q_addS : OpR X (binaryOp .Add) oAddS := op_add_str
theorem q_isN : OpR X (compareOp .Is) oIsN := op_isN
theorem q_notN : OpR X (compareOp .IsNot) oNotN := op_notN
theorem q_inS : OpR X (compareOp .In) oInS := op_in_sign
theorem q_notInS : OpR X (compareOp .NotIn) oNotInS := op_notIn_sign
end
/-- text * n, the text's codes n times -/
def repS (z : Str) (n : Int) : Str := ⟨(List.replicate n.toNat z.cps.toList).flatten.toArray⟩
def oRepS : R2 := fun x y H Q => ∃ z n, x = .str z ∧ y = .int n ∧ 0 ≤ n ∧ n < 100000 ∧ z.length ≤ 100 ∧ Q (.str (repS z n)) H
theorem foldl_cps (xs : List (Array Nat)) (acc : Array Nat) : (xs.foldl (· ++ ·) acc).toList = acc.toList ++ (xs.map (·.toList)).flatten := by
  induction xs generalizing acc with
  | nil => simp
  | cons x r ih =>
    show (r.foldl (· ++ ·) (acc ++ x)).toList = _
    rw [ih, Array.toList_append, List.map_cons, List.flatten_cons, List.append_assoc]
theorem repS_eq (z : Str) (n : Int) : (⟨(List.replicate n.toNat z.cps).foldl (· ++ ·) #[]⟩ : Str) = repS z n := by
  unfold repS
  congr 1
  apply Array.toList_inj.mp
  rw [foldl_cps]
  simp
theorem q_repS {X : Cx} : OpR X (binaryOp .Mult) oRepS := by
  intro pins s σ H x y v u Q I rx ry h
  obtain ⟨z, n, rfl, rfl, h0, h1, h2, q⟩ := h
  obtain ⟨t, rfl⟩ := rx
  obtain ⟨t', rfl⟩ := ry
  have e1 : decide (n < -(2 ^ 63 : Int)) = false := decide_eq_false (by omega)
  have e2 : decide (n ≥ 2 ^ 63) = false := decide_eq_false (by omega)
  refine PySem.P.mul_str (by rw [e1, e2]; rfl) (fun hn _ => ?_) (fun hn _ => ?_) ?_
  · have h3 : (92233720368547 : Int) ≤ (2 ^ 63 - 1) / n := Int.le_ediv_of_mul_le (by omega) (by omega)
    omega
  · have hm : z.length * n.toNat ≤ 100 * 100000 := Nat.mul_le_mul h2 (by omega)
    unfold Builtin.Str.tooLong
    rw [decide_eq_false_iff_not]
    have : sizeLine = 16777216 := sizeLine_eq
    omega
  · have hz : z.length * n.toNat ≤ sizeLine := Nat.le_trans (Nat.mul_le_mul h2 (show n.toNat ≤ 100000 by omega)) (by rw [sizeLine_eq]; decide)
    by_cases hn : n < 1
    · rw [if_pos hn]
      refine ⟨by show (0 : Nat) ≤ sizeLine; exact Nat.zero_le _, .str (repS z n), H, I.tok _, ⟨s.toks, ?_⟩, q⟩
      have e : n = 0 := by omega
      subst e
      rfl
    · rw [if_neg hn]
      by_cases hs : (n == 1 || z.length == 0) = true
      · rw [if_pos hs]
        refine ⟨.str (repS z n), H, I, ⟨t, ?_⟩, q⟩
        congr 1
        rw [← repS_eq]
        rcases Bool.or_eq_true_iff.mp hs with e | e
        · have e' : n = 1 := by simpa using e
          subst e'
          have : (1 : Int).toNat = 1 := rfl
          rw [this]
          simp [List.replicate]
        · have e' : z.cps = #[] := by
            have : z.cps.size = 0 := by simpa [Str.length] using e
            exact Array.eq_empty_of_size_eq_zero this
          obtain ⟨c⟩ := z
          simp only at e'
          subst e'
          congr 1
          apply Array.toList_inj.mp
          rw [foldl_cps]
          simp
      · rw [if_neg hs, repS_eq]
        refine ⟨?_, .str (repS z n), H, I.tok _, ⟨_, rfl⟩, q⟩
        have : (repS z n).length = z.length * n.toNat := by
          simp [repS, Str.length, Nat.mul_comm]
        rw [this]
        exact hz
end U

set_option Elab.async false
set_option linter.all false
set_option maxRecDepth 100000
set_option maxHeartbeats 4000000
namespace U
open PySem PySem.Spec PyProof.Rows L2
abbrev Ex := Evl.Ex
def tTru (K : PySem.W.Frag) (ta : TE) : TT := fun σ H Q => ta σ H fun x H' => ∃ k, TruV K x H' k ∧ Q k H'

/-! ### stepping through a reading: one lemma a head -/
section
variable {K : PySem.W.Frag} {σ : L2.St} {H : Hp} {Q : VK} {QT : Bool → Hp → Prop} {QA : List V → Hp → Prop} {D : Ends} {ta tb tc te tv : TE} {t u : TS} {tt tu : TT} {tr tz : TA} {r r' : R2} {x y v : V} {i j : Int} {b : Bool} {xs : List V} {a p C dx : Addr}
-- values
theorem r_var {n : Nat} (h : σ[n]? = some (some v)) (q : Q v H) : tVar n σ H Q := ⟨v, h, q⟩
theorem r_c (q : Q v H) : tC v σ H Q := q
theorem r_op (q : ta σ H fun x H1 => tb σ H1 fun y H2 => r x y H2 Q) : tOp r ta tb σ H Q := q
theorem r_un {f : V → Hp → VK → Prop} (q : ta σ H fun x H1 => f x H1 Q) : tUn f ta σ H Q := q
theorem r_nil (q : QA [] H) : tNil σ H QA := q
theorem r_cons (q : ta σ H fun x H1 => tr σ H1 fun xs H2 => QA (x :: xs) H2) : tCons ta tr σ H QA := q
theorem r_tup (q : tr σ H fun xs H1 => xs.length ≤ sizeLine ∧ ∀ p, H1 p = none → Q (.ref p) (upd H1 p (.tup xs))) : tTup tr σ H Q := q
theorem r_lst (q : tr σ H fun xs H1 => xs.length ≤ sizeLine ∧ ∀ p, H1 p = none → Q (.ref p) (upd H1 p (.lst xs))) : tLst tr σ H Q := q
theorem r_cb {f : List V → Hp → VK → Prop} (q : tr σ H fun vs H1 => f vs H1 Q) : tCB f tr σ H Q := q
theorem r_call {sp : Sp} {E : L2.St → XK} (q : tr σ H fun vs H1 => sp vs H1 Q (E σ)) : tCallS sp E tr σ H Q := q
theorem r_meth {sp : Sp} {m : Str} {E : L2.St → XK} (q : ta σ H fun x H1 => ∃ a dx fs, x = .ref a ∧ H1 a = some (.ins C dx fs) ∧ fs.lookup m = none ∧ tr σ H1 fun vs H2 => sp (x :: vs) H2 Q (E σ)) : tMethS C m sp E ta tr σ H Q := q
theorem r_methG {m : Str} {fs : List (Str × V)} {A : Prop} (h : H a = some (.ins C dx fs)) (l : fs.lookup m = none) (q : A) : ∃ a' dx' fs', V.ref a = .ref a' ∧ H a' = some (.ins C dx' fs') ∧ fs'.lookup m = none ∧ A := ⟨a, dx, fs, rfl, h, l, q⟩
theorem r_make {sp : Sp} {E : L2.St → XK} (q : tr σ H fun vs H1 => ∀ x dx, H1 x = none → H1 dx = none → dx ≠ x → sp (.ref x :: vs) (upd (upd H1 dx (.own x)) x (.ins C dx [])) (fun v H2 => v = .non ∧ Q (.ref x) H2) (E σ)) : tMakeS C sp E tr σ H Q := q
theorem r_fld {f : Str} (q : ta σ H fun x H1 => ∃ a C dx fs v, x = .ref a ∧ H1 a = some (.ins C dx fs) ∧ Cls K C ∧ NoAttr K C f ∧ fs.lookup f = some v ∧ Q v H1) : tFld K ta f σ H Q := q
theorem r_fldG {f : Str} {fs : List (Str × V)} {R : V → Prop} (h : H a = some (.ins C dx fs)) (c : Cls K C) (n : NoAttr K C f) (l : fs.lookup f = some v) (q : R v) :
    ∃ a' C' dx' fs' v', V.ref a = .ref a' ∧ H a' = some (.ins C' dx' fs') ∧ Cls K C' ∧ NoAttr K C' f ∧ fs'.lookup f = some v' ∧ R v' := ⟨a, C, dx, fs, v, rfl, h, c, n, l, q⟩
theorem r_if' (q : tt σ H fun c H1 => if c = true then ta σ H1 Q else tb σ H1 Q) : tIf tt ta tb σ H Q := q
theorem r_andV (q : ta σ H fun x H1 => ∃ c, x = .bl c ∧ if c = true then tb σ H1 Q else Q (.bl false) H1) : tAndV ta tb σ H Q := q
theorem r_orV (q : ta σ H fun x H1 => ∃ c, x = .bl c ∧ if c = true then Q (.bl true) H1 else tb σ H1 Q) : tOrV ta tb σ H Q := q
theorem r_notV (q : ta σ H fun x H1 => ∃ c, x = .bl c ∧ Q (.bl (!c)) H1) : tNotV ta σ H Q := q
theorem r_sl {f : V → Option Int → Option Int → Hp → VK → Prop} {tl th : TO} (q : te σ H fun x H1 => tl σ H1 fun l H2 => th σ H2 fun u H3 => f x l u H3 Q) : tSl f te tl th σ H Q := q
theorem r_noPart {QO : Option Int → Hp → Prop} (q : QO none H) : tNoPart σ H QO := q
theorem r_part {QO : Option Int → Hp → Prop} (q : te σ H fun x H1 => ∃ i, x = .int i ∧ QO (some i) H1) : tPart te σ H QO := q
theorem r_bm {T : String} {f : V → List V → Hp → VK → Prop} (q : ta σ H fun x H1 => tyV K T x H1 ∧ tr σ H1 fun xs H2 => f x xs H2 Q) : tBM K T f ta tr σ H Q := q
theorem r_bm0 {T : String} {f : V → List V → Hp → VK → Prop} (q : ta σ H fun x H1 => tyV K T x H1 ∧ f x [] H1 Q) : tBM0 K T f ta σ H Q := q
theorem r_m1 {f : V → List V → Hp → VK → Prop} (q : ta σ H fun x H1 => (∃ a, x = .str a) ∧ te σ H1 fun y H2 => f x [y] H2 Q) : tM1 f ta te σ H Q := q
-- what a value gives to ∃
theorem r_exI {R : Int → Prop} (q : R i) : ∃ k, V.int i = .int k ∧ R k := ⟨i, rfl, q⟩
theorem r_exB {R : Bool → Prop} (q : R b) : ∃ k, V.bl b = .bl k ∧ R k := ⟨b, rfl, q⟩
theorem r_exS {z : Str} {R : Prop} (q : R) : (∃ k, V.str z = .str k) ∧ R := ⟨⟨z, rfl⟩, q⟩
-- operators on values
theorem r_add (q : Q (.int (i + j)) H) : oAdd (.int i) (.int j) H Q := ⟨i, j, rfl, rfl, q⟩
theorem r_sub (q : Q (.int (i - j)) H) : oSub (.int i) (.int j) H Q := ⟨i, j, rfl, rfl, q⟩
theorem r_mul (h : CMul i j) (q : Q (.int (i * j)) H) : oMul (.int i) (.int j) H Q := ⟨i, j, rfl, rfl, h, q⟩
theorem r_div (h : CDiv i j) (q : Q (.int (i / j)) H) : oDiv (.int i) (.int j) H Q := ⟨i, j, rfl, rfl, h, q⟩
theorem r_mod (h : 0 < j) (q : Q (.int (i % j)) H) : oMod (.int i) (.int j) H Q := ⟨i, j, rfl, rfl, h, q⟩
theorem r_pow (h : CPow i j) (q : Q (.int (i ^ j.toNat)) H) : oPow (.int i) (.int j) H Q := ⟨i, j, rfl, rfl, h, q⟩
theorem r_and2 (q : Q (.int (Builtin.bitAnd i j)) H) : oAnd (.int i) (.int j) H Q := ⟨i, j, rfl, rfl, q⟩
theorem r_lt (q : Q (.bl (decide (i < j))) H) : oLt (.int i) (.int j) H Q := ⟨i, j, rfl, rfl, q⟩
theorem r_le (q : Q (.bl (decide (i ≤ j))) H) : oLe (.int i) (.int j) H Q := ⟨i, j, rfl, rfl, q⟩
theorem r_gt (q : Q (.bl (decide (j < i))) H) : oGt (.int i) (.int j) H Q := ⟨i, j, rfl, rfl, q⟩
theorem r_ge (q : Q (.bl (decide (j ≤ i))) H) : oGe (.int i) (.int j) H Q := ⟨i, j, rfl, rfl, q⟩
theorem r_addS {z w : Str} (h : z.length + w.length ≤ sizeLine) (q : Q (.str (z ++ w)) H) : oAddS (.str z) (.str w) H Q := ⟨z, w, rfl, rfl, h, q⟩
theorem r_repS {z : Str} (h : 0 ≤ i ∧ i < 100000 ∧ z.length ≤ 100) (q : Q (.str (repS z i)) H) : oRepS (.str z) (.int i) H Q := ⟨z, i, rfl, rfl, h.1, h.2.1, h.2.2, q⟩
theorem dI : decide (V.int i = V.int j) = decide (i = j) := by rw [Bool.eq_iff_iff]; simp
theorem dS {z w : Str} : decide (V.str z = V.str w) = decide (z = w) := by rw [Bool.eq_iff_iff]; simp
theorem dB {b c : Bool} : decide (V.bl b = V.bl c) = decide (b = c) := by rw [Bool.eq_iff_iff]; simp
theorem r_eqI (q : Q (.bl (decide (i = j))) H) : rEq (.int i) (.int j) H Q := ⟨rfl, by rw [dI]; exact q⟩
theorem r_neI (q : Q (.bl (!decide (i = j))) H) : rNe (.int i) (.int j) H Q := ⟨rfl, by rw [dI]; exact q⟩
theorem r_eqS {z w : Str} (q : Q (.bl (decide (z = w))) H) : rEq (.str z) (.str w) H Q := ⟨rfl, by rw [dS]; exact q⟩
theorem r_neS {z w : Str} (q : Q (.bl (!decide (z = w))) H) : rNe (.str z) (.str w) H Q := ⟨rfl, by rw [dS]; exact q⟩
theorem r_eqNI (q : Q (.bl false) H) : rEq .non (.int j) H Q := ⟨rfl, by exact q⟩
theorem r_isNN (q : Q (.bl true) H) : oIsN .non .non H Q := ⟨rfl, q⟩
theorem r_isNI (q : Q (.bl false) H) : oIsN (.int i) .non H Q := ⟨rfl, by exact q⟩
theorem r_isNR (q : Q (.bl false) H) : oIsN (.ref a) .non H Q := ⟨rfl, by exact q⟩
theorem r_notNN (q : Q (.bl false) H) : oNotN .non .non H Q := ⟨rfl, q⟩
theorem r_notNI (q : Q (.bl true) H) : oNotN (.int i) .non H Q := ⟨rfl, by exact q⟩
theorem r_notNR (q : Q (.bl true) H) : oNotN (.ref a) .non H Q := ⟨rfl, by exact q⟩
theorem r_inS {c : Nat} {z : Str} (q : Q (.bl (decide (c ∈ z.cps.toList))) H) : oInS (.str ⟨#[c]⟩) (.str z) H Q := ⟨c, z, rfl, rfl, q⟩
theorem r_notInS {c : Nat} {z : Str} (q : Q (.bl (!decide (c ∈ z.cps.toList))) H) : oNotInS (.str ⟨#[c]⟩) (.str z) H Q := ⟨c, z, rfl, rfl, q⟩
theorem r_ixL (h : SqL K H p xs) (e : atI xs i = some v) (q : Q v H) : rIxL K (.ref p) (.int i) H Q := ⟨p, xs, i, v, rfl, rfl, h, e, q⟩
theorem r_ixT (h : SqT K H p xs) (e : atI xs i = some v) (q : Q v H) : rIxT K (.ref p) (.int i) H Q := ⟨p, xs, i, v, rfl, rfl, h, e, q⟩
theorem r_ixS {z : Str} {c : Nat} (h : z.length ≤ sizeLine) (e : atI z.cps.toList i = some c) (q : Q (.str ⟨#[c]⟩) H) : rIxS (.str z) (.int i) H Q := ⟨z, i, c, rfl, rfl, h, e, q⟩
-- tests
theorem r_test (q : te σ H fun x H1 => ∃ k, x = .bl k ∧ QT k H1) : tTest te σ H QT := q
theorem r_B (q : te σ H fun x H1 => ∃ k, x = .bl k ∧ QT k H1) : tB te σ H QT := q
theorem r_tru (q : te σ H fun x H1 => ∃ k, TruV K x H1 k ∧ QT k H1) : tTru K te σ H QT := q
theorem r_truI {R : Bool → Prop} (q : R (i != 0)) : ∃ k, TruV K (.int i) H k ∧ R k := ⟨_, rfl, q⟩
theorem r_truB {R : Bool → Prop} (q : R b) : ∃ k, TruV K (.bl b) H k ∧ R k := ⟨_, rfl, q⟩
theorem r_truN {R : Bool → Prop} (q : R false) : ∃ k, TruV K .non H k ∧ R k := ⟨_, rfl, q⟩
theorem r_truS {R : Bool → Prop} {z : Str} (h : z.length ≤ sizeLine) (q : R ((z.length : Int) != 0)) : ∃ k, TruV K (.str z) H k ∧ R k := ⟨_, ⟨h, rfl⟩, q⟩
theorem r_truL {R : Bool → Prop} (h : SqL K H p xs) (q : R (!xs.isEmpty)) : ∃ k, TruV K (.ref p) H k ∧ R k := ⟨_, .inl ⟨xs, h, rfl⟩, q⟩
theorem r_truT {R : Bool → Prop} (h : SqT K H p xs) (q : R (!xs.isEmpty)) : ∃ k, TruV K (.ref p) H k ∧ R k := ⟨_, .inr (.inl ⟨xs, h, rfl⟩), q⟩
theorem r_and (q : tt σ H fun c H1 => if c = true then tu σ H1 QT else QT false H1) : tAnd tt tu σ H QT := q
theorem r_or (q : tt σ H fun c H1 => if c = true then QT true H1 else tu σ H1 QT) : tOr tt tu σ H QT := q
theorem r_not (q : tt σ H fun c H1 => QT (!c) H1) : tNot tt σ H QT := q
theorem r_chain (q : ta σ H fun x H1 => tb σ H1 fun y H2 => r x y H2 fun z H3 => ∃ k, z = .bl k ∧ (if k = true then tc σ H3 fun w' H4 => r' y w' H4 Q else Q (.bl false) H3)) : tChain r r' ta tb tc σ H Q := q
-- statements
theorem r_seq (q : t { D with nx := u D } σ H) : tSeq t u D σ H := q
theorem r_next (q : D.nx σ H) : tNext D σ H := q
theorem r_brk (q : D.bk σ H) : tBreak D σ H := q
theorem r_cont (q : D.ct σ H) : tCont D σ H := q
theorem r_drop (q : te σ H fun _ H1 => D.nx σ H1) : tDrop te D σ H := q
theorem r_ret (q : te σ H D.rt) : tRet te D σ H := q
theorem r_retN (q : D.rt .non H) : tRetN D σ H := q
theorem r_if (q : tt σ H fun b H1 => if b = true then t D σ H1 else u D σ H1) : tIfS tt t u D σ H := q
theorem r_asg {g : TG} (q : te σ H fun x H1 => g x σ H1 D.nx) : tAsg te g D σ H := q
theorem r_name {n : Nat} {R : L2.St → Hp → Prop} (q : R (σ.set n (some v)) H) : gName n v σ H R := q
theorem r_gTup {n : Nat} {g : TGs} {R : L2.St → Hp → Prop} (h : SqT K H a xs) (l : xs.length = n) (q : g xs σ H R) : gTup K n g (.ref a) σ H R := ⟨a, xs, rfl, h, l, q⟩
theorem r_gNil {R : L2.St → Hp → Prop} (q : R σ H) : gNil [] σ H R := ⟨rfl, q⟩
theorem r_gCons {g : TG} {gs : TGs} {R : L2.St → Hp → Prop} (q : g v σ H fun σ' H' => gs xs σ' H' R) : gCons g gs (v :: xs) σ H R := ⟨v, xs, rfl, q⟩
theorem r_gSub {f : TSet} {R : L2.St → Hp → Prop} (q : ta σ H fun o H1 => tb σ H1 fun i H2 => f o i v H2 fun H3 => R σ H3) : gSub ta tb f v σ H R := q
theorem r_setL {n : Nat} {R : Hp → Prop} (h : H p = some (.lst xs)) (e : ixN xs.length i = some n) (q : R (upd H p (.lst (xs.set n v)))) : rSetL (.ref p) (.int i) v H R := ⟨p, xs, i, n, rfl, rfl, h, e, q⟩
theorem r_sFld {f : Str} (q : tv σ H fun y H1 => ta σ H1 fun x H2 => ∃ a C dx fs, x = .ref a ∧ H2 a = some (.ins C dx fs) ∧ Cls K C ∧ NoAttr K C f ∧ fs.length < 1000 ∧ D.nx σ (upd H2 a (.ins C dx (putF f y fs)))) : sFld K ta tv f D σ H := q
theorem r_sFldG {f : Str} {fs fs2 : List (Str × V)} (h : H a = some (.ins C dx fs)) (c : Cls K C) (n : NoAttr K C f) (l : fs.length < 1000) (e : putF f y fs = fs2) (q : D.nx σ (upd H a (.ins C dx fs2))) :
    ∃ a' C' dx' fs', V.ref a = .ref a' ∧ H a' = some (.ins C' dx' fs') ∧ Cls K C' ∧ NoAttr K C' f ∧ fs'.length < 1000 ∧ D.nx σ (upd H a' (.ins C' dx' (putF f y fs'))) := ⟨a, C, dx, fs, rfl, h, c, n, l, by rw [e]; exact q⟩
-- raise
def tRaiseP (W : WX) (tm : L2.St → Hp → XK → Prop) : TS := fun _ σ H => tm σ H fun cls d H' => W cls d σ H'
theorem r_raise {W : WX} {tm : L2.St → Hp → XK → Prop} (q : tm σ H fun cls d H' => W cls d σ H') : tRaiseP W tm D σ H := q
-- branches
theorem ifT {A B : Prop} {c : Prop} [Decidable c] (h : c) (q : A) : if decide c = true then A else B := by rw [if_pos (decide_eq_true h)]; exact q
theorem ifF {A B : Prop} {c : Prop} [Decidable c] (h : ¬ c) (q : B) : if decide c = true then A else B := by rw [decide_eq_false h, if_neg Bool.false_ne_true]; exact q
theorem ifNT {A B : Prop} {c : Prop} [Decidable c] (h : ¬ c) (q : A) : if (!decide c) = true then A else B := by rw [decide_eq_false h, Bool.not_false, if_pos rfl]; exact q
theorem ifNF {A B : Prop} {c : Prop} [Decidable c] (h : c) (q : B) : if (!decide c) = true then A else B := by rw [decide_eq_true h, Bool.not_true, if_neg Bool.false_ne_true]; exact q
theorem if2 {A B : Prop} {c : Prop} [Decidable c] (h1 : c → A) (h2 : ¬ c → B) : if decide c = true then A else B := by
  by_cases h : c
  · exact ifT h (h1 h)
  · exact ifF h (h2 h)
theorem ifN2 {A B : Prop} {c : Prop} [Decidable c] (h1 : ¬ c → A) (h2 : c → B) : if (!decide c) = true then A else B := by
  by_cases h : c
  · exact ifNF h (h2 h)
  · exact ifNT h (h1 h)
theorem ifb2 {A B : Prop} {c : Bool} (h1 : c = true → A) (h2 : c = false → B) : if c = true then A else B := by
  cases c with
  | true => rw [if_pos rfl]; exact h1 rfl
  | false => rw [if_neg Bool.false_ne_true]; exact h2 rfl
theorem r_small {n : Nat} {A : Prop} (h : n ≤ 1000) (q : A) : n ≤ sizeLine ∧ A := ⟨Nat.le_trans h (by decide), q⟩
end
end U

set_option Elab.async false
set_option linter.all false
set_option maxRecDepth 100000
set_option maxHeartbeats 4000000
namespace U
open PySem PySem.Spec PyProof.Rows L2

/-! ### further operators and built-ins by short names -/
def oNeg : V → Hp → VK → Prop := rU fun i => .int (-i)
theorem q_neg {X : Cx} : UnR X (unaryOp .USub) oNeg := un_neg
def rS_lt : R2 := fun x y H Q => ∃ i j, x = .str i ∧ y = .str j ∧ Q (.bl (decide (i.cps.toList < j.cps.toList))) H
def bLenS : List V → Hp → VK → Prop := fun xs H Q => ∃ z, xs = [.str z] ∧ z.length ≤ sizeLine ∧ Q (.int z.length) H
def bLen (K : PySem.W.Frag) : List V → Hp → VK → Prop := fun xs H Q => ∃ p ys, xs = [.ref p] ∧ (SqL K H p ys ∨ SqT K H p ys) ∧ Q (.int ys.length) H
def bAbs : List V → Hp → VK → Prop := fun xs H Q => ∃ i, xs = [.int i] ∧ Q (.int (if i < 0 then -i else i)) H
def bMax : List V → Hp → VK → Prop := fun xs H Q => ∃ i j, xs = [.int i, .int j] ∧ Q (.int (if j > i then j else i)) H
def bMin : List V → Hp → VK → Prop := fun xs H Q => ∃ i j, xs = [.int i, .int j] ∧ Q (.int (if j < i then j else i)) H
def bInt : List V → Hp → VK → Prop := fun xs H Q => (∃ i, xs = [.int i] ∧ Q (.int i) H) ∨ ∃ k, xs = [.bl k] ∧ Q (.int (if k then 1 else 0)) H
def bIntS : List V → Hp → VK → Prop := fun xs H Q => ∃ a n, xs = [.str a] ∧ PySem.intText? a = some n ∧ a.length ≤ 640 ∧ Q (.int n) H
def bStr : List V → Hp → VK → Prop := fun xs H Q => ∃ i : Int, xs = [.int i] ∧ i.natAbs.log2 < 1920 ∧ Q (.str (toString i)) H
def bOrd : List V → Hp → VK → Prop := fun xs H Q => ∃ x, xs = [.str x] ∧ x.length = 1 ∧ Q (.int (x.cps.getD 0 0 : Nat)) H
def bList (K : PySem.W.Frag) : List V → Hp → VK → Prop := fun xs H Q => ∃ p ys, xs = [.ref p] ∧ (SqL K H p ys ∨ SqT K H p ys) ∧ ∀ l, H l = none → Q (.ref l) (upd H l (.lst ys))
def bTuple (K : PySem.W.Frag) : List V → Hp → VK → Prop := fun xs H Q => ∃ p ys, xs = [.ref p] ∧ ((SqL K H p ys ∧ ∀ l, H l = none → Q (.ref l) (upd H l (.tup ys))) ∨ (SqT K H p ys ∧ Q (.ref p) H))
def bFind : V → List V → Hp → VK → Prop := fun x xs H Q => ∃ a b, x = .str a ∧ xs = [.str b] ∧ Q (.int (Txt.find a b)) H
def bFind3 : V → List V → Hp → VK → Prop := fun x xs H Q => ∃ (a b : Str) (i : Int), x = .str a ∧ xs = [.str b, .int i] ∧ Q (.int (Txt.find3 a b i)) H
section
variable {X : Cx}
theorem c_lenS : CallR X (.builtin "len") bLenS := call_len_str
theorem c_len : CallR X (.builtin "len") (bLen X.K) := call_len_seq
theorem c_abs : CallR X (.builtin "abs") bAbs := call_abs
theorem c_max (hc : X.calm = true) : CallR X (.builtin "max") bMax := call_max2 hc
theorem c_min (hc : X.calm = true) : CallR X (.builtin "min") bMin := call_min2 hc
theorem c_int : CallR X (.type "int") bInt := call_int1
theorem c_intS : CallR X (.type "int") bIntS := call_int_str
theorem c_str : CallR X (.type "str") bStr := call_str_int
theorem c_ord : CallR X (.builtin "ord") bOrd := call_ord
theorem c_list : CallR X (.type "list") (bList X.K) := call_list_of
theorem c_tuple : CallR X (.type "tuple") (bTuple X.K) := call_tuple_of
theorem m_find : MtR X "str.find" bFind := mt_find
theorem m_find3 : MtR X "str.find" bFind3 := mt_find3
/-- a constant of the module -/
theorem pe_k {x : Str} {v : V} {pos : Pos} (h : ∃ u, X.mg x = some u ∧ RelV v u) (hg : Gl X x := by rfl) (hd : (x == ("__debug__" : Str)) = false := by decide) : PE X (.Name x pos) (tC v) := by
  obtain ⟨u, hm, r⟩ := h
  exact pe_glob hg hm r hd
end
section
variable {K : PySem.W.Frag} {H : Hp} {Q : VK} {i j : Int} {p : Addr} {xs : List V}
theorem r_neg (q : Q (.int (-i)) H) : oNeg (.int i) H Q := ⟨i, rfl, q⟩
theorem r_lenS {z : Str} (h : z.length ≤ sizeLine) (q : Q (.int z.length) H) : bLenS [.str z] H Q := ⟨z, rfl, h, q⟩
theorem r_lenL (h : SqL K H p xs) (q : Q (.int xs.length) H) : bLen K [.ref p] H Q := ⟨p, xs, rfl, .inl h, q⟩
theorem r_lenT (h : SqT K H p xs) (q : Q (.int xs.length) H) : bLen K [.ref p] H Q := ⟨p, xs, rfl, .inr h, q⟩
theorem r_abs (q : Q (.int (if i < 0 then -i else i)) H) : bAbs [.int i] H Q := ⟨i, rfl, q⟩
theorem r_max (q : Q (.int (if j > i then j else i)) H) : bMax [.int i, .int j] H Q := ⟨i, j, rfl, q⟩
theorem r_min (q : Q (.int (if j < i then j else i)) H) : bMin [.int i, .int j] H Q := ⟨i, j, rfl, q⟩
theorem r_int (q : Q (.int i) H) : bInt [.int i] H Q := .inl ⟨i, rfl, q⟩
theorem r_intB {b : Bool} (q : Q (.int (if b then 1 else 0)) H) : bInt [.bl b] H Q := .inr ⟨b, rfl, q⟩
theorem r_intS {z : Str} (h : PySem.intText? z = some i) (l : z.length ≤ 640) (q : Q (.int i) H) : bIntS [.str z] H Q := ⟨z, i, rfl, h, l, q⟩
theorem r_str (h : i.natAbs.log2 < 1920) (q : Q (.str (toString i)) H) : bStr [.int i] H Q := ⟨i, rfl, h, q⟩
theorem r_ord {c : Nat} (q : Q (.int c) H) : bOrd [.str ⟨#[c]⟩] H Q := ⟨⟨#[c]⟩, rfl, rfl, q⟩
theorem r_list (h : SqL K H p xs) (q : ∀ l, H l = none → Q (.ref l) (upd H l (.lst xs))) : bList K [.ref p] H Q := ⟨p, xs, rfl, .inl h, q⟩
theorem r_listT (h : SqT K H p xs) (q : ∀ l, H l = none → Q (.ref l) (upd H l (.lst xs))) : bList K [.ref p] H Q := ⟨p, xs, rfl, .inr h, q⟩
theorem r_tupleL (h : SqL K H p xs) (q : ∀ l, H l = none → Q (.ref l) (upd H l (.tup xs))) : bTuple K [.ref p] H Q := ⟨p, xs, rfl, .inl ⟨h, q⟩⟩
theorem r_find {z w : Str} (q : Q (.int (Txt.find z w)) H) : bFind (.str z) [.str w] H Q := ⟨z, w, rfl, rfl, q⟩
theorem r_append {v : V} (h : H p = some (.lst xs)) (l : xs.length < sizeLine) (q : Q .non (upd H p (.lst (xs ++ [v])))) : rAppend (.ref p) [v] H Q := ⟨p, xs, v, rfl, rfl, h, l, q⟩
theorem r_tyL {A : Prop} (h : SqL K H p xs) (q : A) : tyV K "list" (.ref p) H ∧ A := ⟨.inl ⟨rfl, xs, h⟩, q⟩
end

/-! ### own exceptions -/
/-- what the written part says of an own exception class without __init__ -/
structure ExcT (K : PySem.W.Frag) (mg : Str → Option Value) (x : Str) (C : Addr) : Prop where
  gC : mg x = some (.ref C)
  xP : PySem.W.excIn K C [.type "ValueError", .type "Exception", .type "BaseException", .type "object"] "ValueError.__new__" = true
  kC : PySem.W.keepIn K (.ref C) = true
  bP : PySem.W.subIn K (.ref C) (.type "BaseException") = some true
  tP : PySem.W.typeIn K (.ref C) = some (.type "type")
theorem ExcT.rs {K : PySem.W.Frag} {mg : Str → Option Value} {x : Str} {C : Addr} (T : ExcT K mg x C) {X : Cx} (hK : X.K = K := by rfl) : Raises X (.ref C) := by
  subst hK
  exact raises_own T.bP T.tP
/-- .. with an __init__ that stores its arguments in the fields fs -/
def spX1 (K : PySem.W.Frag) (C : Addr) (f : Str) : Sp := fun vs H Q _ => ∃ (a : Addr) (v : V), vs = [.ref a, v] ∧ H a = some (exo a C none) ∧
  ∀ d, H d = none → d ≠ a → Q .non (upd (upd H d (exd d [(f, v)])) a (exo a C (some d)))
structure ExcI (P : Program) (w : World) (K : PySem.W.Frag) (mg : Str → Option Value) (base : Heap) (x : Str) (C : Addr) (sp : Sp) : Prop where
  gC : mg x = some (.ref C)
  ox : OexC K C
  ex : ∃ (f : Addr) (fd : FuncData) (ps : List Str), PySem.W.findIn K (.ref C) "__init__" = some (some (.ref f)) ∧ PySem.W.typeIn K (.ref f) = some (.type "function") ∧ Binds K fd ps [] ∧ FnOk P w K mg base CX0 1 f fd ps sp
def tMkX (C : Addr) (f : Str) (ta : TA) : L2.St → Hp → XK → Prop := fun σ H Q => ta σ H fun vs H1 => ∃ v, vs = [v] ∧ ∀ d, H1 d = none → Q (.ref C) (some d) (upd H1 d (.xd [(f, v)]))
section
variable {X : Cx} {C : Addr} {k : Nat} {x f : Str} {p pos : Pos} {e : Expr} {ta : TA}
/-- an argument list's reading, weakened -/
def tMono (ta : TA) : TA := fun σ H Q => ∃ Q1 : List V → Hp → Prop, ta σ H Q1 ∧ ∀ vs H', Q1 vs H' → Q vs H'
theorem pa_mono {es : List Expr} (ha : PA X es ta) : PA X es (tMono ta) := by
  refine ⟨fun pos pins s σ H Q I h => ?_⟩
  obtain ⟨Q1, h1, hm⟩ := h
  exact thn (ha.run pos pins s σ H Q1 I h1) fun us s1 hh => by
    obtain ⟨vs, H1, I1, r, q⟩ := hh
    exact ⟨vs, H1, I1, r, hm vs H1 q⟩
theorem upd_del {H : Hp} {a d : Addr} {o1 o2 o3 o4 : HO} (ha : H a = none) (hd : d ≠ a) : upd (del (upd (upd (upd H a o1) d o2) a o3) a) d o4 = upd H d o4 := by
  funext b
  by_cases h1 : b = d
  · subst h1
    rw [upd_same, upd_same]
  · rw [upd_ne h1, upd_ne h1]
    by_cases h2 : b = a
    · subst h2
      rw [del_same, ha]
    · rw [del_ne h2, upd_ne h2, upd_ne h1, upd_ne h2]
theorem pmk_x1 (E : ExcI X.prog X.w X.K X.mg X.base x C (spX1 X.K C f)) (g : Go (k + 2) X) (ha : PA X [e] ta) (hg : Gl X x := by rfl)
    (hdb : (x == ("__debug__" : Str)) = false := by decide) (he : starEach [e] X.env = (false, eval e X.env) :: starEach [] X.env := by rfl) (hpl : (backTo pos (starEach [] X.env)).any (·.1) = false := by rfl) :
    PMk X (.Call (.Name x p) [e] [] pos) (tMkX C f ta) := by
  obtain ⟨fI, fd, ps, iC, tI, hb, F⟩ := E.ex
  have main : PMk X (.Call (.Name x p) [e] [] pos) (tMkO C (spX1 X.K C f) [] (tMono ta)) :=
    pmk_oex (k := 1) (dvs := []) (ds := []) E.ox iC tI F (g.rm.mono (by omega)) hb .nil (fun _ _ _ _ _ _ _ h => h.elim) hg E.gC (pa_mono ha) hdb he hpl
  intro pins s σ H Q I h
  refine main pins s σ H Q I ⟨_, h, fun vs H1 hh => ?_⟩
  obtain ⟨v, rfl, q⟩ := hh
  refine ⟨by show 1 ≤ 1000; decide, fun a ha' => ⟨a, v, rfl, upd_same, fun d hd hne => ⟨rfl, d, [(f, v)], upd_same, ?_, ?_, ?_⟩⟩⟩
  · rw [upd_ne hne, upd_same]
  · rw [upd_ne hne] at hd
    exact hd
  · rw [upd_del ha' hne]
    refine q d ?_
    rw [upd_ne hne] at hd
    exact hd
end

/-! ### isinstance in an except suite; the clause's class told by the reading -/
def rIsPc (K : PySem.W.Frag) (D C a : Addr) (cls : Value) : List V → Hp → VK → Prop := fun xs H Q => cls = .ref D ∧ rIsP K D C a xs H Q
theorem call_isPc {X : Cx} {a D C : Addr} {cls : Value} {d : Option Addr} {oe : Obj} {pn : List (Addr × Obj)} (hz : Zc cls d oe) : CallR (X.suite a ((a, oe) :: pn)) (.builtin "isinstance") (rIsPc X.K D C a cls) := by
  intro pins s σ H xs us Q I r h
  obtain ⟨rfl, h⟩ := h
  exact call_isP hz pins s σ H xs us Q I r h
def rIsEc (K : PySem.W.Frag) (D a : Addr) (cls : Value) (d : Option Addr) : List V → Hp → VK → Prop := fun xs H Q => cls = .ref D ∧ d = none ∧ rIsE K D a xs H Q
theorem call_isEc {X : Cx} {a D : Addr} {cls : Value} {d : Option Addr} {oe : Obj} {pn : List (Addr × Obj)} (T : ExcC X.K D) (hz : Zc cls d oe) (hf : ∃ vs, oe.data = .fields vs) : CallR (X.suite a ((a, oe) :: pn)) (.builtin "isinstance") (rIsEc X.K D a cls d) := by
  intro pins s σ H xs us Q I r h
  obtain ⟨rfl, rfl, h⟩ := h
  exact call_isE T hz hf pins s σ H xs us Q I r h
/-- the class that an except clause names is an own one -/
theorem nm {X : Cx} {x : Str} {C : Addr} (h : X.mg x = some (.ref C)) (hg : Gl X x := by rfl) (hd : (x == ("__debug__" : Str)) = false := by decide) : Names X x (.ref C) := ⟨hg, hd, .inl h⟩
end U

set_option Elab.async false
set_option linter.all false
set_option maxRecDepth 100000
set_option maxHeartbeats 4000000
namespace U
open PySem PySem.Spec PyProof.Rows L2

/-! ### comprehensions: what a comprehension gives, by its items -/
theorem mapI_length {α : Type} (f : Nat → α) (n : Nat) : ((List.range n).map f).length = n := by simp
theorem mapI_succ {α : Type} (f : Nat → α) (n : Nat) : (List.range (n + 1)).map f = (List.range n).map f ++ [f n] := by
  rw [List.range_succ, List.map_append]
  rfl
/-- a list's items, one by one, in a relation -/
def Rel (R : Nat → V → Hp → Prop) (ys : List V) (H : Hp) : Prop := ∀ i y, ys[i]? = some y → R i y H
theorem line_of {n : Nat} (h : n ≤ 1000000) : n < sizeLine := Nat.lt_of_le_of_lt h (by rw [sizeLine_eq]; decide)
def LcG (J : It) (g : TG) (tt : TT) (te : TE) (vs : List Nat) (σ : L2.St) (H1 : Hp) (Q : VK) : Prop := ∀ D, H1 D = none → ∃ W : Nat → Nat → Hp → Prop, (∃ m, W 0 m (upd H1 D (.lst []))) ∧ ∀ i m H, W i m H →
      (J.stop i H ∧ Q (.ref D) H) ∨ (J.go i H ∧ ∃ Nx : Hp → Prop, (∀ H', Nx H' → ∃ m', m' < m ∧ W (i + 1) m' H') ∧ ∀ x H', J.yld i H x H' → g x (wipe σ vs) H' fun σ2 H2 => wipe σ2 vs = wipe σ vs ∧ tt σ2 H2 fun b H3 =>
        if b = true then te σ2 H3 fun y H4 => ∃ acc, H4 D = some (.lst acc) ∧ acc.length < sizeLine ∧ Nx (upd H4 D (.lst (acc ++ [y]))) else Nx H3)
section
variable {J : It} {n : Nat} {G : Hp → Prop} {Y : Nat → Hp → V → Hp → Prop} {g : TG} {tt : TT} {te : TE} {vs : List Nat} {σ : L2.St} {H1 : Hp} {Q : VK}
/-- no test, each item a value known ahead -/
theorem r_lcF (w : Walk J n G Y) (f : Nat → V) (hn : n ≤ 1000000) (hG : ∀ H', Ex H1 H' → G H')
    (he : ∀ (i : Nat) (x : V) (H H' : Hp) (P : VK), i < n → Ex H1 H → Y i H x H' → (∀ H4, Ex H H4 → P (f i) H4) → g x (wipe σ vs) H' fun σ2 H2 => wipe σ2 vs = wipe σ vs ∧ te σ2 H2 P)
    (hd : ∀ D H', H1 D = none → Ex H1 H' → H' D = some (.lst ((List.range n).map f)) → Q (.ref D) H') :
    LcG J g tYes te vs σ H1 Q := by
  intro D hD
  refine lc_it w (fun i H => Ex H1 H ∧ H D = some (.lst ((List.range i).map f))) ⟨Evl.Ex.new hD, upd_same⟩ (fun i H _ p => hG H p.1) (fun i x H H' hi p y => ?_) (fun H p => hd D H hD p.1 p.2)
  simp only [tYes, if_true]
  refine he i x H H' _ hi p.1 y fun H4 e => ⟨_, e D _ p.2, ?_, Evl.Ex.mut (p.1.trans e) hD, ?_⟩
  · rw [mapI_length]
    exact line_of (by omega)
  · rw [mapI_succ]
    exact upd_same
/-- no test, each item in a relation that a growing heap keeps -/
theorem r_lcR (w : Walk J n G Y) (R : Nat → V → Hp → Prop) (hR : ∀ i y H H', Ex H H' → R i y H → R i y H') (hn : n ≤ 1000000) (hG : ∀ H', Ex H1 H' → G H')
    (he : ∀ (i : Nat) (x : V) (H H' H0 : Hp) (P : VK), i < n → Ex H1 H0 → Ex H0 H → Y i H x H' → (∀ y H4, Ex H H4 → (∀ D o, H0 D = none → R i y (upd H4 D o)) → P y H4) → g x (wipe σ vs) H' fun σ2 H2 => wipe σ2 vs = wipe σ vs ∧ te σ2 H2 P)
    (hd : ∀ D ys H', H1 D = none → Ex H1 H' → ys.length = n → H' D = some (.lst ys) → Rel R ys H' → Q (.ref D) H') : True := trivial
end
theorem Ex_drop {H H' : Hp} {D : Addr} (hD : H D = none) (e : Ex H H') : Ex H (del H' D) := fun a o h => by
  rw [del_ne (ne_of_none h hD)]
  exact e a o h
/-! ### loops -/
def ForG (J : It) (g : TG) (tb : TS) (D : Ends) (σ : L2.St) (H : Hp) : Prop := ∃ W : Nat → Nat → L2.St → Hp → Prop, (∃ m, W 0 m σ H) ∧ ∀ i m σ H, W i m σ H →
  (J.stop i H ∧ D.nx σ H) ∨ (J.go i H ∧ ∃ N : L2.St → Hp → Prop, (∀ σ' H', N σ' H' → ∃ m', m' < m ∧ W (i + 1) m' σ' H') ∧ ∀ x H', J.yld i H x H' → g x σ H' fun σ2 H2 => tb { D with nx := N, ct := N, bk := D.nx } σ2 H2)
section
variable {K : PySem.W.Frag} {σ : L2.St} {H : Hp} {Q : VK} {D : Ends} {te : TE} {ta : TA} {tb : TS} {g : TG} {xs : List V} {a : Addr} {i j : Int}
theorem r_forL (q : te σ H fun x H1 => ∃ a, x = .ref a ∧ (∃ xs, SqL K H1 a xs) ∧ ForG (Itl K a) g tb D σ H1) : tFor (iList K te) g tb D σ H := q
theorem r_forT (q : te σ H fun x H1 => ∃ a, x = .ref a ∧ (∃ xs, SqT K H1 a xs) ∧ ForG (Itt K a) g tb D σ H1) : tFor (iTup K te) g tb D σ H := q
theorem r_forS (q : te σ H fun v H1 => ∃ x, v = .str x ∧ ForG (Its x) g tb D σ H1) : tFor (iStr te) g tb D σ H := q
theorem r_forR1 (q : ta σ H fun vs H1 => ∃ j : Int, vs = [.int j] ∧ -(2 ^ 62) ≤ j ∧ j < 2 ^ 62 ∧ ForG (Itr 0 j.toNat) g tb D σ H1) : tFor (iRng1 ta) g tb D σ H := q
theorem r_forR2 (q : ta σ H fun vs H1 => ∃ i j : Int, vs = [.int i, .int j] ∧ (-(2 ^ 62) ≤ i ∧ i < 2 ^ 62 ∧ -(2 ^ 62) ≤ j ∧ j < 2 ^ 62) ∧ ForG (Itr i (j - i).toNat) g tb D σ H1) : tFor (iRng2 ta) g tb D σ H := q
theorem r_gL {B : Addr → Prop} (h : SqL K H a xs) (q : B a) : ∃ a', V.ref a = .ref a' ∧ (∃ xs, SqL K H a' xs) ∧ B a' := ⟨a, rfl, ⟨xs, h⟩, q⟩
theorem r_gT {B : Addr → Prop} (h : SqT K H a xs) (q : B a) : ∃ a', V.ref a = .ref a' ∧ (∃ xs, SqT K H a' xs) ∧ B a' := ⟨a, rfl, ⟨xs, h⟩, q⟩
theorem r_gS {z : Str} {B : Str → Prop} (q : B z) : ∃ x, V.str z = .str x ∧ B x := ⟨z, rfl, q⟩
theorem r_gR1 {B : Int → Prop} (h : -(2 ^ 62) ≤ j ∧ j < 2 ^ 62) (q : B j) : ∃ j' : Int, [V.int j] = [.int j'] ∧ -(2 ^ 62) ≤ j' ∧ j' < 2 ^ 62 ∧ B j' := ⟨j, rfl, h.1, h.2, q⟩
theorem r_gR2 {B : Int → Int → Prop} (h : (-(2 ^ 62) ≤ i ∧ i < 2 ^ 62) ∧ -(2 ^ 62) ≤ j ∧ j < 2 ^ 62) (q : B i j) : ∃ i' j' : Int, [V.int i, V.int j] = [.int i', .int j'] ∧ (-(2 ^ 62) ≤ i' ∧ i' < 2 ^ 62 ∧ -(2 ^ 62) ≤ j' ∧ j' < 2 ^ 62) ∧ B i' j' :=
  ⟨i, j, rfl, ⟨h.1.1, h.1.2, h.2.1, h.2.2⟩, q⟩
theorem r_lc {wi : TI} {tt : TT} {vs : List Nat} (q : wi σ H fun J H1 => LcG J g tt te vs σ H1 Q) : tLc wi g tt te vs σ H Q := q
theorem r_iL {R : It → Hp → Prop} (q : te σ H fun x H1 => ∃ a, x = .ref a ∧ (∃ xs, SqL K H1 a xs) ∧ R (Itl K a) H1) : iList K te σ H R := q
theorem r_iT {R : It → Hp → Prop} (q : te σ H fun x H1 => ∃ a, x = .ref a ∧ (∃ xs, SqT K H1 a xs) ∧ R (Itt K a) H1) : iTup K te σ H R := q
theorem r_iS {R : It → Hp → Prop} (q : te σ H fun v H1 => ∃ x, v = .str x ∧ R (Its x) H1) : iStr te σ H R := q
theorem r_iR1 {R : It → Hp → Prop} (q : ta σ H fun vs H1 => ∃ j : Int, vs = [.int j] ∧ -(2 ^ 62) ≤ j ∧ j < 2 ^ 62 ∧ R (Itr 0 j.toNat) H1) : iRng1 ta σ H R := q
theorem r_iR2 {R : It → Hp → Prop} (q : ta σ H fun vs H1 => ∃ i j : Int, vs = [.int i, .int j] ∧ (-(2 ^ 62) ≤ i ∧ i < 2 ^ 62 ∧ -(2 ^ 62) ≤ j ∧ j < 2 ^ 62) ∧ R (Itr i (j - i).toNat) H1) : iRng2 ta σ H R := q
theorem r_iR3 {R : It → Hp → Prop} (q : ta σ H fun vs H1 => ∃ (i j c : Int) (n : Nat), vs = [.int i, .int j, .int c] ∧ RgC i j c n ∧ R (Itc i c n) H1) : iRng3 ta σ H R := q
theorem r_mkx {C : Addr} {f : Str} {QX : XK} (q : ta σ H fun vs H1 => ∃ v, vs = [v] ∧ ∀ d, H1 d = none → QX (.ref C) (some d) (upd H1 d (.xd [(f, v)]))) : tMkX C f ta σ H QX := q
theorem r_mkG {v : V} {B : V → Prop} (q : B v) : ∃ v', [v] = [v'] ∧ B v' := ⟨v, rfl, q⟩
theorem if_nf {A B : Prop} (q : A) : if (!false) = true then A else B := q
theorem if_nt {A B : Prop} (q : B) : if (!true) = true then A else B := q
theorem r_all {bs : List Bool} (h : SqL K H a (bs.map V.bl)) (q : Q (.bl (bs.all id)) H) : rAll K [.ref a] H Q := ⟨a, bs, rfl, h, q⟩
theorem r_any {bs : List Bool} (h : SqL K H a (bs.map V.bl)) (q : Q (.bl (bs.any id)) H) : rAny K [.ref a] H Q := ⟨a, bs, rfl, h, q⟩
/-- a for over a list that the body leaves as it is: the invariant by the turn -/
theorem f_list (Pv : Nat → L2.St → Hp → Prop) (h0 : Pv 0 σ H) (hl : ∀ i σ H, i ≤ xs.length → Pv i σ H → SqL K H a xs)
    (hs : ∀ i x σ H, xs[i]? = some x → Pv i σ H → g x σ H fun σ2 H2 => tb { D with nx := Pv (i + 1), ct := Pv (i + 1), bk := D.nx } σ2 H2) (hd : ∀ σ H, Pv xs.length σ H → D.nx σ H) : ForG (Itl K a) g tb D σ H := for_list Pv h0 hl hs hd
theorem f_it {J : It} {n : Nat} {G : Hp → Prop} {Y : Nat → Hp → V → Hp → Prop} (w : Walk J n G Y) (Pv : Nat → L2.St → Hp → Prop) (h0 : Pv 0 σ H) (hG : ∀ i σ H, i ≤ n → Pv i σ H → G H)
    (hs : ∀ i x σ H H', i < n → Pv i σ H → Y i H x H' → g x σ H' fun σ2 H2 => tb { D with nx := Pv (i + 1), ct := Pv (i + 1), bk := D.nx } σ2 H2) (hd : ∀ σ H, Pv n σ H → D.nx σ H) : ForG J g tb D σ H := for_it w Pv h0 hG hs hd
theorem f_range {lo : Int} {n : Nat} (Pv : Nat → L2.St → Hp → Prop) (h0 : Pv 0 σ H)
    (hs : ∀ i σ H, i < n → Pv i σ H → g (.int (lo + i)) σ H fun σ2 H2 => tb { D with nx := Pv (i + 1), ct := Pv (i + 1), bk := D.nx } σ2 H2) (hd : ∀ σ H, Pv n σ H → D.nx σ H) : ForG (Itr lo n) g tb D σ H := for_range Pv h0 hs hd
end
theorem hp_ne {H : Hp} {a b : Addr} {o : HO} {r : Option HO} (h : b ≠ a) (q : H b = r) : upd H a o b = r := (upd_ne h).trans q
theorem hp_ex {H H' : Hp} {a : Addr} {o : HO} (e : Ex H H') (q : H a = some o) : H' a = some o := e a o q
theorem r_cut {t u : TS} {D : Ends} {σ : L2.St} {H : Hp} (M : L2.St → Hp → Prop) (h : t { D with nx := M } σ H) (k : ∀ σ' H', M σ' H' → u D σ' H') : Evl.tCut t u D σ H := ⟨M, h, k⟩
theorem bx {b : Bool} {P : Prop} (h1 : b = true) (h2 : b = false) : P := Bool.noConfusion (h1.symm.trans h2)
section
variable {K : PySem.W.Frag} {H : Hp} {Q : VK}
theorem r_neSame {x y : V} {d : PyData} (hx : Dp K H x d) (hy : Dp K H y d) (s : SeqAt.shaped d = true) (q : Q (.bl false) H) : rNeD K x y H Q := ⟨d, d, hx, hy, s, s, by rw [SeqAt.eqv_refl d (SeqAt.canLay_of_shaped s)]; exact q⟩
theorem r_eqSame {x y : V} {d : PyData} (hx : Dp K H x d) (hy : Dp K H y d) (s : SeqAt.shaped d = true) (q : Q (.bl true) H) : rEqD K x y H Q := ⟨d, d, hx, hy, s, s, by rw [SeqAt.eqv_refl d (SeqAt.canLay_of_shaped s)]; exact q⟩
theorem r_gLst {a : Addr} {xs : List V} {n : Nat} {g : TGs} {σ : L2.St} {R : L2.St → Hp → Prop} (h : SqL K H a xs) (l : xs.length = n) (q : g xs σ H R) : gLst K n g (.ref a) σ H R := ⟨a, xs, rfl, h, l, q⟩
theorem r_slL {a : Addr} {xs : List V} {lo hi : Option Int} (h : SqL K H a xs) (q : ∀ p, H p = none → Q (.ref p) (upd H p (.lst (cutV xs lo hi)))) : rSlL K (.ref a) lo hi H Q := ⟨a, xs, rfl, h, q⟩
end
theorem cutV_len (xs : List V) (lo hi : Option Int) : (cutV xs lo hi).length ≤ xs.length := by
  unfold cutV
  rw [List.length_take, List.length_drop]
  omega
theorem cutV_mem {xs : List V} {lo hi : Option Int} {x : V} (h : x ∈ cutV xs lo hi) : x ∈ xs := List.mem_of_mem_drop (List.mem_of_mem_take h)
end U

set_option Elab.async false
set_option linter.all false
set_option maxRecDepth 100000
set_option maxHeartbeats 4000000
namespace U
open PySem PySem.Spec PyProof.Rows L2
/-- where the classes stand -/
structure Adr where
  DatabaseError : Addr
  BadBlock : Addr
  DiskFull : Addr
  PowerLost : Addr
  Journal : Addr
  Disk : Addr
structure TxtP (K : PySem.W.Frag) (A : Adr) : Prop where
  c_Disk : Cls K A.Disk
  n_Disk_size : NoAttr K A.Disk "size"
  n_Disk_blocks : NoAttr K A.Disk "blocks"
  n_Disk_queue : NoAttr K A.Disk "queue"
  n_Disk_left : NoAttr K A.Disk "left"
  n_Disk_down : NoAttr K A.Disk "down"
  c_Journal : Cls K A.Journal
  n_Journal_disk : NoAttr K A.Journal "disk"
  n_Journal_area : NoAttr K A.Journal "area"
  n_Journal_first : NoAttr K A.Journal "first"
  n_Journal_next : NoAttr K A.Journal "next"
  n_Journal_generation : NoAttr K A.Journal "generation"
  n_Journal_number : NoAttr K A.Journal "number"
  n_Journal_image_number : NoAttr K A.Journal "image_number"
  n_Journal_image : NoAttr K A.Journal "image"
  n_Journal_kept : NoAttr K A.Journal "kept"
  m_DiskFull_DiskFull : PySem.W.exmOne K (.ref A.DiskFull) (.ref A.DiskFull) = some true
  i_DiskFull_DatabaseError : PySem.W.isIn K (.ref A.DiskFull) A.DatabaseError = true
  i_DiskFull_PowerLost : PySem.W.kitOne K (.ref A.DiskFull) (.ref A.PowerLost) = some false
structure Txt (K : PySem.W.Frag) (mg : Str → Option Value) (A : Adr) : Prop where
  pure : TxtP K A
  b_abs : mg "abs" = none
  b_all : mg "all" = none
  b_int : mg "int" = none
  b_isinstance : mg "isinstance" = none
  b_len : mg "len" = none
  b_list : mg "list" = none
  b_max : mg "max" = none
  b_ord : mg "ord" = none
  b_range : mg "range" = none
  b_repr : mg "repr" = none
  b_str : mg "str" = none
  e_DiskFull : ExcT K mg "DiskFull" A.DiskFull
  e_PowerLost : ExcT K mg "PowerLost" A.PowerLost
  ec_DiskFull : ExcC K A.DiskFull
  g_DiskFull : mg "DiskFull" = some (.ref A.DiskFull)
  k_DIGITS : ∃ u, mg "DIGITS" = some u ∧ RelV (.str "0123456789") u
  k_DatabaseError : ∃ u, mg "DatabaseError" = some u ∧ RelV (.ref A.DatabaseError) u
  k_MOST_CHARACTERS : ∃ u, mg "MOST_CHARACTERS" = some u ∧ RelV (.int 64) u
  k_PIECE : ∃ u, mg "PIECE" = some u ∧ RelV (.int 32) u
  k_PowerLost : ∃ u, mg "PowerLost" = some u ∧ RelV (.ref A.PowerLost) u
  k_ROOT_WORD : ∃ u, mg "ROOT_WORD" = some u ∧ RelV (.str "root ") u
theorem Txt.c_Disk {K : PySem.W.Frag} {mg : Str → Option Value} {A : Adr} (T : Txt K mg A) : Cls K A.Disk := T.pure.c_Disk
theorem Txt.c_Journal {K : PySem.W.Frag} {mg : Str → Option Value} {A : Adr} (T : Txt K mg A) : Cls K A.Journal := T.pure.c_Journal
def oDisk (A : Adr) (dx : Addr) (vsize vblocks vqueue vleft vdown : V) : HO := .ins A.Disk dx [("size", vsize), ("blocks", vblocks), ("queue", vqueue), ("left", vleft), ("down", vdown)]
theorem g_Disk_size {K : PySem.W.Frag} {A : Adr} (T : TxtP K A) {H : Hp} {p dx : Addr} {vsize vblocks vqueue vleft vdown : V} {R : V → Prop} (h : H p = some (oDisk A dx vsize vblocks vqueue vleft vdown)) (q : R vsize) :
    ∃ a C dx fs v, V.ref p = .ref a ∧ H a = some (.ins C dx fs) ∧ Cls K C ∧ NoAttr K C "size" ∧ fs.lookup ("size" : Str) = some v ∧ R v := r_fldG h T.c_Disk T.n_Disk_size (by kernel_rfl) q
theorem w_Disk_size {K : PySem.W.Frag} {A : Adr} (T : TxtP K A) {H : Hp} {p dx : Addr} {vsize vblocks vqueue vleft vdown : V} {y : V} {D : Ends} {σ : L2.St} (h : H p = some (oDisk A dx vsize vblocks vqueue vleft vdown)) (q : D.nx σ (upd H p (oDisk A dx y vblocks vqueue vleft vdown))) :
    ∃ a C dx fs, V.ref p = .ref a ∧ H a = some (.ins C dx fs) ∧ Cls K C ∧ NoAttr K C "size" ∧ fs.length < 1000 ∧ D.nx σ (upd H a (.ins C dx (putF "size" y fs))) := r_sFldG h T.c_Disk T.n_Disk_size (by show 5 < 1000; decide) (by kernel_rfl) q
theorem g_Disk_blocks {K : PySem.W.Frag} {A : Adr} (T : TxtP K A) {H : Hp} {p dx : Addr} {vsize vblocks vqueue vleft vdown : V} {R : V → Prop} (h : H p = some (oDisk A dx vsize vblocks vqueue vleft vdown)) (q : R vblocks) :
    ∃ a C dx fs v, V.ref p = .ref a ∧ H a = some (.ins C dx fs) ∧ Cls K C ∧ NoAttr K C "blocks" ∧ fs.lookup ("blocks" : Str) = some v ∧ R v := r_fldG h T.c_Disk T.n_Disk_blocks (by kernel_rfl) q
theorem w_Disk_blocks {K : PySem.W.Frag} {A : Adr} (T : TxtP K A) {H : Hp} {p dx : Addr} {vsize vblocks vqueue vleft vdown : V} {y : V} {D : Ends} {σ : L2.St} (h : H p = some (oDisk A dx vsize vblocks vqueue vleft vdown)) (q : D.nx σ (upd H p (oDisk A dx vsize y vqueue vleft vdown))) :
    ∃ a C dx fs, V.ref p = .ref a ∧ H a = some (.ins C dx fs) ∧ Cls K C ∧ NoAttr K C "blocks" ∧ fs.length < 1000 ∧ D.nx σ (upd H a (.ins C dx (putF "blocks" y fs))) := r_sFldG h T.c_Disk T.n_Disk_blocks (by show 5 < 1000; decide) (by kernel_rfl) q
theorem g_Disk_queue {K : PySem.W.Frag} {A : Adr} (T : TxtP K A) {H : Hp} {p dx : Addr} {vsize vblocks vqueue vleft vdown : V} {R : V → Prop} (h : H p = some (oDisk A dx vsize vblocks vqueue vleft vdown)) (q : R vqueue) :
    ∃ a C dx fs v, V.ref p = .ref a ∧ H a = some (.ins C dx fs) ∧ Cls K C ∧ NoAttr K C "queue" ∧ fs.lookup ("queue" : Str) = some v ∧ R v := r_fldG h T.c_Disk T.n_Disk_queue (by kernel_rfl) q
theorem w_Disk_queue {K : PySem.W.Frag} {A : Adr} (T : TxtP K A) {H : Hp} {p dx : Addr} {vsize vblocks vqueue vleft vdown : V} {y : V} {D : Ends} {σ : L2.St} (h : H p = some (oDisk A dx vsize vblocks vqueue vleft vdown)) (q : D.nx σ (upd H p (oDisk A dx vsize vblocks y vleft vdown))) :
    ∃ a C dx fs, V.ref p = .ref a ∧ H a = some (.ins C dx fs) ∧ Cls K C ∧ NoAttr K C "queue" ∧ fs.length < 1000 ∧ D.nx σ (upd H a (.ins C dx (putF "queue" y fs))) := r_sFldG h T.c_Disk T.n_Disk_queue (by show 5 < 1000; decide) (by kernel_rfl) q
theorem g_Disk_left {K : PySem.W.Frag} {A : Adr} (T : TxtP K A) {H : Hp} {p dx : Addr} {vsize vblocks vqueue vleft vdown : V} {R : V → Prop} (h : H p = some (oDisk A dx vsize vblocks vqueue vleft vdown)) (q : R vleft) :
    ∃ a C dx fs v, V.ref p = .ref a ∧ H a = some (.ins C dx fs) ∧ Cls K C ∧ NoAttr K C "left" ∧ fs.lookup ("left" : Str) = some v ∧ R v := r_fldG h T.c_Disk T.n_Disk_left (by kernel_rfl) q
theorem w_Disk_left {K : PySem.W.Frag} {A : Adr} (T : TxtP K A) {H : Hp} {p dx : Addr} {vsize vblocks vqueue vleft vdown : V} {y : V} {D : Ends} {σ : L2.St} (h : H p = some (oDisk A dx vsize vblocks vqueue vleft vdown)) (q : D.nx σ (upd H p (oDisk A dx vsize vblocks vqueue y vdown))) :
    ∃ a C dx fs, V.ref p = .ref a ∧ H a = some (.ins C dx fs) ∧ Cls K C ∧ NoAttr K C "left" ∧ fs.length < 1000 ∧ D.nx σ (upd H a (.ins C dx (putF "left" y fs))) := r_sFldG h T.c_Disk T.n_Disk_left (by show 5 < 1000; decide) (by kernel_rfl) q
theorem g_Disk_down {K : PySem.W.Frag} {A : Adr} (T : TxtP K A) {H : Hp} {p dx : Addr} {vsize vblocks vqueue vleft vdown : V} {R : V → Prop} (h : H p = some (oDisk A dx vsize vblocks vqueue vleft vdown)) (q : R vdown) :
    ∃ a C dx fs v, V.ref p = .ref a ∧ H a = some (.ins C dx fs) ∧ Cls K C ∧ NoAttr K C "down" ∧ fs.lookup ("down" : Str) = some v ∧ R v := r_fldG h T.c_Disk T.n_Disk_down (by kernel_rfl) q
theorem w_Disk_down {K : PySem.W.Frag} {A : Adr} (T : TxtP K A) {H : Hp} {p dx : Addr} {vsize vblocks vqueue vleft vdown : V} {y : V} {D : Ends} {σ : L2.St} (h : H p = some (oDisk A dx vsize vblocks vqueue vleft vdown)) (q : D.nx σ (upd H p (oDisk A dx vsize vblocks vqueue vleft y))) :
    ∃ a C dx fs, V.ref p = .ref a ∧ H a = some (.ins C dx fs) ∧ Cls K C ∧ NoAttr K C "down" ∧ fs.length < 1000 ∧ D.nx σ (upd H a (.ins C dx (putF "down" y fs))) := r_sFldG h T.c_Disk T.n_Disk_down (by show 5 < 1000; decide) (by kernel_rfl) q
theorem w0_Disk_size {K : PySem.W.Frag} {A : Adr} (T : TxtP K A) {H : Hp} {p dx : Addr} { y : V} {D : Ends} {σ : L2.St} (h : H p = some (.ins A.Disk dx [])) (q : D.nx σ (upd H p (.ins A.Disk dx [("size", y)]))) :
    ∃ a C dx fs, V.ref p = .ref a ∧ H a = some (.ins C dx fs) ∧ Cls K C ∧ NoAttr K C "size" ∧ fs.length < 1000 ∧ D.nx σ (upd H a (.ins C dx (putF "size" y fs))) := r_sFldG (fs2 := [("size", y)]) h T.c_Disk T.n_Disk_size (by show 0 < 1000; decide) (by kernel_rfl) q
theorem w0_Disk_blocks {K : PySem.W.Frag} {A : Adr} (T : TxtP K A) {H : Hp} {p dx : Addr} {vsize y : V} {D : Ends} {σ : L2.St} (h : H p = some (.ins A.Disk dx [("size", vsize)])) (q : D.nx σ (upd H p (.ins A.Disk dx [("size", vsize), ("blocks", y)]))) :
    ∃ a C dx fs, V.ref p = .ref a ∧ H a = some (.ins C dx fs) ∧ Cls K C ∧ NoAttr K C "blocks" ∧ fs.length < 1000 ∧ D.nx σ (upd H a (.ins C dx (putF "blocks" y fs))) := r_sFldG (fs2 := [("size", vsize), ("blocks", y)]) h T.c_Disk T.n_Disk_blocks (by show 1 < 1000; decide) (by kernel_rfl) q
theorem w0_Disk_queue {K : PySem.W.Frag} {A : Adr} (T : TxtP K A) {H : Hp} {p dx : Addr} {vsize vblocks y : V} {D : Ends} {σ : L2.St} (h : H p = some (.ins A.Disk dx [("size", vsize), ("blocks", vblocks)])) (q : D.nx σ (upd H p (.ins A.Disk dx [("size", vsize), ("blocks", vblocks), ("queue", y)]))) :
    ∃ a C dx fs, V.ref p = .ref a ∧ H a = some (.ins C dx fs) ∧ Cls K C ∧ NoAttr K C "queue" ∧ fs.length < 1000 ∧ D.nx σ (upd H a (.ins C dx (putF "queue" y fs))) := r_sFldG (fs2 := [("size", vsize), ("blocks", vblocks), ("queue", y)]) h T.c_Disk T.n_Disk_queue (by show 2 < 1000; decide) (by kernel_rfl) q
theorem w0_Disk_left {K : PySem.W.Frag} {A : Adr} (T : TxtP K A) {H : Hp} {p dx : Addr} {vsize vblocks vqueue y : V} {D : Ends} {σ : L2.St} (h : H p = some (.ins A.Disk dx [("size", vsize), ("blocks", vblocks), ("queue", vqueue)])) (q : D.nx σ (upd H p (.ins A.Disk dx [("size", vsize), ("blocks", vblocks), ("queue", vqueue), ("left", y)]))) :
    ∃ a C dx fs, V.ref p = .ref a ∧ H a = some (.ins C dx fs) ∧ Cls K C ∧ NoAttr K C "left" ∧ fs.length < 1000 ∧ D.nx σ (upd H a (.ins C dx (putF "left" y fs))) := r_sFldG (fs2 := [("size", vsize), ("blocks", vblocks), ("queue", vqueue), ("left", y)]) h T.c_Disk T.n_Disk_left (by show 3 < 1000; decide) (by kernel_rfl) q
theorem w0_Disk_down {K : PySem.W.Frag} {A : Adr} (T : TxtP K A) {H : Hp} {p dx : Addr} {vsize vblocks vqueue vleft y : V} {D : Ends} {σ : L2.St} (h : H p = some (.ins A.Disk dx [("size", vsize), ("blocks", vblocks), ("queue", vqueue), ("left", vleft)])) (q : D.nx σ (upd H p (oDisk A dx vsize vblocks vqueue vleft y))) :
    ∃ a C dx fs, V.ref p = .ref a ∧ H a = some (.ins C dx fs) ∧ Cls K C ∧ NoAttr K C "down" ∧ fs.length < 1000 ∧ D.nx σ (upd H a (.ins C dx (putF "down" y fs))) := r_sFldG (fs2 := [("size", vsize), ("blocks", vblocks), ("queue", vqueue), ("left", vleft), ("down", y)]) h T.c_Disk T.n_Disk_down (by show 4 < 1000; decide) (by kernel_rfl) q
theorem mm_Disk_spend {A : Adr} {H : Hp} {p dx : Addr} {vsize vblocks vqueue vleft vdown : V} {B : Prop} (h : H p = some (oDisk A dx vsize vblocks vqueue vleft vdown)) (q : B) :
    ∃ a dx fs, V.ref p = .ref a ∧ H a = some (.ins A.Disk dx fs) ∧ fs.lookup ("spend" : Str) = none ∧ B := r_methG h (by kernel_rfl) q
theorem mm_Disk_block {A : Adr} {H : Hp} {p dx : Addr} {vsize vblocks vqueue vleft vdown : V} {B : Prop} (h : H p = some (oDisk A dx vsize vblocks vqueue vleft vdown)) (q : B) :
    ∃ a dx fs, V.ref p = .ref a ∧ H a = some (.ins A.Disk dx fs) ∧ fs.lookup ("block" : Str) = none ∧ B := r_methG h (by kernel_rfl) q
theorem mm_Disk_write {A : Adr} {H : Hp} {p dx : Addr} {vsize vblocks vqueue vleft vdown : V} {B : Prop} (h : H p = some (oDisk A dx vsize vblocks vqueue vleft vdown)) (q : B) :
    ∃ a dx fs, V.ref p = .ref a ∧ H a = some (.ins A.Disk dx fs) ∧ fs.lookup ("write" : Str) = none ∧ B := r_methG h (by kernel_rfl) q
theorem mm_Disk_sync {A : Adr} {H : Hp} {p dx : Addr} {vsize vblocks vqueue vleft vdown : V} {B : Prop} (h : H p = some (oDisk A dx vsize vblocks vqueue vleft vdown)) (q : B) :
    ∃ a dx fs, V.ref p = .ref a ∧ H a = some (.ins A.Disk dx fs) ∧ fs.lookup ("sync" : Str) = none ∧ B := r_methG h (by kernel_rfl) q
theorem mm_Disk_waiting {A : Adr} {H : Hp} {p dx : Addr} {vsize vblocks vqueue vleft vdown : V} {B : Prop} (h : H p = some (oDisk A dx vsize vblocks vqueue vleft vdown)) (q : B) :
    ∃ a dx fs, V.ref p = .ref a ∧ H a = some (.ins A.Disk dx fs) ∧ fs.lookup ("waiting" : Str) = none ∧ B := r_methG h (by kernel_rfl) q
def oJournal (A : Adr) (dx : Addr) (vdisk varea vfirst vnext vgeneration vnumber vimage_number vimage vkept : V) : HO := .ins A.Journal dx [("disk", vdisk), ("area", varea), ("first", vfirst), ("next", vnext), ("generation", vgeneration), ("number", vnumber), ("image_number", vimage_number), ("image", vimage), ("kept", vkept)]
theorem g_Journal_disk {K : PySem.W.Frag} {A : Adr} (T : TxtP K A) {H : Hp} {p dx : Addr} {vdisk varea vfirst vnext vgeneration vnumber vimage_number vimage vkept : V} {R : V → Prop} (h : H p = some (oJournal A dx vdisk varea vfirst vnext vgeneration vnumber vimage_number vimage vkept)) (q : R vdisk) :
    ∃ a C dx fs v, V.ref p = .ref a ∧ H a = some (.ins C dx fs) ∧ Cls K C ∧ NoAttr K C "disk" ∧ fs.lookup ("disk" : Str) = some v ∧ R v := r_fldG h T.c_Journal T.n_Journal_disk (by kernel_rfl) q
theorem w_Journal_disk {K : PySem.W.Frag} {A : Adr} (T : TxtP K A) {H : Hp} {p dx : Addr} {vdisk varea vfirst vnext vgeneration vnumber vimage_number vimage vkept : V} {y : V} {D : Ends} {σ : L2.St} (h : H p = some (oJournal A dx vdisk varea vfirst vnext vgeneration vnumber vimage_number vimage vkept)) (q : D.nx σ (upd H p (oJournal A dx y varea vfirst vnext vgeneration vnumber vimage_number vimage vkept))) :
    ∃ a C dx fs, V.ref p = .ref a ∧ H a = some (.ins C dx fs) ∧ Cls K C ∧ NoAttr K C "disk" ∧ fs.length < 1000 ∧ D.nx σ (upd H a (.ins C dx (putF "disk" y fs))) := r_sFldG h T.c_Journal T.n_Journal_disk (by show 9 < 1000; decide) (by kernel_rfl) q
theorem g_Journal_area {K : PySem.W.Frag} {A : Adr} (T : TxtP K A) {H : Hp} {p dx : Addr} {vdisk varea vfirst vnext vgeneration vnumber vimage_number vimage vkept : V} {R : V → Prop} (h : H p = some (oJournal A dx vdisk varea vfirst vnext vgeneration vnumber vimage_number vimage vkept)) (q : R varea) :
    ∃ a C dx fs v, V.ref p = .ref a ∧ H a = some (.ins C dx fs) ∧ Cls K C ∧ NoAttr K C "area" ∧ fs.lookup ("area" : Str) = some v ∧ R v := r_fldG h T.c_Journal T.n_Journal_area (by kernel_rfl) q
theorem w_Journal_area {K : PySem.W.Frag} {A : Adr} (T : TxtP K A) {H : Hp} {p dx : Addr} {vdisk varea vfirst vnext vgeneration vnumber vimage_number vimage vkept : V} {y : V} {D : Ends} {σ : L2.St} (h : H p = some (oJournal A dx vdisk varea vfirst vnext vgeneration vnumber vimage_number vimage vkept)) (q : D.nx σ (upd H p (oJournal A dx vdisk y vfirst vnext vgeneration vnumber vimage_number vimage vkept))) :
    ∃ a C dx fs, V.ref p = .ref a ∧ H a = some (.ins C dx fs) ∧ Cls K C ∧ NoAttr K C "area" ∧ fs.length < 1000 ∧ D.nx σ (upd H a (.ins C dx (putF "area" y fs))) := r_sFldG h T.c_Journal T.n_Journal_area (by show 9 < 1000; decide) (by kernel_rfl) q
theorem g_Journal_first {K : PySem.W.Frag} {A : Adr} (T : TxtP K A) {H : Hp} {p dx : Addr} {vdisk varea vfirst vnext vgeneration vnumber vimage_number vimage vkept : V} {R : V → Prop} (h : H p = some (oJournal A dx vdisk varea vfirst vnext vgeneration vnumber vimage_number vimage vkept)) (q : R vfirst) :
    ∃ a C dx fs v, V.ref p = .ref a ∧ H a = some (.ins C dx fs) ∧ Cls K C ∧ NoAttr K C "first" ∧ fs.lookup ("first" : Str) = some v ∧ R v := r_fldG h T.c_Journal T.n_Journal_first (by kernel_rfl) q
theorem w_Journal_first {K : PySem.W.Frag} {A : Adr} (T : TxtP K A) {H : Hp} {p dx : Addr} {vdisk varea vfirst vnext vgeneration vnumber vimage_number vimage vkept : V} {y : V} {D : Ends} {σ : L2.St} (h : H p = some (oJournal A dx vdisk varea vfirst vnext vgeneration vnumber vimage_number vimage vkept)) (q : D.nx σ (upd H p (oJournal A dx vdisk varea y vnext vgeneration vnumber vimage_number vimage vkept))) :
    ∃ a C dx fs, V.ref p = .ref a ∧ H a = some (.ins C dx fs) ∧ Cls K C ∧ NoAttr K C "first" ∧ fs.length < 1000 ∧ D.nx σ (upd H a (.ins C dx (putF "first" y fs))) := r_sFldG h T.c_Journal T.n_Journal_first (by show 9 < 1000; decide) (by kernel_rfl) q
theorem g_Journal_next {K : PySem.W.Frag} {A : Adr} (T : TxtP K A) {H : Hp} {p dx : Addr} {vdisk varea vfirst vnext vgeneration vnumber vimage_number vimage vkept : V} {R : V → Prop} (h : H p = some (oJournal A dx vdisk varea vfirst vnext vgeneration vnumber vimage_number vimage vkept)) (q : R vnext) :
    ∃ a C dx fs v, V.ref p = .ref a ∧ H a = some (.ins C dx fs) ∧ Cls K C ∧ NoAttr K C "next" ∧ fs.lookup ("next" : Str) = some v ∧ R v := r_fldG h T.c_Journal T.n_Journal_next (by kernel_rfl) q
theorem w_Journal_next {K : PySem.W.Frag} {A : Adr} (T : TxtP K A) {H : Hp} {p dx : Addr} {vdisk varea vfirst vnext vgeneration vnumber vimage_number vimage vkept : V} {y : V} {D : Ends} {σ : L2.St} (h : H p = some (oJournal A dx vdisk varea vfirst vnext vgeneration vnumber vimage_number vimage vkept)) (q : D.nx σ (upd H p (oJournal A dx vdisk varea vfirst y vgeneration vnumber vimage_number vimage vkept))) :
    ∃ a C dx fs, V.ref p = .ref a ∧ H a = some (.ins C dx fs) ∧ Cls K C ∧ NoAttr K C "next" ∧ fs.length < 1000 ∧ D.nx σ (upd H a (.ins C dx (putF "next" y fs))) := r_sFldG h T.c_Journal T.n_Journal_next (by show 9 < 1000; decide) (by kernel_rfl) q
theorem g_Journal_generation {K : PySem.W.Frag} {A : Adr} (T : TxtP K A) {H : Hp} {p dx : Addr} {vdisk varea vfirst vnext vgeneration vnumber vimage_number vimage vkept : V} {R : V → Prop} (h : H p = some (oJournal A dx vdisk varea vfirst vnext vgeneration vnumber vimage_number vimage vkept)) (q : R vgeneration) :
    ∃ a C dx fs v, V.ref p = .ref a ∧ H a = some (.ins C dx fs) ∧ Cls K C ∧ NoAttr K C "generation" ∧ fs.lookup ("generation" : Str) = some v ∧ R v := r_fldG h T.c_Journal T.n_Journal_generation (by kernel_rfl) q
theorem w_Journal_generation {K : PySem.W.Frag} {A : Adr} (T : TxtP K A) {H : Hp} {p dx : Addr} {vdisk varea vfirst vnext vgeneration vnumber vimage_number vimage vkept : V} {y : V} {D : Ends} {σ : L2.St} (h : H p = some (oJournal A dx vdisk varea vfirst vnext vgeneration vnumber vimage_number vimage vkept)) (q : D.nx σ (upd H p (oJournal A dx vdisk varea vfirst vnext y vnumber vimage_number vimage vkept))) :
    ∃ a C dx fs, V.ref p = .ref a ∧ H a = some (.ins C dx fs) ∧ Cls K C ∧ NoAttr K C "generation" ∧ fs.length < 1000 ∧ D.nx σ (upd H a (.ins C dx (putF "generation" y fs))) := r_sFldG h T.c_Journal T.n_Journal_generation (by show 9 < 1000; decide) (by kernel_rfl) q
theorem g_Journal_number {K : PySem.W.Frag} {A : Adr} (T : TxtP K A) {H : Hp} {p dx : Addr} {vdisk varea vfirst vnext vgeneration vnumber vimage_number vimage vkept : V} {R : V → Prop} (h : H p = some (oJournal A dx vdisk varea vfirst vnext vgeneration vnumber vimage_number vimage vkept)) (q : R vnumber) :
    ∃ a C dx fs v, V.ref p = .ref a ∧ H a = some (.ins C dx fs) ∧ Cls K C ∧ NoAttr K C "number" ∧ fs.lookup ("number" : Str) = some v ∧ R v := r_fldG h T.c_Journal T.n_Journal_number (by kernel_rfl) q
theorem w_Journal_number {K : PySem.W.Frag} {A : Adr} (T : TxtP K A) {H : Hp} {p dx : Addr} {vdisk varea vfirst vnext vgeneration vnumber vimage_number vimage vkept : V} {y : V} {D : Ends} {σ : L2.St} (h : H p = some (oJournal A dx vdisk varea vfirst vnext vgeneration vnumber vimage_number vimage vkept)) (q : D.nx σ (upd H p (oJournal A dx vdisk varea vfirst vnext vgeneration y vimage_number vimage vkept))) :
    ∃ a C dx fs, V.ref p = .ref a ∧ H a = some (.ins C dx fs) ∧ Cls K C ∧ NoAttr K C "number" ∧ fs.length < 1000 ∧ D.nx σ (upd H a (.ins C dx (putF "number" y fs))) := r_sFldG h T.c_Journal T.n_Journal_number (by show 9 < 1000; decide) (by kernel_rfl) q
theorem g_Journal_image_number {K : PySem.W.Frag} {A : Adr} (T : TxtP K A) {H : Hp} {p dx : Addr} {vdisk varea vfirst vnext vgeneration vnumber vimage_number vimage vkept : V} {R : V → Prop} (h : H p = some (oJournal A dx vdisk varea vfirst vnext vgeneration vnumber vimage_number vimage vkept)) (q : R vimage_number) :
    ∃ a C dx fs v, V.ref p = .ref a ∧ H a = some (.ins C dx fs) ∧ Cls K C ∧ NoAttr K C "image_number" ∧ fs.lookup ("image_number" : Str) = some v ∧ R v := r_fldG h T.c_Journal T.n_Journal_image_number (by kernel_rfl) q
theorem w_Journal_image_number {K : PySem.W.Frag} {A : Adr} (T : TxtP K A) {H : Hp} {p dx : Addr} {vdisk varea vfirst vnext vgeneration vnumber vimage_number vimage vkept : V} {y : V} {D : Ends} {σ : L2.St} (h : H p = some (oJournal A dx vdisk varea vfirst vnext vgeneration vnumber vimage_number vimage vkept)) (q : D.nx σ (upd H p (oJournal A dx vdisk varea vfirst vnext vgeneration vnumber y vimage vkept))) :
    ∃ a C dx fs, V.ref p = .ref a ∧ H a = some (.ins C dx fs) ∧ Cls K C ∧ NoAttr K C "image_number" ∧ fs.length < 1000 ∧ D.nx σ (upd H a (.ins C dx (putF "image_number" y fs))) := r_sFldG h T.c_Journal T.n_Journal_image_number (by show 9 < 1000; decide) (by kernel_rfl) q
theorem g_Journal_image {K : PySem.W.Frag} {A : Adr} (T : TxtP K A) {H : Hp} {p dx : Addr} {vdisk varea vfirst vnext vgeneration vnumber vimage_number vimage vkept : V} {R : V → Prop} (h : H p = some (oJournal A dx vdisk varea vfirst vnext vgeneration vnumber vimage_number vimage vkept)) (q : R vimage) :
    ∃ a C dx fs v, V.ref p = .ref a ∧ H a = some (.ins C dx fs) ∧ Cls K C ∧ NoAttr K C "image" ∧ fs.lookup ("image" : Str) = some v ∧ R v := r_fldG h T.c_Journal T.n_Journal_image (by kernel_rfl) q
theorem w_Journal_image {K : PySem.W.Frag} {A : Adr} (T : TxtP K A) {H : Hp} {p dx : Addr} {vdisk varea vfirst vnext vgeneration vnumber vimage_number vimage vkept : V} {y : V} {D : Ends} {σ : L2.St} (h : H p = some (oJournal A dx vdisk varea vfirst vnext vgeneration vnumber vimage_number vimage vkept)) (q : D.nx σ (upd H p (oJournal A dx vdisk varea vfirst vnext vgeneration vnumber vimage_number y vkept))) :
    ∃ a C dx fs, V.ref p = .ref a ∧ H a = some (.ins C dx fs) ∧ Cls K C ∧ NoAttr K C "image" ∧ fs.length < 1000 ∧ D.nx σ (upd H a (.ins C dx (putF "image" y fs))) := r_sFldG h T.c_Journal T.n_Journal_image (by show 9 < 1000; decide) (by kernel_rfl) q
theorem g_Journal_kept {K : PySem.W.Frag} {A : Adr} (T : TxtP K A) {H : Hp} {p dx : Addr} {vdisk varea vfirst vnext vgeneration vnumber vimage_number vimage vkept : V} {R : V → Prop} (h : H p = some (oJournal A dx vdisk varea vfirst vnext vgeneration vnumber vimage_number vimage vkept)) (q : R vkept) :
    ∃ a C dx fs v, V.ref p = .ref a ∧ H a = some (.ins C dx fs) ∧ Cls K C ∧ NoAttr K C "kept" ∧ fs.lookup ("kept" : Str) = some v ∧ R v := r_fldG h T.c_Journal T.n_Journal_kept (by kernel_rfl) q
theorem w_Journal_kept {K : PySem.W.Frag} {A : Adr} (T : TxtP K A) {H : Hp} {p dx : Addr} {vdisk varea vfirst vnext vgeneration vnumber vimage_number vimage vkept : V} {y : V} {D : Ends} {σ : L2.St} (h : H p = some (oJournal A dx vdisk varea vfirst vnext vgeneration vnumber vimage_number vimage vkept)) (q : D.nx σ (upd H p (oJournal A dx vdisk varea vfirst vnext vgeneration vnumber vimage_number vimage y))) :
    ∃ a C dx fs, V.ref p = .ref a ∧ H a = some (.ins C dx fs) ∧ Cls K C ∧ NoAttr K C "kept" ∧ fs.length < 1000 ∧ D.nx σ (upd H a (.ins C dx (putF "kept" y fs))) := r_sFldG h T.c_Journal T.n_Journal_kept (by show 9 < 1000; decide) (by kernel_rfl) q
theorem w0_Journal_disk {K : PySem.W.Frag} {A : Adr} (T : TxtP K A) {H : Hp} {p dx : Addr} { y : V} {D : Ends} {σ : L2.St} (h : H p = some (.ins A.Journal dx [])) (q : D.nx σ (upd H p (.ins A.Journal dx [("disk", y)]))) :
    ∃ a C dx fs, V.ref p = .ref a ∧ H a = some (.ins C dx fs) ∧ Cls K C ∧ NoAttr K C "disk" ∧ fs.length < 1000 ∧ D.nx σ (upd H a (.ins C dx (putF "disk" y fs))) := r_sFldG (fs2 := [("disk", y)]) h T.c_Journal T.n_Journal_disk (by show 0 < 1000; decide) (by kernel_rfl) q
theorem w0_Journal_area {K : PySem.W.Frag} {A : Adr} (T : TxtP K A) {H : Hp} {p dx : Addr} {vdisk y : V} {D : Ends} {σ : L2.St} (h : H p = some (.ins A.Journal dx [("disk", vdisk)])) (q : D.nx σ (upd H p (.ins A.Journal dx [("disk", vdisk), ("area", y)]))) :
    ∃ a C dx fs, V.ref p = .ref a ∧ H a = some (.ins C dx fs) ∧ Cls K C ∧ NoAttr K C "area" ∧ fs.length < 1000 ∧ D.nx σ (upd H a (.ins C dx (putF "area" y fs))) := r_sFldG (fs2 := [("disk", vdisk), ("area", y)]) h T.c_Journal T.n_Journal_area (by show 1 < 1000; decide) (by kernel_rfl) q
theorem w0_Journal_first {K : PySem.W.Frag} {A : Adr} (T : TxtP K A) {H : Hp} {p dx : Addr} {vdisk varea y : V} {D : Ends} {σ : L2.St} (h : H p = some (.ins A.Journal dx [("disk", vdisk), ("area", varea)])) (q : D.nx σ (upd H p (.ins A.Journal dx [("disk", vdisk), ("area", varea), ("first", y)]))) :
    ∃ a C dx fs, V.ref p = .ref a ∧ H a = some (.ins C dx fs) ∧ Cls K C ∧ NoAttr K C "first" ∧ fs.length < 1000 ∧ D.nx σ (upd H a (.ins C dx (putF "first" y fs))) := r_sFldG (fs2 := [("disk", vdisk), ("area", varea), ("first", y)]) h T.c_Journal T.n_Journal_first (by show 2 < 1000; decide) (by kernel_rfl) q
theorem w0_Journal_next {K : PySem.W.Frag} {A : Adr} (T : TxtP K A) {H : Hp} {p dx : Addr} {vdisk varea vfirst y : V} {D : Ends} {σ : L2.St} (h : H p = some (.ins A.Journal dx [("disk", vdisk), ("area", varea), ("first", vfirst)])) (q : D.nx σ (upd H p (.ins A.Journal dx [("disk", vdisk), ("area", varea), ("first", vfirst), ("next", y)]))) :
    ∃ a C dx fs, V.ref p = .ref a ∧ H a = some (.ins C dx fs) ∧ Cls K C ∧ NoAttr K C "next" ∧ fs.length < 1000 ∧ D.nx σ (upd H a (.ins C dx (putF "next" y fs))) := r_sFldG (fs2 := [("disk", vdisk), ("area", varea), ("first", vfirst), ("next", y)]) h T.c_Journal T.n_Journal_next (by show 3 < 1000; decide) (by kernel_rfl) q
theorem w0_Journal_generation {K : PySem.W.Frag} {A : Adr} (T : TxtP K A) {H : Hp} {p dx : Addr} {vdisk varea vfirst vnext y : V} {D : Ends} {σ : L2.St} (h : H p = some (.ins A.Journal dx [("disk", vdisk), ("area", varea), ("first", vfirst), ("next", vnext)])) (q : D.nx σ (upd H p (.ins A.Journal dx [("disk", vdisk), ("area", varea), ("first", vfirst), ("next", vnext), ("generation", y)]))) :
    ∃ a C dx fs, V.ref p = .ref a ∧ H a = some (.ins C dx fs) ∧ Cls K C ∧ NoAttr K C "generation" ∧ fs.length < 1000 ∧ D.nx σ (upd H a (.ins C dx (putF "generation" y fs))) := r_sFldG (fs2 := [("disk", vdisk), ("area", varea), ("first", vfirst), ("next", vnext), ("generation", y)]) h T.c_Journal T.n_Journal_generation (by show 4 < 1000; decide) (by kernel_rfl) q
theorem w0_Journal_number {K : PySem.W.Frag} {A : Adr} (T : TxtP K A) {H : Hp} {p dx : Addr} {vdisk varea vfirst vnext vgeneration y : V} {D : Ends} {σ : L2.St} (h : H p = some (.ins A.Journal dx [("disk", vdisk), ("area", varea), ("first", vfirst), ("next", vnext), ("generation", vgeneration)])) (q : D.nx σ (upd H p (.ins A.Journal dx [("disk", vdisk), ("area", varea), ("first", vfirst), ("next", vnext), ("generation", vgeneration), ("number", y)]))) :
    ∃ a C dx fs, V.ref p = .ref a ∧ H a = some (.ins C dx fs) ∧ Cls K C ∧ NoAttr K C "number" ∧ fs.length < 1000 ∧ D.nx σ (upd H a (.ins C dx (putF "number" y fs))) := r_sFldG (fs2 := [("disk", vdisk), ("area", varea), ("first", vfirst), ("next", vnext), ("generation", vgeneration), ("number", y)]) h T.c_Journal T.n_Journal_number (by show 5 < 1000; decide) (by kernel_rfl) q
theorem w0_Journal_image_number {K : PySem.W.Frag} {A : Adr} (T : TxtP K A) {H : Hp} {p dx : Addr} {vdisk varea vfirst vnext vgeneration vnumber y : V} {D : Ends} {σ : L2.St} (h : H p = some (.ins A.Journal dx [("disk", vdisk), ("area", varea), ("first", vfirst), ("next", vnext), ("generation", vgeneration), ("number", vnumber)])) (q : D.nx σ (upd H p (.ins A.Journal dx [("disk", vdisk), ("area", varea), ("first", vfirst), ("next", vnext), ("generation", vgeneration), ("number", vnumber), ("image_number", y)]))) :
    ∃ a C dx fs, V.ref p = .ref a ∧ H a = some (.ins C dx fs) ∧ Cls K C ∧ NoAttr K C "image_number" ∧ fs.length < 1000 ∧ D.nx σ (upd H a (.ins C dx (putF "image_number" y fs))) := r_sFldG (fs2 := [("disk", vdisk), ("area", varea), ("first", vfirst), ("next", vnext), ("generation", vgeneration), ("number", vnumber), ("image_number", y)]) h T.c_Journal T.n_Journal_image_number (by show 6 < 1000; decide) (by kernel_rfl) q
theorem w0_Journal_image {K : PySem.W.Frag} {A : Adr} (T : TxtP K A) {H : Hp} {p dx : Addr} {vdisk varea vfirst vnext vgeneration vnumber vimage_number y : V} {D : Ends} {σ : L2.St} (h : H p = some (.ins A.Journal dx [("disk", vdisk), ("area", varea), ("first", vfirst), ("next", vnext), ("generation", vgeneration), ("number", vnumber), ("image_number", vimage_number)])) (q : D.nx σ (upd H p (.ins A.Journal dx [("disk", vdisk), ("area", varea), ("first", vfirst), ("next", vnext), ("generation", vgeneration), ("number", vnumber), ("image_number", vimage_number), ("image", y)]))) :
    ∃ a C dx fs, V.ref p = .ref a ∧ H a = some (.ins C dx fs) ∧ Cls K C ∧ NoAttr K C "image" ∧ fs.length < 1000 ∧ D.nx σ (upd H a (.ins C dx (putF "image" y fs))) := r_sFldG (fs2 := [("disk", vdisk), ("area", varea), ("first", vfirst), ("next", vnext), ("generation", vgeneration), ("number", vnumber), ("image_number", vimage_number), ("image", y)]) h T.c_Journal T.n_Journal_image (by show 7 < 1000; decide) (by kernel_rfl) q
theorem w0_Journal_kept {K : PySem.W.Frag} {A : Adr} (T : TxtP K A) {H : Hp} {p dx : Addr} {vdisk varea vfirst vnext vgeneration vnumber vimage_number vimage y : V} {D : Ends} {σ : L2.St} (h : H p = some (.ins A.Journal dx [("disk", vdisk), ("area", varea), ("first", vfirst), ("next", vnext), ("generation", vgeneration), ("number", vnumber), ("image_number", vimage_number), ("image", vimage)])) (q : D.nx σ (upd H p (oJournal A dx vdisk varea vfirst vnext vgeneration vnumber vimage_number vimage y))) :
    ∃ a C dx fs, V.ref p = .ref a ∧ H a = some (.ins C dx fs) ∧ Cls K C ∧ NoAttr K C "kept" ∧ fs.length < 1000 ∧ D.nx σ (upd H a (.ins C dx (putF "kept" y fs))) := r_sFldG (fs2 := [("disk", vdisk), ("area", varea), ("first", vfirst), ("next", vnext), ("generation", vgeneration), ("number", vnumber), ("image_number", vimage_number), ("image", vimage), ("kept", y)]) h T.c_Journal T.n_Journal_kept (by show 8 < 1000; decide) (by kernel_rfl) q
theorem mm_Journal_area_of {A : Adr} {H : Hp} {p dx : Addr} {vdisk varea vfirst vnext vgeneration vnumber vimage_number vimage vkept : V} {B : Prop} (h : H p = some (oJournal A dx vdisk varea vfirst vnext vgeneration vnumber vimage_number vimage vkept)) (q : B) :
    ∃ a dx fs, V.ref p = .ref a ∧ H a = some (.ins A.Journal dx fs) ∧ fs.lookup ("area_of" : Str) = none ∧ B := r_methG h (by kernel_rfl) q
theorem mm_Journal_read_record {A : Adr} {H : Hp} {p dx : Addr} {vdisk varea vfirst vnext vgeneration vnumber vimage_number vimage vkept : V} {B : Prop} (h : H p = some (oJournal A dx vdisk varea vfirst vnext vgeneration vnumber vimage_number vimage vkept)) (q : B) :
    ∃ a dx fs, V.ref p = .ref a ∧ H a = some (.ins A.Journal dx fs) ∧ fs.lookup ("read_record" : Str) = none ∧ B := r_methG h (by kernel_rfl) q
theorem mm_Journal_empty_rest {A : Adr} {H : Hp} {p dx : Addr} {vdisk varea vfirst vnext vgeneration vnumber vimage_number vimage vkept : V} {B : Prop} (h : H p = some (oJournal A dx vdisk varea vfirst vnext vgeneration vnumber vimage_number vimage vkept)) (q : B) :
    ∃ a dx fs, V.ref p = .ref a ∧ H a = some (.ins A.Journal dx fs) ∧ fs.lookup ("empty_rest" : Str) = none ∧ B := r_methG h (by kernel_rfl) q
theorem mm_Journal_recover {A : Adr} {H : Hp} {p dx : Addr} {vdisk varea vfirst vnext vgeneration vnumber vimage_number vimage vkept : V} {B : Prop} (h : H p = some (oJournal A dx vdisk varea vfirst vnext vgeneration vnumber vimage_number vimage vkept)) (q : B) :
    ∃ a dx fs, V.ref p = .ref a ∧ H a = some (.ins A.Journal dx fs) ∧ fs.lookup ("recover" : Str) = none ∧ B := r_methG h (by kernel_rfl) q
theorem mm_Journal_records {A : Adr} {H : Hp} {p dx : Addr} {vdisk varea vfirst vnext vgeneration vnumber vimage_number vimage vkept : V} {B : Prop} (h : H p = some (oJournal A dx vdisk varea vfirst vnext vgeneration vnumber vimage_number vimage vkept)) (q : B) :
    ∃ a dx fs, V.ref p = .ref a ∧ H a = some (.ins A.Journal dx fs) ∧ fs.lookup ("records" : Str) = none ∧ B := r_methG h (by kernel_rfl) q
theorem mm_Journal_has_room {A : Adr} {H : Hp} {p dx : Addr} {vdisk varea vfirst vnext vgeneration vnumber vimage_number vimage vkept : V} {B : Prop} (h : H p = some (oJournal A dx vdisk varea vfirst vnext vgeneration vnumber vimage_number vimage vkept)) (q : B) :
    ∃ a dx fs, V.ref p = .ref a ∧ H a = some (.ins A.Journal dx fs) ∧ fs.lookup ("has_room" : Str) = none ∧ B := r_methG h (by kernel_rfl) q
theorem mm_Journal_write_record {A : Adr} {H : Hp} {p dx : Addr} {vdisk varea vfirst vnext vgeneration vnumber vimage_number vimage vkept : V} {B : Prop} (h : H p = some (oJournal A dx vdisk varea vfirst vnext vgeneration vnumber vimage_number vimage vkept)) (q : B) :
    ∃ a dx fs, V.ref p = .ref a ∧ H a = some (.ins A.Journal dx fs) ∧ fs.lookup ("write_record" : Str) = none ∧ B := r_methG h (by kernel_rfl) q
theorem mm_Journal_checkpoint {A : Adr} {H : Hp} {p dx : Addr} {vdisk varea vfirst vnext vgeneration vnumber vimage_number vimage vkept : V} {B : Prop} (h : H p = some (oJournal A dx vdisk varea vfirst vnext vgeneration vnumber vimage_number vimage vkept)) (q : B) :
    ∃ a dx fs, V.ref p = .ref a ∧ H a = some (.ins A.Journal dx fs) ∧ fs.lookup ("checkpoint" : Str) = none ∧ B := r_methG h (by kernel_rfl) q


/-! ### the disk, in plain Lean -/
structure DS where
  size : Nat
  blocks : List Str
  queue : List (Nat × Str)
  left : Option Int
  down : Bool
def oI : Option Int → V
  | none => .non
  | some i => .int i
def okCh (c : Nat) : Bool := c == 10 || ((decide (32 ≤ c) && decide (c ≤ 126)) && c != 37)
def isBlk (z : Str) : Bool := decide (z.length ≤ 64) && z.cps.toList.all okCh
def putQ (bs : List Str) (q : List (Nat × Str)) : List Str := q.foldl (fun bs e => bs.set e.1 e.2) bs
def seenQ (t : Str) (q : List (Nat × Str)) (i : Nat) : Str := q.foldl (fun t e => if e.1 = i then e.2 else t) t
def lastS (s : List Str × Int) (e : Nat × Str) : List Str × Int := (if s.2 % 2 = 1 then s.1.set e.1 e.2 else s.1, s.2 / 2)
def lastQ (bs : List Str) (q : List (Nat × Str)) (c : Int) : List Str × Int := q.foldl lastS (bs, c)
/-- the power may be lost at this write or sync -/
def DS.cnt (d : DS) : DS := if d.left = some 0 then { d with down := true } else d
def DS.spent (d : DS) : DS := { d with left := d.left.map fun i => i - 1 }
def DS.seen (d : DS) (i : Nat) : Str := seenQ (d.blocks.getD i ("" : Str)) d.queue i
def DS.wrote (d : DS) (i : Nat) (t : Str) : DS := { d.cnt.spent with queue := d.queue ++ [(i, t)] }
def DS.synced (d : DS) : DS := { d.cnt.spent with blocks := putQ d.blocks d.queue, queue := [] }
def DS.restarted (d : DS) (c : Int) : DS := { size := d.size, blocks := (lastQ d.blocks d.queue c).1, queue := [], left := none, down := false }
structure DOk (d : DS) : Prop where
  bl : d.blocks.length = d.size
  sz : d.size ≤ 5000
  ql : d.queue.length ≤ 900000
  ix : ∀ e ∈ d.queue, e.1 < d.size
  tx : (∀ t ∈ d.blocks, isBlk t = true) ∧ ∀ e ∈ d.queue, isBlk e.2 = true
/-- the waiting writes as tuples -/
def Tups (H : Hp) (ps : List Addr) (q : List (Nat × Str)) : Prop := Paired (fun a e => H a = some (.tup [.int (e.1 : Nat), .str e.2])) ps q
/-- a disk stands at p, its blocks at lb, its queue at lq -/
structure DAt (A : Adr) (H : Hp) (p lb lq : Addr) (d : DS) : Prop where
  ob : ∃ dx, H p = some (oDisk A dx (.int (d.size : Nat)) (.ref lb) (.ref lq) (oI d.left) (.bl d.down))
  bl : H lb = some (.lst (d.blocks.map V.str))
  qu : ∃ ps : List Addr, H lq = some (.lst (ps.map V.ref)) ∧ Tups H ps d.queue
  ok : DOk d
  ne : lb ≠ lq
/-- all but what stands at fp is kept -/
def Kp (fp : List Addr) (H H' : Hp) : Prop := ∀ b o, H b = some o → b ∉ fp → H' b = some o

def sp_is_block_text (K : PySem.W.Frag) (A : Adr) : Sp := fun vs H Q _ => ∃ t : Str, vs = [.str t] ∧ t.length ≤ 100000 ∧ ∀ H', Ex H H' → Q (.bl (isBlk t)) H'
def sp_Disk_init (K : PySem.W.Frag) (A : Adr) : Sp := fun vs H Q _ => ∃ (p dx : Addr) (n : Nat), vs = [.ref p, .int (n : Nat)] ∧ n ≤ 5000 ∧ H p = some (.ins A.Disk dx []) ∧
  ∀ lb lq H', H lb = none → H lq = none → Kp [p] H H' → DAt A H' p lb lq { size := n, blocks := List.replicate n ("" : Str), queue := [], left := none, down := false } → Q .non H'
def sp_Disk_spend (K : PySem.W.Frag) (A : Adr) : Sp := fun vs H Q E => ∃ p lb lq d, vs = [.ref p] ∧ DAt A H p lb lq d ∧
  (d.cnt.down = true → ∀ H', DAt A H' p lb lq d.cnt → Kp [p] H H' → E (.ref A.PowerLost) none H') ∧
  (d.cnt.down = false → ∀ H', DAt A H' p lb lq d.cnt.spent → Kp [p] H H' → Q .non H')
def sp_Disk_block (K : PySem.W.Frag) (A : Adr) : Sp := fun vs H Q E => ∃ p lb lq d i, vs = [.ref p, .int i] ∧ DAt A H p lb lq d ∧
  (d.down = true → E (.ref A.PowerLost) none H) ∧
  (d.down = false → ¬ (0 ≤ i ∧ i < (d.size : Nat)) → ∀ e, H e = none → E (.ref A.BadBlock) (some e) (upd H e (.xd [("index", .int i)]))) ∧
  (d.down = false → 0 ≤ i → i < (d.size : Nat) → Q (.str (d.seen i.toNat)) H)
def sp_Disk_write (K : PySem.W.Frag) (A : Adr) : Sp := fun vs H Q E => ∃ p lb lq d i t, vs = [.ref p, .int i, .str t] ∧ DAt A H p lb lq d ∧ d.queue.length < 900000 ∧ t.length ≤ 100000 ∧
  (d.down = true → E (.ref A.PowerLost) none H) ∧
  (d.down = false → ¬ (0 ≤ i ∧ i < (d.size : Nat) ∧ isBlk t = true) → ∀ e H', Ex H H' → H' e = none → E (.ref A.BadBlock) (some e) (upd H' e (.xd [("index", .int i)]))) ∧
  (d.down = false → 0 ≤ i → i < (d.size : Nat) → isBlk t = true → d.cnt.down = true → ∀ H', DAt A H' p lb lq d.cnt → Kp [p] H H' → E (.ref A.PowerLost) none H') ∧
  (d.down = false → 0 ≤ i → i < (d.size : Nat) → isBlk t = true → d.cnt.down = false → ∀ H', DAt A H' p lb lq (d.wrote i.toNat t) → Kp [p, lq] H H' → Q .non H')
def sp_Disk_sync (K : PySem.W.Frag) (A : Adr) : Sp := fun vs H Q E => ∃ p lb lq d, vs = [.ref p] ∧ DAt A H p lb lq d ∧
  (d.cnt.down = true → ∀ H', DAt A H' p lb lq d.cnt → Kp [p] H H' → E (.ref A.PowerLost) none H') ∧
  (d.cnt.down = false → ∀ lq' H', H lq' = none → DAt A H' p lb lq' d.synced → Kp [p, lb] H H' → Q .non H')
def sp_Disk_waiting (K : PySem.W.Frag) (A : Adr) : Sp := fun vs H Q _ => ∃ p lb lq d, vs = [.ref p] ∧ DAt A H p lb lq d ∧ Q (.int (d.queue.length : Nat)) H
def sp_Disk_fall_after (K : PySem.W.Frag) (A : Adr) : Sp := fun vs H Q _ => ∃ p lb lq d n, vs = [.ref p, oI n] ∧ DAt A H p lb lq d ∧
  ∀ H', DAt A H' p lb lq { d with left := n } → Kp [p] H H' → Q .non H'
def sp_Disk_restart (K : PySem.W.Frag) (A : Adr) : Sp := fun vs H Q _ => ∃ p lb lq d c, vs = [.ref p, .int c] ∧ 0 ≤ c ∧ DAt A H p lb lq d ∧
  ∀ lq' H', H lq' = none → DAt A H' p lb lq' (d.restarted c) → Kp [p, lb] H H' → Q .non H'

/-! ### the journal, in plain Lean -/
abbrev Sx (l : List Nat) : Str := ⟨l.toArray⟩
/-- a block of a record -/
structure Bk where
  g : Nat
  n : Nat
  i : Nat
  m : Nat
  pc : List Nat
def Bk.cps (b : Bk) : List Nat := TL.numL b.g ++ 32 :: (TL.numL b.n ++ 32 :: (TL.numL b.i ++ 32 :: (TL.numL b.m ++ 32 :: b.pc)))
def Bk.txt (b : Bk) : Str := Sx b.cps
structure Bk.Ok (b : Bk) : Prop where
  g : b.g < 1000000
  n : b.n < 1000000
  m : b.m < 10000
  i : b.i < b.m
  pl : b.pc.length ≤ 32
  full : b.i + 1 < b.m → b.pc.length = 32
  ne : b.pc = [] → b.m = 1
  ch : b.pc.all okCh = true
def encB : Option Bk → Str
  | none => ""
  | some b => b.txt
def pcs (t : List Nat) : Nat := (max 1 t.length + 31) / 32
def pieceL (t : List Nat) (k : Nat) : List Nat := (t.drop (32 * k)).take 32
def bks (g n : Nat) (t : List Nat) : List Bk := (List.range (pcs t)).map fun i => ⟨g, n, i, pcs t, pieceL t i⟩
def areaOf (a g : Nat) : Nat := if g % 2 = 1 then 1 else a + 1
/-- what a record at start reads as: its number, its text, its blocks -/
def rdR (s : Nat → Option Bk) (gen start : Nat) : Nat → Nat → Option (Nat × Nat) → List Nat → Option (Nat × List Nat × Nat)
  | 0, _, _, _ => none
  | k + 1, a, f, t => match s a with
    | none => none
    | some b => if b.g = gen ∧ b.i = a - start ∧ (f = none ∨ f = some (b.n, b.m)) then
        (if b.i + 1 = b.m then some (b.n, t ++ b.pc, b.m) else rdR s gen start k (a + 1) (some (b.n, b.m)) (t ++ b.pc)) else none
def rd (s : Nat → Option Bk) (gen start stop : Nat) : Option (Nat × List Nat × Nat) := rdR s gen start (stop - start) start none []
/-- the log from next on: the records, and where it ends -/
def logR (s : Nat → Option Bk) (gen size : Nat) : Nat → Nat → Nat → List (Nat × List Nat) × Nat
  | 0, next, _ => ([], next)
  | k + 1, next, num => match rd s gen next size with
    | none => ([], next)
    | some r => if r.1 = num + 1 then ((r.1, r.2.1) :: (logR s gen size k (next + r.2.2) r.1).1, (logR s gen size k (next + r.2.2) r.1).2) else ([], next)
/-- a write, a sync: the disk behind it, and whether the power was lost -/
def wr (d : DS) (i : Nat) (t : Str) : DS × Bool := if d.cnt.down = true then (d.cnt, true) else (d.wrote i t, false)
def sy (d : DS) : DS × Bool := if d.cnt.down = true then (d.cnt, true) else (d.synced, false)
def thn2 (r : DS × Bool) (f : DS → DS × Bool) : DS × Bool := if r.2 = true then r else f r.1
def wrs : DS → Nat → List Str → DS × Bool
  | d, _, [] => (d, false)
  | d, i, t :: ts => thn2 (wr d i t) fun d => wrs d (i + 1) ts
/-- empty_rest's loop; the second Bool: something was written -/
def emp : DS → Nat → Nat → Bool → (DS × Bool) × Bool
  | d, 0, _, f => ((d, false), f)
  | d, k + 1, a, f => if d.seen a = "" then emp d k (a + 1) f else if (wr d a "").2 = true then (wr d a "", true) else emp (wr d a "").1 k (a + 1) true
def empR (d : DS) (next : Nat) : DS × Bool := thn2 (emp d (d.size - next) next false).1 fun d' => if (emp d (d.size - next) next false).2 = true then sy d' else (d', false)
def rootT (g : Nat) : Str := "root " ++ Sx (TL.numL g)
def recW (d : DS) (next : Nat) (bs : List Bk) : DS × Bool := thn2 (wrs d next (bs.map Bk.txt)) sy
def chkW (d : DS) (start g : Nat) (bs : List Bk) : DS × Bool := thn2 (thn2 (recW d start bs) fun d => wr d 0 (rootT g)) sy
structure JS where
  area : Nat
  first : Nat
  next : Nat
  gen : Nat
  num : Nat
  inum : Nat
  image : Str
  kept : List (Nat × Str)
structure JAt (A : Adr) (H : Hp) (j p lk : Addr) (x : JS) : Prop where
  ob : ∃ dx, H j = some (oJournal A dx (.ref p) (.int (x.area : Nat)) (.int (x.first : Nat)) (.int (x.next : Nat)) (.int (x.gen : Nat)) (.int (x.num : Nat)) (.int (x.inum : Nat)) (.str x.image) (.ref lk))
  kt : ∃ ps : List Addr, H lk = some (.lst (ps.map V.ref)) ∧ Tups H ps x.kept
/-- a journal at j on a disk at p -/
structure GAt (A : Adr) (H : Hp) (j p lb lq lk : Addr) (x : JS) (d : DS) : Prop where
  J : JAt A H j p lk x
  D : DAt A H p lb lq d
  nd : [j, p, lb, lq, lk].Nodup
/-- what the blocks behind the root say -/
def Sees (d : DS) (s : Nat → Option Bk) : Prop := ∀ a, 1 ≤ a → a < d.size → d.seen a = encB (s a) ∧ ∀ b, s a = some b → b.Ok
/-- a good text: signs that a block may have -/
def GoodT (t : Str) : Prop := t.length ≤ 1000 ∧ t.cps.toList.all okCh = true
def jfp (j p lb lq lk : Addr) : List Addr := [j, p, lb, lq, lk]

def sp_record_blocks (K : PySem.W.Frag) (A : Adr) : Sp := fun vs H Q _ => ∃ (g n : Nat) (t : Str), vs = [.int (g : Nat), .int (n : Nat), .str t] ∧ g < 1000000 ∧ n < 1000000 ∧ t.length ≤ 100000 ∧
  ∀ r H', Ex H H' → H r = none → H' r = some (.lst ((bks g n t.cps.toList).map fun b => V.str b.txt)) → Q (.ref r) H'
def sp_read_number (K : PySem.W.Frag) (A : Adr) : Sp := fun vs H Q _ => ∃ k : Nat, vs = [.str (Sx (TL.numL k))] ∧ k < 1000000 ∧ Q (.int (k : Nat)) H
def sp_read_block (K : PySem.W.Frag) (A : Adr) : Sp := fun vs H Q _ => ∃ ob : Option Bk, vs = [.str (encB ob)] ∧ (∀ b, ob = some b → b.Ok) ∧
  (ob = none → ∀ H', Ex H H' → Q .non H') ∧
  (∀ b, ob = some b → ∀ r H', Ex H H' → H' r = some (.tup [.int (b.g : Nat), .int (b.n : Nat), .int (b.i : Nat), .int (b.m : Nat), .str (Sx b.pc)]) → Q (.ref r) H')
def sp_Journal_area_of (K : PySem.W.Frag) (A : Adr) : Sp := fun vs H Q _ => ∃ j p lk x g, vs = [.ref j, .int (g : Nat)] ∧ JAt A H j p lk x ∧ Q (.int (areaOf x.area g : Nat)) H
def sp_Journal_read_record (K : PySem.W.Frag) (A : Adr) : Sp := fun vs H Q _ => ∃ j p lb lq lk x d s gen start stop, vs = [.ref j, .int (start : Nat), .int (stop : Nat), .int (gen : Nat)] ∧ GAt A H j p lb lq lk x d ∧ d.down = false ∧ Sees d s ∧ 1 ≤ start ∧ start ≤ stop ∧ stop ≤ d.size ∧
  (rd s gen start stop = none → ∀ H', Ex H H' → Q .non H') ∧
  (∀ r, rd s gen start stop = some r → ∀ q H', Ex H H' → H' q = some (.tup [.int (r.1 : Nat), .str (Sx r.2.1), .int (r.2.2 : Nat)]) → Q (.ref q) H')
def sp_Journal_empty_rest (K : PySem.W.Frag) (A : Adr) : Sp := fun vs H Q E => ∃ j p lb lq lk x d, vs = [.ref j] ∧ GAt A H j p lb lq lk x d ∧ d.down = false ∧ x.next ≤ d.size ∧ d.queue.length ≤ 800000 ∧
  ((empR d x.next).2 = true → ∀ lq' H', GAt A H' j p lb lq' lk x (empR d x.next).1 → (lq' = lq ∨ H lq' = none) → Kp [p, lq, lb] H H' → E (.ref A.PowerLost) none H') ∧
  ((empR d x.next).2 = false → ∀ lq' H', GAt A H' j p lb lq' lk x (empR d x.next).1 → (lq' = lq ∨ H lq' = none) → Kp [p, lq, lb] H H' → Q .non H')
/-- what a recovery finds: generation, number and text of the image -/
def RootIs (d : DS) (s : Nat → Option Bk) (area gen inum : Nat) (img : List Nat) : Prop :=
  (d.seen 0 = "" ∧ gen = 0 ∧ inum = 0 ∧ img = []) ∨ (d.seen 0 = rootT gen ∧ gen < 1000000 ∧ ∃ m, rd s gen (areaOf area gen) (areaOf area gen + area) = some (inum, img, m))
/-- the journal behind a recovery -/
def recJ (s : Nat → Option Bk) (size area gen inum : Nat) (img : List Nat) : JS :=
  let L := logR s gen size size (2 * area + 1) inum
  { area := area, first := 2 * area + 1, next := L.2, gen := gen, num := inum + L.1.length, inum := inum, image := Sx img, kept := L.1.map fun e => (e.1, Sx e.2) }
def freshJ (area : Nat) : JS := { area := area, first := 2 * area + 1, next := 2 * area + 1, gen := 0, num := 0, inum := 0, image := "", kept := [] }
def sp_Journal_recover (K : PySem.W.Frag) (A : Adr) : Sp := fun vs H Q E => ∃ j p lb lq lk d s area gen inum img, vs = [.ref j] ∧ GAt A H j p lb lq lk (freshJ area) d ∧ d.down = false ∧ d.queue.length ≤ 800000 ∧ Sees d s ∧ 2 * area + 1 ≤ d.size ∧ RootIs d s area gen inum img ∧
  ((empR d (recJ s d.size area gen inum img).next).2 = true → ∀ lq' H', DAt A H' p lb lq' (empR d (recJ s d.size area gen inum img).next).1 → (lq' = lq ∨ H lq' = none) → Kp [j, p, lb, lq, lk] H H' → E (.ref A.PowerLost) none H') ∧
  ((empR d (recJ s d.size area gen inum img).next).2 = false → ∀ lq' H', GAt A H' j p lb lq' lk (recJ s d.size area gen inum img) (empR d (recJ s d.size area gen inum img).next).1 → (lq' = lq ∨ H lq' = none) → Kp [j, p, lb, lq, lk] H H' → Q .non H')
def sp_Journal_init (K : PySem.W.Frag) (A : Adr) : Sp := fun vs H Q E => ∃ j jx p lb lq d s area gen inum img, vs = [.ref j, .ref p] ∧ H j = some (.ins A.Journal jx []) ∧ DAt A H p lb lq d ∧ d.down = false ∧ d.queue.length ≤ 800000 ∧ 1 ≤ d.size ∧ area = (d.size - 1) / 3 ∧ Sees d s ∧ RootIs d s area gen inum img ∧
  ((empR d (recJ s d.size area gen inum img).next).2 = true → ∀ lq' H', DAt A H' p lb lq' (empR d (recJ s d.size area gen inum img).next).1 → (lq' = lq ∨ H lq' = none) → Kp [j, p, lb, lq] H H' → E (.ref A.PowerLost) none H') ∧
  ((empR d (recJ s d.size area gen inum img).next).2 = false → ∀ lk lq' H', GAt A H' j p lb lq' lk (recJ s d.size area gen inum img) (empR d (recJ s d.size area gen inum img).next).1 → H lk = none → (lq' = lq ∨ H lq' = none) → Kp [j, p, lb, lq] H H' → Q .non H')
def sp_Journal_records (K : PySem.W.Frag) (A : Adr) : Sp := fun vs H Q _ => ∃ j p lk x, vs = [.ref j] ∧ JAt A H j p lk x ∧
  ∀ r ps H', Ex H H' → H r = none → H' r = some (.lst (ps.map V.ref)) → Tups H ps x.kept → Q (.ref r) H'
def JOk (x : JS) : Prop := x.gen < 900000 ∧ x.num < 900000
def sp_Journal_has_room (K : PySem.W.Frag) (A : Adr) : Sp := fun vs H Q _ => ∃ j p lb lq lk x d t, vs = [.ref j, .str t] ∧ GAt A H j p lb lq lk x d ∧ JOk x ∧ t.length ≤ 100000 ∧
  ∀ H', Ex H H' → Q (.bl (decide (x.next + pcs t.cps.toList ≤ d.size))) H'
def addJ (x : JS) (t : Str) : JS := { x with next := x.next + pcs t.cps.toList, num := x.num + 1, kept := x.kept ++ [(x.num + 1, t)] }
def sp_Journal_write_record (K : PySem.W.Frag) (A : Adr) : Sp := fun vs H Q E => ∃ j p lb lq lk x d t, vs = [.ref j, .str t] ∧ GAt A H j p lb lq lk x d ∧ JOk x ∧ GoodT t ∧ d.down = false ∧ d.queue.length ≤ 800000 ∧ x.kept.length ≤ 900000 ∧
  (¬ x.next + pcs t.cps.toList ≤ d.size → ∀ H', Ex H H' → E (.ref A.DiskFull) none H') ∧
  (x.next + pcs t.cps.toList ≤ d.size → (recW d x.next (bks x.gen (x.num + 1) t.cps.toList)).2 = true → ∀ lq' H', GAt A H' j p lb lq' lk x (recW d x.next (bks x.gen (x.num + 1) t.cps.toList)).1 → (lq' = lq ∨ H lq' = none) → Kp [j, p, lb, lq, lk] H H' → E (.ref A.PowerLost) none H') ∧
  (x.next + pcs t.cps.toList ≤ d.size → (recW d x.next (bks x.gen (x.num + 1) t.cps.toList)).2 = false → ∀ lq' H', GAt A H' j p lb lq' lk (addJ x t) (recW d x.next (bks x.gen (x.num + 1) t.cps.toList)).1 → (lq' = lq ∨ H lq' = none) → Kp [j, p, lb, lq, lk] H H' → Q .non H')
def chkJ (x : JS) (t : Str) : JS := { x with next := x.first, gen := x.gen + 1, inum := x.num, image := t, kept := [] }
def sp_Journal_checkpoint (K : PySem.W.Frag) (A : Adr) : Sp := fun vs H Q E => ∃ j p lb lq lk x d t, vs = [.ref j, .str t] ∧ GAt A H j p lb lq lk x d ∧ JOk x ∧ GoodT t ∧ d.down = false ∧ d.queue.length ≤ 800000 ∧ 2 * x.area + 1 ≤ d.size ∧
  (¬ pcs t.cps.toList ≤ x.area → ∀ H', Ex H H' → E (.ref A.DiskFull) none H') ∧
  (pcs t.cps.toList ≤ x.area → (chkW d (areaOf x.area (x.gen + 1)) (x.gen + 1) (bks (x.gen + 1) x.num t.cps.toList)).2 = true → ∀ lq' H', GAt A H' j p lb lq' lk x (chkW d (areaOf x.area (x.gen + 1)) (x.gen + 1) (bks (x.gen + 1) x.num t.cps.toList)).1 → (lq' = lq ∨ H lq' = none) → Kp [j, p, lb, lq, lk] H H' → E (.ref A.PowerLost) none H') ∧
  (pcs t.cps.toList ≤ x.area → (chkW d (areaOf x.area (x.gen + 1)) (x.gen + 1) (bks (x.gen + 1) x.num t.cps.toList)).2 = false → ∀ lk' lq' H', GAt A H' j p lb lq' lk' (chkJ x t) (chkW d (areaOf x.area (x.gen + 1)) (x.gen + 1) (bks (x.gen + 1) x.num t.cps.toList)).1 → H lk' = none → (lq' = lq ∨ H lq' = none) → Kp [j, p, lb, lq, lk] H H' → Q .non H')

/-! ### the law's own defs -/
/-- the script's list: nobody writes to it -/
def SqF (K : PySem.W.Frag) (H : Hp) (a : Addr) (xs : List V) : Prop := (∃ ob, H a = some (.frz ob (.lst xs))) ∨ ∃ (o : Obj) (its : Array Value) (n : Nat), K.lookup a = some o ∧ o.cls = .type "list" ∧ o.dict = none ∧ o.data = .seq its n ∧ its.size ≤ sizeLine ∧ Vals xs its.toList
structure StAt (K : PySem.W.Frag) (H : Hp) (st a e : Addr) (ns : List Int) (rest pos mx : Int) : Prop where
  ob : H st = some (.lst [.ref a, .int rest, .int pos, .int mx, .ref e, .int 0, .int 0, .int 0])
  sc : SqF K H a (ns.map V.int)
  nl : ns.length ≤ 63
  mx : mx = 0 ∨ (mx = 1 ∧ ns ≠ [])
  ps : 0 ≤ pos
/-- the state list, whatever it holds now -/
def StS (K : PySem.W.Frag) (H : Hp) (st : Addr) : Prop := ∃ a e ns rest pos mx, StAt K H st a e ns rest pos mx
def keptD (ks : List (Nat × Str)) : PyData := .list (ks.map fun e => .tuple [.int (e.1 : Nat), .str e.2])
def seenD (x : JS) : PyData := .list [.int (x.gen : Nat), .int (x.num : Nat), .int (x.inum : Nat), .str x.image, keptD x.kept]
def sp__law_state (K : PySem.W.Frag) (A : Adr) : Sp := fun vs H Q _ => ∃ (a : Addr) (ns : List Int), vs = [.ref a] ∧ SqF K H a (ns.map V.int) ∧ ns.length ≤ 63 ∧
  ∀ st H', Ex H H' → H st = none → StS K H' st → Q (.ref st) H'
def sp__law_take (K : PySem.W.Frag) (A : Adr) : Sp := fun vs H Q _ => ∃ (st : Addr) (many : Int), vs = [.ref st, .int many] ∧ StS K H st ∧ 0 < many ∧ many < 1073741824 ∧
  ∀ (r : Int) H', StS K H' st → Kp [st] H H' → 0 ≤ r → r < many → Q (.int r) H'
def sp__law_text_of (K : PySem.W.Frag) (A : Adr) : Sp := fun vs H Q _ => ∃ (st : Addr) (most : Int), vs = [.ref st, .int most] ∧ StS K H st ∧ 0 < most ∧ most ≤ 999 ∧
  ∀ (t : Str) H', StS K H' st → Kp [st] H H' → GoodT t → (t.length : Int) ≤ most → Q (.str t) H'
def sp__law_seen_journal (K : PySem.W.Frag) (A : Adr) : Sp := fun vs H Q _ => ∃ j p lk x, vs = [.ref j] ∧ JAt A H j p lk x ∧ ∀ r H', Ex H H' → Dp K H' (.ref r) (seenD x) → Q (.ref r) H'
def sp__law_spilled (K : PySem.W.Frag) (A : Adr) : Sp := fun vs H Q _ => ∃ t : Str, vs = [.str t] ∧ t.length ≤ 100000 ∧ Q (.int (pcs t.cps.toList : Nat)) H

def sp__law_written (K : PySem.W.Frag) (A : Adr) : Sp := fun vs H Q _ => ∃ j p lb lq lk x d t b, vs = [.ref j, .str t, .bl b] ∧ GAt A H j p lb lq lk x d ∧ JOk x ∧ GoodT t ∧ d.down = false ∧ d.left = none ∧ d.queue.length ≤ 800000 ∧ x.kept.length ≤ 900000 ∧ 2 * x.area + 1 ≤ d.size ∧
  (b = true → ¬ x.next + pcs t.cps.toList ≤ d.size → ∀ H', Ex H H' → Q (.bl true) H') ∧
  (b = true → x.next + pcs t.cps.toList ≤ d.size → ∀ lq' H', GAt A H' j p lb lq' lk (addJ x t) (recW d x.next (bks x.gen (x.num + 1) t.cps.toList)).1 → (lq' = lq ∨ H lq' = none) → Kp [j, p, lb, lq, lk] H H' → Q .non H') ∧
  (b = false → ¬ pcs t.cps.toList ≤ x.area → ∀ H', Ex H H' → Q (.bl true) H') ∧
  (b = false → pcs t.cps.toList ≤ x.area → ∀ lk' lq' H', GAt A H' j p lb lq' lk' (chkJ x t) (chkW d (areaOf x.area (x.gen + 1)) (x.gen + 1) (bks (x.gen + 1) x.num t.cps.toList)).1 → H lk' = none → (lq' = lq ∨ H lq' = none) → Kp [j, p, lb, lq, lk] H H' → Q .non H')
def sp_law (K : PySem.W.Frag) (A : Adr) : Sp := fun vs H Q _ => ∃ (a : Addr) (ns : List Int), vs = [.ref a] ∧ SqF K H a (ns.map V.int) ∧ ns.length ≤ 63 ∧ ∀ H', Q (.bl true) H'

def N_is_block_text : List Str := ["text", "char"]
def t_is_block_text (K : PySem.W.Frag) (A : Adr) (W : WX) : TS :=
  (tSeq (tIfS (tTest (tOp oGt (tCB bLenS (tCons (tVar 0) tNil)) (tC (.int 64))))
  (tRet (tC (.bl false)))
  tNext)
  (tRet (tCB (rAll K) (tCons (tLc (iStr (tVar 0)) (gName 1) tYes (tOrV (tOp rEq (tVar 1) (tC (.str "\n"))) (tAndV (tChain oLe oLe (tC (.int 32)) (tCB bOrd (tCons (tVar 1) tNil)) (tC (.int 126))) (tOp rNe (tCB bOrd (tCons (tVar 1) tNil)) (tC (.int 37))))) [1]) tNil))))

def N_Disk_init : List Str := ["self", "size", "_"]
def t_Disk_init (K : PySem.W.Frag) (A : Adr) (W : WX) : TS :=
  (tSeq (sFld K (tVar 0) (tVar 1) "size")
  (tSeq (sFld K (tVar 0) (tLc (iRng1 (tCons (tVar 1) tNil)) (gName 2) tYes (tC (.str "")) [2]) "blocks")
  (tSeq (sFld K (tVar 0) (tLst tNil) "queue")
  (tSeq (sFld K (tVar 0) (tC .non) "left")
  (sFld K (tVar 0) (tC (.bl false)) "down")))))

def N_Disk_spend : List Str := ["self"]
def t_Disk_spend (K : PySem.W.Frag) (A : Adr) (W : WX) : TS :=
  (tSeq (tIfS (tAnd (tTest (tOp oNotN (tFld K (tVar 0) "left") (tC .non))) (tTest (tOp rEq (tFld K (tVar 0) "left") (tC (.int 0)))))
  (sFld K (tVar 0) (tC (.bl true)) "down")
  tNext)
  (tSeq (tIfS (tB (tFld K (tVar 0) "down"))
  (tRaiseP W (fun _ H Q => Q (.ref A.PowerLost) none H))
  tNext)
  (tIfS (tTest (tOp oNotN (tFld K (tVar 0) "left") (tC .non)))
  (sFld K (tVar 0) (tOp oSub (tFld K (tVar 0) "left") (tC (.int 1))) "left")
  tNext)))

def N_Disk_block : List Str := ["self", "index", "text", "at", "other"]
def t_Disk_block (K : PySem.W.Frag) (A : Adr) (W : WX) : TS :=
  (tSeq (tIfS (tB (tFld K (tVar 0) "down"))
  (tRaiseP W (fun _ H Q => Q (.ref A.PowerLost) none H))
  tNext)
  (tSeq (tIfS (tNot (tTest (tChain oLe oLt (tC (.int 0)) (tVar 1) (tFld K (tVar 0) "size"))))
  (tRaiseP W (tMkX A.BadBlock "index" (tCons (tVar 1) tNil)))
  tNext)
  (tSeq (tAsg (tOp (rIxL K) (tFld K (tVar 0) "blocks") (tVar 1)) (gName 2))
  (tSeq (tFor (iList K (tFld K (tVar 0) "queue")) (gTup K 2 (gCons (gName 3) (gCons (gName 4) gNil)))
  (tIfS (tTest (tOp rEq (tVar 3) (tVar 1)))
  (tAsg (tVar 4) (gName 2))
  tNext))
  (tRet (tVar 2))))))

def N_Disk_write : List Str := ["self", "index", "text"]
def t_Disk_write (K : PySem.W.Frag) (A : Adr) (W : WX) : TS :=
  (tSeq (tIfS (tB (tFld K (tVar 0) "down"))
  (tRaiseP W (fun _ H Q => Q (.ref A.PowerLost) none H))
  tNext)
  (tSeq (tIfS (tOr (tNot (tTest (tChain oLe oLt (tC (.int 0)) (tVar 1) (tFld K (tVar 0) "size")))) (tNot (tB (tCallS (sp_is_block_text K A) (WE W) (tCons (tVar 2) tNil)))))
  (tRaiseP W (tMkX A.BadBlock "index" (tCons (tVar 1) tNil)))
  tNext)
  (tSeq (tDrop (tMethS A.Disk "spend" (sp_Disk_spend K A) (WE W) (tVar 0) tNil))
  (tDrop (tBM K "list" rAppend (tFld K (tVar 0) "queue") (tCons (tTup (tCons (tVar 1) (tCons (tVar 2) tNil))) tNil))))))

def N_Disk_sync : List Str := ["self", "at", "text"]
def t_Disk_sync (K : PySem.W.Frag) (A : Adr) (W : WX) : TS :=
  (tSeq (tDrop (tMethS A.Disk "spend" (sp_Disk_spend K A) (WE W) (tVar 0) tNil))
  (tSeq (tFor (iList K (tFld K (tVar 0) "queue")) (gTup K 2 (gCons (gName 1) (gCons (gName 2) gNil)))
  (tAsg (tVar 2) (gSub (tFld K (tVar 0) "blocks") (tVar 1) rSetL)))
  (sFld K (tVar 0) (tLst tNil) "queue")))

def N_Disk_waiting : List Str := ["self"]
def t_Disk_waiting (K : PySem.W.Frag) (A : Adr) (W : WX) : TS :=
  (tRet (tCB (bLen K) (tCons (tFld K (tVar 0) "queue") tNil)))

def N_record_blocks : List Str := ["generation", "number", "text", "pieces", "at", "head", "n"]
def t_record_blocks (K : PySem.W.Frag) (A : Adr) (W : WX) : TS :=
  (tSeq (tAsg (tLc (iRng3 (tCons (tC (.int 0)) (tCons (tCB bMax (tCons (tC (.int 1)) (tCons (tCB bLenS (tCons (tVar 2) tNil)) tNil))) (tCons (tC (.int 32)) tNil)))) (gName 4) tYes (tSl rSlS (tVar 2) (tPart (tVar 4)) (tPart (tOp oAdd (tVar 4) (tC (.int 32))))) [4]) (gName 3))
  (tSeq (tAsg (tOp oAddS (tOp oAddS (tOp oAddS (tCB bStr (tCons (tVar 0) tNil)) (tC (.str " "))) (tCB bStr (tCons (tVar 1) tNil))) (tC (.str " "))) (gName 5))
  (tRet (tLc (iRng1 (tCons (tCB (bLen K) (tCons (tVar 3) tNil)) tNil)) (gName 6) tYes (tOp oAddS (tOp oAddS (tOp oAddS (tOp oAddS (tOp oAddS (tVar 5) (tCB bStr (tCons (tVar 6) tNil))) (tC (.str " "))) (tCB bStr (tCons (tCB (bLen K) (tCons (tVar 3) tNil)) tNil))) (tC (.str " "))) (tOp (rIxL K) (tVar 3) (tVar 6))) [6]))))

def N_read_number : List Str := ["word", "char"]
def t_read_number (K : PySem.W.Frag) (A : Adr) (W : WX) : TS :=
  (tSeq (tIfS (tOr (tTest (tOp rEq (tVar 0) (tC (.str "")))) (tAnd (tTest (tOp oGt (tCB bLenS (tCons (tVar 0) tNil)) (tC (.int 1)))) (tTest (tOp rEq (tOp rIxS (tVar 0) (tC (.int 0))) (tC (.str "0"))))))
  (tRet (tC .non))
  tNext)
  (tSeq (tFor (iStr (tVar 0)) (gName 1)
  (tIfS (tTest (tOp oNotInS (tVar 1) (tC (.str "0123456789"))))
  (tRet (tC .non))
  tNext))
  (tRet (tCB bIntS (tCons (tVar 0) tNil)))))

def N_read_block : List Str := ["text", "numbers", "_", "at", "generation", "number", "index", "pieces"]
def t_read_block (K : PySem.W.Frag) (A : Adr) (W : WX) : TS :=
  (tSeq (tAsg (tLst tNil) (gName 1))
  (tSeq (tFor (iRng1 (tCons (tC (.int 4)) tNil)) (gName 2)
  (tSeq (tAsg (tM1 bFind (tVar 0) (tC (.str " "))) (gName 3))
  (tSeq (tIfS (tOr (tTest (tOp oLt (tVar 3) (tC (.int 0)))) (tTest (tOp oIsN (tCallS (sp_read_number K A) (WE W) (tCons (tSl rSlS (tVar 0) tNoPart (tPart (tVar 3))) tNil)) (tC .non))))
  (tRet (tC .non))
  tNext)
  (tSeq (tDrop (tBM K "list" rAppend (tVar 1) (tCons (tCallS (sp_read_number K A) (WE W) (tCons (tSl rSlS (tVar 0) tNoPart (tPart (tVar 3))) tNil)) tNil)))
  (tAsg (tSl rSlS (tVar 0) (tPart (tOp oAdd (tVar 3) (tC (.int 1)))) tNoPart) (gName 0))))))
  (tSeq (tAsg (tVar 1) (gLst K 4 (gCons (gName 4) (gCons (gName 5) (gCons (gName 6) (gCons (gName 7) gNil))))))
  (tSeq (tIfS (tOr (tTest (tOp oGe (tVar 6) (tVar 7))) (tTest (tOp oGt (tCB bLenS (tCons (tVar 0) tNil)) (tC (.int 32)))))
  (tRet (tC .non))
  tNext)
  (tSeq (tIfS (tOr (tAnd (tTest (tOp oLt (tVar 6) (tOp oSub (tVar 7) (tC (.int 1))))) (tTest (tOp rNe (tCB bLenS (tCons (tVar 0) tNil)) (tC (.int 32))))) (tAnd (tTest (tOp rEq (tVar 0) (tC (.str "")))) (tTest (tOp oGt (tVar 7) (tC (.int 1))))))
  (tRet (tC .non))
  tNext)
  (tRet (tTup (tCons (tVar 4) (tCons (tVar 5) (tCons (tVar 6) (tCons (tVar 7) (tCons (tVar 0) tNil))))))))))))

def N_Journal_area_of : List Str := ["self", "generation"]
def t_Journal_area_of (K : PySem.W.Frag) (A : Adr) (W : WX) : TS :=
  (tSeq (tIfS (tTest (tOp rEq (tOp oMod (tCB bInt (tCons (tVar 1) tNil)) (tC (.int 2))) (tC (.int 1))))
  (tRet (tC (.int 1)))
  tNext)
  (tRet (tOp oAdd (tFld K (tVar 0) "area") (tC (.int 1)))))

def N_Journal_read_record : List Str := ["self", "start", "end", "generation", "found", "text", "at", "block"]
def t_Journal_read_record (K : PySem.W.Frag) (A : Adr) (W : WX) : TS :=
  (tSeq (tAsg (tC .non) (gName 4))
  (tSeq (tAsg (tC (.str "")) (gName 5))
  (tSeq (tFor (iRng2 (tCons (tVar 1) (tCons (tVar 2) tNil))) (gName 6)
  (tSeq (tAsg (tCallS (sp_read_block K A) (WE W) (tCons (tMethS A.Disk "block" (sp_Disk_block K A) (WE W) (tFld K (tVar 0) "disk") (tCons (tVar 6) tNil)) tNil)) (gName 7))
  (tSeq (tIfS (tOr (tTest (tOp oIsN (tVar 7) (tC .non))) (tOr (tTest (tOp rNe (tOp (rIxT K) (tVar 7) (tC (.int 0))) (tVar 3))) (tTest (tOp rNe (tOp (rIxT K) (tVar 7) (tC (.int 2))) (tOp oSub (tVar 6) (tVar 1))))))
  (tRet (tC .non))
  tNext)
  (tSeq (tIfS (tAnd (tTest (tOp oNotN (tVar 4) (tC .non))) (tTest (tOp (rNeD K) (tTup (tCons (tOp (rIxT K) (tVar 7) (tC (.int 1))) (tCons (tOp (rIxT K) (tVar 7) (tC (.int 3))) tNil))) (tVar 4))))
  (tRet (tC .non))
  tNext)
  (tSeq (tAsg (tTup (tCons (tOp (rIxT K) (tVar 7) (tC (.int 1))) (tCons (tOp (rIxT K) (tVar 7) (tC (.int 3))) tNil))) (gName 4))
  (tSeq (tAsg (tOp oAddS (tVar 5) (tOp (rIxT K) (tVar 7) (tC (.int 4)))) (gName 5))
  (tIfS (tTest (tOp rEq (tOp (rIxT K) (tVar 7) (tC (.int 2))) (tOp oSub (tOp (rIxT K) (tVar 7) (tC (.int 3))) (tC (.int 1)))))
  (tRet (tTup (tCons (tOp (rIxT K) (tVar 7) (tC (.int 1))) (tCons (tVar 5) (tCons (tOp (rIxT K) (tVar 7) (tC (.int 3))) tNil)))))
  tNext)))))))
  (tRet (tC .non)))))

def N_Journal_empty_rest : List Str := ["self", "found", "at"]
def t_Journal_empty_rest (K : PySem.W.Frag) (A : Adr) (W : WX) : TS :=
  (tSeq (tAsg (tC (.bl false)) (gName 1))
  (tSeq (tFor (iRng2 (tCons (tFld K (tVar 0) "next") (tCons (tFld K (tFld K (tVar 0) "disk") "size") tNil))) (gName 2)
  (tIfS (tTest (tOp rNe (tMethS A.Disk "block" (sp_Disk_block K A) (WE W) (tFld K (tVar 0) "disk") (tCons (tVar 2) tNil)) (tC (.str ""))))
  (tSeq (tDrop (tMethS A.Disk "write" (sp_Disk_write K A) (WE W) (tFld K (tVar 0) "disk") (tCons (tVar 2) (tCons (tC (.str "")) tNil))))
  (tAsg (tC (.bl true)) (gName 1)))
  tNext))
  (tIfS (tB (tVar 1))
  (tDrop (tMethS A.Disk "sync" (sp_Disk_sync K A) (WE W) (tFld K (tVar 0) "disk") tNil))
  tNext)))

def N_Journal_recover : List Str := ["self", "root", "start", "number", "text", "_", "record"]
def t_Journal_recover (K : PySem.W.Frag) (A : Adr) (W : WX) : TS :=
  (tSeq (tAsg (tMethS A.Disk "block" (sp_Disk_block K A) (WE W) (tFld K (tVar 0) "disk") (tCons (tC (.int 0)) tNil)) (gName 1))
  (Evl.tCut (tIfS (tTest (tOp rNe (tVar 1) (tC (.str ""))))
  (tSeq (sFld K (tVar 0) (tCB bIntS (tCons (tSl rSlS (tVar 1) (tPart (tCB bLenS (tCons (tC (.str "root ")) tNil))) tNoPart) tNil)) "generation")
  (tSeq (tAsg (tMethS A.Journal "area_of" (sp_Journal_area_of K A) (WE W) (tVar 0) (tCons (tFld K (tVar 0) "generation") tNil)) (gName 2))
  (tSeq (tAsg (tMethS A.Journal "read_record" (sp_Journal_read_record K A) (WE W) (tVar 0) (tCons (tVar 2) (tCons (tOp oAdd (tVar 2) (tFld K (tVar 0) "area")) (tCons (tFld K (tVar 0) "generation") tNil)))) (gTup K 3 (gCons (gName 3) (gCons (gName 4) (gCons (gName 5) gNil)))))
  (tSeq (sFld K (tVar 0) (tVar 3) "image_number")
  (tSeq (sFld K (tVar 0) (tVar 4) "image")
  (sFld K (tVar 0) (tVar 3) "number"))))))
  tNext)
  (tSeq (tAsg (tMethS A.Journal "read_record" (sp_Journal_read_record K A) (WE W) (tVar 0) (tCons (tFld K (tVar 0) "next") (tCons (tFld K (tFld K (tVar 0) "disk") "size") (tCons (tFld K (tVar 0) "generation") tNil)))) (gName 6))
  (tSeq (tWhile (tAnd (tTest (tOp oNotN (tVar 6) (tC .non))) (tTest (tOp rEq (tOp (rIxT K) (tVar 6) (tC (.int 0))) (tOp oAdd (tFld K (tVar 0) "number") (tC (.int 1))))))
  (tSeq (tDrop (tBM K "list" rAppend (tFld K (tVar 0) "kept") (tCons (tTup (tCons (tOp (rIxT K) (tVar 6) (tC (.int 0))) (tCons (tOp (rIxT K) (tVar 6) (tC (.int 1))) tNil))) tNil)))
  (tSeq (sFld K (tVar 0) (tOp (rIxT K) (tVar 6) (tC (.int 0))) "number")
  (tSeq (sFld K (tVar 0) (tOp oAdd (tFld K (tVar 0) "next") (tOp (rIxT K) (tVar 6) (tC (.int 2)))) "next")
  (tAsg (tMethS A.Journal "read_record" (sp_Journal_read_record K A) (WE W) (tVar 0) (tCons (tFld K (tVar 0) "next") (tCons (tFld K (tFld K (tVar 0) "disk") "size") (tCons (tFld K (tVar 0) "generation") tNil)))) (gName 6))))))
  (tDrop (tMethS A.Journal "empty_rest" (sp_Journal_empty_rest K A) (WE W) (tVar 0) tNil))))))

def N_Journal_init : List Str := ["self", "disk"]
def t_Journal_init (K : PySem.W.Frag) (A : Adr) (W : WX) : TS :=
  (tSeq (sFld K (tVar 0) (tVar 1) "disk")
  (tSeq (sFld K (tVar 0) (tOp oDiv (tOp oSub (tFld K (tVar 1) "size") (tC (.int 1))) (tC (.int 3))) "area")
  (tSeq (sFld K (tVar 0) (tOp oAdd (tOp oMul (tC (.int 2)) (tFld K (tVar 0) "area")) (tC (.int 1))) "first")
  (tSeq (sFld K (tVar 0) (tFld K (tVar 0) "first") "next")
  (tSeq (sFld K (tVar 0) (tC (.int 0)) "generation")
  (tSeq (sFld K (tVar 0) (tC (.int 0)) "number")
  (tSeq (sFld K (tVar 0) (tC (.int 0)) "image_number")
  (tSeq (sFld K (tVar 0) (tC (.str "")) "image")
  (tSeq (sFld K (tVar 0) (tLst tNil) "kept")
  (tDrop (tMethS A.Journal "recover" (sp_Journal_recover K A) (WE W) (tVar 0) tNil)))))))))))

def N_Journal_records : List Str := ["self"]
def t_Journal_records (K : PySem.W.Frag) (A : Adr) (W : WX) : TS :=
  (tRet (tCB (bList K) (tCons (tFld K (tVar 0) "kept") tNil)))

def N_Journal_has_room : List Str := ["self", "text"]
def t_Journal_has_room (K : PySem.W.Frag) (A : Adr) (W : WX) : TS :=
  (tRet (tOp oLe (tOp oAdd (tFld K (tVar 0) "next") (tCB (bLen K) (tCons (tCallS (sp_record_blocks K A) (WE W) (tCons (tFld K (tVar 0) "generation") (tCons (tOp oAdd (tFld K (tVar 0) "number") (tC (.int 1))) (tCons (tVar 1) tNil)))) tNil))) (tFld K (tFld K (tVar 0) "disk") "size")))

def N_Journal_write_record : List Str := ["self", "text", "blocks", "n"]
def t_Journal_write_record (K : PySem.W.Frag) (A : Adr) (W : WX) : TS :=
  (tSeq (tIfS (tNot (tB (tMethS A.Journal "has_room" (sp_Journal_has_room K A) (WE W) (tVar 0) (tCons (tVar 1) tNil))))
  (tRaiseP W (fun _ H Q => Q (.ref A.DiskFull) none H))
  tNext)
  (tSeq (tAsg (tCallS (sp_record_blocks K A) (WE W) (tCons (tFld K (tVar 0) "generation") (tCons (tOp oAdd (tFld K (tVar 0) "number") (tC (.int 1))) (tCons (tVar 1) tNil)))) (gName 2))
  (tSeq (tFor (iRng1 (tCons (tCB (bLen K) (tCons (tVar 2) tNil)) tNil)) (gName 3)
  (tDrop (tMethS A.Disk "write" (sp_Disk_write K A) (WE W) (tFld K (tVar 0) "disk") (tCons (tOp oAdd (tFld K (tVar 0) "next") (tVar 3)) (tCons (tOp (rIxL K) (tVar 2) (tVar 3)) tNil)))))
  (tSeq (tDrop (tMethS A.Disk "sync" (sp_Disk_sync K A) (WE W) (tFld K (tVar 0) "disk") tNil))
  (tSeq (sFld K (tVar 0) (tOp oAdd (tFld K (tVar 0) "next") (tCB (bLen K) (tCons (tVar 2) tNil))) "next")
  (tSeq (sFld K (tVar 0) (tOp oAdd (tFld K (tVar 0) "number") (tC (.int 1))) "number")
  (tDrop (tBM K "list" rAppend (tFld K (tVar 0) "kept") (tCons (tTup (tCons (tFld K (tVar 0) "number") (tCons (tVar 1) tNil))) tNil)))))))))

def N_Journal_checkpoint : List Str := ["self", "text", "generation", "blocks", "start", "n"]
def t_Journal_checkpoint (K : PySem.W.Frag) (A : Adr) (W : WX) : TS :=
  (tSeq (tAsg (tOp oAdd (tFld K (tVar 0) "generation") (tC (.int 1))) (gName 2))
  (tSeq (tAsg (tCallS (sp_record_blocks K A) (WE W) (tCons (tVar 2) (tCons (tFld K (tVar 0) "number") (tCons (tVar 1) tNil)))) (gName 3))
  (tSeq (tIfS (tTest (tOp oGt (tCB (bLen K) (tCons (tVar 3) tNil)) (tFld K (tVar 0) "area")))
  (tRaiseP W (fun _ H Q => Q (.ref A.DiskFull) none H))
  tNext)
  (tSeq (tAsg (tMethS A.Journal "area_of" (sp_Journal_area_of K A) (WE W) (tVar 0) (tCons (tVar 2) tNil)) (gName 4))
  (tSeq (tFor (iRng1 (tCons (tCB (bLen K) (tCons (tVar 3) tNil)) tNil)) (gName 5)
  (tDrop (tMethS A.Disk "write" (sp_Disk_write K A) (WE W) (tFld K (tVar 0) "disk") (tCons (tOp oAdd (tVar 4) (tVar 5)) (tCons (tOp (rIxL K) (tVar 3) (tVar 5)) tNil)))))
  (tSeq (tDrop (tMethS A.Disk "sync" (sp_Disk_sync K A) (WE W) (tFld K (tVar 0) "disk") tNil))
  (tSeq (tDrop (tMethS A.Disk "write" (sp_Disk_write K A) (WE W) (tFld K (tVar 0) "disk") (tCons (tC (.int 0)) (tCons (tOp oAddS (tC (.str "root ")) (tCB bStr (tCons (tVar 2) tNil))) tNil))))
  (tSeq (tDrop (tMethS A.Disk "sync" (sp_Disk_sync K A) (WE W) (tFld K (tVar 0) "disk") tNil))
  (tSeq (sFld K (tVar 0) (tVar 2) "generation")
  (tSeq (sFld K (tVar 0) (tFld K (tVar 0) "number") "image_number")
  (tSeq (sFld K (tVar 0) (tVar 1) "image")
  (tSeq (sFld K (tVar 0) (tLst tNil) "kept")
  (sFld K (tVar 0) (tFld K (tVar 0) "first") "next")))))))))))))

def N__law_state : List Str := ["_law_script", "_law_mixed", "_law_rest"]
def t__law_state (K : PySem.W.Frag) (A : Adr) (W : WX) : TS :=
  (tSeq (tAsg (tC (.int 0)) (gName 1))
  (tSeq (tAsg (tC (.int 0)) (gName 2))
  (tSeq (tIfS (tTest (tOp oGt (tCB (bLen K) (tCons (tVar 0) tNil)) (tC (.int 0))))
  (tSeq (tAsg (tOp oMod (tCB bInt (tCons (tOp (rIxL K) (tVar 0) (tC (.int 0))) tNil)) (tC (.int 2))) (gName 1))
  (tAsg (tOp (rIxL K) (tLst (tCons (tOp oDiv (tCB bAbs (tCons (tOp (rIxL K) (tVar 0) (tC (.int 0))) tNil)) (tC (.int 2))) (tCons (tC (.int 1)) tNil))) (tVar 1)) (gName 2)))
  tNext)
  (tRet (tLst (tCons (tVar 0) (tCons (tVar 2) (tCons (tC (.int 1)) (tCons (tVar 1) (tCons (tLst tNil) (tCons (tC (.int 0)) (tCons (tC (.int 0)) (tCons (tC (.int 0)) tNil)))))))))))))

def N__law_take : List Str := ["_law_state_here", "_law_many", "_law_cell", "_law_drawn"]
def t__law_take (K : PySem.W.Frag) (A : Adr) (W : WX) : TS :=
  (tSeq (tIfS (tTest (tOp rEq (tOp (rIxL K) (tVar 0) (tC (.int 3))) (tC (.int 1))))
  (tSeq (tAsg (tOp (rIxL K) (tOp (rIxL K) (tVar 0) (tC (.int 0))) (tOp oMod (tCB bInt (tCons (tOp (rIxL K) (tVar 0) (tC (.int 2))) tNil)) (tCB (bLen K) (tCons (tOp (rIxL K) (tVar 0) (tC (.int 0))) tNil)))) (gName 2))
  (tSeq (tAsg (tOp oMod (tCB bInt (tCons (tOp oAdd (tOp oAdd (tOp oAdd (tOp oMul (tOp (rIxL K) (tVar 0) (tC (.int 1))) (tC (.int 48271))) (tOp oMul (tVar 2) (tC (.int 69621)))) (tOp oMul (tOp (rIxL K) (tVar 0) (tC (.int 2))) (tC (.int 7919)))) (tC (.int 11))) tNil)) (tC (.int 2147483647))) (gSub (tVar 0) (tC (.int 1)) rSetL))
  (tSeq (tAsg (tOp oAdd (tOp (rIxL K) (tVar 0) (tC (.int 2))) (tC (.int 1))) (gSub (tVar 0) (tC (.int 2)) rSetL))
  (tRet (tOp oMod (tOp oMod (tCB bInt (tCons (tOp oAdd (tOp oMul (tOp (rIxL K) (tVar 0) (tC (.int 1))) (tC (.int 16807))) (tC (.int 5))) tNil)) (tC (.int 2147483629))) (tVar 1))))))
  tNext)
  (tSeq (tIfS (tTest (tOp rEq (tOp (rIxL K) (tVar 0) (tC (.int 1))) (tC (.int 0))))
  (tSeq (tIfS (tTest (tOp oGe (tOp (rIxL K) (tVar 0) (tC (.int 2))) (tCB (bLen K) (tCons (tOp (rIxL K) (tVar 0) (tC (.int 0))) tNil))))
  (tRet (tC (.int 0)))
  tNext)
  (tSeq (tAsg (tCB bAbs (tCons (tOp (rIxL K) (tOp (rIxL K) (tVar 0) (tC (.int 0))) (tOp (rIxL K) (tVar 0) (tC (.int 2)))) tNil)) (gSub (tVar 0) (tC (.int 1)) rSetL))
  (tAsg (tOp oAdd (tOp (rIxL K) (tVar 0) (tC (.int 2))) (tC (.int 1))) (gSub (tVar 0) (tC (.int 2)) rSetL))))
  tNext)
  (tSeq (tAsg (tOp oMod (tCB bInt (tCons (tOp (rIxL K) (tVar 0) (tC (.int 1))) tNil)) (tVar 1)) (gName 3))
  (tSeq (tAsg (tOp oDiv (tOp (rIxL K) (tVar 0) (tC (.int 1))) (tVar 1)) (gSub (tVar 0) (tC (.int 1)) rSetL))
  (tRet (tVar 3))))))

def N__law_text_of : List Str := ["_law_state_here", "_law_most"]
def t__law_text_of (K : PySem.W.Frag) (A : Adr) (W : WX) : TS :=
  (tRet (tOp oAddS (tSl rSlS (tSl rSlS (tC (.str "abcdefg 12\n(z)")) (tPart (tCallS (sp__law_take K A) (WE W) (tCons (tVar 0) (tCons (tC (.int 13)) tNil)))) tNoPart) tNoPart (tPart (tC (.int 1)))) (tOp oRepS (tC (.str "r")) (tCallS (sp__law_take K A) (WE W) (tCons (tVar 0) (tCons (tVar 1) tNil))))))

def N__law_seen_journal : List Str := ["_law_journal"]
def t__law_seen_journal (K : PySem.W.Frag) (A : Adr) (W : WX) : TS :=
  (tRet (tLst (tCons (tFld K (tVar 0) "generation") (tCons (tFld K (tVar 0) "number") (tCons (tFld K (tVar 0) "image_number") (tCons (tFld K (tVar 0) "image") (tCons (tMethS A.Journal "records" (sp_Journal_records K A) (WE W) (tVar 0) tNil) tNil)))))))

def N__law_spilled : List Str := ["_law_text"]
def t__law_spilled (K : PySem.W.Frag) (A : Adr) (W : WX) : TS :=
  (tRet (tCB bMax (tCons (tC (.int 1)) (tCons (tOp oDiv (tOp oAdd (tCB bLenS (tCons (tVar 0) tNil)) (tC (.int 31))) (tC (.int 32))) tNil))))

def N__law_written : List Str := ["_law_journal", "_law_text", "_law_is_record", "e"]
def t__law_written (K : PySem.W.Frag) (A : Adr) (W : WX) : TS :=
  (tSeq (tMix K W [⟨.ref A.DiskFull, some 3, fun a cls d => (tRet (tAndV (tCB (rIsPc K A.DiskFull A.DatabaseError a cls) (tCons (tVar 3) (tCons (tC (.ref A.DatabaseError)) tNil))) (tNotV (tCB (rIsEc K A.DiskFull a cls d) (tCons (tVar 3) (tCons (tC (.ref A.PowerLost)) tNil))))))⟩] (fun W1 => (tIfS (tB (tVar 2))
  (tDrop (tMethS A.Journal "write_record" (sp_Journal_write_record K A) (WE W1) (tVar 0) (tCons (tVar 1) tNil)))
  (tDrop (tMethS A.Journal "checkpoint" (sp_Journal_checkpoint K A) (WE W1) (tVar 0) (tCons (tVar 1) tNil))))))
  (tRet (tC .non)))

def N_law : List Str := ["_law_script", "_law_state_here", "_law_size", "_law_area", "_law_disk", "_law_journal", "_law_model", "_law_used", "_law_n", "_law_kind", "_law_text", "_law_fits", "_law_due", "_law_told"]
def t_law (K : PySem.W.Frag) (A : Adr) (W : WX) : TS :=
  (tSeq (tAsg (tCallS (sp__law_state K A) (WE W) (tCons (tVar 0) tNil)) (gName 1))
  (tSeq (tAsg (tOp oAdd (tC (.int 4)) (tCallS (sp__law_take K A) (WE W) (tCons (tVar 1) (tCons (tC (.int 57)) tNil)))) (gName 2))
  (tSeq (tAsg (tOp oDiv (tOp oSub (tVar 2) (tC (.int 1))) (tC (.int 3))) (gName 3))
  (tSeq (tAsg (tMakeS A.Disk (sp_Disk_init K A) (WE W) (tCons (tVar 2) tNil)) (gName 4))
  (tSeq (tAsg (tMakeS A.Journal (sp_Journal_init K A) (WE W) (tCons (tVar 4) tNil)) (gName 5))
  (tSeq (tAsg (tLst (tCons (tC (.int 0)) (tCons (tC (.int 0)) (tCons (tC (.int 0)) (tCons (tC (.str "")) (tCons (tLst tNil) tNil)))))) (gName 6))
  (tSeq (tAsg (tC (.int 0)) (gName 7))
  (tSeq (tFor (iRng1 (tCons (tOp oAdd (tC (.int 1)) (tCB (bLen K) (tCons (tSl (rSlL K) (tVar 0) tNoPart (tPart (tC (.int 20)))) tNil))) tNil)) (gName 8)
  (tSeq (tAsg (tCallS (sp__law_take K A) (WE W) (tCons (tVar 1) (tCons (tC (.int 5)) tNil))) (gName 9))
  (tSeq (tAsg (tCallS (sp__law_text_of K A) (WE W) (tCons (tVar 1) (tCons (tOp (rIxL K) (tLst (tCons (tC (.int 20)) (tCons (tC (.int 130)) tNil))) (tCallS (sp__law_take K A) (WE W) (tCons (tVar 1) (tCons (tC (.int 2)) tNil)))) tNil))) (gName 10))
  (Evl.tCut (tIfS (tTest (tOp oLt (tVar 9) (tC (.int 3))))
  (tSeq (tAsg (tOp oLe (tOp oAdd (tVar 7) (tCallS (sp__law_spilled K A) (WE W) (tCons (tVar 10) tNil))) (tOp oSub (tOp oSub (tVar 2) (tC (.int 1))) (tOp oMul (tC (.int 2)) (tVar 3)))) (gName 11))
  (tSeq (tIfS (tTest (tOp rNe (tCB (rRepr K) (tCons (tMethS A.Journal "has_room" (sp_Journal_has_room K A) (WE W) (tVar 5) (tCons (tVar 10) tNil)) tNil)) (tCB (rRepr K) (tCons (tVar 11) tNil))))
  (tRet (tC (.bl false)))
  tNext)
  (tSeq (tAsg (tC .non) (gName 12))
  (tSeq (tIfS (tB (tVar 11))
  (tSeq (tAsg (tOp oAdd (tVar 7) (tCallS (sp__law_spilled K A) (WE W) (tCons (tVar 10) tNil))) (gName 7))
  (tAsg (tLst (tCons (tOp (rIxL K) (tVar 6) (tC (.int 0))) (tCons (tOp oAdd (tOp (rIxL K) (tVar 6) (tC (.int 1))) (tC (.int 1))) (tCons (tOp (rIxL K) (tVar 6) (tC (.int 2))) (tCons (tOp (rIxL K) (tVar 6) (tC (.int 3))) (tCons (tOp rCat (tOp (rIxL K) (tVar 6) (tC (.int 4))) (tLst (tCons (tTup (tCons (tOp oAdd (tOp (rIxL K) (tVar 6) (tC (.int 1))) (tC (.int 1))) (tCons (tVar 10) tNil))) tNil))) tNil)))))) (gName 6)))
  (tAsg (tC (.bl true)) (gName 12)))
  (tIfS (tTest (tOp rNe (tCB (rRepr K) (tCons (tCallS (sp__law_written K A) (WE W) (tCons (tVar 5) (tCons (tVar 10) (tCons (tC (.bl true)) tNil)))) tNil)) (tCB (rRepr K) (tCons (tVar 12) tNil))))
  (tRet (tC (.bl false)))
  tNext)))))
  (tIfS (tTest (tOp rEq (tVar 9) (tC (.int 3))))
  (tSeq (tIfS (tTest (tOp rEq (tOp oMod (tVar 8) (tC (.int 2))) (tC (.int 1))))
  (tAsg (tC (.str "")) (gName 10))
  tNext)
  (tSeq (tAsg (tC .non) (gName 12))
  (tSeq (tIfS (tTest (tOp oLe (tCallS (sp__law_spilled K A) (WE W) (tCons (tVar 10) tNil)) (tVar 3)))
  (tSeq (tAsg (tC (.int 0)) (gName 7))
  (tAsg (tLst (tCons (tOp oAdd (tOp (rIxL K) (tVar 6) (tC (.int 0))) (tC (.int 1))) (tCons (tOp (rIxL K) (tVar 6) (tC (.int 1))) (tCons (tOp (rIxL K) (tVar 6) (tC (.int 1))) (tCons (tVar 10) (tCons (tLst tNil) tNil)))))) (gName 6)))
  (tAsg (tC (.bl true)) (gName 12)))
  (tIfS (tTest (tOp rNe (tCB (rRepr K) (tCons (tCallS (sp__law_written K A) (WE W) (tCons (tVar 5) (tCons (tVar 10) (tCons (tC (.bl false)) tNil)))) tNil)) (tCB (rRepr K) (tCons (tVar 12) tNil))))
  (tRet (tC (.bl false)))
  tNext))))
  (tAsg (tMakeS A.Journal (sp_Journal_init K A) (WE W) (tCons (tVar 4) tNil)) (gName 5))))
  (tSeq (tIfS (tOr (tTest (tOp rNe (tCB (rRepr K) (tCons (tCallS (sp__law_seen_journal K A) (WE W) (tCons (tVar 5) tNil)) tNil)) (tCB (rRepr K) (tCons (tVar 6) tNil)))) (tTest (tOp rNe (tMethS A.Disk "waiting" (sp_Disk_waiting K A) (WE W) (tVar 4) tNil) (tC (.int 0)))))
  (tRet (tC (.bl false)))
  tNext)
  (tSeq (tAsg (tMethS A.Journal "records" (sp_Journal_records K A) (WE W) (tVar 5) tNil) (gName 13))
  (tDrop (tBM K "list" rAppend (tVar 13) (tCons (tTup (tCons (tC (.int 0)) (tCons (tC (.str "")) tNil))) tNil)))))))))
  (tRet (tOp rEq (tCB (rRepr K) (tCons (tCallS (sp__law_seen_journal K A) (WE W) (tCons (tMakeS A.Journal (sp_Journal_init K A) (WE W) (tCons (tVar 4) tNil)) tNil)) tNil)) (tCB (rRepr K) (tCons (tVar 6) tNil))))))))))))


end U

set_option Elab.async false
set_option linter.all false
set_option maxRecDepth 100000
set_option maxHeartbeats 4000000
namespace U
open PySem PySem.Spec PyProof.Rows L2
/-! ### stepping: local words (walk_at "..": a word of the library's syntax, given a meaning of our own here) -/
local macro_rules | `(tactic| walk_at "ne") => `(tactic| first
  | assumption
  | exact Ne.symm (by assumption)
  | exact ne_of_none (by assumption) (by assumption)
  | exact (ne_of_none (by assumption) (by assumption)).symm
  | exact ne_of (by assumption) (by assumption) (by intro z; cases z)
  | exact (ne_of (by assumption) (by assumption) (by intro z; cases z)).symm)
local macro_rules | `(tactic| walk_at "hp") => `(tactic| first
  | assumption
  | exact upd_same
  | ((apply hp_ne); (focus (walk_at "ne")); (walk_at "hp"))
  | ((apply hp_ex); assumption; (walk_at "hp")))
local macro_rules | `(tactic| walk_at "sq") => `(tactic| first
  | assumption
  | ((apply Evl.sq_of); (walk_at "hp"))
  | ((apply Evl.st_of); (walk_at "hp"))
  | ((apply Evl.ex_l); assumption; (walk_at "sq"))
  | ((apply Evl.ex_t); assumption; (walk_at "sq")))
local macro_rules | `(tactic| walk_at "sz") => `(tactic| first | (simp only [List.length_cons, List.length_nil]; omega) | omega | decide)
local macro_rules | `(tactic| walk_at "ar") => `(tactic| first | omega | decide | assumption)
local macro_rules | `(tactic| walk_at "s1") => `(tactic| first
  | (with_reducible first
      | refine r_seq ?_ | refine r_asg ?_ | refine r_drop ?_ | refine r_ret ?_ | refine r_retN ?_ | refine r_if ?_ | refine r_next ?_ | refine r_brk ?_ | refine r_cont ?_ | refine r_sFld ?_ | refine r_raise ?_
      | refine r_op ?_ | refine r_cons ?_ | refine r_nil ?_ | refine r_c ?_ | refine r_cb ?_ | refine r_call ?_ | refine r_meth ?_ | refine r_make ?_ | refine r_fld ?_ | refine r_tup ?_ | refine r_lst ?_ | refine r_un ?_
      | refine r_name ?_ | refine r_gCons ?_ | refine r_gNil ?_ | refine r_gSub ?_ | refine r_test ?_ | refine r_B ?_ | refine r_tru ?_ | refine r_and ?_ | refine r_or ?_ | refine r_not ?_ | refine r_chain ?_
      | refine r_andV ?_ | refine r_orV ?_ | refine r_notV ?_ | refine r_if' ?_ | refine r_sl ?_ | refine r_noPart ?_ | refine r_part ?_ | refine r_bm ?_ | refine r_bm0 ?_ | refine r_m1 ?_
      | refine r_exI ?_ | refine r_exB ?_ | refine r_exS ?_
      | refine r_add ?_ | refine r_sub ?_ | refine r_lt ?_ | refine r_le ?_ | refine r_gt ?_ | refine r_ge ?_ | refine r_and2 ?_ | refine r_neg ?_
      | refine r_eqI ?_ | refine r_neI ?_ | refine r_eqS ?_ | refine r_neS ?_ | refine r_eqNI ?_ | refine r_isNN ?_ | refine r_isNI ?_ | refine r_isNR ?_ | refine r_notNN ?_ | refine r_notNI ?_ | refine r_notNR ?_
      | refine r_inS ?_ | refine r_notInS ?_ | refine r_truI ?_ | refine r_truB ?_ | refine r_truN ?_ | refine r_abs ?_ | refine r_max ?_ | refine r_min ?_ | refine r_int ?_ | refine r_intB ?_ | refine r_ord ?_ | refine r_find ?_
      | refine iteT ?_ | refine iteF ?_ | refine if_nf ?_ | refine if_nt ?_ | refine r_mkx ?_ | refine r_mkG ?_ | refine r_gS ?_
      | refine r_forL ?_ | refine r_forT ?_ | refine r_forS ?_ | refine r_forR1 ?_ | refine r_forR2 ?_ | refine r_lc ?_ | refine r_iL ?_ | refine r_iT ?_ | refine r_iS ?_ | refine r_iR1 ?_ | refine r_iR2 ?_ | refine r_iR3 ?_)
  | ((with_reducible apply r_var); (with_unfolding_all rfl))
  | ((with_reducible first | refine r_mod ?_ ?_ | refine r_mul ?_ ?_ | refine r_div ?_ ?_ | refine r_pow ?_ ?_); (first | omega | decide | exact ⟨by omega, by omega⟩ | exact ⟨by decide, by decide⟩ | exact .inr ⟨by omega, by omega⟩ | exact .inl ⟨by omega, by omega⟩ | exact .inr ⟨by decide, by decide⟩ | exact ⟨by decide, by decide, by decide⟩))
  | ((with_reducible first | apply r_tyL | apply r_ixL | apply r_ixT | apply r_lenL | apply r_lenT | apply r_truL | apply r_truT | apply r_gL | apply r_gT); (walk_at "sq"); (try (first | assumption | (exact atI_nat (by assumption)) | rfl)))
  | ((with_reducible first | apply r_gR1 | apply r_gR2 | apply r_addS | apply r_lenS | apply r_str | apply r_repS); (first | omega | decide | exact ⟨by omega, by omega⟩ | exact ⟨⟨by omega, by omega⟩, by omega, by omega⟩ | (exact Nat.le_trans (by assumption) (by decide)) | exact ⟨by omega, by omega, by decide +kernel⟩))
  | ((with_reducible refine ifT ?_ ?_); (walk_at "ar"))
  | ((with_reducible refine ifF ?_ ?_); (walk_at "ar"))
  | ((with_reducible refine ifNT ?_ ?_); (walk_at "ar"))
  | ((with_reducible refine ifNF ?_ ?_); (walk_at "ar")))
local macro_rules | `(tactic| walk_at "go") => `(tactic| repeat (walk_at "s1"))

local macro_rules | `(tactic| walk_at "cls") => `(tactic| (with_reducible first
  | apply g_Disk_size (by assumption)
  | apply w_Disk_size (by assumption)
  | apply g_Disk_blocks (by assumption)
  | apply w_Disk_blocks (by assumption)
  | apply g_Disk_queue (by assumption)
  | apply w_Disk_queue (by assumption)
  | apply g_Disk_left (by assumption)
  | apply w_Disk_left (by assumption)
  | apply g_Disk_down (by assumption)
  | apply w_Disk_down (by assumption)
  | apply g_Journal_disk (by assumption)
  | apply w_Journal_disk (by assumption)
  | apply g_Journal_area (by assumption)
  | apply w_Journal_area (by assumption)
  | apply g_Journal_first (by assumption)
  | apply w_Journal_first (by assumption)
  | apply g_Journal_next (by assumption)
  | apply w_Journal_next (by assumption)
  | apply g_Journal_generation (by assumption)
  | apply w_Journal_generation (by assumption)
  | apply g_Journal_number (by assumption)
  | apply w_Journal_number (by assumption)
  | apply g_Journal_image_number (by assumption)
  | apply w_Journal_image_number (by assumption)
  | apply g_Journal_image (by assumption)
  | apply w_Journal_image (by assumption)
  | apply g_Journal_kept (by assumption)
  | apply w_Journal_kept (by assumption)
  | apply mm_Disk_spend
  | apply mm_Disk_block
  | apply mm_Disk_write
  | apply mm_Disk_sync
  | apply mm_Disk_waiting
  | apply mm_Journal_area_of
  | apply mm_Journal_read_record
  | apply mm_Journal_empty_rest
  | apply mm_Journal_recover
  | apply mm_Journal_records
  | apply mm_Journal_has_room
  | apply mm_Journal_write_record
  | apply mm_Journal_checkpoint); walk_at "hp")
local macro_rules | `(tactic| walk_at "cls0") => `(tactic| (with_reducible first
  | apply w0_Disk_size (by assumption)
  | apply w0_Disk_blocks (by assumption)
  | apply w0_Disk_queue (by assumption)
  | apply w0_Disk_left (by assumption)
  | apply w0_Disk_down (by assumption)
  | apply w0_Journal_disk (by assumption)
  | apply w0_Journal_area (by assumption)
  | apply w0_Journal_first (by assumption)
  | apply w0_Journal_next (by assumption)
  | apply w0_Journal_generation (by assumption)
  | apply w0_Journal_number (by assumption)
  | apply w0_Journal_image_number (by assumption)
  | apply w0_Journal_image (by assumption)
  | apply w0_Journal_kept (by assumption)); walk_at "hp")
local macro_rules | `(tactic| walk_at "go") => `(tactic| repeat (first | walk_at "s1" | walk_at "cls"))

/-! ### the disk's defs keep their promises -/
theorem kp_of {fp : List Addr} {H H' H2 : Hp} (k : Kp fp H H') (e : Ex H' H2) : Kp fp H H2 := fun b o h n => e b o (k b o h n)
theorem kp_upd {p : Addr} {H : Hp} {o : HO} : Kp [p] H (upd H p o) := fun b u h n => by
  rw [upd_ne (fun z => n (by rw [z]; exact List.mem_singleton.mpr rfl))]
  exact h
theorem kp_trans {fp : List Addr} {H H' H2 : Hp} (a : Kp fp H H') (b : Kp fp H' H2) : Kp fp H H2 := fun x o h n => b x o (a x o h n) n
theorem kp_mono {fp fq : List Addr} {H H' : Hp} (a : Kp fp H H') (h : ∀ x ∈ fp, x ∈ fq) : Kp fq H H' := fun x o e n => a x o e fun z => n (h x z)
theorem kp_ex {fp : List Addr} {H H' : Hp} (a : Ex H H') : Kp fp H H' := fun x o e _ => a x o e
theorem tups_kp {H H' : Hp} {ps : List Addr} {q : List (Nat × Str)} (h : Tups H ps q) (k : ∀ b xs, H b = some (.tup xs) → H' b = some (.tup xs)) : Tups H' ps q :=
  Paired.mapP h fun a e z => k _ _ z
theorem tups_get {H : Hp} : ∀ {ps : List Addr} {q : List (Nat × Str)} {i : Nat} {a : Addr}, Tups H ps q → ps[i]? = some a → ∃ e, q[i]? = some e ∧ H a = some (.tup [.int (e.1 : Nat), .str e.2])
  | _, _, _, _, .nil, h => by simp at h
  | _, _, 0, _, .cons r _, h => by
    simp at h
    subst h
    exact ⟨_, rfl, r⟩
  | _, _, i + 1, a, .cons _ t, h => by
    obtain ⟨e, h1, h2⟩ := tups_get (i := i) (a := a) t (by simpa using h)
    exact ⟨e, by simpa using h1, h2⟩
theorem tups_len {H : Hp} {ps : List Addr} {q : List (Nat × Str)} (h : Tups H ps q) : ps.length = q.length := Paired.length h
theorem tups_app {H : Hp} {ps : List Addr} {q : List (Nat × Str)} {a : Addr} {e : Nat × Str} (h : Tups H ps q) (ha : H a = some (.tup [.int (e.1 : Nat), .str e.2])) : Tups H (ps ++ [a]) (q ++ [e]) := by
  induction h with
  | nil => exact .cons ha .nil
  | cons r t ih => exact .cons r ih
theorem cnt_size (d : DS) : d.cnt.size = d.size := by unfold DS.cnt; split <;> rfl
theorem cnt_blocks (d : DS) : d.cnt.blocks = d.blocks := by unfold DS.cnt; split <;> rfl
theorem cnt_queue (d : DS) : d.cnt.queue = d.queue := by unfold DS.cnt; split <;> rfl
theorem cnt_left (d : DS) : d.cnt.left = d.left := by unfold DS.cnt; split <;> rfl
theorem DOk.cnt {d : DS} (h : DOk d) : DOk d.cnt := ⟨by rw [cnt_size, cnt_blocks]; exact h.bl, by rw [cnt_size]; exact h.sz, by rw [cnt_queue]; exact h.ql, by rw [cnt_queue, cnt_size]; exact h.ix, by rw [cnt_queue, cnt_blocks]; exact h.tx⟩
theorem DOk.spent {d : DS} (h : DOk d) : DOk d.spent := ⟨h.bl, h.sz, h.ql, h.ix, h.tx⟩
/-- the object at p is changed, the same blocks and queue -/
theorem DAt.put {A : Adr} {H : Hp} {p lb lq dx : Addr} {d d' : DS} {o : HO} (h : DAt A H p lb lq d) (ho : o = oDisk A dx (.int (d'.size : Nat)) (.ref lb) (.ref lq) (oI d'.left) (.bl d'.down)) (hs : d'.size = d.size) (hb : d'.blocks = d.blocks) (hq : d'.queue = d.queue) : DAt A (upd H p o) p lb lq d' := by
  obtain ⟨⟨dx0, h1⟩, h2, ⟨ps, h3, h4⟩, ok, ne⟩ := h
  have n1 : lb ≠ p := ne_of h2 h1 (by intro z; cases z)
  have n2 : lq ≠ p := ne_of h3 h1 (by intro z; cases z)
  refine ⟨⟨dx, ?_⟩, ?_, ⟨ps, ?_, ?_⟩, ?_, ne⟩
  · rw [ho]
    exact upd_same
  · rw [upd_ne n1, hb]
    exact h2
  · rw [upd_ne n2]
    exact h3
  · rw [hq]
    exact tups_kp h4 fun b xs z => by rw [upd_ne (ne_of z h1 (by intro z; cases z))]; exact z
  · exact ⟨by rw [hs, hb]; exact ok.bl, by rw [hs]; exact ok.sz, by rw [hq]; exact ok.ql, by rw [hs, hq]; exact ok.ix, by rw [hb, hq]; exact ok.tx⟩
/-- a heap that keeps the disk's parts -/
theorem DAt.ex {A : Adr} {H H' : Hp} {p lb lq : Addr} {d : DS} (h : DAt A H p lb lq d) (e : Ex H H') : DAt A H' p lb lq d := by
  obtain ⟨⟨dx0, h1⟩, h2, ⟨ps, h3, h4⟩, ok, ne⟩ := h
  exact ⟨⟨dx0, e _ _ h1⟩, e _ _ h2, ⟨ps, e _ _ h3, tups_kp h4 fun b xs z => e _ _ z⟩, ok, ne⟩
theorem DAt.kp {A : Adr} {H H' : Hp} {p lb lq : Addr} {d : DS} {fp : List Addr} (h : DAt A H p lb lq d) (k : Kp fp H H') (n1 : p ∉ fp) (n2 : lb ∉ fp) (n3 : lq ∉ fp) (nt : ∀ b ∈ fp, ∀ xs, H b ≠ some (.tup xs)) : DAt A H' p lb lq d := by
  obtain ⟨⟨dx0, h1⟩, h2, ⟨ps, h3, h4⟩, ok, ne⟩ := h
  exact ⟨⟨dx0, k _ _ h1 n1⟩, k _ _ h2 n2, ⟨ps, k _ _ h3 n3, tups_kp h4 fun b xs z => k _ _ z fun hb => nt b hb xs z⟩, ok, ne⟩
section
variable {K : PySem.W.Frag} {A : Adr}
theorem len_is_block_text (vs : List V) (H : Hp) (Q : VK) (E : XK) (h : sp_is_block_text K A vs H Q E) : vs.length = 1 := by obtain ⟨_, rfl, _⟩ := h; rfl
theorem len_Disk_init (vs : List V) (H : Hp) (Q : VK) (E : XK) (h : sp_Disk_init K A vs H Q E) : vs.length = 2 := by obtain ⟨_, _, _, rfl, _⟩ := h; rfl
theorem len_Disk_spend (vs : List V) (H : Hp) (Q : VK) (E : XK) (h : sp_Disk_spend K A vs H Q E) : vs.length = 1 := by obtain ⟨_, _, _, _, rfl, _⟩ := h; rfl
theorem len_Disk_block (vs : List V) (H : Hp) (Q : VK) (E : XK) (h : sp_Disk_block K A vs H Q E) : vs.length = 2 := by obtain ⟨_, _, _, _, _, rfl, _⟩ := h; rfl
theorem len_Disk_write (vs : List V) (H : Hp) (Q : VK) (E : XK) (h : sp_Disk_write K A vs H Q E) : vs.length = 3 := by obtain ⟨_, _, _, _, _, _, rfl, _⟩ := h; rfl
theorem len_Disk_sync (vs : List V) (H : Hp) (Q : VK) (E : XK) (h : sp_Disk_sync K A vs H Q E) : vs.length = 1 := by obtain ⟨_, _, _, _, rfl, _⟩ := h; rfl
theorem len_Disk_waiting (vs : List V) (H : Hp) (Q : VK) (E : XK) (h : sp_Disk_waiting K A vs H Q E) : vs.length = 1 := by obtain ⟨_, _, _, _, rfl, _⟩ := h; rfl
theorem len_Disk_fall_after (vs : List V) (H : Hp) (Q : VK) (E : XK) (h : sp_Disk_fall_after K A vs H Q E) : vs.length = 2 := by obtain ⟨_, _, _, _, _, rfl, _⟩ := h; rfl
theorem len_Disk_restart (vs : List V) (H : Hp) (Q : VK) (E : XK) (h : sp_Disk_restart K A vs H Q E) : vs.length = 2 := by obtain ⟨_, _, _, _, _, rfl, _⟩ := h; rfl

theorem cnt_no {d : DS} (h : ¬ d.left = some 0) : d.cnt = d := if_neg h
theorem cnt_yes {d : DS} (h : d.left = some 0) : d.cnt = { d with down := true } := if_pos h
theorem pure_Disk_spend (T : TxtP K A) (vs : List V) (H : Hp) (Q : VK) (E : XK) (h : sp_Disk_spend K A vs H Q E) : t_Disk_spend K A (fun cls d _ H => E cls d H) { nx := fun _ H' => Q .non H', rt := Q } (start N_Disk_spend vs) H := by
  obtain ⟨p, lb, lq, d, rfl, D, kE, kQ⟩ := h
  obtain ⟨dx, hp⟩ := D.ob
  obtain ⟨size, blocks, queue, left, down⟩ := d
  unfold t_Disk_spend
  cases left with
  | none =>
    rw [cnt_no (by simp)] at kE kQ
    dsimp only [oI] at hp
    walk_at "go"
    refine ifb2 (fun hd => ?_) (fun hd => ?_)
    · walk_at "go"
      exact kE hd H D fun b o h _ => h
    · walk_at "go"
      exact kQ hd H D fun b o h _ => h
  | some i =>
    dsimp only [oI] at hp
    walk_at "go"
    refine if2 (fun h0 => ?_) (fun h0 => ?_)
    · subst h0
      rw [cnt_yes rfl] at kE
      walk_at "go"
      exact kE rfl _ (D.put rfl rfl rfl rfl) kp_upd
    · rw [cnt_no (by simpa using h0)] at kE kQ
      walk_at "go"
      refine ifb2 (fun hd => ?_) (fun hd => ?_)
      · walk_at "go"
        exact kE hd H D fun b o h _ => h
      · walk_at "go"
        exact kQ hd _ (D.put rfl rfl rfl rfl) kp_upd
theorem seen_turn {t : Str} {q : List (Nat × Str)} {i k : Nat} {e : Nat × Str} (h : q[k]? = some e) : seenQ t (q.take (k + 1)) i = if e.1 = i then e.2 else seenQ t (q.take k) i := by
  unfold seenQ
  rw [List.take_succ, h, List.foldl_append]
  rfl
theorem pure_Disk_block (T : TxtP K A) (vs : List V) (H : Hp) (Q : VK) (E : XK) (h : sp_Disk_block K A vs H Q E) : t_Disk_block K A (fun cls d _ H => E cls d H) { nx := fun _ H' => Q .non H', rt := Q } (start N_Disk_block vs) H := by
  obtain ⟨p, lb, lq, d, i, rfl, D, kP, kB, kQ⟩ := h
  obtain ⟨⟨dx, hp⟩, hb, ⟨ps, hq, ht⟩, ok, ne⟩ := D
  unfold t_Disk_block
  walk_at "go"
  refine ifb2 (fun hd => ?_) (fun hd => ?_)
  · walk_at "go"
    exact kP hd
  by_cases h0 : 0 ≤ i
  · by_cases h1 : i < (d.size : Nat)
    · walk_at "go"
      · show atI (d.blocks.map V.str) i = some _
        have e : (d.blocks.map V.str)[i.toNat]? = some (V.str (d.blocks.getD i.toNat ("" : Str))) := by
          have hl : i.toNat < d.blocks.length := by rw [ok.bl]; omega
          rw [List.getElem?_map, List.getElem?_eq_getElem hl, List.getD_eq_getElem?_getD, List.getElem?_eq_getElem hl]
          rfl
        exact at_of (by omega) e
      · walk_at "go"
        refine f_list (fun k σ H' => ∃ v1 v2 : Option V, σ = [some (.ref p), some (.int i), some (.str (seenQ (d.blocks.getD i.toNat ("" : Str)) (d.queue.take k) i.toNat)), v1, v2] ∧ H' = H) ⟨none, none, rfl, rfl⟩ (fun k σ H' _ ⟨_, _, _, e⟩ => by subst e; exact Evl.sq_of hq) ?_ ?_
        · rintro k x σ H' hx ⟨v1, v2, rfl, rfl⟩
          obtain ⟨a, ha, rfl⟩ : ∃ a, ps[k]? = some a ∧ V.ref a = x := by simpa using hx
          obtain ⟨e, he, hae⟩ := tups_get ht ha
          have tn := seen_turn (t := d.blocks.getD i.toNat ("" : Str)) (i := i.toNat) he
          refine r_gTup (Evl.st_of hae) rfl ?_
          walk_at "go"
          refine if2 (fun hi => ?_) (fun hi => ?_)
          · walk_at "go"
            show ∃ _ _, _ ∧ _
            rw [tn, if_pos (by omega)]
            exact ⟨_, _, rfl, rfl⟩
          · walk_at "go"
            show ∃ _ _, _ ∧ _
            rw [tn, if_neg (by omega)]
            exact ⟨_, _, rfl, rfl⟩
        · rintro σ H' ⟨v1, v2, rfl, rfl⟩
          rw [List.length_map, tups_len ht, List.take_length]
          walk_at "go"
          exact kQ hd h0 h1
    · walk_at "go"
      intro e he
      exact kB hd (fun z => h1 z.2) e he
  · walk_at "go"
    intro e he
    exact kB hd (fun z => h0 z.1) e he
theorem size_codes (t : Str) : ((List.range t.cps.size).map fun i => okCh (t.cps.getD i 0)).all id = t.cps.toList.all okCh := by
  have e : t.cps.toList = (List.range t.cps.size).map fun i => t.cps.getD i 0 := by
    refine List.ext_getElem (by simp) fun i h1 h2 => ?_
    have h3 : i < t.cps.size := by simpa using h1
    simp [Array.getD, h3]
  rw [e, List.all_map, List.all_map]
  rfl
theorem one_eq {c : Nat} : ((⟨#[c]⟩ : Str) = ("\n" : Str)) ↔ c = 10 := by
  have e : ("\n" : Str) = ⟨#[10]⟩ := by decide +kernel
  rw [e]
  constructor
  · intro h
    have h2 := congrArg Str.cps h
    simpa using h2
  · rintro rfl
    rfl
theorem pure_is_block_text (T : TxtP K A) (vs : List V) (H : Hp) (Q : VK) (E : XK) (h : sp_is_block_text K A vs H Q E) : t_is_block_text K A (fun cls d _ H => E cls d H) { nx := fun _ H' => Q .non H', rt := Q } (start N_is_block_text vs) H := by
  obtain ⟨t, rfl, hl, k⟩ := h
  unfold t_is_block_text
  walk_at "go"
  refine if2 (fun h64 => ?_) (fun h64 => ?_)
  · walk_at "go"
    have e : isBlk t = false := by
      unfold isBlk
      rw [decide_eq_false (by omega), Bool.false_and]
    rw [← e]
    exact k H (Evl.Ex.refl H)
  · walk_at "go"
    refine r_lcF walk_str (fun i => .bl (okCh (t.cps.getD i 0))) (by show t.length ≤ _; omega) (fun _ _ => trivial) ?_ ?_
    · rintro i x H1 H' P hi e1 ⟨rfl, c, hc, rfl⟩ kP
      refine ⟨rfl, ?_⟩
      have ec : t.cps.getD i 0 = c := by
        rw [Array.getD_eq_getD_getElem?, hc]
        rfl
      rw [ec] at kP
      walk_at "go"
      refine if2 (fun h10 => ?_) (fun h10 => ?_)
      · have e : okCh c = true := by
          rw [one_eq.mp h10]
          rfl
        rw [e] at kP
        exact kP _ (Evl.Ex.refl _)
      · have n10 : c ≠ 10 := fun z => h10 (one_eq.mpr z)
        walk_at "go"
        refine if2 (fun h32 => ?_) (fun h32 => ?_)
        · walk_at "go"
          refine if2 (fun h126 => ?_) (fun h126 => ?_)
          · walk_at "go"
            have e : okCh c = !decide ((c : Int) = 37) := by
              have d1 : decide (32 ≤ c) = true := decide_eq_true (by omega)
              have d2 : decide (c ≤ 126) = true := decide_eq_true (by omega)
              have d3 : (c == 10) = false := by simpa using n10
              have d4 : (c != 37) = !decide ((c : Int) = 37) := by
                by_cases z : c = 37
                · subst z
                  rfl
                · have z2 : ¬ (c : Int) = 37 := by omega
                  simp [z, z2]
              unfold okCh
              rw [d1, d2, d3, d4]
              rfl
            rw [e] at kP
            exact kP _ (Evl.Ex.refl _)
          · walk_at "go"
            have e : okCh c = false := by
              have d2 : decide (c ≤ 126) = false := decide_eq_false (by omega)
              have d3 : (c == 10) = false := by simpa using n10
              unfold okCh
              rw [d2, d3, Bool.and_false, Bool.false_and, Bool.or_false]
            rw [e] at kP
            exact kP _ (Evl.Ex.refl _)
        · walk_at "go"
          have e : okCh c = false := by
            have d2 : decide (32 ≤ c) = false := decide_eq_false (by omega)
            have d3 : (c == 10) = false := by simpa using n10
            unfold okCh
            rw [d2, d3, Bool.false_and, Bool.false_and, Bool.or_false]
          rw [e] at kP
          exact kP _ (Evl.Ex.refl _)
    · intro D H' hD e hD'
      walk_at "go"
      refine r_all (bs := (List.range t.cps.size).map fun i => okCh (t.cps.getD i 0)) (Evl.sq_of (by rw [hD', List.map_map]; rfl)) ?_
      have e2 : isBlk t = ((List.range t.cps.size).map fun i => okCh (t.cps.getD i 0)).all id := by
        rw [size_codes]
        unfold isBlk
        rw [decide_eq_true (by omega), Bool.true_and]
      rw [← e2]
      exact k H' e
theorem pure_Disk_waiting (T : TxtP K A) (vs : List V) (H : Hp) (Q : VK) (E : XK) (h : sp_Disk_waiting K A vs H Q E) : t_Disk_waiting K A (fun cls d _ H => E cls d H) { nx := fun _ H' => Q .non H', rt := Q } (start N_Disk_waiting vs) H := by
  obtain ⟨p, lb, lq, d, rfl, D, k⟩ := h
  obtain ⟨⟨dx, hp⟩, hb, ⟨ps, hq, ht⟩, ok, ne⟩ := D
  unfold t_Disk_waiting
  walk_at "go"
  rw [List.length_map, tups_len ht]
  exact k
theorem pure_Disk_init (T : TxtP K A) (vs : List V) (H : Hp) (Q : VK) (E : XK) (h : sp_Disk_init K A vs H Q E) : t_Disk_init K A (fun cls d _ H => E cls d H) { nx := fun _ H' => Q .non H', rt := Q } (start N_Disk_init vs) H := by
  obtain ⟨p, dx, n, rfl, hn, hp, k⟩ := h
  unfold t_Disk_init
  walk_at "go"
  walk_at "cls0"
  walk_at "go"
  refine r_lcF (n := (n : Int).toNat) walk_range (fun _ => .str "") (by omega) (fun _ _ => trivial) ?_ ?_
  · rintro i x H1 H' P hi e1 ⟨rfl, rfl⟩ kP
    refine ⟨rfl, ?_⟩
    walk_at "go"
    exact kP _ (Evl.Ex.refl _)
  · intro lb H1 hlb e1 hlb1
    have hp1 : H1 p = some (.ins A.Disk dx [("size", .int (n : Nat))]) := e1 _ _ upd_same
    have nb : lb ≠ p := by
      rintro rfl
      rw [upd_same] at hlb
      cases hlb
    rw [upd_ne nb] at hlb
    walk_at "go"
    walk_at "cls0"
    walk_at "go"
    refine r_small (by decide) fun lq hlq => ?_
    have nq : lq ≠ p := by
      rintro rfl
      rw [upd_same] at hlq
      cases hlq
    rw [upd_ne nq] at hlq
    have nbq : lb ≠ lq := ne_of_none hlb1 hlq
    walk_at "go"
    walk_at "cls0"
    walk_at "go"
    walk_at "cls0"
    walk_at "go"
    walk_at "cls0"
    have hlq0 : H lq = none := by
      cases e : H lq with
      | none => rfl
      | some o =>
        have z := e1 lq o (by rw [upd_ne nq]; exact e)
        rw [hlq] at z
        cases z
    refine k lb lq _ hlb hlq0 ?_ ⟨⟨dx, upd_same⟩, ?_, ⟨[], ?_, .nil⟩, ⟨by simp, hn, by simp, by simp, fun t ht => by rw [(List.mem_replicate.mp ht).2]; rfl, by simp⟩, nbq⟩
    · intro b o hb hf
      have hbp : b ≠ p := fun z => hf (by rw [z]; exact List.mem_singleton.mpr rfl)
      have h1 : H1 b = some o := e1 b o (by rw [upd_ne hbp]; exact hb)
      have nbl : b ≠ lq := ne_of_none h1 hlq
      simp only [upd_ne hbp, upd_ne nbl]
      exact h1
    · simp only [upd_ne nb, upd_ne nbq]
      rw [hlb1]
      simp [List.map_const', List.replicate]
    · simp only [upd_ne nq]
      exact upd_same
end

end U

set_option Elab.async false
set_option linter.all false
set_option maxRecDepth 100000
set_option maxHeartbeats 4000000
namespace U
open PySem PySem.Spec PyProof.Rows L2
/-! ### stepping: local words (walk_at "..": a word of the library's syntax, given a meaning of our own here) -/
local macro_rules | `(tactic| walk_at "ne") => `(tactic| first
  | assumption
  | exact Ne.symm (by assumption)
  | exact ne_of_none (by assumption) (by assumption)
  | exact (ne_of_none (by assumption) (by assumption)).symm
  | exact ne_of (by assumption) (by assumption) (by intro z; cases z)
  | exact (ne_of (by assumption) (by assumption) (by intro z; cases z)).symm)
local macro_rules | `(tactic| walk_at "hp") => `(tactic| first
  | assumption
  | exact upd_same
  | ((apply hp_ne); (focus (walk_at "ne")); (walk_at "hp"))
  | ((apply hp_ex); assumption; (walk_at "hp")))
local macro_rules | `(tactic| walk_at "sq") => `(tactic| first
  | assumption
  | ((apply Evl.sq_of); (walk_at "hp"))
  | ((apply Evl.st_of); (walk_at "hp"))
  | ((apply Evl.ex_l); assumption; (walk_at "sq"))
  | ((apply Evl.ex_t); assumption; (walk_at "sq")))
local macro_rules | `(tactic| walk_at "sz") => `(tactic| first | (simp only [List.length_cons, List.length_nil]; omega) | omega | decide)
local macro_rules | `(tactic| walk_at "ar") => `(tactic| first | omega | decide | assumption)
local macro_rules | `(tactic| walk_at "s1") => `(tactic| first
  | (with_reducible first
      | refine r_seq ?_ | refine r_asg ?_ | refine r_drop ?_ | refine r_ret ?_ | refine r_retN ?_ | refine r_if ?_ | refine r_next ?_ | refine r_brk ?_ | refine r_cont ?_ | refine r_sFld ?_ | refine r_raise ?_
      | refine r_op ?_ | refine r_cons ?_ | refine r_nil ?_ | refine r_c ?_ | refine r_cb ?_ | refine r_call ?_ | refine r_meth ?_ | refine r_make ?_ | refine r_fld ?_ | refine r_tup ?_ | refine r_lst ?_ | refine r_un ?_
      | refine r_name ?_ | refine r_gCons ?_ | refine r_gNil ?_ | refine r_gSub ?_ | refine r_test ?_ | refine r_B ?_ | refine r_tru ?_ | refine r_and ?_ | refine r_or ?_ | refine r_not ?_ | refine r_chain ?_
      | refine r_andV ?_ | refine r_orV ?_ | refine r_notV ?_ | refine r_if' ?_ | refine r_sl ?_ | refine r_noPart ?_ | refine r_part ?_ | refine r_bm ?_ | refine r_bm0 ?_ | refine r_m1 ?_
      | refine r_exI ?_ | refine r_exB ?_ | refine r_exS ?_
      | refine r_add ?_ | refine r_sub ?_ | refine r_lt ?_ | refine r_le ?_ | refine r_gt ?_ | refine r_ge ?_ | refine r_and2 ?_ | refine r_neg ?_
      | refine r_eqI ?_ | refine r_neI ?_ | refine r_eqS ?_ | refine r_neS ?_ | refine r_eqNI ?_ | refine r_isNN ?_ | refine r_isNI ?_ | refine r_isNR ?_ | refine r_notNN ?_ | refine r_notNI ?_ | refine r_notNR ?_
      | refine r_inS ?_ | refine r_notInS ?_ | refine r_truI ?_ | refine r_truB ?_ | refine r_truN ?_ | refine r_abs ?_ | refine r_max ?_ | refine r_min ?_ | refine r_int ?_ | refine r_intB ?_ | refine r_ord ?_ | refine r_find ?_
      | refine iteT ?_ | refine iteF ?_ | refine if_nf ?_ | refine if_nt ?_ | refine r_mkx ?_ | refine r_mkG ?_ | refine r_gS ?_
      | refine r_forL ?_ | refine r_forT ?_ | refine r_forS ?_ | refine r_forR1 ?_ | refine r_forR2 ?_ | refine r_lc ?_ | refine r_iL ?_ | refine r_iT ?_ | refine r_iS ?_ | refine r_iR1 ?_ | refine r_iR2 ?_ | refine r_iR3 ?_)
  | ((with_reducible apply r_var); (with_unfolding_all rfl))
  | ((with_reducible first | refine r_mod ?_ ?_ | refine r_mul ?_ ?_ | refine r_div ?_ ?_ | refine r_pow ?_ ?_); (first | omega | decide | exact ⟨by omega, by omega⟩ | exact ⟨by decide, by decide⟩ | exact .inr ⟨by omega, by omega⟩ | exact .inl ⟨by omega, by omega⟩ | exact .inr ⟨by decide, by decide⟩ | exact ⟨by decide, by decide, by decide⟩))
  | ((with_reducible first | apply r_tyL | apply r_ixL | apply r_ixT | apply r_lenL | apply r_lenT | apply r_truL | apply r_truT | apply r_gL | apply r_gT); (walk_at "sq"); (try (first | assumption | (exact atI_nat (by assumption)) | rfl)))
  | ((with_reducible first | apply r_gR1 | apply r_gR2 | apply r_addS | apply r_lenS | apply r_str | apply r_repS); (first | omega | decide | exact ⟨by omega, by omega⟩ | exact ⟨⟨by omega, by omega⟩, by omega, by omega⟩ | (exact Nat.le_trans (by assumption) (by decide)) | exact ⟨by omega, by omega, by decide +kernel⟩))
  | ((with_reducible refine ifT ?_ ?_); (walk_at "ar"))
  | ((with_reducible refine ifF ?_ ?_); (walk_at "ar"))
  | ((with_reducible refine ifNT ?_ ?_); (walk_at "ar"))
  | ((with_reducible refine ifNF ?_ ?_); (walk_at "ar")))
local macro_rules | `(tactic| walk_at "go") => `(tactic| repeat (walk_at "s1"))

local macro_rules | `(tactic| walk_at "cls") => `(tactic| (with_reducible first
  | apply g_Disk_size (by assumption)
  | apply w_Disk_size (by assumption)
  | apply g_Disk_blocks (by assumption)
  | apply w_Disk_blocks (by assumption)
  | apply g_Disk_queue (by assumption)
  | apply w_Disk_queue (by assumption)
  | apply g_Disk_left (by assumption)
  | apply w_Disk_left (by assumption)
  | apply g_Disk_down (by assumption)
  | apply w_Disk_down (by assumption)
  | apply g_Journal_disk (by assumption)
  | apply w_Journal_disk (by assumption)
  | apply g_Journal_area (by assumption)
  | apply w_Journal_area (by assumption)
  | apply g_Journal_first (by assumption)
  | apply w_Journal_first (by assumption)
  | apply g_Journal_next (by assumption)
  | apply w_Journal_next (by assumption)
  | apply g_Journal_generation (by assumption)
  | apply w_Journal_generation (by assumption)
  | apply g_Journal_number (by assumption)
  | apply w_Journal_number (by assumption)
  | apply g_Journal_image_number (by assumption)
  | apply w_Journal_image_number (by assumption)
  | apply g_Journal_image (by assumption)
  | apply w_Journal_image (by assumption)
  | apply g_Journal_kept (by assumption)
  | apply w_Journal_kept (by assumption)
  | apply mm_Disk_spend
  | apply mm_Disk_block
  | apply mm_Disk_write
  | apply mm_Disk_sync
  | apply mm_Disk_waiting
  | apply mm_Journal_area_of
  | apply mm_Journal_read_record
  | apply mm_Journal_empty_rest
  | apply mm_Journal_recover
  | apply mm_Journal_records
  | apply mm_Journal_has_room
  | apply mm_Journal_write_record
  | apply mm_Journal_checkpoint); walk_at "hp")
local macro_rules | `(tactic| walk_at "cls0") => `(tactic| (with_reducible first
  | apply w0_Disk_size (by assumption)
  | apply w0_Disk_blocks (by assumption)
  | apply w0_Disk_queue (by assumption)
  | apply w0_Disk_left (by assumption)
  | apply w0_Disk_down (by assumption)
  | apply w0_Journal_disk (by assumption)
  | apply w0_Journal_area (by assumption)
  | apply w0_Journal_first (by assumption)
  | apply w0_Journal_next (by assumption)
  | apply w0_Journal_generation (by assumption)
  | apply w0_Journal_number (by assumption)
  | apply w0_Journal_image_number (by assumption)
  | apply w0_Journal_image (by assumption)
  | apply w0_Journal_kept (by assumption)); walk_at "hp")
local macro_rules | `(tactic| walk_at "go") => `(tactic| repeat (first | walk_at "s1" | walk_at "cls"))

theorem ixN_nat {n k : Nat} (h : k < n) : ixN n (k : Int) = some k := by
  unfold ixN
  rw [if_pos (by omega), if_pos (by omega), Int.toNat_natCast]
theorem putQ_len (bs : List Str) (q : List (Nat × Str)) : (putQ bs q).length = bs.length := by
  induction q generalizing bs with
  | nil => rfl
  | cons e r ih =>
    show (putQ (bs.set e.1 e.2) r).length = _
    rw [ih, List.length_set]
theorem putQ_turn {bs : List Str} {q : List (Nat × Str)} {k : Nat} {e : Nat × Str} (h : q[k]? = some e) : putQ bs (q.take (k + 1)) = (putQ bs (q.take k)).set e.1 e.2 := by
  unfold putQ
  rw [List.take_succ, h, List.foldl_append]
  rfl
theorem mem_set_or {α : Type} {l : List α} {i : Nat} {x y : α} (h : y ∈ l.set i x) : y ∈ l ∨ y = x := List.mem_or_eq_of_mem_set h
theorem putQ_all {P : Str → Prop} (bs : List Str) (q : List (Nat × Str)) (hb : ∀ t ∈ bs, P t) (hq : ∀ e ∈ q, P e.2) : ∀ t ∈ putQ bs q, P t := by
  induction q generalizing bs with
  | nil => exact hb
  | cons e r ih =>
    refine ih (bs.set e.1 e.2) (fun t ht => ?_) fun x hx => hq x (List.mem_cons_of_mem _ hx)
    rcases mem_set_or ht with z | z
    · exact hb t z
    · rw [z]
      exact hq e (List.mem_cons_self ..)
theorem lastQ_all {P : Str → Prop} (bs : List Str) (q : List (Nat × Str)) (c : Int) (hb : ∀ t ∈ bs, P t) (hq : ∀ e ∈ q, P e.2) : ∀ t ∈ (lastQ bs q c).1, P t := by
  unfold lastQ
  induction q generalizing bs c with
  | nil => exact hb
  | cons e r ih =>
    show ∀ t ∈ (r.foldl lastS (lastS (bs, c) e)).1, P t
    refine ih _ _ (fun t ht => ?_) fun x hx => hq x (List.mem_cons_of_mem _ hx)
    unfold lastS at ht
    dsimp only at ht
    split at ht
    · rcases mem_set_or ht with z | z
      · exact hb t z
      · rw [z]
        exact hq e (List.mem_cons_self ..)
    · exact hb t ht
theorem lastQ_len (bs : List Str) (q : List (Nat × Str)) (c : Int) : (lastQ bs q c).1.length = bs.length := by
  unfold lastQ
  induction q generalizing bs c with
  | nil => rfl
  | cons e r ih =>
    show (r.foldl lastS (lastS (bs, c) e)).1.length = _
    have := ih (lastS (bs, c) e).1 (lastS (bs, c) e).2
    rw [this]
    unfold lastS
    dsimp only
    split
    · rw [List.length_set]
    · rfl
theorem lastQ_turn {bs : List Str} {q : List (Nat × Str)} {c : Int} {k : Nat} {e : Nat × Str} (h : q[k]? = some e) : lastQ bs (q.take (k + 1)) c = lastS (lastQ bs (q.take k) c) e := by
  unfold lastQ
  rw [List.take_succ, h, List.foldl_append]
  rfl
theorem lastQ_nonneg (bs : List Str) (q : List (Nat × Str)) (c : Int) (h : 0 ≤ c) : 0 ≤ (lastQ bs q c).2 := by
  unfold lastQ
  induction q generalizing bs c with
  | nil => exact h
  | cons e r ih =>
    show 0 ≤ (r.foldl lastS (lastS (bs, c) e)).2
    exact ih _ _ (by show 0 ≤ c / 2; omega)
theorem and_one {c : Int} (h : 0 ≤ c) : Builtin.bitAnd c 1 = c % 2 := by
  rw [PyProof.Rows.bitAnd_pp h (by decide)]
  have e : (1 : Int).toNat = 1 := rfl
  rw [e, Nat.and_one_is_mod]
  omega
section
variable {K : PySem.W.Frag} {A : Adr}
theorem DAt.wrote {H : Hp} {p lb lq a : Addr} {d : DS} {ps : List Addr} {i : Nat} {t : Str} (D : DAt A H p lb lq d.cnt.spent) (hq : H lq = some (.lst (ps.map V.ref))) (ht : Tups H ps d.queue) (hl : d.queue.length < 900000) (hi : i < d.size) (hbt : isBlk t = true) (ha : H a = none) :
    DAt A (upd (upd H a (.tup [.int (i : Nat), .str t])) lq (.lst (ps.map V.ref ++ [.ref a]))) p lb lq (d.wrote i t) := by
  obtain ⟨⟨dx, hp⟩, hb, _, ok, ne⟩ := D
  have n1 : lb ≠ a := ne_of_none hb ha
  have n2 : p ≠ a := ne_of_none hp ha
  have n3 : p ≠ lq := ne_of hp hq (by intro z; cases z)
  have n4 : a ≠ lq := (ne_of_none hq ha).symm
  refine ⟨⟨dx, ?_⟩, ?_, ⟨ps ++ [a], ?_, ?_⟩, ⟨?_, ?_, ?_, ?_, ?_⟩, ne⟩
  · rw [upd_ne n3, upd_ne n2]
    exact hp
  · rw [upd_ne ne, upd_ne n1]
    exact hb
  · rw [List.map_append]
    exact upd_same
  · refine tups_app (tups_kp ht fun b xs z => ?_) ?_
    · rw [upd_ne (ne_of z hq (by intro y; cases y)), upd_ne (ne_of_none z ha)]
      exact z
    · rw [upd_ne n4]
      exact upd_same
  · exact ok.bl
  · exact ok.sz
  · show (d.queue ++ [(i, t)]).length ≤ 900000
    rw [List.length_append]
    show d.queue.length + 1 ≤ 900000
    omega
  · intro e he
    have he' : e ∈ d.queue ++ [(i, t)] := he
    have hs : (d.wrote i t).size = d.size := cnt_size d
    rw [hs]
    rcases List.mem_append.mp he' with z | z
    · have := ok.ix e (by show e ∈ d.cnt.queue; rw [cnt_queue]; exact z)
      have hs2 : d.cnt.spent.size = d.size := cnt_size d
      rw [hs2] at this
      exact this
    · rw [List.mem_singleton.mp z]
      exact hi
  · have h1 : ∀ t ∈ d.cnt.blocks, isBlk t = true := ok.tx.1
    have h2 : ∀ e ∈ d.cnt.queue, isBlk e.2 = true := ok.tx.2
    rw [cnt_queue] at h2
    refine ⟨h1, fun e he => ?_⟩
    have he' : e ∈ d.queue ++ [(i, t)] := he
    rcases List.mem_append.mp he' with z | z
    · exact h2 e z
    · rw [List.mem_singleton.mp z]
      exact hbt
theorem pure_Disk_write (T : TxtP K A) (vs : List V) (H : Hp) (Q : VK) (E : XK) (h : sp_Disk_write K A vs H Q E) : t_Disk_write K A (fun cls d _ H => E cls d H) { nx := fun _ H' => Q .non H', rt := Q } (start N_Disk_write vs) H := by
  obtain ⟨p, lb, lq, d, i, t, rfl, D, hql, htl, kP, kB, kP2, kQ⟩ := h
  obtain ⟨dx, hp⟩ := D.ob
  unfold t_Disk_write
  walk_at "go"
  refine ifb2 (fun hd => ?_) (fun hd => ?_)
  · walk_at "go"
    exact kP hd
  by_cases h0 : 0 ≤ i
  · by_cases h1 : i < (d.size : Nat)
    · walk_at "go"
      refine ⟨t, rfl, htl, fun H1 e1 => ?_⟩
      walk_at "go"
      refine ifb2 (fun hb => ?_) (fun hb => ?_)
      · walk_at "go"
        intro e he
        exact kB hd (fun z => by rw [z.2.2] at hb; cases hb) e H1 e1 he
      · have hb' : isBlk t = true := by simpa using hb
        walk_at "go"
        refine ⟨p, lb, lq, d, rfl, D.ex e1, fun hc H2 D2 k2 => ?_, fun hc H2 D2 k2 => ?_⟩
        · exact kP2 hd h0 h1 hb' hc H2 D2 (kp_trans (kp_ex e1) k2)
        · obtain ⟨⟨dx2, hp2⟩, hb2, ⟨ps, hq2, ht2⟩, ok2, ne2⟩ := id D2
          walk_at "go"
          refine r_small (by show 2 ≤ 1000; decide) fun a ha => ?_
          have na : lq ≠ a := ne_of_none hq2 ha
          walk_at "go"
          have hlen : (ps.map V.ref).length < sizeLine := by
            rw [List.length_map, tups_len ht2]
            show d.cnt.queue.length < _
            rw [cnt_queue]
            exact line_of (by omega)
          refine r_append (by rw [upd_ne na]; exact hq2) hlen ?_
          have ht3 : Tups H2 ps d.queue := by
            have := ht2
            have e : d.cnt.spent.queue = d.queue := cnt_queue d
            rw [e] at this
            exact this
          have ei : (i.toNat : Int) = i := Int.toNat_of_nonneg h0
          have DD := DAt.wrote (t := t) D2 hq2 ht3 hql (show i.toNat < d.size by omega) hb' ha
          rw [ei] at DD
          refine kQ hd h0 h1 hb' hc _ DD fun b o hbo hf => ?_
          have hbp : b ≠ p := fun z => hf (by rw [z]; exact List.mem_cons_self ..)
          have hbq : b ≠ lq := fun z => hf (by rw [z]; exact List.mem_cons_of_mem _ (List.mem_singleton.mpr rfl))
          have h2 : H2 b = some o := k2 b o (e1 b o hbo) (by simpa using hbp)
          rw [upd_ne hbq, upd_ne (ne_of_none h2 ha)]
          exact h2
    · walk_at "go"
      intro e he
      exact kB hd (fun z => h1 z.2.1) e H (Evl.Ex.refl H) he
  · walk_at "go"
    intro e he
    exact kB hd (fun z => h0 z.1) e H (Evl.Ex.refl H) he
/-- what a loop over the queue leaves: the blocks changed, all else as it was -/
theorem pure_Disk_sync (T : TxtP K A) (vs : List V) (H : Hp) (Q : VK) (E : XK) (h : sp_Disk_sync K A vs H Q E) : t_Disk_sync K A (fun cls d _ H => E cls d H) { nx := fun _ H' => Q .non H', rt := Q } (start N_Disk_sync vs) H := by
  obtain ⟨p, lb, lq, d, rfl, D, kP, kQ⟩ := h
  obtain ⟨dx, hp⟩ := D.ob
  unfold t_Disk_sync
  walk_at "go"
  refine ⟨p, lb, lq, d, rfl, D, fun hc H2 D2 k2 => kP hc H2 D2 k2, fun hc H2 D2 k2 => ?_⟩
  obtain ⟨⟨dx2, hp2⟩, hb2, ⟨ps, hq2, ht2⟩, ok2, ne2⟩ := id D2
  have eq1 : d.cnt.spent.queue = d.queue := cnt_queue d
  have eb1 : d.cnt.spent.blocks = d.blocks := cnt_blocks d
  have es1 : d.cnt.spent.size = d.size := cnt_size d
  rw [eq1] at ht2
  rw [eb1] at hb2
  have npb : p ≠ lb := ne_of hp2 hb2 (by intro z; cases z)
  have nqb : lq ≠ lb := ne2.symm
  walk_at "go"
  refine f_list (fun k σ H' => ∃ v1 v2 : Option V, σ = [some (.ref p), v1, v2] ∧ H' lb = some (.lst ((putQ d.blocks (d.queue.take k)).map V.str)) ∧ ∀ b, b ≠ lb → H' b = H2 b) ⟨none, none, rfl, hb2, fun _ _ => rfl⟩
    (fun k σ H' _ ⟨_, _, _, _, e⟩ => Evl.sq_of ((e lq nqb).trans hq2)) ?_ ?_
  · rintro k x σ H' hx ⟨v1, v2, rfl, hb', e'⟩
    obtain ⟨a, ha, rfl⟩ : ∃ a, ps[k]? = some a ∧ V.ref a = x := by simpa using hx
    obtain ⟨e, he, hae⟩ := tups_get ht2 ha
    have nab : a ≠ lb := ne_of hae hb2 (by intro z; cases z)
    have hp' : H' p = _ := (e' p npb).trans hp2
    refine r_gTup (Evl.st_of ((e' a nab).trans hae)) rfl ?_
    walk_at "go"
    have hlt : e.1 < ((putQ d.blocks (d.queue.take k)).map V.str).length := by
      rw [List.length_map, putQ_len, D.ok.bl]
      exact D.ok.ix e (List.mem_of_getElem? he)
    refine r_setL hb' (ixN_nat hlt) ?_
    refine ⟨_, _, rfl, ?_, fun b hb => by rw [upd_ne hb]; exact e' b hb⟩
    rw [upd_same, putQ_turn he, List.map_set]
  · rintro σ H' ⟨v1, v2, rfl, hb', e'⟩
    rw [List.length_map, tups_len ht2, List.take_length] at hb'
    have hp' : H' p = _ := (e' p npb).trans hp2
    walk_at "go"
    refine r_small (by decide) fun lq' hlq' => ?_
    have np' : p ≠ lq' := ne_of_none hp' hlq'
    have nb' : lb ≠ lq' := ne_of_none hb' hlq'
    walk_at "go"
    have hH : H lq' = none := by
      cases z : H lq' with
      | none => rfl
      | some o =>
        by_cases y : lq' = p
        · exact absurd y.symm np'
        · have z2 := k2 lq' o z (by simpa using y)
          rw [← e' lq' nb'.symm, hlq'] at z2
          cases z2
    refine kQ hc lq' _ hH ⟨⟨dx2, ?_⟩, ?_, ⟨[], ?_, .nil⟩, ⟨?_, ?_, by show (0 : Nat) ≤ _; omega, (by intro e he; cases he), putQ_all _ _ D.ok.tx.1 D.ok.tx.2, (by intro e he; cases he)⟩, nb'⟩ fun b o hbo hf => ?_
    · have e3 : d.synced.size = d.size := cnt_size d
      have e4 : d.synced.left = d.cnt.spent.left := rfl
      rw [e3, ← es1, e4]
      exact upd_same
    · rw [upd_ne npb.symm, upd_ne nb']
      exact hb'
    · rw [upd_ne np'.symm]
      exact upd_same
    · show (putQ d.blocks d.queue).length = d.cnt.size
      rw [putQ_len, cnt_size]
      exact D.ok.bl
    · show d.cnt.size ≤ 5000
      rw [cnt_size]
      exact D.ok.sz
    · have hbp : b ≠ p := fun z => hf (by rw [z]; exact List.mem_cons_self ..)
      have hbl : b ≠ lb := fun z => hf (by rw [z]; exact List.mem_cons_of_mem _ (List.mem_singleton.mpr rfl))
      have h2 : H' b = some o := (e' b hbl).trans (k2 b o hbo (by simpa using hbp))
      rw [upd_ne hbp, upd_ne (ne_of_none h2 hlq')]
      exact h2
end

end U

set_option Elab.async false
set_option linter.all false
set_option maxRecDepth 100000
set_option maxHeartbeats 4000000
namespace U
open PySem PySem.Spec PyProof.Rows L2
/-! ### stepping: local words (walk_at "..": a word of the library's syntax, given a meaning of our own here) -/
local macro_rules | `(tactic| walk_at "ne") => `(tactic| first
  | assumption
  | exact Ne.symm (by assumption)
  | exact ne_of_none (by assumption) (by assumption)
  | exact (ne_of_none (by assumption) (by assumption)).symm
  | exact ne_of (by assumption) (by assumption) (by intro z; cases z)
  | exact (ne_of (by assumption) (by assumption) (by intro z; cases z)).symm)
local macro_rules | `(tactic| walk_at "hp") => `(tactic| first
  | assumption
  | exact upd_same
  | ((apply hp_ne); (focus (walk_at "ne")); (walk_at "hp"))
  | ((apply hp_ex); assumption; (walk_at "hp")))
local macro_rules | `(tactic| walk_at "sq") => `(tactic| first
  | assumption
  | ((apply Evl.sq_of); (walk_at "hp"))
  | ((apply Evl.st_of); (walk_at "hp"))
  | ((apply Evl.ex_l); assumption; (walk_at "sq"))
  | ((apply Evl.ex_t); assumption; (walk_at "sq")))
local macro_rules | `(tactic| walk_at "sz") => `(tactic| first | (simp only [List.length_cons, List.length_nil]; omega) | omega | decide)
local macro_rules | `(tactic| walk_at "ar") => `(tactic| first | omega | decide | assumption)
local macro_rules | `(tactic| walk_at "s1") => `(tactic| first
  | (with_reducible first
      | refine r_seq ?_ | refine r_asg ?_ | refine r_drop ?_ | refine r_ret ?_ | refine r_retN ?_ | refine r_if ?_ | refine r_next ?_ | refine r_brk ?_ | refine r_cont ?_ | refine r_sFld ?_ | refine r_raise ?_
      | refine r_op ?_ | refine r_cons ?_ | refine r_nil ?_ | refine r_c ?_ | refine r_cb ?_ | refine r_call ?_ | refine r_meth ?_ | refine r_make ?_ | refine r_fld ?_ | refine r_tup ?_ | refine r_lst ?_ | refine r_un ?_
      | refine r_name ?_ | refine r_gCons ?_ | refine r_gNil ?_ | refine r_gSub ?_ | refine r_test ?_ | refine r_B ?_ | refine r_tru ?_ | refine r_and ?_ | refine r_or ?_ | refine r_not ?_ | refine r_chain ?_
      | refine r_andV ?_ | refine r_orV ?_ | refine r_notV ?_ | refine r_if' ?_ | refine r_sl ?_ | refine r_noPart ?_ | refine r_part ?_ | refine r_bm ?_ | refine r_bm0 ?_ | refine r_m1 ?_
      | refine r_exI ?_ | refine r_exB ?_ | refine r_exS ?_
      | refine r_add ?_ | refine r_sub ?_ | refine r_lt ?_ | refine r_le ?_ | refine r_gt ?_ | refine r_ge ?_ | refine r_and2 ?_ | refine r_neg ?_
      | refine r_eqI ?_ | refine r_neI ?_ | refine r_eqS ?_ | refine r_neS ?_ | refine r_eqNI ?_ | refine r_isNN ?_ | refine r_isNI ?_ | refine r_isNR ?_ | refine r_notNN ?_ | refine r_notNI ?_ | refine r_notNR ?_
      | refine r_inS ?_ | refine r_notInS ?_ | refine r_truI ?_ | refine r_truB ?_ | refine r_truN ?_ | refine r_abs ?_ | refine r_max ?_ | refine r_min ?_ | refine r_int ?_ | refine r_intB ?_ | refine r_ord ?_ | refine r_find ?_
      | refine iteT ?_ | refine iteF ?_ | refine if_nf ?_ | refine if_nt ?_ | refine r_mkx ?_ | refine r_mkG ?_ | refine r_gS ?_
      | refine r_forL ?_ | refine r_forT ?_ | refine r_forS ?_ | refine r_forR1 ?_ | refine r_forR2 ?_ | refine r_lc ?_ | refine r_iL ?_ | refine r_iT ?_ | refine r_iS ?_ | refine r_iR1 ?_ | refine r_iR2 ?_ | refine r_iR3 ?_)
  | ((with_reducible apply r_var); (with_unfolding_all rfl))
  | ((with_reducible first | refine r_mod ?_ ?_ | refine r_mul ?_ ?_ | refine r_div ?_ ?_ | refine r_pow ?_ ?_); (first | omega | decide | exact ⟨by omega, by omega⟩ | exact ⟨by decide, by decide⟩ | exact .inr ⟨by omega, by omega⟩ | exact .inl ⟨by omega, by omega⟩ | exact .inr ⟨by decide, by decide⟩ | exact ⟨by decide, by decide, by decide⟩))
  | ((with_reducible first | apply r_tyL | apply r_ixL | apply r_ixT | apply r_lenL | apply r_lenT | apply r_truL | apply r_truT | apply r_gL | apply r_gT); (walk_at "sq"); (try (first | assumption | (exact atI_nat (by assumption)) | rfl)))
  | ((with_reducible first | apply r_gR1 | apply r_gR2 | apply r_addS | apply r_lenS | apply r_str | apply r_repS); (first | omega | decide | exact ⟨by omega, by omega⟩ | exact ⟨⟨by omega, by omega⟩, by omega, by omega⟩ | (exact Nat.le_trans (by assumption) (by decide)) | exact ⟨by omega, by omega, by decide +kernel⟩))
  | ((with_reducible refine ifT ?_ ?_); (walk_at "ar"))
  | ((with_reducible refine ifF ?_ ?_); (walk_at "ar"))
  | ((with_reducible refine ifNT ?_ ?_); (walk_at "ar"))
  | ((with_reducible refine ifNF ?_ ?_); (walk_at "ar")))
local macro_rules | `(tactic| walk_at "go") => `(tactic| repeat (walk_at "s1"))

local macro_rules | `(tactic| walk_at "cls") => `(tactic| (with_reducible first
  | apply g_Disk_size (by assumption)
  | apply w_Disk_size (by assumption)
  | apply g_Disk_blocks (by assumption)
  | apply w_Disk_blocks (by assumption)
  | apply g_Disk_queue (by assumption)
  | apply w_Disk_queue (by assumption)
  | apply g_Disk_left (by assumption)
  | apply w_Disk_left (by assumption)
  | apply g_Disk_down (by assumption)
  | apply w_Disk_down (by assumption)
  | apply g_Journal_disk (by assumption)
  | apply w_Journal_disk (by assumption)
  | apply g_Journal_area (by assumption)
  | apply w_Journal_area (by assumption)
  | apply g_Journal_first (by assumption)
  | apply w_Journal_first (by assumption)
  | apply g_Journal_next (by assumption)
  | apply w_Journal_next (by assumption)
  | apply g_Journal_generation (by assumption)
  | apply w_Journal_generation (by assumption)
  | apply g_Journal_number (by assumption)
  | apply w_Journal_number (by assumption)
  | apply g_Journal_image_number (by assumption)
  | apply w_Journal_image_number (by assumption)
  | apply g_Journal_image (by assumption)
  | apply w_Journal_image (by assumption)
  | apply g_Journal_kept (by assumption)
  | apply w_Journal_kept (by assumption)
  | apply mm_Disk_spend
  | apply mm_Disk_block
  | apply mm_Disk_write
  | apply mm_Disk_sync
  | apply mm_Disk_waiting
  | apply mm_Journal_area_of
  | apply mm_Journal_read_record
  | apply mm_Journal_empty_rest
  | apply mm_Journal_recover
  | apply mm_Journal_records
  | apply mm_Journal_has_room
  | apply mm_Journal_write_record
  | apply mm_Journal_checkpoint); walk_at "hp")
local macro_rules | `(tactic| walk_at "cls0") => `(tactic| (with_reducible first
  | apply w0_Disk_size (by assumption)
  | apply w0_Disk_blocks (by assumption)
  | apply w0_Disk_queue (by assumption)
  | apply w0_Disk_left (by assumption)
  | apply w0_Disk_down (by assumption)
  | apply w0_Journal_disk (by assumption)
  | apply w0_Journal_area (by assumption)
  | apply w0_Journal_first (by assumption)
  | apply w0_Journal_next (by assumption)
  | apply w0_Journal_generation (by assumption)
  | apply w0_Journal_number (by assumption)
  | apply w0_Journal_image_number (by assumption)
  | apply w0_Journal_image (by assumption)
  | apply w0_Journal_kept (by assumption)); walk_at "hp")
local macro_rules | `(tactic| walk_at "go") => `(tactic| repeat (first | walk_at "s1" | walk_at "cls"))

/-! ### texts of blocks -/
theorem blk_txt_tl (b : Bk) : b.txt.cps.toList = b.cps := rfl
theorem Sx_eq {z : Str} {l : List Nat} (h : z.cps.toList = l) : z = Sx l := TL.ext_tl h
theorem Sx_tl (z : Str) : Sx z.cps.toList = z := (Sx_eq rfl).symm
theorem Sx_len (l : List Nat) : (Sx l).length = l.length := by simp [Sx, Str.length]
theorem Sx_inj {a b : List Nat} (h : Sx a = Sx b) : a = b := congrArg (fun x : Str => x.cps.toList) h
theorem Sx_cat (a b : List Nat) : Sx a ++ Sx b = Sx (a ++ b) := TL.ext_tl (TL.tl_append (Sx a) (Sx b))
theorem num_Sx (n : Nat) : Str.ofString (toString ((n : Nat) : Int)) = Sx (TL.numL n) := TL.ext_tl (TL.tl_num n)
theorem blank_Sx : (" " : Str) = Sx [32] := by decide +kernel
theorem empty_Sx : ("" : Str) = Sx [] := by decide +kernel
theorem numL_len6 {n : Nat} (h : n < 1000000) : (TL.numL n).length ≤ 6 := TL.numL_len (by decide) (by omega)
theorem numL_len4 {n : Nat} (h : n < 10000) : (TL.numL n).length ≤ 4 := TL.numL_len (by decide) (by omega)
theorem numL_pos (n : Nat) : 0 < (TL.numL n).length := List.length_pos_iff.mpr (TL.numL_ne n)
theorem numL_head : ∀ (k n : Nat), n < k → 10 ≤ n → ∃ c r, TL.numL n = c :: r ∧ c ≠ 48
  | 0, _, h, _ => absurd h (Nat.not_lt_zero _)
  | k + 1, n, h, h10 => by
    rw [TL.numL_step h10]
    by_cases q : n / 10 < 10
    · rw [TL.numL_lt q]
      exact ⟨48 + n / 10, [48 + n % 10], rfl, by omega⟩
    · obtain ⟨c, r, e, hc⟩ := numL_head k (n / 10) (by omega) (by omega)
      rw [e]
      exact ⟨c, r ++ [48 + n % 10], rfl, hc⟩
theorem numL_okCh (n : Nat) : (TL.numL n).all okCh = true := by
  rw [List.all_eq_true]
  intro c hc
  have := TL.numL_digits n c hc
  unfold okCh
  simp
  omega
theorem Bk.Ok.len {b : Bk} (h : b.Ok) : b.cps.length ≤ 64 := by
  have h1 := numL_len6 h.g
  have h2 := numL_len6 h.n
  have h3 := numL_len4 h.m
  have h4 := numL_len4 (n := b.i) (by have := h.i; have := h.m; omega)
  have h5 := h.pl
  unfold Bk.cps
  simp only [List.length_append, List.length_cons]
  omega
theorem Bk.Ok.blk {b : Bk} (h : b.Ok) : isBlk b.txt = true := by
  unfold isBlk
  rw [Bool.and_eq_true]
  refine ⟨decide_eq_true ?_, ?_⟩
  · show (Sx b.cps).length ≤ 64
    rw [Sx_len]
    exact h.len
  · show b.cps.all okCh = true
    unfold Bk.cps
    simp only [List.all_append, List.all_cons, numL_okCh, h.ch]
    rfl
theorem Bk.txt_ne (b : Bk) : b.txt ≠ "" := by
  rw [empty_Sx]
  intro h
  have := congrArg List.length (Sx_inj h)
  unfold Bk.cps at this
  simp only [List.length_append, List.length_cons, List.length_nil] at this
  omega
theorem encB_blk {ob : Option Bk} (h : ∀ b, ob = some b → b.Ok) : isBlk (encB ob) = true := by
  cases ob with
  | none => decide +kernel
  | some b => exact (h b rfl).blk
theorem encB_len {ob : Option Bk} (h : ∀ b, ob = some b → b.Ok) : (encB ob).length ≤ 64 := by
  have := encB_blk h
  unfold isBlk at this
  rw [Bool.and_eq_true] at this
  exact of_decide_eq_true this.1
theorem pcs_pos (t : List Nat) : 1 ≤ pcs t := by unfold pcs; omega
theorem pcs_le {t : List Nat} {n : Nat} (h : t.length ≤ 32 * n) (hn : 1 ≤ n) : pcs t ≤ n := by unfold pcs; omega
theorem bks_len (g n : Nat) (t : List Nat) : (bks g n t).length = pcs t := by unfold bks; simp
theorem bks_get (g n : Nat) (t : List Nat) {k : Nat} (h : k < pcs t) : (bks g n t)[k]? = some ⟨g, n, k, pcs t, pieceL t k⟩ := by
  unfold bks
  rw [List.getElem?_map, List.getElem?_range h]
  rfl
theorem all_take {l : List Nat} {p : Nat → Bool} {a b : Nat} (h : l.all p = true) : ((l.drop a).take b).all p = true := by
  rw [List.all_eq_true] at h ⊢
  exact fun c hc => h c (List.mem_of_mem_drop (List.mem_of_mem_take hc))
theorem bks_ok {g n : Nat} {t : List Nat} (hg : g < 1000000) (hn : n < 1000000) (hl : t.length ≤ 100000) (hc : t.all okCh = true) {b : Bk} (h : b ∈ bks g n t) : b.Ok := by
  obtain ⟨k, hk, rfl⟩ := List.mem_map.mp h
  have hk := List.mem_range.mp hk
  have hp : pcs t < 10000 := by unfold pcs; omega
  have e : (pieceL t k).length = min 32 (t.length - 32 * k) := by unfold pieceL; rw [List.length_take, List.length_drop]
  refine ⟨hg, hn, hp, hk, ?_, fun h2 => ?_, fun h2 => ?_, all_take hc⟩
  · show (pieceL t k).length ≤ 32
    omega
  · have h2 : k + 1 < pcs t := h2
    show (pieceL t k).length = 32
    unfold pcs at h2
    omega
  · have h2 : pieceL t k = [] := h2
    have : (pieceL t k).length = 0 := by rw [h2]; rfl
    show pcs t = 1
    unfold pcs at hk ⊢
    omega
theorem cutS_nat (z : Str) (a b : Nat) : cutS z (some (a : Int)) (some (b : Int)) = Sx ((z.cps.toList.drop a).take (b - a)) := by
  unfold cutS
  rw [HT.sIx_nat, HT.sIx_nat]
  have e : z.length = z.cps.toList.length := by simp [Str.length]
  refine congrArg Sx ?_
  rw [e]
  by_cases h : a ≤ z.cps.toList.length
  · rw [Nat.min_eq_left h]
    by_cases h2 : b ≤ z.cps.toList.length
    · rw [Nat.min_eq_left h2]
    · rw [Nat.min_eq_right (by omega), List.take_of_length_le (by rw [List.length_drop]; omega), List.take_of_length_le (by rw [List.length_drop]; omega)]
  · have e1 : min a z.cps.toList.length = z.cps.toList.length := by omega
    rw [e1, List.drop_of_length_le (Nat.le_refl _), List.drop_of_length_le (by omega)]
    simp
theorem cutS_to (z : Str) (b : Nat) : cutS z none (some (b : Int)) = Sx (z.cps.toList.take b) := by
  have := cutS_nat z 0 b
  rw [List.drop_zero, Nat.sub_zero] at this
  rw [← this]
  unfold cutS
  rw [HT.sIx_nat z.length 0 0]
  rfl
theorem cutS_from (z : Str) (a : Nat) : cutS z (some (a : Int)) none = Sx (z.cps.toList.drop a) := by
  unfold cutS
  rw [HT.sIx_nat, HT.sIx_none]
  have e : z.length = z.cps.toList.length := by simp [Str.length]
  refine congrArg Sx ?_
  rw [e]
  by_cases h : a ≤ z.cps.toList.length
  · rw [Nat.min_eq_left h, List.take_of_length_le (by rw [List.length_drop]; omega)]
  · rw [Nat.min_eq_right (by omega), List.drop_of_length_le (by omega), List.drop_of_length_le (by omega)]
    simp
theorem find_first {a r : List Nat} {c : Nat} (h : c ∉ a) : Txt.find (Sx (a ++ c :: r)) (Sx [c]) = (a.length : Int) := by
  have at_ : ∀ i, StrLaws.At (Sx (a ++ c :: r)) (Sx [c]) (Sx (a ++ c :: r)).length i ↔ (a ++ c :: r)[i]? = some c := fun i => by
    unfold StrLaws.At Builtin.Str.subAt
    have e1 : (Sx [c]).length = 1 := rfl
    rw [e1, Sx_len]
    constructor
    · rintro ⟨h1, h2⟩
      have e : ((a ++ c :: r).toArray.extract i (i + 1)) = #[c] := by simpa using h2
      have e2 := congrArg Array.toList e
      rw [Array.toList_extract, List.extract_eq_drop_take] at e2
      have e3 : ((a ++ c :: r).drop i).take 1 = [c] := by simpa using e2
      have h3 : i < (a ++ c :: r).length := by omega
      rw [List.drop_eq_getElem_cons h3, List.take_succ_cons, List.take_zero] at e3
      rw [List.getElem?_eq_getElem h3]
      exact congrArg some (List.cons.inj e3).1
    · intro h1
      have h3 : i < (a ++ c :: r).length := (List.getElem?_eq_some_iff.mp h1).1
      refine ⟨by omega, ?_⟩
      have e3 : ((a ++ c :: r).drop i).take 1 = [c] := by
        rw [List.drop_eq_getElem_cons h3, List.take_succ_cons, List.take_zero]
        rw [List.getElem?_eq_getElem h3] at h1
        rw [Option.some.inj h1]
      have e : ((a ++ c :: r).toArray.extract i (i + 1)) = #[c] := by
        apply Array.toList_inj.mp
        rw [Array.toList_extract, List.extract_eq_drop_take]
        simpa using e3
      simpa using e
  have hA : (a ++ c :: r)[a.length]? = some c := by
    rw [List.getElem?_append_right (Nat.le_refl _), Nat.sub_self]
    rfl
  rcases PyProof.Rows.find_whole (Sx (a ++ c :: r)) (Sx [c]) with ⟨_, h2⟩ | ⟨i, h1, h2, h3⟩
  · exact absurd ((at_ a.length).mpr hA) (h2 _)
  · rw [h1]
    have hi := (at_ i).mp h2
    have l1 : ¬ a.length < i := fun z => h3 _ z ((at_ a.length).mpr hA)
    have l2 : ¬ i < a.length := fun z => by
      rw [List.getElem?_append_left z] at hi
      exact h (List.mem_of_getElem? hi)
    omega
theorem find_empty : Txt.find ("" : Str) (" " : Str) = -1 := by decide +kernel

end U

set_option Elab.async false
set_option linter.all false
set_option maxRecDepth 100000
set_option maxHeartbeats 4000000
namespace U
open PySem PySem.Spec PyProof.Rows L2
/-! ### stepping: local words (walk_at "..": a word of the library's syntax, given a meaning of our own here) -/
local macro_rules | `(tactic| walk_at "ne") => `(tactic| first
  | assumption
  | exact Ne.symm (by assumption)
  | exact ne_of_none (by assumption) (by assumption)
  | exact (ne_of_none (by assumption) (by assumption)).symm
  | exact ne_of (by assumption) (by assumption) (by intro z; cases z)
  | exact (ne_of (by assumption) (by assumption) (by intro z; cases z)).symm)
local macro_rules | `(tactic| walk_at "hp") => `(tactic| first
  | assumption
  | exact upd_same
  | ((apply hp_ne); (focus (walk_at "ne")); (walk_at "hp"))
  | ((apply hp_ex); assumption; (walk_at "hp")))
local macro_rules | `(tactic| walk_at "sq") => `(tactic| first
  | assumption
  | ((apply Evl.sq_of); (walk_at "hp"))
  | ((apply Evl.st_of); (walk_at "hp"))
  | ((apply Evl.ex_l); assumption; (walk_at "sq"))
  | ((apply Evl.ex_t); assumption; (walk_at "sq")))
local macro_rules | `(tactic| walk_at "sz") => `(tactic| first | (simp only [List.length_cons, List.length_nil]; omega) | omega | decide)
local macro_rules | `(tactic| walk_at "ar") => `(tactic| first | omega | decide | assumption)
local macro_rules | `(tactic| walk_at "s1") => `(tactic| first
  | (with_reducible first
      | refine r_seq ?_ | refine r_asg ?_ | refine r_drop ?_ | refine r_ret ?_ | refine r_retN ?_ | refine r_if ?_ | refine r_next ?_ | refine r_brk ?_ | refine r_cont ?_ | refine r_sFld ?_ | refine r_raise ?_
      | refine r_op ?_ | refine r_cons ?_ | refine r_nil ?_ | refine r_c ?_ | refine r_cb ?_ | refine r_call ?_ | refine r_meth ?_ | refine r_make ?_ | refine r_fld ?_ | refine r_tup ?_ | refine r_lst ?_ | refine r_un ?_
      | refine r_name ?_ | refine r_gCons ?_ | refine r_gNil ?_ | refine r_gSub ?_ | refine r_test ?_ | refine r_B ?_ | refine r_tru ?_ | refine r_and ?_ | refine r_or ?_ | refine r_not ?_ | refine r_chain ?_
      | refine r_andV ?_ | refine r_orV ?_ | refine r_notV ?_ | refine r_if' ?_ | refine r_sl ?_ | refine r_noPart ?_ | refine r_part ?_ | refine r_bm ?_ | refine r_bm0 ?_ | refine r_m1 ?_
      | refine r_exI ?_ | refine r_exB ?_ | refine r_exS ?_
      | refine r_add ?_ | refine r_sub ?_ | refine r_lt ?_ | refine r_le ?_ | refine r_gt ?_ | refine r_ge ?_ | refine r_and2 ?_ | refine r_neg ?_
      | refine r_eqI ?_ | refine r_neI ?_ | refine r_eqS ?_ | refine r_neS ?_ | refine r_eqNI ?_ | refine r_isNN ?_ | refine r_isNI ?_ | refine r_isNR ?_ | refine r_notNN ?_ | refine r_notNI ?_ | refine r_notNR ?_
      | refine r_inS ?_ | refine r_notInS ?_ | refine r_truI ?_ | refine r_truB ?_ | refine r_truN ?_ | refine r_abs ?_ | refine r_max ?_ | refine r_min ?_ | refine r_int ?_ | refine r_intB ?_ | refine r_ord ?_ | refine r_find ?_
      | refine iteT ?_ | refine iteF ?_ | refine if_nf ?_ | refine if_nt ?_ | refine r_mkx ?_ | refine r_mkG ?_ | refine r_gS ?_
      | refine r_forL ?_ | refine r_forT ?_ | refine r_forS ?_ | refine r_forR1 ?_ | refine r_forR2 ?_ | refine r_lc ?_ | refine r_iL ?_ | refine r_iT ?_ | refine r_iS ?_ | refine r_iR1 ?_ | refine r_iR2 ?_ | refine r_iR3 ?_)
  | ((with_reducible apply r_var); (with_unfolding_all rfl))
  | ((with_reducible first | refine r_mod ?_ ?_ | refine r_mul ?_ ?_ | refine r_div ?_ ?_ | refine r_pow ?_ ?_); (first | omega | decide | exact ⟨by omega, by omega⟩ | exact ⟨by decide, by decide⟩ | exact .inr ⟨by omega, by omega⟩ | exact .inl ⟨by omega, by omega⟩ | exact .inr ⟨by decide, by decide⟩ | exact ⟨by decide, by decide, by decide⟩))
  | ((with_reducible first | apply r_tyL | apply r_ixL | apply r_ixT | apply r_lenL | apply r_lenT | apply r_truL | apply r_truT | apply r_gL | apply r_gT); (walk_at "sq"); (try (first | assumption | (exact atI_nat (by assumption)) | rfl)))
  | ((with_reducible first | apply r_gR1 | apply r_gR2 | apply r_addS | apply r_lenS | apply r_str | apply r_repS); (first | omega | decide | exact ⟨by omega, by omega⟩ | exact ⟨⟨by omega, by omega⟩, by omega, by omega⟩ | (exact Nat.le_trans (by assumption) (by decide)) | exact ⟨by omega, by omega, by decide +kernel⟩))
  | ((with_reducible refine ifT ?_ ?_); (walk_at "ar"))
  | ((with_reducible refine ifF ?_ ?_); (walk_at "ar"))
  | ((with_reducible refine ifNT ?_ ?_); (walk_at "ar"))
  | ((with_reducible refine ifNF ?_ ?_); (walk_at "ar")))
local macro_rules | `(tactic| walk_at "go") => `(tactic| repeat (walk_at "s1"))

local macro_rules | `(tactic| walk_at "cls") => `(tactic| (with_reducible first
  | apply g_Disk_size (by assumption)
  | apply w_Disk_size (by assumption)
  | apply g_Disk_blocks (by assumption)
  | apply w_Disk_blocks (by assumption)
  | apply g_Disk_queue (by assumption)
  | apply w_Disk_queue (by assumption)
  | apply g_Disk_left (by assumption)
  | apply w_Disk_left (by assumption)
  | apply g_Disk_down (by assumption)
  | apply w_Disk_down (by assumption)
  | apply g_Journal_disk (by assumption)
  | apply w_Journal_disk (by assumption)
  | apply g_Journal_area (by assumption)
  | apply w_Journal_area (by assumption)
  | apply g_Journal_first (by assumption)
  | apply w_Journal_first (by assumption)
  | apply g_Journal_next (by assumption)
  | apply w_Journal_next (by assumption)
  | apply g_Journal_generation (by assumption)
  | apply w_Journal_generation (by assumption)
  | apply g_Journal_number (by assumption)
  | apply w_Journal_number (by assumption)
  | apply g_Journal_image_number (by assumption)
  | apply w_Journal_image_number (by assumption)
  | apply g_Journal_image (by assumption)
  | apply w_Journal_image (by assumption)
  | apply g_Journal_kept (by assumption)
  | apply w_Journal_kept (by assumption)
  | apply mm_Disk_spend
  | apply mm_Disk_block
  | apply mm_Disk_write
  | apply mm_Disk_sync
  | apply mm_Disk_waiting
  | apply mm_Journal_area_of
  | apply mm_Journal_read_record
  | apply mm_Journal_empty_rest
  | apply mm_Journal_recover
  | apply mm_Journal_records
  | apply mm_Journal_has_room
  | apply mm_Journal_write_record
  | apply mm_Journal_checkpoint); walk_at "hp")
local macro_rules | `(tactic| walk_at "cls0") => `(tactic| (with_reducible first
  | apply w0_Disk_size (by assumption)
  | apply w0_Disk_blocks (by assumption)
  | apply w0_Disk_queue (by assumption)
  | apply w0_Disk_left (by assumption)
  | apply w0_Disk_down (by assumption)
  | apply w0_Journal_disk (by assumption)
  | apply w0_Journal_area (by assumption)
  | apply w0_Journal_first (by assumption)
  | apply w0_Journal_next (by assumption)
  | apply w0_Journal_generation (by assumption)
  | apply w0_Journal_number (by assumption)
  | apply w0_Journal_image_number (by assumption)
  | apply w0_Journal_image (by assumption)
  | apply w0_Journal_kept (by assumption)); walk_at "hp")
local macro_rules | `(tactic| walk_at "go") => `(tactic| repeat (first | walk_at "s1" | walk_at "cls"))

section
variable {K : PySem.W.Frag} {A : Adr}
theorem len_record_blocks (vs : List V) (H : Hp) (Q : VK) (E : XK) (h : sp_record_blocks K A vs H Q E) : vs.length = 3 := by obtain ⟨_, _, _, rfl, _⟩ := h; rfl
theorem len_read_number (vs : List V) (H : Hp) (Q : VK) (E : XK) (h : sp_read_number K A vs H Q E) : vs.length = 1 := by obtain ⟨_, rfl, _⟩ := h; rfl
theorem len_read_block (vs : List V) (H : Hp) (Q : VK) (E : XK) (h : sp_read_block K A vs H Q E) : vs.length = 1 := by obtain ⟨_, rfl, _⟩ := h; rfl
theorem len_Journal_area_of (vs : List V) (H : Hp) (Q : VK) (E : XK) (h : sp_Journal_area_of K A vs H Q E) : vs.length = 2 := by obtain ⟨_, _, _, _, _, rfl, _⟩ := h; rfl
theorem len_Journal_read_record (vs : List V) (H : Hp) (Q : VK) (E : XK) (h : sp_Journal_read_record K A vs H Q E) : vs.length = 4 := by obtain ⟨_, _, _, _, _, _, _, _, _, _, _, rfl, _⟩ := h; rfl
theorem len_Journal_empty_rest (vs : List V) (H : Hp) (Q : VK) (E : XK) (h : sp_Journal_empty_rest K A vs H Q E) : vs.length = 1 := by obtain ⟨_, _, _, _, _, _, _, rfl, _⟩ := h; rfl
theorem len_Journal_recover (vs : List V) (H : Hp) (Q : VK) (E : XK) (h : sp_Journal_recover K A vs H Q E) : vs.length = 1 := by obtain ⟨_, _, _, _, _, _, _, _, _, _, _, rfl, _⟩ := h; rfl
theorem len_Journal_init (vs : List V) (H : Hp) (Q : VK) (E : XK) (h : sp_Journal_init K A vs H Q E) : vs.length = 2 := by obtain ⟨_, _, _, _, _, _, _, _, _, _, _, rfl, _⟩ := h; rfl
theorem len_Journal_records (vs : List V) (H : Hp) (Q : VK) (E : XK) (h : sp_Journal_records K A vs H Q E) : vs.length = 1 := by obtain ⟨_, _, _, _, rfl, _⟩ := h; rfl
theorem len_Journal_has_room (vs : List V) (H : Hp) (Q : VK) (E : XK) (h : sp_Journal_has_room K A vs H Q E) : vs.length = 2 := by obtain ⟨_, _, _, _, _, _, _, _, rfl, _⟩ := h; rfl
theorem len_Journal_write_record (vs : List V) (H : Hp) (Q : VK) (E : XK) (h : sp_Journal_write_record K A vs H Q E) : vs.length = 2 := by obtain ⟨_, _, _, _, _, _, _, _, rfl, _⟩ := h; rfl
theorem len_Journal_checkpoint (vs : List V) (H : Hp) (Q : VK) (E : XK) (h : sp_Journal_checkpoint K A vs H Q E) : vs.length = 2 := by obtain ⟨_, _, _, _, _, _, _, _, rfl, _⟩ := h; rfl
theorem log_small {n : Nat} (h : n < 1000000) : ((n : Nat) : Int).natAbs.log2 < 1920 := by
  rcases Nat.eq_zero_or_pos n with z | z
  · subst z
    decide
  · have : ((n : Nat) : Int).natAbs = n := rfl
    rw [this]
    exact Nat.lt_trans ((Nat.log2_lt (by omega)).mpr (show n < 2 ^ 20 by omega)) (by decide)
theorem str_len6 {n : Nat} (h : n < 1000000) : (Str.ofString (toString ((n : Nat) : Int))).length ≤ 6 := by
  rw [num_Sx, Sx_len]
  exact numL_len6 h
theorem app_len (a b : Str) : (a ++ b).length = a.length + b.length := by
  rw [TL.len_tl, TL.len_tl, TL.len_tl, TL.tl_append, List.length_append]
theorem blank_len : (" " : Str).length = 1 := by decide +kernel
theorem sm {n : Nat} (h : n ≤ 1000000) : n ≤ sizeLine := Nat.le_trans h (by decide)
theorem rng_pcs (t : Str) (hl : t.length ≤ 100000) : RgC 0 (if (t.length : Int) > 1 then (t.length : Int) else 1) 32 (pcs t.cps.toList) := by
  have e : t.cps.toList.length = t.length := (TL.len_tl t).symm
  have hs : Builtin.Range.rangeSize 0 (if (t.length : Int) > 1 then (t.length : Int) else 1) 32 = ((pcs t.cps.toList : Nat) : Int) := by
    unfold Builtin.Range.rangeSize pcs
    rw [e, if_pos (by decide)]
    split
    · rw [if_pos (by omega)]
      omega
    · rw [if_pos (by omega)]
      omega
  refine ⟨by decide, by decide, ?_, hs⟩
  unfold Builtin.Range.small
  rw [hs]
  have hp : pcs t.cps.toList ≤ 4000 := pcs_le (by omega) (by decide)
  simp only [Builtin.Range.rangeFitsLong, Bool.and_eq_true, Bool.or_eq_true, decide_eq_true_eq, beq_iff_eq, show ((32 : Int) > 0) by decide, if_true]
  split <;> (refine ⟨?_, ?_⟩ <;> first | omega | (refine ⟨?_, ?_⟩ <;> omega) | simp)
theorem pure_record_blocks (T : TxtP K A) (vs : List V) (H : Hp) (Q : VK) (E : XK) (h : sp_record_blocks K A vs H Q E) : t_record_blocks K A (fun cls d _ H => E cls d H) { nx := fun _ H' => Q .non H', rt := Q } (start N_record_blocks vs) H := by
  obtain ⟨g, n, t, rfl, hg, hn, hl, kQ⟩ := h
  have hl' : t.length ≤ sizeLine := Nat.le_trans hl (by decide)
  have lg := log_small hg
  have ln := log_small hn
  unfold t_record_blocks
  walk_at "go"
  refine ⟨0, _, 32, pcs t.cps.toList, rfl, rng_pcs t hl, ?_⟩
  have hp : pcs t.cps.toList ≤ 4000 := pcs_le (by have : t.cps.toList.length = t.length := (TL.len_tl t).symm; omega) (by decide)
  refine r_lcF (n := pcs t.cps.toList) walk_rangeC (fun i => .str (Sx (pieceL t.cps.toList i))) (by omega) (fun _ _ => trivial) ?_ ?_
  · rintro i x H1 H' P hi e1 ⟨rfl, rfl⟩ kP
    walk_at "go"
    refine ⟨rfl, ?_⟩
    walk_at "go"
    refine ⟨t, rfl, hl', ?_⟩
    rw [show (0 : Int) + ((i : Nat) : Int) * 32 = ((32 * i : Nat) : Int) by omega, show ((32 * i : Nat) : Int) + 32 = ((32 * i + 32 : Nat) : Int) by omega, cutS_nat, show 32 * i + 32 - 32 * i = 32 by omega]
    exact kP _ (Evl.Ex.refl _)
  · intro lp H1 hlp e1 hp1
    have g6 := str_len6 hg
    have n6 := str_len6 hn
    walk_at "go"
    refine r_addS (sm (by simp only [app_len, blank_len]; omega)) ?_
    walk_at "go"
    refine r_addS (sm (by simp only [app_len, blank_len]; omega)) ?_
    walk_at "go"
    refine r_addS (sm (by simp only [app_len, blank_len]; omega)) ?_
    walk_at "go"
    rw [mapI_length]
    walk_at "go"
    refine r_lcF (n := ((pcs t.cps.toList : Nat) : Int).toNat) walk_range (fun i => .str (Bk.txt ⟨g, n, i, pcs t.cps.toList, pieceL t.cps.toList i⟩)) (by omega) (fun _ _ => trivial) ?_ ?_
    · rintro i x H2 H' P hi e2 ⟨rfl, rfl⟩ kP
      have hi : i < pcs t.cps.toList := by omega
      have hp2 := e2 _ _ hp1
      have i6 : (Str.ofString (toString (0 + (i : Int)))).length ≤ 6 := by rw [Int.zero_add]; exact str_len6 (by omega)
      have p6 := str_len6 (n := pcs t.cps.toList) (by omega)
      have li : (0 + ((i : Nat) : Int)).natAbs.log2 < 1920 := by rw [Int.zero_add]; exact log_small (by omega)
      have lp : ((pcs t.cps.toList : Nat) : Int).natAbs.log2 < 1920 := log_small (by omega)
      have hit : (List.map (fun i => V.str (Sx (pieceL t.cps.toList i))) (List.range (pcs t.cps.toList)))[i]? = some (.str (Sx (pieceL t.cps.toList i))) := by
        rw [List.getElem?_map, List.getElem?_range hi]
        rfl
      have pl : (Sx (pieceL t.cps.toList i)).length ≤ 32 := by
        rw [Sx_len]
        unfold pieceL
        rw [List.length_take]
        omega
      walk_at "go"
      refine ⟨rfl, ?_⟩
      walk_at "go"
      refine r_addS (sm (by simp only [app_len, blank_len]; omega)) ?_
      walk_at "go"
      refine r_addS (sm (by simp only [app_len, blank_len]; omega)) ?_
      walk_at "go"
      rw [mapI_length]
      walk_at "go"
      refine r_addS (sm (by simp only [app_len, blank_len]; omega)) ?_
      walk_at "go"
      refine r_addS (sm (by simp only [app_len, blank_len]; omega)) ?_
      walk_at "go"
      · rw [Int.zero_add]
        exact atI_nat hit
      · refine r_addS (sm (by simp only [app_len, blank_len]; omega)) ?_
        have := kP _ (Evl.Ex.refl _)
        have e : Str.ofString (toString ((g : Nat) : Int)) ++ " " ++ Str.ofString (toString ((n : Nat) : Int)) ++ " " ++ Str.ofString (toString (0 + (i : Int))) ++ " " ++ Str.ofString (toString ((pcs t.cps.toList : Nat) : Int)) ++ " " ++ Sx (pieceL t.cps.toList i) = Bk.txt ⟨g, n, i, pcs t.cps.toList, pieceL t.cps.toList i⟩ := by
          rw [Int.zero_add, num_Sx, num_Sx, num_Sx, num_Sx, blank_Sx]
          simp only [Sx_cat]
          refine congrArg Sx ?_
          unfold Bk.cps
          simp only [List.append_assoc, List.cons_append, List.nil_append]
        rw [e]
        exact this
    · intro r H2 hr e2 hr2
      refine kQ r H2 (e1.trans e2) ?_ ?_
      · cases z : H r with
        | none => rfl
        | some o => rw [e1 _ _ z] at hr; cases hr
      · rw [hr2]
        unfold bks
        rw [List.map_map, Int.toNat_natCast]
        rfl
theorem allEq {a : List Nat} {p : Nat → Prop} (h : ∀ c ∈ a, p c) {k : Nat} {c : Nat} (e : a.toArray[k]? = some c) : p c := h c (by
  have : a[k]? = some c := by simpa using e
  exact List.mem_of_getElem? this)
theorem dig_tl : ("0123456789" : Str).cps.toList = [48, 49, 50, 51, 52, 53, 54, 55, 56, 57] := by decide +kernel
theorem zero_Sx : ("0" : Str) = ⟨#[48]⟩ := by decide +kernel
theorem pure_read_number (T : TxtP K A) (vs : List V) (H : Hp) (Q : VK) (E : XK) (h : sp_read_number K A vs H Q E) : t_read_number K A (fun cls d _ H => E cls d H) { nx := fun _ H' => Q .non H', rt := Q } (start N_read_number vs) H := by
  obtain ⟨n, rfl, hn, kQ⟩ := h
  have l6 := numL_len6 hn
  have l0 := numL_pos n
  have hl : (Sx (TL.numL n)).length ≤ sizeLine := sm (by rw [Sx_len]; omega)
  have ne : ¬ Sx (TL.numL n) = "" := fun z => by
    rw [empty_Sx] at z
    rw [Sx_inj z] at l0
    exact absurd l0 (by decide)
  have hi : PySem.intText? (Sx (TL.numL n)) = some ((n : Nat) : Int) := by
    have := intText_digits (x := Sx (TL.numL n)) (fun c hc => by
      have := TL.numL_digits n c hc
      omega) (TL.numL_ne n) (by rw [Sx_len]; omega)
    rw [TL.numL_val] at this
    exact this
  unfold t_read_number
  walk_at "go"
  have hlen : ((Sx (TL.numL n)).length : Int) = (TL.numL n).length := by rw [Sx_len]
  have tail : ForG (Its (Sx (TL.numL n))) (gName 1)
    (tIfS (tTest (tOp oNotInS (tVar 1) (tC (V.str "0123456789")))) (tRet (tC V.non)) tNext)
    { nx := tRet (tCB bIntS (tCons (tVar 0) tNil)) { nx := fun x H' => Q V.non H', rt := Q }, rt := Q }
    (L2.start N_read_number [V.str (Sx (TL.numL n))]) H := by
    refine f_it walk_str (fun _ σ H' => (∃ v, σ = [some (.str (Sx (TL.numL n))), v]) ∧ H' = H) ⟨⟨_, rfl⟩, rfl⟩ (fun _ _ _ _ _ => trivial) ?_ ?_
    · rintro i x σ H1 H2 hi ⟨⟨v, rfl⟩, rfl⟩ ⟨rfl, c, hc, rfl⟩
      have hd := allEq (a := TL.numL n) (p := fun c => 48 ≤ c ∧ c ≤ 57) (fun c hc => TL.numL_digits n c hc) hc
      walk_at "go"
      rw [dig_tl]
      refine ifNF (by simp only [List.mem_cons, List.not_mem_nil, or_false]; omega) ?_
      walk_at "go"
      exact ⟨⟨_, rfl⟩, rfl⟩
    · rintro σ H1 ⟨⟨v, rfl⟩, rfl⟩
      walk_at "go"
      exact r_intS hi (by rw [Sx_len]; omega) kQ
  refine if2 (fun h1 => ?_) (fun h1 => ?_)
  · obtain ⟨c, r, hc, hne⟩ := numL_head (n + 1) n (Nat.lt_succ_self _) (by
      rw [hlen] at h1
      refine Nat.le_of_not_lt fun z => ?_
      rw [TL.numL_lt z] at h1
      simp at h1)
    walk_at "go"
    refine r_ixS hl (c := c) (by show atI (TL.numL n) 0 = some c; rw [hc]; exact atI_nat (j := 0) rfl) ?_
    walk_at "go"
    rw [zero_Sx]
    refine ifF (fun z => hne ?_) ?_
    · have := congrArg (fun x : Str => x.cps.toList) z
      simpa using this
    · walk_at "go"
      exact tail
  · walk_at "go"
    exact tail
end

end U

set_option Elab.async false
set_option linter.all false
set_option maxRecDepth 100000
set_option maxHeartbeats 4000000
namespace U
open PySem PySem.Spec PyProof.Rows L2
/-! ### stepping: local words (walk_at "..": a word of the library's syntax, given a meaning of our own here) -/
local macro_rules | `(tactic| walk_at "ne") => `(tactic| first
  | assumption
  | exact Ne.symm (by assumption)
  | exact ne_of_none (by assumption) (by assumption)
  | exact (ne_of_none (by assumption) (by assumption)).symm
  | exact ne_of (by assumption) (by assumption) (by intro z; cases z)
  | exact (ne_of (by assumption) (by assumption) (by intro z; cases z)).symm)
local macro_rules | `(tactic| walk_at "hp") => `(tactic| first
  | assumption
  | exact upd_same
  | ((apply hp_ne); (focus (walk_at "ne")); (walk_at "hp"))
  | ((apply hp_ex); assumption; (walk_at "hp")))
local macro_rules | `(tactic| walk_at "sq") => `(tactic| first
  | assumption
  | ((apply Evl.sq_of); (walk_at "hp"))
  | ((apply Evl.st_of); (walk_at "hp"))
  | ((apply Evl.ex_l); assumption; (walk_at "sq"))
  | ((apply Evl.ex_t); assumption; (walk_at "sq")))
local macro_rules | `(tactic| walk_at "sz") => `(tactic| first | (simp only [List.length_cons, List.length_nil]; omega) | omega | decide)
local macro_rules | `(tactic| walk_at "ar") => `(tactic| first | omega | decide | assumption)
local macro_rules | `(tactic| walk_at "s1") => `(tactic| first
  | (with_reducible first
      | refine r_seq ?_ | refine r_asg ?_ | refine r_drop ?_ | refine r_ret ?_ | refine r_retN ?_ | refine r_if ?_ | refine r_next ?_ | refine r_brk ?_ | refine r_cont ?_ | refine r_sFld ?_ | refine r_raise ?_
      | refine r_op ?_ | refine r_cons ?_ | refine r_nil ?_ | refine r_c ?_ | refine r_cb ?_ | refine r_call ?_ | refine r_meth ?_ | refine r_make ?_ | refine r_fld ?_ | refine r_tup ?_ | refine r_lst ?_ | refine r_un ?_
      | refine r_name ?_ | refine r_gCons ?_ | refine r_gNil ?_ | refine r_gSub ?_ | refine r_test ?_ | refine r_B ?_ | refine r_tru ?_ | refine r_and ?_ | refine r_or ?_ | refine r_not ?_ | refine r_chain ?_
      | refine r_andV ?_ | refine r_orV ?_ | refine r_notV ?_ | refine r_if' ?_ | refine r_sl ?_ | refine r_noPart ?_ | refine r_part ?_ | refine r_bm ?_ | refine r_bm0 ?_ | refine r_m1 ?_
      | refine r_exI ?_ | refine r_exB ?_ | refine r_exS ?_
      | refine r_add ?_ | refine r_sub ?_ | refine r_lt ?_ | refine r_le ?_ | refine r_gt ?_ | refine r_ge ?_ | refine r_and2 ?_ | refine r_neg ?_
      | refine r_eqI ?_ | refine r_neI ?_ | refine r_eqS ?_ | refine r_neS ?_ | refine r_eqNI ?_ | refine r_isNN ?_ | refine r_isNI ?_ | refine r_isNR ?_ | refine r_notNN ?_ | refine r_notNI ?_ | refine r_notNR ?_
      | refine r_inS ?_ | refine r_notInS ?_ | refine r_truI ?_ | refine r_truB ?_ | refine r_truN ?_ | refine r_abs ?_ | refine r_max ?_ | refine r_min ?_ | refine r_int ?_ | refine r_intB ?_ | refine r_ord ?_ | refine r_find ?_
      | refine iteT ?_ | refine iteF ?_ | refine if_nf ?_ | refine if_nt ?_ | refine r_mkx ?_ | refine r_mkG ?_ | refine r_gS ?_
      | refine r_forL ?_ | refine r_forT ?_ | refine r_forS ?_ | refine r_forR1 ?_ | refine r_forR2 ?_ | refine r_lc ?_ | refine r_iL ?_ | refine r_iT ?_ | refine r_iS ?_ | refine r_iR1 ?_ | refine r_iR2 ?_ | refine r_iR3 ?_)
  | ((with_reducible apply r_var); (with_unfolding_all rfl))
  | ((with_reducible first | refine r_mod ?_ ?_ | refine r_mul ?_ ?_ | refine r_div ?_ ?_ | refine r_pow ?_ ?_); (first | omega | decide | exact ⟨by omega, by omega⟩ | exact ⟨by decide, by decide⟩ | exact .inr ⟨by omega, by omega⟩ | exact .inl ⟨by omega, by omega⟩ | exact .inr ⟨by decide, by decide⟩ | exact ⟨by decide, by decide, by decide⟩))
  | ((with_reducible first | apply r_tyL | apply r_ixL | apply r_ixT | apply r_lenL | apply r_lenT | apply r_truL | apply r_truT | apply r_gL | apply r_gT); (walk_at "sq"); (try (first | assumption | (exact atI_nat (by assumption)) | rfl)))
  | ((with_reducible first | apply r_gR1 | apply r_gR2 | apply r_addS | apply r_lenS | apply r_str | apply r_repS); (first | omega | decide | exact ⟨by omega, by omega⟩ | exact ⟨⟨by omega, by omega⟩, by omega, by omega⟩ | (exact Nat.le_trans (by assumption) (by decide)) | exact ⟨by omega, by omega, by decide +kernel⟩))
  | ((with_reducible refine ifT ?_ ?_); (walk_at "ar"))
  | ((with_reducible refine ifF ?_ ?_); (walk_at "ar"))
  | ((with_reducible refine ifNT ?_ ?_); (walk_at "ar"))
  | ((with_reducible refine ifNF ?_ ?_); (walk_at "ar")))
local macro_rules | `(tactic| walk_at "go") => `(tactic| repeat (walk_at "s1"))

local macro_rules | `(tactic| walk_at "cls") => `(tactic| (with_reducible first
  | apply g_Disk_size (by assumption)
  | apply w_Disk_size (by assumption)
  | apply g_Disk_blocks (by assumption)
  | apply w_Disk_blocks (by assumption)
  | apply g_Disk_queue (by assumption)
  | apply w_Disk_queue (by assumption)
  | apply g_Disk_left (by assumption)
  | apply w_Disk_left (by assumption)
  | apply g_Disk_down (by assumption)
  | apply w_Disk_down (by assumption)
  | apply g_Journal_disk (by assumption)
  | apply w_Journal_disk (by assumption)
  | apply g_Journal_area (by assumption)
  | apply w_Journal_area (by assumption)
  | apply g_Journal_first (by assumption)
  | apply w_Journal_first (by assumption)
  | apply g_Journal_next (by assumption)
  | apply w_Journal_next (by assumption)
  | apply g_Journal_generation (by assumption)
  | apply w_Journal_generation (by assumption)
  | apply g_Journal_number (by assumption)
  | apply w_Journal_number (by assumption)
  | apply g_Journal_image_number (by assumption)
  | apply w_Journal_image_number (by assumption)
  | apply g_Journal_image (by assumption)
  | apply w_Journal_image (by assumption)
  | apply g_Journal_kept (by assumption)
  | apply w_Journal_kept (by assumption)
  | apply mm_Disk_spend
  | apply mm_Disk_block
  | apply mm_Disk_write
  | apply mm_Disk_sync
  | apply mm_Disk_waiting
  | apply mm_Journal_area_of
  | apply mm_Journal_read_record
  | apply mm_Journal_empty_rest
  | apply mm_Journal_recover
  | apply mm_Journal_records
  | apply mm_Journal_has_room
  | apply mm_Journal_write_record
  | apply mm_Journal_checkpoint); walk_at "hp")
local macro_rules | `(tactic| walk_at "cls0") => `(tactic| (with_reducible first
  | apply w0_Disk_size (by assumption)
  | apply w0_Disk_blocks (by assumption)
  | apply w0_Disk_queue (by assumption)
  | apply w0_Disk_left (by assumption)
  | apply w0_Disk_down (by assumption)
  | apply w0_Journal_disk (by assumption)
  | apply w0_Journal_area (by assumption)
  | apply w0_Journal_first (by assumption)
  | apply w0_Journal_next (by assumption)
  | apply w0_Journal_generation (by assumption)
  | apply w0_Journal_number (by assumption)
  | apply w0_Journal_image_number (by assumption)
  | apply w0_Journal_image (by assumption)
  | apply w0_Journal_kept (by assumption)); walk_at "hp")
local macro_rules | `(tactic| walk_at "go") => `(tactic| repeat (first | walk_at "s1" | walk_at "cls"))

/-- the numbers of a block's head that are still to be read, and what stands behind -/
def restL (ks : List Nat) (pc : List Nat) : List Nat := ks.foldr (fun x r => TL.numL x ++ 32 :: r) pc
theorem cps_rest (b : Bk) : b.cps = restL [b.g, b.n, b.i, b.m] b.pc := rfl
section
variable {K : PySem.W.Frag} {A : Adr}
theorem pure_read_block (T : TxtP K A) (vs : List V) (H : Hp) (Q : VK) (E : XK) (h : sp_read_block K A vs H Q E) : t_read_block K A (fun cls d _ H => E cls d H) { nx := fun _ H' => Q .non H', rt := Q } (start N_read_block vs) H := by
  obtain ⟨ob, rfl, hok, k0, k1⟩ := h
  unfold t_read_block
  walk_at "go"
  refine r_small (by decide) fun r hr => ?_
  walk_at "go"
  cases ob with
  | none =>
    have er : Ex H (upd H r (.lst [])) := Evl.Ex.new hr
    show ForG (Itr 0 (Int.toNat 4)) _ _ _ [some (.str ""), some (.ref r), none, none, none, none, none, none] _
    refine f_range (n := 4) (fun k σ H' => k = 0 ∧ σ = [some (.str ""), some (.ref r), none, none, none, none, none, none] ∧ Ex H H') ⟨rfl, rfl, er⟩ ?_ ?_
    · rintro k σ H1 hk ⟨rfl, rfl, e1⟩
      walk_at "go"
      rw [find_empty]
      walk_at "go"
      exact k0 rfl H1 e1
    · rintro σ H1 ⟨h4, _⟩
      exact absurd h4 (by decide)
  | some b =>
    have ok := hok b rfl
    have hlen := ok.len
    rw [cps_rest] at hlen
    show ForG (Itr 0 (Int.toNat 4)) _ _ _ [some (.str b.txt), some (.ref r), none, none, none, none, none, none] _
    refine f_range (n := 4) (fun k σ H' => (∃ v2 v3, σ = [some (.str (Sx (restL ([b.g, b.n, b.i, b.m].drop k) b.pc))), some (.ref r), v2, v3, none, none, none, none]) ∧ Ex H H' ∧ H' r = some (.lst (([b.g, b.n, b.i, b.m].take k).map fun n => V.int (n : Nat)))) ⟨⟨_, _, rfl⟩, Evl.Ex.new hr, upd_same⟩ ?_ ?_
    · rintro k σ H1 hk ⟨⟨v2, v3, rfl⟩, e1, h1⟩
      obtain ⟨x, hx, hb⟩ : ∃ x, [b.g, b.n, b.i, b.m][k]? = some x ∧ x < 1000000 := by
        have og := ok.g
        have on' := ok.n
        have om := ok.m
        have oi := ok.i
        match k, hk with
        | 0, _ => exact ⟨_, rfl, og⟩
        | 1, _ => exact ⟨_, rfl, on'⟩
        | 2, _ => exact ⟨_, rfl, by omega⟩
        | 3, _ => exact ⟨_, rfl, by omega⟩
      have ed : restL ([b.g, b.n, b.i, b.m].drop k) b.pc = TL.numL x ++ 32 :: restL ([b.g, b.n, b.i, b.m].drop (k + 1)) b.pc := by
        obtain ⟨hl, e⟩ := List.getElem?_eq_some_iff.mp hx
        rw [List.drop_eq_getElem_cons hl, e]
        rfl
      rw [ed]
      have hf := find_first (a := TL.numL x) (r := restL ([b.g, b.n, b.i, b.m].drop (k + 1)) b.pc) (c := 32) (TL.numL_free (by decide))
      have hcut : cutS (Sx (TL.numL x ++ 32 :: restL ([b.g, b.n, b.i, b.m].drop (k + 1)) b.pc)) none (some ((TL.numL x).length : Int)) = Sx (TL.numL x) := by
        rw [cutS_to]
        refine congrArg Sx ?_
        show (TL.numL x ++ _).take _ = _
        rw [List.take_left]
      have hcut2 : cutS (Sx (TL.numL x ++ 32 :: restL ([b.g, b.n, b.i, b.m].drop (k + 1)) b.pc)) (some (((TL.numL x).length : Int) + 1)) none = Sx (restL ([b.g, b.n, b.i, b.m].drop (k + 1)) b.pc) := by
        rw [show ((TL.numL x).length : Int) + 1 = (((TL.numL x).length + 1 : Nat) : Int) by omega, cutS_from]
        refine congrArg Sx ?_
        show (TL.numL x ++ _).drop _ = _
        rw [List.drop_append]
        simp
      have hsl : (Sx (TL.numL x ++ 32 :: restL ([b.g, b.n, b.i, b.m].drop (k + 1)) b.pc)).length ≤ sizeLine := sm (by
        rw [Sx_len, ← ed]
        have : (restL ([b.g, b.n, b.i, b.m].drop k) b.pc).length ≤ 64 := by
          match k, hk with
          | 0, _ => exact hlen
          | 1, _ => simp only [restL, List.foldr, List.drop, List.length_append, List.length_cons] at hlen ⊢; omega
          | 2, _ => simp only [restL, List.foldr, List.drop, List.length_append, List.length_cons] at hlen ⊢; omega
          | 3, _ => simp only [restL, List.foldr, List.drop, List.length_append, List.length_cons] at hlen ⊢; omega
        omega)
      walk_at "go"
      rw [blank_Sx, hf]
      walk_at "go"
      refine ⟨_, rfl, hsl, ?_⟩
      rw [hcut]
      walk_at "go"
      refine ⟨x, rfl, hb, ?_⟩
      walk_at "go"
      refine ⟨_, rfl, hsl, ?_⟩
      rw [hcut]
      walk_at "go"
      refine ⟨x, rfl, hb, ?_⟩
      walk_at "go"
      refine r_append h1 (by rw [List.length_map]; exact Nat.lt_of_le_of_lt (List.length_take_le _ _) (Nat.lt_of_lt_of_le hk (by decide))) ?_
      walk_at "go"
      refine ⟨_, rfl, hsl, ?_⟩
      rw [hcut2]
      walk_at "go"
      refine ⟨⟨_, _, rfl⟩, Evl.Ex.mut e1 hr, ?_⟩
      rw [upd_same, List.take_succ, hx, List.map_append]
      rfl
    · rintro σ H1 ⟨⟨v2, v3, rfl⟩, e1, h1⟩
      walk_at "go"
      refine r_gLst (xs := [.int (b.g : Nat), .int (b.n : Nat), .int (b.i : Nat), .int (b.m : Nat)]) (Evl.sq_of h1) rfl ?_
      have hi := ok.i
      have hpl := ok.pl
      have hps : (Sx b.pc).length ≤ sizeLine := sm (by rw [Sx_len]; omega)
      show gCons _ _ _ [some (.str (Sx b.pc)), some (.ref r), v2, v3, none, none, none, none] _ _
      walk_at "go"
      have hpe : (Sx b.pc).length = b.pc.length := Sx_len _
      have fin : ∀ H2 : Hp, Ex H H2 → ([V.int (b.g : Nat), .int (b.n : Nat), .int (b.i : Nat), .int (b.m : Nat), .str (Sx b.pc)]).length ≤ sizeLine ∧ ∀ p, H2 p = none → Q (.ref p) (upd H2 p (.tup [.int (b.g : Nat), .int (b.n : Nat), .int (b.i : Nat), .int (b.m : Nat), .str (Sx b.pc)])) := fun H2 e2 =>
        r_small (by show 5 ≤ 1000; decide) fun p hp => k1 b rfl p _ (e2.trans (Evl.Ex.new hp)) upd_same
      refine ifF (by omega) ?_
      have h2 : ¬ (Sx b.pc = "" ∧ 1 < (b.m : Int)) := fun ⟨z, z2⟩ => by
        rw [empty_Sx] at z
        have := ok.ne (Sx_inj z)
        omega
      by_cases hf : b.i + 1 < b.m
      · have hf32 := ok.full hf
        walk_at "go"
        refine ifF (fun z => ?_) ?_
        · rw [empty_Sx] at z
          rw [Sx_inj z] at hf32
          exact absurd hf32 (by decide)
        · walk_at "go"
          exact fin _ e1
      · walk_at "go"
        refine if2 (fun z => ?_) (fun z => ?_)
        · have : ¬ 1 < (b.m : Int) := fun z2 => h2 ⟨z, z2⟩
          walk_at "go"
          exact fin _ e1
        · walk_at "go"
          exact fin _ e1
end

end U

set_option Elab.async false
set_option linter.all false
set_option maxRecDepth 100000
set_option maxHeartbeats 4000000
namespace U
open PySem PySem.Spec PyProof.Rows L2
/-! ### stepping: local words (walk_at "..": a word of the library's syntax, given a meaning of our own here) -/
local macro_rules | `(tactic| walk_at "ne") => `(tactic| first
  | assumption
  | exact Ne.symm (by assumption)
  | exact ne_of_none (by assumption) (by assumption)
  | exact (ne_of_none (by assumption) (by assumption)).symm
  | exact ne_of (by assumption) (by assumption) (by intro z; cases z)
  | exact (ne_of (by assumption) (by assumption) (by intro z; cases z)).symm)
local macro_rules | `(tactic| walk_at "hp") => `(tactic| first
  | assumption
  | exact upd_same
  | ((apply hp_ne); (focus (walk_at "ne")); (walk_at "hp"))
  | ((apply hp_ex); assumption; (walk_at "hp")))
local macro_rules | `(tactic| walk_at "sq") => `(tactic| first
  | assumption
  | ((apply Evl.sq_of); (walk_at "hp"))
  | ((apply Evl.st_of); (walk_at "hp"))
  | ((apply Evl.ex_l); assumption; (walk_at "sq"))
  | ((apply Evl.ex_t); assumption; (walk_at "sq")))
local macro_rules | `(tactic| walk_at "sz") => `(tactic| first | (simp only [List.length_cons, List.length_nil]; omega) | omega | decide)
local macro_rules | `(tactic| walk_at "ar") => `(tactic| first | omega | decide | assumption)
local macro_rules | `(tactic| walk_at "s1") => `(tactic| first
  | (with_reducible first
      | refine r_seq ?_ | refine r_asg ?_ | refine r_drop ?_ | refine r_ret ?_ | refine r_retN ?_ | refine r_if ?_ | refine r_next ?_ | refine r_brk ?_ | refine r_cont ?_ | refine r_sFld ?_ | refine r_raise ?_
      | refine r_op ?_ | refine r_cons ?_ | refine r_nil ?_ | refine r_c ?_ | refine r_cb ?_ | refine r_call ?_ | refine r_meth ?_ | refine r_make ?_ | refine r_fld ?_ | refine r_tup ?_ | refine r_lst ?_ | refine r_un ?_
      | refine r_name ?_ | refine r_gCons ?_ | refine r_gNil ?_ | refine r_gSub ?_ | refine r_test ?_ | refine r_B ?_ | refine r_tru ?_ | refine r_and ?_ | refine r_or ?_ | refine r_not ?_ | refine r_chain ?_
      | refine r_andV ?_ | refine r_orV ?_ | refine r_notV ?_ | refine r_if' ?_ | refine r_sl ?_ | refine r_noPart ?_ | refine r_part ?_ | refine r_bm ?_ | refine r_bm0 ?_ | refine r_m1 ?_
      | refine r_exI ?_ | refine r_exB ?_ | refine r_exS ?_
      | refine r_add ?_ | refine r_sub ?_ | refine r_lt ?_ | refine r_le ?_ | refine r_gt ?_ | refine r_ge ?_ | refine r_and2 ?_ | refine r_neg ?_
      | refine r_eqI ?_ | refine r_neI ?_ | refine r_eqS ?_ | refine r_neS ?_ | refine r_eqNI ?_ | refine r_isNN ?_ | refine r_isNI ?_ | refine r_isNR ?_ | refine r_notNN ?_ | refine r_notNI ?_ | refine r_notNR ?_
      | refine r_inS ?_ | refine r_notInS ?_ | refine r_truI ?_ | refine r_truB ?_ | refine r_truN ?_ | refine r_abs ?_ | refine r_max ?_ | refine r_min ?_ | refine r_int ?_ | refine r_intB ?_ | refine r_ord ?_ | refine r_find ?_
      | refine iteT ?_ | refine iteF ?_ | refine if_nf ?_ | refine if_nt ?_ | refine r_mkx ?_ | refine r_mkG ?_ | refine r_gS ?_
      | refine r_forL ?_ | refine r_forT ?_ | refine r_forS ?_ | refine r_forR1 ?_ | refine r_forR2 ?_ | refine r_lc ?_ | refine r_iL ?_ | refine r_iT ?_ | refine r_iS ?_ | refine r_iR1 ?_ | refine r_iR2 ?_ | refine r_iR3 ?_)
  | ((with_reducible apply r_var); (with_unfolding_all rfl))
  | ((with_reducible first | refine r_mod ?_ ?_ | refine r_mul ?_ ?_ | refine r_div ?_ ?_ | refine r_pow ?_ ?_); (first | omega | decide | exact ⟨by omega, by omega⟩ | exact ⟨by decide, by decide⟩ | exact .inr ⟨by omega, by omega⟩ | exact .inl ⟨by omega, by omega⟩ | exact .inr ⟨by decide, by decide⟩ | exact ⟨by decide, by decide, by decide⟩))
  | ((with_reducible first | apply r_tyL | apply r_ixL | apply r_ixT | apply r_lenL | apply r_lenT | apply r_truL | apply r_truT | apply r_gL | apply r_gT); (walk_at "sq"); (try (first | assumption | (exact atI_nat (by assumption)) | rfl)))
  | ((with_reducible first | apply r_gR1 | apply r_gR2 | apply r_addS | apply r_lenS | apply r_str | apply r_repS); (first | omega | decide | exact ⟨by omega, by omega⟩ | exact ⟨⟨by omega, by omega⟩, by omega, by omega⟩ | (exact Nat.le_trans (by assumption) (by decide)) | exact ⟨by omega, by omega, by decide +kernel⟩))
  | ((with_reducible refine ifT ?_ ?_); (walk_at "ar"))
  | ((with_reducible refine ifF ?_ ?_); (walk_at "ar"))
  | ((with_reducible refine ifNT ?_ ?_); (walk_at "ar"))
  | ((with_reducible refine ifNF ?_ ?_); (walk_at "ar")))
local macro_rules | `(tactic| walk_at "go") => `(tactic| repeat (walk_at "s1"))

local macro_rules | `(tactic| walk_at "cls") => `(tactic| (with_reducible first
  | apply g_Disk_size (by assumption)
  | apply w_Disk_size (by assumption)
  | apply g_Disk_blocks (by assumption)
  | apply w_Disk_blocks (by assumption)
  | apply g_Disk_queue (by assumption)
  | apply w_Disk_queue (by assumption)
  | apply g_Disk_left (by assumption)
  | apply w_Disk_left (by assumption)
  | apply g_Disk_down (by assumption)
  | apply w_Disk_down (by assumption)
  | apply g_Journal_disk (by assumption)
  | apply w_Journal_disk (by assumption)
  | apply g_Journal_area (by assumption)
  | apply w_Journal_area (by assumption)
  | apply g_Journal_first (by assumption)
  | apply w_Journal_first (by assumption)
  | apply g_Journal_next (by assumption)
  | apply w_Journal_next (by assumption)
  | apply g_Journal_generation (by assumption)
  | apply w_Journal_generation (by assumption)
  | apply g_Journal_number (by assumption)
  | apply w_Journal_number (by assumption)
  | apply g_Journal_image_number (by assumption)
  | apply w_Journal_image_number (by assumption)
  | apply g_Journal_image (by assumption)
  | apply w_Journal_image (by assumption)
  | apply g_Journal_kept (by assumption)
  | apply w_Journal_kept (by assumption)
  | apply mm_Disk_spend
  | apply mm_Disk_block
  | apply mm_Disk_write
  | apply mm_Disk_sync
  | apply mm_Disk_waiting
  | apply mm_Journal_area_of
  | apply mm_Journal_read_record
  | apply mm_Journal_empty_rest
  | apply mm_Journal_recover
  | apply mm_Journal_records
  | apply mm_Journal_has_room
  | apply mm_Journal_write_record
  | apply mm_Journal_checkpoint); walk_at "hp")
local macro_rules | `(tactic| walk_at "cls0") => `(tactic| (with_reducible first
  | apply w0_Disk_size (by assumption)
  | apply w0_Disk_blocks (by assumption)
  | apply w0_Disk_queue (by assumption)
  | apply w0_Disk_left (by assumption)
  | apply w0_Disk_down (by assumption)
  | apply w0_Journal_disk (by assumption)
  | apply w0_Journal_area (by assumption)
  | apply w0_Journal_first (by assumption)
  | apply w0_Journal_next (by assumption)
  | apply w0_Journal_generation (by assumption)
  | apply w0_Journal_number (by assumption)
  | apply w0_Journal_image_number (by assumption)
  | apply w0_Journal_image (by assumption)
  | apply w0_Journal_kept (by assumption)); walk_at "hp")
local macro_rules | `(tactic| walk_at "go") => `(tactic| repeat (first | walk_at "s1" | walk_at "cls"))

section
variable {K : PySem.W.Frag} {A : Adr}
theorem JAt.ex {H H' : Hp} {j p lk : Addr} {x : JS} (h : JAt A H j p lk x) (e : Ex H H') : JAt A H' j p lk x := by
  obtain ⟨⟨dx, h1⟩, ⟨ps, h2, h3⟩⟩ := h
  exact ⟨⟨dx, e _ _ h1⟩, ⟨ps, e _ _ h2, tups_kp h3 fun b xs z => e _ _ z⟩⟩
theorem JAt.kp {H H' : Hp} {j p lk : Addr} {x : JS} {fp : List Addr} (h : JAt A H j p lk x) (k : Kp fp H H') (n1 : j ∉ fp) (n2 : lk ∉ fp) (nt : ∀ b ∈ fp, ∀ xs, H b ≠ some (.tup xs)) : JAt A H' j p lk x := by
  obtain ⟨⟨dx, h1⟩, ⟨ps, h2, h3⟩⟩ := h
  exact ⟨⟨dx, k _ _ h1 n1⟩, ⟨ps, k _ _ h2 n2, tups_kp h3 fun b xs z => k _ _ z fun w => nt b w xs z⟩⟩
theorem GAt.ex {H H' : Hp} {j p lb lq lk : Addr} {x : JS} {d : DS} (h : GAt A H j p lb lq lk x d) (e : Ex H H') : GAt A H' j p lb lq lk x d := ⟨h.J.ex e, h.D.ex e, h.nd⟩
theorem DAt.ntup {H : Hp} {p lb lq : Addr} {d : DS} (D : DAt A H p lb lq d) {b : Addr} (hb : b = p ∨ b = lb ∨ b = lq) (xs : List V) : H b ≠ some (.tup xs) := by
  obtain ⟨dx, h1⟩ := D.ob
  obtain ⟨ps, h3, _⟩ := D.qu
  intro z
  rcases hb with rfl | rfl | rfl
  · rw [h1] at z; cases z
  · rw [D.bl] at z; cases z
  · rw [h3] at z; cases z
/-- a call of the disk's -/
theorem GAt.disk {H H' : Hp} {j p lb lq lq' lk : Addr} {x : JS} {d d' : DS} {fp : List Addr} (G : GAt A H j p lb lq lk x d) (hfp : ∀ b ∈ fp, b = p ∨ b = lb ∨ b = lq) (k : Kp fp H H') (D' : DAt A H' p lb lq' d') (hn : lq' = lq ∨ H lq' = none) : GAt A H' j p lb lq' lk x d' := by
  obtain ⟨J, D, nd⟩ := G
  obtain ⟨jx, hj⟩ := J.ob
  obtain ⟨ks, hk, _⟩ := J.kt
  obtain ⟨dx, hp⟩ := D.ob
  obtain ⟨ps, hq, _⟩ := D.qu
  simp only [List.nodup_cons, List.mem_cons, List.not_mem_nil, not_or, or_false, not_false_eq_true, and_true, List.nodup_nil] at nd
  obtain ⟨⟨a1, a2, a3, a4⟩, ⟨b1, b2, b3⟩, ⟨c1, c2⟩, d1⟩ := nd
  refine ⟨J.kp k (fun z => ?_) (fun z => ?_) fun b hb xs => D.ntup (hfp b hb) xs, D', ?_⟩
  · rcases hfp _ z with y | y | y
    · exact a1 y
    · exact a2 y
    · exact a3 y
  · rcases hfp _ z with y | y | y
    · exact b3 y.symm
    · exact c2 y.symm
    · exact d1 y.symm
  · simp only [List.nodup_cons, List.mem_cons, List.not_mem_nil, not_or, or_false, not_false_eq_true, and_true, List.nodup_nil]
    rcases hn with rfl | hn
    · exact ⟨⟨a1, a2, a3, a4⟩, ⟨b1, b2, b3⟩, ⟨c1, c2⟩, d1⟩
    · exact ⟨⟨a1, a2, ne_of_none hj hn, a4⟩, ⟨b1, ne_of_none hp hn, b3⟩, ⟨D'.ne, c2⟩, (ne_of_none hk hn).symm⟩
theorem pure_Journal_area_of (T : TxtP K A) (vs : List V) (H : Hp) (Q : VK) (E : XK) (h : sp_Journal_area_of K A vs H Q E) : t_Journal_area_of K A (fun cls d _ H => E cls d H) { nx := fun _ H' => Q .non H', rt := Q } (start N_Journal_area_of vs) H := by
  obtain ⟨j, p, lk, x, g, rfl, J, kQ⟩ := h
  obtain ⟨jx, hj⟩ := J.ob
  unfold t_Journal_area_of
  walk_at "go"
  refine if2 (fun h => ?_) (fun h => ?_)
  · walk_at "go"
    have e : areaOf x.area g = 1 := if_pos (by omega)
    rw [e] at kQ
    exact kQ
  · walk_at "go"
    have e : areaOf x.area g = x.area + 1 := if_neg (by omega)
    rw [e] at kQ
    exact kQ
theorem pure_Journal_records (T : TxtP K A) (vs : List V) (H : Hp) (Q : VK) (E : XK) (h : sp_Journal_records K A vs H Q E) : t_Journal_records K A (fun cls d _ H => E cls d H) { nx := fun _ H' => Q .non H', rt := Q } (start N_Journal_records vs) H := by
  obtain ⟨j, p, lk, x, rfl, J, kQ⟩ := h
  obtain ⟨jx, hj⟩ := J.ob
  obtain ⟨ps, hk, ht⟩ := J.kt
  unfold t_Journal_records
  walk_at "go"
  exact r_list (Evl.sq_of hk) fun l hl => kQ l ps _ (Evl.Ex.new hl) hl upd_same ht
def FoV (H : Hp) (v : V) (f : Option (Nat × Nat)) : Prop := (f = none ∧ v = .non) ∨ ∃ n m a, f = some (n, m) ∧ v = .ref a ∧ H a = some (.tup [.int (n : Nat), .int (m : Nat)])
theorem dp_pair {H : Hp} {a : Addr} {n m : Nat} (h : H a = some (.tup [.int (n : Nat), .int (m : Nat)])) : Dp K H (.ref a) (.tuple [.int (n : Nat), .int (m : Nat)]) := .tup (Evl.st_of h) (.cons (.int _) (.cons (.int _) .nil))
theorem sh_pair {n m : Nat} : SeqAt.shaped (.tuple [.int (n : Nat), .int (m : Nat)]) = true := by
  simp [SeqAt.shaped, PyData.canLay0, PyData.canLayAll0, PyData.depth, PyData.depthAll]
theorem rdR_step {s : Nat → Option Bk} {gen start k a : Nat} {f : Option (Nat × Nat)} {t : List Nat} {b : Bk} (hb : s a = some b) : rdR s gen start (k + 1) a f t = if b.g = gen ∧ b.i = a - start ∧ (f = none ∨ f = some (b.n, b.m)) then
    (if b.i + 1 = b.m then some (b.n, t ++ b.pc, b.m) else rdR s gen start k (a + 1) (some (b.n, b.m)) (t ++ b.pc)) else none := by
  simp only [rdR, hb]
theorem ne_pair {H : Hp} {Q : VK} {a c : Addr} {n m n' m' : Nat} (h1 : H a = some (.tup [.int (n : Nat), .int (m : Nat)])) (h2 : H c = some (.tup [.int (n' : Nat), .int (m' : Nat)])) (q : Q (.bl (!decide (n = n' ∧ m = m'))) H) : rNeD K (.ref a) (.ref c) H Q := by
  refine ⟨_, _, dp_pair h1, dp_pair h2, sh_pair, sh_pair, ?_⟩
  have e : PyData.eqv (.tuple [.int (n : Nat), .int (m : Nat)]) (.tuple [.int (n' : Nat), .int (m' : Nat)]) = decide (n = n' ∧ m = m') := by
    rw [Bool.eq_iff_iff]
    simp [PyData.eqv, PyData.eqvAll]
    omega
  rw [e]
  exact q
theorem pure_Journal_read_record (T : TxtP K A) (vs : List V) (H : Hp) (Q : VK) (E : XK) (h : sp_Journal_read_record K A vs H Q E) : t_Journal_read_record K A (fun cls d _ H => E cls d H) { nx := fun _ H' => Q .non H', rt := Q } (start N_Journal_read_record vs) H := by
  obtain ⟨j, p, lb, lq, lk, x, d, s, gen, s0, s1, rfl, G, hd, hs, h1, h12, h2, kN, kS⟩ := h
  have hsz := G.D.ok.sz
  unfold t_Journal_read_record
  walk_at "go"
  rw [show ((s1 : Int) - (s0 : Int)).toNat = s1 - s0 by omega]
  refine f_range (fun k σ H' => ∃ fo f t v6 v7, σ = [some (.ref j), some (.int (s0 : Nat)), some (.int (s1 : Nat)), some (.int (gen : Nat)), some fo, some (.str (Sx t)), v6, v7] ∧ Ex H H' ∧ FoV H' fo f ∧ t.length ≤ 32 * k ∧ rdR s gen s0 (s1 - s0 - k) (s0 + k) f t = rd s gen s0 s1) ⟨_, none, [], _, _, by rw [empty_Sx]; rfl, Evl.Ex.refl _, .inl ⟨rfl, rfl⟩, Nat.le_refl _, rfl⟩ ?_ ?_
  · rintro k σ H1 hk ⟨fo, f, t, v6, v7, rfl, e1, hf, ht, hr⟩
    have G1 := G.ex e1
    obtain ⟨jx, hj⟩ := G1.J.ob
    obtain ⟨dx, hp⟩ := G1.D.ob
    obtain ⟨hse, hok⟩ := hs (s0 + k) (by omega) (by omega)
    walk_at "go"
    refine ⟨p, lb, lq, d, (s0 : Int) + (k : Int), rfl, G1.D, fun z => bx z hd, fun _ z => absurd ⟨by omega, by omega⟩ z, fun _ _ _ => ?_⟩
    rw [show ((s0 : Int) + (k : Int)).toNat = s0 + k by omega, hse]
    walk_at "go"
    refine ⟨s (s0 + k), rfl, hok, fun hn H2 e2 => ?_, fun b hb q H2 e2 hq => ?_⟩
    · walk_at "go"
      refine kN ?_ H2 (e1.trans e2)
      rw [← hr, show s1 - s0 - k = (s1 - s0 - k - 1) + 1 by omega]
      unfold rdR
      rw [hn]
    · have ok := hok b hb
      obtain ⟨k', hk'⟩ : ∃ k', s1 - s0 - k = k' + 1 := ⟨s1 - s0 - k - 1, by omega⟩
      rw [hk', rdR_step hb] at hr
      have stp := hr.symm
      have hpl := ok.pl
      have hbm := ok.i
      by_cases hg : b.g = gen
      · by_cases hi : b.i = s0 + k - s0
        · by_cases hm : f = none ∨ f = some (b.n, b.m)
          · rcases hf with ⟨rfl, rfl⟩ | ⟨n, m, fa, rfl, rfl, hfa⟩
            · walk_at "go"
              refine r_small (by show 2 ≤ 1000; decide) fun qa hqa => ?_
              have eqa : Ex _ (upd _ qa (.tup [.int (b.n : Nat), .int (b.m : Nat)])) := Evl.Ex.new hqa
              walk_at "go"
              refine r_addS (sm (by rw [Sx_len, Sx_len]; omega)) ?_
              walk_at "go"
              rw [Sx_cat]
              refine if2 (fun hl => ?_) (fun hl => ?_)
              · walk_at "go"
                refine r_small (by show 3 ≤ 1000; decide) fun r0 hr0 => ?_
                have estp := stp.trans ((if_pos ⟨hg, hi, hm⟩).trans (if_pos (by omega)))
                exact kS _ estp r0 _ ((e1.trans e2).trans (eqa.trans (Evl.Ex.new hr0))) upd_same
              · walk_at "go"
                have estp := stp.trans ((if_pos ⟨hg, hi, hm⟩).trans (if_neg (by omega)))
                refine ⟨_, some (b.n, b.m), t ++ b.pc, _, _, rfl, (e1.trans e2).trans eqa, .inr ⟨_, _, _, rfl, rfl, upd_same⟩, by rw [List.length_append]; omega, ?_⟩
                rw [show s1 - s0 - (k + 1) = k' by omega]
                exact estp.symm
            · have hnm : n = b.n ∧ m = b.m := by
                rcases hm with z | z
                · cases z
                · exact ⟨congrArg Prod.fst (Option.some.inj z), congrArg Prod.snd (Option.some.inj z)⟩
              walk_at "go"
              refine r_small (by show 2 ≤ 1000; decide) fun q1 hq1 => ?_
              have eq1 : Ex H2 (upd H2 q1 (.tup [.int (b.n : Nat), .int (b.m : Nat)])) := Evl.Ex.new hq1
              walk_at "go"
              refine ne_pair upd_same (eq1 _ _ (e2 _ _ hfa)) ?_
              walk_at "go"
              refine r_small (by show 2 ≤ 1000; decide) fun qa hqa => ?_
              have eqa : Ex _ (upd _ qa (.tup [.int (b.n : Nat), .int (b.m : Nat)])) := Evl.Ex.new hqa
              walk_at "go"
              refine r_addS (sm (by rw [Sx_len, Sx_len]; omega)) ?_
              walk_at "go"
              rw [Sx_cat]
              refine if2 (fun hl => ?_) (fun hl => ?_)
              · walk_at "go"
                refine r_small (by show 3 ≤ 1000; decide) fun r0 hr0 => ?_
                have estp := stp.trans ((if_pos ⟨hg, hi, hm⟩).trans (if_pos (by omega)))
                exact kS _ estp r0 _ (((e1.trans e2).trans eq1).trans (eqa.trans (Evl.Ex.new hr0))) upd_same
              · walk_at "go"
                have estp := stp.trans ((if_pos ⟨hg, hi, hm⟩).trans (if_neg (by omega)))
                refine ⟨_, some (b.n, b.m), t ++ b.pc, _, _, rfl, ((e1.trans e2).trans eq1).trans eqa, .inr ⟨_, _, _, rfl, rfl, upd_same⟩, by rw [List.length_append]; omega, ?_⟩
                rw [show s1 - s0 - (k + 1) = k' by omega]
                exact estp.symm
          · rcases hf with ⟨rfl, rfl⟩ | ⟨n, m, fa, rfl, rfl, hfa⟩
            · exact absurd (.inl rfl) hm
            · walk_at "go"
              refine r_small (by show 2 ≤ 1000; decide) fun q1 hq1 => ?_
              have eq1 : Ex H2 (upd H2 q1 (.tup [.int (b.n : Nat), .int (b.m : Nat)])) := Evl.Ex.new hq1
              walk_at "go"
              refine ne_pair upd_same (eq1 _ _ (e2 _ _ hfa)) ?_
              walk_at "go"
              refine ifNT (fun z => hm (.inr (by rw [z.1, z.2]))) ?_
              walk_at "go"
              exact kN (stp.trans (if_neg fun z => hm z.2.2)) _ ((e1.trans e2).trans eq1)
        · walk_at "go"
          exact kN (stp.trans (if_neg fun z => hi z.2.1)) _ (e1.trans e2)
      · walk_at "go"
        exact kN (stp.trans (if_neg fun z => hg z.1)) _ (e1.trans e2)
  · rintro σ H1 ⟨fo, f, t, v6, v7, rfl, e1, hf, ht, hr⟩
    rw [Nat.sub_self] at hr
    walk_at "go"
    exact kN hr.symm H1 e1
end

end U

set_option Elab.async false
set_option linter.all false
set_option maxRecDepth 100000
set_option maxHeartbeats 4000000
namespace U
open PySem PySem.Spec PyProof.Rows L2
/-! ### stepping: local words (walk_at "..": a word of the library's syntax, given a meaning of our own here) -/
local macro_rules | `(tactic| walk_at "ne") => `(tactic| first
  | assumption
  | exact Ne.symm (by assumption)
  | exact ne_of_none (by assumption) (by assumption)
  | exact (ne_of_none (by assumption) (by assumption)).symm
  | exact ne_of (by assumption) (by assumption) (by intro z; cases z)
  | exact (ne_of (by assumption) (by assumption) (by intro z; cases z)).symm)
local macro_rules | `(tactic| walk_at "hp") => `(tactic| first
  | assumption
  | exact upd_same
  | ((apply hp_ne); (focus (walk_at "ne")); (walk_at "hp"))
  | ((apply hp_ex); assumption; (walk_at "hp")))
local macro_rules | `(tactic| walk_at "sq") => `(tactic| first
  | assumption
  | ((apply Evl.sq_of); (walk_at "hp"))
  | ((apply Evl.st_of); (walk_at "hp"))
  | ((apply Evl.ex_l); assumption; (walk_at "sq"))
  | ((apply Evl.ex_t); assumption; (walk_at "sq")))
local macro_rules | `(tactic| walk_at "sz") => `(tactic| first | (simp only [List.length_cons, List.length_nil]; omega) | omega | decide)
local macro_rules | `(tactic| walk_at "ar") => `(tactic| first | omega | decide | assumption)
local macro_rules | `(tactic| walk_at "s1") => `(tactic| first
  | (with_reducible first
      | refine r_seq ?_ | refine r_asg ?_ | refine r_drop ?_ | refine r_ret ?_ | refine r_retN ?_ | refine r_if ?_ | refine r_next ?_ | refine r_brk ?_ | refine r_cont ?_ | refine r_sFld ?_ | refine r_raise ?_
      | refine r_op ?_ | refine r_cons ?_ | refine r_nil ?_ | refine r_c ?_ | refine r_cb ?_ | refine r_call ?_ | refine r_meth ?_ | refine r_make ?_ | refine r_fld ?_ | refine r_tup ?_ | refine r_lst ?_ | refine r_un ?_
      | refine r_name ?_ | refine r_gCons ?_ | refine r_gNil ?_ | refine r_gSub ?_ | refine r_test ?_ | refine r_B ?_ | refine r_tru ?_ | refine r_and ?_ | refine r_or ?_ | refine r_not ?_ | refine r_chain ?_
      | refine r_andV ?_ | refine r_orV ?_ | refine r_notV ?_ | refine r_if' ?_ | refine r_sl ?_ | refine r_noPart ?_ | refine r_part ?_ | refine r_bm ?_ | refine r_bm0 ?_ | refine r_m1 ?_
      | refine r_exI ?_ | refine r_exB ?_ | refine r_exS ?_
      | refine r_add ?_ | refine r_sub ?_ | refine r_lt ?_ | refine r_le ?_ | refine r_gt ?_ | refine r_ge ?_ | refine r_and2 ?_ | refine r_neg ?_
      | refine r_eqI ?_ | refine r_neI ?_ | refine r_eqS ?_ | refine r_neS ?_ | refine r_eqNI ?_ | refine r_isNN ?_ | refine r_isNI ?_ | refine r_isNR ?_ | refine r_notNN ?_ | refine r_notNI ?_ | refine r_notNR ?_
      | refine r_inS ?_ | refine r_notInS ?_ | refine r_truI ?_ | refine r_truB ?_ | refine r_truN ?_ | refine r_abs ?_ | refine r_max ?_ | refine r_min ?_ | refine r_int ?_ | refine r_intB ?_ | refine r_ord ?_ | refine r_find ?_
      | refine iteT ?_ | refine iteF ?_ | refine if_nf ?_ | refine if_nt ?_ | refine r_mkx ?_ | refine r_mkG ?_ | refine r_gS ?_
      | refine r_forL ?_ | refine r_forT ?_ | refine r_forS ?_ | refine r_forR1 ?_ | refine r_forR2 ?_ | refine r_lc ?_ | refine r_iL ?_ | refine r_iT ?_ | refine r_iS ?_ | refine r_iR1 ?_ | refine r_iR2 ?_ | refine r_iR3 ?_)
  | ((with_reducible apply r_var); (with_unfolding_all rfl))
  | ((with_reducible first | refine r_mod ?_ ?_ | refine r_mul ?_ ?_ | refine r_div ?_ ?_ | refine r_pow ?_ ?_); (first | omega | decide | exact ⟨by omega, by omega⟩ | exact ⟨by decide, by decide⟩ | exact .inr ⟨by omega, by omega⟩ | exact .inl ⟨by omega, by omega⟩ | exact .inr ⟨by decide, by decide⟩ | exact ⟨by decide, by decide, by decide⟩))
  | ((with_reducible first | apply r_tyL | apply r_ixL | apply r_ixT | apply r_lenL | apply r_lenT | apply r_truL | apply r_truT | apply r_gL | apply r_gT); (walk_at "sq"); (try (first | assumption | (exact atI_nat (by assumption)) | rfl)))
  | ((with_reducible first | apply r_gR1 | apply r_gR2 | apply r_addS | apply r_lenS | apply r_str | apply r_repS); (first | omega | decide | exact ⟨by omega, by omega⟩ | exact ⟨⟨by omega, by omega⟩, by omega, by omega⟩ | (exact Nat.le_trans (by assumption) (by decide)) | exact ⟨by omega, by omega, by decide +kernel⟩))
  | ((with_reducible refine ifT ?_ ?_); (walk_at "ar"))
  | ((with_reducible refine ifF ?_ ?_); (walk_at "ar"))
  | ((with_reducible refine ifNT ?_ ?_); (walk_at "ar"))
  | ((with_reducible refine ifNF ?_ ?_); (walk_at "ar")))
local macro_rules | `(tactic| walk_at "go") => `(tactic| repeat (walk_at "s1"))

local macro_rules | `(tactic| walk_at "cls") => `(tactic| (with_reducible first
  | apply g_Disk_size (by assumption)
  | apply w_Disk_size (by assumption)
  | apply g_Disk_blocks (by assumption)
  | apply w_Disk_blocks (by assumption)
  | apply g_Disk_queue (by assumption)
  | apply w_Disk_queue (by assumption)
  | apply g_Disk_left (by assumption)
  | apply w_Disk_left (by assumption)
  | apply g_Disk_down (by assumption)
  | apply w_Disk_down (by assumption)
  | apply g_Journal_disk (by assumption)
  | apply w_Journal_disk (by assumption)
  | apply g_Journal_area (by assumption)
  | apply w_Journal_area (by assumption)
  | apply g_Journal_first (by assumption)
  | apply w_Journal_first (by assumption)
  | apply g_Journal_next (by assumption)
  | apply w_Journal_next (by assumption)
  | apply g_Journal_generation (by assumption)
  | apply w_Journal_generation (by assumption)
  | apply g_Journal_number (by assumption)
  | apply w_Journal_number (by assumption)
  | apply g_Journal_image_number (by assumption)
  | apply w_Journal_image_number (by assumption)
  | apply g_Journal_image (by assumption)
  | apply w_Journal_image (by assumption)
  | apply g_Journal_kept (by assumption)
  | apply w_Journal_kept (by assumption)
  | apply mm_Disk_spend
  | apply mm_Disk_block
  | apply mm_Disk_write
  | apply mm_Disk_sync
  | apply mm_Disk_waiting
  | apply mm_Journal_area_of
  | apply mm_Journal_read_record
  | apply mm_Journal_empty_rest
  | apply mm_Journal_recover
  | apply mm_Journal_records
  | apply mm_Journal_has_room
  | apply mm_Journal_write_record
  | apply mm_Journal_checkpoint); walk_at "hp")
local macro_rules | `(tactic| walk_at "cls0") => `(tactic| (with_reducible first
  | apply w0_Disk_size (by assumption)
  | apply w0_Disk_blocks (by assumption)
  | apply w0_Disk_queue (by assumption)
  | apply w0_Disk_left (by assumption)
  | apply w0_Disk_down (by assumption)
  | apply w0_Journal_disk (by assumption)
  | apply w0_Journal_area (by assumption)
  | apply w0_Journal_first (by assumption)
  | apply w0_Journal_next (by assumption)
  | apply w0_Journal_generation (by assumption)
  | apply w0_Journal_number (by assumption)
  | apply w0_Journal_image_number (by assumption)
  | apply w0_Journal_image (by assumption)
  | apply w0_Journal_kept (by assumption)); walk_at "hp")
local macro_rules | `(tactic| walk_at "go") => `(tactic| repeat (first | walk_at "s1" | walk_at "cls"))

theorem wr_lost {d : DS} {i : Nat} {t : Str} (h : d.cnt.down = true) : wr d i t = (d.cnt, true) := if_pos h
theorem wr_done {d : DS} {i : Nat} {t : Str} (h : d.cnt.down = false) : wr d i t = (d.wrote i t, false) := if_neg (by rw [h]; exact Bool.false_ne_true)
theorem sy_lost {d : DS} (h : d.cnt.down = true) : sy d = (d.cnt, true) := if_pos h
theorem sy_done {d : DS} (h : d.cnt.down = false) : sy d = (d.synced, false) := if_neg (by rw [h]; exact Bool.false_ne_true)
theorem thn2_lost {r : DS × Bool} {f : DS → DS × Bool} (h : r.2 = true) : thn2 r f = r := if_pos h
theorem thn2_on {r : DS × Bool} {f : DS → DS × Bool} (h : r.2 = false) : thn2 r f = f r.1 := if_neg (by rw [h]; exact Bool.false_ne_true)
/-- behind a write that was done -/
theorem wr_keeps {d : DS} {i : Nat} {t : Str} (h : (wr d i t).2 = false) : (wr d i t).1.down = false ∧ (wr d i t).1.size = d.size ∧ (wr d i t).1.queue.length = d.queue.length + 1 := by
  cases hc : d.cnt.down with
  | true => rw [wr_lost hc] at h; cases h
  | false =>
    rw [wr_done hc]
    refine ⟨hc, cnt_size d, ?_⟩
    show (d.queue ++ _).length = _
    rw [List.length_append]
    rfl
theorem sy_keeps {d : DS} (h : (sy d).2 = false) : (sy d).1.down = false ∧ (sy d).1.size = d.size ∧ (sy d).1.queue = [] := by
  cases hc : d.cnt.down with
  | true => rw [sy_lost hc] at h; cases h
  | false =>
    rw [sy_done hc]
    exact ⟨hc, cnt_size d, rfl⟩
theorem wrs_step {d : DS} {i k : Nat} {ts : List Str} {t : Str} (h : ts[k]? = some t) : wrs d i (ts.drop k) = thn2 (wr d i t) fun d => wrs d (i + 1) (ts.drop (k + 1)) := by
  obtain ⟨hl, e⟩ := List.getElem?_eq_some_iff.mp h
  rw [List.drop_eq_getElem_cons hl, e]
  rfl
theorem isBlk_empty : isBlk "" = true := by decide +kernel
section
variable {K : PySem.W.Frag} {A : Adr}
theorem wr_sp {H : Hp} {Q : VK} {E : XK} {p lb lq : Addr} {d : DS} {i : Nat} {t : Str} (D : DAt A H p lb lq d) (hd : d.down = false) (hq : d.queue.length < 900000) (hi : i < d.size) (ht : isBlk t = true)
    (kL : (wr d i t).2 = true → ∀ H', DAt A H' p lb lq (wr d i t).1 → Kp [p, lq] H H' → E (.ref A.PowerLost) none H') (kD : (wr d i t).2 = false → ∀ H', DAt A H' p lb lq (wr d i t).1 → Kp [p, lq] H H' → Q .non H') : sp_Disk_write K A [.ref p, .int (i : Nat), .str t] H Q E := by
  have hl : t.length ≤ 64 := by
    unfold isBlk at ht
    rw [Bool.and_eq_true] at ht
    exact of_decide_eq_true ht.1
  refine ⟨p, lb, lq, d, (i : Nat), t, rfl, D, hq, by omega, fun z => bx z hd, fun _ z => absurd ⟨by omega, by omega, ht⟩ z, fun _ _ _ _ hc H' D' k' => ?_, fun _ _ _ _ hc H' D' k' => ?_⟩
  · rw [wr_lost hc] at kL
    exact kL rfl H' D' (kp_mono k' (by simp))
  · rw [wr_done hc] at kD
    exact kD rfl H' D' k'
theorem sy_sp {H : Hp} {Q : VK} {E : XK} {p lb lq : Addr} {d : DS} (D : DAt A H p lb lq d)
    (kL : (sy d).2 = true → ∀ H', DAt A H' p lb lq (sy d).1 → Kp [p, lb] H H' → E (.ref A.PowerLost) none H') (kD : (sy d).2 = false → ∀ lq' H', H lq' = none → DAt A H' p lb lq' (sy d).1 → Kp [p, lb] H H' → Q .non H') : sp_Disk_sync K A [.ref p] H Q E := by
  refine ⟨p, lb, lq, d, rfl, D, fun hc H' D' k' => ?_, fun hc lq' H' hl D' k' => ?_⟩
  · rw [sy_lost hc] at kL
    exact kL rfl H' D' (kp_mono k' (by simp))
  · rw [sy_done hc] at kD
    exact kD rfl lq' H' hl D' k'
theorem emp_none {d : DS} {k a : Nat} {f : Bool} (h : d.seen a = "") : emp d (k + 1) a f = emp d k (a + 1) f := by
  show (if d.seen a = "" then _ else _) = _
  rw [if_pos h]
theorem emp_lost {d : DS} {k a : Nat} {f : Bool} (h : ¬ d.seen a = "") (hl : (wr d a "").2 = true) : emp d (k + 1) a f = (wr d a "", true) := by
  show (if d.seen a = "" then _ else _) = _
  rw [if_neg h, if_pos hl]
theorem emp_done {d : DS} {k a : Nat} {f : Bool} (h : ¬ d.seen a = "") (hl : (wr d a "").2 = false) : emp d (k + 1) a f = emp (wr d a "").1 k (a + 1) true := by
  show (if d.seen a = "" then _ else _) = _
  rw [if_neg h, if_neg (by rw [hl]; exact Bool.false_ne_true)]
theorem ne_fresh {H H' : Hp} {fp : List Addr} {a : Addr} (k : Kp fp H H') (ha : H' a = none) (h : ∀ b ∈ fp, H' b ≠ none) : H a = none := by
  cases z : H a with
  | none => rfl
  | some o =>
    by_cases hm : a ∈ fp
    · exact absurd ha (h a hm)
    · rw [k a o z hm] at ha
      cases ha
theorem pure_Journal_empty_rest (T : TxtP K A) (vs : List V) (H : Hp) (Q : VK) (E : XK) (h : sp_Journal_empty_rest K A vs H Q E) : t_Journal_empty_rest K A (fun cls d _ H => E cls d H) { nx := fun _ H' => Q .non H', rt := Q } (start N_Journal_empty_rest vs) H := by
  obtain ⟨j, p, lb, lq, lk, x, d, rfl, G, hd, hnx, hql, kL, kD⟩ := h
  have hsz := G.D.ok.sz
  unfold t_Journal_empty_rest
  have hj0 := G.J.ob
  have hp0 := G.D.ob
  obtain ⟨jx, hj⟩ := hj0
  obtain ⟨dx, hp⟩ := hp0
  walk_at "go"
  rw [show ((d.size : Int) - (x.next : Int)).toNat = d.size - x.next by omega]
  refine f_range (fun i σ H' => ∃ d' f v2, σ = [some (.ref j), some (.bl f), v2] ∧ GAt A H' j p lb lq lk x d' ∧ Kp [p, lq] H H' ∧ d'.down = false ∧ d'.size = d.size ∧ d'.queue.length ≤ d.queue.length + i ∧ emp d (d.size - x.next) x.next false = emp d' (d.size - x.next - i) (x.next + i) f) ⟨d, false, _, rfl, G, fun _ _ h _ => h, hd, rfl, Nat.le_refl _, rfl⟩ ?_ ?_
  · rintro i σ H1 hi ⟨d', f, v2, rfl, G1, k1, hd1, hs1, hq1, he⟩
    obtain ⟨jx, hj⟩ := G1.J.ob
    obtain ⟨dx, hp⟩ := G1.D.ob
    obtain ⟨k', hk'⟩ : ∃ k', d.size - x.next - i = k' + 1 := ⟨d.size - x.next - i - 1, by omega⟩
    rw [hk'] at he
    walk_at "go"
    refine ⟨p, lb, lq, d', (x.next : Int) + (i : Int), rfl, G1.D, fun z => bx z hd1, fun _ z => absurd ⟨by omega, by omega⟩ z, fun _ _ _ => ?_⟩
    rw [show ((x.next : Int) + (i : Int)).toNat = x.next + i by omega]
    walk_at "go"
    refine ifN2 (fun hne => ?_) (fun hem => ?_)
    · walk_at "go"
      refine wr_sp (i := x.next + i) G1.D hd1 (by omega) (by omega) isBlk_empty (fun hl H2 D2 k2 => ?_) (fun hl H2 D2 k2 => ?_)
      · have e2 := he.trans (emp_lost hne hl)
        have eR : empR d x.next = wr d' (x.next + i) "" := by
          unfold empR
          rw [e2, thn2_lost hl]
        rw [eR] at kL
        exact kL hl lq H2 (G1.disk (fp := [p, lq]) (by simp) k2 D2 (.inl rfl)) (.inl rfl) (kp_mono (kp_trans k1 k2) (by simp))
      · have e2 := he.trans (emp_done hne hl)
        obtain ⟨w1, w2, w3⟩ := wr_keeps hl
        have G2 := G1.disk (fp := [p, lq]) (by simp) k2 D2 (.inl rfl)
        walk_at "go"
        exact ⟨_, true, _, rfl, G2, kp_trans k1 k2, w1, w2.trans hs1, by omega, by rw [e2, show d.size - x.next - (i + 1) = k' by omega]; rfl⟩
    · walk_at "go"
      exact ⟨d', f, _, rfl, G1, k1, hd1, hs1, by omega, by rw [he, emp_none hem, show d.size - x.next - (i + 1) = k' by omega]; rfl⟩
  · rintro σ H1 ⟨d', f, v2, rfl, G1, k1, hd1, hs1, hq1, he⟩
    obtain ⟨jx, hj⟩ := G1.J.ob
    obtain ⟨dx, hp⟩ := G1.D.ob
    rw [Nat.sub_self] at he
    have eR : empR d x.next = if f = true then sy d' else (d', false) := by
      unfold empR
      rw [he]
      exact thn2_on rfl
    rw [eR] at kL kD
    cases f with
    | true =>
      walk_at "go"
      rw [if_pos rfl] at kL kD
      refine sy_sp G1.D (fun hl H2 D2 k2 => ?_) (fun hl lq' H2 hn D2 k2 => ?_)
      · exact kL hl lq H2 (G1.disk (fp := [p, lb]) (by simp) k2 D2 (.inl rfl)) (.inl rfl) (kp_trans (kp_mono k1 (by simp)) (kp_mono k2 (by simp)))
      · have hf : H lq' = none := ne_fresh k1 hn (by
          obtain ⟨ps, hq, _⟩ := G1.D.qu
          intro b hb z
          simp only [List.mem_cons, List.not_mem_nil, or_false] at hb
          rcases hb with rfl | rfl
          · rw [hp] at z; cases z
          · rw [hq] at z; cases z)
        walk_at "go"
        exact kD hl lq' H2 (G1.disk (fp := [p, lb]) (by simp) k2 D2 (.inr hn)) (.inr hf) (kp_trans (kp_mono k1 (by simp)) (kp_mono k2 (by simp)))
    | false =>
      walk_at "go"
      rw [if_neg Bool.false_ne_true] at kD
      exact kD rfl lq H1 G1 (.inl rfl) (kp_mono k1 (by simp))
end

end U

set_option Elab.async false
set_option linter.all false
set_option maxRecDepth 100000
set_option maxHeartbeats 4000000
namespace U
open PySem PySem.Spec PyProof.Rows L2
/-! ### stepping: local words (walk_at "..": a word of the library's syntax, given a meaning of our own here) -/
local macro_rules | `(tactic| walk_at "ne") => `(tactic| first
  | assumption
  | exact Ne.symm (by assumption)
  | exact ne_of_none (by assumption) (by assumption)
  | exact (ne_of_none (by assumption) (by assumption)).symm
  | exact ne_of (by assumption) (by assumption) (by intro z; cases z)
  | exact (ne_of (by assumption) (by assumption) (by intro z; cases z)).symm)
local macro_rules | `(tactic| walk_at "hp") => `(tactic| first
  | assumption
  | exact upd_same
  | ((apply hp_ne); (focus (walk_at "ne")); (walk_at "hp"))
  | ((apply hp_ex); assumption; (walk_at "hp")))
local macro_rules | `(tactic| walk_at "sq") => `(tactic| first
  | assumption
  | ((apply Evl.sq_of); (walk_at "hp"))
  | ((apply Evl.st_of); (walk_at "hp"))
  | ((apply Evl.ex_l); assumption; (walk_at "sq"))
  | ((apply Evl.ex_t); assumption; (walk_at "sq")))
local macro_rules | `(tactic| walk_at "sz") => `(tactic| first | (simp only [List.length_cons, List.length_nil]; omega) | omega | decide)
local macro_rules | `(tactic| walk_at "ar") => `(tactic| first | omega | decide | assumption)
local macro_rules | `(tactic| walk_at "s1") => `(tactic| first
  | (with_reducible first
      | refine r_seq ?_ | refine r_asg ?_ | refine r_drop ?_ | refine r_ret ?_ | refine r_retN ?_ | refine r_if ?_ | refine r_next ?_ | refine r_brk ?_ | refine r_cont ?_ | refine r_sFld ?_ | refine r_raise ?_
      | refine r_op ?_ | refine r_cons ?_ | refine r_nil ?_ | refine r_c ?_ | refine r_cb ?_ | refine r_call ?_ | refine r_meth ?_ | refine r_make ?_ | refine r_fld ?_ | refine r_tup ?_ | refine r_lst ?_ | refine r_un ?_
      | refine r_name ?_ | refine r_gCons ?_ | refine r_gNil ?_ | refine r_gSub ?_ | refine r_test ?_ | refine r_B ?_ | refine r_tru ?_ | refine r_and ?_ | refine r_or ?_ | refine r_not ?_ | refine r_chain ?_
      | refine r_andV ?_ | refine r_orV ?_ | refine r_notV ?_ | refine r_if' ?_ | refine r_sl ?_ | refine r_noPart ?_ | refine r_part ?_ | refine r_bm ?_ | refine r_bm0 ?_ | refine r_m1 ?_
      | refine r_exI ?_ | refine r_exB ?_ | refine r_exS ?_
      | refine r_add ?_ | refine r_sub ?_ | refine r_lt ?_ | refine r_le ?_ | refine r_gt ?_ | refine r_ge ?_ | refine r_and2 ?_ | refine r_neg ?_
      | refine r_eqI ?_ | refine r_neI ?_ | refine r_eqS ?_ | refine r_neS ?_ | refine r_eqNI ?_ | refine r_isNN ?_ | refine r_isNI ?_ | refine r_isNR ?_ | refine r_notNN ?_ | refine r_notNI ?_ | refine r_notNR ?_
      | refine r_inS ?_ | refine r_notInS ?_ | refine r_truI ?_ | refine r_truB ?_ | refine r_truN ?_ | refine r_abs ?_ | refine r_max ?_ | refine r_min ?_ | refine r_int ?_ | refine r_intB ?_ | refine r_ord ?_ | refine r_find ?_
      | refine iteT ?_ | refine iteF ?_ | refine if_nf ?_ | refine if_nt ?_ | refine r_mkx ?_ | refine r_mkG ?_ | refine r_gS ?_
      | refine r_forL ?_ | refine r_forT ?_ | refine r_forS ?_ | refine r_forR1 ?_ | refine r_forR2 ?_ | refine r_lc ?_ | refine r_iL ?_ | refine r_iT ?_ | refine r_iS ?_ | refine r_iR1 ?_ | refine r_iR2 ?_ | refine r_iR3 ?_)
  | ((with_reducible apply r_var); (with_unfolding_all rfl))
  | ((with_reducible first | refine r_mod ?_ ?_ | refine r_mul ?_ ?_ | refine r_div ?_ ?_ | refine r_pow ?_ ?_); (first | omega | decide | exact ⟨by omega, by omega⟩ | exact ⟨by decide, by decide⟩ | exact .inr ⟨by omega, by omega⟩ | exact .inl ⟨by omega, by omega⟩ | exact .inr ⟨by decide, by decide⟩ | exact ⟨by decide, by decide, by decide⟩))
  | ((with_reducible first | apply r_tyL | apply r_ixL | apply r_ixT | apply r_lenL | apply r_lenT | apply r_truL | apply r_truT | apply r_gL | apply r_gT); (walk_at "sq"); (try (first | assumption | (exact atI_nat (by assumption)) | rfl)))
  | ((with_reducible first | apply r_gR1 | apply r_gR2 | apply r_addS | apply r_lenS | apply r_str | apply r_repS); (first | omega | decide | exact ⟨by omega, by omega⟩ | exact ⟨⟨by omega, by omega⟩, by omega, by omega⟩ | (exact Nat.le_trans (by assumption) (by decide)) | exact ⟨by omega, by omega, by decide +kernel⟩))
  | ((with_reducible refine ifT ?_ ?_); (walk_at "ar"))
  | ((with_reducible refine ifF ?_ ?_); (walk_at "ar"))
  | ((with_reducible refine ifNT ?_ ?_); (walk_at "ar"))
  | ((with_reducible refine ifNF ?_ ?_); (walk_at "ar")))
local macro_rules | `(tactic| walk_at "go") => `(tactic| repeat (walk_at "s1"))

local macro_rules | `(tactic| walk_at "cls") => `(tactic| (with_reducible first
  | apply g_Disk_size (by assumption)
  | apply w_Disk_size (by assumption)
  | apply g_Disk_blocks (by assumption)
  | apply w_Disk_blocks (by assumption)
  | apply g_Disk_queue (by assumption)
  | apply w_Disk_queue (by assumption)
  | apply g_Disk_left (by assumption)
  | apply w_Disk_left (by assumption)
  | apply g_Disk_down (by assumption)
  | apply w_Disk_down (by assumption)
  | apply g_Journal_disk (by assumption)
  | apply w_Journal_disk (by assumption)
  | apply g_Journal_area (by assumption)
  | apply w_Journal_area (by assumption)
  | apply g_Journal_first (by assumption)
  | apply w_Journal_first (by assumption)
  | apply g_Journal_next (by assumption)
  | apply w_Journal_next (by assumption)
  | apply g_Journal_generation (by assumption)
  | apply w_Journal_generation (by assumption)
  | apply g_Journal_number (by assumption)
  | apply w_Journal_number (by assumption)
  | apply g_Journal_image_number (by assumption)
  | apply w_Journal_image_number (by assumption)
  | apply g_Journal_image (by assumption)
  | apply w_Journal_image (by assumption)
  | apply g_Journal_kept (by assumption)
  | apply w_Journal_kept (by assumption)
  | apply mm_Disk_spend
  | apply mm_Disk_block
  | apply mm_Disk_write
  | apply mm_Disk_sync
  | apply mm_Disk_waiting
  | apply mm_Journal_area_of
  | apply mm_Journal_read_record
  | apply mm_Journal_empty_rest
  | apply mm_Journal_recover
  | apply mm_Journal_records
  | apply mm_Journal_has_room
  | apply mm_Journal_write_record
  | apply mm_Journal_checkpoint); walk_at "hp")
local macro_rules | `(tactic| walk_at "cls0") => `(tactic| (with_reducible first
  | apply w0_Disk_size (by assumption)
  | apply w0_Disk_blocks (by assumption)
  | apply w0_Disk_queue (by assumption)
  | apply w0_Disk_left (by assumption)
  | apply w0_Disk_down (by assumption)
  | apply w0_Journal_disk (by assumption)
  | apply w0_Journal_area (by assumption)
  | apply w0_Journal_first (by assumption)
  | apply w0_Journal_next (by assumption)
  | apply w0_Journal_generation (by assumption)
  | apply w0_Journal_number (by assumption)
  | apply w0_Journal_image_number (by assumption)
  | apply w0_Journal_image (by assumption)
  | apply w0_Journal_kept (by assumption)); walk_at "hp")
local macro_rules | `(tactic| walk_at "go") => `(tactic| repeat (first | walk_at "s1" | walk_at "cls"))

section
variable {K : PySem.W.Frag} {A : Adr}
theorem list_map_len {α : Type} (f : α → V) (l : List α) : (l.map f).length = l.length := List.length_map ..
theorem pure_Journal_has_room (T : TxtP K A) (vs : List V) (H : Hp) (Q : VK) (E : XK) (h : sp_Journal_has_room K A vs H Q E) : t_Journal_has_room K A (fun cls d _ H => E cls d H) { nx := fun _ H' => Q .non H', rt := Q } (start N_Journal_has_room vs) H := by
  obtain ⟨j, p, lb, lq, lk, x, d, t, rfl, G, ⟨hg, hn⟩, hl, kQ⟩ := h
  obtain ⟨jx, hj⟩ := G.J.ob
  obtain ⟨dx, hp⟩ := G.D.ob
  unfold t_Journal_has_room
  walk_at "go"
  refine ⟨x.gen, x.num + 1, t, rfl, by omega, by omega, hl, fun r H1 e1 hr hr1 => ?_⟩
  have hj1 := e1 _ _ hj
  have hp1 := e1 _ _ hp
  walk_at "go"
  rw [list_map_len, bks_len]
  have e : decide ((x.next : Int) + ((pcs t.cps.toList : Nat) : Int) ≤ (d.size : Int)) = decide (x.next + pcs t.cps.toList ≤ d.size) := by
    rw [Bool.eq_iff_iff]
    simp
    omega
  rw [e]
  exact kQ H1 e1
/-- the object's fields are changed -/
theorem JAt.put {H : Hp} {j p lk jx : Addr} {x x' : JS} {o : HO} (h : JAt A H j p lk x) (hl : lk ≠ j) (hnt : ∀ xs, H j ≠ some (.tup xs)) (ho : o = oJournal A jx (.ref p) (.int (x'.area : Nat)) (.int (x'.first : Nat)) (.int (x'.next : Nat)) (.int (x'.gen : Nat)) (.int (x'.num : Nat)) (.int (x'.inum : Nat)) (.str x'.image) (.ref lk)) (hk : x'.kept = x.kept) : JAt A (upd H j o) j p lk x' := by
  obtain ⟨_, ⟨ps, h2, h3⟩⟩ := h
  refine ⟨⟨jx, by rw [ho]; exact upd_same⟩, ⟨ps, by rw [upd_ne hl]; exact h2, ?_⟩⟩
  rw [hk]
  exact tups_kp h3 fun b xs z => by
    by_cases hb : b = j
    · subst hb
      exact absurd z (hnt xs)
    · rw [upd_ne hb]
      exact z
theorem GAt.put {H : Hp} {j p lb lq lk jx : Addr} {x x' : JS} {d : DS} {o : HO} (G : GAt A H j p lb lq lk x d) (ho : o = oJournal A jx (.ref p) (.int (x'.area : Nat)) (.int (x'.first : Nat)) (.int (x'.next : Nat)) (.int (x'.gen : Nat)) (.int (x'.num : Nat)) (.int (x'.inum : Nat)) (.str x'.image) (.ref lk)) (hk : x'.kept = x.kept) : GAt A (upd H j o) j p lb lq lk x' d := by
  obtain ⟨J, D, nd⟩ := G
  obtain ⟨jx0, hj⟩ := J.ob
  have hnt : ∀ xs, H j ≠ some (.tup xs) := fun xs z => by rw [hj] at z; cases z
  have nd' := nd
  simp only [List.nodup_cons, List.mem_cons, List.not_mem_nil, not_or, or_false, not_false_eq_true, and_true, List.nodup_nil] at nd
  obtain ⟨⟨a1, a2, a3, a4⟩, ⟨b1, b2, b3⟩, ⟨c1, c2⟩, d1⟩ := nd
  refine ⟨J.put (fun z => a4 z.symm) hnt ho hk, D.kp (fp := [j]) kp_upd (by simpa using fun z : p = j => a1 z.symm) (by simpa using fun z : lb = j => a2 z.symm) (by simpa using fun z : lq = j => a3 z.symm) (fun b hb xs => ?_), nd'⟩
  rw [List.mem_singleton.mp hb]
  exact hnt xs
/-- a record is kept -/
theorem GAt.keep {H : Hp} {j p lb lq lk a : Addr} {x : JS} {d : DS} {ps : List Addr} {e : Nat × Str} (G : GAt A H j p lb lq lk x d) (hk : H lk = some (.lst (ps.map V.ref))) (ht : Tups H ps x.kept) (ha : H a = none) :
    GAt A (upd (upd H a (.tup [.int (e.1 : Nat), .str e.2])) lk (.lst ((ps ++ [a]).map V.ref))) j p lb lq lk { x with kept := x.kept ++ [e] } d := by
  have ea : Ex H (upd H a (.tup [.int (e.1 : Nat), .str e.2])) := Evl.Ex.new ha
  have G1 := G.ex ea
  obtain ⟨J, D, nd⟩ := G1
  obtain ⟨jx, hj⟩ := J.ob
  have hk1 := ea _ _ hk
  have hnt : ∀ xs, upd H a (.tup [.int (e.1 : Nat), .str e.2]) lk ≠ some (.tup xs) := fun xs z => by rw [hk1] at z; cases z
  have kt : ∀ b xs, upd H a (.tup [.int (e.1 : Nat), .str e.2]) b = some (.tup xs) → upd (upd H a (.tup [.int (e.1 : Nat), .str e.2])) lk (.lst ((ps ++ [a]).map V.ref)) b = some (.tup xs) := fun b xs z => by
    by_cases hb : b = lk
    · subst hb
      exact absurd z (hnt xs)
    · rw [upd_ne hb]
      exact z
  have nd' := nd
  simp only [List.nodup_cons, List.mem_cons, List.not_mem_nil, not_or, or_false, not_false_eq_true, and_true, List.nodup_nil] at nd
  obtain ⟨⟨a1, a2, a3, a4⟩, ⟨b1, b2, b3⟩, ⟨c1, c2⟩, d1⟩ := nd
  refine ⟨⟨⟨jx, by rw [upd_ne a4]; exact hj⟩, ⟨ps ++ [a], upd_same, tups_app (tups_kp ht fun b xs z => kt _ _ (ea _ _ z)) (kt _ _ upd_same)⟩⟩, D.kp (fp := [lk]) kp_upd (by simpa using b3) (by simpa using c2) (by simpa using d1) (fun b hb xs => ?_), nd'⟩
  rw [List.mem_singleton.mp hb]
  exact hnt xs
theorem pure_Journal_write_record (T : TxtP K A) (vs : List V) (H : Hp) (Q : VK) (E : XK) (h : sp_Journal_write_record K A vs H Q E) : t_Journal_write_record K A (fun cls d _ H => E cls d H) { nx := fun _ H' => Q .non H', rt := Q } (start N_Journal_write_record vs) H := by
  obtain ⟨j, p, lb, lq, lk, x, d, t, rfl, G, ⟨hg, hn⟩, ⟨htl, htc⟩, hd, hql, hkl, kF, kL, kD⟩ := h
  obtain ⟨jx, hj⟩ := G.J.ob
  unfold t_Journal_write_record
  walk_at "go"
  refine ⟨j, p, lb, lq, lk, x, d, t, rfl, G, ⟨hg, hn⟩, by omega, fun H1 e1 => ?_⟩
  have G1 := G.ex e1
  obtain ⟨jx, hj1⟩ := G1.J.ob
  walk_at "go"
  refine ifN2 (fun hr => ?_) (fun hr => ?_)
  · walk_at "go"
    exact kF hr H1 e1
  walk_at "go"
  refine ⟨x.gen, x.num + 1, t, rfl, by omega, by omega, by omega, fun bl H2 e2 hb hb1 => ?_⟩
  have G2 := G1.ex e2
  have kL := kL hr
  have kD := kD hr
  obtain ⟨bs, hbs⟩ : ∃ bs, bs = bks x.gen (x.num + 1) t.cps.toList := ⟨_, rfl⟩
  rw [← hbs] at kL kD hb1
  have hbl : bs.length = pcs t.cps.toList := by rw [hbs, bks_len]
  have hbok : ∀ b ∈ bs, b.Ok := fun b hb => by
    rw [hbs] at hb
    exact bks_ok (by omega) (by omega) (by have : t.cps.toList.length = t.length := (TL.len_tl t).symm; omega) htc hb
  have hsz := G.D.ok.sz
  obtain ⟨jx2, hj2⟩ := G2.J.ob
  obtain ⟨dx2, hp2⟩ := G2.D.ob
  obtain ⟨qs2, hq2, _⟩ := G2.D.qu
  obtain ⟨dx1, hp1⟩ := G1.D.ob
  obtain ⟨qs1, hq1, _⟩ := G1.D.qu
  have nbp : bl ≠ p := (ne_of_none hp1 hb).symm
  have nbq : bl ≠ lq := (ne_of_none hq1 hb).symm
  walk_at "go"
  rw [list_map_len]
  walk_at "go"
  refine f_range (n := ((bs.length : Nat) : Int).toNat) (fun k σ H' => ∃ d' v3, σ = [some (.ref j), some (.str t), some (.ref bl), v3] ∧ GAt A H' j p lb lq lk x d' ∧ Kp [p, lq] H2 H' ∧ H' bl = some (.lst (bs.map fun b => V.str b.txt)) ∧ d'.down = false ∧ d'.size = d.size ∧ d'.queue.length ≤ d.queue.length + k ∧ wrs d x.next (bs.map Bk.txt) = wrs d' (x.next + k) ((bs.map Bk.txt).drop k)) ⟨d, _, rfl, G2, fun _ _ h _ => h, hb1, hd, rfl, Nat.le_refl _, rfl⟩ ?_ ?_
  · rintro k σ H3 hk ⟨d', v3, rfl, G3, k3, hb3, hd3, hs3, hq3, hw⟩
    obtain ⟨jx3, hj3⟩ := G3.J.ob
    obtain ⟨dx3, hp3⟩ := G3.D.ob
    have hk' : k < bs.length := by omega
    obtain ⟨b, hbk⟩ : ∃ b, bs[k]? = some b := ⟨bs[k], List.getElem?_eq_getElem hk'⟩
    have hv : (bs.map fun b => V.str b.txt)[k]? = some (.str b.txt) := by rw [List.getElem?_map, hbk]; rfl
    have ht : (bs.map Bk.txt)[k]? = some b.txt := by rw [List.getElem?_map, hbk]; rfl
    rw [wrs_step ht] at hw
    walk_at "go"
    · rw [Int.zero_add]
      exact atI_nat hv
    · rw [show (x.next : Int) + (0 + (k : Int)) = ((x.next + k : Nat) : Int) by omega]
      walk_at "go"
      refine wr_sp (i := x.next + k) G3.D hd3 (by omega) (by omega) (hbok b (List.mem_of_getElem? hbk)).blk (fun hl H4 D4 k4 => ?_) (fun hl H4 D4 k4 => ?_)
      · rw [thn2_lost hl] at hw
        have eR : recW d x.next bs = wr d' (x.next + k) b.txt := by
          unfold recW
          rw [hw, thn2_lost hl]
        rw [eR] at kL
        exact kL hl lq H4 (G3.disk (fp := [p, lq]) (by simp) k4 D4 (.inl rfl)) (.inl rfl) (kp_trans (kp_ex (e1.trans e2)) (kp_mono (kp_trans k3 k4) (by simp)))
      · rw [thn2_on hl] at hw
        obtain ⟨w1, w2, w3⟩ := wr_keeps hl
        walk_at "go"
        exact ⟨_, _, rfl, G3.disk (fp := [p, lq]) (by simp) k4 D4 (.inl rfl), kp_trans k3 k4, k4 _ _ hb3 (by simp [nbp, nbq]), w1, w2.trans hs3, by omega, hw⟩
  · rintro σ H3 ⟨d', v3, rfl, G3, k3, hb3, hd3, hs3, hq3, hw⟩
    obtain ⟨jx3, hj3⟩ := G3.J.ob
    obtain ⟨dx3, hp3⟩ := G3.D.ob
    rw [Int.toNat_natCast, List.drop_of_length_le (by rw [List.length_map]; exact Nat.le_refl _)] at hw
    have eR : recW d x.next bs = sy d' := by
      unfold recW
      rw [hw]
      exact thn2_on rfl
    rw [eR] at kL kD
    walk_at "go"
    refine sy_sp G3.D (fun hl H4 D4 k4 => ?_) (fun hl lq' H4 hn4 D4 k4 => ?_)
    · exact kL hl lq H4 (G3.disk (fp := [p, lb]) (by simp) k4 D4 (.inl rfl)) (.inl rfl) (kp_trans (kp_ex (e1.trans e2)) (kp_trans (kp_mono k3 (by simp)) (kp_mono k4 (by simp))))
    · have hf : H lq' = none := by
        have h2 : H2 lq' = none := ne_fresh k3 hn4 (by
          obtain ⟨ps, hq, _⟩ := G3.D.qu
          intro b hb z
          simp only [List.mem_cons, List.not_mem_nil, or_false] at hb
          rcases hb with rfl | rfl
          · rw [hp3] at z; cases z
          · rw [hq] at z; cases z)
        cases z : H lq' with
        | none => rfl
        | some o => rw [(e1.trans e2) _ _ z] at h2; cases h2
      have G4 := G3.disk (fp := [p, lb]) (by simp) k4 D4 (.inr hn4)
      have kk : Kp [j, p, lb, lq, lk] H H4 := kp_trans (kp_ex (e1.trans e2)) (kp_trans (kp_mono k3 (by simp)) (kp_mono k4 (by simp)))
      obtain ⟨lx3, hlb3⟩ : ∃ xs, H3 lb = some (.lst xs) := ⟨_, G3.D.bl⟩
      have nbb : bl ≠ lb := (ne_of_none G1.D.bl hb).symm
      have hb4 : H4 bl = some (.lst (bs.map fun b => V.str b.txt)) := k4 _ _ hb3 (by simp [nbp, nbb])
      obtain ⟨jx4, hj4⟩ := G4.J.ob
      walk_at "go"
      rw [list_map_len, hbl]
      have G5 := GAt.put (x' := { x with next := x.next + pcs t.cps.toList }) (jx := jx4) G4 (o := oJournal A jx4 (.ref p) (.int (x.area : Nat)) (.int (x.first : Nat)) (.int ((x.next : Int) + ((pcs t.cps.toList : Nat) : Int))) (.int (x.gen : Nat)) (.int (x.num : Nat)) (.int (x.inum : Nat)) (.str x.image) (.ref lk)) rfl rfl
      have G6 := GAt.put (x' := { x with next := x.next + pcs t.cps.toList, num := x.num + 1 }) (jx := jx4) G5 (o := oJournal A jx4 (.ref p) (.int (x.area : Nat)) (.int (x.first : Nat)) (.int ((x.next : Int) + ((pcs t.cps.toList : Nat) : Int))) (.int (x.gen : Nat)) (.int ((x.num : Int) + 1)) (.int (x.inum : Nat)) (.str x.image) (.ref lk)) rfl rfl
      obtain ⟨ps, hk6, ht6⟩ := G6.J.kt
      walk_at "go"
      refine r_small (by show 2 ≤ 1000; decide) fun a ha => ?_
      have ea : Ex _ (upd _ a (.tup [.int ((x.num : Int) + 1), .str t])) := Evl.Ex.new ha
      have hpl : ps.length = x.kept.length := tups_len ht6
      walk_at "go"
      refine r_append (ea _ _ hk6) (by rw [List.length_map]; exact Nat.lt_of_le_of_lt (show ps.length ≤ 900000 by omega) (by decide)) ?_
      walk_at "go"
      have G7 := G6.keep (e := (x.num + 1, t)) hk6 ht6 ha
      rw [show ps.map V.ref ++ [V.ref a] = (ps ++ [a]).map V.ref by rw [List.map_append]; rfl]
      refine kD hl lq' _ G7 (.inr hf) fun b o hb hno => ?_
      have h4 := kk b o hb hno
      simp only [List.mem_cons, List.not_mem_nil, not_or, or_false] at hno
      rw [upd_ne hno.2.2.2.2]
      refine ea _ _ ?_
      rw [upd_ne hno.1, upd_ne hno.1]
      exact h4
end

end U

set_option Elab.async false
set_option linter.all false
set_option maxRecDepth 100000
set_option maxHeartbeats 4000000
namespace U
open PySem PySem.Spec PyProof.Rows L2
/-! ### stepping: local words (walk_at "..": a word of the library's syntax, given a meaning of our own here) -/
local macro_rules | `(tactic| walk_at "ne") => `(tactic| first
  | assumption
  | exact Ne.symm (by assumption)
  | exact ne_of_none (by assumption) (by assumption)
  | exact (ne_of_none (by assumption) (by assumption)).symm
  | exact ne_of (by assumption) (by assumption) (by intro z; cases z)
  | exact (ne_of (by assumption) (by assumption) (by intro z; cases z)).symm)
local macro_rules | `(tactic| walk_at "hp") => `(tactic| first
  | assumption
  | exact upd_same
  | ((apply hp_ne); (focus (walk_at "ne")); (walk_at "hp"))
  | ((apply hp_ex); assumption; (walk_at "hp")))
local macro_rules | `(tactic| walk_at "sq") => `(tactic| first
  | assumption
  | ((apply Evl.sq_of); (walk_at "hp"))
  | ((apply Evl.st_of); (walk_at "hp"))
  | ((apply Evl.ex_l); assumption; (walk_at "sq"))
  | ((apply Evl.ex_t); assumption; (walk_at "sq")))
local macro_rules | `(tactic| walk_at "sz") => `(tactic| first | (simp only [List.length_cons, List.length_nil]; omega) | omega | decide)
local macro_rules | `(tactic| walk_at "ar") => `(tactic| first | omega | decide | assumption)
local macro_rules | `(tactic| walk_at "s1") => `(tactic| first
  | (with_reducible first
      | refine r_seq ?_ | refine r_asg ?_ | refine r_drop ?_ | refine r_ret ?_ | refine r_retN ?_ | refine r_if ?_ | refine r_next ?_ | refine r_brk ?_ | refine r_cont ?_ | refine r_sFld ?_ | refine r_raise ?_
      | refine r_op ?_ | refine r_cons ?_ | refine r_nil ?_ | refine r_c ?_ | refine r_cb ?_ | refine r_call ?_ | refine r_meth ?_ | refine r_make ?_ | refine r_fld ?_ | refine r_tup ?_ | refine r_lst ?_ | refine r_un ?_
      | refine r_name ?_ | refine r_gCons ?_ | refine r_gNil ?_ | refine r_gSub ?_ | refine r_test ?_ | refine r_B ?_ | refine r_tru ?_ | refine r_and ?_ | refine r_or ?_ | refine r_not ?_ | refine r_chain ?_
      | refine r_andV ?_ | refine r_orV ?_ | refine r_notV ?_ | refine r_if' ?_ | refine r_sl ?_ | refine r_noPart ?_ | refine r_part ?_ | refine r_bm ?_ | refine r_bm0 ?_ | refine r_m1 ?_
      | refine r_exI ?_ | refine r_exB ?_ | refine r_exS ?_
      | refine r_add ?_ | refine r_sub ?_ | refine r_lt ?_ | refine r_le ?_ | refine r_gt ?_ | refine r_ge ?_ | refine r_and2 ?_ | refine r_neg ?_
      | refine r_eqI ?_ | refine r_neI ?_ | refine r_eqS ?_ | refine r_neS ?_ | refine r_eqNI ?_ | refine r_isNN ?_ | refine r_isNI ?_ | refine r_isNR ?_ | refine r_notNN ?_ | refine r_notNI ?_ | refine r_notNR ?_
      | refine r_inS ?_ | refine r_notInS ?_ | refine r_truI ?_ | refine r_truB ?_ | refine r_truN ?_ | refine r_abs ?_ | refine r_max ?_ | refine r_min ?_ | refine r_int ?_ | refine r_intB ?_ | refine r_ord ?_ | refine r_find ?_
      | refine iteT ?_ | refine iteF ?_ | refine if_nf ?_ | refine if_nt ?_ | refine r_mkx ?_ | refine r_mkG ?_ | refine r_gS ?_
      | refine r_forL ?_ | refine r_forT ?_ | refine r_forS ?_ | refine r_forR1 ?_ | refine r_forR2 ?_ | refine r_lc ?_ | refine r_iL ?_ | refine r_iT ?_ | refine r_iS ?_ | refine r_iR1 ?_ | refine r_iR2 ?_ | refine r_iR3 ?_)
  | ((with_reducible apply r_var); (with_unfolding_all rfl))
  | ((with_reducible first | refine r_mod ?_ ?_ | refine r_mul ?_ ?_ | refine r_div ?_ ?_ | refine r_pow ?_ ?_); (first | omega | decide | exact ⟨by omega, by omega⟩ | exact ⟨by decide, by decide⟩ | exact .inr ⟨by omega, by omega⟩ | exact .inl ⟨by omega, by omega⟩ | exact .inr ⟨by decide, by decide⟩ | exact ⟨by decide, by decide, by decide⟩))
  | ((with_reducible first | apply r_tyL | apply r_ixL | apply r_ixT | apply r_lenL | apply r_lenT | apply r_truL | apply r_truT | apply r_gL | apply r_gT); (walk_at "sq"); (try (first | assumption | (exact atI_nat (by assumption)) | rfl)))
  | ((with_reducible first | apply r_gR1 | apply r_gR2 | apply r_addS | apply r_lenS | apply r_str | apply r_repS); (first | omega | decide | exact ⟨by omega, by omega⟩ | exact ⟨⟨by omega, by omega⟩, by omega, by omega⟩ | (exact Nat.le_trans (by assumption) (by decide)) | exact ⟨by omega, by omega, by decide +kernel⟩))
  | ((with_reducible refine ifT ?_ ?_); (walk_at "ar"))
  | ((with_reducible refine ifF ?_ ?_); (walk_at "ar"))
  | ((with_reducible refine ifNT ?_ ?_); (walk_at "ar"))
  | ((with_reducible refine ifNF ?_ ?_); (walk_at "ar")))
local macro_rules | `(tactic| walk_at "go") => `(tactic| repeat (walk_at "s1"))

local macro_rules | `(tactic| walk_at "cls") => `(tactic| (with_reducible first
  | apply g_Disk_size (by assumption)
  | apply w_Disk_size (by assumption)
  | apply g_Disk_blocks (by assumption)
  | apply w_Disk_blocks (by assumption)
  | apply g_Disk_queue (by assumption)
  | apply w_Disk_queue (by assumption)
  | apply g_Disk_left (by assumption)
  | apply w_Disk_left (by assumption)
  | apply g_Disk_down (by assumption)
  | apply w_Disk_down (by assumption)
  | apply g_Journal_disk (by assumption)
  | apply w_Journal_disk (by assumption)
  | apply g_Journal_area (by assumption)
  | apply w_Journal_area (by assumption)
  | apply g_Journal_first (by assumption)
  | apply w_Journal_first (by assumption)
  | apply g_Journal_next (by assumption)
  | apply w_Journal_next (by assumption)
  | apply g_Journal_generation (by assumption)
  | apply w_Journal_generation (by assumption)
  | apply g_Journal_number (by assumption)
  | apply w_Journal_number (by assumption)
  | apply g_Journal_image_number (by assumption)
  | apply w_Journal_image_number (by assumption)
  | apply g_Journal_image (by assumption)
  | apply w_Journal_image (by assumption)
  | apply g_Journal_kept (by assumption)
  | apply w_Journal_kept (by assumption)
  | apply mm_Disk_spend
  | apply mm_Disk_block
  | apply mm_Disk_write
  | apply mm_Disk_sync
  | apply mm_Disk_waiting
  | apply mm_Journal_area_of
  | apply mm_Journal_read_record
  | apply mm_Journal_empty_rest
  | apply mm_Journal_recover
  | apply mm_Journal_records
  | apply mm_Journal_has_room
  | apply mm_Journal_write_record
  | apply mm_Journal_checkpoint); walk_at "hp")
local macro_rules | `(tactic| walk_at "cls0") => `(tactic| (with_reducible first
  | apply w0_Disk_size (by assumption)
  | apply w0_Disk_blocks (by assumption)
  | apply w0_Disk_queue (by assumption)
  | apply w0_Disk_left (by assumption)
  | apply w0_Disk_down (by assumption)
  | apply w0_Journal_disk (by assumption)
  | apply w0_Journal_area (by assumption)
  | apply w0_Journal_first (by assumption)
  | apply w0_Journal_next (by assumption)
  | apply w0_Journal_generation (by assumption)
  | apply w0_Journal_number (by assumption)
  | apply w0_Journal_image_number (by assumption)
  | apply w0_Journal_image (by assumption)
  | apply w0_Journal_kept (by assumption)); walk_at "hp")
local macro_rules | `(tactic| walk_at "go") => `(tactic| repeat (first | walk_at "s1" | walk_at "cls"))

theorem root_Sx : ("root " : Str) = Sx [114, 111, 111, 116, 32] := by decide +kernel
theorem rootT_Sx (g : Nat) : rootT g = Sx ([114, 111, 111, 116, 32] ++ TL.numL g) := by
  unfold rootT
  rw [root_Sx, Sx_cat]
theorem rootT_blk {g : Nat} (h : g < 1000000) : isBlk (rootT g) = true := by
  rw [rootT_Sx]
  unfold isBlk
  rw [Bool.and_eq_true]
  refine ⟨decide_eq_true ?_, ?_⟩
  · rw [Sx_len, List.length_append]
    have := numL_len6 h
    show 5 + _ ≤ 64
    omega
  · show ([114, 111, 111, 116, 32] ++ TL.numL g).all okCh = true
    rw [List.all_append, numL_okCh]
    rfl
theorem root_len : ("root " : Str).length = 5 := by decide +kernel
theorem areaOf_lt {a g : Nat} : 1 ≤ areaOf a g ∧ areaOf a g ≤ a + 1 := by unfold areaOf; split <;> omega
section
variable {K : PySem.W.Frag} {A : Adr}
/-- a new empty list of records -/
theorem GAt.fresh {H : Hp} {j p lb lq lk lk' jx : Addr} {x x' : JS} {d : DS} {o : HO} (G : GAt A H j p lb lq lk x d) (hl : H lk' = none) (ho : o = oJournal A jx (.ref p) (.int (x'.area : Nat)) (.int (x'.first : Nat)) (.int (x'.next : Nat)) (.int (x'.gen : Nat)) (.int (x'.num : Nat)) (.int (x'.inum : Nat)) (.str x'.image) (.ref lk')) (hk : x'.kept = []) :
    GAt A (upd (upd H lk' (.lst [])) j o) j p lb lq lk' x' d := by
  have ea : Ex H (upd H lk' (.lst [])) := Evl.Ex.new hl
  have hl' : upd H lk' (.lst []) lk' = some _ := upd_same
  obtain ⟨J, D, nd⟩ := G.ex ea
  obtain ⟨jx0, hj⟩ := J.ob
  obtain ⟨dx, hp⟩ := G.D.ob
  obtain ⟨qs, hq, _⟩ := G.D.qu
  obtain ⟨jx1, hj1⟩ := G.J.ob
  have hnt : ∀ xs, upd H lk' (.lst []) j ≠ some (.tup xs) := fun xs z => by rw [hj] at z; cases z
  simp only [List.nodup_cons, List.mem_cons, List.not_mem_nil, not_or, or_false, not_false_eq_true, and_true, List.nodup_nil] at nd
  obtain ⟨⟨a1, a2, a3, a4⟩, ⟨b1, b2, b3⟩, ⟨c1, c2⟩, d1⟩ := nd
  have nlj : lk' ≠ j := (ne_of_none hj1 hl).symm
  refine ⟨⟨⟨jx, by rw [ho]; exact upd_same⟩, ⟨[], by rw [upd_ne nlj]; exact upd_same, by rw [hk]; exact .nil⟩⟩, D.kp (fp := [j]) kp_upd (by simpa using fun z : p = j => a1 z.symm) (by simpa using fun z : lb = j => a2 z.symm) (by simpa using fun z : lq = j => a3 z.symm) (fun b hb xs => ?_), ?_⟩
  · rw [List.mem_singleton.mp hb]
    exact hnt xs
  · simp only [List.nodup_cons, List.mem_cons, List.not_mem_nil, not_or, or_false, not_false_eq_true, and_true, List.nodup_nil]
    exact ⟨⟨a1, a2, a3, nlj.symm⟩, ⟨b1, b2, ne_of_none hp hl⟩, ⟨c1, ne_of_none G.D.bl hl⟩, ne_of_none hq hl⟩
theorem pure_Journal_checkpoint (T : TxtP K A) (vs : List V) (H : Hp) (Q : VK) (E : XK) (h : sp_Journal_checkpoint K A vs H Q E) : t_Journal_checkpoint K A (fun cls d _ H => E cls d H) { nx := fun _ H' => Q .non H', rt := Q } (start N_Journal_checkpoint vs) H := by
  obtain ⟨j, p, lb, lq, lk, x, d, t, rfl, G, ⟨hg, hn⟩, ⟨htl, htc⟩, hd, hql, har, kF, kL, kD⟩ := h
  obtain ⟨jx, hj⟩ := G.J.ob
  unfold t_Journal_checkpoint
  walk_at "go"
  refine ⟨x.gen + 1, x.num, t, rfl, by omega, by omega, by omega, fun bl H2 e2 hb hb1 => ?_⟩
  have G2 := G.ex e2
  obtain ⟨bs, hbs⟩ : ∃ bs, bs = bks (x.gen + 1) x.num t.cps.toList := ⟨_, rfl⟩
  rw [← hbs] at kL kD hb1
  have hbl : bs.length = pcs t.cps.toList := by rw [hbs, bks_len]
  have hbok : ∀ b ∈ bs, b.Ok := fun b hb => by
    rw [hbs] at hb
    exact bks_ok (by omega) (by omega) (by have : t.cps.toList.length = t.length := (TL.len_tl t).symm; omega) htc hb
  obtain ⟨jx2, hj2⟩ := G2.J.ob
  have hsz := G.D.ok.sz
  obtain ⟨dx2, hp2⟩ := G2.D.ob
  obtain ⟨dx1, hp1⟩ := G.D.ob
  obtain ⟨qs1, hq1, _⟩ := G.D.qu
  have nbp : bl ≠ p := (ne_of_none hp1 hb).symm
  have nbq : bl ≠ lq := (ne_of_none hq1 hb).symm
  have nbb : bl ≠ lb := (ne_of_none G.D.bl hb).symm
  walk_at "go"
  rw [list_map_len, hbl]
  refine if2 (fun hr => ?_) (fun hr => ?_)
  · walk_at "go"
    exact kF (by omega) H2 e2
  have hr : pcs t.cps.toList ≤ x.area := by omega
  have kL := kL hr
  have kD := kD hr
  walk_at "go"
  refine ⟨j, p, lk, x, x.gen + 1, rfl, G2.J, ?_⟩
  obtain ⟨st, hst⟩ : ∃ st, st = areaOf x.area (x.gen + 1) := ⟨_, rfl⟩
  rw [← hst] at kL kD
  rw [← hst]
  have hst1 : 1 ≤ st ∧ st ≤ x.area + 1 := by rw [hst]; exact areaOf_lt
  walk_at "go"
  rw [list_map_len]
  walk_at "go"
  refine f_range (n := ((bs.length : Nat) : Int).toNat) (fun k σ H' => ∃ d' v5, σ = [some (.ref j), some (.str t), some (.int ((x.gen : Int) + 1)), some (.ref bl), some (.int (st : Nat)), v5] ∧ GAt A H' j p lb lq lk x d' ∧ Kp [p, lq] H2 H' ∧ H' bl = some (.lst (bs.map fun b => V.str b.txt)) ∧ d'.down = false ∧ d'.size = d.size ∧ d'.queue.length ≤ d.queue.length + k ∧ wrs d st (bs.map Bk.txt) = wrs d' (st + k) ((bs.map Bk.txt).drop k)) ⟨d, _, rfl, G2, fun _ _ h _ => h, hb1, hd, rfl, Nat.le_refl _, rfl⟩ ?_ ?_
  · rintro k σ H3 hk ⟨d', v5, rfl, G3, k3, hb3, hd3, hs3, hq3, hw⟩
    obtain ⟨jx3, hj3⟩ := G3.J.ob
    obtain ⟨dx3, hp3⟩ := G3.D.ob
    have hk' : k < bs.length := by omega
    obtain ⟨b, hbk⟩ : ∃ b, bs[k]? = some b := ⟨bs[k], List.getElem?_eq_getElem hk'⟩
    have hv : (bs.map fun b => V.str b.txt)[k]? = some (.str b.txt) := by rw [List.getElem?_map, hbk]; rfl
    have ht : (bs.map Bk.txt)[k]? = some b.txt := by rw [List.getElem?_map, hbk]; rfl
    rw [wrs_step ht] at hw
    walk_at "go"
    · rw [Int.zero_add]
      exact atI_nat hv
    · rw [show (st : Int) + (0 + (k : Int)) = ((st + k : Nat) : Int) by omega]
      walk_at "go"
      refine wr_sp (i := st + k) G3.D hd3 (by omega) (by omega) (hbok b (List.mem_of_getElem? hbk)).blk (fun hl H4 D4 k4 => ?_) (fun hl H4 D4 k4 => ?_)
      · rw [thn2_lost hl] at hw
        have eR : chkW d st (x.gen + 1) bs = wr d' (st + k) b.txt := by
          unfold chkW recW
          rw [hw, thn2_lost hl, thn2_lost hl, thn2_lost hl]
        rw [eR] at kL
        exact kL hl lq H4 (G3.disk (fp := [p, lq]) (by simp) k4 D4 (.inl rfl)) (.inl rfl) (kp_trans (kp_ex e2) (kp_mono (kp_trans k3 k4) (by simp)))
      · rw [thn2_on hl] at hw
        obtain ⟨w1, w2, w3⟩ := wr_keeps hl
        walk_at "go"
        exact ⟨_, _, rfl, G3.disk (fp := [p, lq]) (by simp) k4 D4 (.inl rfl), kp_trans k3 k4, k4 _ _ hb3 (by simp [nbp, nbq]), w1, w2.trans hs3, by omega, hw⟩
  · rintro σ H3 ⟨d3, v5, rfl, G3, k3, hb3, hd3, hs3, hq3, hw⟩
    obtain ⟨jx3, hj3⟩ := G3.J.ob
    obtain ⟨dx3, hp3⟩ := G3.D.ob
    rw [Int.toNat_natCast] at hw hq3
    rw [List.drop_of_length_le (by rw [List.length_map]; exact Nat.le_refl _)] at hw
    have eR1 : chkW d st (x.gen + 1) bs = thn2 (thn2 (sy d3) fun d => wr d 0 (rootT (x.gen + 1))) sy := by
      unfold chkW recW
      have e : thn2 (wrs d3 (st + bs.length) []) sy = sy d3 := thn2_on rfl
      rw [hw, e]
    rw [eR1] at kL kD
    walk_at "go"
    refine sy_sp G3.D (fun hl H4 D4 k4 => ?_) (fun hl lq4 H4 hn4 D4 k4 => ?_)
    · rw [thn2_lost hl, thn2_lost hl] at kL
      exact kL hl lq H4 (G3.disk (fp := [p, lb]) (by simp) k4 D4 (.inl rfl)) (.inl rfl) (kp_trans (kp_ex e2) (kp_trans (kp_mono k3 (by simp)) (kp_mono k4 (by simp))))
    rw [thn2_on hl] at kL kD
    obtain ⟨y1, y2, y3⟩ := sy_keeps hl
    have G4 := G3.disk (fp := [p, lb]) (by simp) k4 D4 (.inr hn4)
    obtain ⟨jx4, hj4⟩ := G4.J.ob
    obtain ⟨dx4, hp4⟩ := G4.D.ob
    have kk4 : Kp [j, p, lb, lq, lk] H H4 := kp_trans (kp_ex e2) (kp_trans (kp_mono k3 (by simp)) (kp_mono k4 (by simp)))
    have fre : ∀ {a : Addr}, H3 a = none → H a = none := fun {a} ha => by
      have h2 : H2 a = none := ne_fresh k3 ha (by
        obtain ⟨ps, hq, _⟩ := G3.D.qu
        intro b hb z
        simp only [List.mem_cons, List.not_mem_nil, or_false] at hb
        rcases hb with rfl | rfl
        · rw [hp3] at z; cases z
        · rw [hq] at z; cases z)
      cases z : H a with
      | none => rfl
      | some o => rw [e2 _ _ z] at h2; cases h2
    have hf4 : H lq4 = none := fre hn4
    have lg : ((x.gen : Int) + 1).natAbs.log2 < 1920 := log_small (n := x.gen + 1) (by omega)
    have l6 := str_len6 (n := x.gen + 1) (by omega)
    have e6 : Str.ofString (toString ((x.gen : Int) + 1)) = Sx (TL.numL (x.gen + 1)) := num_Sx (x.gen + 1)
    have l6' : (Str.ofString (toString ((x.gen : Int) + 1))).length ≤ 6 := l6
    walk_at "go"
    refine r_addS (sm (by rw [root_len]; omega)) ?_
    rw [e6]
    walk_at "go"
    refine wr_sp (i := 0) (t := rootT (x.gen + 1)) G4.D y1 (by rw [y3]; decide) (by rw [y2]; omega) (rootT_blk (by omega)) (fun hl5 H5 D5 k5 => ?_) (fun hl5 H5 D5 k5 => ?_)
    · rw [thn2_lost hl5] at kL
      exact kL hl5 lq4 H5 (G4.disk (fp := [p, lq4]) (by simp) k5 D5 (.inl rfl)) (.inr hf4) fun b o hb hno => k5 _ _ (kk4 b o hb hno) (by
        simp only [List.mem_cons, List.not_mem_nil, not_or, or_false] at hno ⊢
        exact ⟨hno.2.1, ne_of_none hb hf4⟩)
    rw [thn2_on hl5] at kL kD
    obtain ⟨w1, w2, w3⟩ := wr_keeps hl5
    have G5 := G4.disk (fp := [p, lq4]) (by simp) k5 D5 (.inl rfl)
    obtain ⟨jx5, hj5⟩ := G5.J.ob
    obtain ⟨dx5, hp5⟩ := G5.D.ob
    have kk5 : Kp [j, p, lb, lq, lk] H H5 := fun b o hb hno => k5 _ _ (kk4 b o hb hno) (by
        simp only [List.mem_cons, List.not_mem_nil, not_or, or_false] at hno ⊢
        exact ⟨hno.2.1, ne_of_none hb hf4⟩)
    walk_at "go"
    refine sy_sp G5.D (fun hl6 H6 D6 k6 => ?_) (fun hl6 lq6 H6 hn6 D6 k6 => ?_)
    · exact kL hl6 lq4 H6 (G5.disk (fp := [p, lb]) (by simp) k6 D6 (.inl rfl)) (.inr hf4) (kp_trans kk5 (kp_mono k6 (by simp)))
    have G6 := G5.disk (fp := [p, lb]) (by simp) k6 D6 (.inr hn6)
    have kk6 : Kp [j, p, lb, lq, lk] H H6 := kp_trans kk5 (kp_mono k6 (by simp))
    have hf6 : lq6 = lq ∨ H lq6 = none := by
      have h5 : H4 lq6 = none := ne_fresh k5 hn6 (by
        obtain ⟨ps, hq, _⟩ := G5.D.qu
        intro b hb z
        simp only [List.mem_cons, List.not_mem_nil, or_false] at hb
        rcases hb with rfl | rfl
        · rw [hp5] at z; cases z
        · rw [hq] at z; cases z)
      refine .inr (fre (ne_fresh k4 h5 ?_))
      intro b hb z
      simp only [List.mem_cons, List.not_mem_nil, or_false] at hb
      rcases hb with rfl | rfl
      · rw [hp4] at z; cases z
      · rw [G4.D.bl] at z; cases z
    obtain ⟨jx6, hj6⟩ := G6.J.ob
    walk_at "go"
    refine r_small (by decide) fun lk' hlk' => ?_
    have G7 := GAt.put (x' := { x with gen := x.gen + 1 }) (jx := jx6) G6 (o := oJournal A jx6 (.ref p) (.int (x.area : Nat)) (.int (x.first : Nat)) (.int (x.next : Nat)) (.int ((x.gen : Int) + 1)) (.int (x.num : Nat)) (.int (x.inum : Nat)) (.str x.image) (.ref lk)) rfl rfl
    have G8 := GAt.put (x' := { x with gen := x.gen + 1, inum := x.num }) (jx := jx6) G7 (o := oJournal A jx6 (.ref p) (.int (x.area : Nat)) (.int (x.first : Nat)) (.int (x.next : Nat)) (.int ((x.gen : Int) + 1)) (.int (x.num : Nat)) (.int (x.num : Nat)) (.str x.image) (.ref lk)) rfl rfl
    have G9 := GAt.put (x' := { x with gen := x.gen + 1, inum := x.num, image := t }) (jx := jx6) G8 (o := oJournal A jx6 (.ref p) (.int (x.area : Nat)) (.int (x.first : Nat)) (.int (x.next : Nat)) (.int ((x.gen : Int) + 1)) (.int (x.num : Nat)) (.int (x.num : Nat)) (.str t) (.ref lk)) rfl rfl
    have el : Ex _ (upd _ lk' (.lst [])) := Evl.Ex.new hlk'
    walk_at "go"
    have G10 := GAt.fresh (x' := { x with gen := x.gen + 1, inum := x.num, image := t, kept := [] }) (jx := jx6) G9 hlk' (o := oJournal A jx6 (.ref p) (.int (x.area : Nat)) (.int (x.first : Nat)) (.int (x.next : Nat)) (.int ((x.gen : Int) + 1)) (.int (x.num : Nat)) (.int (x.num : Nat)) (.str t) (.ref lk')) rfl rfl
    have G11 := GAt.put (x' := chkJ x t) (jx := jx6) G10 (o := oJournal A jx6 (.ref p) (.int (x.area : Nat)) (.int (x.first : Nat)) (.int (x.first : Nat)) (.int ((x.gen : Int) + 1)) (.int (x.num : Nat)) (.int (x.num : Nat)) (.str t) (.ref lk')) rfl rfl
    refine kD hl6 lk' lq6 _ G11 ?_ hf6 ?_
    · have h6 : H6 lk' = none := by
        have nj : lk' ≠ j := fun z => by rw [z, upd_same] at hlk'; cases hlk'
        rw [upd_ne nj, upd_ne nj, upd_ne nj] at hlk'
        exact hlk'
      have h5 : H5 lk' = none := ne_fresh k6 h6 (by
        intro b hb z
        obtain ⟨dx6, hp6⟩ := G6.D.ob
        simp only [List.mem_cons, List.not_mem_nil, or_false] at hb
        rcases hb with rfl | rfl
        · rw [hp6] at z; cases z
        · rw [G6.D.bl] at z; cases z)
      have h4 : H4 lk' = none := ne_fresh k5 h5 (by
        obtain ⟨ps, hq, _⟩ := G5.D.qu
        intro b hb z
        simp only [List.mem_cons, List.not_mem_nil, or_false] at hb
        rcases hb with rfl | rfl
        · rw [hp5] at z; cases z
        · rw [hq] at z; cases z)
      refine fre (ne_fresh k4 h4 ?_)
      intro b hb z
      simp only [List.mem_cons, List.not_mem_nil, or_false] at hb
      rcases hb with rfl | rfl
      · rw [hp4] at z; cases z
      · rw [G4.D.bl] at z; cases z
    · intro b o hb hno
      have h6 := kk6 b o hb hno
      have nj : b ≠ j := fun z => hno (by simp [z])
      rw [upd_ne nj, upd_ne nj]
      refine el _ _ ?_
      rw [upd_ne nj, upd_ne nj, upd_ne nj]
      exact h6
end

end U

set_option Elab.async false
set_option linter.all false
set_option maxRecDepth 100000
set_option maxHeartbeats 4000000
namespace U
open PySem PySem.Spec PyProof.Rows L2
/-! ### stepping: local words (walk_at "..": a word of the library's syntax, given a meaning of our own here) -/
local macro_rules | `(tactic| walk_at "ne") => `(tactic| first
  | assumption
  | exact Ne.symm (by assumption)
  | exact ne_of_none (by assumption) (by assumption)
  | exact (ne_of_none (by assumption) (by assumption)).symm
  | exact ne_of (by assumption) (by assumption) (by intro z; cases z)
  | exact (ne_of (by assumption) (by assumption) (by intro z; cases z)).symm)
local macro_rules | `(tactic| walk_at "hp") => `(tactic| first
  | assumption
  | exact upd_same
  | ((apply hp_ne); (focus (walk_at "ne")); (walk_at "hp"))
  | ((apply hp_ex); assumption; (walk_at "hp")))
local macro_rules | `(tactic| walk_at "sq") => `(tactic| first
  | assumption
  | ((apply Evl.sq_of); (walk_at "hp"))
  | ((apply Evl.st_of); (walk_at "hp"))
  | ((apply Evl.ex_l); assumption; (walk_at "sq"))
  | ((apply Evl.ex_t); assumption; (walk_at "sq")))
local macro_rules | `(tactic| walk_at "sz") => `(tactic| first | (simp only [List.length_cons, List.length_nil]; omega) | omega | decide)
local macro_rules | `(tactic| walk_at "ar") => `(tactic| first | omega | decide | assumption)
local macro_rules | `(tactic| walk_at "s1") => `(tactic| first
  | (with_reducible first
      | refine r_seq ?_ | refine r_asg ?_ | refine r_drop ?_ | refine r_ret ?_ | refine r_retN ?_ | refine r_if ?_ | refine r_next ?_ | refine r_brk ?_ | refine r_cont ?_ | refine r_sFld ?_ | refine r_raise ?_
      | refine r_op ?_ | refine r_cons ?_ | refine r_nil ?_ | refine r_c ?_ | refine r_cb ?_ | refine r_call ?_ | refine r_meth ?_ | refine r_make ?_ | refine r_fld ?_ | refine r_tup ?_ | refine r_lst ?_ | refine r_un ?_
      | refine r_name ?_ | refine r_gCons ?_ | refine r_gNil ?_ | refine r_gSub ?_ | refine r_test ?_ | refine r_B ?_ | refine r_tru ?_ | refine r_and ?_ | refine r_or ?_ | refine r_not ?_ | refine r_chain ?_
      | refine r_andV ?_ | refine r_orV ?_ | refine r_notV ?_ | refine r_if' ?_ | refine r_sl ?_ | refine r_noPart ?_ | refine r_part ?_ | refine r_bm ?_ | refine r_bm0 ?_ | refine r_m1 ?_
      | refine r_exI ?_ | refine r_exB ?_ | refine r_exS ?_
      | refine r_add ?_ | refine r_sub ?_ | refine r_lt ?_ | refine r_le ?_ | refine r_gt ?_ | refine r_ge ?_ | refine r_and2 ?_ | refine r_neg ?_
      | refine r_eqI ?_ | refine r_neI ?_ | refine r_eqS ?_ | refine r_neS ?_ | refine r_eqNI ?_ | refine r_isNN ?_ | refine r_isNI ?_ | refine r_isNR ?_ | refine r_notNN ?_ | refine r_notNI ?_ | refine r_notNR ?_
      | refine r_inS ?_ | refine r_notInS ?_ | refine r_truI ?_ | refine r_truB ?_ | refine r_truN ?_ | refine r_abs ?_ | refine r_max ?_ | refine r_min ?_ | refine r_int ?_ | refine r_intB ?_ | refine r_ord ?_ | refine r_find ?_
      | refine iteT ?_ | refine iteF ?_ | refine if_nf ?_ | refine if_nt ?_ | refine r_mkx ?_ | refine r_mkG ?_ | refine r_gS ?_
      | refine r_forL ?_ | refine r_forT ?_ | refine r_forS ?_ | refine r_forR1 ?_ | refine r_forR2 ?_ | refine r_lc ?_ | refine r_iL ?_ | refine r_iT ?_ | refine r_iS ?_ | refine r_iR1 ?_ | refine r_iR2 ?_ | refine r_iR3 ?_)
  | ((with_reducible apply r_var); (with_unfolding_all rfl))
  | ((with_reducible first | refine r_mod ?_ ?_ | refine r_mul ?_ ?_ | refine r_div ?_ ?_ | refine r_pow ?_ ?_); (first | omega | decide | exact ⟨by omega, by omega⟩ | exact ⟨by decide, by decide⟩ | exact .inr ⟨by omega, by omega⟩ | exact .inl ⟨by omega, by omega⟩ | exact .inr ⟨by decide, by decide⟩ | exact ⟨by decide, by decide, by decide⟩))
  | ((with_reducible first | apply r_tyL | apply r_ixL | apply r_ixT | apply r_lenL | apply r_lenT | apply r_truL | apply r_truT | apply r_gL | apply r_gT); (walk_at "sq"); (try (first | assumption | (exact atI_nat (by assumption)) | rfl)))
  | ((with_reducible first | apply r_gR1 | apply r_gR2 | apply r_addS | apply r_lenS | apply r_str | apply r_repS); (first | omega | decide | exact ⟨by omega, by omega⟩ | exact ⟨⟨by omega, by omega⟩, by omega, by omega⟩ | (exact Nat.le_trans (by assumption) (by decide)) | exact ⟨by omega, by omega, by decide +kernel⟩))
  | ((with_reducible refine ifT ?_ ?_); (walk_at "ar"))
  | ((with_reducible refine ifF ?_ ?_); (walk_at "ar"))
  | ((with_reducible refine ifNT ?_ ?_); (walk_at "ar"))
  | ((with_reducible refine ifNF ?_ ?_); (walk_at "ar")))
local macro_rules | `(tactic| walk_at "go") => `(tactic| repeat (walk_at "s1"))

local macro_rules | `(tactic| walk_at "cls") => `(tactic| (with_reducible first
  | apply g_Disk_size (by assumption)
  | apply w_Disk_size (by assumption)
  | apply g_Disk_blocks (by assumption)
  | apply w_Disk_blocks (by assumption)
  | apply g_Disk_queue (by assumption)
  | apply w_Disk_queue (by assumption)
  | apply g_Disk_left (by assumption)
  | apply w_Disk_left (by assumption)
  | apply g_Disk_down (by assumption)
  | apply w_Disk_down (by assumption)
  | apply g_Journal_disk (by assumption)
  | apply w_Journal_disk (by assumption)
  | apply g_Journal_area (by assumption)
  | apply w_Journal_area (by assumption)
  | apply g_Journal_first (by assumption)
  | apply w_Journal_first (by assumption)
  | apply g_Journal_next (by assumption)
  | apply w_Journal_next (by assumption)
  | apply g_Journal_generation (by assumption)
  | apply w_Journal_generation (by assumption)
  | apply g_Journal_number (by assumption)
  | apply w_Journal_number (by assumption)
  | apply g_Journal_image_number (by assumption)
  | apply w_Journal_image_number (by assumption)
  | apply g_Journal_image (by assumption)
  | apply w_Journal_image (by assumption)
  | apply g_Journal_kept (by assumption)
  | apply w_Journal_kept (by assumption)
  | apply mm_Disk_spend
  | apply mm_Disk_block
  | apply mm_Disk_write
  | apply mm_Disk_sync
  | apply mm_Disk_waiting
  | apply mm_Journal_area_of
  | apply mm_Journal_read_record
  | apply mm_Journal_empty_rest
  | apply mm_Journal_recover
  | apply mm_Journal_records
  | apply mm_Journal_has_room
  | apply mm_Journal_write_record
  | apply mm_Journal_checkpoint); walk_at "hp")
local macro_rules | `(tactic| walk_at "cls0") => `(tactic| (with_reducible first
  | apply w0_Disk_size (by assumption)
  | apply w0_Disk_blocks (by assumption)
  | apply w0_Disk_queue (by assumption)
  | apply w0_Disk_left (by assumption)
  | apply w0_Disk_down (by assumption)
  | apply w0_Journal_disk (by assumption)
  | apply w0_Journal_area (by assumption)
  | apply w0_Journal_first (by assumption)
  | apply w0_Journal_next (by assumption)
  | apply w0_Journal_generation (by assumption)
  | apply w0_Journal_number (by assumption)
  | apply w0_Journal_image_number (by assumption)
  | apply w0_Journal_image (by assumption)
  | apply w0_Journal_kept (by assumption)); walk_at "hp")
local macro_rules | `(tactic| walk_at "go") => `(tactic| repeat (first | walk_at "s1" | walk_at "cls"))

theorem rdR_bounds {s : Nat → Option Bk} {gen start : Nat} : ∀ {k a : Nat} {f : Option (Nat × Nat)} {t : List Nat} {r : Nat × List Nat × Nat}, start ≤ a → rdR s gen start k a f t = some r → 1 ≤ r.2.2 ∧ start + r.2.2 ≤ a + k
  | 0, _, _, _, _, _, h => by simp [rdR] at h
  | k + 1, a, f, t, r, ha, h => by
    cases hb : s a with
    | none => simp [rdR, hb] at h
    | some b =>
      rw [rdR_step hb] at h
      split at h
      · rename_i hc
        split at h
        · rename_i hl
          have e : r = (b.n, t ++ b.pc, b.m) := (Option.some.inj h).symm
          rw [e]
          have := hc.2.1
          exact ⟨by show 1 ≤ b.m; omega, by show start + b.m ≤ _; omega⟩
        · have := rdR_bounds (k := k) (a := a + 1) (by omega) h
          exact ⟨this.1, by omega⟩
      · cases h
theorem rd_bounds {s : Nat → Option Bk} {gen start stop : Nat} {r : Nat × List Nat × Nat} (h : rd s gen start stop = some r) : 1 ≤ r.2.2 ∧ start + r.2.2 ≤ stop := by
  have := rdR_bounds (Nat.le_refl start) h
  refine ⟨this.1, ?_⟩
  by_cases hs : start ≤ stop
  · omega
  · have e : stop - start = 0 := by omega
    unfold rd at h
    rw [e] at h
    simp [rdR] at h
def RecV (H : Hp) (v : V) (r : Option (Nat × List Nat × Nat)) : Prop := (r = none ∧ v = .non) ∨ ∃ e q, r = some e ∧ v = .ref q ∧ H q = some (.tup [.int (e.1 : Nat), .str (Sx e.2.1), .int (e.2.2 : Nat)])
/-- the journal in the middle of a recovery -/
def midJ (area gen inum : Nat) (img : List Nat) (L : List (Nat × List Nat)) (next : Nat) : JS :=
  { area := area, first := 2 * area + 1, next := next, gen := gen, num := inum + L.length, inum := inum, image := Sx img, kept := L.map fun e => (e.1, Sx e.2) }
theorem logR_none {s : Nat → Option Bk} {gen size k next num : Nat} (h : rd s gen next size = none) : logR s gen size (k + 1) next num = ([], next) := by simp only [logR, h]
theorem logR_other {s : Nat → Option Bk} {gen size k next num : Nat} {r : Nat × List Nat × Nat} (h : rd s gen next size = some r) (hn : r.1 ≠ num + 1) : logR s gen size (k + 1) next num = ([], next) := by simp only [logR, h, if_neg hn]
theorem logR_next {s : Nat → Option Bk} {gen size k next num : Nat} {r : Nat × List Nat × Nat} (h : rd s gen next size = some r) (hn : r.1 = num + 1) : logR s gen size (k + 1) next num = ((r.1, r.2.1) :: (logR s gen size k (next + r.2.2) r.1).1, (logR s gen size k (next + r.2.2) r.1).2) := by simp only [logR, h, if_pos hn]
/-- recover's loop: k turns are left at most -/
def RecW (A : Adr) (H : Hp) (j p lb lq lk : Addr) (d : DS) (s : Nat → Option Bk) (area gen inum : Nat) (img : List Nat) (v1 v2 v3 v4 v5 : Option V) (k : Nat) (σ : L2.St) (H' : Hp) : Prop := ∃ L next v6, σ = [some (.ref j), v1, v2, v3, v4, v5, some v6] ∧ GAt A H' j p lb lq lk (midJ area gen inum img L next) d ∧ Kp [j, lk] H H' ∧
  RecV H' v6 (rd s gen next d.size) ∧ next ≤ d.size ∧ 2 * area + 1 + L.length ≤ next ∧ d.size - next < k ∧ logR s gen d.size d.size (2 * area + 1) inum = (L ++ (logR s gen d.size k next (inum + L.length)).1, (logR s gen d.size k next (inum + L.length)).2)
section
variable {K : PySem.W.Frag} {A : Adr}
theorem rr_sp {H : Hp} {Q : VK} {E : XK} {j p lb lq lk : Addr} {x : JS} {d : DS} {s : Nat → Option Bk} {gen start stop : Nat} (G : GAt A H j p lb lq lk x d) (hd : d.down = false) (hs : Sees d s) (h1 : 1 ≤ start) (h2 : start ≤ stop) (h3 : stop ≤ d.size)
    (k : ∀ v H', Ex H H' → RecV H' v (rd s gen start stop) → Q v H') : sp_Journal_read_record K A [.ref j, .int (start : Nat), .int (stop : Nat), .int (gen : Nat)] H Q E :=
  ⟨j, p, lb, lq, lk, x, d, s, gen, start, stop, rfl, G, hd, hs, h1, h2, h3, fun hn H' e => k .non H' e (.inl ⟨hn, rfl⟩), fun r hr q H' e hq => k (.ref q) H' e (.inr ⟨r, q, hr, rfl, hq⟩)⟩
theorem pure_Journal_recover (T : TxtP K A) (vs : List V) (H : Hp) (Q : VK) (E : XK) (h : sp_Journal_recover K A vs H Q E) : t_Journal_recover K A (fun cls d _ H => E cls d H) { nx := fun _ H' => Q .non H', rt := Q } (start N_Journal_recover vs) H := by
  obtain ⟨j, p, lb, lq, lk, d, s, area, gen, inum, img, rfl, G, hd, hql, hs, har, hroot, kL, kD⟩ := h
  obtain ⟨jx, hj⟩ := G.J.ob
  obtain ⟨dx, hp⟩ := G.D.ob
  have hsz := G.D.ok.sz
  unfold t_Journal_recover
  walk_at "go"
  refine ⟨p, lb, lq, d, 0, rfl, G.D, fun z => bx z hd, fun _ z => absurd ⟨by omega, by omega⟩ z, fun _ _ _ => ?_⟩
  rw [show (0 : Int).toNat = 0 from rfl]
  walk_at "go"
  refine r_cut (fun σ H' => ∃ v2 v3 v4 v5 v6, σ = [some (.ref j), some (.str (d.seen 0)), v2, v3, v4, v5, v6] ∧ GAt A H' j p lb lq lk (midJ area gen inum img [] (2 * area + 1)) d ∧ Kp [j] H H') ?_ ?_
  · walk_at "go"
    rcases hroot with ⟨h0, rfl, rfl, rfl⟩ | ⟨h0, hg, m, hr⟩
    · refine ifNF h0 ?_
      walk_at "go"
      refine ⟨_, _, _, _, _, rfl, ?_, fun _ _ h _ => h⟩
      have e : midJ area 0 0 [] [] (2 * area + 1) = freshJ area := by
        unfold midJ freshJ
        rw [← empty_Sx]
        rfl
      rw [e]
      exact G
    · have hrt : (rootT gen).length ≤ sizeLine := sm (by rw [rootT_Sx, Sx_len, List.length_append]; have := numL_len6 hg; show 5 + _ ≤ _; omega)
      have hct : cutS (rootT gen) (some ((5 : Nat) : Int)) none = Sx (TL.numL gen) := by
        rw [rootT_Sx]
        exact cutS_from _ 5
      have hi : PySem.intText? (Sx (TL.numL gen)) = some ((gen : Nat) : Int) := by
        have := intText_digits (x := Sx (TL.numL gen)) (fun c hc => by
          have := TL.numL_digits gen c hc
          omega) (TL.numL_ne gen) (by rw [Sx_len]; have := numL_len6 hg; omega)
        rw [TL.numL_val] at this
        exact this
      refine ifNT (fun z => ?_) ?_
      · rw [h0, rootT_Sx, empty_Sx] at z
        have := congrArg List.length (Sx_inj z)
        rw [List.length_append] at this
        simp at this
      rw [h0]
      walk_at "go"
      rw [root_len]
      refine ⟨rootT gen, rfl, hrt, ?_⟩
      rw [hct]
      walk_at "go"
      refine r_intS hi (by rw [Sx_len]; have := numL_len6 hg; omega) ?_
      unfold freshJ at hj
      dsimp only at hj
      walk_at "go"
      have G1 := GAt.put (x' := { freshJ area with gen := gen }) (jx := jx) G (o := oJournal A jx (.ref p) (.int (area : Nat)) (.int ((2 * area + 1 : Nat) : Int)) (.int ((2 * area + 1 : Nat) : Int)) (.int (gen : Nat)) (.int ((0 : Nat) : Int)) (.int ((0 : Nat) : Int)) (.str "") (.ref lk)) rfl rfl
      refine ⟨j, p, lk, _, gen, rfl, G1.J, ?_⟩
      show tSeq _ _ _ _ _
      obtain ⟨st, hst⟩ : ∃ st, st = areaOf area gen := ⟨_, rfl⟩
      have hst1 : 1 ≤ st ∧ st ≤ area + 1 := by rw [hst]; exact areaOf_lt
      rw [show areaOf ({ freshJ area with gen := gen } : JS).area gen = st from hst.symm]
      rw [← hst] at hr
      have hj1 : upd H j (oJournal A jx (.ref p) (.int (area : Nat)) (.int ((2 * area + 1 : Nat) : Int)) (.int ((2 * area + 1 : Nat) : Int)) (.int (gen : Nat)) (.int ((0 : Nat) : Int)) (.int ((0 : Nat) : Int)) (.str "") (.ref lk)) j = some _ := upd_same
      walk_at "go"
      rw [show ((st : Nat) : Int) + ((area : Nat) : Int) = ((st + area : Nat) : Int) by omega]
      walk_at "go"
      refine rr_sp G1 hd hs (by omega) (by omega) (by omega) fun v H2 e2 hv => ?_
      rw [hr] at hv
      rcases hv with ⟨z, _⟩ | ⟨e, q, z, rfl, hq⟩
      · cases z
      obtain rfl := Option.some.inj z
      have G2 := G1.ex e2
      obtain ⟨jx2, hj2⟩ := G2.J.ob
      dsimp only [freshJ] at hj2
      walk_at "go"
      refine r_gTup (Evl.st_of hq) rfl ?_
      walk_at "go"
      have G3 := GAt.put (x' := { freshJ area with gen := gen, inum := inum }) (jx := jx2) G2 (o := oJournal A jx2 (.ref p) (.int (area : Nat)) (.int ((2 * area + 1 : Nat) : Int)) (.int ((2 * area + 1 : Nat) : Int)) (.int (gen : Nat)) (.int ((0 : Nat) : Int)) (.int (inum : Nat)) (.str "") (.ref lk)) rfl rfl
      have G4 := GAt.put (x' := { freshJ area with gen := gen, inum := inum, image := Sx img }) (jx := jx2) G3 (o := oJournal A jx2 (.ref p) (.int (area : Nat)) (.int ((2 * area + 1 : Nat) : Int)) (.int ((2 * area + 1 : Nat) : Int)) (.int (gen : Nat)) (.int ((0 : Nat) : Int)) (.int (inum : Nat)) (.str (Sx img)) (.ref lk)) rfl rfl
      have G5 := GAt.put (x' := midJ area gen inum img [] (2 * area + 1)) (jx := jx2) G4 (o := oJournal A jx2 (.ref p) (.int (area : Nat)) (.int ((2 * area + 1 : Nat) : Int)) (.int ((2 * area + 1 : Nat) : Int)) (.int (gen : Nat)) (.int (inum : Nat)) (.int (inum : Nat)) (.str (Sx img)) (.ref lk)) rfl rfl
      refine ⟨_, _, _, _, _, rfl, G5, fun b o hb hno => ?_⟩
      have hbj : b ≠ j := by simpa using hno
      rw [upd_ne hbj, upd_ne hbj, upd_ne hbj]
      refine e2 _ _ ?_
      rw [upd_ne hbj]
      exact hb
  · rintro σ H1 ⟨v2, v3, v4, v5, v6, rfl, G1, k1⟩
    obtain ⟨jx1, hj1⟩ := G1.J.ob
    obtain ⟨dx1, hp1⟩ := G1.D.ob
    unfold midJ at hj1
    dsimp only at hj1
    walk_at "go"
    have kj : Kp [j, lk] H H1 := kp_mono k1 (by simp)
    have ex : ∀ (L : List (Nat × List Nat)) (next : Nat) (H' : Hp), GAt A H' j p lb lq lk (midJ area gen inum img L next) d → Kp [j, lk] H H' → next ≤ d.size → logR s gen d.size d.size (2 * area + 1) inum = (L, next) →
        sp_Journal_empty_rest K A [.ref j] H' (fun _ H1 => Q .non H1) E := fun L next H' G' k' hle hL => by
      have eJ : recJ s d.size area gen inum img = midJ area gen inum img L next := by
        unfold recJ midJ
        rw [hL]
      rw [eJ] at kL kD
      obtain ⟨jx', hj'⟩ := G'.J.ob
      obtain ⟨ks', hk', _⟩ := G'.J.kt
      have fre : ∀ {a : Addr}, H' a = none → H a = none := fun {a} ha => ne_fresh k' ha (by
        intro b hb z
        simp only [List.mem_cons, List.not_mem_nil, or_false] at hb
        rcases hb with rfl | rfl
        · rw [hj'] at z; cases z
        · rw [hk'] at z; cases z)
      refine ⟨j, p, lb, lq, lk, _, d, rfl, G', hd, hle, hql, fun hl lq' H2 G2 hn k2 => ?_, fun hl lq' H2 G2 hn k2 => ?_⟩
      · exact kL hl lq' H2 G2.D (hn.imp id fre) (kp_trans (kp_mono k' (by simp)) (kp_mono k2 (by simp)))
      · exact kD hl lq' H2 G2 (hn.imp id fre) (kp_trans (kp_mono k' (by simp)) (kp_mono k2 (by simp)))
    refine rr_sp G1 hd hs (by omega) har (Nat.le_refl _) fun v H2 e2 hv => ?_
    have G2 := G1.ex e2
    walk_at "go"
    refine ⟨RecW A H j p lb lq lk d s area gen inum img (some (.str (d.seen 0))) v2 v3 v4 v5, ⟨d.size, [], _, v, rfl, G2, kp_of kj e2, hv, har, Nat.le_refl _, by omega, rfl⟩, ?_⟩
    rintro k σ H3 ⟨L, next, v6, rfl, G3, k3, hv3, hle, hL, hk, hlog⟩
    obtain ⟨jx3, hj3⟩ := G3.J.ob
    unfold midJ at hj3
    dsimp only at hj3
    obtain ⟨k', rfl⟩ : ∃ k', k = k' + 1 := ⟨k - 1, by omega⟩
    rcases hv3 with ⟨hn, rfl⟩ | ⟨e, q, hr, rfl, hq⟩
    · rw [logR_none hn, List.append_nil] at hlog
      walk_at "go"
      exact ex L next H3 G3 k3 hle hlog
    · walk_at "go"
      refine if2 (fun hnum => ?_) (fun hnum => ?_)
      · have hnum : e.1 = inum + L.length + 1 := by omega
        rw [logR_next hr hnum] at hlog
        obtain ⟨b1, b2⟩ := rd_bounds hr
        obtain ⟨ks, hks, hkt⟩ := G3.J.kt
        have hkl : ks.length = L.length := (tups_len hkt).trans (by show (L.map _).length = _; rw [List.length_map])
        refine ⟨RecW A H j p lb lq lk d s area gen inum img (some (.str (d.seen 0))) v2 v3 v4 v5 k', fun σ' H' hw => ⟨k', Nat.lt_succ_self _, hw⟩, ?_⟩
        walk_at "go"
        refine r_small (by show 2 ≤ 1000; decide) fun a ha => ?_
        have ea : Ex H3 (upd H3 a (.tup [.int (e.1 : Nat), .str (Sx e.2.1)])) := Evl.Ex.new ha
        walk_at "go"
        refine r_append (ea _ _ hks) (by rw [List.length_map]; exact Nat.lt_of_le_of_lt (show ks.length ≤ 900000 by omega) (by decide)) ?_
        have G4 := G3.keep (e := (e.1, Sx e.2.1)) hks hkt ha
        rw [show ks.map V.ref ++ [V.ref a] = (ks ++ [a]).map V.ref by rw [List.map_append]; rfl]
        have k4 : Kp [j, lk] H3 (upd (upd H3 a (.tup [.int (e.1 : Nat), .str (Sx e.2.1)])) lk (.lst ((ks ++ [a]).map V.ref))) := fun b o hb hno => by
          rw [upd_ne (fun z => hno (by simp [z]))]
          exact ea _ _ hb
        have hq4 := k4 _ _ hq (fun z => by
          simp only [List.mem_cons, List.not_mem_nil, or_false] at z
          rcases z with rfl | rfl
          · rw [hj3] at hq; cases hq
          · rw [hks] at hq; cases hq)
        obtain ⟨jx4, hj4⟩ := G4.J.ob
        dsimp only [midJ] at hj4
        walk_at "go"
        have G5 := GAt.put (x' := { midJ area gen inum img (L ++ [(e.1, e.2.1)]) next with num := e.1 }) (jx := jx4) G4 (o := oJournal A jx4 (.ref p) (.int (area : Nat)) (.int ((2 * area + 1 : Nat) : Int)) (.int (next : Nat)) (.int (gen : Nat)) (.int (e.1 : Nat)) (.int (inum : Nat)) (.str (Sx img)) (.ref lk)) rfl (by show List.map _ (L ++ _) = List.map _ L ++ _; rw [List.map_append]; rfl)
        have eN : inum + (L ++ [(e.1, e.2.1)]).length = e.1 := by rw [List.length_append]; show inum + (L.length + 1) = e.1; omega
        have G6 := GAt.put (x' := midJ area gen inum img (L ++ [(e.1, e.2.1)]) (next + e.2.2)) (jx := jx4) G5 (o := oJournal A jx4 (.ref p) (.int (area : Nat)) (.int ((2 * area + 1 : Nat) : Int)) (.int ((next : Int) + ((e.2.2 : Nat) : Int))) (.int (gen : Nat)) (.int (e.1 : Nat)) (.int (inum : Nat)) (.str (Sx img)) (.ref lk)) (by unfold midJ; dsimp only; rw [eN]; rfl) rfl
        obtain ⟨dx6, hp6⟩ := G6.D.ob
        walk_at "go"
        rw [show ((next : Nat) : Int) + ((e.2.2 : Nat) : Int) = ((next + e.2.2 : Nat) : Int) by omega] at *
        refine rr_sp G6 hd hs (by omega) (by omega) (Nat.le_refl _) fun v7 H7 e7 hv7 => ?_
        walk_at "go"
        refine ⟨L ++ [(e.1, e.2.1)], next + e.2.2, v7, rfl, G6.ex e7, fun b o hb hno => ?_, hv7, by omega, by rw [List.length_append]; show _ + (L.length + 1) ≤ _; omega, by omega, ?_⟩
        · refine e7 _ _ ?_
          have hbj : b ≠ j := fun z => hno (by simp [z])
          rw [upd_ne hbj, upd_ne hbj]
          exact k4 _ _ (k3 _ _ hb hno) hno
        · rw [eN, hlog, List.append_assoc]
          rfl
      · rw [logR_other hr (fun z => hnum (by omega)), List.append_nil] at hlog
        walk_at "go"
        exact ex L next H3 G3 k3 hle hlog
end

end U

set_option Elab.async false
set_option linter.all false
set_option maxRecDepth 100000
set_option maxHeartbeats 4000000
namespace U
open PySem PySem.Spec PyProof.Rows L2
/-! ### stepping: local words (walk_at "..": a word of the library's syntax, given a meaning of our own here) -/
local macro_rules | `(tactic| walk_at "ne") => `(tactic| first
  | assumption
  | exact Ne.symm (by assumption)
  | exact ne_of_none (by assumption) (by assumption)
  | exact (ne_of_none (by assumption) (by assumption)).symm
  | exact ne_of (by assumption) (by assumption) (by intro z; cases z)
  | exact (ne_of (by assumption) (by assumption) (by intro z; cases z)).symm)
local macro_rules | `(tactic| walk_at "hp") => `(tactic| first
  | assumption
  | exact upd_same
  | ((apply hp_ne); (focus (walk_at "ne")); (walk_at "hp"))
  | ((apply hp_ex); assumption; (walk_at "hp")))
local macro_rules | `(tactic| walk_at "sq") => `(tactic| first
  | assumption
  | ((apply Evl.sq_of); (walk_at "hp"))
  | ((apply Evl.st_of); (walk_at "hp"))
  | ((apply Evl.ex_l); assumption; (walk_at "sq"))
  | ((apply Evl.ex_t); assumption; (walk_at "sq")))
local macro_rules | `(tactic| walk_at "sz") => `(tactic| first | (simp only [List.length_cons, List.length_nil]; omega) | omega | decide)
local macro_rules | `(tactic| walk_at "ar") => `(tactic| first | omega | decide | assumption)
local macro_rules | `(tactic| walk_at "s1") => `(tactic| first
  | (with_reducible first
      | refine r_seq ?_ | refine r_asg ?_ | refine r_drop ?_ | refine r_ret ?_ | refine r_retN ?_ | refine r_if ?_ | refine r_next ?_ | refine r_brk ?_ | refine r_cont ?_ | refine r_sFld ?_ | refine r_raise ?_
      | refine r_op ?_ | refine r_cons ?_ | refine r_nil ?_ | refine r_c ?_ | refine r_cb ?_ | refine r_call ?_ | refine r_meth ?_ | refine r_make ?_ | refine r_fld ?_ | refine r_tup ?_ | refine r_lst ?_ | refine r_un ?_
      | refine r_name ?_ | refine r_gCons ?_ | refine r_gNil ?_ | refine r_gSub ?_ | refine r_test ?_ | refine r_B ?_ | refine r_tru ?_ | refine r_and ?_ | refine r_or ?_ | refine r_not ?_ | refine r_chain ?_
      | refine r_andV ?_ | refine r_orV ?_ | refine r_notV ?_ | refine r_if' ?_ | refine r_sl ?_ | refine r_noPart ?_ | refine r_part ?_ | refine r_bm ?_ | refine r_bm0 ?_ | refine r_m1 ?_
      | refine r_exI ?_ | refine r_exB ?_ | refine r_exS ?_
      | refine r_add ?_ | refine r_sub ?_ | refine r_lt ?_ | refine r_le ?_ | refine r_gt ?_ | refine r_ge ?_ | refine r_and2 ?_ | refine r_neg ?_
      | refine r_eqI ?_ | refine r_neI ?_ | refine r_eqS ?_ | refine r_neS ?_ | refine r_eqNI ?_ | refine r_isNN ?_ | refine r_isNI ?_ | refine r_isNR ?_ | refine r_notNN ?_ | refine r_notNI ?_ | refine r_notNR ?_
      | refine r_inS ?_ | refine r_notInS ?_ | refine r_truI ?_ | refine r_truB ?_ | refine r_truN ?_ | refine r_abs ?_ | refine r_max ?_ | refine r_min ?_ | refine r_int ?_ | refine r_intB ?_ | refine r_ord ?_ | refine r_find ?_
      | refine iteT ?_ | refine iteF ?_ | refine if_nf ?_ | refine if_nt ?_ | refine r_mkx ?_ | refine r_mkG ?_ | refine r_gS ?_
      | refine r_forL ?_ | refine r_forT ?_ | refine r_forS ?_ | refine r_forR1 ?_ | refine r_forR2 ?_ | refine r_lc ?_ | refine r_iL ?_ | refine r_iT ?_ | refine r_iS ?_ | refine r_iR1 ?_ | refine r_iR2 ?_ | refine r_iR3 ?_)
  | ((with_reducible apply r_var); (with_unfolding_all rfl))
  | ((with_reducible first | refine r_mod ?_ ?_ | refine r_mul ?_ ?_ | refine r_div ?_ ?_ | refine r_pow ?_ ?_); (first | omega | decide | exact ⟨by omega, by omega⟩ | exact ⟨by decide, by decide⟩ | exact .inr ⟨by omega, by omega⟩ | exact .inl ⟨by omega, by omega⟩ | exact .inr ⟨by decide, by decide⟩ | exact ⟨by decide, by decide, by decide⟩))
  | ((with_reducible first | apply r_tyL | apply r_ixL | apply r_ixT | apply r_lenL | apply r_lenT | apply r_truL | apply r_truT | apply r_gL | apply r_gT); (walk_at "sq"); (try (first | assumption | (exact atI_nat (by assumption)) | rfl)))
  | ((with_reducible first | apply r_gR1 | apply r_gR2 | apply r_addS | apply r_lenS | apply r_str | apply r_repS); (first | omega | decide | exact ⟨by omega, by omega⟩ | exact ⟨⟨by omega, by omega⟩, by omega, by omega⟩ | (exact Nat.le_trans (by assumption) (by decide)) | exact ⟨by omega, by omega, by decide +kernel⟩))
  | ((with_reducible refine ifT ?_ ?_); (walk_at "ar"))
  | ((with_reducible refine ifF ?_ ?_); (walk_at "ar"))
  | ((with_reducible refine ifNT ?_ ?_); (walk_at "ar"))
  | ((with_reducible refine ifNF ?_ ?_); (walk_at "ar")))
local macro_rules | `(tactic| walk_at "go") => `(tactic| repeat (walk_at "s1"))

local macro_rules | `(tactic| walk_at "cls") => `(tactic| (with_reducible first
  | apply g_Disk_size (by assumption)
  | apply w_Disk_size (by assumption)
  | apply g_Disk_blocks (by assumption)
  | apply w_Disk_blocks (by assumption)
  | apply g_Disk_queue (by assumption)
  | apply w_Disk_queue (by assumption)
  | apply g_Disk_left (by assumption)
  | apply w_Disk_left (by assumption)
  | apply g_Disk_down (by assumption)
  | apply w_Disk_down (by assumption)
  | apply g_Journal_disk (by assumption)
  | apply w_Journal_disk (by assumption)
  | apply g_Journal_area (by assumption)
  | apply w_Journal_area (by assumption)
  | apply g_Journal_first (by assumption)
  | apply w_Journal_first (by assumption)
  | apply g_Journal_next (by assumption)
  | apply w_Journal_next (by assumption)
  | apply g_Journal_generation (by assumption)
  | apply w_Journal_generation (by assumption)
  | apply g_Journal_number (by assumption)
  | apply w_Journal_number (by assumption)
  | apply g_Journal_image_number (by assumption)
  | apply w_Journal_image_number (by assumption)
  | apply g_Journal_image (by assumption)
  | apply w_Journal_image (by assumption)
  | apply g_Journal_kept (by assumption)
  | apply w_Journal_kept (by assumption)
  | apply mm_Disk_spend
  | apply mm_Disk_block
  | apply mm_Disk_write
  | apply mm_Disk_sync
  | apply mm_Disk_waiting
  | apply mm_Journal_area_of
  | apply mm_Journal_read_record
  | apply mm_Journal_empty_rest
  | apply mm_Journal_recover
  | apply mm_Journal_records
  | apply mm_Journal_has_room
  | apply mm_Journal_write_record
  | apply mm_Journal_checkpoint); walk_at "hp")
local macro_rules | `(tactic| walk_at "cls0") => `(tactic| (with_reducible first
  | apply w0_Disk_size (by assumption)
  | apply w0_Disk_blocks (by assumption)
  | apply w0_Disk_queue (by assumption)
  | apply w0_Disk_left (by assumption)
  | apply w0_Disk_down (by assumption)
  | apply w0_Journal_disk (by assumption)
  | apply w0_Journal_area (by assumption)
  | apply w0_Journal_first (by assumption)
  | apply w0_Journal_next (by assumption)
  | apply w0_Journal_generation (by assumption)
  | apply w0_Journal_number (by assumption)
  | apply w0_Journal_image_number (by assumption)
  | apply w0_Journal_image (by assumption)
  | apply w0_Journal_kept (by assumption)); walk_at "hp")
local macro_rules | `(tactic| walk_at "go") => `(tactic| repeat (first | walk_at "s1" | walk_at "cls"))

theorem upd_upd {H : Hp} {a : Addr} {o1 o2 : HO} : upd (upd H a o1) a o2 = upd H a o2 := by
  funext b
  by_cases hb : b = a
  · subst hb
    rw [upd_same, upd_same]
  · rw [upd_ne hb, upd_ne hb, upd_ne hb]
section
variable {K : PySem.W.Frag} {A : Adr}
theorem pure_Journal_init (T : TxtP K A) (vs : List V) (H : Hp) (Q : VK) (E : XK) (h : sp_Journal_init K A vs H Q E) : t_Journal_init K A (fun cls d _ H => E cls d H) { nx := fun _ H' => Q .non H', rt := Q } (start N_Journal_init vs) H := by
  obtain ⟨j, jx, p, lb, lq, d, s, area, gen, inum, img, rfl, hj, D, hd, hql, h1, har, hs, hroot, kL, kD⟩ := h
  obtain ⟨dx, hp⟩ := D.ob
  obtain ⟨qs, hq, _⟩ := D.qu
  have hsz := D.ok.sz
  have npj : p ≠ j := fun z => by
    rw [z, hj] at hp
    have := Option.some.inj hp
    unfold oDisk at this
    injection this with _ _ e
    cases e
  unfold t_Journal_init
  walk_at "go"
  walk_at "cls0"
  walk_at "go"
  rw [show ((d.size : Int) - 1) / 3 = ((area : Nat) : Int) by omega]
  walk_at "cls0"
  walk_at "go"
  refine r_fldG (v := .int (area : Nat)) upd_same T.c_Journal T.n_Journal_area (by kernel_rfl) ?_
  walk_at "go"
  rw [show 2 * ((area : Nat) : Int) + 1 = ((2 * area + 1 : Nat) : Int) by omega]
  walk_at "cls0"
  walk_at "go"
  refine r_fldG (v := .int ((2 * area + 1 : Nat) : Int)) upd_same T.c_Journal T.n_Journal_first (by kernel_rfl) ?_
  walk_at "go"
  walk_at "cls0"
  walk_at "go"
  walk_at "cls0"
  walk_at "go"
  walk_at "cls0"
  walk_at "go"
  walk_at "cls0"
  walk_at "go"
  walk_at "cls0"
  walk_at "go"
  refine r_small (by decide) fun lk hlk => ?_
  simp only [upd_upd] at hlk
  repeat rw [upd_upd]
  have nlj : j ≠ lk := fun z => by rw [z, upd_same] at hlk; cases hlk
  have nlj' : lk ≠ j := nlj.symm
  rw [upd_ne nlj'] at hlk
  have hjo := upd_same (H := H) (a := j) (o := .ins A.Journal jx [("disk", .ref p), ("area", .int (area : Nat)), ("first", .int ((2 * area + 1 : Nat) : Int)), ("next", .int ((2 * area + 1 : Nat) : Int)), ("generation", .int 0), ("number", .int 0), ("image_number", .int 0), ("image", .str "")])
  have hjl : upd (upd H j (.ins A.Journal jx [("disk", .ref p), ("area", .int (area : Nat)), ("first", .int ((2 * area + 1 : Nat) : Int)), ("next", .int ((2 * area + 1 : Nat) : Int)), ("generation", .int 0), ("number", .int 0), ("image_number", .int 0), ("image", .str "")])) lk (.lst []) j = some _ := (upd_ne nlj).trans hjo
  walk_at "go"
  walk_at "cls0"
  walk_at "go"
  have nlp : p ≠ lk := ne_of_none hp hlk
  have nlb : lb ≠ lk := ne_of_none D.bl hlk
  have nlq : lq ≠ lk := ne_of_none hq hlk
  have nbj : lb ≠ j := fun z => by rw [← z, D.bl] at hj; cases hj
  have nqj : lq ≠ j := fun z => by rw [← z, hq] at hj; cases hj
  have npb : p ≠ lb := fun z => by rw [z, D.bl] at hp; cases hp
  have npq : p ≠ lq := fun z => by rw [z, hq] at hp; cases hp
  have kp1 : Kp [j] H (upd (upd (upd H j (.ins A.Journal jx [("disk", .ref p), ("area", .int (area : Nat)), ("first", .int ((2 * area + 1 : Nat) : Int)), ("next", .int ((2 * area + 1 : Nat) : Int)), ("generation", .int 0), ("number", .int 0), ("image_number", .int 0), ("image", .str "")])) lk (.lst [])) j (oJournal A jx (.ref p) (.int (area : Nat)) (.int ((2 * area + 1 : Nat) : Int)) (.int ((2 * area + 1 : Nat) : Int)) (.int 0) (.int 0) (.int 0) (.str "") (.ref lk))) := fun b o hb hno => by
    have hbj : b ≠ j := by simpa using hno
    rw [upd_ne hbj, upd_ne (ne_of_none hb hlk), upd_ne hbj]
    exact hb
  have G : GAt A _ j p lb lq lk (freshJ area) d := ⟨⟨⟨jx, upd_same⟩, ⟨[], by rw [upd_ne nlj']; exact upd_same, .nil⟩⟩, D.kp (fp := [j]) kp1 (by simpa using npj) (by simpa using nbj) (by simpa using nqj) (fun b hb xs z => by rw [List.mem_singleton.mp hb, hj] at z; cases z), by
    simp only [List.nodup_cons, List.mem_cons, List.not_mem_nil, not_or, or_false, not_false_eq_true, and_true, List.nodup_nil]
    exact ⟨⟨npj.symm, nbj.symm, nqj.symm, nlj⟩, ⟨npb, npq, nlp⟩, ⟨D.ne, nlb⟩, nlq⟩⟩
  have fre : ∀ {a : Addr}, upd (upd (upd H j (.ins A.Journal jx [("disk", .ref p), ("area", .int (area : Nat)), ("first", .int ((2 * area + 1 : Nat) : Int)), ("next", .int ((2 * area + 1 : Nat) : Int)), ("generation", .int 0), ("number", .int 0), ("image_number", .int 0), ("image", .str "")])) lk (.lst [])) j (oJournal A jx (.ref p) (.int (area : Nat)) (.int ((2 * area + 1 : Nat) : Int)) (.int ((2 * area + 1 : Nat) : Int)) (.int 0) (.int 0) (.int 0) (.str "") (.ref lk)) a = none → H a = none := fun {a} ha => ne_fresh kp1 ha (by
    intro b hb z
    rw [List.mem_singleton.mp hb, upd_same] at z
    cases z)
  refine ⟨j, p, lb, lq, lk, d, s, area, gen, inum, img, rfl, G, hd, hql, hs, by omega, hroot, fun hl lq' H2 D2 hn k2 => ?_, fun hl lq' H2 G2 hn k2 => ?_⟩
  · refine kL hl lq' H2 D2 (hn.imp id fre) fun b o hb hno => k2 _ _ (kp1 _ _ hb (by simp only [List.mem_cons, List.not_mem_nil, not_or, or_false] at hno ⊢; exact hno.1)) ?_
    simp only [List.mem_cons, List.not_mem_nil, not_or, or_false] at hno ⊢
    exact ⟨hno.1, hno.2.1, hno.2.2.1, hno.2.2.2, ne_of_none hb hlk⟩
  · walk_at "go"
    refine kD hl lk lq' H2 G2 hlk (hn.imp id fre) fun b o hb hno => k2 _ _ (kp1 _ _ hb (by simp only [List.mem_cons, List.not_mem_nil, not_or, or_false] at hno ⊢; exact hno.1)) ?_
    simp only [List.mem_cons, List.not_mem_nil, not_or, or_false] at hno ⊢
    exact ⟨hno.1, hno.2.1, hno.2.2.1, hno.2.2.2, ne_of_none hb hlk⟩
end

end U

set_option Elab.async false
set_option linter.all false
set_option maxRecDepth 100000
set_option maxHeartbeats 4000000
namespace U
open PySem PySem.Spec PyProof.Rows L2
/-! ### stepping: local words (walk_at "..": a word of the library's syntax, given a meaning of our own here) -/
local macro_rules | `(tactic| walk_at "ne") => `(tactic| first
  | assumption
  | exact Ne.symm (by assumption)
  | exact ne_of_none (by assumption) (by assumption)
  | exact (ne_of_none (by assumption) (by assumption)).symm
  | exact ne_of (by assumption) (by assumption) (by intro z; cases z)
  | exact (ne_of (by assumption) (by assumption) (by intro z; cases z)).symm)
local macro_rules | `(tactic| walk_at "hp") => `(tactic| first
  | assumption
  | exact upd_same
  | ((apply hp_ne); (focus (walk_at "ne")); (walk_at "hp"))
  | ((apply hp_ex); assumption; (walk_at "hp")))
local macro_rules | `(tactic| walk_at "sq") => `(tactic| first
  | assumption
  | ((apply Evl.sq_of); (walk_at "hp"))
  | ((apply Evl.st_of); (walk_at "hp"))
  | ((apply Evl.ex_l); assumption; (walk_at "sq"))
  | ((apply Evl.ex_t); assumption; (walk_at "sq")))
local macro_rules | `(tactic| walk_at "sz") => `(tactic| first | (simp only [List.length_cons, List.length_nil]; omega) | omega | decide)
local macro_rules | `(tactic| walk_at "ar") => `(tactic| first | omega | decide | assumption)
local macro_rules | `(tactic| walk_at "s1") => `(tactic| first
  | (with_reducible first
      | refine r_seq ?_ | refine r_asg ?_ | refine r_drop ?_ | refine r_ret ?_ | refine r_retN ?_ | refine r_if ?_ | refine r_next ?_ | refine r_brk ?_ | refine r_cont ?_ | refine r_sFld ?_ | refine r_raise ?_
      | refine r_op ?_ | refine r_cons ?_ | refine r_nil ?_ | refine r_c ?_ | refine r_cb ?_ | refine r_call ?_ | refine r_meth ?_ | refine r_make ?_ | refine r_fld ?_ | refine r_tup ?_ | refine r_lst ?_ | refine r_un ?_
      | refine r_name ?_ | refine r_gCons ?_ | refine r_gNil ?_ | refine r_gSub ?_ | refine r_test ?_ | refine r_B ?_ | refine r_tru ?_ | refine r_and ?_ | refine r_or ?_ | refine r_not ?_ | refine r_chain ?_
      | refine r_andV ?_ | refine r_orV ?_ | refine r_notV ?_ | refine r_if' ?_ | refine r_sl ?_ | refine r_noPart ?_ | refine r_part ?_ | refine r_bm ?_ | refine r_bm0 ?_ | refine r_m1 ?_
      | refine r_exI ?_ | refine r_exB ?_ | refine r_exS ?_
      | refine r_add ?_ | refine r_sub ?_ | refine r_lt ?_ | refine r_le ?_ | refine r_gt ?_ | refine r_ge ?_ | refine r_and2 ?_ | refine r_neg ?_
      | refine r_eqI ?_ | refine r_neI ?_ | refine r_eqS ?_ | refine r_neS ?_ | refine r_eqNI ?_ | refine r_isNN ?_ | refine r_isNI ?_ | refine r_isNR ?_ | refine r_notNN ?_ | refine r_notNI ?_ | refine r_notNR ?_
      | refine r_inS ?_ | refine r_notInS ?_ | refine r_truI ?_ | refine r_truB ?_ | refine r_truN ?_ | refine r_abs ?_ | refine r_max ?_ | refine r_min ?_ | refine r_int ?_ | refine r_intB ?_ | refine r_ord ?_ | refine r_find ?_
      | refine iteT ?_ | refine iteF ?_ | refine if_nf ?_ | refine if_nt ?_ | refine r_mkx ?_ | refine r_mkG ?_ | refine r_gS ?_
      | refine r_forL ?_ | refine r_forT ?_ | refine r_forS ?_ | refine r_forR1 ?_ | refine r_forR2 ?_ | refine r_lc ?_ | refine r_iL ?_ | refine r_iT ?_ | refine r_iS ?_ | refine r_iR1 ?_ | refine r_iR2 ?_ | refine r_iR3 ?_)
  | ((with_reducible apply r_var); (with_unfolding_all rfl))
  | ((with_reducible first | refine r_mod ?_ ?_ | refine r_mul ?_ ?_ | refine r_div ?_ ?_ | refine r_pow ?_ ?_); (first | omega | decide | exact ⟨by omega, by omega⟩ | exact ⟨by decide, by decide⟩ | exact .inr ⟨by omega, by omega⟩ | exact .inl ⟨by omega, by omega⟩ | exact .inr ⟨by decide, by decide⟩ | exact ⟨by decide, by decide, by decide⟩))
  | ((with_reducible first | apply r_tyL | apply r_ixL | apply r_ixT | apply r_lenL | apply r_lenT | apply r_truL | apply r_truT | apply r_gL | apply r_gT); (walk_at "sq"); (try (first | assumption | (exact atI_nat (by assumption)) | rfl)))
  | ((with_reducible first | apply r_gR1 | apply r_gR2 | apply r_addS | apply r_lenS | apply r_str | apply r_repS); (first | omega | decide | exact ⟨by omega, by omega⟩ | exact ⟨⟨by omega, by omega⟩, by omega, by omega⟩ | (exact Nat.le_trans (by assumption) (by decide)) | exact ⟨by omega, by omega, by decide +kernel⟩))
  | ((with_reducible refine ifT ?_ ?_); (walk_at "ar"))
  | ((with_reducible refine ifF ?_ ?_); (walk_at "ar"))
  | ((with_reducible refine ifNT ?_ ?_); (walk_at "ar"))
  | ((with_reducible refine ifNF ?_ ?_); (walk_at "ar")))
local macro_rules | `(tactic| walk_at "go") => `(tactic| repeat (walk_at "s1"))

local macro_rules | `(tactic| walk_at "cls") => `(tactic| (with_reducible first
  | apply g_Disk_size (by assumption)
  | apply w_Disk_size (by assumption)
  | apply g_Disk_blocks (by assumption)
  | apply w_Disk_blocks (by assumption)
  | apply g_Disk_queue (by assumption)
  | apply w_Disk_queue (by assumption)
  | apply g_Disk_left (by assumption)
  | apply w_Disk_left (by assumption)
  | apply g_Disk_down (by assumption)
  | apply w_Disk_down (by assumption)
  | apply g_Journal_disk (by assumption)
  | apply w_Journal_disk (by assumption)
  | apply g_Journal_area (by assumption)
  | apply w_Journal_area (by assumption)
  | apply g_Journal_first (by assumption)
  | apply w_Journal_first (by assumption)
  | apply g_Journal_next (by assumption)
  | apply w_Journal_next (by assumption)
  | apply g_Journal_generation (by assumption)
  | apply w_Journal_generation (by assumption)
  | apply g_Journal_number (by assumption)
  | apply w_Journal_number (by assumption)
  | apply g_Journal_image_number (by assumption)
  | apply w_Journal_image_number (by assumption)
  | apply g_Journal_image (by assumption)
  | apply w_Journal_image (by assumption)
  | apply g_Journal_kept (by assumption)
  | apply w_Journal_kept (by assumption)
  | apply mm_Disk_spend
  | apply mm_Disk_block
  | apply mm_Disk_write
  | apply mm_Disk_sync
  | apply mm_Disk_waiting
  | apply mm_Journal_area_of
  | apply mm_Journal_read_record
  | apply mm_Journal_empty_rest
  | apply mm_Journal_recover
  | apply mm_Journal_records
  | apply mm_Journal_has_room
  | apply mm_Journal_write_record
  | apply mm_Journal_checkpoint); walk_at "hp")
local macro_rules | `(tactic| walk_at "cls0") => `(tactic| (with_reducible first
  | apply w0_Disk_size (by assumption)
  | apply w0_Disk_blocks (by assumption)
  | apply w0_Disk_queue (by assumption)
  | apply w0_Disk_left (by assumption)
  | apply w0_Disk_down (by assumption)
  | apply w0_Journal_disk (by assumption)
  | apply w0_Journal_area (by assumption)
  | apply w0_Journal_first (by assumption)
  | apply w0_Journal_next (by assumption)
  | apply w0_Journal_generation (by assumption)
  | apply w0_Journal_number (by assumption)
  | apply w0_Journal_image_number (by assumption)
  | apply w0_Journal_image (by assumption)
  | apply w0_Journal_kept (by assumption)); walk_at "hp")
local macro_rules | `(tactic| walk_at "go") => `(tactic| repeat (first | walk_at "s1" | walk_at "cls"))

/-! ### what a journal's disk says, in plain Lean -/
theorem rdR_ends {s : Nat → Option Bk} {gen start : Nat} : ∀ {k a : Nat} {f : Option (Nat × Nat)} {t : List Nat} {r : Nat × List Nat × Nat}, start ≤ a → rdR s gen start k a f t = some r → a < start + r.2.2
  | 0, _, _, _, _, _, h => by simp [rdR] at h
  | k + 1, a, f, t, r, ha, h => by
    cases hb : s a with
    | none => simp [rdR, hb] at h
    | some b =>
      rw [rdR_step hb] at h
      split at h
      · rename_i hc
        split at h
        · rename_i hl
          have e : r = (b.n, t ++ b.pc, b.m) := (Option.some.inj h).symm
          rw [e]
          have := hc.2.1
          show a < start + b.m
          omega
        · have := rdR_ends (k := k) (a := a + 1) (by omega) h
          omega
      · cases h
theorem rdR_local {s s' : Nat → Option Bk} {gen start : Nat} : ∀ {k a : Nat} {f : Option (Nat × Nat)} {t : List Nat} {r : Nat × List Nat × Nat}, start ≤ a → rdR s gen start k a f t = some r → (∀ c, a ≤ c → c < start + r.2.2 → s' c = s c) → rdR s' gen start k a f t = some r
  | 0, _, _, _, _, _, h, _ => by simp [rdR] at h
  | k + 1, a, f, t, r, ha, h, hs => by
    have hb0 := h
    cases hb : s a with
    | none => simp [rdR, hb] at h
    | some b =>
      rw [rdR_step hb] at h
      split at h
      · rename_i hc
        split at h
        · rename_i hl
          have e : r = (b.n, t ++ b.pc, b.m) := (Option.some.inj h).symm
          have hb' : s' a = some b := by
            rw [hs a (Nat.le_refl _) (by rw [e]; have := hc.2.1; show a < start + b.m; omega)]
            exact hb
          rw [rdR_step hb', if_pos hc, if_pos hl, e]
        · rename_i hl
          have bd := rdR_bounds (k := k) (a := a + 1) (by omega) h
          have hm : a < start + r.2.2 := by
            refine Nat.lt_of_not_le fun z => ?_
            have := rdR_ends (k := k) (a := a + 1) (by omega) h
            omega
          have hb' : s' a = some b := by
            rw [hs a (Nat.le_refl _) hm]
            exact hb
          rw [rdR_step hb', if_pos hc, if_neg hl]
          exact rdR_local (k := k) (by omega) h fun c h1 h2 => hs c (by omega) h2
      · cases h
theorem rd_local {s s' : Nat → Option Bk} {gen start stop : Nat} {r : Nat × List Nat × Nat} (h : rd s gen start stop = some r) (hs : ∀ c, start ≤ c → c < start + r.2.2 → s' c = s c) : rd s' gen start stop = some r := rdR_local (Nat.le_refl _) h hs
theorem rd_none {s : Nat → Option Bk} {gen start stop : Nat} (h : ∀ b, start < stop → s start = some b → b.g ≠ gen) : rd s gen start stop = none := by
  unfold rd
  cases hk : stop - start with
  | zero => rfl
  | succ k =>
    cases hb : s start with
    | none => simp [rdR, hb]
    | some b => rw [rdR_step hb, if_neg fun z => h b (by omega) hb z.1]
/-- blocks put at i .. -/
def sW (s : Nat → Option Bk) (i : Nat) (bs : List Bk) : Nat → Option Bk := fun a => if i ≤ a ∧ a < i + bs.length then bs[a - i]? else s a
def sE (s : Nat → Option Bk) (next : Nat) : Nat → Option Bk := fun a => if next ≤ a then none else s a
theorem sW_out {s : Nat → Option Bk} {i a : Nat} {bs : List Bk} (h : a < i ∨ i + bs.length ≤ a) : sW s i bs a = s a := if_neg (by omega)
theorem sW_in {s : Nat → Option Bk} {i k : Nat} {bs : List Bk} {b : Bk} (h : bs[k]? = some b) : sW s i bs (i + k) = some b := by
  have hl := (List.getElem?_eq_some_iff.mp h).1
  unfold sW
  rw [if_pos (by omega), show i + k - i = k by omega]
  exact h
theorem take_piece (t : List Nat) (i : Nat) : t.take (32 * i) ++ pieceL t i = t.take (32 * (i + 1)) := by
  unfold pieceL
  rw [show 32 * (i + 1) = 32 * i + 32 by omega, List.take_add]
theorem rdR_whole {s : Nat → Option Bk} {g n start : Nat} {t : List Nat} (h : ∀ i, i < pcs t → s (start + i) = some ⟨g, n, i, pcs t, pieceL t i⟩) : ∀ (c i k : Nat) (f : Option (Nat × Nat)), pcs t = i + c + 1 → c < k → (f = none ∨ f = some (n, pcs t)) →
    rdR s g start k (start + i) f (t.take (32 * i)) = some (n, t, pcs t)
  | c, i, 0, f, _, hk, _ => absurd hk (Nat.not_lt_zero _)
  | c, i, k + 1, f, hc, hk, hf => by
    rw [rdR_step (h i (by omega)), if_pos ⟨rfl, by show i = start + i - start; omega, hf⟩]
    dsimp only
    rw [take_piece]
    cases c with
    | zero =>
      rw [if_pos (by omega), List.take_of_length_le]
      unfold pcs at hc
      omega
    | succ c =>
      rw [if_neg (by omega)]
      exact rdR_whole h c (i + 1) k _ (by omega) (by omega) (.inr rfl)
theorem rd_whole {s : Nat → Option Bk} {g n start stop : Nat} {t : List Nat} (h : ∀ i, i < pcs t → s (start + i) = some ⟨g, n, i, pcs t, pieceL t i⟩) (hs : start + pcs t ≤ stop) : rd s g start stop = some (n, t, pcs t) := by
  have := pcs_pos t
  exact rdR_whole h (pcs t - 1) 0 (stop - start) none (by omega) (by omega) (.inl rfl)
theorem rd_put {s : Nat → Option Bk} {g n start stop : Nat} {t : List Nat} (hs : start + pcs t ≤ stop) : rd (sW s start (bks g n t)) g start stop = some (n, t, pcs t) :=
  rd_whole (fun i hi => sW_in (bks_get g n t hi)) hs
theorem logR_le {s : Nat → Option Bk} {gen size : Nat} : ∀ (k a num : Nat), a ≤ (logR s gen size k a num).2
  | 0, _, _ => Nat.le_refl _
  | k + 1, a, num => by
    cases hd : rd s gen a size with
    | none => rw [logR_none hd]; exact Nat.le_refl _
    | some r =>
      by_cases h1 : r.1 = num + 1
      · rw [logR_next hd h1]
        have := logR_le (s := s) (gen := gen) (size := size) k (a + r.2.2) r.1
        show a ≤ (logR s gen size k (a + r.2.2) r.1).2
        omega
      · rw [logR_other hd h1]; exact Nat.le_refl _
theorem logR_end {s : Nat → Option Bk} {gen size : Nat} : ∀ (k a num : Nat), a ≤ size → (logR s gen size k a num).2 ≤ size
  | 0, _, _, h => h
  | k + 1, a, num, h => by
    cases hd : rd s gen a size with
    | none => rw [logR_none hd]; exact h
    | some r =>
      by_cases h1 : r.1 = num + 1
      · rw [logR_next hd h1]
        exact logR_end k (a + r.2.2) r.1 (rd_bounds hd).2
      · rw [logR_other hd h1]; exact h
/-- the log with one more record at its end -/
theorem logR_add {s s' : Nat → Option Bk} {gen size : Nat} {t : List Nat} {m : Nat} : ∀ (k a num : Nat), size - a < k → (∀ c, a ≤ c → c < (logR s gen size k a num).2 → s' c = s c) →
    rd s' gen (logR s gen size k a num).2 size = some (num + (logR s gen size k a num).1.length + 1, t, m) → rd s' gen ((logR s gen size k a num).2 + m) size = none →
    logR s' gen size k a num = ((logR s gen size k a num).1 ++ [(num + (logR s gen size k a num).1.length + 1, t)], (logR s gen size k a num).2 + m)
  | 0, _, _, hk, _, _, _ => absurd hk (Nat.not_lt_zero _)
  | k + 1, a, num, hk, hs, hr, hn => by
    have fin : logR s gen size (k + 1) a num = ([], a) → logR s' gen size (k + 1) a num = ((logR s gen size (k + 1) a num).1 ++ [(num + (logR s gen size (k + 1) a num).1.length + 1, t)], (logR s gen size (k + 1) a num).2 + m) := fun e => by
      rw [e] at hr hn ⊢
      have hr : rd s' gen a size = some (num + 0 + 1, t, m) := hr
      have hn : rd s' gen (a + m) size = none := hn
      have hb := rd_bounds hr
      obtain ⟨k', rfl⟩ : ∃ k', k = k' + 1 := ⟨k - 1, by have := hb.1; have := hb.2; dsimp only at *; omega⟩
      rw [logR_next hr rfl, logR_none hn]
      rfl
    cases hd : rd s gen a size with
    | none => exact fin (logR_none hd)
    | some r =>
      by_cases h1 : r.1 = num + 1
      · have e := logR_next (k := k) hd h1
        rw [e] at hs hr hn ⊢
        dsimp only at hs hr hn ⊢
        have hb := rd_bounds hd
        have hle : a + r.2.2 ≤ (logR s gen size k (a + r.2.2) r.1).2 := logR_le k _ _
        have hd' := rd_local hd (s' := s') fun c c1 c2 => hs c c1 (by omega)
        rw [logR_next hd' h1]
        have ih := logR_add (t := t) (m := m) k (a + r.2.2) r.1 (by omega) (fun c c1 c2 => hs c (by omega) c2) (by
          rw [hr, List.length_cons, h1]
          congr 2
          omega) hn
        rw [ih]
        dsimp only
        rw [List.length_cons, h1, List.cons_append, show num + 1 + (logR s gen size k (a + r.2.2) (num + 1)).1.length + 1 = num + ((logR s gen size k (a + r.2.2) (num + 1)).1.length + 1) + 1 by omega]
      · exact fin (logR_other hd h1)
/-- the same log -/
theorem logR_same {s s' : Nat → Option Bk} {gen size : Nat} : ∀ (k a num : Nat), size - a < k → (∀ c, a ≤ c → c < (logR s gen size k a num).2 → s' c = s c) →
    rd s' gen (logR s gen size k a num).2 size = none → logR s' gen size k a num = logR s gen size k a num
  | 0, _, _, hk, _, _ => absurd hk (Nat.not_lt_zero _)
  | k + 1, a, num, hk, hs, hn => by
    cases hd : rd s gen a size with
    | none =>
      rw [logR_none hd] at hn ⊢
      exact logR_none hn
    | some r =>
      by_cases h1 : r.1 = num + 1
      · have e := logR_next (k := k) hd h1
        rw [e] at hs hn ⊢
        dsimp only at hs hn ⊢
        have hb := rd_bounds hd
        have hle : a + r.2.2 ≤ (logR s gen size k (a + r.2.2) r.1).2 := logR_le k _ _
        rw [logR_next (rd_local hd (s' := s') fun c c1 c2 => hs c c1 (by omega)) h1, logR_same k (a + r.2.2) r.1 (by omega) (fun c c1 c2 => hs c (by omega) c2) hn]
      · rw [logR_other hd h1] at hn ⊢
        exact logR_none hn

end U

set_option Elab.async false
set_option linter.all false
set_option maxRecDepth 100000
set_option maxHeartbeats 4000000
namespace U
open PySem PySem.Spec PyProof.Rows L2
/-! ### stepping: local words (walk_at "..": a word of the library's syntax, given a meaning of our own here) -/
local macro_rules | `(tactic| walk_at "ne") => `(tactic| first
  | assumption
  | exact Ne.symm (by assumption)
  | exact ne_of_none (by assumption) (by assumption)
  | exact (ne_of_none (by assumption) (by assumption)).symm
  | exact ne_of (by assumption) (by assumption) (by intro z; cases z)
  | exact (ne_of (by assumption) (by assumption) (by intro z; cases z)).symm)
local macro_rules | `(tactic| walk_at "hp") => `(tactic| first
  | assumption
  | exact upd_same
  | ((apply hp_ne); (focus (walk_at "ne")); (walk_at "hp"))
  | ((apply hp_ex); assumption; (walk_at "hp")))
local macro_rules | `(tactic| walk_at "sq") => `(tactic| first
  | assumption
  | ((apply Evl.sq_of); (walk_at "hp"))
  | ((apply Evl.st_of); (walk_at "hp"))
  | ((apply Evl.ex_l); assumption; (walk_at "sq"))
  | ((apply Evl.ex_t); assumption; (walk_at "sq")))
local macro_rules | `(tactic| walk_at "sz") => `(tactic| first | (simp only [List.length_cons, List.length_nil]; omega) | omega | decide)
local macro_rules | `(tactic| walk_at "ar") => `(tactic| first | omega | decide | assumption)
local macro_rules | `(tactic| walk_at "s1") => `(tactic| first
  | (with_reducible first
      | refine r_seq ?_ | refine r_asg ?_ | refine r_drop ?_ | refine r_ret ?_ | refine r_retN ?_ | refine r_if ?_ | refine r_next ?_ | refine r_brk ?_ | refine r_cont ?_ | refine r_sFld ?_ | refine r_raise ?_
      | refine r_op ?_ | refine r_cons ?_ | refine r_nil ?_ | refine r_c ?_ | refine r_cb ?_ | refine r_call ?_ | refine r_meth ?_ | refine r_make ?_ | refine r_fld ?_ | refine r_tup ?_ | refine r_lst ?_ | refine r_un ?_
      | refine r_name ?_ | refine r_gCons ?_ | refine r_gNil ?_ | refine r_gSub ?_ | refine r_test ?_ | refine r_B ?_ | refine r_tru ?_ | refine r_and ?_ | refine r_or ?_ | refine r_not ?_ | refine r_chain ?_
      | refine r_andV ?_ | refine r_orV ?_ | refine r_notV ?_ | refine r_if' ?_ | refine r_sl ?_ | refine r_noPart ?_ | refine r_part ?_ | refine r_bm ?_ | refine r_bm0 ?_ | refine r_m1 ?_
      | refine r_exI ?_ | refine r_exB ?_ | refine r_exS ?_
      | refine r_add ?_ | refine r_sub ?_ | refine r_lt ?_ | refine r_le ?_ | refine r_gt ?_ | refine r_ge ?_ | refine r_and2 ?_ | refine r_neg ?_
      | refine r_eqI ?_ | refine r_neI ?_ | refine r_eqS ?_ | refine r_neS ?_ | refine r_eqNI ?_ | refine r_isNN ?_ | refine r_isNI ?_ | refine r_isNR ?_ | refine r_notNN ?_ | refine r_notNI ?_ | refine r_notNR ?_
      | refine r_inS ?_ | refine r_notInS ?_ | refine r_truI ?_ | refine r_truB ?_ | refine r_truN ?_ | refine r_abs ?_ | refine r_max ?_ | refine r_min ?_ | refine r_int ?_ | refine r_intB ?_ | refine r_ord ?_ | refine r_find ?_
      | refine iteT ?_ | refine iteF ?_ | refine if_nf ?_ | refine if_nt ?_ | refine r_mkx ?_ | refine r_mkG ?_ | refine r_gS ?_
      | refine r_forL ?_ | refine r_forT ?_ | refine r_forS ?_ | refine r_forR1 ?_ | refine r_forR2 ?_ | refine r_lc ?_ | refine r_iL ?_ | refine r_iT ?_ | refine r_iS ?_ | refine r_iR1 ?_ | refine r_iR2 ?_ | refine r_iR3 ?_)
  | ((with_reducible apply r_var); (with_unfolding_all rfl))
  | ((with_reducible first | refine r_mod ?_ ?_ | refine r_mul ?_ ?_ | refine r_div ?_ ?_ | refine r_pow ?_ ?_); (first | omega | decide | exact ⟨by omega, by omega⟩ | exact ⟨by decide, by decide⟩ | exact .inr ⟨by omega, by omega⟩ | exact .inl ⟨by omega, by omega⟩ | exact .inr ⟨by decide, by decide⟩ | exact ⟨by decide, by decide, by decide⟩))
  | ((with_reducible first | apply r_tyL | apply r_ixL | apply r_ixT | apply r_lenL | apply r_lenT | apply r_truL | apply r_truT | apply r_gL | apply r_gT); (walk_at "sq"); (try (first | assumption | (exact atI_nat (by assumption)) | rfl)))
  | ((with_reducible first | apply r_gR1 | apply r_gR2 | apply r_addS | apply r_lenS | apply r_str | apply r_repS); (first | omega | decide | exact ⟨by omega, by omega⟩ | exact ⟨⟨by omega, by omega⟩, by omega, by omega⟩ | (exact Nat.le_trans (by assumption) (by decide)) | exact ⟨by omega, by omega, by decide +kernel⟩))
  | ((with_reducible refine ifT ?_ ?_); (walk_at "ar"))
  | ((with_reducible refine ifF ?_ ?_); (walk_at "ar"))
  | ((with_reducible refine ifNT ?_ ?_); (walk_at "ar"))
  | ((with_reducible refine ifNF ?_ ?_); (walk_at "ar")))
local macro_rules | `(tactic| walk_at "go") => `(tactic| repeat (walk_at "s1"))

local macro_rules | `(tactic| walk_at "cls") => `(tactic| (with_reducible first
  | apply g_Disk_size (by assumption)
  | apply w_Disk_size (by assumption)
  | apply g_Disk_blocks (by assumption)
  | apply w_Disk_blocks (by assumption)
  | apply g_Disk_queue (by assumption)
  | apply w_Disk_queue (by assumption)
  | apply g_Disk_left (by assumption)
  | apply w_Disk_left (by assumption)
  | apply g_Disk_down (by assumption)
  | apply w_Disk_down (by assumption)
  | apply g_Journal_disk (by assumption)
  | apply w_Journal_disk (by assumption)
  | apply g_Journal_area (by assumption)
  | apply w_Journal_area (by assumption)
  | apply g_Journal_first (by assumption)
  | apply w_Journal_first (by assumption)
  | apply g_Journal_next (by assumption)
  | apply w_Journal_next (by assumption)
  | apply g_Journal_generation (by assumption)
  | apply w_Journal_generation (by assumption)
  | apply g_Journal_number (by assumption)
  | apply w_Journal_number (by assumption)
  | apply g_Journal_image_number (by assumption)
  | apply w_Journal_image_number (by assumption)
  | apply g_Journal_image (by assumption)
  | apply w_Journal_image (by assumption)
  | apply g_Journal_kept (by assumption)
  | apply w_Journal_kept (by assumption)
  | apply mm_Disk_spend
  | apply mm_Disk_block
  | apply mm_Disk_write
  | apply mm_Disk_sync
  | apply mm_Disk_waiting
  | apply mm_Journal_area_of
  | apply mm_Journal_read_record
  | apply mm_Journal_empty_rest
  | apply mm_Journal_recover
  | apply mm_Journal_records
  | apply mm_Journal_has_room
  | apply mm_Journal_write_record
  | apply mm_Journal_checkpoint); walk_at "hp")
local macro_rules | `(tactic| walk_at "cls0") => `(tactic| (with_reducible first
  | apply w0_Disk_size (by assumption)
  | apply w0_Disk_blocks (by assumption)
  | apply w0_Disk_queue (by assumption)
  | apply w0_Disk_left (by assumption)
  | apply w0_Disk_down (by assumption)
  | apply w0_Journal_disk (by assumption)
  | apply w0_Journal_area (by assumption)
  | apply w0_Journal_first (by assumption)
  | apply w0_Journal_next (by assumption)
  | apply w0_Journal_generation (by assumption)
  | apply w0_Journal_number (by assumption)
  | apply w0_Journal_image_number (by assumption)
  | apply w0_Journal_image (by assumption)
  | apply w0_Journal_kept (by assumption)); walk_at "hp")
local macro_rules | `(tactic| walk_at "go") => `(tactic| repeat (first | walk_at "s1" | walk_at "cls"))

theorem putQ_seen (a : Nat) : ∀ (q : List (Nat × Str)) (bs : List Str), (∀ e ∈ q, e.1 < bs.length) → (putQ bs q).getD a "" = seenQ (bs.getD a "") q a
  | [], _, _ => rfl
  | e :: q, bs, h => by
    have h1 := h e (List.mem_cons_self ..)
    have ih := putQ_seen a q (bs.set e.1 e.2) fun x hx => by rw [List.length_set]; exact h x (List.mem_cons_of_mem _ hx)
    show (putQ (bs.set e.1 e.2) q).getD a "" = seenQ (if e.1 = a then e.2 else bs.getD a "") q a
    rw [ih]
    congr 1
    by_cases he : e.1 = a
    · subst he
      rw [if_pos rfl, List.getD_eq_getElem?_getD, List.getElem?_set_self h1]
      rfl
    · rw [if_neg he, List.getD_eq_getElem?_getD, List.getElem?_set_ne he, List.getD_eq_getElem?_getD]
structure Gd (d : DS) : Prop where
  bl : d.blocks.length = d.size
  ix : ∀ e ∈ d.queue, e.1 < d.size
theorem DOk.gd {d : DS} (h : DOk d) : Gd d := ⟨h.bl, h.ix⟩
theorem wr_gd {d : DS} {i : Nat} {t : Str} (h : Gd d) (hi : i < d.size) (hl : (wr d i t).2 = false) : Gd (wr d i t).1 ∧ (wr d i t).1.size = d.size ∧ ∀ a, (wr d i t).1.seen a = if a = i then t else d.seen a := by
  cases hc : d.cnt.down with
  | true => rw [wr_lost hc] at hl; cases hl
  | false =>
    rw [wr_done hc]
    refine ⟨⟨?_, fun e he => ?_⟩, cnt_size d, fun a => ?_⟩
    · show d.cnt.blocks.length = d.cnt.size
      rw [cnt_blocks, cnt_size]
      exact h.bl
    · show e.1 < d.cnt.size
      rw [cnt_size]
      rcases List.mem_append.mp he with z | z
      · exact h.ix e z
      · rw [List.mem_singleton.mp z]
        exact hi
    · show seenQ (d.cnt.blocks.getD a "") (d.queue ++ [(i, t)]) a = _
      rw [cnt_blocks]
      unfold seenQ
      rw [List.foldl_append]
      show (if i = a then t else _) = _
      by_cases he : a = i
      · rw [if_pos he.symm, if_pos he]
      · rw [if_neg fun z => he z.symm, if_neg he]
        rfl
theorem sy_gd {d : DS} (h : Gd d) (hl : (sy d).2 = false) : Gd (sy d).1 ∧ (sy d).1.size = d.size ∧ (∀ a, (sy d).1.seen a = d.seen a) ∧ (sy d).1.queue = [] := by
  cases hc : d.cnt.down with
  | true => rw [sy_lost hc] at hl; cases hl
  | false =>
    rw [sy_done hc]
    refine ⟨⟨?_, fun e he => by cases he⟩, cnt_size d, fun a => ?_, rfl⟩
    · show (putQ d.blocks d.queue).length = d.cnt.size
      rw [putQ_len, cnt_size]
      exact h.bl
    · show (putQ d.blocks d.queue).getD a "" = _
      rw [putQ_seen a d.queue d.blocks fun e he => by rw [h.bl]; exact h.ix e he]
      rfl
/-- the power is not lost -/
def NoL (d : DS) : Prop := d.left = none ∧ d.down = false
theorem NoL.cnt {d : DS} (h : NoL d) : d.cnt = d := cnt_no (by rw [h.1]; intro z; cases z)
theorem NoL.wr {d : DS} {i : Nat} {t : Str} (h : NoL d) : (wr d i t).2 = false ∧ NoL (wr d i t).1 := by
  have hc : d.cnt.down = false := by rw [h.cnt]; exact h.2
  rw [wr_done hc]
  refine ⟨rfl, ?_, hc⟩
  show d.cnt.left.map _ = none
  rw [h.cnt, h.1]
  rfl
theorem NoL.sy {d : DS} (h : NoL d) : (sy d).2 = false ∧ NoL (sy d).1 := by
  have hc : d.cnt.down = false := by rw [h.cnt]; exact h.2
  rw [sy_done hc]
  refine ⟨rfl, ?_, hc⟩
  show d.cnt.left.map _ = none
  rw [h.cnt, h.1]
  rfl
theorem thn2_false {r : DS × Bool} {f : DS → DS × Bool} (h : (thn2 r f).2 = false) : r.2 = false ∧ (f r.1).2 = false ∧ thn2 r f = f r.1 := by
  cases hr : r.2 with
  | true => rw [thn2_lost hr, hr] at h; cases h
  | false =>
    rw [thn2_on hr] at h ⊢
    exact ⟨rfl, h, rfl⟩
theorem NoL.thn2 {r : DS × Bool} {f : DS → DS × Bool} (h : r.2 = false ∧ NoL r.1) (hf : ∀ d, NoL d → (f d).2 = false ∧ NoL (f d).1) : (thn2 r f).2 = false ∧ NoL (thn2 r f).1 := by
  rw [thn2_on h.1]
  exact hf _ h.2
theorem NoL.wrs : ∀ {ts : List Str} {d : DS} {i : Nat}, NoL d → (wrs d i ts).2 = false ∧ NoL (wrs d i ts).1
  | [], d, i, h => ⟨rfl, h⟩
  | t :: ts, d, i, h => NoL.thn2 h.wr fun d' h' => NoL.wrs (ts := ts) h'
theorem NoL.recW {d : DS} {i : Nat} {bs : List Bk} (h : NoL d) : (recW d i bs).2 = false ∧ NoL (recW d i bs).1 := NoL.thn2 h.wrs fun d' h' => h'.sy
theorem NoL.chkW {d : DS} {i g : Nat} {bs : List Bk} (h : NoL d) : (chkW d i g bs).2 = false ∧ NoL (chkW d i g bs).1 := NoL.thn2 (NoL.thn2 h.recW fun d' h' => h'.wr) fun d' h' => h'.sy
theorem NoL.emp : ∀ {k : Nat} {d : DS} {a : Nat} {f : Bool}, NoL d → (emp d k a f).1.2 = false ∧ NoL (emp d k a f).1.1
  | 0, d, a, f, h => ⟨rfl, h⟩
  | k + 1, d, a, f, h => by
    by_cases hs : d.seen a = ""
    · rw [emp_none hs]
      exact NoL.emp h
    · rw [emp_done hs h.wr.1]
      exact NoL.emp h.wr.2
theorem NoL.empR {d : DS} {next : Nat} (h : NoL d) : (empR d next).2 = false ∧ NoL (empR d next).1 := by
  refine NoL.thn2 h.emp fun d' h' => ?_
  split
  · exact h'.sy
  · exact ⟨rfl, h'⟩
/-- writes of a record's blocks -/
theorem wrs_gd : ∀ {bs : List Bk} {d : DS} {i : Nat} {s : Nat → Option Bk}, Gd d → 1 ≤ i → i + bs.length ≤ d.size → (wrs d i (bs.map Bk.txt)).2 = false → Sees d s → (∀ b ∈ bs, b.Ok) →
    Gd (wrs d i (bs.map Bk.txt)).1 ∧ (wrs d i (bs.map Bk.txt)).1.size = d.size ∧ Sees (wrs d i (bs.map Bk.txt)).1 (sW s i bs) ∧ (wrs d i (bs.map Bk.txt)).1.seen 0 = d.seen 0
  | [], d, i, s, h, hi, hsz, hl, hs, ho => by
    refine ⟨h, rfl, fun a h1 h2 => ?_, rfl⟩
    rw [sW_out (by show a < i ∨ i + 0 ≤ a; omega)]
    exact hs a h1 h2
  | b :: bs, d, i, s, h, hi, hsz, hl, hs, ho => by
    obtain ⟨l1, l2, e⟩ := thn2_false (r := wr d i b.txt) (f := fun d => wrs d (i + 1) (bs.map Bk.txt)) hl
    have hsz' : i + (bs.length + 1) ≤ d.size := hsz
    obtain ⟨g1, g2, g3⟩ := wr_gd h (by omega) l1
    have hs1 : Sees (wr d i b.txt).1 (sW s i [b]) := fun a h1 h2 => by
      rw [g2] at h2
      rw [g3]
      by_cases ha : a = i
      · subst ha
        have e2 : sW s a [b] a = some b := sW_in (k := 0) rfl
        rw [if_pos rfl, e2]
        exact ⟨rfl, fun c hc => by rw [← Option.some.inj hc]; exact ho b (List.mem_cons_self ..)⟩
      · rw [if_neg ha, sW_out (by show a < i ∨ i + 1 ≤ a; omega)]
        exact hs a h1 h2
    obtain ⟨r1, r2, r3, r4⟩ := wrs_gd (bs := bs) (i := i + 1) g1 (by omega) (by rw [g2]; omega) l2 hs1 fun x hx => ho x (List.mem_cons_of_mem _ hx)
    have ew : wrs d i ((b :: bs).map Bk.txt) = wrs (wr d i b.txt).1 (i + 1) (bs.map Bk.txt) := e
    rw [ew]
    refine ⟨r1, r2.trans g2, ?_, ?_⟩
    · have ef : sW s i (b :: bs) = sW (sW s i [b]) (i + 1) bs := by
        funext a
        by_cases ha : i + 1 ≤ a ∧ a < i + 1 + bs.length
        · obtain ⟨k, rfl⟩ : ∃ k, a = i + 1 + k := ⟨a - (i + 1), by omega⟩
          have hk : k < bs.length := by omega
          rw [sW_in (List.getElem?_eq_getElem hk), show i + 1 + k = i + (k + 1) by omega]
          exact sW_in (by simp)
        · rw [sW_out (s := sW s i [b]) (by omega)]
          by_cases hi' : a = i
          · subst hi'
            have e1 : sW s a (b :: bs) a = some b := sW_in (k := 0) rfl
            have e2 : sW s a [b] a = some b := sW_in (k := 0) rfl
            rw [e1, e2]
          · rw [sW_out (by show a < i ∨ i + (bs.length + 1) ≤ a; omega), sW_out (by show a < i ∨ i + 1 ≤ a; omega)]
      rw [ef]
      exact r3
    · rw [r4, g3, if_neg (by omega)]
theorem recW_gd {bs : List Bk} {d : DS} {i : Nat} {s : Nat → Option Bk} (h : Gd d) (hi : 1 ≤ i) (hsz : i + bs.length ≤ d.size) (hl : (recW d i bs).2 = false) (hs : Sees d s) (ho : ∀ b ∈ bs, b.Ok) :
    Gd (recW d i bs).1 ∧ (recW d i bs).1.size = d.size ∧ Sees (recW d i bs).1 (sW s i bs) ∧ (recW d i bs).1.seen 0 = d.seen 0 ∧ (recW d i bs).1.queue = [] := by
  obtain ⟨l1, l2, e⟩ := thn2_false hl
  obtain ⟨a1, a2, a3, a4⟩ := wrs_gd h hi hsz l1 hs ho
  obtain ⟨b1, b2, b3, b4⟩ := sy_gd a1 l2
  have e' : recW d i bs = sy (wrs d i (bs.map Bk.txt)).1 := e
  rw [e']
  refine ⟨b1, b2.trans a2, fun a h1 h2 => ?_, ?_, b4⟩
  · rw [b3]
    exact a3 a h1 (by rw [b2] at h2; exact h2)
  · rw [b3, a4]
theorem chkW_gd {bs : List Bk} {d : DS} {i g : Nat} {s : Nat → Option Bk} (h : Gd d) (hi : 1 ≤ i) (hsz : i + bs.length ≤ d.size) (hl : (chkW d i g bs).2 = false) (hs : Sees d s) (ho : ∀ b ∈ bs, b.Ok) :
    Gd (chkW d i g bs).1 ∧ (chkW d i g bs).1.size = d.size ∧ Sees (chkW d i g bs).1 (sW s i bs) ∧ (chkW d i g bs).1.seen 0 = rootT g ∧ (chkW d i g bs).1.queue = [] := by
  obtain ⟨l1, l2, e⟩ := thn2_false hl
  obtain ⟨l3, l4, e2⟩ := thn2_false l1
  obtain ⟨a1, a2, a3, a4, a5⟩ := recW_gd h hi hsz l3 hs ho
  obtain ⟨w1, w2, w3⟩ := wr_gd a1 (i := 0) (t := rootT g) (by rw [a2]; omega) l4
  have e' : chkW d i g bs = sy (wr (recW d i bs).1 0 (rootT g)).1 := by
    have z : chkW d i g bs = sy (thn2 (recW d i bs) fun d => wr d 0 (rootT g)).1 := e
    rw [z, e2]
  rw [e'] at hl ⊢
  obtain ⟨b1, b2, b3, b4⟩ := sy_gd w1 hl
  refine ⟨b1, b2.trans (w2.trans a2), fun a h1 h2 => ?_, ?_, b4⟩
  · rw [b3, w3, if_neg (by omega)]
    exact a3 a h1 (by rw [b2, w2] at h2; exact h2)
  · rw [b3, w3, if_pos rfl]
theorem emp_true : ∀ (k : Nat) (d : DS) (a : Nat), (emp d k a true).2 = true
  | 0, _, _ => rfl
  | k + 1, d, a => by
    by_cases hs : d.seen a = ""
    · rw [emp_none hs]
      exact emp_true k d _
    · cases hw : (wr d a "").2 with
      | true => rw [emp_lost hs hw]
      | false =>
        rw [emp_done hs hw]
        exact emp_true k _ _
/-- the rest is emptied -/
theorem emp_gd : ∀ {k : Nat} {d : DS} {a : Nat} {f : Bool}, Gd d → a + k ≤ d.size → (emp d k a f).1.2 = false →
    Gd (emp d k a f).1.1 ∧ (emp d k a f).1.1.size = d.size ∧ (∀ c, (emp d k a f).1.1.seen c = if a ≤ c ∧ c < a + k then ("" : Str) else d.seen c) ∧ ((emp d k a f).2 = false → (emp d k a f).1.1.queue = d.queue)
  | 0, d, a, f, h, hsz, hl => ⟨h, rfl, fun c => by rw [if_neg (by omega)]; rfl, fun _ => rfl⟩
  | k + 1, d, a, f, h, hsz, hl => by
    by_cases hs : d.seen a = ""
    · rw [emp_none hs] at hl ⊢
      obtain ⟨r1, r2, r3, r4⟩ := emp_gd (k := k) (a := a + 1) h (by omega) hl
      refine ⟨r1, r2, fun c => ?_, r4⟩
      rw [r3]
      by_cases hc : c = a
      · subst hc
        rw [if_neg (by omega), if_pos (by omega), hs]
      · by_cases hc2 : a + 1 ≤ c ∧ c < a + 1 + k
        · rw [if_pos hc2, if_pos (by omega)]
        · rw [if_neg hc2, if_neg (by omega)]
    · cases hw : (wr d a "").2 with
      | true => rw [emp_lost hs hw] at hl; rw [hw] at hl; cases hl
      | false =>
        rw [emp_done hs hw] at hl ⊢
        obtain ⟨g1, g2, g3⟩ := wr_gd h (by omega) hw
        obtain ⟨r1, r2, r3, r4⟩ := emp_gd (k := k) (a := a + 1) (f := true) g1 (by rw [g2]; omega) hl
        refine ⟨r1, r2.trans g2, fun c => ?_, fun z => ?_⟩
        · rw [r3, g3]
          by_cases hc : c = a
          · subst hc
            rw [if_neg (by omega), if_pos rfl, if_pos (by omega)]
          · by_cases hc2 : a + 1 ≤ c ∧ c < a + 1 + k
            · rw [if_pos hc2, if_pos (by omega)]
            · rw [if_neg hc2, if_neg hc, if_neg (by omega)]
        · exact bx (emp_true k _ _) z
theorem empR_gd {d : DS} {next : Nat} {s : Nat → Option Bk} (h : Gd d) (hn1 : 1 ≤ next) (hn : next ≤ d.size) (hl : (empR d next).2 = false) (hs : Sees d s) (hq : d.queue = []) :
    Gd (empR d next).1 ∧ (empR d next).1.size = d.size ∧ Sees (empR d next).1 (sE s next) ∧ (empR d next).1.seen 0 = d.seen 0 ∧ (empR d next).1.queue = [] := by
  obtain ⟨l1, l2, e⟩ := thn2_false hl
  obtain ⟨a1, a2, a3, a4⟩ := emp_gd h (by omega) l1
  have sees : Sees (emp d (d.size - next) next false).1.1 (sE s next) := fun c h1 h2 => by
    rw [a2] at h2
    rw [a3]
    unfold sE
    by_cases hc : next ≤ c
    · rw [if_pos (by omega), if_pos hc]
      exact ⟨rfl, fun b z => by cases z⟩
    · rw [if_neg (by omega), if_neg hc]
      exact hs c h1 h2
  have s0 : (emp d (d.size - next) next false).1.1.seen 0 = d.seen 0 := by rw [a3, if_neg (by omega)]
  have e' : empR d next = if (emp d (d.size - next) next false).2 = true then sy (emp d (d.size - next) next false).1.1 else ((emp d (d.size - next) next false).1.1, false) := e
  cases hf : (emp d (d.size - next) next false).2 with
  | true =>
    rw [if_pos hf] at e'
    rw [e'] at hl ⊢
    obtain ⟨b1, b2, b3, b4⟩ := sy_gd a1 hl
    refine ⟨b1, b2.trans a2, fun a h1 h2 => ?_, by rw [b3, s0], b4⟩
    rw [b3]
    exact sees a h1 (by rw [b2] at h2; exact h2)
  | false =>
    rw [if_neg (by rw [hf]; exact Bool.false_ne_true)] at e'
    rw [e']
    exact ⟨a1, a2, sees, s0, (a4 hf).trans hq⟩

end U

set_option Elab.async false
set_option linter.all false
set_option maxRecDepth 100000
set_option maxHeartbeats 4000000
namespace U
open PySem PySem.Spec PyProof.Rows L2
/-! ### stepping: local words (walk_at "..": a word of the library's syntax, given a meaning of our own here) -/
local macro_rules | `(tactic| walk_at "ne") => `(tactic| first
  | assumption
  | exact Ne.symm (by assumption)
  | exact ne_of_none (by assumption) (by assumption)
  | exact (ne_of_none (by assumption) (by assumption)).symm
  | exact ne_of (by assumption) (by assumption) (by intro z; cases z)
  | exact (ne_of (by assumption) (by assumption) (by intro z; cases z)).symm)
local macro_rules | `(tactic| walk_at "hp") => `(tactic| first
  | assumption
  | exact upd_same
  | ((apply hp_ne); (focus (walk_at "ne")); (walk_at "hp"))
  | ((apply hp_ex); assumption; (walk_at "hp")))
local macro_rules | `(tactic| walk_at "sq") => `(tactic| first
  | assumption
  | ((apply Evl.sq_of); (walk_at "hp"))
  | ((apply Evl.st_of); (walk_at "hp"))
  | ((apply Evl.ex_l); assumption; (walk_at "sq"))
  | ((apply Evl.ex_t); assumption; (walk_at "sq")))
local macro_rules | `(tactic| walk_at "sz") => `(tactic| first | (simp only [List.length_cons, List.length_nil]; omega) | omega | decide)
local macro_rules | `(tactic| walk_at "ar") => `(tactic| first | omega | decide | assumption)
local macro_rules | `(tactic| walk_at "s1") => `(tactic| first
  | (with_reducible first
      | refine r_seq ?_ | refine r_asg ?_ | refine r_drop ?_ | refine r_ret ?_ | refine r_retN ?_ | refine r_if ?_ | refine r_next ?_ | refine r_brk ?_ | refine r_cont ?_ | refine r_sFld ?_ | refine r_raise ?_
      | refine r_op ?_ | refine r_cons ?_ | refine r_nil ?_ | refine r_c ?_ | refine r_cb ?_ | refine r_call ?_ | refine r_meth ?_ | refine r_make ?_ | refine r_fld ?_ | refine r_tup ?_ | refine r_lst ?_ | refine r_un ?_
      | refine r_name ?_ | refine r_gCons ?_ | refine r_gNil ?_ | refine r_gSub ?_ | refine r_test ?_ | refine r_B ?_ | refine r_tru ?_ | refine r_and ?_ | refine r_or ?_ | refine r_not ?_ | refine r_chain ?_
      | refine r_andV ?_ | refine r_orV ?_ | refine r_notV ?_ | refine r_if' ?_ | refine r_sl ?_ | refine r_noPart ?_ | refine r_part ?_ | refine r_bm ?_ | refine r_bm0 ?_ | refine r_m1 ?_
      | refine r_exI ?_ | refine r_exB ?_ | refine r_exS ?_
      | refine r_add ?_ | refine r_sub ?_ | refine r_lt ?_ | refine r_le ?_ | refine r_gt ?_ | refine r_ge ?_ | refine r_and2 ?_ | refine r_neg ?_
      | refine r_eqI ?_ | refine r_neI ?_ | refine r_eqS ?_ | refine r_neS ?_ | refine r_eqNI ?_ | refine r_isNN ?_ | refine r_isNI ?_ | refine r_isNR ?_ | refine r_notNN ?_ | refine r_notNI ?_ | refine r_notNR ?_
      | refine r_inS ?_ | refine r_notInS ?_ | refine r_truI ?_ | refine r_truB ?_ | refine r_truN ?_ | refine r_abs ?_ | refine r_max ?_ | refine r_min ?_ | refine r_int ?_ | refine r_intB ?_ | refine r_ord ?_ | refine r_find ?_
      | refine iteT ?_ | refine iteF ?_ | refine if_nf ?_ | refine if_nt ?_ | refine r_mkx ?_ | refine r_mkG ?_ | refine r_gS ?_
      | refine r_forL ?_ | refine r_forT ?_ | refine r_forS ?_ | refine r_forR1 ?_ | refine r_forR2 ?_ | refine r_lc ?_ | refine r_iL ?_ | refine r_iT ?_ | refine r_iS ?_ | refine r_iR1 ?_ | refine r_iR2 ?_ | refine r_iR3 ?_)
  | ((with_reducible apply r_var); (with_unfolding_all rfl))
  | ((with_reducible first | refine r_mod ?_ ?_ | refine r_mul ?_ ?_ | refine r_div ?_ ?_ | refine r_pow ?_ ?_); (first | omega | decide | exact ⟨by omega, by omega⟩ | exact ⟨by decide, by decide⟩ | exact .inr ⟨by omega, by omega⟩ | exact .inl ⟨by omega, by omega⟩ | exact .inr ⟨by decide, by decide⟩ | exact ⟨by decide, by decide, by decide⟩))
  | ((with_reducible first | apply r_tyL | apply r_ixL | apply r_ixT | apply r_lenL | apply r_lenT | apply r_truL | apply r_truT | apply r_gL | apply r_gT); (walk_at "sq"); (try (first | assumption | (exact atI_nat (by assumption)) | rfl)))
  | ((with_reducible first | apply r_gR1 | apply r_gR2 | apply r_addS | apply r_lenS | apply r_str | apply r_repS); (first | omega | decide | exact ⟨by omega, by omega⟩ | exact ⟨⟨by omega, by omega⟩, by omega, by omega⟩ | (exact Nat.le_trans (by assumption) (by decide)) | exact ⟨by omega, by omega, by decide +kernel⟩))
  | ((with_reducible refine ifT ?_ ?_); (walk_at "ar"))
  | ((with_reducible refine ifF ?_ ?_); (walk_at "ar"))
  | ((with_reducible refine ifNT ?_ ?_); (walk_at "ar"))
  | ((with_reducible refine ifNF ?_ ?_); (walk_at "ar")))
local macro_rules | `(tactic| walk_at "go") => `(tactic| repeat (walk_at "s1"))

local macro_rules | `(tactic| walk_at "cls") => `(tactic| (with_reducible first
  | apply g_Disk_size (by assumption)
  | apply w_Disk_size (by assumption)
  | apply g_Disk_blocks (by assumption)
  | apply w_Disk_blocks (by assumption)
  | apply g_Disk_queue (by assumption)
  | apply w_Disk_queue (by assumption)
  | apply g_Disk_left (by assumption)
  | apply w_Disk_left (by assumption)
  | apply g_Disk_down (by assumption)
  | apply w_Disk_down (by assumption)
  | apply g_Journal_disk (by assumption)
  | apply w_Journal_disk (by assumption)
  | apply g_Journal_area (by assumption)
  | apply w_Journal_area (by assumption)
  | apply g_Journal_first (by assumption)
  | apply w_Journal_first (by assumption)
  | apply g_Journal_next (by assumption)
  | apply w_Journal_next (by assumption)
  | apply g_Journal_generation (by assumption)
  | apply w_Journal_generation (by assumption)
  | apply g_Journal_number (by assumption)
  | apply w_Journal_number (by assumption)
  | apply g_Journal_image_number (by assumption)
  | apply w_Journal_image_number (by assumption)
  | apply g_Journal_image (by assumption)
  | apply w_Journal_image (by assumption)
  | apply g_Journal_kept (by assumption)
  | apply w_Journal_kept (by assumption)
  | apply mm_Disk_spend
  | apply mm_Disk_block
  | apply mm_Disk_write
  | apply mm_Disk_sync
  | apply mm_Disk_waiting
  | apply mm_Journal_area_of
  | apply mm_Journal_read_record
  | apply mm_Journal_empty_rest
  | apply mm_Journal_recover
  | apply mm_Journal_records
  | apply mm_Journal_has_room
  | apply mm_Journal_write_record
  | apply mm_Journal_checkpoint); walk_at "hp")
local macro_rules | `(tactic| walk_at "cls0") => `(tactic| (with_reducible first
  | apply w0_Disk_size (by assumption)
  | apply w0_Disk_blocks (by assumption)
  | apply w0_Disk_queue (by assumption)
  | apply w0_Disk_left (by assumption)
  | apply w0_Disk_down (by assumption)
  | apply w0_Journal_disk (by assumption)
  | apply w0_Journal_area (by assumption)
  | apply w0_Journal_first (by assumption)
  | apply w0_Journal_next (by assumption)
  | apply w0_Journal_generation (by assumption)
  | apply w0_Journal_number (by assumption)
  | apply w0_Journal_image_number (by assumption)
  | apply w0_Journal_image (by assumption)
  | apply w0_Journal_kept (by assumption)); walk_at "hp")
local macro_rules | `(tactic| walk_at "go") => `(tactic| repeat (first | walk_at "s1" | walk_at "cls"))

theorem Sx_tl' (z : Str) : Sx z.cps.toList = z := TL.ext_tl rfl
/-- the disk of a journal that stands at x -/
structure JI (d : DS) (s : Nat → Option Bk) (x : JS) : Prop where
  ar : x.area = (d.size - 1) / 3
  sz : 1 ≤ d.size
  see : Sees d s
  root : RootIs d s x.area x.gen x.inum x.image.cps.toList
  rec_ : recJ s d.size x.area x.gen x.inum x.image.cps.toList = x
  old : ∀ a b, 1 ≤ a → a < d.size → s a = some b → b.g ≤ x.gen
  rest : ∀ a b, x.next ≤ a → a < d.size → s a = some b → b.g < x.gen
theorem JI.fi {d : DS} {s : Nat → Option Bk} {x : JS} (I : JI d s x) : x.first = 2 * x.area + 1 := by
  have := congrArg JS.first I.rec_
  exact this.symm
theorem JI.nx {d : DS} {s : Nat → Option Bk} {x : JS} (I : JI d s x) : x.first ≤ x.next ∧ x.next ≤ d.size := by
  have h1 : (logR s x.gen d.size d.size (2 * x.area + 1) x.inum).2 = x.next := congrArg JS.next I.rec_
  have ha := I.ar
  have hs := I.sz
  rw [I.fi, ← h1]
  exact ⟨logR_le _ _ _, logR_end _ _ _ (by omega)⟩
theorem JI.num {d : DS} {s : Nat → Option Bk} {x : JS} (I : JI d s x) : x.num = x.inum + x.kept.length := by
  have h1 : x.inum + (logR s x.gen d.size d.size (2 * x.area + 1) x.inum).1.length = x.num := congrArg JS.num I.rec_
  have h2 : (logR s x.gen d.size d.size (2 * x.area + 1) x.inum).1.map (fun e => (e.1, Sx e.2)) = x.kept := congrArg JS.kept I.rec_
  rw [← h1, ← h2, List.length_map]
theorem JI.log {d : DS} {s : Nat → Option Bk} {x : JS} (I : JI d s x) : ∃ L, logR s x.gen d.size d.size (2 * x.area + 1) x.inum = (L, x.next) ∧ x.kept = L.map fun e => (e.1, Sx e.2) := by
  have h1 : (logR s x.gen d.size d.size (2 * x.area + 1) x.inum).2 = x.next := congrArg JS.next I.rec_
  have h2 : (logR s x.gen d.size d.size (2 * x.area + 1) x.inum).1.map (fun e => (e.1, Sx e.2)) = x.kept := congrArg JS.kept I.rec_
  exact ⟨_, by rw [← h1], h2.symm⟩
theorem recJ_of {s : Nat → Option Bk} {size : Nat} {x : JS} {L : List (Nat × List Nat)} (hl : logR s x.gen size size (2 * x.area + 1) x.inum = (L, x.next)) (hf : x.first = 2 * x.area + 1) (hn : x.num = x.inum + L.length) (hk : x.kept = L.map fun e => (e.1, Sx e.2)) :
    recJ s size x.area x.gen x.inum x.image.cps.toList = x := by
  obtain ⟨area, first, next, gen, num, inum, image, kept⟩ := x
  dsimp only at *
  subst hf hn hk
  unfold recJ
  rw [hl, Sx_tl']
/-- what a record at start reads as depends on the blocks from start on, below stop -/
theorem rdR_congr {s s' : Nat → Option Bk} {gen start : Nat} : ∀ {k a : Nat} {f : Option (Nat × Nat)} {t : List Nat}, (∀ c, a ≤ c → c < a + k → s' c = s c) → rdR s' gen start k a f t = rdR s gen start k a f t
  | 0, _, _, _, _ => rfl
  | k + 1, a, f, t, h => by
    have h0 := h a (Nat.le_refl _) (by omega)
    cases hb : s a with
    | none => simp only [rdR, hb, h0.trans hb]
    | some b =>
      rw [rdR_step hb, rdR_step (h0.trans hb)]
      rw [rdR_congr (k := k) (a := a + 1) fun c h1 h2 => h c (by omega) (by omega)]
theorem rd_congr {s s' : Nat → Option Bk} {gen start stop : Nat} (h : ∀ c, start ≤ c → c < stop → s' c = s c) : rd s' gen start stop = rd s gen start stop := rdR_congr fun c h1 h2 => h c h1 (by omega)
theorem areaOf_in {a g : Nat} : 1 ≤ areaOf a g ∧ areaOf a g + a ≤ 2 * a + 1 := by unfold areaOf; split <;> omega
theorem RootIs.of {d d' : DS} {s s' : Nat → Option Bk} {area gen inum : Nat} {img : List Nat} (h : RootIs d s area gen inum img) (h0 : d'.seen 0 = d.seen 0) (hs : ∀ c, 1 ≤ c → c < 2 * area + 1 → s' c = s c) : RootIs d' s' area gen inum img := by
  rcases h with ⟨a, b⟩ | ⟨a, b, m, c⟩
  · exact .inl ⟨h0.trans a, b⟩
  · have := areaOf_in (a := area) (g := gen)
    exact .inr ⟨h0.trans a, b, m, by rw [rd_congr fun c h1 h2 => hs c (by omega) (by omega)]; exact c⟩
/-- a new journal on an empty disk -/
theorem JI.fresh {d : DS} (h1 : 1 ≤ d.size) (hd : ∀ a, d.seen a = "") : JI d (fun _ => none) (freshJ ((d.size - 1) / 3)) :=
  ⟨rfl, h1, fun a _ _ => ⟨hd a, fun b z => by cases z⟩, .inl ⟨hd 0, rfl, rfl, by show ("" : Str).cps.toList = []; decide +kernel⟩, by
    refine recJ_of (L := []) ?_ rfl rfl rfl
    show logR _ 0 d.size d.size _ 0 = _
    obtain ⟨k, hk⟩ : ∃ k, d.size = k + 1 := ⟨d.size - 1, by omega⟩
    rw [hk]
    exact logR_none (rd_none fun b _ z => by cases z), fun _ _ _ _ z => (by cases z), fun _ _ _ _ z => (by cases z)⟩
/-- a record is written -/
theorem JI.add {d d' : DS} {s : Nat → Option Bk} {x : JS} {t : Str} (I : JI d s x) (hr : x.next + pcs t.cps.toList ≤ d.size) (h1 : d'.size = d.size) (h2 : Sees d' (sW s x.next (bks x.gen (x.num + 1) t.cps.toList))) (h3 : d'.seen 0 = d.seen 0) : JI d' (sW s x.next (bks x.gen (x.num + 1) t.cps.toList)) (addJ x t) := by
  have hbl := bks_len x.gen (x.num + 1) t.cps.toList
  obtain ⟨n1, n2⟩ := I.nx
  have hfi := I.fi
  obtain ⟨L, hL, hK⟩ := I.log
  have hnum := I.num
  have hkl : x.kept.length = L.length := by rw [hK, List.length_map]
  have hsz := I.sz
  have har := I.ar
  have inw : ∀ a b, sW s x.next (bks x.gen (x.num + 1) t.cps.toList) a = some b → b.g ≤ x.gen ∧ x.next ≤ a ∧ a < x.next + pcs t.cps.toList ∨ s a = some b ∧ (a < x.next ∨ x.next + pcs t.cps.toList ≤ a) := fun a b hab => by
    by_cases hin : x.next ≤ a ∧ a < x.next + pcs t.cps.toList
    · obtain ⟨k, rfl⟩ : ∃ k, a = x.next + k := ⟨a - x.next, by omega⟩
      rw [sW_in (bks_get _ _ _ (k := k) (by omega))] at hab
      rw [← Option.some.inj hab]
      exact .inl ⟨Nat.le_refl _, by omega, by omega⟩
    · rw [sW_out (by omega)] at hab
      exact .inr ⟨hab, by omega⟩
  refine ⟨by rw [h1]; exact I.ar, by rw [h1]; exact I.sz, h2, I.root.of h3 fun c c1 c2 => sW_out (.inl (by omega)), ?_, fun a b a1 a2 hab => ?_, fun a b a1 a2 hab => ?_⟩
  · rw [h1]
    refine recJ_of (x := addJ x t) (L := L ++ [(x.num + 1, t.cps.toList)]) ?_ hfi ?_ ?_
    · show logR _ x.gen d.size d.size (2 * x.area + 1) x.inum = (_, x.next + pcs t.cps.toList)
      have := logR_add (s := s) (s' := sW s x.next (bks x.gen (x.num + 1) t.cps.toList)) (gen := x.gen) (size := d.size) (t := t.cps.toList) (m := pcs t.cps.toList) d.size (2 * x.area + 1) x.inum (by omega)
      rw [hL] at this
      dsimp only at this
      rw [show x.inum + L.length + 1 = x.num + 1 by omega] at this
      exact this (fun c c1 c2 => sW_out (.inl c2)) (rd_put hr) (rd_none fun b b1 b2 => by
        rw [sW_out (by omega)] at b2
        exact Nat.ne_of_lt (I.rest _ b (by omega) b1 b2))
    · show x.num + 1 = x.inum + (L ++ _).length
      rw [List.length_append]
      show x.num + 1 = x.inum + (L.length + 1)
      omega
    · show x.kept ++ [(x.num + 1, t)] = _
      rw [List.map_append, ← hK]
      show _ = x.kept ++ [(x.num + 1, Sx t.cps.toList)]
      rw [Sx_tl']
  · rcases inw a b hab with ⟨z, _⟩ | ⟨z, _⟩
    · exact z
    · exact I.old a b a1 (by rw [← h1]; exact a2) z
  · have a1 : x.next + pcs t.cps.toList ≤ a := a1
    rcases inw a b hab with ⟨_, z⟩ | ⟨z, _⟩
    · omega
    · exact I.rest a b (by omega) (by rw [← h1]; exact a2) z
/-- a checkpoint is written -/
theorem JI.chk {d d' : DS} {s : Nat → Option Bk} {x : JS} {t : Str} (I : JI d s x) (hg : x.gen + 1 < 1000000) (hr : pcs t.cps.toList ≤ x.area) (h1 : d'.size = d.size) (h2 : Sees d' (sW s (areaOf x.area (x.gen + 1)) (bks (x.gen + 1) x.num t.cps.toList))) (h3 : d'.seen 0 = rootT (x.gen + 1)) : JI d' (sW s (areaOf x.area (x.gen + 1)) (bks (x.gen + 1) x.num t.cps.toList)) (chkJ x t) := by
  have hbl := bks_len (x.gen + 1) x.num t.cps.toList
  obtain ⟨n1, n2⟩ := I.nx
  have hfi := I.fi
  have hsz := I.sz
  have har := I.ar
  have hai := areaOf_in (a := x.area) (g := x.gen + 1)
  obtain ⟨st, hst⟩ : ∃ st, st = areaOf x.area (x.gen + 1) := ⟨_, rfl⟩
  rw [← hst] at h2 hai ⊢
  have outw : ∀ a, 2 * x.area + 1 ≤ a → sW s st (bks (x.gen + 1) x.num t.cps.toList) a = s a := fun a ha => sW_out (.inr (by omega))
  refine ⟨by rw [h1]; exact I.ar, by rw [h1]; exact I.sz, h2, .inr ⟨h3, hg, pcs t.cps.toList, ?_⟩, ?_, fun a b a1 a2 hab => ?_, fun a b a1 a2 hab => ?_⟩
  · show rd _ (x.gen + 1) (areaOf x.area (x.gen + 1)) (areaOf x.area (x.gen + 1) + x.area) = _
    rw [← hst]
    exact rd_put (by omega)
  · rw [h1]
    refine recJ_of (x := chkJ x t) (L := []) ?_ hfi rfl rfl
    show logR _ (x.gen + 1) d.size d.size (2 * x.area + 1) x.num = ([], x.first)
    obtain ⟨k, hk⟩ : ∃ k, d.size = k + 1 := ⟨d.size - 1, by omega⟩
    have hn : rd (sW s st (bks (x.gen + 1) x.num t.cps.toList)) (x.gen + 1) (2 * x.area + 1) d.size = none := rd_none fun b b1 b2 => by
      rw [outw _ (Nat.le_refl _)] at b2
      exact Nat.ne_of_lt (Nat.lt_succ_of_le (I.old _ b (by omega) b1 b2))
    rw [hk] at hn ⊢
    rw [logR_none hn, hfi]
  · show b.g ≤ x.gen + 1
    by_cases hin : st ≤ a ∧ a < st + pcs t.cps.toList
    · obtain ⟨k, rfl⟩ : ∃ k, a = st + k := ⟨a - st, by omega⟩
      rw [sW_in (bks_get _ _ _ (k := k) (by omega))] at hab
      rw [← Option.some.inj hab]
      exact Nat.le_refl _
    · rw [sW_out (by omega)] at hab
      exact Nat.le_succ_of_le (I.old a b a1 (by rw [← h1]; exact a2) hab)
  · show b.g < x.gen + 1
    have a1 : x.first ≤ a := a1
    rw [outw a (by omega)] at hab
    exact Nat.lt_succ_of_le (I.old a b (by omega) (by rw [← h1]; exact a2) hab)
/-- a new journal on the disk -/
theorem JI.again {d d' : DS} {s : Nat → Option Bk} {x : JS} (I : JI d s x) (h1 : d'.size = d.size) (h2 : Sees d' (sE s x.next)) (h3 : d'.seen 0 = d.seen 0) : JI d' (sE s x.next) x := by
  obtain ⟨n1, n2⟩ := I.nx
  have hfi := I.fi
  have hsz := I.sz
  have har := I.ar
  obtain ⟨L, hL, hK⟩ := I.log
  have lo : ∀ c, c < x.next → sE s x.next c = s c := fun c hc => if_neg (by omega)
  have hi : ∀ c, x.next ≤ c → sE s x.next c = none := fun c hc => if_pos hc
  refine ⟨by rw [h1]; exact I.ar, by rw [h1]; exact I.sz, h2, I.root.of h3 fun c c1 c2 => lo c (by omega), ?_, fun a b a1 a2 hab => ?_, fun a b a1 a2 hab => ?_⟩
  · rw [h1]
    refine recJ_of (L := L) ?_ hfi (by rw [I.num, hK, List.length_map]) hK
    have := logR_same (s := s) (s' := sE s x.next) (gen := x.gen) (size := d.size) d.size (2 * x.area + 1) x.inum (by omega)
    rw [hL] at this
    exact this (fun c c1 c2 => lo c c2) (rd_none fun b b1 b2 => by rw [hi _ (Nat.le_refl _)] at b2; cases b2)
  · by_cases hc : x.next ≤ a
    · rw [hi a hc] at hab; cases hab
    · rw [lo a (by omega)] at hab
      exact I.old a b a1 (by rw [← h1]; exact a2) hab
  · rw [hi a a1] at hab
    cases hab

end U

set_option Elab.async false
set_option linter.all false
set_option maxRecDepth 100000
set_option maxHeartbeats 4000000
namespace U
open PySem PySem.Spec PyProof.Rows L2
/-! ### stepping: local words (walk_at "..": a word of the library's syntax, given a meaning of our own here) -/
local macro_rules | `(tactic| walk_at "ne") => `(tactic| first
  | assumption
  | exact Ne.symm (by assumption)
  | exact ne_of_none (by assumption) (by assumption)
  | exact (ne_of_none (by assumption) (by assumption)).symm
  | exact ne_of (by assumption) (by assumption) (by intro z; cases z)
  | exact (ne_of (by assumption) (by assumption) (by intro z; cases z)).symm)
local macro_rules | `(tactic| walk_at "hp") => `(tactic| first
  | assumption
  | exact upd_same
  | ((apply hp_ne); (focus (walk_at "ne")); (walk_at "hp"))
  | ((apply hp_ex); assumption; (walk_at "hp")))
local macro_rules | `(tactic| walk_at "sq") => `(tactic| first
  | assumption
  | ((apply Evl.sq_of); (walk_at "hp"))
  | ((apply Evl.st_of); (walk_at "hp"))
  | ((apply Evl.ex_l); assumption; (walk_at "sq"))
  | ((apply Evl.ex_t); assumption; (walk_at "sq")))
local macro_rules | `(tactic| walk_at "sz") => `(tactic| first | (simp only [List.length_cons, List.length_nil]; omega) | omega | decide)
local macro_rules | `(tactic| walk_at "ar") => `(tactic| first | omega | decide | assumption)
local macro_rules | `(tactic| walk_at "s1") => `(tactic| first
  | (with_reducible first
      | refine r_seq ?_ | refine r_asg ?_ | refine r_drop ?_ | refine r_ret ?_ | refine r_retN ?_ | refine r_if ?_ | refine r_next ?_ | refine r_brk ?_ | refine r_cont ?_ | refine r_sFld ?_ | refine r_raise ?_
      | refine r_op ?_ | refine r_cons ?_ | refine r_nil ?_ | refine r_c ?_ | refine r_cb ?_ | refine r_call ?_ | refine r_meth ?_ | refine r_make ?_ | refine r_fld ?_ | refine r_tup ?_ | refine r_lst ?_ | refine r_un ?_
      | refine r_name ?_ | refine r_gCons ?_ | refine r_gNil ?_ | refine r_gSub ?_ | refine r_test ?_ | refine r_B ?_ | refine r_tru ?_ | refine r_and ?_ | refine r_or ?_ | refine r_not ?_ | refine r_chain ?_
      | refine r_andV ?_ | refine r_orV ?_ | refine r_notV ?_ | refine r_if' ?_ | refine r_sl ?_ | refine r_noPart ?_ | refine r_part ?_ | refine r_bm ?_ | refine r_bm0 ?_ | refine r_m1 ?_
      | refine r_exI ?_ | refine r_exB ?_ | refine r_exS ?_
      | refine r_add ?_ | refine r_sub ?_ | refine r_lt ?_ | refine r_le ?_ | refine r_gt ?_ | refine r_ge ?_ | refine r_and2 ?_ | refine r_neg ?_
      | refine r_eqI ?_ | refine r_neI ?_ | refine r_eqS ?_ | refine r_neS ?_ | refine r_eqNI ?_ | refine r_isNN ?_ | refine r_isNI ?_ | refine r_isNR ?_ | refine r_notNN ?_ | refine r_notNI ?_ | refine r_notNR ?_
      | refine r_inS ?_ | refine r_notInS ?_ | refine r_truI ?_ | refine r_truB ?_ | refine r_truN ?_ | refine r_abs ?_ | refine r_max ?_ | refine r_min ?_ | refine r_int ?_ | refine r_intB ?_ | refine r_ord ?_ | refine r_find ?_
      | refine iteT ?_ | refine iteF ?_ | refine if_nf ?_ | refine if_nt ?_ | refine r_mkx ?_ | refine r_mkG ?_ | refine r_gS ?_
      | refine r_forL ?_ | refine r_forT ?_ | refine r_forS ?_ | refine r_forR1 ?_ | refine r_forR2 ?_ | refine r_lc ?_ | refine r_iL ?_ | refine r_iT ?_ | refine r_iS ?_ | refine r_iR1 ?_ | refine r_iR2 ?_ | refine r_iR3 ?_)
  | ((with_reducible apply r_var); (with_unfolding_all rfl))
  | ((with_reducible first | refine r_mod ?_ ?_ | refine r_mul ?_ ?_ | refine r_div ?_ ?_ | refine r_pow ?_ ?_); (first | omega | decide | exact ⟨by omega, by omega⟩ | exact ⟨by decide, by decide⟩ | exact .inr ⟨by omega, by omega⟩ | exact .inl ⟨by omega, by omega⟩ | exact .inr ⟨by decide, by decide⟩ | exact ⟨by decide, by decide, by decide⟩))
  | ((with_reducible first | apply r_tyL | apply r_ixL | apply r_ixT | apply r_lenL | apply r_lenT | apply r_truL | apply r_truT | apply r_gL | apply r_gT); (walk_at "sq"); (try (first | assumption | (exact atI_nat (by assumption)) | rfl)))
  | ((with_reducible first | apply r_gR1 | apply r_gR2 | apply r_addS | apply r_lenS | apply r_str | apply r_repS); (first | omega | decide | exact ⟨by omega, by omega⟩ | exact ⟨⟨by omega, by omega⟩, by omega, by omega⟩ | (exact Nat.le_trans (by assumption) (by decide)) | exact ⟨by omega, by omega, by decide +kernel⟩))
  | ((with_reducible refine ifT ?_ ?_); (walk_at "ar"))
  | ((with_reducible refine ifF ?_ ?_); (walk_at "ar"))
  | ((with_reducible refine ifNT ?_ ?_); (walk_at "ar"))
  | ((with_reducible refine ifNF ?_ ?_); (walk_at "ar")))
local macro_rules | `(tactic| walk_at "go") => `(tactic| repeat (walk_at "s1"))

local macro_rules | `(tactic| walk_at "cls") => `(tactic| (with_reducible first
  | apply g_Disk_size (by assumption)
  | apply w_Disk_size (by assumption)
  | apply g_Disk_blocks (by assumption)
  | apply w_Disk_blocks (by assumption)
  | apply g_Disk_queue (by assumption)
  | apply w_Disk_queue (by assumption)
  | apply g_Disk_left (by assumption)
  | apply w_Disk_left (by assumption)
  | apply g_Disk_down (by assumption)
  | apply w_Disk_down (by assumption)
  | apply g_Journal_disk (by assumption)
  | apply w_Journal_disk (by assumption)
  | apply g_Journal_area (by assumption)
  | apply w_Journal_area (by assumption)
  | apply g_Journal_first (by assumption)
  | apply w_Journal_first (by assumption)
  | apply g_Journal_next (by assumption)
  | apply w_Journal_next (by assumption)
  | apply g_Journal_generation (by assumption)
  | apply w_Journal_generation (by assumption)
  | apply g_Journal_number (by assumption)
  | apply w_Journal_number (by assumption)
  | apply g_Journal_image_number (by assumption)
  | apply w_Journal_image_number (by assumption)
  | apply g_Journal_image (by assumption)
  | apply w_Journal_image (by assumption)
  | apply g_Journal_kept (by assumption)
  | apply w_Journal_kept (by assumption)
  | apply mm_Disk_spend
  | apply mm_Disk_block
  | apply mm_Disk_write
  | apply mm_Disk_sync
  | apply mm_Disk_waiting
  | apply mm_Journal_area_of
  | apply mm_Journal_read_record
  | apply mm_Journal_empty_rest
  | apply mm_Journal_recover
  | apply mm_Journal_records
  | apply mm_Journal_has_room
  | apply mm_Journal_write_record
  | apply mm_Journal_checkpoint); walk_at "hp")
local macro_rules | `(tactic| walk_at "cls0") => `(tactic| (with_reducible first
  | apply w0_Disk_size (by assumption)
  | apply w0_Disk_blocks (by assumption)
  | apply w0_Disk_queue (by assumption)
  | apply w0_Disk_left (by assumption)
  | apply w0_Disk_down (by assumption)
  | apply w0_Journal_disk (by assumption)
  | apply w0_Journal_area (by assumption)
  | apply w0_Journal_first (by assumption)
  | apply w0_Journal_next (by assumption)
  | apply w0_Journal_generation (by assumption)
  | apply w0_Journal_number (by assumption)
  | apply w0_Journal_image_number (by assumption)
  | apply w0_Journal_image (by assumption)
  | apply w0_Journal_kept (by assumption)); walk_at "hp")
local macro_rules | `(tactic| walk_at "go") => `(tactic| repeat (first | walk_at "s1" | walk_at "cls"))

section
variable {K : PySem.W.Frag} {A : Adr}
theorem len__law_state (vs : List V) (H : Hp) (Q : VK) (E : XK) (h : sp__law_state K A vs H Q E) : vs.length = 1 := by obtain ⟨_, _, rfl, _⟩ := h; rfl
theorem len__law_take (vs : List V) (H : Hp) (Q : VK) (E : XK) (h : sp__law_take K A vs H Q E) : vs.length = 2 := by obtain ⟨_, _, rfl, _⟩ := h; rfl
theorem len__law_text_of (vs : List V) (H : Hp) (Q : VK) (E : XK) (h : sp__law_text_of K A vs H Q E) : vs.length = 2 := by obtain ⟨_, _, rfl, _⟩ := h; rfl
theorem len__law_seen_journal (vs : List V) (H : Hp) (Q : VK) (E : XK) (h : sp__law_seen_journal K A vs H Q E) : vs.length = 1 := by obtain ⟨_, _, _, _, rfl, _⟩ := h; rfl
theorem len__law_spilled (vs : List V) (H : Hp) (Q : VK) (E : XK) (h : sp__law_spilled K A vs H Q E) : vs.length = 1 := by obtain ⟨_, rfl, _⟩ := h; rfl
theorem SqF.sq {H : Hp} {a : Addr} {xs : List V} (h : SqF K H a xs) : SqL K H a xs := h.imp (fun h => .inr h) id
theorem SqF.kp {H H' : Hp} {a : Addr} {xs : List V} {fp : List Addr} (h : SqF K H a xs) (k : Kp fp H H') (n : ∀ b ∈ fp, ∀ u o', H b ≠ some (.frz u o')) : SqF K H' a xs := by
  rcases h with ⟨ob, h⟩ | h
  · exact .inl ⟨ob, k _ _ h fun z => n _ z _ _ h⟩
  · exact .inr h
theorem SqF.ex {H H' : Hp} {a : Addr} {xs : List V} (h : SqF K H a xs) (e : Ex H H') : SqF K H' a xs := h.kp (fp := []) (kp_ex e) (by simp)
theorem SqF.of {H : Hp} {a : Addr} {xs : List V} (hO : Only H) (h : SqL K H a xs) : SqF K H a xs := by
  rcases h with h | h
  · rcases h with h | ⟨ob, h⟩
    · rcases hO a with z | ⟨ob, ys, z⟩
      · rw [h] at z; cases z
      · rw [h] at z; cases z
    · exact .inl ⟨ob, h⟩
  · exact .inr h
theorem StAt.put {H : Hp} {st a e : Addr} {ns : List Int} {rest pos mx r p : Int} (S : StAt K H st a e ns rest pos mx) (hp : 0 ≤ p) : StAt K (upd H st (.lst [.ref a, .int r, .int p, .int mx, .ref e, .int 0, .int 0, .int 0])) st a e ns r p mx :=
  ⟨upd_same, S.sc.kp kp_upd fun b hb u o' z => (by rw [List.mem_singleton.mp hb, S.ob] at z; cases z), S.nl, S.mx, hp⟩
theorem StS.kp {H H' : Hp} {st : Addr} {fp : List Addr} (S : StS K H st) (k : Kp fp H H') (n : st ∉ fp) (nl : ∀ b ∈ fp, ∀ u o', H b ≠ some (.frz u o')) : StS K H' st := by
  obtain ⟨a, e, ns, rest, pos, mx, S⟩ := S
  exact ⟨a, e, ns, rest, pos, mx, k _ _ S.ob n, S.sc.kp k nl, S.nl, S.mx, S.ps⟩
theorem StS.ex {H H' : Hp} {st : Addr} (S : StS K H st) (k : Ex H H') : StS K H' st := S.kp (fp := []) (kp_ex k) (by simp) (by simp)
theorem pure__law_state (T : TxtP K A) (vs : List V) (H : Hp) (Q : VK) (E : XK) (h : sp__law_state K A vs H Q E) : t__law_state K A (fun cls d _ H => E cls d H) { nx := fun _ H' => Q .non H', rt := Q } (start N__law_state vs) H := by
  obtain ⟨a, ns, rfl, hf, hl, kQ⟩ := h
  have hs := hf.sq
  unfold t__law_state
  walk_at "go"
  rw [List.length_map]
  refine if2 (fun h0 => ?_) (fun h0 => ?_)
  · obtain ⟨n, r, rfl⟩ : ∃ n r, ns = n :: r := by
      cases ns with
      | nil => exact absurd h0 (by decide)
      | cons n r => exact ⟨n, r, rfl⟩
    have hat : atI ((n :: r).map V.int) 0 = some (.int n) := atI_nat (j := 0) rfl
    obtain ⟨rest, hrest⟩ : ∃ rest : Int, atI [V.int ((if n < 0 then -n else n) / 2), V.int 1] (n % 2) = some (.int rest) := by
      have : n % 2 = 0 ∨ n % 2 = 1 := by omega
      rcases this with e | e
      · rw [e]; exact ⟨_, rfl⟩
      · rw [e]; exact ⟨1, rfl⟩
    walk_at "go"
    refine r_small (by show 2 ≤ 1000; decide) fun p hp => ?_
    have ep : Ex H (upd H p (.lst [V.int ((if n < 0 then -n else n) / 2), V.int 1])) := Evl.Ex.new hp
    walk_at "go"
    refine r_small (by show 0 ≤ 1000; decide) fun e he => ?_
    walk_at "go"
    refine r_small (by show 8 ≤ 1000; decide) fun st hst => ?_
    have e1 := (ep.trans (Evl.Ex.new (o := .lst []) he)).trans (Evl.Ex.new (o := .lst [.ref a, .int rest, .int 1, .int (n % 2), .ref e, .int 0, .int 0, .int 0]) hst)
    refine kQ st _ e1 ?_ ⟨a, e, n :: r, rest, 1, n % 2, upd_same, hf.ex e1, hl, (show n % 2 = 0 ∨ n % 2 = 1 by omega).imp id fun z => ⟨z, by simp⟩, by decide⟩
    cases z : H st with
    | none => rfl
    | some o => rw [(ep.trans (Evl.Ex.new (o := .lst []) he)) _ _ z] at hst; cases hst
  · walk_at "go"
    refine r_small (by show 0 ≤ 1000; decide) fun e he => ?_
    walk_at "go"
    refine r_small (by show 8 ≤ 1000; decide) fun st hst => ?_
    have e1 := (Evl.Ex.new (o := .lst []) he).trans (Evl.Ex.new (o := .lst [.ref a, .int 0, .int 1, .int 0, .ref e, .int 0, .int 0, .int 0]) hst)
    refine kQ st _ e1 ?_ ⟨a, e, ns, 0, 1, 0, upd_same, hf.ex e1, hl, .inl rfl, by decide⟩
    cases z : H st with
    | none => rfl
    | some o => rw [(Evl.Ex.new (o := .lst []) he) _ _ z] at hst; cases hst
theorem int_at {ns : List Int} {i : Int} (h0 : 0 ≤ i) (h1 : i < (ns.length : Int)) : ∃ c : Int, atI (ns.map V.int) i = some (.int c) := by
  obtain ⟨k, rfl⟩ : ∃ k : Nat, i = (k : Int) := ⟨i.toNat, (Int.toNat_of_nonneg h0).symm⟩
  have hl : k < ns.length := by omega
  refine ⟨ns[k], atI_nat ?_⟩
  rw [List.getElem?_map, List.getElem?_eq_getElem hl]
  rfl
theorem pure__law_take (T : TxtP K A) (vs : List V) (H : Hp) (Q : VK) (E : XK) (h : sp__law_take K A vs H Q E) : t__law_take K A (fun cls d _ H => E cls d H) { nx := fun _ H' => Q .non H', rt := Q } (start N__law_take vs) H := by
  obtain ⟨st, many, rfl, ⟨a, e, ns, rest, pos, mx, S⟩, hm0, hm1, kQ⟩ := h
  have ob := S.ob
  have sc := S.sc.sq
  have hps := S.ps
  unfold t__law_take
  rcases S.mx with rfl | ⟨rfl, hne⟩
  · walk_at "go"
    by_cases hr0 : rest = 0
    · subst hr0
      walk_at "go"
      rw [List.length_map]
      refine if2 (fun hp => ?_) (fun hp => ?_)
      · walk_at "go"
        exact kQ 0 H ⟨a, e, ns, 0, pos, 0, S⟩ (fun _ _ h _ => h) (by decide) hm0
      · obtain ⟨c, hc⟩ : ∃ c : Int, atI (ns.map V.int) pos = some (.int c) := int_at hps (by omega)
        walk_at "go"
        refine r_setL ob rfl ?_
        have S1 := S.put (r := if c < 0 then -c else c) hps
        have ob1 := S1.ob
        walk_at "go"
        refine r_setL ob1 rfl ?_
        have S2 := S1.put (r := if c < 0 then -c else c) (p := pos + 1) (by omega)
        have ob2 := S2.ob
        walk_at "go"
        refine r_setL ob2 rfl ?_
        have S3 := S2.put (r := (if c < 0 then -c else c) / many) (p := pos + 1) (by omega)
        walk_at "go"
        exact kQ _ _ ⟨_, _, _, _, _, _, S3⟩ (kp_trans (kp_trans kp_upd kp_upd) kp_upd) (Int.emod_nonneg _ (by omega)) (Int.emod_lt_of_pos _ hm0)
    · walk_at "go"
      refine r_setL ob rfl ?_
      have S1 := S.put (r := rest / many) hps
      walk_at "go"
      exact kQ _ _ ⟨_, _, _, _, _, _, S1⟩ kp_upd (Int.emod_nonneg _ (by omega)) (Int.emod_lt_of_pos _ hm0)
  · have hlen : 0 < ((ns.map V.int).length : Int) := by
      rw [List.length_map]
      cases ns with
      | nil => exact absurd rfl hne
      | cons n r => simp only [List.length_cons]; omega
    obtain ⟨c, hc⟩ : ∃ c : Int, atI (ns.map V.int) (pos % ((ns.map V.int).length : Int)) = some (.int c) := by
      rw [List.length_map] at hlen ⊢
      exact int_at (Int.emod_nonneg pos (by omega)) (Int.emod_lt_of_pos pos hlen)
    walk_at "go"
    refine r_setL ob rfl ?_
    have S1 := S.put (r := (rest * 48271 + c * 69621 + pos * 7919 + 11) % 2147483647) hps
    have ob1 := S1.ob
    walk_at "go"
    refine r_setL ob1 rfl ?_
    have S2 := S1.put (r := (rest * 48271 + c * 69621 + pos * 7919 + 11) % 2147483647) (p := pos + 1) (by omega)
    have ob2 := S2.ob
    walk_at "go"
    exact kQ _ _ ⟨_, _, _, _, _, _, S2⟩ (kp_trans kp_upd kp_upd) (Int.emod_nonneg _ (by omega)) (Int.emod_lt_of_pos _ hm0)
end

end U

set_option Elab.async false
set_option linter.all false
set_option maxRecDepth 100000
set_option maxHeartbeats 4000000
namespace U
open PySem PySem.Spec PyProof.Rows L2
/-! ### stepping: local words (walk_at "..": a word of the library's syntax, given a meaning of our own here) -/
local macro_rules | `(tactic| walk_at "ne") => `(tactic| first
  | assumption
  | exact Ne.symm (by assumption)
  | exact ne_of_none (by assumption) (by assumption)
  | exact (ne_of_none (by assumption) (by assumption)).symm
  | exact ne_of (by assumption) (by assumption) (by intro z; cases z)
  | exact (ne_of (by assumption) (by assumption) (by intro z; cases z)).symm)
local macro_rules | `(tactic| walk_at "hp") => `(tactic| first
  | assumption
  | exact upd_same
  | ((apply hp_ne); (focus (walk_at "ne")); (walk_at "hp"))
  | ((apply hp_ex); assumption; (walk_at "hp")))
local macro_rules | `(tactic| walk_at "sq") => `(tactic| first
  | assumption
  | ((apply Evl.sq_of); (walk_at "hp"))
  | ((apply Evl.st_of); (walk_at "hp"))
  | ((apply Evl.ex_l); assumption; (walk_at "sq"))
  | ((apply Evl.ex_t); assumption; (walk_at "sq")))
local macro_rules | `(tactic| walk_at "sz") => `(tactic| first | (simp only [List.length_cons, List.length_nil]; omega) | omega | decide)
local macro_rules | `(tactic| walk_at "ar") => `(tactic| first | omega | decide | assumption)
local macro_rules | `(tactic| walk_at "s1") => `(tactic| first
  | (with_reducible first
      | refine r_seq ?_ | refine r_asg ?_ | refine r_drop ?_ | refine r_ret ?_ | refine r_retN ?_ | refine r_if ?_ | refine r_next ?_ | refine r_brk ?_ | refine r_cont ?_ | refine r_sFld ?_ | refine r_raise ?_
      | refine r_op ?_ | refine r_cons ?_ | refine r_nil ?_ | refine r_c ?_ | refine r_cb ?_ | refine r_call ?_ | refine r_meth ?_ | refine r_make ?_ | refine r_fld ?_ | refine r_tup ?_ | refine r_lst ?_ | refine r_un ?_
      | refine r_name ?_ | refine r_gCons ?_ | refine r_gNil ?_ | refine r_gSub ?_ | refine r_test ?_ | refine r_B ?_ | refine r_tru ?_ | refine r_and ?_ | refine r_or ?_ | refine r_not ?_ | refine r_chain ?_
      | refine r_andV ?_ | refine r_orV ?_ | refine r_notV ?_ | refine r_if' ?_ | refine r_sl ?_ | refine r_noPart ?_ | refine r_part ?_ | refine r_bm ?_ | refine r_bm0 ?_ | refine r_m1 ?_
      | refine r_exI ?_ | refine r_exB ?_ | refine r_exS ?_
      | refine r_add ?_ | refine r_sub ?_ | refine r_lt ?_ | refine r_le ?_ | refine r_gt ?_ | refine r_ge ?_ | refine r_and2 ?_ | refine r_neg ?_
      | refine r_eqI ?_ | refine r_neI ?_ | refine r_eqS ?_ | refine r_neS ?_ | refine r_eqNI ?_ | refine r_isNN ?_ | refine r_isNI ?_ | refine r_isNR ?_ | refine r_notNN ?_ | refine r_notNI ?_ | refine r_notNR ?_
      | refine r_inS ?_ | refine r_notInS ?_ | refine r_truI ?_ | refine r_truB ?_ | refine r_truN ?_ | refine r_abs ?_ | refine r_max ?_ | refine r_min ?_ | refine r_int ?_ | refine r_intB ?_ | refine r_ord ?_ | refine r_find ?_
      | refine iteT ?_ | refine iteF ?_ | refine if_nf ?_ | refine if_nt ?_ | refine r_mkx ?_ | refine r_mkG ?_ | refine r_gS ?_
      | refine r_forL ?_ | refine r_forT ?_ | refine r_forS ?_ | refine r_forR1 ?_ | refine r_forR2 ?_ | refine r_lc ?_ | refine r_iL ?_ | refine r_iT ?_ | refine r_iS ?_ | refine r_iR1 ?_ | refine r_iR2 ?_ | refine r_iR3 ?_)
  | ((with_reducible apply r_var); (with_unfolding_all rfl))
  | ((with_reducible first | refine r_mod ?_ ?_ | refine r_mul ?_ ?_ | refine r_div ?_ ?_ | refine r_pow ?_ ?_); (first | omega | decide | exact ⟨by omega, by omega⟩ | exact ⟨by decide, by decide⟩ | exact .inr ⟨by omega, by omega⟩ | exact .inl ⟨by omega, by omega⟩ | exact .inr ⟨by decide, by decide⟩ | exact ⟨by decide, by decide, by decide⟩))
  | ((with_reducible first | apply r_tyL | apply r_ixL | apply r_ixT | apply r_lenL | apply r_lenT | apply r_truL | apply r_truT | apply r_gL | apply r_gT); (walk_at "sq"); (try (first | assumption | (exact atI_nat (by assumption)) | rfl)))
  | ((with_reducible first | apply r_gR1 | apply r_gR2 | apply r_addS | apply r_lenS | apply r_str | apply r_repS); (first | omega | decide | exact ⟨by omega, by omega⟩ | exact ⟨⟨by omega, by omega⟩, by omega, by omega⟩ | (exact Nat.le_trans (by assumption) (by decide)) | exact ⟨by omega, by omega, by decide +kernel⟩))
  | ((with_reducible refine ifT ?_ ?_); (walk_at "ar"))
  | ((with_reducible refine ifF ?_ ?_); (walk_at "ar"))
  | ((with_reducible refine ifNT ?_ ?_); (walk_at "ar"))
  | ((with_reducible refine ifNF ?_ ?_); (walk_at "ar")))
local macro_rules | `(tactic| walk_at "go") => `(tactic| repeat (walk_at "s1"))

local macro_rules | `(tactic| walk_at "cls") => `(tactic| (with_reducible first
  | apply g_Disk_size (by assumption)
  | apply w_Disk_size (by assumption)
  | apply g_Disk_blocks (by assumption)
  | apply w_Disk_blocks (by assumption)
  | apply g_Disk_queue (by assumption)
  | apply w_Disk_queue (by assumption)
  | apply g_Disk_left (by assumption)
  | apply w_Disk_left (by assumption)
  | apply g_Disk_down (by assumption)
  | apply w_Disk_down (by assumption)
  | apply g_Journal_disk (by assumption)
  | apply w_Journal_disk (by assumption)
  | apply g_Journal_area (by assumption)
  | apply w_Journal_area (by assumption)
  | apply g_Journal_first (by assumption)
  | apply w_Journal_first (by assumption)
  | apply g_Journal_next (by assumption)
  | apply w_Journal_next (by assumption)
  | apply g_Journal_generation (by assumption)
  | apply w_Journal_generation (by assumption)
  | apply g_Journal_number (by assumption)
  | apply w_Journal_number (by assumption)
  | apply g_Journal_image_number (by assumption)
  | apply w_Journal_image_number (by assumption)
  | apply g_Journal_image (by assumption)
  | apply w_Journal_image (by assumption)
  | apply g_Journal_kept (by assumption)
  | apply w_Journal_kept (by assumption)
  | apply mm_Disk_spend
  | apply mm_Disk_block
  | apply mm_Disk_write
  | apply mm_Disk_sync
  | apply mm_Disk_waiting
  | apply mm_Journal_area_of
  | apply mm_Journal_read_record
  | apply mm_Journal_empty_rest
  | apply mm_Journal_recover
  | apply mm_Journal_records
  | apply mm_Journal_has_room
  | apply mm_Journal_write_record
  | apply mm_Journal_checkpoint); walk_at "hp")
local macro_rules | `(tactic| walk_at "cls0") => `(tactic| (with_reducible first
  | apply w0_Disk_size (by assumption)
  | apply w0_Disk_blocks (by assumption)
  | apply w0_Disk_queue (by assumption)
  | apply w0_Disk_left (by assumption)
  | apply w0_Disk_down (by assumption)
  | apply w0_Journal_disk (by assumption)
  | apply w0_Journal_area (by assumption)
  | apply w0_Journal_first (by assumption)
  | apply w0_Journal_next (by assumption)
  | apply w0_Journal_generation (by assumption)
  | apply w0_Journal_number (by assumption)
  | apply w0_Journal_image_number (by assumption)
  | apply w0_Journal_image (by assumption)
  | apply w0_Journal_kept (by assumption)); walk_at "hp")
local macro_rules | `(tactic| walk_at "go") => `(tactic| repeat (first | walk_at "s1" | walk_at "cls"))

section
variable {K : PySem.W.Frag} {A : Adr}
theorem abc_tl : ("abcdefg 12\n(z)" : Str).cps.toList = [97, 98, 99, 100, 101, 102, 103, 32, 49, 50, 10, 40, 122, 41] := by decide +kernel
theorem rS_tl (k : Int) : (repS "r" k).cps.toList = List.replicate k.toNat 114 := by
  have h : ("r" : Str).cps.toList = [114] := by decide +kernel
  unfold repS
  generalize k.toNat = n
  induction n with
  | zero => rfl
  | succ n ih =>
    simp only [h] at ih ⊢
    rw [List.replicate_succ, List.replicate_succ]
    simpa using ih
theorem pure__law_text_of (T : TxtP K A) (vs : List V) (H : Hp) (Q : VK) (E : XK) (h : sp__law_text_of K A vs H Q E) : t__law_text_of K A (fun cls d _ H => E cls d H) { nx := fun _ H' => Q .non H', rt := Q } (start N__law_text_of vs) H := by
  obtain ⟨st, most, rfl, S, hm0, hm1, kQ⟩ := h
  unfold t__law_text_of
  walk_at "go"
  refine ⟨st, 13, rfl, S, by decide, by decide, fun i H1 S1 k1 hi0 hi1 => ?_⟩
  walk_at "go"
  refine ⟨_, rfl, by decide +kernel, ?_⟩
  obtain ⟨i', rfl⟩ : ∃ k : Nat, i = (k : Int) := ⟨i.toNat, (Int.toNat_of_nonneg hi0).symm⟩
  rw [cutS_from]
  walk_at "go"
  refine ⟨_, rfl, sm (by rw [Sx_len, abc_tl, List.length_drop]; show 14 - i' ≤ _; omega), ?_⟩
  have e1 : cutS (Sx (("abcdefg 12\n(z)" : Str).cps.toList.drop i')) none (some (1 : Int)) = Sx ((("abcdefg 12\n(z)" : Str).cps.toList.drop i').take 1) := cutS_to _ 1
  rw [e1]
  walk_at "go"
  refine ⟨st, most, rfl, S1, hm0, by omega, fun k H2 S2 k2 hk0 hk1 => ?_⟩
  walk_at "go"
  have er : repS "r" k = Sx (List.replicate k.toNat 114) := Sx_eq (rS_tl k)
  rw [er]
  have l1 : ((("abcdefg 12\n(z)" : Str).cps.toList.drop i').take 1).length ≤ 1 := by rw [List.length_take]; omega
  refine r_addS (sm (by rw [Sx_len, Sx_len, List.length_replicate]; omega)) ?_
  rw [Sx_cat]
  refine kQ _ H2 S2 (kp_trans k1 k2) ⟨?_, ?_⟩ ?_
  · rw [Sx_len, List.length_append, List.length_replicate]
    omega
  · show List.all (_ ++ _) okCh = true
    rw [List.all_append, Bool.and_eq_true]
    refine ⟨all_take (by rw [abc_tl]; decide), ?_⟩
    rw [List.all_eq_true]
    intro c hc
    rw [(List.mem_replicate.mp hc).2]
    decide
  · rw [Sx_len, List.length_append, List.length_replicate]
    omega
theorem pure__law_spilled (T : TxtP K A) (vs : List V) (H : Hp) (Q : VK) (E : XK) (h : sp__law_spilled K A vs H Q E) : t__law_spilled K A (fun cls d _ H => E cls d H) { nx := fun _ H' => Q .non H', rt := Q } (start N__law_spilled vs) H := by
  obtain ⟨t, rfl, hl, kQ⟩ := h
  have hl' : t.length ≤ sizeLine := Nat.le_trans hl (by decide)
  have e : t.cps.toList.length = t.length := (TL.len_tl t).symm
  unfold t__law_spilled
  walk_at "go"
  have e2 : (if ((t.length : Int) + 31) / 32 > 1 then ((t.length : Int) + 31) / 32 else 1) = ((pcs t.cps.toList : Nat) : Int) := by
    unfold pcs
    rw [e]
    split <;> omega
  rw [e2]
  exact kQ
theorem dp_kepts {H : Hp} : ∀ {ps : List Addr} {ks : List (Nat × Str)}, Tups H ps ks → DpAll K H (ps.map V.ref) (ks.map fun e => .tuple [.int (e.1 : Nat), .str e.2])
  | _, _, .nil => .nil
  | _, _, .cons h t => .cons (.tup (Evl.st_of h) (.cons (.int _) (.cons (.str _) .nil))) (dp_kepts t)
theorem dp_kept {H : Hp} {r : Addr} {ps : List Addr} {ks : List (Nat × Str)} (h : H r = some (.lst (ps.map V.ref))) (t : Tups H ps ks) : Dp K H (.ref r) (keptD ks) := .lst (Evl.sq_of h) (dp_kepts t)
theorem pure__law_seen_journal (T : TxtP K A) (vs : List V) (H : Hp) (Q : VK) (E : XK) (h : sp__law_seen_journal K A vs H Q E) : t__law_seen_journal K A (fun cls d _ H => E cls d H) { nx := fun _ H' => Q .non H', rt := Q } (start N__law_seen_journal vs) H := by
  obtain ⟨j, p, lk, x, rfl, J, kQ⟩ := h
  obtain ⟨jx, hj⟩ := J.ob
  unfold t__law_seen_journal
  walk_at "go"
  refine ⟨j, p, lk, x, rfl, J, fun r ps H1 e1 hr hr1 ht => ?_⟩
  walk_at "go"
  refine r_small (by show 5 ≤ 1000; decide) fun q hq => ?_
  have eq : Ex H1 (upd H1 q _) := Evl.Ex.new (o := .lst [.int (x.gen : Nat), .int (x.num : Nat), .int (x.inum : Nat), .str x.image, .ref r]) hq
  refine kQ q _ (e1.trans eq) (.lst (Evl.sq_of upd_same) (.cons (.int _) (.cons (.int _) (.cons (.int _) (.cons (.str _) (.cons (dp_kept (eq _ _ hr1) ?_) .nil))))))
  exact tups_kp ht fun b xs z => eq _ _ (e1 _ _ z)
end

end U

set_option Elab.async false
set_option linter.all false
set_option maxRecDepth 100000
set_option maxHeartbeats 4000000
namespace U
open PySem PySem.Spec PyProof.Rows L2
/-! ### stepping: local words (walk_at "..": a word of the library's syntax, given a meaning of our own here) -/
local macro_rules | `(tactic| walk_at "ne") => `(tactic| first
  | assumption
  | exact Ne.symm (by assumption)
  | exact ne_of_none (by assumption) (by assumption)
  | exact (ne_of_none (by assumption) (by assumption)).symm
  | exact ne_of (by assumption) (by assumption) (by intro z; cases z)
  | exact (ne_of (by assumption) (by assumption) (by intro z; cases z)).symm)
local macro_rules | `(tactic| walk_at "hp") => `(tactic| first
  | assumption
  | exact upd_same
  | ((apply hp_ne); (focus (walk_at "ne")); (walk_at "hp"))
  | ((apply hp_ex); assumption; (walk_at "hp")))
local macro_rules | `(tactic| walk_at "sq") => `(tactic| first
  | assumption
  | ((apply Evl.sq_of); (walk_at "hp"))
  | ((apply Evl.st_of); (walk_at "hp"))
  | ((apply Evl.ex_l); assumption; (walk_at "sq"))
  | ((apply Evl.ex_t); assumption; (walk_at "sq")))
local macro_rules | `(tactic| walk_at "sz") => `(tactic| first | (simp only [List.length_cons, List.length_nil]; omega) | omega | decide)
local macro_rules | `(tactic| walk_at "ar") => `(tactic| first | omega | decide | assumption)
local macro_rules | `(tactic| walk_at "s1") => `(tactic| first
  | (with_reducible first
      | refine r_seq ?_ | refine r_asg ?_ | refine r_drop ?_ | refine r_ret ?_ | refine r_retN ?_ | refine r_if ?_ | refine r_next ?_ | refine r_brk ?_ | refine r_cont ?_ | refine r_sFld ?_ | refine r_raise ?_
      | refine r_op ?_ | refine r_cons ?_ | refine r_nil ?_ | refine r_c ?_ | refine r_cb ?_ | refine r_call ?_ | refine r_meth ?_ | refine r_make ?_ | refine r_fld ?_ | refine r_tup ?_ | refine r_lst ?_ | refine r_un ?_
      | refine r_name ?_ | refine r_gCons ?_ | refine r_gNil ?_ | refine r_gSub ?_ | refine r_test ?_ | refine r_B ?_ | refine r_tru ?_ | refine r_and ?_ | refine r_or ?_ | refine r_not ?_ | refine r_chain ?_
      | refine r_andV ?_ | refine r_orV ?_ | refine r_notV ?_ | refine r_if' ?_ | refine r_sl ?_ | refine r_noPart ?_ | refine r_part ?_ | refine r_bm ?_ | refine r_bm0 ?_ | refine r_m1 ?_
      | refine r_exI ?_ | refine r_exB ?_ | refine r_exS ?_
      | refine r_add ?_ | refine r_sub ?_ | refine r_lt ?_ | refine r_le ?_ | refine r_gt ?_ | refine r_ge ?_ | refine r_and2 ?_ | refine r_neg ?_
      | refine r_eqI ?_ | refine r_neI ?_ | refine r_eqS ?_ | refine r_neS ?_ | refine r_eqNI ?_ | refine r_isNN ?_ | refine r_isNI ?_ | refine r_isNR ?_ | refine r_notNN ?_ | refine r_notNI ?_ | refine r_notNR ?_
      | refine r_inS ?_ | refine r_notInS ?_ | refine r_truI ?_ | refine r_truB ?_ | refine r_truN ?_ | refine r_abs ?_ | refine r_max ?_ | refine r_min ?_ | refine r_int ?_ | refine r_intB ?_ | refine r_ord ?_ | refine r_find ?_
      | refine iteT ?_ | refine iteF ?_ | refine if_nf ?_ | refine if_nt ?_ | refine r_mkx ?_ | refine r_mkG ?_ | refine r_gS ?_
      | refine r_forL ?_ | refine r_forT ?_ | refine r_forS ?_ | refine r_forR1 ?_ | refine r_forR2 ?_ | refine r_lc ?_ | refine r_iL ?_ | refine r_iT ?_ | refine r_iS ?_ | refine r_iR1 ?_ | refine r_iR2 ?_ | refine r_iR3 ?_)
  | ((with_reducible apply r_var); (with_unfolding_all rfl))
  | ((with_reducible first | refine r_mod ?_ ?_ | refine r_mul ?_ ?_ | refine r_div ?_ ?_ | refine r_pow ?_ ?_); (first | omega | decide | exact ⟨by omega, by omega⟩ | exact ⟨by decide, by decide⟩ | exact .inr ⟨by omega, by omega⟩ | exact .inl ⟨by omega, by omega⟩ | exact .inr ⟨by decide, by decide⟩ | exact ⟨by decide, by decide, by decide⟩))
  | ((with_reducible first | apply r_tyL | apply r_ixL | apply r_ixT | apply r_lenL | apply r_lenT | apply r_truL | apply r_truT | apply r_gL | apply r_gT); (walk_at "sq"); (try (first | assumption | (exact atI_nat (by assumption)) | rfl)))
  | ((with_reducible first | apply r_gR1 | apply r_gR2 | apply r_addS | apply r_lenS | apply r_str | apply r_repS); (first | omega | decide | exact ⟨by omega, by omega⟩ | exact ⟨⟨by omega, by omega⟩, by omega, by omega⟩ | (exact Nat.le_trans (by assumption) (by decide)) | exact ⟨by omega, by omega, by decide +kernel⟩))
  | ((with_reducible refine ifT ?_ ?_); (walk_at "ar"))
  | ((with_reducible refine ifF ?_ ?_); (walk_at "ar"))
  | ((with_reducible refine ifNT ?_ ?_); (walk_at "ar"))
  | ((with_reducible refine ifNF ?_ ?_); (walk_at "ar")))
local macro_rules | `(tactic| walk_at "go") => `(tactic| repeat (walk_at "s1"))

local macro_rules | `(tactic| walk_at "cls") => `(tactic| (with_reducible first
  | apply g_Disk_size (by assumption)
  | apply w_Disk_size (by assumption)
  | apply g_Disk_blocks (by assumption)
  | apply w_Disk_blocks (by assumption)
  | apply g_Disk_queue (by assumption)
  | apply w_Disk_queue (by assumption)
  | apply g_Disk_left (by assumption)
  | apply w_Disk_left (by assumption)
  | apply g_Disk_down (by assumption)
  | apply w_Disk_down (by assumption)
  | apply g_Journal_disk (by assumption)
  | apply w_Journal_disk (by assumption)
  | apply g_Journal_area (by assumption)
  | apply w_Journal_area (by assumption)
  | apply g_Journal_first (by assumption)
  | apply w_Journal_first (by assumption)
  | apply g_Journal_next (by assumption)
  | apply w_Journal_next (by assumption)
  | apply g_Journal_generation (by assumption)
  | apply w_Journal_generation (by assumption)
  | apply g_Journal_number (by assumption)
  | apply w_Journal_number (by assumption)
  | apply g_Journal_image_number (by assumption)
  | apply w_Journal_image_number (by assumption)
  | apply g_Journal_image (by assumption)
  | apply w_Journal_image (by assumption)
  | apply g_Journal_kept (by assumption)
  | apply w_Journal_kept (by assumption)
  | apply mm_Disk_spend
  | apply mm_Disk_block
  | apply mm_Disk_write
  | apply mm_Disk_sync
  | apply mm_Disk_waiting
  | apply mm_Journal_area_of
  | apply mm_Journal_read_record
  | apply mm_Journal_empty_rest
  | apply mm_Journal_recover
  | apply mm_Journal_records
  | apply mm_Journal_has_room
  | apply mm_Journal_write_record
  | apply mm_Journal_checkpoint); walk_at "hp")
local macro_rules | `(tactic| walk_at "cls0") => `(tactic| (with_reducible first
  | apply w0_Disk_size (by assumption)
  | apply w0_Disk_blocks (by assumption)
  | apply w0_Disk_queue (by assumption)
  | apply w0_Disk_left (by assumption)
  | apply w0_Disk_down (by assumption)
  | apply w0_Journal_disk (by assumption)
  | apply w0_Journal_area (by assumption)
  | apply w0_Journal_first (by assumption)
  | apply w0_Journal_next (by assumption)
  | apply w0_Journal_generation (by assumption)
  | apply w0_Journal_number (by assumption)
  | apply w0_Journal_image_number (by assumption)
  | apply w0_Journal_image (by assumption)
  | apply w0_Journal_kept (by assumption)); walk_at "hp")
local macro_rules | `(tactic| walk_at "go") => `(tactic| repeat (first | walk_at "s1" | walk_at "cls"))

section
variable {K : PySem.W.Frag} {A : Adr}
theorem len__law_written (vs : List V) (H : Hp) (Q : VK) (E : XK) (h : sp__law_written K A vs H Q E) : vs.length = 3 := by obtain ⟨_, _, _, _, _, _, _, _, _, rfl, _⟩ := h; rfl
theorem len_law (vs : List V) (H : Hp) (Q : VK) (E : XK) (h : sp_law K A vs H Q E) : vs.length = 1 := by obtain ⟨_, _, rfl, _⟩ := h; rfl
theorem pure__law_written (T : TxtP K A) (vs : List V) (H : Hp) (Q : VK) (E : XK) (h : sp__law_written K A vs H Q E) : t__law_written K A (fun cls d _ H => E cls d H) { nx := fun _ H' => Q .non H', rt := Q } (start N__law_written vs) H := by
  obtain ⟨j, p, lb, lq, lk, x, d, t, b, rfl, G, hx, ht, hd, hleft, hq, hk, har, kF, kD, kF2, kD2⟩ := h
  have nl : NoL d := ⟨hleft, hd⟩
  obtain ⟨jx, hj⟩ := G.J.ob
  unfold t__law_written
  walk_at "go"
  show tIfS _ _ _ _ _ _
  walk_at "go"
  cases b with
  | true =>
    walk_at "go"
    refine ⟨j, p, lb, lq, lk, x, d, t, rfl, G, hx, ht, hd, hq, hk, fun hr H1 e1 => ?_, fun _ hl => bx hl nl.recW.1, fun hr _ lq' H1 G1 hn k1 => ?_⟩
    · refine ⟨true, T.m_DiskFull_DiskFull, fun _ a ha => ?_, fun z => (by cases z)⟩
      dsimp only [heldS, goneD]
      walk_at "go"
      refine ⟨rfl, rfl, T.i_DiskFull_DatabaseError, ?_⟩
      walk_at "go"
      refine ⟨rfl, rfl, _, _, false, rfl, fun u ru => ru, T.i_DiskFull_PowerLost, ?_⟩
      walk_at "go"
      exact kF rfl hr H1 e1
    · walk_at "go"
      exact kD rfl hr lq' H1 G1 hn k1
  | false =>
    walk_at "go"
    refine ⟨j, p, lb, lq, lk, x, d, t, rfl, G, hx, ht, hd, hq, har, fun hr H1 e1 => ?_, fun _ hl => bx hl nl.chkW.1, fun hr _ lk' lq' H1 G1 hlk hn k1 => ?_⟩
    · refine ⟨true, T.m_DiskFull_DiskFull, fun _ a ha => ?_, fun z => (by cases z)⟩
      dsimp only [heldS, goneD]
      walk_at "go"
      refine ⟨rfl, rfl, T.i_DiskFull_DatabaseError, ?_⟩
      walk_at "go"
      refine ⟨rfl, rfl, _, _, false, rfl, fun u ru => ru, T.i_DiskFull_PowerLost, ?_⟩
      walk_at "go"
      exact kF2 rfl hr H1 e1
    · walk_at "go"
      exact kD2 rfl hr lk' lq' H1 G1 hlk hn k1
end

end U

set_option Elab.async false
set_option linter.all false
set_option maxRecDepth 100000
set_option maxHeartbeats 4000000
namespace U
open PySem PySem.Spec PyProof.Rows L2
/-! ### stepping: local words (walk_at "..": a word of the library's syntax, given a meaning of our own here) -/
local macro_rules | `(tactic| walk_at "ne") => `(tactic| first
  | assumption
  | exact Ne.symm (by assumption)
  | exact ne_of_none (by assumption) (by assumption)
  | exact (ne_of_none (by assumption) (by assumption)).symm
  | exact ne_of (by assumption) (by assumption) (by intro z; cases z)
  | exact (ne_of (by assumption) (by assumption) (by intro z; cases z)).symm)
local macro_rules | `(tactic| walk_at "hp") => `(tactic| first
  | assumption
  | exact upd_same
  | ((apply hp_ne); (focus (walk_at "ne")); (walk_at "hp"))
  | ((apply hp_ex); assumption; (walk_at "hp")))
local macro_rules | `(tactic| walk_at "sq") => `(tactic| first
  | assumption
  | ((apply Evl.sq_of); (walk_at "hp"))
  | ((apply Evl.st_of); (walk_at "hp"))
  | ((apply Evl.ex_l); assumption; (walk_at "sq"))
  | ((apply Evl.ex_t); assumption; (walk_at "sq")))
local macro_rules | `(tactic| walk_at "sz") => `(tactic| first | (simp only [List.length_cons, List.length_nil]; omega) | omega | decide)
local macro_rules | `(tactic| walk_at "ar") => `(tactic| first | omega | decide | assumption)
local macro_rules | `(tactic| walk_at "s1") => `(tactic| first
  | (with_reducible first
      | refine r_seq ?_ | refine r_asg ?_ | refine r_drop ?_ | refine r_ret ?_ | refine r_retN ?_ | refine r_if ?_ | refine r_next ?_ | refine r_brk ?_ | refine r_cont ?_ | refine r_sFld ?_ | refine r_raise ?_
      | refine r_op ?_ | refine r_cons ?_ | refine r_nil ?_ | refine r_c ?_ | refine r_cb ?_ | refine r_call ?_ | refine r_meth ?_ | refine r_make ?_ | refine r_fld ?_ | refine r_tup ?_ | refine r_lst ?_ | refine r_un ?_
      | refine r_name ?_ | refine r_gCons ?_ | refine r_gNil ?_ | refine r_gSub ?_ | refine r_test ?_ | refine r_B ?_ | refine r_tru ?_ | refine r_and ?_ | refine r_or ?_ | refine r_not ?_ | refine r_chain ?_
      | refine r_andV ?_ | refine r_orV ?_ | refine r_notV ?_ | refine r_if' ?_ | refine r_sl ?_ | refine r_noPart ?_ | refine r_part ?_ | refine r_bm ?_ | refine r_bm0 ?_ | refine r_m1 ?_
      | refine r_exI ?_ | refine r_exB ?_ | refine r_exS ?_
      | refine r_add ?_ | refine r_sub ?_ | refine r_lt ?_ | refine r_le ?_ | refine r_gt ?_ | refine r_ge ?_ | refine r_and2 ?_ | refine r_neg ?_
      | refine r_eqI ?_ | refine r_neI ?_ | refine r_eqS ?_ | refine r_neS ?_ | refine r_eqNI ?_ | refine r_isNN ?_ | refine r_isNI ?_ | refine r_isNR ?_ | refine r_notNN ?_ | refine r_notNI ?_ | refine r_notNR ?_
      | refine r_inS ?_ | refine r_notInS ?_ | refine r_truI ?_ | refine r_truB ?_ | refine r_truN ?_ | refine r_abs ?_ | refine r_max ?_ | refine r_min ?_ | refine r_int ?_ | refine r_intB ?_ | refine r_ord ?_ | refine r_find ?_
      | refine iteT ?_ | refine iteF ?_ | refine if_nf ?_ | refine if_nt ?_ | refine r_mkx ?_ | refine r_mkG ?_ | refine r_gS ?_
      | refine r_forL ?_ | refine r_forT ?_ | refine r_forS ?_ | refine r_forR1 ?_ | refine r_forR2 ?_ | refine r_lc ?_ | refine r_iL ?_ | refine r_iT ?_ | refine r_iS ?_ | refine r_iR1 ?_ | refine r_iR2 ?_ | refine r_iR3 ?_)
  | ((with_reducible apply r_var); (with_unfolding_all rfl))
  | ((with_reducible first | refine r_mod ?_ ?_ | refine r_mul ?_ ?_ | refine r_div ?_ ?_ | refine r_pow ?_ ?_); (first | omega | decide | exact ⟨by omega, by omega⟩ | exact ⟨by decide, by decide⟩ | exact .inr ⟨by omega, by omega⟩ | exact .inl ⟨by omega, by omega⟩ | exact .inr ⟨by decide, by decide⟩ | exact ⟨by decide, by decide, by decide⟩))
  | ((with_reducible first | apply r_tyL | apply r_ixL | apply r_ixT | apply r_lenL | apply r_lenT | apply r_truL | apply r_truT | apply r_gL | apply r_gT); (walk_at "sq"); (try (first | assumption | (exact atI_nat (by assumption)) | rfl)))
  | ((with_reducible first | apply r_gR1 | apply r_gR2 | apply r_addS | apply r_lenS | apply r_str | apply r_repS); (first | omega | decide | exact ⟨by omega, by omega⟩ | exact ⟨⟨by omega, by omega⟩, by omega, by omega⟩ | (exact Nat.le_trans (by assumption) (by decide)) | exact ⟨by omega, by omega, by decide +kernel⟩))
  | ((with_reducible refine ifT ?_ ?_); (walk_at "ar"))
  | ((with_reducible refine ifF ?_ ?_); (walk_at "ar"))
  | ((with_reducible refine ifNT ?_ ?_); (walk_at "ar"))
  | ((with_reducible refine ifNF ?_ ?_); (walk_at "ar")))
local macro_rules | `(tactic| walk_at "go") => `(tactic| repeat (walk_at "s1"))

local macro_rules | `(tactic| walk_at "cls") => `(tactic| (with_reducible first
  | apply g_Disk_size (by assumption)
  | apply w_Disk_size (by assumption)
  | apply g_Disk_blocks (by assumption)
  | apply w_Disk_blocks (by assumption)
  | apply g_Disk_queue (by assumption)
  | apply w_Disk_queue (by assumption)
  | apply g_Disk_left (by assumption)
  | apply w_Disk_left (by assumption)
  | apply g_Disk_down (by assumption)
  | apply w_Disk_down (by assumption)
  | apply g_Journal_disk (by assumption)
  | apply w_Journal_disk (by assumption)
  | apply g_Journal_area (by assumption)
  | apply w_Journal_area (by assumption)
  | apply g_Journal_first (by assumption)
  | apply w_Journal_first (by assumption)
  | apply g_Journal_next (by assumption)
  | apply w_Journal_next (by assumption)
  | apply g_Journal_generation (by assumption)
  | apply w_Journal_generation (by assumption)
  | apply g_Journal_number (by assumption)
  | apply w_Journal_number (by assumption)
  | apply g_Journal_image_number (by assumption)
  | apply w_Journal_image_number (by assumption)
  | apply g_Journal_image (by assumption)
  | apply w_Journal_image (by assumption)
  | apply g_Journal_kept (by assumption)
  | apply w_Journal_kept (by assumption)
  | apply mm_Disk_spend
  | apply mm_Disk_block
  | apply mm_Disk_write
  | apply mm_Disk_sync
  | apply mm_Disk_waiting
  | apply mm_Journal_area_of
  | apply mm_Journal_read_record
  | apply mm_Journal_empty_rest
  | apply mm_Journal_recover
  | apply mm_Journal_records
  | apply mm_Journal_has_room
  | apply mm_Journal_write_record
  | apply mm_Journal_checkpoint); walk_at "hp")
local macro_rules | `(tactic| walk_at "cls0") => `(tactic| (with_reducible first
  | apply w0_Disk_size (by assumption)
  | apply w0_Disk_blocks (by assumption)
  | apply w0_Disk_queue (by assumption)
  | apply w0_Disk_left (by assumption)
  | apply w0_Disk_down (by assumption)
  | apply w0_Journal_disk (by assumption)
  | apply w0_Journal_area (by assumption)
  | apply w0_Journal_first (by assumption)
  | apply w0_Journal_next (by assumption)
  | apply w0_Journal_generation (by assumption)
  | apply w0_Journal_number (by assumption)
  | apply w0_Journal_image_number (by assumption)
  | apply w0_Journal_image (by assumption)
  | apply w0_Journal_kept (by assumption)); walk_at "hp")
local macro_rules | `(tactic| walk_at "go") => `(tactic| repeat (first | walk_at "s1" | walk_at "cls"))

/-! ### the data that the law shows -/
theorem tf_len (c : Nat) : ∀ (ts : List Str) (k : Nat) (acc : Str), (∀ t ∈ ts, t.length ≤ c) → (textFrom k acc ts).length ≤ acc.length + ts.length * (c + 2)
  | [], k, acc, _ => by show acc.length ≤ _; omega
  | t :: r, k, acc, h => by
    have ih := tf_len c r (k + 1) (acc ++ (if k > 0 then ", " else "" : String) ++ t) fun x hx => h x (List.mem_cons_of_mem _ hx)
    have h1 := h t (List.mem_cons_self ..)
    have h2 : ((if k > 0 then ", " else "" : String) : Str).length ≤ 2 := by split <;> decide +kernel
    rw [app_len, app_len] at ih
    show (textFrom (k + 1) _ r).length ≤ _
    rw [List.length_cons, Nat.succ_mul]
    omega
theorem lt_len {c : Nat} {ts : List Str} (h : ∀ t ∈ ts, t.length ≤ c) : (listText ts).length ≤ ts.length * (c + 2) + 2 := by
  have := tf_len c ts 0 "[" h
  have e1 : ("[" : Str).length = 1 := by decide +kernel
  have e2 : ("]" : Str).length = 1 := by decide +kernel
  unfold listText
  rw [app_len, e2]
  omega
theorem tt_len (a b : Str) : (tupleText [a, b]).length = a.length + b.length + 4 := by
  have h := join_length_add [a, b] (by simp)
  have e1 : ("(" : Str).length = 1 := by decide +kernel
  have e2 : (")" : Str).length = 1 := by decide +kernel
  have e3 : piled [a, b] = a.length + b.length + 4 := by simp [piled]; omega
  unfold tupleText
  rw [app_len, app_len, e1]
  show 1 + (Str.join ", " [a, b]).length + (")" : Str).length = _
  rw [e2]
  omega
theorem GoodT.repr {t : Str} (h : GoodT t) : (reprText t).length ≤ 10002 := by
  have := StrLaws.reprText_len t fun c hc => by
    have := List.all_eq_true.mp h.2 c hc
    unfold okCh at this
    simp at this
    omega
  have := h.1
  omega
theorem shownAll_map {α : Type} (f : α → PyData) : ∀ l : List α, PyData.shownAll (l.map f) = l.map fun a => (f a).shown
  | [] => rfl
  | a :: l => by
    show PyData.shown (f a) :: PyData.shownAll (l.map f) = _
    rw [shownAll_map f l]
    rfl
theorem kept_len {ks : List (Nat × Str)} (h : ∀ e ∈ ks, e.1 < 1000000 ∧ GoodT e.2) (hl : ks.length ≤ 100) : (keptD ks).shown.length ≤ 1100000 := by
  show (listText (PyData.shownAll _)).length ≤ _
  rw [shownAll_map]
  have := lt_len (c := 10012) (ts := ks.map fun e => (PyData.tuple [.int (e.1 : Nat), .str e.2]).shown) fun t ht => by
    obtain ⟨e, he, rfl⟩ := List.mem_map.mp ht
    show (tupleText [Str.ofString (toString ((e.1 : Nat) : Int)), reprText e.2]).length ≤ _
    rw [tt_len]
    have := str_len6 (h e he).1
    have := (h e he).2.repr
    omega
  rw [List.length_map] at this
  have : ks.length * (10012 + 2) ≤ 100 * 10014 := Nat.mul_le_mul_right _ hl
  omega
/-- bounds of a journal -/
structure JB (n : Nat) (x : JS) : Prop where
  gen : x.gen ≤ n
  num : x.num ≤ n
  inum : x.inum ≤ n
  img : GoodT x.image
  kl : x.kept.length ≤ n
  ks : ∀ e ∈ x.kept, e.1 ≤ n ∧ GoodT e.2
theorem JB.mono {n m : Nat} {x : JS} (h : JB n x) (le : n ≤ m) : JB m x := ⟨Nat.le_trans h.gen le, Nat.le_trans h.num le, Nat.le_trans h.inum le, h.img, Nat.le_trans h.kl le, fun e he => ⟨Nat.le_trans (h.ks e he).1 le, (h.ks e he).2⟩⟩
theorem JB.add {n : Nat} {x : JS} {t : Str} (h : JB n x) (ht : GoodT t) : JB (n + 1) (addJ x t) := by
  refine ⟨Nat.le_succ_of_le h.gen, Nat.succ_le_succ h.num, Nat.le_succ_of_le h.inum, h.img, ?_, fun e he => ?_⟩
  · show (x.kept ++ _).length ≤ _
    rw [List.length_append]
    exact Nat.succ_le_succ h.kl
  · rcases List.mem_append.mp he with z | z
    · exact ⟨Nat.le_succ_of_le (h.ks e z).1, (h.ks e z).2⟩
    · rw [List.mem_singleton.mp z]
      exact ⟨Nat.succ_le_succ h.num, ht⟩
theorem JB.chk {n : Nat} {x : JS} {t : Str} (h : JB n x) (ht : GoodT t) : JB (n + 1) (chkJ x t) := ⟨Nat.succ_le_succ h.gen, Nat.le_succ_of_le h.num, Nat.le_succ_of_le h.num, ht, Nat.zero_le _, fun e he => by cases he⟩
theorem goodT_empty : GoodT "" := ⟨by decide +kernel, by decide +kernel⟩
theorem sbAll {α : Type} (f : α → PyData) : ∀ l : List α, (∀ a ∈ l, (f a).showable = true) → PyData.showableAll (l.map f) = true
  | [], _ => rfl
  | a :: l, h => by
    show (PyData.showable (f a) && PyData.showableAll (l.map f)) = true
    rw [h a (List.mem_cons_self ..), sbAll f l fun x hx => h x (List.mem_cons_of_mem _ hx)]
    rfl
theorem hdAll {α : Type} (f : α → PyData) : ∀ l : List α, (∀ a ∈ l, (f a).hasDict = false) → PyData.hasDictAll (l.map f) = false
  | [], _ => rfl
  | a :: l, h => by
    show (PyData.hasDict (f a) || PyData.hasDictAll (l.map f)) = false
    rw [h a (List.mem_cons_self ..), hdAll f l fun x hx => h x (List.mem_cons_of_mem _ hx)]
    rfl
theorem dpAll {α : Type} (f : α → PyData) (n : Nat) : ∀ l : List α, (∀ a ∈ l, (f a).depth ≤ n) → PyData.depthAll (l.map f) ≤ n
  | [], _ => Nat.zero_le _
  | a :: l, h => by
    show max (PyData.depth (f a)) (PyData.depthAll (l.map f)) ≤ n
    have := h a (List.mem_cons_self ..)
    have := dpAll f n l fun x hx => h x (List.mem_cons_of_mem _ hx)
    omega
theorem sb_int {n : Nat} (h : n < 1000000) : PyData.showable (.int (n : Nat)) = true := decide_eq_true (log_small h)
theorem seen_ok {n : Nat} {x : JS} (h : JB n x) (hn : n ≤ 90) : (seenD x).showable = true ∧ (seenD x).hasDict = false ∧ (seenD x).depth ≤ 60 ∧ (seenD x).shown.length ≤ sizeLine := by
  have b1 := h.gen
  have b2 := h.num
  have b3 := h.inum
  have b4 := h.kl
  have ks : ∀ e ∈ x.kept, e.1 < 1000000 ∧ GoodT e.2 := fun e he => ⟨by have := (h.ks e he).1; omega, (h.ks e he).2⟩
  refine ⟨?_, ?_, ?_, ?_⟩
  · have : PyData.showable (keptD x.kept) = true := sbAll _ _ fun e he => by
      show (PyData.showable (.int (e.1 : Nat)) && (true && true)) = true
      rw [sb_int (ks e he).1]
      rfl
    show (PyData.showable (.int (x.gen : Nat)) && (PyData.showable (.int (x.num : Nat)) && (PyData.showable (.int (x.inum : Nat)) && (true && (PyData.showable (keptD x.kept) && true))))) = true
    rw [sb_int (by omega), sb_int (by omega), sb_int (by omega), this]
    rfl
  · have : PyData.hasDict (keptD x.kept) = false := hdAll _ _ fun e he => rfl
    show (false || (false || (false || (false || (PyData.hasDict (keptD x.kept) || false))))) = false
    rw [this]
    rfl
  · have : PyData.depth (keptD x.kept) ≤ 2 := Nat.succ_le_succ (dpAll _ 1 _ fun e he => by show max 0 (max 0 0) + 1 ≤ 1; decide)
    show max 0 (max 0 (max 0 (max 0 (max (PyData.depth (keptD x.kept)) 0)))) + 1 ≤ 60
    omega
  · have hk := kept_len ks (by omega)
    have h1 := str_len6 (n := x.gen) (by omega)
    have h2 := str_len6 (n := x.num) (by omega)
    have h3 := str_len6 (n := x.inum) (by omega)
    have h4 := h.img.repr
    have := lt_len (c := 1100000) (ts := [Str.ofString (toString ((x.gen : Nat) : Int)), Str.ofString (toString ((x.num : Nat) : Int)), Str.ofString (toString ((x.inum : Nat) : Int)), reprText x.image, (keptD x.kept).shown]) fun t ht => by
      simp only [List.mem_cons, List.not_mem_nil, or_false] at ht
      rcases ht with rfl | rfl | rfl | rfl | rfl <;> omega
    exact Nat.le_trans this (by show 5 * (1100000 + 2) + 2 ≤ sizeLine; decide)
section
variable {K : PySem.W.Frag} {H : Hp} {Q : VK}
theorem rp_seen {n : Nat} {x : JS} {v : V} (h : JB n x) (hn : n ≤ 90) (hd : Dp K H v (seenD x)) (q : Q (.str (seenD x).shown) H) : rRepr K [v] H Q := by
  obtain ⟨a, b, c, d⟩ := seen_ok h hn
  exact ⟨v, _, rfl, hd, a, b, c, d, q⟩
theorem rp_bool {b : Bool} (q : Q (.str (PyData.shown (.bool b))) H) : rRepr K [.bl b] H Q := ⟨.bl b, _, rfl, .bl b, rfl, rfl, Nat.zero_le _, by cases b <;> decide +kernel, q⟩
theorem rp_none (q : Q (.str (PyData.shown .none)) H) : rRepr K [.non] H Q := ⟨.non, _, rfl, .non, rfl, rfl, by decide, by decide +kernel, q⟩
end

end U

set_option Elab.async false
set_option linter.all false
set_option maxRecDepth 100000
set_option maxHeartbeats 4000000
namespace U
open PySem PySem.Spec PyProof.Rows L2
/-! ### stepping: local words (walk_at "..": a word of the library's syntax, given a meaning of our own here) -/
local macro_rules | `(tactic| walk_at "ne") => `(tactic| first
  | assumption
  | exact Ne.symm (by assumption)
  | exact ne_of_none (by assumption) (by assumption)
  | exact (ne_of_none (by assumption) (by assumption)).symm
  | exact ne_of (by assumption) (by assumption) (by intro z; cases z)
  | exact (ne_of (by assumption) (by assumption) (by intro z; cases z)).symm)
local macro_rules | `(tactic| walk_at "hp") => `(tactic| first
  | assumption
  | exact upd_same
  | ((apply hp_ne); (focus (walk_at "ne")); (walk_at "hp"))
  | ((apply hp_ex); assumption; (walk_at "hp")))
local macro_rules | `(tactic| walk_at "sq") => `(tactic| first
  | assumption
  | ((apply Evl.sq_of); (walk_at "hp"))
  | ((apply Evl.st_of); (walk_at "hp"))
  | ((apply Evl.ex_l); assumption; (walk_at "sq"))
  | ((apply Evl.ex_t); assumption; (walk_at "sq")))
local macro_rules | `(tactic| walk_at "sz") => `(tactic| first | (simp only [List.length_cons, List.length_nil]; omega) | omega | decide)
local macro_rules | `(tactic| walk_at "ar") => `(tactic| first | omega | decide | assumption)
local macro_rules | `(tactic| walk_at "s1") => `(tactic| first
  | (with_reducible first
      | refine r_seq ?_ | refine r_asg ?_ | refine r_drop ?_ | refine r_ret ?_ | refine r_retN ?_ | refine r_if ?_ | refine r_next ?_ | refine r_brk ?_ | refine r_cont ?_ | refine r_sFld ?_ | refine r_raise ?_
      | refine r_op ?_ | refine r_cons ?_ | refine r_nil ?_ | refine r_c ?_ | refine r_cb ?_ | refine r_call ?_ | refine r_meth ?_ | refine r_make ?_ | refine r_fld ?_ | refine r_tup ?_ | refine r_lst ?_ | refine r_un ?_
      | refine r_name ?_ | refine r_gCons ?_ | refine r_gNil ?_ | refine r_gSub ?_ | refine r_test ?_ | refine r_B ?_ | refine r_tru ?_ | refine r_and ?_ | refine r_or ?_ | refine r_not ?_ | refine r_chain ?_
      | refine r_andV ?_ | refine r_orV ?_ | refine r_notV ?_ | refine r_if' ?_ | refine r_sl ?_ | refine r_noPart ?_ | refine r_part ?_ | refine r_bm ?_ | refine r_bm0 ?_ | refine r_m1 ?_
      | refine r_exI ?_ | refine r_exB ?_ | refine r_exS ?_
      | refine r_add ?_ | refine r_sub ?_ | refine r_lt ?_ | refine r_le ?_ | refine r_gt ?_ | refine r_ge ?_ | refine r_and2 ?_ | refine r_neg ?_
      | refine r_eqI ?_ | refine r_neI ?_ | refine r_eqS ?_ | refine r_neS ?_ | refine r_eqNI ?_ | refine r_isNN ?_ | refine r_isNI ?_ | refine r_isNR ?_ | refine r_notNN ?_ | refine r_notNI ?_ | refine r_notNR ?_
      | refine r_inS ?_ | refine r_notInS ?_ | refine r_truI ?_ | refine r_truB ?_ | refine r_truN ?_ | refine r_abs ?_ | refine r_max ?_ | refine r_min ?_ | refine r_int ?_ | refine r_intB ?_ | refine r_ord ?_ | refine r_find ?_
      | refine iteT ?_ | refine iteF ?_ | refine if_nf ?_ | refine if_nt ?_ | refine r_mkx ?_ | refine r_mkG ?_ | refine r_gS ?_
      | refine r_forL ?_ | refine r_forT ?_ | refine r_forS ?_ | refine r_forR1 ?_ | refine r_forR2 ?_ | refine r_lc ?_ | refine r_iL ?_ | refine r_iT ?_ | refine r_iS ?_ | refine r_iR1 ?_ | refine r_iR2 ?_ | refine r_iR3 ?_)
  | ((with_reducible apply r_var); (with_unfolding_all rfl))
  | ((with_reducible first | refine r_mod ?_ ?_ | refine r_mul ?_ ?_ | refine r_div ?_ ?_ | refine r_pow ?_ ?_); (first | omega | decide | exact ⟨by omega, by omega⟩ | exact ⟨by decide, by decide⟩ | exact .inr ⟨by omega, by omega⟩ | exact .inl ⟨by omega, by omega⟩ | exact .inr ⟨by decide, by decide⟩ | exact ⟨by decide, by decide, by decide⟩))
  | ((with_reducible first | apply r_tyL | apply r_ixL | apply r_ixT | apply r_lenL | apply r_lenT | apply r_truL | apply r_truT | apply r_gL | apply r_gT); (walk_at "sq"); (try (first | assumption | (exact atI_nat (by assumption)) | rfl)))
  | ((with_reducible first | apply r_gR1 | apply r_gR2 | apply r_addS | apply r_lenS | apply r_str | apply r_repS); (first | omega | decide | exact ⟨by omega, by omega⟩ | exact ⟨⟨by omega, by omega⟩, by omega, by omega⟩ | (exact Nat.le_trans (by assumption) (by decide)) | exact ⟨by omega, by omega, by decide +kernel⟩))
  | ((with_reducible refine ifT ?_ ?_); (walk_at "ar"))
  | ((with_reducible refine ifF ?_ ?_); (walk_at "ar"))
  | ((with_reducible refine ifNT ?_ ?_); (walk_at "ar"))
  | ((with_reducible refine ifNF ?_ ?_); (walk_at "ar")))
local macro_rules | `(tactic| walk_at "go") => `(tactic| repeat (walk_at "s1"))

local macro_rules | `(tactic| walk_at "cls") => `(tactic| (with_reducible first
  | apply g_Disk_size (by assumption)
  | apply w_Disk_size (by assumption)
  | apply g_Disk_blocks (by assumption)
  | apply w_Disk_blocks (by assumption)
  | apply g_Disk_queue (by assumption)
  | apply w_Disk_queue (by assumption)
  | apply g_Disk_left (by assumption)
  | apply w_Disk_left (by assumption)
  | apply g_Disk_down (by assumption)
  | apply w_Disk_down (by assumption)
  | apply g_Journal_disk (by assumption)
  | apply w_Journal_disk (by assumption)
  | apply g_Journal_area (by assumption)
  | apply w_Journal_area (by assumption)
  | apply g_Journal_first (by assumption)
  | apply w_Journal_first (by assumption)
  | apply g_Journal_next (by assumption)
  | apply w_Journal_next (by assumption)
  | apply g_Journal_generation (by assumption)
  | apply w_Journal_generation (by assumption)
  | apply g_Journal_number (by assumption)
  | apply w_Journal_number (by assumption)
  | apply g_Journal_image_number (by assumption)
  | apply w_Journal_image_number (by assumption)
  | apply g_Journal_image (by assumption)
  | apply w_Journal_image (by assumption)
  | apply g_Journal_kept (by assumption)
  | apply w_Journal_kept (by assumption)
  | apply mm_Disk_spend
  | apply mm_Disk_block
  | apply mm_Disk_write
  | apply mm_Disk_sync
  | apply mm_Disk_waiting
  | apply mm_Journal_area_of
  | apply mm_Journal_read_record
  | apply mm_Journal_empty_rest
  | apply mm_Journal_recover
  | apply mm_Journal_records
  | apply mm_Journal_has_room
  | apply mm_Journal_write_record
  | apply mm_Journal_checkpoint); walk_at "hp")
local macro_rules | `(tactic| walk_at "cls0") => `(tactic| (with_reducible first
  | apply w0_Disk_size (by assumption)
  | apply w0_Disk_blocks (by assumption)
  | apply w0_Disk_queue (by assumption)
  | apply w0_Disk_left (by assumption)
  | apply w0_Disk_down (by assumption)
  | apply w0_Journal_disk (by assumption)
  | apply w0_Journal_area (by assumption)
  | apply w0_Journal_first (by assumption)
  | apply w0_Journal_next (by assumption)
  | apply w0_Journal_generation (by assumption)
  | apply w0_Journal_number (by assumption)
  | apply w0_Journal_image_number (by assumption)
  | apply w0_Journal_image (by assumption)
  | apply w0_Journal_kept (by assumption)); walk_at "hp")
local macro_rules | `(tactic| walk_at "go") => `(tactic| repeat (first | walk_at "s1" | walk_at "cls"))

/-! ### the law's state -/
structure MoA (H : Hp) (m mk : Addr) (y : JS) : Prop where
  ob : H m = some (.lst [.int (y.gen : Nat), .int (y.num : Nat), .int (y.inum : Nat), .str y.image, .ref mk])
  kt : ∃ ps : List Addr, H mk = some (.lst (ps.map V.ref)) ∧ Tups H ps y.kept
structure LW (K : PySem.W.Frag) (A : Adr) (H : Hp) (st j p lb lq lk m mk : Addr) (x y : JS) (d : DS) : Prop where
  S : StS K H st
  G : GAt A H j p lb lq lk x d
  M : MoA H m mk y
  n1 : mk ≠ lb
  n2 : mk ≠ lq
  n3 : mk ≠ lk
section
variable {K : PySem.W.Frag} {A : Adr}
theorem MoA.dp {H : Hp} {m mk : Addr} {y : JS} (M : MoA H m mk y) : Dp K H (.ref m) (seenD y) := by
  obtain ⟨ps, h1, h2⟩ := M.kt
  exact .lst (Evl.sq_of M.ob) (.cons (.int _) (.cons (.int _) (.cons (.int _) (.cons (.str _) (.cons (dp_kept h1 h2) .nil)))))
theorem MoA.kp {H H' : Hp} {m mk : Addr} {y : JS} {fp : List Addr} (h : MoA H m mk y) (k : Kp fp H H') (n1 : m ∉ fp) (n2 : mk ∉ fp) (nt : ∀ b ∈ fp, ∀ xs, H b ≠ some (.tup xs)) : MoA H' m mk y := by
  obtain ⟨h1, ⟨ps, h2, h3⟩⟩ := h
  exact ⟨k _ _ h1 n1, ⟨ps, k _ _ h2 n2, tups_kp h3 fun b xs z => k _ _ z fun w => nt b w xs z⟩⟩
theorem ref_no {xs : List Addr} {v w : V} {r : List V} (h : ∀ a, w ≠ .ref a) : xs.map V.ref ≠ v :: w :: r := fun z => by
  match xs, z with
  | _ :: b :: _, z =>
    injection z with _ z
    injection z with z _
    exact h b z.symm
theorem str_no {xs : List Str} {v : V} {r : List V} (h : ∀ a, v ≠ .str a) : xs.map V.str ≠ v :: r := fun z => by
  match xs, z with
  | b :: _, z =>
    injection z with z _
    exact h b z.symm
/-- what stands at the journal's addresses is no state, no model -/
theorem GAt.kinds {H : Hp} {j p lb lq lk : Addr} {x : JS} {d : DS} (G : GAt A H j p lb lq lk x d) {b : Addr} (hb : b ∈ [j, p, lb, lq, lk]) : ∃ o, H b = some o ∧ (∀ xs, o ≠ .tup xs) ∧ (∀ v w r, (∀ a, v ≠ .str a) → (∀ a, w ≠ .ref a) → o ≠ .lst (v :: w :: r)) ∧ (∀ u o', o ≠ .frz u o') := by
  obtain ⟨jx, hj⟩ := G.J.ob
  obtain ⟨ks, hk, _⟩ := G.J.kt
  obtain ⟨dx, hp⟩ := G.D.ob
  obtain ⟨ps, hq, _⟩ := G.D.qu
  have hl := G.D.bl
  simp only [List.mem_cons, List.not_mem_nil, or_false] at hb
  rcases hb with rfl | rfl | rfl | rfl | rfl
  · exact ⟨_, hj, fun xs z => by (cases z), fun v w r _ _ z => by (cases z), fun u o' z => by (cases z)⟩
  · exact ⟨_, hp, fun xs z => by (cases z), fun v w r _ _ z => by (cases z), fun u o' z => by (cases z)⟩
  · exact ⟨_, hl, fun xs z => by (cases z), fun v w r h1 _ z => by (injection z with z; exact str_no h1 z), fun u o' z => by (cases z)⟩
  · exact ⟨_, hq, fun xs z => by (cases z), fun v w r _ h2 z => by (injection z with z; exact ref_no h2 z), fun u o' z => by (cases z)⟩
  · exact ⟨_, hk, fun xs z => by (cases z), fun v w r _ h2 z => by (injection z with z; exact ref_no h2 z), fun u o' z => by (cases z)⟩
theorem LW.ex {H H' : Hp} {st j p lb lq lk m mk : Addr} {x y : JS} {d : DS} (L : LW K A H st j p lb lq lk m mk x y d) (e : Ex H H') : LW K A H' st j p lb lq lk m mk x y d :=
  ⟨L.S.ex e, L.G.ex e, L.M.kp (fp := []) (kp_ex e) (by simp) (by simp) (by simp), L.n1, L.n2, L.n3⟩
theorem LW.st {H H' : Hp} {st j p lb lq lk m mk : Addr} {x y : JS} {d : DS} (L : LW K A H st j p lb lq lk m mk x y d) (k : Kp [st] H H') (S' : StS K H' st) : LW K A H' st j p lb lq lk m mk x y d := by
  obtain ⟨a, e, ns, rest, pos, mx, S⟩ := L.S
  have nt : ∀ b ∈ [st], ∀ xs, H b ≠ some (.tup xs) := fun b hb xs z => by rw [List.mem_singleton.mp hb, S.ob] at z; cases z
  have no : ∀ b ∈ [j, p, lb, lq, lk], b ∉ [st] := fun b hb z => by
    obtain ⟨o, h1, _, h3, _⟩ := L.G.kinds hb
    rw [List.mem_singleton.mp z, S.ob] at h1
    exact h3 _ _ _ (fun a z => by cases z) (fun a z => by cases z) (Option.some.inj h1).symm
  obtain ⟨ps, hk, _⟩ := L.M.kt
  refine ⟨S', ⟨L.G.J.kp k (no _ (by simp)) (no _ (by simp)) nt, L.G.D.kp k (no _ (by simp)) (no _ (by simp)) (no _ (by simp)) nt, L.G.nd⟩, L.M.kp k (fun z => ?_) (fun z => ?_) nt, L.n1, L.n2, L.n3⟩
  · have := L.M.ob
    rw [List.mem_singleton.mp z, S.ob] at this
    cases this
  · rw [List.mem_singleton.mp z, S.ob] at hk
    injection hk with hk
    injection hk with hk
    exact ref_no (fun a z => by cases z) hk.symm
/-- a call of the journal's -/
theorem LW.move {H H' : Hp} {st j j' p lb lq lq' lk lk' m mk : Addr} {x x' y : JS} {d d' : DS} {fp : List Addr} (L : LW K A H st j p lb lq lk m mk x y d) (hfp : ∀ b ∈ fp, b ∈ [j, p, lb, lq, lk] ∨ H b = none) (k : Kp fp H H') (G' : GAt A H' j' p lb lq' lk' x' d') (h1 : lq' = lq ∨ H lq' = none) (h2 : lk' = lk ∨ H lk' = none) :
    LW K A H' st j' p lb lq' lk' m mk x' y d' := by
  obtain ⟨S, G, M, n1, n2, n3⟩ := L
  obtain ⟨ps, hk, hkt⟩ := id M.kt
  have nst : st ∉ fp := fun z => by
    obtain ⟨a, e, ns, rest, pos, mx, S⟩ := S
    rcases hfp _ z with w | w
    · obtain ⟨o, q1, _, q3, _⟩ := G.kinds w
      rw [S.ob] at q1
      exact q3 _ _ _ (fun a z => by cases z) (fun a z => by cases z) (Option.some.inj q1).symm
    · rw [S.ob] at w; cases w
  have nm : m ∉ fp := fun z => by
    rcases hfp _ z with w | w
    · obtain ⟨o, q1, _, q3, _⟩ := G.kinds w
      rw [M.ob] at q1
      exact q3 _ _ _ (fun a z => by cases z) (fun a z => by cases z) (Option.some.inj q1).symm
    · rw [M.ob] at w; cases w
  have nmk : mk ∉ fp := fun z => by
    rcases hfp _ z with w | w
    · simp only [List.mem_cons, List.not_mem_nil, or_false] at w
      obtain ⟨jx, hj⟩ := G.J.ob
      obtain ⟨dx, hp⟩ := G.D.ob
      rcases w with w | w | w | w | w
      · rw [w, hj] at hk; cases hk
      · rw [w, hp] at hk; cases hk
      · exact n1 w
      · exact n2 w
      · exact n3 w
    · rw [hk] at w; cases w
  have nt : ∀ b ∈ fp, ∀ xs, H b ≠ some (.tup xs) := fun b hb xs z => by
    rcases hfp _ hb with w | w
    · obtain ⟨o, q1, q2, _⟩ := G.kinds w
      rw [z] at q1
      exact q2 xs (Option.some.inj q1).symm
    · rw [z] at w; cases w
  refine ⟨?_, G', M.kp k nm nmk nt, n1, ?_, ?_⟩
  · refine S.kp k nst fun b hb u o' z => ?_
    rcases hfp _ hb with w | w
    · obtain ⟨o, q1, _, _, q4⟩ := G.kinds w
      rw [z] at q1
      exact q4 _ _ (Option.some.inj q1).symm
    · rw [z] at w; cases w
  · rcases h1 with rfl | h1
    · exact n2
    · exact ne_of_none hk h1
  · rcases h2 with rfl | h2
    · exact n3
    · exact ne_of_none hk h2
end

end U

set_option Elab.async false
set_option linter.all false
set_option maxRecDepth 100000
set_option maxHeartbeats 4000000
namespace U
open PySem PySem.Spec PyProof.Rows L2
/-! ### stepping: local words (walk_at "..": a word of the library's syntax, given a meaning of our own here) -/
local macro_rules | `(tactic| walk_at "ne") => `(tactic| first
  | assumption
  | exact Ne.symm (by assumption)
  | exact ne_of_none (by assumption) (by assumption)
  | exact (ne_of_none (by assumption) (by assumption)).symm
  | exact ne_of (by assumption) (by assumption) (by intro z; cases z)
  | exact (ne_of (by assumption) (by assumption) (by intro z; cases z)).symm)
local macro_rules | `(tactic| walk_at "hp") => `(tactic| first
  | assumption
  | exact upd_same
  | ((apply hp_ne); (focus (walk_at "ne")); (walk_at "hp"))
  | ((apply hp_ex); assumption; (walk_at "hp")))
local macro_rules | `(tactic| walk_at "sq") => `(tactic| first
  | assumption
  | ((apply Evl.sq_of); (walk_at "hp"))
  | ((apply Evl.st_of); (walk_at "hp"))
  | ((apply Evl.ex_l); assumption; (walk_at "sq"))
  | ((apply Evl.ex_t); assumption; (walk_at "sq")))
local macro_rules | `(tactic| walk_at "sz") => `(tactic| first | (simp only [List.length_cons, List.length_nil]; omega) | omega | decide)
local macro_rules | `(tactic| walk_at "ar") => `(tactic| first | omega | decide | assumption)
local macro_rules | `(tactic| walk_at "s1") => `(tactic| first
  | (with_reducible first
      | refine r_seq ?_ | refine r_asg ?_ | refine r_drop ?_ | refine r_ret ?_ | refine r_retN ?_ | refine r_if ?_ | refine r_next ?_ | refine r_brk ?_ | refine r_cont ?_ | refine r_sFld ?_ | refine r_raise ?_
      | refine r_op ?_ | refine r_cons ?_ | refine r_nil ?_ | refine r_c ?_ | refine r_cb ?_ | refine r_call ?_ | refine r_meth ?_ | refine r_make ?_ | refine r_fld ?_ | refine r_tup ?_ | refine r_lst ?_ | refine r_un ?_
      | refine r_name ?_ | refine r_gCons ?_ | refine r_gNil ?_ | refine r_gSub ?_ | refine r_test ?_ | refine r_B ?_ | refine r_tru ?_ | refine r_and ?_ | refine r_or ?_ | refine r_not ?_ | refine r_chain ?_
      | refine r_andV ?_ | refine r_orV ?_ | refine r_notV ?_ | refine r_if' ?_ | refine r_sl ?_ | refine r_noPart ?_ | refine r_part ?_ | refine r_bm ?_ | refine r_bm0 ?_ | refine r_m1 ?_
      | refine r_exI ?_ | refine r_exB ?_ | refine r_exS ?_
      | refine r_add ?_ | refine r_sub ?_ | refine r_lt ?_ | refine r_le ?_ | refine r_gt ?_ | refine r_ge ?_ | refine r_and2 ?_ | refine r_neg ?_
      | refine r_eqI ?_ | refine r_neI ?_ | refine r_eqS ?_ | refine r_neS ?_ | refine r_eqNI ?_ | refine r_isNN ?_ | refine r_isNI ?_ | refine r_isNR ?_ | refine r_notNN ?_ | refine r_notNI ?_ | refine r_notNR ?_
      | refine r_inS ?_ | refine r_notInS ?_ | refine r_truI ?_ | refine r_truB ?_ | refine r_truN ?_ | refine r_abs ?_ | refine r_max ?_ | refine r_min ?_ | refine r_int ?_ | refine r_intB ?_ | refine r_ord ?_ | refine r_find ?_
      | refine iteT ?_ | refine iteF ?_ | refine if_nf ?_ | refine if_nt ?_ | refine r_mkx ?_ | refine r_mkG ?_ | refine r_gS ?_
      | refine r_forL ?_ | refine r_forT ?_ | refine r_forS ?_ | refine r_forR1 ?_ | refine r_forR2 ?_ | refine r_lc ?_ | refine r_iL ?_ | refine r_iT ?_ | refine r_iS ?_ | refine r_iR1 ?_ | refine r_iR2 ?_ | refine r_iR3 ?_)
  | ((with_reducible apply r_var); (with_unfolding_all rfl))
  | ((with_reducible first | refine r_mod ?_ ?_ | refine r_mul ?_ ?_ | refine r_div ?_ ?_ | refine r_pow ?_ ?_); (first | omega | decide | exact ⟨by omega, by omega⟩ | exact ⟨by decide, by decide⟩ | exact .inr ⟨by omega, by omega⟩ | exact .inl ⟨by omega, by omega⟩ | exact .inr ⟨by decide, by decide⟩ | exact ⟨by decide, by decide, by decide⟩))
  | ((with_reducible first | apply r_tyL | apply r_ixL | apply r_ixT | apply r_lenL | apply r_lenT | apply r_truL | apply r_truT | apply r_gL | apply r_gT); (walk_at "sq"); (try (first | assumption | (exact atI_nat (by assumption)) | rfl)))
  | ((with_reducible first | apply r_gR1 | apply r_gR2 | apply r_addS | apply r_lenS | apply r_str | apply r_repS); (first | omega | decide | exact ⟨by omega, by omega⟩ | exact ⟨⟨by omega, by omega⟩, by omega, by omega⟩ | (exact Nat.le_trans (by assumption) (by decide)) | exact ⟨by omega, by omega, by decide +kernel⟩))
  | ((with_reducible refine ifT ?_ ?_); (walk_at "ar"))
  | ((with_reducible refine ifF ?_ ?_); (walk_at "ar"))
  | ((with_reducible refine ifNT ?_ ?_); (walk_at "ar"))
  | ((with_reducible refine ifNF ?_ ?_); (walk_at "ar")))
local macro_rules | `(tactic| walk_at "go") => `(tactic| repeat (walk_at "s1"))

local macro_rules | `(tactic| walk_at "cls") => `(tactic| (with_reducible first
  | apply g_Disk_size (by assumption)
  | apply w_Disk_size (by assumption)
  | apply g_Disk_blocks (by assumption)
  | apply w_Disk_blocks (by assumption)
  | apply g_Disk_queue (by assumption)
  | apply w_Disk_queue (by assumption)
  | apply g_Disk_left (by assumption)
  | apply w_Disk_left (by assumption)
  | apply g_Disk_down (by assumption)
  | apply w_Disk_down (by assumption)
  | apply g_Journal_disk (by assumption)
  | apply w_Journal_disk (by assumption)
  | apply g_Journal_area (by assumption)
  | apply w_Journal_area (by assumption)
  | apply g_Journal_first (by assumption)
  | apply w_Journal_first (by assumption)
  | apply g_Journal_next (by assumption)
  | apply w_Journal_next (by assumption)
  | apply g_Journal_generation (by assumption)
  | apply w_Journal_generation (by assumption)
  | apply g_Journal_number (by assumption)
  | apply w_Journal_number (by assumption)
  | apply g_Journal_image_number (by assumption)
  | apply w_Journal_image_number (by assumption)
  | apply g_Journal_image (by assumption)
  | apply w_Journal_image (by assumption)
  | apply g_Journal_kept (by assumption)
  | apply w_Journal_kept (by assumption)
  | apply mm_Disk_spend
  | apply mm_Disk_block
  | apply mm_Disk_write
  | apply mm_Disk_sync
  | apply mm_Disk_waiting
  | apply mm_Journal_area_of
  | apply mm_Journal_read_record
  | apply mm_Journal_empty_rest
  | apply mm_Journal_recover
  | apply mm_Journal_records
  | apply mm_Journal_has_room
  | apply mm_Journal_write_record
  | apply mm_Journal_checkpoint); walk_at "hp")
local macro_rules | `(tactic| walk_at "cls0") => `(tactic| (with_reducible first
  | apply w0_Disk_size (by assumption)
  | apply w0_Disk_blocks (by assumption)
  | apply w0_Disk_queue (by assumption)
  | apply w0_Disk_left (by assumption)
  | apply w0_Disk_down (by assumption)
  | apply w0_Journal_disk (by assumption)
  | apply w0_Journal_area (by assumption)
  | apply w0_Journal_first (by assumption)
  | apply w0_Journal_next (by assumption)
  | apply w0_Journal_generation (by assumption)
  | apply w0_Journal_number (by assumption)
  | apply w0_Journal_image_number (by assumption)
  | apply w0_Journal_image (by assumption)
  | apply w0_Journal_kept (by assumption)); walk_at "hp")
local macro_rules | `(tactic| walk_at "go") => `(tactic| repeat (first | walk_at "s1" | walk_at "cls"))

section
variable {K : PySem.W.Frag} {A : Adr}
theorem new_j {H : Hp} {Q : VK} {E : XK} {j jx p lb lq : Addr} {d : DS} {s : Nat → Option Bk} {x : JS} (hj : H j = some (.ins A.Journal jx [])) (D : DAt A H p lb lq d) (I : JI d s x) (nl : NoL d) (hq : d.queue = [])
    (k : ∀ lk lq' d' s' H', GAt A H' j p lb lq' lk x d' → JI d' s' x → NoL d' → d'.queue = [] → d'.size = d.size → H lk = none → (lq' = lq ∨ H lq' = none) → Kp [j, p, lb, lq] H H' → Q .non H') : sp_Journal_init K A [.ref j, .ref p] H Q E := by
  obtain ⟨n1, n2⟩ := I.nx
  have hfi := I.fi
  obtain ⟨g1, g2, g3, g4, g5⟩ := empR_gd D.ok.gd (by omega) n2 nl.empR.1 I.see hq
  refine ⟨j, jx, p, lb, lq, d, s, x.area, x.gen, x.inum, x.image.cps.toList, rfl, hj, D, nl.2, by rw [hq]; decide, I.sz, I.ar, I.see, I.root, ?_, ?_⟩
  · rw [I.rec_]
    exact fun hl => bx hl nl.empR.1
  · rw [I.rec_]
    exact fun _ lk lq' H' G hlk hlq kk => k lk lq' _ _ H' G (I.again g2 g3 g4) nl.empR.2 g5 g2 hlk hlq kk
/-- the law's loop at the k-th turn -/
def LP (K : PySem.W.Frag) (A : Adr) (a p : Addr) (n k : Nat) (σ : L2.St) (H : Hp) : Prop := ∃ st j lb lq lk m mk x d s u v8 v9 v10 v11 v12 v13, σ = [some (.ref a), some (.ref st), some (.int (n : Nat)), some (.int (((n - 1) / 3 : Nat) : Int)), some (.ref p), some (.ref j), some (.ref m), some (.int (u : Nat)), v8, v9, v10, v11, v12, v13] ∧
  LW K A H st j p lb lq lk m mk x x d ∧ JI d s x ∧ NoL d ∧ d.queue = [] ∧ d.size = n ∧ JB k x ∧ x.first + u = x.next
theorem seen_rep (n a : Nat) : ({ size := n, blocks := List.replicate n ("" : Str), queue := [], left := none, down := false } : DS).seen a = "" := by
  show (List.replicate n ("" : Str)).getD a "" = ""
  rw [List.getD_eq_getElem?_getD, List.getElem?_replicate]
  split <;> rfl
theorem pure_law (T : TxtP K A) (vs : List V) (H : Hp) (Q : VK) (E : XK) (h : sp_law K A vs H Q E) : t_law K A (fun cls d _ H => E cls d H) { nx := fun _ H' => Q .non H', rt := Q } (start N_law vs) H := by
  obtain ⟨a, ns, rfl, hf, hl, kQ⟩ := h
  unfold t_law
  walk_at "go"
  refine ⟨a, ns, rfl, hf, hl, fun st H1 e1 hst S1 => ?_⟩
  walk_at "go"
  refine ⟨st, 57, rfl, S1, by decide, by decide, fun r H2 S2 k2 r0 r1 => ?_⟩
  have hs2 : SqL K H2 a (ns.map V.int) := ((hf.ex e1).kp k2 fun b hb u o' z => by
    obtain ⟨_, _, _, _, _, _, S⟩ := S1
    rw [List.mem_singleton.mp hb, S.ob] at z; cases z).sq
  obtain ⟨n, hn, hn4, hn60⟩ : ∃ n : Nat, 4 + r = (n : Int) ∧ 4 ≤ n ∧ n ≤ 60 := ⟨(4 + r).toNat, by omega, by omega, by omega⟩
  walk_at "go"
  rw [hn]
  walk_at "go"
  rw [show ((n : Int) - 1) / 3 = (((n - 1) / 3 : Nat) : Int) by omega]
  walk_at "go"
  intro p dx hp hdx hpd
  refine ⟨p, dx, n, rfl, by omega, upd_same, fun lb lq H3 hlb hlq k3 D => ?_⟩
  have e3 : Ex H2 H3 := fun b o h => k3 b o (by rw [upd_ne (ne_of_none h hp), upd_ne (ne_of_none h hdx)]; exact h) (by simpa using ne_of_none h hp)
  refine ⟨rfl, ?_⟩
  walk_at "go"
  intro j jx hj hjx hjd
  have e4 : Ex H3 (upd (upd H3 jx (.own j)) j (.ins A.Journal jx [])) := (Evl.Ex.new hjx).trans (Evl.Ex.new (by rw [upd_ne hjd.symm]; exact hj))
  have I0 := JI.fresh (d := { size := n, blocks := List.replicate n ("" : Str), queue := [], left := none, down := false }) (by show 1 ≤ n; omega) (seen_rep n)
  refine new_j upd_same (D.ex e4) I0 ⟨rfl, rfl⟩ rfl fun lk lq5 d5 s5 H5 G5 I5 nl5 q5 z5 hlk hlq5 k5 => ?_
  refine ⟨rfl, ?_⟩
  obtain ⟨hs5, S5⟩ : SqL K H5 a (ns.map V.int) ∧ StS K H5 st := by
    obtain ⟨dxx, hp3⟩ := (D.ex e4).ob
    obtain ⟨qs, hq3, _⟩ := (D.ex e4).qu
    have hb3 := (D.ex e4).bl
    have S3 := (S2.ex e3).ex e4
    have nf : ∀ b ∈ [j, p, lb, lq], ∀ u o', upd (upd H3 jx (.own j)) j (.ins A.Journal jx []) b ≠ some (.frz u o') := fun b hb u o' z => by
      simp only [List.mem_cons, List.not_mem_nil, or_false] at hb
      rcases hb with rfl | rfl | rfl | rfl
      · rw [upd_same] at z; cases z
      · rw [hp3] at z; cases z
      · rw [hb3] at z; cases z
      · rw [hq3] at z; cases z
    refine ⟨((((hf.ex e1).kp k2 fun b hb u o' z => by
      obtain ⟨_, _, _, _, _, _, S⟩ := S1
      rw [List.mem_singleton.mp hb, S.ob] at z; cases z).ex (e3.trans e4)).kp k5 nf).sq, S3.kp k5 (fun z => ?_) nf⟩
    obtain ⟨_, _, _, _, _, _, S⟩ := S3
    have ob := S.ob
    simp only [List.mem_cons, List.not_mem_nil, or_false] at z
    rcases z with z | z | z | z
    · rw [z, upd_same] at ob; cases ob
    · rw [z, hp3] at ob; cases ob
    · rw [z, hb3] at ob
      injection ob with ob
      injection ob with ob
      exact str_no (fun a z => by cases z) ob
    · rw [z, hq3] at ob
      injection ob with ob
      injection ob with ob
      exact ref_no (fun a z => by cases z) ob
  walk_at "go"
  refine r_small (by show 0 ≤ 1000; decide) fun mk hmk => ?_
  walk_at "go"
  refine r_small (by show 5 ≤ 1000; decide) fun m hm => ?_
  have em1 : Ex H5 _ := Evl.Ex.new (o := .lst []) hmk
  have em2 : Ex (upd H5 mk (.lst [])) _ := Evl.Ex.new (o := .lst [.int 0, .int 0, .int 0, .str "", .ref mk]) hm
  obtain ⟨q5s, hq5, _⟩ := G5.D.qu
  obtain ⟨l5s, hl5, _⟩ := G5.J.kt
  have L0 : LW K A (upd (upd H5 mk (.lst [])) m (.lst [.int 0, .int 0, .int 0, .str "", .ref mk])) st j p lb lq5 lk m mk (freshJ ((n - 1) / 3)) (freshJ ((n - 1) / 3)) d5 :=
    ⟨(S5.ex em1).ex em2, (G5.ex em1).ex em2, ⟨upd_same, ⟨[], em2 _ _ upd_same, .nil⟩⟩, (ne_of_none G5.D.bl hmk).symm, (ne_of_none hq5 hmk).symm, (ne_of_none hl5 hmk).symm⟩
  walk_at "go"
  refine r_slL (Evl.ex_l (em1.trans em2) hs5) fun sl hsl => ?_
  have L0 := L0.ex (Evl.Ex.new (o := .lst (cutV (List.map V.int ns) none (some 20))) hsl)
  have hcl := cutV_len (List.map V.int ns) none (some 20)
  rw [List.length_map] at hcl
  walk_at "go"
  obtain ⟨N, hN⟩ : ∃ N, N = 1 + (cutV (List.map V.int ns) none (some 20)).length := ⟨_, rfl⟩
  rw [show (1 : Int) + ((cutV (List.map V.int ns) none (some 20)).length : Nat) = ((N : Nat) : Int) by omega]
  walk_at "go"
  refine f_range (n := ((N : Nat) : Int).toNat) (LP K A a p n) ⟨st, j, lb, lq5, lk, m, mk, _, d5, s5, 0, none, none, none, none, none, none, rfl, L0, I5, nl5, q5, z5, ⟨Nat.le_refl _, Nat.le_refl _, Nat.le_refl _, goodT_empty, Nat.le_refl _, fun e he => by cases he⟩, rfl⟩ (fun k σ H hk hP => ?_) (fun σ H hP => ?_)
  · obtain ⟨st, j, lb, lq, lk, m, mk, x, d, s, u, v8, v9, v10, v11, v12, v13, rfl, L, I, nl, hq, hsz, B, hu⟩ := hP
    have hk64 : k ≤ 64 := by rw [Int.toNat_natCast] at hk; omega
    walk_at "go"
    refine ⟨st, 5, rfl, L.S, by decide, by decide, fun kind H6 S6 k6 kd0 kd1 => ?_⟩
    have L := L.st k6 S6
    walk_at "go"
    refine r_small (by show 2 ≤ 1000; decide) fun q hq6 => ?_
    have L := L.ex (Evl.Ex.new (o := .lst [.int 20, .int 130]) hq6)
    have nqs : q ≠ st := fun z => by
      obtain ⟨_, _, _, _, _, _, S⟩ := S6
      rw [z, S.ob] at hq6; cases hq6
    walk_at "go"
    refine ⟨st, 2, rfl, L.S, by decide, by decide, fun r2 H7 S7 k7 r20 r21 => ?_⟩
    have L := L.st k7 S7
    have hq7 : H7 q = some (.lst [.int 20, .int 130]) := k7 _ _ upd_same (by simpa using nqs)
    obtain ⟨most, hmost, mo0, mo1⟩ : ∃ most : Int, atI [V.int 20, V.int 130] r2 = some (.int most) ∧ 0 < most ∧ most ≤ 999 := by
      have : r2 = 0 ∨ r2 = 1 := by omega
      rcases this with e | e
      · rw [e]; exact ⟨20, rfl, by decide, by decide⟩
      · rw [e]; exact ⟨130, rfl, by decide, by decide⟩
    walk_at "go"
    refine ⟨st, most, rfl, L.S, mo0, mo1, fun t H8 S8 k8 ht htl => ?_⟩
    have L := L.st k8 S8
    walk_at "go"
    refine r_cut (LP K A a p n (k + 1)) ?_ fun σ9 H9 hP9 => ?_
    · have hfi := I.fi
      obtain ⟨nx1, nx2⟩ := I.nx
      have har : x.area = (n - 1) / 3 := by rw [I.ar, hsz]
      have b1 := B.gen
      have b2 := B.num
      have b3 := B.kl
      have ht1 := ht.1
      have jok : JOk x := ⟨by omega, by omega⟩
      have hm := L.M.ob
      obtain ⟨jx8, hj8⟩ := L.G.J.ob
      obtain ⟨dx8, hp8⟩ := L.G.D.ob
      walk_at "go"
      refine if2 (fun h3 => ?_) (fun h3 => ?_)
      · walk_at "go"
        refine ⟨t, rfl, by omega, ?_⟩
        walk_at "go"
        have efit : decide (((u : Nat) : Int) + ((pcs t.cps.toList : Nat) : Int) ≤ ((n : Nat) : Int) - 1 - 2 * (((n - 1) / 3 : Nat) : Int)) = decide (x.next + pcs t.cps.toList ≤ d.size) := by
          rw [Bool.eq_iff_iff, decide_eq_true_iff, decide_eq_true_iff]
          omega
        rw [efit]
        walk_at "go"
        refine ⟨j, p, lb, lq, lk, x, d, t, rfl, L.G, jok, by omega, fun H9 e9 => ?_⟩
        have L := L.ex e9
        have hm := L.M.ob
        walk_at "go"
        refine rp_bool ?_
        walk_at "go"
        refine rp_bool ?_
        walk_at "go"
        refine ifNF rfl ?_
        walk_at "go"
        refine if2 (fun hr => ?_) (fun hr => ?_)
        · walk_at "go"
          refine ⟨t, rfl, by omega, ?_⟩
          obtain ⟨ps, hmk, hmt⟩ := L.M.kt
          walk_at "go"
          refine r_small (by show 2 ≤ 1000; decide) fun ta hta => ?_
          have ea : Ex H9 (upd H9 ta (.tup [.int ((x.num : Int) + 1), .str t])) := Evl.Ex.new hta
          walk_at "go"
          refine r_small (by show 1 ≤ 1000; decide) fun ql hql => ?_
          have eb : Ex _ (upd (upd H9 ta (.tup [.int ((x.num : Int) + 1), .str t])) ql (.lst [.ref ta])) := Evl.Ex.new hql
          have hpl := tups_len hmt
          walk_at "go"
          refine ⟨mk, ql, _, _, rfl, rfl, eb _ _ (ea _ _ hmk), upd_same, by rw [List.length_map]; exact sm (by show ps.length + 1 ≤ _; omega), fun mk' hmk' => ?_⟩
          have ec := Evl.Ex.new (o := .lst (ps.map V.ref ++ [.ref ta])) hmk'
          walk_at "go"
          refine r_small (by show 5 ≤ 1000; decide) fun m' hm' => ?_
          have ed := Evl.Ex.new (o := .lst [.int (x.gen : Nat), .int ((x.num : Int) + 1), .int (x.inum : Nat), .str x.image, .ref mk']) hm'
          have eall := ((ea.trans eb).trans ec).trans ed
          have L2 := L.ex eall
          obtain ⟨qs', hqs', _⟩ := L.G.D.qu
          obtain ⟨ks', hks', _⟩ := L.G.J.kt
          have L3 : LW K A _ st j p lb lq lk m' mk' x (addJ x t) d := ⟨L2.S, L2.G, ⟨upd_same, ⟨ps ++ [ta], by rw [List.map_append]; exact ed _ _ upd_same, tups_app (tups_kp hmt fun b xs z => eall _ _ z) ((((eb.trans ec).trans ed)) _ _ upd_same)⟩⟩,
            (ne_of_none ((ea.trans eb) _ _ L.G.D.bl) hmk').symm, (ne_of_none ((ea.trans eb) _ _ hqs') hmk').symm, (ne_of_none ((ea.trans eb) _ _ hks') hmk').symm⟩
          walk_at "go"
          refine ⟨j, p, lb, lq, lk, x, d, t, true, rfl, L3.G, jok, ht, nl.2, nl.1, by rw [hq]; decide, by omega, by omega, fun _ hnr => absurd hr hnr, fun _ _ lq2 H10 G10 hlq2 k10 => ?_, fun z => (by cases z), fun z => (by cases z)⟩
          have L4 := L3.move (fp := [j, p, lb, lq, lk]) (fun b hb => .inl hb) k10 G10 hlq2 (.inl rfl)
          walk_at "go"
          refine rp_none ?_
          walk_at "go"
          refine rp_none ?_
          walk_at "go"
          have hb := bks_len x.gen (x.num + 1) t.cps.toList
          obtain ⟨g1, g2, g3, g4, g5⟩ := recW_gd (bs := bks x.gen (x.num + 1) t.cps.toList) (i := x.next) L.G.D.ok.gd (by omega) (by omega) nl.recW.1 I.see fun b hb => bks_ok (by omega) (by omega) (by have : t.cps.toList.length = t.length := (TL.len_tl t).symm; omega) ht.2 hb
          exact ⟨st, j, lb, lq2, lk, m', mk', _, _, _, u + pcs t.cps.toList, _, _, _, _, _, _, rfl, L4, I.add hr g2 g3 g4, nl.recW.2, g5, g2.trans hsz, B.add ht, by show x.first + (u + pcs t.cps.toList) = x.next + pcs t.cps.toList; omega⟩
        · walk_at "go"
          refine ⟨j, p, lb, lq, lk, x, d, t, true, rfl, L.G, jok, ht, nl.2, nl.1, by rw [hq]; decide, by omega, by omega, fun _ _ H10 e10 => ?_, fun _ hyr => absurd hyr hr, fun z => (by cases z), fun z => (by cases z)⟩
          have L := L.ex e10
          walk_at "go"
          refine rp_bool ?_
          walk_at "go"
          refine rp_bool ?_
          walk_at "go"
          exact ⟨st, j, lb, lq, lk, m, mk, x, d, s, u, _, _, _, _, _, _, rfl, L, I, nl, hq, hsz, B.mono (Nat.le_succ _), hu⟩
      walk_at "go"
      refine if2 (fun h3 => ?_) (fun h3 => ?_)
      · walk_at "go"
        refine if2 (fun h2 => ?_) (fun h2 => ?_)
        · walk_at "go"
          refine ⟨("" : Str), rfl, by have := goodT_empty.1; omega, ?_⟩
          walk_at "go"
          refine if2 (fun hr => ?_) (fun hr => ?_)
          · have hr' : pcs ("" : Str).cps.toList ≤ x.area := by omega
            walk_at "go"
            refine r_small (by show 0 ≤ 1000; decide) fun mk' hmk' => ?_
            walk_at "go"
            refine r_small (by show 5 ≤ 1000; decide) fun m' hm' => ?_
            have L2 := (L.ex (Evl.Ex.new (o := .lst []) hmk')).ex (Evl.Ex.new (o := .lst [.int ((x.gen : Int) + 1), .int (x.num : Nat), .int (x.num : Nat), .str ("" : Str), .ref mk']) hm')
            obtain ⟨qs', hqs', _⟩ := L.G.D.qu
            obtain ⟨ks', hks', _⟩ := L.G.J.kt
            have L3 : LW K A _ st j p lb lq lk m' mk' x (chkJ x ("" : Str)) d := ⟨L2.S, L2.G, ⟨upd_same, ⟨[], (Evl.Ex.new (o := .lst [.int ((x.gen : Int) + 1), .int (x.num : Nat), .int (x.num : Nat), .str ("" : Str), .ref mk']) hm') _ _ upd_same, .nil⟩⟩, (ne_of_none L.G.D.bl hmk').symm, (ne_of_none hqs' hmk').symm, (ne_of_none hks' hmk').symm⟩
            walk_at "go"
            refine ⟨j, p, lb, lq, lk, x, d, ("" : Str), false, rfl, L3.G, jok, goodT_empty, nl.2, nl.1, by rw [hq]; decide, by omega, by omega, fun z => (by cases z), fun z => (by cases z), fun _ hnr => absurd hr' hnr, fun _ _ lk2 lq2 H10 G10 hlk2 hlq2 k10 => ?_⟩
            have L4 := L3.move (fp := [j, p, lb, lq, lk]) (fun b hb => .inl hb) k10 G10 hlq2 (.inr hlk2)
            walk_at "go"
            refine rp_none ?_
            walk_at "go"
            refine rp_none ?_
            walk_at "go"
            have hb := bks_len (x.gen + 1) x.num ("" : Str).cps.toList
            have hai := areaOf_in (a := x.area) (g := x.gen + 1)
            obtain ⟨g1, g2, g3, g4, g5⟩ := chkW_gd (bs := bks (x.gen + 1) x.num ("" : Str).cps.toList) (i := areaOf x.area (x.gen + 1)) (g := x.gen + 1) L.G.D.ok.gd hai.1 (by omega) nl.chkW.1 I.see fun b hb => bks_ok (by omega) (by omega) (by have : ("" : Str).cps.toList.length = ("" : Str).length := (TL.len_tl ("" : Str)).symm; have := goodT_empty.1; omega) goodT_empty.2 hb
            exact ⟨st, j, lb, lq2, lk2, m', mk', _, _, _, 0, _, _, _, _, _, _, rfl, L4, I.chk (by omega) hr' g2 g3 g4, nl.chkW.2, g5, g2.trans hsz, B.chk goodT_empty, rfl⟩
          · have hr' : ¬ pcs ("" : Str).cps.toList ≤ x.area := by omega
            walk_at "go"
            refine ⟨j, p, lb, lq, lk, x, d, ("" : Str), false, rfl, L.G, jok, goodT_empty, nl.2, nl.1, by rw [hq]; decide, by omega, by omega, fun z => (by cases z), fun z => (by cases z), fun _ _ H10 e10 => ?_, fun _ hyr => absurd hyr hr'⟩
            have L := L.ex e10
            walk_at "go"
            refine rp_bool ?_
            walk_at "go"
            refine rp_bool ?_
            walk_at "go"
            exact ⟨st, j, lb, lq, lk, m, mk, x, d, s, u, _, _, _, _, _, _, rfl, L, I, nl, hq, hsz, B.mono (Nat.le_succ _), hu⟩
        · walk_at "go"
          refine ⟨t, rfl, by have := ht.1; omega, ?_⟩
          walk_at "go"
          refine if2 (fun hr => ?_) (fun hr => ?_)
          · have hr' : pcs t.cps.toList ≤ x.area := by omega
            walk_at "go"
            refine r_small (by show 0 ≤ 1000; decide) fun mk' hmk' => ?_
            walk_at "go"
            refine r_small (by show 5 ≤ 1000; decide) fun m' hm' => ?_
            have L2 := (L.ex (Evl.Ex.new (o := .lst []) hmk')).ex (Evl.Ex.new (o := .lst [.int ((x.gen : Int) + 1), .int (x.num : Nat), .int (x.num : Nat), .str t, .ref mk']) hm')
            obtain ⟨qs', hqs', _⟩ := L.G.D.qu
            obtain ⟨ks', hks', _⟩ := L.G.J.kt
            have L3 : LW K A _ st j p lb lq lk m' mk' x (chkJ x t) d := ⟨L2.S, L2.G, ⟨upd_same, ⟨[], (Evl.Ex.new (o := .lst [.int ((x.gen : Int) + 1), .int (x.num : Nat), .int (x.num : Nat), .str t, .ref mk']) hm') _ _ upd_same, .nil⟩⟩, (ne_of_none L.G.D.bl hmk').symm, (ne_of_none hqs' hmk').symm, (ne_of_none hks' hmk').symm⟩
            walk_at "go"
            refine ⟨j, p, lb, lq, lk, x, d, t, false, rfl, L3.G, jok, ht, nl.2, nl.1, by rw [hq]; decide, by omega, by omega, fun z => (by cases z), fun z => (by cases z), fun _ hnr => absurd hr' hnr, fun _ _ lk2 lq2 H10 G10 hlk2 hlq2 k10 => ?_⟩
            have L4 := L3.move (fp := [j, p, lb, lq, lk]) (fun b hb => .inl hb) k10 G10 hlq2 (.inr hlk2)
            walk_at "go"
            refine rp_none ?_
            walk_at "go"
            refine rp_none ?_
            walk_at "go"
            have hb := bks_len (x.gen + 1) x.num t.cps.toList
            have hai := areaOf_in (a := x.area) (g := x.gen + 1)
            obtain ⟨g1, g2, g3, g4, g5⟩ := chkW_gd (bs := bks (x.gen + 1) x.num t.cps.toList) (i := areaOf x.area (x.gen + 1)) (g := x.gen + 1) L.G.D.ok.gd hai.1 (by omega) nl.chkW.1 I.see fun b hb => bks_ok (by omega) (by omega) (by have : t.cps.toList.length = t.length := (TL.len_tl t).symm; have := ht.1; omega) ht.2 hb
            exact ⟨st, j, lb, lq2, lk2, m', mk', _, _, _, 0, _, _, _, _, _, _, rfl, L4, I.chk (by omega) hr' g2 g3 g4, nl.chkW.2, g5, g2.trans hsz, B.chk ht, rfl⟩
          · have hr' : ¬ pcs t.cps.toList ≤ x.area := by omega
            walk_at "go"
            refine ⟨j, p, lb, lq, lk, x, d, t, false, rfl, L.G, jok, ht, nl.2, nl.1, by rw [hq]; decide, by omega, by omega, fun z => (by cases z), fun z => (by cases z), fun _ _ H10 e10 => ?_, fun _ hyr => absurd hyr hr'⟩
            have L := L.ex e10
            walk_at "go"
            refine rp_bool ?_
            walk_at "go"
            refine rp_bool ?_
            walk_at "go"
            exact ⟨st, j, lb, lq, lk, m, mk, x, d, s, u, _, _, _, _, _, _, rfl, L, I, nl, hq, hsz, B.mono (Nat.le_succ _), hu⟩
      · walk_at "go"
        intro j2 jx2 hj2 hjx2 hjd2
        have e2 : Ex H8 (upd (upd H8 jx2 (.own j2)) j2 (.ins A.Journal jx2 [])) := (Evl.Ex.new hjx2).trans (Evl.Ex.new (by rw [upd_ne hjd2.symm]; exact hj2))
        refine new_j upd_same (L.G.D.ex e2) I nl hq fun lk2 lq2 d2 s2 H9 G2 I2 nl2 hq2 z2 hlk2 hlq2 k2 => ?_
        refine ⟨rfl, ?_⟩
        have fre : ∀ {a : Addr}, upd (upd H8 jx2 (.own j2)) j2 (.ins A.Journal jx2 []) a = none → H8 a = none := fun {a} ha => by
          cases z : H8 a with
          | none => rfl
          | some o => rw [e2 _ _ z] at ha; cases ha
        have L2 := L.move (fp := [j2, p, lb, lq]) (by
          intro b hb
          simp only [List.mem_cons, List.not_mem_nil, or_false] at hb
          rcases hb with rfl | rfl | rfl | rfl
          · exact .inr hj2
          · exact .inl (by simp)
          · exact .inl (by simp)
          · exact .inl (by simp)) (kp_trans (kp_ex e2) k2) G2 (hlq2.imp id fre) (.inr (fre hlk2))
        walk_at "go"
        exact ⟨st, j2, lb, lq2, lk2, m, mk, x, d2, s2, u, _, _, _, _, _, _, rfl, L2, I2, nl2, hq2, z2.trans hsz, B.mono (Nat.le_succ _), hu⟩
    · obtain ⟨st, j, lb, lq, lk, m, mk, x, d, s, u, v8, v9, v10, v11, v12, v13, rfl, L, I, nl, hq, hsz, B, hu⟩ := hP9
      obtain ⟨jx9, hj9⟩ := L.G.J.ob
      obtain ⟨dx9, hp9⟩ := L.G.D.ob
      walk_at "go"
      refine ⟨j, p, lk, x, rfl, L.G.J, fun r H10 e10 hr10 => ?_⟩
      have L := L.ex e10
      obtain ⟨jx10, hj10⟩ := L.G.J.ob
      obtain ⟨dx10, hp10⟩ := L.G.D.ob
      walk_at "go"
      refine rp_seen B (by omega) hr10 ?_
      walk_at "go"
      refine rp_seen B (by omega) L.M.dp ?_
      walk_at "go"
      refine ifNF rfl ?_
      walk_at "go"
      refine ⟨p, lb, lq, d, rfl, L.G.D, ?_⟩
      rw [hq]
      walk_at "go"
      refine ⟨j, p, lk, x, rfl, L.G.J, fun r2 ps2 H11 e11 hr2 hr2' ht2 => ?_⟩
      walk_at "go"
      refine r_small (by show 2 ≤ 1000; decide) fun tq htq => ?_
      have et : Ex H11 (upd H11 tq (.tup [.int 0, .str ""])) := Evl.Ex.new htq
      walk_at "go"
      have hps2 : ps2.length ≤ 1000 := by have := tups_len ht2; have := B.kl; omega
      refine r_append (et _ _ hr2') (by rw [List.length_map]; exact Nat.lt_of_le_of_lt hps2 (by decide)) ?_
      walk_at "go"
      exact ⟨st, j, lb, lq, lk, m, mk, x, d, s, u, _, _, _, _, _, _, rfl, L.ex (Evl.Ex.mut (e11.trans et) hr2), I, nl, hq, hsz, B, hu⟩
  · obtain ⟨st, j, lb, lq, lk, m, mk, x, d, s, u, v8, v9, v10, v11, v12, v13, rfl, L, I, nl, hq, hsz, B, hu⟩ := hP
    have hN64 : N ≤ 64 := by omega
    rw [Int.toNat_natCast] at B
    walk_at "go"
    intro j2 jx2 hj2 hjx2 hjd2
    have e2 : Ex H (upd (upd H jx2 (.own j2)) j2 (.ins A.Journal jx2 [])) := (Evl.Ex.new hjx2).trans (Evl.Ex.new (by rw [upd_ne hjd2.symm]; exact hj2))
    refine new_j upd_same (L.G.D.ex e2) I nl hq fun lk2 lq2 d2 s2 H2 G2 I2 nl2 hq2 z2 hlk2 hlq2 k2 => ?_
    refine ⟨rfl, ?_⟩
    have fre : ∀ {a : Addr}, upd (upd H jx2 (.own j2)) j2 (.ins A.Journal jx2 []) a = none → H a = none := fun {a} ha => by
      cases z : H a with
      | none => rfl
      | some o => rw [e2 _ _ z] at ha; cases ha
    have L2 := L.move (fp := [j2, p, lb, lq]) (by
      intro b hb
      simp only [List.mem_cons, List.not_mem_nil, or_false] at hb
      rcases hb with rfl | rfl | rfl | rfl
      · exact .inr hj2
      · exact .inl (by simp)
      · exact .inl (by simp)
      · exact .inl (by simp)) (kp_trans (kp_ex e2) k2) G2 (hlq2.imp id fre) (.inr (fre hlk2))
    walk_at "go"
    refine ⟨j2, p, lk2, x, rfl, G2.J, fun r H10 e10 hr10 => ?_⟩
    have L2 := L2.ex e10
    walk_at "go"
    refine rp_seen B (by omega) hr10 ?_
    walk_at "go"
    refine rp_seen B (by omega) L2.M.dp ?_
    have er : rEq (.str (seenD x).shown) (.str (seenD x).shown) H10 Q := r_eqS (by rw [decide_eq_true rfl]; exact kQ _)
    exact er
end

end U

set_option Elab.async false
set_option linter.all false
set_option maxRecDepth 100000
set_option maxHeartbeats 4000000
namespace U
open PySem PySem.Spec PyProof.Rows L2
def top (i : Nat) : Stmt := PySem.Challenge.pw_pastamended_k51_records_in_a_journal.main.body.getD i (.Pass ⟨0, 0, 0, 0⟩)
abbrev s_is_block_text : Stmt := (top 17)
theorem sc_is_block_text : FnScope ["text", "char"] ["text"] (defScope s_is_block_text) := ⟨rfl, rfl, rfl, by decide +kernel, rfl, by decide +kernel, by decide +kernel⟩
theorem d_is_block_text {P : Program} {w : World} {K : PySem.W.Frag} {mg : Str → Option Value} {base : Heap} {A : Adr} (T : Txt K mg A) {f : Addr} {cdv : Value} {Ar : Around} {outer : List Env} {s : Shared} {H : Hp} {E : XK}
    (go : Go 0 (cxOf (L2.CX P w) P w K mg base ["text", "char"] "is_block_text" (defScope s_is_block_text) f cdv Ar outer s H E)) :
    PSs (cxOf (L2.CX P w) P w K mg base ["text", "char"] "is_block_text" (defScope s_is_block_text) f cdv Ar outer s H E) (defBody s_is_block_text) (t_is_block_text K A (fun cls d _ H => E cls d H)) :=
  (pss_cons (ps_if (pt_cmpR q_gt (pe_callB c_lenS (by rfl) T.b_len (by decide +kernel) (pa_cons (pv 0) pa_nil)) (pe_k T.k_MOST_CHARACTERS) (nomark _))
  (pss_one (ps_ret pe_bl))
  pss_nil)
  (pss_one (ps_ret (pe_callB (cr_all rfl) (by rfl) T.b_all (by decide +kernel) (pa_cons (pe_lc (own := [("char", 1)]) (g := (gName 1)) (tt := tYes) rfl sc_is_block_text.nd (pi_str (pv 0)) (blkOk_by (own := [("char", 1)]) (N := ["text", "char"]) (sc := defScope s_is_block_text) (by decide +kernel)) (fun _ _ _ _ _ => (pg_name (i := 1) sc_is_block_text.nd rfl (by first | exact Or.inl rfl | exact Or.inr rfl))) (fun _ _ _ _ _ => pts_nil) (fun _ _ _ _ _ => (pe_or (pe_cmpR op_eq (pv 1) pe_str (nomark _)) (pe_one (pe_and (pe_chain q_le q_le pe_int (pe_callB c_ord (by rfl) T.b_ord (by decide +kernel) (pa_cons (pv 1) pa_nil)) pe_int) (pe_one (pe_cmpR op_ne (pe_callB c_ord (by rfl) T.b_ord (by decide +kernel) (pa_cons (pv 1) pa_nil)) pe_int (nomark _)))))))) pa_nil)))))
theorem ok_is_block_text {P : Program} {w : World} {K : PySem.W.Frag} {mg : Str → Option Value} {base : Heap} {A : Adr} (T : Txt K mg A) {f : Addr} {fd : FuncData} (F : Fun K "is_block_text" "is_block_text" s_is_block_text f fd) : FnG P w K mg base 1 f fd ["text"] (sp_is_block_text K A) :=
  okG F sc_is_block_text len_is_block_text fun cdv Ar outer s H vs Q E go h => ⟨_, d_is_block_text T go, pure_is_block_text T.pure vs H Q E h⟩

abbrev s_Disk_init : Stmt := (inClass (top 18) 0)
theorem sc_Disk_init : FnScope ["self", "size", "_"] ["self", "size"] (defScope s_Disk_init) := ⟨rfl, rfl, rfl, by decide +kernel, rfl, by decide +kernel, by decide +kernel⟩
theorem d_Disk_init {P : Program} {w : World} {K : PySem.W.Frag} {mg : Str → Option Value} {base : Heap} {A : Adr} (T : Txt K mg A) {f : Addr} {cdv : Value} {Ar : Around} {outer : List Env} {s : Shared} {H : Hp} {E : XK}
    (go : Go 0 (cxOf (L2.CX P w) P w K mg base ["self", "size", "_"] "Disk.__init__" (defScope s_Disk_init) f cdv Ar outer s H E)) :
    PSs (cxOf (L2.CX P w) P w K mg base ["self", "size", "_"] "Disk.__init__" (defScope s_Disk_init) f cdv Ar outer s H E) (defBody s_Disk_init) (t_Disk_init K A (fun cls d _ H => E cls d H)) :=
  (pss_cons (ps_fld (pv 0) (pv 1) (by rfl))
  (pss_cons (ps_fld (pv 0) (pe_lc (own := [("_", 2)]) (g := (gName 2)) (tt := tYes) rfl sc_Disk_init.nd (pi_range1 rfl T.b_range (pa_cons (pv 1) pa_nil)) (blkOk_by (own := [("_", 2)]) (N := ["self", "size", "_"]) (sc := defScope s_Disk_init) (by decide +kernel)) (fun _ _ _ _ _ => (pg_name (i := 2) sc_Disk_init.nd rfl (by first | exact Or.inl rfl | exact Or.inr rfl))) (fun _ _ _ _ _ => pts_nil) (fun _ _ _ _ _ => pe_str)) (by rfl))
  (pss_cons (ps_fld (pv 0) (pe_lst pa_nil) (by rfl))
  (pss_cons (ps_fld (pv 0) pe_non (by rfl))
  (pss_one (ps_fld (pv 0) pe_bl (by rfl)))))))
theorem ok_Disk_init {P : Program} {w : World} {K : PySem.W.Frag} {mg : Str → Option Value} {base : Heap} {A : Adr} (T : Txt K mg A) {f : Addr} {fd : FuncData} (F : Fun K "__init__" "Disk.__init__" s_Disk_init f fd) : FnG P w K mg base 1 f fd ["self", "size"] (sp_Disk_init K A) :=
  okG F sc_Disk_init len_Disk_init fun cdv Ar outer s H vs Q E go h => ⟨_, d_Disk_init T go, pure_Disk_init T.pure vs H Q E h⟩

abbrev s_Disk_spend : Stmt := (inClass (top 18) 1)
theorem sc_Disk_spend : FnScope ["self"] ["self"] (defScope s_Disk_spend) := ⟨rfl, rfl, rfl, by decide +kernel, rfl, by decide +kernel, by decide +kernel⟩
theorem d_Disk_spend {P : Program} {w : World} {K : PySem.W.Frag} {mg : Str → Option Value} {base : Heap} {A : Adr} (T : Txt K mg A) {f : Addr} {cdv : Value} {Ar : Around} {outer : List Env} {s : Shared} {H : Hp} {E : XK}
    (go : Go 0 (cxOf (L2.CX P w) P w K mg base ["self"] "Disk.spend" (defScope s_Disk_spend) f cdv Ar outer s H E)) :
    PSs (cxOf (L2.CX P w) P w K mg base ["self"] "Disk.spend" (defScope s_Disk_spend) f cdv Ar outer s H E) (defBody s_Disk_spend) (t_Disk_spend K A (fun cls d _ H => E cls d H)) :=
  (pss_cons (ps_if (PW.pt (pw_and (pt_cmpR q_notN (pe_fld (pv 0) rfl) pe_non (nomark _)) (pw_and1 (pt_cmpR op_eq (pe_fld (pv 0) rfl) pe_int (nomark _)))))
  (pss_one (ps_fld (pv 0) pe_bl (by rfl)))
  pss_nil)
  (pss_cons (ps_if (pt_val (pe_fld (pv 0) rfl))
  (pss_one (ps_raise rfl (takes_of rfl rfl rfl rfl) (pmk_own0 PySem.F.excBase_ValueError T.e_PowerLost.xP T.e_PowerLost.gC T.e_PowerLost.kC T.e_PowerLost.rs)))
  pss_nil)
  (pss_one (ps_if (pt_cmpR q_notN (pe_fld (pv 0) rfl) pe_non (nomark _))
  (pss_one (ps_fld (pv 0) (pe_op q_sub (pe_fld (pv 0) rfl) pe_int) (by rfl)))
  pss_nil))))
theorem ok_Disk_spend {P : Program} {w : World} {K : PySem.W.Frag} {mg : Str → Option Value} {base : Heap} {A : Adr} (T : Txt K mg A) {f : Addr} {fd : FuncData} (F : Fun K "spend" "Disk.spend" s_Disk_spend f fd) : FnG P w K mg base 1 f fd ["self"] (sp_Disk_spend K A) :=
  okG F sc_Disk_spend len_Disk_spend fun cdv Ar outer s H vs Q E go h => ⟨_, d_Disk_spend T go, pure_Disk_spend T.pure vs H Q E h⟩

abbrev s_Disk_block : Stmt := (inClass (top 18) 2)
theorem sc_Disk_block : FnScope ["self", "index", "text", "at", "other"] ["self", "index"] (defScope s_Disk_block) := ⟨rfl, rfl, rfl, by decide +kernel, rfl, by decide +kernel, by decide +kernel⟩
theorem d_Disk_block {P : Program} {w : World} {K : PySem.W.Frag} {mg : Str → Option Value} {base : Heap} {A : Adr} (T : Txt K mg A) (x_BadBlock : ExcI P w K mg base "BadBlock" A.BadBlock (spX1 K A.BadBlock "index")) {f : Addr} {cdv : Value} {Ar : Around} {outer : List Env} {s : Shared} {H : Hp} {E : XK}
    (go : Go 2 (cxOf (L2.CX P w) P w K mg base ["self", "index", "text", "at", "other"] "Disk.block" (defScope s_Disk_block) f cdv Ar outer s H E)) :
    PSs (cxOf (L2.CX P w) P w K mg base ["self", "index", "text", "at", "other"] "Disk.block" (defScope s_Disk_block) f cdv Ar outer s H E) (defBody s_Disk_block) (t_Disk_block K A (fun cls d _ H => E cls d H)) :=
  (pss_cons (ps_if (pt_val (pe_fld (pv 0) rfl))
  (pss_one (ps_raise rfl (takes_of rfl rfl rfl rfl) (pmk_own0 PySem.F.excBase_ValueError T.e_PowerLost.xP T.e_PowerLost.gC T.e_PowerLost.kC T.e_PowerLost.rs)))
  pss_nil)
  (pss_cons (ps_if (pt_not (pt_chain q_le q_lt pe_int (pv 1) (pe_fld (pv 0) rfl)))
  (pss_one (ps_raise rfl (takes_of rfl rfl rfl rfl) (pmk_x1 (k := 0) x_BadBlock ⟨go.rm.mono (by decide), go.gd⟩ (pa_cons (pv 1) pa_nil))))
  pss_nil)
  (pss_cons (ps_set (i := 2) sc_Disk_block.nd rfl (by first | exact Or.inl rfl | exact Or.inr rfl) (pe_ix ix_list (pe_fld (pv 0) rfl) (pv 1) (fun _ _ => rfl)))
  (pss_cons (ps_for (passes_of rfl) rfl (pi_list (pe_fld (pv 0) rfl)) (pg_tup rfl (pgs_cons (pg_name (i := 3) sc_Disk_block.nd rfl (by first | exact Or.inl rfl | exact Or.inr rfl)) (pgs_cons (pg_name (i := 4) sc_Disk_block.nd rfl (by first | exact Or.inl rfl | exact Or.inr rfl)) pgs_nil)))
  (pss_one (ps_if (pt_cmpR op_eq (pv 3) (pv 1) (nomark _))
  (pss_one (ps_set (i := 2) sc_Disk_block.nd rfl (by first | exact Or.inl rfl | exact Or.inr rfl) (pv 4)))
  pss_nil)))
  (pss_one (ps_ret (pv 2)))))))
theorem ok_Disk_block {P : Program} {w : World} {K : PySem.W.Frag} {mg : Str → Option Value} {base : Heap} {A : Adr} (T : Txt K mg A) (x_BadBlock : ExcI P w K mg base "BadBlock" A.BadBlock (spX1 K A.BadBlock "index")) {f : Addr} {fd : FuncData} (F : Fun K "block" "Disk.block" s_Disk_block f fd) : FnG P w K mg base 3 f fd ["self", "index"] (sp_Disk_block K A) :=
  okG F sc_Disk_block len_Disk_block fun cdv Ar outer s H vs Q E go h => ⟨_, d_Disk_block T x_BadBlock go, pure_Disk_block T.pure vs H Q E h⟩

abbrev s_Disk_write : Stmt := (inClass (top 18) 3)
theorem sc_Disk_write : FnScope ["self", "index", "text"] ["self", "index", "text"] (defScope s_Disk_write) := ⟨rfl, rfl, rfl, by decide +kernel, rfl, by decide +kernel, by decide +kernel⟩
theorem d_Disk_write {P : Program} {w : World} {K : PySem.W.Frag} {mg : Str → Option Value} {base : Heap} {A : Adr} (T : Txt K mg A) (c_is_block_text : GDef P w K mg base 1 "is_block_text" (sp_is_block_text K A)) (x_BadBlock : ExcI P w K mg base "BadBlock" A.BadBlock (spX1 K A.BadBlock "index")) (c_Disk_spend : MDef P w K mg base 1 A.Disk "spend" (sp_Disk_spend K A)) {f : Addr} {cdv : Value} {Ar : Around} {outer : List Env} {s : Shared} {H : Hp} {E : XK}
    (go : Go 2 (cxOf (L2.CX P w) P w K mg base ["self", "index", "text"] "Disk.write" (defScope s_Disk_write) f cdv Ar outer s H E)) :
    PSs (cxOf (L2.CX P w) P w K mg base ["self", "index", "text"] "Disk.write" (defScope s_Disk_write) f cdv Ar outer s H E) (defBody s_Disk_write) (t_Disk_write K A (fun cls d _ H => E cls d H)) :=
  (pss_cons (ps_if (pt_val (pe_fld (pv 0) rfl))
  (pss_one (ps_raise rfl (takes_of rfl rfl rfl rfl) (pmk_own0 PySem.F.excBase_ValueError T.e_PowerLost.xP T.e_PowerLost.gC T.e_PowerLost.kC T.e_PowerLost.rs)))
  pss_nil)
  (pss_cons (ps_if (PW.pt (pw_or (pt_not (pt_chain q_le q_lt pe_int (pv 1) (pe_fld (pv 0) rfl))) (pw_or1 (pt_not (pt_val (pe_g c_is_block_text ⟨go.rm, go.gd⟩ (takes_of rfl rfl rfl rfl) (by decide) (pa_cons (pv 2) pa_nil)))))))
  (pss_one (ps_raise rfl (takes_of rfl rfl rfl rfl) (pmk_x1 (k := 0) x_BadBlock ⟨go.rm.mono (by decide), go.gd⟩ (pa_cons (pv 1) pa_nil))))
  pss_nil)
  (pss_cons (ps_expr (pe_m0 c_Disk_spend T.c_Disk ⟨go.rm, go.gd⟩ (takes_of rfl rfl rfl rfl) (by decide) (pv 0)))
  (pss_one (ps_expr (pe_bm PySem.F.plainAttrs_list PySem.F.slot_list_append PySem.F.type_list_append mt_append (pe_fld (pv 0) rfl) (pa_cons (pe_tup (pa_cons (pv 1) (pa_cons (pv 2) pa_nil))) pa_nil)))))))
theorem ok_Disk_write {P : Program} {w : World} {K : PySem.W.Frag} {mg : Str → Option Value} {base : Heap} {A : Adr} (T : Txt K mg A) (c_is_block_text : GDef P w K mg base 1 "is_block_text" (sp_is_block_text K A)) (x_BadBlock : ExcI P w K mg base "BadBlock" A.BadBlock (spX1 K A.BadBlock "index")) (c_Disk_spend : MDef P w K mg base 1 A.Disk "spend" (sp_Disk_spend K A)) {f : Addr} {fd : FuncData} (F : Fun K "write" "Disk.write" s_Disk_write f fd) : FnG P w K mg base 3 f fd ["self", "index", "text"] (sp_Disk_write K A) :=
  okG F sc_Disk_write len_Disk_write fun cdv Ar outer s H vs Q E go h => ⟨_, d_Disk_write T c_is_block_text x_BadBlock c_Disk_spend go, pure_Disk_write T.pure vs H Q E h⟩

abbrev s_Disk_sync : Stmt := (inClass (top 18) 4)
theorem sc_Disk_sync : FnScope ["self", "at", "text"] ["self"] (defScope s_Disk_sync) := ⟨rfl, rfl, rfl, by decide +kernel, rfl, by decide +kernel, by decide +kernel⟩
theorem d_Disk_sync {P : Program} {w : World} {K : PySem.W.Frag} {mg : Str → Option Value} {base : Heap} {A : Adr} (T : Txt K mg A) (c_Disk_spend : MDef P w K mg base 1 A.Disk "spend" (sp_Disk_spend K A)) {f : Addr} {cdv : Value} {Ar : Around} {outer : List Env} {s : Shared} {H : Hp} {E : XK}
    (go : Go 1 (cxOf (L2.CX P w) P w K mg base ["self", "at", "text"] "Disk.sync" (defScope s_Disk_sync) f cdv Ar outer s H E)) :
    PSs (cxOf (L2.CX P w) P w K mg base ["self", "at", "text"] "Disk.sync" (defScope s_Disk_sync) f cdv Ar outer s H E) (defBody s_Disk_sync) (t_Disk_sync K A (fun cls d _ H => E cls d H)) :=
  (pss_cons (ps_expr (pe_m0 c_Disk_spend T.c_Disk ⟨go.rm, go.gd⟩ (takes_of rfl rfl rfl rfl) (by decide) (pv 0)))
  (pss_cons (ps_for (passes_of rfl) rfl (pi_list (pe_fld (pv 0) rfl)) (pg_tup rfl (pgs_cons (pg_name (i := 1) sc_Disk_sync.nd rfl (by first | exact Or.inl rfl | exact Or.inr rfl)) (pgs_cons (pg_name (i := 2) sc_Disk_sync.nd rfl (by first | exact Or.inl rfl | exact Or.inr rfl)) pgs_nil)))
  (pss_one (ps_asg (pv 2) (pg_sub (pe_fld (pv 0) rfl) (pv 1) set_list))))
  (pss_one (ps_fld (pv 0) (pe_lst pa_nil) (by rfl)))))
theorem ok_Disk_sync {P : Program} {w : World} {K : PySem.W.Frag} {mg : Str → Option Value} {base : Heap} {A : Adr} (T : Txt K mg A) (c_Disk_spend : MDef P w K mg base 1 A.Disk "spend" (sp_Disk_spend K A)) {f : Addr} {fd : FuncData} (F : Fun K "sync" "Disk.sync" s_Disk_sync f fd) : FnG P w K mg base 2 f fd ["self"] (sp_Disk_sync K A) :=
  okG F sc_Disk_sync len_Disk_sync fun cdv Ar outer s H vs Q E go h => ⟨_, d_Disk_sync T c_Disk_spend go, pure_Disk_sync T.pure vs H Q E h⟩

abbrev s_Disk_waiting : Stmt := (inClass (top 18) 5)
theorem sc_Disk_waiting : FnScope ["self"] ["self"] (defScope s_Disk_waiting) := ⟨rfl, rfl, rfl, by decide +kernel, rfl, by decide +kernel, by decide +kernel⟩
theorem d_Disk_waiting {P : Program} {w : World} {K : PySem.W.Frag} {mg : Str → Option Value} {base : Heap} {A : Adr} (T : Txt K mg A) {f : Addr} {cdv : Value} {Ar : Around} {outer : List Env} {s : Shared} {H : Hp} {E : XK}
    (go : Go 0 (cxOf (L2.CX P w) P w K mg base ["self"] "Disk.waiting" (defScope s_Disk_waiting) f cdv Ar outer s H E)) :
    PSs (cxOf (L2.CX P w) P w K mg base ["self"] "Disk.waiting" (defScope s_Disk_waiting) f cdv Ar outer s H E) (defBody s_Disk_waiting) (t_Disk_waiting K A (fun cls d _ H => E cls d H)) :=
  (pss_one (ps_ret (pe_callB c_len (by rfl) T.b_len (by decide +kernel) (pa_cons (pe_fld (pv 0) rfl) pa_nil))))
theorem ok_Disk_waiting {P : Program} {w : World} {K : PySem.W.Frag} {mg : Str → Option Value} {base : Heap} {A : Adr} (T : Txt K mg A) {f : Addr} {fd : FuncData} (F : Fun K "waiting" "Disk.waiting" s_Disk_waiting f fd) : FnG P w K mg base 1 f fd ["self"] (sp_Disk_waiting K A) :=
  okG F sc_Disk_waiting len_Disk_waiting fun cdv Ar outer s H vs Q E go h => ⟨_, d_Disk_waiting T go, pure_Disk_waiting T.pure vs H Q E h⟩

abbrev s_record_blocks : Stmt := (top 9)
theorem sc_record_blocks : FnScope ["generation", "number", "text", "pieces", "at", "head", "n"] ["generation", "number", "text"] (defScope s_record_blocks) := ⟨rfl, rfl, rfl, by decide +kernel, rfl, by decide +kernel, by decide +kernel⟩
theorem d_record_blocks {P : Program} {w : World} {K : PySem.W.Frag} {mg : Str → Option Value} {base : Heap} {A : Adr} (T : Txt K mg A) {f : Addr} {cdv : Value} {Ar : Around} {outer : List Env} {s : Shared} {H : Hp} {E : XK}
    (go : Go 0 (cxOf (L2.CX P w) P w K mg base ["generation", "number", "text", "pieces", "at", "head", "n"] "record_blocks" (defScope s_record_blocks) f cdv Ar outer s H E)) :
    PSs (cxOf (L2.CX P w) P w K mg base ["generation", "number", "text", "pieces", "at", "head", "n"] "record_blocks" (defScope s_record_blocks) f cdv Ar outer s H E) (defBody s_record_blocks) (t_record_blocks K A (fun cls d _ H => E cls d H)) :=
  (pss_cons (ps_set (i := 3) sc_record_blocks.nd rfl (by first | exact Or.inl rfl | exact Or.inr rfl) (pe_lc (own := [("at", 4)]) (g := (gName 4)) (tt := tYes) rfl sc_record_blocks.nd (pi_range3 rfl T.b_range (pa_cons pe_int (pa_cons (pe_callB (c_max rfl) (by rfl) T.b_max (by decide +kernel) (pa_cons pe_int (pa_cons (pe_callB c_lenS (by rfl) T.b_len (by decide +kernel) (pa_cons (pv 2) pa_nil)) pa_nil))) (pa_cons (pe_k T.k_PIECE) pa_nil)))) (blkOk_by (own := [("at", 4)]) (N := ["generation", "number", "text", "pieces", "at", "head", "n"]) (sc := defScope s_record_blocks) (by decide +kernel)) (fun _ _ _ _ _ => (pg_name (i := 4) sc_record_blocks.nd rfl (by first | exact Or.inl rfl | exact Or.inr rfl))) (fun _ _ _ _ _ => pts_nil) (fun _ _ _ _ _ => (pe_slice sl_str (pv 2) (po_some (pv 4)) (po_some (pe_op q_add (pv 4) (pe_k T.k_PIECE)))))))
  (pss_cons (ps_set (i := 5) sc_record_blocks.nd rfl (by first | exact Or.inl rfl | exact Or.inr rfl) (pe_op q_addS (pe_op q_addS (pe_op q_addS (pe_callTy c_str (by rfl) T.b_str (by decide +kernel) (pa_cons (pv 0) pa_nil)) pe_str) (pe_callTy c_str (by rfl) T.b_str (by decide +kernel) (pa_cons (pv 1) pa_nil))) pe_str))
  (pss_one (ps_ret (pe_lc (own := [("n", 6)]) (g := (gName 6)) (tt := tYes) rfl sc_record_blocks.nd (pi_range1 rfl T.b_range (pa_cons (pe_callB c_len (by rfl) T.b_len (by decide +kernel) (pa_cons (pv 3) pa_nil)) pa_nil)) (blkOk_by (own := [("n", 6)]) (N := ["generation", "number", "text", "pieces", "at", "head", "n"]) (sc := defScope s_record_blocks) (by decide +kernel)) (fun _ _ _ _ _ => (pg_name (i := 6) sc_record_blocks.nd rfl (by first | exact Or.inl rfl | exact Or.inr rfl))) (fun _ _ _ _ _ => pts_nil) (fun _ _ _ _ _ => (pe_op q_addS (pe_op q_addS (pe_op q_addS (pe_op q_addS (pe_op q_addS (pv 5) (pe_callTy c_str (by rfl) T.b_str (by decide +kernel) (pa_cons (pv 6) pa_nil))) pe_str) (pe_callTy c_str (by rfl) T.b_str (by decide +kernel) (pa_cons (pe_callB c_len (by rfl) T.b_len (by decide +kernel) (pa_cons (pv 3) pa_nil)) pa_nil))) pe_str) (pe_ix ix_list (pv 3) (pv 6) (fun _ _ => rfl)))))))))
theorem ok_record_blocks {P : Program} {w : World} {K : PySem.W.Frag} {mg : Str → Option Value} {base : Heap} {A : Adr} (T : Txt K mg A) {f : Addr} {fd : FuncData} (F : Fun K "record_blocks" "record_blocks" s_record_blocks f fd) : FnG P w K mg base 1 f fd ["generation", "number", "text"] (sp_record_blocks K A) :=
  okG F sc_record_blocks len_record_blocks fun cdv Ar outer s H vs Q E go h => ⟨_, d_record_blocks T go, pure_record_blocks T.pure vs H Q E h⟩

abbrev s_read_number : Stmt := (top 10)
theorem sc_read_number : FnScope ["word", "char"] ["word"] (defScope s_read_number) := ⟨rfl, rfl, rfl, by decide +kernel, rfl, by decide +kernel, by decide +kernel⟩
theorem d_read_number {P : Program} {w : World} {K : PySem.W.Frag} {mg : Str → Option Value} {base : Heap} {A : Adr} (T : Txt K mg A) {f : Addr} {cdv : Value} {Ar : Around} {outer : List Env} {s : Shared} {H : Hp} {E : XK}
    (go : Go 0 (cxOf (L2.CX P w) P w K mg base ["word", "char"] "read_number" (defScope s_read_number) f cdv Ar outer s H E)) :
    PSs (cxOf (L2.CX P w) P w K mg base ["word", "char"] "read_number" (defScope s_read_number) f cdv Ar outer s H E) (defBody s_read_number) (t_read_number K A (fun cls d _ H => E cls d H)) :=
  (pss_cons (ps_if (PW.pt (pw_or (pt_cmpR op_eq (pv 0) pe_str (nomark _)) (pw_or1 (PW.pt (pw_and (pt_cmpR q_gt (pe_callB c_lenS (by rfl) T.b_len (by decide +kernel) (pa_cons (pv 0) pa_nil)) pe_int (nomark _)) (pw_and1 (pt_cmpR op_eq (pe_ix ix_str (pv 0) pe_int (fun _ _ => rfl)) pe_str (nomark _))))))))
  (pss_one (ps_ret pe_non))
  pss_nil)
  (pss_cons (ps_for (passes_of rfl) rfl (pi_str (pv 0)) (pg_name (i := 1) sc_read_number.nd rfl (by first | exact Or.inl rfl | exact Or.inr rfl))
  (pss_one (ps_if (pt_cmpR q_notInS (pv 1) (pe_k T.k_DIGITS) (by rfl))
  (pss_one (ps_ret pe_non))
  pss_nil)))
  (pss_one (ps_ret (pe_callTy c_intS (by rfl) T.b_int (by decide +kernel) (pa_cons (pv 0) pa_nil))))))
theorem ok_read_number {P : Program} {w : World} {K : PySem.W.Frag} {mg : Str → Option Value} {base : Heap} {A : Adr} (T : Txt K mg A) {f : Addr} {fd : FuncData} (F : Fun K "read_number" "read_number" s_read_number f fd) : FnG P w K mg base 1 f fd ["word"] (sp_read_number K A) :=
  okG F sc_read_number len_read_number fun cdv Ar outer s H vs Q E go h => ⟨_, d_read_number T go, pure_read_number T.pure vs H Q E h⟩

abbrev s_read_block : Stmt := (top 11)
theorem sc_read_block : FnScope ["text", "numbers", "_", "at", "generation", "number", "index", "pieces"] ["text"] (defScope s_read_block) := ⟨rfl, rfl, rfl, by decide +kernel, rfl, by decide +kernel, by decide +kernel⟩
theorem d_read_block {P : Program} {w : World} {K : PySem.W.Frag} {mg : Str → Option Value} {base : Heap} {A : Adr} (T : Txt K mg A) (c_read_number : GDef P w K mg base 1 "read_number" (sp_read_number K A)) {f : Addr} {cdv : Value} {Ar : Around} {outer : List Env} {s : Shared} {H : Hp} {E : XK}
    (go : Go 1 (cxOf (L2.CX P w) P w K mg base ["text", "numbers", "_", "at", "generation", "number", "index", "pieces"] "read_block" (defScope s_read_block) f cdv Ar outer s H E)) :
    PSs (cxOf (L2.CX P w) P w K mg base ["text", "numbers", "_", "at", "generation", "number", "index", "pieces"] "read_block" (defScope s_read_block) f cdv Ar outer s H E) (defBody s_read_block) (t_read_block K A (fun cls d _ H => E cls d H)) :=
  (pss_cons (ps_set (i := 1) sc_read_block.nd rfl (by first | exact Or.inl rfl | exact Or.inr rfl) (pe_lst pa_nil))
  (pss_cons (ps_for (passes_of rfl) rfl (pi_range1 rfl T.b_range (pa_cons pe_int pa_nil)) (pg_name (i := 2) sc_read_block.nd rfl (by first | exact Or.inl rfl | exact Or.inr rfl))
  (pss_cons (ps_set (i := 3) sc_read_block.nd rfl (by first | exact Or.inl rfl | exact Or.inr rfl) (pe_m1 PySem.F.slot_str_find PySem.F.type_str_find m_find (pv 0) pe_str))
  (pss_cons (ps_if (PW.pt (pw_or (pt_cmpR q_lt (pv 3) pe_int (nomark _)) (pw_or1 (pt_cmpR q_isN (pe_g c_read_number ⟨go.rm, go.gd⟩ (takes_of rfl rfl rfl rfl) (by decide) (pa_cons (pe_slice sl_str (pv 0) po_none (po_some (pv 3))) pa_nil)) pe_non (nomark _)))))
  (pss_one (ps_ret pe_non))
  pss_nil)
  (pss_cons (ps_expr (pe_bm PySem.F.plainAttrs_list PySem.F.slot_list_append PySem.F.type_list_append mt_append (pv 1) (pa_cons (pe_g c_read_number ⟨go.rm, go.gd⟩ (takes_of rfl rfl rfl rfl) (by decide) (pa_cons (pe_slice sl_str (pv 0) po_none (po_some (pv 3))) pa_nil)) pa_nil)))
  (pss_one (ps_set (i := 0) sc_read_block.nd rfl (by first | exact Or.inl rfl | exact Or.inr rfl) (pe_slice sl_str (pv 0) (po_some (pe_op q_add (pv 3) pe_int)) po_none)))))))
  (pss_cons (ps_asg (pv 1) (pg_lst rfl (pgs_cons (pg_name (i := 4) sc_read_block.nd rfl (by first | exact Or.inl rfl | exact Or.inr rfl)) (pgs_cons (pg_name (i := 5) sc_read_block.nd rfl (by first | exact Or.inl rfl | exact Or.inr rfl)) (pgs_cons (pg_name (i := 6) sc_read_block.nd rfl (by first | exact Or.inl rfl | exact Or.inr rfl)) (pgs_cons (pg_name (i := 7) sc_read_block.nd rfl (by first | exact Or.inl rfl | exact Or.inr rfl)) pgs_nil))))))
  (pss_cons (ps_if (PW.pt (pw_or (pt_cmpR q_ge (pv 6) (pv 7) (nomark _)) (pw_or1 (pt_cmpR q_gt (pe_callB c_lenS (by rfl) T.b_len (by decide +kernel) (pa_cons (pv 0) pa_nil)) (pe_k T.k_PIECE) (nomark _)))))
  (pss_one (ps_ret pe_non))
  pss_nil)
  (pss_cons (ps_if (PW.pt (pw_or (PW.pt (pw_and (pt_cmpR q_lt (pv 6) (pe_op q_sub (pv 7) pe_int) (nomark _)) (pw_and1 (pt_cmpR op_ne (pe_callB c_lenS (by rfl) T.b_len (by decide +kernel) (pa_cons (pv 0) pa_nil)) (pe_k T.k_PIECE) (nomark _))))) (pw_or1 (PW.pt (pw_and (pt_cmpR op_eq (pv 0) pe_str (nomark _)) (pw_and1 (pt_cmpR q_gt (pv 7) pe_int (nomark _))))))))
  (pss_one (ps_ret pe_non))
  pss_nil)
  (pss_one (ps_ret (pe_tup (pa_cons (pv 4) (pa_cons (pv 5) (pa_cons (pv 6) (pa_cons (pv 7) (pa_cons (pv 0) pa_nil)))))))))))))
theorem ok_read_block {P : Program} {w : World} {K : PySem.W.Frag} {mg : Str → Option Value} {base : Heap} {A : Adr} (T : Txt K mg A) (c_read_number : GDef P w K mg base 1 "read_number" (sp_read_number K A)) {f : Addr} {fd : FuncData} (F : Fun K "read_block" "read_block" s_read_block f fd) : FnG P w K mg base 2 f fd ["text"] (sp_read_block K A) :=
  okG F sc_read_block len_read_block fun cdv Ar outer s H vs Q E go h => ⟨_, d_read_block T c_read_number go, pure_read_block T.pure vs H Q E h⟩

abbrev s_Journal_area_of : Stmt := (inClass (top 14) 1)
theorem sc_Journal_area_of : FnScope ["self", "generation"] ["self", "generation"] (defScope s_Journal_area_of) := ⟨rfl, rfl, rfl, by decide +kernel, rfl, by decide +kernel, by decide +kernel⟩
theorem d_Journal_area_of {P : Program} {w : World} {K : PySem.W.Frag} {mg : Str → Option Value} {base : Heap} {A : Adr} (T : Txt K mg A) {f : Addr} {cdv : Value} {Ar : Around} {outer : List Env} {s : Shared} {H : Hp} {E : XK}
    (go : Go 0 (cxOf (L2.CX P w) P w K mg base ["self", "generation"] "Journal.area_of" (defScope s_Journal_area_of) f cdv Ar outer s H E)) :
    PSs (cxOf (L2.CX P w) P w K mg base ["self", "generation"] "Journal.area_of" (defScope s_Journal_area_of) f cdv Ar outer s H E) (defBody s_Journal_area_of) (t_Journal_area_of K A (fun cls d _ H => E cls d H)) :=
  (pss_cons (ps_if (pt_cmpR op_eq (pe_op q_mod (pe_callTy c_int (by rfl) T.b_int (by decide +kernel) (pa_cons (pv 1) pa_nil)) pe_int) pe_int (nomark _))
  (pss_one (ps_ret pe_int))
  pss_nil)
  (pss_one (ps_ret (pe_op q_add (pe_fld (pv 0) rfl) pe_int))))
theorem ok_Journal_area_of {P : Program} {w : World} {K : PySem.W.Frag} {mg : Str → Option Value} {base : Heap} {A : Adr} (T : Txt K mg A) {f : Addr} {fd : FuncData} (F : Fun K "area_of" "Journal.area_of" s_Journal_area_of f fd) : FnG P w K mg base 1 f fd ["self", "generation"] (sp_Journal_area_of K A) :=
  okG F sc_Journal_area_of len_Journal_area_of fun cdv Ar outer s H vs Q E go h => ⟨_, d_Journal_area_of T go, pure_Journal_area_of T.pure vs H Q E h⟩

abbrev s_Journal_read_record : Stmt := (inClass (top 14) 2)
theorem sc_Journal_read_record : FnScope ["self", "start", "end", "generation", "found", "text", "at", "block"] ["self", "start", "end", "generation"] (defScope s_Journal_read_record) := ⟨rfl, rfl, rfl, by decide +kernel, rfl, by decide +kernel, by decide +kernel⟩
theorem d_Journal_read_record {P : Program} {w : World} {K : PySem.W.Frag} {mg : Str → Option Value} {base : Heap} {A : Adr} (T : Txt K mg A) (c_Disk_block : MDef P w K mg base 3 A.Disk "block" (sp_Disk_block K A)) (c_read_block : GDef P w K mg base 2 "read_block" (sp_read_block K A)) {f : Addr} {cdv : Value} {Ar : Around} {outer : List Env} {s : Shared} {H : Hp} {E : XK}
    (go : Go 3 (cxOf (L2.CX P w) P w K mg base ["self", "start", "end", "generation", "found", "text", "at", "block"] "Journal.read_record" (defScope s_Journal_read_record) f cdv Ar outer s H E)) :
    PSs (cxOf (L2.CX P w) P w K mg base ["self", "start", "end", "generation", "found", "text", "at", "block"] "Journal.read_record" (defScope s_Journal_read_record) f cdv Ar outer s H E) (defBody s_Journal_read_record) (t_Journal_read_record K A (fun cls d _ H => E cls d H)) :=
  (pss_cons (ps_set (i := 4) sc_Journal_read_record.nd rfl (by first | exact Or.inl rfl | exact Or.inr rfl) pe_non)
  (pss_cons (ps_set (i := 5) sc_Journal_read_record.nd rfl (by first | exact Or.inl rfl | exact Or.inr rfl) pe_str)
  (pss_cons (ps_for (passes_of rfl) rfl (pi_range2 rfl T.b_range (pa_cons (pv 1) (pa_cons (pv 2) pa_nil))) (pg_name (i := 6) sc_Journal_read_record.nd rfl (by first | exact Or.inl rfl | exact Or.inr rfl))
  (pss_cons (ps_set (i := 7) sc_Journal_read_record.nd rfl (by first | exact Or.inl rfl | exact Or.inr rfl) (pe_g c_read_block ⟨go.rm, go.gd⟩ (takes_of rfl rfl rfl rfl) (by decide) (pa_cons (pe_m c_Disk_block T.c_Disk ⟨go.rm, go.gd⟩ (takes_of rfl rfl rfl rfl) (by decide) (pe_fld (pv 0) rfl) (pa_cons (pv 6) pa_nil)) pa_nil)))
  (pss_cons (ps_if (PW.pt (pw_or (pt_cmpR q_isN (pv 7) pe_non (nomark _)) (pw_or (pt_cmpR op_ne (pe_ix ix_tup (pv 7) pe_int (fun _ _ => rfl)) (pv 3) (nomark _)) (pw_or1 (pt_cmpR op_ne (pe_ix ix_tup (pv 7) pe_int (fun _ _ => rfl)) (pe_op q_sub (pv 6) (pv 1)) (nomark _))))))
  (pss_one (ps_ret pe_non))
  pss_nil)
  (pss_cons (ps_if (PW.pt (pw_and (pt_cmpR q_notN (pv 4) pe_non (nomark _)) (pw_and1 (pt_cmpR (op_neD go.u64) (pe_tup (pa_cons (pe_ix ix_tup (pv 7) pe_int (fun _ _ => rfl)) (pa_cons (pe_ix ix_tup (pv 7) pe_int (fun _ _ => rfl)) pa_nil))) (pv 4) (nomark _)))))
  (pss_one (ps_ret pe_non))
  pss_nil)
  (pss_cons (ps_set (i := 4) sc_Journal_read_record.nd rfl (by first | exact Or.inl rfl | exact Or.inr rfl) (pe_tup (pa_cons (pe_ix ix_tup (pv 7) pe_int (fun _ _ => rfl)) (pa_cons (pe_ix ix_tup (pv 7) pe_int (fun _ _ => rfl)) pa_nil))))
  (pss_cons (ps_set (i := 5) sc_Journal_read_record.nd rfl (by first | exact Or.inl rfl | exact Or.inr rfl) (pe_op q_addS (pv 5) (pe_ix ix_tup (pv 7) pe_int (fun _ _ => rfl))))
  (pss_one (ps_if (pt_cmpR op_eq (pe_ix ix_tup (pv 7) pe_int (fun _ _ => rfl)) (pe_op q_sub (pe_ix ix_tup (pv 7) pe_int (fun _ _ => rfl)) pe_int) (nomark _))
  (pss_one (ps_ret (pe_tup (pa_cons (pe_ix ix_tup (pv 7) pe_int (fun _ _ => rfl)) (pa_cons (pv 5) (pa_cons (pe_ix ix_tup (pv 7) pe_int (fun _ _ => rfl)) pa_nil))))))
  pss_nil))))))))
  (pss_one (ps_ret pe_non)))))
theorem ok_Journal_read_record {P : Program} {w : World} {K : PySem.W.Frag} {mg : Str → Option Value} {base : Heap} {A : Adr} (T : Txt K mg A) (c_Disk_block : MDef P w K mg base 3 A.Disk "block" (sp_Disk_block K A)) (c_read_block : GDef P w K mg base 2 "read_block" (sp_read_block K A)) {f : Addr} {fd : FuncData} (F : Fun K "read_record" "Journal.read_record" s_Journal_read_record f fd) : FnG P w K mg base 4 f fd ["self", "start", "end", "generation"] (sp_Journal_read_record K A) :=
  okG F sc_Journal_read_record len_Journal_read_record fun cdv Ar outer s H vs Q E go h => ⟨_, d_Journal_read_record T c_Disk_block c_read_block go, pure_Journal_read_record T.pure vs H Q E h⟩

abbrev s_Journal_empty_rest : Stmt := (inClass (top 14) 4)
theorem sc_Journal_empty_rest : FnScope ["self", "found", "at"] ["self"] (defScope s_Journal_empty_rest) := ⟨rfl, rfl, rfl, by decide +kernel, rfl, by decide +kernel, by decide +kernel⟩
theorem d_Journal_empty_rest {P : Program} {w : World} {K : PySem.W.Frag} {mg : Str → Option Value} {base : Heap} {A : Adr} (T : Txt K mg A) (c_Disk_block : MDef P w K mg base 3 A.Disk "block" (sp_Disk_block K A)) (c_Disk_write : MDef P w K mg base 3 A.Disk "write" (sp_Disk_write K A)) (c_Disk_sync : MDef P w K mg base 2 A.Disk "sync" (sp_Disk_sync K A)) {f : Addr} {cdv : Value} {Ar : Around} {outer : List Env} {s : Shared} {H : Hp} {E : XK}
    (go : Go 3 (cxOf (L2.CX P w) P w K mg base ["self", "found", "at"] "Journal.empty_rest" (defScope s_Journal_empty_rest) f cdv Ar outer s H E)) :
    PSs (cxOf (L2.CX P w) P w K mg base ["self", "found", "at"] "Journal.empty_rest" (defScope s_Journal_empty_rest) f cdv Ar outer s H E) (defBody s_Journal_empty_rest) (t_Journal_empty_rest K A (fun cls d _ H => E cls d H)) :=
  (pss_cons (ps_set (i := 1) sc_Journal_empty_rest.nd rfl (by first | exact Or.inl rfl | exact Or.inr rfl) pe_bl)
  (pss_cons (ps_for (passes_of rfl) rfl (pi_range2 rfl T.b_range (pa_cons (pe_fld (pv 0) rfl) (pa_cons (pe_fld (pe_fld (pv 0) rfl) rfl) pa_nil))) (pg_name (i := 2) sc_Journal_empty_rest.nd rfl (by first | exact Or.inl rfl | exact Or.inr rfl))
  (pss_one (ps_if (pt_cmpR op_ne (pe_m c_Disk_block T.c_Disk ⟨go.rm, go.gd⟩ (takes_of rfl rfl rfl rfl) (by decide) (pe_fld (pv 0) rfl) (pa_cons (pv 2) pa_nil)) pe_str (nomark _))
  (pss_cons (ps_expr (pe_m c_Disk_write T.c_Disk ⟨go.rm, go.gd⟩ (takes_of rfl rfl rfl rfl) (by decide) (pe_fld (pv 0) rfl) (pa_cons (pv 2) (pa_cons pe_str pa_nil))))
  (pss_one (ps_set (i := 1) sc_Journal_empty_rest.nd rfl (by first | exact Or.inl rfl | exact Or.inr rfl) pe_bl)))
  pss_nil)))
  (pss_one (ps_if (pt_val (pv 1))
  (pss_one (ps_expr (pe_m0 c_Disk_sync T.c_Disk ⟨go.rm, go.gd⟩ (takes_of rfl rfl rfl rfl) (by decide) (pe_fld (pv 0) rfl))))
  pss_nil))))
theorem ok_Journal_empty_rest {P : Program} {w : World} {K : PySem.W.Frag} {mg : Str → Option Value} {base : Heap} {A : Adr} (T : Txt K mg A) (c_Disk_block : MDef P w K mg base 3 A.Disk "block" (sp_Disk_block K A)) (c_Disk_write : MDef P w K mg base 3 A.Disk "write" (sp_Disk_write K A)) (c_Disk_sync : MDef P w K mg base 2 A.Disk "sync" (sp_Disk_sync K A)) {f : Addr} {fd : FuncData} (F : Fun K "empty_rest" "Journal.empty_rest" s_Journal_empty_rest f fd) : FnG P w K mg base 4 f fd ["self"] (sp_Journal_empty_rest K A) :=
  okG F sc_Journal_empty_rest len_Journal_empty_rest fun cdv Ar outer s H vs Q E go h => ⟨_, d_Journal_empty_rest T c_Disk_block c_Disk_write c_Disk_sync go, pure_Journal_empty_rest T.pure vs H Q E h⟩

abbrev s_Journal_recover : Stmt := (inClass (top 14) 3)
theorem sc_Journal_recover : FnScope ["self", "root", "start", "number", "text", "_", "record"] ["self"] (defScope s_Journal_recover) := ⟨rfl, rfl, rfl, by decide +kernel, rfl, by decide +kernel, by decide +kernel⟩
theorem d_Journal_recover {P : Program} {w : World} {K : PySem.W.Frag} {mg : Str → Option Value} {base : Heap} {A : Adr} (T : Txt K mg A) (c_Disk_block : MDef P w K mg base 3 A.Disk "block" (sp_Disk_block K A)) (c_Journal_area_of : MDef P w K mg base 1 A.Journal "area_of" (sp_Journal_area_of K A)) (c_Journal_read_record : MDef P w K mg base 4 A.Journal "read_record" (sp_Journal_read_record K A)) (c_Journal_empty_rest : MDef P w K mg base 4 A.Journal "empty_rest" (sp_Journal_empty_rest K A)) {f : Addr} {cdv : Value} {Ar : Around} {outer : List Env} {s : Shared} {H : Hp} {E : XK}
    (go : Go 4 (cxOf (L2.CX P w) P w K mg base ["self", "root", "start", "number", "text", "_", "record"] "Journal.recover" (defScope s_Journal_recover) f cdv Ar outer s H E)) :
    PSs (cxOf (L2.CX P w) P w K mg base ["self", "root", "start", "number", "text", "_", "record"] "Journal.recover" (defScope s_Journal_recover) f cdv Ar outer s H E) (defBody s_Journal_recover) (t_Journal_recover K A (fun cls d _ H => E cls d H)) :=
  (pss_cons (ps_set (i := 1) sc_Journal_recover.nd rfl (by first | exact Or.inl rfl | exact Or.inr rfl) (pe_m c_Disk_block T.c_Disk ⟨go.rm, go.gd⟩ (takes_of rfl rfl rfl rfl) (by decide) (pe_fld (pv 0) rfl) (pa_cons pe_int pa_nil)))
  (Evl.pss_cut (ps_if (pt_cmpR op_ne (pv 1) pe_str (nomark _))
  (pss_cons (ps_fld (pv 0) (pe_callTy c_intS (by rfl) T.b_int (by decide +kernel) (pa_cons (pe_slice sl_str (pv 1) (po_some (pe_callB c_lenS (by rfl) T.b_len (by decide +kernel) (pa_cons (pe_k T.k_ROOT_WORD) pa_nil))) po_none) pa_nil)) (by rfl))
  (pss_cons (ps_set (i := 2) sc_Journal_recover.nd rfl (by first | exact Or.inl rfl | exact Or.inr rfl) (pe_m c_Journal_area_of T.c_Journal ⟨go.rm, go.gd⟩ (takes_of rfl rfl rfl rfl) (by decide) (pv 0) (pa_cons (pe_fld (pv 0) rfl) pa_nil)))
  (pss_cons (ps_asg (pe_m c_Journal_read_record T.c_Journal ⟨go.rm, go.gd⟩ (takes_of rfl rfl rfl rfl) (by decide) (pv 0) (pa_cons (pv 2) (pa_cons (pe_op q_add (pv 2) (pe_fld (pv 0) rfl)) (pa_cons (pe_fld (pv 0) rfl) pa_nil)))) (pg_tup rfl (pgs_cons (pg_name (i := 3) sc_Journal_recover.nd rfl (by first | exact Or.inl rfl | exact Or.inr rfl)) (pgs_cons (pg_name (i := 4) sc_Journal_recover.nd rfl (by first | exact Or.inl rfl | exact Or.inr rfl)) (pgs_cons (pg_name (i := 5) sc_Journal_recover.nd rfl (by first | exact Or.inl rfl | exact Or.inr rfl)) pgs_nil)))))
  (pss_cons (ps_fld (pv 0) (pv 3) (by rfl))
  (pss_cons (ps_fld (pv 0) (pv 4) (by rfl))
  (pss_one (ps_fld (pv 0) (pv 3) (by rfl))))))))
  pss_nil)
  (pss_cons (ps_set (i := 6) sc_Journal_recover.nd rfl (by first | exact Or.inl rfl | exact Or.inr rfl) (pe_m c_Journal_read_record T.c_Journal ⟨go.rm, go.gd⟩ (takes_of rfl rfl rfl rfl) (by decide) (pv 0) (pa_cons (pe_fld (pv 0) rfl) (pa_cons (pe_fld (pe_fld (pv 0) rfl) rfl) (pa_cons (pe_fld (pv 0) rfl) pa_nil)))))
  (pss_cons (ps_while (passes_of rfl) (PW.pt (pw_and (pt_cmpR q_notN (pv 6) pe_non (nomark _)) (pw_and1 (pt_cmpR op_eq (pe_ix ix_tup (pv 6) pe_int (fun _ _ => rfl)) (pe_op q_add (pe_fld (pv 0) rfl) pe_int) (nomark _)))))
  (pss_cons (ps_expr (pe_bm PySem.F.plainAttrs_list PySem.F.slot_list_append PySem.F.type_list_append mt_append (pe_fld (pv 0) rfl) (pa_cons (pe_tup (pa_cons (pe_ix ix_tup (pv 6) pe_int (fun _ _ => rfl)) (pa_cons (pe_ix ix_tup (pv 6) pe_int (fun _ _ => rfl)) pa_nil))) pa_nil)))
  (pss_cons (ps_fld (pv 0) (pe_ix ix_tup (pv 6) pe_int (fun _ _ => rfl)) (by rfl))
  (pss_cons (ps_fld (pv 0) (pe_op q_add (pe_fld (pv 0) rfl) (pe_ix ix_tup (pv 6) pe_int (fun _ _ => rfl))) (by rfl))
  (pss_one (ps_set (i := 6) sc_Journal_recover.nd rfl (by first | exact Or.inl rfl | exact Or.inr rfl) (pe_m c_Journal_read_record T.c_Journal ⟨go.rm, go.gd⟩ (takes_of rfl rfl rfl rfl) (by decide) (pv 0) (pa_cons (pe_fld (pv 0) rfl) (pa_cons (pe_fld (pe_fld (pv 0) rfl) rfl) (pa_cons (pe_fld (pv 0) rfl) pa_nil))))))))))
  (pss_one (ps_expr (pe_m0 c_Journal_empty_rest T.c_Journal ⟨go.rm, go.gd⟩ (takes_of rfl rfl rfl rfl) (by decide) (pv 0))))))))
theorem ok_Journal_recover {P : Program} {w : World} {K : PySem.W.Frag} {mg : Str → Option Value} {base : Heap} {A : Adr} (T : Txt K mg A) (c_Disk_block : MDef P w K mg base 3 A.Disk "block" (sp_Disk_block K A)) (c_Journal_area_of : MDef P w K mg base 1 A.Journal "area_of" (sp_Journal_area_of K A)) (c_Journal_read_record : MDef P w K mg base 4 A.Journal "read_record" (sp_Journal_read_record K A)) (c_Journal_empty_rest : MDef P w K mg base 4 A.Journal "empty_rest" (sp_Journal_empty_rest K A)) {f : Addr} {fd : FuncData} (F : Fun K "recover" "Journal.recover" s_Journal_recover f fd) : FnG P w K mg base 5 f fd ["self"] (sp_Journal_recover K A) :=
  okG F sc_Journal_recover len_Journal_recover fun cdv Ar outer s H vs Q E go h => ⟨_, d_Journal_recover T c_Disk_block c_Journal_area_of c_Journal_read_record c_Journal_empty_rest go, pure_Journal_recover T.pure vs H Q E h⟩

abbrev s_Journal_init : Stmt := (inClass (top 14) 0)
theorem sc_Journal_init : FnScope ["self", "disk"] ["self", "disk"] (defScope s_Journal_init) := ⟨rfl, rfl, rfl, by decide +kernel, rfl, by decide +kernel, by decide +kernel⟩
theorem d_Journal_init {P : Program} {w : World} {K : PySem.W.Frag} {mg : Str → Option Value} {base : Heap} {A : Adr} (T : Txt K mg A) (c_Journal_recover : MDef P w K mg base 5 A.Journal "recover" (sp_Journal_recover K A)) {f : Addr} {cdv : Value} {Ar : Around} {outer : List Env} {s : Shared} {H : Hp} {E : XK}
    (go : Go 5 (cxOf (L2.CX P w) P w K mg base ["self", "disk"] "Journal.__init__" (defScope s_Journal_init) f cdv Ar outer s H E)) :
    PSs (cxOf (L2.CX P w) P w K mg base ["self", "disk"] "Journal.__init__" (defScope s_Journal_init) f cdv Ar outer s H E) (defBody s_Journal_init) (t_Journal_init K A (fun cls d _ H => E cls d H)) :=
  (pss_cons (ps_fld (pv 0) (pv 1) (by rfl))
  (pss_cons (ps_fld (pv 0) (pe_op q_div (pe_op q_sub (pe_fld (pv 1) rfl) pe_int) pe_int) (by rfl))
  (pss_cons (ps_fld (pv 0) (pe_op q_add (pe_op q_mul pe_int (pe_fld (pv 0) rfl)) pe_int) (by rfl))
  (pss_cons (ps_fld (pv 0) (pe_fld (pv 0) rfl) (by rfl))
  (pss_cons (ps_fld (pv 0) pe_int (by rfl))
  (pss_cons (ps_fld (pv 0) pe_int (by rfl))
  (pss_cons (ps_fld (pv 0) pe_int (by rfl))
  (pss_cons (ps_fld (pv 0) pe_str (by rfl))
  (pss_cons (ps_fld (pv 0) (pe_lst pa_nil) (by rfl))
  (pss_one (ps_expr (pe_m0 c_Journal_recover T.c_Journal ⟨go.rm, go.gd⟩ (takes_of rfl rfl rfl rfl) (by decide) (pv 0)))))))))))))
theorem ok_Journal_init {P : Program} {w : World} {K : PySem.W.Frag} {mg : Str → Option Value} {base : Heap} {A : Adr} (T : Txt K mg A) (c_Journal_recover : MDef P w K mg base 5 A.Journal "recover" (sp_Journal_recover K A)) {f : Addr} {fd : FuncData} (F : Fun K "__init__" "Journal.__init__" s_Journal_init f fd) : FnG P w K mg base 6 f fd ["self", "disk"] (sp_Journal_init K A) :=
  okG F sc_Journal_init len_Journal_init fun cdv Ar outer s H vs Q E go h => ⟨_, d_Journal_init T c_Journal_recover go, pure_Journal_init T.pure vs H Q E h⟩

abbrev s_Journal_records : Stmt := (inClass (top 14) 5)
theorem sc_Journal_records : FnScope ["self"] ["self"] (defScope s_Journal_records) := ⟨rfl, rfl, rfl, by decide +kernel, rfl, by decide +kernel, by decide +kernel⟩
theorem d_Journal_records {P : Program} {w : World} {K : PySem.W.Frag} {mg : Str → Option Value} {base : Heap} {A : Adr} (T : Txt K mg A) {f : Addr} {cdv : Value} {Ar : Around} {outer : List Env} {s : Shared} {H : Hp} {E : XK}
    (go : Go 0 (cxOf (L2.CX P w) P w K mg base ["self"] "Journal.records" (defScope s_Journal_records) f cdv Ar outer s H E)) :
    PSs (cxOf (L2.CX P w) P w K mg base ["self"] "Journal.records" (defScope s_Journal_records) f cdv Ar outer s H E) (defBody s_Journal_records) (t_Journal_records K A (fun cls d _ H => E cls d H)) :=
  (pss_one (ps_ret (pe_callTy c_list (by rfl) T.b_list (by decide +kernel) (pa_cons (pe_fld (pv 0) rfl) pa_nil))))
theorem ok_Journal_records {P : Program} {w : World} {K : PySem.W.Frag} {mg : Str → Option Value} {base : Heap} {A : Adr} (T : Txt K mg A) {f : Addr} {fd : FuncData} (F : Fun K "records" "Journal.records" s_Journal_records f fd) : FnG P w K mg base 1 f fd ["self"] (sp_Journal_records K A) :=
  okG F sc_Journal_records len_Journal_records fun cdv Ar outer s H vs Q E go h => ⟨_, d_Journal_records T go, pure_Journal_records T.pure vs H Q E h⟩

abbrev s_Journal_has_room : Stmt := (inClass (top 14) 6)
theorem sc_Journal_has_room : FnScope ["self", "text"] ["self", "text"] (defScope s_Journal_has_room) := ⟨rfl, rfl, rfl, by decide +kernel, rfl, by decide +kernel, by decide +kernel⟩
theorem d_Journal_has_room {P : Program} {w : World} {K : PySem.W.Frag} {mg : Str → Option Value} {base : Heap} {A : Adr} (T : Txt K mg A) (c_record_blocks : GDef P w K mg base 1 "record_blocks" (sp_record_blocks K A)) {f : Addr} {cdv : Value} {Ar : Around} {outer : List Env} {s : Shared} {H : Hp} {E : XK}
    (go : Go 1 (cxOf (L2.CX P w) P w K mg base ["self", "text"] "Journal.has_room" (defScope s_Journal_has_room) f cdv Ar outer s H E)) :
    PSs (cxOf (L2.CX P w) P w K mg base ["self", "text"] "Journal.has_room" (defScope s_Journal_has_room) f cdv Ar outer s H E) (defBody s_Journal_has_room) (t_Journal_has_room K A (fun cls d _ H => E cls d H)) :=
  (pss_one (ps_ret (pe_cmpR q_le (pe_op q_add (pe_fld (pv 0) rfl) (pe_callB c_len (by rfl) T.b_len (by decide +kernel) (pa_cons (pe_g c_record_blocks ⟨go.rm, go.gd⟩ (takes_of rfl rfl rfl rfl) (by decide) (pa_cons (pe_fld (pv 0) rfl) (pa_cons (pe_op q_add (pe_fld (pv 0) rfl) pe_int) (pa_cons (pv 1) pa_nil)))) pa_nil))) (pe_fld (pe_fld (pv 0) rfl) rfl) (nomark _))))
theorem ok_Journal_has_room {P : Program} {w : World} {K : PySem.W.Frag} {mg : Str → Option Value} {base : Heap} {A : Adr} (T : Txt K mg A) (c_record_blocks : GDef P w K mg base 1 "record_blocks" (sp_record_blocks K A)) {f : Addr} {fd : FuncData} (F : Fun K "has_room" "Journal.has_room" s_Journal_has_room f fd) : FnG P w K mg base 2 f fd ["self", "text"] (sp_Journal_has_room K A) :=
  okG F sc_Journal_has_room len_Journal_has_room fun cdv Ar outer s H vs Q E go h => ⟨_, d_Journal_has_room T c_record_blocks go, pure_Journal_has_room T.pure vs H Q E h⟩

abbrev s_Journal_write_record : Stmt := (inClass (top 14) 7)
theorem sc_Journal_write_record : FnScope ["self", "text", "blocks", "n"] ["self", "text"] (defScope s_Journal_write_record) := ⟨rfl, rfl, rfl, by decide +kernel, rfl, by decide +kernel, by decide +kernel⟩
theorem d_Journal_write_record {P : Program} {w : World} {K : PySem.W.Frag} {mg : Str → Option Value} {base : Heap} {A : Adr} (T : Txt K mg A) (c_Journal_has_room : MDef P w K mg base 2 A.Journal "has_room" (sp_Journal_has_room K A)) (c_record_blocks : GDef P w K mg base 1 "record_blocks" (sp_record_blocks K A)) (c_Disk_write : MDef P w K mg base 3 A.Disk "write" (sp_Disk_write K A)) (c_Disk_sync : MDef P w K mg base 2 A.Disk "sync" (sp_Disk_sync K A)) {f : Addr} {cdv : Value} {Ar : Around} {outer : List Env} {s : Shared} {H : Hp} {E : XK}
    (go : Go 3 (cxOf (L2.CX P w) P w K mg base ["self", "text", "blocks", "n"] "Journal.write_record" (defScope s_Journal_write_record) f cdv Ar outer s H E)) :
    PSs (cxOf (L2.CX P w) P w K mg base ["self", "text", "blocks", "n"] "Journal.write_record" (defScope s_Journal_write_record) f cdv Ar outer s H E) (defBody s_Journal_write_record) (t_Journal_write_record K A (fun cls d _ H => E cls d H)) :=
  (pss_cons (ps_if (pt_not (pt_val (pe_m c_Journal_has_room T.c_Journal ⟨go.rm, go.gd⟩ (takes_of rfl rfl rfl rfl) (by decide) (pv 0) (pa_cons (pv 1) pa_nil))))
  (pss_one (ps_raise rfl (takes_of rfl rfl rfl rfl) (pmk_own0 PySem.F.excBase_ValueError T.e_DiskFull.xP T.e_DiskFull.gC T.e_DiskFull.kC T.e_DiskFull.rs)))
  pss_nil)
  (pss_cons (ps_set (i := 2) sc_Journal_write_record.nd rfl (by first | exact Or.inl rfl | exact Or.inr rfl) (pe_g c_record_blocks ⟨go.rm, go.gd⟩ (takes_of rfl rfl rfl rfl) (by decide) (pa_cons (pe_fld (pv 0) rfl) (pa_cons (pe_op q_add (pe_fld (pv 0) rfl) pe_int) (pa_cons (pv 1) pa_nil)))))
  (pss_cons (ps_for (passes_of rfl) rfl (pi_range1 rfl T.b_range (pa_cons (pe_callB c_len (by rfl) T.b_len (by decide +kernel) (pa_cons (pv 2) pa_nil)) pa_nil)) (pg_name (i := 3) sc_Journal_write_record.nd rfl (by first | exact Or.inl rfl | exact Or.inr rfl))
  (pss_one (ps_expr (pe_m c_Disk_write T.c_Disk ⟨go.rm, go.gd⟩ (takes_of rfl rfl rfl rfl) (by decide) (pe_fld (pv 0) rfl) (pa_cons (pe_op q_add (pe_fld (pv 0) rfl) (pv 3)) (pa_cons (pe_ix ix_list (pv 2) (pv 3) (fun _ _ => rfl)) pa_nil))))))
  (pss_cons (ps_expr (pe_m0 c_Disk_sync T.c_Disk ⟨go.rm, go.gd⟩ (takes_of rfl rfl rfl rfl) (by decide) (pe_fld (pv 0) rfl)))
  (pss_cons (ps_fld (pv 0) (pe_op q_add (pe_fld (pv 0) rfl) (pe_callB c_len (by rfl) T.b_len (by decide +kernel) (pa_cons (pv 2) pa_nil))) (by rfl))
  (pss_cons (ps_fld (pv 0) (pe_op q_add (pe_fld (pv 0) rfl) pe_int) (by rfl))
  (pss_one (ps_expr (pe_bm PySem.F.plainAttrs_list PySem.F.slot_list_append PySem.F.type_list_append mt_append (pe_fld (pv 0) rfl) (pa_cons (pe_tup (pa_cons (pe_fld (pv 0) rfl) (pa_cons (pv 1) pa_nil))) pa_nil))))))))))
theorem ok_Journal_write_record {P : Program} {w : World} {K : PySem.W.Frag} {mg : Str → Option Value} {base : Heap} {A : Adr} (T : Txt K mg A) (c_Journal_has_room : MDef P w K mg base 2 A.Journal "has_room" (sp_Journal_has_room K A)) (c_record_blocks : GDef P w K mg base 1 "record_blocks" (sp_record_blocks K A)) (c_Disk_write : MDef P w K mg base 3 A.Disk "write" (sp_Disk_write K A)) (c_Disk_sync : MDef P w K mg base 2 A.Disk "sync" (sp_Disk_sync K A)) {f : Addr} {fd : FuncData} (F : Fun K "write_record" "Journal.write_record" s_Journal_write_record f fd) : FnG P w K mg base 4 f fd ["self", "text"] (sp_Journal_write_record K A) :=
  okG F sc_Journal_write_record len_Journal_write_record fun cdv Ar outer s H vs Q E go h => ⟨_, d_Journal_write_record T c_Journal_has_room c_record_blocks c_Disk_write c_Disk_sync go, pure_Journal_write_record T.pure vs H Q E h⟩

abbrev s_Journal_checkpoint : Stmt := (inClass (top 14) 8)
theorem sc_Journal_checkpoint : FnScope ["self", "text", "generation", "blocks", "start", "n"] ["self", "text"] (defScope s_Journal_checkpoint) := ⟨rfl, rfl, rfl, by decide +kernel, rfl, by decide +kernel, by decide +kernel⟩
theorem d_Journal_checkpoint {P : Program} {w : World} {K : PySem.W.Frag} {mg : Str → Option Value} {base : Heap} {A : Adr} (T : Txt K mg A) (c_record_blocks : GDef P w K mg base 1 "record_blocks" (sp_record_blocks K A)) (c_Journal_area_of : MDef P w K mg base 1 A.Journal "area_of" (sp_Journal_area_of K A)) (c_Disk_write : MDef P w K mg base 3 A.Disk "write" (sp_Disk_write K A)) (c_Disk_sync : MDef P w K mg base 2 A.Disk "sync" (sp_Disk_sync K A)) {f : Addr} {cdv : Value} {Ar : Around} {outer : List Env} {s : Shared} {H : Hp} {E : XK}
    (go : Go 3 (cxOf (L2.CX P w) P w K mg base ["self", "text", "generation", "blocks", "start", "n"] "Journal.checkpoint" (defScope s_Journal_checkpoint) f cdv Ar outer s H E)) :
    PSs (cxOf (L2.CX P w) P w K mg base ["self", "text", "generation", "blocks", "start", "n"] "Journal.checkpoint" (defScope s_Journal_checkpoint) f cdv Ar outer s H E) (defBody s_Journal_checkpoint) (t_Journal_checkpoint K A (fun cls d _ H => E cls d H)) :=
  (pss_cons (ps_set (i := 2) sc_Journal_checkpoint.nd rfl (by first | exact Or.inl rfl | exact Or.inr rfl) (pe_op q_add (pe_fld (pv 0) rfl) pe_int))
  (pss_cons (ps_set (i := 3) sc_Journal_checkpoint.nd rfl (by first | exact Or.inl rfl | exact Or.inr rfl) (pe_g c_record_blocks ⟨go.rm, go.gd⟩ (takes_of rfl rfl rfl rfl) (by decide) (pa_cons (pv 2) (pa_cons (pe_fld (pv 0) rfl) (pa_cons (pv 1) pa_nil)))))
  (pss_cons (ps_if (pt_cmpR q_gt (pe_callB c_len (by rfl) T.b_len (by decide +kernel) (pa_cons (pv 3) pa_nil)) (pe_fld (pv 0) rfl) (nomark _))
  (pss_one (ps_raise rfl (takes_of rfl rfl rfl rfl) (pmk_own0 PySem.F.excBase_ValueError T.e_DiskFull.xP T.e_DiskFull.gC T.e_DiskFull.kC T.e_DiskFull.rs)))
  pss_nil)
  (pss_cons (ps_set (i := 4) sc_Journal_checkpoint.nd rfl (by first | exact Or.inl rfl | exact Or.inr rfl) (pe_m c_Journal_area_of T.c_Journal ⟨go.rm, go.gd⟩ (takes_of rfl rfl rfl rfl) (by decide) (pv 0) (pa_cons (pv 2) pa_nil)))
  (pss_cons (ps_for (passes_of rfl) rfl (pi_range1 rfl T.b_range (pa_cons (pe_callB c_len (by rfl) T.b_len (by decide +kernel) (pa_cons (pv 3) pa_nil)) pa_nil)) (pg_name (i := 5) sc_Journal_checkpoint.nd rfl (by first | exact Or.inl rfl | exact Or.inr rfl))
  (pss_one (ps_expr (pe_m c_Disk_write T.c_Disk ⟨go.rm, go.gd⟩ (takes_of rfl rfl rfl rfl) (by decide) (pe_fld (pv 0) rfl) (pa_cons (pe_op q_add (pv 4) (pv 5)) (pa_cons (pe_ix ix_list (pv 3) (pv 5) (fun _ _ => rfl)) pa_nil))))))
  (pss_cons (ps_expr (pe_m0 c_Disk_sync T.c_Disk ⟨go.rm, go.gd⟩ (takes_of rfl rfl rfl rfl) (by decide) (pe_fld (pv 0) rfl)))
  (pss_cons (ps_expr (pe_m c_Disk_write T.c_Disk ⟨go.rm, go.gd⟩ (takes_of rfl rfl rfl rfl) (by decide) (pe_fld (pv 0) rfl) (pa_cons pe_int (pa_cons (pe_op q_addS (pe_k T.k_ROOT_WORD) (pe_callTy c_str (by rfl) T.b_str (by decide +kernel) (pa_cons (pv 2) pa_nil))) pa_nil))))
  (pss_cons (ps_expr (pe_m0 c_Disk_sync T.c_Disk ⟨go.rm, go.gd⟩ (takes_of rfl rfl rfl rfl) (by decide) (pe_fld (pv 0) rfl)))
  (pss_cons (ps_fld (pv 0) (pv 2) (by rfl))
  (pss_cons (ps_fld (pv 0) (pe_fld (pv 0) rfl) (by rfl))
  (pss_cons (ps_fld (pv 0) (pv 1) (by rfl))
  (pss_cons (ps_fld (pv 0) (pe_lst pa_nil) (by rfl))
  (pss_one (ps_fld (pv 0) (pe_fld (pv 0) rfl) (by rfl)))))))))))))))
theorem ok_Journal_checkpoint {P : Program} {w : World} {K : PySem.W.Frag} {mg : Str → Option Value} {base : Heap} {A : Adr} (T : Txt K mg A) (c_record_blocks : GDef P w K mg base 1 "record_blocks" (sp_record_blocks K A)) (c_Journal_area_of : MDef P w K mg base 1 A.Journal "area_of" (sp_Journal_area_of K A)) (c_Disk_write : MDef P w K mg base 3 A.Disk "write" (sp_Disk_write K A)) (c_Disk_sync : MDef P w K mg base 2 A.Disk "sync" (sp_Disk_sync K A)) {f : Addr} {fd : FuncData} (F : Fun K "checkpoint" "Journal.checkpoint" s_Journal_checkpoint f fd) : FnG P w K mg base 4 f fd ["self", "text"] (sp_Journal_checkpoint K A) :=
  okG F sc_Journal_checkpoint len_Journal_checkpoint fun cdv Ar outer s H vs Q E go h => ⟨_, d_Journal_checkpoint T c_record_blocks c_Journal_area_of c_Disk_write c_Disk_sync go, pure_Journal_checkpoint T.pure vs H Q E h⟩

abbrev s__law_state : Stmt := (top 20)
theorem sc__law_state : FnScope ["_law_script", "_law_mixed", "_law_rest"] ["_law_script"] (defScope s__law_state) := ⟨rfl, rfl, rfl, by decide +kernel, rfl, by decide +kernel, by decide +kernel⟩
theorem d__law_state {P : Program} {w : World} {K : PySem.W.Frag} {mg : Str → Option Value} {base : Heap} {A : Adr} (T : Txt K mg A) {f : Addr} {cdv : Value} {Ar : Around} {outer : List Env} {s : Shared} {H : Hp} {E : XK}
    (go : Go 0 (cxOf (L2.CX P w) P w K mg base ["_law_script", "_law_mixed", "_law_rest"] "_law_state" (defScope s__law_state) f cdv Ar outer s H E)) :
    PSs (cxOf (L2.CX P w) P w K mg base ["_law_script", "_law_mixed", "_law_rest"] "_law_state" (defScope s__law_state) f cdv Ar outer s H E) (defBody s__law_state) (t__law_state K A (fun cls d _ H => E cls d H)) :=
  (pss_cons (ps_set (i := 1) sc__law_state.nd rfl (by first | exact Or.inl rfl | exact Or.inr rfl) pe_int)
  (pss_cons (ps_set (i := 2) sc__law_state.nd rfl (by first | exact Or.inl rfl | exact Or.inr rfl) pe_int)
  (pss_cons (ps_if (pt_cmpR q_gt (pe_callB c_len (by rfl) T.b_len (by decide +kernel) (pa_cons (pv 0) pa_nil)) pe_int (nomark _))
  (pss_cons (ps_set (i := 1) sc__law_state.nd rfl (by first | exact Or.inl rfl | exact Or.inr rfl) (pe_op q_mod (pe_callTy c_int (by rfl) T.b_int (by decide +kernel) (pa_cons (pe_ix ix_list (pv 0) pe_int (fun _ _ => rfl)) pa_nil)) pe_int))
  (pss_one (ps_set (i := 2) sc__law_state.nd rfl (by first | exact Or.inl rfl | exact Or.inr rfl) (pe_ix ix_list (pe_lst (pa_cons (pe_op q_div (pe_callB c_abs (by rfl) T.b_abs (by decide +kernel) (pa_cons (pe_ix ix_list (pv 0) pe_int (fun _ _ => rfl)) pa_nil)) pe_int) (pa_cons pe_int pa_nil))) (pv 1) (fun _ _ => rfl)))))
  pss_nil)
  (pss_one (ps_ret (pe_lst (pa_cons (pv 0) (pa_cons (pv 2) (pa_cons pe_int (pa_cons (pv 1) (pa_cons (pe_lst pa_nil) (pa_cons pe_int (pa_cons pe_int (pa_cons pe_int pa_nil))))))))))))))
theorem ok__law_state {P : Program} {w : World} {K : PySem.W.Frag} {mg : Str → Option Value} {base : Heap} {A : Adr} (T : Txt K mg A) {f : Addr} {fd : FuncData} (F : Fun K "_law_state" "_law_state" s__law_state f fd) : FnG P w K mg base 1 f fd ["_law_script"] (sp__law_state K A) :=
  okG F sc__law_state len__law_state fun cdv Ar outer s H vs Q E go h => ⟨_, d__law_state T go, pure__law_state T.pure vs H Q E h⟩

abbrev s__law_take : Stmt := (top 21)
theorem sc__law_take : FnScope ["_law_state_here", "_law_many", "_law_cell", "_law_drawn"] ["_law_state_here", "_law_many"] (defScope s__law_take) := ⟨rfl, rfl, rfl, by decide +kernel, rfl, by decide +kernel, by decide +kernel⟩
theorem d__law_take {P : Program} {w : World} {K : PySem.W.Frag} {mg : Str → Option Value} {base : Heap} {A : Adr} (T : Txt K mg A) {f : Addr} {cdv : Value} {Ar : Around} {outer : List Env} {s : Shared} {H : Hp} {E : XK}
    (go : Go 0 (cxOf (L2.CX P w) P w K mg base ["_law_state_here", "_law_many", "_law_cell", "_law_drawn"] "_law_take" (defScope s__law_take) f cdv Ar outer s H E)) :
    PSs (cxOf (L2.CX P w) P w K mg base ["_law_state_here", "_law_many", "_law_cell", "_law_drawn"] "_law_take" (defScope s__law_take) f cdv Ar outer s H E) (defBody s__law_take) (t__law_take K A (fun cls d _ H => E cls d H)) :=
  (pss_cons (ps_if (pt_cmpR op_eq (pe_ix ix_list (pv 0) pe_int (fun _ _ => rfl)) pe_int (nomark _))
  (pss_cons (ps_set (i := 2) sc__law_take.nd rfl (by first | exact Or.inl rfl | exact Or.inr rfl) (pe_ix ix_list (pe_ix ix_list (pv 0) pe_int (fun _ _ => rfl)) (pe_op q_mod (pe_callTy c_int (by rfl) T.b_int (by decide +kernel) (pa_cons (pe_ix ix_list (pv 0) pe_int (fun _ _ => rfl)) pa_nil)) (pe_callB c_len (by rfl) T.b_len (by decide +kernel) (pa_cons (pe_ix ix_list (pv 0) pe_int (fun _ _ => rfl)) pa_nil))) (fun _ _ => rfl)))
  (pss_cons (ps_asg (pe_op q_mod (pe_callTy c_int (by rfl) T.b_int (by decide +kernel) (pa_cons (pe_op q_add (pe_op q_add (pe_op q_add (pe_op q_mul (pe_ix ix_list (pv 0) pe_int (fun _ _ => rfl)) pe_int) (pe_op q_mul (pv 2) pe_int)) (pe_op q_mul (pe_ix ix_list (pv 0) pe_int (fun _ _ => rfl)) pe_int)) pe_int) pa_nil)) pe_int) (pg_sub (pv 0) pe_int set_list))
  (pss_cons (ps_asg (pe_op q_add (pe_ix ix_list (pv 0) pe_int (fun _ _ => rfl)) pe_int) (pg_sub (pv 0) pe_int set_list))
  (pss_one (ps_ret (pe_op q_mod (pe_op q_mod (pe_callTy c_int (by rfl) T.b_int (by decide +kernel) (pa_cons (pe_op q_add (pe_op q_mul (pe_ix ix_list (pv 0) pe_int (fun _ _ => rfl)) pe_int) pe_int) pa_nil)) pe_int) (pv 1)))))))
  pss_nil)
  (pss_cons (ps_if (pt_cmpR op_eq (pe_ix ix_list (pv 0) pe_int (fun _ _ => rfl)) pe_int (nomark _))
  (pss_cons (ps_if (pt_cmpR q_ge (pe_ix ix_list (pv 0) pe_int (fun _ _ => rfl)) (pe_callB c_len (by rfl) T.b_len (by decide +kernel) (pa_cons (pe_ix ix_list (pv 0) pe_int (fun _ _ => rfl)) pa_nil)) (nomark _))
  (pss_one (ps_ret pe_int))
  pss_nil)
  (pss_cons (ps_asg (pe_callB c_abs (by rfl) T.b_abs (by decide +kernel) (pa_cons (pe_ix ix_list (pe_ix ix_list (pv 0) pe_int (fun _ _ => rfl)) (pe_ix ix_list (pv 0) pe_int (fun _ _ => rfl)) (fun _ _ => rfl)) pa_nil)) (pg_sub (pv 0) pe_int set_list))
  (pss_one (ps_asg (pe_op q_add (pe_ix ix_list (pv 0) pe_int (fun _ _ => rfl)) pe_int) (pg_sub (pv 0) pe_int set_list)))))
  pss_nil)
  (pss_cons (ps_set (i := 3) sc__law_take.nd rfl (by first | exact Or.inl rfl | exact Or.inr rfl) (pe_op q_mod (pe_callTy c_int (by rfl) T.b_int (by decide +kernel) (pa_cons (pe_ix ix_list (pv 0) pe_int (fun _ _ => rfl)) pa_nil)) (pv 1)))
  (pss_cons (ps_asg (pe_op q_div (pe_ix ix_list (pv 0) pe_int (fun _ _ => rfl)) (pv 1)) (pg_sub (pv 0) pe_int set_list))
  (pss_one (ps_ret (pv 3)))))))
theorem ok__law_take {P : Program} {w : World} {K : PySem.W.Frag} {mg : Str → Option Value} {base : Heap} {A : Adr} (T : Txt K mg A) {f : Addr} {fd : FuncData} (F : Fun K "_law_take" "_law_take" s__law_take f fd) : FnG P w K mg base 1 f fd ["_law_state_here", "_law_many"] (sp__law_take K A) :=
  okG F sc__law_take len__law_take fun cdv Ar outer s H vs Q E go h => ⟨_, d__law_take T go, pure__law_take T.pure vs H Q E h⟩

abbrev s__law_text_of : Stmt := (top 22)
theorem sc__law_text_of : FnScope ["_law_state_here", "_law_most"] ["_law_state_here", "_law_most"] (defScope s__law_text_of) := ⟨rfl, rfl, rfl, by decide +kernel, rfl, by decide +kernel, by decide +kernel⟩
theorem d__law_text_of {P : Program} {w : World} {K : PySem.W.Frag} {mg : Str → Option Value} {base : Heap} {A : Adr} (T : Txt K mg A) (c__law_take : GDef P w K mg base 1 "_law_take" (sp__law_take K A)) {f : Addr} {cdv : Value} {Ar : Around} {outer : List Env} {s : Shared} {H : Hp} {E : XK}
    (go : Go 1 (cxOf (L2.CX P w) P w K mg base ["_law_state_here", "_law_most"] "_law_text_of" (defScope s__law_text_of) f cdv Ar outer s H E)) :
    PSs (cxOf (L2.CX P w) P w K mg base ["_law_state_here", "_law_most"] "_law_text_of" (defScope s__law_text_of) f cdv Ar outer s H E) (defBody s__law_text_of) (t__law_text_of K A (fun cls d _ H => E cls d H)) :=
  (pss_one (ps_ret (pe_op q_addS (pe_slice sl_str (pe_slice sl_str pe_str (po_some (pe_g c__law_take ⟨go.rm, go.gd⟩ (takes_of rfl rfl rfl rfl) (by decide) (pa_cons (pv 0) (pa_cons pe_int pa_nil)))) po_none) po_none (po_some pe_int)) (pe_op q_repS pe_str (pe_g c__law_take ⟨go.rm, go.gd⟩ (takes_of rfl rfl rfl rfl) (by decide) (pa_cons (pv 0) (pa_cons (pv 1) pa_nil)))))))
theorem ok__law_text_of {P : Program} {w : World} {K : PySem.W.Frag} {mg : Str → Option Value} {base : Heap} {A : Adr} (T : Txt K mg A) (c__law_take : GDef P w K mg base 1 "_law_take" (sp__law_take K A)) {f : Addr} {fd : FuncData} (F : Fun K "_law_text_of" "_law_text_of" s__law_text_of f fd) : FnG P w K mg base 2 f fd ["_law_state_here", "_law_most"] (sp__law_text_of K A) :=
  okG F sc__law_text_of len__law_text_of fun cdv Ar outer s H vs Q E go h => ⟨_, d__law_text_of T c__law_take go, pure__law_text_of T.pure vs H Q E h⟩

abbrev s__law_seen_journal : Stmt := (top 23)
theorem sc__law_seen_journal : FnScope ["_law_journal"] ["_law_journal"] (defScope s__law_seen_journal) := ⟨rfl, rfl, rfl, by decide +kernel, rfl, by decide +kernel, by decide +kernel⟩
theorem d__law_seen_journal {P : Program} {w : World} {K : PySem.W.Frag} {mg : Str → Option Value} {base : Heap} {A : Adr} (T : Txt K mg A) (c_Journal_records : MDef P w K mg base 1 A.Journal "records" (sp_Journal_records K A)) {f : Addr} {cdv : Value} {Ar : Around} {outer : List Env} {s : Shared} {H : Hp} {E : XK}
    (go : Go 1 (cxOf (L2.CX P w) P w K mg base ["_law_journal"] "_law_seen_journal" (defScope s__law_seen_journal) f cdv Ar outer s H E)) :
    PSs (cxOf (L2.CX P w) P w K mg base ["_law_journal"] "_law_seen_journal" (defScope s__law_seen_journal) f cdv Ar outer s H E) (defBody s__law_seen_journal) (t__law_seen_journal K A (fun cls d _ H => E cls d H)) :=
  (pss_one (ps_ret (pe_lst (pa_cons (pe_fld (pv 0) rfl) (pa_cons (pe_fld (pv 0) rfl) (pa_cons (pe_fld (pv 0) rfl) (pa_cons (pe_fld (pv 0) rfl) (pa_cons (pe_m0 c_Journal_records T.c_Journal ⟨go.rm, go.gd⟩ (takes_of rfl rfl rfl rfl) (by decide) (pv 0)) pa_nil))))))))
theorem ok__law_seen_journal {P : Program} {w : World} {K : PySem.W.Frag} {mg : Str → Option Value} {base : Heap} {A : Adr} (T : Txt K mg A) (c_Journal_records : MDef P w K mg base 1 A.Journal "records" (sp_Journal_records K A)) {f : Addr} {fd : FuncData} (F : Fun K "_law_seen_journal" "_law_seen_journal" s__law_seen_journal f fd) : FnG P w K mg base 2 f fd ["_law_journal"] (sp__law_seen_journal K A) :=
  okG F sc__law_seen_journal len__law_seen_journal fun cdv Ar outer s H vs Q E go h => ⟨_, d__law_seen_journal T c_Journal_records go, pure__law_seen_journal T.pure vs H Q E h⟩

abbrev s__law_spilled : Stmt := (top 24)
theorem sc__law_spilled : FnScope ["_law_text"] ["_law_text"] (defScope s__law_spilled) := ⟨rfl, rfl, rfl, by decide +kernel, rfl, by decide +kernel, by decide +kernel⟩
theorem d__law_spilled {P : Program} {w : World} {K : PySem.W.Frag} {mg : Str → Option Value} {base : Heap} {A : Adr} (T : Txt K mg A) {f : Addr} {cdv : Value} {Ar : Around} {outer : List Env} {s : Shared} {H : Hp} {E : XK}
    (go : Go 0 (cxOf (L2.CX P w) P w K mg base ["_law_text"] "_law_spilled" (defScope s__law_spilled) f cdv Ar outer s H E)) :
    PSs (cxOf (L2.CX P w) P w K mg base ["_law_text"] "_law_spilled" (defScope s__law_spilled) f cdv Ar outer s H E) (defBody s__law_spilled) (t__law_spilled K A (fun cls d _ H => E cls d H)) :=
  (pss_one (ps_ret (pe_callB (c_max rfl) (by rfl) T.b_max (by decide +kernel) (pa_cons pe_int (pa_cons (pe_op q_div (pe_op q_add (pe_callB c_lenS (by rfl) T.b_len (by decide +kernel) (pa_cons (pv 0) pa_nil)) pe_int) pe_int) pa_nil)))))
theorem ok__law_spilled {P : Program} {w : World} {K : PySem.W.Frag} {mg : Str → Option Value} {base : Heap} {A : Adr} (T : Txt K mg A) {f : Addr} {fd : FuncData} (F : Fun K "_law_spilled" "_law_spilled" s__law_spilled f fd) : FnG P w K mg base 1 f fd ["_law_text"] (sp__law_spilled K A) :=
  okG F sc__law_spilled len__law_spilled fun cdv Ar outer s H vs Q E go h => ⟨_, d__law_spilled T go, pure__law_spilled T.pure vs H Q E h⟩

abbrev s__law_written : Stmt := (top 25)
theorem sc__law_written : FnScope ["_law_journal", "_law_text", "_law_is_record", "e"] ["_law_journal", "_law_text", "_law_is_record"] (defScope s__law_written) := ⟨rfl, rfl, rfl, by decide +kernel, rfl, by decide +kernel, by decide +kernel⟩
theorem d__law_written {P : Program} {w : World} {K : PySem.W.Frag} {mg : Str → Option Value} {base : Heap} {A : Adr} (T : Txt K mg A) (c_Journal_write_record : MDef P w K mg base 4 A.Journal "write_record" (sp_Journal_write_record K A)) (c_Journal_checkpoint : MDef P w K mg base 4 A.Journal "checkpoint" (sp_Journal_checkpoint K A)) {f : Addr} {cdv : Value} {Ar : Around} {outer : List Env} {s : Shared} {H : Hp} {E : XK}
    (go : Go 4 (cxOf (L2.CX P w) P w K mg base ["_law_journal", "_law_text", "_law_is_record", "e"] "_law_written" (defScope s__law_written) f cdv Ar outer s H E)) :
    PSs (cxOf (L2.CX P w) P w K mg base ["_law_journal", "_law_text", "_law_is_record", "e"] "_law_written" (defScope s__law_written) f cdv Ar outer s H E) (defBody s__law_written) (t__law_written K A (fun cls d _ H => E cls d H)) :=
  (pss_cons (ps_try_mix (tb := fun W1 => (tIfS (tB (tVar 2))
  (tDrop (tMethS A.Journal "write_record" (sp_Journal_write_record K A) (WE W1) (tVar 0) (tCons (tVar 1) tNil)))
  (tDrop (tMethS A.Journal "checkpoint" (sp_Journal_checkpoint K A) (WE W1) (tVar 0) (tCons (tVar 1) tNil))))) sc__law_written.nd (takes_of rfl rfl rfl rfl) rfl rfl (fun W1 pn xe tk1 hp1 => (pss_one (ps_if (pt_val (pv 2))
  (pss_one (ps_expr (pe_m c_Journal_write_record T.c_Journal ⟨go.rm, go.gd⟩ tk1 (by decide) (pv 0) (pa_cons (pv 1) pa_nil))))
  (pss_one (ps_expr (pe_m c_Journal_checkpoint T.c_Journal ⟨go.rm, go.gd⟩ tk1 (by decide) (pv 0) (pa_cons (pv 1) pa_nil))))))) (MixOk.named (nm T.g_DiskFull) rfl rfl (fun a oe cls d pn hz hf => (pss_one (ps_ret (pe_and (pe_callB (call_isPc hz) (by rfl) T.b_isinstance (by decide +kernel) (pa_cons (pv 3) (pa_cons (pe_k T.k_DatabaseError) pa_nil))) (pe_one (pe_not (pe_callB (call_isEc T.ec_DiskFull hz hf) (by rfl) T.b_isinstance (by decide +kernel) (pa_cons (pv 3) (pa_cons (pe_k T.k_PowerLost) pa_nil))))))))) MixOk.nil))
  (pss_one (ps_ret pe_non)))
theorem ok__law_written {P : Program} {w : World} {K : PySem.W.Frag} {mg : Str → Option Value} {base : Heap} {A : Adr} (T : Txt K mg A) (c_Journal_write_record : MDef P w K mg base 4 A.Journal "write_record" (sp_Journal_write_record K A)) (c_Journal_checkpoint : MDef P w K mg base 4 A.Journal "checkpoint" (sp_Journal_checkpoint K A)) {f : Addr} {fd : FuncData} (F : Fun K "_law_written" "_law_written" s__law_written f fd) : FnG P w K mg base 5 f fd ["_law_journal", "_law_text", "_law_is_record"] (sp__law_written K A) :=
  okG F sc__law_written len__law_written fun cdv Ar outer s H vs Q E go h => ⟨_, d__law_written T c_Journal_write_record c_Journal_checkpoint go, pure__law_written T.pure vs H Q E h⟩

abbrev s_law : Stmt := (top 26)
theorem sc_law : FnScope ["_law_script", "_law_state_here", "_law_size", "_law_area", "_law_disk", "_law_journal", "_law_model", "_law_used", "_law_n", "_law_kind", "_law_text", "_law_fits", "_law_due", "_law_told"] ["_law_script"] (defScope s_law) := ⟨rfl, rfl, rfl, by decide +kernel, rfl, by decide +kernel, by decide +kernel⟩
theorem d_law {P : Program} {w : World} {K : PySem.W.Frag} {mg : Str → Option Value} {base : Heap} {A : Adr} (T : Txt K mg A) (c__law_state : GDef P w K mg base 1 "_law_state" (sp__law_state K A)) (c__law_take : GDef P w K mg base 1 "_law_take" (sp__law_take K A)) (c_Disk_init : CDef P w K mg base 1 "Disk" A.Disk (sp_Disk_init K A)) (c_Journal_init : CDef P w K mg base 6 "Journal" A.Journal (sp_Journal_init K A)) (c__law_text_of : GDef P w K mg base 2 "_law_text_of" (sp__law_text_of K A)) (c__law_spilled : GDef P w K mg base 1 "_law_spilled" (sp__law_spilled K A)) (c_Journal_has_room : MDef P w K mg base 2 A.Journal "has_room" (sp_Journal_has_room K A)) (c__law_written : GDef P w K mg base 5 "_law_written" (sp__law_written K A)) (c__law_seen_journal : GDef P w K mg base 2 "_law_seen_journal" (sp__law_seen_journal K A)) (c_Disk_waiting : MDef P w K mg base 1 A.Disk "waiting" (sp_Disk_waiting K A)) (c_Journal_records : MDef P w K mg base 1 A.Journal "records" (sp_Journal_records K A)) {f : Addr} {cdv : Value} {Ar : Around} {outer : List Env} {s : Shared} {H : Hp} {E : XK}
    (go : Go 7 (cxOf (L2.CX P w) P w K mg base ["_law_script", "_law_state_here", "_law_size", "_law_area", "_law_disk", "_law_journal", "_law_model", "_law_used", "_law_n", "_law_kind", "_law_text", "_law_fits", "_law_due", "_law_told"] "law" (defScope s_law) f cdv Ar outer s H E)) :
    PSs (cxOf (L2.CX P w) P w K mg base ["_law_script", "_law_state_here", "_law_size", "_law_area", "_law_disk", "_law_journal", "_law_model", "_law_used", "_law_n", "_law_kind", "_law_text", "_law_fits", "_law_due", "_law_told"] "law" (defScope s_law) f cdv Ar outer s H E) (defBody s_law) (t_law K A (fun cls d _ H => E cls d H)) :=
  (pss_cons (ps_set (i := 1) sc_law.nd rfl (by first | exact Or.inl rfl | exact Or.inr rfl) (pe_g c__law_state ⟨go.rm, go.gd⟩ (takes_of rfl rfl rfl rfl) (by decide) (pa_cons (pv 0) pa_nil)))
  (pss_cons (ps_set (i := 2) sc_law.nd rfl (by first | exact Or.inl rfl | exact Or.inr rfl) (pe_op q_add pe_int (pe_g c__law_take ⟨go.rm, go.gd⟩ (takes_of rfl rfl rfl rfl) (by decide) (pa_cons (pv 1) (pa_cons pe_int pa_nil)))))
  (pss_cons (ps_set (i := 3) sc_law.nd rfl (by first | exact Or.inl rfl | exact Or.inr rfl) (pe_op q_div (pe_op q_sub (pv 2) pe_int) pe_int))
  (pss_cons (ps_set (i := 4) sc_law.nd rfl (by first | exact Or.inl rfl | exact Or.inr rfl) (pe_c c_Disk_init ⟨go.rm, go.gd⟩ (takes_of rfl rfl rfl rfl) (by decide) (pa_cons (pv 2) pa_nil)))
  (pss_cons (ps_set (i := 5) sc_law.nd rfl (by first | exact Or.inl rfl | exact Or.inr rfl) (pe_c c_Journal_init ⟨go.rm, go.gd⟩ (takes_of rfl rfl rfl rfl) (by decide) (pa_cons (pv 4) pa_nil)))
  (pss_cons (ps_set (i := 6) sc_law.nd rfl (by first | exact Or.inl rfl | exact Or.inr rfl) (pe_lst (pa_cons pe_int (pa_cons pe_int (pa_cons pe_int (pa_cons pe_str (pa_cons (pe_lst pa_nil) pa_nil)))))))
  (pss_cons (ps_set (i := 7) sc_law.nd rfl (by first | exact Or.inl rfl | exact Or.inr rfl) pe_int)
  (pss_cons (ps_for (passes_of rfl) rfl (pi_range1 rfl T.b_range (pa_cons (pe_op q_add pe_int (pe_callB c_len (by rfl) T.b_len (by decide +kernel) (pa_cons (pe_slice sl_list (pv 0) po_none (po_some pe_int)) pa_nil))) pa_nil)) (pg_name (i := 8) sc_law.nd rfl (by first | exact Or.inl rfl | exact Or.inr rfl))
  (pss_cons (ps_set (i := 9) sc_law.nd rfl (by first | exact Or.inl rfl | exact Or.inr rfl) (pe_g c__law_take ⟨go.rm, go.gd⟩ (takes_of rfl rfl rfl rfl) (by decide) (pa_cons (pv 1) (pa_cons pe_int pa_nil))))
  (pss_cons (ps_set (i := 10) sc_law.nd rfl (by first | exact Or.inl rfl | exact Or.inr rfl) (pe_g c__law_text_of ⟨go.rm, go.gd⟩ (takes_of rfl rfl rfl rfl) (by decide) (pa_cons (pv 1) (pa_cons (pe_ix ix_list (pe_lst (pa_cons pe_int (pa_cons pe_int pa_nil))) (pe_g c__law_take ⟨go.rm, go.gd⟩ (takes_of rfl rfl rfl rfl) (by decide) (pa_cons (pv 1) (pa_cons pe_int pa_nil))) (fun _ _ => rfl)) pa_nil))))
  (Evl.pss_cut (ps_if (pt_cmpR q_lt (pv 9) pe_int (nomark _))
  (pss_cons (ps_set (i := 11) sc_law.nd rfl (by first | exact Or.inl rfl | exact Or.inr rfl) (pe_cmpR q_le (pe_op q_add (pv 7) (pe_g c__law_spilled ⟨go.rm, go.gd⟩ (takes_of rfl rfl rfl rfl) (by decide) (pa_cons (pv 10) pa_nil))) (pe_op q_sub (pe_op q_sub (pv 2) pe_int) (pe_op q_mul pe_int (pv 3))) (nomark _)))
  (pss_cons (ps_if (pt_cmpR op_ne (pe_callB (call_reprD (k := 0) ⟨go.rm.mono (Nat.zero_le _), go.gd⟩) (by rfl) T.b_repr (by decide +kernel) (pa_cons (pe_m c_Journal_has_room T.c_Journal ⟨go.rm, go.gd⟩ (takes_of rfl rfl rfl rfl) (by decide) (pv 5) (pa_cons (pv 10) pa_nil)) pa_nil)) (pe_callB (call_reprD (k := 0) ⟨go.rm.mono (Nat.zero_le _), go.gd⟩) (by rfl) T.b_repr (by decide +kernel) (pa_cons (pv 11) pa_nil)) (nomark _))
  (pss_one (ps_ret pe_bl))
  pss_nil)
  (pss_cons (ps_set (i := 12) sc_law.nd rfl (by first | exact Or.inl rfl | exact Or.inr rfl) pe_non)
  (pss_cons (ps_if (pt_val (pv 11))
  (pss_cons (ps_set (i := 7) sc_law.nd rfl (by first | exact Or.inl rfl | exact Or.inr rfl) (pe_op q_add (pv 7) (pe_g c__law_spilled ⟨go.rm, go.gd⟩ (takes_of rfl rfl rfl rfl) (by decide) (pa_cons (pv 10) pa_nil))))
  (pss_one (ps_set (i := 6) sc_law.nd rfl (by first | exact Or.inl rfl | exact Or.inr rfl) (pe_lst (pa_cons (pe_ix ix_list (pv 6) pe_int (fun _ _ => rfl)) (pa_cons (pe_op q_add (pe_ix ix_list (pv 6) pe_int (fun _ _ => rfl)) pe_int) (pa_cons (pe_ix ix_list (pv 6) pe_int (fun _ _ => rfl)) (pa_cons (pe_ix ix_list (pv 6) pe_int (fun _ _ => rfl)) (pa_cons (pe_op op_cat (pe_ix ix_list (pv 6) pe_int (fun _ _ => rfl)) (pe_lst (pa_cons (pe_tup (pa_cons (pe_op q_add (pe_ix ix_list (pv 6) pe_int (fun _ _ => rfl)) pe_int) (pa_cons (pv 10) pa_nil))) pa_nil))) pa_nil)))))))))
  (pss_one (ps_set (i := 12) sc_law.nd rfl (by first | exact Or.inl rfl | exact Or.inr rfl) pe_bl)))
  (pss_one (ps_if (pt_cmpR op_ne (pe_callB (call_reprD (k := 0) ⟨go.rm.mono (Nat.zero_le _), go.gd⟩) (by rfl) T.b_repr (by decide +kernel) (pa_cons (pe_g c__law_written ⟨go.rm, go.gd⟩ (takes_of rfl rfl rfl rfl) (by decide) (pa_cons (pv 5) (pa_cons (pv 10) (pa_cons pe_bl pa_nil)))) pa_nil)) (pe_callB (call_reprD (k := 0) ⟨go.rm.mono (Nat.zero_le _), go.gd⟩) (by rfl) T.b_repr (by decide +kernel) (pa_cons (pv 12) pa_nil)) (nomark _))
  (pss_one (ps_ret pe_bl))
  pss_nil))))))
  (pss_one (ps_if (pt_cmpR op_eq (pv 9) pe_int (nomark _))
  (pss_cons (ps_if (pt_cmpR op_eq (pe_op q_mod (pv 8) pe_int) pe_int (nomark _))
  (pss_one (ps_set (i := 10) sc_law.nd rfl (by first | exact Or.inl rfl | exact Or.inr rfl) pe_str))
  pss_nil)
  (pss_cons (ps_set (i := 12) sc_law.nd rfl (by first | exact Or.inl rfl | exact Or.inr rfl) pe_non)
  (pss_cons (ps_if (pt_cmpR q_le (pe_g c__law_spilled ⟨go.rm, go.gd⟩ (takes_of rfl rfl rfl rfl) (by decide) (pa_cons (pv 10) pa_nil)) (pv 3) (nomark _))
  (pss_cons (ps_set (i := 7) sc_law.nd rfl (by first | exact Or.inl rfl | exact Or.inr rfl) pe_int)
  (pss_one (ps_set (i := 6) sc_law.nd rfl (by first | exact Or.inl rfl | exact Or.inr rfl) (pe_lst (pa_cons (pe_op q_add (pe_ix ix_list (pv 6) pe_int (fun _ _ => rfl)) pe_int) (pa_cons (pe_ix ix_list (pv 6) pe_int (fun _ _ => rfl)) (pa_cons (pe_ix ix_list (pv 6) pe_int (fun _ _ => rfl)) (pa_cons (pv 10) (pa_cons (pe_lst pa_nil) pa_nil)))))))))
  (pss_one (ps_set (i := 12) sc_law.nd rfl (by first | exact Or.inl rfl | exact Or.inr rfl) pe_bl)))
  (pss_one (ps_if (pt_cmpR op_ne (pe_callB (call_reprD (k := 0) ⟨go.rm.mono (Nat.zero_le _), go.gd⟩) (by rfl) T.b_repr (by decide +kernel) (pa_cons (pe_g c__law_written ⟨go.rm, go.gd⟩ (takes_of rfl rfl rfl rfl) (by decide) (pa_cons (pv 5) (pa_cons (pv 10) (pa_cons pe_bl pa_nil)))) pa_nil)) (pe_callB (call_reprD (k := 0) ⟨go.rm.mono (Nat.zero_le _), go.gd⟩) (by rfl) T.b_repr (by decide +kernel) (pa_cons (pv 12) pa_nil)) (nomark _))
  (pss_one (ps_ret pe_bl))
  pss_nil)))))
  (pss_one (ps_set (i := 5) sc_law.nd rfl (by first | exact Or.inl rfl | exact Or.inr rfl) (pe_c c_Journal_init ⟨go.rm, go.gd⟩ (takes_of rfl rfl rfl rfl) (by decide) (pa_cons (pv 4) pa_nil)))))))
  (pss_cons (ps_if (PW.pt (pw_or (pt_cmpR op_ne (pe_callB (call_reprD (k := 0) ⟨go.rm.mono (Nat.zero_le _), go.gd⟩) (by rfl) T.b_repr (by decide +kernel) (pa_cons (pe_g c__law_seen_journal ⟨go.rm, go.gd⟩ (takes_of rfl rfl rfl rfl) (by decide) (pa_cons (pv 5) pa_nil)) pa_nil)) (pe_callB (call_reprD (k := 0) ⟨go.rm.mono (Nat.zero_le _), go.gd⟩) (by rfl) T.b_repr (by decide +kernel) (pa_cons (pv 6) pa_nil)) (nomark _)) (pw_or1 (pt_cmpR op_ne (pe_m0 c_Disk_waiting T.c_Disk ⟨go.rm, go.gd⟩ (takes_of rfl rfl rfl rfl) (by decide) (pv 4)) pe_int (nomark _)))))
  (pss_one (ps_ret pe_bl))
  pss_nil)
  (pss_cons (ps_set (i := 13) sc_law.nd rfl (by first | exact Or.inl rfl | exact Or.inr rfl) (pe_m0 c_Journal_records T.c_Journal ⟨go.rm, go.gd⟩ (takes_of rfl rfl rfl rfl) (by decide) (pv 5)))
  (pss_one (ps_expr (pe_bm PySem.F.plainAttrs_list PySem.F.slot_list_append PySem.F.type_list_append mt_append (pv 13) (pa_cons (pe_tup (pa_cons pe_int (pa_cons pe_str pa_nil))) pa_nil))))))))))
  (pss_one (ps_ret (pe_cmpR op_eq (pe_callB (call_reprD (k := 0) ⟨go.rm.mono (Nat.zero_le _), go.gd⟩) (by rfl) T.b_repr (by decide +kernel) (pa_cons (pe_g c__law_seen_journal ⟨go.rm, go.gd⟩ (takes_of rfl rfl rfl rfl) (by decide) (pa_cons (pe_c c_Journal_init ⟨go.rm, go.gd⟩ (takes_of rfl rfl rfl rfl) (by decide) (pa_cons (pv 4) pa_nil)) pa_nil)) pa_nil)) (pe_callB (call_reprD (k := 0) ⟨go.rm.mono (Nat.zero_le _), go.gd⟩) (by rfl) T.b_repr (by decide +kernel) (pa_cons (pv 6) pa_nil)) (nomark _))))))))))))
theorem ok_law {P : Program} {w : World} {K : PySem.W.Frag} {mg : Str → Option Value} {base : Heap} {A : Adr} (T : Txt K mg A) (c__law_state : GDef P w K mg base 1 "_law_state" (sp__law_state K A)) (c__law_take : GDef P w K mg base 1 "_law_take" (sp__law_take K A)) (c_Disk_init : CDef P w K mg base 1 "Disk" A.Disk (sp_Disk_init K A)) (c_Journal_init : CDef P w K mg base 6 "Journal" A.Journal (sp_Journal_init K A)) (c__law_text_of : GDef P w K mg base 2 "_law_text_of" (sp__law_text_of K A)) (c__law_spilled : GDef P w K mg base 1 "_law_spilled" (sp__law_spilled K A)) (c_Journal_has_room : MDef P w K mg base 2 A.Journal "has_room" (sp_Journal_has_room K A)) (c__law_written : GDef P w K mg base 5 "_law_written" (sp__law_written K A)) (c__law_seen_journal : GDef P w K mg base 2 "_law_seen_journal" (sp__law_seen_journal K A)) (c_Disk_waiting : MDef P w K mg base 1 A.Disk "waiting" (sp_Disk_waiting K A)) (c_Journal_records : MDef P w K mg base 1 A.Journal "records" (sp_Journal_records K A)) {f : Addr} {fd : FuncData} (F : Fun K "law" "law" s_law f fd) : FnG P w K mg base 8 f fd ["_law_script"] (sp_law K A) :=
  okG F sc_law len_law fun cdv Ar outer s H vs Q E go h => ⟨_, d_law T c__law_state c__law_take c_Disk_init c_Journal_init c__law_text_of c__law_spilled c_Journal_has_room c__law_written c__law_seen_journal c_Disk_waiting c_Journal_records go, pure_law T.pure vs H Q E h⟩


end U

set_option Elab.async false
set_option linter.all false
set_option maxRecDepth 100000
set_option maxHeartbeats 4000000
namespace U
open PySem PySem.Spec PyProof.Rows L2 HandSPX
theorem kit_no {K : PySem.W.Frag} {D C : Addr} (h : PySem.W.subIn K (.ref D) (.ref C) = some false) (h0 : PySem.W.subIn K (.ref C) (.ref C) = some true) (hd : PySem.W.hasDictIn K C = true) (ht : PySem.W.typeIn K (.ref C) = some (.type "type")) :
    PySem.W.kitOne K (.ref D) (.ref C) = some false := by
  by_cases e : D = C
  · subst e
    rw [h] at h0
    cases h0
  · obtain ⟨cd, hc, _⟩ := PySem.W.any_some hd
    have e1 : (Value.ref D == Value.ref C) = false := by simpa using e
    have e2 : ((PySem.W.clsIn K C).isSome && PySem.W.typeIn K (.ref C) == some (.type "type")) = true := by rw [hc, ht] <;> rfl
    show (if (Value.ref D == Value.ref C) = true then some true else (if ((PySem.W.clsIn K C).isSome && PySem.W.typeIn K (.ref C) == some (.type "type")) = true then PySem.W.subIn K (.ref D) (.ref C) else none)) = some false
    rw [e1, if_neg Bool.false_ne_true, if_pos e2]
    exact h
abbrev sx_BadBlock : Stmt := (inClass (top 3) 0)
theorem scx_BadBlock : FnScope ["self", "index"] ["self", "index"] (defScope sx_BadBlock) := ⟨rfl, rfl, rfl, by decide +kernel, rfl, by decide +kernel, by decide +kernel⟩
theorem okx_BadBlock {P : Program} {w : World} {K : PySem.W.Frag} {mg : Str → Option Value} {base : Heap} {C : Addr} (O : OexC K C) (no : PySem.W.findIn K (.ref C) "index" = some none) {f : Addr} {fd : FuncData} (F : Fun K "__init__" "BadBlock.__init__" sx_BadBlock f fd) : FnOk P w K mg base CX0 1 f fd ["self", "index"] (spX1 K C "index") :=
  F.ok scx_BadBlock (fun vs H Q E h => by obtain ⟨a, v, rfl, _⟩ := h; rfl) fun cdv A outer s H vs Q E hr h => by
    obtain ⟨a, v, rfl, ha, k⟩ := h
    exact ⟨_, pss_one (ps_ost (pv 0) (pv 1)), _, rfl, _, rfl, a, C, rfl, O, no, .inl ⟨ha, fun dx hd hne => k dx hd hne⟩⟩
theorem all_mk {P : Program} {w : World} {K : PySem.W.Frag} {h : Heap} {mg : Str → Option Value} {fa : Addr} (X : K.In h) (G : h.Ns mainGlobals mg) (hfa : mg "law" = some (.ref fa)) {C0 C1 C2 C3 C4 C5 : Addr}
    {tk_DIGITS : Tok}
    {tk_MOST_CHARACTERS : Tok}
    {tk_PIECE : Tok}
    {tk_ROOT_WORD : Tok}
    {f0 : Addr} {od0 an0 : Option Addr} {sl0 : Array (Option Value)} {oc0 kV0 dc0 pm0 cd0 ct0 : Value}
    {nm0 q0 : Str} {N0 : Addr} {bs0 sub0 : List Value} {sn0 : List Str} {ab0 : Bool} {col0 : Option Bool} {dd0 : Option Addr} {ma0 mb0 mc0 md0 me0 : Option Value}
    {f1 : Addr} {od1 an1 : Option Addr} {sl1 : Array (Option Value)} {oc1 kV1 dc1 pm1 cd1 ct1 : Value}
    {f2 : Addr} {od2 an2 : Option Addr} {sl2 : Array (Option Value)} {oc2 kV2 dc2 pm2 cd2 ct2 : Value}
    {f3 : Addr} {od3 an3 : Option Addr} {sl3 : Array (Option Value)} {oc3 kV3 dc3 pm3 cd3 ct3 : Value}
    {f4 : Addr} {od4 an4 : Option Addr} {sl4 : Array (Option Value)} {oc4 kV4 dc4 pm4 cd4 ct4 : Value}
    {f5 : Addr} {od5 an5 : Option Addr} {sl5 : Array (Option Value)} {oc5 kV5 dc5 pm5 cd5 ct5 : Value}
    {f6 : Addr} {od6 an6 : Option Addr} {sl6 : Array (Option Value)} {oc6 kV6 dc6 pm6 cd6 ct6 : Value}
    {f7 : Addr} {od7 an7 : Option Addr} {sl7 : Array (Option Value)} {oc7 kV7 dc7 pm7 cd7 ct7 : Value}
    {f8 : Addr} {od8 an8 : Option Addr} {sl8 : Array (Option Value)} {oc8 kV8 dc8 pm8 cd8 ct8 : Value}
    {f9 : Addr} {od9 an9 : Option Addr} {sl9 : Array (Option Value)} {oc9 kV9 dc9 pm9 cd9 ct9 : Value}
    {f10 : Addr} {od10 an10 : Option Addr} {sl10 : Array (Option Value)} {oc10 kV10 dc10 pm10 cd10 ct10 : Value}
    {f11 : Addr} {od11 an11 : Option Addr} {sl11 : Array (Option Value)} {oc11 kV11 dc11 pm11 cd11 ct11 : Value}
    {f12 : Addr} {od12 an12 : Option Addr} {sl12 : Array (Option Value)} {oc12 kV12 dc12 pm12 cd12 ct12 : Value}
    {f13 : Addr} {od13 an13 : Option Addr} {sl13 : Array (Option Value)} {oc13 kV13 dc13 pm13 cd13 ct13 : Value}
    {f14 : Addr} {od14 an14 : Option Addr} {sl14 : Array (Option Value)} {oc14 kV14 dc14 pm14 cd14 ct14 : Value}
    {f15 : Addr} {od15 an15 : Option Addr} {sl15 : Array (Option Value)} {oc15 kV15 dc15 pm15 cd15 ct15 : Value}
    {f16 : Addr} {od16 an16 : Option Addr} {sl16 : Array (Option Value)} {oc16 kV16 dc16 pm16 cd16 ct16 : Value}
    {f17 : Addr} {od17 an17 : Option Addr} {sl17 : Array (Option Value)} {oc17 kV17 dc17 pm17 cd17 ct17 : Value}
    {f18 : Addr} {od18 an18 : Option Addr} {sl18 : Array (Option Value)} {oc18 kV18 dc18 pm18 cd18 ct18 : Value}
    {f19 : Addr} {od19 an19 : Option Addr} {sl19 : Array (Option Value)} {oc19 kV19 dc19 pm19 cd19 ct19 : Value}
    {f20 : Addr} {od20 an20 : Option Addr} {sl20 : Array (Option Value)} {oc20 kV20 dc20 pm20 cd20 ct20 : Value}
    {f21 : Addr} {od21 an21 : Option Addr} {sl21 : Array (Option Value)} {oc21 kV21 dc21 pm21 cd21 ct21 : Value}
    {f22 : Addr} {od22 an22 : Option Addr} {sl22 : Array (Option Value)} {oc22 kV22 dc22 pm22 cd22 ct22 : Value}
    {f23 : Addr} {od23 an23 : Option Addr} {sl23 : Array (Option Value)} {oc23 kV23 dc23 pm23 cd23 ct23 : Value}
    {f24 : Addr} {od24 an24 : Option Addr} {sl24 : Array (Option Value)} {oc24 kV24 dc24 pm24 cd24 ct24 : Value}
    {f25 : Addr} {od25 an25 : Option Addr} {sl25 : Array (Option Value)} {oc25 kV25 dc25 pm25 cd25 ct25 : Value}
    {f26 : Addr} {od26 an26 : Option Addr} {sl26 : Array (Option Value)} {oc26 kV26 dc26 pm26 cd26 ct26 : Value}
    (aC_DatabaseError : PySem.W.nsIn K mainGlobals "DatabaseError" = some (some (.ref C0)))
    (aC_BadBlock : PySem.W.nsIn K mainGlobals "BadBlock" = some (some (.ref C1)))
    (aC_DiskFull : PySem.W.nsIn K mainGlobals "DiskFull" = some (some (.ref C2)))
    (aC_PowerLost : PySem.W.nsIn K mainGlobals "PowerLost" = some (some (.ref C3)))
    (aC_Journal : PySem.W.nsIn K mainGlobals "Journal" = some (some (.ref C4)))
    (aC_Disk : PySem.W.nsIn K mainGlobals "Disk" = some (some (.ref C5)))
    (pg_Disk : PySem.W.plainGet K C5 Str.empty = true)
    (hd_Disk : PySem.W.hasDictIn K C5 = true)
    (po_Disk : PySem.W.plainOver K C5 = true)
    (sa_Disk : PySem.W.findIn K (.ref C5) "__setattr__" = some (some (.builtin "object.__setattr__")))
    (z_n_Disk_size : PySem.W.findIn K (.ref C5) "size" = some none)
    (z_n_Disk_blocks : PySem.W.findIn K (.ref C5) "blocks" = some none)
    (z_n_Disk_queue : PySem.W.findIn K (.ref C5) "queue" = some none)
    (z_n_Disk_left : PySem.W.findIn K (.ref C5) "left" = some none)
    (z_n_Disk_down : PySem.W.findIn K (.ref C5) "down" = some none)
    (pg_Journal : PySem.W.plainGet K C4 Str.empty = true)
    (hd_Journal : PySem.W.hasDictIn K C4 = true)
    (po_Journal : PySem.W.plainOver K C4 = true)
    (sa_Journal : PySem.W.findIn K (.ref C4) "__setattr__" = some (some (.builtin "object.__setattr__")))
    (z_n_Journal_disk : PySem.W.findIn K (.ref C4) "disk" = some none)
    (z_n_Journal_area : PySem.W.findIn K (.ref C4) "area" = some none)
    (z_n_Journal_first : PySem.W.findIn K (.ref C4) "first" = some none)
    (z_n_Journal_next : PySem.W.findIn K (.ref C4) "next" = some none)
    (z_n_Journal_generation : PySem.W.findIn K (.ref C4) "generation" = some none)
    (z_n_Journal_number : PySem.W.findIn K (.ref C4) "number" = some none)
    (z_n_Journal_image_number : PySem.W.findIn K (.ref C4) "image_number" = some none)
    (z_n_Journal_image : PySem.W.findIn K (.ref C4) "image" = some none)
    (z_n_Journal_kept : PySem.W.findIn K (.ref C4) "kept" = some none)
    (sub_DiskFull_DiskFull : PySem.W.subIn K (.ref C2) (.ref C2) = some true)
    (bP_DiskFull : PySem.W.subIn K (.ref C2) (.type "BaseException") = some true)
    (hd_DiskFull : PySem.W.hasDictIn K C2 = true)
    (tP_DiskFull : PySem.W.typeIn K (.ref C2) = some (.type "type"))
    (z_i_DiskFull_DatabaseError : PySem.W.isIn K (.ref C2) C0 = true)
    (sub_DiskFull_PowerLost : PySem.W.subIn K (.ref C2) (.ref C3) = some false)
    (sub_PowerLost_PowerLost : PySem.W.subIn K (.ref C3) (.ref C3) = some true)
    (hd_PowerLost : PySem.W.hasDictIn K C3 = true)
    (tP_PowerLost : PySem.W.typeIn K (.ref C3) = some (.type "type"))
    (z_b_abs : PySem.W.nsIn K mainGlobals "abs" = some none)
    (z_b_all : PySem.W.nsIn K mainGlobals "all" = some none)
    (z_b_int : PySem.W.nsIn K mainGlobals "int" = some none)
    (z_b_isinstance : PySem.W.nsIn K mainGlobals "isinstance" = some none)
    (z_b_len : PySem.W.nsIn K mainGlobals "len" = some none)
    (z_b_list : PySem.W.nsIn K mainGlobals "list" = some none)
    (z_b_max : PySem.W.nsIn K mainGlobals "max" = some none)
    (z_b_ord : PySem.W.nsIn K mainGlobals "ord" = some none)
    (z_b_range : PySem.W.nsIn K mainGlobals "range" = some none)
    (z_b_repr : PySem.W.nsIn K mainGlobals "repr" = some none)
    (z_b_str : PySem.W.nsIn K mainGlobals "str" = some none)
    (xP_DiskFull : PySem.W.excIn K C2 [.type "ValueError", .type "Exception", .type "BaseException", .type "object"] "ValueError.__new__" = true)
    (kC_DiskFull : PySem.W.keepIn K (.ref C2) = true)
    (xP_PowerLost : PySem.W.excIn K C3 [.type "ValueError", .type "Exception", .type "BaseException", .type "object"] "ValueError.__new__" = true)
    (kC_PowerLost : PySem.W.keepIn K (.ref C3) = true)
    (bP_PowerLost : PySem.W.subIn K (.ref C3) (.type "BaseException") = some true)
    (ga_DiskFull : PySem.W.findIn K (.ref C2) "__getattribute__" = some (some (.builtin "BaseException.__getattribute__")))
    (gg_DiskFull : PySem.W.findIn K (.ref C2) "__getattr__" = some none)
    (ha_DiskFull : PySem.W.findIn K (.ref C2) "__class__" = some (some (.builtin "object.__class__")))
    (hn_x : PySem.W.specialIn K (.builtin "object.__class__") "__get__" = some (some (.builtin "getset_descriptor.__get__")))
    (ht_x : PySem.W.takesIn K (.builtin "object.__class__") = some true)
    (hm_DiskFull : PySem.W.mroIn K C2 (.type "object") = some true)
    (z_k_DIGITS : PySem.W.nsIn K mainGlobals "DIGITS" = some (some (.str "0123456789" tk_DIGITS)))
    (z_k_MOST_CHARACTERS : PySem.W.nsIn K mainGlobals "MOST_CHARACTERS" = some (some (.int 64 tk_MOST_CHARACTERS)))
    (z_k_PIECE : PySem.W.nsIn K mainGlobals "PIECE" = some (some (.int 32 tk_PIECE)))
    (z_k_ROOT_WORD : PySem.W.nsIn K mainGlobals "ROOT_WORD" = some (some (.str "root " tk_ROOT_WORD)))
    (a0 : PySem.W.findIn K (.ref C1) "__init__" = some (some (.ref f0)))
    (i0 : PySem.W.isFn K (.ref f0) = true)
    (l0 : K.lookup f0 = some ⟨oc0, od0, .func (PySem.W.fnOf "__init__" "BadBlock.__init__" (defArgs sx_BadBlock) (defBody sx_BadBlock) (defScope sx_BadBlock) .none kV0 dc0 pm0 an0 cd0 ct0), sl0⟩)
    (c0 : PySem.W.codeIn K cd0 "BadBlock.__init__" = true)
    (k0 : PySem.W.keepIn K (.ref f0) = true)
    (ti0 : PySem.W.typeIn K (.ref f0) = some (.type "function"))
    (z_xn_BadBlock_index : PySem.W.findIn K (.ref C1) "index" = some none)
    (xL_BadBlock : K.lookup C1 = some (excClassObj nm0 q0 C1 N0 bs0 [.ref C0, .type "ValueError", .type "Exception", .type "BaseException", .type "object"] true sn0 sub0 ab0 col0 dd0 ma0 mb0 mc0 md0 me0 "ValueError.__new__"))
    (sa_BadBlock : PySem.W.findIn K (.ref C1) "__setattr__" = some (some (.builtin "object.__setattr__")))
    (bP_BadBlock : PySem.W.subIn K (.ref C1) (.type "BaseException") = some true)
    (tP_BadBlock : PySem.W.typeIn K (.ref C1) = some (.type "type"))
    (kC_BadBlock : PySem.W.keepIn K (.ref C1) = true)
    (a1 : PySem.W.nsIn K mainGlobals "is_block_text" = some (some (.ref f1)))
    (l1 : K.lookup f1 = some ⟨oc1, od1, .func (PySem.W.fnOf "is_block_text" "is_block_text" (defArgs s_is_block_text) (defBody s_is_block_text) (defScope s_is_block_text) .none kV1 dc1 pm1 an1 cd1 ct1), sl1⟩)
    (c1 : PySem.W.codeIn K cd1 "is_block_text" = true)
    (k1 : PySem.W.keepIn K (.ref f1) = true)
    (a2 : PySem.W.findIn K (.ref C5) "__init__" = some (some (.ref f2)))
    (i2 : PySem.W.isFn K (.ref f2) = true)
    (l2 : K.lookup f2 = some ⟨oc2, od2, .func (PySem.W.fnOf "__init__" "Disk.__init__" (defArgs s_Disk_init) (defBody s_Disk_init) (defScope s_Disk_init) .none kV2 dc2 pm2 an2 cd2 ct2), sl2⟩)
    (c2 : PySem.W.codeIn K cd2 "Disk.__init__" = true)
    (k2 : PySem.W.keepIn K (.ref f2) = true)
    (mk_Disk : PySem.W.makesIn K C5 = true)
    (kC_Disk : PySem.W.keepIn K (.ref C5) = true)
    (a3 : PySem.W.findIn K (.ref C5) "spend" = some (some (.ref f3)))
    (i3 : PySem.W.isFn K (.ref f3) = true)
    (l3 : K.lookup f3 = some ⟨oc3, od3, .func (PySem.W.fnOf "spend" "Disk.spend" (defArgs s_Disk_spend) (defBody s_Disk_spend) (defScope s_Disk_spend) .none kV3 dc3 pm3 an3 cd3 ct3), sl3⟩)
    (c3 : PySem.W.codeIn K cd3 "Disk.spend" = true)
    (k3 : PySem.W.keepIn K (.ref f3) = true)
    (a4 : PySem.W.findIn K (.ref C5) "block" = some (some (.ref f4)))
    (i4 : PySem.W.isFn K (.ref f4) = true)
    (l4 : K.lookup f4 = some ⟨oc4, od4, .func (PySem.W.fnOf "block" "Disk.block" (defArgs s_Disk_block) (defBody s_Disk_block) (defScope s_Disk_block) .none kV4 dc4 pm4 an4 cd4 ct4), sl4⟩)
    (c4 : PySem.W.codeIn K cd4 "Disk.block" = true)
    (k4 : PySem.W.keepIn K (.ref f4) = true)
    (a5 : PySem.W.findIn K (.ref C5) "write" = some (some (.ref f5)))
    (i5 : PySem.W.isFn K (.ref f5) = true)
    (l5 : K.lookup f5 = some ⟨oc5, od5, .func (PySem.W.fnOf "write" "Disk.write" (defArgs s_Disk_write) (defBody s_Disk_write) (defScope s_Disk_write) .none kV5 dc5 pm5 an5 cd5 ct5), sl5⟩)
    (c5 : PySem.W.codeIn K cd5 "Disk.write" = true)
    (k5 : PySem.W.keepIn K (.ref f5) = true)
    (a6 : PySem.W.findIn K (.ref C5) "sync" = some (some (.ref f6)))
    (i6 : PySem.W.isFn K (.ref f6) = true)
    (l6 : K.lookup f6 = some ⟨oc6, od6, .func (PySem.W.fnOf "sync" "Disk.sync" (defArgs s_Disk_sync) (defBody s_Disk_sync) (defScope s_Disk_sync) .none kV6 dc6 pm6 an6 cd6 ct6), sl6⟩)
    (c6 : PySem.W.codeIn K cd6 "Disk.sync" = true)
    (k6 : PySem.W.keepIn K (.ref f6) = true)
    (a7 : PySem.W.findIn K (.ref C5) "waiting" = some (some (.ref f7)))
    (i7 : PySem.W.isFn K (.ref f7) = true)
    (l7 : K.lookup f7 = some ⟨oc7, od7, .func (PySem.W.fnOf "waiting" "Disk.waiting" (defArgs s_Disk_waiting) (defBody s_Disk_waiting) (defScope s_Disk_waiting) .none kV7 dc7 pm7 an7 cd7 ct7), sl7⟩)
    (c7 : PySem.W.codeIn K cd7 "Disk.waiting" = true)
    (k7 : PySem.W.keepIn K (.ref f7) = true)
    (a8 : PySem.W.nsIn K mainGlobals "record_blocks" = some (some (.ref f8)))
    (l8 : K.lookup f8 = some ⟨oc8, od8, .func (PySem.W.fnOf "record_blocks" "record_blocks" (defArgs s_record_blocks) (defBody s_record_blocks) (defScope s_record_blocks) .none kV8 dc8 pm8 an8 cd8 ct8), sl8⟩)
    (c8 : PySem.W.codeIn K cd8 "record_blocks" = true)
    (k8 : PySem.W.keepIn K (.ref f8) = true)
    (a9 : PySem.W.nsIn K mainGlobals "read_number" = some (some (.ref f9)))
    (l9 : K.lookup f9 = some ⟨oc9, od9, .func (PySem.W.fnOf "read_number" "read_number" (defArgs s_read_number) (defBody s_read_number) (defScope s_read_number) .none kV9 dc9 pm9 an9 cd9 ct9), sl9⟩)
    (c9 : PySem.W.codeIn K cd9 "read_number" = true)
    (k9 : PySem.W.keepIn K (.ref f9) = true)
    (a10 : PySem.W.nsIn K mainGlobals "read_block" = some (some (.ref f10)))
    (l10 : K.lookup f10 = some ⟨oc10, od10, .func (PySem.W.fnOf "read_block" "read_block" (defArgs s_read_block) (defBody s_read_block) (defScope s_read_block) .none kV10 dc10 pm10 an10 cd10 ct10), sl10⟩)
    (c10 : PySem.W.codeIn K cd10 "read_block" = true)
    (k10 : PySem.W.keepIn K (.ref f10) = true)
    (a11 : PySem.W.findIn K (.ref C4) "area_of" = some (some (.ref f11)))
    (i11 : PySem.W.isFn K (.ref f11) = true)
    (l11 : K.lookup f11 = some ⟨oc11, od11, .func (PySem.W.fnOf "area_of" "Journal.area_of" (defArgs s_Journal_area_of) (defBody s_Journal_area_of) (defScope s_Journal_area_of) .none kV11 dc11 pm11 an11 cd11 ct11), sl11⟩)
    (c11 : PySem.W.codeIn K cd11 "Journal.area_of" = true)
    (k11 : PySem.W.keepIn K (.ref f11) = true)
    (a12 : PySem.W.findIn K (.ref C4) "read_record" = some (some (.ref f12)))
    (i12 : PySem.W.isFn K (.ref f12) = true)
    (l12 : K.lookup f12 = some ⟨oc12, od12, .func (PySem.W.fnOf "read_record" "Journal.read_record" (defArgs s_Journal_read_record) (defBody s_Journal_read_record) (defScope s_Journal_read_record) .none kV12 dc12 pm12 an12 cd12 ct12), sl12⟩)
    (c12 : PySem.W.codeIn K cd12 "Journal.read_record" = true)
    (k12 : PySem.W.keepIn K (.ref f12) = true)
    (a13 : PySem.W.findIn K (.ref C4) "empty_rest" = some (some (.ref f13)))
    (i13 : PySem.W.isFn K (.ref f13) = true)
    (l13 : K.lookup f13 = some ⟨oc13, od13, .func (PySem.W.fnOf "empty_rest" "Journal.empty_rest" (defArgs s_Journal_empty_rest) (defBody s_Journal_empty_rest) (defScope s_Journal_empty_rest) .none kV13 dc13 pm13 an13 cd13 ct13), sl13⟩)
    (c13 : PySem.W.codeIn K cd13 "Journal.empty_rest" = true)
    (k13 : PySem.W.keepIn K (.ref f13) = true)
    (a14 : PySem.W.findIn K (.ref C4) "recover" = some (some (.ref f14)))
    (i14 : PySem.W.isFn K (.ref f14) = true)
    (l14 : K.lookup f14 = some ⟨oc14, od14, .func (PySem.W.fnOf "recover" "Journal.recover" (defArgs s_Journal_recover) (defBody s_Journal_recover) (defScope s_Journal_recover) .none kV14 dc14 pm14 an14 cd14 ct14), sl14⟩)
    (c14 : PySem.W.codeIn K cd14 "Journal.recover" = true)
    (k14 : PySem.W.keepIn K (.ref f14) = true)
    (a15 : PySem.W.findIn K (.ref C4) "__init__" = some (some (.ref f15)))
    (i15 : PySem.W.isFn K (.ref f15) = true)
    (l15 : K.lookup f15 = some ⟨oc15, od15, .func (PySem.W.fnOf "__init__" "Journal.__init__" (defArgs s_Journal_init) (defBody s_Journal_init) (defScope s_Journal_init) .none kV15 dc15 pm15 an15 cd15 ct15), sl15⟩)
    (c15 : PySem.W.codeIn K cd15 "Journal.__init__" = true)
    (k15 : PySem.W.keepIn K (.ref f15) = true)
    (mk_Journal : PySem.W.makesIn K C4 = true)
    (kC_Journal : PySem.W.keepIn K (.ref C4) = true)
    (a16 : PySem.W.findIn K (.ref C4) "records" = some (some (.ref f16)))
    (i16 : PySem.W.isFn K (.ref f16) = true)
    (l16 : K.lookup f16 = some ⟨oc16, od16, .func (PySem.W.fnOf "records" "Journal.records" (defArgs s_Journal_records) (defBody s_Journal_records) (defScope s_Journal_records) .none kV16 dc16 pm16 an16 cd16 ct16), sl16⟩)
    (c16 : PySem.W.codeIn K cd16 "Journal.records" = true)
    (k16 : PySem.W.keepIn K (.ref f16) = true)
    (a17 : PySem.W.findIn K (.ref C4) "has_room" = some (some (.ref f17)))
    (i17 : PySem.W.isFn K (.ref f17) = true)
    (l17 : K.lookup f17 = some ⟨oc17, od17, .func (PySem.W.fnOf "has_room" "Journal.has_room" (defArgs s_Journal_has_room) (defBody s_Journal_has_room) (defScope s_Journal_has_room) .none kV17 dc17 pm17 an17 cd17 ct17), sl17⟩)
    (c17 : PySem.W.codeIn K cd17 "Journal.has_room" = true)
    (k17 : PySem.W.keepIn K (.ref f17) = true)
    (a18 : PySem.W.findIn K (.ref C4) "write_record" = some (some (.ref f18)))
    (i18 : PySem.W.isFn K (.ref f18) = true)
    (l18 : K.lookup f18 = some ⟨oc18, od18, .func (PySem.W.fnOf "write_record" "Journal.write_record" (defArgs s_Journal_write_record) (defBody s_Journal_write_record) (defScope s_Journal_write_record) .none kV18 dc18 pm18 an18 cd18 ct18), sl18⟩)
    (c18 : PySem.W.codeIn K cd18 "Journal.write_record" = true)
    (k18 : PySem.W.keepIn K (.ref f18) = true)
    (a19 : PySem.W.findIn K (.ref C4) "checkpoint" = some (some (.ref f19)))
    (i19 : PySem.W.isFn K (.ref f19) = true)
    (l19 : K.lookup f19 = some ⟨oc19, od19, .func (PySem.W.fnOf "checkpoint" "Journal.checkpoint" (defArgs s_Journal_checkpoint) (defBody s_Journal_checkpoint) (defScope s_Journal_checkpoint) .none kV19 dc19 pm19 an19 cd19 ct19), sl19⟩)
    (c19 : PySem.W.codeIn K cd19 "Journal.checkpoint" = true)
    (k19 : PySem.W.keepIn K (.ref f19) = true)
    (a20 : PySem.W.nsIn K mainGlobals "_law_state" = some (some (.ref f20)))
    (l20 : K.lookup f20 = some ⟨oc20, od20, .func (PySem.W.fnOf "_law_state" "_law_state" (defArgs s__law_state) (defBody s__law_state) (defScope s__law_state) .none kV20 dc20 pm20 an20 cd20 ct20), sl20⟩)
    (c20 : PySem.W.codeIn K cd20 "_law_state" = true)
    (k20 : PySem.W.keepIn K (.ref f20) = true)
    (a21 : PySem.W.nsIn K mainGlobals "_law_take" = some (some (.ref f21)))
    (l21 : K.lookup f21 = some ⟨oc21, od21, .func (PySem.W.fnOf "_law_take" "_law_take" (defArgs s__law_take) (defBody s__law_take) (defScope s__law_take) .none kV21 dc21 pm21 an21 cd21 ct21), sl21⟩)
    (c21 : PySem.W.codeIn K cd21 "_law_take" = true)
    (k21 : PySem.W.keepIn K (.ref f21) = true)
    (a22 : PySem.W.nsIn K mainGlobals "_law_text_of" = some (some (.ref f22)))
    (l22 : K.lookup f22 = some ⟨oc22, od22, .func (PySem.W.fnOf "_law_text_of" "_law_text_of" (defArgs s__law_text_of) (defBody s__law_text_of) (defScope s__law_text_of) .none kV22 dc22 pm22 an22 cd22 ct22), sl22⟩)
    (c22 : PySem.W.codeIn K cd22 "_law_text_of" = true)
    (k22 : PySem.W.keepIn K (.ref f22) = true)
    (a23 : PySem.W.nsIn K mainGlobals "_law_seen_journal" = some (some (.ref f23)))
    (l23 : K.lookup f23 = some ⟨oc23, od23, .func (PySem.W.fnOf "_law_seen_journal" "_law_seen_journal" (defArgs s__law_seen_journal) (defBody s__law_seen_journal) (defScope s__law_seen_journal) .none kV23 dc23 pm23 an23 cd23 ct23), sl23⟩)
    (c23 : PySem.W.codeIn K cd23 "_law_seen_journal" = true)
    (k23 : PySem.W.keepIn K (.ref f23) = true)
    (a24 : PySem.W.nsIn K mainGlobals "_law_spilled" = some (some (.ref f24)))
    (l24 : K.lookup f24 = some ⟨oc24, od24, .func (PySem.W.fnOf "_law_spilled" "_law_spilled" (defArgs s__law_spilled) (defBody s__law_spilled) (defScope s__law_spilled) .none kV24 dc24 pm24 an24 cd24 ct24), sl24⟩)
    (c24 : PySem.W.codeIn K cd24 "_law_spilled" = true)
    (k24 : PySem.W.keepIn K (.ref f24) = true)
    (a25 : PySem.W.nsIn K mainGlobals "_law_written" = some (some (.ref f25)))
    (l25 : K.lookup f25 = some ⟨oc25, od25, .func (PySem.W.fnOf "_law_written" "_law_written" (defArgs s__law_written) (defBody s__law_written) (defScope s__law_written) .none kV25 dc25 pm25 an25 cd25 ct25), sl25⟩)
    (c25 : PySem.W.codeIn K cd25 "_law_written" = true)
    (k25 : PySem.W.keepIn K (.ref f25) = true)
    (a26 : PySem.W.nsIn K mainGlobals "law" = some (some (.ref f26)))
    (l26 : K.lookup f26 = some ⟨oc26, od26, .func (PySem.W.fnOf "law" "law" (defArgs s_law) (defBody s_law) (defScope s_law) .none kV26 dc26 pm26 an26 cd26 ct26), sl26⟩)
    (c26 : PySem.W.codeIn K cd26 "law" = true)
    (k26 : PySem.W.keepIn K (.ref f26) = true) :
    ∃ (A : Adr) (fd : FuncData), (∀ (s : Shared) (u : Value), BindsTo s fd ⟨[u], []⟩ [("_law_script", u)]) ∧ ∀ base : Heap, K.In base → base.Ns mainGlobals mg → FnG P w K mg base 8 fa fd ["_law_script"] (sp_law K A) := by
  have e := hfa.symm.trans (PySem.W.mg_of X G a26)
  cases e
  obtain ⟨A, hA⟩ : ∃ A : Adr, A = ⟨C0, C1, C2, C3, C4, C5⟩ := ⟨_, rfl⟩
  have T : Txt K mg A := by
    subst hA
    exact ⟨⟨⟨pg_Disk, hd_Disk, po_Disk, sa_Disk⟩, z_n_Disk_size, z_n_Disk_blocks, z_n_Disk_queue, z_n_Disk_left, z_n_Disk_down, ⟨pg_Journal, hd_Journal, po_Journal, sa_Journal⟩, z_n_Journal_disk, z_n_Journal_area, z_n_Journal_first, z_n_Journal_next, z_n_Journal_generation, z_n_Journal_number, z_n_Journal_image_number, z_n_Journal_image, z_n_Journal_kept, (PySem.W.exm_ref bP_DiskFull hd_DiskFull tP_DiskFull sub_DiskFull_DiskFull), z_i_DiskFull_DatabaseError, (kit_no sub_DiskFull_PowerLost sub_PowerLost_PowerLost hd_PowerLost tP_PowerLost)⟩, (PySem.W.mg_none_of X G z_b_abs), (PySem.W.mg_none_of X G z_b_all), (PySem.W.mg_none_of X G z_b_int), (PySem.W.mg_none_of X G z_b_isinstance), (PySem.W.mg_none_of X G z_b_len), (PySem.W.mg_none_of X G z_b_list), (PySem.W.mg_none_of X G z_b_max), (PySem.W.mg_none_of X G z_b_ord), (PySem.W.mg_none_of X G z_b_range), (PySem.W.mg_none_of X G z_b_repr), (PySem.W.mg_none_of X G z_b_str), ⟨PySem.W.mg_of X G aC_DiskFull, xP_DiskFull, kC_DiskFull, bP_DiskFull, tP_DiskFull⟩, ⟨PySem.W.mg_of X G aC_PowerLost, xP_PowerLost, kC_PowerLost, bP_PowerLost, tP_PowerLost⟩, ⟨ga_DiskFull, gg_DiskFull, bP_DiskFull, hd_DiskFull, ha_DiskFull, hn_x, ht_x, hm_DiskFull⟩, (PySem.W.mg_of X G aC_DiskFull), ⟨_, PySem.W.mg_of X G z_k_DIGITS, ⟨_, rfl⟩⟩, ⟨_, PySem.W.mg_of X G aC_DatabaseError, rfl⟩, ⟨_, PySem.W.mg_of X G z_k_MOST_CHARACTERS, ⟨_, rfl⟩⟩, ⟨_, PySem.W.mg_of X G z_k_PIECE, ⟨_, rfl⟩⟩, ⟨_, PySem.W.mg_of X G aC_PowerLost, rfl⟩, ⟨_, PySem.W.mg_of X G z_k_ROOT_WORD, ⟨_, rfl⟩⟩⟩
  have F0 := fun_mk (st := sx_BadBlock) l0 c0 k0
  have b0 := F0.binds (ps := ["self", "index"]) fun _ _ _ _ _ _ us hl => match us, hl with | [_, _], _ => rfl
  have O0 : OexC K C1 := ⟨⟨_, _, _, _, _, _, _, _, _, _, _, _, _, _, _, xL_BadBlock, (by first | rfl | decide +kernel)⟩, sa_BadBlock, bP_BadBlock, tP_BadBlock, kC_BadBlock⟩
  have F1 := fun_mk (st := s_is_block_text) l1 c1 k1
  have b1 := F1.binds (ps := ["text"]) fun _ _ _ _ _ _ us hl => match us, hl with | [_], _ => rfl
  have F2 := fun_mk (st := s_Disk_init) l2 c2 k2
  have b2 := F2.binds (ps := ["self", "size"]) fun _ _ _ _ _ _ us hl => match us, hl with | [_, _], _ => rfl
  have F3 := fun_mk (st := s_Disk_spend) l3 c3 k3
  have b3 := F3.binds (ps := ["self"]) fun _ _ _ _ _ _ us hl => match us, hl with | [_], _ => rfl
  have F4 := fun_mk (st := s_Disk_block) l4 c4 k4
  have b4 := F4.binds (ps := ["self", "index"]) fun _ _ _ _ _ _ us hl => match us, hl with | [_, _], _ => rfl
  have F5 := fun_mk (st := s_Disk_write) l5 c5 k5
  have b5 := F5.binds (ps := ["self", "index", "text"]) fun _ _ _ _ _ _ us hl => match us, hl with | [_, _, _], _ => rfl
  have F6 := fun_mk (st := s_Disk_sync) l6 c6 k6
  have b6 := F6.binds (ps := ["self"]) fun _ _ _ _ _ _ us hl => match us, hl with | [_], _ => rfl
  have F7 := fun_mk (st := s_Disk_waiting) l7 c7 k7
  have b7 := F7.binds (ps := ["self"]) fun _ _ _ _ _ _ us hl => match us, hl with | [_], _ => rfl
  have F8 := fun_mk (st := s_record_blocks) l8 c8 k8
  have b8 := F8.binds (ps := ["generation", "number", "text"]) fun _ _ _ _ _ _ us hl => match us, hl with | [_, _, _], _ => rfl
  have F9 := fun_mk (st := s_read_number) l9 c9 k9
  have b9 := F9.binds (ps := ["word"]) fun _ _ _ _ _ _ us hl => match us, hl with | [_], _ => rfl
  have F10 := fun_mk (st := s_read_block) l10 c10 k10
  have b10 := F10.binds (ps := ["text"]) fun _ _ _ _ _ _ us hl => match us, hl with | [_], _ => rfl
  have F11 := fun_mk (st := s_Journal_area_of) l11 c11 k11
  have b11 := F11.binds (ps := ["self", "generation"]) fun _ _ _ _ _ _ us hl => match us, hl with | [_, _], _ => rfl
  have F12 := fun_mk (st := s_Journal_read_record) l12 c12 k12
  have b12 := F12.binds (ps := ["self", "start", "end", "generation"]) fun _ _ _ _ _ _ us hl => match us, hl with | [_, _, _, _], _ => rfl
  have F13 := fun_mk (st := s_Journal_empty_rest) l13 c13 k13
  have b13 := F13.binds (ps := ["self"]) fun _ _ _ _ _ _ us hl => match us, hl with | [_], _ => rfl
  have F14 := fun_mk (st := s_Journal_recover) l14 c14 k14
  have b14 := F14.binds (ps := ["self"]) fun _ _ _ _ _ _ us hl => match us, hl with | [_], _ => rfl
  have F15 := fun_mk (st := s_Journal_init) l15 c15 k15
  have b15 := F15.binds (ps := ["self", "disk"]) fun _ _ _ _ _ _ us hl => match us, hl with | [_, _], _ => rfl
  have F16 := fun_mk (st := s_Journal_records) l16 c16 k16
  have b16 := F16.binds (ps := ["self"]) fun _ _ _ _ _ _ us hl => match us, hl with | [_], _ => rfl
  have F17 := fun_mk (st := s_Journal_has_room) l17 c17 k17
  have b17 := F17.binds (ps := ["self", "text"]) fun _ _ _ _ _ _ us hl => match us, hl with | [_, _], _ => rfl
  have F18 := fun_mk (st := s_Journal_write_record) l18 c18 k18
  have b18 := F18.binds (ps := ["self", "text"]) fun _ _ _ _ _ _ us hl => match us, hl with | [_, _], _ => rfl
  have F19 := fun_mk (st := s_Journal_checkpoint) l19 c19 k19
  have b19 := F19.binds (ps := ["self", "text"]) fun _ _ _ _ _ _ us hl => match us, hl with | [_, _], _ => rfl
  have F20 := fun_mk (st := s__law_state) l20 c20 k20
  have b20 := F20.binds (ps := ["_law_script"]) fun _ _ _ _ _ _ us hl => match us, hl with | [_], _ => rfl
  have F21 := fun_mk (st := s__law_take) l21 c21 k21
  have b21 := F21.binds (ps := ["_law_state_here", "_law_many"]) fun _ _ _ _ _ _ us hl => match us, hl with | [_, _], _ => rfl
  have F22 := fun_mk (st := s__law_text_of) l22 c22 k22
  have b22 := F22.binds (ps := ["_law_state_here", "_law_most"]) fun _ _ _ _ _ _ us hl => match us, hl with | [_, _], _ => rfl
  have F23 := fun_mk (st := s__law_seen_journal) l23 c23 k23
  have b23 := F23.binds (ps := ["_law_journal"]) fun _ _ _ _ _ _ us hl => match us, hl with | [_], _ => rfl
  have F24 := fun_mk (st := s__law_spilled) l24 c24 k24
  have b24 := F24.binds (ps := ["_law_text"]) fun _ _ _ _ _ _ us hl => match us, hl with | [_], _ => rfl
  have F25 := fun_mk (st := s__law_written) l25 c25 k25
  have b25 := F25.binds (ps := ["_law_journal", "_law_text", "_law_is_record"]) fun _ _ _ _ _ _ us hl => match us, hl with | [_, _, _], _ => rfl
  have F26 := fun_mk (st := s_law) l26 c26 k26
  have b26 := F26.binds (ps := ["_law_script"]) fun _ _ _ _ _ _ us hl => match us, hl with | [_], _ => rfl
  refine ⟨A, PySem.W.fnOf "law" "law" (defArgs s_law) (defBody s_law) (defScope s_law) .none kV26 dc26 pm26 an26 cd26 ct26, fun s v => .of_eq rfl, fun base _ _ => ?_⟩
  subst hA
  let A : Adr := ⟨C0, C1, C2, C3, C4, C5⟩
  have x_BadBlock : ExcI P w K mg base "BadBlock" C1 (spX1 K C1 "index") := ⟨PySem.W.mg_of X G aC_BadBlock, O0, ⟨_, _, _, a0, ti0, b0, okx_BadBlock O0 z_xn_BadBlock_index F0⟩⟩
  have h1 := ok_is_block_text (P := P) (w := w) (base := base) T F1
  have d_1 : GDef P w K mg base 1 "is_block_text" (sp_is_block_text K A) := ⟨⟨_, _, _, PySem.W.mg_of X G a1, k1, b1, h1⟩⟩
  have h2 := ok_Disk_init (P := P) (w := w) (base := base) T F2
  have d_2 : CDef P w K mg base 1 "Disk" A.Disk (sp_Disk_init K A) := ⟨PySem.W.mg_of X G aC_Disk, ⟨_, _, _, ⟨mk_Disk, a2, i2, kC_Disk⟩, b2, h2⟩⟩
  have h3 := ok_Disk_spend (P := P) (w := w) (base := base) T F3
  have d_3 : MDef P w K mg base 1 A.Disk "spend" (sp_Disk_spend K A) := ⟨⟨_, _, _, ⟨a3, i3, k3⟩, b3, h3⟩⟩
  have h4 := ok_Disk_block (P := P) (w := w) (base := base) T x_BadBlock F4
  have d_4 : MDef P w K mg base 3 A.Disk "block" (sp_Disk_block K A) := ⟨⟨_, _, _, ⟨a4, i4, k4⟩, b4, h4⟩⟩
  have h5 := ok_Disk_write (P := P) (w := w) (base := base) T d_1 x_BadBlock d_3 F5
  have d_5 : MDef P w K mg base 3 A.Disk "write" (sp_Disk_write K A) := ⟨⟨_, _, _, ⟨a5, i5, k5⟩, b5, h5⟩⟩
  have h6 := ok_Disk_sync (P := P) (w := w) (base := base) T d_3 F6
  have d_6 : MDef P w K mg base 2 A.Disk "sync" (sp_Disk_sync K A) := ⟨⟨_, _, _, ⟨a6, i6, k6⟩, b6, h6⟩⟩
  have h7 := ok_Disk_waiting (P := P) (w := w) (base := base) T F7
  have d_7 : MDef P w K mg base 1 A.Disk "waiting" (sp_Disk_waiting K A) := ⟨⟨_, _, _, ⟨a7, i7, k7⟩, b7, h7⟩⟩
  have h8 := ok_record_blocks (P := P) (w := w) (base := base) T F8
  have d_8 : GDef P w K mg base 1 "record_blocks" (sp_record_blocks K A) := ⟨⟨_, _, _, PySem.W.mg_of X G a8, k8, b8, h8⟩⟩
  have h9 := ok_read_number (P := P) (w := w) (base := base) T F9
  have d_9 : GDef P w K mg base 1 "read_number" (sp_read_number K A) := ⟨⟨_, _, _, PySem.W.mg_of X G a9, k9, b9, h9⟩⟩
  have h10 := ok_read_block (P := P) (w := w) (base := base) T d_9 F10
  have d_10 : GDef P w K mg base 2 "read_block" (sp_read_block K A) := ⟨⟨_, _, _, PySem.W.mg_of X G a10, k10, b10, h10⟩⟩
  have h11 := ok_Journal_area_of (P := P) (w := w) (base := base) T F11
  have d_11 : MDef P w K mg base 1 A.Journal "area_of" (sp_Journal_area_of K A) := ⟨⟨_, _, _, ⟨a11, i11, k11⟩, b11, h11⟩⟩
  have h12 := ok_Journal_read_record (P := P) (w := w) (base := base) T d_4 d_10 F12
  have d_12 : MDef P w K mg base 4 A.Journal "read_record" (sp_Journal_read_record K A) := ⟨⟨_, _, _, ⟨a12, i12, k12⟩, b12, h12⟩⟩
  have h13 := ok_Journal_empty_rest (P := P) (w := w) (base := base) T d_4 d_5 d_6 F13
  have d_13 : MDef P w K mg base 4 A.Journal "empty_rest" (sp_Journal_empty_rest K A) := ⟨⟨_, _, _, ⟨a13, i13, k13⟩, b13, h13⟩⟩
  have h14 := ok_Journal_recover (P := P) (w := w) (base := base) T d_4 d_11 d_12 d_13 F14
  have d_14 : MDef P w K mg base 5 A.Journal "recover" (sp_Journal_recover K A) := ⟨⟨_, _, _, ⟨a14, i14, k14⟩, b14, h14⟩⟩
  have h15 := ok_Journal_init (P := P) (w := w) (base := base) T d_14 F15
  have d_15 : CDef P w K mg base 6 "Journal" A.Journal (sp_Journal_init K A) := ⟨PySem.W.mg_of X G aC_Journal, ⟨_, _, _, ⟨mk_Journal, a15, i15, kC_Journal⟩, b15, h15⟩⟩
  have h16 := ok_Journal_records (P := P) (w := w) (base := base) T F16
  have d_16 : MDef P w K mg base 1 A.Journal "records" (sp_Journal_records K A) := ⟨⟨_, _, _, ⟨a16, i16, k16⟩, b16, h16⟩⟩
  have h17 := ok_Journal_has_room (P := P) (w := w) (base := base) T d_8 F17
  have d_17 : MDef P w K mg base 2 A.Journal "has_room" (sp_Journal_has_room K A) := ⟨⟨_, _, _, ⟨a17, i17, k17⟩, b17, h17⟩⟩
  have h18 := ok_Journal_write_record (P := P) (w := w) (base := base) T d_17 d_8 d_5 d_6 F18
  have d_18 : MDef P w K mg base 4 A.Journal "write_record" (sp_Journal_write_record K A) := ⟨⟨_, _, _, ⟨a18, i18, k18⟩, b18, h18⟩⟩
  have h19 := ok_Journal_checkpoint (P := P) (w := w) (base := base) T d_8 d_11 d_5 d_6 F19
  have d_19 : MDef P w K mg base 4 A.Journal "checkpoint" (sp_Journal_checkpoint K A) := ⟨⟨_, _, _, ⟨a19, i19, k19⟩, b19, h19⟩⟩
  have h20 := ok__law_state (P := P) (w := w) (base := base) T F20
  have d_20 : GDef P w K mg base 1 "_law_state" (sp__law_state K A) := ⟨⟨_, _, _, PySem.W.mg_of X G a20, k20, b20, h20⟩⟩
  have h21 := ok__law_take (P := P) (w := w) (base := base) T F21
  have d_21 : GDef P w K mg base 1 "_law_take" (sp__law_take K A) := ⟨⟨_, _, _, PySem.W.mg_of X G a21, k21, b21, h21⟩⟩
  have h22 := ok__law_text_of (P := P) (w := w) (base := base) T d_21 F22
  have d_22 : GDef P w K mg base 2 "_law_text_of" (sp__law_text_of K A) := ⟨⟨_, _, _, PySem.W.mg_of X G a22, k22, b22, h22⟩⟩
  have h23 := ok__law_seen_journal (P := P) (w := w) (base := base) T d_16 F23
  have d_23 : GDef P w K mg base 2 "_law_seen_journal" (sp__law_seen_journal K A) := ⟨⟨_, _, _, PySem.W.mg_of X G a23, k23, b23, h23⟩⟩
  have h24 := ok__law_spilled (P := P) (w := w) (base := base) T F24
  have d_24 : GDef P w K mg base 1 "_law_spilled" (sp__law_spilled K A) := ⟨⟨_, _, _, PySem.W.mg_of X G a24, k24, b24, h24⟩⟩
  have h25 := ok__law_written (P := P) (w := w) (base := base) T d_18 d_19 F25
  have d_25 : GDef P w K mg base 5 "_law_written" (sp__law_written K A) := ⟨⟨_, _, _, PySem.W.mg_of X G a25, k25, b25, h25⟩⟩
  have h26 := ok_law (P := P) (w := w) (base := base) T d_20 d_21 d_2 d_15 d_22 d_24 d_17 d_25 d_23 d_7 d_16 F26
  have d_26 : GDef P w K mg base 8 "law" (sp_law K A) := ⟨⟨_, _, _, PySem.W.mg_of X G a26, k26, b26, h26⟩⟩
  exact h26
theorem all_fin {P : Program} {w : World} {K : PySem.W.Frag} {h : Heap} {mg : Str → Option Value} {fa : Addr} (KX : K.In h)
    (a : ∃ (A : Adr) (fd : FuncData), (∀ (s : Shared) (u : Value), BindsTo s fd ⟨[u], []⟩ [("_law_script", u)]) ∧ ∀ base : Heap, K.In base → base.Ns mainGlobals mg → FnG P w K mg base 8 fa fd ["_law_script"] (sp_law K A)) :
    ∃ (K : PySem.W.Frag) (fd : FuncData), K.In h ∧ (∀ (s : Shared) (u : Value), BindsTo s fd ⟨[u], []⟩ [("_law_script", u)]) ∧ ∀ base : Heap, K.In base → base.Ns mainGlobals mg → FnG P w K mg base 8 fa fd ["_law_script"] (fun vs H Q E => ∀ A, sp_law K A vs H Q E) := by
  obtain ⟨A, fd, hb, hF⟩ := a
  exact ⟨K, fd, KX, hb, fun base hk hn => (hF base hk hn).imp fun vs H Q E h => h A⟩
end U
open PySem PySem.W PyProof.Rows
set_option maxRecDepth 100000 in
set_option maxHeartbeats 0 in
theorem PySem.Challenge.cw_pastamended_k51_records_in_a_journal_holds : PySem.Challenge.rw_pastamended_k51_records_in_a_journal.Holds := by
  w_on; o_law; k_head; (case hw => w_witness2)
  k_fill
  refine U.walk_G (l := PySem.Challenge.rw_pastamended_k51_records_in_a_journal) (n := 63) (k := 8) (sp := fun w K vs H Q E => ∀ A, U.sp_law K A vs H Q E) (x := "_law_script") rfl (by decide) rfl ⟨rfl, by decide, by decide⟩ ?F ?S
  case S => exact fun w K H a ns hl hb hO hS A => ⟨a, ns, rfl, U.SqF.of hO hS, hl, fun _ => rfl⟩
  case F =>
    intro w mg fa h Y G hmg
    have KX := PySem.W.kIn_of Y
    refine' U.all_fin KX (U.all_mk KX G hmg ?aC_DatabaseError ?aC_BadBlock ?aC_DiskFull ?aC_PowerLost ?aC_Journal ?aC_Disk ?pg_Disk ?hd_Disk ?po_Disk ?sa_Disk ?z_n_Disk_size ?z_n_Disk_blocks ?z_n_Disk_queue ?z_n_Disk_left ?z_n_Disk_down ?pg_Journal ?hd_Journal ?po_Journal ?sa_Journal ?z_n_Journal_disk ?z_n_Journal_area ?z_n_Journal_first ?z_n_Journal_next ?z_n_Journal_generation ?z_n_Journal_number ?z_n_Journal_image_number ?z_n_Journal_image ?z_n_Journal_kept ?sub_DiskFull_DiskFull ?bP_DiskFull ?hd_DiskFull ?tP_DiskFull ?z_i_DiskFull_DatabaseError ?sub_DiskFull_PowerLost ?sub_PowerLost_PowerLost ?hd_PowerLost ?tP_PowerLost ?z_b_abs ?z_b_all ?z_b_int ?z_b_isinstance ?z_b_len ?z_b_list ?z_b_max ?z_b_ord ?z_b_range ?z_b_repr ?z_b_str ?xP_DiskFull ?kC_DiskFull ?xP_PowerLost ?kC_PowerLost ?bP_PowerLost ?ga_DiskFull ?gg_DiskFull ?ha_DiskFull ?hn_x ?ht_x ?hm_DiskFull ?z_k_DIGITS ?z_k_MOST_CHARACTERS ?z_k_PIECE ?z_k_ROOT_WORD ?a0 ?i0 ?l0 ?c0 ?k0 ?ti0 ?z_xn_BadBlock_index ?xL_BadBlock ?sa_BadBlock ?bP_BadBlock ?tP_BadBlock ?kC_BadBlock ?a1 ?l1 ?c1 ?k1 ?a2 ?i2 ?l2 ?c2 ?k2 ?mk_Disk ?kC_Disk ?a3 ?i3 ?l3 ?c3 ?k3 ?a4 ?i4 ?l4 ?c4 ?k4 ?a5 ?i5 ?l5 ?c5 ?k5 ?a6 ?i6 ?l6 ?c6 ?k6 ?a7 ?i7 ?l7 ?c7 ?k7 ?a8 ?l8 ?c8 ?k8 ?a9 ?l9 ?c9 ?k9 ?a10 ?l10 ?c10 ?k10 ?a11 ?i11 ?l11 ?c11 ?k11 ?a12 ?i12 ?l12 ?c12 ?k12 ?a13 ?i13 ?l13 ?c13 ?k13 ?a14 ?i14 ?l14 ?c14 ?k14 ?a15 ?i15 ?l15 ?c15 ?k15 ?mk_Journal ?kC_Journal ?a16 ?i16 ?l16 ?c16 ?k16 ?a17 ?i17 ?l17 ?c17 ?k17 ?a18 ?i18 ?l18 ?c18 ?k18 ?a19 ?i19 ?l19 ?c19 ?k19 ?a20 ?l20 ?c20 ?k20 ?a21 ?l21 ?c21 ?k21 ?a22 ?l22 ?c22 ?k22 ?a23 ?l23 ?c23 ?k23 ?a24 ?l24 ?c24 ?k24 ?a25 ?l25 ?c25 ?k25 ?a26 ?l26 ?c26 ?k26)
    (case aC_DatabaseError => k_is)
    (case aC_BadBlock => k_is)
    (case aC_DiskFull => k_is)
    (case aC_PowerLost => k_is)
    (case aC_Journal => k_is)
    (case aC_Disk => k_is)
    (case pg_Disk => k_is)
    (case hd_Disk => k_is)
    (case po_Disk => k_is)
    (case sa_Disk => k_is)
    (case z_n_Disk_size => k_is)
    (case z_n_Disk_blocks => k_is)
    (case z_n_Disk_queue => k_is)
    (case z_n_Disk_left => k_is)
    (case z_n_Disk_down => k_is)
    (case pg_Journal => k_is)
    (case hd_Journal => k_is)
    (case po_Journal => k_is)
    (case sa_Journal => k_is)
    (case z_n_Journal_disk => k_is)
    (case z_n_Journal_area => k_is)
    (case z_n_Journal_first => k_is)
    (case z_n_Journal_next => k_is)
    (case z_n_Journal_generation => k_is)
    (case z_n_Journal_number => k_is)
    (case z_n_Journal_image_number => k_is)
    (case z_n_Journal_image => k_is)
    (case z_n_Journal_kept => k_is)
    (case sub_DiskFull_DiskFull => k_is)
    (case bP_DiskFull => k_is)
    (case hd_DiskFull => k_is)
    (case tP_DiskFull => k_is)
    (case z_i_DiskFull_DatabaseError => k_is)
    (case sub_DiskFull_PowerLost => k_is)
    (case sub_PowerLost_PowerLost => k_is)
    (case hd_PowerLost => k_is)
    (case tP_PowerLost => k_is)
    (case z_b_abs => k_is)
    (case z_b_all => k_is)
    (case z_b_int => k_is)
    (case z_b_isinstance => k_is)
    (case z_b_len => k_is)
    (case z_b_list => k_is)
    (case z_b_max => k_is)
    (case z_b_ord => k_is)
    (case z_b_range => k_is)
    (case z_b_repr => k_is)
    (case z_b_str => k_is)
    (case xP_DiskFull => k_exc)
    (case kC_DiskFull => k_is)
    (case xP_PowerLost => k_exc)
    (case kC_PowerLost => k_is)
    (case bP_PowerLost => k_is)
    (case ga_DiskFull => k_is)
    (case gg_DiskFull => k_is)
    (case ha_DiskFull => k_is)
    (case hn_x => k_is)
    (case ht_x => k_is)
    (case hm_DiskFull => k_is)
    (case z_k_DIGITS => k_is)
    (case z_k_MOST_CHARACTERS => k_is)
    (case z_k_PIECE => k_is)
    (case z_k_ROOT_WORD => k_is)
    (case a0 => k_is)
    (case i0 => k_is)
    (case l0 => k_is)
    (case c0 => k_is)
    (case k0 => k_is)
    (case ti0 => k_is)
    (case z_xn_BadBlock_index => k_is)
    (case xL_BadBlock => k_is)
    (case sa_BadBlock => k_is)
    (case bP_BadBlock => k_is)
    (case tP_BadBlock => k_is)
    (case kC_BadBlock => k_is)
    (case a1 => k_is)
    (case l1 => k_is)
    (case c1 => k_is)
    (case k1 => k_is)
    (case a2 => k_is)
    (case i2 => k_is)
    (case l2 => k_is)
    (case c2 => k_is)
    (case k2 => k_is)
    (case mk_Disk => k_is)
    (case kC_Disk => k_is)
    (case a3 => k_is)
    (case i3 => k_is)
    (case l3 => k_is)
    (case c3 => k_is)
    (case k3 => k_is)
    (case a4 => k_is)
    (case i4 => k_is)
    (case l4 => k_is)
    (case c4 => k_is)
    (case k4 => k_is)
    (case a5 => k_is)
    (case i5 => k_is)
    (case l5 => k_is)
    (case c5 => k_is)
    (case k5 => k_is)
    (case a6 => k_is)
    (case i6 => k_is)
    (case l6 => k_is)
    (case c6 => k_is)
    (case k6 => k_is)
    (case a7 => k_is)
    (case i7 => k_is)
    (case l7 => k_is)
    (case c7 => k_is)
    (case k7 => k_is)
    (case a8 => k_is)
    (case l8 => k_is)
    (case c8 => k_is)
    (case k8 => k_is)
    (case a9 => k_is)
    (case l9 => k_is)
    (case c9 => k_is)
    (case k9 => k_is)
    (case a10 => k_is)
    (case l10 => k_is)
    (case c10 => k_is)
    (case k10 => k_is)
    (case a11 => k_is)
    (case i11 => k_is)
    (case l11 => k_is)
    (case c11 => k_is)
    (case k11 => k_is)
    (case a12 => k_is)
    (case i12 => k_is)
    (case l12 => k_is)
    (case c12 => k_is)
    (case k12 => k_is)
    (case a13 => k_is)
    (case i13 => k_is)
    (case l13 => k_is)
    (case c13 => k_is)
    (case k13 => k_is)
    (case a14 => k_is)
    (case i14 => k_is)
    (case l14 => k_is)
    (case c14 => k_is)
    (case k14 => k_is)
    (case a15 => k_is)
    (case i15 => k_is)
    (case l15 => k_is)
    (case c15 => k_is)
    (case k15 => k_is)
    (case mk_Journal => k_is)
    (case kC_Journal => k_is)
    (case a16 => k_is)
    (case i16 => k_is)
    (case l16 => k_is)
    (case c16 => k_is)
    (case k16 => k_is)
    (case a17 => k_is)
    (case i17 => k_is)
    (case l17 => k_is)
    (case c17 => k_is)
    (case k17 => k_is)
    (case a18 => k_is)
    (case i18 => k_is)
    (case l18 => k_is)
    (case c18 => k_is)
    (case k18 => k_is)
    (case a19 => k_is)
    (case i19 => k_is)
    (case l19 => k_is)
    (case c19 => k_is)
    (case k19 => k_is)
    (case a20 => k_is)
    (case l20 => k_is)
    (case c20 => k_is)
    (case k20 => k_is)
    (case a21 => k_is)
    (case l21 => k_is)
    (case c21 => k_is)
    (case k21 => k_is)
    (case a22 => k_is)
    (case l22 => k_is)
    (case c22 => k_is)
    (case k22 => k_is)
    (case a23 => k_is)
    (case l23 => k_is)
    (case c23 => k_is)
    (case k23 => k_is)
    (case a24 => k_is)
    (case l24 => k_is)
    (case c24 => k_is)
    (case k24 => k_is)
    (case a25 => k_is)
    (case l25 => k_is)
    (case c25 => k_is)
    (case k25 => k_is)
    (case a26 => k_is)
    (case l26 => k_is)
    (case c26 => k_is)
    (case k26 => k_is)



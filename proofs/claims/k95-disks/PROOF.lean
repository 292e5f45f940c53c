import PyProof.Rows.All
import Wide.All
import OpenK.AllK
import Wide.FinOn
import HandS.ForMost
import HandS.ForExc
import HandS.TryMany
import HandS.ExcInit
import HandS.ExcField
import HandS.ExcIs
import HandS.IsInst
import HandS.CallSlots
import HandS.WordsExc
import HandS.ClsMeth
import HandS.MakeKwOnly
import HandS.Codes
import HandS.Style
import HandS.Small
import HandS.TryOnly
import KE.KExcIs
import PySem.Challenge.RW_callhall_k95_disks_by_own_states
set_option Elab.async false
set_option linter.all false
set_option maxRecDepth 100000
set_option maxHeartbeats 4000000
/-! Lay0: rules of one's own over the modules HandS: calls whose errors are wished for at the caller's slots, keywords alone, an own parent's __init__, several clauses with names. -/
namespace Lay
open PySem PySem.Spec PyProof.Rows L2

/-! ### defs by their names -/
/-- the module's name x is a def with the parameters ps that keeps sp, by level k -/
def Here (P : Program) (w : World) (K : PySem.W.Frag) (mg : Str → Option Value) (base : Heap) (k : Nat) (x : Str) (ps : List Str) (sp : Sp) : Prop :=
  ∃ f fd, mg x = some (.ref f) ∧ PySem.W.keepIn K (.ref f) = true ∧ FnOk P w K mg base (L2.CX P w) k f fd ps sp ∧ Binds K fd ps []
/-- the method m of the class at C -/
def HereM (P : Program) (w : World) (K : PySem.W.Frag) (mg : Str → Option Value) (base : Heap) (k : Nat) (C : Addr) (m : Str) (ps : List Str) (sp : Sp) : Prop :=
  ∃ f fd, Meth K C m f ∧ FnOk P w K mg base (L2.CX P w) k f fd ps sp ∧ Binds K fd ps []
/-- .. called by keywords alone -/
def HereMK (P : Program) (w : World) (K : PySem.W.Frag) (mg : Str → Option Value) (base : Heap) (k : Nat) (C : Addr) (m : Str) (ps ks : List Str) (gV : List V → List V → List V) (sp : Sp) : Prop :=
  ∃ f fd g, Meth K C m f ∧ FnOk P w K mg base (L2.CX P w) k f fd ps sp ∧ KBn K fd ps 1 ks g gV
/-- the class at C is made by an __init__ that keeps sp -/
def HereC (P : Program) (w : World) (K : PySem.W.Frag) (mg : Str → Option Value) (base : Heap) (k : Nat) (C : Addr) (ps : List Str) (sp : Sp) : Prop :=
  ∃ f fd, Mk K C f ∧ FnOk P w K mg base (L2.CX P w) k f fd ps sp ∧ Binds K fd ps []
def HereCK (P : Program) (w : World) (K : PySem.W.Frag) (mg : Str → Option Value) (base : Heap) (k : Nat) (C : Addr) (ps ks : List Str) (gV : List V → List V → List V) (sp : Sp) : Prop :=
  ∃ f fd g, Mk K C f ∧ FnOk P w K mg base (L2.CX P w) k f fd ps sp ∧ KBn K fd ps 1 ks g gV

/-- nothing is let out -/
abbrev E0s : L2.St → XK := fun _ _ _ _ => False
theorem px0 {X : Cx} : ∀ σ, PassesAt (L2.CX X.prog X.w) X σ (E0s σ) := fun σ => passAt (W := fun _ _ _ _ => False) takes0 σ
/-- a def's own wish -/
theorem pxE {X : Cx} {E : XK} (tk : Takes X (fun cls d _ H => E cls d H)) : ∀ σ, PassesAt (L2.CX X.prog X.w) X σ ((fun _ => E) σ) := fun σ => passAt (W := fun cls d _ H => E cls d H) tk σ
theorem pxW {X : Cx} {W : WX} (tk : Takes X W) : ∀ σ, PassesAt (L2.CX X.prog X.w) X σ (WE W σ) := fun σ => passAt tk σ

/-! ### calls -/
def tCl (sp : Sp) (E : L2.St → XK) (t : TA) : TE := fun σ H Q => t σ H fun vs H1 => sp vs H1 Q (E σ)
def tMe (C : Addr) (m : Str) (sp : Sp) (E : L2.St → XK) (ta : TE) (t : TA) : TE := fun σ H Q => ta σ H fun x H1 => ∃ a dx fs, x = .ref a ∧ H1 a = some (.ins C dx fs) ∧ fs.lookup m = none ∧
  t σ H1 fun vs H2 => sp (x :: vs) H2 Q (E σ)
def tMeK (C : Addr) (m : Str) (n : Nat) (gV : List V → List V → List V) (sp : Sp) (E : L2.St → XK) (ta : TE) (t : TA) : TE := fun σ H Q => ta σ H fun x H1 => ∃ a dx fs, x = .ref a ∧ H1 a = some (.ins C dx fs) ∧ fs.lookup m = none ∧
  t σ H1 fun vs H2 => vs.length = n ∧ sp (gV [x] vs) H2 Q (E σ)
def tMa (C : Addr) (sp : Sp) (E : L2.St → XK) (t : TA) : TE := fun σ H Q => t σ H fun vs H1 => ∀ x dx, H1 x = none → H1 dx = none → dx ≠ x →
  sp (.ref x :: vs) (upd (upd H1 dx (.own x)) x (.ins C dx [])) (fun v H2 => v = .non ∧ Q (.ref x) H2) (E σ)
def tMaK (C : Addr) (n : Nat) (gV : List V → List V → List V) (sp : Sp) (E : L2.St → XK) (t : TA) : TE := fun σ H Q => t σ H fun vs H1 => vs.length = n ∧ ∀ x dx, H1 x = none → H1 dx = none → dx ≠ x →
  sp (gV [.ref x] vs) (upd (upd H1 dx (.own x)) x (.ins C dx [])) (fun v H2 => v = .non ∧ Q (.ref x) H2) (E σ)
section
variable {X : Cx} {k : Nat} {ps ks : List Str} {sp : Sp} {E : L2.St → XK} {x m : Str} {p pos apos : Pos} {e o : Expr} {es : List Expr} {kws : List Keyword} {t tk : TA} {ta : TE} {C : Addr} {gV : List V → List V → List V}
theorem pe_cl (G : Here X.prog X.w X.K X.mg X.base k x ps sp) (hr : Room k X.A) (hx : ∀ σ, PassesAt (L2.CX X.prog X.w) X σ (E σ)) (ha : PA X (e :: es) t) (hg : Gl X x := by rfl)
    (hdb : (x == ("__debug__" : Str)) = false := by decide) (he : starEach (e :: es) X.env = (false, eval e X.env) :: starEach es X.env := by rfl) (hpl : (backTo pos (starEach es X.env)).any (·.1) = false := by rfl) :
    PE X (.Call (.Name x p) (e :: es) [] pos) (tCl sp E t) := by
  obtain ⟨f, fd, hm, hk, F, hb⟩ := G
  exact pe_callS F hr hg hm hk hb hx ha hdb he hpl
theorem pe_cl0 (G : Here X.prog X.w X.K X.mg X.base k x ps sp) (hr : Room k X.A) (hx : ∀ σ, PassesAt (L2.CX X.prog X.w) X σ (E σ)) (hg : Gl X x := by rfl)
    (hdb : (x == ("__debug__" : Str)) = false := by decide) : PE X (.Call (.Name x p) [] [] pos) (tCl sp E tNil) := by
  obtain ⟨f, fd, hm, hk, F, hb⟩ := G
  refine ⟨fun pins s σ H Q I h => ?_⟩
  refine wpAny_Call_Name_kw (ld_glob I hg hm ?_ hdb)
  exact PySem.W.callWith_K0 I.kIn hk (run_fnS (us := []) F hr hb (hx σ) I .nil h)
theorem pe_me {pl : Sem Bool} (he : PE X o ta) (c : Cls X.K C) (G : HereM X.prog X.w X.K X.mg X.base k C m ps sp) (hr : Room k X.A) (hx : ∀ σ, PassesAt (L2.CX X.prog X.w) X σ (E σ)) (ha : PA X (e :: es) t)
    (hst : starEach (e :: es) X.env = (false, eval e X.env) :: starEach es X.env := by rfl) (hpl : (backTo pos (starEach es X.env)).any (·.1) = false := by rfl)
    (ht : eval (.Call (.Attribute o m apos) (e :: es) [] pos) X.env = (do
      let ov ← eval o X.env
      standAt apos.atName
      let (f, first) ← holding [ov] (getMethod ov m pl)
      callWith pos f first (backTo pos (starEach (e :: es) X.env)) (backToKw pos (keywordEach [] X.env))) := by rfl) :
    PE X (.Call (.Attribute o m apos) (e :: es) [] pos) (tMe C m sp E ta t) := by
  obtain ⟨f, fd, hm, F, hb⟩ := G
  refine ⟨fun pins s σ H Q I h => ?_⟩
  refine PySem.W.methodCall_KW (pl := pl) (thn (he.run pins s σ H _ I h) fun u s1 ⟨x, H1, I1, rx, a, dx, fs, ex, ea, l, q⟩ => ?_) ht
  subst ex
  obtain rfl : u = Value.ref a := rx
  refine getmeth_ok I1 ea c hm l ?_
  refine PySem.W.callWith_K (first := [.ref a]) (h₀ := X.base) I.ok.mod.kin hm.kp (thn (ha.run pos pins s1 σ H1 _ I1 q) fun us s2 ⟨vs, H2, I2, r, q2⟩ => ⟨I2.kIn, ?_⟩) hst hpl
  exact run_fnS (us := .ref a :: us) (vs := .ref a :: vs) F hr hb (hx σ) I2 (.cons rfl r) q2
theorem pe_me0 {pl : Sem Bool} (he : PE X o ta) (c : Cls X.K C) (G : HereM X.prog X.w X.K X.mg X.base k C m ps sp) (hr : Room k X.A) (hx : ∀ σ, PassesAt (L2.CX X.prog X.w) X σ (E σ))
    (ht : eval (.Call (.Attribute o m apos) [] [] pos) X.env = (do
      let ov ← eval o X.env
      standAt apos.atName
      let (f, first) ← holding [ov] (getMethod ov m pl)
      callWith pos f first (backTo pos (starEach [] X.env)) (backToKw pos (keywordEach [] X.env))) := by rfl) :
    PE X (.Call (.Attribute o m apos) [] [] pos) (tMe C m sp E ta tNil) := by
  obtain ⟨f, fd, hm, F, hb⟩ := G
  refine ⟨fun pins s σ H Q I h => ?_⟩
  refine PySem.W.methodCall_KW (pl := pl) (thn (he.run pins s σ H _ I h) fun u s1 ⟨x, H1, I1, rx, a, dx, fs, ex, ea, l, q⟩ => ?_) ht
  subst ex
  obtain rfl : u = Value.ref a := rx
  refine getmeth_ok I1 ea c hm l ?_
  exact PySem.W.callWith_K0 (first := [.ref a]) I1.kIn hm.kp (run_fnS (us := [.ref a]) (vs := [.ref a]) F hr hb (hx σ) I1 (.cons rfl .nil) q)
/-- o.m(k = v, ..), by keywords alone -/
theorem pe_meK {n : Nat} {pl : Sem Bool} (he : PE X o ta) (c : Cls X.K C) (G : HereMK X.prog X.w X.K X.mg X.base k C m ps ks gV sp) (hr : Room k X.A) (hx : ∀ σ, PassesAt (L2.CX X.prog X.w) X σ (E σ)) (hkw : PK X kws tk)
    (hn : ks.length = n := by rfl) (hall : (backToKw pos (keywordEach kws X.env)).all (·.1.isSome) = true := by rfl) (hks : (backToKw pos (keywordEach kws X.env)).filterMap (·.1) = ks := by rfl)
    (hpl : ((backTo pos (starEach [] X.env)).any (·.1) || (backToKw pos (keywordEach kws X.env)).any (·.1.isNone)) = false := by rfl)
    (ht : eval (.Call (.Attribute o m apos) [] kws pos) X.env = (do
      let ov ← eval o X.env
      standAt apos.atName
      let (f, first) ← holding [ov] (getMethod ov m pl)
      callWith pos f first (backTo pos (starEach [] X.env)) (backToKw pos (keywordEach kws X.env))) := by rfl) :
    PE X (.Call (.Attribute o m apos) [] kws pos) (tMeK C m n gV sp E ta tk) := by
  subst hn
  obtain ⟨f, fd, g, hm, F, hb⟩ := G
  refine ⟨fun pins s σ H Q I h => ?_⟩
  refine PySem.W.methodCall_KW (pl := pl) (thn (he.run pins s σ H _ I h) fun u s1 ⟨x, H1, I1, rx, a, dx, fs, ex, ea, l, q⟩ => ?_) ht
  subst ex
  obtain rfl : u = Value.ref a := rx
  refine getmeth_ok I1 ea c hm l ?_
  refine PySem.W.callWith_KW0 (first := [.ref a]) (h₀ := X.base) I.ok.mod.kin hm.kp hall (thn (hkw.run pos pins s1 σ H1 _ I1 q) fun ws s2 ⟨zs, H2, I2, rz, l2, q2⟩ => ⟨I2.kIn, ?_⟩) hpl
  rw [hks]
  have r2 := hb.rel (vs := [.ref a]) (us := [.ref a]) (.cons rfl .nil) rz
  refine wpAny_call (codeAny_mono (F.run X.A X.stack s2 H2 ⟨[.ref a], ks.zip ws⟩ (g [.ref a] ws) (gV [.ref a] zs) Q (E σ) hr I2.env0 (hb.to s2 [.ref a] ws I2.kIn rfl (rz.length.symm.trans l2)) r2 q2) fun r s' hq => ?_)
  cases r with
  | error e => exact hx σ pins H2 s2 e s' I2 hq
  | ok fl =>
    cases fl with
    | ret u => exact I2.after hq
    | next => exact False.elim hq
    | brk => exact False.elim hq
    | cont => exact False.elim hq
theorem run_ma {f : Addr} {fd : FuncData} {pins : List (Addr × Obj)} {σ : L2.St} {H : Hp} {s : Shared} {Q : VK} {ws : List Value} {zs : List V} {g : List Value → List Value → List Value} (M : Mk X.K C f) (F : FnOk X.prog X.w X.K X.mg X.base (L2.CX X.prog X.w) k f fd ps sp)
    (hr : Room (k + 1) X.A) (hb : KBn X.K fd ps 1 ks g gV) (hx : PassesAt (L2.CX X.prog X.w) X σ (E σ)) (I : Inv X pins σ H s) (rz : Vals zs ws) (l2 : zs.length = ks.length)
    (h : ∀ x dx, H x = none → H dx = none → dx ≠ x → sp (gV [.ref x] zs) (upd (upd H dx (.own x)) x (.ins C dx [])) (fun v H2 => v = .non ∧ Q (.ref x) H2) (E σ)) :
    wpAny (model X.prog X.w) X.A (call (.ref C) [] (ks.zip ws)) (EP X pins σ Q) X.xe s := by
  have hq := h (s.heap.objs.size + 1) s.heap.objs.size (I.hok.fresh (Nat.le_succ _)) (I.hok.fresh (Nat.le_refl _)) (Nat.ne_of_lt (Nat.lt_succ_self _))
  have I2 := Inv.made (C := C) I
  have r1 : Vals [V.ref (s.heap.objs.size + 1)] [Value.ref (s.heap.objs.size + 1)] := .cons rfl .nil
  have r2 := hb.rel r1 rz
  refine wpAny_call (make_map (f := f) I.kIn M.makes M.init (beq_iff_eq.mp M.fn) (codeAny_mono (F.run _ X.stack _ _ ⟨[Value.ref (s.heap.objs.size + 1)], ks.zip ws⟩ (g [Value.ref (s.heap.objs.size + 1)] ws) _ _ (E σ) (hr.make C [] (ks.zip ws))
    (I2.env0.make C [] (ks.zip ws)) (hb.to _ [Value.ref (s.heap.objs.size + 1)] ws I2.kIn rfl (rz.length.symm.trans l2)) r2 hq) fun r s' hq' => ?_))
  cases r with
  | error e => exact hx pins _ _ e s' I2 hq'
  | ok fl =>
    cases fl with
    | ret u =>
      obtain ⟨v, H', I3, rv, ev, q3⟩ := I2.after hq'
      subst ev
      exact ⟨rv, ⟨V.ref (s.heap.objs.size + 1), H', I3, rfl, q3⟩⟩
    | next => exact False.elim hq'
    | brk => exact False.elim hq'
    | cont => exact False.elim hq'
/-- C(k = v, ..), by keywords alone -/
theorem pe_maK {n : Nat} (G : HereCK X.prog X.w X.K X.mg X.base k C ps ks gV sp) (hr : Room (k + 1) X.A) (hm : X.mg x = some (.ref C)) (hx : ∀ σ, PassesAt (L2.CX X.prog X.w) X σ (E σ)) (hkw : PK X kws tk) (hg : Gl X x := by rfl) (hn : ks.length = n := by rfl)
    (hall : (backToKw pos (keywordEach kws X.env)).all (·.1.isSome) = true := by rfl) (hks : (backToKw pos (keywordEach kws X.env)).filterMap (·.1) = ks := by rfl) (hdb : (x == ("__debug__" : Str)) = false := by decide)
    (hpl : ((backTo pos (starEach [] X.env)).any (·.1) || (backToKw pos (keywordEach kws X.env)).any (·.1.isNone)) = false := by rfl) :
    PE X (.Call (.Name x p) [] kws pos) (tMaK C n gV sp E tk) := by
  subst hn
  obtain ⟨f, fd, g, M, F, hb⟩ := G
  refine ⟨fun pins s σ H Q I h => ?_⟩
  refine wpAny_Call_Name_kw (ld_glob I hg hm ?_ hdb)
  refine PySem.W.callWith_KW0 (h₀ := X.base) I.ok.mod.kin M.kp hall ?_ hpl
  refine thn (hkw.run pos pins s σ H _ I h) fun ws s2 ⟨zs, H2, I2, rz, l2, q2⟩ => ⟨I2.kIn, ?_⟩
  rw [hks]
  exact run_ma M F hr hb (hx σ) I2 rz l2 q2
/-- C(e, ..) -/
theorem pe_ma (G : HereC X.prog X.w X.K X.mg X.base k C ps sp) (hr : Room (k + 1) X.A) (hm : X.mg x = some (.ref C)) (hx : ∀ σ, PassesAt (L2.CX X.prog X.w) X σ (E σ)) (ha : PA X (e :: es) t) (hg : Gl X x := by rfl)
    (hdb : (x == ("__debug__" : Str)) = false := by decide) (he : starEach (e :: es) X.env = (false, eval e X.env) :: starEach es X.env := by rfl) (hpl : (backTo pos (starEach es X.env)).any (·.1) = false := by rfl) :
    PE X (.Call (.Name x p) (e :: es) [] pos) (tMa C sp E t) := by
  obtain ⟨f, fd, M, F, hb⟩ := G
  refine ⟨fun pins s σ H Q I h => ?_⟩
  refine wpAny_Call_Name_kw (ld_glob I hg hm ?_ hdb)
  refine PySem.W.callWith_K (h₀ := X.base) I.ok.mod.kin M.kp (thn (ha.run pos pins s σ H _ I h) fun us s1 ⟨vs, H1, I1, r, q⟩ => ⟨I1.kIn, ?_⟩) he hpl
  show wpAny _ _ (call (.ref C) us) _ _ _
  have hq := q (s1.heap.objs.size + 1) s1.heap.objs.size (I1.hok.fresh (Nat.le_succ _)) (I1.hok.fresh (Nat.le_refl _)) (Nat.ne_of_lt (Nat.lt_succ_self _))
  have I2 := Inv.made (C := C) I1
  have r2 : Vals (V.ref (s1.heap.objs.size + 1) :: vs) (Value.ref (s1.heap.objs.size + 1) :: us) := .cons rfl r
  have hl : (Value.ref (s1.heap.objs.size + 1) :: us).length = ps.length := by rw [← r2.length]; exact F.len _ _ _ _ hq
  have b := hb { s1 with heap := (s1.heap.push PySem.W.emptyDict).push (PySem.W.instObj C s1.heap.objs.size) } (Value.ref (s1.heap.objs.size + 1) :: us) I2.kIn (by rw [List.append_nil]; exact hl)
  rw [List.append_nil] at b
  refine wpAny_call (make_map (f := f) I1.kIn M.makes M.init (beq_iff_eq.mp M.fn) (codeAny_mono (F.run _ X.stack _ _ ⟨Value.ref (s1.heap.objs.size + 1) :: us, []⟩ (Value.ref (s1.heap.objs.size + 1) :: us) _ _ (E σ) (hr.make C us [])
    (I2.env0.make C us []) b r2 hq) fun r s' hq' => ?_))
  cases r with
  | error e => exact hx σ pins _ _ e s' I2 hq'
  | ok fl =>
    cases fl with
    | ret u =>
      obtain ⟨v, H', I3, rv, ev, q3⟩ := I2.after hq'
      subst ev
      exact ⟨rv, ⟨V.ref (s1.heap.objs.size + 1), H', I3, rfl, q3⟩⟩
    | next => exact False.elim hq'
    | brk => exact False.elim hq'
    | cont => exact False.elim hq'
end

/-! ### N.__init__(self, ..), N an own class that has ValueError's __init__ -/
structure NearC (K : PySem.W.Frag) (mg : Str → Option Value) (n : Str) (C0 : Addr) (mc : Value) : Prop where
  mg : mg n = some (.ref C0)
  rd : PySem.W.readsIn K C0 mc = true
  ga : PySem.W.specialIn K (.ref C0) "__getattribute__" = some (some (.builtin "type.__getattribute__"))
  ini : PySem.W.findCls K (.ref C0) mc "__init__" = some (.val (.builtin "ValueError.__init__"))
theorem pe_ninit {X : Cx} {n : Str} {C0 : Addr} {mc : Value} {pl : Sem Bool} {e : Expr} {es : List Expr} {ta : TA} {p1 p2 pos : Pos} (N : NearC X.K X.mg n C0 mc) (ha : PA X (e :: es) ta) (hg : Gl X n := by rfl) (hdb : (n == ("__debug__" : Str)) = false := by decide)
    (hc : eval (.Call (.Attribute (.Name n p1) "__init__" p2) (e :: es) [] pos) X.env = (do
      let ov ← eval (.Name n p1) X.env
      standAt p2.atName
      let (f, first) ← holding [ov] (getMethod ov "__init__" pl)
      callWith pos f first (backTo pos (starEach (e :: es) X.env)) (backToKw pos (keywordEach [] X.env))) := by rfl)
    (he : starEach (e :: es) X.env = (false, eval e X.env) :: starEach es X.env := by rfl) (hpl : (backTo pos (starEach es X.env)).any (·.1) = false := by rfl) :
    PE X (.Call (.Attribute (.Name n p1) "__init__" p2) (e :: es) [] pos) (tVeI X.K ta) := by
  refine ⟨fun pins s σ H Q I h => ?_⟩
  refine PySem.W.methodCall_KW (ld_glob I hg N.mg ?_ hdb) hc
  refine PySem.W.method_cls I.kIn N.ga (PySem.W.cls_value I.kIn N.rd N.ini rfl ?_)
  show wpAny _ _ (callWith pos (Value.builtin "ValueError.__init__") [] (backTo pos (starEach (e :: es) X.env)) []) _ _ _
  refine PyProof.Rows.callWith_method1 (thn (ha.run pos pins _ σ H _ (I.tok _) h) fun us s1 ⟨vs, H1, I1, r1, a, C, ws, ev, hl, T, ea, q⟩ => ?_) he hpl
  subst ev
  cases r1 with
  | @cons _ u0 _ ur ra rw' =>
    obtain rfl : u0 = Value.ref a := ra
    have hlen : ur.length ≤ sizeLine := by
      rw [← Paired.length rw', sizeLine_eq]
      omega
    exact oinit_ok T I1 ea hlen fun s' J => ⟨.non, H1, J, rfl, q⟩

/-! ### isinstance(e, C), e the exception that the suite holds, with a dict or without -/
def rIsD (K : PySem.W.Frag) (cls : Value) (a : Addr) (d : Option Addr) : List V → Hp → VK → Prop := fun xs H Q => ∃ (D : Addr) (c : V) (cv : Value) (b : Bool), cls = .ref D ∧ ExcC K D ∧ xs = [.ref a, c] ∧ (∀ u, RelV c u → u = cv) ∧ PySem.W.kitOne K (.ref D) cv = some b ∧
  (∀ dd, d = some dd → ∃ fs, H dd = some (.xd fs)) ∧ Q (.bl b) H
theorem call_isD {X : Cx} {a : Addr} {oe : Obj} {cls : Value} {d : Option Addr} {pn : List (Addr × Obj)} (hz : Zc cls d oe) (hf : ∃ vs, oe.data = .fields vs) : CallR (X.suite a ((a, oe) :: pn)) (.builtin "isinstance") (rIsD X.K cls a d) := by
  intro pins s σ H xs us Q I r h
  obtain ⟨D, c, cv, b, ecls, C, rfl, hcv, e, hd, q⟩ := h
  subst ecls
  cases r with
  | cons rx rr =>
    cases rr with
    | cons rt rr =>
      cases rr
      cases rx
      have ec := hcv _ rt
      subst ec
      obtain ⟨hget, _⟩ := I.pin (a, oe) (List.mem_append.mpr (.inl List.mem_cons_self))
      obtain ⟨vs, hv⟩ := hf
      have hcl : (PySem.W.clsIn X.K D).isSome = true := by
        obtain ⟨cd, hc, _⟩ := PySem.W.any_some C.hd
        rw [hc] <;> rfl
      obtain ⟨od, J⟩ : ∃ od, PySem.W.InstAt s.heap a oe D od := by
        cases d with
        | none => exact ⟨none, hget, hz.1, by unfold PySem.W.notCls; rw [hv] <;> rfl, by rw [hz.2]; trivial⟩
        | some dd =>
          obtain ⟨fs, ea⟩ := hd dd rfl
          have hx : ObjOk X.prog X.w H s.heap dd (.xd fs) := I.hok dd _ ea
          obtain ⟨mA, hns, hr⟩ := hx
          obtain ⟨od, ho, hl⟩ := lookIn_ns hns
          exact ⟨some od, hget, hz.1, by unfold PySem.W.notCls; rw [hv] <;> rfl, by rw [hz.2]; exact ho⟩
      exact PySem.W.kia_one (PySem.W.kitx_exc hcl C.hg C.hk C.hs C.ha C.hn C.ht C.hm) I.kIn J e (fun z => nomatch z) fun tk => ⟨.bl b, H, I.kept (t' := tk) fun _ _ z => z, rfl, q⟩
end Lay
/-! Lay1: an own error without a field, made; several except clauses with names; texts times ints; x is True. -/
namespace Lay
open PySem PySem.Spec PyProof.Rows L2

/-! ### C(), C an own error whose __init__ stores nothing -/
theorem mk_endN {X : Cx} {pins : List (Addr × Obj)} {σ : L2.St} {H1 H2 : Hp} {Q : XK} {hp hp2 h2 : Heap} {g1 g2 : Array GenState} {d1 d2 : Drawn} {t1 t2 : Nat} {os1 os2 : OsState} {a C : Addr} (T : Raises X (.ref C)) (I1 : Inv X pins σ H1 ⟨hp, g1, d1, t1, os1⟩)
    (ha : hp.objs.size ≤ a) (k : ∀ b o, hp.get? b = some o → hp2.get? b = some o) (un : Un (frs X.stack) [] (upd H1 a (exo a C none)) H2 hp2 h2) (hok : HOk X.prog X.w H2 h2) (ho : os2 = os1) (hb : AllBare g2)
    (ea : H2 a = some (exo a C none)) (q : Q (.ref C) none (del H2 a)) : MkP X pins σ Q (.ref a) ⟨h2, g2, d2, t2, os2⟩ := by
  obtain ⟨t0, hoe⟩ := exo_at hok ea
  have hn : H1 a = none := I1.hok.fresh ha
  obtain ⟨G, g1', g2'⟩ := restrict h2 fun b => decide (b ≠ a)
  have gk : ∀ b, b ≠ a → G.get? b = h2.get? b := fun b hb => g1' b (decide_eq_true hb)
  have ge : G.get? a = none := g2' a (by simp)
  have nha : ∀ {b : Addr} {o : Obj}, hp.get? b = some o → b ≠ a := fun {b o} z => Nat.ne_of_lt (Nat.lt_of_lt_of_le (Heap.lt_size z) ha)
  have up : ∀ {b : Addr}, b ≠ a → H1 b = none → upd H1 a (exo a C none) b = none := fun {b} hb n => by rw [upd_ne hb]; exact n
  have U : Un (frs X.stack) [] H1 (del H2 a) hp G := {
    keep := fun b o z n hf hx => by
      rw [gk b (nha z)]
      exact un.keep b o (k b o z) (up (nha z) n) hf hx
    slot := fun b o z n hf hx => by
      rw [gk b (nha z)]
      exact un.slot b o (k b o z) (up (nha z) n) hf hx
    free := fun b o z n hx => by
      rw [del_ne (nha z)]
      exact un.free b o (k b o z) (up (nha z) n) hx
    there := fun b o z hx => by
      rw [gk b (nha z)]
      exact un.there b o (k b o z) hx
    tups := fun b xs z => by
      rw [del_ne (ne_of_none z hn)]
      exact un.tups b xs (by rw [upd_ne (ne_of_none z hn)]; exact z)
    frzs := fun b o v z => by
      rw [del_ne (ne_of_none z hn)]
      exact un.frzs b o v (by rw [upd_ne (ne_of_none z hn)]; exact z)
    tbls := fun b ps z => by
      rw [del_ne (ne_of_none z hn)]
      exact un.tbls b ps (by rw [upd_ne (ne_of_none z hn)]; exact z) }
  have hok3 : HOk X.prog X.w (del H2 a) G := fun b o z => by
    have hba : b ≠ a := fun e => by
      rw [e, del_same] at z
      cases z
    rw [del_ne hba] at z
    have noa : ∀ {c : Addr}, H2 c = some (.own b) → c ≠ a := fun {c} hc => at_ne ea hc exo_own
    exact (hok b o z).stay (fun c v hc y => by
        have hca : c ≠ a := by
          rcases hc with hc | hc
          · rw [hc]
            exact hba
          · exact noa hc
        rw [gk c hca]
        exact y)
      (fun c hc => by rw [del_ne (noa hc)]; exact hc) (fun c xs hc => by rw [del_ne (at_ne ea hc exo_tup)]; exact hc)
  have J : Inv X pins σ (del H2 a) ⟨G, g2, d2, t2, os2⟩ := I1.call' (ch := []) ho U hok3 hb (fun b z => absurd z (by simp))
  have kG : ∀ b o, G.get? b = some o → h2.get? b = some o := fun b o z => by
    by_cases hba : b = a
    · rw [hba, ge] at z
      cases z
    · exact (gk b hba).symm.trans z
  exact ⟨a, _, _, ⟨G, g2, d2, t2, os2⟩, _, .ref C, none, rfl, J, kG, ge, hoe, ⟨rfl, rfl⟩, rfl, rfl, del_same, rfl, hb, T, q⟩
def tMkN (C : Addr) (sp : Sp) : L2.St → Hp → XK → Prop := fun _ H1 Q => ∀ a, H1 a = none → sp [.ref a] (upd H1 a (exo a C none)) (fun v H2 => v = .non ∧ H2 a = some (exo a C none) ∧ Q (.ref C) none (del H2 a)) (fun _ _ _ => False)
theorem pmk_oex0 {X : Cx} {CX : CXT} {x : Str} {C fI : Addr} {k : Nat} {fd : FuncData} {ps : List Str} {sp : Sp} {p pos : Pos} (T : OexC X.K C) (iC : PySem.W.findIn X.K (.ref C) "__init__" = some (some (.ref fI))) (tI : PySem.W.typeIn X.K (.ref fI) = some (.type "function"))
    (F1 : FnOk X.prog X.w X.K X.mg X.base CX k fI fd ps sp) (hr : Room (k + 1) X.A) (hb : Binds X.K fd ps []) (hx : Passes CX X (fun _ _ _ => False)) (hm : X.mg x = some (.ref C)) (hg : Gl X x := by rfl)
    (hdb : (x == ("__debug__" : Str)) = false := by decide) :
    PMk X (.Call (.Name x p) [] [] pos) (tMkN C sp) := by
  intro pins s σ H Q I h
  obtain ⟨nm, q, N, bs, bm, sn, sub, ab, col, dd, k0, k1, k2, k3, k5, hC, hbm⟩ := T.cls
  refine wpAny_Call_Name_kw (ld_glob I hg hm ?_ hdb)
  refine PySem.W.callWith_K0 I.kIn T.kC ?_
  show wpAny _ _ (call (.ref C) []) _ _ _
  obtain ⟨hp, g, dr, tk, os⟩ := s
  have hsz : hp.objs.size ≤ hp.objs.size + 1 := Nat.le_succ _
  have hn : H (hp.objs.size + 1) = none := I.hok.fresh hsz
  have hq := h (hp.objs.size + 1) hn
  have kk : ∀ b o, hp.get? b = some o → ((hp.push (PySem.W.kdv_tup [])).push (PySem.HandSPX.excO C hp.objs.size)).get? b = some o := fun b o e => Heap.get?_push_of_some _ (Heap.get?_push_of_some _ e)
  have hget : ((hp.push (PySem.W.kdv_tup [])).push (PySem.HandSPX.excO C hp.objs.size)).get? (hp.objs.size + 1) = some (PySem.HandSPX.excO C hp.objs.size) := by heap_get
  have I2 : Inv X pins σ (upd H (hp.objs.size + 1) (exo (hp.objs.size + 1) C none)) ⟨(hp.push (PySem.W.kdv_tup [])).push (PySem.HandSPX.excO C hp.objs.size), g, dr, tk, os⟩ :=
    I.laid (t' := tk) (a := hp.objs.size + 1) (o := exo (hp.objs.size + 1) C none) (h' := (hp.push (PySem.W.kdv_tup [])).push (PySem.HandSPX.excO C hp.objs.size)) kk hsz (exo_ok hget)
  have r2 : Vals [V.ref (hp.objs.size + 1)] [Value.ref (hp.objs.size + 1)] := .cons rfl .nil
  have hl : [Value.ref (hp.objs.size + 1)].length = ps.length := by
    have e := r2.length
    rw [F1.len _ _ _ _ hq] at e
    exact e.symm
  have b := hb ⟨(hp.push (PySem.W.kdv_tup [])).push (PySem.HandSPX.excO C hp.objs.size), g, dr, tk, os⟩ [Value.ref (hp.objs.size + 1)] I2.kIn (by rw [List.append_nil]; exact hl)
  rw [List.append_nil] at b
  refine wpAny_call (PySem.HandSPX.call_own F.excBase_ValueError (fun Y => PySem.HandSPX.refsVE_contains Y bm hbm) (I.kIn _ _ hC) (PySem.W.looks_findIn I.kIn iC) (fun self => PySem.W.bind_fn I.kIn self tI) (rest := []) (Nat.zero_le _)
    (codeAny_mono (F1.run _ X.stack _ _ ⟨[Value.ref (hp.objs.size + 1)], []⟩ [Value.ref (hp.objs.size + 1)] _ _ (fun _ _ _ => False) (hr.make C [] []) (I2.env0.make C [] []) b r2 hq) fun r s' hq' => ?_))
  cases r with
  | error er => exact hx pins σ _ _ er s' I2 hq'
  | ok fl =>
    cases fl with
    | ret u =>
      obtain ⟨v, H2, os2, bare2, un2, hok2, rv, ev, ea, q2⟩ := hq'
      subst ev
      obtain ⟨h2, g2, d2, t2, os'⟩ := s'
      exact ⟨rv, mk_endN (raises_own T.exC T.tyC) I hsz kk un2 hok2 os2 bare2 ea q2⟩
    | next => exact False.elim hq'
    | brk => exact False.elim hq'
    | cont => exact False.elim hq'

/-! ### try: .. except A as n: .. except B as n: .. -/
/-- what the clauses wish: each its class, the slot of its name, its suite -/
def wManyA (K : PySem.W.Frag) (Wout : WX) (D : Ends) : List (Value × Nat × (Addr → Value → Option Addr → TS)) → WX
  | [] => Wout
  | (c, i, ts) :: r => fun cls d σ H => ∃ b, PySem.W.exmOne K cls c = some b ∧ (b = true → ∀ a, H a = none → ts a cls d { nx := fun σ' H' => D.nx (σ'.set i none) H', rt := D.rt, bk := fun σ' H' => D.bk (σ'.set i none) H', ct := fun σ' H' => D.ct (σ'.set i none) H' } (σ.set i (some (.ref a))) H) ∧
    (b = false → wManyA K Wout D r cls d σ H)
inductive HdsA (X : Cx) : List ExceptHandler → List (Value × Nat × (Addr → Value → Option Addr → TS)) → Prop
  | nil : HdsA X [] []
  | cons {x n : Str} {c : Value} {i : Nat} {ts : Addr → Value → Option Addr → TS} {b₀ : Stmt} {suite : List Stmt} {np pos' : Pos} {hds : List ExceptHandler} {l : List (Value × Nat × (Addr → Value → Option Addr → TS))} (hi : X.N[i]? = some n) (hln : X.env.kindOf n = some .local) (hc : Names X x c)
      (hsu : ∀ (a : Addr) (oe : Obj) (cls : Value) (d : Option Addr) (pn : List (Addr × Obj)), Zc cls d oe → (∃ vs, oe.data = .fields vs) → PSs (X.suite a ((a, oe) :: pn)) (b₀ :: suite) (ts a cls d)) (r : HdsA X hds l) :
      HdsA X (.ExceptHandler (some (.Name x np)) (some n) (b₀ :: suite) pos' :: hds) ((c, i, ts) :: l)
section
variable {X : Cx} {body : List Stmt} {h₀ : ExceptHandler} {hds : List ExceptHandler} {l : List (Value × Nat × (Addr → Value → Option Addr → TS))} {pos : Pos} {tb : WX → TS} {Wout : WX}
theorem ps_try_manyA (hs : X.stack = X.env :: X.outer) (hf : X.env.frame = some X.env.locals) (hN : X.N.Nodup) (tk : Takes X Wout)
    (hb : ∀ (W : WX) (pn : List (Addr × Obj)) (xe : Value → Shared → Prop), Takes (X.tr pn xe) W → PassesOwn (model X.prog X.w) X.A X.env xe → PSs (X.tr pn xe) body (tb W))
    (hh : HdsA X (h₀ :: hds) l) : PS X (.Try body (h₀ :: hds) [] [] pos) (fun D σ H => tb (wManyA X.K Wout D l) D σ H) := by
  refine ⟨fun pins s σ H D I h => ?_⟩
  have ok := I.ok
  have hfr : X.A.frames = some (X.env :: X.outer) := by rw [ok.frames, hs]
  refine wpAny_Try_except ?_
  refine wpAny_mono ((hb (wManyA X.K Wout D l) (X.pn ++ pins) (fun e s₁ => wpAny (model X.prog X.w) X.A (noteFrame e X.env) (fun _ s₂ => wpAny (model X.prog X.w) X.A (setFlight e none) (fun _ s₃ =>
    wpAny (model X.prog X.w) X.A (handleBy e X.env (h₀ :: hds)) (SP X pins D) X.xe s₃) X.xe s₂) X.xe s₁) (fun u s' xx => ?_) PassesOwn.looking).run [] s σ H D (I.toTry _) h) (fun f s1 hsp => ?_) (fun e s1 he => he)
  · -- the catch
    obtain ⟨a, B, sI, pins', σ', H', cls, d, rfl, J', nb, up, sky, na, os, ag, w⟩ := xx
    have J : Inv X pins σ' H' sI := J'.ofTry ok
    have sky' : Sky B (X.env :: X.outer) a (Zc cls d) X.env.locals s'.heap := by rw [← hs]; exact sky
    show wpAny (model X.prog X.w) X.A (noteFrame (.ref a) X.env) _ _ _
    refine Sky.land Zc.steady hfr hf sky' fun h3 fl3 up3 => ?_
    have J3 : Inv X pins σ' H' { s' with heap := h3 } := J.landed nb fl3.1 (up.trans up3) os ag
    obtain ⟨oe3, vs3, he3, hz3, hd3⟩ := fl3.there
    have notFr : ∀ {h : Heap} {o : Obj} {vs : Array Value}, h.FunFrames B (X.env :: X.outer) → h.get? a = some o → o.data = .fields vs → a ∉ frs (X.env :: X.outer) := fun {h o vs} ff e dd hm => by
      obtain ⟨_, o', e', hnf⟩ := ff.mem hm
      rw [e] at e'; cases e'
      exact hnf _ dd
    have nfr := notFr fl3.2.2.1 he3 hd3
    have nL : a ≠ X.env.locals := fun z => nfr (List.mem_filterMap.mpr ⟨X.env, List.mem_cons_self, by rw [hf, z]⟩)
    have nF : a ∉ X.fs := fun hm => by
      obtain ⟨e, he, q⟩ := List.mem_filterMap.mp hm
      exact nfr (List.mem_filterMap.mpr ⟨e, List.mem_cons_of_mem _ he, q⟩)
    have S3 := J3.suite he3 hd3 na nL nF
    have go : ∀ {hds' : List ExceptHandler} {l' : List (Value × Nat × (Addr → Value → Option Addr → TS))}, HdsA X hds' l' → wManyA X.K Wout D l' cls d σ' H' →
        wpAny (model X.prog X.w) X.A (handleBy (.ref a) X.env hds') (SP X pins D) X.xe { s' with heap := h3 } := by
      intro hds' l' hk
      induction hk with
      | nil =>
        intro w
        refine wpAny_handleBy_nil ?_
        obtain ⟨k1, k2, k3, oe, vs, T, oT, ts', he, hz, hd, h1, hr⟩ := id fl3
        unfold PySem.passOn
        refine wpAny_bind (wpAny_field he hd h1 ?_)
        rw [if_neg (show ¬ ((Value.ref T == Value.none) = true) from by simp)]
        have fin : wpAny (model X.prog X.w) X.A (setFlight (.ref a) X.env.frame) (fun _ s4 => wpAny (model X.prog X.w) X.A (throw (.ref a) : Sem Flow) (SP X pins D) X.xe s4) X.xe { s' with heap := h3 } := by
          rw [hf]
          refine HandSPX.setFlight_upZ fl3 fun h4 hh4 up4 => wpAny_throw (tk _ _ ?_)
          exact ⟨a, B, sI, pins, σ', H', cls, d, rfl, J, nb, (up.trans up3).trans up4, .inr (.inr (by rw [hs]; exact hh4)), na, os, ag, w⟩
        first
          | exact wpAny_bind (wpAny_pure (wpAny_bind fin))
          | exact wpAny_bind fin
      | @cons x n c i ts b₀ suite np pos' hds2 l2 hi hln hc hsu r ih =>
        intro w
        obtain ⟨b, hb1, hyes, hno⟩ := w
        have hloc : Loc X.env.scope n := .inl hln
        refine wpAny_handleBy_cons (codeAny_handlers_test ?_) (by intro q; cases q)
        have LT : PySem.W.Looks (model X.prog X.w) h3 (typeOf (.ref a)) cls := fun A Q E s k q => wpAny_typeOf_ref (k _ _ he3) (by rw [hz3.1]; exact q)
        have LM := PySem.W.exm_one (M := model X.prog X.w) (J3.kIn) LT hb1
        have test : ∀ {Q : Value → Shared → Prop} {E : Value → Shared → Prop}, Q c { s' with heap := h3 } → wpAny (model X.prog X.w) (X.A.mark (some (.ref a))) (eval (.Name x np) X.env) Q E { s' with heap := h3 } := fun {Q E} q => by
          obtain ⟨hg, hdbg, hm | ⟨hm, hv, hnn⟩⟩ := hc
          · exact ld_glob (X := X.suite a ((a, oe3) :: (X.pn ++ pins))) S3 hg hm q hdbg
          · exact ld_blt (X := X.suite a ((a, oe3) :: (X.pn ++ pins))) S3 hg hm hv q hnn hdbg
        refine test (LM.here ?_)
        cases b with
        | true =>
          refine codeAny_handlers_suite_as ?_
          refine HandSPX.lands_againZ fl3 fun h4 fl4 up4 => ?_
          have J4 : Inv X pins σ' H' { s' with heap := h4 } := J.landed nb fl4.1 ((up.trans up3).trans up4) os ag
          obtain ⟨oe4, vs4, he4, hz4, hd4⟩ := fl4.there
          have S4 := J4.suite he4 hd4 na nL nF
          refine store_ok (X := X.suite a ((a, oe4) :: (X.pn ++ pins))) (v := .ref a) S4 hN hi hloc rfl (fun s5 S5 => ?_) (.inr hln)
          refine wpAny_mono ((hsu a oe4 cls d (X.pn ++ pins) hz4 ⟨_, hd4⟩).run [] s5 _ H' _ S5 (hyes rfl a na)) (fun f s6 hsp => ?_) (fun _ _ z => False.elim z)
          have end_ : ∀ {σ6 : L2.St} {H6 : Hp} {Q : Shared → Prop}, Inv (X.suite a ((a, oe4) :: (X.pn ++ pins))) [] σ6 H6 s6 → (∀ s7, Inv X pins (σ6.set i none) H6 s7 → Q s7) →
              wpAny (model X.prog X.w) X.A (do bindName X.env n .none; unbindBehindTheSuite X.env n pos') (fun _ s7 => Q s7) X.xe s6 := fun {σ6 H6 Q} S6 hq => gone_ok (S6.unsuite ok) hN hi hln hq
          cases f with
          | next =>
            obtain ⟨σ6, H6, S6, q6⟩ := hsp
            exact end_ S6 fun s7 J7 => ⟨_, _, J7, q6⟩
          | brk =>
            obtain ⟨σ6, H6, S6, q6⟩ := hsp
            exact end_ S6 fun s7 J7 => ⟨_, _, J7, q6⟩
          | cont =>
            obtain ⟨σ6, H6, S6, q6⟩ := hsp
            exact end_ S6 fun s7 J7 => ⟨_, _, J7, q6⟩
          | ret u =>
            obtain ⟨v6, σ6, H6, S6, r6, q6⟩ := hsp
            exact end_ S6 fun s7 J7 => ⟨_, _, _, J7, r6, q6⟩
        | false =>
          show wpAny _ X.A (handleBy (.ref a) X.env hds2) _ _ _
          exact ih (hno rfl)
    exact go hh w
  · cases f with
    | next =>
      obtain ⟨σ', H', J', q⟩ := hsp
      exact wpAny_execs_nil ⟨σ', H', J'.ofTry ok, q⟩
    | brk =>
      obtain ⟨σ', H', J', q⟩ := hsp
      exact ⟨σ', H', J'.ofTry ok, q⟩
    | cont =>
      obtain ⟨σ', H', J', q⟩ := hsp
      exact ⟨σ', H', J'.ofTry ok, q⟩
    | ret u =>
      obtain ⟨v, σ', H', J', r, q⟩ := hsp
      exact ⟨v, σ', H', J'.ofTry ok, r, q⟩
end

/-! ### operators by values -/
/-- x * n, a text and an int -/
theorem op_mulS {X : Cx} : OpR X (binaryOp .Mult) (fun x y H Q => ∃ i j, x = .str i ∧ y = .int j ∧ MulOk i j ∧ Q (.str (Txt.mul i j)) H) := by
  intro pins s σ H x y v u Q I rx ry h
  obtain ⟨i, j, rfl, rfl, hz, q⟩ := h
  obtain ⟨t, rfl⟩ := rx
  obtain ⟨t', rfl⟩ := ry
  exact SB.mul hz fun t' k => ⟨.str (Txt.mul i j), H, I.tok _, ⟨_, rfl⟩, q⟩
end Lay
/-! Lay2: promises by arguments, heaps that are kept but for some places, readings step by step (i_*). -/
namespace Lay
open PySem PySem.Spec PyProof.Rows L2

/-! ### promises by arguments -/
def sp0 (f : Hp → VK → XK → Prop) : Sp := fun vs H Q E => vs = [] ∧ f H Q E
def sp1 (f : V → Hp → VK → XK → Prop) : Sp := fun vs H Q E => ∃ a, vs = [a] ∧ f a H Q E
def sp2 (f : V → V → Hp → VK → XK → Prop) : Sp := fun vs H Q E => ∃ a b, vs = [a, b] ∧ f a b H Q E
def sp3 (f : V → V → V → Hp → VK → XK → Prop) : Sp := fun vs H Q E => ∃ a b c, vs = [a, b, c] ∧ f a b c H Q E
def sp4 (f : V → V → V → V → Hp → VK → XK → Prop) : Sp := fun vs H Q E => ∃ a b c d, vs = [a, b, c, d] ∧ f a b c d H Q E
def sp5 (f : V → V → V → V → V → Hp → VK → XK → Prop) : Sp := fun vs H Q E => ∃ a b c d e, vs = [a, b, c, d, e] ∧ f a b c d e H Q E
theorem sp0_len {f vs H Q E} (h : sp0 f vs H Q E) : vs.length = 0 := by obtain ⟨rfl, _⟩ := h; rfl
theorem sp1_len {f vs H Q E} (h : sp1 f vs H Q E) : vs.length = 1 := by obtain ⟨_, rfl, _⟩ := h; rfl
theorem sp2_len {f vs H Q E} (h : sp2 f vs H Q E) : vs.length = 2 := by obtain ⟨_, _, rfl, _⟩ := h; rfl
theorem sp3_len {f vs H Q E} (h : sp3 f vs H Q E) : vs.length = 3 := by obtain ⟨_, _, _, rfl, _⟩ := h; rfl
theorem sp4_len {f vs H Q E} (h : sp4 f vs H Q E) : vs.length = 4 := by obtain ⟨_, _, _, _, rfl, _⟩ := h; rfl
theorem sp5_len {f vs H Q E} (h : sp5 f vs H Q E) : vs.length = 5 := by obtain ⟨_, _, _, _, _, rfl, _⟩ := h; rfl
section
variable {H : Hp} {Q : VK} {E : XK} {a b c d e : V}
theorem i_sp0 {f} (h : f H Q E) : sp0 f [] H Q E := ⟨rfl, h⟩
theorem i_sp1 {f} (h : f a H Q E) : sp1 f [a] H Q E := ⟨_, rfl, h⟩
theorem i_sp2 {f} (h : f a b H Q E) : sp2 f [a, b] H Q E := ⟨_, _, rfl, h⟩
theorem i_sp3 {f} (h : f a b c H Q E) : sp3 f [a, b, c] H Q E := ⟨_, _, _, rfl, h⟩
theorem i_sp4 {f} (h : f a b c d H Q E) : sp4 f [a, b, c, d] H Q E := ⟨_, _, _, _, rfl, h⟩
theorem i_sp5 {f} (h : f a b c d e H Q E) : sp5 f [a, b, c, d, e] H Q E := ⟨_, _, _, _, _, rfl, h⟩
end

/-! ### a def of the module as the text has it -/
structure Dfn (K : PySem.W.Frag) (mg : Str → Option Value) (x : Str) (st : Stmt) (ps : List Str) : Prop where
  ex : ∃ f fd, mg x = some (.ref f) ∧ Fun K x x st f fd ∧ Binds K fd ps []
structure DfnM (K : PySem.W.Frag) (C : Addr) (m qual : Str) (st : Stmt) (ps : List Str) : Prop where
  ex : ∃ f fd, Meth K C m f ∧ Fun K m qual st f fd ∧ Binds K fd ps []
structure DfnI (K : PySem.W.Frag) (C : Addr) (qual : Str) (st : Stmt) (ps : List Str) : Prop where
  ex : ∃ f fd, Mk K C f ∧ Fun K "__init__" qual st f fd ∧ Binds K fd ps []
section
variable {P : Program} {w : World} {K : PySem.W.Frag} {mg : Str → Option Value} {base : Heap} {x : Str} {st : Stmt} {N ps : List Str} {k : Nat} {sp : Sp}
theorem Dfn.here (D : Dfn K mg x st ps) (S : FnScope N ps (defScope st)) (len : ∀ {vs H Q E}, sp vs H Q E → vs.length = ps.length)
    (hb : ∀ (f : Addr) (cdv : Value) (A : Around) (outer : List Env) (s : Shared) (H : Hp) (vs : List V) (Q : VK) (E : XK), Room k (A.deeper (envOfC x (defScope st) s.heap.objs.size f cdv)) → sp vs H Q E →
      ∃ t, PSs (cxOf (L2.CX P w) P w K mg base N x (defScope st) f cdv A outer s H E) (defBody st) t ∧ t { nx := fun _ H' => Q .non H', rt := Q } (start N vs) H) : Here P w K mg base (k + 1) x ps sp := by
  obtain ⟨f, fd, hm, F, b⟩ := D.ex
  exact ⟨f, fd, hm, F.kp, F.okX S (fun vs H Q E h => len h) (fun cdv A outer s H vs Q E hr h => hb f cdv A outer s H vs Q E hr h), b⟩
theorem DfnM.here {C : Addr} {m qual : Str} (D : DfnM K C m qual st ps) (S : FnScope N ps (defScope st)) (len : ∀ {vs H Q E}, sp vs H Q E → vs.length = ps.length)
    (hb : ∀ (f : Addr) (cdv : Value) (A : Around) (outer : List Env) (s : Shared) (H : Hp) (vs : List V) (Q : VK) (E : XK), Room k (A.deeper (envOfC qual (defScope st) s.heap.objs.size f cdv)) → sp vs H Q E →
      ∃ t, PSs (cxOf (L2.CX P w) P w K mg base N qual (defScope st) f cdv A outer s H E) (defBody st) t ∧ t { nx := fun _ H' => Q .non H', rt := Q } (start N vs) H) : HereM P w K mg base (k + 1) C m ps sp := by
  obtain ⟨f, fd, hm, F, b⟩ := D.ex
  exact ⟨f, fd, hm, F.okX S (fun vs H Q E h => len h) (fun cdv A outer s H vs Q E hr h => hb f cdv A outer s H vs Q E hr h), b⟩
theorem DfnI.here {C : Addr} {qual : Str} (D : DfnI K C qual st ps) (S : FnScope N ps (defScope st)) (len : ∀ {vs H Q E}, sp vs H Q E → vs.length = ps.length)
    (hb : ∀ (f : Addr) (cdv : Value) (A : Around) (outer : List Env) (s : Shared) (H : Hp) (vs : List V) (Q : VK) (E : XK), Room k (A.deeper (envOfC qual (defScope st) s.heap.objs.size f cdv)) → sp vs H Q E →
      ∃ t, PSs (cxOf (L2.CX P w) P w K mg base N qual (defScope st) f cdv A outer s H E) (defBody st) t ∧ t { nx := fun _ H' => Q .non H', rt := Q } (start N vs) H) : HereC P w K mg base (k + 1) C ps sp := by
  obtain ⟨f, fd, hm, F, b⟩ := D.ex
  exact ⟨f, fd, hm, F.okX S (fun vs H Q E h => len h) (fun cdv A outer s H vs Q E hr h => hb f cdv A outer s H vs Q E hr h), b⟩
end

/-! ### heaps -/
/-- kept, but at a -/
def But (a : Addr) (H H' : Hp) : Prop := ∀ b o, b ≠ a → H b = some o → H' b = some o
/-- kept, but where M says so -/
def Buts (M : Addr → Prop) (H H' : Hp) : Prop := ∀ b o, ¬ M b → H b = some o → H' b = some o
theorem Same.get {H H' : Hp} {a : Addr} {o : HO} (s : Same H H') (h : H a = some o) : H' a = some o := s a o h
theorem But.get {H H' : Hp} {a b : Addr} {o : HO} (s : But a H H') (n : b ≠ a) (h : H b = some o) : H' b = some o := s b o n h
theorem Buts.get {M : Addr → Prop} {H H' : Hp} {b : Addr} {o : HO} (s : Buts M H H') (n : ¬ M b) (h : H b = some o) : H' b = some o := s b o n h
theorem same_upd {H : Hp} {p : Addr} {o : HO} (n : H p = none) : Same H (upd H p o) := fun b u e => by rw [upd_ne (ne_of_none e n)]; exact e
theorem but_upd {H : Hp} {p : Addr} {o : HO} : But p H (upd H p o) := fun b u n e => by rw [upd_ne n]; exact e
theorem Same.buts {M : Addr → Prop} {H H' : Hp} (s : Same H H') : Buts M H H' := fun b o _ h => s b o h
theorem Buts.trans {M : Addr → Prop} {H H1 H2 : Hp} (a : Buts M H H1) (b : Buts M H1 H2) : Buts M H H2 := fun c o n h => b c o n (a c o n h)
theorem Buts.same {M : Addr → Prop} {H H1 H2 : Hp} (a : Buts M H H1) (b : Same H1 H2) : Buts M H H2 := fun c o n h => b c o (a c o n h)
theorem But.buts {M : Addr → Prop} {a : Addr} {H H' : Hp} (s : But a H H') (m : M a) : Buts M H H' := fun b o n h => s b o (fun e => n (e ▸ m)) h
theorem Buts.imp {M M' : Addr → Prop} {H H' : Hp} (s : Buts M H H') (i : ∀ a, M a → M' a) : Buts M' H H' := fun b o n h => s b o (fun z => n (i b z)) h
/-- what is new in between is no matter to who stands at the beginning -/
theorem Buts.new {M : Addr → Prop} {p : Addr} {H H1 H2 : Hp} (a : Buts M H H1) (n : H p = none) (b : But p H1 H2) : Buts M H H2 := fun c o m h => b c o (ne_of_none h n) (a c o m h)
theorem Buts.seq {K : PySem.W.Frag} {M : Addr → Prop} {H H' : Hp} {a : Addr} {xs : List V} (e : Buts M H H') (n : ¬ M a) (h : SqL K H a xs) : SqL K H' a xs := by
  rcases h with (h | ⟨o, h⟩) | h
  · exact .inl (.inl (e _ _ n h))
  · exact .inl (.inr ⟨o, e _ _ n h⟩)
  · exact .inr h
theorem But.seq {K : PySem.W.Frag} {b : Addr} {H H' : Hp} {a : Addr} {xs : List V} (e : But b H H') (n : a ≠ b) (h : SqL K H a xs) : SqL K H' a xs := by
  rcases h with (h | ⟨o, h⟩) | h
  · exact .inl (.inl (e _ _ n h))
  · exact .inl (.inr ⟨o, e _ _ n h⟩)
  · exact .inr h
/-- unlike objects stand apart -/
theorem apart {H : Hp} {a b : Addr} {o u : HO} (h : H a = some o) (h' : H b = some u) (d : ¬ o = u) : a ≠ b := ne_of h h' d

/-! ### operators of several kinds -/
section
variable {X : Cx}
def rAddG : R2 := fun x y H Q => rI0 (fun i j => .int (i + j)) x y H Q ∨ (∃ i j, x = .str i ∧ y = .str j ∧ i.length + j.length ≤ sizeLine ∧ Q (.str (i ++ j)) H) ∨ rCat x y H Q
theorem oq_add : OpR X (binaryOp .Add) rAddG := OpR.or op_add (OpR.or op_add_str op_cat)
def rMulG : R2 := fun x y H Q => rI CMul (fun i j => .int (i * j)) x y H Q ∨ (∃ i j, x = .str i ∧ y = .int j ∧ MulOk i j ∧ Q (.str (Txt.mul i j)) H) ∨ rRep x y H Q
theorem oq_mul : OpR X (binaryOp .Mult) rMulG := OpR.or op_mul (OpR.or op_mulS op_rep)
def rSubG : R2 := rI0 fun i j => .int (i - j)
theorem oq_sub : OpR X (binaryOp .Sub) rSubG := op_sub
def rModG : R2 := rI (fun _ j => 0 < j) fun i j => .int (i % j)
theorem oq_mod : OpR X (binaryOp .Mod) rModG := op_mod
def rDivG : R2 := rI CDiv fun i j => .int (i / j)
theorem oq_div : OpR X (binaryOp .FloorDiv) rDivG := op_fdiv
def rPowG : R2 := rI CPow fun i j => .int (i ^ j.toNat)
theorem oq_pow : OpR X (binaryOp .Pow) rPowG := op_pow
def rLtG : R2 := fun x y H Q => rI0 (fun i j => .bl (decide (i < j))) x y H Q ∨ (∃ i j, x = .str i ∧ y = .str j ∧ Q (.bl (decide (i.cps.toList < j.cps.toList))) H)
theorem oq_lt : OpR X (compareOp .Lt) rLtG := OpR.or op_lt op_lt_str
def rLeG : R2 := fun x y H Q => rI0 (fun i j => .bl (decide (i ≤ j))) x y H Q ∨ (∃ i j, x = .str i ∧ y = .str j ∧ Q (.bl (!decide (j.cps.toList < i.cps.toList))) H)
theorem oq_le : OpR X (compareOp .LtE) rLeG := OpR.or op_le op_le_str
def rGtG : R2 := rI0 fun i j => .bl (decide (j < i))
theorem oq_gt : OpR X (compareOp .Gt) rGtG := op_gt
def rGeG : R2 := rI0 fun i j => .bl (decide (j ≤ i))
theorem oq_ge : OpR X (compareOp .GtE) rGeG := op_ge
def rEqG (K : PySem.W.Frag) : R2 := fun x y H Q => rEq x y H Q ∨ rEqD K x y H Q
theorem oq_eq (hu : X.A.units + 64 < cLine) : OpR X (compareOp .Eq) (rEqG X.K) := OpR.or op_eq (op_eqD hu)
def rNeG (K : PySem.W.Frag) : R2 := fun x y H Q => rNe x y H Q ∨ rNeD K x y H Q
theorem oq_ne (hu : X.A.units + 64 < cLine) : OpR X (compareOp .NotEq) (rNeG X.K) := OpR.or op_ne (op_neD hu)
/-- None, True, False -/
def sing : V → Bool
  | .non => true | .bl _ => true | _ => false
def rIsG : R2 := fun x y H Q => (y = .non ∨ (sing x = true ∧ sing y = true)) ∧ Q (.bl (decide (x = y))) H
theorem oq_is : OpR X (compareOp .Is) rIsG := by
  intro pins s σ H x y v u Q I rx ry h
  obtain ⟨h | ⟨hx, hy⟩, q⟩ := h
  · subst h
    exact op_isN pins s σ H x .non v u Q I rx ry ⟨rfl, q⟩
  · cases y with
    | non => exact op_isN pins s σ H x .non v u Q I rx ry ⟨rfl, q⟩
    | bl b =>
      cases x with
      | non =>
        cases (show v = Value.none from rx)
        cases (show u = Value.bool b from ry)
        exact wpAny_is_other rfl (fun z => nomatch z) ⟨.bl false, H, I, rfl, by simpa using q⟩
      | bl a =>
        exact op_isBl pins s σ H (.bl a) (.bl b) v u Q I rx ry ⟨a, b, rfl, rfl, by
          have e : decide (V.bl a = V.bl b) = decide (a = b) := by
            by_cases h : a = b
            · rw [h, decide_eq_true rfl, decide_eq_true rfl]
            · rw [decide_eq_false h, decide_eq_false (fun z => h (V.bl.inj z))]
          rw [e] at q
          exact q⟩
      | int _ => cases hx
      | str _ => cases hx
      | byt _ => cases hx
      | flt _ => cases hx
      | ref _ => cases hx
      | ty _ => cases hx
    | int _ => cases hy
    | str _ => cases hy
    | byt _ => cases hy
    | flt _ => cases hy
    | ref _ => cases hy
    | ty _ => cases hy
def rNotG : R2 := fun x y H Q => y = .non ∧ Q (.bl (!decide (x = .non))) H
theorem oq_isnot : OpR X (compareOp .IsNot) rNotG := op_notN
def rSlG (K : PySem.W.Frag) : V → Option Int → Option Int → Hp → VK → Prop := fun x lo hi H Q => rSlL K x lo hi H Q ∨ rSlS x lo hi H Q
theorem oq_sl : SlR X (rSlG X.K) := SlR.or sl_list sl_str
def rLenG (K : PySem.W.Frag) : List V → Hp → VK → Prop := fun xs H Q => (∃ p ys, xs = [.ref p] ∧ (SqL K H p ys ∨ SqT K H p ys) ∧ Q (.int ys.length) H) ∨ ∃ z, xs = [.str z] ∧ z.length ≤ sizeLine ∧ Q (.int z.length) H
theorem oq_len : CallR X (.builtin "len") (rLenG X.K) := CallR.or call_len_seq call_len_str
def rIsiG (K : PySem.W.Frag) : List V → Hp → VK → Prop := fun xs H Q => rIsi K xs H Q ∨ rIsiT K xs H Q
theorem oq_isi : CallR X (.builtin "isinstance") (rIsiG X.K) := CallR.or call_isi call_isiT
def rAbs1 : List V → Hp → VK → Prop := fun xs H Q => ∃ i, xs = [.int i] ∧ Q (.int (if i < 0 then -i else i)) H
theorem oq_abs : CallR X (.builtin "abs") rAbs1 := call_abs
def rMax2 : List V → Hp → VK → Prop := fun xs H Q => ∃ i j, xs = [.int i, .int j] ∧ Q (.int (if j > i then j else i)) H
theorem oq_max (hc : X.calm = true) : CallR X (.builtin "max") rMax2 := call_max2 hc
def rMin2 : List V → Hp → VK → Prop := fun xs H Q => ∃ i j, xs = [.int i, .int j] ∧ Q (.int (if j < i then j else i)) H
theorem oq_min (hc : X.calm = true) : CallR X (.builtin "min") rMin2 := call_min2 hc
def rInt1 : List V → Hp → VK → Prop := fun xs H Q => (∃ i, xs = [.int i] ∧ Q (.int i) H) ∨ ∃ k, xs = [.bl k] ∧ Q (.int (if k then 1 else 0)) H
theorem oq_int : CallR X (.type "int") rInt1 := call_int1
def rStr1 : List V → Hp → VK → Prop := fun xs H Q => ∃ i, xs = [.int i] ∧ i.natAbs.log2 < 1920 ∧ Q (.str (toString i)) H
theorem oq_str : CallR X (.type "str") rStr1 := call_str_int
def rNeg1 : V → Hp → VK → Prop := rU fun i => .int (-i)
theorem oq_neg : UnR X (unaryOp .USub) rNeg1 := un_neg
/-- a tuple, a list of written items -/
def rTupN (xs : List V) (H1 : Hp) (Q : VK) : Prop := xs.length ≤ sizeLine ∧ ∀ p, H1 p = none → Q (.ref p) (upd H1 p (.tup xs))
def rLstN (xs : List V) (H1 : Hp) (Q : VK) : Prop := xs.length ≤ sizeLine ∧ ∀ p, H1 p = none → Q (.ref p) (upd H1 p (.lst xs))
def rDicN (H : Hp) (Q : VK) : Prop := ∀ p, H p = none → Q (.ref p) (upd H p (.dK []))
def tTupG (t : TA) : TE := fun σ H Q => t σ H fun xs H1 => rTupN xs H1 Q
def tLstG (t : TA) : TE := fun σ H Q => t σ H fun xs H1 => rLstN xs H1 Q
def tDicG : TE := fun _ H Q => rDicN H Q
theorem pe_tupG {es : List Expr} {t : TA} {pos : Pos} {x1} (h : PA X es t) : PE X (.Tuple es x1 pos) (tTupG t) := pe_tup h
theorem pe_lstG {es : List Expr} {t : TA} {pos : Pos} (h : PA X es t) : PE X (.List es pos) (tLstG t) := pe_lst h
theorem pe_dicG {pos : Pos} : PE X (.Dict [] [] pos) tDicG := pe_dnewK
end

/-! ### readings, one step -/
section
variable {σ : L2.St} {H : Hp} {Q : VK} {K : PySem.W.Frag} {i j : Int} {x y : V}
theorem i_var {n : Nat} {v : V} (h : σ[n]? = some (some v)) (q : Q v H) : tVar n σ H Q := ⟨v, h, q⟩
theorem i_c {v : V} (q : Q v H) : tC v σ H Q := q
theorem i_op {r : R2} {ta tb : TE} (q : ta σ H fun x H1 => tb σ H1 fun y H2 => r x y H2 Q) : tOp r ta tb σ H Q := q
theorem i_un {r : V → Hp → VK → Prop} {ta : TE} (q : ta σ H fun x H1 => r x H1 Q) : tUn r ta σ H Q := q
theorem i_nil {Q : List V → Hp → Prop} (q : Q [] H) : tNil σ H Q := q
theorem i_cons {ta : TE} {tr : TA} {Q : List V → Hp → Prop} (q : ta σ H fun x H1 => tr σ H1 fun xs H2 => Q (x :: xs) H2) : tCons ta tr σ H Q := q
theorem i_tupG {t : TA} (q : t σ H fun xs H1 => rTupN xs H1 Q) : tTupG t σ H Q := q
theorem i_lstG {t : TA} (q : t σ H fun xs H1 => rLstN xs H1 Q) : tLstG t σ H Q := q
theorem i_dicG (q : rDicN H Q) : tDicG σ H Q := q
theorem i_cb {r : List V → Hp → VK → Prop} {t : TA} (q : t σ H fun vs H1 => r vs H1 Q) : tCB r t σ H Q := q
theorem i_cl {sp : Sp} {E : L2.St → XK} {t : TA} (q : t σ H fun vs H1 => sp vs H1 Q (E σ)) : tCl sp E t σ H Q := q
theorem i_if {t : TT} {ta tb : TE} (q : t σ H fun c H1 => if c = true then ta σ H1 Q else tb σ H1 Q) : tIf t ta tb σ H Q := q
theorem i_notV {ta : TE} (q : ta σ H fun x H1 => ∃ c, x = .bl c ∧ Q (.bl (!c)) H1) : tNotV ta σ H Q := q
theorem i_andV {ta tb : TE} (q : ta σ H fun x H1 => ∃ c, x = .bl c ∧ if c = true then tb σ H1 Q else Q (.bl false) H1) : tAndV ta tb σ H Q := q
theorem i_orV {ta tb : TE} (q : ta σ H fun x H1 => ∃ c, x = .bl c ∧ if c = true then Q (.bl true) H1 else tb σ H1 Q) : tOrV ta tb σ H Q := q
theorem i_exB {b : Bool} {Q : Bool → Prop} (q : Q b) : ∃ c, V.bl b = .bl c ∧ Q c := ⟨b, rfl, q⟩
theorem i_chain {r r' : R2} {ta tb tc : TE} (q : ta σ H fun x H1 => tb σ H1 fun y H2 => r x y H2 fun z H3 => ∃ k, z = .bl k ∧ (if k = true then tc σ H3 fun w' H4 => r' y w' H4 Q else Q (.bl false) H3)) : tChain r r' ta tb tc σ H Q := q
/-! tests -/
variable {QB : Bool → Hp → Prop}
theorem i_test {t : TE} (q : t σ H fun x H' => ∃ k, x = .bl k ∧ QB k H') : tTest t σ H QB := q
theorem i_tB {t : TE} (q : t σ H fun x H1 => ∃ c, x = .bl c ∧ QB c H1) : tB t σ H QB := q
theorem i_not {t : TT} (q : t σ H fun c H1 => QB (!c) H1) : tNot t σ H QB := q
theorem i_and {t u : TT} (q : t σ H fun c H1 => if c = true then u σ H1 QB else QB false H1) : tAnd t u σ H QB := q
theorem i_or {t u : TT} (q : t σ H fun c H1 => if c = true then QB true H1 else u σ H1 QB) : tOr t u σ H QB := q
theorem i_yes (q : QB true H) : tYes σ H QB := q
/-! statements -/
variable {D : Ends}
theorem i_seq {t u : TS} (q : t { D with nx := u D } σ H) : tSeq t u D σ H := q
theorem i_next (q : D.nx σ H) : tNext D σ H := q
theorem i_asg {te : TE} {g : TG} (q : te σ H fun x H1 => g x σ H1 D.nx) : tAsg te g D σ H := q
theorem i_gname {n : Nat} {v : V} {Qn : L2.St → Hp → Prop} (q : Qn (σ.set n (some v)) H) : gName n v σ H Qn := q
theorem i_ifS {c : TT} {t u : TS} (q : c σ H fun b H1 => if b = true then t D σ H1 else u D σ H1) : tIfS c t u D σ H := q
theorem i_ret {te : TE} (q : te σ H D.rt) : tRet te D σ H := q
theorem i_retN (q : D.rt .non H) : tRetN D σ H := q
theorem i_drop {te : TE} (q : te σ H fun _ H1 => D.nx σ H1) : tDrop te D σ H := q
theorem i_par {m n : Nat} {ta : TA} (q : ta σ H fun vs H1 => ∃ v w, vs = [v, w] ∧ D.nx ((σ.set m (some v)).set n (some w)) H1) : tPar m n ta D σ H := q
theorem i_ex2 {v w : V} {F : V → V → Prop} (q : F v w) : ∃ a b, [v, w] = [a, b] ∧ F a b := ⟨v, w, rfl, q⟩
/-! by values -/
theorem i_addI (q : Q (.int (i + j)) H) : rAddG (.int i) (.int j) H Q := .inl ⟨_, _, rfl, rfl, q⟩
theorem i_addS {a b : Str} (l : a.length + b.length ≤ sizeLine) (q : Q (.str (a ++ b)) H) : rAddG (.str a) (.str b) H Q := .inr (.inl ⟨_, _, rfl, rfl, l, q⟩)
theorem i_subI (q : Q (.int (i - j)) H) : rSubG (.int i) (.int j) H Q := ⟨_, _, rfl, rfl, q⟩
theorem i_mulI (c : CMul i j) (q : Q (.int (i * j)) H) : rMulG (.int i) (.int j) H Q := .inl ⟨_, _, rfl, rfl, c, q⟩
theorem i_mulS {a : Str} (c : MulOk a j) (q : Q (.str (Txt.mul a j)) H) : rMulG (.str a) (.int j) H Q := .inr (.inl ⟨_, _, rfl, rfl, c, q⟩)
theorem i_modI (c : 0 < j) (q : Q (.int (i % j)) H) : rModG (.int i) (.int j) H Q := ⟨_, _, rfl, rfl, c, q⟩
theorem i_divI (c : CDiv i j) (q : Q (.int (i / j)) H) : rDivG (.int i) (.int j) H Q := ⟨_, _, rfl, rfl, c, q⟩
theorem i_powI (c : CPow i j) (q : Q (.int (i ^ j.toNat)) H) : rPowG (.int i) (.int j) H Q := ⟨_, _, rfl, rfl, c, q⟩
theorem i_ltI (q : Q (.bl (decide (i < j))) H) : rLtG (.int i) (.int j) H Q := .inl ⟨_, _, rfl, rfl, q⟩
theorem i_leI (q : Q (.bl (decide (i ≤ j))) H) : rLeG (.int i) (.int j) H Q := .inl ⟨_, _, rfl, rfl, q⟩
theorem i_leS {a b : Str} (q : Q (.bl (!decide (b.cps.toList < a.cps.toList))) H) : rLeG (.str a) (.str b) H Q := .inr ⟨_, _, rfl, rfl, q⟩
theorem i_gtI (q : Q (.bl (decide (j < i))) H) : rGtG (.int i) (.int j) H Q := ⟨_, _, rfl, rfl, q⟩
theorem i_geI (q : Q (.bl (decide (j ≤ i))) H) : rGeG (.int i) (.int j) H Q := ⟨_, _, rfl, rfl, q⟩
theorem i_eqV (s : scal x y = true) (q : Q (.bl (decide (x = y))) H) : rEqG K x y H Q := .inl ⟨s, q⟩
theorem i_neV (s : scal x y = true) (q : Q (.bl (!decide (x = y))) H) : rNeG K x y H Q := .inl ⟨s, q⟩
theorem i_eqI (q : Q (.bl (decide (i = j))) H) : rEqG K (.int i) (.int j) H Q := .inl ⟨rfl, by
  have e : decide (V.int i = V.int j) = decide (i = j) := by
    by_cases h : i = j
    · rw [h, decide_eq_true rfl, decide_eq_true rfl]
    · rw [decide_eq_false h, decide_eq_false (fun z => h (V.int.inj z))]
  rw [e]; exact q⟩
theorem i_neI (q : Q (.bl (!decide (i = j))) H) : rNeG K (.int i) (.int j) H Q := .inl ⟨rfl, by
  have e : decide (V.int i = V.int j) = decide (i = j) := by
    by_cases h : i = j
    · rw [h, decide_eq_true rfl, decide_eq_true rfl]
    · rw [decide_eq_false h, decide_eq_false (fun z => h (V.int.inj z))]
  rw [e]; exact q⟩
theorem i_isN (q : Q (.bl (decide (x = .non))) H) : rIsG x .non H Q := ⟨.inl rfl, q⟩
theorem i_isB (s : sing x = true) (s' : sing y = true) (q : Q (.bl (decide (x = y))) H) : rIsG x y H Q := ⟨.inr ⟨s, s'⟩, q⟩
theorem i_notN (q : Q (.bl (!decide (x = .non))) H) : rNotG x .non H Q := ⟨rfl, q⟩
theorem i_neg (q : Q (.int (-i)) H) : rNeg1 (.int i) H Q := ⟨_, rfl, q⟩
theorem i_lenS {z : Str} (l : z.length ≤ sizeLine) (q : Q (.int z.length) H) : rLenG K [.str z] H Q := .inr ⟨_, rfl, l, q⟩
theorem i_lenL {p : Addr} {xs : List V} (h : H p = some (.lst xs)) (q : Q (.int xs.length) H) : rLenG K [.ref p] H Q := .inl ⟨_, _, rfl, .inl (SqL.of h), q⟩
theorem i_lenQ {p : Addr} {xs : List V} (h : SqL K H p xs) (q : Q (.int xs.length) H) : rLenG K [.ref p] H Q := .inl ⟨_, _, rfl, .inl h, q⟩
theorem i_lenT {p : Addr} {xs : List V} (h : H p = some (.tup xs)) (q : Q (.int xs.length) H) : rLenG K [.ref p] H Q := .inl ⟨_, _, rfl, .inr (SqT.of h), q⟩
theorem i_isi {x c : V} {t u : Value} {b : Bool} (hc : ClsV c u) (ht : TyX K H x t) (hk : PySem.W.kitOne K t u = some b) (q : Q (.bl b) H) : rIsiG K [x, c] H Q := .inl ⟨_, _, _, _, _, rfl, hc, ht, hk, q⟩
theorem i_isiT {x : V} {tp : Addr} {cs : List V} {t : Value} {us : List Value} {b : Bool} (h : H tp = some (.tup cs)) (hc : Paired ClsV cs us) (ht : TyX K H x t) (hk : PySem.W.kitAny K t us = some b) (q : Q (.bl b) H) : rIsiG K [x, .ref tp] H Q := .inr ⟨_, _, _, _, _, _, rfl, h, hc, ht, hk, q⟩
theorem i_abs (q : Q (.int (if i < 0 then -i else i)) H) : rAbs1 [.int i] H Q := ⟨_, rfl, q⟩
theorem i_max (q : Q (.int (if j > i then j else i)) H) : rMax2 [.int i, .int j] H Q := ⟨_, _, rfl, q⟩
theorem i_min (q : Q (.int (if j < i then j else i)) H) : rMin2 [.int i, .int j] H Q := ⟨_, _, rfl, q⟩
theorem i_int (q : Q (.int i) H) : rInt1 [.int i] H Q := .inl ⟨_, rfl, q⟩
theorem i_str (l : i.natAbs.log2 < 1920) (q : Q (.str (toString i)) H) : rStr1 [.int i] H Q := ⟨_, rfl, l, q⟩
theorem i_tupN {xs : List V} (l : xs.length ≤ sizeLine) (k : ∀ p H', H p = none → Same H H' → H' p = some (.tup xs) → Q (.ref p) H') : rTupN xs H Q := ⟨l, fun p hp => k p _ hp (same_upd hp) upd_same⟩
theorem i_lstN {xs : List V} (l : xs.length ≤ sizeLine) (k : ∀ p H', H p = none → Same H H' → H' p = some (.lst xs) → Q (.ref p) H') : rLstN xs H Q := ⟨l, fun p hp => k p _ hp (same_upd hp) upd_same⟩
theorem i_dicN (k : ∀ p H', H p = none → Same H H' → H' p = some (.dK []) → Q (.ref p) H') : rDicN H Q := fun p hp => k p _ hp (same_upd hp) upd_same
theorem i_ixL {p : Addr} {xs : List V} {v : V} (h : H p = some (.lst xs)) (e : atI xs i = some v) (q : Q v H) : rIx K (.ref p) (.int i) H Q := .inl ⟨_, _, _, _, rfl, rfl, SqL.of h, e, q⟩
theorem i_ixQ {p : Addr} {xs : List V} {v : V} (h : SqL K H p xs) (e : atI xs i = some v) (q : Q v H) : rIx K (.ref p) (.int i) H Q := .inl ⟨_, _, _, _, rfl, rfl, h, e, q⟩
theorem i_ixT {p : Addr} {xs : List V} {v : V} (h : H p = some (.tup xs)) (e : atI xs i = some v) (q : Q v H) : rIx K (.ref p) (.int i) H Q := .inr (.inl ⟨_, _, _, _, rfl, rfl, SqT.of h, e, q⟩)
theorem i_ixS {z : Str} {c : Nat} (l : z.length ≤ sizeLine) (e : atI z.cps.toList i = some c) (q : Q (.str ⟨#[c]⟩) H) : rIx K (.str z) (.int i) H Q := .inr (.inr ⟨_, _, _, rfl, rfl, l, e, q⟩)
theorem i_slS {z : Str} {lo hi : Option Int} (l : z.length ≤ sizeLine) (q : Q (.str (cutS z lo hi)) H) : rSlG K (.str z) lo hi H Q := .inr ⟨_, rfl, l, q⟩
theorem i_slQ {p : Addr} {xs : List V} {lo hi : Option Int} (h : SqL K H p xs) (k : ∀ p H', H p = none → Same H H' → H' p = some (.lst (cutV xs lo hi)) → Q (.ref p) H') : rSlG K (.ref p) lo hi H Q := .inl ⟨_, _, rfl, h, fun p hp => k p _ hp (same_upd hp) upd_same⟩
theorem i_setL {p : Addr} {xs : List V} {v : V} {n : Nat} {Qh : Hp → Prop} (h : H p = some (.lst xs)) (e : ixN xs.length i = some n) (k : ∀ H', But p H H' → H' p = some (.lst (xs.set n v)) → Qh H') : rSetL (.ref p) (.int i) v H Qh := ⟨_, _, _, _, rfl, rfl, h, e, k _ but_upd upd_same⟩
theorem i_gsub {to ti : TE} {t : TSet} {v : V} {Qn : L2.St → Hp → Prop} (q : to σ H fun o H1 => ti σ H1 fun i H2 => t o i v H2 fun H3 => Qn σ H3) : gSub to ti t v σ H Qn := q
theorem i_sl {r : V → Option Int → Option Int → Hp → VK → Prop} {te : TE} {tl th : TO} (q : te σ H fun x H1 => tl σ H1 fun l H2 => th σ H2 fun u H3 => r x l u H3 Q) : L2.tSl r te tl th σ H Q := q
end

/-! ### ifs -/
theorem ifT {b : Bool} {A B : Prop} (h : b = true) (q : A) : if b = true then A else B := by rw [if_pos h]; exact q
theorem ifF {b : Bool} {A B : Prop} (h : b = false) (q : B) : if b = true then A else B := by rw [h, if_neg Bool.false_ne_true]; exact q
theorem ifB {b : Bool} {A B : Prop} (h1 : b = true → A) (h2 : b = false → B) : if b = true then A else B := by
  cases b with
  | true => exact ifT rfl (h1 rfl)
  | false => exact ifF rfl (h2 rfl)
end Lay
/-! Lay3: comprehensions by an invariant over what is made so far; own errors, made and raised; kinds of values. -/
namespace Lay
open PySem PySem.Spec PyProof.Rows L2

/-! ### comprehensions -/
def rLc (J : It) (g : TG) (tt : TT) (te : TE) (vs : List Nat) (σ : L2.St) (H1 : Hp) (Q : VK) : Prop := ∀ D, H1 D = none → ∃ W : Nat → Nat → Hp → Prop, (∃ m, W 0 m (upd H1 D (.lst []))) ∧ ∀ i m H, W i m H →
  (J.stop i H ∧ Q (.ref D) H) ∨ (J.go i H ∧ ∃ Nx : Hp → Prop, (∀ H', Nx H' → ∃ m', m' < m ∧ W (i + 1) m' H') ∧ ∀ x H', J.yld i H x H' → g x (wipe σ vs) H' fun σ2 H2 => wipe σ2 vs = wipe σ vs ∧ tt σ2 H2 fun b H3 =>
    if b = true then te σ2 H3 fun y H4 => ∃ acc, H4 D = some (.lst acc) ∧ acc.length < sizeLine ∧ Nx (upd H4 D (.lst (acc ++ [y]))) else Nx H3)
theorem i_lc {wi : TI} {g : TG} {tt : TT} {te : TE} {vs : List Nat} {σ : L2.St} {H : Hp} {Q : VK} (q : wi σ H fun J H1 => rLc J g tt te vs σ H1 Q) : tLc wi g tt te vs σ H Q := q
theorem i_rng1 {ta : TA} {σ : L2.St} {H : Hp} {R : It → Hp → Prop} (q : ta σ H fun vs H1 => ∃ j : Int, vs = [.int j] ∧ -(2 ^ 62) ≤ j ∧ j < 2 ^ 62 ∧ R (Itr 0 j.toNat) H1) : iRng1 ta σ H R := q
theorem i_rng2 {ta : TA} {σ : L2.St} {H : Hp} {R : It → Hp → Prop} (q : ta σ H fun vs H1 => ∃ i j : Int, vs = [.int i, .int j] ∧ (-(2 ^ 62) ≤ i ∧ i < 2 ^ 62 ∧ -(2 ^ 62) ≤ j ∧ j < 2 ^ 62) ∧ R (Itr i (j - i).toNat) H1) : iRng2 ta σ H R := q
theorem i_list {K : PySem.W.Frag} {tl : TE} {σ : L2.St} {H : Hp} {R : It → Hp → Prop} (q : tl σ H fun x H1 => ∃ a, x = .ref a ∧ (∃ xs, SqL K H1 a xs) ∧ R (Itl K a) H1) : iList K tl σ H R := q
theorem i_strI {te : TE} {σ : L2.St} {H : Hp} {R : It → Hp → Prop} (q : te σ H fun v H1 => ∃ x, v = .str x ∧ R (Its x) H1) : iStr te σ H R := q
/-- behind i turns: what the new list at D has so far, and what Pv says -/
def LcP (Pv : Addr → Nat → List V → Hp → Prop) (D : Addr) (i : Nat) (H' : Hp) : Prop := ∃ acc, acc.length ≤ i ∧ H' D = some (.lst acc) ∧ Pv D i acc H'
/-- a turn gives y -/
def LcY (Pv : Addr → Nat → List V → Hp → Prop) (D : Addr) (i : Nat) (y : V) (H4 : Hp) : Prop := ∃ acc, H4 D = some (.lst acc) ∧ acc.length < sizeLine ∧ LcP Pv D (i + 1) (upd H4 D (.lst (acc ++ [y])))
theorem lc_done {Pv : Addr → Nat → List V → Hp → Prop} {D : Addr} {i : Nat} {y : V} {H4 : Hp} {acc : List V} (ha : H4 D = some (.lst acc)) (hl : acc.length ≤ i) (hi : i < sizeLine)
    (k : ∀ H5, But D H4 H5 → H5 D = some (.lst (acc ++ [y])) → Pv D (i + 1) (acc ++ [y]) H5) : LcY Pv D i y H4 :=
  ⟨acc, ha, Nat.lt_of_le_of_lt hl hi, acc ++ [y], by rw [List.length_append, List.length_singleton]; omega, upd_same, k _ but_upd upd_same⟩
theorem lc_skip {Pv : Addr → Nat → List V → Hp → Prop} {D : Addr} {i : Nat} {H3 : Hp} {acc : List V} (ha : H3 D = some (.lst acc)) (hl : acc.length ≤ i) (k : Pv D (i + 1) acc H3) : LcP Pv D (i + 1) H3 :=
  ⟨acc, Nat.le_succ_of_le hl, ha, k⟩
section
variable {g : TG} {tt : TT} {te : TE} {vs : List Nat} {σ : L2.St} {H : Hp} {Q : VK}
/-- over a range; Pv: the new list's place, the turns done, what the list has, the heap -/
theorem i_lcR {lo : Int} {n : Nat} (Pv : Addr → Nat → List V → Hp → Prop) (h0 : ∀ D H', H D = none → Same H H' → H' D = some (.lst []) → Pv D 0 [] H')
    (hs : ∀ D i acc H', H D = none → i < n → acc.length ≤ i → H' D = some (.lst acc) → Pv D i acc H' → g (.int (lo + i)) (wipe σ vs) H' fun σ2 H2 => wipe σ2 vs = wipe σ vs ∧ tt σ2 H2 fun b H3 =>
      if b = true then te σ2 H3 fun y H4 => LcY Pv D i y H4 else LcP Pv D (i + 1) H3)
    (hd : ∀ D acc H', H D = none → H' D = some (.lst acc) → Pv D n acc H' → Q (.ref D) H') : rLc (Itr lo n) g tt te vs σ H Q := by
  intro D hD
  refine lc_range (lo := lo) (n := n) (LcP Pv D) ⟨[], Nat.le_refl _, upd_same, h0 D _ hD (same_upd hD) upd_same⟩ ?_ ?_
  · rintro i H' hi ⟨acc, hl, ha, hp⟩
    exact hs D i acc H' hD hi hl ha hp
  · rintro H' ⟨acc, hl, ha, hp⟩
    exact hd D acc H' hD ha hp
/-- over a list that the block leaves -/
theorem i_lcL {K : PySem.W.Frag} {a : Addr} {xs : List V} (Pv : Addr → Nat → List V → Hp → Prop) (h0 : ∀ D H', H D = none → Same H H' → H' D = some (.lst []) → Pv D 0 [] H')
    (hl : ∀ D i acc H', H D = none → i ≤ xs.length → Pv D i acc H' → SqL K H' a xs)
    (hs : ∀ D i x acc H', H D = none → xs[i]? = some x → acc.length ≤ i → H' D = some (.lst acc) → Pv D i acc H' → g x (wipe σ vs) H' fun σ2 H2 => wipe σ2 vs = wipe σ vs ∧ tt σ2 H2 fun b H3 =>
      if b = true then te σ2 H3 fun y H4 => LcY Pv D i y H4 else LcP Pv D (i + 1) H3)
    (hd : ∀ D acc H', H D = none → H' D = some (.lst acc) → Pv D xs.length acc H' → Q (.ref D) H') : rLc (Itl K a) g tt te vs σ H Q := by
  intro D hD
  refine lc_list (K := K) (a := a) (xs := xs) (LcP Pv D) ⟨[], Nat.le_refl _, upd_same, h0 D _ hD (same_upd hD) upd_same⟩ ?_ ?_ ?_
  · rintro i H' hi ⟨acc, _, _, hp⟩
    exact hl D i acc H' hD hi hp
  · rintro i x H' hx ⟨acc, hl, ha, hp⟩
    exact hs D i x acc H' hD hx hl ha hp
  · rintro H' ⟨acc, hl, ha, hp⟩
    exact hd D acc H' hD ha hp
/-- over a text, sign by sign -/
theorem i_lcS {z : Str} (Pv : Addr → Nat → List V → Hp → Prop) (h0 : ∀ D H', H D = none → Same H H' → H' D = some (.lst []) → Pv D 0 [] H')
    (hs : ∀ D i c acc H', H D = none → z.cps.toList[i]? = some c → acc.length ≤ i → H' D = some (.lst acc) → Pv D i acc H' → g (.str ⟨#[c]⟩) (wipe σ vs) H' fun σ2 H2 => wipe σ2 vs = wipe σ vs ∧ tt σ2 H2 fun b H3 =>
      if b = true then te σ2 H3 fun y H4 => LcY Pv D i y H4 else LcP Pv D (i + 1) H3)
    (hd : ∀ D acc H', H D = none → H' D = some (.lst acc) → Pv D z.cps.toList.length acc H' → Q (.ref D) H') : rLc (Its z) g tt te vs σ H Q := by
  intro D hD
  have hsz : z.cps.toList.length = z.cps.size := by simp
  refine ⟨fun i m H' => m = z.cps.size - i ∧ i ≤ z.cps.size ∧ LcP Pv D i H', ⟨_, rfl, Nat.zero_le _, [], Nat.le_refl _, upd_same, h0 D _ hD (same_upd hD) upd_same⟩, ?_⟩
  rintro i m H' ⟨rfl, hi, p⟩
  by_cases hlt : i < z.cps.size
  · refine .inr ⟨hlt, LcP Pv D (i + 1), fun H' p' => ⟨z.cps.size - (i + 1), by omega, rfl, hlt, p'⟩, fun x H' y => ?_⟩
    obtain ⟨e, c, hc, y⟩ := y
    subst e y
    obtain ⟨acc, hl, ha, hp⟩ := p
    exact hs D i c acc _ hD (by rw [Array.getElem?_toList]; exact hc) hl ha hp
  · have e : i = z.cps.size := by omega
    obtain ⟨acc, hl, ha, hp⟩ := p
    refine .inl ⟨by show z.cps.size ≤ i; omega, hd D acc H' hD ha ?_⟩
    rw [hsz, ← e]
    exact hp
end

/-! ### own errors with one field f -/
/-- what __init__(self, given) does: N.__init__(self, ..); self.f = given -/
def spErr (C : Addr) (f : Str) : Sp := fun vs H Q _ => ∃ (x : Addr) (v : V), vs = [.ref x, v] ∧ H x = some (exo x C none) ∧ ∀ dx, H dx = none → dx ≠ x → Q .non (upd (upd H dx (exd dx [(f, v)])) x (exo x C (some dx)))
def spErr0 (C : Addr) : Sp := fun vs H Q _ => ∃ (x : Addr), vs = [.ref x] ∧ H x = some (exo x C none) ∧ Q .non H
/-- the class x at C of the module is such an error -/
structure ErrAt (P : Program) (w : World) (K : PySem.W.Frag) (mg : Str → Option Value) (base : Heap) (k : Nat) (x : Str) (C : Addr) (ps : List Str) (sp : Sp) : Prop where
  at_ : mg x = some (.ref C)
  ox : OexC K C
  ini : ∃ fI fd, PySem.W.findIn K (.ref C) "__init__" = some (some (.ref fI)) ∧ PySem.W.typeIn K (.ref fI) = some (.type "function") ∧ FnOk P w K mg base (L2.CX P w) k fI fd ps sp ∧ Binds K fd ps []
/-- C(e): its own dict d, new, holds the field -/
def tErr (C : Addr) (f : Str) (ta : TA) : L2.St → Hp → XK → Prop := fun σ H Q => ta σ H fun vs H1 => ∃ v, vs = [v] ∧ ∀ d H', H1 d = none → Same H1 H' → H' d = some (.xd [(f, v)]) → Q (.ref C) (some d) H'
def tErr0 (C : Addr) : L2.St → Hp → XK → Prop := fun _ H Q => Q (.ref C) none H
section
variable {X : Cx} {k : Nat} {x : Str} {C : Addr} {ps : List Str} {f : Str} {p pos : Pos} {e : Expr} {ta : TA}
/-- a reading told by a stronger one -/
def tMoA (t : TA) : TA := fun σ H Q' => ∃ Q0, t σ H Q0 ∧ ∀ vs H1, Q0 vs H1 → Q' vs H1
theorem pa_mo {es : List Expr} {t : TA} (h : PA X es t) : PA X es (tMoA t) := ⟨fun pos pins s σ H Q I ⟨Q0, q, i⟩ => thn (h.run pos pins s σ H Q0 I q) fun us s1 ⟨vs, H1, I1, r, z⟩ => ⟨vs, H1, I1, r, i vs H1 z⟩⟩
theorem pmk_err {te : TE} (M : ErrAt X.prog X.w X.K X.mg X.base k x C ["self", "given"] (spErr C f)) (hr : Room (k + 1) X.A) (he : PE X e te) (hg : Gl X x := by rfl) (hdb : (x == ("__debug__" : Str)) = false := by decide)
    (hst : starEach (e :: []) X.env = (false, eval e X.env) :: starEach [] X.env := by rfl) (hpl : (backTo pos (starEach [] X.env)).any (·.1) = false := by rfl) :
    PMk X (.Call (.Name x p) [e] [] pos) (tErr C f (tCons te tNil)) := by
  obtain ⟨fI, fd, iC, tI, F, hb⟩ := M.ini
  intro pins s σ H Q I h
  refine pmk_oex (ds := []) (dvs := []) M.ox iC tI F hr hb .nil passL hg M.at_ (pa_mo (pa_cons he pa_nil hst)) hdb hst hpl pins s σ H Q I ⟨_, h, ?_⟩
  rintro vs H1 ⟨y, rfl, q⟩
  refine ⟨by show 1 ≤ 1000; decide, fun a ha => ⟨a, y, rfl, upd_same, fun dx nd ne => ⟨rfl, dx, [(f, y)], upd_same, by rw [upd_ne ne, upd_same], ?_, q dx _ ?_ ?_ upd_same⟩⟩⟩
  · rw [upd_ne ne] at nd
    exact nd
  · rw [upd_ne ne] at nd
    exact nd
  · intro b o hb
    have nba : b ≠ a := ne_of_none hb ha
    rw [upd_ne ne] at nd
    have nbd : b ≠ dx := ne_of_none hb nd
    rw [upd_ne nbd, del_ne nba, upd_ne nba, upd_ne nbd, upd_ne nba]
    exact hb
theorem pmk_err0 (M : ErrAt X.prog X.w X.K X.mg X.base k x C ["self"] (spErr0 C)) (hr : Room (k + 1) X.A) (hg : Gl X x := by rfl) (hdb : (x == ("__debug__" : Str)) = false := by decide) :
    PMk X (.Call (.Name x p) [] [] pos) (tErr0 C) := by
  obtain ⟨fI, fd, iC, tI, F, hb⟩ := M.ini
  intro pins s σ H Q I h
  refine pmk_oex0 M.ox iC tI F hr hb passL M.at_ hg hdb pins s σ H Q I fun a ha => ⟨a, rfl, upd_same, rfl, upd_same, ?_⟩
  have e : del (upd H a (exo a C none)) a = H := by
    funext b
    by_cases hb : b = a
    · rw [hb, del_same, ha]
    · rw [del_ne hb, upd_ne hb]
  rw [e]
  exact h
end
theorem i_err {C : Addr} {f : Str} {ta : TA} {σ : L2.St} {H : Hp} {Q : XK} (q : ta σ H fun vs H1 => ∃ v, vs = [v] ∧ ∀ d H', H1 d = none → Same H1 H' → H' d = some (.xd [(f, v)]) → Q (.ref C) (some d) H') : tErr C f ta σ H Q := q
theorem i_err0 {C : Addr} {σ : L2.St} {H : Hp} {Q : XK} (q : Q (.ref C) none H) : tErr0 C σ H Q := q

/-! ### values of known kind -/
inductive Kn (H : Hp) : V → Prop
  | non : Kn H .non
  | bl (b : Bool) : Kn H (.bl b)
  | int (i : Int) : Kn H (.int i)
  | str {z : Str} (l : z.length ≤ sizeLine) : Kn H (.str z)
  | lst {a : Addr} {xs : List V} (h : H a = some (.lst xs)) : Kn H (.ref a)
  | tup {a : Addr} {xs : List V} (h : H a = some (.tup xs)) : Kn H (.ref a)
  | dic {a : Addr} {kvs : List (Key × V)} (h : H a = some (.dK kvs)) : Kn H (.ref a)
theorem Kn.same {H H' : Hp} {v : V} (s : Same H H') (k : Kn H v) : Kn H' v := by
  cases k with
  | non => exact .non
  | bl b => exact .bl b
  | int i => exact .int i
  | str l => exact .str l
  | lst h => exact .lst (s _ _ h)
  | tup h => exact .tup (s _ _ h)
  | dic h => exact .dic (s _ _ h)
def isI : V → Bool
  | .int _ => true | _ => false
def isB : V → Bool
  | .bl _ => true | _ => false
def isS : V → Bool
  | .str _ => true | _ => false
section
variable {K : PySem.W.Frag} {H : Hp} {Q : VK} {v : V}
theorem isi_int (k : Kn H v) (q : Q (.bl (isI v || isB v)) H) : rIsiG K [v, .ty "int"] H Q := by
  cases k with
  | non => exact i_isi (b := false) (.ty _) (.base .non) (kit_ty (by decide +kernel)) q
  | bl b => exact i_isi (b := true) (.ty _) (.base (.bl b)) (kit_ty (by decide +kernel)) q
  | int i => exact i_isi (b := true) (.ty _) (.base (.int i)) (kit_ty (by decide +kernel)) q
  | str l => exact i_isi (b := false) (.ty _) (.base (.str _)) (kit_ty (by decide +kernel)) q
  | @lst p xs h => exact i_isi (b := false) (.ty _) (.base (.lst h)) (kit_ty (by decide +kernel)) q
  | @tup p xs h => exact i_isi (b := false) (.ty _) (.base (.tup h)) (kit_ty (by decide +kernel)) q
  | @dic p xs h => exact i_isi (b := false) (.ty _) (.base (.dK h)) (kit_ty (by decide +kernel)) q
theorem isi_bool (k : Kn H v) (q : Q (.bl (isB v)) H) : rIsiG K [v, .ty "bool"] H Q := by
  cases k with
  | non => exact i_isi (b := false) (.ty _) (.base .non) (kit_ty (by decide +kernel)) q
  | bl b => exact i_isi (b := true) (.ty _) (.base (.bl b)) (kit_ty (by decide +kernel)) q
  | int i => exact i_isi (b := false) (.ty _) (.base (.int i)) (kit_ty (by decide +kernel)) q
  | str l => exact i_isi (b := false) (.ty _) (.base (.str _)) (kit_ty (by decide +kernel)) q
  | @lst p xs h => exact i_isi (b := false) (.ty _) (.base (.lst h)) (kit_ty (by decide +kernel)) q
  | @tup p xs h => exact i_isi (b := false) (.ty _) (.base (.tup h)) (kit_ty (by decide +kernel)) q
  | @dic p xs h => exact i_isi (b := false) (.ty _) (.base (.dK h)) (kit_ty (by decide +kernel)) q
theorem isi_str (k : Kn H v) (q : Q (.bl (isS v)) H) : rIsiG K [v, .ty "str"] H Q := by
  cases k with
  | non => exact i_isi (b := false) (.ty _) (.base .non) (kit_ty (by decide +kernel)) q
  | bl b => exact i_isi (b := false) (.ty _) (.base (.bl b)) (kit_ty (by decide +kernel)) q
  | int i => exact i_isi (b := false) (.ty _) (.base (.int i)) (kit_ty (by decide +kernel)) q
  | str l => exact i_isi (b := true) (.ty _) (.base (.str _)) (kit_ty (by decide +kernel)) q
  | @lst p xs h => exact i_isi (b := false) (.ty _) (.base (.lst h)) (kit_ty (by decide +kernel)) q
  | @tup p xs h => exact i_isi (b := false) (.ty _) (.base (.tup h)) (kit_ty (by decide +kernel)) q
  | @dic p xs h => exact i_isi (b := false) (.ty _) (.base (.dK h)) (kit_ty (by decide +kernel)) q
/-- whether a list, a tuple, a dict stands there -/
def isL (H : Hp) : V → Bool
  | .ref a => match H a with | some (.lst _) => true | _ => false
  | _ => false
def isT (H : Hp) : V → Bool
  | .ref a => match H a with | some (.tup _) => true | _ => false
  | _ => false
def isD (H : Hp) : V → Bool
  | .ref a => match H a with | some (.dK _) => true | _ => false
  | _ => false
theorem isi_list (k : Kn H v) (q : Q (.bl (isL H v)) H) : rIsiG K [v, .ty "list"] H Q := by
  cases k with
  | non => exact i_isi (b := false) (.ty _) (.base .non) (kit_ty (by decide +kernel)) q
  | bl b => exact i_isi (b := false) (.ty _) (.base (.bl b)) (kit_ty (by decide +kernel)) q
  | int i => exact i_isi (b := false) (.ty _) (.base (.int i)) (kit_ty (by decide +kernel)) q
  | str l => exact i_isi (b := false) (.ty _) (.base (.str _)) (kit_ty (by decide +kernel)) q
  | @lst p xs h =>
    have e : isL H (.ref p) = true := by simp [isL, h]
    rw [e] at q
    exact i_isi (b := true) (.ty _) (.base (.lst h)) (kit_ty (by decide +kernel)) q
  | @tup p xs h =>
    have e : isL H (.ref p) = false := by simp [isL, h]
    rw [e] at q
    exact i_isi (b := false) (.ty _) (.base (.tup h)) (kit_ty (by decide +kernel)) q
  | @dic p xs h =>
    have e : isL H (.ref p) = false := by simp [isL, h]
    rw [e] at q
    exact i_isi (b := false) (.ty _) (.base (.dK h)) (kit_ty (by decide +kernel)) q
theorem isi_tuple (k : Kn H v) (q : Q (.bl (isT H v)) H) : rIsiG K [v, .ty "tuple"] H Q := by
  cases k with
  | non => exact i_isi (b := false) (.ty _) (.base .non) (kit_ty (by decide +kernel)) q
  | bl b => exact i_isi (b := false) (.ty _) (.base (.bl b)) (kit_ty (by decide +kernel)) q
  | int i => exact i_isi (b := false) (.ty _) (.base (.int i)) (kit_ty (by decide +kernel)) q
  | str l => exact i_isi (b := false) (.ty _) (.base (.str _)) (kit_ty (by decide +kernel)) q
  | @lst p xs h =>
    have e : isT H (.ref p) = false := by simp [isT, h]
    rw [e] at q
    exact i_isi (b := false) (.ty _) (.base (.lst h)) (kit_ty (by decide +kernel)) q
  | @tup p xs h =>
    have e : isT H (.ref p) = true := by simp [isT, h]
    rw [e] at q
    exact i_isi (b := true) (.ty _) (.base (.tup h)) (kit_ty (by decide +kernel)) q
  | @dic p xs h =>
    have e : isT H (.ref p) = false := by simp [isT, h]
    rw [e] at q
    exact i_isi (b := false) (.ty _) (.base (.dK h)) (kit_ty (by decide +kernel)) q
theorem isi_dict (k : Kn H v) (q : Q (.bl (isD H v)) H) : rIsiG K [v, .ty "dict"] H Q := by
  cases k with
  | non => exact i_isi (b := false) (.ty _) (.base .non) (kit_ty (by decide +kernel)) q
  | bl b => exact i_isi (b := false) (.ty _) (.base (.bl b)) (kit_ty (by decide +kernel)) q
  | int i => exact i_isi (b := false) (.ty _) (.base (.int i)) (kit_ty (by decide +kernel)) q
  | str l => exact i_isi (b := false) (.ty _) (.base (.str _)) (kit_ty (by decide +kernel)) q
  | @lst p xs h =>
    have e : isD H (.ref p) = false := by simp [isD, h]
    rw [e] at q
    exact i_isi (b := false) (.ty _) (.base (.lst h)) (kit_ty (by decide +kernel)) q
  | @tup p xs h =>
    have e : isD H (.ref p) = false := by simp [isD, h]
    rw [e] at q
    exact i_isi (b := false) (.ty _) (.base (.tup h)) (kit_ty (by decide +kernel)) q
  | @dic p xs h =>
    have e : isD H (.ref p) = true := by simp [isD, h]
    rw [e] at q
    exact i_isi (b := true) (.ty _) (.base (.dK h)) (kit_ty (by decide +kernel)) q
/-- isinstance(v, (list, tuple)) -/
theorem isi_lt {tp : Addr} (ht : H tp = some (.tup [.ty "list", .ty "tuple"])) (k : Kn H v) (q : Q (.bl (isL H v || isT H v)) H) : rIsiG K [v, .ref tp] H Q := by
  have hc : Paired ClsV [V.ty "list", V.ty "tuple"] [.type "list", .type "tuple"] := .cons (.ty _) (.cons (.ty _) .nil)
  have no : ∀ {t : String}, kitB t "list" = some false → kitB t "tuple" = some false → PySem.W.kitAny K (.type t) [.type "list", .type "tuple"] = some false := fun h1 h2 =>
    kitAny_cons (kit_ty h1) (fun _ => kitAny_cons (kit_ty h2) (fun _ => rfl) (fun z => nomatch z)) (fun z => nomatch z)
  cases k with
  | non =>
    exact i_isiT (b := false) ht hc (.base .non) (no (by decide +kernel) (by decide +kernel)) q
  | bl b =>
    exact i_isiT (b := false) ht hc (.base (.bl b)) (no (by decide +kernel) (by decide +kernel)) q
  | int i =>
    exact i_isiT (b := false) ht hc (.base (.int i)) (no (by decide +kernel) (by decide +kernel)) q
  | str l =>
    exact i_isiT (b := false) ht hc (.base (.str _)) (no (by decide +kernel) (by decide +kernel)) q
  | @lst p xs h =>
    have e : (isL H (.ref p) || isT H (.ref p)) = true := by simp [isL, isT, h]
    rw [e] at q
    exact i_isiT (b := true) ht hc (.base (.lst h)) (kitAny_cons (b := true) (kit_ty (by decide +kernel)) (fun z => nomatch z) (fun _ => rfl)) q
  | @tup p xs h =>
    have e : (isL H (.ref p) || isT H (.ref p)) = true := by simp [isL, isT, h]
    rw [e] at q
    exact i_isiT (b := true) ht hc (.base (.tup h)) (kitAny_cons (b := false) (kit_ty (by decide +kernel)) (fun _ => kitAny_cons (b := true) (kit_ty (by decide +kernel)) (fun z => nomatch z) (fun _ => rfl)) (fun z => nomatch z)) q
  | @dic p xs h =>
    have e : (isL H (.ref p) || isT H (.ref p)) = false := by simp [isL, isT, h]
    rw [e] at q
    exact i_isiT (b := false) ht hc (.base (.dK h)) (no (by decide +kernel) (by decide +kernel)) q
end
end Lay
/-! Lay4: from a def of the text and its proved body to what callers use. -/
namespace Lay
open PySem PySem.Spec PyProof.Rows L2

/-- wherever the def st stands, it keeps sp -/
def OkF (P : Program) (w : World) (K : PySem.W.Frag) (mg : Str → Option Value) (base : Heap) (k : Nat) (x qual : Str) (st : Stmt) (ps : List Str) (sp : Sp) : Prop :=
  ∀ f fd, Fun K x qual st f fd → FnOk P w K mg base (L2.CX P w) k f fd ps sp
section
variable {P : Program} {w : World} {K : PySem.W.Frag} {mg : Str → Option Value} {base : Heap} {x qual m : Str} {st : Stmt} {N ps ks : List Str} {k : Nat} {sp : Sp} {C : Addr}
theorem OkF.mk (S : FnScope N ps (defScope st)) (len : ∀ {vs H Q E}, sp vs H Q E → vs.length = ps.length)
    (hb : ∀ (f : Addr) (cdv : Value) (A : Around) (outer : List Env) (s : Shared) (H : Hp) (vs : List V) (Q : VK) (E : XK), Room k (A.deeper (envOfC qual (defScope st) s.heap.objs.size f cdv)) → sp vs H Q E →
      ∃ t, PSs (cxOf (L2.CX P w) P w K mg base N qual (defScope st) f cdv A outer s H E) (defBody st) t ∧ t { nx := fun _ H' => Q .non H', rt := Q } (start N vs) H) : OkF P w K mg base (k + 1) x qual st ps sp :=
  fun f fd F => F.okX S (fun vs H Q E h => len h) (fun cdv A outer s H vs Q E hr h => hb f cdv A outer s H vs Q E hr h)
theorem Dfn.to (D : Dfn K mg x st ps) (O : OkF P w K mg base k x x st ps sp) : Here P w K mg base k x ps sp := by
  obtain ⟨f, fd, hm, F, b⟩ := D.ex
  exact ⟨f, fd, hm, F.kp, O f fd F, b⟩
theorem DfnM.to (D : DfnM K C m qual st ps) (O : OkF P w K mg base k m qual st ps sp) : HereM P w K mg base k C m ps sp := by
  obtain ⟨f, fd, hm, F, b⟩ := D.ex
  exact ⟨f, fd, hm, O f fd F, b⟩
theorem DfnI.to (D : DfnI K C qual st ps) (O : OkF P w K mg base k "__init__" qual st ps sp) : HereC P w K mg base k C ps sp := by
  obtain ⟨f, fd, hm, F, b⟩ := D.ex
  exact ⟨f, fd, hm, O f fd F, b⟩
/-- keywords alone, behind one value (the instance) -/
theorem Fun.kbn {f : Addr} {fd : FuncData} (F : Fun K x qual st f fd) (g : {α : Type} → List α → List α → List α)
    (hrel : ∀ {vs zs : List V} {us ws : List Value}, vs.length = 1 → zs.length = ks.length → Vals vs us → Vals zs ws → Vals (g vs zs) (g us ws)) (hnil : ∀ {α : Type} (us zs : List α), ¬ (us.length = 1 ∧ zs.length = ks.length) → g us zs = [])
    (h : ∀ (kV doc pm : Value) (an : Option Addr) (cdv ct : Value) (us ws : List Value), us.length = 1 → ws.length = ks.length → bindArgs (PySem.W.fnOf x qual (defArgs st) (defBody st) (defScope st) .none kV doc pm an cdv ct) ⟨us, ks.zip ws⟩ = pure (ps.zip (g us ws))) :
    KBn K fd ps 1 ks (fun us ws => g us ws) (fun vs zs => g vs zs) := by
  obtain ⟨oc, od, kV, doc, pm, an, cdv, ct, osl, rfl, lk, hcd⟩ := F.ex
  refine ⟨fun s us ws X l1 l2 => .of_eq (h kV doc pm an cdv ct us ws l1 l2), fun {vs us zs ws} r1 r2 => ?_⟩
  by_cases c : vs.length = 1 ∧ zs.length = ks.length
  · exact hrel c.1 c.2 r1 r2
  · rw [hnil vs zs c, hnil us ws (by rw [← r1.length, ← r2.length]; exact c)]
    exact .nil
theorem DfnM.toK {gV : List V → List V → List V} {g : List Value → List Value → List Value} (D : DfnM K C m qual st ps) (O : OkF P w K mg base k m qual st ps sp) (kb : ∀ f fd, Fun K m qual st f fd → KBn K fd ps 1 ks g gV) : HereMK P w K mg base k C m ps ks gV sp := by
  obtain ⟨f, fd, hm, F, b⟩ := D.ex
  exact ⟨f, fd, g, hm, O f fd F, kb f fd F⟩
theorem DfnI.toK {gV : List V → List V → List V} {g : List Value → List Value → List Value} (D : DfnI K C qual st ps) (O : OkF P w K mg base k "__init__" qual st ps sp) (kb : ∀ f fd, Fun K "__init__" qual st f fd → KBn K fd ps 1 ks g gV) : HereCK P w K mg base k C ps ks gV sp := by
  obtain ⟨f, fd, hm, F, b⟩ := D.ex
  exact ⟨f, fd, g, hm, O f fd F, kb f fd F⟩
/-- an own error's class of the text -/
structure DfnE (K : PySem.W.Frag) (mg : Str → Option Value) (x : Str) (C : Addr) (qual : Str) (st : Stmt) (ps : List Str) : Prop where
  at_ : mg x = some (.ref C)
  ox : OexC K C
  ex : ∃ f fd, PySem.W.findIn K (.ref C) "__init__" = some (some (.ref f)) ∧ PySem.W.typeIn K (.ref f) = some (.type "function") ∧ Fun K "__init__" qual st f fd ∧ Binds K fd ps []
theorem DfnE.to (D : DfnE K mg x C qual st ps) (O : OkF P w K mg base k "__init__" qual st ps sp) : ErrAt P w K mg base k x C ps sp := by
  obtain ⟨f, fd, h1, h2, F, b⟩ := D.ex
  exact ⟨D.at_, D.ox, f, fd, h1, h2, O f fd F, b⟩
end
/-- sep.join(texts) -/
def rJoinG (K : PySem.W.Frag) : V → List V → Hp → VK → Prop := fun x xs H Q => ∃ a p, ∃ ys : List Str, x = .str a ∧ xs = [.ref p] ∧ (SqL K H p (ys.map V.str) ∨ SqT K H p (ys.map V.str)) ∧
  (ys.map (·.length)).sum + ys.length * a.length ≤ 16777216 ∧ Q (.str (Txt.join a ys)) H
end Lay
namespace Lay
open PySem PySem.Spec PyProof.Rows L2
section
variable {σ : L2.St} {H : Hp} {Q : VK} {K : PySem.W.Frag}
theorem i_part {te : TE} {Qo : Option Int → Hp → Prop} (q : te σ H fun x H1 => ∃ i, x = .int i ∧ Qo (some i) H1) : tPart te σ H Qo := q
theorem i_nopart {Qo : Option Int → Hp → Prop} (q : Qo none H) : tNoPart σ H Qo := q
/-- o.f -/
def rFld (K : PySem.W.Frag) (f : Str) (x : V) (H1 : Hp) (Q : VK) : Prop := ∃ a C dx fs v, x = .ref a ∧ H1 a = some (.ins C dx fs) ∧ Cls K C ∧ NoAttr K C f ∧ fs.lookup f = some v ∧ Q v H1
theorem i_fld {ta : TE} {f : Str} (q : ta σ H fun x H1 => rFld K f x H1 Q) : tFld K ta f σ H Q := q
theorem i_fldR {f : Str} {p C dx : Addr} {fs : List (Str × V)} {v : V} (h : H p = some (.ins C dx fs)) (c : Cls K C) (n : NoAttr K C f) (l : fs.lookup f = some v) (q : Q v H) : rFld K f (.ref p) H Q := ⟨_, _, _, _, _, rfl, h, c, n, l, q⟩
theorem i_vei {ta : TA} (q : ta σ H fun vs H1 => ∃ (a C : Addr) (ws : List V), vs = .ref a :: ws ∧ ws.length ≤ 1000 ∧ OexC K C ∧ H1 a = some (exo a C none) ∧ Q .non H1) : tVeI K ta σ H Q := q
theorem i_exv {v : V} {F : V → Prop} (q : F v) : ∃ w, [v] = [w] ∧ F w := ⟨v, rfl, q⟩
end
end Lay
namespace Lay
open PySem PySem.Spec PyProof.Rows L2
section
variable {σ : L2.St} {H : Hp} {K : PySem.W.Frag} {D : Ends}
/-- o.f = y -/
def rSFld (K : PySem.W.Frag) (f : Str) (y x : V) (H2 : Hp) (Qn : Hp → Prop) : Prop := ∃ a C dx fs, x = .ref a ∧ H2 a = some (.ins C dx fs) ∧ Cls K C ∧ NoAttr K C f ∧ fs.length < 1000 ∧ Qn (upd H2 a (.ins C dx (putF f y fs)))
theorem i_sfld {ta tv : TE} {f : Str} (q : tv σ H fun y H1 => ta σ H1 fun x H2 => rSFld K f y x H2 (D.nx σ)) : sFld K ta tv f D σ H := q
theorem i_sfldR {f : Str} {y : V} {p C dx : Addr} {fs : List (Str × V)} {Qn : Hp → Prop} (h : H p = some (.ins C dx fs)) (c : Cls K C) (n : NoAttr K C f) (l : fs.length < 1000)
    (k : ∀ H', But p H H' → H' p = some (.ins C dx (putF f y fs)) → Qn H') : rSFld K f y (.ref p) H Qn := ⟨_, _, _, _, rfl, h, c, n, l, k _ but_upd upd_same⟩
/-- e[i] = y -/
theorem i_for {wi : TI} {g : TG} {tb : TS} (q : wi σ H fun J H1 => ∃ W : Nat → Nat → L2.St → Hp → Prop, (∃ m, W 0 m σ H1) ∧ ∀ i m σ H, W i m σ H →
    (J.stop i H ∧ D.nx σ H) ∨ (J.go i H ∧ ∃ N : L2.St → Hp → Prop, (∀ σ' H', N σ' H' → ∃ m', m' < m ∧ W (i + 1) m' σ' H') ∧ ∀ x H', J.yld i H x H' → g x σ H' fun σ2 H2 => tb { D with nx := N, ct := N, bk := D.nx } σ2 H2)) : tFor wi g tb D σ H := q
end
theorem Same.but {H H4 H5 : Hp} {p : Addr} (s : Same H H4) (n : H p = none) (b : But p H4 H5) : Same H H5 := fun c o h => b c o (ne_of_none h n) (s c o h)
theorem But.same {H H4 H5 : Hp} {p : Addr} (b : But p H H4) (s : Same H4 H5) : But p H H5 := fun c o n h => s c o (b c o n h)
theorem But.trans {H H4 H5 : Hp} {p : Addr} (b : But p H H4) (s : But p H4 H5) : But p H H5 := fun c o n h => s c o n (b c o n h)
theorem But.new {H H4 H5 : Hp} {p q : Addr} (b : But p H H4) (n : H q = none) (s : But q H4 H5) : But p H H5 := fun c o m h => s c o (ne_of_none h n) (b c o m h)
theorem Same.butR {H H4 H5 : Hp} {p : Addr} (s : Same H H4) (b : But p H4 H5) : But p H H5 := fun c o n h => b c o n (s c o h)
theorem Same.tobut {H H4 : Hp} {p : Addr} (s : Same H H4) : But p H H4 := fun c o _ h => s c o h
theorem lt_one (c d : Nat) : decide (([c] : List Nat) < [d]) = decide (c < d) := by
  rw [Bool.eq_iff_iff]
  simp [List.cons_lt_cons_iff]
end Lay
namespace Lay
open PySem PySem.Spec PyProof.Rows L2
section
variable {σ : L2.St} {H : Hp} {K : PySem.W.Frag} {Q : VK}
/-- o.m(..) -/
def rMe (C : Addr) (m : Str) (x : V) (H1 : Hp) (k : Prop) : Prop := ∃ a dx fs, x = .ref a ∧ H1 a = some (.ins C dx fs) ∧ fs.lookup m = none ∧ k
theorem i_me {C : Addr} {m : Str} {sp : Sp} {E : L2.St → XK} {ta : TE} {t : TA} (q : ta σ H fun x H1 => rMe C m x H1 (t σ H1 fun vs H2 => sp (x :: vs) H2 Q (E σ))) : tMe C m sp E ta t σ H Q := q
theorem i_meK {C : Addr} {m : Str} {n : Nat} {gV : List V → List V → List V} {sp : Sp} {E : L2.St → XK} {ta : TE} {t : TA} (q : ta σ H fun x H1 => rMe C m x H1 (t σ H1 fun vs H2 => vs.length = n ∧ sp (gV [x] vs) H2 Q (E σ))) : tMeK C m n gV sp E ta t σ H Q := q
theorem i_meR {C : Addr} {m : Str} {p dx : Addr} {fs : List (Str × V)} {k : Prop} (h : H p = some (.ins C dx fs)) (l : fs.lookup m = none) (q : k) : rMe C m (.ref p) H k := ⟨_, _, _, rfl, h, l, q⟩
end
theorem ixN_nat {n j : Nat} (h : j < n) : ixN n (j : Int) = some j := by
  unfold ixN
  simp
  omega
end Lay
namespace Lay
open PySem PySem.Spec PyProof.Rows L2
theorem i_exI {i : Int} {F : Int → Prop} (q : F i) : ∃ k, V.int i = .int k ∧ F k := ⟨i, rfl, q⟩
theorem i_exI1 {i : Int} {F : Int → Prop} (q : F i) : ∃ k, [V.int i] = [.int k] ∧ F k := ⟨i, rfl, q⟩
theorem i_exS {z : Str} {F : Str → Prop} (q : F z) : ∃ k, V.str z = .str k ∧ F k := ⟨z, rfl, q⟩
end Lay
namespace Lay
open PySem PySem.Spec PyProof.Rows L2
section
variable {σ : L2.St} {H : Hp} {K : PySem.W.Frag} {Q : VK}
theorem i_bm {T : String} {r : V → List V → Hp → VK → Prop} {to : TE} {t : TA} (q : to σ H fun x H1 => tyV K T x H1 ∧ t σ H1 fun xs H2 => r x xs H2 Q) : tBM K T r to t σ H Q := q
theorem i_appR {l : Addr} {xs : List V} {y : V} (h : H l = some (.lst xs)) (z : xs.length < sizeLine) (k : ∀ H', But l H H' → H' l = some (.lst (xs ++ [y])) → Q .non H') : rAppend (.ref l) [y] H Q := ⟨_, _, _, rfl, rfl, h, z, k _ but_upd upd_same⟩
theorem i_neB {a b : Bool} (q : Q (.bl (!decide (a = b))) H) : rNeG K (.bl a) (.bl b) H Q := .inl ⟨rfl, by
  have e : decide (V.bl a = V.bl b) = decide (a = b) := by
    by_cases h : a = b
    · rw [h, decide_eq_true rfl, decide_eq_true rfl]
    · rw [decide_eq_false h, decide_eq_false (fun z => h (V.bl.inj z))]
  rw [e]; exact q⟩
theorem i_eqB {a b : Bool} (q : Q (.bl (decide (a = b))) H) : rEqG K (.bl a) (.bl b) H Q := .inl ⟨rfl, by
  have e : decide (V.bl a = V.bl b) = decide (a = b) := by
    by_cases h : a = b
    · rw [h, decide_eq_true rfl, decide_eq_true rfl]
    · rw [decide_eq_false h, decide_eq_false (fun z => h (V.bl.inj z))]
  rw [e]; exact q⟩
theorem i_eqS {x y : Str} (q : Q (.bl (decide (x = y))) H) : rEqG K (.str x) (.str y) H Q := .inl ⟨rfl, by
  have e : decide (V.str x = V.str y) = decide (x = y) := by
    by_cases h : x = y
    · rw [h, decide_eq_true rfl, decide_eq_true rfl]
    · rw [decide_eq_false h, decide_eq_false (fun z => h (V.str.inj z))]
  rw [e]; exact q⟩
theorem i_neS {x y : Str} (q : Q (.bl (!decide (x = y))) H) : rNeG K (.str x) (.str y) H Q := .inl ⟨rfl, by
  have e : decide (V.str x = V.str y) = decide (x = y) := by
    by_cases h : x = y
    · rw [h, decide_eq_true rfl, decide_eq_true rfl]
    · rw [decide_eq_false h, decide_eq_false (fun z => h (V.str.inj z))]
  rw [e]; exact q⟩
/-- [] == [] -/
theorem i_eqNil {p q : Addr} (hp : H p = some (.lst [])) (hq : H q = some (.lst [])) (z : Q (.bl true) H) : rEqG K (.ref p) (.ref q) H Q :=
  .inr ⟨.list [], .list [], .lst (SqL.of hp) .nil, .lst (SqL.of hq) .nil, by decide +kernel, by decide +kernel, z⟩
/-- three truth values, as tuples -/
theorem i_eqB3 {p q : Addr} {a b c : Bool} (hp : H p = some (.tup [.bl a, .bl b, .bl c])) (hq : H q = some (.tup [.bl a, .bl b, .bl c])) (z : Q (.bl true) H) : rEqG K (.ref p) (.ref q) H Q := by
  refine .inr ⟨.tuple [.bool a, .bool b, .bool c], .tuple [.bool a, .bool b, .bool c], .tup (SqT.of hp) (.cons (.bl a) (.cons (.bl b) (.cons (.bl c) .nil))), .tup (SqT.of hq) (.cons (.bl a) (.cons (.bl b) (.cons (.bl c) .nil))), ?_, ?_, ?_⟩
  · cases a <;> cases b <;> cases c <;> decide +kernel
  · cases a <;> cases b <;> cases c <;> decide +kernel
  · have e : PyData.eqv (.tuple [.bool a, .bool b, .bool c]) (.tuple [.bool a, .bool b, .bool c]) = true := by cases a <;> cases b <;> cases c <;> decide +kernel
    rw [e]
    exact z
end
theorem mulOk_small {x : Str} {n : Int} (hx : x.length ≤ 4000) (h0 : 0 ≤ n) (hn : n ≤ 4000) : MulOk x n := by
  have e : x.length * n.toNat ≤ 4000 * 4000 := Nat.mul_le_mul hx (by omega)
  refine ⟨?_, fun h1 _ => ?_, fun h1 _ => ?_⟩
  · rw [decide_eq_false (by omega), decide_eq_false (by omega)]; rfl
  · intro c
    have p : (0 : Int) < n := by omega
    have c2 : (2 ^ 63 - 1) / n * n ≤ 2 ^ 63 - 1 := Int.ediv_mul_le _ (by omega)
    have q : (2 ^ 63 - 1 : Int) < ((2 ^ 63 - 1) / n + 1) * n := Int.lt_ediv_add_one_mul_self _ p
    have q2 : ((2 ^ 63 - 1) / n + 1) * n ≤ (x.length : Int) * n := Int.mul_le_mul_of_nonneg_right (by omega) (by omega)
    have q3 : (x.length : Int) * n ≤ 4000 * 4000 := Int.mul_le_mul (by omega) hn h0 (by decide)
    omega
  · show decide (x.length * n.toNat > sizeLine) = false
    have : sizeLine = 16777216 := by decide
    exact decide_eq_false (by omega)
theorem foldl_app {α : Type} (l : List (Array α)) (acc : Array α) : (l.foldl (· ++ ·) acc).toList = acc.toList ++ (l.map (·.toList)).flatten := by
  induction l generalizing acc with
  | nil => simp
  | cons a l ih => rw [List.foldl_cons, ih, Array.toList_append, List.map_cons, List.flatten_cons, List.append_assoc]
theorem mul_mem {x : Str} {n : Int} {c : Nat} (h : c ∈ (Txt.mul x n).cps.toList) : c ∈ x.cps.toList := by
  unfold Txt.mul at h
  split at h
  · cases h
  · split at h
    · exact h
    · rw [show (⟨(List.replicate n.toNat x.cps).foldl (· ++ ·) #[]⟩ : Str).cps = (List.replicate n.toNat x.cps).foldl (· ++ ·) #[] from rfl, foldl_app] at h
      rw [List.map_replicate] at h
      rcases List.mem_append.mp h with z | z
      · cases z
      · obtain ⟨l, hl, hc⟩ := List.mem_flatten.mp z
        rw [List.eq_of_mem_replicate hl] at hc
        exact hc
theorem mul_len {x : Str} {n : Int} (h : 0 ≤ n) : ((Txt.mul x n).length : Int) = (x.length : Int) * n := by
  rw [PyProof.Rows.len_mul]
  rw [decide_eq_false (by omega)]
  rfl
theorem cutS_mem {z : Str} {lo hi : Option Int} {c : Nat} (h : c ∈ (cutS z lo hi).cps.toList) : c ∈ z.cps.toList := by
  unfold cutS at h
  exact List.mem_of_mem_drop (List.mem_of_mem_take h)
theorem cutS_to {z : Str} {k : Int} (h0 : 0 ≤ k) : (cutS z none (some k)).length = min k.toNat z.length := by
  have e1 : HT.sIx z.length 0 none = 0 := rfl
  have e2 : HT.sIx z.length z.length (some k) = min k.toNat z.length := by
    unfold HT.sIx
    simp
    omega
  unfold cutS
  rw [e1, e2]
  simp only [Str.length, List.size_toArray, List.length_take, List.length_drop, Array.length_toList]
  omega
end Lay
namespace Lay
open PySem PySem.Spec PyProof.Rows L2
section
variable {σ : L2.St} {H : Hp} {K : PySem.W.Frag} {Q : VK} {C : Addr} {n : Nat} {sp : Sp} {E : L2.St → XK} {t : TA}
/-- C(..): a new instance x, its dict dx -/
def rMa (C : Addr) (H1 : Hp) (k : Addr → Hp → Prop) : Prop := ∀ x dx, H1 x = none → H1 dx = none → dx ≠ x → k x (upd (upd H1 dx (.own x)) x (.ins C dx []))
theorem i_ma (q : t σ H fun vs H1 => rMa C H1 fun x H2 => sp (.ref x :: vs) H2 (fun v H3 => v = .non ∧ Q (.ref x) H3) (E σ)) : tMa C sp E t σ H Q := q
theorem i_maK {gV : List V → List V → List V} (q : t σ H fun vs H1 => vs.length = n ∧ rMa C H1 fun x H2 => sp (gV [.ref x] vs) H2 (fun v H3 => v = .non ∧ Q (.ref x) H3) (E σ)) : tMaK C n gV sp E t σ H Q := q
theorem i_maR {k : Addr → Hp → Prop} (h : ∀ x dx H', H x = none → H dx = none → dx ≠ x → Same H H' → H' x = some (.ins C dx []) → k x H') : rMa C H k := fun x dx nx nd ne =>
  h x dx _ nx nd ne (fun b o e => by rw [upd_ne (ne_of_none e nx), upd_ne (ne_of_none e nd)]; exact e) upd_same
theorem i_xf {x : Addr} {cls : Value} {d : Option Addr} {f : Str} {te : TE} (q : te σ H fun y H1 => y = .ref x ∧ cls = .ref C ∧ ∃ (dd : Addr) (fs : List (Str × V)) (v : V), d = some dd ∧ H1 dd = some (.xd fs) ∧ fs.lookup f = some v ∧ Q v H1) : tXf x cls d C f te σ H Q := q
end
/-- the suite «return [w, e.given, isinstance(e, N)]» -/
theorem suite_err {K : PySem.W.Frag} {C N x e : Addr} {i : Nat} {w : Str} {f : Str} {v : V} {D : Ends} {σ : L2.St} {H : Hp} (hs : σ[i]? = some (some (.ref x))) (he : H e = some (.xd [(f, v)])) (ec : ExcC K C) (kt : PySem.W.kitOne K (.ref C) (.ref N) = some true)
    (k : ∀ r H', H r = none → Same H H' → H' r = some (.lst [.str w, v, .bl true]) → D.rt (.ref r) H') :
    (tRet (tLstG (tCons (tC (.str w)) (tCons (tXf x (.ref C) (some e) C f (tVar i)) (tCons (tCB (rIsD K (.ref C) x (some e)) (tCons (tVar i) (tCons (tC (.ref N)) tNil))) tNil))))) D σ H := by
  show ∃ y, σ[i]? = some (some y) ∧ (y = .ref x ∧ (Value.ref C) = .ref C ∧ ∃ (dd : Addr) (fs : List (Str × V)) (u : V), some e = some dd ∧ H dd = some (.xd fs) ∧ fs.lookup f = some u ∧
    ∃ z, σ[i]? = some (some z) ∧ rIsD K (.ref C) x (some e) [z, .ref N] H fun b H1 => rLstN [.str w, u, b] H1 D.rt)
  refine ⟨_, hs, rfl, rfl, e, _, v, rfl, he, by simp [List.lookup], _, hs, C, _, _, true, rfl, ec, rfl, (fun u r => r), kt, fun dd q => ⟨_, by cases q; exact he⟩, ?_⟩
  exact ⟨by show 3 ≤ sizeLine; decide, fun p hp => k p _ hp (same_upd hp) upd_same⟩
/-- the suite «return [w, isinstance(e, N)]», e without fields -/
theorem suite_err0 {K : PySem.W.Frag} {C N x : Addr} {i : Nat} {w : Str} {D : Ends} {σ : L2.St} {H : Hp} (hs : σ[i]? = some (some (.ref x))) (ec : ExcC K C) (kt : PySem.W.kitOne K (.ref C) (.ref N) = some true)
    (k : ∀ r H', H r = none → Same H H' → H' r = some (.lst [.str w, .bl true]) → D.rt (.ref r) H') :
    (tRet (tLstG (tCons (tC (.str w)) (tCons (tCB (rIsD K (.ref C) x none) (tCons (tVar i) (tCons (tC (.ref N)) tNil))) tNil)))) D σ H := by
  show ∃ z, σ[i]? = some (some z) ∧ rIsD K (.ref C) x none [z, .ref N] H fun b H1 => rLstN [.str w, b] H1 D.rt
  refine ⟨_, hs, C, _, _, true, rfl, ec, rfl, (fun u r => r), kt, (fun dd q => nomatch q), ?_⟩
  exact ⟨by show 2 ≤ sizeLine; decide, fun p hp => k p _ hp (same_upd hp) upd_same⟩
end Lay
/-! Lay5: what the top has written, from single facts. -/
namespace Lay
open PySem PySem.Spec PyProof.Rows L2
section
variable {K : PySem.W.Frag} {mg : Str → Option Value} {h : Heap} {x m qual : Str} {st : Stmt} {ps : List Str} {f C N : Addr} {oc kV doc pm cdv ct : Value} {od an : Option Addr} {osl : Array (Option Value)}
/-- a def's parameters take the values in turn -/
def Bi (x qual : Str) (st : Stmt) (ps : List Str) : Prop := ∀ (kV doc pm : Value) (an : Option Addr) (cdv ct : Value) (us : List Value), us.length = ps.length → bindArgs (PySem.W.fnOf x qual (defArgs st) (defBody st) (defScope st) .none kV doc pm an cdv ct) ⟨us, []⟩ = pure (ps.zip us)
theorem dfn_mk (X : K.In h) (G : h.Ns mainGlobals mg) (b : Bi x x st ps) (a : PySem.W.nsIn K mainGlobals x = some (some (.ref f))) (l : K.lookup f = some ⟨oc, od, .func (PySem.W.fnOf x x (defArgs st) (defBody st) (defScope st) .none kV doc pm an cdv ct), osl⟩)
    (c : PySem.W.codeIn K cdv x = true) (k : PySem.W.keepIn K (.ref f) = true) : Dfn K mg x st ps := ⟨f, _, PySem.W.mg_of X G a, fun_mk l c k, (fun_mk l c k).binds b⟩
theorem dfnM_mk (b : Bi m qual st ps) (a : PySem.W.findIn K (.ref C) m = some (some (.ref f))) (i : PySem.W.isFn K (.ref f) = true) (l : K.lookup f = some ⟨oc, od, .func (PySem.W.fnOf m qual (defArgs st) (defBody st) (defScope st) .none kV doc pm an cdv ct), osl⟩)
    (c : PySem.W.codeIn K cdv qual = true) (k : PySem.W.keepIn K (.ref f) = true) : DfnM K C m qual st ps := ⟨f, _, ⟨a, i, k⟩, fun_mk l c k, (fun_mk l c k).binds b⟩
theorem dfnI_mk (b : Bi "__init__" qual st ps) (mk : PySem.W.makesIn K C = true) (kc : PySem.W.keepIn K (.ref C) = true) (a : PySem.W.findIn K (.ref C) "__init__" = some (some (.ref f))) (i : PySem.W.isFn K (.ref f) = true)
    (l : K.lookup f = some ⟨oc, od, .func (PySem.W.fnOf "__init__" qual (defArgs st) (defBody st) (defScope st) .none kV doc pm an cdv ct), osl⟩)
    (c : PySem.W.codeIn K cdv qual = true) (k : PySem.W.keepIn K (.ref f) = true) : DfnI K C qual st ps := ⟨f, _, ⟨mk, a, i, kc⟩, fun_mk l c k, (fun_mk l c k).binds b⟩
theorem dfnE_mk (at_ : mg x = some (.ref C)) (ox : OexC K C) (b : Bi "__init__" qual st ps) (a : PySem.W.findIn K (.ref C) "__init__" = some (some (.ref f))) (t : PySem.W.typeIn K (.ref f) = some (.type "function"))
    (l : K.lookup f = some ⟨oc, od, .func (PySem.W.fnOf "__init__" qual (defArgs st) (defBody st) (defScope st) .none kV doc pm an cdv ct), osl⟩)
    (c : PySem.W.codeIn K cdv qual = true) (k : PySem.W.keepIn K (.ref f) = true) : DfnE K mg x C qual st ps := ⟨at_, ox, f, _, a, t, fun_mk l c k, (fun_mk l c k).binds b⟩
theorem const_mk {i : Int} {t : Tok} (X : K.In h) (G : h.Ns mainGlobals mg) (a : PySem.W.nsIn K mainGlobals x = some (some (.int i t))) : ∃ t, mg x = some (.int i t) := ⟨t, PySem.W.mg_of X G a⟩
theorem oex_mk {nm q : Str} {bs bm : List Value} {sn : List Str} {sub : List Value} {ab : Bool} {col : Option Bool} {dd : Option Addr} {k0 k1 k2 k3 k5 : Option Value}
    (xL : K.lookup C = some (excClassObj nm q C N bs bm true sn sub ab col dd k0 k1 k2 k3 k5 "ValueError.__new__")) (hb : PySem.HandSPX.refsVE bm = true) (sa : PySem.W.findIn K (.ref C) "__setattr__" = some (some (.builtin "object.__setattr__")))
    (exC : PySem.W.subIn K (.ref C) (.type "BaseException") = some true) (tyC : PySem.W.typeIn K (.ref C) = some (.type "type")) (kC : PySem.W.keepIn K (.ref C) = true) : OexC K C :=
  ⟨⟨nm, q, N, bs, bm, sn, sub, ab, col, dd, k0, k1, k2, k3, k5, xL, hb⟩, sa, exC, tyC, kC⟩
theorem kit_self : PySem.W.kitOne K (.ref C) (.ref C) = some true := by
  unfold PySem.W.kitOne
  rw [if_pos (beq_self_eq_true _)]
theorem kit_ref {D : Addr} {b : Bool} (ne : (Value.ref D == Value.ref C) = false) (hc : PySem.W.isClsIn K C = true) (ht : PySem.W.typeIn K (.ref C) = some (.type "type")) (h4 : PySem.W.subIn K (.ref D) (.ref C) = some b) : PySem.W.kitOne K (.ref D) (.ref C) = some b := by
  have e2 : ((PySem.W.clsIn K C).isSome && PySem.W.typeIn K (.ref C) == some (.type "type")) = true := by
    have hc' : (PySem.W.clsIn K C).isSome = true := hc
    rw [hc', ht] <;> rfl
  unfold PySem.W.kitOne
  rw [if_neg (by rw [ne]; exact Bool.false_ne_true)]
  show (if ((PySem.W.clsIn K C).isSome && PySem.W.typeIn K (.ref C) == some (.type "type")) = true then PySem.W.subIn K (.ref D) (.ref C) else none) = some b
  rw [if_pos e2]
  exact h4
theorem near_mk (X : K.In h) (G : h.Ns mainGlobals mg) (a : mg x = some (.ref C)) (rd : PySem.W.readsIn K C (.type "type") = true) (ga : PySem.W.specialIn K (.ref C) "__getattribute__" = some (some (.builtin "type.__getattribute__")))
    (ini : PySem.W.findCls K (.ref C) (.type "type") "__init__" = some (.val (.builtin "ValueError.__init__"))) : ∃ mc, NearC K mg x C mc := ⟨.type "type", a, rd, ga, ini⟩
end
end Lay
namespace K95
open PySem PySem.Spec PyProof.Rows L2 Lay
def top (i : Nat) : Stmt := PySem.Challenge.pw_callhall_k95_disks_by_own_states.main.body.getD i (.Pass ⟨0, 0, 0, 0⟩)
abbrev s_InvalidText_init : Stmt := inClass (top 2) 0
theorem sc_InvalidText_init : FnScope ["self", "given"] ["self", "given"] (defScope s_InvalidText_init) := ⟨rfl, rfl, rfl, by decide +kernel, rfl, by decide +kernel, by decide +kernel⟩
abbrev s_InvalidCount_init : Stmt := inClass (top 3) 0
theorem sc_InvalidCount_init : FnScope ["self", "given"] ["self", "given"] (defScope s_InvalidCount_init) := ⟨rfl, rfl, rfl, by decide +kernel, rfl, by decide +kernel, by decide +kernel⟩
abbrev s_InvalidPages_init : Stmt := inClass (top 4) 0
theorem sc_InvalidPages_init : FnScope ["self", "given"] ["self", "given"] (defScope s_InvalidPages_init) := ⟨rfl, rfl, rfl, by decide +kernel, rfl, by decide +kernel, by decide +kernel⟩
abbrev s_InvalidWidth_init : Stmt := inClass (top 5) 0
theorem sc_InvalidWidth_init : FnScope ["self", "given"] ["self", "given"] (defScope s_InvalidWidth_init) := ⟨rfl, rfl, rfl, by decide +kernel, rfl, by decide +kernel, by decide +kernel⟩
abbrev s_InvalidPage_init : Stmt := inClass (top 6) 0
theorem sc_InvalidPage_init : FnScope ["self", "given"] ["self", "given"] (defScope s_InvalidPage_init) := ⟨rfl, rfl, rfl, by decide +kernel, rfl, by decide +kernel, by decide +kernel⟩
abbrev s_PowerCut_init : Stmt := inClass (top 7) 0
theorem sc_PowerCut_init : FnScope ["self"] ["self"] (defScope s_PowerCut_init) := ⟨rfl, rfl, rfl, by decide +kernel, rfl, by decide +kernel, by decide +kernel⟩
abbrev s_is_integer : Stmt := top 9
theorem sc_is_integer : FnScope ["value"] ["value"] (defScope s_is_integer) := ⟨rfl, rfl, rfl, by decide +kernel, rfl, by decide +kernel, by decide +kernel⟩
abbrev s_is_within : Stmt := top 10
theorem sc_is_within : FnScope ["value", "low", "high"] ["value", "low", "high"] (defScope s_is_within) := ⟨rfl, rfl, rfl, by decide +kernel, rfl, by decide +kernel, by decide +kernel⟩
abbrev s_is_index : Stmt := top 11
theorem sc_is_index : FnScope ["value", "many"] ["value", "many"] (defScope s_is_index) := ⟨rfl, rfl, rfl, by decide +kernel, rfl, by decide +kernel, by decide +kernel⟩
abbrev s_is_page_text : Stmt := top 17
theorem sc_is_page_text : FnScope ["value", "width", "sign"] ["value", "width"] (defScope s_is_page_text) := ⟨rfl, rfl, rfl, by decide +kernel, rfl, by decide +kernel, by decide +kernel⟩
abbrev s_Disk_init : Stmt := inClass (top 18) 0
theorem sc_Disk_init : FnScope ["self", "pages", "width", "_"] ["self", "pages", "width"] (defScope s_Disk_init) := ⟨rfl, rfl, rfl, by decide +kernel, rfl, by decide +kernel, by decide +kernel⟩
abbrev s_Disk_check : Stmt := inClass (top 18) 1
theorem sc_Disk_check : FnScope ["self", "page"] ["self", "page"] (defScope s_Disk_check) := ⟨rfl, rfl, rfl, by decide +kernel, rfl, by decide +kernel, by decide +kernel⟩
abbrev s_Disk_text : Stmt := inClass (top 18) 2
theorem sc_Disk_text : FnScope ["self", "page"] ["self", "page"] (defScope s_Disk_text) := ⟨rfl, rfl, rfl, by decide +kernel, rfl, by decide +kernel, by decide +kernel⟩
abbrev s_Disk_write : Stmt := inClass (top 18) 3
theorem sc_Disk_write : FnScope ["self", "page", "text", "old", "many"] ["self", "page", "text"] (defScope s_Disk_write) := ⟨rfl, rfl, rfl, by decide +kernel, rfl, by decide +kernel, by decide +kernel⟩
abbrev s_Disk_limit : Stmt := inClass (top 18) 4
theorem sc_Disk_limit : FnScope ["self", "count"] ["self", "count"] (defScope s_Disk_limit) := ⟨rfl, rfl, rfl, by decide +kernel, rfl, by decide +kernel, by decide +kernel⟩
abbrev s_law_cell : Stmt := top 20
theorem sc_law_cell : FnScope ["script", "k"] ["script", "k"] (defScope s_law_cell) := ⟨rfl, rfl, rfl, by decide +kernel, rfl, by decide +kernel, by decide +kernel⟩
abbrev s_law_box : Stmt := top 21
theorem sc_law_box : FnScope ["great"] ["great"] (defScope s_law_box) := ⟨rfl, rfl, rfl, by decide +kernel, rfl, by decide +kernel, by decide +kernel⟩
abbrev s_law_take : Stmt := top 22
theorem sc_law_take : FnScope ["box", "many", "mixed", "digit"] ["box", "many"] (defScope s_law_take) := ⟨rfl, rfl, rfl, by decide +kernel, rfl, by decide +kernel, by decide +kernel⟩
abbrev s_law_signs : Stmt := top 23
theorem sc_law_signs : FnScope [] [] (defScope s_law_signs) := ⟨rfl, rfl, rfl, by decide +kernel, rfl, by decide +kernel, by decide +kernel⟩
abbrev s_law_text : Stmt := top 24
theorem sc_law_text : FnScope ["box", "many", "signs", "k"] ["box", "many"] (defScope s_law_text) := ⟨rfl, rfl, rfl, by decide +kernel, rfl, by decide +kernel, by decide +kernel⟩
abbrev s_law_good : Stmt := top 25
theorem sc_law_good : FnScope ["box", "width", "way", "stem"] ["box", "width"] (defScope s_law_good) := ⟨rfl, rfl, rfl, by decide +kernel, rfl, by decide +kernel, by decide +kernel⟩
abbrev s_law_bad_text : Stmt := top 26
theorem sc_law_bad_text : FnScope ["box", "width", "stem", "at", "long", "menu"] ["box", "width"] (defScope s_law_bad_text) := ⟨rfl, rfl, rfl, by decide +kernel, rfl, by decide +kernel, by decide +kernel⟩
abbrev s_law_bad_page : Stmt := top 27
theorem sc_law_bad_page : FnScope ["box", "pages"] ["box", "pages"] (defScope s_law_bad_page) := ⟨rfl, rfl, rfl, by decide +kernel, rfl, by decide +kernel, by decide +kernel⟩
abbrev s_law_bad_size : Stmt := top 28
theorem sc_law_bad_size : FnScope ["box", "low", "high"] ["box", "low", "high"] (defScope s_law_bad_size) := ⟨rfl, rfl, rfl, by decide +kernel, rfl, by decide +kernel, by decide +kernel⟩
abbrev s_law_like : Stmt := top 29
theorem sc_law_like : FnScope ["told", "due", "k"] ["told", "due"] (defScope s_law_like) := ⟨rfl, rfl, rfl, by decide +kernel, rfl, by decide +kernel, by decide +kernel⟩
abbrev s_law_given : Stmt := top 30
theorem sc_law_given : FnScope ["told", "word", "value"] ["told", "word", "value"] (defScope s_law_given) := ⟨rfl, rfl, rfl, by decide +kernel, rfl, by decide +kernel, by decide +kernel⟩
abbrev s_law_made : Stmt := top 31
theorem sc_law_made : FnScope ["pages", "width", "named", "e"] ["pages", "width", "named"] (defScope s_law_made) := ⟨rfl, rfl, rfl, by decide +kernel, rfl, by decide +kernel, by decide +kernel⟩
abbrev s_law_write : Stmt := top 32
theorem sc_law_write : FnScope ["disk", "page", "text", "named", "e"] ["disk", "page", "text", "named"] (defScope s_law_write) := ⟨rfl, rfl, rfl, by decide +kernel, rfl, by decide +kernel, by decide +kernel⟩
abbrev s_law_read : Stmt := top 33
theorem sc_law_read : FnScope ["disk", "page", "named", "e"] ["disk", "page", "named"] (defScope s_law_read) := ⟨rfl, rfl, rfl, by decide +kernel, rfl, by decide +kernel, by decide +kernel⟩
abbrev s_law_limit : Stmt := top 34
theorem sc_law_limit : FnScope ["disk", "count", "named", "e"] ["disk", "count", "named"] (defScope s_law_limit) := ⟨rfl, rfl, rfl, by decide +kernel, rfl, by decide +kernel, by decide +kernel⟩
abbrev s_law_state_right : Stmt := top 35
theorem sc_law_state_right : FnScope ["disk", "state", "named", "page"] ["disk", "state", "named"] (defScope s_law_state_right) := ⟨rfl, rfl, rfl, by decide +kernel, rfl, by decide +kernel, by decide +kernel⟩
abbrev s_law_write_right : Stmt := top 36
theorem sc_law_write_right : FnScope ["disk", "state", "page", "text", "named", "texts", "cut"] ["disk", "state", "page", "text", "named"] (defScope s_law_write_right) := ⟨rfl, rfl, rfl, by decide +kernel, rfl, by decide +kernel, by decide +kernel⟩
abbrev s_law_limit_right : Stmt := top 37
theorem sc_law_limit_right : FnScope ["disk", "state", "count", "named"] ["disk", "state", "count", "named"] (defScope s_law_limit_right) := ⟨rfl, rfl, rfl, by decide +kernel, rfl, by decide +kernel, by decide +kernel⟩
abbrev s_law_wrong_right : Stmt := top 38
theorem sc_law_wrong_right : FnScope ["box", "disk", "state", "named", "way", "page", "count", "text"] ["box", "disk", "state", "named"] (defScope s_law_wrong_right) := ⟨rfl, rfl, rfl, by decide +kernel, rfl, by decide +kernel, by decide +kernel⟩
abbrev s_law_cut_right : Stmt := top 39
theorem sc_law_cut_right : FnScope ["box", "disk", "state", "named", "page", "text", "old", "many", "turn"] ["box", "disk", "state", "named"] (defScope s_law_cut_right) := ⟨rfl, rfl, rfl, by decide +kernel, rfl, by decide +kernel, by decide +kernel⟩
abbrev s_law_deed_right : Stmt := top 40
theorem sc_law_deed_right : FnScope ["box", "disk", "state", "named", "way"] ["box", "disk", "state", "named"] (defScope s_law_deed_right) := ⟨rfl, rfl, rfl, by decide +kernel, rfl, by decide +kernel, by decide +kernel⟩
abbrev s_law_sizes_right : Stmt := top 41
theorem sc_law_sizes_right : FnScope ["box", "named", "pages", "width", "way", "told"] ["box", "named"] (defScope s_law_sizes_right) := ⟨rfl, rfl, rfl, by decide +kernel, rfl, by decide +kernel, by decide +kernel⟩
abbrev s_law_pair_right : Stmt := top 42
theorem sc_law_pair_right : FnScope ["box", "named", "pairs", "pages", "width", "turn", "which", "disk", "state"] ["box"] (defScope s_law_pair_right) := ⟨rfl, rfl, rfl, by decide +kernel, rfl, by decide +kernel, by decide +kernel⟩
abbrev s_law_long_right : Stmt := top 43
theorem sc_law_long_right : FnScope ["box", "disk", "state", "turn", "way", "good"] ["box"] (defScope s_law_long_right) := ⟨rfl, rfl, rfl, by decide +kernel, rfl, by decide +kernel, by decide +kernel⟩
abbrev s_law : Stmt := top 44
theorem sc_law : FnScope ["script", "k", "box"] ["script"] (defScope s_law) := ⟨rfl, rfl, rfl, by decide +kernel, rfl, by decide +kernel, by decide +kernel⟩
/-- where the classes stand -/
structure Ad where
  disk : Addr
  eC : Addr
  eG : Addr
  eP : Addr
  eT : Addr
  eW : Addr
  eX : Addr
  near : Addr
/-- what the top has written -/
structure Txt (K : PySem.W.Frag) (mg : Str → Option Value) (a : Ad) : Prop where
  b_abs : mg "abs" = none
  b_all : mg "all" = none
  b_bool : mg "bool" = none
  b_dict : mg "dict" = none
  b_int : mg "int" = none
  b_isinstance : mg "isinstance" = none
  b_len : mg "len" = none
  b_list : mg "list" = none
  b_max : mg "max" = none
  b_min : mg "min" = none
  b_range : mg "range" = none
  b_str : mg "str" = none
  b_sum : mg "sum" = none
  b_tuple : mg "tuple" = none
  k_LEAST_PAGES : ∃ t, mg "LEAST_PAGES" = some (.int 2 t)
  k_LEAST_WIDTH : ∃ t, mg "LEAST_WIDTH" = some (.int 20 t)
  k_MOST_PAGES : ∃ t, mg "MOST_PAGES" = some (.int 60 t)
  k_MOST_WIDTH : ∃ t, mg "MOST_WIDTH" = some (.int 400 t)
  c_Disk : mg "Disk" = some (.ref a.disk)
  c_NearError : mg "NearError" = some (.ref a.near)
  c_InvalidText : mg "InvalidText" = some (.ref a.eT)
  c_InvalidCount : mg "InvalidCount" = some (.ref a.eC)
  c_InvalidPages : mg "InvalidPages" = some (.ref a.eP)
  c_InvalidWidth : mg "InvalidWidth" = some (.ref a.eW)
  c_InvalidPage : mg "InvalidPage" = some (.ref a.eG)
  c_PowerCut : mg "PowerCut" = some (.ref a.eX)
  cl_Disk : Cls K a.disk
  na_Disk_pages : NoAttr K a.disk "pages"
  na_Disk_width : NoAttr K a.disk "width"
  na_Disk_left : NoAttr K a.disk "left"
  na_Disk_texts : NoAttr K a.disk "_texts"
  in_Disk : PySem.W.findIn K (.ref a.disk) "__class__" = some (some (.builtin "object.__class__")) ∧ PySem.W.specialIn K (.builtin "object.__class__") "__get__" = some (some (.builtin "getset_descriptor.__get__")) ∧ PySem.W.takesIn K (.builtin "object.__class__") = some true ∧ PySem.W.mroIn K a.disk (.type "object") = some true ∧ PySem.W.kitOne K (.ref a.disk) (.ref a.disk) = some true
  near : ∃ mc, NearC K mg "NearError" a.near mc
  xf_InvalidText : XfC K a.eT ∧ PySem.W.findIn K (.ref a.eT) "given" = some none
  ec_InvalidText : ExcC K a.eT ∧ PySem.W.kitOne K (.ref a.eT) (.ref a.near) = some true
  xf_InvalidCount : XfC K a.eC ∧ PySem.W.findIn K (.ref a.eC) "given" = some none
  ec_InvalidCount : ExcC K a.eC ∧ PySem.W.kitOne K (.ref a.eC) (.ref a.near) = some true
  xf_InvalidPages : XfC K a.eP ∧ PySem.W.findIn K (.ref a.eP) "given" = some none
  ec_InvalidPages : ExcC K a.eP ∧ PySem.W.kitOne K (.ref a.eP) (.ref a.near) = some true
  xf_InvalidWidth : XfC K a.eW ∧ PySem.W.findIn K (.ref a.eW) "given" = some none
  ec_InvalidWidth : ExcC K a.eW ∧ PySem.W.kitOne K (.ref a.eW) (.ref a.near) = some true
  xf_InvalidPage : XfC K a.eG ∧ PySem.W.findIn K (.ref a.eG) "given" = some none
  ec_InvalidPage : ExcC K a.eG ∧ PySem.W.kitOne K (.ref a.eG) (.ref a.near) = some true
  ec_PowerCut : ExcC K a.eX ∧ PySem.W.kitOne K (.ref a.eX) (.ref a.near) = some true
  exm_InvalidPages_InvalidPages : PySem.W.exmOne K (.ref a.eP) (.ref a.eP) = some true
  exm_InvalidWidth_InvalidPages : PySem.W.exmOne K (.ref a.eW) (.ref a.eP) = some false
  exm_InvalidWidth_InvalidWidth : PySem.W.exmOne K (.ref a.eW) (.ref a.eW) = some true
  exm_InvalidPage_InvalidPage : PySem.W.exmOne K (.ref a.eG) (.ref a.eG) = some true
  exm_InvalidText_InvalidPage : PySem.W.exmOne K (.ref a.eT) (.ref a.eG) = some false
  exm_InvalidText_InvalidText : PySem.W.exmOne K (.ref a.eT) (.ref a.eT) = some true
  exm_PowerCut_InvalidPage : PySem.W.exmOne K (.ref a.eX) (.ref a.eG) = some false
  exm_PowerCut_InvalidText : PySem.W.exmOne K (.ref a.eX) (.ref a.eT) = some false
  exm_PowerCut_PowerCut : PySem.W.exmOne K (.ref a.eX) (.ref a.eX) = some true
  exm_InvalidCount_InvalidCount : PySem.W.exmOne K (.ref a.eC) (.ref a.eC) = some true
  D_InvalidText_init : DfnE K mg "InvalidText" a.eT "InvalidText.__init__" s_InvalidText_init ["self", "given"]
  D_InvalidCount_init : DfnE K mg "InvalidCount" a.eC "InvalidCount.__init__" s_InvalidCount_init ["self", "given"]
  D_InvalidPages_init : DfnE K mg "InvalidPages" a.eP "InvalidPages.__init__" s_InvalidPages_init ["self", "given"]
  D_InvalidWidth_init : DfnE K mg "InvalidWidth" a.eW "InvalidWidth.__init__" s_InvalidWidth_init ["self", "given"]
  D_InvalidPage_init : DfnE K mg "InvalidPage" a.eG "InvalidPage.__init__" s_InvalidPage_init ["self", "given"]
  D_PowerCut_init : DfnE K mg "PowerCut" a.eX "PowerCut.__init__" s_PowerCut_init ["self"]
  D_is_integer : Dfn K mg "is_integer" s_is_integer ["value"]
  D_is_within : Dfn K mg "is_within" s_is_within ["value", "low", "high"]
  D_is_index : Dfn K mg "is_index" s_is_index ["value", "many"]
  D_is_page_text : Dfn K mg "is_page_text" s_is_page_text ["value", "width"]
  D_Disk_init : DfnI K a.disk "Disk.__init__" s_Disk_init ["self", "pages", "width"]
  D_Disk_check : DfnM K a.disk "_check" "Disk._check" s_Disk_check ["self", "page"]
  D_Disk_text : DfnM K a.disk "text" "Disk.text" s_Disk_text ["self", "page"]
  D_Disk_write : DfnM K a.disk "write" "Disk.write" s_Disk_write ["self", "page", "text"]
  D_Disk_limit : DfnM K a.disk "limit" "Disk.limit" s_Disk_limit ["self", "count"]
  D_law_cell : Dfn K mg "_law_cell" s_law_cell ["script", "k"]
  D_law_box : Dfn K mg "_law_box" s_law_box ["great"]
  D_law_take : Dfn K mg "_law_take" s_law_take ["box", "many"]
  D_law_signs : Dfn K mg "_law_signs" s_law_signs []
  D_law_text : Dfn K mg "_law_text" s_law_text ["box", "many"]
  D_law_good : Dfn K mg "_law_good" s_law_good ["box", "width"]
  D_law_bad_text : Dfn K mg "_law_bad_text" s_law_bad_text ["box", "width"]
  D_law_bad_page : Dfn K mg "_law_bad_page" s_law_bad_page ["box", "pages"]
  D_law_bad_size : Dfn K mg "_law_bad_size" s_law_bad_size ["box", "low", "high"]
  D_law_like : Dfn K mg "_law_like" s_law_like ["told", "due"]
  D_law_given : Dfn K mg "_law_given" s_law_given ["told", "word", "value"]
  D_law_made : Dfn K mg "_law_made" s_law_made ["pages", "width", "named"]
  D_law_write : Dfn K mg "_law_write" s_law_write ["disk", "page", "text", "named"]
  D_law_read : Dfn K mg "_law_read" s_law_read ["disk", "page", "named"]
  D_law_limit : Dfn K mg "_law_limit" s_law_limit ["disk", "count", "named"]
  D_law_state_right : Dfn K mg "_law_state_right" s_law_state_right ["disk", "state", "named"]
  D_law_write_right : Dfn K mg "_law_write_right" s_law_write_right ["disk", "state", "page", "text", "named"]
  D_law_limit_right : Dfn K mg "_law_limit_right" s_law_limit_right ["disk", "state", "count", "named"]
  D_law_wrong_right : Dfn K mg "_law_wrong_right" s_law_wrong_right ["box", "disk", "state", "named"]
  D_law_cut_right : Dfn K mg "_law_cut_right" s_law_cut_right ["box", "disk", "state", "named"]
  D_law_deed_right : Dfn K mg "_law_deed_right" s_law_deed_right ["box", "disk", "state", "named"]
  D_law_sizes_right : Dfn K mg "_law_sizes_right" s_law_sizes_right ["box", "named"]
  D_law_pair_right : Dfn K mg "_law_pair_right" s_law_pair_right ["box"]
  D_law_long_right : Dfn K mg "_law_long_right" s_law_long_right ["box"]
  D_law : Dfn K mg "law" s_law ["script"]
def gk_Disk_init_width_pages {α : Type} (us zs : List α) : List α := match us, zs with | [u], [z0, z1] => [u, z1, z0] | _, _ => []
theorem kb_Disk_init_width_pages {K : PySem.W.Frag} : ∀ f fd, Fun K "__init__" "Disk.__init__" s_Disk_init f fd → KBn K fd ["self", "pages", "width"] 1 ["width", "pages"] (fun us ws => gk_Disk_init_width_pages us ws) (fun us ws => gk_Disk_init_width_pages us ws) := fun f fd F =>
  Lay.Fun.kbn F (ks := ["width", "pages"]) (fun us ws => gk_Disk_init_width_pages us ws)
    (fun {vs zs us ws} h1 h2 r1 r2 => by
      match vs, h1, zs, h2, us, ws, r1, r2 with
      | [_], _, [_, _], _, _, _, .cons r .nil, .cons r0 (.cons r1 .nil) => exact .cons r (.cons r1 (.cons r0 .nil)))
    (fun us zs h => by
      match us, zs, h with
      | [_], [_, _], h => exact absurd ⟨rfl, rfl⟩ h
      | [], _, _ => rfl
      | _ :: _ :: _, _, _ => rfl
      | [_], [], _ => rfl
      | [_], [_], _ => rfl
      | [_], _ :: _ :: _ :: _, _ => rfl)
    (fun _ _ _ _ _ _ us ws h1 h2 => match us, h1, ws, h2 with | [_], _, [_, _], _ => rfl)
def gk_Disk_write_text_page {α : Type} (us zs : List α) : List α := match us, zs with | [u], [z0, z1] => [u, z1, z0] | _, _ => []
theorem kb_Disk_write_text_page {K : PySem.W.Frag} : ∀ f fd, Fun K "write" "Disk.write" s_Disk_write f fd → KBn K fd ["self", "page", "text"] 1 ["text", "page"] (fun us ws => gk_Disk_write_text_page us ws) (fun us ws => gk_Disk_write_text_page us ws) := fun f fd F =>
  Lay.Fun.kbn F (ks := ["text", "page"]) (fun us ws => gk_Disk_write_text_page us ws)
    (fun {vs zs us ws} h1 h2 r1 r2 => by
      match vs, h1, zs, h2, us, ws, r1, r2 with
      | [_], _, [_, _], _, _, _, .cons r .nil, .cons r0 (.cons r1 .nil) => exact .cons r (.cons r1 (.cons r0 .nil)))
    (fun us zs h => by
      match us, zs, h with
      | [_], [_, _], h => exact absurd ⟨rfl, rfl⟩ h
      | [], _, _ => rfl
      | _ :: _ :: _, _, _ => rfl
      | [_], [], _ => rfl
      | [_], [_], _ => rfl
      | [_], _ :: _ :: _ :: _, _ => rfl)
    (fun _ _ _ _ _ _ us ws h1 h2 => match us, h1, ws, h2 with | [_], _, [_, _], _ => rfl)
def gk_Disk_text_page {α : Type} (us zs : List α) : List α := match us, zs with | [u], [z0] => [u, z0] | _, _ => []
theorem kb_Disk_text_page {K : PySem.W.Frag} : ∀ f fd, Fun K "text" "Disk.text" s_Disk_text f fd → KBn K fd ["self", "page"] 1 ["page"] (fun us ws => gk_Disk_text_page us ws) (fun us ws => gk_Disk_text_page us ws) := fun f fd F =>
  Lay.Fun.kbn F (ks := ["page"]) (fun us ws => gk_Disk_text_page us ws)
    (fun {vs zs us ws} h1 h2 r1 r2 => by
      match vs, h1, zs, h2, us, ws, r1, r2 with
      | [_], _, [_], _, _, _, .cons r .nil, .cons r0 .nil => exact .cons r (.cons r0 .nil))
    (fun us zs h => by
      match us, zs, h with
      | [_], [_], h => exact absurd ⟨rfl, rfl⟩ h
      | [], _, _ => rfl
      | _ :: _ :: _, _, _ => rfl
      | [_], [], _ => rfl
      | [_], _ :: _ :: _, _ => rfl)
    (fun _ _ _ _ _ _ us ws h1 h2 => match us, h1, ws, h2 with | [_], _, [_], _ => rfl)
def gk_Disk_limit_count {α : Type} (us zs : List α) : List α := match us, zs with | [u], [z0] => [u, z0] | _, _ => []
theorem kb_Disk_limit_count {K : PySem.W.Frag} : ∀ f fd, Fun K "limit" "Disk.limit" s_Disk_limit f fd → KBn K fd ["self", "count"] 1 ["count"] (fun us ws => gk_Disk_limit_count us ws) (fun us ws => gk_Disk_limit_count us ws) := fun f fd F =>
  Lay.Fun.kbn F (ks := ["count"]) (fun us ws => gk_Disk_limit_count us ws)
    (fun {vs zs us ws} h1 h2 r1 r2 => by
      match vs, h1, zs, h2, us, ws, r1, r2 with
      | [_], _, [_], _, _, _, .cons r .nil, .cons r0 .nil => exact .cons r (.cons r0 .nil))
    (fun us zs h => by
      match us, zs, h with
      | [_], [_], h => exact absurd ⟨rfl, rfl⟩ h
      | [], _, _ => rfl
      | _ :: _ :: _, _, _ => rfl
      | [_], [], _ => rfl
      | [_], _ :: _ :: _, _ => rfl)
    (fun _ _ _ _ _ _ us ws h1 h2 => match us, h1, ws, h2 with | [_], _, [_], _ => rfl)
/-! ### plain words -/
def goodC (c : Nat) : Bool := decide (32 ≤ c) && decide (c ≤ 126)
def Good (z : Str) : Prop := z.cps.toList.all goodC = true
def within (v : V) (l h : Int) : Bool := match v with | .int i => decide (l ≤ i) && decide (i ≤ h) | _ => false
def idx (v : V) (m : Int) : Bool := match v with | .int i => decide (0 ≤ i) && decide (i < m) | _ => false
def pageT (v : V) (n : Int) : Bool := match v with | .str z => decide ((z.length : Int) ≤ n) && z.cps.toList.all goodC | _ => false
def cntOk (v : V) : Bool := match v with | .non => true | .int i => decide (0 ≤ i) | _ => false
def LeftOk (lf : V) : Prop := lf = .non ∨ ∃ k : Int, lf = .int k ∧ 0 ≤ k
/-- the fields of a disk -/
def df (pg wd : Int) (lf : V) (l : Addr) : List (Str × V) := [("pages", .int pg), ("width", .int wd), ("left", lf), ("_texts", .ref l)]
/-- a disk stands at d, its texts' list at l -/
structure DiskAt (a : Ad) (H : Hp) (d dx l : Addr) (pg wd : Int) (lf : V) (ts : List Str) : Prop where
  d : H d = some (.ins a.disk dx (df pg wd lf l))
  l : H l = some (.lst (ts.map V.str))
  n : (ts.length : Int) = pg
  p2 : 2 ≤ pg
  p60 : pg ≤ 60
  w20 : 20 ≤ wd
  w400 : wd ≤ 400
  lo : LeftOk lf
  g : ∀ t ∈ ts, t.length ≤ 400
/-- a write: the texts, what is left, whether it was cut -/
def wr (ts : List Str) (lf : V) (p : Nat) (z : Str) : List Str × V × Bool := match lf with
  | .int k => if (z.length : Int) < k then (ts.set p z, .int (k - z.length - 1), false) else (ts.set p (cutS z none (some k) ++ cutS (ts.getD p Str.empty) (some k) none), .int 0, true)
  | _ => (ts.set p z, .non, false)
/-- an error with its value is let out -/
def ErrE (E : XK) (C : Addr) (v : V) (H : Hp) : Prop := ∀ e H', H e = none → Same H H' → H' e = some (.xd [("given", v)]) → E (.ref C) (some e) H'
/-- the answer [word, value, True] -/
def Ans (Q : VK) (w : Str) (v : V) (H : Hp) : Prop := ∀ r H', H r = none → Same H H' → H' r = some (.lst [.str w, v, .bl true]) → Q (.ref r) H'

/-! ### the program's promises -/
abbrev sp_InvalidText_init (a : Ad) : Sp := spErr a.eT "given"
abbrev sp_InvalidCount_init (a : Ad) : Sp := spErr a.eC "given"
abbrev sp_InvalidPages_init (a : Ad) : Sp := spErr a.eP "given"
abbrev sp_InvalidWidth_init (a : Ad) : Sp := spErr a.eW "given"
abbrev sp_InvalidPage_init (a : Ad) : Sp := spErr a.eG "given"
abbrev sp_PowerCut_init (a : Ad) : Sp := spErr0 a.eX
abbrev sp_is_integer : Sp := sp1 fun v H Q _ => Kn H v ∧ Q (.bl (isI v)) H
abbrev sp_is_within : Sp := sp3 fun v lo hi H Q _ => ∃ l h, lo = .int l ∧ hi = .int h ∧ Kn H v ∧ Q (.bl (within v l h)) H
abbrev sp_is_index : Sp := sp2 fun v m H Q _ => ∃ n, m = .int n ∧ Kn H v ∧ Q (.bl (idx v n)) H
abbrev sp_is_page_text : Sp := sp2 fun v w H Q _ => ∃ n, w = .int n ∧ Kn H v ∧ ∀ H', Same H H' → Q (.bl (pageT v n)) H'
abbrev sp_Disk_init (a : Ad) : Sp := sp3 fun x pages width H Q E => ∃ p dx, x = .ref p ∧ H p = some (.ins a.disk dx []) ∧ Kn H pages ∧ Kn H width ∧
  (within pages 2 60 = false → ErrE E a.eP pages H) ∧ (within pages 2 60 = true → within width 20 400 = false → ErrE E a.eW width H) ∧
  ∀ pg wd, pages = .int pg → width = .int wd → 2 ≤ pg → pg ≤ 60 → 20 ≤ wd → wd ≤ 400 → ∀ l H', H l = none → l ≠ p → But p H H' → DiskAt a H' p dx l pg wd .non (List.replicate pg.toNat Str.empty) → Q .non H'
abbrev sp_Disk_check (a : Ad) : Sp := sp2 fun x page H Q E => ∃ d dx pg wd lf l, x = .ref d ∧ H d = some (.ins a.disk dx (df pg wd lf l)) ∧ Kn H page ∧ (idx page pg = false → ErrE E a.eG page H) ∧ (idx page pg = true → Q .non H)
abbrev sp_Disk_text (a : Ad) : Sp := sp2 fun x page H Q E => ∃ d dx l pg wd lf ts, x = .ref d ∧ DiskAt a H d dx l pg wd lf ts ∧ Kn H page ∧ (idx page pg = false → ErrE E a.eG page H) ∧
  ∀ (i : Nat) t, page = .int i → ts[i]? = some t → Q (.str t) H
abbrev sp_Disk_write (a : Ad) : Sp := sp3 fun x page text H Q E => ∃ d dx l pg wd lf ts, x = .ref d ∧ DiskAt a H d dx l pg wd lf ts ∧ Kn H page ∧ Kn H text ∧
  (idx page pg = false → ErrE E a.eG page H) ∧ (idx page pg = true → pageT text wd = false → ErrE E a.eT text H) ∧
  ∀ (i : Nat) z, page = .int i → i < ts.length → text = .str z → pageT text wd = true → ∀ H', Buts (fun b => b = d ∨ b = l) H H' → DiskAt a H' d dx l pg wd (wr ts lf i z).2.1 (wr ts lf i z).1 →
    if (wr ts lf i z).2.2 = true then E (.ref a.eX) none H' else Q .non H'
abbrev sp_Disk_limit (a : Ad) : Sp := sp2 fun x c H Q E => ∃ d dx l pg wd lf ts, x = .ref d ∧ DiskAt a H d dx l pg wd lf ts ∧ Kn H c ∧ (cntOk c = false → ErrE E a.eC c H) ∧
  (cntOk c = true → ∀ H', But d H H' → DiskAt a H' d dx l pg wd c ts → Q .non H')

/-! ### the law's own words -/
/-- a box: what is left of a great cell, whether it was one, the seed, the turns -/
def Box (H : Hp) (b : Addr) (n : Nat) : Prop := ∃ (g m k : Int) (c : Bool), H b = some (.lst [.int g, .bl c, .int m, .int k]) ∧ 0 ≤ g ∧ 0 ≤ m ∧ m < 2147483629 ∧ 0 ≤ k ∧ k ≤ n
/-- data that a wrong value may be -/
inductive Dat (H : Hp) : Nat → V → Prop
  | non {n} : Dat H n .non
  | bl {n} (b : Bool) : Dat H n (.bl b)
  | int {n} (i : Int) : Dat H n (.int i)
  | str {n} {z : Str} (l : z.length ≤ 5000) : Dat H n (.str z)
  | lst {n} {a : Addr} {xs : List V} (h : H a = some (.lst xs)) (l : xs.length ≤ 90) (k : ∀ x ∈ xs, Dat H n x) : Dat H (n + 1) (.ref a)
  | tup {n} {a : Addr} {xs : List V} (h : H a = some (.tup xs)) (l : xs.length ≤ 90) (k : ∀ x ∈ xs, Dat H n x) : Dat H (n + 1) (.ref a)
  | dic {n} {a : Addr} (h : H a = some (.dK [])) : Dat H n (.ref a)
/-- alike in each place -/
inductive Sim (H : Hp) : Nat → V → V → Prop
  | non {n} : Sim H n .non .non
  | bl {n} (b : Bool) : Sim H n (.bl b) (.bl b)
  | int {n} (i : Int) : Sim H n (.int i) (.int i)
  | str {n} {z : Str} (l : z.length ≤ 5000) : Sim H n (.str z) (.str z)
  | lst {n} {a b : Addr} {xs ys : List V} (h : H a = some (.lst xs)) (h' : H b = some (.lst ys)) (l : xs.length = ys.length) (m : ys.length ≤ 100) (k : ∀ (i : Nat) x y, xs[i]? = some x → ys[i]? = some y → Sim H n x y) : Sim H (n + 1) (.ref a) (.ref b)
  | tup {n} {a b : Addr} {xs ys : List V} (h : H a = some (.tup xs)) (h' : H b = some (.tup ys)) (l : xs.length = ys.length) (m : ys.length ≤ 100) (k : ∀ (i : Nat) x y, xs[i]? = some x → ys[i]? = some y → Sim H n x y) : Sim H (n + 1) (.ref a) (.ref b)
  | dic {n} {a b : Addr} (h : H a = some (.dK [])) (h' : H b = some (.dK [])) : Sim H n (.ref a) (.ref b)
def NewV (H : Hp) (v : V) : Prop := ∀ q, v = .ref q → H q = none
/-- a disk and its own state -/
structure Pr (a : Ad) (H : Hp) (d l s tl : Addr) (pg wd : Int) (lf : V) (ts : List Str) : Prop where
  dk : ∃ dx, DiskAt a H d dx l pg wd lf ts
  st : H s = some (.lst [.int pg, .int wd, .ref tl, lf])
  sl : H tl = some (.lst (ts.map V.str))
  nl : l ≠ tl
  ns1 : s ≠ l
  ns2 : s ≠ tl
def PF (d l s tl : Addr) : Addr → Prop := fun b => b = d ∨ b = l ∨ b = s ∨ b = tl
def signsT : Str := " !\"#$&'()*+,-./0123456789:;<=>?@ABCDEFGHIJKLMNOPQRSTUVWXYZ[\\]^_`abcdefghijklmnopqrstuvwxyz{|}~"

abbrev sp_law_cell (K : PySem.W.Frag) : Sp := sp2 fun s vk H Q _ => ∃ (p : Addr) (ns : List Int) (k : Int), s = .ref p ∧ vk = .int k ∧ SqL K H p (ns.map V.int) ∧ 0 ≤ k ∧ ∀ r H', Same H H' → Q (.int r) H'
abbrev sp_law_box : Sp := sp1 fun g H Q _ => ∃ i, g = .int i ∧ ∀ b H', H b = none → Same H H' → Box H' b 0 → Q (.ref b) H'
abbrev sp_law_take : Sp := sp2 fun b m H Q _ => ∃ p i n, b = .ref p ∧ m = .int i ∧ 0 < i ∧ i < 1000000 ∧ Box H p n ∧ n ≤ 100000000 ∧ ∀ r H', 0 ≤ r → r < i → But p H H' → Box H' p (n + 1) → Q (.int r) H'
abbrev sp_law_signs : Sp := sp0 fun H Q _ => Q (.str signsT) H
abbrev sp_law_text : Sp := sp2 fun b m H Q _ => ∃ p i n, b = .ref p ∧ m = .int i ∧ 0 ≤ i ∧ i ≤ 100 ∧ Box H p n ∧ n ≤ 10000000 ∧ ∀ z H', (z.length : Int) = i → Good z → But p H H' → Box H' p (n + 100) → Q (.str z) H'
abbrev sp_law_good : Sp := sp2 fun b w H Q _ => ∃ p i n, b = .ref p ∧ w = .int i ∧ 20 ≤ i ∧ i ≤ 400 ∧ Box H p n ∧ n ≤ 1000000 ∧ ∀ z H', (z.length : Int) ≤ i → Good z → But p H H' → Box H' p (n + 200) → Q (.str z) H'
abbrev sp_law_bad_text : Sp := sp2 fun b w H Q _ => ∃ p i n, b = .ref p ∧ w = .int i ∧ 20 ≤ i ∧ i ≤ 400 ∧ Box H p n ∧ n ≤ 1000000 ∧ ∀ v H', But p H H' → Box H' p (n + 200) → Dat H' 1 v → NewV H v → pageT v i = false → Q v H'
abbrev sp_law_bad_page : Sp := sp2 fun b m H Q _ => ∃ p i n, b = .ref p ∧ m = .int i ∧ 2 ≤ i ∧ i ≤ 60 ∧ Box H p n ∧ n ≤ 1000000 ∧ ∀ v H', But p H H' → Box H' p (n + 10) → Dat H' 1 v → NewV H v → idx v i = false → Q v H'
abbrev sp_law_bad_size : Sp := sp3 fun b lo hi H Q _ => ∃ p i j n, b = .ref p ∧ lo = .int i ∧ hi = .int j ∧ 2 ≤ i ∧ i ≤ j ∧ j ≤ 400 ∧ Box H p n ∧ n ≤ 1000000 ∧ ∀ v H', But p H H' → Box H' p (n + 10) → Dat H' 1 v → NewV H v → within v i j = false → Q v H'
abbrev sp_like (n : Nat) : Sp := sp2 fun t d H Q _ => Sim H n t d ∧ ∀ H', Same H H' → Q (.bl true) H'
abbrev sp_law_like : Sp := sp_like 2
abbrev sp_law_given : Sp := sp3 fun t w v H Q _ => ∃ p z, t = .ref p ∧ w = .str z ∧ z.length ≤ 10 ∧ H p = some (.lst [.str z, v, .bl true]) ∧ Dat H 1 v ∧ ∀ H', Buts (fun b => v = .ref b ∧ ∃ xs, H b = some (.lst xs)) H H' → Q (.bl true) H'
abbrev sp_law_made (a : Ad) : Sp := sp3 fun pg wd nm H Q _ => ∃ b, nm = .bl b ∧ Kn H pg ∧ Kn H wd ∧ (within pg 2 60 = false → Ans Q "pages" pg H) ∧ (within pg 2 60 = true → within wd 20 400 = false → Ans Q "width" wd H) ∧
  ∀ i j, pg = .int i → wd = .int j → 2 ≤ i → i ≤ 60 → 20 ≤ j → j ≤ 400 → ∀ r d dx l H', H r = none → H d = none → H l = none → l ≠ d → Same H H' → H' r = some (.lst [.str "told", .ref d]) → DiskAt a H' d dx l i j .non (List.replicate i.toNat Str.empty) → Q (.ref r) H'
abbrev sp_law_write (a : Ad) : Sp := sp4 fun dk page text nm H Q _ => ∃ b d dx l pg wd lf ts, nm = .bl b ∧ dk = .ref d ∧ DiskAt a H d dx l pg wd lf ts ∧ Kn H page ∧ Kn H text ∧
  (idx page pg = false → Ans Q "page" page H) ∧ (idx page pg = true → pageT text wd = false → Ans Q "text" text H) ∧
  ∀ (i : Nat) z, page = .int i → i < ts.length → text = .str z → pageT text wd = true → ∀ r H', H r = none → Buts (fun b => b = d ∨ b = l) H H' → DiskAt a H' d dx l pg wd (wr ts lf i z).2.1 (wr ts lf i z).1 →
    H' r = some (.lst (if (wr ts lf i z).2.2 = true then [.str "cut", .bl true] else [.str "told", .non])) → Q (.ref r) H'
abbrev sp_law_read (a : Ad) : Sp := sp3 fun dk page nm H Q _ => ∃ b d dx l pg wd lf ts, nm = .bl b ∧ dk = .ref d ∧ DiskAt a H d dx l pg wd lf ts ∧ Kn H page ∧ idx page pg = false ∧ Ans Q "page" page H
abbrev sp_law_limit (a : Ad) : Sp := sp3 fun dk c nm H Q _ => ∃ b d dx l pg wd lf ts, nm = .bl b ∧ dk = .ref d ∧ DiskAt a H d dx l pg wd lf ts ∧ Kn H c ∧ (cntOk c = false → Ans Q "count" c H) ∧
  (cntOk c = true → ∀ r H', H r = none → But d H H' → DiskAt a H' d dx l pg wd c ts → H' r = some (.lst [.str "told", .non]) → Q (.ref r) H')
abbrev sp_law_state_right (a : Ad) : Sp := sp3 fun dk st nm H Q _ => ∃ b d l s tl pg wd lf ts, nm = .bl b ∧ dk = .ref d ∧ st = .ref s ∧ Pr a H d l s tl pg wd lf ts ∧ ∀ H', Same H H' → Q (.bl true) H'
abbrev sp_law_write_right (a : Ad) : Sp := sp5 fun dk st page text nm H Q _ => ∃ b d l s tl pg wd lf ts, ∃ (i : Nat) (z : Str), nm = .bl b ∧ dk = .ref d ∧ st = .ref s ∧ page = .int i ∧ i < ts.length ∧ text = .str z ∧ pageT (.str z) wd = true ∧ Pr a H d l s tl pg wd lf ts ∧
  ∀ lf' ts' H', Buts (PF d l s tl) H H' → Pr a H' d l s tl pg wd lf' ts' → Q (.bl true) H'
abbrev sp_law_limit_right (a : Ad) : Sp := sp4 fun dk st c nm H Q _ => ∃ b d l s tl pg wd lf ts, nm = .bl b ∧ dk = .ref d ∧ st = .ref s ∧ LeftOk c ∧ Pr a H d l s tl pg wd lf ts ∧ ∀ H', Buts (PF d l s tl) H H' → Pr a H' d l s tl pg wd c ts → Q (.bl true) H'
abbrev sp_law_wrong_right (a : Ad) : Sp := sp4 fun bx dk st nm H Q _ => ∃ p n b d l s tl pg wd lf ts, bx = .ref p ∧ nm = .bl b ∧ dk = .ref d ∧ st = .ref s ∧ Box H p n ∧ n ≤ 990000 ∧ Pr a H d l s tl pg wd lf ts ∧ ¬ PF d l s tl p ∧
  ∀ H', But p H H' → Box H' p (n + 500) → Q (.bl true) H'
abbrev sp_law_cut_right (a : Ad) : Sp := sp4 fun bx dk st nm H Q _ => ∃ p n b d l s tl pg wd lf ts, bx = .ref p ∧ nm = .bl b ∧ dk = .ref d ∧ st = .ref s ∧ Box H p n ∧ n ≤ 900000 ∧ Pr a H d l s tl pg wd lf ts ∧ ¬ PF d l s tl p ∧
  ∀ lf' ts' H', Buts (fun x => x = p ∨ PF d l s tl x) H H' → Box H' p (n + 3000) → Pr a H' d l s tl pg wd lf' ts' → Q (.bl true) H'
abbrev sp_law_deed_right (a : Ad) : Sp := sp4 fun bx dk st nm H Q _ => ∃ p n b d l s tl pg wd lf ts, bx = .ref p ∧ nm = .bl b ∧ dk = .ref d ∧ st = .ref s ∧ Box H p n ∧ n ≤ 800000 ∧ Pr a H d l s tl pg wd lf ts ∧ ¬ PF d l s tl p ∧
  ∀ lf' ts' H', Buts (fun x => x = p ∨ PF d l s tl x) H H' → Box H' p (n + 4000) → Pr a H' d l s tl pg wd lf' ts' → Q (.bl true) H'
abbrev sp_law_sizes_right : Sp := sp2 fun bx nm H Q _ => ∃ p n b, bx = .ref p ∧ nm = .bl b ∧ Box H p n ∧ n ≤ 10000 ∧ ∀ H', But p H H' → Box H' p (n + 1000) → Q (.bl true) H'
abbrev sp_law_pair_right : Sp := sp1 fun bx H Q _ => ∃ p n, bx = .ref p ∧ Box H p n ∧ n ≤ 100000 ∧ ∀ H', But p H H' → Q (.bl true) H'
abbrev sp_law_long_right : Sp := sp1 fun bx H Q _ => ∃ p n, bx = .ref p ∧ Box H p n ∧ n ≤ 10000 ∧ ∀ H', But p H H' → Q (.bl true) H'
abbrev sp_law (K : PySem.W.Frag) : Sp := sp1 fun s H Q _ => ∃ (p : Addr) (ns : List Int), s = .ref p ∧ SqL K H p (ns.map V.int) ∧ ns.length ≤ 63 ∧ ∀ H', Q (.bl true) H'
abbrev O_InvalidText_init (P : Program) (w : World) (K : PySem.W.Frag) (mg : Str → Option Value) (base : Heap) (a : Ad) : Prop := OkF P w K mg base 1 "__init__" "InvalidText.__init__" s_InvalidText_init ["self", "given"] (sp_InvalidText_init a)
abbrev G_InvalidText (P : Program) (w : World) (K : PySem.W.Frag) (mg : Str → Option Value) (base : Heap) (a : Ad) : Prop := ErrAt P w K mg base 1 "InvalidText" a.eT ["self", "given"] (sp_InvalidText_init a)
abbrev O_InvalidCount_init (P : Program) (w : World) (K : PySem.W.Frag) (mg : Str → Option Value) (base : Heap) (a : Ad) : Prop := OkF P w K mg base 1 "__init__" "InvalidCount.__init__" s_InvalidCount_init ["self", "given"] (sp_InvalidCount_init a)
abbrev G_InvalidCount (P : Program) (w : World) (K : PySem.W.Frag) (mg : Str → Option Value) (base : Heap) (a : Ad) : Prop := ErrAt P w K mg base 1 "InvalidCount" a.eC ["self", "given"] (sp_InvalidCount_init a)
abbrev O_InvalidPages_init (P : Program) (w : World) (K : PySem.W.Frag) (mg : Str → Option Value) (base : Heap) (a : Ad) : Prop := OkF P w K mg base 1 "__init__" "InvalidPages.__init__" s_InvalidPages_init ["self", "given"] (sp_InvalidPages_init a)
abbrev G_InvalidPages (P : Program) (w : World) (K : PySem.W.Frag) (mg : Str → Option Value) (base : Heap) (a : Ad) : Prop := ErrAt P w K mg base 1 "InvalidPages" a.eP ["self", "given"] (sp_InvalidPages_init a)
abbrev O_InvalidWidth_init (P : Program) (w : World) (K : PySem.W.Frag) (mg : Str → Option Value) (base : Heap) (a : Ad) : Prop := OkF P w K mg base 1 "__init__" "InvalidWidth.__init__" s_InvalidWidth_init ["self", "given"] (sp_InvalidWidth_init a)
abbrev G_InvalidWidth (P : Program) (w : World) (K : PySem.W.Frag) (mg : Str → Option Value) (base : Heap) (a : Ad) : Prop := ErrAt P w K mg base 1 "InvalidWidth" a.eW ["self", "given"] (sp_InvalidWidth_init a)
abbrev O_InvalidPage_init (P : Program) (w : World) (K : PySem.W.Frag) (mg : Str → Option Value) (base : Heap) (a : Ad) : Prop := OkF P w K mg base 1 "__init__" "InvalidPage.__init__" s_InvalidPage_init ["self", "given"] (sp_InvalidPage_init a)
abbrev G_InvalidPage (P : Program) (w : World) (K : PySem.W.Frag) (mg : Str → Option Value) (base : Heap) (a : Ad) : Prop := ErrAt P w K mg base 1 "InvalidPage" a.eG ["self", "given"] (sp_InvalidPage_init a)
abbrev O_PowerCut_init (P : Program) (w : World) (K : PySem.W.Frag) (mg : Str → Option Value) (base : Heap) (a : Ad) : Prop := OkF P w K mg base 1 "__init__" "PowerCut.__init__" s_PowerCut_init ["self"] (sp_PowerCut_init a)
abbrev G_PowerCut (P : Program) (w : World) (K : PySem.W.Frag) (mg : Str → Option Value) (base : Heap) (a : Ad) : Prop := ErrAt P w K mg base 1 "PowerCut" a.eX ["self"] (sp_PowerCut_init a)
abbrev O_is_integer (P : Program) (w : World) (K : PySem.W.Frag) (mg : Str → Option Value) (base : Heap) (a : Ad) : Prop := OkF P w K mg base 1 "is_integer" "is_integer" s_is_integer ["value"] sp_is_integer
abbrev G_is_integer (P : Program) (w : World) (K : PySem.W.Frag) (mg : Str → Option Value) (base : Heap) (a : Ad) : Prop := Here P w K mg base 1 "is_integer" ["value"] sp_is_integer
abbrev O_is_within (P : Program) (w : World) (K : PySem.W.Frag) (mg : Str → Option Value) (base : Heap) (a : Ad) : Prop := OkF P w K mg base 2 "is_within" "is_within" s_is_within ["value", "low", "high"] sp_is_within
abbrev G_is_within (P : Program) (w : World) (K : PySem.W.Frag) (mg : Str → Option Value) (base : Heap) (a : Ad) : Prop := Here P w K mg base 2 "is_within" ["value", "low", "high"] sp_is_within
abbrev O_is_index (P : Program) (w : World) (K : PySem.W.Frag) (mg : Str → Option Value) (base : Heap) (a : Ad) : Prop := OkF P w K mg base 2 "is_index" "is_index" s_is_index ["value", "many"] sp_is_index
abbrev G_is_index (P : Program) (w : World) (K : PySem.W.Frag) (mg : Str → Option Value) (base : Heap) (a : Ad) : Prop := Here P w K mg base 2 "is_index" ["value", "many"] sp_is_index
abbrev O_is_page_text (P : Program) (w : World) (K : PySem.W.Frag) (mg : Str → Option Value) (base : Heap) (a : Ad) : Prop := OkF P w K mg base 1 "is_page_text" "is_page_text" s_is_page_text ["value", "width"] sp_is_page_text
abbrev G_is_page_text (P : Program) (w : World) (K : PySem.W.Frag) (mg : Str → Option Value) (base : Heap) (a : Ad) : Prop := Here P w K mg base 1 "is_page_text" ["value", "width"] sp_is_page_text
abbrev O_Disk_init (P : Program) (w : World) (K : PySem.W.Frag) (mg : Str → Option Value) (base : Heap) (a : Ad) : Prop := OkF P w K mg base 3 "__init__" "Disk.__init__" s_Disk_init ["self", "pages", "width"] (sp_Disk_init a)
abbrev G_Disk_init (P : Program) (w : World) (K : PySem.W.Frag) (mg : Str → Option Value) (base : Heap) (a : Ad) : Prop := HereC P w K mg base 3 a.disk ["self", "pages", "width"] (sp_Disk_init a)
abbrev O_Disk_check (P : Program) (w : World) (K : PySem.W.Frag) (mg : Str → Option Value) (base : Heap) (a : Ad) : Prop := OkF P w K mg base 3 "_check" "Disk._check" s_Disk_check ["self", "page"] (sp_Disk_check a)
abbrev G_Disk_check (P : Program) (w : World) (K : PySem.W.Frag) (mg : Str → Option Value) (base : Heap) (a : Ad) : Prop := HereM P w K mg base 3 a.disk "_check" ["self", "page"] (sp_Disk_check a)
abbrev O_Disk_text (P : Program) (w : World) (K : PySem.W.Frag) (mg : Str → Option Value) (base : Heap) (a : Ad) : Prop := OkF P w K mg base 4 "text" "Disk.text" s_Disk_text ["self", "page"] (sp_Disk_text a)
abbrev G_Disk_text (P : Program) (w : World) (K : PySem.W.Frag) (mg : Str → Option Value) (base : Heap) (a : Ad) : Prop := HereM P w K mg base 4 a.disk "text" ["self", "page"] (sp_Disk_text a)
abbrev O_Disk_write (P : Program) (w : World) (K : PySem.W.Frag) (mg : Str → Option Value) (base : Heap) (a : Ad) : Prop := OkF P w K mg base 4 "write" "Disk.write" s_Disk_write ["self", "page", "text"] (sp_Disk_write a)
abbrev G_Disk_write (P : Program) (w : World) (K : PySem.W.Frag) (mg : Str → Option Value) (base : Heap) (a : Ad) : Prop := HereM P w K mg base 4 a.disk "write" ["self", "page", "text"] (sp_Disk_write a)
abbrev O_Disk_limit (P : Program) (w : World) (K : PySem.W.Frag) (mg : Str → Option Value) (base : Heap) (a : Ad) : Prop := OkF P w K mg base 3 "limit" "Disk.limit" s_Disk_limit ["self", "count"] (sp_Disk_limit a)
abbrev G_Disk_limit (P : Program) (w : World) (K : PySem.W.Frag) (mg : Str → Option Value) (base : Heap) (a : Ad) : Prop := HereM P w K mg base 3 a.disk "limit" ["self", "count"] (sp_Disk_limit a)
abbrev O_law_cell (P : Program) (w : World) (K : PySem.W.Frag) (mg : Str → Option Value) (base : Heap) (a : Ad) : Prop := OkF P w K mg base 1 "_law_cell" "_law_cell" s_law_cell ["script", "k"] (sp_law_cell K)
abbrev G_law_cell (P : Program) (w : World) (K : PySem.W.Frag) (mg : Str → Option Value) (base : Heap) (a : Ad) : Prop := Here P w K mg base 1 "_law_cell" ["script", "k"] (sp_law_cell K)
abbrev O_law_box (P : Program) (w : World) (K : PySem.W.Frag) (mg : Str → Option Value) (base : Heap) (a : Ad) : Prop := OkF P w K mg base 1 "_law_box" "_law_box" s_law_box ["great"] sp_law_box
abbrev G_law_box (P : Program) (w : World) (K : PySem.W.Frag) (mg : Str → Option Value) (base : Heap) (a : Ad) : Prop := Here P w K mg base 1 "_law_box" ["great"] sp_law_box
abbrev O_law_take (P : Program) (w : World) (K : PySem.W.Frag) (mg : Str → Option Value) (base : Heap) (a : Ad) : Prop := OkF P w K mg base 1 "_law_take" "_law_take" s_law_take ["box", "many"] sp_law_take
abbrev G_law_take (P : Program) (w : World) (K : PySem.W.Frag) (mg : Str → Option Value) (base : Heap) (a : Ad) : Prop := Here P w K mg base 1 "_law_take" ["box", "many"] sp_law_take
abbrev O_law_signs (P : Program) (w : World) (K : PySem.W.Frag) (mg : Str → Option Value) (base : Heap) (a : Ad) : Prop := OkF P w K mg base 1 "_law_signs" "_law_signs" s_law_signs [] sp_law_signs
abbrev G_law_signs (P : Program) (w : World) (K : PySem.W.Frag) (mg : Str → Option Value) (base : Heap) (a : Ad) : Prop := Here P w K mg base 1 "_law_signs" [] sp_law_signs
abbrev O_law_text (P : Program) (w : World) (K : PySem.W.Frag) (mg : Str → Option Value) (base : Heap) (a : Ad) : Prop := OkF P w K mg base 2 "_law_text" "_law_text" s_law_text ["box", "many"] sp_law_text
abbrev G_law_text (P : Program) (w : World) (K : PySem.W.Frag) (mg : Str → Option Value) (base : Heap) (a : Ad) : Prop := Here P w K mg base 2 "_law_text" ["box", "many"] sp_law_text
abbrev O_law_good (P : Program) (w : World) (K : PySem.W.Frag) (mg : Str → Option Value) (base : Heap) (a : Ad) : Prop := OkF P w K mg base 3 "_law_good" "_law_good" s_law_good ["box", "width"] sp_law_good
abbrev G_law_good (P : Program) (w : World) (K : PySem.W.Frag) (mg : Str → Option Value) (base : Heap) (a : Ad) : Prop := Here P w K mg base 3 "_law_good" ["box", "width"] sp_law_good
abbrev O_law_bad_text (P : Program) (w : World) (K : PySem.W.Frag) (mg : Str → Option Value) (base : Heap) (a : Ad) : Prop := OkF P w K mg base 3 "_law_bad_text" "_law_bad_text" s_law_bad_text ["box", "width"] sp_law_bad_text
abbrev G_law_bad_text (P : Program) (w : World) (K : PySem.W.Frag) (mg : Str → Option Value) (base : Heap) (a : Ad) : Prop := Here P w K mg base 3 "_law_bad_text" ["box", "width"] sp_law_bad_text
abbrev O_law_bad_page (P : Program) (w : World) (K : PySem.W.Frag) (mg : Str → Option Value) (base : Heap) (a : Ad) : Prop := OkF P w K mg base 2 "_law_bad_page" "_law_bad_page" s_law_bad_page ["box", "pages"] sp_law_bad_page
abbrev G_law_bad_page (P : Program) (w : World) (K : PySem.W.Frag) (mg : Str → Option Value) (base : Heap) (a : Ad) : Prop := Here P w K mg base 2 "_law_bad_page" ["box", "pages"] sp_law_bad_page
abbrev O_law_bad_size (P : Program) (w : World) (K : PySem.W.Frag) (mg : Str → Option Value) (base : Heap) (a : Ad) : Prop := OkF P w K mg base 2 "_law_bad_size" "_law_bad_size" s_law_bad_size ["box", "low", "high"] sp_law_bad_size
abbrev G_law_bad_size (P : Program) (w : World) (K : PySem.W.Frag) (mg : Str → Option Value) (base : Heap) (a : Ad) : Prop := Here P w K mg base 2 "_law_bad_size" ["box", "low", "high"] sp_law_bad_size
abbrev O_law_like (P : Program) (w : World) (K : PySem.W.Frag) (mg : Str → Option Value) (base : Heap) (a : Ad) : Prop := OkF P w K mg base 3 "_law_like" "_law_like" s_law_like ["told", "due"] sp_law_like
abbrev G_law_like (P : Program) (w : World) (K : PySem.W.Frag) (mg : Str → Option Value) (base : Heap) (a : Ad) : Prop := Here P w K mg base 3 "_law_like" ["told", "due"] sp_law_like
abbrev O_law_given (P : Program) (w : World) (K : PySem.W.Frag) (mg : Str → Option Value) (base : Heap) (a : Ad) : Prop := OkF P w K mg base 4 "_law_given" "_law_given" s_law_given ["told", "word", "value"] sp_law_given
abbrev G_law_given (P : Program) (w : World) (K : PySem.W.Frag) (mg : Str → Option Value) (base : Heap) (a : Ad) : Prop := Here P w K mg base 4 "_law_given" ["told", "word", "value"] sp_law_given
abbrev O_law_made (P : Program) (w : World) (K : PySem.W.Frag) (mg : Str → Option Value) (base : Heap) (a : Ad) : Prop := OkF P w K mg base 5 "_law_made" "_law_made" s_law_made ["pages", "width", "named"] (sp_law_made a)
abbrev G_law_made (P : Program) (w : World) (K : PySem.W.Frag) (mg : Str → Option Value) (base : Heap) (a : Ad) : Prop := Here P w K mg base 5 "_law_made" ["pages", "width", "named"] (sp_law_made a)
abbrev O_law_write (P : Program) (w : World) (K : PySem.W.Frag) (mg : Str → Option Value) (base : Heap) (a : Ad) : Prop := OkF P w K mg base 5 "_law_write" "_law_write" s_law_write ["disk", "page", "text", "named"] (sp_law_write a)
abbrev G_law_write (P : Program) (w : World) (K : PySem.W.Frag) (mg : Str → Option Value) (base : Heap) (a : Ad) : Prop := Here P w K mg base 5 "_law_write" ["disk", "page", "text", "named"] (sp_law_write a)
abbrev O_law_read (P : Program) (w : World) (K : PySem.W.Frag) (mg : Str → Option Value) (base : Heap) (a : Ad) : Prop := OkF P w K mg base 5 "_law_read" "_law_read" s_law_read ["disk", "page", "named"] (sp_law_read a)
abbrev G_law_read (P : Program) (w : World) (K : PySem.W.Frag) (mg : Str → Option Value) (base : Heap) (a : Ad) : Prop := Here P w K mg base 5 "_law_read" ["disk", "page", "named"] (sp_law_read a)
abbrev O_law_limit (P : Program) (w : World) (K : PySem.W.Frag) (mg : Str → Option Value) (base : Heap) (a : Ad) : Prop := OkF P w K mg base 4 "_law_limit" "_law_limit" s_law_limit ["disk", "count", "named"] (sp_law_limit a)
abbrev G_law_limit (P : Program) (w : World) (K : PySem.W.Frag) (mg : Str → Option Value) (base : Heap) (a : Ad) : Prop := Here P w K mg base 4 "_law_limit" ["disk", "count", "named"] (sp_law_limit a)
abbrev O_law_state_right (P : Program) (w : World) (K : PySem.W.Frag) (mg : Str → Option Value) (base : Heap) (a : Ad) : Prop := OkF P w K mg base 5 "_law_state_right" "_law_state_right" s_law_state_right ["disk", "state", "named"] (sp_law_state_right a)
abbrev G_law_state_right (P : Program) (w : World) (K : PySem.W.Frag) (mg : Str → Option Value) (base : Heap) (a : Ad) : Prop := Here P w K mg base 5 "_law_state_right" ["disk", "state", "named"] (sp_law_state_right a)
abbrev O_law_write_right (P : Program) (w : World) (K : PySem.W.Frag) (mg : Str → Option Value) (base : Heap) (a : Ad) : Prop := OkF P w K mg base 6 "_law_write_right" "_law_write_right" s_law_write_right ["disk", "state", "page", "text", "named"] (sp_law_write_right a)
abbrev G_law_write_right (P : Program) (w : World) (K : PySem.W.Frag) (mg : Str → Option Value) (base : Heap) (a : Ad) : Prop := Here P w K mg base 6 "_law_write_right" ["disk", "state", "page", "text", "named"] (sp_law_write_right a)
abbrev O_law_limit_right (P : Program) (w : World) (K : PySem.W.Frag) (mg : Str → Option Value) (base : Heap) (a : Ad) : Prop := OkF P w K mg base 5 "_law_limit_right" "_law_limit_right" s_law_limit_right ["disk", "state", "count", "named"] (sp_law_limit_right a)
abbrev G_law_limit_right (P : Program) (w : World) (K : PySem.W.Frag) (mg : Str → Option Value) (base : Heap) (a : Ad) : Prop := Here P w K mg base 5 "_law_limit_right" ["disk", "state", "count", "named"] (sp_law_limit_right a)
abbrev O_law_wrong_right (P : Program) (w : World) (K : PySem.W.Frag) (mg : Str → Option Value) (base : Heap) (a : Ad) : Prop := OkF P w K mg base 6 "_law_wrong_right" "_law_wrong_right" s_law_wrong_right ["box", "disk", "state", "named"] (sp_law_wrong_right a)
abbrev G_law_wrong_right (P : Program) (w : World) (K : PySem.W.Frag) (mg : Str → Option Value) (base : Heap) (a : Ad) : Prop := Here P w K mg base 6 "_law_wrong_right" ["box", "disk", "state", "named"] (sp_law_wrong_right a)
abbrev O_law_cut_right (P : Program) (w : World) (K : PySem.W.Frag) (mg : Str → Option Value) (base : Heap) (a : Ad) : Prop := OkF P w K mg base 7 "_law_cut_right" "_law_cut_right" s_law_cut_right ["box", "disk", "state", "named"] (sp_law_cut_right a)
abbrev G_law_cut_right (P : Program) (w : World) (K : PySem.W.Frag) (mg : Str → Option Value) (base : Heap) (a : Ad) : Prop := Here P w K mg base 7 "_law_cut_right" ["box", "disk", "state", "named"] (sp_law_cut_right a)
abbrev O_law_deed_right (P : Program) (w : World) (K : PySem.W.Frag) (mg : Str → Option Value) (base : Heap) (a : Ad) : Prop := OkF P w K mg base 8 "_law_deed_right" "_law_deed_right" s_law_deed_right ["box", "disk", "state", "named"] (sp_law_deed_right a)
abbrev G_law_deed_right (P : Program) (w : World) (K : PySem.W.Frag) (mg : Str → Option Value) (base : Heap) (a : Ad) : Prop := Here P w K mg base 8 "_law_deed_right" ["box", "disk", "state", "named"] (sp_law_deed_right a)
abbrev O_law_sizes_right (P : Program) (w : World) (K : PySem.W.Frag) (mg : Str → Option Value) (base : Heap) (a : Ad) : Prop := OkF P w K mg base 6 "_law_sizes_right" "_law_sizes_right" s_law_sizes_right ["box", "named"] sp_law_sizes_right
abbrev G_law_sizes_right (P : Program) (w : World) (K : PySem.W.Frag) (mg : Str → Option Value) (base : Heap) (a : Ad) : Prop := Here P w K mg base 6 "_law_sizes_right" ["box", "named"] sp_law_sizes_right
abbrev O_law_pair_right (P : Program) (w : World) (K : PySem.W.Frag) (mg : Str → Option Value) (base : Heap) (a : Ad) : Prop := OkF P w K mg base 9 "_law_pair_right" "_law_pair_right" s_law_pair_right ["box"] sp_law_pair_right
abbrev G_law_pair_right (P : Program) (w : World) (K : PySem.W.Frag) (mg : Str → Option Value) (base : Heap) (a : Ad) : Prop := Here P w K mg base 9 "_law_pair_right" ["box"] sp_law_pair_right
abbrev O_law_long_right (P : Program) (w : World) (K : PySem.W.Frag) (mg : Str → Option Value) (base : Heap) (a : Ad) : Prop := OkF P w K mg base 8 "_law_long_right" "_law_long_right" s_law_long_right ["box"] sp_law_long_right
abbrev G_law_long_right (P : Program) (w : World) (K : PySem.W.Frag) (mg : Str → Option Value) (base : Heap) (a : Ad) : Prop := Here P w K mg base 8 "_law_long_right" ["box"] sp_law_long_right
abbrev O_law (P : Program) (w : World) (K : PySem.W.Frag) (mg : Str → Option Value) (base : Heap) (a : Ad) : Prop := OkF P w K mg base 10 "law" "law" s_law ["script"] (sp_law K)
abbrev G_law (P : Program) (w : World) (K : PySem.W.Frag) (mg : Str → Option Value) (base : Heap) (a : Ad) : Prop := Here P w K mg base 10 "law" ["script"] (sp_law K)
abbrev G_Disk_init_width_pages (P : Program) (w : World) (K : PySem.W.Frag) (mg : Str → Option Value) (base : Heap) (a : Ad) : Prop := HereCK P w K mg base 3 a.disk ["self", "pages", "width"] ["width", "pages"] gk_Disk_init_width_pages (sp_Disk_init a)
abbrev G_Disk_write_text_page (P : Program) (w : World) (K : PySem.W.Frag) (mg : Str → Option Value) (base : Heap) (a : Ad) : Prop := HereMK P w K mg base 4 a.disk "write" ["self", "page", "text"] ["text", "page"] gk_Disk_write_text_page (sp_Disk_write a)
abbrev G_Disk_text_page (P : Program) (w : World) (K : PySem.W.Frag) (mg : Str → Option Value) (base : Heap) (a : Ad) : Prop := HereMK P w K mg base 4 a.disk "text" ["self", "page"] ["page"] gk_Disk_text_page (sp_Disk_text a)
abbrev G_Disk_limit_count (P : Program) (w : World) (K : PySem.W.Frag) (mg : Str → Option Value) (base : Heap) (a : Ad) : Prop := HereMK P w K mg base 3 a.disk "limit" ["self", "count"] ["count"] gk_Disk_limit_count (sp_Disk_limit a)
section
variable {P : Program} {w : World} {K : PySem.W.Frag} {mg : Str → Option Value} {base : Heap} {a : Ad}
/-! InvalidText.__init__ -/
def t_InvalidText_init (K : PySem.W.Frag) (a : Ad) (E : XK) : TS := (tSeq (tDrop (tVeI K (tCons (tVar 0) (tCons (tC (.str "no such text")) tNil))))
    (tOst K "given" (tVar 0) (tVar 1)))
set_option maxHeartbeats 4000000 in
theorem d_InvalidText_init (T : Txt K mg a)  {f : Addr} {cdv : Value} {A : Around} {outer : List Env} {s : Shared} {H : Hp} {E : XK} (hr : Room 0 (A.deeper (envOfC "InvalidText.__init__" (defScope s_InvalidText_init) s.heap.objs.size f cdv))) :
    PSs (cxOf (L2.CX P w) P w K mg base ["self", "given"] "InvalidText.__init__" (defScope s_InvalidText_init) f cdv A outer s H E) (defBody s_InvalidText_init) (t_InvalidText_init K a E) :=
  (pss_cons (ps_expr (T.near.elim fun _ h => pe_ninit h (pa_cons (pv 0) (pa_cons pe_str pa_nil))))
    (pss_one (ps_ost (pv 0) (pv 1))))

/-! InvalidCount.__init__ -/
def t_InvalidCount_init (K : PySem.W.Frag) (a : Ad) (E : XK) : TS := (tSeq (tDrop (tVeI K (tCons (tVar 0) (tCons (tC (.str "no such count")) tNil))))
    (tOst K "given" (tVar 0) (tVar 1)))
set_option maxHeartbeats 4000000 in
theorem d_InvalidCount_init (T : Txt K mg a)  {f : Addr} {cdv : Value} {A : Around} {outer : List Env} {s : Shared} {H : Hp} {E : XK} (hr : Room 0 (A.deeper (envOfC "InvalidCount.__init__" (defScope s_InvalidCount_init) s.heap.objs.size f cdv))) :
    PSs (cxOf (L2.CX P w) P w K mg base ["self", "given"] "InvalidCount.__init__" (defScope s_InvalidCount_init) f cdv A outer s H E) (defBody s_InvalidCount_init) (t_InvalidCount_init K a E) :=
  (pss_cons (ps_expr (T.near.elim fun _ h => pe_ninit h (pa_cons (pv 0) (pa_cons pe_str pa_nil))))
    (pss_one (ps_ost (pv 0) (pv 1))))

/-! InvalidPages.__init__ -/
def t_InvalidPages_init (K : PySem.W.Frag) (a : Ad) (E : XK) : TS := (tSeq (tDrop (tVeI K (tCons (tVar 0) (tCons (tC (.str "no such number of pages")) tNil))))
    (tOst K "given" (tVar 0) (tVar 1)))
set_option maxHeartbeats 4000000 in
theorem d_InvalidPages_init (T : Txt K mg a)  {f : Addr} {cdv : Value} {A : Around} {outer : List Env} {s : Shared} {H : Hp} {E : XK} (hr : Room 0 (A.deeper (envOfC "InvalidPages.__init__" (defScope s_InvalidPages_init) s.heap.objs.size f cdv))) :
    PSs (cxOf (L2.CX P w) P w K mg base ["self", "given"] "InvalidPages.__init__" (defScope s_InvalidPages_init) f cdv A outer s H E) (defBody s_InvalidPages_init) (t_InvalidPages_init K a E) :=
  (pss_cons (ps_expr (T.near.elim fun _ h => pe_ninit h (pa_cons (pv 0) (pa_cons pe_str pa_nil))))
    (pss_one (ps_ost (pv 0) (pv 1))))

/-! InvalidWidth.__init__ -/
def t_InvalidWidth_init (K : PySem.W.Frag) (a : Ad) (E : XK) : TS := (tSeq (tDrop (tVeI K (tCons (tVar 0) (tCons (tC (.str "no such width")) tNil))))
    (tOst K "given" (tVar 0) (tVar 1)))
set_option maxHeartbeats 4000000 in
theorem d_InvalidWidth_init (T : Txt K mg a)  {f : Addr} {cdv : Value} {A : Around} {outer : List Env} {s : Shared} {H : Hp} {E : XK} (hr : Room 0 (A.deeper (envOfC "InvalidWidth.__init__" (defScope s_InvalidWidth_init) s.heap.objs.size f cdv))) :
    PSs (cxOf (L2.CX P w) P w K mg base ["self", "given"] "InvalidWidth.__init__" (defScope s_InvalidWidth_init) f cdv A outer s H E) (defBody s_InvalidWidth_init) (t_InvalidWidth_init K a E) :=
  (pss_cons (ps_expr (T.near.elim fun _ h => pe_ninit h (pa_cons (pv 0) (pa_cons pe_str pa_nil))))
    (pss_one (ps_ost (pv 0) (pv 1))))

/-! InvalidPage.__init__ -/
def t_InvalidPage_init (K : PySem.W.Frag) (a : Ad) (E : XK) : TS := (tSeq (tDrop (tVeI K (tCons (tVar 0) (tCons (tC (.str "no page of the disk")) tNil))))
    (tOst K "given" (tVar 0) (tVar 1)))
set_option maxHeartbeats 4000000 in
theorem d_InvalidPage_init (T : Txt K mg a)  {f : Addr} {cdv : Value} {A : Around} {outer : List Env} {s : Shared} {H : Hp} {E : XK} (hr : Room 0 (A.deeper (envOfC "InvalidPage.__init__" (defScope s_InvalidPage_init) s.heap.objs.size f cdv))) :
    PSs (cxOf (L2.CX P w) P w K mg base ["self", "given"] "InvalidPage.__init__" (defScope s_InvalidPage_init) f cdv A outer s H E) (defBody s_InvalidPage_init) (t_InvalidPage_init K a E) :=
  (pss_cons (ps_expr (T.near.elim fun _ h => pe_ninit h (pa_cons (pv 0) (pa_cons pe_str pa_nil))))
    (pss_one (ps_ost (pv 0) (pv 1))))

/-! PowerCut.__init__ -/
def t_PowerCut_init (K : PySem.W.Frag) (a : Ad) (E : XK) : TS := (tDrop (tVeI K (tCons (tVar 0) (tCons (tC (.str "the power is cut")) tNil))))
set_option maxHeartbeats 4000000 in
theorem d_PowerCut_init (T : Txt K mg a)  {f : Addr} {cdv : Value} {A : Around} {outer : List Env} {s : Shared} {H : Hp} {E : XK} (hr : Room 0 (A.deeper (envOfC "PowerCut.__init__" (defScope s_PowerCut_init) s.heap.objs.size f cdv))) :
    PSs (cxOf (L2.CX P w) P w K mg base ["self"] "PowerCut.__init__" (defScope s_PowerCut_init) f cdv A outer s H E) (defBody s_PowerCut_init) (t_PowerCut_init K a E) :=
  (pss_one (ps_expr (T.near.elim fun _ h => pe_ninit h (pa_cons (pv 0) (pa_cons pe_str pa_nil)))))

/-! is_integer -/
def t_is_integer (K : PySem.W.Frag) (a : Ad) (E : XK) : TS := (tRet (tAndV (tCB (rIsiG K) (tCons (tVar 0) (tCons (tC (.ty "int")) tNil))) (tNotV (tCB (rIsiG K) (tCons (tVar 0) (tCons (tC (.ty "bool")) tNil))))))
set_option maxHeartbeats 4000000 in
theorem d_is_integer (T : Txt K mg a)  {f : Addr} {cdv : Value} {A : Around} {outer : List Env} {s : Shared} {H : Hp} {E : XK} (hr : Room 0 (A.deeper (envOfC "is_integer" (defScope s_is_integer) s.heap.objs.size f cdv))) :
    PSs (cxOf (L2.CX P w) P w K mg base ["value"] "is_integer" (defScope s_is_integer) f cdv A outer s H E) (defBody s_is_integer) (t_is_integer K a E) :=
  (pss_one (ps_ret (pe_and (pe_callB oq_isi (by rfl) T.b_isinstance (by decide +kernel) (pa_cons (pv 0) (pa_cons (pe_bltn (v := .ty "int") (by rfl) T.b_int (by decide +kernel) rfl) pa_nil))) (pe_one (pe_not (pe_callB oq_isi (by rfl) T.b_isinstance (by decide +kernel) (pa_cons (pv 0) (pa_cons (pe_bltn (v := .ty "bool") (by rfl) T.b_bool (by decide +kernel) rfl) pa_nil))))))))

/-! is_within -/
def t_is_within (K : PySem.W.Frag) (a : Ad) (E : XK) : TS := (tRet (tAndV (tCl sp_is_integer E0s (tCons (tVar 0) tNil)) (tChain rLeG rLeG (tVar 1) (tVar 0) (tVar 2))))
set_option maxHeartbeats 4000000 in
theorem d_is_within (T : Txt K mg a) (g_is_integer : G_is_integer P w K mg base a) {f : Addr} {cdv : Value} {A : Around} {outer : List Env} {s : Shared} {H : Hp} {E : XK} (hr : Room 1 (A.deeper (envOfC "is_within" (defScope s_is_within) s.heap.objs.size f cdv))) :
    PSs (cxOf (L2.CX P w) P w K mg base ["value", "low", "high"] "is_within" (defScope s_is_within) f cdv A outer s H E) (defBody s_is_within) (t_is_within K a E) :=
  (pss_one (ps_ret (pe_and (pe_cl g_is_integer (hr.mono (by decide)) px0 (pa_cons (pv 0) pa_nil)) (pe_one (pe_chain oq_le oq_le (pv 1) (pv 0) (pv 2))))))

/-! is_index -/
def t_is_index (K : PySem.W.Frag) (a : Ad) (E : XK) : TS := (tRet (tAndV (tCl sp_is_integer E0s (tCons (tVar 0) tNil)) (tChain rLeG rLtG (tC (.int 0)) (tVar 0) (tVar 1))))
set_option maxHeartbeats 4000000 in
theorem d_is_index (T : Txt K mg a) (g_is_integer : G_is_integer P w K mg base a) {f : Addr} {cdv : Value} {A : Around} {outer : List Env} {s : Shared} {H : Hp} {E : XK} (hr : Room 1 (A.deeper (envOfC "is_index" (defScope s_is_index) s.heap.objs.size f cdv))) :
    PSs (cxOf (L2.CX P w) P w K mg base ["value", "many"] "is_index" (defScope s_is_index) f cdv A outer s H E) (defBody s_is_index) (t_is_index K a E) :=
  (pss_one (ps_ret (pe_and (pe_cl g_is_integer (hr.mono (by decide)) px0 (pa_cons (pv 0) pa_nil)) (pe_one (pe_chain oq_le oq_lt pe_int (pv 0) (pv 1))))))

/-! is_page_text -/
def t_is_page_text (K : PySem.W.Frag) (a : Ad) (E : XK) : TS := (tRet (tAndV (tCB (rIsiG K) (tCons (tVar 0) (tCons (tC (.ty "str")) tNil))) (tAndV (tOp rLeG (tCB (rLenG K) (tCons (tVar 0) tNil)) (tVar 1)) (tCB (rAll K) (tCons (tLc (iStr (tVar 0)) (gName 2) tYes (tChain rLeG rLeG (tC (.str " ")) (tVar 2) (tC (.str "~"))) [2]) tNil)))))
set_option maxHeartbeats 4000000 in
theorem d_is_page_text (T : Txt K mg a)  {f : Addr} {cdv : Value} {A : Around} {outer : List Env} {s : Shared} {H : Hp} {E : XK} (hr : Room 0 (A.deeper (envOfC "is_page_text" (defScope s_is_page_text) s.heap.objs.size f cdv))) :
    PSs (cxOf (L2.CX P w) P w K mg base ["value", "width", "sign"] "is_page_text" (defScope s_is_page_text) f cdv A outer s H E) (defBody s_is_page_text) (t_is_page_text K a E) :=
  (pss_one (ps_ret (pe_and (pe_callB oq_isi (by rfl) T.b_isinstance (by decide +kernel) (pa_cons (pv 0) (pa_cons (pe_bltn (v := .ty "str") (by rfl) T.b_str (by decide +kernel) rfl) pa_nil))) (pe_and (pe_cmpR oq_le (pe_callB oq_len (by rfl) T.b_len (by decide +kernel) (pa_cons (pv 0) pa_nil)) (pv 1) (nomark _)) (pe_one (pe_callB (cr_all rfl) (by rfl) T.b_all (by decide +kernel) (pa_cons (pe_lc (own := [("sign", 2)]) (g := (gName 2)) (tt := tYes) rfl sc_is_page_text.nd (pi_str (pv 0)) (blkOk_by (N := ["value", "width", "sign"]) (sc := defScope s_is_page_text) (by decide +kernel)) (fun _ _ _ _ _ => (pg_name (i := 2) sc_is_page_text.nd rfl (Or.inl rfl))) (fun _ _ _ _ _ => pts_nil) (fun _ _ _ _ _ => (pe_chain oq_le oq_le pe_str (pv 2) pe_str))) pa_nil)))))))

/-! Disk.__init__ -/
def t_Disk_init (K : PySem.W.Frag) (a : Ad) (E : XK) : TS := (tSeq (tIfS (tNot (tB (tCl sp_is_within E0s (tCons (tVar 1) (tCons (tC (.int 2)) (tCons (tC (.int 60)) tNil)))))) (fun _ σ H => tErr a.eP "given" (tCons (tVar 1) tNil) σ H fun cls dd H' => E cls dd H') tNext)
    (tSeq (tIfS (tNot (tB (tCl sp_is_within E0s (tCons (tVar 2) (tCons (tC (.int 20)) (tCons (tC (.int 400)) tNil)))))) (fun _ σ H => tErr a.eW "given" (tCons (tVar 2) tNil) σ H fun cls dd H' => E cls dd H') tNext)
    (tSeq (sFld K (tVar 0) (tVar 1) "pages")
    (tSeq (sFld K (tVar 0) (tVar 2) "width")
    (tSeq (sFld K (tVar 0) (tC .non) "left")
    (sFld K (tVar 0) (tLc (iRng1 (tCons (tVar 1) tNil)) (gName 3) tYes (tC (.str "")) [3]) "_texts"))))))
set_option maxHeartbeats 4000000 in
theorem d_Disk_init (T : Txt K mg a) (g_is_within : G_is_within P w K mg base a) (g_InvalidPages : G_InvalidPages P w K mg base a) (g_InvalidWidth : G_InvalidWidth P w K mg base a) {f : Addr} {cdv : Value} {A : Around} {outer : List Env} {s : Shared} {H : Hp} {E : XK} (hr : Room 2 (A.deeper (envOfC "Disk.__init__" (defScope s_Disk_init) s.heap.objs.size f cdv))) :
    PSs (cxOf (L2.CX P w) P w K mg base ["self", "pages", "width", "_"] "Disk.__init__" (defScope s_Disk_init) f cdv A outer s H E) (defBody s_Disk_init) (t_Disk_init K a E) :=
  (pss_cons (ps_if (pt_not (pt_val (pe_cl g_is_within (hr.mono (by decide)) px0 (pa_cons (pv 1) (pa_cons (T.k_LEAST_PAGES.elim fun _ h => pe_glob rfl h ⟨_, rfl⟩) (pa_cons (T.k_MOST_PAGES.elim fun _ h => pe_glob rfl h ⟨_, rfl⟩) pa_nil)))))) (pss_one (ps_raise rfl (takes_of rfl rfl rfl rfl) (pmk_err g_InvalidPages (hr.mono (by decide)) (pv 1)))) pss_nil)
    (pss_cons (ps_if (pt_not (pt_val (pe_cl g_is_within (hr.mono (by decide)) px0 (pa_cons (pv 2) (pa_cons (T.k_LEAST_WIDTH.elim fun _ h => pe_glob rfl h ⟨_, rfl⟩) (pa_cons (T.k_MOST_WIDTH.elim fun _ h => pe_glob rfl h ⟨_, rfl⟩) pa_nil)))))) (pss_one (ps_raise rfl (takes_of rfl rfl rfl rfl) (pmk_err g_InvalidWidth (hr.mono (by decide)) (pv 2)))) pss_nil)
    (pss_cons (ps_fld (pv 0) (pv 1) rfl)
    (pss_cons (ps_fld (pv 0) (pv 2) rfl)
    (pss_cons (ps_fld (pv 0) pe_non rfl)
    (pss_one (ps_fld (pv 0) (pe_lc (own := [("_", 3)]) (g := (gName 3)) (tt := tYes) rfl sc_Disk_init.nd (pi_range1 rfl T.b_range (pa_cons (pv 1) pa_nil)) (blkOk_by (N := ["self", "pages", "width", "_"]) (sc := defScope s_Disk_init) (by decide +kernel)) (fun _ _ _ _ _ => (pg_name (i := 3) sc_Disk_init.nd rfl (Or.inl rfl))) (fun _ _ _ _ _ => pts_nil) (fun _ _ _ _ _ => pe_str)) rfl)))))))

/-! Disk._check -/
def t_Disk_check (K : PySem.W.Frag) (a : Ad) (E : XK) : TS := (tIfS (tNot (tB (tCl sp_is_index E0s (tCons (tVar 1) (tCons (tFld K (tVar 0) "pages") tNil))))) (fun _ σ H => tErr a.eG "given" (tCons (tVar 1) tNil) σ H fun cls dd H' => E cls dd H') tNext)
set_option maxHeartbeats 4000000 in
theorem d_Disk_check (T : Txt K mg a) (g_is_index : G_is_index P w K mg base a) (g_InvalidPage : G_InvalidPage P w K mg base a) {f : Addr} {cdv : Value} {A : Around} {outer : List Env} {s : Shared} {H : Hp} {E : XK} (hr : Room 2 (A.deeper (envOfC "Disk._check" (defScope s_Disk_check) s.heap.objs.size f cdv))) :
    PSs (cxOf (L2.CX P w) P w K mg base ["self", "page"] "Disk._check" (defScope s_Disk_check) f cdv A outer s H E) (defBody s_Disk_check) (t_Disk_check K a E) :=
  (pss_one (ps_if (pt_not (pt_val (pe_cl g_is_index (hr.mono (by decide)) px0 (pa_cons (pv 1) (pa_cons (pe_fld (pv 0) rfl) pa_nil))))) (pss_one (ps_raise rfl (takes_of rfl rfl rfl rfl) (pmk_err g_InvalidPage (hr.mono (by decide)) (pv 1)))) pss_nil))

/-! Disk.text -/
def t_Disk_text (K : PySem.W.Frag) (a : Ad) (E : XK) : TS := (tSeq (tDrop (tMe a.disk "_check" (sp_Disk_check a) (fun _ => E) (tVar 0) (tCons (tVar 1) tNil)))
    (tRet (tOp (rIx K) (tFld K (tVar 0) "_texts") (tVar 1))))
set_option maxHeartbeats 4000000 in
theorem d_Disk_text (T : Txt K mg a) (g_Disk_check : G_Disk_check P w K mg base a) {f : Addr} {cdv : Value} {A : Around} {outer : List Env} {s : Shared} {H : Hp} {E : XK} (hr : Room 3 (A.deeper (envOfC "Disk.text" (defScope s_Disk_text) s.heap.objs.size f cdv))) :
    PSs (cxOf (L2.CX P w) P w K mg base ["self", "page"] "Disk.text" (defScope s_Disk_text) f cdv A outer s H E) (defBody s_Disk_text) (t_Disk_text K a E) :=
  (pss_cons (ps_expr (pe_me (pv 0) T.cl_Disk g_Disk_check (hr.mono (by decide)) (pxE (takes_of rfl rfl rfl rfl)) (pa_cons (pv 1) pa_nil)))
    (pss_one (ps_ret (pe_ix ix_seq (pe_fld (pv 0) rfl) (pv 1) (fun _ _ => rfl)))))

/-! Disk.write -/
def t_Disk_write (K : PySem.W.Frag) (a : Ad) (E : XK) : TS := (tSeq (tDrop (tMe a.disk "_check" (sp_Disk_check a) (fun _ => E) (tVar 0) (tCons (tVar 1) tNil)))
    (tSeq (tIfS (tNot (tB (tCl sp_is_page_text E0s (tCons (tVar 2) (tCons (tFld K (tVar 0) "width") tNil))))) (fun _ σ H => tErr a.eT "given" (tCons (tVar 2) tNil) σ H fun cls dd H' => E cls dd H') tNext)
    (tSeq (tIfS (tOr (tTest (tOp rIsG (tFld K (tVar 0) "left") (tC .non))) (tTest (tOp rGtG (tFld K (tVar 0) "left") (tCB (rLenG K) (tCons (tVar 2) tNil))))) (tSeq (tAsg (tVar 2) (gSub (tFld K (tVar 0) "_texts") (tVar 1) rSetL))
    (tSeq (sFld K (tVar 0) (tIf (tTest (tOp rIsG (tFld K (tVar 0) "left") (tC .non))) (tC .non) (tOp rSubG (tOp rSubG (tFld K (tVar 0) "left") (tCB (rLenG K) (tCons (tVar 2) tNil))) (tC (.int 1)))) "left")
    tRetN)) tNext)
    (tSeq (tPar 3 4 (tCons (tOp (rIx K) (tFld K (tVar 0) "_texts") (tVar 1)) (tCons (tFld K (tVar 0) "left") tNil)))
    (tSeq (tAsg (tOp rAddG (L2.tSl (rSlG K) (tVar 2) tNoPart (tPart (tVar 4))) (L2.tSl (rSlG K) (tVar 3) (tPart (tVar 4)) tNoPart)) (gSub (tFld K (tVar 0) "_texts") (tVar 1) rSetL))
    (tSeq (sFld K (tVar 0) (tC (.int 0)) "left")
    (fun _ σ H => tErr0 a.eX σ H fun cls dd H' => E cls dd H')))))))
set_option maxHeartbeats 4000000 in
theorem d_Disk_write (T : Txt K mg a) (g_is_page_text : G_is_page_text P w K mg base a) (g_Disk_check : G_Disk_check P w K mg base a) (g_InvalidText : G_InvalidText P w K mg base a) (g_PowerCut : G_PowerCut P w K mg base a) {f : Addr} {cdv : Value} {A : Around} {outer : List Env} {s : Shared} {H : Hp} {E : XK} (hr : Room 3 (A.deeper (envOfC "Disk.write" (defScope s_Disk_write) s.heap.objs.size f cdv))) :
    PSs (cxOf (L2.CX P w) P w K mg base ["self", "page", "text", "old", "many"] "Disk.write" (defScope s_Disk_write) f cdv A outer s H E) (defBody s_Disk_write) (t_Disk_write K a E) :=
  (pss_cons (ps_expr (pe_me (pv 0) T.cl_Disk g_Disk_check (hr.mono (by decide)) (pxE (takes_of rfl rfl rfl rfl)) (pa_cons (pv 1) pa_nil)))
    (pss_cons (ps_if (pt_not (pt_val (pe_cl g_is_page_text (hr.mono (by decide)) px0 (pa_cons (pv 2) (pa_cons (pe_fld (pv 0) rfl) pa_nil))))) (pss_one (ps_raise rfl (takes_of rfl rfl rfl rfl) (pmk_err g_InvalidText (hr.mono (by decide)) (pv 2)))) pss_nil)
    (pss_cons (ps_if (PW.pt (pw_or (pt_cmpR oq_is (pe_fld (pv 0) rfl) pe_non (nomark _)) (pw_or1 (pt_cmpR oq_gt (pe_fld (pv 0) rfl) (pe_callB oq_len (by rfl) T.b_len (by decide +kernel) (pa_cons (pv 2) pa_nil)) (nomark _))))) (pss_cons (ps_asg (pv 2) (pg_sub (pe_fld (pv 0) rfl) (pv 1) set_list))
    (pss_cons (ps_fld (pv 0) (pe_ifExp (pt_cmpR oq_is (pe_fld (pv 0) rfl) pe_non (nomark _)) pe_non (pe_op oq_sub (pe_op oq_sub (pe_fld (pv 0) rfl) (pe_callB oq_len (by rfl) T.b_len (by decide +kernel) (pa_cons (pv 2) pa_nil))) pe_int)) rfl)
    (pss_one ps_retN))) pss_nil)
    (pss_cons (ps_par (i := 3) (j := 4) rfl sc_Disk_write.nd rfl rfl (by decide) rfl rfl (pa_cons (pe_ix ix_seq (pe_fld (pv 0) rfl) (pv 1) (fun _ _ => rfl)) (pa_cons (pe_fld (pv 0) rfl) pa_nil)) (by rfl))
    (pss_cons (ps_asg (pe_op oq_add (pe_slice oq_sl (pv 2) po_none (po_some (pv 4))) (pe_slice oq_sl (pv 3) (po_some (pv 4)) po_none)) (pg_sub (pe_fld (pv 0) rfl) (pv 1) set_list))
    (pss_cons (ps_fld (pv 0) pe_int rfl)
    (pss_one (ps_raise rfl (takes_of rfl rfl rfl rfl) (pmk_err0 g_PowerCut (hr.mono (by decide)))))))))))

/-! Disk.limit -/
def t_Disk_limit (K : PySem.W.Frag) (a : Ad) (E : XK) : TS := (tSeq (tIfS (tAnd (tTest (tOp rNotG (tVar 1) (tC .non))) (tNot (tAnd (tB (tCl sp_is_integer E0s (tCons (tVar 1) tNil))) (tTest (tOp rGeG (tVar 1) (tC (.int 0))))))) (fun _ σ H => tErr a.eC "given" (tCons (tVar 1) tNil) σ H fun cls dd H' => E cls dd H') tNext)
    (sFld K (tVar 0) (tVar 1) "left"))
set_option maxHeartbeats 4000000 in
theorem d_Disk_limit (T : Txt K mg a) (g_is_integer : G_is_integer P w K mg base a) (g_InvalidCount : G_InvalidCount P w K mg base a) {f : Addr} {cdv : Value} {A : Around} {outer : List Env} {s : Shared} {H : Hp} {E : XK} (hr : Room 2 (A.deeper (envOfC "Disk.limit" (defScope s_Disk_limit) s.heap.objs.size f cdv))) :
    PSs (cxOf (L2.CX P w) P w K mg base ["self", "count"] "Disk.limit" (defScope s_Disk_limit) f cdv A outer s H E) (defBody s_Disk_limit) (t_Disk_limit K a E) :=
  (pss_cons (ps_if (PW.pt (pw_and (pt_cmpR oq_isnot (pv 1) pe_non (nomark _)) (pw_and1 (pt_not (PW.pt (pw_and (pt_val (pe_cl g_is_integer (hr.mono (by decide)) px0 (pa_cons (pv 1) pa_nil))) (pw_and1 (pt_cmpR oq_ge (pv 1) pe_int (nomark _))))))))) (pss_one (ps_raise rfl (takes_of rfl rfl rfl rfl) (pmk_err g_InvalidCount (hr.mono (by decide)) (pv 1)))) pss_nil)
    (pss_one (ps_fld (pv 0) (pv 1) rfl)))

/-! _law_cell -/
def t_law_cell (K : PySem.W.Frag) (a : Ad) (E : XK) : TS := (tRet (tIf (tTest (tOp rLtG (tVar 1) (tCB (rLenG K) (tCons (tVar 0) tNil)))) (tOp (rIx K) (tVar 0) (tVar 1)) (tOp rAddG (tOp rMulG (tC (.int 6221)) (tVar 1)) (tOp rModG (tCB rInt1 (tCons (tCB (rSum K) (tCons (L2.tSl (rSlG K) (tVar 0) tNoPart (tPart (tC (.int 1)))) tNil)) tNil)) (tC (.int 1000033))))))
set_option maxHeartbeats 4000000 in
theorem d_law_cell (T : Txt K mg a)  {f : Addr} {cdv : Value} {A : Around} {outer : List Env} {s : Shared} {H : Hp} {E : XK} (hr : Room 0 (A.deeper (envOfC "_law_cell" (defScope s_law_cell) s.heap.objs.size f cdv))) :
    PSs (cxOf (L2.CX P w) P w K mg base ["script", "k"] "_law_cell" (defScope s_law_cell) f cdv A outer s H E) (defBody s_law_cell) (t_law_cell K a E) :=
  (pss_one (ps_ret (pe_ifExp (pt_cmpR oq_lt (pv 1) (pe_callB oq_len (by rfl) T.b_len (by decide +kernel) (pa_cons (pv 0) pa_nil)) (nomark _)) (pe_ix ix_seq (pv 0) (pv 1) (fun _ _ => rfl)) (pe_op oq_add (pe_op oq_mul pe_int (pv 1)) (pe_op oq_mod (pe_callTy oq_int (by rfl) T.b_int (by decide +kernel) (pa_cons (pe_callB (cr_sum rfl) (by rfl) T.b_sum (by decide +kernel) (pa_cons (pe_slice oq_sl (pv 0) po_none (po_some pe_int)) pa_nil)) pa_nil)) pe_int)))))

/-! _law_box -/
def t_law_box (K : PySem.W.Frag) (a : Ad) (E : XK) : TS := (tRet (tLstG (tCons (tCB rAbs1 (tCons (tVar 0) tNil)) (tCons (tOp rGeG (tCB rAbs1 (tCons (tVar 0) tNil)) (tOp rPowG (tC (.int 10)) (tC (.int 18)))) (tCons (tOp rModG (tCB rInt1 (tCons (tCB rAbs1 (tCons (tVar 0) tNil)) tNil)) (tC (.int 2147483629))) (tCons (tC (.int 0)) tNil))))))
set_option maxHeartbeats 4000000 in
theorem d_law_box (T : Txt K mg a)  {f : Addr} {cdv : Value} {A : Around} {outer : List Env} {s : Shared} {H : Hp} {E : XK} (hr : Room 0 (A.deeper (envOfC "_law_box" (defScope s_law_box) s.heap.objs.size f cdv))) :
    PSs (cxOf (L2.CX P w) P w K mg base ["great"] "_law_box" (defScope s_law_box) f cdv A outer s H E) (defBody s_law_box) (t_law_box K a E) :=
  (pss_one (ps_ret (pe_lstG (pa_cons (pe_callB oq_abs (by rfl) T.b_abs (by decide +kernel) (pa_cons (pv 0) pa_nil)) (pa_cons (pe_cmpR oq_ge (pe_callB oq_abs (by rfl) T.b_abs (by decide +kernel) (pa_cons (pv 0) pa_nil)) (pe_op oq_pow pe_int pe_int) (nomark _)) (pa_cons (pe_op oq_mod (pe_callTy oq_int (by rfl) T.b_int (by decide +kernel) (pa_cons (pe_callB oq_abs (by rfl) T.b_abs (by decide +kernel) (pa_cons (pv 0) pa_nil)) pa_nil)) pe_int) (pa_cons pe_int pa_nil)))))))

/-! _law_take -/
def t_law_take (K : PySem.W.Frag) (a : Ad) (E : XK) : TS := (tSeq (tIfS (tAnd (tB (tOp (rIx K) (tVar 0) (tC (.int 1)))) (tTest (tOp rGtG (tOp (rIx K) (tVar 0) (tC (.int 0))) (tC (.int 0))))) (tSeq (tAsg (tOp rModG (tCB rInt1 (tCons (tOp (rIx K) (tVar 0) (tC (.int 0))) tNil)) (tVar 1)) (gName 3))
    (tSeq (tAsg (tOp rDivG (tOp (rIx K) (tVar 0) (tC (.int 0))) (tVar 1)) (gSub (tVar 0) (tC (.int 0)) rSetL))
    (tRet (tVar 3)))) tNext)
    (tSeq (tAsg (tOp rAddG (tOp (rIx K) (tVar 0) (tC (.int 3))) (tC (.int 1))) (gSub (tVar 0) (tC (.int 3)) rSetL))
    (tSeq (tAsg (tOp rModG (tCB rInt1 (tCons (tOp rPowG (tOp rAddG (tOp rAddG (tOp (rIx K) (tVar 0) (tC (.int 2))) (tOp rMulG (tC (.int 15485863)) (tOp (rIx K) (tVar 0) (tC (.int 3))))) (tC (.int 179424673))) (tC (.int 5))) tNil)) (tC (.int 2147483647))) (gName 2))
    (tRet (tOp rModG (tOp rDivG (tOp rModG (tCB rInt1 (tCons (tOp rPowG (tOp rAddG (tOp rMulG (tVar 2) (tC (.int 48271))) (tOp rMulG (tC (.int 104729)) (tOp (rIx K) (tVar 0) (tC (.int 3))))) (tC (.int 3))) tNil)) (tC (.int 2147483587))) (tC (.int 64))) (tVar 1))))))
set_option maxHeartbeats 4000000 in
theorem d_law_take (T : Txt K mg a)  {f : Addr} {cdv : Value} {A : Around} {outer : List Env} {s : Shared} {H : Hp} {E : XK} (hr : Room 0 (A.deeper (envOfC "_law_take" (defScope s_law_take) s.heap.objs.size f cdv))) :
    PSs (cxOf (L2.CX P w) P w K mg base ["box", "many", "mixed", "digit"] "_law_take" (defScope s_law_take) f cdv A outer s H E) (defBody s_law_take) (t_law_take K a E) :=
  (pss_cons (ps_if (PW.pt (pw_and (pt_val (pe_ix ix_seq (pv 0) pe_int (fun _ _ => rfl))) (pw_and1 (pt_cmpR oq_gt (pe_ix ix_seq (pv 0) pe_int (fun _ _ => rfl)) pe_int (nomark _))))) (pss_cons (ps_set (i := 3) sc_law_take.nd rfl (Or.inl rfl) (pe_op oq_mod (pe_callTy oq_int (by rfl) T.b_int (by decide +kernel) (pa_cons (pe_ix ix_seq (pv 0) pe_int (fun _ _ => rfl)) pa_nil)) (pv 1)))
    (pss_cons (ps_asg (pe_op oq_div (pe_ix ix_seq (pv 0) pe_int (fun _ _ => rfl)) (pv 1)) (pg_sub (pv 0) pe_int set_list))
    (pss_one (ps_ret (pv 3))))) pss_nil)
    (pss_cons (ps_asg (pe_op oq_add (pe_ix ix_seq (pv 0) pe_int (fun _ _ => rfl)) pe_int) (pg_sub (pv 0) pe_int set_list))
    (pss_cons (ps_set (i := 2) sc_law_take.nd rfl (Or.inl rfl) (pe_op oq_mod (pe_callTy oq_int (by rfl) T.b_int (by decide +kernel) (pa_cons (pe_op oq_pow (pe_op oq_add (pe_op oq_add (pe_ix ix_seq (pv 0) pe_int (fun _ _ => rfl)) (pe_op oq_mul pe_int (pe_ix ix_seq (pv 0) pe_int (fun _ _ => rfl)))) pe_int) pe_int) pa_nil)) pe_int))
    (pss_one (ps_ret (pe_op oq_mod (pe_op oq_div (pe_op oq_mod (pe_callTy oq_int (by rfl) T.b_int (by decide +kernel) (pa_cons (pe_op oq_pow (pe_op oq_add (pe_op oq_mul (pv 2) pe_int) (pe_op oq_mul pe_int (pe_ix ix_seq (pv 0) pe_int (fun _ _ => rfl)))) pe_int) pa_nil)) pe_int) pe_int) (pv 1)))))))

/-! _law_signs -/
def t_law_signs (K : PySem.W.Frag) (a : Ad) (E : XK) : TS := (tRet (tC (.str " !\"#$&'()*+,-./0123456789:;<=>?@ABCDEFGHIJKLMNOPQRSTUVWXYZ[\\]^_`abcdefghijklmnopqrstuvwxyz{|}~")))
set_option maxHeartbeats 4000000 in
theorem d_law_signs (T : Txt K mg a)  {f : Addr} {cdv : Value} {A : Around} {outer : List Env} {s : Shared} {H : Hp} {E : XK} (hr : Room 0 (A.deeper (envOfC "_law_signs" (defScope s_law_signs) s.heap.objs.size f cdv))) :
    PSs (cxOf (L2.CX P w) P w K mg base [] "_law_signs" (defScope s_law_signs) f cdv A outer s H E) (defBody s_law_signs) (t_law_signs K a E) :=
  (pss_one (ps_ret pe_str))

/-! _law_text -/
def t_law_text (K : PySem.W.Frag) (a : Ad) (E : XK) : TS := (tSeq (tAsg (tCl sp_law_signs E0s tNil) (gName 2))
    (tRet (tM1 (rJoinG K) (tC (.str "")) (tLc (iRng1 (tCons (tVar 1) tNil)) (gName 3) tYes (tOp (rIx K) (tVar 2) (tCl sp_law_take E0s (tCons (tVar 0) (tCons (tCB (rLenG K) (tCons (tVar 2) tNil)) tNil)))) [3]))))
set_option maxHeartbeats 4000000 in
theorem d_law_text (T : Txt K mg a) (g_law_take : G_law_take P w K mg base a) (g_law_signs : G_law_signs P w K mg base a) {f : Addr} {cdv : Value} {A : Around} {outer : List Env} {s : Shared} {H : Hp} {E : XK} (hr : Room 1 (A.deeper (envOfC "_law_text" (defScope s_law_text) s.heap.objs.size f cdv))) :
    PSs (cxOf (L2.CX P w) P w K mg base ["box", "many", "signs", "k"] "_law_text" (defScope s_law_text) f cdv A outer s H E) (defBody s_law_text) (t_law_text K a E) :=
  (pss_cons (ps_set (i := 2) sc_law_text.nd rfl (Or.inr rfl) (pe_cl0 g_law_signs (hr.mono (by decide)) px0))
    (pss_one (ps_ret (pe_join pe_str (pe_lc (own := [("k", 3)]) (g := (gName 3)) (tt := tYes) rfl sc_law_text.nd (pi_range1 rfl T.b_range (pa_cons (pv 1) pa_nil)) (blkOk_by (N := ["box", "many", "signs", "k"]) (sc := defScope s_law_text) (by decide +kernel)) (fun _ _ _ _ _ => (pg_name (i := 3) sc_law_text.nd rfl (Or.inl rfl))) (fun _ _ _ _ _ => pts_nil) (fun _ _ _ _ _ => (pe_ix ix_seq (pv 2) (pe_cl g_law_take (hr.mono (by decide)) px0 (pa_cons (pv 0) (pa_cons (pe_callB oq_len (by rfl) T.b_len (by decide +kernel) (pa_cons (pv 2) pa_nil)) pa_nil))) (fun _ _ => rfl))))))))

/-! _law_good -/
def t_law_good (K : PySem.W.Frag) (a : Ad) (E : XK) : TS := (tSeq (tPar 2 3 (tCons (tCl sp_law_take E0s (tCons (tVar 0) (tCons (tC (.int 6)) tNil))) (tCons (tCl sp_law_text E0s (tCons (tVar 0) (tCons (tOp rAddG (tC (.int 1)) (tCl sp_law_take E0s (tCons (tVar 0) (tCons (tC (.int 12)) tNil)))) tNil))) tNil)))
    (tSeq (tIfS (tTest (tOp (rEqG K) (tVar 2) (tC (.int 0)))) (tRet (tC (.str ""))) tNext)
    (tRet (tIf (tTest (tOp rLtG (tVar 2) (tC (.int 3)))) (L2.tSl (rSlG K) (tOp rMulG (tVar 3) (tVar 1)) tNoPart (tPart (tOp rAddG (tOp rSubG (tVar 1) (tVar 2)) (tC (.int 1))))) (tVar 3)))))
set_option maxHeartbeats 4000000 in
theorem d_law_good (T : Txt K mg a) (g_law_take : G_law_take P w K mg base a) (g_law_text : G_law_text P w K mg base a) {f : Addr} {cdv : Value} {A : Around} {outer : List Env} {s : Shared} {H : Hp} {E : XK} (hr : Room 2 (A.deeper (envOfC "_law_good" (defScope s_law_good) s.heap.objs.size f cdv))) :
    PSs (cxOf (L2.CX P w) P w K mg base ["box", "width", "way", "stem"] "_law_good" (defScope s_law_good) f cdv A outer s H E) (defBody s_law_good) (t_law_good K a E) :=
  (pss_cons (ps_par (i := 2) (j := 3) rfl sc_law_good.nd rfl rfl (by decide) rfl rfl (pa_cons (pe_cl g_law_take (hr.mono (by decide)) px0 (pa_cons (pv 0) (pa_cons pe_int pa_nil))) (pa_cons (pe_cl g_law_text (hr.mono (by decide)) px0 (pa_cons (pv 0) (pa_cons (pe_op oq_add pe_int (pe_cl g_law_take (hr.mono (by decide)) px0 (pa_cons (pv 0) (pa_cons pe_int pa_nil)))) pa_nil))) pa_nil)) (by rfl))
    (pss_cons (ps_if (pt_cmpR (oq_eq hr.units) (pv 2) pe_int (nomark _)) (pss_one (ps_ret pe_str)) pss_nil)
    (pss_one (ps_ret (pe_ifExp (pt_cmpR oq_lt (pv 2) pe_int (nomark _)) (pe_slice oq_sl (pe_op oq_mul (pv 3) (pv 1)) po_none (po_some (pe_op oq_add (pe_op oq_sub (pv 1) (pv 2)) pe_int))) (pv 3))))))

/-! _law_bad_text -/
def t_law_bad_text (K : PySem.W.Frag) (a : Ad) (E : XK) : TS := (tSeq (tAsg (tCl sp_law_text E0s (tCons (tVar 0) (tCons (tOp rAddG (tC (.int 1)) (tCl sp_law_take E0s (tCons (tVar 0) (tCons (tC (.int 4)) tNil)))) tNil))) (gName 2))
    (tSeq (tPar 3 4 (tCons (tOp rDivG (tCB (rLenG K) (tCons (tVar 2) tNil)) (tC (.int 2))) (tCons (tOp rMulG (tVar 2) (tC (.int 401))) tNil)))
    (tSeq (tAsg (tLstG (tCons (tOp rAddG (tVar 2) (tC (.str "\n"))) (tCons (tC (.str "\n")) (tCons (tOp rAddG (tOp rAddG (L2.tSl (rSlG K) (tVar 2) tNoPart (tPart (tVar 3))) (tC (.str "\n"))) (L2.tSl (rSlG K) (tVar 2) (tPart (tVar 3)) tNoPart)) (tCons (L2.tSl (rSlG K) (tVar 4) tNoPart (tPart (tOp rAddG (tVar 1) (tC (.int 1))))) (tCons (L2.tSl (rSlG K) (tVar 4) tNoPart (tPart (tOp rAddG (tVar 1) (tC (.int 30))))) (tCons (tC .non) (tCons (tC (.bl true)) (tCons (tC (.int 7)) (tCons (tLstG (tCons (tVar 2) tNil)) (tCons (tTupG (tCons (tVar 2) tNil)) (tCons tDicG (tCons (tC (.int 0)) tNil))))))))))))) (gName 5))
    (tRet (tOp (rIx K) (tVar 5) (tCl sp_law_take E0s (tCons (tVar 0) (tCons (tC (.int 12)) tNil))))))))
set_option maxHeartbeats 4000000 in
theorem d_law_bad_text (T : Txt K mg a) (g_law_take : G_law_take P w K mg base a) (g_law_text : G_law_text P w K mg base a) {f : Addr} {cdv : Value} {A : Around} {outer : List Env} {s : Shared} {H : Hp} {E : XK} (hr : Room 2 (A.deeper (envOfC "_law_bad_text" (defScope s_law_bad_text) s.heap.objs.size f cdv))) :
    PSs (cxOf (L2.CX P w) P w K mg base ["box", "width", "stem", "at", "long", "menu"] "_law_bad_text" (defScope s_law_bad_text) f cdv A outer s H E) (defBody s_law_bad_text) (t_law_bad_text K a E) :=
  (pss_cons (ps_set (i := 2) sc_law_bad_text.nd rfl (Or.inl rfl) (pe_cl g_law_text (hr.mono (by decide)) px0 (pa_cons (pv 0) (pa_cons (pe_op oq_add pe_int (pe_cl g_law_take (hr.mono (by decide)) px0 (pa_cons (pv 0) (pa_cons pe_int pa_nil)))) pa_nil))))
    (pss_cons (ps_par (i := 3) (j := 4) rfl sc_law_bad_text.nd rfl rfl (by decide) rfl rfl (pa_cons (pe_op oq_div (pe_callB oq_len (by rfl) T.b_len (by decide +kernel) (pa_cons (pv 2) pa_nil)) pe_int) (pa_cons (pe_op oq_mul (pv 2) pe_int) pa_nil)) (by rfl))
    (pss_cons (ps_set (i := 5) sc_law_bad_text.nd rfl (Or.inl rfl) (pe_lstG (pa_cons (pe_op oq_add (pv 2) pe_str) (pa_cons pe_str (pa_cons (pe_op oq_add (pe_op oq_add (pe_slice oq_sl (pv 2) po_none (po_some (pv 3))) pe_str) (pe_slice oq_sl (pv 2) (po_some (pv 3)) po_none)) (pa_cons (pe_slice oq_sl (pv 4) po_none (po_some (pe_op oq_add (pv 1) pe_int))) (pa_cons (pe_slice oq_sl (pv 4) po_none (po_some (pe_op oq_add (pv 1) pe_int))) (pa_cons pe_non (pa_cons pe_bl (pa_cons pe_int (pa_cons (pe_lstG (pa_cons (pv 2) pa_nil)) (pa_cons (pe_tupG (pa_cons (pv 2) pa_nil)) (pa_cons pe_dicG (pa_cons pe_int pa_nil))))))))))))))
    (pss_one (ps_ret (pe_ix ix_seq (pv 5) (pe_cl g_law_take (hr.mono (by decide)) px0 (pa_cons (pv 0) (pa_cons pe_int pa_nil))) (fun _ _ => rfl)))))))

/-! _law_bad_page -/
def t_law_bad_page (K : PySem.W.Frag) (a : Ad) (E : XK) : TS := (tRet (tOp (rIx K) (tLstG (tCons (tVar 1) (tCons (tUn rNeg1 (tC (.int 1))) (tCons (tUn rNeg1 (tVar 1)) (tCons (tOp rAddG (tVar 1) (tC (.int 60))) (tCons (tC .non) (tCons (tC (.bl true)) (tCons (tC (.bl false)) (tCons (tC (.str "0")) (tCons (tTupG (tCons (tC (.int 0)) tNil)) (tCons (tLstG (tCons (tC (.int 0)) tNil)) (tCons tDicG (tCons (tOp rPowG (tC (.int 10)) (tC (.int 39))) tNil))))))))))))) (tCl sp_law_take E0s (tCons (tVar 0) (tCons (tC (.int 12)) tNil)))))
set_option maxHeartbeats 4000000 in
theorem d_law_bad_page (T : Txt K mg a) (g_law_take : G_law_take P w K mg base a) {f : Addr} {cdv : Value} {A : Around} {outer : List Env} {s : Shared} {H : Hp} {E : XK} (hr : Room 1 (A.deeper (envOfC "_law_bad_page" (defScope s_law_bad_page) s.heap.objs.size f cdv))) :
    PSs (cxOf (L2.CX P w) P w K mg base ["box", "pages"] "_law_bad_page" (defScope s_law_bad_page) f cdv A outer s H E) (defBody s_law_bad_page) (t_law_bad_page K a E) :=
  (pss_one (ps_ret (pe_ix ix_seq (pe_lstG (pa_cons (pv 1) (pa_cons (pe_un oq_neg pe_int) (pa_cons (pe_un oq_neg (pv 1)) (pa_cons (pe_op oq_add (pv 1) pe_int) (pa_cons pe_non (pa_cons pe_bl (pa_cons pe_bl (pa_cons pe_str (pa_cons (pe_tupG (pa_cons pe_int pa_nil)) (pa_cons (pe_lstG (pa_cons pe_int pa_nil)) (pa_cons pe_dicG (pa_cons (pe_op oq_pow pe_int pe_int) pa_nil))))))))))))) (pe_cl g_law_take (hr.mono (by decide)) px0 (pa_cons (pv 0) (pa_cons pe_int pa_nil))) (fun _ _ => rfl))))

/-! _law_bad_size -/
def t_law_bad_size (K : PySem.W.Frag) (a : Ad) (E : XK) : TS := (tRet (tOp (rIx K) (tLstG (tCons (tOp rSubG (tVar 1) (tC (.int 1))) (tCons (tOp rAddG (tVar 2) (tC (.int 1))) (tCons (tC (.int 0)) (tCons (tUn rNeg1 (tVar 1)) (tCons (tC (.bl true)) (tCons (tC .non) (tCons (tCB rStr1 (tCons (tVar 1) tNil)) (tCons (tLstG (tCons (tVar 1) tNil)) (tCons (tTupG (tCons (tVar 2) tNil)) (tCons tDicG (tCons (tOp rPowG (tC (.int 10)) (tC (.int 39))) (tCons (tC (.str "")) tNil))))))))))))) (tCl sp_law_take E0s (tCons (tVar 0) (tCons (tC (.int 12)) tNil)))))
set_option maxHeartbeats 4000000 in
theorem d_law_bad_size (T : Txt K mg a) (g_law_take : G_law_take P w K mg base a) {f : Addr} {cdv : Value} {A : Around} {outer : List Env} {s : Shared} {H : Hp} {E : XK} (hr : Room 1 (A.deeper (envOfC "_law_bad_size" (defScope s_law_bad_size) s.heap.objs.size f cdv))) :
    PSs (cxOf (L2.CX P w) P w K mg base ["box", "low", "high"] "_law_bad_size" (defScope s_law_bad_size) f cdv A outer s H E) (defBody s_law_bad_size) (t_law_bad_size K a E) :=
  (pss_one (ps_ret (pe_ix ix_seq (pe_lstG (pa_cons (pe_op oq_sub (pv 1) pe_int) (pa_cons (pe_op oq_add (pv 2) pe_int) (pa_cons pe_int (pa_cons (pe_un oq_neg (pv 1)) (pa_cons pe_bl (pa_cons pe_non (pa_cons (pe_callTy oq_str (by rfl) T.b_str (by decide +kernel) (pa_cons (pv 1) pa_nil)) (pa_cons (pe_lstG (pa_cons (pv 1) pa_nil)) (pa_cons (pe_tupG (pa_cons (pv 2) pa_nil)) (pa_cons pe_dicG (pa_cons (pe_op oq_pow pe_int pe_int) (pa_cons pe_str pa_nil))))))))))))) (pe_cl g_law_take (hr.mono (by decide)) px0 (pa_cons (pv 0) (pa_cons pe_int pa_nil))) (fun _ _ => rfl))))

/-! _law_like -/
def t_law_like (K : PySem.W.Frag) (a : Ad) (E : XK) (sp : Sp) : TS := (tSeq (tIfS (tB (tCB (rIsiG K) (tCons (tVar 1) (tCons (tTupG (tCons (tC (.ty "list")) (tCons (tC (.ty "tuple")) tNil))) tNil)))) (tSeq (tIfS (tOr (tTest (tOp (rNeG K) (tCB (rIsiG K) (tCons (tVar 0) (tCons (tC (.ty "list")) tNil))) (tCB (rIsiG K) (tCons (tVar 1) (tCons (tC (.ty "list")) tNil))))) (tOr (tTest (tOp (rNeG K) (tCB (rIsiG K) (tCons (tVar 0) (tCons (tC (.ty "tuple")) tNil))) (tCB (rIsiG K) (tCons (tVar 1) (tCons (tC (.ty "tuple")) tNil))))) (tTest (tOp (rNeG K) (tCB (rLenG K) (tCons (tVar 0) tNil)) (tCB (rLenG K) (tCons (tVar 1) tNil)))))) (tRet (tC (.bl false))) tNext)
    (tRet (tOp (rEqG K) (tLc (iRng1 (tCons (tCB (rLenG K) (tCons (tVar 1) tNil)) tNil)) (gName 2) (tNot (tB (tCl sp E0s (tCons (tOp (rIx K) (tVar 0) (tVar 2)) (tCons (tOp (rIx K) (tVar 1) (tVar 2)) tNil))))) (tVar 2) [2]) (tLstG tNil)))) tNext)
    (tSeq (tIfS (tOr (tTest (tOp rIsG (tVar 1) (tC .non))) (tB (tCB (rIsiG K) (tCons (tVar 1) (tCons (tC (.ty "bool")) tNil))))) (tRet (tOp (rEqG K) (tTupG (tCons (tOp rIsG (tVar 0) (tC .non)) (tCons (tOp rIsG (tVar 0) (tC (.bl true))) (tCons (tOp rIsG (tVar 0) (tC (.bl false))) tNil)))) (tTupG (tCons (tOp rIsG (tVar 1) (tC .non)) (tCons (tOp rIsG (tVar 1) (tC (.bl true))) (tCons (tOp rIsG (tVar 1) (tC (.bl false))) tNil)))))) tNext)
    (tSeq (tIfS (tB (tCB (rIsiG K) (tCons (tVar 1) (tCons (tC (.ty "str")) tNil)))) (tRet (tAndV (tCB (rIsiG K) (tCons (tVar 0) (tCons (tC (.ty "str")) tNil))) (tOp (rEqG K) (tVar 0) (tVar 1)))) tNext)
    (tSeq (tIfS (tB (tCB (rIsiG K) (tCons (tVar 1) (tCons (tC (.ty "int")) tNil)))) (tRet (tAndV (tCB (rIsiG K) (tCons (tVar 0) (tCons (tC (.ty "int")) tNil))) (tAndV (tNotV (tCB (rIsiG K) (tCons (tVar 0) (tCons (tC (.ty "bool")) tNil)))) (tOp (rEqG K) (tVar 0) (tVar 1))))) tNext)
    (tRet (tOp (rEqG K) (tCB (rIsiG K) (tCons (tVar 0) (tCons (tC (.ty "dict")) tNil))) (tCB (rIsiG K) (tCons (tVar 1) (tCons (tC (.ty "dict")) tNil)))))))))
set_option maxHeartbeats 4000000 in
theorem d_law_like (T : Txt K mg a) {k : Nat} {sp : Sp} (g_law_like : Here P w K mg base k "_law_like" ["told", "due"] sp) {f : Addr} {cdv : Value} {A : Around} {outer : List Env} {s : Shared} {H : Hp} {E : XK} (hr : Room k (A.deeper (envOfC "_law_like" (defScope s_law_like) s.heap.objs.size f cdv))) :
    PSs (cxOf (L2.CX P w) P w K mg base ["told", "due", "k"] "_law_like" (defScope s_law_like) f cdv A outer s H E) (defBody s_law_like) (t_law_like K a E sp) :=
  (pss_cons (ps_if (pt_val (pe_callB oq_isi (by rfl) T.b_isinstance (by decide +kernel) (pa_cons (pv 1) (pa_cons (pe_tupG (pa_cons (pe_bltn (v := .ty "list") (by rfl) T.b_list (by decide +kernel) rfl) (pa_cons (pe_bltn (v := .ty "tuple") (by rfl) T.b_tuple (by decide +kernel) rfl) pa_nil))) pa_nil)))) (pss_cons (ps_if (PW.pt (pw_or (pt_cmpR (oq_ne hr.units) (pe_callB oq_isi (by rfl) T.b_isinstance (by decide +kernel) (pa_cons (pv 0) (pa_cons (pe_bltn (v := .ty "list") (by rfl) T.b_list (by decide +kernel) rfl) pa_nil))) (pe_callB oq_isi (by rfl) T.b_isinstance (by decide +kernel) (pa_cons (pv 1) (pa_cons (pe_bltn (v := .ty "list") (by rfl) T.b_list (by decide +kernel) rfl) pa_nil))) (nomark _)) (pw_or (pt_cmpR (oq_ne hr.units) (pe_callB oq_isi (by rfl) T.b_isinstance (by decide +kernel) (pa_cons (pv 0) (pa_cons (pe_bltn (v := .ty "tuple") (by rfl) T.b_tuple (by decide +kernel) rfl) pa_nil))) (pe_callB oq_isi (by rfl) T.b_isinstance (by decide +kernel) (pa_cons (pv 1) (pa_cons (pe_bltn (v := .ty "tuple") (by rfl) T.b_tuple (by decide +kernel) rfl) pa_nil))) (nomark _)) (pw_or1 (pt_cmpR (oq_ne hr.units) (pe_callB oq_len (by rfl) T.b_len (by decide +kernel) (pa_cons (pv 0) pa_nil)) (pe_callB oq_len (by rfl) T.b_len (by decide +kernel) (pa_cons (pv 1) pa_nil)) (nomark _)))))) (pss_one (ps_ret pe_bl)) pss_nil)
    (pss_one (ps_ret (pe_cmpR (oq_eq hr.units) (pe_lc (own := [("k", 2)]) (g := (gName 2)) (tt := (tNot (tB (tCl sp E0s (tCons (tOp (rIx K) (tVar 0) (tVar 2)) (tCons (tOp (rIx K) (tVar 1) (tVar 2)) tNil)))))) rfl sc_law_like.nd (pi_range1 rfl T.b_range (pa_cons (pe_callB oq_len (by rfl) T.b_len (by decide +kernel) (pa_cons (pv 1) pa_nil)) pa_nil)) (blkOk_by (N := ["told", "due", "k"]) (sc := defScope s_law_like) (by decide +kernel)) (fun _ _ _ _ _ => (pg_name (i := 2) sc_law_like.nd rfl (Or.inl rfl))) (fun _ _ _ _ _ => (pts_one (pt_not (pt_val (pe_cl g_law_like hr px0 (pa_cons (pe_ix ix_seq (pv 0) (pv 2) (fun _ _ => rfl)) (pa_cons (pe_ix ix_seq (pv 1) (pv 2) (fun _ _ => rfl)) pa_nil))))))) (fun _ _ _ _ _ => (pv 2))) (pe_lstG pa_nil) (nomark _))))) pss_nil)
    (pss_cons (ps_if (PW.pt (pw_or (pt_cmpR oq_is (pv 1) pe_non (nomark _)) (pw_or1 (pt_val (pe_callB oq_isi (by rfl) T.b_isinstance (by decide +kernel) (pa_cons (pv 1) (pa_cons (pe_bltn (v := .ty "bool") (by rfl) T.b_bool (by decide +kernel) rfl) pa_nil))))))) (pss_one (ps_ret (pe_cmpR (oq_eq hr.units) (pe_tupG (pa_cons (pe_cmpR oq_is (pv 0) pe_non (nomark _)) (pa_cons (pe_cmpR oq_is (pv 0) pe_bl (nomark _)) (pa_cons (pe_cmpR oq_is (pv 0) pe_bl (nomark _)) pa_nil)))) (pe_tupG (pa_cons (pe_cmpR oq_is (pv 1) pe_non (nomark _)) (pa_cons (pe_cmpR oq_is (pv 1) pe_bl (nomark _)) (pa_cons (pe_cmpR oq_is (pv 1) pe_bl (nomark _)) pa_nil)))) (nomark _)))) pss_nil)
    (pss_cons (ps_if (pt_val (pe_callB oq_isi (by rfl) T.b_isinstance (by decide +kernel) (pa_cons (pv 1) (pa_cons (pe_bltn (v := .ty "str") (by rfl) T.b_str (by decide +kernel) rfl) pa_nil)))) (pss_one (ps_ret (pe_and (pe_callB oq_isi (by rfl) T.b_isinstance (by decide +kernel) (pa_cons (pv 0) (pa_cons (pe_bltn (v := .ty "str") (by rfl) T.b_str (by decide +kernel) rfl) pa_nil))) (pe_one (pe_cmpR (oq_eq hr.units) (pv 0) (pv 1) (nomark _)))))) pss_nil)
    (pss_cons (ps_if (pt_val (pe_callB oq_isi (by rfl) T.b_isinstance (by decide +kernel) (pa_cons (pv 1) (pa_cons (pe_bltn (v := .ty "int") (by rfl) T.b_int (by decide +kernel) rfl) pa_nil)))) (pss_one (ps_ret (pe_and (pe_callB oq_isi (by rfl) T.b_isinstance (by decide +kernel) (pa_cons (pv 0) (pa_cons (pe_bltn (v := .ty "int") (by rfl) T.b_int (by decide +kernel) rfl) pa_nil))) (pe_and (pe_not (pe_callB oq_isi (by rfl) T.b_isinstance (by decide +kernel) (pa_cons (pv 0) (pa_cons (pe_bltn (v := .ty "bool") (by rfl) T.b_bool (by decide +kernel) rfl) pa_nil)))) (pe_one (pe_cmpR (oq_eq hr.units) (pv 0) (pv 1) (nomark _))))))) pss_nil)
    (pss_one (ps_ret (pe_cmpR (oq_eq hr.units) (pe_callB oq_isi (by rfl) T.b_isinstance (by decide +kernel) (pa_cons (pv 0) (pa_cons (pe_bltn (v := .ty "dict") (by rfl) T.b_dict (by decide +kernel) rfl) pa_nil))) (pe_callB oq_isi (by rfl) T.b_isinstance (by decide +kernel) (pa_cons (pv 1) (pa_cons (pe_bltn (v := .ty "dict") (by rfl) T.b_dict (by decide +kernel) rfl) pa_nil))) (nomark _))))))))

/-! _law_given -/
def t_law_given (K : PySem.W.Frag) (a : Ad) (E : XK) : TS := (tSeq (tIfS (tNot (tB (tCl sp_law_like E0s (tCons (tVar 0) (tCons (tLstG (tCons (tVar 1) (tCons (tVar 2) (tCons (tC (.bl true)) tNil)))) tNil))))) (tRet (tC (.bl false))) tNext)
    (tSeq (tIfS (tB (tCB (rIsiG K) (tCons (tVar 2) (tCons (tC (.ty "list")) tNil)))) (tDrop (tBM K "list" rAppend (tVar 2) (tCons (tC (.str "more")) tNil))) tNext)
    (tRet (tCl sp_law_like E0s (tCons (tOp (rIx K) (tVar 0) (tC (.int 1))) (tCons (tVar 2) tNil))))))
set_option maxHeartbeats 4000000 in
theorem d_law_given (T : Txt K mg a) (g_law_like : G_law_like P w K mg base a) {f : Addr} {cdv : Value} {A : Around} {outer : List Env} {s : Shared} {H : Hp} {E : XK} (hr : Room 3 (A.deeper (envOfC "_law_given" (defScope s_law_given) s.heap.objs.size f cdv))) :
    PSs (cxOf (L2.CX P w) P w K mg base ["told", "word", "value"] "_law_given" (defScope s_law_given) f cdv A outer s H E) (defBody s_law_given) (t_law_given K a E) :=
  (pss_cons (ps_if (pt_not (pt_val (pe_cl g_law_like (hr.mono (by decide)) px0 (pa_cons (pv 0) (pa_cons (pe_lstG (pa_cons (pv 1) (pa_cons (pv 2) (pa_cons pe_bl pa_nil)))) pa_nil))))) (pss_one (ps_ret pe_bl)) pss_nil)
    (pss_cons (ps_if (pt_val (pe_callB oq_isi (by rfl) T.b_isinstance (by decide +kernel) (pa_cons (pv 2) (pa_cons (pe_bltn (v := .ty "list") (by rfl) T.b_list (by decide +kernel) rfl) pa_nil)))) (pss_one (ps_expr (pe_bm PySem.F.plainAttrs_list PySem.F.slot_list_append PySem.F.type_list_append mt_append (pv 2) (pa_cons pe_str pa_nil)))) pss_nil)
    (pss_one (ps_ret (pe_cl g_law_like (hr.mono (by decide)) px0 (pa_cons (pe_ix ix_seq (pv 0) pe_int (fun _ _ => rfl)) (pa_cons (pv 2) pa_nil)))))))

/-! _law_made -/
def t_law_made (K : PySem.W.Frag) (a : Ad) (E : XK) : TS := (fun D σ H => (fun W => (tRet (tLstG (tCons (tC (.str "told")) (tCons (tIf (tB (tVar 2)) (tMaK a.disk 2 gk_Disk_init_width_pages (sp_Disk_init a) (WE W) (tCons (tVar 1) (tCons (tVar 0) tNil))) (tMa a.disk (sp_Disk_init a) (WE W) (tCons (tVar 0) (tCons (tVar 1) tNil)))) tNil))))) (wManyA K (fun _ _ _ _ => False) D [(.ref a.eP, 3, fun x cls dd => (tRet (tLstG (tCons (tC (.str "pages")) (tCons (tXf x cls dd a.eP "given" (tVar 3)) (tCons (tCB (rIsD K cls x dd) (tCons (tVar 3) (tCons (tC (.ref a.near)) tNil))) tNil)))))), (.ref a.eW, 3, fun x cls dd => (tRet (tLstG (tCons (tC (.str "width")) (tCons (tXf x cls dd a.eW "given" (tVar 3)) (tCons (tCB (rIsD K cls x dd) (tCons (tVar 3) (tCons (tC (.ref a.near)) tNil))) tNil))))))]) D σ H)
set_option maxHeartbeats 4000000 in
theorem d_law_made (T : Txt K mg a) (g_Disk_init : G_Disk_init P w K mg base a) (g_Disk_init_width_pages : G_Disk_init_width_pages P w K mg base a) {f : Addr} {cdv : Value} {A : Around} {outer : List Env} {s : Shared} {H : Hp} {E : XK} (hr : Room 4 (A.deeper (envOfC "_law_made" (defScope s_law_made) s.heap.objs.size f cdv))) :
    PSs (cxOf (L2.CX P w) P w K mg base ["pages", "width", "named", "e"] "_law_made" (defScope s_law_made) f cdv A outer s H E) (defBody s_law_made) (t_law_made K a E) :=
  (pss_one (ps_try_manyA (tb := (fun W => (tRet (tLstG (tCons (tC (.str "told")) (tCons (tIf (tB (tVar 2)) (tMaK a.disk 2 gk_Disk_init_width_pages (sp_Disk_init a) (WE W) (tCons (tVar 1) (tCons (tVar 0) tNil))) (tMa a.disk (sp_Disk_init a) (WE W) (tCons (tVar 0) (tCons (tVar 1) tNil)))) tNil)))))) (Wout := (fun _ _ _ _ => False)) rfl rfl sc_law_made.nd takes0 (fun W pn xe tk _ => (pss_one (ps_ret (pe_lstG (pa_cons pe_str (pa_cons (pe_ifExp (pt_val (pv 2)) (pe_maK g_Disk_init_width_pages (hr.mono (by decide)) T.c_Disk (pxW tk) (pk_cons (pv 1) (pk_cons (pv 0) pk_nil))) (pe_ma g_Disk_init (hr.mono (by decide)) T.c_Disk (pxW tk) (pa_cons (pv 0) (pa_cons (pv 1) pa_nil)))) pa_nil)))))) (HdsA.cons (i := 3) (ts := fun x cls dd => (tRet (tLstG (tCons (tC (.str "pages")) (tCons (tXf x cls dd a.eP "given" (tVar 3)) (tCons (tCB (rIsD K cls x dd) (tCons (tVar 3) (tCons (tC (.ref a.near)) tNil))) tNil)))))) rfl rfl ⟨rfl, by decide, .inl T.c_InvalidPages⟩ (fun x oe cls dd pn hz hf => (pss_one (ps_ret (pe_lstG (pa_cons pe_str (pa_cons (pe_xf T.xf_InvalidPages.1 T.xf_InvalidPages.2 hz hf (pv 3)) (pa_cons (pe_callB (call_isD hz hf) (by rfl) T.b_isinstance (by decide +kernel) (pa_cons (pv 3) (pa_cons (pe_glob (v := .ref a.near) rfl T.c_NearError rfl) pa_nil))) pa_nil))))))) (HdsA.cons (i := 3) (ts := fun x cls dd => (tRet (tLstG (tCons (tC (.str "width")) (tCons (tXf x cls dd a.eW "given" (tVar 3)) (tCons (tCB (rIsD K cls x dd) (tCons (tVar 3) (tCons (tC (.ref a.near)) tNil))) tNil)))))) rfl rfl ⟨rfl, by decide, .inl T.c_InvalidWidth⟩ (fun x oe cls dd pn hz hf => (pss_one (ps_ret (pe_lstG (pa_cons pe_str (pa_cons (pe_xf T.xf_InvalidWidth.1 T.xf_InvalidWidth.2 hz hf (pv 3)) (pa_cons (pe_callB (call_isD hz hf) (by rfl) T.b_isinstance (by decide +kernel) (pa_cons (pv 3) (pa_cons (pe_glob (v := .ref a.near) rfl T.c_NearError rfl) pa_nil))) pa_nil))))))) HdsA.nil))))

/-! _law_write -/
def t_law_write (K : PySem.W.Frag) (a : Ad) (E : XK) : TS := (fun D σ H => (fun W => (tRet (tLstG (tCons (tC (.str "told")) (tCons (tIf (tB (tVar 3)) (tMeK a.disk "write" 2 gk_Disk_write_text_page (sp_Disk_write a) (WE W) (tVar 0) (tCons (tVar 2) (tCons (tVar 1) tNil))) (tMe a.disk "write" (sp_Disk_write a) (WE W) (tVar 0) (tCons (tVar 1) (tCons (tVar 2) tNil)))) tNil))))) (wManyA K (fun _ _ _ _ => False) D [(.ref a.eG, 4, fun x cls dd => (tRet (tLstG (tCons (tC (.str "page")) (tCons (tXf x cls dd a.eG "given" (tVar 4)) (tCons (tCB (rIsD K cls x dd) (tCons (tVar 4) (tCons (tC (.ref a.near)) tNil))) tNil)))))), (.ref a.eT, 4, fun x cls dd => (tRet (tLstG (tCons (tC (.str "text")) (tCons (tXf x cls dd a.eT "given" (tVar 4)) (tCons (tCB (rIsD K cls x dd) (tCons (tVar 4) (tCons (tC (.ref a.near)) tNil))) tNil)))))), (.ref a.eX, 4, fun x cls dd => (tRet (tLstG (tCons (tC (.str "cut")) (tCons (tCB (rIsD K cls x dd) (tCons (tVar 4) (tCons (tC (.ref a.near)) tNil))) tNil)))))]) D σ H)
set_option maxHeartbeats 4000000 in
theorem d_law_write (T : Txt K mg a) (g_Disk_write : G_Disk_write P w K mg base a) (g_Disk_write_text_page : G_Disk_write_text_page P w K mg base a) {f : Addr} {cdv : Value} {A : Around} {outer : List Env} {s : Shared} {H : Hp} {E : XK} (hr : Room 4 (A.deeper (envOfC "_law_write" (defScope s_law_write) s.heap.objs.size f cdv))) :
    PSs (cxOf (L2.CX P w) P w K mg base ["disk", "page", "text", "named", "e"] "_law_write" (defScope s_law_write) f cdv A outer s H E) (defBody s_law_write) (t_law_write K a E) :=
  (pss_one (ps_try_manyA (tb := (fun W => (tRet (tLstG (tCons (tC (.str "told")) (tCons (tIf (tB (tVar 3)) (tMeK a.disk "write" 2 gk_Disk_write_text_page (sp_Disk_write a) (WE W) (tVar 0) (tCons (tVar 2) (tCons (tVar 1) tNil))) (tMe a.disk "write" (sp_Disk_write a) (WE W) (tVar 0) (tCons (tVar 1) (tCons (tVar 2) tNil)))) tNil)))))) (Wout := (fun _ _ _ _ => False)) rfl rfl sc_law_write.nd takes0 (fun W pn xe tk _ => (pss_one (ps_ret (pe_lstG (pa_cons pe_str (pa_cons (pe_ifExp (pt_val (pv 3)) (pe_meK (pv 0) T.cl_Disk g_Disk_write_text_page (hr.mono (by decide)) (pxW tk) (pk_cons (pv 2) (pk_cons (pv 1) pk_nil))) (pe_me (pv 0) T.cl_Disk g_Disk_write (hr.mono (by decide)) (pxW tk) (pa_cons (pv 1) (pa_cons (pv 2) pa_nil)))) pa_nil)))))) (HdsA.cons (i := 4) (ts := fun x cls dd => (tRet (tLstG (tCons (tC (.str "page")) (tCons (tXf x cls dd a.eG "given" (tVar 4)) (tCons (tCB (rIsD K cls x dd) (tCons (tVar 4) (tCons (tC (.ref a.near)) tNil))) tNil)))))) rfl rfl ⟨rfl, by decide, .inl T.c_InvalidPage⟩ (fun x oe cls dd pn hz hf => (pss_one (ps_ret (pe_lstG (pa_cons pe_str (pa_cons (pe_xf T.xf_InvalidPage.1 T.xf_InvalidPage.2 hz hf (pv 4)) (pa_cons (pe_callB (call_isD hz hf) (by rfl) T.b_isinstance (by decide +kernel) (pa_cons (pv 4) (pa_cons (pe_glob (v := .ref a.near) rfl T.c_NearError rfl) pa_nil))) pa_nil))))))) (HdsA.cons (i := 4) (ts := fun x cls dd => (tRet (tLstG (tCons (tC (.str "text")) (tCons (tXf x cls dd a.eT "given" (tVar 4)) (tCons (tCB (rIsD K cls x dd) (tCons (tVar 4) (tCons (tC (.ref a.near)) tNil))) tNil)))))) rfl rfl ⟨rfl, by decide, .inl T.c_InvalidText⟩ (fun x oe cls dd pn hz hf => (pss_one (ps_ret (pe_lstG (pa_cons pe_str (pa_cons (pe_xf T.xf_InvalidText.1 T.xf_InvalidText.2 hz hf (pv 4)) (pa_cons (pe_callB (call_isD hz hf) (by rfl) T.b_isinstance (by decide +kernel) (pa_cons (pv 4) (pa_cons (pe_glob (v := .ref a.near) rfl T.c_NearError rfl) pa_nil))) pa_nil))))))) (HdsA.cons (i := 4) (ts := fun x cls dd => (tRet (tLstG (tCons (tC (.str "cut")) (tCons (tCB (rIsD K cls x dd) (tCons (tVar 4) (tCons (tC (.ref a.near)) tNil))) tNil))))) rfl rfl ⟨rfl, by decide, .inl T.c_PowerCut⟩ (fun x oe cls dd pn hz hf => (pss_one (ps_ret (pe_lstG (pa_cons pe_str (pa_cons (pe_callB (call_isD hz hf) (by rfl) T.b_isinstance (by decide +kernel) (pa_cons (pv 4) (pa_cons (pe_glob (v := .ref a.near) rfl T.c_NearError rfl) pa_nil))) pa_nil)))))) HdsA.nil)))))

/-! _law_read -/
def t_law_read (K : PySem.W.Frag) (a : Ad) (E : XK) : TS := (fun D σ H => (fun W => (tRet (tLstG (tCons (tC (.str "told")) (tCons (tIf (tB (tVar 2)) (tMeK a.disk "text" 1 gk_Disk_text_page (sp_Disk_text a) (WE W) (tVar 0) (tCons (tVar 1) tNil)) (tMe a.disk "text" (sp_Disk_text a) (WE W) (tVar 0) (tCons (tVar 1) tNil))) tNil))))) (wManyA K (fun _ _ _ _ => False) D [(.ref a.eG, 3, fun x cls dd => (tRet (tLstG (tCons (tC (.str "page")) (tCons (tXf x cls dd a.eG "given" (tVar 3)) (tCons (tCB (rIsD K cls x dd) (tCons (tVar 3) (tCons (tC (.ref a.near)) tNil))) tNil))))))]) D σ H)
set_option maxHeartbeats 4000000 in
theorem d_law_read (T : Txt K mg a) (g_Disk_text : G_Disk_text P w K mg base a) (g_Disk_text_page : G_Disk_text_page P w K mg base a) {f : Addr} {cdv : Value} {A : Around} {outer : List Env} {s : Shared} {H : Hp} {E : XK} (hr : Room 4 (A.deeper (envOfC "_law_read" (defScope s_law_read) s.heap.objs.size f cdv))) :
    PSs (cxOf (L2.CX P w) P w K mg base ["disk", "page", "named", "e"] "_law_read" (defScope s_law_read) f cdv A outer s H E) (defBody s_law_read) (t_law_read K a E) :=
  (pss_one (ps_try_manyA (tb := (fun W => (tRet (tLstG (tCons (tC (.str "told")) (tCons (tIf (tB (tVar 2)) (tMeK a.disk "text" 1 gk_Disk_text_page (sp_Disk_text a) (WE W) (tVar 0) (tCons (tVar 1) tNil)) (tMe a.disk "text" (sp_Disk_text a) (WE W) (tVar 0) (tCons (tVar 1) tNil))) tNil)))))) (Wout := (fun _ _ _ _ => False)) rfl rfl sc_law_read.nd takes0 (fun W pn xe tk _ => (pss_one (ps_ret (pe_lstG (pa_cons pe_str (pa_cons (pe_ifExp (pt_val (pv 2)) (pe_meK (pv 0) T.cl_Disk g_Disk_text_page (hr.mono (by decide)) (pxW tk) (pk_cons (pv 1) pk_nil)) (pe_me (pv 0) T.cl_Disk g_Disk_text (hr.mono (by decide)) (pxW tk) (pa_cons (pv 1) pa_nil))) pa_nil)))))) (HdsA.cons (i := 3) (ts := fun x cls dd => (tRet (tLstG (tCons (tC (.str "page")) (tCons (tXf x cls dd a.eG "given" (tVar 3)) (tCons (tCB (rIsD K cls x dd) (tCons (tVar 3) (tCons (tC (.ref a.near)) tNil))) tNil)))))) rfl rfl ⟨rfl, by decide, .inl T.c_InvalidPage⟩ (fun x oe cls dd pn hz hf => (pss_one (ps_ret (pe_lstG (pa_cons pe_str (pa_cons (pe_xf T.xf_InvalidPage.1 T.xf_InvalidPage.2 hz hf (pv 3)) (pa_cons (pe_callB (call_isD hz hf) (by rfl) T.b_isinstance (by decide +kernel) (pa_cons (pv 3) (pa_cons (pe_glob (v := .ref a.near) rfl T.c_NearError rfl) pa_nil))) pa_nil))))))) HdsA.nil)))

/-! _law_limit -/
def t_law_limit (K : PySem.W.Frag) (a : Ad) (E : XK) : TS := (fun D σ H => (fun W => (tRet (tLstG (tCons (tC (.str "told")) (tCons (tIf (tB (tVar 2)) (tMeK a.disk "limit" 1 gk_Disk_limit_count (sp_Disk_limit a) (WE W) (tVar 0) (tCons (tVar 1) tNil)) (tMe a.disk "limit" (sp_Disk_limit a) (WE W) (tVar 0) (tCons (tVar 1) tNil))) tNil))))) (wManyA K (fun _ _ _ _ => False) D [(.ref a.eC, 3, fun x cls dd => (tRet (tLstG (tCons (tC (.str "count")) (tCons (tXf x cls dd a.eC "given" (tVar 3)) (tCons (tCB (rIsD K cls x dd) (tCons (tVar 3) (tCons (tC (.ref a.near)) tNil))) tNil))))))]) D σ H)
set_option maxHeartbeats 4000000 in
theorem d_law_limit (T : Txt K mg a) (g_Disk_limit : G_Disk_limit P w K mg base a) (g_Disk_limit_count : G_Disk_limit_count P w K mg base a) {f : Addr} {cdv : Value} {A : Around} {outer : List Env} {s : Shared} {H : Hp} {E : XK} (hr : Room 3 (A.deeper (envOfC "_law_limit" (defScope s_law_limit) s.heap.objs.size f cdv))) :
    PSs (cxOf (L2.CX P w) P w K mg base ["disk", "count", "named", "e"] "_law_limit" (defScope s_law_limit) f cdv A outer s H E) (defBody s_law_limit) (t_law_limit K a E) :=
  (pss_one (ps_try_manyA (tb := (fun W => (tRet (tLstG (tCons (tC (.str "told")) (tCons (tIf (tB (tVar 2)) (tMeK a.disk "limit" 1 gk_Disk_limit_count (sp_Disk_limit a) (WE W) (tVar 0) (tCons (tVar 1) tNil)) (tMe a.disk "limit" (sp_Disk_limit a) (WE W) (tVar 0) (tCons (tVar 1) tNil))) tNil)))))) (Wout := (fun _ _ _ _ => False)) rfl rfl sc_law_limit.nd takes0 (fun W pn xe tk _ => (pss_one (ps_ret (pe_lstG (pa_cons pe_str (pa_cons (pe_ifExp (pt_val (pv 2)) (pe_meK (pv 0) T.cl_Disk g_Disk_limit_count (hr.mono (by decide)) (pxW tk) (pk_cons (pv 1) pk_nil)) (pe_me (pv 0) T.cl_Disk g_Disk_limit (hr.mono (by decide)) (pxW tk) (pa_cons (pv 1) pa_nil))) pa_nil)))))) (HdsA.cons (i := 3) (ts := fun x cls dd => (tRet (tLstG (tCons (tC (.str "count")) (tCons (tXf x cls dd a.eC "given" (tVar 3)) (tCons (tCB (rIsD K cls x dd) (tCons (tVar 3) (tCons (tC (.ref a.near)) tNil))) tNil)))))) rfl rfl ⟨rfl, by decide, .inl T.c_InvalidCount⟩ (fun x oe cls dd pn hz hf => (pss_one (ps_ret (pe_lstG (pa_cons pe_str (pa_cons (pe_xf T.xf_InvalidCount.1 T.xf_InvalidCount.2 hz hf (pv 3)) (pa_cons (pe_callB (call_isD hz hf) (by rfl) T.b_isinstance (by decide +kernel) (pa_cons (pv 3) (pa_cons (pe_glob (v := .ref a.near) rfl T.c_NearError rfl) pa_nil))) pa_nil))))))) HdsA.nil)))

/-! _law_state_right -/
def t_law_state_right (K : PySem.W.Frag) (a : Ad) (E : XK) : TS := (tSeq (tIfS (tOr (tNot (tB (tCB (rIsiG K) (tCons (tVar 0) (tCons (tC (.ref a.disk)) tNil))))) (tNot (tB (tCl sp_law_like E0s (tCons (tLstG (tCons (tFld K (tVar 0) "pages") (tCons (tFld K (tVar 0) "width") (tCons (tFld K (tVar 0) "left") tNil)))) (tCons (tLstG (tCons (tOp (rIx K) (tVar 1) (tC (.int 0))) (tCons (tOp (rIx K) (tVar 1) (tC (.int 1))) (tCons (tOp (rIx K) (tVar 1) (tC (.int 3))) tNil)))) tNil)))))) (tRet (tC (.bl false))) tNext)
    (tRet (tCl sp_law_like E0s (tCons (tLc (iRng1 (tCons (tOp (rIx K) (tVar 1) (tC (.int 0))) tNil)) (gName 3) tYes (tIf (tB (tVar 2)) (tMeK a.disk "text" 1 gk_Disk_text_page (sp_Disk_text a) E0s (tVar 0) (tCons (tVar 3) tNil)) (tMe a.disk "text" (sp_Disk_text a) E0s (tVar 0) (tCons (tVar 3) tNil))) [3]) (tCons (tOp (rIx K) (tVar 1) (tC (.int 2))) tNil)))))
set_option maxHeartbeats 4000000 in
theorem d_law_state_right (T : Txt K mg a) (g_Disk_text : G_Disk_text P w K mg base a) (g_Disk_text_page : G_Disk_text_page P w K mg base a) (g_law_like : G_law_like P w K mg base a) {f : Addr} {cdv : Value} {A : Around} {outer : List Env} {s : Shared} {H : Hp} {E : XK} (hr : Room 4 (A.deeper (envOfC "_law_state_right" (defScope s_law_state_right) s.heap.objs.size f cdv))) :
    PSs (cxOf (L2.CX P w) P w K mg base ["disk", "state", "named", "page"] "_law_state_right" (defScope s_law_state_right) f cdv A outer s H E) (defBody s_law_state_right) (t_law_state_right K a E) :=
  (pss_cons (ps_if (PW.pt (pw_or (pt_not (pt_val (pe_callB oq_isi (by rfl) T.b_isinstance (by decide +kernel) (pa_cons (pv 0) (pa_cons (pe_glob (v := .ref a.disk) rfl T.c_Disk rfl) pa_nil))))) (pw_or1 (pt_not (pt_val (pe_cl g_law_like (hr.mono (by decide)) px0 (pa_cons (pe_lstG (pa_cons (pe_fld (pv 0) rfl) (pa_cons (pe_fld (pv 0) rfl) (pa_cons (pe_fld (pv 0) rfl) pa_nil)))) (pa_cons (pe_lstG (pa_cons (pe_ix ix_seq (pv 1) pe_int (fun _ _ => rfl)) (pa_cons (pe_ix ix_seq (pv 1) pe_int (fun _ _ => rfl)) (pa_cons (pe_ix ix_seq (pv 1) pe_int (fun _ _ => rfl)) pa_nil)))) pa_nil)))))))) (pss_one (ps_ret pe_bl)) pss_nil)
    (pss_one (ps_ret (pe_cl g_law_like (hr.mono (by decide)) px0 (pa_cons (pe_lc (own := [("page", 3)]) (g := (gName 3)) (tt := tYes) rfl sc_law_state_right.nd (pi_range1 rfl T.b_range (pa_cons (pe_ix ix_seq (pv 1) pe_int (fun _ _ => rfl)) pa_nil)) (blkOk_by (N := ["disk", "state", "named", "page"]) (sc := defScope s_law_state_right) (by decide +kernel)) (fun _ _ _ _ _ => (pg_name (i := 3) sc_law_state_right.nd rfl (Or.inl rfl))) (fun _ _ _ _ _ => pts_nil) (fun _ _ _ _ _ => (pe_ifExp (pt_val (pv 2)) (pe_meK (pv 0) T.cl_Disk g_Disk_text_page (hr.mono (by decide)) px0 (pk_cons (pv 3) pk_nil)) (pe_me (pv 0) T.cl_Disk g_Disk_text (hr.mono (by decide)) px0 (pa_cons (pv 3) pa_nil))))) (pa_cons (pe_ix ix_seq (pv 1) pe_int (fun _ _ => rfl)) pa_nil))))))

/-! _law_write_right -/
def t_law_write_right (K : PySem.W.Frag) (a : Ad) (E : XK) : TS := (tSeq (tPar 5 6 (tCons (tOp (rIx K) (tVar 1) (tC (.int 2))) (tCons (tAndV (tOp rNotG (tOp (rIx K) (tVar 1) (tC (.int 3))) (tC .non)) (tOp rLeG (tOp (rIx K) (tVar 1) (tC (.int 3))) (tCB (rLenG K) (tCons (tVar 3) tNil)))) tNil)))
    (tSeq (tIfS (tB (tVar 6)) (tSeq (tAsg (tOp rAddG (L2.tSl (rSlG K) (tVar 3) tNoPart (tPart (tOp (rIx K) (tVar 1) (tC (.int 3))))) (L2.tSl (rSlG K) (tOp (rIx K) (tVar 5) (tVar 2)) (tPart (tOp (rIx K) (tVar 1) (tC (.int 3)))) tNoPart)) (gSub (tVar 5) (tVar 2) rSetL))
    (tAsg (tC (.int 0)) (gSub (tVar 1) (tC (.int 3)) rSetL))) (tSeq (tAsg (tVar 3) (gSub (tVar 5) (tVar 2) rSetL))
    (tAsg (tIf (tTest (tOp rIsG (tOp (rIx K) (tVar 1) (tC (.int 3))) (tC .non))) (tC .non) (tOp rSubG (tOp rSubG (tOp (rIx K) (tVar 1) (tC (.int 3))) (tCB (rLenG K) (tCons (tVar 3) tNil))) (tC (.int 1)))) (gSub (tVar 1) (tC (.int 3)) rSetL))))
    (tRet (tCl sp_law_like E0s (tCons (tCl (sp_law_write a) E0s (tCons (tVar 0) (tCons (tVar 2) (tCons (tVar 3) (tCons (tVar 4) tNil))))) (tCons (tIf (tB (tVar 6)) (tLstG (tCons (tC (.str "cut")) (tCons (tC (.bl true)) tNil))) (tLstG (tCons (tC (.str "told")) (tCons (tC .non) tNil)))) tNil))))))
set_option maxHeartbeats 4000000 in
theorem d_law_write_right (T : Txt K mg a) (g_law_like : G_law_like P w K mg base a) (g_law_write : G_law_write P w K mg base a) {f : Addr} {cdv : Value} {A : Around} {outer : List Env} {s : Shared} {H : Hp} {E : XK} (hr : Room 5 (A.deeper (envOfC "_law_write_right" (defScope s_law_write_right) s.heap.objs.size f cdv))) :
    PSs (cxOf (L2.CX P w) P w K mg base ["disk", "state", "page", "text", "named", "texts", "cut"] "_law_write_right" (defScope s_law_write_right) f cdv A outer s H E) (defBody s_law_write_right) (t_law_write_right K a E) :=
  (pss_cons (ps_par (i := 5) (j := 6) rfl sc_law_write_right.nd rfl rfl (by decide) rfl rfl (pa_cons (pe_ix ix_seq (pv 1) pe_int (fun _ _ => rfl)) (pa_cons (pe_and (pe_cmpR oq_isnot (pe_ix ix_seq (pv 1) pe_int (fun _ _ => rfl)) pe_non (nomark _)) (pe_one (pe_cmpR oq_le (pe_ix ix_seq (pv 1) pe_int (fun _ _ => rfl)) (pe_callB oq_len (by rfl) T.b_len (by decide +kernel) (pa_cons (pv 3) pa_nil)) (nomark _)))) pa_nil)) (by rfl))
    (pss_cons (ps_if (pt_val (pv 6)) (pss_cons (ps_asg (pe_op oq_add (pe_slice oq_sl (pv 3) po_none (po_some (pe_ix ix_seq (pv 1) pe_int (fun _ _ => rfl)))) (pe_slice oq_sl (pe_ix ix_seq (pv 5) (pv 2) (fun _ _ => rfl)) (po_some (pe_ix ix_seq (pv 1) pe_int (fun _ _ => rfl))) po_none)) (pg_sub (pv 5) (pv 2) set_list))
    (pss_one (ps_asg pe_int (pg_sub (pv 1) pe_int set_list)))) (pss_cons (ps_asg (pv 3) (pg_sub (pv 5) (pv 2) set_list))
    (pss_one (ps_asg (pe_ifExp (pt_cmpR oq_is (pe_ix ix_seq (pv 1) pe_int (fun _ _ => rfl)) pe_non (nomark _)) pe_non (pe_op oq_sub (pe_op oq_sub (pe_ix ix_seq (pv 1) pe_int (fun _ _ => rfl)) (pe_callB oq_len (by rfl) T.b_len (by decide +kernel) (pa_cons (pv 3) pa_nil))) pe_int)) (pg_sub (pv 1) pe_int set_list)))))
    (pss_one (ps_ret (pe_cl g_law_like (hr.mono (by decide)) px0 (pa_cons (pe_cl g_law_write (hr.mono (by decide)) px0 (pa_cons (pv 0) (pa_cons (pv 2) (pa_cons (pv 3) (pa_cons (pv 4) pa_nil))))) (pa_cons (pe_ifExp (pt_val (pv 6)) (pe_lstG (pa_cons pe_str (pa_cons pe_bl pa_nil))) (pe_lstG (pa_cons pe_str (pa_cons pe_non pa_nil)))) pa_nil)))))))

/-! _law_limit_right -/
def t_law_limit_right (K : PySem.W.Frag) (a : Ad) (E : XK) : TS := (tSeq (tAsg (tVar 2) (gSub (tVar 1) (tC (.int 3)) rSetL))
    (tRet (tCl sp_law_like E0s (tCons (tCl (sp_law_limit a) E0s (tCons (tVar 0) (tCons (tVar 2) (tCons (tVar 3) tNil)))) (tCons (tLstG (tCons (tC (.str "told")) (tCons (tC .non) tNil))) tNil)))))
set_option maxHeartbeats 4000000 in
theorem d_law_limit_right (T : Txt K mg a) (g_law_like : G_law_like P w K mg base a) (g_law_limit : G_law_limit P w K mg base a) {f : Addr} {cdv : Value} {A : Around} {outer : List Env} {s : Shared} {H : Hp} {E : XK} (hr : Room 4 (A.deeper (envOfC "_law_limit_right" (defScope s_law_limit_right) s.heap.objs.size f cdv))) :
    PSs (cxOf (L2.CX P w) P w K mg base ["disk", "state", "count", "named"] "_law_limit_right" (defScope s_law_limit_right) f cdv A outer s H E) (defBody s_law_limit_right) (t_law_limit_right K a E) :=
  (pss_cons (ps_asg (pv 2) (pg_sub (pv 1) pe_int set_list))
    (pss_one (ps_ret (pe_cl g_law_like (hr.mono (by decide)) px0 (pa_cons (pe_cl g_law_limit (hr.mono (by decide)) px0 (pa_cons (pv 0) (pa_cons (pv 2) (pa_cons (pv 3) pa_nil)))) (pa_cons (pe_lstG (pa_cons pe_str (pa_cons pe_non pa_nil))) pa_nil))))))

/-! _law_wrong_right -/
def t_law_wrong_right (K : PySem.W.Frag) (a : Ad) (E : XK) : TS := (tSeq (tPar 4 5 (tCons (tCl sp_law_take E0s (tCons (tVar 0) (tCons (tC (.int 5)) tNil))) (tCons (tCl sp_law_bad_page E0s (tCons (tVar 0) (tCons (tOp (rIx K) (tVar 2) (tC (.int 0))) tNil))) tNil)))
    (tSeq (tIfS (tTest (tOp (rEqG K) (tVar 4) (tC (.int 0)))) (tSeq (tAsg (tCl sp_law_bad_text E0s (tCons (tVar 0) (tCons (tOp (rIx K) (tVar 2) (tC (.int 1))) tNil))) (gName 7))
    (tRet (tCl sp_law_given E0s (tCons (tCl (sp_law_write a) E0s (tCons (tVar 1) (tCons (tCl sp_law_take E0s (tCons (tVar 0) (tCons (tOp (rIx K) (tVar 2) (tC (.int 0))) tNil))) (tCons (tVar 7) (tCons (tVar 3) tNil))))) (tCons (tC (.str "text")) (tCons (tVar 7) tNil)))))) tNext)
    (tSeq (tIfS (tTest (tOp (rEqG K) (tVar 4) (tC (.int 1)))) (tRet (tCl sp_law_given E0s (tCons (tCl (sp_law_write a) E0s (tCons (tVar 1) (tCons (tVar 5) (tCons (tCl sp_law_good E0s (tCons (tVar 0) (tCons (tOp (rIx K) (tVar 2) (tC (.int 1))) tNil))) (tCons (tVar 3) tNil))))) (tCons (tC (.str "page")) (tCons (tVar 5) tNil))))) tNext)
    (tSeq (tIfS (tTest (tOp (rEqG K) (tVar 4) (tC (.int 2)))) (tRet (tCl sp_law_given E0s (tCons (tCl (sp_law_write a) E0s (tCons (tVar 1) (tCons (tVar 5) (tCons (tCl sp_law_bad_text E0s (tCons (tVar 0) (tCons (tOp (rIx K) (tVar 2) (tC (.int 1))) tNil))) (tCons (tVar 3) tNil))))) (tCons (tC (.str "page")) (tCons (tVar 5) tNil))))) tNext)
    (tSeq (tIfS (tTest (tOp (rEqG K) (tVar 4) (tC (.int 3)))) (tRet (tCl sp_law_given E0s (tCons (tCl (sp_law_read a) E0s (tCons (tVar 1) (tCons (tVar 5) (tCons (tVar 3) tNil)))) (tCons (tC (.str "page")) (tCons (tVar 5) tNil))))) tNext)
    (tSeq (tAsg (tOp (rIx K) (tLstG (tCons (tUn rNeg1 (tC (.int 1))) (tCons (tC (.bl true)) (tCons (tC (.bl false)) (tCons (tC (.str "1")) (tCons (tTupG (tCons (tC (.int 1)) tNil)) (tCons (tLstG (tCons (tC (.int 1)) tNil)) (tCons tDicG (tCons (tUn rNeg1 (tOp rPowG (tC (.int 10)) (tC (.int 39)))) (tCons (tC (.str "")) (tCons (tLstG tNil) (tCons (tTupG tNil) (tCons (tC (.str "none")) tNil))))))))))))) (tCl sp_law_take E0s (tCons (tVar 0) (tCons (tC (.int 12)) tNil)))) (gName 6))
    (tRet (tCl sp_law_given E0s (tCons (tCl (sp_law_limit a) E0s (tCons (tVar 1) (tCons (tVar 6) (tCons (tVar 3) tNil)))) (tCons (tC (.str "count")) (tCons (tVar 6) tNil)))))))))))
set_option maxHeartbeats 4000000 in
theorem d_law_wrong_right (T : Txt K mg a) (g_law_take : G_law_take P w K mg base a) (g_law_good : G_law_good P w K mg base a) (g_law_bad_text : G_law_bad_text P w K mg base a) (g_law_bad_page : G_law_bad_page P w K mg base a) (g_law_given : G_law_given P w K mg base a) (g_law_write : G_law_write P w K mg base a) (g_law_read : G_law_read P w K mg base a) (g_law_limit : G_law_limit P w K mg base a) {f : Addr} {cdv : Value} {A : Around} {outer : List Env} {s : Shared} {H : Hp} {E : XK} (hr : Room 5 (A.deeper (envOfC "_law_wrong_right" (defScope s_law_wrong_right) s.heap.objs.size f cdv))) :
    PSs (cxOf (L2.CX P w) P w K mg base ["box", "disk", "state", "named", "way", "page", "count", "text"] "_law_wrong_right" (defScope s_law_wrong_right) f cdv A outer s H E) (defBody s_law_wrong_right) (t_law_wrong_right K a E) :=
  (pss_cons (ps_par (i := 4) (j := 5) rfl sc_law_wrong_right.nd rfl rfl (by decide) rfl rfl (pa_cons (pe_cl g_law_take (hr.mono (by decide)) px0 (pa_cons (pv 0) (pa_cons pe_int pa_nil))) (pa_cons (pe_cl g_law_bad_page (hr.mono (by decide)) px0 (pa_cons (pv 0) (pa_cons (pe_ix ix_seq (pv 2) pe_int (fun _ _ => rfl)) pa_nil))) pa_nil)) (by rfl))
    (pss_cons (ps_if (pt_cmpR (oq_eq hr.units) (pv 4) pe_int (nomark _)) (pss_cons (ps_set (i := 7) sc_law_wrong_right.nd rfl (Or.inl rfl) (pe_cl g_law_bad_text (hr.mono (by decide)) px0 (pa_cons (pv 0) (pa_cons (pe_ix ix_seq (pv 2) pe_int (fun _ _ => rfl)) pa_nil))))
    (pss_one (ps_ret (pe_cl g_law_given (hr.mono (by decide)) px0 (pa_cons (pe_cl g_law_write (hr.mono (by decide)) px0 (pa_cons (pv 1) (pa_cons (pe_cl g_law_take (hr.mono (by decide)) px0 (pa_cons (pv 0) (pa_cons (pe_ix ix_seq (pv 2) pe_int (fun _ _ => rfl)) pa_nil))) (pa_cons (pv 7) (pa_cons (pv 3) pa_nil))))) (pa_cons pe_str (pa_cons (pv 7) pa_nil))))))) pss_nil)
    (pss_cons (ps_if (pt_cmpR (oq_eq hr.units) (pv 4) pe_int (nomark _)) (pss_one (ps_ret (pe_cl g_law_given (hr.mono (by decide)) px0 (pa_cons (pe_cl g_law_write (hr.mono (by decide)) px0 (pa_cons (pv 1) (pa_cons (pv 5) (pa_cons (pe_cl g_law_good (hr.mono (by decide)) px0 (pa_cons (pv 0) (pa_cons (pe_ix ix_seq (pv 2) pe_int (fun _ _ => rfl)) pa_nil))) (pa_cons (pv 3) pa_nil))))) (pa_cons pe_str (pa_cons (pv 5) pa_nil)))))) pss_nil)
    (pss_cons (ps_if (pt_cmpR (oq_eq hr.units) (pv 4) pe_int (nomark _)) (pss_one (ps_ret (pe_cl g_law_given (hr.mono (by decide)) px0 (pa_cons (pe_cl g_law_write (hr.mono (by decide)) px0 (pa_cons (pv 1) (pa_cons (pv 5) (pa_cons (pe_cl g_law_bad_text (hr.mono (by decide)) px0 (pa_cons (pv 0) (pa_cons (pe_ix ix_seq (pv 2) pe_int (fun _ _ => rfl)) pa_nil))) (pa_cons (pv 3) pa_nil))))) (pa_cons pe_str (pa_cons (pv 5) pa_nil)))))) pss_nil)
    (pss_cons (ps_if (pt_cmpR (oq_eq hr.units) (pv 4) pe_int (nomark _)) (pss_one (ps_ret (pe_cl g_law_given (hr.mono (by decide)) px0 (pa_cons (pe_cl g_law_read (hr.mono (by decide)) px0 (pa_cons (pv 1) (pa_cons (pv 5) (pa_cons (pv 3) pa_nil)))) (pa_cons pe_str (pa_cons (pv 5) pa_nil)))))) pss_nil)
    (pss_cons (ps_set (i := 6) sc_law_wrong_right.nd rfl (Or.inl rfl) (pe_ix ix_seq (pe_lstG (pa_cons (pe_un oq_neg pe_int) (pa_cons pe_bl (pa_cons pe_bl (pa_cons pe_str (pa_cons (pe_tupG (pa_cons pe_int pa_nil)) (pa_cons (pe_lstG (pa_cons pe_int pa_nil)) (pa_cons pe_dicG (pa_cons (pe_un oq_neg (pe_op oq_pow pe_int pe_int)) (pa_cons pe_str (pa_cons (pe_lstG pa_nil) (pa_cons (pe_tupG pa_nil) (pa_cons pe_str pa_nil))))))))))))) (pe_cl g_law_take (hr.mono (by decide)) px0 (pa_cons (pv 0) (pa_cons pe_int pa_nil))) (fun _ _ => rfl)))
    (pss_one (ps_ret (pe_cl g_law_given (hr.mono (by decide)) px0 (pa_cons (pe_cl g_law_limit (hr.mono (by decide)) px0 (pa_cons (pv 1) (pa_cons (pv 6) (pa_cons (pv 3) pa_nil)))) (pa_cons pe_str (pa_cons (pv 6) pa_nil))))))))))))

/-! _law_cut_right -/
def t_law_cut_right (K : PySem.W.Frag) (a : Ad) (E : XK) : TS := (tSeq (tPar 4 5 (tCons (tCl sp_law_take E0s (tCons (tVar 0) (tCons (tOp (rIx K) (tVar 2) (tC (.int 0))) tNil))) (tCons (tCl sp_law_text E0s (tCons (tVar 0) (tCons (tOp rAddG (tC (.int 2)) (tCl sp_law_take E0s (tCons (tVar 0) (tCons (tC (.int 18)) tNil)))) tNil))) tNil)))
    (tSeq (tAsg (tCl sp_law_text E0s (tCons (tVar 0) (tCons (tCl sp_law_take E0s (tCons (tVar 0) (tCons (tC (.int 20)) tNil))) tNil))) (gName 6))
    (tSeq (tIfS (tOr (tNot (tB (tCl (sp_law_limit_right a) E0s (tCons (tVar 1) (tCons (tVar 2) (tCons (tC .non) (tCons (tVar 3) tNil))))))) (tNot (tB (tCl (sp_law_write_right a) E0s (tCons (tVar 1) (tCons (tVar 2) (tCons (tVar 4) (tCons (tVar 6) (tCons (tVar 3) tNil))))))))) (tRet (tC (.bl false))) tNext)
    (tSeq (tAsg (tOp (rIx K) (tLstG (tCons (tCl sp_law_take E0s (tCons (tVar 0) (tCons (tOp rAddG (tCB (rLenG K) (tCons (tVar 5) tNil)) (tC (.int 1))) tNil))) (tCons (tCB (rLenG K) (tCons (tVar 5) tNil)) (tCons (tC (.int 0)) (tCons (tOp rAddG (tCB (rLenG K) (tCons (tVar 5) tNil)) (tC (.int 1))) (tCons (tOp rSubG (tCB (rLenG K) (tCons (tVar 5) tNil)) (tC (.int 1))) tNil)))))) (tCl sp_law_take E0s (tCons (tVar 0) (tCons (tC (.int 5)) tNil)))) (gName 7))
    (tSeq (tIfS (tOr (tNot (tB (tCl (sp_law_limit_right a) E0s (tCons (tVar 1) (tCons (tVar 2) (tCons (tVar 7) (tCons (tVar 3) tNil))))))) (tNot (tB (tCl (sp_law_state_right a) E0s (tCons (tVar 1) (tCons (tVar 2) (tCons (tVar 3) tNil))))))) (tRet (tC (.bl false))) tNext)
    (tSeq (tIfS (tOr (tNot (tB (tCl (sp_law_write_right a) E0s (tCons (tVar 1) (tCons (tVar 2) (tCons (tVar 4) (tCons (tVar 5) (tCons (tVar 3) tNil)))))))) (tNot (tB (tCl (sp_law_state_right a) E0s (tCons (tVar 1) (tCons (tVar 2) (tCons (tVar 3) tNil))))))) (tRet (tC (.bl false))) tNext)
    (tSeq (tFor (iRng1 (tCons (tOp rAddG (tC (.int 1)) (tCl sp_law_take E0s (tCons (tVar 0) (tCons (tC (.int 3)) tNil)))) tNil)) (gName 8) (tSeq (tIfS (tNot (tB (tCl (sp_law_write_right a) E0s (tCons (tVar 1) (tCons (tVar 2) (tCons (tCl sp_law_take E0s (tCons (tVar 0) (tCons (tOp (rIx K) (tVar 2) (tC (.int 0))) tNil))) (tCons (tCl sp_law_good E0s (tCons (tVar 0) (tCons (tOp (rIx K) (tVar 2) (tC (.int 1))) tNil))) (tCons (tNotV (tVar 3)) tNil)))))))) (tRet (tC (.bl false))) tNext)
    (tIfS (tOr (tNot (tB (tCl (sp_law_wrong_right a) E0s (tCons (tVar 0) (tCons (tVar 1) (tCons (tVar 2) (tCons (tVar 3) tNil))))))) (tNot (tB (tCl (sp_law_state_right a) E0s (tCons (tVar 1) (tCons (tVar 2) (tCons (tVar 3) tNil))))))) (tRet (tC (.bl false))) tNext)))
    (tRet (tC (.bl true))))))))))
set_option maxHeartbeats 4000000 in
theorem d_law_cut_right (T : Txt K mg a) (g_law_take : G_law_take P w K mg base a) (g_law_text : G_law_text P w K mg base a) (g_law_good : G_law_good P w K mg base a) (g_law_state_right : G_law_state_right P w K mg base a) (g_law_write_right : G_law_write_right P w K mg base a) (g_law_limit_right : G_law_limit_right P w K mg base a) (g_law_wrong_right : G_law_wrong_right P w K mg base a) {f : Addr} {cdv : Value} {A : Around} {outer : List Env} {s : Shared} {H : Hp} {E : XK} (hr : Room 6 (A.deeper (envOfC "_law_cut_right" (defScope s_law_cut_right) s.heap.objs.size f cdv))) :
    PSs (cxOf (L2.CX P w) P w K mg base ["box", "disk", "state", "named", "page", "text", "old", "many", "turn"] "_law_cut_right" (defScope s_law_cut_right) f cdv A outer s H E) (defBody s_law_cut_right) (t_law_cut_right K a E) :=
  (pss_cons (ps_par (i := 4) (j := 5) rfl sc_law_cut_right.nd rfl rfl (by decide) rfl rfl (pa_cons (pe_cl g_law_take (hr.mono (by decide)) px0 (pa_cons (pv 0) (pa_cons (pe_ix ix_seq (pv 2) pe_int (fun _ _ => rfl)) pa_nil))) (pa_cons (pe_cl g_law_text (hr.mono (by decide)) px0 (pa_cons (pv 0) (pa_cons (pe_op oq_add pe_int (pe_cl g_law_take (hr.mono (by decide)) px0 (pa_cons (pv 0) (pa_cons pe_int pa_nil)))) pa_nil))) pa_nil)) (by rfl))
    (pss_cons (ps_set (i := 6) sc_law_cut_right.nd rfl (Or.inl rfl) (pe_cl g_law_text (hr.mono (by decide)) px0 (pa_cons (pv 0) (pa_cons (pe_cl g_law_take (hr.mono (by decide)) px0 (pa_cons (pv 0) (pa_cons pe_int pa_nil))) pa_nil))))
    (pss_cons (ps_if (PW.pt (pw_or (pt_not (pt_val (pe_cl g_law_limit_right (hr.mono (by decide)) px0 (pa_cons (pv 1) (pa_cons (pv 2) (pa_cons pe_non (pa_cons (pv 3) pa_nil))))))) (pw_or1 (pt_not (pt_val (pe_cl g_law_write_right (hr.mono (by decide)) px0 (pa_cons (pv 1) (pa_cons (pv 2) (pa_cons (pv 4) (pa_cons (pv 6) (pa_cons (pv 3) pa_nil))))))))))) (pss_one (ps_ret pe_bl)) pss_nil)
    (pss_cons (ps_set (i := 7) sc_law_cut_right.nd rfl (Or.inl rfl) (pe_ix ix_seq (pe_lstG (pa_cons (pe_cl g_law_take (hr.mono (by decide)) px0 (pa_cons (pv 0) (pa_cons (pe_op oq_add (pe_callB oq_len (by rfl) T.b_len (by decide +kernel) (pa_cons (pv 5) pa_nil)) pe_int) pa_nil))) (pa_cons (pe_callB oq_len (by rfl) T.b_len (by decide +kernel) (pa_cons (pv 5) pa_nil)) (pa_cons pe_int (pa_cons (pe_op oq_add (pe_callB oq_len (by rfl) T.b_len (by decide +kernel) (pa_cons (pv 5) pa_nil)) pe_int) (pa_cons (pe_op oq_sub (pe_callB oq_len (by rfl) T.b_len (by decide +kernel) (pa_cons (pv 5) pa_nil)) pe_int) pa_nil)))))) (pe_cl g_law_take (hr.mono (by decide)) px0 (pa_cons (pv 0) (pa_cons pe_int pa_nil))) (fun _ _ => rfl)))
    (pss_cons (ps_if (PW.pt (pw_or (pt_not (pt_val (pe_cl g_law_limit_right (hr.mono (by decide)) px0 (pa_cons (pv 1) (pa_cons (pv 2) (pa_cons (pv 7) (pa_cons (pv 3) pa_nil))))))) (pw_or1 (pt_not (pt_val (pe_cl g_law_state_right (hr.mono (by decide)) px0 (pa_cons (pv 1) (pa_cons (pv 2) (pa_cons (pv 3) pa_nil))))))))) (pss_one (ps_ret pe_bl)) pss_nil)
    (pss_cons (ps_if (PW.pt (pw_or (pt_not (pt_val (pe_cl g_law_write_right (hr.mono (by decide)) px0 (pa_cons (pv 1) (pa_cons (pv 2) (pa_cons (pv 4) (pa_cons (pv 5) (pa_cons (pv 3) pa_nil)))))))) (pw_or1 (pt_not (pt_val (pe_cl g_law_state_right (hr.mono (by decide)) px0 (pa_cons (pv 1) (pa_cons (pv 2) (pa_cons (pv 3) pa_nil))))))))) (pss_one (ps_ret pe_bl)) pss_nil)
    (pss_cons (ps_for (passes_of rfl) rfl (pi_range1 rfl T.b_range (pa_cons (pe_op oq_add pe_int (pe_cl g_law_take (hr.mono (by decide)) px0 (pa_cons (pv 0) (pa_cons pe_int pa_nil)))) pa_nil)) (pg_name (i := 8) sc_law_cut_right.nd rfl (Or.inl rfl)) (pss_cons (ps_if (pt_not (pt_val (pe_cl g_law_write_right (hr.mono (by decide)) px0 (pa_cons (pv 1) (pa_cons (pv 2) (pa_cons (pe_cl g_law_take (hr.mono (by decide)) px0 (pa_cons (pv 0) (pa_cons (pe_ix ix_seq (pv 2) pe_int (fun _ _ => rfl)) pa_nil))) (pa_cons (pe_cl g_law_good (hr.mono (by decide)) px0 (pa_cons (pv 0) (pa_cons (pe_ix ix_seq (pv 2) pe_int (fun _ _ => rfl)) pa_nil))) (pa_cons (pe_not (pv 3)) pa_nil)))))))) (pss_one (ps_ret pe_bl)) pss_nil)
    (pss_one (ps_if (PW.pt (pw_or (pt_not (pt_val (pe_cl g_law_wrong_right (hr.mono (by decide)) px0 (pa_cons (pv 0) (pa_cons (pv 1) (pa_cons (pv 2) (pa_cons (pv 3) pa_nil))))))) (pw_or1 (pt_not (pt_val (pe_cl g_law_state_right (hr.mono (by decide)) px0 (pa_cons (pv 1) (pa_cons (pv 2) (pa_cons (pv 3) pa_nil))))))))) (pss_one (ps_ret pe_bl)) pss_nil))))
    (pss_one (ps_ret pe_bl)))))))))

/-! _law_deed_right -/
def t_law_deed_right (K : PySem.W.Frag) (a : Ad) (E : XK) : TS := (tSeq (tAsg (tCl sp_law_take E0s (tCons (tVar 0) (tCons (tC (.int 8)) tNil))) (gName 4))
    (tSeq (tIfS (tTest (tOp rLtG (tVar 4) (tC (.int 3)))) (tRet (tCl (sp_law_write_right a) E0s (tCons (tVar 1) (tCons (tVar 2) (tCons (tCl sp_law_take E0s (tCons (tVar 0) (tCons (tOp (rIx K) (tVar 2) (tC (.int 0))) tNil))) (tCons (tCl sp_law_good E0s (tCons (tVar 0) (tCons (tOp (rIx K) (tVar 2) (tC (.int 1))) tNil))) (tCons (tVar 3) tNil))))))) tNext)
    (tSeq (tIfS (tTest (tOp (rEqG K) (tVar 4) (tC (.int 3)))) (tRet (tCl (sp_law_limit_right a) E0s (tCons (tVar 1) (tCons (tVar 2) (tCons (tOp (rIx K) (tLstG (tCons (tC .non) (tCons (tCl sp_law_take E0s (tCons (tVar 0) (tCons (tC (.int 30)) tNil))) (tCons (tOp rSubG (tOp rPowG (tC (.int 10)) (tC (.int 39))) (tC (.int 1))) (tCons (tOp rAddG (tOp (rIx K) (tVar 2) (tC (.int 1))) (tCl sp_law_take E0s (tCons (tVar 0) (tCons (tC (.int 3)) tNil)))) tNil))))) (tCl sp_law_take E0s (tCons (tVar 0) (tCons (tC (.int 4)) tNil)))) (tCons (tVar 3) tNil)))))) tNext)
    (tSeq (tIfS (tTest (tOp rLtG (tVar 4) (tC (.int 6)))) (tRet (tCl (sp_law_wrong_right a) E0s (tCons (tVar 0) (tCons (tVar 1) (tCons (tVar 2) (tCons (tVar 3) tNil)))))) tNext)
    (tRet (tCl (sp_law_cut_right a) E0s (tCons (tVar 0) (tCons (tVar 1) (tCons (tVar 2) (tCons (tVar 3) tNil))))))))))
set_option maxHeartbeats 4000000 in
theorem d_law_deed_right (T : Txt K mg a) (g_law_take : G_law_take P w K mg base a) (g_law_good : G_law_good P w K mg base a) (g_law_write_right : G_law_write_right P w K mg base a) (g_law_limit_right : G_law_limit_right P w K mg base a) (g_law_wrong_right : G_law_wrong_right P w K mg base a) (g_law_cut_right : G_law_cut_right P w K mg base a) {f : Addr} {cdv : Value} {A : Around} {outer : List Env} {s : Shared} {H : Hp} {E : XK} (hr : Room 7 (A.deeper (envOfC "_law_deed_right" (defScope s_law_deed_right) s.heap.objs.size f cdv))) :
    PSs (cxOf (L2.CX P w) P w K mg base ["box", "disk", "state", "named", "way"] "_law_deed_right" (defScope s_law_deed_right) f cdv A outer s H E) (defBody s_law_deed_right) (t_law_deed_right K a E) :=
  (pss_cons (ps_set (i := 4) sc_law_deed_right.nd rfl (Or.inl rfl) (pe_cl g_law_take (hr.mono (by decide)) px0 (pa_cons (pv 0) (pa_cons pe_int pa_nil))))
    (pss_cons (ps_if (pt_cmpR oq_lt (pv 4) pe_int (nomark _)) (pss_one (ps_ret (pe_cl g_law_write_right (hr.mono (by decide)) px0 (pa_cons (pv 1) (pa_cons (pv 2) (pa_cons (pe_cl g_law_take (hr.mono (by decide)) px0 (pa_cons (pv 0) (pa_cons (pe_ix ix_seq (pv 2) pe_int (fun _ _ => rfl)) pa_nil))) (pa_cons (pe_cl g_law_good (hr.mono (by decide)) px0 (pa_cons (pv 0) (pa_cons (pe_ix ix_seq (pv 2) pe_int (fun _ _ => rfl)) pa_nil))) (pa_cons (pv 3) pa_nil)))))))) pss_nil)
    (pss_cons (ps_if (pt_cmpR (oq_eq hr.units) (pv 4) pe_int (nomark _)) (pss_one (ps_ret (pe_cl g_law_limit_right (hr.mono (by decide)) px0 (pa_cons (pv 1) (pa_cons (pv 2) (pa_cons (pe_ix ix_seq (pe_lstG (pa_cons pe_non (pa_cons (pe_cl g_law_take (hr.mono (by decide)) px0 (pa_cons (pv 0) (pa_cons pe_int pa_nil))) (pa_cons (pe_op oq_sub (pe_op oq_pow pe_int pe_int) pe_int) (pa_cons (pe_op oq_add (pe_ix ix_seq (pv 2) pe_int (fun _ _ => rfl)) (pe_cl g_law_take (hr.mono (by decide)) px0 (pa_cons (pv 0) (pa_cons pe_int pa_nil)))) pa_nil))))) (pe_cl g_law_take (hr.mono (by decide)) px0 (pa_cons (pv 0) (pa_cons pe_int pa_nil))) (fun _ _ => rfl)) (pa_cons (pv 3) pa_nil))))))) pss_nil)
    (pss_cons (ps_if (pt_cmpR oq_lt (pv 4) pe_int (nomark _)) (pss_one (ps_ret (pe_cl g_law_wrong_right (hr.mono (by decide)) px0 (pa_cons (pv 0) (pa_cons (pv 1) (pa_cons (pv 2) (pa_cons (pv 3) pa_nil))))))) pss_nil)
    (pss_one (ps_ret (pe_cl g_law_cut_right (hr.mono (by decide)) px0 (pa_cons (pv 0) (pa_cons (pv 1) (pa_cons (pv 2) (pa_cons (pv 3) pa_nil)))))))))))

/-! _law_sizes_right -/
def t_law_sizes_right (K : PySem.W.Frag) (a : Ad) (E : XK) : TS := (tSeq (tFor (iList K (tLstG (tCons (tTupG (tCons (tC (.int 2)) (tCons (tC (.int 400)) tNil))) (tCons (tTupG (tCons (tC (.int 60)) (tCons (tC (.int 20)) tNil))) (tCons (tTupG (tCons (tOp rAddG (tC (.int 2)) (tCl sp_law_take E0s (tCons (tVar 0) (tCons (tC (.int 59)) tNil)))) (tCons (tOp rAddG (tC (.int 20)) (tCl sp_law_take E0s (tCons (tVar 0) (tCons (tC (.int 381)) tNil)))) tNil))) tNil))))) (gTup K 2 (gCons (gName 2) (gCons (gName 3) gNil))) (tSeq (tAsg (tCl (sp_law_made a) E0s (tCons (tVar 2) (tCons (tVar 3) (tCons (tVar 1) tNil)))) (gName 5))
    (tIfS (tOr (tTest (tOp (rNeG K) (tOp (rIx K) (tVar 5) (tC (.int 0))) (tC (.str "told")))) (tNot (tB (tCl (sp_law_state_right a) E0s (tCons (tOp (rIx K) (tVar 5) (tC (.int 1))) (tCons (tLstG (tCons (tVar 2) (tCons (tVar 3) (tCons (tOp rMulG (tLstG (tCons (tC (.str "")) tNil)) (tVar 2)) (tCons (tC .non) tNil))))) (tCons (tVar 1) tNil))))))) (tRet (tC (.bl false))) tNext)))
    (tSeq (tFor (iRng1 (tCons (tC (.int 8)) tNil)) (gName 4) (tSeq (tPar 2 3 (tCons (tCl sp_law_bad_size E0s (tCons (tVar 0) (tCons (tC (.int 2)) (tCons (tC (.int 60)) tNil)))) (tCons (tCl sp_law_bad_size E0s (tCons (tVar 0) (tCons (tC (.int 20)) (tCons (tC (.int 400)) tNil)))) tNil)))
    (tSeq (tIfS (tOr (tNot (tB (tCl sp_law_given E0s (tCons (tCl (sp_law_made a) E0s (tCons (tVar 2) (tCons (tOp rAddG (tC (.int 20)) (tVar 4)) (tCons (tVar 1) tNil)))) (tCons (tC (.str "pages")) (tCons (tVar 2) tNil)))))) (tNot (tB (tCl sp_law_given E0s (tCons (tCl (sp_law_made a) E0s (tCons (tOp rAddG (tC (.int 2)) (tVar 4)) (tCons (tVar 3) (tCons (tNotV (tVar 1)) tNil)))) (tCons (tC (.str "width")) (tCons (tVar 3) tNil))))))) (tRet (tC (.bl false))) tNext)
    (tSeq (tAsg (tCl sp_law_bad_size E0s (tCons (tVar 0) (tCons (tC (.int 2)) (tCons (tC (.int 60)) tNil)))) (gName 2))
    (tIfS (tNot (tB (tCl sp_law_given E0s (tCons (tCl (sp_law_made a) E0s (tCons (tVar 2) (tCons (tCl sp_law_bad_size E0s (tCons (tVar 0) (tCons (tC (.int 20)) (tCons (tC (.int 400)) tNil)))) (tCons (tVar 1) tNil)))) (tCons (tC (.str "pages")) (tCons (tVar 2) tNil)))))) (tRet (tC (.bl false))) tNext)))))
    (tRet (tC (.bl true)))))
set_option maxHeartbeats 4000000 in
theorem d_law_sizes_right (T : Txt K mg a) (g_law_take : G_law_take P w K mg base a) (g_law_bad_size : G_law_bad_size P w K mg base a) (g_law_given : G_law_given P w K mg base a) (g_law_made : G_law_made P w K mg base a) (g_law_state_right : G_law_state_right P w K mg base a) {f : Addr} {cdv : Value} {A : Around} {outer : List Env} {s : Shared} {H : Hp} {E : XK} (hr : Room 5 (A.deeper (envOfC "_law_sizes_right" (defScope s_law_sizes_right) s.heap.objs.size f cdv))) :
    PSs (cxOf (L2.CX P w) P w K mg base ["box", "named", "pages", "width", "way", "told"] "_law_sizes_right" (defScope s_law_sizes_right) f cdv A outer s H E) (defBody s_law_sizes_right) (t_law_sizes_right K a E) :=
  (pss_cons (ps_for (passes_of rfl) rfl (pi_list (pe_lstG (pa_cons (pe_tupG (pa_cons pe_int (pa_cons pe_int pa_nil))) (pa_cons (pe_tupG (pa_cons pe_int (pa_cons pe_int pa_nil))) (pa_cons (pe_tupG (pa_cons (pe_op oq_add pe_int (pe_cl g_law_take (hr.mono (by decide)) px0 (pa_cons (pv 0) (pa_cons pe_int pa_nil)))) (pa_cons (pe_op oq_add pe_int (pe_cl g_law_take (hr.mono (by decide)) px0 (pa_cons (pv 0) (pa_cons pe_int pa_nil)))) pa_nil))) pa_nil))))) (pg_tup rfl (pgs_cons (pg_name (i := 2) sc_law_sizes_right.nd rfl (Or.inl rfl)) (pgs_cons (pg_name (i := 3) sc_law_sizes_right.nd rfl (Or.inl rfl)) pgs_nil))) (pss_cons (ps_set (i := 5) sc_law_sizes_right.nd rfl (Or.inl rfl) (pe_cl g_law_made (hr.mono (by decide)) px0 (pa_cons (pv 2) (pa_cons (pv 3) (pa_cons (pv 1) pa_nil)))))
    (pss_one (ps_if (PW.pt (pw_or (pt_cmpR (oq_ne hr.units) (pe_ix ix_seq (pv 5) pe_int (fun _ _ => rfl)) pe_str (nomark _)) (pw_or1 (pt_not (pt_val (pe_cl g_law_state_right (hr.mono (by decide)) px0 (pa_cons (pe_ix ix_seq (pv 5) pe_int (fun _ _ => rfl)) (pa_cons (pe_lstG (pa_cons (pv 2) (pa_cons (pv 3) (pa_cons (pe_op oq_mul (pe_lstG (pa_cons pe_str pa_nil)) (pv 2)) (pa_cons pe_non pa_nil))))) (pa_cons (pv 1) pa_nil))))))))) (pss_one (ps_ret pe_bl)) pss_nil))))
    (pss_cons (ps_for (passes_of rfl) rfl (pi_range1 rfl T.b_range (pa_cons pe_int pa_nil)) (pg_name (i := 4) sc_law_sizes_right.nd rfl (Or.inl rfl)) (pss_cons (ps_par (i := 2) (j := 3) rfl sc_law_sizes_right.nd rfl rfl (by decide) rfl rfl (pa_cons (pe_cl g_law_bad_size (hr.mono (by decide)) px0 (pa_cons (pv 0) (pa_cons pe_int (pa_cons pe_int pa_nil)))) (pa_cons (pe_cl g_law_bad_size (hr.mono (by decide)) px0 (pa_cons (pv 0) (pa_cons pe_int (pa_cons pe_int pa_nil)))) pa_nil)) (by rfl))
    (pss_cons (ps_if (PW.pt (pw_or (pt_not (pt_val (pe_cl g_law_given (hr.mono (by decide)) px0 (pa_cons (pe_cl g_law_made (hr.mono (by decide)) px0 (pa_cons (pv 2) (pa_cons (pe_op oq_add pe_int (pv 4)) (pa_cons (pv 1) pa_nil)))) (pa_cons pe_str (pa_cons (pv 2) pa_nil)))))) (pw_or1 (pt_not (pt_val (pe_cl g_law_given (hr.mono (by decide)) px0 (pa_cons (pe_cl g_law_made (hr.mono (by decide)) px0 (pa_cons (pe_op oq_add pe_int (pv 4)) (pa_cons (pv 3) (pa_cons (pe_not (pv 1)) pa_nil)))) (pa_cons pe_str (pa_cons (pv 3) pa_nil))))))))) (pss_one (ps_ret pe_bl)) pss_nil)
    (pss_cons (ps_set (i := 2) sc_law_sizes_right.nd rfl (Or.inl rfl) (pe_cl g_law_bad_size (hr.mono (by decide)) px0 (pa_cons (pv 0) (pa_cons pe_int (pa_cons pe_int pa_nil)))))
    (pss_one (ps_if (pt_not (pt_val (pe_cl g_law_given (hr.mono (by decide)) px0 (pa_cons (pe_cl g_law_made (hr.mono (by decide)) px0 (pa_cons (pv 2) (pa_cons (pe_cl g_law_bad_size (hr.mono (by decide)) px0 (pa_cons (pv 0) (pa_cons pe_int (pa_cons pe_int pa_nil)))) (pa_cons (pv 1) pa_nil)))) (pa_cons pe_str (pa_cons (pv 2) pa_nil)))))) (pss_one (ps_ret pe_bl)) pss_nil))))))
    (pss_one (ps_ret pe_bl))))

/-! _law_pair_right -/
def t_law_pair_right (K : PySem.W.Frag) (a : Ad) (E : XK) : TS := (tSeq (tAsg (tTupG (tCons (tOp (rEqG K) (tCl sp_law_take E0s (tCons (tVar 0) (tCons (tC (.int 2)) tNil))) (tC (.int 1))) (tCons (tLstG tNil) tNil))) (gTup K 2 (gCons (gName 1) (gCons (gName 2) gNil))))
    (tSeq (tFor (iList K (tLstG (tCons (tTupG (tCons (tOp rAddG (tC (.int 2)) (tCl sp_law_take E0s (tCons (tVar 0) (tCons (tC (.int 5)) tNil)))) (tCons (tOp rAddG (tC (.int 20)) (tCl sp_law_take E0s (tCons (tVar 0) (tCons (tC (.int 20)) tNil)))) tNil))) (tCons (tTupG (tCons (tOp rAddG (tC (.int 2)) (tCl sp_law_take E0s (tCons (tVar 0) (tCons (tC (.int 59)) tNil)))) (tCons (tOp rAddG (tC (.int 20)) (tCl sp_law_take E0s (tCons (tVar 0) (tCons (tC (.int 381)) tNil)))) tNil))) tNil)))) (gTup K 2 (gCons (gName 3) (gCons (gName 4) gNil))) (tDrop (tBM K "list" rAppend (tVar 2) (tCons (tLstG (tCons (tMa a.disk (sp_Disk_init a) E0s (tCons (tVar 3) (tCons (tVar 4) tNil))) (tCons (tLstG (tCons (tVar 3) (tCons (tVar 4) (tCons (tOp rMulG (tLstG (tCons (tC (.str "")) tNil)) (tVar 3)) (tCons (tC .non) tNil))))) tNil))) tNil))))
    (tSeq (tFor (iRng1 (tCons (tOp rAddG (tC (.int 10)) (tCl sp_law_take E0s (tCons (tVar 0) (tCons (tC (.int 8)) tNil)))) tNil)) (gName 5) (tSeq (tAsg (tCl sp_law_take E0s (tCons (tVar 0) (tCons (tC (.int 2)) tNil))) (gName 6))
    (tSeq (tAsg (tOp (rIx K) (tVar 2) (tVar 6)) (gLst K 2 (gCons (gName 7) (gCons (gName 8) gNil))))
    (tSeq (tIfS (tOr (tNot (tB (tCl (sp_law_deed_right a) E0s (tCons (tVar 0) (tCons (tVar 7) (tCons (tVar 8) (tCons (tVar 1) tNil))))))) (tNot (tB (tCl (sp_law_state_right a) E0s (tCons (tVar 7) (tCons (tVar 8) (tCons (tVar 1) tNil))))))) (tRet (tC (.bl false))) tNext)
    (tSeq (tIfS (tAnd (tTest (tOp (rEqG K) (tOp rModG (tCB rInt1 (tCons (tVar 5) tNil)) (tC (.int 3))) (tC (.int 0)))) (tNot (tB (tCl (sp_law_state_right a) E0s (tCons (tOp (rIx K) (tOp (rIx K) (tVar 2) (tOp rSubG (tC (.int 1)) (tVar 6))) (tC (.int 0))) (tCons (tOp (rIx K) (tOp (rIx K) (tVar 2) (tOp rSubG (tC (.int 1)) (tVar 6))) (tC (.int 1))) (tCons (tVar 1) tNil))))))) (tRet (tC (.bl false))) tNext)
    (tAsg (tNotV (tVar 1)) (gName 1)))))))
    (tRet (tOp (rEqG K) (tLc (iList K (tVar 2)) (gLst K 2 (gCons (gName 7) (gCons (gName 8) gNil))) (tNot (tB (tCl (sp_law_state_right a) E0s (tCons (tVar 7) (tCons (tVar 8) (tCons (tVar 1) tNil)))))) (tC (.int 1)) [7, 8]) (tLstG tNil))))))
set_option maxHeartbeats 4000000 in
theorem d_law_pair_right (T : Txt K mg a) (g_Disk_init : G_Disk_init P w K mg base a) (g_law_take : G_law_take P w K mg base a) (g_law_state_right : G_law_state_right P w K mg base a) (g_law_deed_right : G_law_deed_right P w K mg base a) {f : Addr} {cdv : Value} {A : Around} {outer : List Env} {s : Shared} {H : Hp} {E : XK} (hr : Room 8 (A.deeper (envOfC "_law_pair_right" (defScope s_law_pair_right) s.heap.objs.size f cdv))) :
    PSs (cxOf (L2.CX P w) P w K mg base ["box", "named", "pairs", "pages", "width", "turn", "which", "disk", "state"] "_law_pair_right" (defScope s_law_pair_right) f cdv A outer s H E) (defBody s_law_pair_right) (t_law_pair_right K a E) :=
  (pss_cons (ps_asg (pe_tupG (pa_cons (pe_cmpR (oq_eq hr.units) (pe_cl g_law_take (hr.mono (by decide)) px0 (pa_cons (pv 0) (pa_cons pe_int pa_nil))) pe_int (nomark _)) (pa_cons (pe_lstG pa_nil) pa_nil))) (pg_tup rfl (pgs_cons (pg_name (i := 1) sc_law_pair_right.nd rfl (Or.inr rfl)) (pgs_cons (pg_name (i := 2) sc_law_pair_right.nd rfl (Or.inl rfl)) pgs_nil))))
    (pss_cons (ps_for (passes_of rfl) rfl (pi_list (pe_lstG (pa_cons (pe_tupG (pa_cons (pe_op oq_add pe_int (pe_cl g_law_take (hr.mono (by decide)) px0 (pa_cons (pv 0) (pa_cons pe_int pa_nil)))) (pa_cons (pe_op oq_add pe_int (pe_cl g_law_take (hr.mono (by decide)) px0 (pa_cons (pv 0) (pa_cons pe_int pa_nil)))) pa_nil))) (pa_cons (pe_tupG (pa_cons (pe_op oq_add pe_int (pe_cl g_law_take (hr.mono (by decide)) px0 (pa_cons (pv 0) (pa_cons pe_int pa_nil)))) (pa_cons (pe_op oq_add pe_int (pe_cl g_law_take (hr.mono (by decide)) px0 (pa_cons (pv 0) (pa_cons pe_int pa_nil)))) pa_nil))) pa_nil)))) (pg_tup rfl (pgs_cons (pg_name (i := 3) sc_law_pair_right.nd rfl (Or.inl rfl)) (pgs_cons (pg_name (i := 4) sc_law_pair_right.nd rfl (Or.inl rfl)) pgs_nil))) (pss_one (ps_expr (pe_bm PySem.F.plainAttrs_list PySem.F.slot_list_append PySem.F.type_list_append mt_append (pv 2) (pa_cons (pe_lstG (pa_cons (pe_ma g_Disk_init (hr.mono (by decide)) T.c_Disk px0 (pa_cons (pv 3) (pa_cons (pv 4) pa_nil))) (pa_cons (pe_lstG (pa_cons (pv 3) (pa_cons (pv 4) (pa_cons (pe_op oq_mul (pe_lstG (pa_cons pe_str pa_nil)) (pv 3)) (pa_cons pe_non pa_nil))))) pa_nil))) pa_nil)))))
    (pss_cons (ps_for (passes_of rfl) rfl (pi_range1 rfl T.b_range (pa_cons (pe_op oq_add pe_int (pe_cl g_law_take (hr.mono (by decide)) px0 (pa_cons (pv 0) (pa_cons pe_int pa_nil)))) pa_nil)) (pg_name (i := 5) sc_law_pair_right.nd rfl (Or.inl rfl)) (pss_cons (ps_set (i := 6) sc_law_pair_right.nd rfl (Or.inl rfl) (pe_cl g_law_take (hr.mono (by decide)) px0 (pa_cons (pv 0) (pa_cons pe_int pa_nil))))
    (pss_cons (ps_asg (pe_ix ix_seq (pv 2) (pv 6) (fun _ _ => rfl)) (pg_lst rfl (pgs_cons (pg_name (i := 7) sc_law_pair_right.nd rfl (Or.inl rfl)) (pgs_cons (pg_name (i := 8) sc_law_pair_right.nd rfl (Or.inl rfl)) pgs_nil))))
    (pss_cons (ps_if (PW.pt (pw_or (pt_not (pt_val (pe_cl g_law_deed_right (hr.mono (by decide)) px0 (pa_cons (pv 0) (pa_cons (pv 7) (pa_cons (pv 8) (pa_cons (pv 1) pa_nil))))))) (pw_or1 (pt_not (pt_val (pe_cl g_law_state_right (hr.mono (by decide)) px0 (pa_cons (pv 7) (pa_cons (pv 8) (pa_cons (pv 1) pa_nil))))))))) (pss_one (ps_ret pe_bl)) pss_nil)
    (pss_cons (ps_if (PW.pt (pw_and (pt_cmpR (oq_eq hr.units) (pe_op oq_mod (pe_callTy oq_int (by rfl) T.b_int (by decide +kernel) (pa_cons (pv 5) pa_nil)) pe_int) pe_int (nomark _)) (pw_and1 (pt_not (pt_val (pe_cl g_law_state_right (hr.mono (by decide)) px0 (pa_cons (pe_ix ix_seq (pe_ix ix_seq (pv 2) (pe_op oq_sub pe_int (pv 6)) (fun _ _ => rfl)) pe_int (fun _ _ => rfl)) (pa_cons (pe_ix ix_seq (pe_ix ix_seq (pv 2) (pe_op oq_sub pe_int (pv 6)) (fun _ _ => rfl)) pe_int (fun _ _ => rfl)) (pa_cons (pv 1) pa_nil))))))))) (pss_one (ps_ret pe_bl)) pss_nil)
    (pss_one (ps_set (i := 1) sc_law_pair_right.nd rfl (Or.inr rfl) (pe_not (pv 1)))))))))
    (pss_one (ps_ret (pe_cmpR (oq_eq hr.units) (pe_lc (own := [("disk", 7), ("state", 8)]) (g := (gLst K 2 (gCons (gName 7) (gCons (gName 8) gNil)))) (tt := (tNot (tB (tCl (sp_law_state_right a) E0s (tCons (tVar 7) (tCons (tVar 8) (tCons (tVar 1) tNil))))))) rfl sc_law_pair_right.nd (pi_list (pv 2)) (blkOk_by (N := ["box", "named", "pairs", "pages", "width", "turn", "which", "disk", "state"]) (sc := defScope s_law_pair_right) (by decide +kernel)) (fun _ _ _ _ _ => (pg_lst rfl (pgs_cons (pg_name (i := 7) sc_law_pair_right.nd rfl (Or.inl rfl)) (pgs_cons (pg_name (i := 8) sc_law_pair_right.nd rfl (Or.inl rfl)) pgs_nil)))) (fun _ _ _ _ _ => (pts_one (pt_not (pt_val (pe_cl g_law_state_right (hr.mono (by decide)) px0 (pa_cons (pv 7) (pa_cons (pv 8) (pa_cons (pv 1) pa_nil)))))))) (fun _ _ _ _ _ => pe_int)) (pe_lstG pa_nil) (nomark _)))))))

/-! _law_long_right -/
def t_law_long_right (K : PySem.W.Frag) (a : Ad) (E : XK) : TS := (tSeq (tPar 1 2 (tCons (tMa a.disk (sp_Disk_init a) E0s (tCons (tC (.int 60)) (tCons (tC (.int 400)) tNil))) (tCons (tLstG (tCons (tC (.int 60)) (tCons (tC (.int 400)) (tCons (tOp rMulG (tLstG (tCons (tC (.str "")) tNil)) (tC (.int 60))) (tCons (tC .non) tNil))))) tNil)))
    (tSeq (tFor (iRng1 (tCons (tC (.int 300)) tNil)) (gName 3) (tSeq (tAsg (tCl sp_law_take E0s (tCons (tVar 0) (tCons (tC (.int 20)) tNil))) (gName 4))
    (tSeq (tAsg (tCl (sp_law_write_right a) E0s (tCons (tVar 1) (tCons (tVar 2) (tCons (tCl sp_law_take E0s (tCons (tVar 0) (tCons (tC (.int 60)) tNil))) (tCons (tOp (rIx K) (tLstG (tCons (tOp rMulG (tC (.str "a")) (tOp rSubG (tC (.int 400)) (tVar 4))) (tCons (tCB rStr1 (tCons (tVar 3) tNil)) (tCons (tC (.str "")) (tCons (tOp rMulG (tC (.str "~")) (tC (.int 400))) tNil))))) (tOp rModG (tCB rInt1 (tCons (tVar 4) tNil)) (tC (.int 4)))) (tCons (tOp (rEqG K) (tVar 4) (tC (.int 1))) tNil)))))) (gName 5))
    (tSeq (tIfS (tAnd (tTest (tOp (rEqG K) (tVar 4) (tC (.int 0)))) (tNot (tB (tCl (sp_law_limit_right a) E0s (tCons (tVar 1) (tCons (tVar 2) (tCons (tOp (rIx K) (tLstG (tCons (tC .non) (tCons (tC (.int 2000)) (tCons (tC (.int 401)) (tCons (tC (.int 400)) tNil))))) (tCl sp_law_take E0s (tCons (tVar 0) (tCons (tC (.int 4)) tNil)))) (tCons (tC (.bl false)) tNil)))))))) (tRet (tC (.bl false))) tNext)
    (tSeq (tIfS (tOr (tNot (tB (tVar 5))) (tAnd (tTest (tOp rGtG (tVar 3) (tC (.int 40)))) (tAnd (tTest (tOp (rEqG K) (tVar 4) (tC (.int 2)))) (tNot (tB (tCl (sp_law_limit_right a) E0s (tCons (tVar 1) (tCons (tVar 2) (tCons (tC .non) (tCons (tC (.bl true)) tNil)))))))))) (tRet (tC (.bl false))) tNext)
    (tIfS (tAnd (tTest (tOp (rEqG K) (tOp rModG (tCB rInt1 (tCons (tVar 3) tNil)) (tC (.int 60))) (tC (.int 59)))) (tNot (tB (tCl (sp_law_state_right a) E0s (tCons (tVar 1) (tCons (tVar 2) (tCons (tC (.bl true)) tNil))))))) (tRet (tC (.bl false))) tNext))))))
    (tRet (tCl (sp_law_cut_right a) E0s (tCons (tVar 0) (tCons (tVar 1) (tCons (tVar 2) (tCons (tC (.bl false)) tNil))))))))
set_option maxHeartbeats 4000000 in
theorem d_law_long_right (T : Txt K mg a) (g_Disk_init : G_Disk_init P w K mg base a) (g_law_take : G_law_take P w K mg base a) (g_law_state_right : G_law_state_right P w K mg base a) (g_law_write_right : G_law_write_right P w K mg base a) (g_law_limit_right : G_law_limit_right P w K mg base a) (g_law_cut_right : G_law_cut_right P w K mg base a) {f : Addr} {cdv : Value} {A : Around} {outer : List Env} {s : Shared} {H : Hp} {E : XK} (hr : Room 7 (A.deeper (envOfC "_law_long_right" (defScope s_law_long_right) s.heap.objs.size f cdv))) :
    PSs (cxOf (L2.CX P w) P w K mg base ["box", "disk", "state", "turn", "way", "good"] "_law_long_right" (defScope s_law_long_right) f cdv A outer s H E) (defBody s_law_long_right) (t_law_long_right K a E) :=
  (pss_cons (ps_par (i := 1) (j := 2) rfl sc_law_long_right.nd rfl rfl (by decide) rfl rfl (pa_cons (pe_ma g_Disk_init (hr.mono (by decide)) T.c_Disk px0 (pa_cons pe_int (pa_cons pe_int pa_nil))) (pa_cons (pe_lstG (pa_cons pe_int (pa_cons pe_int (pa_cons (pe_op oq_mul (pe_lstG (pa_cons pe_str pa_nil)) pe_int) (pa_cons pe_non pa_nil))))) pa_nil)) (by rfl))
    (pss_cons (ps_for (passes_of rfl) rfl (pi_range1 rfl T.b_range (pa_cons pe_int pa_nil)) (pg_name (i := 3) sc_law_long_right.nd rfl (Or.inl rfl)) (pss_cons (ps_set (i := 4) sc_law_long_right.nd rfl (Or.inl rfl) (pe_cl g_law_take (hr.mono (by decide)) px0 (pa_cons (pv 0) (pa_cons pe_int pa_nil))))
    (pss_cons (ps_set (i := 5) sc_law_long_right.nd rfl (Or.inl rfl) (pe_cl g_law_write_right (hr.mono (by decide)) px0 (pa_cons (pv 1) (pa_cons (pv 2) (pa_cons (pe_cl g_law_take (hr.mono (by decide)) px0 (pa_cons (pv 0) (pa_cons pe_int pa_nil))) (pa_cons (pe_ix ix_seq (pe_lstG (pa_cons (pe_op oq_mul pe_str (pe_op oq_sub pe_int (pv 4))) (pa_cons (pe_callTy oq_str (by rfl) T.b_str (by decide +kernel) (pa_cons (pv 3) pa_nil)) (pa_cons pe_str (pa_cons (pe_op oq_mul pe_str pe_int) pa_nil))))) (pe_op oq_mod (pe_callTy oq_int (by rfl) T.b_int (by decide +kernel) (pa_cons (pv 4) pa_nil)) pe_int) (fun _ _ => rfl)) (pa_cons (pe_cmpR (oq_eq hr.units) (pv 4) pe_int (nomark _)) pa_nil)))))))
    (pss_cons (ps_if (PW.pt (pw_and (pt_cmpR (oq_eq hr.units) (pv 4) pe_int (nomark _)) (pw_and1 (pt_not (pt_val (pe_cl g_law_limit_right (hr.mono (by decide)) px0 (pa_cons (pv 1) (pa_cons (pv 2) (pa_cons (pe_ix ix_seq (pe_lstG (pa_cons pe_non (pa_cons pe_int (pa_cons pe_int (pa_cons pe_int pa_nil))))) (pe_cl g_law_take (hr.mono (by decide)) px0 (pa_cons (pv 0) (pa_cons pe_int pa_nil))) (fun _ _ => rfl)) (pa_cons pe_bl pa_nil)))))))))) (pss_one (ps_ret pe_bl)) pss_nil)
    (pss_cons (ps_if (PW.pt (pw_or (pt_not (pt_val (pv 5))) (pw_or1 (PW.pt (pw_and (pt_cmpR oq_gt (pv 3) pe_int (nomark _)) (pw_and (pt_cmpR (oq_eq hr.units) (pv 4) pe_int (nomark _)) (pw_and1 (pt_not (pt_val (pe_cl g_law_limit_right (hr.mono (by decide)) px0 (pa_cons (pv 1) (pa_cons (pv 2) (pa_cons pe_non (pa_cons pe_bl pa_nil)))))))))))))) (pss_one (ps_ret pe_bl)) pss_nil)
    (pss_one (ps_if (PW.pt (pw_and (pt_cmpR (oq_eq hr.units) (pe_op oq_mod (pe_callTy oq_int (by rfl) T.b_int (by decide +kernel) (pa_cons (pv 3) pa_nil)) pe_int) pe_int (nomark _)) (pw_and1 (pt_not (pt_val (pe_cl g_law_state_right (hr.mono (by decide)) px0 (pa_cons (pv 1) (pa_cons (pv 2) (pa_cons pe_bl pa_nil))))))))) (pss_one (ps_ret pe_bl)) pss_nil)))))))
    (pss_one (ps_ret (pe_cl g_law_cut_right (hr.mono (by decide)) px0 (pa_cons (pv 0) (pa_cons (pv 1) (pa_cons (pv 2) (pa_cons pe_bl pa_nil)))))))))

/-! law -/
def t_law (K : PySem.W.Frag) (a : Ad) (E : XK) : TS := (tSeq (tIfS (tAnd (tTest (tOp (rEqG K) (tOp rModG (tCB rInt1 (tCons (tCB (rSum K) (tCons (L2.tSl (rSlG K) (tVar 0) tNoPart (tPart (tC (.int 2)))) tNil)) tNil)) (tC (.int 8))) (tC (.int 1)))) (tNot (tB (tCl sp_law_long_right E0s (tCons (tCl sp_law_box E0s (tCons (tCl (sp_law_cell K) E0s (tCons (tVar 0) (tCons (tC (.int 2)) tNil))) tNil)) tNil))))) (tRet (tC (.bl false))) tNext)
    (tSeq (tFor (iRng1 (tCons (tCB rMax2 (tCons (tC (.int 3)) (tCons (tCB rMin2 (tCons (tC (.int 6)) (tCons (tCB (rLenG K) (tCons (tVar 0) tNil)) tNil))) tNil))) tNil)) (gName 1) (tSeq (tAsg (tCl sp_law_box E0s (tCons (tCl (sp_law_cell K) E0s (tCons (tVar 0) (tCons (tVar 1) tNil))) tNil)) (gName 2))
    (tIfS (tOr (tAnd (tTest (tOp (rEqG K) (tVar 1) (tC (.int 0)))) (tNot (tB (tCl sp_law_sizes_right E0s (tCons (tVar 2) (tCons (tOp (rEqG K) (tCl sp_law_take E0s (tCons (tVar 2) (tCons (tC (.int 2)) tNil))) (tC (.int 1))) tNil)))))) (tNot (tB (tCl sp_law_pair_right E0s (tCons (tVar 2) tNil))))) (tRet (tC (.bl false))) tNext)))
    (tRet (tC (.bl true)))))
set_option maxHeartbeats 4000000 in
theorem d_law (T : Txt K mg a) (g_law_cell : G_law_cell P w K mg base a) (g_law_box : G_law_box P w K mg base a) (g_law_take : G_law_take P w K mg base a) (g_law_sizes_right : G_law_sizes_right P w K mg base a) (g_law_pair_right : G_law_pair_right P w K mg base a) (g_law_long_right : G_law_long_right P w K mg base a) {f : Addr} {cdv : Value} {A : Around} {outer : List Env} {s : Shared} {H : Hp} {E : XK} (hr : Room 9 (A.deeper (envOfC "law" (defScope s_law) s.heap.objs.size f cdv))) :
    PSs (cxOf (L2.CX P w) P w K mg base ["script", "k", "box"] "law" (defScope s_law) f cdv A outer s H E) (defBody s_law) (t_law K a E) :=
  (pss_cons (ps_if (PW.pt (pw_and (pt_cmpR (oq_eq hr.units) (pe_op oq_mod (pe_callTy oq_int (by rfl) T.b_int (by decide +kernel) (pa_cons (pe_callB (cr_sum rfl) (by rfl) T.b_sum (by decide +kernel) (pa_cons (pe_slice oq_sl (pv 0) po_none (po_some pe_int)) pa_nil)) pa_nil)) pe_int) pe_int (nomark _)) (pw_and1 (pt_not (pt_val (pe_cl g_law_long_right (hr.mono (by decide)) px0 (pa_cons (pe_cl g_law_box (hr.mono (by decide)) px0 (pa_cons (pe_cl g_law_cell (hr.mono (by decide)) px0 (pa_cons (pv 0) (pa_cons pe_int pa_nil))) pa_nil)) pa_nil))))))) (pss_one (ps_ret pe_bl)) pss_nil)
    (pss_cons (ps_for (passes_of rfl) rfl (pi_range1 rfl T.b_range (pa_cons (pe_callB (oq_max rfl) (by rfl) T.b_max (by decide +kernel) (pa_cons pe_int (pa_cons (pe_callB (oq_min rfl) (by rfl) T.b_min (by decide +kernel) (pa_cons pe_int (pa_cons (pe_callB oq_len (by rfl) T.b_len (by decide +kernel) (pa_cons (pv 0) pa_nil)) pa_nil))) pa_nil))) pa_nil)) (pg_name (i := 1) sc_law.nd rfl (Or.inl rfl)) (pss_cons (ps_set (i := 2) sc_law.nd rfl (Or.inl rfl) (pe_cl g_law_box (hr.mono (by decide)) px0 (pa_cons (pe_cl g_law_cell (hr.mono (by decide)) px0 (pa_cons (pv 0) (pa_cons (pv 1) pa_nil))) pa_nil)))
    (pss_one (ps_if (PW.pt (pw_or (PW.pt (pw_and (pt_cmpR (oq_eq hr.units) (pv 1) pe_int (nomark _)) (pw_and1 (pt_not (pt_val (pe_cl g_law_sizes_right (hr.mono (by decide)) px0 (pa_cons (pv 2) (pa_cons (pe_cmpR (oq_eq hr.units) (pe_cl g_law_take (hr.mono (by decide)) px0 (pa_cons (pv 2) (pa_cons pe_int pa_nil))) pe_int (nomark _)) pa_nil)))))))) (pw_or1 (pt_not (pt_val (pe_cl g_law_pair_right (hr.mono (by decide)) px0 (pa_cons (pv 2) pa_nil))))))) (pss_one (ps_ret pe_bl)) pss_nil))))
    (pss_one (ps_ret pe_bl))))

end
section
local macro_rules | `(tactic| walk_at "go1") => `(tactic| first
  | (with_reducible refine i_seq ?_)
  | (with_reducible refine i_asg ?_)
  | (with_reducible refine i_gname ?_)
  | ((with_reducible show tVar _ _ _ _); refine ⟨_, rfl, ?_⟩)
  | (with_reducible refine i_c ?_)
  | (with_reducible refine i_op ?_)
  | (with_reducible refine i_cons ?_)
  | (with_reducible refine i_nil ?_)
  | (with_reducible refine i_cb ?_)
  | (with_reducible refine i_cl ?_)
  | (with_reducible refine i_test ?_)
  | (with_reducible refine i_exB ?_)
  | (with_reducible refine i_exI ?_)
  | (with_reducible refine i_exS ?_)
  | (with_reducible refine i_ifS ?_)
  | (with_reducible refine i_ret ?_)
  | (with_reducible refine i_tB ?_)
  | (with_reducible refine i_not ?_)
  | (with_reducible refine i_and ?_)
  | (with_reducible refine i_or ?_)
  | (with_reducible refine i_notV ?_)
  | (with_reducible refine i_andV ?_)
  | (with_reducible refine i_orV ?_)
  | (with_reducible refine i_chain ?_)
  | (with_reducible refine i_if ?_)
  | (with_reducible refine i_un ?_)
  | (with_reducible refine i_tupG ?_)
  | (with_reducible refine i_lstG ?_)
  | (with_reducible refine i_dicG ?_)
  | (with_reducible refine i_sl ?_)
  | (with_reducible refine i_part ?_)
  | (with_reducible refine i_nopart ?_)
  | (with_reducible refine i_gsub ?_)
  | (with_reducible refine i_fld ?_)
  | (with_reducible refine i_vei ?_)
  | (with_reducible refine i_ma ?_)
  | (with_reducible refine i_maK ?_)
  | (with_reducible refine i_me ?_)
  | (with_reducible refine i_meK ?_)
  | (with_reducible refine i_sfld ?_)
  | (with_reducible refine i_for ?_)
  | (with_reducible refine i_drop ?_)
  | (with_reducible refine i_par ?_)
  | (with_reducible refine i_ex2 ?_)
  | (with_reducible refine i_retN ?_)
  | (with_reducible refine i_next ?_)
  | (with_reducible refine i_yes ?_)
  | (with_reducible refine i_err ?_)
  | (with_reducible refine i_err0 ?_)
  | (with_reducible refine i_exv ?_)
  | (with_reducible refine i_lc ?_)
  | (with_reducible refine i_rng1 ?_)
  | (with_reducible refine i_list ?_)
  | (with_reducible refine i_strI ?_)
  | (with_reducible refine i_addI ?_)
  | (with_reducible refine i_subI ?_)
  | (with_reducible refine i_ltI ?_)
  | (with_reducible refine i_leI ?_)
  | (with_reducible refine i_leS ?_)
  | (with_reducible refine i_gtI ?_)
  | (with_reducible refine i_geI ?_)
  | (with_reducible refine i_eqI ?_)
  | (with_reducible refine i_neI ?_)
  | (with_reducible refine i_neB ?_)
  | (with_reducible refine i_eqB ?_)
  | (with_reducible refine i_eqS ?_)
  | (with_reducible refine i_neS ?_)
  | (with_reducible refine i_bm ?_)
  | (with_reducible refine i_isN ?_)
  | (with_reducible refine i_notN ?_)
  | (with_reducible refine i_neg ?_)
  | (with_reducible refine i_int ?_)
  | (with_reducible refine i_abs ?_)
  | (with_reducible refine i_max ?_)
  | (with_reducible refine i_min ?_)
  | (with_reducible refine i_sp0 ?_)
  | (with_reducible refine i_sp1 ?_)
  | (with_reducible refine i_sp2 ?_)
  | (with_reducible refine i_sp3 ?_)
  | (with_reducible refine i_sp4 ?_)
  | (with_reducible refine i_sp5 ?_)
  | ((with_reducible show Ends.nx _ _ _); dsimp only)
  | ((with_reducible show Ends.rt _ _ _); dsimp only)
  | (with_reducible refine iteT ?_)
  | (with_reducible refine iteF ?_))
local macro_rules | `(tactic| walk_at "go") => `(tactic| repeat walk_at "go1")
-- what stands at an address
local macro_rules | `(tactic| walk_at "look") => `(tactic| first
  | assumption
  | (refine Same.get (by assumption) ?_; walk_at "look")
  | (refine But.get (by assumption) (by assumption) ?_; walk_at "look")
  | (refine Buts.get (by assumption) (by assumption) ?_; walk_at "look"))
variable {P : Program} {w : World} {K : PySem.W.Frag} {mg : Str → Option Value} {base : Heap} {a : Ad}
/-! ### the errors -/
theorem err_init {C : Addr} {x : V} (ox : OexC K C) (no : PySem.W.findIn K (.ref C) "given" = some none) {m : Str} {vs : List V} {H : Hp} {Q : VK} {E : XK} (h : spErr C "given" vs H Q E) :
    (tSeq (tDrop (tVeI K (tCons (tVar 0) (tCons (tC (.str m)) tNil)))) (tOst K "given" (tVar 0) (tVar 1))) { nx := fun _ H' => Q .non H', rt := Q } (start ["self", "given"] vs) H := by
  obtain ⟨x, v, rfl, hx, k⟩ := h
  walk_at "go"
  refine ⟨_, _, _, rfl, (by show 1 ≤ 1000; decide), ox, hx, ?_⟩
  dsimp only
  refine ⟨_, rfl, _, rfl, _, _, rfl, ox, no, .inl ⟨hx, fun dx nd ne => k dx nd ne⟩⟩
theorem o_InvalidText_init (T : Txt K mg a) : O_InvalidText_init P w K mg base a :=
  OkF.mk sc_InvalidText_init (fun h => by obtain ⟨_, _, rfl, _⟩ := h; rfl) (fun f cdv A outer s H vs Q E hr h => ⟨t_InvalidText_init K a E, d_InvalidText_init T hr, err_init (x := .non) T.D_InvalidText_init.ox T.xf_InvalidText.2 h⟩)
theorem o_InvalidCount_init (T : Txt K mg a) : O_InvalidCount_init P w K mg base a :=
  OkF.mk sc_InvalidCount_init (fun h => by obtain ⟨_, _, rfl, _⟩ := h; rfl) (fun f cdv A outer s H vs Q E hr h => ⟨t_InvalidCount_init K a E, d_InvalidCount_init T hr, err_init (x := .non) T.D_InvalidCount_init.ox T.xf_InvalidCount.2 h⟩)
theorem o_InvalidPages_init (T : Txt K mg a) : O_InvalidPages_init P w K mg base a :=
  OkF.mk sc_InvalidPages_init (fun h => by obtain ⟨_, _, rfl, _⟩ := h; rfl) (fun f cdv A outer s H vs Q E hr h => ⟨t_InvalidPages_init K a E, d_InvalidPages_init T hr, err_init (x := .non) T.D_InvalidPages_init.ox T.xf_InvalidPages.2 h⟩)
theorem o_InvalidWidth_init (T : Txt K mg a) : O_InvalidWidth_init P w K mg base a :=
  OkF.mk sc_InvalidWidth_init (fun h => by obtain ⟨_, _, rfl, _⟩ := h; rfl) (fun f cdv A outer s H vs Q E hr h => ⟨t_InvalidWidth_init K a E, d_InvalidWidth_init T hr, err_init (x := .non) T.D_InvalidWidth_init.ox T.xf_InvalidWidth.2 h⟩)
theorem o_InvalidPage_init (T : Txt K mg a) : O_InvalidPage_init P w K mg base a :=
  OkF.mk sc_InvalidPage_init (fun h => by obtain ⟨_, _, rfl, _⟩ := h; rfl) (fun f cdv A outer s H vs Q E hr h => ⟨t_InvalidPage_init K a E, d_InvalidPage_init T hr, err_init (x := .non) T.D_InvalidPage_init.ox T.xf_InvalidPage.2 h⟩)
theorem o_PowerCut_init (T : Txt K mg a) : O_PowerCut_init P w K mg base a := by
  refine OkF.mk sc_PowerCut_init (fun h => by obtain ⟨_, rfl, _⟩ := h; rfl) (fun f cdv A outer s H vs Q E hr h => ⟨t_PowerCut_init K a E, d_PowerCut_init T hr, ?_⟩)
  obtain ⟨x, rfl, hx, k⟩ := h
  unfold t_PowerCut_init
  walk_at "go"
  exact ⟨_, _, _, rfl, (by show 1 ≤ 1000; decide), T.D_PowerCut_init.ox, hx, k⟩

/-! ### shapes -/
theorem o_is_integer (T : Txt K mg a) : O_is_integer P w K mg base a := by
  refine OkF.mk sc_is_integer sp1_len (fun f cdv A outer s H vs Q E hr h => ⟨t_is_integer K a E, d_is_integer T hr, ?_⟩)
  obtain ⟨v, rfl, kn, k⟩ := h
  unfold t_is_integer
  walk_at "go"
  refine isi_int kn ?_
  walk_at "go"
  refine ifB (fun e => ?_) (fun e => ?_)
  · walk_at "go"
    refine isi_bool kn ?_
    walk_at "go"
    have e2 : (!isB v) = isI v := by cases v <;> first | rfl | (cases e; done)
    rw [e2]
    exact k
  · have e2 : isI v = false := (Bool.or_eq_false_iff.mp e).1
    rw [e2] at k
    exact k
theorem o_is_within (T : Txt K mg a) (g_is_integer : G_is_integer P w K mg base a) : O_is_within P w K mg base a := by
  refine OkF.mk sc_is_within sp3_len (fun f cdv A outer s H vs Q E hr h => ⟨t_is_within K a E, d_is_within T g_is_integer hr, ?_⟩)
  obtain ⟨v, _, _, rfl, l, m, rfl, rfl, kn, k⟩ := h
  unfold t_is_within
  walk_at "go"
  refine ⟨kn, ?_⟩
  walk_at "go"
  cases v with
  | int i =>
    refine ifT rfl ?_
    walk_at "go"
    have e : within (.int i) l m = (decide (l ≤ i) && decide (i ≤ m)) := rfl
    rw [e] at k
    refine ifB (fun e1 => ?_) (fun e1 => ?_)
    · rw [e1, Bool.true_and] at k
      walk_at "go"
      exact k
    · rw [e1, Bool.false_and] at k
      exact k
  | _ => exact ifF rfl k
theorem o_is_index (T : Txt K mg a) (g_is_integer : G_is_integer P w K mg base a) : O_is_index P w K mg base a := by
  refine OkF.mk sc_is_index sp2_len (fun f cdv A outer s H vs Q E hr h => ⟨t_is_index K a E, d_is_index T g_is_integer hr, ?_⟩)
  obtain ⟨v, _, rfl, m, rfl, kn, k⟩ := h
  unfold t_is_index
  walk_at "go"
  refine ⟨kn, ?_⟩
  walk_at "go"
  cases v with
  | int i =>
    refine ifT rfl ?_
    walk_at "go"
    have e : idx (.int i) m = (decide (0 ≤ i) && decide (i < m)) := rfl
    rw [e] at k
    refine ifB (fun e1 => ?_) (fun e1 => ?_)
    · rw [e1, Bool.true_and] at k
      walk_at "go"
      exact k
    · rw [e1, Bool.false_and] at k
      exact k
  | _ => exact ifF rfl k
/-! ### texts of pages -/
theorem ge_sp (c : Nat) : (!decide ((⟨#[c]⟩ : Str).cps.toList < (" " : Str).cps.toList)) = decide (32 ≤ c) := by
  have e : (" " : Str).cps.toList = [32] := by decide +kernel
  rw [e]
  show (!decide (([c] : List Nat) < [32])) = _
  rw [lt_one]
  by_cases h : c < 32
  · rw [decide_eq_true h, decide_eq_false (by omega)]; rfl
  · rw [decide_eq_false h, decide_eq_true (by omega)]; rfl
theorem le_ti (c : Nat) : (!decide (("~" : Str).cps.toList < (⟨#[c]⟩ : Str).cps.toList)) = decide (c ≤ 126) := by
  have e : ("~" : Str).cps.toList = [126] := by decide +kernel
  rw [e]
  show (!decide (([126] : List Nat) < [c])) = _
  rw [lt_one]
  by_cases h : 126 < c
  · rw [decide_eq_true h, decide_eq_false (by omega)]; rfl
  · rw [decide_eq_false h, decide_eq_true (by omega)]; rfl
theorem take_more {α : Type} : ∀ {l : List α} {i : Nat} {x : α}, l[i]? = some x → l.take (i + 1) = l.take i ++ [x]
  | [], i, x, h => by simp at h
  | a :: l, 0, x, h => by
    have e : a = x := Option.some.inj h
    subst e
    rfl
  | a :: l, i + 1, x, h => by
    have ih := take_more (l := l) (i := i) (x := x) h
    show a :: l.take (i + 1) = a :: l.take i ++ [x]
    rw [ih]
    rfl
theorem o_is_page_text (T : Txt K mg a) : O_is_page_text P w K mg base a := by
  refine OkF.mk sc_is_page_text sp2_len (fun f cdv A outer s H vs Q E hr h => ⟨t_is_page_text K a E, d_is_page_text T hr, ?_⟩)
  obtain ⟨v, _, rfl, n, rfl, kn, k⟩ := h
  unfold t_is_page_text
  walk_at "go"
  refine isi_str kn ?_
  walk_at "go"
  cases kn with
  | @str z l =>
    refine ifT rfl ?_
    walk_at "go"
    refine i_lenS l ?_
    walk_at "go"
    refine ifB (fun e1 => ?_) (fun e1 => ?_)
    · walk_at "go"
      refine i_lcS (fun D i acc H' => Same H H' ∧ acc = (z.cps.toList.take i).map fun c => V.bl (goodC c)) (fun D H' _ s _ => ⟨s, rfl⟩) ?_ ?_
      · rintro D i c acc H' hD hc hl ha ⟨s, rfl⟩
        walk_at "go"
        refine ⟨rfl, ?_⟩
        walk_at "go"
        rw [ge_sp]
        have done : ∀ b, goodC c = b → LcY (fun D i acc H' => Same H H' ∧ acc = (z.cps.toList.take i).map fun c => V.bl (goodC c)) D i (.bl b) H' := fun b hb => by
          have hi : i < z.cps.toList.length := (List.getElem?_eq_some_iff.mp hc).1
          have hz : z.cps.toList.length = z.length := by simp [Str.length]
          refine lc_done ha hl (by omega) fun H5 b5 h5 => ⟨Same.but s hD b5, ?_⟩
          rw [take_more hc, List.map_append, ← hb]
          rfl
        refine ifB (fun e => ?_) (fun e => ?_)
        · walk_at "go"
          rw [le_ti]
          exact done _ (by unfold goodC; rw [e, Bool.true_and])
        · exact done _ (by unfold goodC; rw [e, Bool.false_and])
      · rintro D acc H' hD ha ⟨s, rfl⟩
        walk_at "go"
        rw [List.take_length] at ha
        refine ⟨D, z.cps.toList.map goodC, rfl, SqL.of (by rw [ha, List.map_map]; rfl), ?_⟩
        have e : pageT (.str z) n = (z.cps.toList.map goodC).all id := by
          show (decide ((z.length : Int) ≤ n) && z.cps.toList.all goodC) = _
          rw [e1, Bool.true_and, List.all_map]
          rfl
        rw [← e]
        exact k _ s
    · have e : pageT (.str z) n = false := by
        show (decide ((z.length : Int) ≤ n) && z.cps.toList.all goodC) = _
        rw [e1]; rfl
      rw [e] at k
      exact k _ (Same.refl H)
  | _ => exact ifF rfl (k _ (Same.refl H))

/-! ### the fields of a disk -/
theorem n_pw : ¬ ("pages" : Str) = "width" := by decide +kernel
theorem n_pl : ¬ ("pages" : Str) = "left" := by decide +kernel
theorem n_pt : ¬ ("pages" : Str) = "_texts" := by decide +kernel
theorem n_wl : ¬ ("width" : Str) = "left" := by decide +kernel
theorem n_wt : ¬ ("width" : Str) = "_texts" := by decide +kernel
theorem n_lt : ¬ ("left" : Str) = "_texts" := by decide +kernel
theorem lk_hit {f : Str} {v : V} {r : List (Str × V)} : ((f, v) :: r).lookup f = some v := by simp [List.lookup]
theorem lk_miss {f g : Str} {v : V} {r : List (Str × V)} (h : ¬ f = g) : ((f, v) :: r).lookup g = r.lookup g := by
  have e : (g == f) = false := by simpa using fun q => h q.symm
  simp [List.lookup, e]
section
variable {pg wd : Int} {lf : V} {l : Addr}
theorem df_pages : (df pg wd lf l).lookup ("pages" : Str) = some (.int pg) := lk_hit
theorem df_width : (df pg wd lf l).lookup ("width" : Str) = some (.int wd) := by unfold df; rw [lk_miss n_pw, lk_hit]
theorem df_left : (df pg wd lf l).lookup ("left" : Str) = some lf := by unfold df; rw [lk_miss n_pl, lk_miss n_wl, lk_hit]
theorem df_texts : (df pg wd lf l).lookup ("_texts" : Str) = some (.ref l) := by unfold df; rw [lk_miss n_pt, lk_miss n_wt, lk_miss n_lt, lk_hit]
theorem df_no {m : Str} (h1 : ¬ ("pages" : Str) = m) (h2 : ¬ ("width" : Str) = m) (h3 : ¬ ("left" : Str) = m) (h4 : ¬ ("_texts" : Str) = m) : (df pg wd lf l).lookup m = none := by
  unfold df; rw [lk_miss h1, lk_miss h2, lk_miss h3, lk_miss h4]; rfl
theorem df_no_check : (df pg wd lf l).lookup ("_check" : Str) = none := df_no (by decide +kernel) (by decide +kernel) (by decide +kernel) (by decide +kernel)
theorem df_no_text : (df pg wd lf l).lookup ("text" : Str) = none := df_no (by decide +kernel) (by decide +kernel) (by decide +kernel) (by decide +kernel)
theorem df_no_write : (df pg wd lf l).lookup ("write" : Str) = none := df_no (by decide +kernel) (by decide +kernel) (by decide +kernel) (by decide +kernel)
theorem df_no_limit : (df pg wd lf l).lookup ("limit" : Str) = none := df_no (by decide +kernel) (by decide +kernel) (by decide +kernel) (by decide +kernel)
theorem df_put {v : V} : putF "left" v (df pg wd lf l) = df pg wd v l := by
  unfold df
  show (if ("pages" : Str) = "left" then _ else (("pages" : Str), V.int pg) :: (if ("width" : Str) = "left" then _ else (("width" : Str), V.int wd) :: (if ("left" : Str) = "left" then _ else _))) = _
  rw [if_neg n_pl, if_neg n_wl, if_pos rfl]
theorem df_mk1 : putF "width" (.int wd) (putF "pages" (.int pg) []) = [(("pages" : Str), V.int pg), (("width" : Str), V.int wd)] := by
  show (if ("pages" : Str) = "width" then _ else _) = _
  rw [if_neg n_pw]; rfl
theorem df_mk2 : putF "left" lf [(("pages" : Str), V.int pg), (("width" : Str), V.int wd)] = [(("pages" : Str), V.int pg), (("width" : Str), V.int wd), (("left" : Str), lf)] := by
  show (if ("pages" : Str) = "left" then _ else (("pages" : Str), V.int pg) :: (if ("width" : Str) = "left" then _ else _)) = _
  rw [if_neg n_pl, if_neg n_wl]; rfl
theorem df_mk3 : putF "_texts" (.ref l) [(("pages" : Str), V.int pg), (("width" : Str), V.int wd), (("left" : Str), lf)] = df pg wd lf l := by
  show (if ("pages" : Str) = "_texts" then _ else (("pages" : Str), V.int pg) :: (if ("width" : Str) = "_texts" then _ else (("width" : Str), V.int wd) :: (if ("left" : Str) = "_texts" then _ else _))) = _
  rw [if_neg n_pt, if_neg n_wt, if_neg n_lt]; rfl
theorem df_len : (df pg wd lf l).length < 1000 := by show 4 < 1000; decide
end
theorem within_int {v : V} {l h : Int} (e : within v l h = true) : ∃ i, v = .int i ∧ l ≤ i ∧ i ≤ h := by
  cases v with
  | int i =>
    have e' : (decide (l ≤ i) && decide (i ≤ h)) = true := e
    rw [Bool.and_eq_true, decide_eq_true_eq, decide_eq_true_eq] at e'
    exact ⟨i, rfl, e'.1, e'.2⟩
  | _ => cases e
theorem idx_int {v : V} {m : Int} (e : idx v m = true) : ∃ i : Nat, v = .int i ∧ (i : Int) < m := by
  cases v with
  | int i =>
    have e' : (decide (0 ≤ i) && decide (i < m)) = true := e
    rw [Bool.and_eq_true, decide_eq_true_eq, decide_eq_true_eq] at e'
    exact ⟨i.toNat, by rw [Int.toNat_of_nonneg e'.1], by rw [Int.toNat_of_nonneg e'.1]; exact e'.2⟩
  | _ => cases e
theorem o_Disk_init (T : Txt K mg a) (g_is_within : G_is_within P w K mg base a) (g_InvalidPages : G_InvalidPages P w K mg base a) (g_InvalidWidth : G_InvalidWidth P w K mg base a) : O_Disk_init P w K mg base a := by
  refine OkF.mk sc_Disk_init sp3_len (fun f cdv A outer s H vs Q E hr h => ⟨t_Disk_init K a E, d_Disk_init T g_is_within g_InvalidPages g_InvalidWidth hr, ?_⟩)
  obtain ⟨_, pages, width, rfl, p, dx, rfl, hp, k1, k2, eP, eW, k⟩ := h
  unfold t_Disk_init
  walk_at "go"
  refine ⟨_, _, rfl, rfl, k1, ?_⟩
  walk_at "go"
  refine ifB (fun e1 => ?_) (fun e1 => ?_)
  · walk_at "go"
    intro d H' hd sm he
    exact eP (by simpa using e1) d H' hd sm he
  have e1 : within pages 2 60 = true := by simpa using e1
  walk_at "go"
  refine ⟨_, _, rfl, rfl, k2, ?_⟩
  walk_at "go"
  refine ifB (fun e2 => ?_) (fun e2 => ?_)
  · walk_at "go"
    intro d H' hd sm he
    exact eW e1 (by simpa using e2) d H' hd sm he
  have e2 : within width 20 400 = true := by simpa using e2
  obtain ⟨pg, rfl, b1, b2⟩ := within_int e1
  obtain ⟨wd, rfl, b3, b4⟩ := within_int e2
  walk_at "go"
  refine i_sfldR hp T.cl_Disk T.na_Disk_pages (by show 0 < 1000; decide) fun H1 u1 h1 => ?_
  walk_at "go"
  refine i_sfldR h1 T.cl_Disk T.na_Disk_width (by show 1 < 1000; decide) fun H2 u2 h2 => ?_
  rw [df_mk1] at h2
  walk_at "go"
  refine i_sfldR h2 T.cl_Disk T.na_Disk_left (by show 2 < 1000; decide) fun H3 u3 h3 => ?_
  rw [df_mk2] at h3
  walk_at "go"
  refine ⟨_, rfl, by omega, by omega, ?_⟩
  have u : But p H H3 := But.trans (But.trans u1 u2) u3
  refine i_lcR (fun D i acc H' => Same H3 H' ∧ acc = List.replicate i (V.str "")) (fun D H' _ s _ => ⟨s, rfl⟩) ?_ ?_
  · rintro D i acc H' hD hi hl ha ⟨sm, rfl⟩
    walk_at "go"
    refine ⟨rfl, ?_⟩
    walk_at "go"
    have sz : (60 : Nat) < sizeLine := by decide
    refine lc_done ha hl (by omega) fun H5 b5 h5 => ⟨Same.but sm hD b5, ?_⟩
    rw [List.replicate_succ']
  · rintro D acc H' hD ha ⟨sm, rfl⟩
    walk_at "go"
    have h4 := sm _ _ h3
    have nDp : D ≠ p := fun q => by rw [q, h3] at hD; cases hD
    have nD : H D = none := by
      cases e : H D with
      | none => rfl
      | some o => rw [u D o nDp e] at hD; cases hD
    refine i_sfldR h4 T.cl_Disk T.na_Disk_texts (by show 3 < 1000; decide) fun H5 u5 h5 => ?_
    rw [df_mk3] at h5
    walk_at "go"
    refine k pg wd rfl rfl b1 b2 b3 b4 D H5 nD nDp (But.trans (But.same u sm) u5) ⟨h5, ?_, ?_, b1, b2, b3, b4, .inl rfl, ?_⟩
    · rw [List.map_replicate]
      exact u5 _ _ nDp ha
    · rw [List.length_replicate]
      omega
    · intro t ht
      rw [List.eq_of_mem_replicate ht]
      exact Nat.zero_le _
theorem o_Disk_check (T : Txt K mg a) (g_is_index : G_is_index P w K mg base a) (g_InvalidPage : G_InvalidPage P w K mg base a) : O_Disk_check P w K mg base a := by
  refine OkF.mk sc_Disk_check sp2_len (fun f cdv A outer s H vs Q E hr h => ⟨t_Disk_check K a E, d_Disk_check T g_is_index g_InvalidPage hr, ?_⟩)
  obtain ⟨_, page, rfl, d, dx, pg, wd, lf, l, rfl, hd, kn, eG, k⟩ := h
  unfold t_Disk_check
  walk_at "go"
  refine i_fldR hd T.cl_Disk T.na_Disk_pages df_pages ?_
  walk_at "go"
  refine ⟨kn, ?_⟩
  walk_at "go"
  refine ifB (fun e1 => ?_) (fun e1 => ?_)
  · walk_at "go"
    intro e H' hd sm he
    exact eG (by simpa using e1) e H' hd sm he
  · walk_at "go"
    exact k (by simpa using e1)
theorem o_Disk_text (T : Txt K mg a) (g_Disk_check : G_Disk_check P w K mg base a) : O_Disk_text P w K mg base a := by
  refine OkF.mk sc_Disk_text sp2_len (fun f cdv A outer s H vs Q E hr h => ⟨t_Disk_text K a E, d_Disk_text T g_Disk_check hr, ?_⟩)
  obtain ⟨_, page, rfl, d, dx, l, pg, wd, lf, ts, rfl, D, kn, eG, k⟩ := h
  unfold t_Disk_text
  walk_at "go"
  refine i_meR D.d df_no_check ?_
  walk_at "go"
  refine ⟨d, dx, pg, wd, lf, l, rfl, D.d, kn, eG, fun e => ?_⟩
  obtain ⟨i, rfl, hi⟩ := idx_int e
  walk_at "go"
  refine i_fldR D.d T.cl_Disk T.na_Disk_texts df_texts ?_
  walk_at "go"
  have hn := D.n
  have hlt : i < ts.length := by omega
  obtain ⟨t, ht⟩ : ∃ t, ts[i]? = some t := ⟨_, List.getElem?_eq_getElem hlt⟩
  refine i_ixL (v := .str t) D.l (atI_nat ?_) (k i t rfl ht)
  rw [List.getElem?_map, ht]
  rfl
theorem wr_none {ts : List Str} {p : Nat} {z : Str} : wr ts .non p z = (ts.set p z, .non, false) := rfl
theorem wr_more {ts : List Str} {p : Nat} {z : Str} {k : Int} (h : (z.length : Int) < k) : wr ts (.int k) p z = (ts.set p z, .int (k - z.length - 1), false) := if_pos h
theorem wr_cut {ts : List Str} {p : Nat} {z : Str} {k : Int} (h : ¬ (z.length : Int) < k) : wr ts (.int k) p z = (ts.set p (cutS z none (some k) ++ cutS (ts.getD p Str.empty) (some k) none), .int 0, true) := if_neg h
theorem map_set {ts : List Str} {i : Nat} {z : Str} : (ts.map V.str).set i (.str z) = (ts.set i z).map V.str := by rw [List.map_set]
theorem cutS_len (z : Str) (lo hi : Option Int) : (cutS z lo hi).length ≤ z.length := by
  unfold cutS
  simp only [Str.length, List.size_toArray, List.length_take, List.length_drop, Array.length_toList]
  omega
theorem sIx_nat {n : Nat} {k : Int} (d : Nat) (h0 : 0 ≤ k) : HT.sIx n d (some k) = min k.toNat n := by
  unfold HT.sIx
  simp
  omega
theorem cutS_sum {z y : Str} {k : Int} (h0 : 0 ≤ k) (m : Nat) (hz : z.length ≤ m) (hy : y.length ≤ m) : (cutS z none (some k)).length + (cutS y (some k) none).length ≤ m := by
  have e1 : HT.sIx z.length 0 none = 0 := rfl
  have e2 : HT.sIx y.length y.length none = y.length := rfl
  unfold cutS
  rw [sIx_nat _ h0, sIx_nat _ h0, e1, e2]
  simp only [Str.length, List.size_toArray, List.length_take, List.length_drop, Array.length_toList] at *
  omega
theorem app_len (x y : Str) : (x ++ y).length = x.length + y.length := by
  show (x.cps ++ y.cps).size = _
  rw [Array.size_append]
  rfl
theorem pageT_len {z : Str} {n : Int} (h : pageT (.str z) n = true) : (z.length : Int) ≤ n ∧ Good z := by
  have h' : (decide ((z.length : Int) ≤ n) && z.cps.toList.all goodC) = true := h
  rw [Bool.and_eq_true, decide_eq_true_eq] at h'
  exact h'
theorem wr_ok {ts : List Str} {lf : V} {p : Nat} {z : Str} (lo : LeftOk lf) (hz : z.length ≤ 400) (g : ∀ t ∈ ts, t.length ≤ 400) :
    (wr ts lf p z).1.length = ts.length ∧ LeftOk (wr ts lf p z).2.1 ∧ ∀ t ∈ (wr ts lf p z).1, t.length ≤ 400 := by
  have set_ok : ∀ y : Str, y.length ≤ 400 → ∀ t ∈ ts.set p y, t.length ≤ 400 := fun y hy t ht => by
    rcases List.mem_or_eq_of_mem_set ht with h | h
    · exact g t h
    · rw [h]; exact hy
  rcases lo with rfl | ⟨k, rfl, hk⟩
  · rw [wr_none]
    exact ⟨List.length_set, .inl rfl, set_ok z hz⟩
  · by_cases c : (z.length : Int) < k
    · rw [wr_more c]
      exact ⟨List.length_set, .inr ⟨_, rfl, by omega⟩, set_ok z hz⟩
    · rw [wr_cut c]
      refine ⟨List.length_set, .inr ⟨0, rfl, Int.le_refl _⟩, set_ok _ ?_⟩
      have hy : (ts.getD p Str.empty).length ≤ 400 := by
        rw [List.getD_eq_getElem?_getD]
        cases e : ts[p]? with
        | none => exact Nat.zero_le _
        | some t => exact g t (List.mem_of_getElem? e)
      rw [app_len]
      exact cutS_sum hk 400 hz hy
theorem DiskAt.wrote {H H' : Hp} {d dx l : Addr} {pg wd : Int} {lf lf' : V} {ts ts' : List Str} (D : DiskAt a H d dx l pg wd lf ts) (h1 : H' d = some (.ins a.disk dx (df pg wd lf' l))) (h2 : H' l = some (.lst (ts'.map V.str)))
    (hn : ts'.length = ts.length) (lo : LeftOk lf') (g : ∀ t ∈ ts', t.length ≤ 400) : DiskAt a H' d dx l pg wd lf' ts' :=
  ⟨h1, h2, by rw [hn]; exact D.n, D.p2, D.p60, D.w20, D.w400, lo, g⟩
theorem s400 {z : Str} (h : z.length ≤ 400) : z.length ≤ sizeLine := Nat.le_trans h (by decide)
theorem o_Disk_write (T : Txt K mg a) (g_is_page_text : G_is_page_text P w K mg base a) (g_Disk_check : G_Disk_check P w K mg base a) (g_InvalidText : G_InvalidText P w K mg base a) (g_PowerCut : G_PowerCut P w K mg base a) : O_Disk_write P w K mg base a := by
  refine OkF.mk sc_Disk_write sp3_len (fun f cdv A outer s H vs Q E hr h => ⟨t_Disk_write K a E, d_Disk_write T g_is_page_text g_Disk_check g_InvalidText g_PowerCut hr, ?_⟩)
  obtain ⟨_, page, text, rfl, d, dx, l, pg, wd, lf, ts, rfl, D, kn, kt, eG, eT, k⟩ := h
  unfold t_Disk_write
  walk_at "go"
  refine i_meR D.d df_no_check ?_
  walk_at "go"
  refine ⟨d, dx, pg, wd, lf, l, rfl, D.d, kn, eG, fun e => ?_⟩
  walk_at "go"
  refine i_fldR D.d T.cl_Disk T.na_Disk_width df_width ?_
  walk_at "go"
  refine ⟨kt, fun H1 s1 => ?_⟩
  walk_at "go"
  refine ifB (fun e1 => ?_) (fun e1 => ?_)
  · walk_at "go"
    intro x H' hd sm he
    exact eT e (by simpa using e1) x H' (s1.free hd) (s1.trans sm) he
  have e1 : pageT text wd = true := by simpa using e1
  obtain ⟨i, rfl, hi⟩ := idx_int e
  obtain ⟨z, rfl⟩ : ∃ z, text = .str z := by
    cases text with
    | str z => exact ⟨z, rfl⟩
    | _ => cases e1
  obtain ⟨hz, gz⟩ := pageT_len e1
  have hn := D.n
  have w400 := D.w400
  have hlt : i < ts.length := by omega
  have z4 : z.length ≤ 400 := by omega
  have kk := k i z rfl hlt rfl e1
  obtain ⟨wl, wlo, wg⟩ := wr_ok (p := i) D.lo z4 D.g
  have hd1 := s1 _ _ D.d
  have hl1 := s1 _ _ D.l
  have ndl : d ≠ l := apart D.d D.l (by intro q; cases q)
  have hix : ixN (ts.map V.str).length (i : Int) = some i := ixN_nat (by rw [List.length_map]; exact hlt)
  -- the two ends
  have good : ∀ lf', wr ts lf i z = (ts.set i z, lf', false) → ∀ H2 H3, But l H1 H2 → H2 l = some (.lst ((ts.set i z).map V.str)) → But d H2 H3 → H3 d = some (.ins a.disk dx (df pg wd lf' l)) → Q .non H3 := by
    intro lf' ew H2 H3 b2 h2 b3 h3
    rw [ew] at kk wlo wg
    exact kk H3 (fun b o n hb => b3 b o (fun q => n (.inl q)) (b2 b o (fun q => n (.inr q)) (s1 b o hb))) (D.wrote h3 (b3 _ _ ndl.symm h2) List.length_set wlo wg)
  walk_at "go"
  refine i_fldR hd1 T.cl_Disk T.na_Disk_left df_left ?_
  walk_at "go"
  rcases D.lo with rfl | ⟨m, rfl, hm⟩
  · refine ifT (by decide) ?_
    walk_at "go"
    refine i_fldR hd1 T.cl_Disk T.na_Disk_texts df_texts ?_
    walk_at "go"
    refine i_setL hl1 hix fun H2 b2 h2 => ?_
    rw [map_set] at h2
    have hd2 := b2 _ _ ndl hd1
    walk_at "go"
    refine i_fldR hd2 T.cl_Disk T.na_Disk_left df_left ?_
    walk_at "go"
    refine ifT (by decide) ?_
    walk_at "go"
    refine i_sfldR hd2 T.cl_Disk T.na_Disk_left df_len fun H3 b3 h3 => ?_
    rw [df_put] at h3
    walk_at "go"
    exact good .non wr_none H2 H3 b2 h2 b3 h3
  · have en : decide (V.int m = V.non) = false := decide_eq_false (fun q => nomatch q)
    refine ifF en ?_
    walk_at "go"
    refine i_fldR hd1 T.cl_Disk T.na_Disk_left df_left ?_
    walk_at "go"
    refine i_lenS (s400 z4) ?_
    walk_at "go"
    refine ifB (fun c => ?_) (fun c => ?_)
    · have c : (z.length : Int) < m := of_decide_eq_true c
      walk_at "go"
      refine i_fldR hd1 T.cl_Disk T.na_Disk_texts df_texts ?_
      walk_at "go"
      refine i_setL hl1 hix fun H2 b2 h2 => ?_
      rw [map_set] at h2
      have hd2 := b2 _ _ ndl hd1
      walk_at "go"
      refine i_fldR hd2 T.cl_Disk T.na_Disk_left df_left ?_
      walk_at "go"
      refine ifF en ?_
      walk_at "go"
      refine i_fldR hd2 T.cl_Disk T.na_Disk_left df_left ?_
      walk_at "go"
      refine i_lenS (s400 z4) ?_
      walk_at "go"
      refine i_sfldR hd2 T.cl_Disk T.na_Disk_left df_len fun H3 b3 h3 => ?_
      rw [df_put] at h3
      walk_at "go"
      exact good _ (wr_more c) H2 H3 b2 h2 b3 h3
    · have c : ¬ (z.length : Int) < m := of_decide_eq_false c
      walk_at "go"
      refine i_fldR hd1 T.cl_Disk T.na_Disk_texts df_texts ?_
      walk_at "go"
      obtain ⟨t, ht⟩ : ∃ t, ts[i]? = some t := ⟨_, List.getElem?_eq_getElem hlt⟩
      have t4 : t.length ≤ 400 := D.g t (List.mem_of_getElem? ht)
      refine i_ixL (v := .str t) hl1 (atI_nat (by rw [List.getElem?_map, ht]; rfl)) ?_
      walk_at "go"
      refine i_fldR hd1 T.cl_Disk T.na_Disk_left df_left ?_
      walk_at "go"
      refine i_slS (s400 z4) ?_
      walk_at "go"
      refine i_slS (s400 t4) ?_
      walk_at "go"
      refine i_addS (Nat.le_trans (cutS_sum hm 400 z4 t4) (by decide)) ?_
      walk_at "go"
      refine i_fldR hd1 T.cl_Disk T.na_Disk_texts df_texts ?_
      walk_at "go"
      refine i_setL hl1 hix fun H2 b2 h2 => ?_
      rw [map_set] at h2
      have hd2 := b2 _ _ ndl hd1
      walk_at "go"
      refine i_sfldR hd2 T.cl_Disk T.na_Disk_left df_len fun H3 b3 h3 => ?_
      rw [df_put] at h3
      walk_at "go"
      have et : ts.getD i Str.empty = t := by rw [List.getD_eq_getElem?_getD, ht]; rfl
      rw [wr_cut c, et] at kk wlo wg
      exact kk H3 (fun b o n hb => b3 b o (fun q => n (.inl q)) (b2 b o (fun q => n (.inr q)) (s1 b o hb))) (D.wrote h3 (b3 _ _ ndl.symm h2) List.length_set wlo wg)
theorem o_Disk_limit (T : Txt K mg a) (g_is_integer : G_is_integer P w K mg base a) (g_InvalidCount : G_InvalidCount P w K mg base a) : O_Disk_limit P w K mg base a := by
  refine OkF.mk sc_Disk_limit sp2_len (fun f cdv A outer s H vs Q E hr h => ⟨t_Disk_limit K a E, d_Disk_limit T g_is_integer g_InvalidCount hr, ?_⟩)
  obtain ⟨_, c, rfl, d, dx, l, pg, wd, lf, ts, rfl, D, kn, eC, k⟩ := h
  have good : cntOk c = true → LeftOk c → ∀ H3, But d H H3 → H3 d = some (.ins a.disk dx (df pg wd c l)) → Q .non H3 := fun e lo H3 b3 h3 =>
    k e H3 b3 (D.wrote h3 (b3 _ _ (apart D.l D.d (by intro q; cases q)) D.l) rfl lo D.g)
  have bad : cntOk c = false → ErrE E a.eC c H := eC
  unfold t_Disk_limit
  walk_at "go"
  cases c with
  | non =>
    refine ifF (by decide) ?_
    refine ifF rfl ?_
    walk_at "go"
    refine i_sfldR D.d T.cl_Disk T.na_Disk_left df_len fun H3 b3 h3 => ?_
    rw [df_put] at h3
    walk_at "go"
    exact good rfl (.inl rfl) H3 b3 h3
  | int m =>
    refine ifT (by rw [decide_eq_false (fun q => nomatch q)]; rfl) ?_
    walk_at "go"
    refine ⟨kn, ?_⟩
    walk_at "go"
    refine ifT rfl ?_
    walk_at "go"
    refine ifB (fun e => ?_) (fun e => ?_)
    · have e' : ¬ (0 : Int) ≤ m := by simpa using e
      walk_at "go"
      intro x H' hd sm he
      exact bad (decide_eq_false e') x H' hd sm he
    · have e' : (0 : Int) ≤ m := by simpa using e
      walk_at "go"
      refine i_sfldR D.d T.cl_Disk T.na_Disk_left df_len fun H3 b3 h3 => ?_
      rw [df_put] at h3
      walk_at "go"
      exact good (decide_eq_true e') (.inr ⟨m, rfl, e'⟩) H3 b3 h3
  | _ =>
    refine ifT (by rw [decide_eq_false (fun q => nomatch q)]; rfl) ?_
    walk_at "go"
    refine ⟨kn, ?_⟩
    walk_at "go"
    refine ifF rfl ?_
    walk_at "go"
    refine ifT rfl ?_
    walk_at "go"
    intro x H' hd sm he
    exact bad rfl x H' hd sm he
/-! ### the law's draws -/
theorem cutV_map (ns : List Int) (lo hi : Option Int) : ∃ ms : List Int, cutV (ns.map V.int) lo hi = ms.map V.int := by
  unfold cutV
  exact ⟨(ns.drop (HT.sIx (ns.map V.int).length 0 lo)).take (HT.sIx (ns.map V.int).length (ns.map V.int).length hi - HT.sIx (ns.map V.int).length 0 lo), by rw [List.map_take, List.map_drop]⟩
theorem o_law_cell (T : Txt K mg a) : O_law_cell P w K mg base a := by
  refine OkF.mk sc_law_cell sp2_len (fun f cdv A outer s H vs Q E hr h => ⟨t_law_cell K a E, d_law_cell T hr, ?_⟩)
  obtain ⟨_, _, rfl, p, ns, i, rfl, rfl, hS, h0, k⟩ := h
  unfold t_law_cell
  walk_at "go"
  refine i_lenQ hS ?_
  walk_at "go"
  rw [List.length_map]
  refine ifB (fun c => ?_) (fun c => ?_)
  · have c : i < (ns.length : Int) := of_decide_eq_true c
    walk_at "go"
    obtain ⟨n, rfl⟩ : ∃ n : Nat, i = n := ⟨i.toNat, by omega⟩
    have hn : n < ns.length := by omega
    refine i_ixQ (v := .int ns[n]) hS (atI_nat (by rw [List.getElem?_map, List.getElem?_eq_getElem hn]; rfl)) (k _ _ (Same.refl H))
  · walk_at "go"
    refine i_mulI (.inl ⟨by decide, by decide⟩) ?_
    walk_at "go"
    refine i_slQ hS fun p1 H1 n1 s1 h1 => ?_
    walk_at "go"
    obtain ⟨ms, hm⟩ := cutV_map ns none (some 1)
    rw [hm] at h1
    refine ⟨p1, ms, rfl, SqL.of h1, ?_⟩
    walk_at "go"
    refine i_modI (by decide) ?_
    walk_at "go"
    exact k _ _ s1
theorem o_law_box (T : Txt K mg a) : O_law_box P w K mg base a := by
  refine OkF.mk sc_law_box sp1_len (fun f cdv A outer s H vs Q E hr h => ⟨t_law_box K a E, d_law_box T hr, ?_⟩)
  obtain ⟨_, rfl, i, rfl, k⟩ := h
  unfold t_law_box
  walk_at "go"
  refine i_powI ⟨by decide, by decide, by decide⟩ ?_
  walk_at "go"
  refine i_modI (by decide) ?_
  walk_at "go"
  refine i_lstN (by show 4 ≤ sizeLine; decide) fun p1 H1 n1 s1 h1 => ?_
  refine k p1 H1 n1 s1 ⟨_, _, _, _, h1, ?_, Int.emod_nonneg _ (by decide), Int.emod_lt_of_pos _ (by decide), Int.le_refl _, Int.le_refl _⟩
  split <;> omega
/-- a draw from the seed -/
theorem take_mixed {H : Hp} {Q : VK} {p : Addr} {m g sd c : Int} {big : Bool} {n : Nat} (m0 : 0 < m) (m1 : m < 1000000) (hp : H p = some (.lst [.int g, .bl big, .int sd, .int c])) (g0 : 0 ≤ g) (sd0 : 0 ≤ sd) (sd1 : sd < 2147483629) (c0 : 0 ≤ c) (cn : c ≤ n) (n1 : n ≤ 100000000)
    (k : ∀ r H', 0 ≤ r → r < m → But p H H' → Box H' p (n + 1) → Q (.int r) H') : (tSeq
      (tAsg (tOp rAddG (tOp (rIx K) (tVar 0) (tC (.int 3))) (tC (.int 1))) (gSub (tVar 0) (tC (.int 3)) rSetL))
      (tSeq
        (tAsg (tOp rModG (tCB rInt1 (tCons (tOp rPowG (tOp rAddG (tOp rAddG (tOp (rIx K) (tVar 0) (tC (.int 2))) (tOp rMulG (tC (.int 15485863)) (tOp (rIx K) (tVar 0) (tC (.int 3))))) (tC (.int 179424673))) (tC (.int 5))) tNil)) (tC (.int 2147483647))) (gName 2))
        (tRet (tOp rModG (tOp rDivG (tOp rModG (tCB rInt1 (tCons (tOp rPowG (tOp rAddG (tOp rMulG (tVar 2) (tC (.int 48271))) (tOp rMulG (tC (.int 104729)) (tOp (rIx K) (tVar 0) (tC (.int 3))))) (tC (.int 3))) tNil)) (tC (.int 2147483587))) (tC (.int 64))) (tVar 1)))))
      { nx := fun _ H' => Q .non H', rt := Q } (start ["box", "many", "mixed", "digit"] [.ref p, .int m]) H := by
  walk_at "go"
  refine i_ixL (v := .int c) hp rfl ?_
  walk_at "go"
  refine i_setL hp (n := 3) rfl fun H1 b1 h1 => ?_
  have h1 : H1 p = some (.lst [.int g, .bl big, .int sd, .int (c + 1)]) := h1
  walk_at "go"
  refine i_ixL (v := .int sd) h1 rfl ?_
  walk_at "go"
  refine i_ixL (v := .int (c + 1)) h1 rfl ?_
  walk_at "go"
  refine i_mulI (.inl ⟨by decide, by decide⟩) ?_
  walk_at "go"
  refine i_powI ⟨by decide, by decide, by omega⟩ ?_
  generalize (sd + 15485863 * (c + 1) + 179424673) ^ Int.toNat 5 = y
  walk_at "go"
  refine i_modI (by decide) ?_
  have x0 : 0 ≤ y % 2147483647 := Int.emod_nonneg _ (by decide)
  have x1 : y % 2147483647 < 2147483647 := Int.emod_lt_of_pos _ (by decide)
  generalize y % 2147483647 = x at x0 x1 ⊢
  walk_at "go"
  refine i_mulI (.inr ⟨by decide, by decide⟩) ?_
  walk_at "go"
  refine i_ixL (v := .int (c + 1)) h1 rfl ?_
  walk_at "go"
  refine i_mulI (.inl ⟨by decide, by decide⟩) ?_
  walk_at "go"
  refine i_powI ⟨by decide, by decide, by omega⟩ ?_
  generalize (x * 48271 + 104729 * (c + 1)) ^ Int.toNat 3 = z
  walk_at "go"
  refine i_modI (by decide) ?_
  generalize z % 2147483587 = u
  walk_at "go"
  refine i_divI ⟨by decide, by decide⟩ ?_
  generalize u / 64 = t
  walk_at "go"
  refine i_modI m0 ?_
  have a1 : m ≠ 0 := by omega
  have a2 : (c + 1 : Int) ≤ ((n + 1 : Nat) : Int) := by omega
  have a3 : (0 : Int) ≤ c + 1 := by omega
  exact k _ H1 (Int.emod_nonneg _ a1) (Int.emod_lt_of_pos _ m0) b1 ⟨g, sd, c + 1, big, h1, g0, sd0, sd1, a3, a2⟩
theorem o_law_take (T : Txt K mg a) : O_law_take P w K mg base a := by
  refine OkF.mk sc_law_take sp2_len (fun f cdv A outer s H vs Q E hr h => ⟨t_law_take K a E, d_law_take T hr, ?_⟩)
  obtain ⟨_, _, rfl, p, m, n, rfl, rfl, m0, m1, ⟨g, sd, c, big, hp, g0, sd0, sd1, c0, cn⟩, n1, k⟩ := h
  have mod0 : ∀ x : Int, 0 ≤ x % m := fun x => Int.emod_nonneg _ (by omega)
  have mod1 : ∀ x : Int, x % m < m := fun x => Int.emod_lt_of_pos _ m0
  have mixed := take_mixed (K := K) (Q := Q) m0 m1 hp g0 sd0 sd1 c0 cn n1 k
  unfold t_law_take
  refine i_seq ?_
  refine i_ifS ?_
  refine i_and ?_
  walk_at "go"
  refine i_ixL (v := .bl big) hp rfl ?_
  walk_at "go"
  refine ifB (fun e1 => ?_) (fun e1 => ?_)
  · walk_at "go"
    refine i_ixL (v := .int g) hp rfl ?_
    walk_at "go"
    refine ifB (fun e2 => ?_) (fun e2 => ?_)
    · have e2 : 0 < g := of_decide_eq_true e2
      walk_at "go"
      refine i_ixL (v := .int g) hp rfl ?_
      walk_at "go"
      refine i_modI m0 ?_
      walk_at "go"
      refine i_ixL (v := .int g) hp rfl ?_
      walk_at "go"
      refine i_divI ⟨m0, by omega⟩ ?_
      walk_at "go"
      refine i_setL hp (n := 0) rfl fun H1 b1 h1 => ?_
      have h1 : H1 p = some (.lst [.int (g / m), .bl big, .int sd, .int c]) := h1
      walk_at "go"
      have a2 : c ≤ ((n + 1 : Nat) : Int) := by omega
      have a3 : 0 ≤ m := by omega
      exact k _ H1 (mod0 _) (mod1 _) b1 ⟨g / m, sd, c, big, h1, Int.ediv_nonneg g0 a3, sd0, sd1, c0, a2⟩
    · refine i_next ?_
      exact mixed
  · refine iteF ?_
    refine i_next ?_
    exact mixed
theorem o_law_signs (T : Txt K mg a) : O_law_signs P w K mg base a := by
  refine OkF.mk sc_law_signs sp0_len (fun f cdv A outer s H vs Q E hr h => ⟨t_law_signs K a E, d_law_signs T hr, ?_⟩)
  obtain ⟨rfl, k⟩ := h
  unfold t_law_signs
  walk_at "go"
  exact k

/-! ### texts -/
theorem joinL_nil : ∀ l : List (List Nat), TL.joinL [] l = l.flatten
  | [] => rfl
  | [x] => by
    show x = ([x] : List (List Nat)).flatten
    rw [List.flatten_cons, List.flatten_nil, List.append_nil]
  | x :: y :: r => by
    have ih := joinL_nil (y :: r)
    show x ++ ([] ++ TL.joinL [] (y :: r)) = _
    rw [ih, List.nil_append, List.flatten_cons, List.flatten_cons, List.flatten_cons]
theorem join_empty (ys : List Str) : (Txt.join "" ys).cps.toList = (ys.map fun y => y.cps.toList).flatten := by
  rw [TL.join_eq]
  have e := TL.tl_join ("" : Str) ys
  have e0 : TL.tl ("" : Str) = [] := by decide +kernel
  rw [e0, joinL_nil] at e
  exact e
theorem len_tl (z : Str) : z.cps.toList.length = z.length := by simp [Str.length]
/-- texts of one good sign each -/
def Ones (ys : List Str) : Prop := ∀ y ∈ ys, ∃ c, goodC c = true ∧ y = ⟨#[c]⟩
theorem ones_join : ∀ {ys : List Str}, Ones ys → ((ys.map fun y => y.cps.toList).flatten).length = ys.length ∧ ((ys.map fun y => y.cps.toList).flatten).all goodC = true ∧ (ys.map (·.length)).sum = ys.length
  | [], _ => ⟨rfl, rfl, rfl⟩
  | y :: r, h => by
    obtain ⟨c, hc, rfl⟩ := h y (List.mem_cons_self ..)
    obtain ⟨h1, h2, h3⟩ := ones_join (ys := r) fun x hx => h x (List.mem_cons_of_mem _ hx)
    refine ⟨?_, ?_, ?_⟩
    · rw [List.map_cons, List.flatten_cons, List.length_append, h1, List.length_cons]
      exact Nat.add_comm 1 r.length
    · rw [List.map_cons, List.flatten_cons, List.all_append, h2, Bool.and_true]
      show (goodC c && true) = true
      rw [hc]; rfl
    · rw [List.map_cons, List.sum_cons, h3, List.length_cons]
      exact Nat.add_comm 1 r.length
theorem ones_text {ys : List Str} (h : Ones ys) : (Txt.join "" ys).length = ys.length ∧ Good (Txt.join "" ys) := by
  obtain ⟨h1, h2, _⟩ := ones_join h
  refine ⟨?_, ?_⟩
  · rw [← len_tl, join_empty, h1]
  · unfold Good
    rw [join_empty, h2]
theorem signs_len : signsT.length = 94 := by decide +kernel
theorem signs_good : Good signsT := by unfold Good; decide +kernel
theorem Box.mono {H : Hp} {p : Addr} {n m : Nat} (b : Box H p n) (h : n ≤ m) : Box H p m := by
  obtain ⟨g, sd, k, c, h1, h2, h3, h4, h5, h6⟩ := b
  exact ⟨g, sd, k, c, h1, h2, h3, h4, h5, by omega⟩
theorem Box.same {H H' : Hp} {p : Addr} {n : Nat} (b : Box H p n) (s : Same H H') : Box H' p n := by
  obtain ⟨g, sd, k, c, h1, h2⟩ := b
  exact ⟨g, sd, k, c, s _ _ h1, h2⟩
theorem Box.but {H H' : Hp} {p q : Addr} {n : Nat} (b : Box H p n) (s : But q H H') (h : p ≠ q) : Box H' p n := by
  obtain ⟨g, sd, k, c, h1, h2⟩ := b
  exact ⟨g, sd, k, c, s _ _ h h1, h2⟩
theorem Box.buts {M : Addr → Prop} {H H' : Hp} {p : Addr} {n : Nat} (b : Box H p n) (s : Buts M H H') (h : ¬ M p) : Box H' p n := by
  obtain ⟨g, sd, k, c, h1, h2⟩ := b
  exact ⟨g, sd, k, c, s _ _ h h1, h2⟩
theorem o_law_text (T : Txt K mg a) (g_law_take : G_law_take P w K mg base a) (g_law_signs : G_law_signs P w K mg base a) : O_law_text P w K mg base a := by
  refine OkF.mk sc_law_text sp2_len (fun f cdv A outer s H vs Q E hr h => ⟨t_law_text K a E, d_law_text T g_law_take g_law_signs hr, ?_⟩)
  obtain ⟨_, _, rfl, p, m, n, rfl, rfl, m0, m1, B, n1, k⟩ := h
  unfold t_law_text
  walk_at "go"
  refine ⟨⟨_, rfl⟩, ?_⟩
  walk_at "go"
  refine ⟨_, rfl, by omega, by omega, ?_⟩
  obtain ⟨c, rfl⟩ : ∃ c : Nat, m = c := ⟨m.toNat, by omega⟩
  rw [Int.toNat_natCast]
  refine i_lcR (fun D i acc H' => But p H H' ∧ Box H' p (n + i) ∧ ∃ ys, Ones ys ∧ ys.length = i ∧ acc = ys.map V.str) (fun D H' _ sm _ => ⟨Same.tobut sm, B.same sm, [], fun _ h => (nomatch h), rfl, rfl⟩) ?_ ?_
  · rintro D i acc H1 hD hi hl ha ⟨b1, B1, ys, o1, l1, rfl⟩
    have np : D ≠ p := fun q => by
      obtain ⟨_, _, _, _, h1, _⟩ := B
      rw [q, h1] at hD; cases hD
    walk_at "go"
    refine ⟨rfl, ?_⟩
    walk_at "go"
    refine i_lenS (by rw [signs_len]; decide) ?_
    walk_at "go"
    refine ⟨p, _, n + i, rfl, rfl, by rw [signs_len]; decide, by rw [signs_len]; decide, B1, by omega, fun r H2 r0 r1 b2 B2 => ?_⟩
    walk_at "go"
    obtain ⟨j, rfl⟩ : ∃ j : Nat, r = j := ⟨r.toNat, by omega⟩
    have hj : j < signsT.cps.toList.length := by rw [len_tl]; omega
    refine i_ixS (c := signsT.cps.toList[j]) (by rw [signs_len]; decide) (atI_nat (List.getElem?_eq_getElem hj)) ?_
    have gc : goodC signsT.cps.toList[j] = true := List.all_eq_true.mp signs_good _ (List.getElem_mem hj)
    have sz : (100 : Nat) < sizeLine := by decide
    refine lc_done (b2 _ _ np ha) hl (by omega) fun H3 b3 h3 => ⟨But.new (But.trans b1 b2) hD b3, (B2.but b3 np.symm).mono (by omega), ys ++ [⟨#[signsT.cps.toList[j]]⟩], ?_, ?_, ?_⟩
    · intro y hy
      rcases List.mem_append.mp hy with h | h
      · exact o1 y h
      · rw [List.mem_singleton.mp h]
        exact ⟨_, gc, rfl⟩
    · rw [List.length_append, l1]; rfl
    · rw [List.map_append]; rfl
  · rintro D acc H1 hD ha ⟨b1, B1, ys, o1, l1, rfl⟩
    obtain ⟨_, _, h3⟩ := ones_join o1
    obtain ⟨h1, h2⟩ := ones_text o1
    refine ⟨_, D, ys, rfl, rfl, .inl (SqL.of ha), ?_, ?_⟩
    · rw [h3]
      show ys.length + ys.length * ("" : Str).length ≤ 16777216
      have e0 : ("" : Str).length = 0 := by decide +kernel
      rw [e0]
      omega
    · exact k _ H1 (by rw [h1, l1]) h2 b1 (B1.mono (by omega))
theorem Good.of_mem {x y : Str} (g : Good x) (h : ∀ c, c ∈ y.cps.toList → c ∈ x.cps.toList) : Good y := by
  unfold Good at *
  rw [List.all_eq_true] at *
  exact fun c hc => g c (h c hc)
theorem empty_len : ("" : Str).length = 0 := by decide +kernel
theorem empty_good : Good ("" : Str) := by unfold Good; decide +kernel
theorem o_law_good (T : Txt K mg a) (g_law_take : G_law_take P w K mg base a) (g_law_text : G_law_text P w K mg base a) : O_law_good P w K mg base a := by
  refine OkF.mk sc_law_good sp2_len (fun f cdv A outer s H vs Q E hr h => ⟨t_law_good K a E, d_law_good T g_law_take g_law_text hr, ?_⟩)
  obtain ⟨_, _, rfl, p, i, n, rfl, rfl, i0, i1, B, n1, k⟩ := h
  unfold t_law_good
  walk_at "go"
  refine ⟨p, 6, n, rfl, rfl, by decide, by decide, B, by omega, fun w0 H1 r0 r1 b1 B1 => ?_⟩
  walk_at "go"
  refine ⟨p, 12, n + 1, rfl, rfl, by decide, by decide, B1, by omega, fun u H2 u0 u1 b2 B2 => ?_⟩
  walk_at "go"
  refine ⟨p, 1 + u, n + 2, rfl, rfl, by omega, by omega, B2, by omega, fun z H3 l3 g3 b3 B3 => ?_⟩
  walk_at "go"
  have b := But.trans (But.trans b1 b2) b3
  have B4 : Box H3 p (n + 200) := B3.mono (by omega)
  have l4 : z.length ≤ 12 := by omega
  refine ifB (fun c => ?_) (fun c => ?_)
  · walk_at "go"
    refine k _ H3 ?_ empty_good b B4
    rw [empty_len]; omega
  · walk_at "go"
    have c : ¬ w0 = 0 := of_decide_eq_false c
    refine ifB (fun c3 => ?_) (fun c3 => ?_)
    · have c3 : w0 < 3 := of_decide_eq_true c3
      walk_at "go"
      refine i_mulS (mulOk_small (by omega) (by omega) (by omega)) ?_
      walk_at "go"
      have ml : ((Txt.mul z i).length : Int) = (z.length : Int) * i := mul_len (by omega)
      have m2 : (z.length : Int) * i ≤ 12 * 400 := Int.mul_le_mul (by omega) i1 (by omega) (by decide)
      have sz : sizeLine = 16777216 := by decide
      refine i_slS (by omega) ?_
      refine k _ H3 ?_ (g3.of_mem fun c hc => mul_mem (cutS_mem hc)) b B4
      rw [cutS_to (by omega)]
      omega
    · walk_at "go"
      exact k z H3 (by omega) g3 b B4
/-! ### wrong values -/
theorem newv {H H5 : Hp} {p q : Addr} {n : Nat} (b : But p H H5) (B : Box H5 p n) (h : H5 q = none) : H q = none := by
  cases e : H q with
  | none => rfl
  | some o =>
    have np : q ≠ p := fun z => by
      obtain ⟨_, _, _, _, h1, _⟩ := B
      rw [z, h1] at h; cases h
    rw [b q o np e] at h; cases h
theorem Box.ne {H : Hp} {p q : Addr} {n : Nat} (B : Box H p n) (h : H q = none) : p ≠ q := by
  obtain ⟨_, _, _, _, h1, _⟩ := B
  exact ne_of_none h1 h
theorem dat_l1 {H : Hp} {q : Addr} {x : V} (h : H q = some (.lst [x])) (d : Dat H 0 x) : Dat H 1 (.ref q) := .lst h (by show 1 ≤ 90; decide) fun y hy => by rw [List.mem_singleton.mp hy]; exact d
theorem dat_t1 {H : Hp} {q : Addr} {x : V} (h : H q = some (.tup [x])) (d : Dat H 0 x) : Dat H 1 (.ref q) := .tup h (by show 1 ≤ 90; decide) fun y hy => by rw [List.mem_singleton.mp hy]; exact d
theorem at12 {r : Int} (h0 : 0 ≤ r) (h1 : r < 12) : r = 0 ∨ r = 1 ∨ r = 2 ∨ r = 3 ∨ r = 4 ∨ r = 5 ∨ r = 6 ∨ r = 7 ∨ r = 8 ∨ r = 9 ∨ r = 10 ∨ r = 11 := by omega
theorem o_law_bad_page (T : Txt K mg a) (g_law_take : G_law_take P w K mg base a) : O_law_bad_page P w K mg base a := by
  refine OkF.mk sc_law_bad_page sp2_len (fun f cdv A outer s H vs Q E hr h => ⟨t_law_bad_page K a E, d_law_bad_page T g_law_take hr, ?_⟩)
  obtain ⟨_, _, rfl, p, i, n, rfl, rfl, i0, i1, B, n1, k⟩ := h
  unfold t_law_bad_page
  walk_at "go"
  refine i_tupN (by show 1 ≤ sizeLine; decide) fun q1 H1 m1 s1 h1 => ?_
  walk_at "go"
  refine i_lstN (by show 1 ≤ sizeLine; decide) fun q2 H2 m2 s2 h2 => ?_
  walk_at "go"
  refine i_dicN fun q3 H3 m3 s3 h3 => ?_
  walk_at "go"
  refine i_powI ⟨by decide, by decide, by decide⟩ ?_
  walk_at "go"
  refine i_lstN (by show 12 ≤ sizeLine; decide) fun q4 H4 m4 s4 h4 => ?_
  walk_at "go"
  have B4 : Box H4 p n := ((((B.same s1).same s2).same s3).same s4)
  refine ⟨p, 12, n, rfl, rfl, by decide, by decide, B4, by omega, fun r H5 r0 r1 b5 B5 => ?_⟩
  walk_at "go"
  have n4 : q4 ≠ p := (((B.same s1).same s2).same s3).ne m4 |>.symm
  have n3 : q3 ≠ p := ((B.same s1).same s2).ne m3 |>.symm
  have n2 : q2 ≠ p := (B.same s1).ne m2 |>.symm
  have n1' : q1 ≠ p := B.ne m1 |>.symm
  have h5 := b5 _ _ n4 h4
  have e1 := b5 _ _ n1' (s4 _ _ (s3 _ _ (s2 _ _ h1)))
  have e2 := b5 _ _ n2 (s4 _ _ (s3 _ _ h2))
  have e3 := b5 _ _ n3 (s4 _ _ h3)
  have bb : But p H H5 := Same.butR (((s1.trans s2).trans s3).trans s4) b5
  have B6 : Box H5 p (n + 10) := B5.mono (by omega)
  have kk : ∀ v, Dat H5 1 v → NewV H v → idx v i = false → Q v H5 := fun v => k v H5 bb B6
  have no : ∀ {v : V}, (∀ q, v ≠ .ref q) → NewV H v := fun z q e => absurd e (z q)
  rcases at12 r0 r1 with rfl | rfl | rfl | rfl | rfl | rfl | rfl | rfl | rfl | rfl | rfl | rfl
  · exact i_ixL h5 rfl (kk _ (.int _) (no fun _ z => nomatch z) (by show (decide (0 ≤ i) && decide (i < i)) = false; rw [decide_eq_false (Int.lt_irrefl i), Bool.and_false]))
  · exact i_ixL h5 rfl (kk _ (.int _) (no fun _ z => nomatch z) rfl)
  · exact i_ixL h5 rfl (kk _ (.int _) (no fun _ z => nomatch z) (by show (decide (0 ≤ -i) && decide (-i < i)) = false; rw [decide_eq_false (by omega : ¬ 0 ≤ -i)]; rfl))
  · exact i_ixL h5 rfl (kk _ (.int _) (no fun _ z => nomatch z) (by show (decide (0 ≤ i + 60) && decide (i + 60 < i)) = false; rw [decide_eq_false (by omega : ¬ i + 60 < i), Bool.and_false]))
  · exact i_ixL h5 rfl (kk _ .non (no fun _ z => nomatch z) rfl)
  · exact i_ixL h5 rfl (kk _ (.bl _) (no fun _ z => nomatch z) rfl)
  · exact i_ixL h5 rfl (kk _ (.bl _) (no fun _ z => nomatch z) rfl)
  · exact i_ixL h5 rfl (kk _ (.str (by decide +kernel)) (no fun _ z => nomatch z) rfl)
  · exact i_ixL h5 rfl (kk _ (dat_t1 e1 (.int _)) (fun q e => by cases e; exact m1) rfl)
  · exact i_ixL h5 rfl (kk _ (dat_l1 e2 (.int _)) (fun q e => by cases e; exact s1.free m2) rfl)
  · exact i_ixL h5 rfl (kk _ (.dic e3) (fun q e => by cases e; exact (s1.trans s2).free m3) rfl)
  · refine i_ixL h5 rfl (kk _ (.int _) (no fun _ z => nomatch z) ?_)
    show (decide ((0 : Int) ≤ 10 ^ Int.toNat 39) && decide ((10 : Int) ^ Int.toNat 39 < i)) = false
    have e : (10 : Int) ^ Int.toNat 39 = 1000000000000000000000000000000000000000 := by decide +kernel
    rw [e, decide_eq_false (by omega : ¬ (1000000000000000000000000000000000000000 : Int) < i), Bool.and_false]
theorem str_small : ∀ i : Fin 401, (Str.ofString (toString (i.val : Int))).length ≤ 5000 := by decide +kernel
theorem str_le {i : Int} (h0 : 0 ≤ i) (h1 : i ≤ 400) : (Str.ofString (toString i)).length ≤ 5000 := by
  have z := str_small ⟨i.toNat, by omega⟩
  rw [show ((⟨i.toNat, by omega⟩ : Fin 401).val : Int) = i from Int.toNat_of_nonneg h0] at z
  exact z
theorem log_le {i : Int} (h0 : 0 ≤ i) (h1 : i ≤ 400) : i.natAbs.log2 < 1920 := by
  have := Nat.log2_le_self i.natAbs
  omega
theorem o_law_bad_size (T : Txt K mg a) (g_law_take : G_law_take P w K mg base a) : O_law_bad_size P w K mg base a := by
  refine OkF.mk sc_law_bad_size sp3_len (fun f cdv A outer s H vs Q E hr h => ⟨t_law_bad_size K a E, d_law_bad_size T g_law_take hr, ?_⟩)
  obtain ⟨_, _, _, rfl, p, i, j, n, rfl, rfl, rfl, i0, ij, j1, B, n1, k⟩ := h
  unfold t_law_bad_size
  walk_at "go"
  refine i_str (log_le (by omega) (by omega)) ?_
  walk_at "go"
  refine i_lstN (by show 1 ≤ sizeLine; decide) fun q1 H1 m1 s1 h1 => ?_
  walk_at "go"
  refine i_tupN (by show 1 ≤ sizeLine; decide) fun q2 H2 m2 s2 h2 => ?_
  walk_at "go"
  refine i_dicN fun q3 H3 m3 s3 h3 => ?_
  walk_at "go"
  refine i_powI ⟨by decide, by decide, by decide⟩ ?_
  walk_at "go"
  refine i_lstN (by show 12 ≤ sizeLine; decide) fun q4 H4 m4 s4 h4 => ?_
  walk_at "go"
  have B4 : Box H4 p n := ((((B.same s1).same s2).same s3).same s4)
  refine ⟨p, 12, n, rfl, rfl, by decide, by decide, B4, by omega, fun r H5 r0 r1 b5 B5 => ?_⟩
  walk_at "go"
  have n4 : q4 ≠ p := (((B.same s1).same s2).same s3).ne m4 |>.symm
  have n3 : q3 ≠ p := ((B.same s1).same s2).ne m3 |>.symm
  have n2 : q2 ≠ p := (B.same s1).ne m2 |>.symm
  have n1' : q1 ≠ p := B.ne m1 |>.symm
  have h5 := b5 _ _ n4 h4
  have e1 := b5 _ _ n1' (s4 _ _ (s3 _ _ (s2 _ _ h1)))
  have e2 := b5 _ _ n2 (s4 _ _ (s3 _ _ h2))
  have e3 := b5 _ _ n3 (s4 _ _ h3)
  have bb : But p H H5 := Same.butR (((s1.trans s2).trans s3).trans s4) b5
  have B6 : Box H5 p (n + 10) := B5.mono (by omega)
  have kk : ∀ v, Dat H5 1 v → NewV H v → within v i j = false → Q v H5 := fun v => k v H5 bb B6
  have no : ∀ {v : V}, (∀ q, v ≠ .ref q) → NewV H v := fun z q e => absurd e (z q)
  have lo : ∀ x : Int, x < i → within (.int x) i j = false := fun x hx => by
    show (decide (i ≤ x) && decide (x ≤ j)) = false
    rw [decide_eq_false (by omega : ¬ i ≤ x)]; rfl
  have hi : ∀ x : Int, j < x → within (.int x) i j = false := fun x hx => by
    show (decide (i ≤ x) && decide (x ≤ j)) = false
    rw [decide_eq_false (by omega : ¬ x ≤ j), Bool.and_false]
  rcases at12 r0 r1 with rfl | rfl | rfl | rfl | rfl | rfl | rfl | rfl | rfl | rfl | rfl | rfl
  · exact i_ixL h5 rfl (kk _ (.int _) (no fun _ z => nomatch z) (lo _ (by omega)))
  · exact i_ixL h5 rfl (kk _ (.int _) (no fun _ z => nomatch z) (hi _ (by omega)))
  · exact i_ixL h5 rfl (kk _ (.int _) (no fun _ z => nomatch z) (lo _ (by omega)))
  · exact i_ixL h5 rfl (kk _ (.int _) (no fun _ z => nomatch z) (lo _ (by omega)))
  · exact i_ixL h5 rfl (kk _ (.bl _) (no fun _ z => nomatch z) rfl)
  · exact i_ixL h5 rfl (kk _ .non (no fun _ z => nomatch z) rfl)
  · exact i_ixL h5 rfl (kk _ (.str (str_le (by omega) (by omega))) (no fun _ z => nomatch z) rfl)
  · exact i_ixL h5 rfl (kk _ (dat_l1 e1 (.int _)) (fun q e => by cases e; exact m1) rfl)
  · exact i_ixL h5 rfl (kk _ (dat_t1 e2 (.int _)) (fun q e => by cases e; exact s1.free m2) rfl)
  · exact i_ixL h5 rfl (kk _ (.dic e3) (fun q e => by cases e; exact (s1.trans s2).free m3) rfl)
  · refine i_ixL h5 rfl (kk _ (.int _) (no fun _ z => nomatch z) (hi _ ?_))
    have e : (10 : Int) ^ Int.toNat 39 = 1000000000000000000000000000000000000000 := by decide +kernel
    rw [e]; omega
  · exact i_ixL h5 rfl (kk _ (.str (by decide +kernel)) (no fun _ z => nomatch z) rfl)
theorem app_mem {x y : Str} {c : Nat} : c ∈ (x ++ y).cps.toList ↔ c ∈ x.cps.toList ∨ c ∈ y.cps.toList := by
  show c ∈ (x.cps ++ y.cps).toList ↔ _
  rw [Array.toList_append, List.mem_append]
theorem nl_mem : (10 : Nat) ∈ ("\n" : Str).cps.toList := by decide +kernel
theorem nl_len : ("\n" : Str).length = 1 := by decide +kernel
theorem pageT_nl {z : Str} {n : Int} (h : (10 : Nat) ∈ z.cps.toList) : pageT (.str z) n = false := by
  have e : z.cps.toList.all goodC = false := by
    rw [Bool.eq_false_iff]
    intro q
    have := List.all_eq_true.mp q 10 h
    exact absurd this (by decide)
  show (decide ((z.length : Int) ≤ n) && z.cps.toList.all goodC) = false
  rw [e, Bool.and_false]
theorem pageT_long {z : Str} {n : Int} (h : n < (z.length : Int)) : pageT (.str z) n = false := by
  show (decide ((z.length : Int) ≤ n) && z.cps.toList.all goodC) = false
  rw [decide_eq_false (by omega : ¬ (z.length : Int) ≤ n)]; rfl
theorem o_law_bad_text (T : Txt K mg a) (g_law_take : G_law_take P w K mg base a) (g_law_text : G_law_text P w K mg base a) : O_law_bad_text P w K mg base a := by
  refine OkF.mk sc_law_bad_text sp2_len (fun f cdv A outer s H vs Q E hr h => ⟨t_law_bad_text K a E, d_law_bad_text T g_law_take g_law_text hr, ?_⟩)
  obtain ⟨_, _, rfl, p, i, n, rfl, rfl, i0, i1, B, n1, k⟩ := h
  have sz : sizeLine = 16777216 := by decide
  unfold t_law_bad_text
  walk_at "go"
  refine ⟨p, 4, n, rfl, rfl, by decide, by decide, B, by omega, fun u Ha u0 u1 ba Ba => ?_⟩
  walk_at "go"
  refine ⟨p, 1 + u, n + 1, rfl, rfl, by omega, by omega, Ba, by omega, fun z H0 l3 g3 bb Bb => ?_⟩
  have l4 : z.length ≤ 4 := by omega
  have l5 : 1 ≤ z.length := by omega
  walk_at "go"
  refine i_lenS (by omega) ?_
  walk_at "go"
  refine i_divI ⟨by decide, by decide⟩ ?_
  walk_at "go"
  refine i_mulS (mulOk_small (by omega) (by decide) (by decide)) ?_
  walk_at "go"
  have ml : ((Txt.mul z 401).length : Int) = (z.length : Int) * 401 := mul_len (by decide)
  refine i_addS (by rw [nl_len]; omega) ?_
  walk_at "go"
  have d0 : (0 : Int) ≤ (z.length : Int) / 2 := Int.ediv_nonneg (by omega) (by decide)
  refine i_slS (by omega) ?_
  walk_at "go"
  have c1 := cutS_len z none (some ((z.length : Int) / 2))
  have c2 := cutS_len z (some ((z.length : Int) / 2)) none
  refine i_addS (by rw [nl_len]; omega) ?_
  walk_at "go"
  refine i_slS (by omega) ?_
  walk_at "go"
  refine i_addS (by rw [app_len, nl_len]; omega) ?_
  walk_at "go"
  refine i_slS (by omega) ?_
  walk_at "go"
  refine i_slS (by omega) ?_
  walk_at "go"
  refine i_lstN (by show 1 ≤ sizeLine; decide) fun q1 H1 m1 s1 h1 => ?_
  walk_at "go"
  refine i_tupN (by show 1 ≤ sizeLine; decide) fun q2 H2 m2 s2 h2 => ?_
  walk_at "go"
  refine i_dicN fun q3 H3 m3 s3 h3 => ?_
  walk_at "go"
  refine i_lstN (by show 12 ≤ sizeLine; decide) fun q4 H4 m4 s4 h4 => ?_
  walk_at "go"
  have B4 : Box H4 p (n + 1 + 100) := ((((Bb.same s1).same s2).same s3).same s4)
  refine ⟨p, 12, n + 1 + 100, rfl, rfl, by decide, by decide, B4, by omega, fun r H5 r0 r1 b5 B5 => ?_⟩
  walk_at "go"
  have n4 : q4 ≠ p := (((Bb.same s1).same s2).same s3).ne m4 |>.symm
  have n3 : q3 ≠ p := ((Bb.same s1).same s2).ne m3 |>.symm
  have n2 : q2 ≠ p := (Bb.same s1).ne m2 |>.symm
  have n1' : q1 ≠ p := Bb.ne m1 |>.symm
  have h5 := b5 _ _ n4 h4
  have e1 := b5 _ _ n1' (s4 _ _ (s3 _ _ (s2 _ _ h1)))
  have e2 := b5 _ _ n2 (s4 _ _ (s3 _ _ h2))
  have e3 := b5 _ _ n3 (s4 _ _ h3)
  have b0 : But p H H0 := But.trans ba bb
  have bH : But p H H5 := But.trans b0 (Same.butR (((s1.trans s2).trans s3).trans s4) b5)
  have B6 : Box H5 p (n + 200) := B5.mono (by omega)
  have kk : ∀ v, Dat H5 1 v → NewV H v → pageT v i = false → Q v H5 := fun v => k v H5 bH B6
  have no : ∀ {v : V}, (∀ q, v ≠ .ref q) → NewV H v := fun z q e => absurd e (z q)
  have t1 : (cutS (Txt.mul z 401) none (some (i + 1))).length = min (i + 1).toNat (Txt.mul z 401).length := cutS_to (by omega)
  have t2 : (cutS (Txt.mul z 401) none (some (i + 30))).length = min (i + 30).toNat (Txt.mul z 401).length := cutS_to (by omega)
  rcases at12 r0 r1 with rfl | rfl | rfl | rfl | rfl | rfl | rfl | rfl | rfl | rfl | rfl | rfl
  · exact i_ixL h5 rfl (kk _ (.str (by rw [app_len, nl_len]; omega)) (no fun _ z => nomatch z) (pageT_nl (app_mem.mpr (.inr nl_mem))))
  · exact i_ixL h5 rfl (kk _ (.str (by rw [nl_len]; decide)) (no fun _ z => nomatch z) (pageT_nl nl_mem))
  · exact i_ixL h5 rfl (kk _ (.str (by rw [app_len, app_len, nl_len]; omega)) (no fun _ z => nomatch z) (pageT_nl (app_mem.mpr (.inl (app_mem.mpr (.inr nl_mem))))))
  · exact i_ixL h5 rfl (kk _ (.str (by omega)) (no fun _ z => nomatch z) (pageT_long (by omega)))
  · exact i_ixL h5 rfl (kk _ (.str (by omega)) (no fun _ z => nomatch z) (pageT_long (by omega)))
  · exact i_ixL h5 rfl (kk _ .non (no fun _ z => nomatch z) rfl)
  · exact i_ixL h5 rfl (kk _ (.bl _) (no fun _ z => nomatch z) rfl)
  · exact i_ixL h5 rfl (kk _ (.int _) (no fun _ z => nomatch z) rfl)
  · exact i_ixL h5 rfl (kk _ (dat_l1 e1 (.str (by omega))) (fun q e => by cases e; exact newv b0 Bb m1) rfl)
  · exact i_ixL h5 rfl (kk _ (dat_t1 e2 (.str (by omega))) (fun q e => by cases e; exact newv b0 Bb (s1.free m2)) rfl)
  · exact i_ixL h5 rfl (kk _ (.dic e3) (fun q e => by cases e; exact newv b0 Bb ((s1.trans s2).free m3)) rfl)
  · exact i_ixL h5 rfl (kk _ (.int _) (no fun _ z => nomatch z) rfl)
theorem Sim.same {H H' : Hp} {n : Nat} {t d : V} (h : Sim H n t d) (s : Same H H') : Sim H' n t d := by
  induction h with
  | non => exact .non
  | bl b => exact .bl b
  | int i => exact .int i
  | str l => exact .str l
  | lst h h' l m k ih => exact .lst (s _ _ h) (s _ _ h') l m ih
  | tup h h' l m k ih => exact .tup (s _ _ h) (s _ _ h') l m ih
  | dic h h' => exact .dic (s _ _ h) (s _ _ h')
theorem Dat.same {H H' : Hp} {n : Nat} {v : V} (h : Dat H n v) (s : Same H H') : Dat H' n v := by
  induction h with
  | non => exact .non
  | bl b => exact .bl b
  | int i => exact .int i
  | str l => exact .str l
  | lst h l k ih => exact .lst (s _ _ h) l ih
  | tup h l k ih => exact .tup (s _ _ h) l ih
  | dic h => exact .dic (s _ _ h)
theorem Dat.sim {H : Hp} {n : Nat} {v : V} (h : Dat H n v) : ∀ m, n ≤ m → Sim H m v v := by
  induction h with
  | non => exact fun _ _ => .non
  | bl b => exact fun _ _ => .bl b
  | int i => exact fun _ _ => .int i
  | str l => exact fun _ _ => .str l
  | lst h l k ih =>
    intro m hm
    obtain ⟨j, rfl⟩ : ∃ j, m = j + 1 := ⟨m - 1, by omega⟩
    refine .lst h h rfl (by omega) fun i x y hx hy => ?_
    rw [hx] at hy
    cases hy
    exact ih x (List.mem_of_getElem? hx) j (by omega)
  | tup h l k ih =>
    intro m hm
    obtain ⟨j, rfl⟩ : ∃ j, m = j + 1 := ⟨m - 1, by omega⟩
    refine .tup h h rfl (by omega) fun i x y hx hy => ?_
    rw [hx] at hy
    cases hy
    exact ih x (List.mem_of_getElem? hx) j (by omega)
  | dic h => exact fun _ _ => .dic h h
theorem Dat.kn {H : Hp} {n : Nat} {v : V} (h : Dat H n v) : Kn H v := by
  cases h with
  | non => exact .non
  | bl b => exact .bl b
  | int i => exact .int i
  | str l => exact .str (Nat.le_trans l (by decide))
  | lst h _ _ => exact .lst h
  | tup h _ _ => exact .tup h
  | dic h => exact .dic h
theorem s5000 {n : Nat} (h : n ≤ 5000) : n ≤ sizeLine := Nat.le_trans h (by decide)
/-- alike, one level; sp is what the calls within keep -/
theorem like_core (T : Txt K mg a) {n k : Nat} {sp : Sp} (g : Here P w K mg base k "_law_like" ["told", "due"] sp) (hs : ∀ m, n = m + 1 → sp = sp_like m) : OkF P w K mg base (k + 1) "_law_like" "_law_like" s_law_like ["told", "due"] (sp_like n) := by
  refine OkF.mk sc_law_like sp2_len (fun f cdv A outer s H vs Q E hr h => ⟨t_law_like K a E sp, d_law_like T g hr, ?_⟩)
  obtain ⟨_, _, rfl, sim, k1⟩ := h
  unfold t_law_like
  cases sim with
  | non =>
    walk_at "go"
    refine i_tupN (by show 2 ≤ sizeLine; decide) fun p0 H0 m0 s0 h0 => ?_
    walk_at "go"
    refine isi_lt h0 .non ?_
    walk_at "go"
    refine ifF rfl ?_
    walk_at "go"
    refine ifT (by decide) ?_
    walk_at "go"
    refine i_isB rfl rfl ?_
    walk_at "go"
    refine i_isB rfl rfl ?_
    walk_at "go"
    refine i_tupN (by show 3 ≤ sizeLine; decide) fun p1 H1 m1 s1 h1 => ?_
    walk_at "go"
    refine i_isB rfl rfl ?_
    walk_at "go"
    refine i_isB rfl rfl ?_
    walk_at "go"
    refine i_tupN (by show 3 ≤ sizeLine; decide) fun p2 H2 m2 s2 h2 => ?_
    exact i_eqB3 (s2 _ _ h1) h2 (k1 _ ((s0.trans s1).trans s2))
  | bl b =>
    walk_at "go"
    refine i_tupN (by show 2 ≤ sizeLine; decide) fun p0 H0 m0 s0 h0 => ?_
    walk_at "go"
    refine isi_lt h0 (.bl b) ?_
    walk_at "go"
    refine ifF rfl ?_
    walk_at "go"
    refine ifF (decide_eq_false (fun q => nomatch q)) ?_
    walk_at "go"
    refine isi_bool (.bl b) ?_
    walk_at "go"
    refine ifT rfl ?_
    walk_at "go"
    refine i_isB rfl rfl ?_
    walk_at "go"
    refine i_isB rfl rfl ?_
    walk_at "go"
    refine i_tupN (by show 3 ≤ sizeLine; decide) fun p1 H1 m1 s1 h1 => ?_
    walk_at "go"
    refine i_isB rfl rfl ?_
    walk_at "go"
    refine i_isB rfl rfl ?_
    walk_at "go"
    refine i_tupN (by show 3 ≤ sizeLine; decide) fun p2 H2 m2 s2 h2 => ?_
    exact i_eqB3 (s2 _ _ h1) h2 (k1 _ ((s0.trans s1).trans s2))
  | int i =>
    walk_at "go"
    refine i_tupN (by show 2 ≤ sizeLine; decide) fun p0 H0 m0 s0 h0 => ?_
    walk_at "go"
    refine isi_lt h0 (.int i) ?_
    walk_at "go"
    refine ifF rfl ?_
    walk_at "go"
    refine ifF (decide_eq_false (fun q => nomatch q)) ?_
    walk_at "go"
    refine isi_bool (.int i) ?_
    walk_at "go"
    refine ifF rfl ?_
    walk_at "go"
    refine isi_str (.int i) ?_
    walk_at "go"
    refine ifF rfl ?_
    walk_at "go"
    refine isi_int (.int i) ?_
    walk_at "go"
    refine ifT rfl ?_
    walk_at "go"
    refine isi_int (.int i) ?_
    walk_at "go"
    refine ifT rfl ?_
    walk_at "go"
    refine isi_bool (.int i) ?_
    walk_at "go"
    refine ifT rfl ?_
    walk_at "go"
    rw [decide_eq_true rfl]
    exact k1 _ s0
  | @str _ z l =>
    walk_at "go"
    refine i_tupN (by show 2 ≤ sizeLine; decide) fun p0 H0 m0 s0 h0 => ?_
    walk_at "go"
    refine isi_lt h0 (.str (s5000 l)) ?_
    walk_at "go"
    refine ifF rfl ?_
    walk_at "go"
    refine ifF (decide_eq_false (fun q => nomatch q)) ?_
    walk_at "go"
    refine isi_bool (.str (s5000 l)) ?_
    walk_at "go"
    refine ifF rfl ?_
    walk_at "go"
    refine isi_str (.str (s5000 l)) ?_
    walk_at "go"
    refine ifT rfl ?_
    walk_at "go"
    refine isi_str (.str (s5000 l)) ?_
    walk_at "go"
    refine ifT rfl ?_
    walk_at "go"
    rw [decide_eq_true rfl]
    exact k1 _ s0
  | @lst n p q xs ys ha hb hl hm hk =>
    walk_at "go"
    refine i_tupN (by show 2 ≤ sizeLine; decide) fun p0 H0 m0 s0 h0 => ?_
    walk_at "go"
    have ha0 := s0 _ _ ha
    have hb0 := s0 _ _ hb
    refine isi_lt h0 (.lst hb0) ?_
    walk_at "go"
    refine ifT (by simp [isL, isT, hb0]) ?_
    walk_at "go"
    refine isi_list (.lst ha0) ?_
    walk_at "go"
    refine isi_list (.lst hb0) ?_
    walk_at "go"
    refine ifF (by simp [isL, ha0, hb0]) ?_
    walk_at "go"
    refine isi_tuple (.lst ha0) ?_
    walk_at "go"
    refine isi_tuple (.lst hb0) ?_
    walk_at "go"
    refine ifF (by simp [isT, ha0, hb0]) ?_
    walk_at "go"
    refine i_lenL ha0 ?_
    walk_at "go"
    refine i_lenL hb0 ?_
    walk_at "go"
    refine ifF (by rw [hl, decide_eq_true rfl]; rfl) ?_
    walk_at "go"
    refine i_lenL hb0 ?_
    walk_at "go"
    refine ⟨_, rfl, by omega, by omega, ?_⟩
    rw [Int.toNat_natCast]
    have es := hs n rfl
    subst es
    refine i_lcR (fun D i acc H' => Same H0 H' ∧ acc = []) (fun D H' _ s _ => ⟨s, rfl⟩) ?_ ?_
    · rintro D i acc H1 hD hi hl1 h1 ⟨s1, rfl⟩
      walk_at "go"
      refine ⟨rfl, ?_⟩
      obtain ⟨x, hx⟩ : ∃ x, xs[i]? = some x := ⟨_, List.getElem?_eq_getElem (by omega)⟩
      obtain ⟨y, hy⟩ : ∃ y, ys[i]? = some y := ⟨_, List.getElem?_eq_getElem hi⟩
      walk_at "go"
      refine i_ixL (v := x) (s1 _ _ ha0) (by rw [Int.zero_add]; exact atI_nat hx) ?_
      walk_at "go"
      refine i_ixL (v := y) (s1 _ _ hb0) (by rw [Int.zero_add]; exact atI_nat hy) ?_
      walk_at "go"
      refine ⟨(hk i x y hx hy).same (s0.trans s1), fun H2 s2 => ?_⟩
      walk_at "go"
      refine ifF rfl ?_
      exact lc_skip (s2 _ _ h1) hl1 ⟨s1.trans s2, rfl⟩
    · rintro D acc H1 hD h1 ⟨s1, rfl⟩
      walk_at "go"
      refine i_lstN (by show 0 ≤ sizeLine; decide) fun p2 H2 m2 s2 h2 => ?_
      refine i_eqNil (s2 _ _ h1) h2 (k1 _ ((s0.trans s1).trans s2))
  | @tup n p q xs ys ha hb hl hm hk =>
    walk_at "go"
    refine i_tupN (by show 2 ≤ sizeLine; decide) fun p0 H0 m0 s0 h0 => ?_
    walk_at "go"
    have ha0 := s0 _ _ ha
    have hb0 := s0 _ _ hb
    refine isi_lt h0 (.tup hb0) ?_
    walk_at "go"
    refine ifT (by simp [isL, isT, hb0]) ?_
    walk_at "go"
    refine isi_list (.tup ha0) ?_
    walk_at "go"
    refine isi_list (.tup hb0) ?_
    walk_at "go"
    refine ifF (by simp [isL, ha0, hb0]) ?_
    walk_at "go"
    refine isi_tuple (.tup ha0) ?_
    walk_at "go"
    refine isi_tuple (.tup hb0) ?_
    walk_at "go"
    refine ifF (by simp [isT, ha0, hb0]) ?_
    walk_at "go"
    refine i_lenT ha0 ?_
    walk_at "go"
    refine i_lenT hb0 ?_
    walk_at "go"
    refine ifF (by rw [hl, decide_eq_true rfl]; rfl) ?_
    walk_at "go"
    refine i_lenT hb0 ?_
    walk_at "go"
    refine ⟨_, rfl, by omega, by omega, ?_⟩
    rw [Int.toNat_natCast]
    have es := hs n rfl
    subst es
    refine i_lcR (fun D i acc H' => Same H0 H' ∧ acc = []) (fun D H' _ s _ => ⟨s, rfl⟩) ?_ ?_
    · rintro D i acc H1 hD hi hl1 h1 ⟨s1, rfl⟩
      walk_at "go"
      refine ⟨rfl, ?_⟩
      obtain ⟨x, hx⟩ : ∃ x, xs[i]? = some x := ⟨_, List.getElem?_eq_getElem (by omega)⟩
      obtain ⟨y, hy⟩ : ∃ y, ys[i]? = some y := ⟨_, List.getElem?_eq_getElem hi⟩
      walk_at "go"
      refine i_ixT (v := x) (s1 _ _ ha0) (by rw [Int.zero_add]; exact atI_nat hx) ?_
      walk_at "go"
      refine i_ixT (v := y) (s1 _ _ hb0) (by rw [Int.zero_add]; exact atI_nat hy) ?_
      walk_at "go"
      refine ⟨(hk i x y hx hy).same (s0.trans s1), fun H2 s2 => ?_⟩
      walk_at "go"
      refine ifF rfl ?_
      exact lc_skip (s2 _ _ h1) hl1 ⟨s1.trans s2, rfl⟩
    · rintro D acc H1 hD h1 ⟨s1, rfl⟩
      walk_at "go"
      refine i_lstN (by show 0 ≤ sizeLine; decide) fun p2 H2 m2 s2 h2 => ?_
      refine i_eqNil (s2 _ _ h1) h2 (k1 _ ((s0.trans s1).trans s2))
  | @dic _ p q ha hb =>
    walk_at "go"
    refine i_tupN (by show 2 ≤ sizeLine; decide) fun p0 H0 m0 s0 h0 => ?_
    walk_at "go"
    have ha0 := s0 _ _ ha
    have hb0 := s0 _ _ hb
    refine isi_lt h0 (.dic hb0) ?_
    walk_at "go"
    refine ifF (by simp [isL, isT, hb0]) ?_
    walk_at "go"
    refine ifF (decide_eq_false (fun q => nomatch q)) ?_
    walk_at "go"
    refine isi_bool (.dic hb0) ?_
    walk_at "go"
    refine ifF rfl ?_
    walk_at "go"
    refine isi_str (.dic hb0) ?_
    walk_at "go"
    refine ifF rfl ?_
    walk_at "go"
    refine isi_int (.dic hb0) ?_
    walk_at "go"
    refine ifF rfl ?_
    walk_at "go"
    refine isi_dict (.dic ha0) ?_
    walk_at "go"
    refine isi_dict (.dic hb0) ?_
    walk_at "go"
    have e : decide (isD H0 (.ref p) = isD H0 (.ref q)) = true := by simp [isD, ha0, hb0]
    rw [e]
    exact k1 _ s0
theorem no_here (T : Txt K mg a) : Here P w K mg base 0 "_law_like" ["told", "due"] (fun _ _ _ _ => False) := by
  obtain ⟨f, fd, hm, F, b⟩ := T.D_law_like.ex
  exact ⟨f, fd, hm, F.kp, ⟨fun _ _ _ _ h => h.elim, fun _ _ _ _ _ _ _ _ _ _ _ _ _ h => h.elim⟩, b⟩
theorem o_law_like (T : Txt K mg a) : O_law_like P w K mg base a := by
  have g0 : Here P w K mg base 1 "_law_like" ["told", "due"] (sp_like 0) := T.D_law_like.to (like_core (n := 0) T (no_here T) fun m h => nomatch h)
  have g1 : Here P w K mg base 2 "_law_like" ["told", "due"] (sp_like 1) := T.D_law_like.to (like_core (n := 1) T g0 fun m h => by cases h; rfl)
  exact like_core (n := 2) T g1 fun m h => by cases h; rfl
theorem o_law_given (T : Txt K mg a) (g_law_like : G_law_like P w K mg base a) : O_law_given P w K mg base a := by
  refine OkF.mk sc_law_given sp3_len (fun f cdv A outer s H vs Q E hr h => ⟨t_law_given K a E, d_law_given T g_law_like hr, ?_⟩)
  obtain ⟨_, _, v, rfl, p, z, rfl, rfl, lz, hp, dv, k⟩ := h
  have sim1 : ∀ {H1 : Hp} {q : Addr}, Same H H1 → H1 q = some (.lst [.str z, v, .bl true]) → Sim H1 2 (.ref p) (.ref q) := fun {H1 q} s1 h1 => by
    refine .lst (s1 _ _ hp) h1 rfl (by show 3 ≤ 100; decide) fun i x y hx hy => ?_
    rw [hx] at hy
    cases hy
    have hm := List.mem_of_getElem? hx
    simp only [List.mem_cons, List.not_mem_nil, or_false] at hm
    rcases hm with rfl | rfl | rfl
    · exact .str (by omega)
    · exact (dv.same s1).sim 1 (Nat.le_refl _)
    · exact .bl true
  unfold t_law_given
  walk_at "go"
  refine i_lstN (by show 3 ≤ sizeLine; decide) fun q H1 m1 s1 h1 => ?_
  walk_at "go"
  refine ⟨sim1 s1 h1, fun H2 s2 => ?_⟩
  walk_at "go"
  refine ifF rfl ?_
  walk_at "go"
  have dv2 := dv.same (s1.trans s2)
  have hp2 := (s1.trans s2) _ _ hp
  refine isi_list dv2.kn ?_
  walk_at "go"
  -- behind it: told[1] and the value
  have fin : ∀ H3, H3 p = some (.lst [.str z, v, .bl true]) → Sim H3 2 v v → Buts (fun b => v = .ref b ∧ ∃ xs, H b = some (.lst xs)) H H3 → (tRet (tCl sp_law_like E0s (tCons (tOp (rIx K) (tVar 0) (tC (.int 1))) (tCons (tVar 2) tNil)))) { nx := fun _ H' => Q .non H', rt := Q } (start ["told", "word", "value"] [.ref p, .str z, v]) H3 := fun H3 h3 d3 b3 => by
    walk_at "go"
    refine i_ixL (v := v) h3 rfl ?_
    walk_at "go"
    exact ⟨d3, fun H4 s4 => k _ (Buts.same b3 s4)⟩
  have same : Dat H2 1 v → (tRet (tCl sp_law_like E0s (tCons (tOp (rIx K) (tVar 0) (tC (.int 1))) (tCons (tVar 2) tNil)))) { nx := fun _ H' => Q .non H', rt := Q } (start ["told", "word", "value"] [.ref p, .str z, v]) H2 := fun d => fin H2 hp2 (d.sim 2 (by decide)) (Same.buts (s1.trans s2))
  cases dv with
  | @lst _ c xs hh l kx =>
    have h := (s1.trans s2) _ _ hh
    refine ifT (by simp [isL, h]) ?_
    walk_at "go"
    refine ⟨.inl ⟨rfl, _, SqL.of h⟩, ?_⟩
    walk_at "go"
    refine i_appR h (Nat.lt_of_le_of_lt l (by decide)) fun H3 b3 h3 => ?_
    have npc : p ≠ c := fun e => by
      subst e
      rw [hp] at hh
      cases hh
      have z := kx (.ref p) (by simp)
      cases z with
      | dic h' => rw [hp] at h'; cases h'
    refine fin H3 (b3 _ _ npc hp2) ?_ (fun b o n hb => b3 b o (fun e => by subst e; exact n ⟨rfl, _, hh⟩) ((s1.trans s2) b o hb))
    refine .lst h3 h3 rfl (by rw [List.length_append, List.length_singleton]; omega) fun i x y hx hy => ?_
    rw [hx] at hy
    cases hy
    rcases List.mem_append.mp (List.mem_of_getElem? hx) with m | m
    · cases kx x m with
      | non => exact .non
      | bl b => exact .bl b
      | int i => exact .int i
      | str l => exact .str l
      | @dic _ r h' =>
        have nrc : r ≠ c := apart h' hh (by intro q; cases q)
        have h2 := (s1.trans s2) _ _ h'
        exact .dic (b3 _ _ nrc h2) (b3 _ _ nrc h2)
    · rw [List.mem_singleton.mp m]
      exact .str (by decide +kernel)
  | non => exact ifF rfl (same dv2)
  | bl b => exact ifF rfl (same dv2)
  | int i => exact ifF rfl (same dv2)
  | str l => exact ifF rfl (same dv2)
  | @tup _ c xs h l kx => exact ifF (by simp [isL, (s1.trans s2) _ _ h]) (same dv2)
  | @dic _ c h => exact ifF (by simp [isL, (s1.trans s2) _ _ h]) (same dv2)
theorem DiskAt.same {H H' : Hp} {d dx l : Addr} {pg wd : Int} {lf : V} {ts : List Str} (D : DiskAt a H d dx l pg wd lf ts) (s : Same H H') : DiskAt a H' d dx l pg wd lf ts :=
  ⟨s _ _ D.d, s _ _ D.l, D.n, D.p2, D.p60, D.w20, D.w400, D.lo, D.g⟩
theorem DiskAt.buts {M : Addr → Prop} {H H' : Hp} {d dx l : Addr} {pg wd : Int} {lf : V} {ts : List Str} (D : DiskAt a H d dx l pg wd lf ts) (s : Buts M H H') (h1 : ¬ M d) (h2 : ¬ M l) : DiskAt a H' d dx l pg wd lf ts :=
  ⟨s _ _ h1 D.d, s _ _ h2 D.l, D.n, D.p2, D.p60, D.w20, D.w400, D.lo, D.g⟩
theorem DiskAt.but {H H' : Hp} {p d dx l : Addr} {pg wd : Int} {lf : V} {ts : List Str} (D : DiskAt a H d dx l pg wd lf ts) (s : But p H H') (h1 : d ≠ p) (h2 : l ≠ p) : DiskAt a H' d dx l pg wd lf ts :=
  ⟨s _ _ h1 D.d, s _ _ h2 D.l, D.n, D.p2, D.p60, D.w20, D.w400, D.lo, D.g⟩
theorem freeB {H H1 H2 : Hp} {x r : Addr} (s1 : Same H H1) (nx : H x = none) (b : But x H1 H2) (n : H2 r = none) : H r = none := (Same.but s1 nx b).free n
theorem o_law_made (T : Txt K mg a) (g_Disk_init : G_Disk_init P w K mg base a) (g_Disk_init_width_pages : G_Disk_init_width_pages P w K mg base a) : O_law_made P w K mg base a := by
  refine OkF.mk sc_law_made sp3_len (fun f cdv A outer s H vs Q E hr h => ⟨t_law_made K a E, d_law_made T g_Disk_init g_Disk_init_width_pages hr, ?_⟩)
  obtain ⟨pg, wd, _, rfl, b, rfl, kp, kw, eP, eW, k⟩ := h
  unfold t_law_made
  dsimp only
  walk_at "go"
  refine ifB (fun _ => ?_) (fun _ => ?_)
  · walk_at "go"
    refine ⟨rfl, ?_⟩
    refine i_maR fun x dx H1 nx nd ne s1 h1 => ?_
    refine ⟨_, _, _, rfl, x, dx, rfl, h1, kp.same s1, kw.same s1, fun e => ?_, fun e e2 => ?_, fun i j e1 e2 b1 b2 b3 b4 l H2 nl nlx bx D => ⟨rfl, ?_⟩⟩
    · intro e0 H2 n2 s2 he
      refine ⟨true, T.exm_InvalidPages_InvalidPages, fun _ y hy => ?_, fun z => nomatch z⟩
      refine suite_err rfl he T.ec_InvalidPages.1 T.ec_InvalidPages.2 fun r H3 nr s3 h3 => ?_
      exact eP e r H3 ((s1.trans s2).free nr) ((s1.trans s2).trans s3) h3
    · intro e0 H2 n2 s2 he
      refine ⟨false, T.exm_InvalidWidth_InvalidPages, (fun z => nomatch z), fun _ => ⟨true, T.exm_InvalidWidth_InvalidWidth, fun _ y hy => ?_, fun z => nomatch z⟩⟩
      refine suite_err rfl he T.ec_InvalidWidth.1 T.ec_InvalidWidth.2 fun r H3 nr s3 h3 => ?_
      exact eW e e2 r H3 ((s1.trans s2).free nr) ((s1.trans s2).trans s3) h3
    · walk_at "go"
      refine i_lstN (by show 2 ≤ sizeLine; decide) fun r H3 nr s3 h3 => ?_
      exact k i j e1 e2 b1 b2 b3 b4 r x dx l H3 (freeB s1 nx bx nr) nx (s1.free nl) nlx ((Same.but s1 nx bx).trans s3) h3 (D.same s3)
  · walk_at "go"
    refine i_maR fun x dx H1 nx nd ne s1 h1 => ?_
    refine ⟨_, _, _, rfl, x, dx, rfl, h1, kp.same s1, kw.same s1, fun e => ?_, fun e e2 => ?_, fun i j e1 e2 b1 b2 b3 b4 l H2 nl nlx bx D => ⟨rfl, ?_⟩⟩
    · intro e0 H2 n2 s2 he
      refine ⟨true, T.exm_InvalidPages_InvalidPages, fun _ y hy => ?_, fun z => nomatch z⟩
      refine suite_err rfl he T.ec_InvalidPages.1 T.ec_InvalidPages.2 fun r H3 nr s3 h3 => ?_
      exact eP e r H3 ((s1.trans s2).free nr) ((s1.trans s2).trans s3) h3
    · intro e0 H2 n2 s2 he
      refine ⟨false, T.exm_InvalidWidth_InvalidPages, (fun z => nomatch z), fun _ => ⟨true, T.exm_InvalidWidth_InvalidWidth, fun _ y hy => ?_, fun z => nomatch z⟩⟩
      refine suite_err rfl he T.ec_InvalidWidth.1 T.ec_InvalidWidth.2 fun r H3 nr s3 h3 => ?_
      exact eW e e2 r H3 ((s1.trans s2).free nr) ((s1.trans s2).trans s3) h3
    · walk_at "go"
      refine i_lstN (by show 2 ≤ sizeLine; decide) fun r H3 nr s3 h3 => ?_
      exact k i j e1 e2 b1 b2 b3 b4 r x dx l H3 (freeB s1 nx bx nr) nx (s1.free nl) nlx ((Same.but s1 nx bx).trans s3) h3 (D.same s3)
/-- who stands in H and is not new behind it -/
theorem freeM {M : Addr → Prop} {H H2 : Hp} {r : Addr} (b : Buts M H H2) (hm : ∀ x, M x → ∃ o, H2 x = some o) (n : H2 r = none) : H r = none := by
  cases e : H r with
  | none => rfl
  | some o =>
    have nm : ¬ M r := fun m => by
      obtain ⟨o', h⟩ := hm r m
      rw [n] at h; cases h
    rw [b r o nm e] at n; cases n
theorem o_law_write (T : Txt K mg a) (g_Disk_write : G_Disk_write P w K mg base a) (g_Disk_write_text_page : G_Disk_write_text_page P w K mg base a) : O_law_write P w K mg base a := by
  refine OkF.mk sc_law_write sp4_len (fun f cdv A outer s H vs Q E hr h => ⟨t_law_write K a E, d_law_write T g_Disk_write g_Disk_write_text_page hr, ?_⟩)
  obtain ⟨_, page, text, _, rfl, b, d, dx, l, pg, wd, lf, ts, rfl, rfl, D, kp, kt, eG, eT, k⟩ := h
  unfold t_law_write
  dsimp only
  walk_at "go"
  refine ifB (fun _ => ?_) (fun _ => ?_)
  · walk_at "go"
    refine i_meR D.d df_no_write ?_
    walk_at "go"
    refine ⟨rfl, ?_⟩
    refine ⟨_, _, _, rfl, d, dx, l, pg, wd, lf, ts, rfl, D, kp, kt, fun e => ?_, fun e e2 => ?_, fun i z e1 hi e2 e3 H1 b1 D1 => ?_⟩
    · intro e0 H2 n2 s2 he
      refine ⟨true, T.exm_InvalidPage_InvalidPage, fun _ y hy => ?_, fun z => nomatch z⟩
      refine suite_err rfl he T.ec_InvalidPage.1 T.ec_InvalidPage.2 fun r H3 nr s3 h3 => ?_
      exact eG e r H3 (s2.free nr) (s2.trans s3) h3
    · intro e0 H2 n2 s2 he
      refine ⟨false, T.exm_InvalidText_InvalidPage, (fun z => nomatch z), fun _ => ⟨true, T.exm_InvalidText_InvalidText, fun _ y hy => ?_, fun z => nomatch z⟩⟩
      refine suite_err rfl he T.ec_InvalidText.1 T.ec_InvalidText.2 fun r H3 nr s3 h3 => ?_
      exact eT e e2 r H3 (s2.free nr) (s2.trans s3) h3
    · have kk := k i z e1 hi e2 e3
      have hm : ∀ x, (x = d ∨ x = l) → ∃ o, H1 x = some o := fun x hx => by
        rcases hx with rfl | rfl
        · exact ⟨_, D1.d⟩
        · exact ⟨_, D1.l⟩
      by_cases c : (wr ts lf i z).2.2 = true
      · rw [if_pos c]
        refine ⟨false, T.exm_PowerCut_InvalidPage, (fun z => nomatch z), fun _ => ⟨false, T.exm_PowerCut_InvalidText, (fun z => nomatch z), fun _ => ⟨true, T.exm_PowerCut_PowerCut, fun _ y hy => ?_, fun z => nomatch z⟩⟩⟩
        refine suite_err0 rfl T.ec_PowerCut.1 T.ec_PowerCut.2 fun r H3 nr s3 h3 => ?_
        exact kk r H3 (freeM b1 hm nr) (Buts.same b1 s3) (D1.same s3) (by rw [if_pos c]; exact h3)
      · rw [if_neg c]
        walk_at "go"
        refine i_lstN (by show 2 ≤ sizeLine; decide) fun r H3 nr s3 h3 => ?_
        exact kk r H3 (freeM b1 hm nr) (Buts.same b1 s3) (D1.same s3) (by rw [if_neg c]; exact h3)
  · walk_at "go"
    refine i_meR D.d df_no_write ?_
    walk_at "go"
    refine ⟨d, dx, l, pg, wd, lf, ts, rfl, D, kp, kt, fun e => ?_, fun e e2 => ?_, fun i z e1 hi e2 e3 H1 b1 D1 => ?_⟩
    · intro e0 H2 n2 s2 he
      refine ⟨true, T.exm_InvalidPage_InvalidPage, fun _ y hy => ?_, fun z => nomatch z⟩
      refine suite_err rfl he T.ec_InvalidPage.1 T.ec_InvalidPage.2 fun r H3 nr s3 h3 => ?_
      exact eG e r H3 (s2.free nr) (s2.trans s3) h3
    · intro e0 H2 n2 s2 he
      refine ⟨false, T.exm_InvalidText_InvalidPage, (fun z => nomatch z), fun _ => ⟨true, T.exm_InvalidText_InvalidText, fun _ y hy => ?_, fun z => nomatch z⟩⟩
      refine suite_err rfl he T.ec_InvalidText.1 T.ec_InvalidText.2 fun r H3 nr s3 h3 => ?_
      exact eT e e2 r H3 (s2.free nr) (s2.trans s3) h3
    · have kk := k i z e1 hi e2 e3
      have hm : ∀ x, (x = d ∨ x = l) → ∃ o, H1 x = some o := fun x hx => by
        rcases hx with rfl | rfl
        · exact ⟨_, D1.d⟩
        · exact ⟨_, D1.l⟩
      by_cases c : (wr ts lf i z).2.2 = true
      · rw [if_pos c]
        refine ⟨false, T.exm_PowerCut_InvalidPage, (fun z => nomatch z), fun _ => ⟨false, T.exm_PowerCut_InvalidText, (fun z => nomatch z), fun _ => ⟨true, T.exm_PowerCut_PowerCut, fun _ y hy => ?_, fun z => nomatch z⟩⟩⟩
        refine suite_err0 rfl T.ec_PowerCut.1 T.ec_PowerCut.2 fun r H3 nr s3 h3 => ?_
        exact kk r H3 (freeM b1 hm nr) (Buts.same b1 s3) (D1.same s3) (by rw [if_pos c]; exact h3)
      · rw [if_neg c]
        walk_at "go"
        refine i_lstN (by show 2 ≤ sizeLine; decide) fun r H3 nr s3 h3 => ?_
        exact kk r H3 (freeM b1 hm nr) (Buts.same b1 s3) (D1.same s3) (by rw [if_neg c]; exact h3)
theorem o_law_read (T : Txt K mg a) (g_Disk_text : G_Disk_text P w K mg base a) (g_Disk_text_page : G_Disk_text_page P w K mg base a) : O_law_read P w K mg base a := by
  refine OkF.mk sc_law_read sp3_len (fun f cdv A outer s H vs Q E hr h => ⟨t_law_read K a E, d_law_read T g_Disk_text g_Disk_text_page hr, ?_⟩)
  obtain ⟨_, page, _, rfl, b, d, dx, l, pg, wd, lf, ts, rfl, rfl, D, kp, bad, k⟩ := h
  have good : ∀ {R : Prop} (i : Nat) (t : Str), page = .int i → ts[i]? = some t → R := fun i t e ht => by
    have hi := (List.getElem?_eq_some_iff.mp ht).1
    have hn := D.n
    rw [e] at bad
    have z : (decide ((0 : Int) ≤ i) && decide ((i : Int) < pg)) = false := bad
    rw [decide_eq_true (by omega), decide_eq_true (by omega)] at z
    cases z
  unfold t_law_read
  dsimp only
  walk_at "go"
  refine ifB (fun _ => ?_) (fun _ => ?_)
  · walk_at "go"
    refine i_meR D.d df_no_text ?_
    walk_at "go"
    refine ⟨rfl, ?_⟩
    refine ⟨_, _, rfl, d, dx, l, pg, wd, lf, ts, rfl, D, kp, fun e => ?_, fun i t e1 ht => good i t e1 ht⟩
    intro e0 H2 n2 s2 he
    refine ⟨true, T.exm_InvalidPage_InvalidPage, fun _ y hy => ?_, fun z => nomatch z⟩
    refine suite_err rfl he T.ec_InvalidPage.1 T.ec_InvalidPage.2 fun r H3 nr s3 h3 => ?_
    exact k r H3 (s2.free nr) (s2.trans s3) h3
  · walk_at "go"
    refine i_meR D.d df_no_text ?_
    walk_at "go"
    refine ⟨d, dx, l, pg, wd, lf, ts, rfl, D, kp, fun e => ?_, fun i t e1 ht => good i t e1 ht⟩
    intro e0 H2 n2 s2 he
    refine ⟨true, T.exm_InvalidPage_InvalidPage, fun _ y hy => ?_, fun z => nomatch z⟩
    refine suite_err rfl he T.ec_InvalidPage.1 T.ec_InvalidPage.2 fun r H3 nr s3 h3 => ?_
    exact k r H3 (s2.free nr) (s2.trans s3) h3
theorem o_law_limit (T : Txt K mg a) (g_Disk_limit : G_Disk_limit P w K mg base a) (g_Disk_limit_count : G_Disk_limit_count P w K mg base a) : O_law_limit P w K mg base a := by
  refine OkF.mk sc_law_limit sp3_len (fun f cdv A outer s H vs Q E hr h => ⟨t_law_limit K a E, d_law_limit T g_Disk_limit g_Disk_limit_count hr, ?_⟩)
  obtain ⟨_, c, _, rfl, b, d, dx, l, pg, wd, lf, ts, rfl, rfl, D, kc, eC, k⟩ := h
  have fr : ∀ {H1 : Hp} {r : Addr}, But d H H1 → (∃ o, H1 d = some o) → H1 r = none → H r = none := fun {H1 r} b1 h n => by
    refine freeM (M := fun x => x = d) b1 (fun x hx => by rw [hx]; exact h) n
  unfold t_law_limit
  dsimp only
  walk_at "go"
  refine ifB (fun _ => ?_) (fun _ => ?_)
  · walk_at "go"
    refine i_meR D.d df_no_limit ?_
    walk_at "go"
    refine ⟨rfl, ?_⟩
    refine ⟨_, _, rfl, d, dx, l, pg, wd, lf, ts, rfl, D, kc, fun e => ?_, fun e H1 b1 D1 => ?_⟩
    · intro e0 H2 n2 s2 he
      refine ⟨true, T.exm_InvalidCount_InvalidCount, fun _ y hy => ?_, fun z => nomatch z⟩
      refine suite_err rfl he T.ec_InvalidCount.1 T.ec_InvalidCount.2 fun r H3 nr s3 h3 => ?_
      exact eC e r H3 (s2.free nr) (s2.trans s3) h3
    · walk_at "go"
      refine i_lstN (by show 2 ≤ sizeLine; decide) fun r H3 nr s3 h3 => ?_
      exact k e r H3 (fr b1 ⟨_, D1.d⟩ nr) (But.same b1 s3) (D1.same s3) h3
  · walk_at "go"
    refine i_meR D.d df_no_limit ?_
    walk_at "go"
    refine ⟨d, dx, l, pg, wd, lf, ts, rfl, D, kc, fun e => ?_, fun e H1 b1 D1 => ?_⟩
    · intro e0 H2 n2 s2 he
      refine ⟨true, T.exm_InvalidCount_InvalidCount, fun _ y hy => ?_, fun z => nomatch z⟩
      refine suite_err rfl he T.ec_InvalidCount.1 T.ec_InvalidCount.2 fun r H3 nr s3 h3 => ?_
      exact eC e r H3 (s2.free nr) (s2.trans s3) h3
    · walk_at "go"
      refine i_lstN (by show 2 ≤ sizeLine; decide) fun r H3 nr s3 h3 => ?_
      exact k e r H3 (fr b1 ⟨_, D1.d⟩ nr) (But.same b1 s3) (D1.same s3) h3
/-! ### a disk and its state -/
theorem Pr.keep {H H' : Hp} {d l s tl : Addr} {pg wd : Int} {lf : V} {ts : List Str} (R : Pr a H d l s tl pg wd lf ts) (k : ∀ b o, PF d l s tl b → H b = some o → H' b = some o) : Pr a H' d l s tl pg wd lf ts := by
  obtain ⟨⟨dx, D⟩, st, sl, nl, n1, n2⟩ := R
  exact ⟨⟨dx, k _ _ (.inl rfl) D.d, k _ _ (.inr (.inl rfl)) D.l, D.n, D.p2, D.p60, D.w20, D.w400, D.lo, D.g⟩, k _ _ (.inr (.inr (.inl rfl))) st, k _ _ (.inr (.inr (.inr rfl))) sl, nl, n1, n2⟩
theorem Pr.same {H H' : Hp} {d l s tl : Addr} {pg wd : Int} {lf : V} {ts : List Str} (R : Pr a H d l s tl pg wd lf ts) (m : Same H H') : Pr a H' d l s tl pg wd lf ts := R.keep fun b o _ h => m b o h
theorem Pr.but {H H' : Hp} {p d l s tl : Addr} {pg wd : Int} {lf : V} {ts : List Str} (R : Pr a H d l s tl pg wd lf ts) (b : But p H H') (n : ¬ PF d l s tl p) : Pr a H' d l s tl pg wd lf ts := R.keep fun c o m h => b c o (fun e => n (e ▸ m)) h
theorem Pr.here {H : Hp} {d l s tl : Addr} {pg wd : Int} {lf : V} {ts : List Str} (R : Pr a H d l s tl pg wd lf ts) : ∀ b, PF d l s tl b → ∃ o, H b = some o := by
  obtain ⟨⟨dx, D⟩, st, sl, nl, n1, n2⟩ := R
  rintro b (rfl | rfl | rfl | rfl)
  · exact ⟨_, D.d⟩
  · exact ⟨_, D.l⟩
  · exact ⟨_, st⟩
  · exact ⟨_, sl⟩
theorem strs_sim {H : Hp} {p q : Addr} {ts : List Str} {n : Nat} (h : H p = some (.lst (ts.map V.str))) (h' : H q = some (.lst (ts.map V.str))) (l : ts.length ≤ 100) (g : ∀ t ∈ ts, t.length ≤ 400) : Sim H (n + 1) (.ref p) (.ref q) := by
  refine .lst h h' rfl (by rw [List.length_map]; exact l) fun i x y hx hy => ?_
  rw [hx] at hy
  cases hy
  rw [List.getElem?_map] at hx
  cases e : ts[i]? with
  | none => rw [e] at hx; cases hx
  | some t =>
    rw [e] at hx
    cases hx
    exact .str (Nat.le_trans (g t (List.mem_of_getElem? e)) (by decide))
theorem left_sim {H : Hp} {n : Nat} {lf : V} (lo : LeftOk lf) : Sim H n lf lf := by
  rcases lo with rfl | ⟨k, rfl, _⟩
  · exact .non
  · exact .int k
theorem o_law_state_right (T : Txt K mg a) (g_Disk_text : G_Disk_text P w K mg base a) (g_Disk_text_page : G_Disk_text_page P w K mg base a) (g_law_like : G_law_like P w K mg base a) : O_law_state_right P w K mg base a := by
  refine OkF.mk sc_law_state_right sp3_len (fun f cdv A outer s0 H vs Q E hr h => ⟨t_law_state_right K a E, d_law_state_right T g_Disk_text g_Disk_text_page g_law_like hr, ?_⟩)
  obtain ⟨_, _, _, rfl, b, d, l, s, tl, pg, wd, lf, ts, rfl, rfl, rfl, R, k⟩ := h
  obtain ⟨⟨dx, D⟩, st, sl, nl, ns1, ns2⟩ := R
  have hn := D.n
  have h2 := D.p2
  have h60 := D.p60
  unfold t_law_state_right
  walk_at "go"
  refine i_isi (.own a.disk) (.base (.ins D.d T.cl_Disk T.in_Disk.1 T.in_Disk.2.1 T.in_Disk.2.2.1 T.in_Disk.2.2.2.1)) T.in_Disk.2.2.2.2 ?_
  walk_at "go"
  refine ifF rfl ?_
  walk_at "go"
  refine i_fldR D.d T.cl_Disk T.na_Disk_pages df_pages ?_
  walk_at "go"
  refine i_fldR D.d T.cl_Disk T.na_Disk_width df_width ?_
  walk_at "go"
  refine i_fldR D.d T.cl_Disk T.na_Disk_left df_left ?_
  walk_at "go"
  refine i_lstN (by show 3 ≤ sizeLine; decide) fun p1 H1 m1 s1 h1 => ?_
  walk_at "go"
  refine i_ixL (v := .int pg) (s1 _ _ st) rfl ?_
  walk_at "go"
  refine i_ixL (v := .int wd) (s1 _ _ st) rfl ?_
  walk_at "go"
  refine i_ixL (v := lf) (s1 _ _ st) rfl ?_
  walk_at "go"
  refine i_lstN (by show 3 ≤ sizeLine; decide) fun p2 H2 m2 s2 hh2 => ?_
  walk_at "go"
  refine ⟨.lst (s2 _ _ h1) hh2 rfl (by show 3 ≤ 100; decide) fun i x y hx hy => ?_, fun H3 s3 => ?_⟩
  · rw [hx] at hy
    cases hy
    have hm := List.mem_of_getElem? hx
    simp only [List.mem_cons, List.not_mem_nil, or_false] at hm
    rcases hm with rfl | rfl | rfl
    · exact .int _
    · exact .int _
    · exact left_sim D.lo
  walk_at "go"
  refine ifF rfl ?_
  walk_at "go"
  have ss := (s1.trans s2).trans s3
  refine i_ixL (v := .int pg) (ss _ _ st) rfl ?_
  walk_at "go"
  refine ⟨_, rfl, by omega, by omega, ?_⟩
  refine i_lcR (fun D' i acc H' => Same H3 H' ∧ acc = (ts.take i).map V.str) (fun D' H' _ sm _ => ⟨sm, by rw [List.take_zero]; rfl⟩) ?_ ?_
  · rintro D' i acc H4 hD hi hl1 h4 ⟨s4, rfl⟩
    have hi' : i < ts.length := by omega
    obtain ⟨t, ht⟩ : ∃ t, ts[i]? = some t := ⟨_, List.getElem?_eq_getElem hi'⟩
    have D4 := D.same (ss.trans s4)
    have fin : LcY (fun D' i acc H' => Same H3 H' ∧ acc = (ts.take i).map V.str) D' i (.str t) H4 := by
      refine lc_done h4 hl1 (by have : sizeLine = 16777216 := by decide
                                omega) fun H5 b5 h5 => ⟨Same.but s4 hD b5, ?_⟩
      rw [List.take_add_one, ht, List.map_append]
      rfl
    have eb : ∀ {R : Prop}, idx (.int (0 + (i : Int))) pg = false → R := fun e => by
      have z : (decide ((0 : Int) ≤ 0 + i) && decide (0 + (i : Int) < pg)) = false := e
      rw [decide_eq_true (by omega), decide_eq_true (by omega)] at z
      cases z
    have ek : ∀ (i' : Nat) t', V.int (0 + (i : Int)) = .int i' → ts[i']? = some t' → t' = t := fun i' t' e1 e2 => by
      have e3 : 0 + (i : Int) = i' := V.int.inj e1
      have e4 : i' = i := by omega
      rw [e4, ht] at e2
      exact (Option.some.inj e2).symm
    walk_at "go"
    refine ⟨rfl, ?_⟩
    walk_at "go"
    refine ifB (fun _ => ?_) (fun _ => ?_)
    · walk_at "go"
      refine i_meR D4.d df_no_text ?_
      walk_at "go"
      refine ⟨rfl, ?_⟩
      refine ⟨_, _, rfl, d, dx, l, pg, wd, lf, ts, rfl, D4, .int _, fun e => eb e, fun i' t' e1 e2 => ?_⟩
      rw [ek i' t' e1 e2]
      exact fin
    · walk_at "go"
      refine i_meR D4.d df_no_text ?_
      walk_at "go"
      refine ⟨d, dx, l, pg, wd, lf, ts, rfl, D4, .int _, fun e => eb e, fun i' t' e1 e2 => ?_⟩
      rw [ek i' t' e1 e2]
      exact fin
  · rintro D' acc H4 hD h4 ⟨s4, rfl⟩
    walk_at "go"
    have s5 := ss.trans s4
    refine i_ixL (v := .ref tl) (s5 _ _ st) rfl ?_
    walk_at "go"
    have e : ts.take pg.toNat = ts := List.take_of_length_le (by omega)
    rw [e] at h4
    exact ⟨strs_sim h4 (s5 _ _ sl) (by omega) D.g, fun H6 s6 => k _ (s5.trans s6)⟩
theorem told_sim {H : Hp} {p q : Addr} (h : H p = some (.lst [.str "told", .non])) (h' : H q = some (.lst [.str "told", .non])) : Sim H 2 (.ref p) (.ref q) := by
  refine .lst h h' rfl (by show 2 ≤ 100; decide) fun i x y hx hy => ?_
  rw [hx] at hy
  cases hy
  have hm := List.mem_of_getElem? hx
  simp only [List.mem_cons, List.not_mem_nil, or_false] at hm
  rcases hm with rfl | rfl
  · exact .str (by decide +kernel)
  · exact .non
theorem cut_sim {H : Hp} {p q : Addr} (h : H p = some (.lst [.str "cut", .bl true])) (h' : H q = some (.lst [.str "cut", .bl true])) : Sim H 2 (.ref p) (.ref q) := by
  refine .lst h h' rfl (by show 2 ≤ 100; decide) fun i x y hx hy => ?_
  rw [hx] at hy
  cases hy
  have hm := List.mem_of_getElem? hx
  simp only [List.mem_cons, List.not_mem_nil, or_false] at hm
  rcases hm with rfl | rfl
  · exact .str (by decide +kernel)
  · exact .bl true
theorem o_law_limit_right (T : Txt K mg a) (g_law_like : G_law_like P w K mg base a) (g_law_limit : G_law_limit P w K mg base a) : O_law_limit_right P w K mg base a := by
  refine OkF.mk sc_law_limit_right sp4_len (fun f cdv A outer s0 H vs Q E hr h => ⟨t_law_limit_right K a E, d_law_limit_right T g_law_like g_law_limit hr, ?_⟩)
  obtain ⟨_, _, c, _, rfl, b, d, l, s, tl, pg, wd, lf, ts, rfl, rfl, rfl, lo, R, k⟩ := h
  obtain ⟨⟨dx, D⟩, st, sl, nl, ns1, ns2⟩ := R
  have nds : d ≠ s := apart D.d st (by intro q; cases q)
  have ndt : d ≠ tl := apart D.d sl (by intro q; cases q)
  unfold t_law_limit_right
  walk_at "go"
  refine i_setL st rfl fun H1 b1 h1 => ?_
  have D1 : DiskAt a H1 d dx l pg wd lf ts := D.but b1 nds ns1.symm
  have sl1 := b1 _ _ ns2.symm sl
  walk_at "go"
  have kc : Kn H1 c := by
    rcases lo with rfl | ⟨m, rfl, _⟩
    · exact .non
    · exact .int m
  have ck : cntOk c = true := by
    rcases lo with rfl | ⟨m, rfl, h0⟩
    · rfl
    · exact decide_eq_true h0
  refine ⟨b, d, dx, l, pg, wd, lf, ts, rfl, rfl, D1, kc, (fun e => by rw [ck] at e; cases e), fun _ r H2 nr b2 D2 h2 => ?_⟩
  walk_at "go"
  refine i_lstN (by show 2 ≤ sizeLine; decide) fun q H3 nq s3 h3 => ?_
  walk_at "go"
  refine ⟨told_sim (s3 _ _ h2) h3, fun H4 s4 => ?_⟩
  have s34 := s3.trans s4
  refine k H4 (fun x o n hx => s34 _ _ (b2 _ _ (fun e => n (.inl e)) (b1 _ _ (fun e => n (.inr (.inr (.inl e)))) hx))) ⟨⟨dx, D2.same s34⟩, s34 _ _ (b2 _ _ nds.symm h1), s34 _ _ (b2 _ _ ndt.symm sl1), nl, ns1, ns2⟩
theorem o_law_write_right (T : Txt K mg a) (g_law_like : G_law_like P w K mg base a) (g_law_write : G_law_write P w K mg base a) : O_law_write_right P w K mg base a := by
  refine OkF.mk sc_law_write_right sp5_len (fun f cdv A outer s0 H vs Q E hr h => ⟨t_law_write_right K a E, d_law_write_right T g_law_like g_law_write hr, ?_⟩)
  obtain ⟨_, _, _, _, _, rfl, b, d, l, s, tl, pg, wd, lf, ts, i, z, rfl, rfl, rfl, rfl, hi, rfl, hz, R, k⟩ := h
  obtain ⟨⟨dx, D⟩, st, sl, nl, ns1, ns2⟩ := R
  have nds : d ≠ s := apart D.d st (by intro q; cases q)
  have ndt : d ≠ tl := apart D.d sl (by intro q; cases q)
  have hn := D.n
  have w400 := D.w400
  obtain ⟨hz4, gz⟩ := pageT_len hz
  have z4 : z.length ≤ 400 := by omega
  have hix : ixN (ts.map V.str).length (i : Int) = some i := ixN_nat (by rw [List.length_map]; exact hi)
  have pi : idx (.int (i : Int)) pg = true := by
    show (decide ((0 : Int) ≤ i) && decide ((i : Int) < pg)) = true
    rw [decide_eq_true (by omega), decide_eq_true (by omega)]; rfl
  -- behind the state's own change
  have fin : ∀ (c : Bool) (lf' : V) (ts' : List Str) (H2 : Hp), wr ts lf i z = (ts', lf', c) → But tl H H2 ∨ True → (∀ x o, x ≠ tl → x ≠ s → H x = some o → H2 x = some o) → H2 s = some (.lst [.int pg, .int wd, .ref tl, lf']) → H2 tl = some (.lst (ts'.map V.str)) →
      (tRet (tCl sp_law_like E0s (tCons (tCl (sp_law_write a) E0s (tCons (tVar 0) (tCons (tVar 2) (tCons (tVar 3) (tCons (tVar 4) tNil))))) (tCons (tIf (tB (tVar 6)) (tLstG (tCons (tC (.str "cut")) (tCons (tC (.bl true)) tNil))) (tLstG (tCons (tC (.str "told")) (tCons (tC .non) tNil)))) tNil))))
        { nx := fun _ H' => Q .non H', rt := Q } [some (.ref d), some (.ref s), some (.int i), some (.str z), some (.bl b), some (.ref tl), some (.bl c)] H2 := by
    intro c lf' ts' H2 ew _ b2 hs2 ht2
    have D2 : DiskAt a H2 d dx l pg wd lf ts := ⟨b2 _ _ ndt nds D.d, b2 _ _ nl ns1.symm D.l, D.n, D.p2, D.p60, D.w20, D.w400, D.lo, D.g⟩
    walk_at "go"
    refine ⟨b, d, dx, l, pg, wd, lf, ts, rfl, rfl, D2, .int _, .str (Nat.le_trans z4 (by decide)), (fun e => by rw [pi] at e; cases e), (fun _ e => by rw [hz] at e; cases e), fun i' z' e1 h1 e2 _ r H3 nr b3 D3 h3 => ?_⟩
    have ei : i' = i := by
      have := V.int.inj e1
      omega
    have ez : z' = z := (V.str.inj e2).symm
    subst ei ez
    rw [ew] at D3 h3
    have hs3 := b3 _ _ (fun h => h.elim (fun h => nds h.symm) (fun h => ns1 h)) hs2
    have ht3 := b3 _ _ (fun h => h.elim (fun h => ndt h.symm) (fun h => nl h.symm)) ht2
    have done : ∀ H5, Same H3 H5 → Q (.bl true) H5 := fun H5 s5 => by
      refine k lf' ts' H5 (fun x o n hx => s5 _ _ (b3 _ _ (fun h => n (h.elim .inl (fun h => .inr (.inl h)))) (b2 _ _ (fun e => n (.inr (.inr (.inr e)))) (fun e => n (.inr (.inr (.inl e)))) hx))) ⟨⟨dx, D3.same s5⟩, s5 _ _ hs3, s5 _ _ ht3, nl, ns1, ns2⟩
    walk_at "go"
    cases c with
    | true =>
      walk_at "go"
      refine i_lstN (by show 2 ≤ sizeLine; decide) fun q H4 nq s4 h4 => ?_
      walk_at "go"
      exact ⟨cut_sim (s4 _ _ h3) h4, fun H5 s5 => done H5 (s4.trans s5)⟩
    | false =>
      walk_at "go"
      refine i_lstN (by show 2 ≤ sizeLine; decide) fun q H4 nq s4 h4 => ?_
      walk_at "go"
      exact ⟨told_sim (s4 _ _ h3) h4, fun H5 s5 => done H5 (s4.trans s5)⟩
  unfold t_law_write_right
  walk_at "go"
  refine i_ixL (v := .ref tl) st rfl ?_
  walk_at "go"
  refine i_ixL (v := lf) st rfl ?_
  walk_at "go"
  -- no cut: the text, then what is left
  have more : ∀ lf', wr ts lf i z = (ts.set i z, lf', false) → ∀ H1 H2, But tl H H1 → H1 tl = some (.lst ((ts.set i z).map V.str)) → But s H1 H2 → H2 s = some (.lst [.int pg, .int wd, .ref tl, lf']) → _ := fun lf' ew H1 H2 b1 h1 b2 h2 => fin false lf' _ H2 ew (.inr trivial) (fun x o n1 n2 hx => b2 _ _ n2 (b1 _ _ n1 hx)) h2 (b2 _ _ ns2.symm h1)
  rcases D.lo with rfl | ⟨m, rfl, hm⟩
  · refine ifF (by decide) ?_
    walk_at "go"
    refine i_setL sl hix fun H1 b1 h1 => ?_
    rw [map_set] at h1
    have st1 := b1 _ _ ns2 st
    walk_at "go"
    refine i_ixL (v := .non) st1 rfl ?_
    walk_at "go"
    refine ifT (by decide) ?_
    walk_at "go"
    refine i_setL st1 rfl fun H2 b2 h2 => ?_
    exact more .non wr_none H1 H2 b1 h1 b2 h2
  · have en : decide (V.int m = V.non) = false := decide_eq_false (fun q => nomatch q)
    refine ifT (by rw [en]; rfl) ?_
    walk_at "go"
    refine i_ixL (v := .int m) st rfl ?_
    walk_at "go"
    refine i_lenS (s400 z4) ?_
    walk_at "go"
    refine ifB (fun c => ?_) (fun c => ?_)
    · have c' : ¬ (z.length : Int) < m := by have := of_decide_eq_true c; omega
      walk_at "go"
      obtain ⟨t, ht⟩ : ∃ t, ts[i]? = some t := ⟨_, List.getElem?_eq_getElem hi⟩
      have t4 : t.length ≤ 400 := D.g t (List.mem_of_getElem? ht)
      refine i_ixL (v := .int m) st rfl ?_
      walk_at "go"
      refine i_slS (s400 z4) ?_
      walk_at "go"
      refine i_ixL (v := .str t) sl (atI_nat (by rw [List.getElem?_map, ht]; rfl)) ?_
      walk_at "go"
      refine i_ixL (v := .int m) st rfl ?_
      walk_at "go"
      refine i_slS (s400 t4) ?_
      walk_at "go"
      refine i_addS (Nat.le_trans (cutS_sum hm 400 z4 t4) (by decide)) ?_
      walk_at "go"
      refine i_setL sl hix fun H1 b1 h1 => ?_
      rw [map_set] at h1
      have st1 := b1 _ _ ns2 st
      walk_at "go"
      refine i_setL st1 rfl fun H2 b2 h2 => ?_
      have et : ts.getD i Str.empty = t := by rw [List.getD_eq_getElem?_getD, ht]; rfl
      have ew := wr_cut (ts := ts) (p := i) c'
      rw [et] at ew
      rw [c]
      exact fin true _ _ H2 ew (.inr trivial) (fun x o n1 n2 hx => b2 _ _ n2 (b1 _ _ n1 hx)) h2 (b2 _ _ ns2.symm h1)
    · have c' : (z.length : Int) < m := by have := of_decide_eq_false c; omega
      walk_at "go"
      refine i_setL sl hix fun H1 b1 h1 => ?_
      rw [map_set] at h1
      have st1 := b1 _ _ ns2 st
      walk_at "go"
      refine i_ixL (v := .int m) st1 rfl ?_
      walk_at "go"
      refine ifF en ?_
      walk_at "go"
      refine i_ixL (v := .int m) st1 rfl ?_
      walk_at "go"
      refine i_lenS (s400 z4) ?_
      walk_at "go"
      refine i_setL st1 rfl fun H2 b2 h2 => ?_
      rw [c]
      exact more _ (wr_more c') H1 H2 b1 h1 b2 h2
theorem Dat.but0 {H H' : Hp} {p : Addr} {v : V} (h : Dat H 0 v) {xs : List V} (hp : H p = some (.lst xs)) (b : But p H H') : Dat H' 0 v := by
  cases h with
  | non => exact .non
  | bl x => exact .bl x
  | int i => exact .int i
  | str l => exact .str l
  | @dic _ r h' => exact .dic (b _ _ (apart h' hp (by intro q; cases q)) h')
theorem Dat.but1 {H H' : Hp} {p : Addr} {n : Nat} {v : V} (h : Dat H 1 v) (B : Box H p n) (nv : v ≠ .ref p) (b : But p H H') : Dat H' 1 v := by
  obtain ⟨_, _, _, _, hp, _⟩ := B
  cases h with
  | non => exact .non
  | bl x => exact .bl x
  | int i => exact .int i
  | str l => exact .str l
  | @lst _ r xs h' l k => exact .lst (b _ _ (fun e => nv (by rw [e])) h') l fun x hx => (k x hx).but0 hp b
  | @tup _ r xs h' l k => exact .tup (b _ _ (fun e => nv (by rw [e])) h') l fun x hx => (k x hx).but0 hp b
  | @dic _ r h' => exact .dic (b _ _ (fun e => nv (by rw [e])) h')
theorem NewV.ne {H : Hp} {p : Addr} {n : Nat} {v : V} (nv : NewV H v) (B : Box H p n) : v ≠ .ref p := fun e => by
  obtain ⟨_, _, _, _, hp, _⟩ := B
  have z := nv p e
  rw [hp] at z; cases z
/-- behind law_given: its value may have grown -/
theorem gave {H H5 H6 : Hp} {p : Addr} {v : V} {n m : Nat} (B : Box H p n) (b : But p H H5) (nv : NewV H v) (b6 : Buts (fun x => v = .ref x) H5 H6) (B5 : Box H5 p m) : But p H H6 ∧ Box H6 p m := by
  refine ⟨fun x o nx hx => b6 x o (fun e => ?_) (b x o nx hx), ?_⟩
  · have z := nv x e
    rw [hx] at z; cases z
  · obtain ⟨g, c, k, t, hp, r⟩ := B5
    exact ⟨g, c, k, t, b6 _ _ (nv.ne B) hp, r⟩
theorem pageT_mk {z : Str} {n : Int} (l : (z.length : Int) ≤ n) (g : Good z) : pageT (.str z) n = true := by
  show (decide ((z.length : Int) ≤ n) && z.cps.toList.all goodC) = true
  rw [decide_eq_true l]
  exact g
theorem toN {r : Int} (h : 0 ≤ r) : V.int r = V.int (r.toNat : Int) := by rw [Int.toNat_of_nonneg h]
theorem idx_ok {r m : Int} (h0 : 0 ≤ r) (h1 : r < m) : idx (.int r) m = true := by
  show (decide (0 ≤ r) && decide (r < m)) = true
  rw [decide_eq_true h0, decide_eq_true h1]; rfl
/-- a step within a pair's deed: what may have changed, the box, the pair -/
structure Ok (a : Ad) (H H' : Hp) (p d l s tl : Addr) (pg wd : Int) (n : Nat) (lf : V) (ts : List Str) : Prop where
  fr : Buts (fun x => x = p ∨ PF d l s tl x) H H'
  bx : Box H' p n
  pr : Pr a H' d l s tl pg wd lf ts
  ap : ¬ PF d l s tl p
section
variable {H H' H2 : Hp} {p d l s tl : Addr} {pg wd : Int} {n m : Nat} {lf lf' : V} {ts ts' : List Str}
theorem Ok.start (B : Box H p n) (R : Pr a H d l s tl pg wd lf ts) (h : ¬ PF d l s tl p) : Ok a H H p d l s tl pg wd n lf ts := ⟨fun _ _ _ h => h, B, R, h⟩
theorem Ok.but (O : Ok a H H' p d l s tl pg wd n lf ts) (b : But p H' H2) (B : Box H2 p m) : Ok a H H2 p d l s tl pg wd m lf ts := ⟨O.fr.trans (b.buts (.inl rfl)), B, O.pr.but b O.ap, O.ap⟩
theorem Box.putB (B : Box H p n) {M : Addr → Prop} (b : Buts M H H') (h : ¬ M p) : Box H' p n := by
  obtain ⟨g, c, k, t, hp, r⟩ := B
  exact ⟨g, c, k, t, b _ _ h hp, r⟩
theorem Ok.put (O : Ok a H H' p d l s tl pg wd n lf ts) (b : Buts (PF d l s tl) H' H2) (R : Pr a H2 d l s tl pg wd lf' ts') : Ok a H H2 p d l s tl pg wd n lf' ts' := ⟨O.fr.trans (b.imp fun _ h => .inr h), O.bx.putB b O.ap, R, O.ap⟩
theorem Ok.all (O : Ok a H H' p d l s tl pg wd n lf ts) (b : Buts (fun x => x = p ∨ PF d l s tl x) H' H2) (B : Box H2 p m) (R : Pr a H2 d l s tl pg wd lf' ts') : Ok a H H2 p d l s tl pg wd m lf' ts' := ⟨O.fr.trans b, B, R, O.ap⟩
theorem Ok.same (O : Ok a H H' p d l s tl pg wd n lf ts) (b : Same H' H2) : Ok a H H2 p d l s tl pg wd n lf ts := ⟨O.fr.same b, O.bx.same b, O.pr.same b, O.ap⟩
theorem Ok.mono (O : Ok a H H' p d l s tl pg wd n lf ts) (h : n ≤ m) : Ok a H H' p d l s tl pg wd m lf ts := ⟨O.fr, O.bx.mono h, O.pr, O.ap⟩
theorem Ok.st (O : Ok a H H' p d l s tl pg wd n lf ts) : H' s = some (.lst [.int pg, .int wd, .ref tl, lf]) := O.pr.st
theorem Ok.len (O : Ok a H H' p d l s tl pg wd n lf ts) : (ts.length : Int) = pg := by obtain ⟨dx, D⟩ := O.pr.dk; exact D.n
end
theorem o_law_wrong_right (T : Txt K mg a) (g_law_take : G_law_take P w K mg base a) (g_law_good : G_law_good P w K mg base a) (g_law_bad_text : G_law_bad_text P w K mg base a) (g_law_bad_page : G_law_bad_page P w K mg base a) (g_law_given : G_law_given P w K mg base a) (g_law_write : G_law_write P w K mg base a) (g_law_read : G_law_read P w K mg base a) (g_law_limit : G_law_limit P w K mg base a) : O_law_wrong_right P w K mg base a := by
  refine OkF.mk sc_law_wrong_right sp4_len (fun f cdv A outer s0 H vs Q E hr h => ⟨t_law_wrong_right K a E, d_law_wrong_right T g_law_take g_law_good g_law_bad_text g_law_bad_page g_law_given g_law_write g_law_read g_law_limit hr, ?_⟩)
  obtain ⟨_, _, _, _, rfl, p, n, b, d, l, s, tl, pg, wd, lf, ts, rfl, rfl, rfl, rfl, B, hn, R, ap, k⟩ := h
  obtain ⟨⟨dx, D⟩, st, sl, nl, ns1, ns2⟩ := id R
  have e2 := D.p2
  have e60 := D.p60
  have w20 := D.w20
  have w400 := D.w400
  have np : s ≠ p := fun e => ap (.inr (.inr (.inl e.symm)))
  have ndp : d ≠ p := fun e => ap (.inl e.symm)
  have nlp : l ≠ p := fun e => ap (.inr (.inl e.symm))
  unfold t_law_wrong_right
  walk_at "go"
  refine ⟨p, 5, n, rfl, rfl, by decide, by decide, B, by omega, fun way H1 r0 r1 b1 B1 => ?_⟩
  walk_at "go"
  refine i_ixL (v := .int pg) (b1 _ _ np st) rfl ?_
  walk_at "go"
  refine ⟨p, pg, n + 1, rfl, rfl, e2, e60, B1, by omega, fun v H2 b2 B2 dv nv bad => ?_⟩
  walk_at "go"
  have b12 := But.trans b1 b2
  have nvp : v ≠ .ref p := nv.ne B1
  have st2 := b12 _ _ np st
  -- the value that is given back
  have fin : ∀ (u : V) (H3 H4 H5 : Hp) (m : Nat) {z : Str} {r : Addr}, But p H H3 → Box H3 p n ∨ Box H3 p (n + 1) ∨ Box H3 p (n + 11) → NewV H3 u → But p H3 H4 → Box H4 p m → m ≤ n + 500 → Same H4 H5 → ∀ H6, Buts (fun b => u = .ref b) H5 H6 → Q (.bl true) H6 := fun u H3 H4 H5 m z r b3 B3 nu b4 B4 hm s5 H6 b6 => by
    have B3' : Box H3 p (n + 11) := by
      rcases B3 with h | h | h
      · exact h.mono (by omega)
      · exact h.mono (by omega)
      · exact h
    have g := gave B3' (But.same b4 s5) nu b6 (B4.same s5)
    exact k H6 (But.trans b3 g.1) (g.2.mono hm)
  refine ifB (fun c0 => ?_) (fun c0 => ?_)
  · walk_at "go"
    refine i_ixL (v := .int wd) st2 rfl ?_
    walk_at "go"
    refine ⟨p, wd, n + 1 + 10, rfl, rfl, w20, w400, B2, by omega, fun u H3 b3 B3 du nu badu => ?_⟩
    walk_at "go"
    have b123 := But.trans b12 b3
    refine i_ixL (v := .int pg) (b123 _ _ np st) rfl ?_
    walk_at "go"
    refine ⟨p, pg, n + 1 + 10 + 200, rfl, rfl, by omega, by omega, B3, by omega, fun r H4 r0 r1 b4 B4 => ?_⟩
    walk_at "go"
    have D4 := D.but (But.trans b123 b4) ndp nlp
    have du4 := du.but1 B3 (nu.ne B2) b4
    refine ⟨b, d, dx, l, pg, wd, lf, ts, rfl, rfl, D4, .int _, du4.kn, (fun e => by rw [idx_ok r0 r1] at e; cases e), (fun _ _ q H5 nq s5 h5 => ?_), fun i z e1 _ e3 e4 => by rw [badu] at e4; cases e4⟩
    walk_at "go"
    refine ⟨q, _, rfl, rfl, by decide +kernel, h5, du4.same s5, fun H6 b6 => ?_⟩
    exact fin u H2 H4 H5 _ (z := "") (r := p) b12 (.inr (.inr B2)) nu (But.trans b3 b4) B4 (by omega) s5 H6 (b6.imp fun _ h => h.1)
  walk_at "go"
  refine ifB (fun c1 => ?_) (fun c1 => ?_)
  · walk_at "go"
    refine i_ixL (v := .int wd) st2 rfl ?_
    walk_at "go"
    refine ⟨p, wd, n + 1 + 10, rfl, rfl, w20, w400, B2, by omega, fun z H3 lz gz b3 B3 => ?_⟩
    walk_at "go"
    have D3 := D.but (But.trans b12 b3) ndp nlp
    have dv3 := dv.but1 B2 nvp b3
    refine ⟨b, d, dx, l, pg, wd, lf, ts, rfl, rfl, D3, dv3.kn, .str (Nat.le_trans (by omega : z.length ≤ 400) (by decide)), (fun _ q H5 nq s5 h5 => ?_), (fun e => by rw [bad] at e; cases e), fun i z e1 hi e3 e4 => ?_⟩
    · walk_at "go"
      refine ⟨q, _, rfl, rfl, by decide +kernel, h5, dv3.same s5, fun H6 b6 => ?_⟩
      exact fin v H1 H3 H5 _ (z := "") (r := p) b1 (.inr (.inl B1)) nv (But.trans b2 b3) B3 (by omega) s5 H6 (b6.imp fun _ h => h.1)
    · have hl := D.n
      rw [e1, idx_ok (by omega) (by omega)] at bad
      cases bad
  walk_at "go"
  refine ifB (fun c2 => ?_) (fun c2 => ?_)
  · walk_at "go"
    refine i_ixL (v := .int wd) st2 rfl ?_
    walk_at "go"
    refine ⟨p, wd, n + 1 + 10, rfl, rfl, w20, w400, B2, by omega, fun u H3 b3 B3 du nu badu => ?_⟩
    walk_at "go"
    have D3 := D.but (But.trans b12 b3) ndp nlp
    have dv3 := dv.but1 B2 nvp b3
    refine ⟨b, d, dx, l, pg, wd, lf, ts, rfl, rfl, D3, dv3.kn, du.kn, (fun _ q H5 nq s5 h5 => ?_), (fun e => by rw [bad] at e; cases e), fun i z e1 hi e3 e4 => ?_⟩
    · walk_at "go"
      refine ⟨q, _, rfl, rfl, by decide +kernel, h5, dv3.same s5, fun H6 b6 => ?_⟩
      exact fin v H1 H3 H5 _ (z := "") (r := p) b1 (.inr (.inl B1)) nv (But.trans b2 b3) B3 (by omega) s5 H6 (b6.imp fun _ h => h.1)
    · have hl := D.n
      rw [e1, idx_ok (by omega) (by omega)] at bad
      cases bad
  walk_at "go"
  refine ifB (fun c3 => ?_) (fun c3 => ?_)
  · walk_at "go"
    have D2 := D.but b12 ndp nlp
    refine ⟨b, d, dx, l, pg, wd, lf, ts, rfl, rfl, D2, dv.kn, bad, (fun q H5 nq s5 h5 => ?_)⟩
    walk_at "go"
    refine ⟨q, _, rfl, rfl, by decide +kernel, h5, dv.same s5, fun H6 b6 => ?_⟩
    exact fin v H1 H2 H5 _ (z := "") (r := p) b1 (.inr (.inl B1)) nv b2 B2 (by omega) s5 H6 (b6.imp fun _ h => h.1)
  walk_at "go"
  refine i_tupN (by show 1 ≤ sizeLine; decide) fun q1 H3 m1 s3 h3 => ?_
  walk_at "go"
  refine i_lstN (by show 1 ≤ sizeLine; decide) fun q2 H4 m2 s4 h4 => ?_
  walk_at "go"
  refine i_dicN fun q3 H5 m3 s5 h5 => ?_
  walk_at "go"
  refine i_powI ⟨by decide, by decide, by decide⟩ ?_
  walk_at "go"
  refine i_lstN (by show 0 ≤ sizeLine; decide) fun q4 H6 m4 s6 h6 => ?_
  walk_at "go"
  refine i_tupN (by show 0 ≤ sizeLine; decide) fun q5 H7 m5 s7 h7 => ?_
  walk_at "go"
  refine i_lstN (by show 12 ≤ sizeLine; decide) fun q6 H8 m6 s8 h8 => ?_
  walk_at "go"
  have t4 := s3.trans s4
  have t5 := t4.trans s5
  have t6 := t5.trans s6
  have t7 := t6.trans s7
  have t8 := t7.trans s8
  have B8 := B2.same t8
  refine ⟨p, 12, n + 1 + 10, rfl, rfl, by decide, by decide, B8, by omega, fun r H9 r0 r1 b9 B9 => ?_⟩
  have n1 : q1 ≠ p := (B2.ne m1).symm
  have n2 : q2 ≠ p := ((B2.same s3).ne m2).symm
  have n3 : q3 ≠ p := ((B2.same t4).ne m3).symm
  have n4 : q4 ≠ p := ((B2.same t5).ne m4).symm
  have n5 : q5 ≠ p := ((B2.same t6).ne m5).symm
  have n6 : q6 ≠ p := ((B2.same t7).ne m6).symm
  have u1 := b9 _ _ n1 (s8 _ _ (s7 _ _ (s6 _ _ (s5 _ _ (s4 _ _ h3)))))
  have u2 := b9 _ _ n2 (s8 _ _ (s7 _ _ (s6 _ _ (s5 _ _ h4))))
  have u3 := b9 _ _ n3 (s8 _ _ (s7 _ _ (s6 _ _ h5)))
  have u4 := b9 _ _ n4 (s8 _ _ (s7 _ _ h6))
  have u5 := b9 _ _ n5 (s8 _ _ h7)
  have u6 := b9 _ _ n6 h8
  have no : ∀ {v : V}, (∀ q, v ≠ .ref q) → NewV H2 v := fun z q e => absurd e (z q)
  walk_at "go"
  obtain ⟨u, hu, du, nu, badu⟩ : ∃ u, atI [V.int (-1), .bl true, .bl false, .str "1", .ref q1, .ref q2, .ref q3, .int (-(10 ^ Int.toNat 39)), .str "", .ref q4, .ref q5, .str "none"] r = some u ∧ Dat H9 1 u ∧ NewV H2 u ∧ cntOk u = false := by
    rcases at12 r0 r1 with rfl | rfl | rfl | rfl | rfl | rfl | rfl | rfl | rfl | rfl | rfl | rfl
    · exact ⟨_, rfl, .int _, no (fun _ z => nomatch z), by decide⟩
    · exact ⟨_, rfl, .bl _, no (fun _ z => nomatch z), rfl⟩
    · exact ⟨_, rfl, .bl _, no (fun _ z => nomatch z), rfl⟩
    · exact ⟨_, rfl, .str (by decide +kernel), no (fun _ z => nomatch z), rfl⟩
    · exact ⟨_, rfl, dat_t1 u1 (.int _), (fun q e => by cases e; exact m1), rfl⟩
    · exact ⟨_, rfl, dat_l1 u2 (.int _), (fun q e => by cases e; exact s3.free m2), rfl⟩
    · exact ⟨_, rfl, .dic u3, (fun q e => by cases e; exact t4.free m3), rfl⟩
    · exact ⟨_, rfl, .int _, no (fun _ z => nomatch z), by decide +kernel⟩
    · exact ⟨_, rfl, .str (by decide +kernel), no (fun _ z => nomatch z), rfl⟩
    · exact ⟨_, rfl, .lst u4 (by show 0 ≤ 90; decide) (fun x hx => nomatch hx), (fun q e => by cases e; exact t5.free m4), rfl⟩
    · exact ⟨_, rfl, .tup u5 (by show 0 ≤ 90; decide) (fun x hx => nomatch hx), (fun q e => by cases e; exact t6.free m5), rfl⟩
    · exact ⟨_, rfl, .str (by decide +kernel), no (fun _ z => nomatch z), rfl⟩
  refine i_ixL (v := u) u6 hu ?_
  walk_at "go"
  have b29 := Same.butR t8 b9
  have D9 := D.but (But.trans b12 b29) ndp nlp
  refine ⟨b, d, dx, l, pg, wd, lf, ts, rfl, rfl, D9, du.kn, (fun _ q H5 nq s5 h5 => ?_), fun e => by rw [badu] at e; cases e⟩
  walk_at "go"
  refine ⟨q, _, rfl, rfl, by decide +kernel, h5, du.same s5, fun H6 b6 => ?_⟩
  exact fin u H2 H9 H5 _ (z := "") (r := p) b12 (.inr (.inr B2)) nu b29 B9 (by omega) s5 H6 (b6.imp fun _ h => h.1)
theorem lens {z : Str} {n : Int} (h : (z.length : Int) = n) (l : n ≤ 400) : z.length ≤ sizeLine := by
  have : sizeLine = 16777216 := by decide
  omega
theorem o_law_cut_right (T : Txt K mg a) (g_law_take : G_law_take P w K mg base a) (g_law_text : G_law_text P w K mg base a) (g_law_good : G_law_good P w K mg base a) (g_law_state_right : G_law_state_right P w K mg base a) (g_law_write_right : G_law_write_right P w K mg base a) (g_law_limit_right : G_law_limit_right P w K mg base a) (g_law_wrong_right : G_law_wrong_right P w K mg base a) : O_law_cut_right P w K mg base a := by
  refine OkF.mk sc_law_cut_right sp4_len (fun f cdv A outer s0 H vs Q E hr h => ⟨t_law_cut_right K a E, d_law_cut_right T g_law_take g_law_text g_law_good g_law_state_right g_law_write_right g_law_limit_right g_law_wrong_right hr, ?_⟩)
  obtain ⟨_, _, _, _, rfl, p, n, b, d, l, s, tl, pg, wd, lf, ts, rfl, rfl, rfl, rfl, B, hn, R, ap, k⟩ := h
  obtain ⟨⟨dx, D⟩, st, sl, nl, ns1, ns2⟩ := id R
  have e2 := D.p2
  have e60 := D.p60
  have w20 := D.w20
  have w400 := D.w400
  have O0 : Ok a H H p d l s tl pg wd n lf ts := Ok.start B R ap
  unfold t_law_cut_right
  walk_at "go"
  refine i_ixL (v := .int pg) st rfl ?_
  walk_at "go"
  refine ⟨p, pg, n, rfl, rfl, by omega, by omega, B, by omega, fun pa H1 p0 p1 b1 B1 => ?_⟩
  have O1 := O0.but b1 B1
  walk_at "go"
  refine ⟨p, 18, _, rfl, rfl, by omega, by omega, O1.bx, by omega, fun r H2 r0 r1 b2 B2 => ?_⟩
  have O2 := O1.but b2 B2
  walk_at "go"
  refine ⟨p, 2 + r, _, rfl, rfl, by omega, by omega, O2.bx, by omega, fun z H3 z0 zg b3 B3 => ?_⟩
  have O3 := O2.but b3 B3
  walk_at "go"
  refine ⟨p, 20, _, rfl, rfl, by omega, by omega, O3.bx, by omega, fun r' H4 q0 q1 b4 B4 => ?_⟩
  have O4 := O3.but b4 B4
  walk_at "go"
  refine ⟨p, r', _, rfl, rfl, by omega, by omega, O4.bx, by omega, fun y H5 y0 yg b5 B5 => ?_⟩
  have O5 := O4.but b5 B5
  walk_at "go"
  refine ⟨b, d, l, s, tl, pg, wd, lf, ts, rfl, rfl, rfl, .inl rfl, O5.pr, fun H6 b6 R6 => ?_⟩
  have O6 := O5.put b6 R6
  walk_at "go"
  refine ifF rfl ?_
  walk_at "go"
  have hl6 := O6.len
  refine ⟨b, d, l, s, tl, pg, wd, .non, ts, pa.toNat, y, rfl, rfl, rfl, toN p0, by omega, rfl, pageT_mk (by omega) yg, O6.pr, fun lf7 ts7 H7 b7 R7 => ?_⟩
  have O7 := O6.put b7 R7
  walk_at "go"
  refine ifF rfl ?_
  walk_at "go"
  refine i_lenS (lens z0 (by omega)) ?_
  walk_at "go"
  refine ⟨p, (z.length : Int) + 1, _, rfl, rfl, by omega, by omega, O7.bx, by omega, fun m1 H8 m10 m11 b8 B8 => ?_⟩
  have O8 := O7.but b8 B8
  walk_at "go"
  refine i_lenS (lens z0 (by omega)) ?_
  walk_at "go"
  refine i_lenS (lens z0 (by omega)) ?_
  walk_at "go"
  refine i_lenS (lens z0 (by omega)) ?_
  walk_at "go"
  refine i_lstN (by show 5 ≤ sizeLine; decide) fun q9 H9 nq9 s9 h9 => ?_
  have O9 := O8.same s9
  have nq : q9 ≠ p := (O8.bx.ne nq9).symm
  walk_at "go"
  refine ⟨p, 5, _, rfl, rfl, by omega, by omega, O9.bx, by omega, fun w5 H10 w50 w51 b10 B10 => ?_⟩
  have O10 := O9.but b10 B10
  walk_at "go"
  obtain ⟨c, hc, lo⟩ : ∃ c, atI [V.int m1, .int z.length, .int 0, .int ((z.length : Int) + 1), .int ((z.length : Int) - 1)] w5 = some c ∧ LeftOk c := by
    have e : w5 = 0 ∨ w5 = 1 ∨ w5 = 2 ∨ w5 = 3 ∨ w5 = 4 := by omega
    rcases e with rfl | rfl | rfl | rfl | rfl
    · exact ⟨_, rfl, .inr ⟨_, rfl, m10⟩⟩
    · exact ⟨_, rfl, .inr ⟨_, rfl, by omega⟩⟩
    · exact ⟨_, rfl, .inr ⟨_, rfl, by omega⟩⟩
    · exact ⟨_, rfl, .inr ⟨_, rfl, by omega⟩⟩
    · exact ⟨_, rfl, .inr ⟨_, rfl, by omega⟩⟩
  refine i_ixL (v := c) (b10 _ _ nq h9) hc ?_
  walk_at "go"
  refine ⟨b, d, l, s, tl, pg, wd, lf7, ts7, rfl, rfl, rfl, lo, O10.pr, fun H11 b11 R11 => ?_⟩
  have O11 := O10.put b11 R11
  walk_at "go"
  refine ifF rfl ?_
  walk_at "go"
  refine ⟨b, d, l, s, tl, pg, wd, c, ts7, rfl, rfl, rfl, O11.pr, fun H12 s12 => ?_⟩
  have O12 := O11.same s12
  walk_at "go"
  refine ifF rfl ?_
  walk_at "go"
  have hl12 := O12.len
  refine ⟨b, d, l, s, tl, pg, wd, c, ts7, pa.toNat, z, rfl, rfl, rfl, toN p0, by omega, rfl, pageT_mk (by omega) zg, O12.pr, fun lf13 ts13 H13 b13 R13 => ?_⟩
  have O13 := O12.put b13 R13
  walk_at "go"
  refine ifF rfl ?_
  walk_at "go"
  refine ⟨b, d, l, s, tl, pg, wd, lf13, ts13, rfl, rfl, rfl, O13.pr, fun H14 s14 => ?_⟩
  have O14 := O13.same s14
  walk_at "go"
  refine ifF rfl ?_
  walk_at "go"
  refine ⟨p, 3, _, rfl, rfl, by omega, by omega, O14.bx, by omega, fun w3 H15 w30 w31 b15 B15 => ?_⟩
  have O15 := O14.but b15 B15
  walk_at "go"
  refine ⟨_, rfl, by omega, by omega, ?_⟩
  have O16 : Ok a H H15 p d l s tl pg wd (n + 300) lf13 ts13 := O15.mono (by omega)
  refine for_range (fun i σ' H' => (∃ tv, σ' = [some (.ref p), some (.ref d), some (.ref s), some (.bl b), some (.int pa), some (.str z), some (.str y), some c, tv]) ∧ ∃ lf' ts', Ok a H H' p d l s tl pg wd (n + 300 + i * 800) lf' ts') ⟨⟨_, rfl⟩, _, _, O16⟩ ?_ ?_
  · rintro i σ' H16 hi ⟨⟨tv, rfl⟩, lf16, ts16, O16⟩
    have hi3 : i < 3 := by omega
    walk_at "go"
    refine i_ixL (v := .int pg) O16.st rfl ?_
    walk_at "go"
    refine ⟨p, pg, _, rfl, rfl, by omega, by omega, O16.bx, by omega, fun pb H17 pb0 pb1 b17 B17 => ?_⟩
    have O17 := O16.but b17 B17
    walk_at "go"
    refine i_ixL (v := .int wd) O17.st rfl ?_
    walk_at "go"
    refine ⟨p, wd, _, rfl, rfl, by omega, by omega, O17.bx, by omega, fun x H18 x0 xg b18 B18 => ?_⟩
    have O18 := O17.but b18 B18
    walk_at "go"
    have hl18 := O18.len
    refine ⟨!b, d, l, s, tl, pg, wd, lf16, ts16, pb.toNat, x, rfl, rfl, rfl, toN pb0, by omega, rfl, pageT_mk (by omega) xg, O18.pr, fun lf19 ts19 H19 b19 R19 => ?_⟩
    have O19 := O18.put b19 R19
    walk_at "go"
    refine ifF rfl ?_
    walk_at "go"
    refine ⟨p, _, b, d, l, s, tl, pg, wd, lf19, ts19, rfl, rfl, rfl, rfl, O19.bx, by omega, O19.pr, ap, fun H20 b20 B20 => ?_⟩
    have O20 := O19.but b20 B20
    walk_at "go"
    refine ifF rfl ?_
    walk_at "go"
    refine ⟨b, d, l, s, tl, pg, wd, lf19, ts19, rfl, rfl, rfl, O20.pr, fun H21 s21 => ?_⟩
    have O21 := O20.same s21
    walk_at "go"
    refine ifF rfl ?_
    walk_at "go"
    exact ⟨⟨_, rfl⟩, _, _, O21.mono (by omega)⟩
  · rintro σ' H16 ⟨⟨tv, rfl⟩, lf16, ts16, O16⟩
    walk_at "go"
    exact k lf16 ts16 H16 O16.fr (O16.bx.mono (by omega)) O16.pr
theorem o_law_deed_right (T : Txt K mg a) (g_law_take : G_law_take P w K mg base a) (g_law_good : G_law_good P w K mg base a) (g_law_write_right : G_law_write_right P w K mg base a) (g_law_limit_right : G_law_limit_right P w K mg base a) (g_law_wrong_right : G_law_wrong_right P w K mg base a) (g_law_cut_right : G_law_cut_right P w K mg base a) : O_law_deed_right P w K mg base a := by
  refine OkF.mk sc_law_deed_right sp4_len (fun f cdv A outer s0 H vs Q E hr h => ⟨t_law_deed_right K a E, d_law_deed_right T g_law_take g_law_good g_law_write_right g_law_limit_right g_law_wrong_right g_law_cut_right hr, ?_⟩)
  obtain ⟨_, _, _, _, rfl, p, n, b, d, l, s, tl, pg, wd, lf, ts, rfl, rfl, rfl, rfl, B, hn, R, ap, k⟩ := h
  obtain ⟨⟨dx, D⟩, st, sl, nl, ns1, ns2⟩ := id R
  have e2 := D.p2
  have e60 := D.p60
  have w20 := D.w20
  have w400 := D.w400
  have O0 : Ok a H H p d l s tl pg wd n lf ts := Ok.start B R ap
  have kk : ∀ {m lf' ts' H'}, Ok a H H' p d l s tl pg wd m lf' ts' → m ≤ n + 4000 → Q (.bl true) H' := fun O h => k _ _ _ O.fr (O.bx.mono h) O.pr
  unfold t_law_deed_right
  walk_at "go"
  refine ⟨p, 8, n, rfl, rfl, by omega, by omega, B, by omega, fun way H1 r0 r1 b1 B1 => ?_⟩
  have O1 := O0.but b1 B1
  walk_at "go"
  refine ifB (fun c0 => ?_) (fun c0 => ?_)
  · walk_at "go"
    refine i_ixL (v := .int pg) O1.st rfl ?_
    walk_at "go"
    refine ⟨p, pg, _, rfl, rfl, by omega, by omega, O1.bx, by omega, fun pb H2 pb0 pb1 b2 B2 => ?_⟩
    have O2 := O1.but b2 B2
    walk_at "go"
    refine i_ixL (v := .int wd) O2.st rfl ?_
    walk_at "go"
    refine ⟨p, wd, _, rfl, rfl, by omega, by omega, O2.bx, by omega, fun x H3 x0 xg b3 B3 => ?_⟩
    have O3 := O2.but b3 B3
    walk_at "go"
    have hl := O3.len
    refine ⟨b, d, l, s, tl, pg, wd, lf, ts, pb.toNat, x, rfl, rfl, rfl, toN pb0, by omega, rfl, pageT_mk (by omega) xg, O3.pr, fun lf4 ts4 H4 b4 R4 => ?_⟩
    exact kk (O3.put b4 R4) (by omega)
  walk_at "go"
  refine ifB (fun c1 => ?_) (fun c1 => ?_)
  · walk_at "go"
    refine ⟨p, 30, _, rfl, rfl, by omega, by omega, O1.bx, by omega, fun u H2 u0 u1 b2 B2 => ?_⟩
    have O2 := O1.but b2 B2
    walk_at "go"
    refine i_powI ⟨by decide, by decide, by decide⟩ ?_
    walk_at "go"
    refine i_ixL (v := .int wd) O2.st rfl ?_
    walk_at "go"
    refine ⟨p, 3, _, rfl, rfl, by omega, by omega, O2.bx, by omega, fun u' H3 u0' u1' b3 B3 => ?_⟩
    have O3 := O2.but b3 B3
    walk_at "go"
    refine i_lstN (by show 4 ≤ sizeLine; decide) fun q H4 nq s4 h4 => ?_
    have O4 := O3.same s4
    have nqp : q ≠ p := (O3.bx.ne nq).symm
    walk_at "go"
    refine ⟨p, 4, _, rfl, rfl, by omega, by omega, O4.bx, by omega, fun w4 H5 w0 w1 b5 B5 => ?_⟩
    have O5 := O4.but b5 B5
    walk_at "go"
    obtain ⟨c, hc, lo⟩ : ∃ c, atI [V.non, .int u, .int (10 ^ Int.toNat 39 - 1), .int (wd + u')] w4 = some c ∧ LeftOk c := by
      have e : w4 = 0 ∨ w4 = 1 ∨ w4 = 2 ∨ w4 = 3 := by omega
      rcases e with rfl | rfl | rfl | rfl
      · exact ⟨_, rfl, .inl rfl⟩
      · exact ⟨_, rfl, .inr ⟨_, rfl, u0⟩⟩
      · exact ⟨_, rfl, .inr ⟨_, rfl, by decide +kernel⟩⟩
      · exact ⟨_, rfl, .inr ⟨_, rfl, by omega⟩⟩
    refine i_ixL (v := c) (b5 _ _ nqp h4) hc ?_
    walk_at "go"
    refine ⟨b, d, l, s, tl, pg, wd, lf, ts, rfl, rfl, rfl, lo, O5.pr, fun H6 b6 R6 => ?_⟩
    exact kk (O5.put b6 R6) (by omega)
  walk_at "go"
  refine ifB (fun c2 => ?_) (fun c2 => ?_)
  · walk_at "go"
    refine ⟨p, _, b, d, l, s, tl, pg, wd, lf, ts, rfl, rfl, rfl, rfl, O1.bx, by omega, O1.pr, ap, fun H2 b2 B2 => ?_⟩
    exact kk (O1.but b2 B2) (by omega)
  walk_at "go"
  refine ⟨p, _, b, d, l, s, tl, pg, wd, lf, ts, rfl, rfl, rfl, rfl, O1.bx, by omega, O1.pr, ap, fun lf2 ts2 H2 b2 B2 R2 => ?_⟩
  exact kk (O1.all b2 B2 R2) (by omega)
theorem within_ok {i l h : Int} (h0 : l ≤ i) (h1 : i ≤ h) : within (.int i) l h = true := by
  show (decide (l ≤ i) && decide (i ≤ h)) = true
  rw [decide_eq_true h0, decide_eq_true h1]; rfl
theorem i_repL {σ : L2.St} {Q : VK} {H : Hp} {q : Addr} {xs : List V} {k : Int} (h : H q = some (.lst xs)) (h0 : 0 ≤ k) (h1 : k ≤ 100) (hl : xs.length ≤ 100) (c : ∀ r H', H r = none → Same H H' → H' r = some (.lst (List.replicate k.toNat xs).flatten) → Q (.ref r) H') : rMulG (.ref q) (.int k) H Q := by
  have z : xs.length * k.toNat ≤ 100 * 100 := Nat.mul_le_mul hl (by omega)
  have : sizeLine = 16777216 := by decide
  exact .inr (.inr ⟨q, k, xs, rfl, rfl, h, by omega, by omega, by omega, fun r hr => c r _ hr (same_upd hr) upd_same⟩)
theorem rep1 (n : Nat) : (List.replicate n [V.str ""]).flatten = (List.replicate n Str.empty).map V.str := by
  induction n with
  | zero => rfl
  | succ n ih =>
    rw [List.replicate_succ, List.flatten_cons, ih, List.replicate_succ, List.map_cons]
    rfl
theorem i_gtup2 {q : Addr} {x y : V} {m n : Nat} {σ : L2.St} {H : Hp} {Qn : L2.St → Hp → Prop} (h : H q = some (.tup [x, y])) (k : Qn ((σ.set m (some x)).set n (some y)) H) : gTup K 2 (gCons (gName m) (gCons (gName n) gNil)) (.ref q) σ H Qn :=
  ⟨_, _, rfl, SqT.of h, rfl, _, _, rfl, _, _, rfl, rfl, k⟩
theorem i_glst2 {q : Addr} {x y : V} {m n : Nat} {σ : L2.St} {H : Hp} {Qn : L2.St → Hp → Prop} (h : H q = some (.lst [x, y])) (k : Qn ((σ.set m (some x)).set n (some y)) H) : gLst K 2 (gCons (gName m) (gCons (gName n) gNil)) (.ref q) σ H Qn :=
  ⟨_, _, rfl, SqL.of h, rfl, _, _, rfl, _, _, rfl, rfl, k⟩
theorem Pr.mk' {H : Hp} {d dx l s tl : Addr} {pg wd : Int} {ts : List Str} (D : DiskAt a H d dx l pg wd .non ts) (hs : H s = some (.lst [.int pg, .int wd, .ref tl, .non])) (ht : H tl = some (.lst (ts.map V.str))) (nl : l ≠ tl) (n1 : s ≠ l) (n2 : s ≠ tl) : Pr a H d l s tl pg wd .non ts := ⟨⟨dx, D⟩, hs, ht, nl, n1, n2⟩
theorem Dat.grow {H H' : Hp} {u v : V} (h : Dat H 1 v) (b : Buts (fun x => u = .ref x ∧ ∃ xs, H x = some (.lst xs)) H H') (ne : ∀ q, v = .ref q → u ≠ .ref q) : Dat H' 1 v := by
  have g0 : ∀ {x : V}, Dat H 0 x → Dat H' 0 x := fun {x} h => by
    cases h with
    | non => exact .non
    | bl x => exact .bl x
    | int i => exact .int i
    | str l => exact .str l
    | @dic _ r h' => exact .dic (b _ _ (fun e => by obtain ⟨_, xs, e⟩ := e; rw [h'] at e; cases e) h')
  cases h with
  | non => exact .non
  | bl x => exact .bl x
  | int i => exact .int i
  | str l => exact .str l
  | @lst _ r xs h' l k => exact .lst (b _ _ (fun e => ne r rfl e.1) h') l fun x hx => g0 (k x hx)
  | @tup _ r xs h' l k => exact .tup (b _ _ (fun e => ne r rfl e.1) h') l fun x hx => g0 (k x hx)
  | @dic _ r h' => exact .dic (b _ _ (fun e => ne r rfl e.1) h')
theorem Dat.stands {H : Hp} {n : Nat} {q : Addr} (h : Dat H n (.ref q)) : ∃ o, H q = some o := by
  cases h with
  | lst h _ _ => exact ⟨_, h⟩
  | tup h _ _ => exact ⟨_, h⟩
  | dic h => exact ⟨_, h⟩
theorem NewV.back {H H5 : Hp} {p : Addr} {n : Nat} {v : V} (nv : NewV H5 v) (b : But p H H5) (B : Box H5 p n) : NewV H v := fun q e => newv b B (nv q e)
theorem o_law_sizes_right (T : Txt K mg a) (g_law_take : G_law_take P w K mg base a) (g_law_bad_size : G_law_bad_size P w K mg base a) (g_law_given : G_law_given P w K mg base a) (g_law_made : G_law_made P w K mg base a) (g_law_state_right : G_law_state_right P w K mg base a) : O_law_sizes_right P w K mg base a := by
  refine OkF.mk sc_law_sizes_right sp2_len (fun f cdv A outer s0 H vs Q E hr h => ⟨t_law_sizes_right K a E, d_law_sizes_right T g_law_take g_law_bad_size g_law_given g_law_made g_law_state_right hr, ?_⟩)
  obtain ⟨_, _, rfl, p, n, b, rfl, rfl, B, hn, k⟩ := h
  unfold t_law_sizes_right
  walk_at "go"
  refine i_tupN (by show 2 ≤ sizeLine; decide) fun q1 H1 m1 s1 h1 => ?_
  walk_at "go"
  refine i_tupN (by show 2 ≤ sizeLine; decide) fun q2 H2 m2 s2 h2 => ?_
  walk_at "go"
  have s12 := s1.trans s2
  have B2 := B.same s12
  refine ⟨p, 59, n, rfl, rfl, by omega, by omega, B2, by omega, fun r H3 r0 r1 b3 B3 => ?_⟩
  walk_at "go"
  refine ⟨p, 381, n + 1, rfl, rfl, by omega, by omega, B3, by omega, fun r' H4 r0' r1' b4 B4 => ?_⟩
  walk_at "go"
  refine i_tupN (by show 2 ≤ sizeLine; decide) fun q3 H5 m5 s5 h5 => ?_
  walk_at "go"
  refine i_lstN (by show 3 ≤ sizeLine; decide) fun q4 H6 m6 s6 h6 => ?_
  walk_at "go"
  have b26 : But p H H6 := But.same (But.same (Same.butR s12 (But.trans b3 b4)) s5) s6
  have B6 : Box H6 p (n + 1 + 1) := (B4.same s5).same s6
  have n1 : q1 ≠ p := (B.ne m1).symm
  have n2 : q2 ≠ p := ((B.same s1).ne m2).symm
  have h16 := s6 _ _ (s5 _ _ (b4 _ _ n1 (b3 _ _ n1 (s2 _ _ h1))))
  have h26 := s6 _ _ (s5 _ _ (b4 _ _ n2 (b3 _ _ n2 h2)))
  have h36 := s6 _ _ h5
  refine ⟨_, rfl, ⟨_, SqL.of h6⟩, ?_⟩
  refine for_list (xs := [.ref q1, .ref q2, .ref q3]) (fun i σ' H' => (∃ x2 x3 x5, σ' = [some (.ref p), some (.bl b), x2, x3, none, x5]) ∧ Same H6 H') ⟨⟨_, _, _, rfl⟩, fun _ _ h => h⟩ (fun i σ' H' _ hp => SqL.of (hp.2 _ _ h6)) ?_ ?_
  · rintro i x σ' H7 hx ⟨⟨x2, x3, x5, rfl⟩, s7⟩
    obtain ⟨q, pg, wd, rfl, hq, g2, g60, g20, g400⟩ : ∃ q pg wd, x = .ref q ∧ H6 q = some (.tup [.int pg, .int wd]) ∧ 2 ≤ pg ∧ pg ≤ 60 ∧ 20 ≤ wd ∧ wd ≤ 400 := by
      have hm := List.mem_of_getElem? hx
      simp only [List.mem_cons, List.not_mem_nil, or_false] at hm
      rcases hm with rfl | rfl | rfl
      · exact ⟨q1, 2, 400, rfl, h16, by omega, by omega, by omega, by omega⟩
      · exact ⟨q2, 60, 20, rfl, h26, by omega, by omega, by omega, by omega⟩
      · exact ⟨q3, _, _, rfl, h36, by omega, by omega, by omega, by omega⟩
    refine i_gtup2 (s7 _ _ hq) ?_
    walk_at "go"
    refine ⟨.int _, .int _, (fun e => by rw [within_ok g2 g60] at e; cases e), (fun _ e => by rw [within_ok g20 g400] at e; cases e), fun i' j' e1 e2 _ _ _ _ rr d dx l H8 nr nd nl' nld s8 h8 D8 => ?_⟩
    cases e1
    cases e2
    walk_at "go"
    refine i_ixL (v := .str "told") h8 rfl ?_
    walk_at "go"
    refine ifF (by decide) ?_
    walk_at "go"
    refine i_ixL (v := .ref d) h8 rfl ?_
    walk_at "go"
    refine i_lstN (by show 1 ≤ sizeLine; decide) fun q9 H9 m9 s9 h9 => ?_
    walk_at "go"
    refine i_repL (σ := []) h9 (by omega) (by omega) (by show 1 ≤ 100; decide) fun tl H10 m10 s10 h10 => ?_
    rw [rep1] at h10
    walk_at "go"
    refine i_lstN (by show 4 ≤ sizeLine; decide) fun s H11 m11 s11 h11 => ?_
    walk_at "go"
    have l9 := s9 _ _ D8.l
    have l10 := s10 _ _ l9
    have R : Pr a H11 d l s tl pg wd .non (List.replicate pg.toNat Str.empty) := Pr.mk' (D8.same ((s9.trans s10).trans s11)) h11 (s11 _ _ h10) (ne_of_none l9 m10) (ne_of_none l10 m11).symm (ne_of_none h10 m11).symm
    refine ⟨b, d, l, s, tl, pg, wd, .non, _, rfl, rfl, rfl, R, fun H12 s12 => ?_⟩
    walk_at "go"
    refine ifF rfl ?_
    walk_at "go"
    exact ⟨⟨_, _, _, rfl⟩, (((((s7.trans s8).trans s9).trans s10).trans s11).trans s12)⟩
  · rintro σ' H7 ⟨⟨x2, x3, x5, rfl⟩, s7⟩
    walk_at "go"
    refine ⟨_, rfl, by omega, by omega, ?_⟩
    refine for_range (fun i σ' H' => (∃ x2 x3 x4 x5, σ' = [some (.ref p), some (.bl b), x2, x3, x4, x5]) ∧ But p H H' ∧ Box H' p (n + 2 + i * 40)) ⟨⟨_, _, _, _, rfl⟩, But.same b26 s7, (B6.same s7).mono (by omega)⟩ ?_ ?_
    · rintro i σ' H8 hi ⟨⟨x2, x3, x4, x5, rfl⟩, b8, B8⟩
      have hi8 : i < 8 := hi
      walk_at "go"
      refine ⟨p, 2, 60, _, rfl, rfl, rfl, by omega, by omega, by omega, B8, by omega, fun v1 H9 b9 B9 d1 nv1 bad1 => ?_⟩
      walk_at "go"
      refine ⟨p, 20, 400, _, rfl, rfl, rfl, by omega, by omega, by omega, B9, by omega, fun v2 H10 b10 B10 d2 nv2 bad2 => ?_⟩
      walk_at "go"
      have d1' := d1.but1 B9 (nv1.ne B8) b10
      have nv2' : NewV H8 v2 := nv2.back b9 B9
      refine ⟨d1'.kn, .int _, (fun _ q H11 nq s11 h11 => ?_), (fun e => by rw [bad1] at e; cases e), fun i' j' e1 _ f0 f1 => by rw [e1, within_ok f0 f1] at bad1; cases bad1⟩
      walk_at "go"
      refine ⟨q, _, rfl, rfl, by decide +kernel, h11, d1'.same s11, fun H12 b12 => ?_⟩
      have b8_10 := But.trans b9 b10
      have g12 := gave B8 (But.same b8_10 s11) nv1 (b12.imp fun _ h => h.1) (B10.same s11)
      have d2' : Dat H12 1 v2 := (d2.same s11).grow b12 (fun q e e' => by
        obtain ⟨o, ho⟩ := (e' ▸ d1 : Dat H9 1 (.ref q)).stands
        have z := nv2 q e
        rw [ho] at z; cases z)
      walk_at "go"
      refine ifF rfl ?_
      walk_at "go"
      refine ⟨.int _, d2'.kn, (fun e => by rw [within_ok (by omega) (by omega)] at e; cases e), (fun _ _ q' H13 nq' s13 h13 => ?_), fun i' j' _ e2 _ _ f0 f1 => by rw [e2, within_ok f0 f1] at bad2; cases bad2⟩
      walk_at "go"
      refine ⟨q', _, rfl, rfl, by decide +kernel, h13, d2'.same s13, fun H14 b14 => ?_⟩
      have g14 := gave B8 (But.same g12.1 s13) nv2' (b14.imp fun _ h => h.1) (g12.2.same s13)
      walk_at "go"
      refine ifF rfl ?_
      walk_at "go"
      refine ⟨p, 2, 60, _, rfl, rfl, rfl, by omega, by omega, by omega, g14.2, by omega, fun v3 H15 b15 B15 d3 nv3 bad3 => ?_⟩
      walk_at "go"
      refine ⟨p, 20, 400, _, rfl, rfl, rfl, by omega, by omega, by omega, B15, by omega, fun v4 H16 b16 B16 d4 nv4 bad4 => ?_⟩
      walk_at "go"
      have d3' := d3.but1 B15 (nv3.ne g14.2) b16
      refine ⟨d3'.kn, d4.kn, (fun _ q H17 nq s17 h17 => ?_), (fun e => by rw [bad3] at e; cases e), fun i' j' e1 _ f0 f1 => by rw [e1, within_ok f0 f1] at bad3; cases bad3⟩
      walk_at "go"
      refine ⟨q, _, rfl, rfl, by decide +kernel, h17, d3'.same s17, fun H18 b18 => ?_⟩
      have g18 := gave g14.2 (But.same (But.trans b15 b16) s17) nv3 (b18.imp fun _ h => h.1) (B16.same s17)
      walk_at "go"
      refine ifF rfl ?_
      walk_at "go"
      exact ⟨⟨_, _, _, _, rfl⟩, But.trans (But.trans b8 g14.1) g18.1, g18.2.mono (by omega)⟩
    · rintro σ' H8 ⟨⟨x2, x3, x4, x5, rfl⟩, b8, B8⟩
      walk_at "go"
      exact k H8 b8 (B8.mono (by omega))
/-- a guard that never bites -/
theorem i_guard {c : TT} {t : TS} {D : Ends} {σ : L2.St} {H : Hp} (R : Hp → Prop) (hc : ∀ QB : Bool → Hp → Prop, (∀ H2, R H2 → QB false H2) → c σ H QB) (hk : ∀ H2, R H2 → D.nx σ H2) : tIfS c t tNext D σ H := by
  show c σ H fun b H1 => if b = true then t D σ H1 else tNext D σ H1
  exact hc _ fun H2 r => by rw [if_neg Bool.false_ne_true]; exact hk H2 r
theorem Ok.fin {H H5 H' : Hp} {p d l s tl : Addr} {pg wd : Int} {n : Nat} {lf : V} {ts : List Str} (O : Ok a H5 H' p d l s tl pg wd n lf ts) (nw : ∀ x, PF d l s tl x → H x = none) (e : Same H H5) : But p H H' := fun x o nx hx =>
  O.fr x o (fun h => h.elim nx (fun f => by rw [nw x f] at hx; cases hx)) (e x o hx)
theorem str_good : ∀ i : Fin 300, pageT (.str (Str.ofString (toString (i.val : Int)))) 400 = true := by decide +kernel
theorem one_a : ("a" : Str).length = 1 := by decide +kernel
theorem one_t : ("~" : Str).length = 1 := by decide +kernel
theorem good_a : Good ("a" : Str) := by unfold Good; decide +kernel
theorem good_t : Good ("~" : Str) := by unfold Good; decide +kernel
theorem o_law_long_right (T : Txt K mg a) (g_Disk_init : G_Disk_init P w K mg base a) (g_law_take : G_law_take P w K mg base a) (g_law_state_right : G_law_state_right P w K mg base a) (g_law_write_right : G_law_write_right P w K mg base a) (g_law_limit_right : G_law_limit_right P w K mg base a) (g_law_cut_right : G_law_cut_right P w K mg base a) : O_law_long_right P w K mg base a := by
  refine OkF.mk sc_law_long_right sp1_len (fun f cdv A outer s0 H vs Q E hr h => ⟨t_law_long_right K a E, d_law_long_right T g_Disk_init g_law_take g_law_state_right g_law_write_right g_law_limit_right g_law_cut_right hr, ?_⟩)
  obtain ⟨_, rfl, p, n, rfl, B, hn, k⟩ := h
  unfold t_law_long_right
  walk_at "go"
  refine i_maR fun d dx H1 nd ndx ndd s1 h1 => ?_
  refine ⟨_, _, _, rfl, d, dx, rfl, h1, .int _, .int _, (fun e => by rw [within_ok (by omega) (by omega)] at e; cases e), (fun _ e => by rw [within_ok (by omega) (by omega)] at e; cases e), fun i' j' e1 e2 _ _ _ _ l H2 nl nld bx D2 => ⟨rfl, ?_⟩⟩
  cases e1
  cases e2
  walk_at "go"
  refine i_lstN (by show 1 ≤ sizeLine; decide) fun q3 H3 m3 s3 h3 => ?_
  walk_at "go"
  refine i_repL (σ := []) h3 (by omega) (by omega) (by show 1 ≤ 100; decide) fun tl H4 m4 s4 h4 => ?_
  rw [rep1] at h4
  walk_at "go"
  refine i_lstN (by show 4 ≤ sizeLine; decide) fun s H5 m5 s5 h5 => ?_
  walk_at "go"
  have l3 := s3 _ _ D2.l
  have l4 := s4 _ _ l3
  have R5 : Pr a H5 d l s tl 60 400 .non _ := Pr.mk' (D2.same ((s3.trans s4).trans s5)) h5 (s5 _ _ h4) (ne_of_none l3 m4) (ne_of_none l4 m5).symm (ne_of_none h4 m5).symm
  have e12 : Same H H2 := Same.but s1 nd bx
  have e3 := e12.trans s3
  have e4 := e3.trans s4
  have e5 := e4.trans s5
  have nw : ∀ x, PF d l s tl x → H x = none := by
    rintro x (rfl | rfl | rfl | rfl)
    · exact nd
    · exact s1.free nl
    · exact e4.free m5
    · exact e3.free m4
  have ap : ¬ PF d l s tl p := fun h => by
    have z := nw p h
    obtain ⟨_, _, _, _, hp, _⟩ := B
    rw [hp] at z; cases z
  have O5 : Ok a H5 H5 p d l s tl 60 400 n .non _ := Ok.start (B.same e5) R5 ap
  refine ⟨_, rfl, by omega, by omega, ?_⟩
  refine for_range (fun i σ' H' => (∃ x3 x4 x5, σ' = [some (.ref p), some (.ref d), some (.ref s), x3, x4, x5]) ∧ ∃ lf ts, Ok a H5 H' p d l s tl 60 400 (n + i * 3) lf ts) ⟨⟨_, _, _, rfl⟩, _, _, O5.mono (by omega)⟩ ?_ ?_
  · rintro i σ' H6 hi ⟨⟨x3, x4, x5, rfl⟩, lf, ts, O6⟩
    have hi' : i < 300 := hi
    walk_at "go"
    refine ⟨p, 20, _, rfl, rfl, by omega, by omega, O6.bx, by omega, fun way H7 w0 w1 b7 B7 => ?_⟩
    have O7 := O6.but b7 B7
    walk_at "go"
    refine ⟨p, 60, _, rfl, rfl, by omega, by omega, O7.bx, by omega, fun pa H8 p0 p1 b8 B8 => ?_⟩
    have O8 := O7.but b8 B8
    walk_at "go"
    refine i_mulS (mulOk_small (by rw [one_a]; omega) (by omega) (by omega)) ?_
    walk_at "go"
    refine i_str (log_le (by omega) (by omega)) ?_
    walk_at "go"
    refine i_mulS (mulOk_small (by rw [one_t]; omega) (by omega) (by omega)) ?_
    walk_at "go"
    refine i_lstN (by show 4 ≤ sizeLine; decide) fun q9 H9 m9 s9 h9 => ?_
    have O9 := O8.same s9
    walk_at "go"
    refine i_modI (by omega) ?_
    walk_at "go"
    obtain ⟨z, hz, gz⟩ : ∃ z, atI [V.str (Txt.mul "a" (400 - way)), .str (Str.ofString (toString (0 + (i : Int)))), .str "", .str (Txt.mul "~" 400)] (way % 4) = some (.str z) ∧ pageT (.str z) 400 = true := by
      have e : way % 4 = 0 ∨ way % 4 = 1 ∨ way % 4 = 2 ∨ way % 4 = 3 := by omega
      rcases e with e | e | e | e <;> rw [e]
      · refine ⟨_, rfl, pageT_mk ?_ (good_a.of_mem fun c hc => mul_mem hc)⟩
        rw [mul_len (by omega), one_a]
        omega
      · refine ⟨_, rfl, ?_⟩
        have z := str_good ⟨i, hi'⟩
        rw [Int.zero_add]
        exact z
      · exact ⟨_, rfl, by decide +kernel⟩
      · refine ⟨_, rfl, pageT_mk ?_ (good_t.of_mem fun c hc => mul_mem hc)⟩
        rw [mul_len (by omega), one_t]
        omega
    refine i_ixL (v := .str z) h9 hz ?_
    walk_at "go"
    have hl := O9.len
    refine ⟨_, d, l, s, tl, 60, 400, lf, ts, pa.toNat, z, rfl, rfl, rfl, toN p0, by omega, rfl, gz, O9.pr, fun lf10 ts10 H10 b10 R10 => ?_⟩
    have O10 := O9.put b10 R10
    walk_at "go1"
    walk_at "go1"
    refine i_guard (fun H' => ∃ lf ts, Ok a H5 H' p d l s tl 60 400 (n + i * 3 + 1 + 1 + 1) lf ts) (fun QB kq => ?_) (fun H11 r11 => ?_)
    · walk_at "go"
      refine ifB (fun c => ?_) (fun c => kq _ ⟨_, _, O10.mono (by omega)⟩)
      walk_at "go"
      refine i_lstN (by show 4 ≤ sizeLine; decide) fun q11 H11 m11 s11 h11 => ?_
      have O11 := O10.same s11
      walk_at "go"
      refine ⟨p, 4, _, rfl, rfl, by omega, by omega, O11.bx, by omega, fun r H12 r0 r1 b12 B12 => ?_⟩
      have O12 := O11.but b12 B12
      walk_at "go"
      obtain ⟨v, hv, lo⟩ : ∃ v, atI [V.non, .int 2000, .int 401, .int 400] r = some v ∧ LeftOk v := by
        have e : r = 0 ∨ r = 1 ∨ r = 2 ∨ r = 3 := by omega
        rcases e with rfl | rfl | rfl | rfl
        · exact ⟨_, rfl, .inl rfl⟩
        · exact ⟨_, rfl, .inr ⟨_, rfl, by decide⟩⟩
        · exact ⟨_, rfl, .inr ⟨_, rfl, by decide⟩⟩
        · exact ⟨_, rfl, .inr ⟨_, rfl, by decide⟩⟩
      refine i_ixL (v := v) (b12 _ _ (O10.bx.ne m11).symm h11) hv ?_
      walk_at "go"
      refine ⟨_, d, l, s, tl, 60, 400, lf10, ts10, rfl, rfl, rfl, lo, O12.pr, fun H13 b13 R13 => ?_⟩
      walk_at "go"
      exact kq _ ⟨_, _, O12.put b13 R13⟩
    obtain ⟨lf11, ts11, O11⟩ := r11
    walk_at "go1"
    refine i_guard (fun H' => ∃ lf ts, Ok a H5 H' p d l s tl 60 400 (n + i * 3 + 1 + 1 + 1) lf ts) (fun QB kq => ?_) (fun H12 r12 => ?_)
    · walk_at "go"
      refine ifF rfl ?_
      walk_at "go"
      refine ifB (fun c => ?_) (fun c => kq _ ⟨_, _, O11⟩)
      walk_at "go"
      refine ifB (fun c => ?_) (fun c => kq _ ⟨_, _, O11⟩)
      walk_at "go"
      refine ⟨_, d, l, s, tl, 60, 400, lf11, ts11, rfl, rfl, rfl, .inl rfl, O11.pr, fun H13 b13 R13 => ?_⟩
      walk_at "go"
      exact kq _ ⟨_, _, O11.put b13 R13⟩
    obtain ⟨lf12, ts12, O12⟩ := r12
    dsimp only
    refine i_guard (fun H' => ∃ lf ts, Ok a H5 H' p d l s tl 60 400 (n + i * 3 + 1 + 1 + 1) lf ts) (fun QB kq => ?_) (fun H13 r13 => ?_)
    · walk_at "go"
      refine i_modI (by omega) ?_
      walk_at "go"
      refine ifB (fun c => ?_) (fun c => kq _ ⟨_, _, O12⟩)
      walk_at "go"
      refine ⟨_, d, l, s, tl, 60, 400, lf12, ts12, rfl, rfl, rfl, O12.pr, fun H13 s13 => ?_⟩
      walk_at "go"
      exact kq _ ⟨_, _, O12.same s13⟩
    obtain ⟨lf13, ts13, O13⟩ := r13
    walk_at "go"
    exact ⟨⟨_, _, _, rfl⟩, _, _, O13.mono (by omega)⟩
  · rintro σ' H6 ⟨⟨x3, x4, x5, rfl⟩, lf, ts, O6⟩
    walk_at "go"
    refine ⟨p, _, _, d, l, s, tl, 60, 400, lf, ts, rfl, rfl, rfl, rfl, O6.bx, by omega, O6.pr, ap, fun lf7 ts7 H7 b7 B7 R7 => ?_⟩
    exact k H7 ((O6.all b7 B7 R7).fin nw e5)
/-- a new pair: its list u, the disk and its state -/
structure One (a : Ad) (H H' : Hp) (u d l s tl : Addr) (pg wd : Int) : Prop where
  hu : H' u = some (.lst [.ref d, .ref s])
  pr : ∃ lf ts, Pr a H' d l s tl pg wd lf ts
  nu : H u = none
  nw : ∀ x, PF d l s tl x → H x = none
  un : ¬ PF d l s tl u
theorem new_pair {p L : Addr} {xs : List V} {H : Hp} {nm : Option V} {pg wd : Int} {x5 x6 x7 x8 : Option V} {D : Ends} (hL : H L = some (.lst xs)) (len : xs.length ≤ 10) (g2 : 2 ≤ pg) (g60 : pg ≤ 60) (g20 : 20 ≤ wd) (g400 : wd ≤ 400)
    (k : ∀ u d l s tl H', One a H H' u d l s tl pg wd → But L H H' → H' L = some (.lst (xs ++ [.ref u])) → D.nx [some (.ref p), nm, some (.ref L), some (.int pg), some (.int wd), x5, x6, x7, x8] H') :
    (tDrop (tBM K "list" rAppend (tVar 2) (tCons (tLstG (tCons (tMa a.disk (sp_Disk_init a) E0s (tCons (tVar 3) (tCons (tVar 4) tNil))) (tCons (tLstG (tCons (tVar 3) (tCons (tVar 4) (tCons (tOp rMulG (tLstG (tCons (tC (.str "")) tNil)) (tVar 3)) (tCons (tC .non) tNil))))) tNil))) tNil)))
      D [some (.ref p), nm, some (.ref L), some (.int pg), some (.int wd), x5, x6, x7, x8] H := by
  walk_at "go"
  refine ⟨.inl ⟨rfl, _, SqL.of hL⟩, ?_⟩
  walk_at "go"
  refine i_maR fun d dx H1 nd ndx ndd s1 h1 => ?_
  refine ⟨_, _, _, rfl, d, dx, rfl, h1, .int _, .int _, (fun e => by rw [within_ok g2 g60] at e; cases e), (fun _ e => by rw [within_ok g20 g400] at e; cases e), fun i' j' e1 e2 _ _ _ _ l H2 nl nld bx D2 => ⟨rfl, ?_⟩⟩
  cases e1
  cases e2
  walk_at "go"
  refine i_lstN (by show 1 ≤ sizeLine; decide) fun q3 H3 m3 s3 h3 => ?_
  walk_at "go"
  refine i_repL (σ := []) h3 (by omega) (by omega) (by show 1 ≤ 100; decide) fun tl H4 m4 s4 h4 => ?_
  rw [rep1] at h4
  walk_at "go"
  refine i_lstN (by show 4 ≤ sizeLine; decide) fun s H5 m5 s5 h5 => ?_
  walk_at "go"
  refine i_lstN (by show 2 ≤ sizeLine; decide) fun u H6 m6 s6 h6 => ?_
  walk_at "go"
  have l3 := s3 _ _ D2.l
  have l4 := s4 _ _ l3
  have R5 : Pr a H5 d l s tl pg wd .non _ := Pr.mk' (D2.same ((s3.trans s4).trans s5)) h5 (s5 _ _ h4) (ne_of_none l3 m4) (ne_of_none l4 m5).symm (ne_of_none h4 m5).symm
  have e12 : Same H H2 := Same.but s1 nd bx
  have e3 := e12.trans s3
  have e4 := e3.trans s4
  have e5 := e4.trans s5
  have e6 := e5.trans s6
  have nw : ∀ x, PF d l s tl x → H x = none := by
    rintro x (rfl | rfl | rfl | rfl)
    · exact nd
    · exact s1.free nl
    · exact e4.free m5
    · exact e3.free m4
  have aL : ¬ PF d l s tl L := fun h => by
    have z := nw L h
    rw [hL] at z; cases z
  have sz : sizeLine = 16777216 := by decide
  refine i_appR (e6 _ _ hL) (by omega) fun H7 b7 h7 => ?_
  refine k u d l s tl H7 ⟨b7 _ _ (ne_of_none (e5 _ _ hL) m6).symm h6, ⟨_, _, (R5.same s6).but b7 aL⟩, e5.free m6, nw, fun h => ?_⟩ (Same.butR e6 b7) h7
  obtain ⟨o, ho⟩ := R5.here u h
  rw [m6] at ho; cases ho
/-- two pairs in a list -/
structure Two (a : Ad) (H : Hp) (p L u0 d0 l0 s0 t0 u1 d1 l1 s1 t1 : Addr) (n : Nat) : Prop where
  hL : H L = some (.lst [.ref u0, .ref u1])
  h0 : H u0 = some (.lst [.ref d0, .ref s0])
  h1 : H u1 = some (.lst [.ref d1, .ref s1])
  r0 : ∃ pg wd lf ts, Pr a H d0 l0 s0 t0 pg wd lf ts
  r1 : ∃ pg wd lf ts, Pr a H d1 l1 s1 t1 pg wd lf ts
  bx : Box H p n
/-- who is apart from whom -/
structure Far (p L u0 d0 l0 s0 t0 u1 d1 l1 s1 t1 : Addr) : Prop where
  aL : L ≠ p
  a0 : u0 ≠ p
  a1 : u1 ≠ p
  f0 : ∀ x, PF d0 l0 s0 t0 x → x ≠ p ∧ x ≠ L ∧ x ≠ u0 ∧ x ≠ u1 ∧ ¬ PF d1 l1 s1 t1 x
  f1 : ∀ x, PF d1 l1 s1 t1 x → x ≠ p ∧ x ≠ L ∧ x ≠ u0 ∧ x ≠ u1 ∧ ¬ PF d0 l0 s0 t0 x
section
variable {H H' : Hp} {p L u0 d0 l0 s0 t0 u1 d1 l1 s1 t1 : Addr} {n m : Nat}
theorem Two.same (W : Two a H p L u0 d0 l0 s0 t0 u1 d1 l1 s1 t1 n) (s : Same H H') : Two a H' p L u0 d0 l0 s0 t0 u1 d1 l1 s1 t1 n := by
  obtain ⟨g0, w0, f0, y0, R0⟩ := W.r0
  obtain ⟨g1, w1, f1, y1, R1⟩ := W.r1
  exact ⟨s _ _ W.hL, s _ _ W.h0, s _ _ W.h1, ⟨_, _, _, _, R0.same s⟩, ⟨_, _, _, _, R1.same s⟩, W.bx.same s⟩
theorem Two.mono (W : Two a H p L u0 d0 l0 s0 t0 u1 d1 l1 s1 t1 n) (h : n ≤ m) : Two a H p L u0 d0 l0 s0 t0 u1 d1 l1 s1 t1 m := ⟨W.hL, W.h0, W.h1, W.r0, W.r1, W.bx.mono h⟩
theorem Two.but (F : Far p L u0 d0 l0 s0 t0 u1 d1 l1 s1 t1) (W : Two a H p L u0 d0 l0 s0 t0 u1 d1 l1 s1 t1 n) (b : But p H H') (B : Box H' p m) : Two a H' p L u0 d0 l0 s0 t0 u1 d1 l1 s1 t1 m := by
  obtain ⟨g0, w0, f0, y0, R0⟩ := W.r0
  obtain ⟨g1, w1, f1, y1, R1⟩ := W.r1
  exact ⟨b _ _ F.aL W.hL, b _ _ F.a0 W.h0, b _ _ F.a1 W.h1, ⟨_, _, _, _, R0.but b fun h => (F.f0 _ h).1 rfl⟩, ⟨_, _, _, _, R1.but b fun h => (F.f1 _ h).1 rfl⟩, B⟩
theorem Two.deed0 (F : Far p L u0 d0 l0 s0 t0 u1 d1 l1 s1 t1) (W : Two a H p L u0 d0 l0 s0 t0 u1 d1 l1 s1 t1 n) (b : Buts (fun x => x = p ∨ PF d0 l0 s0 t0 x) H H') (B : Box H' p m) (R : ∃ pg wd lf ts, Pr a H' d0 l0 s0 t0 pg wd lf ts) : Two a H' p L u0 d0 l0 s0 t0 u1 d1 l1 s1 t1 m := by
  obtain ⟨g1, w1, f1, y1, R1⟩ := W.r1
  exact ⟨b _ _ (fun e => e.elim F.aL fun h => (F.f0 _ h).2.1 rfl) W.hL, b _ _ (fun e => e.elim F.a0 fun h => (F.f0 _ h).2.2.1 rfl) W.h0, b _ _ (fun e => e.elim F.a1 fun h => (F.f0 _ h).2.2.2.1 rfl) W.h1, R, ⟨_, _, _, _, R1.keep fun x o hx h => b x o (fun e => e.elim (F.f1 x hx).1 (F.f1 x hx).2.2.2.2) h⟩, B⟩
theorem Two.deed1 (F : Far p L u0 d0 l0 s0 t0 u1 d1 l1 s1 t1) (W : Two a H p L u0 d0 l0 s0 t0 u1 d1 l1 s1 t1 n) (b : Buts (fun x => x = p ∨ PF d1 l1 s1 t1 x) H H') (B : Box H' p m) (R : ∃ pg wd lf ts, Pr a H' d1 l1 s1 t1 pg wd lf ts) : Two a H' p L u0 d0 l0 s0 t0 u1 d1 l1 s1 t1 m := by
  obtain ⟨g1, w1, f1, y1, R1⟩ := W.r0
  exact ⟨b _ _ (fun e => e.elim F.aL fun h => (F.f1 _ h).2.1 rfl) W.hL, b _ _ (fun e => e.elim F.a0 fun h => (F.f1 _ h).2.2.1 rfl) W.h0, b _ _ (fun e => e.elim F.a1 fun h => (F.f1 _ h).2.2.2.1 rfl) W.h1, ⟨_, _, _, _, R1.keep fun x o hx h => b x o (fun e => e.elim (F.f0 x hx).1 (F.f0 x hx).2.2.2.2) h⟩, R, B⟩
end
theorem o_law_pair_right (T : Txt K mg a) (g_Disk_init : G_Disk_init P w K mg base a) (g_law_take : G_law_take P w K mg base a) (g_law_state_right : G_law_state_right P w K mg base a) (g_law_deed_right : G_law_deed_right P w K mg base a) : O_law_pair_right P w K mg base a := by
  refine OkF.mk sc_law_pair_right sp1_len (fun f cdv A outer s0 H vs Q E hr h => ⟨t_law_pair_right K a E, d_law_pair_right T g_Disk_init g_law_take g_law_state_right g_law_deed_right hr, ?_⟩)
  obtain ⟨_, rfl, p, n, rfl, B, hn, k⟩ := h
  unfold t_law_pair_right
  walk_at "go"
  refine ⟨p, 2, n, rfl, rfl, by omega, by omega, B, by omega, fun r H1 r0 r1 b1 B1 => ?_⟩
  walk_at "go"
  refine i_lstN (by show 0 ≤ sizeLine; decide) fun L H2 m2 s2 h2 => ?_
  walk_at "go"
  refine i_tupN (by show 2 ≤ sizeLine; decide) fun q3 H3 m3 s3 h3 => ?_
  walk_at "go"
  refine i_gtup2 h3 ?_
  walk_at "go"
  have B3 : Box H3 p (n + 1) := (B1.same s2).same s3
  have aL : L ≠ p := (B1.ne m2).symm
  refine ⟨p, 5, _, rfl, rfl, by omega, by omega, B3, by omega, fun x1 H4 x10 x11 b4 B4 => ?_⟩
  walk_at "go"
  refine ⟨p, 20, _, rfl, rfl, by omega, by omega, B4, by omega, fun x2 H5 x20 x21 b5 B5 => ?_⟩
  walk_at "go"
  refine i_tupN (by show 2 ≤ sizeLine; decide) fun q6 H6 m6 s6 h6 => ?_
  walk_at "go"
  have B6 := B5.same s6
  refine ⟨p, 59, _, rfl, rfl, by omega, by omega, B6, by omega, fun x3 H7 x30 x31 b7 B7 => ?_⟩
  walk_at "go"
  refine ⟨p, 381, _, rfl, rfl, by omega, by omega, B7, by omega, fun x4 H8 x40 x41 b8 B8 => ?_⟩
  walk_at "go"
  refine i_tupN (by show 2 ≤ sizeLine; decide) fun q9 H9 m9 s9 h9 => ?_
  walk_at "go"
  refine i_lstN (by show 2 ≤ sizeLine; decide) fun q10 H10 m10 s10 h10 => ?_
  walk_at "go"
  have B10 : Box H10 p (n + 10) := ((B8.same s9).same s10).mono (by omega)
  have bL : But p H3 H10 := But.same (But.same (But.trans (But.same (But.trans b4 b5) s6) (But.trans b7 b8)) s9) s10
  have hL : H10 L = some (.lst []) := bL _ _ aL (s3 _ _ h2)
  have b010 : But p H H10 := But.trans (But.same (But.same b1 s2) s3) bL
  have n6 : q6 ≠ p := (B5.ne m6).symm
  have g6 := s10 _ _ (s9 _ _ (b8 _ _ n6 (b7 _ _ n6 h6)))
  have g9 := s10 _ _ h9
  have n6L : q6 ≠ L := fun e => by
    have z := (b5 _ _ aL (b4 _ _ aL (s3 _ _ h2)))
    rw [← e, m6] at z; cases z
  have n9L : q9 ≠ L := fun e => by
    have z := b8 _ _ aL (b7 _ _ aL (s6 _ _ (b5 _ _ aL (b4 _ _ aL (s3 _ _ h2)))))
    rw [← e, m9] at z; cases z
  have n10L : q10 ≠ L := fun e => by
    have z := s9 _ _ (b8 _ _ aL (b7 _ _ aL (s6 _ _ (b5 _ _ aL (b4 _ _ aL (s3 _ _ h2))))))
    rw [← e, m10] at z; cases z
  refine ⟨_, rfl, ⟨_, SqL.of h10⟩, ?_⟩
  refine for_list (xs := [.ref q6, .ref q9]) (fun i σ' H' => (∃ x3 x4, σ' = [some (.ref p), some (.bl (decide (r = 1))), some (.ref L), x3, x4, none, none, none, none]) ∧ But L H10 H' ∧
      (match i with
      | 0 => H' = H10
      | 1 => ∃ u d l s tl pg wd, One a H10 H' u d l s tl pg wd ∧ H' L = some (.lst [.ref u])
      | _ => ∃ u0 d0 l0 s0 t0 u1 d1 l1 s1 t1, Two a H' p L u0 d0 l0 s0 t0 u1 d1 l1 s1 t1 (n + 10) ∧ Far p L u0 d0 l0 s0 t0 u1 d1 l1 s1 t1 ∧ (∀ x, PF d0 l0 s0 t0 x → H10 x = none) ∧ ∀ x, PF d1 l1 s1 t1 x → H10 x = none)) ⟨⟨_, _, rfl⟩, fun _ _ _ h => h, rfl⟩ (fun i σ' H' _ hp => SqL.of (hp.2.1 _ _ n10L h10)) ?_ ?_
  · rintro i x σ' H11 hx ⟨⟨y3, y4, rfl⟩, b11, st⟩
    match i, hx, st with
    | 0, hx, st =>
      cases hx
      have st : H11 = H10 := st
      subst st
      refine i_gtup2 g6 ?_
      refine new_pair (p := p) hL (by show 0 ≤ 10; decide) (by omega) (by omega) (by omega) (by omega) fun u d l s tl H' O bb hl => ?_
      exact ⟨⟨_, _, rfl⟩, bb, u, d, l, s, tl, _, _, O, hl⟩
    | 1, hx, st =>
      cases hx
      obtain ⟨u0, d0, l0, e0, t0, pg0, wd0, O, hl⟩ := st
      refine i_gtup2 (b11 _ _ n9L g9) ?_
      refine new_pair (p := p) hl (by show 1 ≤ 10; decide) (by omega) (by omega) (by omega) (by omega) fun u d l s tl H' O1 bb hl1 => ?_
      obtain ⟨lf0, ts0, R0⟩ := O.pr
      obtain ⟨lf1, ts1, R1⟩ := O1.pr
      have Bp11 : Box H11 p (n + 10) := B10.but b11 aL.symm
      have pst : ∃ o, H11 p = some o := by obtain ⟨_, _, _, _, h, _⟩ := Bp11; exact ⟨_, h⟩
      have pst10 : ∃ o, H10 p = some o := by obtain ⟨_, _, _, _, h, _⟩ := B10; exact ⟨_, h⟩
      have ne1 : ∀ {x y : Addr}, H11 x = none → (∃ o, H11 y = some o) → x ≠ y := fun hx ⟨o, hy⟩ e => by rw [e, hy] at hx; cases hx
      have ne0 : ∀ {x y : Addr}, H10 x = none → (∃ o, H10 y = some o) → x ≠ y := fun hx ⟨o, hy⟩ e => by rw [e, hy] at hx; cases hx
      have old : ∀ x, PF d l s tl x → H10 x = none := fun x hx => by
        have z := O1.nw x hx
        cases e : H10 x with
        | none => rfl
        | some o =>
          have nl : x ≠ L := ne1 z ⟨_, hl⟩
          rw [b11 x o nl e] at z; cases z
      have aL0 : ¬ PF d0 l0 e0 t0 L := fun h => ne0 (O.nw L h) ⟨_, hL⟩ rfl
      refine ⟨⟨_, _, rfl⟩, But.trans b11 bb, u0, d0, l0, e0, t0, u, d, l, s, tl, ⟨hl1, bb _ _ (ne0 O.nu ⟨_, hL⟩) O.hu, O1.hu, ⟨_, _, _, _, R0.but bb aL0⟩, ⟨_, _, _, _, R1⟩, Bp11.but bb aL.symm⟩, ⟨aL, ne0 O.nu pst10, ne1 O1.nu pst, fun x hx => ?_, fun x hx => ?_⟩, O.nw, old⟩
      · exact ⟨ne0 (O.nw x hx) pst10, ne0 (O.nw x hx) ⟨_, hL⟩, fun e => O.un (e ▸ hx), (ne1 O1.nu (R0.here x hx)).symm, fun h => ne1 (O1.nw x h) (R0.here x hx) rfl⟩
      · exact ⟨ne1 (O1.nw x hx) pst, ne1 (O1.nw x hx) ⟨_, hl⟩, ne1 (O1.nw x hx) ⟨_, O.hu⟩, fun e => O1.un (e ▸ hx), fun h => ne1 (O1.nw x hx) (R0.here x h) rfl⟩
    | i + 2, hx, st => cases hx
  · rintro σ' H11 ⟨⟨y3, y4, rfl⟩, b11, st⟩
    obtain ⟨u0, d0, l0, e0, t0, u1, d1, l1, e1, t1, W11, F, nw0, nw1⟩ := st
    have pn : ∀ x, PF d0 l0 e0 t0 x → ¬ x = p := fun x h => (F.f0 x h).1
    have b011 : ∀ x o, x ≠ p → H x = some o → H11 x = some o ∧ ¬ PF d0 l0 e0 t0 x ∧ ¬ PF d1 l1 e1 t1 x := fun x o nx hx => by
      have z := b010 x o nx hx
      have nl : x ≠ L := fun e => by
        have y := b1 x o nx hx
        rw [e, m2] at y; cases y
      exact ⟨b11 x o nl z, fun h => (by rw [nw0 x h] at z; cases z), fun h => (by rw [nw1 x h] at z; cases z)⟩
    walk_at "go"
    refine ⟨p, 8, _, rfl, rfl, by omega, by omega, W11.bx, by omega, fun x5 H12 x50 x51 b12 B12 => ?_⟩
    have W12 := Two.but F W11 b12 B12
    walk_at "go"
    refine ⟨_, rfl, by omega, by omega, ?_⟩
    refine for_range (fun i σ' H' => (∃ nm x3 x4 x5 x6 x7 x8, σ' = [some (.ref p), some (.bl nm), some (.ref L), x3, x4, x5, x6, x7, x8]) ∧ Two a H' p L u0 d0 l0 e0 t0 u1 d1 l1 e1 t1 (n + 20 + i * 5000) ∧ Buts (fun x => x = p ∨ PF d0 l0 e0 t0 x ∨ PF d1 l1 e1 t1 x) H11 H') ⟨⟨_, _, _, _, _, _, _, rfl⟩, W12.mono (by omega), b12.buts (.inl rfl)⟩ ?_ ?_
    · rintro i σ' H13 hi ⟨⟨nm, z3, z4, z5, z6, z7, z8, rfl⟩, W13, b13⟩
      have hi' : i < 18 := by omega
      walk_at "go"
      refine ⟨p, 2, _, rfl, rfl, by omega, by omega, W13.bx, by omega, fun wh H14 w0 w1 b14 B14 => ?_⟩
      have W14 := Two.but F W13 b14 B14
      walk_at "go"
      obtain ⟨u, d, l, s, tl, pg, wd, lf, ts, u', d', l', s', tl', hu, hu', hA, R, ap, back⟩ : ∃ u d l s tl pg wd lf ts u' d' l' s' tl', atI [V.ref u0, .ref u1] wh = some (.ref u) ∧ atI [V.ref u0, .ref u1] (1 - wh) = some (.ref u') ∧ H14 u = some (.lst [.ref d, .ref s]) ∧ Pr a H14 d l s tl pg wd lf ts ∧ ¬ PF d l s tl p ∧
          ∀ H' m lf ts, Buts (fun x => x = p ∨ PF d l s tl x) H14 H' → Box H' p m → Pr a H' d l s tl pg wd lf ts → Two a H' p L u0 d0 l0 e0 t0 u1 d1 l1 e1 t1 m ∧ H' u' = some (.lst [.ref d', .ref s']) ∧ (∃ pg wd lf ts, Pr a H' d' l' s' tl' pg wd lf ts) ∧ Buts (fun x => x = p ∨ PF d0 l0 e0 t0 x ∨ PF d1 l1 e1 t1 x) H14 H' := by
        have e : wh = 0 ∨ wh = 1 := by omega
        rcases e with rfl | rfl
        · obtain ⟨pg, wd, lf, ts, R⟩ := W14.r0
          refine ⟨u0, d0, l0, e0, t0, pg, wd, lf, ts, u1, d1, l1, e1, t1, rfl, rfl, W14.h0, R, fun h => (F.f0 _ h).1 rfl, fun H' m lf ts b B R => ?_⟩
          have W := Two.deed0 F W14 b B ⟨_, _, _, _, R⟩
          exact ⟨W, W.h1, W.r1, b.imp fun x h => h.elim .inl fun h => .inr (.inl h)⟩
        · obtain ⟨pg, wd, lf, ts, R⟩ := W14.r1
          refine ⟨u1, d1, l1, e1, t1, pg, wd, lf, ts, u0, d0, l0, e0, t0, rfl, rfl, W14.h1, R, fun h => (F.f1 _ h).1 rfl, fun H' m lf ts b B R => ?_⟩
          have W := Two.deed1 F W14 b B ⟨_, _, _, _, R⟩
          exact ⟨W, W.h0, W.r0, b.imp fun x h => h.elim .inl fun h => .inr (.inr h)⟩
      refine i_ixL (v := .ref u) W14.hL hu ?_
      refine i_glst2 hA ?_
      walk_at "go"
      refine ⟨p, _, nm, d, l, s, tl, pg, wd, lf, ts, rfl, rfl, rfl, rfl, W14.bx, by omega, R, ap, fun lf15 ts15 H15 b15 B15 R15 => ?_⟩
      obtain ⟨W15, hu15, R15', b1415⟩ := back H15 _ lf15 ts15 b15 B15 R15
      walk_at "go"
      refine ifF rfl ?_
      walk_at "go"
      refine ⟨nm, d, l, s, tl, pg, wd, lf15, ts15, rfl, rfl, rfl, R15, fun H16 s16 => ?_⟩
      walk_at "go"
      refine ifF rfl ?_
      walk_at "go1"
      dsimp only
      refine i_seq ?_
      refine i_guard (fun H' => Same H16 H') (fun QB kq => ?_) (fun H17 s17 => ?_)
      · walk_at "go"
        refine i_modI (by omega) ?_
        walk_at "go"
        refine ifB (fun c => ?_) (fun c => kq _ fun _ _ h => h)
        walk_at "go"
        refine i_ixL (v := .ref u') (s16 _ _ W15.hL) hu' ?_
        walk_at "go"
        refine i_ixL (v := .ref d') (s16 _ _ hu15) rfl ?_
        walk_at "go"
        refine i_ixL (v := .ref u') (s16 _ _ W15.hL) hu' ?_
        walk_at "go"
        refine i_ixL (v := .ref s') (s16 _ _ hu15) rfl ?_
        walk_at "go"
        obtain ⟨pg', wd', lf', ts', R'⟩ := R15'
        refine ⟨nm, d', l', s', tl', pg', wd', lf', ts', rfl, rfl, rfl, R'.same s16, fun H17 s17 => ?_⟩
        walk_at "go"
        exact kq _ s17
      walk_at "go"
      have s1517 := s16.trans s17
      exact ⟨⟨_, _, _, _, _, _, _, rfl⟩, (W15.same s1517).mono (by omega), ((b13.trans (b14.buts (.inl rfl))).trans b1415).same s1517⟩
    · rintro σ' H13 ⟨⟨nm, z3, z4, z5, z6, z7, z8, rfl⟩, W13, b13⟩
      walk_at "go"
      refine ⟨_, rfl, ⟨_, SqL.of W13.hL⟩, ?_⟩
      refine i_lcL (xs := [.ref u0, .ref u1]) (fun D i acc H' => Same H13 H' ∧ acc = []) (fun D H' _ sm _ => ⟨sm, rfl⟩) (fun D i acc H' _ _ hp => SqL.of (hp.1 _ _ W13.hL)) ?_ ?_
      · rintro D i x acc H14 hD hx hl1 h14 ⟨s14, rfl⟩
        obtain ⟨u, d, l, s, tl, pg, wd, lf, ts, rfl, hu, R⟩ : ∃ u d l s tl pg wd lf ts, x = .ref u ∧ H13 u = some (.lst [.ref d, .ref s]) ∧ Pr a H13 d l s tl pg wd lf ts := by
          have hm := List.mem_of_getElem? hx
          simp only [List.mem_cons, List.not_mem_nil, or_false] at hm
          rcases hm with rfl | rfl
          · obtain ⟨pg, wd, lf, ts, R⟩ := W13.r0
            exact ⟨_, _, _, _, _, _, _, _, _, rfl, W13.h0, R⟩
          · obtain ⟨pg, wd, lf, ts, R⟩ := W13.r1
            exact ⟨_, _, _, _, _, _, _, _, _, rfl, W13.h1, R⟩
        refine i_glst2 (s14 _ _ hu) ?_
        refine ⟨rfl, ?_⟩
        walk_at "go"
        refine ⟨nm, d, l, s, tl, pg, wd, lf, ts, rfl, rfl, rfl, R.same s14, fun H15 s15 => ?_⟩
        walk_at "go"
        refine ifF rfl ?_
        exact lc_skip (s15 _ _ h14) hl1 ⟨s14.trans s15, rfl⟩
      · rintro D acc H14 hD h14 ⟨s14, rfl⟩
        walk_at "go"
        refine i_lstN (by show 0 ≤ sizeLine; decide) fun q H15 nq s15 h15 => ?_
        refine i_eqNil (s15 _ _ h14) h15 ?_
        refine k H15 fun x o nx hx => ?_
        obtain ⟨z, n0, n1⟩ := b011 x o nx hx
        exact s15 _ _ (s14 _ _ (b13 x o (fun e => e.elim nx fun e => e.elim n0 n1) z))
theorem cutV_int (ns : List Int) (lo hi : Option Int) : ∃ ms : List Int, cutV (ns.map V.int) lo hi = ms.map V.int := by
  refine ⟨((ns.drop (HT.sIx (ns.map V.int).length 0 lo)).take (HT.sIx (ns.map V.int).length (ns.map V.int).length hi - HT.sIx (ns.map V.int).length 0 lo)), ?_⟩
  unfold cutV
  rw [List.map_take, List.map_drop]
theorem o_law (T : Txt K mg a) (g_law_cell : G_law_cell P w K mg base a) (g_law_box : G_law_box P w K mg base a) (g_law_take : G_law_take P w K mg base a) (g_law_sizes_right : G_law_sizes_right P w K mg base a) (g_law_pair_right : G_law_pair_right P w K mg base a) (g_law_long_right : G_law_long_right P w K mg base a) : O_law P w K mg base a := by
  refine OkF.mk sc_law sp1_len (fun f cdv A outer s0 H vs Q E hr h => ⟨t_law K a E, d_law T g_law_cell g_law_box g_law_take g_law_sizes_right g_law_pair_right g_law_long_right hr, ?_⟩)
  obtain ⟨_, rfl, p, ns, rfl, hq, hn, k⟩ := h
  unfold t_law
  walk_at "go1"
  refine i_guard (fun H' => Same H H') (fun QB kq => ?_) (fun H9 s9 => ?_)
  · walk_at "go"
    refine i_slQ hq fun q H1 m1 s1 h1 => ?_
    obtain ⟨ms, em⟩ := cutV_int ns none (some 2)
    rw [em] at h1
    walk_at "go"
    refine ⟨q, ms, rfl, SqL.of h1, ?_⟩
    walk_at "go"
    refine i_modI (by omega) ?_
    walk_at "go"
    refine ifB (fun c => ?_) (fun c => kq _ s1)
    walk_at "go"
    refine ⟨p, ns, 2, rfl, rfl, s1.seq hq, by omega, fun r H2 s2 => ?_⟩
    walk_at "go"
    intro b H3 nb s3 B3
    walk_at "go"
    refine ⟨b, 0, rfl, B3, by omega, fun H4 b4 => ?_⟩
    walk_at "go"
    exact kq _ ((s1.trans s2).trans (Same.but s3 nb b4))
  walk_at "go"
  refine i_lenQ (s9.seq hq) ?_
  walk_at "go"
  refine ⟨_, rfl, ?_, ?_, ?_⟩
  · split <;> (try split) <;> omega
  · split <;> (try split) <;> omega
  refine for_range (fun i σ' H' => (∃ x1 x2, σ' = [some (.ref p), x1, x2]) ∧ Same H H') ⟨⟨_, _, rfl⟩, s9⟩ ?_ ?_
  · rintro i σ' H1 hi ⟨⟨x1, x2, rfl⟩, s1⟩
    walk_at "go"
    refine ⟨p, ns, _, rfl, rfl, s1.seq hq, by omega, fun r H2 s2 => ?_⟩
    walk_at "go"
    intro b H3 nb s3 B3
    have s02 := s1.trans s2
    walk_at "go1"
    dsimp only
    refine i_guard (fun H' => But b H3 H') (fun QB kq => ?_) (fun H4 b4 => ?_)
    · walk_at "go"
      refine ifB (fun c => ?_) (fun c => ?_)
      · walk_at "go"
        refine ⟨b, 2, 0, rfl, rfl, by omega, by omega, B3, by omega, fun r' H4 r0 r1 b4 B4 => ?_⟩
        walk_at "go"
        refine ⟨b, 1, _, rfl, rfl, B4, by omega, fun H5 b5 B5 => ?_⟩
        walk_at "go"
        refine ifF rfl ?_
        walk_at "go"
        refine ⟨b, _, rfl, B5, by omega, fun H6 b6 => ?_⟩
        walk_at "go"
        exact kq _ (But.trans (But.trans b4 b5) b6)
      · walk_at "go"
        refine ⟨b, _, rfl, B3, by omega, fun H6 b6 => ?_⟩
        walk_at "go"
        exact kq _ b6
    walk_at "go"
    exact ⟨⟨_, _, rfl⟩, s02.trans (Same.but s3 nb b4)⟩
  · rintro σ' H1 ⟨⟨x1, x2, rfl⟩, s1⟩
    walk_at "go"
    exact k H1
end
theorem bi_InvalidText_init : Bi "__init__" "InvalidText.__init__" s_InvalidText_init ["self", "given"] := fun _ _ _ _ _ _ us hl => match us, hl with | [_, _], _ => rfl
theorem bi_InvalidCount_init : Bi "__init__" "InvalidCount.__init__" s_InvalidCount_init ["self", "given"] := fun _ _ _ _ _ _ us hl => match us, hl with | [_, _], _ => rfl
theorem bi_InvalidPages_init : Bi "__init__" "InvalidPages.__init__" s_InvalidPages_init ["self", "given"] := fun _ _ _ _ _ _ us hl => match us, hl with | [_, _], _ => rfl
theorem bi_InvalidWidth_init : Bi "__init__" "InvalidWidth.__init__" s_InvalidWidth_init ["self", "given"] := fun _ _ _ _ _ _ us hl => match us, hl with | [_, _], _ => rfl
theorem bi_InvalidPage_init : Bi "__init__" "InvalidPage.__init__" s_InvalidPage_init ["self", "given"] := fun _ _ _ _ _ _ us hl => match us, hl with | [_, _], _ => rfl
theorem bi_PowerCut_init : Bi "__init__" "PowerCut.__init__" s_PowerCut_init ["self"] := fun _ _ _ _ _ _ us hl => match us, hl with | [_], _ => rfl
theorem bi_is_integer : Bi "is_integer" "is_integer" s_is_integer ["value"] := fun _ _ _ _ _ _ us hl => match us, hl with | [_], _ => rfl
theorem bi_is_within : Bi "is_within" "is_within" s_is_within ["value", "low", "high"] := fun _ _ _ _ _ _ us hl => match us, hl with | [_, _, _], _ => rfl
theorem bi_is_index : Bi "is_index" "is_index" s_is_index ["value", "many"] := fun _ _ _ _ _ _ us hl => match us, hl with | [_, _], _ => rfl
theorem bi_is_page_text : Bi "is_page_text" "is_page_text" s_is_page_text ["value", "width"] := fun _ _ _ _ _ _ us hl => match us, hl with | [_, _], _ => rfl
theorem bi_Disk_init : Bi "__init__" "Disk.__init__" s_Disk_init ["self", "pages", "width"] := fun _ _ _ _ _ _ us hl => match us, hl with | [_, _, _], _ => rfl
theorem bi_Disk_check : Bi "_check" "Disk._check" s_Disk_check ["self", "page"] := fun _ _ _ _ _ _ us hl => match us, hl with | [_, _], _ => rfl
theorem bi_Disk_text : Bi "text" "Disk.text" s_Disk_text ["self", "page"] := fun _ _ _ _ _ _ us hl => match us, hl with | [_, _], _ => rfl
theorem bi_Disk_write : Bi "write" "Disk.write" s_Disk_write ["self", "page", "text"] := fun _ _ _ _ _ _ us hl => match us, hl with | [_, _, _], _ => rfl
theorem bi_Disk_limit : Bi "limit" "Disk.limit" s_Disk_limit ["self", "count"] := fun _ _ _ _ _ _ us hl => match us, hl with | [_, _], _ => rfl
theorem bi_law_cell : Bi "_law_cell" "_law_cell" s_law_cell ["script", "k"] := fun _ _ _ _ _ _ us hl => match us, hl with | [_, _], _ => rfl
theorem bi_law_box : Bi "_law_box" "_law_box" s_law_box ["great"] := fun _ _ _ _ _ _ us hl => match us, hl with | [_], _ => rfl
theorem bi_law_take : Bi "_law_take" "_law_take" s_law_take ["box", "many"] := fun _ _ _ _ _ _ us hl => match us, hl with | [_, _], _ => rfl
theorem bi_law_signs : Bi "_law_signs" "_law_signs" s_law_signs [] := fun _ _ _ _ _ _ us hl => match us, hl with | [], _ => rfl
theorem bi_law_text : Bi "_law_text" "_law_text" s_law_text ["box", "many"] := fun _ _ _ _ _ _ us hl => match us, hl with | [_, _], _ => rfl
theorem bi_law_good : Bi "_law_good" "_law_good" s_law_good ["box", "width"] := fun _ _ _ _ _ _ us hl => match us, hl with | [_, _], _ => rfl
theorem bi_law_bad_text : Bi "_law_bad_text" "_law_bad_text" s_law_bad_text ["box", "width"] := fun _ _ _ _ _ _ us hl => match us, hl with | [_, _], _ => rfl
theorem bi_law_bad_page : Bi "_law_bad_page" "_law_bad_page" s_law_bad_page ["box", "pages"] := fun _ _ _ _ _ _ us hl => match us, hl with | [_, _], _ => rfl
theorem bi_law_bad_size : Bi "_law_bad_size" "_law_bad_size" s_law_bad_size ["box", "low", "high"] := fun _ _ _ _ _ _ us hl => match us, hl with | [_, _, _], _ => rfl
theorem bi_law_like : Bi "_law_like" "_law_like" s_law_like ["told", "due"] := fun _ _ _ _ _ _ us hl => match us, hl with | [_, _], _ => rfl
theorem bi_law_given : Bi "_law_given" "_law_given" s_law_given ["told", "word", "value"] := fun _ _ _ _ _ _ us hl => match us, hl with | [_, _, _], _ => rfl
theorem bi_law_made : Bi "_law_made" "_law_made" s_law_made ["pages", "width", "named"] := fun _ _ _ _ _ _ us hl => match us, hl with | [_, _, _], _ => rfl
theorem bi_law_write : Bi "_law_write" "_law_write" s_law_write ["disk", "page", "text", "named"] := fun _ _ _ _ _ _ us hl => match us, hl with | [_, _, _, _], _ => rfl
theorem bi_law_read : Bi "_law_read" "_law_read" s_law_read ["disk", "page", "named"] := fun _ _ _ _ _ _ us hl => match us, hl with | [_, _, _], _ => rfl
theorem bi_law_limit : Bi "_law_limit" "_law_limit" s_law_limit ["disk", "count", "named"] := fun _ _ _ _ _ _ us hl => match us, hl with | [_, _, _], _ => rfl
theorem bi_law_state_right : Bi "_law_state_right" "_law_state_right" s_law_state_right ["disk", "state", "named"] := fun _ _ _ _ _ _ us hl => match us, hl with | [_, _, _], _ => rfl
theorem bi_law_write_right : Bi "_law_write_right" "_law_write_right" s_law_write_right ["disk", "state", "page", "text", "named"] := fun _ _ _ _ _ _ us hl => match us, hl with | [_, _, _, _, _], _ => rfl
theorem bi_law_limit_right : Bi "_law_limit_right" "_law_limit_right" s_law_limit_right ["disk", "state", "count", "named"] := fun _ _ _ _ _ _ us hl => match us, hl with | [_, _, _, _], _ => rfl
theorem bi_law_wrong_right : Bi "_law_wrong_right" "_law_wrong_right" s_law_wrong_right ["box", "disk", "state", "named"] := fun _ _ _ _ _ _ us hl => match us, hl with | [_, _, _, _], _ => rfl
theorem bi_law_cut_right : Bi "_law_cut_right" "_law_cut_right" s_law_cut_right ["box", "disk", "state", "named"] := fun _ _ _ _ _ _ us hl => match us, hl with | [_, _, _, _], _ => rfl
theorem bi_law_deed_right : Bi "_law_deed_right" "_law_deed_right" s_law_deed_right ["box", "disk", "state", "named"] := fun _ _ _ _ _ _ us hl => match us, hl with | [_, _, _, _], _ => rfl
theorem bi_law_sizes_right : Bi "_law_sizes_right" "_law_sizes_right" s_law_sizes_right ["box", "named"] := fun _ _ _ _ _ _ us hl => match us, hl with | [_, _], _ => rfl
theorem bi_law_pair_right : Bi "_law_pair_right" "_law_pair_right" s_law_pair_right ["box"] := fun _ _ _ _ _ _ us hl => match us, hl with | [_], _ => rfl
theorem bi_law_long_right : Bi "_law_long_right" "_law_long_right" s_law_long_right ["box"] := fun _ _ _ _ _ _ us hl => match us, hl with | [_], _ => rfl
theorem bi_law : Bi "law" "law" s_law ["script"] := fun _ _ _ _ _ _ us hl => match us, hl with | [_], _ => rfl
theorem o_all {P : Program} {w : World} {K : PySem.W.Frag} {mg : Str → Option Value} {base : Heap} {a : Ad} (T : Txt K mg a) : O_law P w K mg base a := by
  have o_InvalidText_init : O_InvalidText_init P w K mg base a := o_InvalidText_init T
  have g_InvalidText : G_InvalidText P w K mg base a := T.D_InvalidText_init.to o_InvalidText_init
  have o_InvalidCount_init : O_InvalidCount_init P w K mg base a := o_InvalidCount_init T
  have g_InvalidCount : G_InvalidCount P w K mg base a := T.D_InvalidCount_init.to o_InvalidCount_init
  have o_InvalidPages_init : O_InvalidPages_init P w K mg base a := o_InvalidPages_init T
  have g_InvalidPages : G_InvalidPages P w K mg base a := T.D_InvalidPages_init.to o_InvalidPages_init
  have o_InvalidWidth_init : O_InvalidWidth_init P w K mg base a := o_InvalidWidth_init T
  have g_InvalidWidth : G_InvalidWidth P w K mg base a := T.D_InvalidWidth_init.to o_InvalidWidth_init
  have o_InvalidPage_init : O_InvalidPage_init P w K mg base a := o_InvalidPage_init T
  have g_InvalidPage : G_InvalidPage P w K mg base a := T.D_InvalidPage_init.to o_InvalidPage_init
  have o_PowerCut_init : O_PowerCut_init P w K mg base a := o_PowerCut_init T
  have g_PowerCut : G_PowerCut P w K mg base a := T.D_PowerCut_init.to o_PowerCut_init
  have o_is_integer : O_is_integer P w K mg base a := o_is_integer T
  have g_is_integer : G_is_integer P w K mg base a := T.D_is_integer.to o_is_integer
  have o_is_within : O_is_within P w K mg base a := o_is_within T g_is_integer
  have g_is_within : G_is_within P w K mg base a := T.D_is_within.to o_is_within
  have o_is_index : O_is_index P w K mg base a := o_is_index T g_is_integer
  have g_is_index : G_is_index P w K mg base a := T.D_is_index.to o_is_index
  have o_is_page_text : O_is_page_text P w K mg base a := o_is_page_text T
  have g_is_page_text : G_is_page_text P w K mg base a := T.D_is_page_text.to o_is_page_text
  have o_Disk_init : O_Disk_init P w K mg base a := o_Disk_init T g_is_within g_InvalidPages g_InvalidWidth
  have g_Disk_init : G_Disk_init P w K mg base a := T.D_Disk_init.to o_Disk_init
  have g_Disk_init_width_pages : G_Disk_init_width_pages P w K mg base a := T.D_Disk_init.toK o_Disk_init kb_Disk_init_width_pages
  have o_Disk_check : O_Disk_check P w K mg base a := o_Disk_check T g_is_index g_InvalidPage
  have g_Disk_check : G_Disk_check P w K mg base a := T.D_Disk_check.to o_Disk_check
  have o_Disk_text : O_Disk_text P w K mg base a := o_Disk_text T g_Disk_check
  have g_Disk_text : G_Disk_text P w K mg base a := T.D_Disk_text.to o_Disk_text
  have g_Disk_text_page : G_Disk_text_page P w K mg base a := T.D_Disk_text.toK o_Disk_text kb_Disk_text_page
  have o_Disk_write : O_Disk_write P w K mg base a := o_Disk_write T g_is_page_text g_Disk_check g_InvalidText g_PowerCut
  have g_Disk_write : G_Disk_write P w K mg base a := T.D_Disk_write.to o_Disk_write
  have g_Disk_write_text_page : G_Disk_write_text_page P w K mg base a := T.D_Disk_write.toK o_Disk_write kb_Disk_write_text_page
  have o_Disk_limit : O_Disk_limit P w K mg base a := o_Disk_limit T g_is_integer g_InvalidCount
  have g_Disk_limit : G_Disk_limit P w K mg base a := T.D_Disk_limit.to o_Disk_limit
  have g_Disk_limit_count : G_Disk_limit_count P w K mg base a := T.D_Disk_limit.toK o_Disk_limit kb_Disk_limit_count
  have o_law_cell : O_law_cell P w K mg base a := o_law_cell T
  have g_law_cell : G_law_cell P w K mg base a := T.D_law_cell.to o_law_cell
  have o_law_box : O_law_box P w K mg base a := o_law_box T
  have g_law_box : G_law_box P w K mg base a := T.D_law_box.to o_law_box
  have o_law_take : O_law_take P w K mg base a := o_law_take T
  have g_law_take : G_law_take P w K mg base a := T.D_law_take.to o_law_take
  have o_law_signs : O_law_signs P w K mg base a := o_law_signs T
  have g_law_signs : G_law_signs P w K mg base a := T.D_law_signs.to o_law_signs
  have o_law_text : O_law_text P w K mg base a := o_law_text T g_law_take g_law_signs
  have g_law_text : G_law_text P w K mg base a := T.D_law_text.to o_law_text
  have o_law_good : O_law_good P w K mg base a := o_law_good T g_law_take g_law_text
  have g_law_good : G_law_good P w K mg base a := T.D_law_good.to o_law_good
  have o_law_bad_text : O_law_bad_text P w K mg base a := o_law_bad_text T g_law_take g_law_text
  have g_law_bad_text : G_law_bad_text P w K mg base a := T.D_law_bad_text.to o_law_bad_text
  have o_law_bad_page : O_law_bad_page P w K mg base a := o_law_bad_page T g_law_take
  have g_law_bad_page : G_law_bad_page P w K mg base a := T.D_law_bad_page.to o_law_bad_page
  have o_law_bad_size : O_law_bad_size P w K mg base a := o_law_bad_size T g_law_take
  have g_law_bad_size : G_law_bad_size P w K mg base a := T.D_law_bad_size.to o_law_bad_size
  have o_law_like : O_law_like P w K mg base a := o_law_like T
  have g_law_like : G_law_like P w K mg base a := T.D_law_like.to o_law_like
  have o_law_given : O_law_given P w K mg base a := o_law_given T g_law_like
  have g_law_given : G_law_given P w K mg base a := T.D_law_given.to o_law_given
  have o_law_made : O_law_made P w K mg base a := o_law_made T g_Disk_init g_Disk_init_width_pages
  have g_law_made : G_law_made P w K mg base a := T.D_law_made.to o_law_made
  have o_law_write : O_law_write P w K mg base a := o_law_write T g_Disk_write g_Disk_write_text_page
  have g_law_write : G_law_write P w K mg base a := T.D_law_write.to o_law_write
  have o_law_read : O_law_read P w K mg base a := o_law_read T g_Disk_text g_Disk_text_page
  have g_law_read : G_law_read P w K mg base a := T.D_law_read.to o_law_read
  have o_law_limit : O_law_limit P w K mg base a := o_law_limit T g_Disk_limit g_Disk_limit_count
  have g_law_limit : G_law_limit P w K mg base a := T.D_law_limit.to o_law_limit
  have o_law_state_right : O_law_state_right P w K mg base a := o_law_state_right T g_Disk_text g_Disk_text_page g_law_like
  have g_law_state_right : G_law_state_right P w K mg base a := T.D_law_state_right.to o_law_state_right
  have o_law_write_right : O_law_write_right P w K mg base a := o_law_write_right T g_law_like g_law_write
  have g_law_write_right : G_law_write_right P w K mg base a := T.D_law_write_right.to o_law_write_right
  have o_law_limit_right : O_law_limit_right P w K mg base a := o_law_limit_right T g_law_like g_law_limit
  have g_law_limit_right : G_law_limit_right P w K mg base a := T.D_law_limit_right.to o_law_limit_right
  have o_law_wrong_right : O_law_wrong_right P w K mg base a := o_law_wrong_right T g_law_take g_law_good g_law_bad_text g_law_bad_page g_law_given g_law_write g_law_read g_law_limit
  have g_law_wrong_right : G_law_wrong_right P w K mg base a := T.D_law_wrong_right.to o_law_wrong_right
  have o_law_cut_right : O_law_cut_right P w K mg base a := o_law_cut_right T g_law_take g_law_text g_law_good g_law_state_right g_law_write_right g_law_limit_right g_law_wrong_right
  have g_law_cut_right : G_law_cut_right P w K mg base a := T.D_law_cut_right.to o_law_cut_right
  have o_law_deed_right : O_law_deed_right P w K mg base a := o_law_deed_right T g_law_take g_law_good g_law_write_right g_law_limit_right g_law_wrong_right g_law_cut_right
  have g_law_deed_right : G_law_deed_right P w K mg base a := T.D_law_deed_right.to o_law_deed_right
  have o_law_sizes_right : O_law_sizes_right P w K mg base a := o_law_sizes_right T g_law_take g_law_bad_size g_law_given g_law_made g_law_state_right
  have g_law_sizes_right : G_law_sizes_right P w K mg base a := T.D_law_sizes_right.to o_law_sizes_right
  have o_law_pair_right : O_law_pair_right P w K mg base a := o_law_pair_right T g_Disk_init g_law_take g_law_state_right g_law_deed_right
  have g_law_pair_right : G_law_pair_right P w K mg base a := T.D_law_pair_right.to o_law_pair_right
  have o_law_long_right : O_law_long_right P w K mg base a := o_law_long_right T g_Disk_init g_law_take g_law_state_right g_law_write_right g_law_limit_right g_law_cut_right
  have g_law_long_right : G_law_long_right P w K mg base a := T.D_law_long_right.to o_law_long_right
  have o_law : O_law P w K mg base a := o_law T g_law_cell g_law_box g_law_take g_law_sizes_right g_law_pair_right g_law_long_right
  exact o_law
theorem stage {l : PySem.W.OpenLaw} {w : World} {K : PySem.W.Frag} {h : Heap} {mg : Str → Option Value} {fa : Addr} {disk eC eG eP eT eW eX near : Addr} (X : K.In h) (G : h.Ns mainGlobals mg) (hfa : mg "law" = some (.ref fa))
    (c_Disk : PySem.W.nsIn K mainGlobals "Disk" = some (some (.ref disk)))
    (c_NearError : PySem.W.nsIn K mainGlobals "NearError" = some (some (.ref near)))
    (c_InvalidText : PySem.W.nsIn K mainGlobals "InvalidText" = some (some (.ref eT)))
    (c_InvalidCount : PySem.W.nsIn K mainGlobals "InvalidCount" = some (some (.ref eC)))
    (c_InvalidPages : PySem.W.nsIn K mainGlobals "InvalidPages" = some (some (.ref eP)))
    (c_InvalidWidth : PySem.W.nsIn K mainGlobals "InvalidWidth" = some (some (.ref eW)))
    (c_InvalidPage : PySem.W.nsIn K mainGlobals "InvalidPage" = some (some (.ref eG)))
    (c_PowerCut : PySem.W.nsIn K mainGlobals "PowerCut" = some (some (.ref eX)))
    (rest : mg "Disk" = some (.ref disk) → mg "NearError" = some (.ref near) → mg "InvalidText" = some (.ref eT) → mg "InvalidCount" = some (.ref eC) → mg "InvalidPages" = some (.ref eP) → mg "InvalidWidth" = some (.ref eW) → mg "InvalidPage" = some (.ref eG) → mg "PowerCut" = some (.ref eX) → Txt K mg ⟨disk, eC, eG, eP, eT, eW, eX, near⟩) : ∃ fd : FuncData, (∀ (s : Shared) (v : Value), BindsTo s fd ⟨[v], []⟩ [("script", v)]) ∧ ∀ base : Heap, K.In base → base.Ns mainGlobals mg → FnOk l.prog w K mg base (L2.CX l.prog w) 10 fa fd ["script"] (sp_law K) := by
  have T := rest (PySem.W.mg_of X G c_Disk) (PySem.W.mg_of X G c_NearError) (PySem.W.mg_of X G c_InvalidText) (PySem.W.mg_of X G c_InvalidCount) (PySem.W.mg_of X G c_InvalidPages) (PySem.W.mg_of X G c_InvalidWidth) (PySem.W.mg_of X G c_InvalidPage) (PySem.W.mg_of X G c_PowerCut)
  obtain ⟨f, fd, hm, F, b⟩ := T.D_law.ex
  have e := hfa.symm.trans hm
  cases e
  refine ⟨fd, fun s v => ?_, fun base _ _ => o_all T _ fd F⟩
  obtain ⟨oc, od, kV, doc, pm, an, cdv, ct, osl, rfl, lk, hcd⟩ := F.ex
  exact .of_eq rfl
theorem walk {l : PySem.W.OpenLaw} {q : Program} {loose : List Str} {XP : (Str → Option Value) → Heap → Prop} {YP : World → Heap → Prop} {d : DefRec} {K : Params → PySem.W.Frag} (hn : l.most = some 63) (hdf : d.params.defaults = [])
    (hY : ∀ (w : World) (h : Heap), YP w h → (K w.params).In h)
    (F : ∀ (w : World) (mg : Str → Option Value) (fa : Addr) (h : Heap), (K w.params).In h → h.Ns mainGlobals mg → mg d.name = some (.ref fa) →
      ∃ fd : FuncData, (∀ (s : Shared) (u : Value), BindsTo s fd ⟨[u], []⟩ [("script", u)]) ∧ ∀ base : Heap, (K w.params).In base → base.Ns mainGlobals mg → FnOk l.prog w (K w.params) mg base (L2.CX l.prog w) 10 fa fd ["script"] (sp_law (K w.params))) :
    PySem.W.WalkO q loose XP YP l.row.toRowW d [] (fun f vs => PySem.call f vs) :=
  L2.walk_of (n := 63) (k := 10) (x := "script") (CX := fun w => L2.CX l.prog w) (sp := fun w => sp_law (K w.params)) hn (by decide) hdf ⟨rfl, by decide, by decide⟩ hY F (fun _ _ a ns hl _ hS => ⟨_, rfl, a, ns, rfl, hS, hl, fun _ => rfl⟩) fun _ _ _ _ _ z => by
    obtain ⟨_, _, _, _, _, _, _, _, _, _, _, _, h⟩ := z
    exact h
end K95
open PySem PySem.W PyProof.Rows
set_option maxRecDepth 100000 in
set_option maxHeartbeats 0 in
theorem PySem.Challenge.cw_callhall_k95_disks_by_own_states_holds : PySem.Challenge.rw_callhall_k95_disks_by_own_states.Holds := by
  w_on; o_law; k_head; (case hw => w_witness2)
  k_fill
  refine K95.walk (l := PySem.Challenge.rw_callhall_k95_disks_by_own_states) rfl rfl (fun w h Y => PySem.W.kIn_of Y) ?F
  case F =>
    intro w mg fa h KX G hmg
    refine' K95.stage KX G hmg ?c_Disk ?c_NearError ?c_InvalidText ?c_InvalidCount ?c_InvalidPages ?c_InvalidWidth ?c_InvalidPage ?c_PowerCut ?rest
    (case c_Disk => k_is)
    (case c_NearError => k_is)
    (case c_InvalidText => k_is)
    (case c_InvalidCount => k_is)
    (case c_InvalidPages => k_is)
    (case c_InvalidWidth => k_is)
    (case c_InvalidPage => k_is)
    (case c_PowerCut => k_is)
    case rest =>
    intro m_Disk m_NearError m_InvalidText m_InvalidCount m_InvalidPages m_InvalidWidth m_InvalidPage m_PowerCut
    refine' ⟨?b_abs, ?b_all, ?b_bool, ?b_dict, ?b_int, ?b_isinstance, ?b_len, ?b_list, ?b_max, ?b_min, ?b_range, ?b_str, ?b_sum, ?b_tuple, ?k_LEAST_PAGES, ?k_LEAST_WIDTH, ?k_MOST_PAGES, ?k_MOST_WIDTH, ?c_Disk, ?c_NearError, ?c_InvalidText, ?c_InvalidCount, ?c_InvalidPages, ?c_InvalidWidth, ?c_InvalidPage, ?c_PowerCut, ?cl_Disk, ?na_Disk_pages, ?na_Disk_width, ?na_Disk_left, ?na_Disk_texts, ?in_Disk, ?near, ?xf_InvalidText, ?ec_InvalidText, ?xf_InvalidCount, ?ec_InvalidCount, ?xf_InvalidPages, ?ec_InvalidPages, ?xf_InvalidWidth, ?ec_InvalidWidth, ?xf_InvalidPage, ?ec_InvalidPage, ?ec_PowerCut, ?exm_InvalidPages_InvalidPages, ?exm_InvalidWidth_InvalidPages, ?exm_InvalidWidth_InvalidWidth, ?exm_InvalidPage_InvalidPage, ?exm_InvalidText_InvalidPage, ?exm_InvalidText_InvalidText, ?exm_PowerCut_InvalidPage, ?exm_PowerCut_InvalidText, ?exm_PowerCut_PowerCut, ?exm_InvalidCount_InvalidCount, ?D_InvalidText_init, ?D_InvalidCount_init, ?D_InvalidPages_init, ?D_InvalidWidth_init, ?D_InvalidPage_init, ?D_PowerCut_init, ?D_is_integer, ?D_is_within, ?D_is_index, ?D_is_page_text, ?D_Disk_init, ?D_Disk_check, ?D_Disk_text, ?D_Disk_write, ?D_Disk_limit, ?D_law_cell, ?D_law_box, ?D_law_take, ?D_law_signs, ?D_law_text, ?D_law_good, ?D_law_bad_text, ?D_law_bad_page, ?D_law_bad_size, ?D_law_like, ?D_law_given, ?D_law_made, ?D_law_write, ?D_law_read, ?D_law_limit, ?D_law_state_right, ?D_law_write_right, ?D_law_limit_right, ?D_law_wrong_right, ?D_law_cut_right, ?D_law_deed_right, ?D_law_sizes_right, ?D_law_pair_right, ?D_law_long_right, ?D_law⟩
    (case b_abs => exact PySem.W.mg_none_of KX G (by k_is))
    (case b_all => exact PySem.W.mg_none_of KX G (by k_is))
    (case b_bool => exact PySem.W.mg_none_of KX G (by k_is))
    (case b_dict => exact PySem.W.mg_none_of KX G (by k_is))
    (case b_int => exact PySem.W.mg_none_of KX G (by k_is))
    (case b_isinstance => exact PySem.W.mg_none_of KX G (by k_is))
    (case b_len => exact PySem.W.mg_none_of KX G (by k_is))
    (case b_list => exact PySem.W.mg_none_of KX G (by k_is))
    (case b_max => exact PySem.W.mg_none_of KX G (by k_is))
    (case b_min => exact PySem.W.mg_none_of KX G (by k_is))
    (case b_range => exact PySem.W.mg_none_of KX G (by k_is))
    (case b_str => exact PySem.W.mg_none_of KX G (by k_is))
    (case b_sum => exact PySem.W.mg_none_of KX G (by k_is))
    (case b_tuple => exact PySem.W.mg_none_of KX G (by k_is))
    (case k_LEAST_PAGES => refine' Lay.const_mk KX G ?a; (case a => k_is))
    (case k_LEAST_WIDTH => refine' Lay.const_mk KX G ?a; (case a => k_is))
    (case k_MOST_PAGES => refine' Lay.const_mk KX G ?a; (case a => k_is))
    (case k_MOST_WIDTH => refine' Lay.const_mk KX G ?a; (case a => k_is))
    (case c_Disk => exact m_Disk)
    (case c_NearError => exact m_NearError)
    (case c_InvalidText => exact m_InvalidText)
    (case c_InvalidCount => exact m_InvalidCount)
    (case c_InvalidPages => exact m_InvalidPages)
    (case c_InvalidWidth => exact m_InvalidWidth)
    (case c_InvalidPage => exact m_InvalidPage)
    (case c_PowerCut => exact m_PowerCut)
    (case cl_Disk => exact ⟨by k_is, by k_is, by k_is, by k_is⟩)
    (case na_Disk_pages => show PySem.W.findIn _ _ _ = some none; k_is)
    (case na_Disk_width => show PySem.W.findIn _ _ _ = some none; k_is)
    (case na_Disk_left => show PySem.W.findIn _ _ _ = some none; k_is)
    (case na_Disk_texts => show PySem.W.findIn _ _ _ = some none; k_is)
    (case in_Disk => exact ⟨by k_is, by k_is, by k_is, by k_is, Lay.kit_self⟩)
    (case near => exact Lay.near_mk KX G m_NearError (by k_is) (by k_is) (by k_is))
    (case xf_InvalidText => exact ⟨⟨by k_is, by k_is, by k_is, by k_is⟩, by k_is⟩)
    (case ec_InvalidText => exact ⟨⟨by k_is, by k_is, by k_is, by k_is, by k_is, by k_is, by k_is, by k_is⟩, Lay.kit_ref (by decide +kernel) (by k_is) (by k_is) (by k_is)⟩)
    (case xf_InvalidCount => exact ⟨⟨by k_is, by k_is, by k_is, by k_is⟩, by k_is⟩)
    (case ec_InvalidCount => exact ⟨⟨by k_is, by k_is, by k_is, by k_is, by k_is, by k_is, by k_is, by k_is⟩, Lay.kit_ref (by decide +kernel) (by k_is) (by k_is) (by k_is)⟩)
    (case xf_InvalidPages => exact ⟨⟨by k_is, by k_is, by k_is, by k_is⟩, by k_is⟩)
    (case ec_InvalidPages => exact ⟨⟨by k_is, by k_is, by k_is, by k_is, by k_is, by k_is, by k_is, by k_is⟩, Lay.kit_ref (by decide +kernel) (by k_is) (by k_is) (by k_is)⟩)
    (case xf_InvalidWidth => exact ⟨⟨by k_is, by k_is, by k_is, by k_is⟩, by k_is⟩)
    (case ec_InvalidWidth => exact ⟨⟨by k_is, by k_is, by k_is, by k_is, by k_is, by k_is, by k_is, by k_is⟩, Lay.kit_ref (by decide +kernel) (by k_is) (by k_is) (by k_is)⟩)
    (case xf_InvalidPage => exact ⟨⟨by k_is, by k_is, by k_is, by k_is⟩, by k_is⟩)
    (case ec_InvalidPage => exact ⟨⟨by k_is, by k_is, by k_is, by k_is, by k_is, by k_is, by k_is, by k_is⟩, Lay.kit_ref (by decide +kernel) (by k_is) (by k_is) (by k_is)⟩)
    (case ec_PowerCut => exact ⟨⟨by k_is, by k_is, by k_is, by k_is, by k_is, by k_is, by k_is, by k_is⟩, Lay.kit_ref (by decide +kernel) (by k_is) (by k_is) (by k_is)⟩)
    (case exm_InvalidPages_InvalidPages => exact PySem.W.exm_ref (by k_is) (by k_is) (by k_is) (by k_is))
    (case exm_InvalidWidth_InvalidPages => exact PySem.W.exm_ref (by k_is) (by k_is) (by k_is) (by k_is))
    (case exm_InvalidWidth_InvalidWidth => exact PySem.W.exm_ref (by k_is) (by k_is) (by k_is) (by k_is))
    (case exm_InvalidPage_InvalidPage => exact PySem.W.exm_ref (by k_is) (by k_is) (by k_is) (by k_is))
    (case exm_InvalidText_InvalidPage => exact PySem.W.exm_ref (by k_is) (by k_is) (by k_is) (by k_is))
    (case exm_InvalidText_InvalidText => exact PySem.W.exm_ref (by k_is) (by k_is) (by k_is) (by k_is))
    (case exm_PowerCut_InvalidPage => exact PySem.W.exm_ref (by k_is) (by k_is) (by k_is) (by k_is))
    (case exm_PowerCut_InvalidText => exact PySem.W.exm_ref (by k_is) (by k_is) (by k_is) (by k_is))
    (case exm_PowerCut_PowerCut => exact PySem.W.exm_ref (by k_is) (by k_is) (by k_is) (by k_is))
    (case exm_InvalidCount_InvalidCount => exact PySem.W.exm_ref (by k_is) (by k_is) (by k_is) (by k_is))
    (case D_InvalidText_init => refine' Lay.dfnE_mk m_InvalidText ?ox K95.bi_InvalidText_init ?a ?t ?l ?c ?k; (case ox => refine' Lay.oex_mk ?xL ?hb ?sa ?exC ?tyC ?kC; (case xL => k_is); (case hb => decide +kernel); (case sa => k_is); (case exC => k_is); (case tyC => k_is); (case kC => k_is)); (case a => k_is); (case t => k_is); (case l => k_is); (case c => k_is); (case k => k_is))
    (case D_InvalidCount_init => refine' Lay.dfnE_mk m_InvalidCount ?ox K95.bi_InvalidCount_init ?a ?t ?l ?c ?k; (case ox => refine' Lay.oex_mk ?xL ?hb ?sa ?exC ?tyC ?kC; (case xL => k_is); (case hb => decide +kernel); (case sa => k_is); (case exC => k_is); (case tyC => k_is); (case kC => k_is)); (case a => k_is); (case t => k_is); (case l => k_is); (case c => k_is); (case k => k_is))
    (case D_InvalidPages_init => refine' Lay.dfnE_mk m_InvalidPages ?ox K95.bi_InvalidPages_init ?a ?t ?l ?c ?k; (case ox => refine' Lay.oex_mk ?xL ?hb ?sa ?exC ?tyC ?kC; (case xL => k_is); (case hb => decide +kernel); (case sa => k_is); (case exC => k_is); (case tyC => k_is); (case kC => k_is)); (case a => k_is); (case t => k_is); (case l => k_is); (case c => k_is); (case k => k_is))
    (case D_InvalidWidth_init => refine' Lay.dfnE_mk m_InvalidWidth ?ox K95.bi_InvalidWidth_init ?a ?t ?l ?c ?k; (case ox => refine' Lay.oex_mk ?xL ?hb ?sa ?exC ?tyC ?kC; (case xL => k_is); (case hb => decide +kernel); (case sa => k_is); (case exC => k_is); (case tyC => k_is); (case kC => k_is)); (case a => k_is); (case t => k_is); (case l => k_is); (case c => k_is); (case k => k_is))
    (case D_InvalidPage_init => refine' Lay.dfnE_mk m_InvalidPage ?ox K95.bi_InvalidPage_init ?a ?t ?l ?c ?k; (case ox => refine' Lay.oex_mk ?xL ?hb ?sa ?exC ?tyC ?kC; (case xL => k_is); (case hb => decide +kernel); (case sa => k_is); (case exC => k_is); (case tyC => k_is); (case kC => k_is)); (case a => k_is); (case t => k_is); (case l => k_is); (case c => k_is); (case k => k_is))
    (case D_PowerCut_init => refine' Lay.dfnE_mk m_PowerCut ?ox K95.bi_PowerCut_init ?a ?t ?l ?c ?k; (case ox => refine' Lay.oex_mk ?xL ?hb ?sa ?exC ?tyC ?kC; (case xL => k_is); (case hb => decide +kernel); (case sa => k_is); (case exC => k_is); (case tyC => k_is); (case kC => k_is)); (case a => k_is); (case t => k_is); (case l => k_is); (case c => k_is); (case k => k_is))
    (case D_is_integer => refine' Lay.dfn_mk KX G K95.bi_is_integer ?a ?l ?c ?k; (case a => k_is); (case l => k_is); (case c => k_is); (case k => k_is))
    (case D_is_within => refine' Lay.dfn_mk KX G K95.bi_is_within ?a ?l ?c ?k; (case a => k_is); (case l => k_is); (case c => k_is); (case k => k_is))
    (case D_is_index => refine' Lay.dfn_mk KX G K95.bi_is_index ?a ?l ?c ?k; (case a => k_is); (case l => k_is); (case c => k_is); (case k => k_is))
    (case D_is_page_text => refine' Lay.dfn_mk KX G K95.bi_is_page_text ?a ?l ?c ?k; (case a => k_is); (case l => k_is); (case c => k_is); (case k => k_is))
    (case D_Disk_init => refine' Lay.dfnI_mk K95.bi_Disk_init ?mk ?kc ?a ?i ?l ?c ?k; (case mk => k_is); (case kc => k_is); (case a => k_is); (case i => k_is); (case l => k_is); (case c => k_is); (case k => k_is))
    (case D_Disk_check => refine' Lay.dfnM_mk K95.bi_Disk_check ?a ?i ?l ?c ?k; (case a => k_is); (case i => k_is); (case l => k_is); (case c => k_is); (case k => k_is))
    (case D_Disk_text => refine' Lay.dfnM_mk K95.bi_Disk_text ?a ?i ?l ?c ?k; (case a => k_is); (case i => k_is); (case l => k_is); (case c => k_is); (case k => k_is))
    (case D_Disk_write => refine' Lay.dfnM_mk K95.bi_Disk_write ?a ?i ?l ?c ?k; (case a => k_is); (case i => k_is); (case l => k_is); (case c => k_is); (case k => k_is))
    (case D_Disk_limit => refine' Lay.dfnM_mk K95.bi_Disk_limit ?a ?i ?l ?c ?k; (case a => k_is); (case i => k_is); (case l => k_is); (case c => k_is); (case k => k_is))
    (case D_law_cell => refine' Lay.dfn_mk KX G K95.bi_law_cell ?a ?l ?c ?k; (case a => k_is); (case l => k_is); (case c => k_is); (case k => k_is))
    (case D_law_box => refine' Lay.dfn_mk KX G K95.bi_law_box ?a ?l ?c ?k; (case a => k_is); (case l => k_is); (case c => k_is); (case k => k_is))
    (case D_law_take => refine' Lay.dfn_mk KX G K95.bi_law_take ?a ?l ?c ?k; (case a => k_is); (case l => k_is); (case c => k_is); (case k => k_is))
    (case D_law_signs => refine' Lay.dfn_mk KX G K95.bi_law_signs ?a ?l ?c ?k; (case a => k_is); (case l => k_is); (case c => k_is); (case k => k_is))
    (case D_law_text => refine' Lay.dfn_mk KX G K95.bi_law_text ?a ?l ?c ?k; (case a => k_is); (case l => k_is); (case c => k_is); (case k => k_is))
    (case D_law_good => refine' Lay.dfn_mk KX G K95.bi_law_good ?a ?l ?c ?k; (case a => k_is); (case l => k_is); (case c => k_is); (case k => k_is))
    (case D_law_bad_text => refine' Lay.dfn_mk KX G K95.bi_law_bad_text ?a ?l ?c ?k; (case a => k_is); (case l => k_is); (case c => k_is); (case k => k_is))
    (case D_law_bad_page => refine' Lay.dfn_mk KX G K95.bi_law_bad_page ?a ?l ?c ?k; (case a => k_is); (case l => k_is); (case c => k_is); (case k => k_is))
    (case D_law_bad_size => refine' Lay.dfn_mk KX G K95.bi_law_bad_size ?a ?l ?c ?k; (case a => k_is); (case l => k_is); (case c => k_is); (case k => k_is))
    (case D_law_like => refine' Lay.dfn_mk KX G K95.bi_law_like ?a ?l ?c ?k; (case a => k_is); (case l => k_is); (case c => k_is); (case k => k_is))
    (case D_law_given => refine' Lay.dfn_mk KX G K95.bi_law_given ?a ?l ?c ?k; (case a => k_is); (case l => k_is); (case c => k_is); (case k => k_is))
    (case D_law_made => refine' Lay.dfn_mk KX G K95.bi_law_made ?a ?l ?c ?k; (case a => k_is); (case l => k_is); (case c => k_is); (case k => k_is))
    (case D_law_write => refine' Lay.dfn_mk KX G K95.bi_law_write ?a ?l ?c ?k; (case a => k_is); (case l => k_is); (case c => k_is); (case k => k_is))
    (case D_law_read => refine' Lay.dfn_mk KX G K95.bi_law_read ?a ?l ?c ?k; (case a => k_is); (case l => k_is); (case c => k_is); (case k => k_is))
    (case D_law_limit => refine' Lay.dfn_mk KX G K95.bi_law_limit ?a ?l ?c ?k; (case a => k_is); (case l => k_is); (case c => k_is); (case k => k_is))
    (case D_law_state_right => refine' Lay.dfn_mk KX G K95.bi_law_state_right ?a ?l ?c ?k; (case a => k_is); (case l => k_is); (case c => k_is); (case k => k_is))
    (case D_law_write_right => refine' Lay.dfn_mk KX G K95.bi_law_write_right ?a ?l ?c ?k; (case a => k_is); (case l => k_is); (case c => k_is); (case k => k_is))
    (case D_law_limit_right => refine' Lay.dfn_mk KX G K95.bi_law_limit_right ?a ?l ?c ?k; (case a => k_is); (case l => k_is); (case c => k_is); (case k => k_is))
    (case D_law_wrong_right => refine' Lay.dfn_mk KX G K95.bi_law_wrong_right ?a ?l ?c ?k; (case a => k_is); (case l => k_is); (case c => k_is); (case k => k_is))
    (case D_law_cut_right => refine' Lay.dfn_mk KX G K95.bi_law_cut_right ?a ?l ?c ?k; (case a => k_is); (case l => k_is); (case c => k_is); (case k => k_is))
    (case D_law_deed_right => refine' Lay.dfn_mk KX G K95.bi_law_deed_right ?a ?l ?c ?k; (case a => k_is); (case l => k_is); (case c => k_is); (case k => k_is))
    (case D_law_sizes_right => refine' Lay.dfn_mk KX G K95.bi_law_sizes_right ?a ?l ?c ?k; (case a => k_is); (case l => k_is); (case c => k_is); (case k => k_is))
    (case D_law_pair_right => refine' Lay.dfn_mk KX G K95.bi_law_pair_right ?a ?l ?c ?k; (case a => k_is); (case l => k_is); (case c => k_is); (case k => k_is))
    (case D_law_long_right => refine' Lay.dfn_mk KX G K95.bi_law_long_right ?a ?l ?c ?k; (case a => k_is); (case l => k_is); (case c => k_is); (case k => k_is))
    (case D_law => refine' Lay.dfn_mk KX G K95.bi_law ?a ?l ?c ?k; (case a => k_is); (case l => k_is); (case c => k_is); (case k => k_is))

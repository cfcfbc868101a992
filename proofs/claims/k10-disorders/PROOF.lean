import PyProof.Rows.All
import Wide.All
import OpenK.AllK
import Wide.FinOn
import PyProof.Rows.StrIntSpec
import PyProof.StrBlock2
import HandS.ForMost
import HandS.Exc
import HandS.TryOnly
import HandS.ExcOwn
import HandS.WordsExc
import HandS.More
import HandS.Property
import HandS.ClsMeth
import HandS.IsInst
import HandS.FStr
import HandS.SortInts
import HandS.Wide
import HandS.Flow
import HandS.SlotsOwn
import HandS.Conv
import KE.Datum
import KE.DatumMore
import HandS.Walk
import HandS.TupAny
import HandS.Style
import KE.GoesMore
import PyProof.EnumMake
import HandS.ExcInit
import HandS.ExcField
import HandS.ExcIs
import PyProof.ReprRoads
import HandS.Dict
import HandS.EndBits
import KE.KExcIs
import HandS.Star
import PyProof.ReprLen
import PyProof.InstEq
import KE.SortData
import KE.DataMinMax
import KE.DataFind
import KE.DatumIndex
import KE.KOpsOwn
import PySem.Challenge.RW_turnedcards_k10_disorders_and_best_neigh
set_option Elab.async false
set_option linter.all false
set_option maxRecDepth 100000
set_option maxHeartbeats 4000000
/-! Rules of our own over the hand layer. -/
namespace TC
open PySem PySem.Spec PyProof.Rows L2

/-! ### a static method, called through its class -/
structure SMet (K : PySem.W.Frag) (C : Addr) (mc : Value) (m : Str) (p g : Addr) : Prop where
  at_ : PySem.W.findCls K (.ref C) mc m = some (.get (.builtin "staticmethod.__get__") (.ref p) .none (.ref C))
  rc : ∃ rest, PySem.W.recIn K p "staticmethod" = some (.ref g :: rest)
  kp : PySem.W.keepIn K (.ref g) = true
section
variable {X : Cx} {CX : CXT} {k : Nat} {C p g : Addr} {mc : Value} {sp : Sp} {E : XK} {o e : Expr} {es : List Expr} {f m : Str} {pos apos : Pos} {ta : TE} {t : TA} {pl : Sem Bool}
theorem getsmet_ok {pins : List (Addr × Obj)} {σ : L2.St} {H : Hp} {s : Shared} {b : Bool} {Q : Value → Shared → Prop} {A : Around} {E : Value → Shared → Prop} (I : Inv X pins σ H s) (r : ClX.CRead X.K C mc) (k : SMet X.K C mc m p g)
    (h : ∀ s', Inv X pins σ H s' → Q (.ref g) s') : wpAny (model X.prog X.w) A (getAttr (.ref C) m b) Q E s := by
  obtain ⟨rest, hp⟩ := k.rc
  refine PySem.W.cls_bind I.kIn r.rd k.at_ ?_
  exact wpAny_call (PySem.W.sm_get (s := { s with toks := s.toks + 1 }) I.kIn hp (PySem.W.handed_on rfl (h _ (I.tok _))))
def tSMeth (C : Addr) (sp : Sp) (E : XK) (ta : TE) (t : TA) : TE := fun σ H Q => ta σ H fun x H1 => x = .ref C ∧ t σ H1 fun vs H2 => sp vs H2 Q E
theorem pe_smeth (he : PE X o ta) (r : ClX.CRead X.K C mc) (c : SMet X.K C mc m p g) (F : FnR X.prog X.w X.K X.mg X.base CX k g sp) (hr : Room k X.A) (hx : Passes CX X E) (ha : PA X (e :: es) t)
    (hst : starEach (e :: es) X.env = (false, eval e X.env) :: starEach es X.env := by rfl) (hpl : (backTo pos (starEach es X.env)).any (·.1) = false := by rfl)
    (ht : eval (.Call (.Attribute o m apos) (e :: es) [] pos) X.env = (do
      let ov ← eval o X.env
      standAt apos.atName
      let (f, first) ← holding [ov] (getMethod ov m pl)
      callWith pos f first (backTo pos (starEach (e :: es) X.env)) (backToKw pos (keywordEach [] X.env))) := by rfl) :
    PE X (.Call (.Attribute o m apos) (e :: es) [] pos) (tSMeth C sp E ta t) := by
  refine ⟨fun pins s σ H Q I h => ?_⟩
  refine PySem.W.methodCall_KW (pl := pl) (thn (he.run pins s σ H _ I h) fun u s1 ⟨x, H1, I1, rx, ex, q⟩ => ?_) ht
  subst ex
  obtain rfl : u = Value.ref C := rx
  refine PySem.W.method_cls I1.kIn r.ga (getsmet_ok I1 r c fun s2 I2 => ?_)
  refine PySem.W.callWith_K (h₀ := X.base) (first := []) I2.ok.mod.kin c.kp (thn (ha.run pos pins s2 σ H1 _ I2 q) fun us s3 ⟨vs, H2, I3, rv, q2⟩ => ⟨I3.kIn, ?_⟩) hst hpl
  exact wpAny_call (run_fnR F hr hx I3 rv q2)
end

/-! ### str * int -/
def rMulS : R2 := fun x y H Q => ∃ (z : Str) (n : Int), x = .str z ∧ y = .int n ∧ -(2 ^ 62) < n ∧ z.length ≤ 1 ∧ n ≤ 1000000 ∧ Q (.str (PySem.Txt.mul z n)) H
theorem op_mulS {X : Cx} : OpR X (binaryOp .Mult) rMulS := by
  intro pins s σ H x y v u Q I rx ry h
  obtain ⟨z, n, rfl, rfl, h0, h1, h2, q⟩ := h
  obtain ⟨t, rfl⟩ := rx
  obtain ⟨t', rfl⟩ := ry
  refine PySem.SB.mul ⟨?_, fun a b => ?_, fun a b => ?_⟩ fun t' k => ⟨.str (PySem.Txt.mul z n), H, I.tok _, ⟨_, rfl⟩, q⟩
  · have a1 : decide (n < -(2 ^ 63 : Int)) = false := decide_eq_false (by omega)
    have a2 : decide (n ≥ 2 ^ 63) = false := decide_eq_false (by omega)
    rw [a1, a2] <;> rfl
  · have : (2 ^ 63 - 1 : Int) / n ≥ 1 := by
      apply Int.le_ediv_of_mul_le <;> omega
    omega
  · have e : z.length = 1 := by
      have hz : z.length ≠ 0 := fun e => by rw [e] at b; simp at b
      omega
    rw [e]
    have : n.toNat ≤ 1000000 := by omega
    rw [Nat.one_mul]
    refine (decide_eq_false_iff_not).mpr ?_
    rw [Nat.not_lt]
    first | omega | (rw [sizeLine_eq]; omega)

/-! ### f'{x:>6}' -/
def spec6 : Str := ">6"
section
variable {prog : Program} {w : World} {A : Around} {E : Value → Shared → Prop} {s : Shared}
open Builtin Float in
theorem field6 {i : Int} {t : Tok} {Q : Value → Shared → Prop} (hi : i.natAbs.log2 < 1920) (hz : (intSpecTextOf spec6 i).length ≤ sizeLine) (h : Q (.str (intSpecTextOf spec6 i) (s.toks + 1)) { s with toks := s.toks + 1 + 1 }) :
    wpAny (model prog w) A (formatField (.int i t) spec6) Q E s := by
  refine wpAny_formatField_spec (T := "int") (idf := "int.__format__") (x := intSpecTextOf spec6 i) (by decide +kernel) (fun s' => typeIs_int s' i t) slot_int_format entry_int_format args_int_format (fun u => ?_) h (by decide) hz
  intro prog' w' A' R' s' hq
  obtain ⟨hq1, hq2⟩ := hq
  have hf : parseFormatSpec spec6.cps.toList "int" 62 = .ok ({ align := 62, width := some 6 } : FormatSpec) := by kernel_rfl
  have htx : intSpecTextOf spec6 i = intSpecText ({ align := 62, width := some 6 } : FormatSpec) i := by
    unfold intSpecTextOf
    rw [hf]
  rw [htx] at hq1 hq2
  unfold Builtin.«int.__format__»
  simp only [selfAndOne, noKeywords, Int.intOfSelf, asInt?, asStr?, List.isEmpty_nil, if_true, pure_bind, bind_pure, bind_assoc, Bool.false_eq_true, if_false, show (Value.str spec6 u == Value.none) = false from rfl]
  refine wpAny_bind (wpAny_typeNameOf (T := "str") (typeIs_str _ _ _) (by decide) fun _ => ?_)
  rw [if_neg (by decide), if_neg (by decide +kernel)]
  refine wpAny_bind (wpAny_typeNameOfCut_int ?_)
  simp only [hf]
  rw [if_pos (by decide +kernel)]
  refine wpAny_bind (m := Builtin.overDigitLimit? i) ?_
  rw [PySem.overDigitLimit_small hi]
  refine wpAny_pure ?_
  show wpAny _ _ (if (some 6 : Option Nat).getD 0 > 100000 then _ else _) _ _ _
  rw [if_neg (by decide)]
  show wpAny _ _ (retStr _) _ _ _
  unfold retStr
  rw [if_neg (by decide : ¬ (spec6.cps.back? == some 0) = true)]
  refine wpAny_bind (wpAny_mkStr (wpAny_pure ?_) ?_)
  · show R' _ _
    conv => arg 1; arg 1; arg 1; arg 1; whnf
    simp [intSpecText, intField'] at hq2 ⊢
    exact hq2
  · conv => lhs; arg 1; whnf
    simp [intSpecText, intField'] at hq1 ⊢
    exact hq1
end
def tFmt6 (te : TE) : TE := fun σ H Q => te σ H fun x H1 => ∃ i : Int, x = .int i ∧ i.natAbs.log2 < 1920 ∧ (intSpecTextOf spec6 i).length ≤ sizeLine ∧ Q (.str (intSpecTextOf spec6 i)) H1
theorem pe_fmt6 {X : Cx} {e : Expr} {te : TE} {pos p1 p2 : Pos} {k : Nat} (he : PE X e te) : PE X (.FormattedValue e (-1) (some (.JoinedStr [.Constant (.str ">6") k p1] p2)) pos) (tFmt6 te) := by
  refine ⟨fun pins s σ H Q I h => ?_⟩
  refine wpAny_FormattedValue_spec (thn (he.run pins s σ H _ I h) fun v s1 hv => ?_)
  obtain ⟨x, H1, I1, r1, i, rfl, hz, hz2, q⟩ := hv
  obtain ⟨t, rfl⟩ := r1
  refine wpAny_JoinedStr_one (Calls.Constant_str ?_)
  refine ⟨_, _, rfl, ?_⟩
  exact field6 hz hz2 ⟨.str _, H1, (I1.tok _).tok _, ⟨_, rfl⟩, q⟩

/-! ### what an own class says to operators and built-ins: its methods are called -/
section
variable {X : Cx} {CX : CXT} {n : Nat} {C g : Addr} {sp : Sp} {E : XK}
/-- the instance, as the library's rules take it -/
theorem inst_of {pins : List (Addr × Obj)} {σ : L2.St} {H : Hp} {s : Shared} {a C dx : Addr} {fs : List (Str × V)} (I : Inv X pins σ H s) (ea : H a = some (.ins C dx fs)) :
    ∃ od, PySem.W.InstAt s.heap a (PySem.W.instObj C dx) C (some od) := by
  obtain ⟨mA, O, _⟩ := ins_get I.hok ea
  obtain ⟨od, J, _⟩ := O.look
  exact ⟨od, J⟩
/-- len(x) of an instance -/
def rLenO (C : Addr) (sp : Sp) (E : XK) : List V → Hp → VK → Prop := fun xs H Q => ∃ a dx fs, xs = [V.ref a] ∧ H a = some (.ins C dx fs) ∧ sp [.ref a] H (fun z H' => ∃ i, z = .int i ∧ 0 ≤ i ∧ i < 2 ^ 62 ∧ Q (.int i) H') E
theorem call_lenO (hs : PySem.W.findIn X.K (.ref C) "__len__" = some (some (.ref g))) (hf : PySem.W.isFn X.K (.ref g) = true) (F : FnR X.prog X.w X.K X.mg X.base CX n g sp) (hr : Room (n + 1) X.A) (hx : Passes CX X E) :
    CallR X (.builtin "len") (rLenO C sp E) := by
  intro pins s σ H xs us Q I r h
  obtain ⟨a, dx, fs, rfl, ea, q⟩ := h
  obtain ⟨u, rfl, ru⟩ := r.one
  cases (show u = Value.ref a from ru)
  obtain ⟨od, J⟩ := inst_of I ea
  obtain ⟨m, hF⟩ := I.fr
  refine PySem.W.len_K hF I.ok.mod.kin J hs hf (wpAny_mono (wpAny_call (SlX.run_at (us := [.ref a]) (ws := [.ref a]) F hr.in1 I.env0.in1 hx I (.cons rfl .nil) q)) (fun v s' z => ?_) fun _ _ x => x)
  obtain ⟨z', H', I', rz, i, ei, i0, i1, qz⟩ := z
  subst ei
  obtain ⟨t, e⟩ := (show ∃ t, v = Value.int i t from rz)
  cases e
  exact ⟨⟨i0, by omega⟩, ⟨.int i, H', I'.tok _, ⟨_, rfl⟩, qz⟩⟩
end

/-! ### a def's promise, with its parameters -/
def FnE (P : Program) (w : World) (K : PySem.W.Frag) (mg : Str → Option Value) (base : Heap) (CX : CXT) (k : Nat) (f : Addr) (ps : List Str) (sp : Sp) : Prop :=
  ∃ fd : FuncData, FnOk P w K mg base CX k f fd ps sp ∧ Binds K fd ps []
theorem FnE.r {P : Program} {w : World} {K : PySem.W.Frag} {mg : Str → Option Value} {base : Heap} {CX : CXT} {k : Nat} {f : Addr} {ps : List Str} {sp : Sp} (F : FnE P w K mg base CX k f ps sp) : FnR P w K mg base CX k f sp := by
  obtain ⟨fd, F, b⟩ := F
  have z := F.raw b (dvs := []) .nil
  exact z.imp fun vs H Q E h => by rw [List.append_nil]; exact h
section
variable {X : Cx} {CX : CXT} {k : Nat} {f C p : Addr} {ps : List Str} {sp : Sp} {E : XK} {x m : Str} {pos np apos : Pos} {e o : Expr} {es : List Expr} {ta : TE} {t : TA}
def tCallR (sp : Sp) (E : XK) (t : TA) : TE := fun σ H Q => t σ H fun vs H1 => sp vs H1 Q E
theorem tCall_nil : tCall sp [] E t = tCallR sp E t := by
  funext σ H Q
  unfold tCall tCallR
  congr 1
  funext vs H1
  rw [List.append_nil]
theorem pe_callR (F : FnE X.prog X.w X.K X.mg X.base CX k f ps sp) (hr : Room k X.A) (hg : Gl X x) (hm : X.mg x = some (.ref f)) (hk : PySem.W.keepIn X.K (.ref f) = true) (hx : Passes CX X E)
    (ha : PA X (e :: es) t) (hdb : (x == ("__debug__" : Str)) = false := by decide) (he : starEach (e :: es) X.env = (false, eval e X.env) :: starEach es X.env := by rfl) (hpl : (backTo pos (starEach es X.env)).any (·.1) = false := by rfl) :
    PE X (.Call (.Name x np) (e :: es) [] pos) (tCallR sp E t) := by
  obtain ⟨fd, F, b⟩ := F
  rw [← tCall_nil]
  exact pe_call F hr hg hm hk b .nil hx ha hdb he hpl
theorem pe_callR0 (F : FnE X.prog X.w X.K X.mg X.base CX k f ps sp) (hr : Room k X.A) (hg : Gl X x) (hm : X.mg x = some (.ref f)) (hk : PySem.W.keepIn X.K (.ref f) = true) (hx : Passes CX X E)
    (hdb : (x == ("__debug__" : Str)) = false := by decide) : PE X (.Call (.Name x np) [] [] pos) (tCallR sp E tNil) := by
  obtain ⟨fd, F, b⟩ := F
  rw [← tCall_nil]
  exact pe_call0 F hr hg hm hk b .nil hx hdb
def tMakeR (C : Addr) (sp : Sp) (E : XK) (t : TA) : TE := fun σ H Q => t σ H fun vs H1 => ∀ x dx, H1 x = none → H1 dx = none → dx ≠ x →
  sp (.ref x :: vs) (upd (upd H1 dx (.own x)) x (.ins C dx [])) (fun v H2 => v = .non ∧ Q (.ref x) H2) E
theorem tMake_nil : tMake C sp [] E t = tMakeR C sp E t := by
  funext σ H Q
  unfold tMake tMakeR
  congr 1
  funext vs H1
  rw [List.append_nil]
theorem pe_makeR (M : Mk X.K C f) (F : FnE X.prog X.w X.K X.mg X.base CX k f ps sp) (hr : Room (k + 1) X.A) (hg : Gl X x) (hm : X.mg x = some (.ref C)) (hx : Passes CX X E)
    (ha : PA X (e :: es) t) (hdb : (x == ("__debug__" : Str)) = false := by decide) (he : starEach (e :: es) X.env = (false, eval e X.env) :: starEach es X.env := by rfl) (hpl : (backTo pos (starEach es X.env)).any (·.1) = false := by rfl) :
    PE X (.Call (.Name x np) (e :: es) [] pos) (tMakeR C sp E t) := by
  obtain ⟨fd, F, b⟩ := F
  rw [← tMake_nil]
  exact pe_make M F hr hg hm b .nil hx ha hdb he hpl
def tPropR (C : Addr) (sp : Sp) (E : XK) (ta : TE) : TE := fun σ H Q => ta σ H fun x H1 => ∃ a dx fs, x = .ref a ∧ H1 a = some (.ins C dx fs) ∧ sp [.ref a] H1 Q E
theorem pe_propR (he : PE X e ta) (c : Cls X.K C) (hp : PropOf X.K C x p f) (F : FnE X.prog X.w X.K X.mg X.base CX k f ps sp) (hr : Room (k + 1) X.A) (hx : Passes CX X.nox E)
    (hab : attributeBase e x X.env (eval e X.env) = eval e X.env) : PE X (.Attribute e x pos) (tPropR C sp E ta) := by
  obtain ⟨fd, F, b⟩ := F
  exact pe_prop (dvs := []) he c hp F hr b .nil hx hab
theorem pe_smethR {mc : Value} {pl : Sem Bool} (he : PE X o ta) (r : ClX.CRead X.K C mc) (c : SMet X.K C mc m p f) (F : FnE X.prog X.w X.K X.mg X.base CX k f ps sp) (hr : Room k X.A) (hx : Passes CX X E) (ha : PA X (e :: es) t)
    (hst : starEach (e :: es) X.env = (false, eval e X.env) :: starEach es X.env := by rfl) (hpl : (backTo pos (starEach es X.env)).any (·.1) = false := by rfl)
    (ht : eval (.Call (.Attribute o m apos) (e :: es) [] pos) X.env = (do
      let ov ← eval o X.env
      standAt apos.atName
      let (f, first) ← holding [ov] (getMethod ov m pl)
      callWith pos f first (backTo pos (starEach (e :: es) X.env)) (backToKw pos (keywordEach [] X.env))) := by rfl) :
    PE X (.Call (.Attribute o m apos) (e :: es) [] pos) (tSMeth C sp E ta t) := pe_smeth (pl := pl) he r c F.r hr hx ha hst hpl ht
end
section
variable {X : Cx} {CX : CXT} {n : Nat} {C g : Addr} {ps : List Str} {sp : Sp} {E : XK}
theorem call_lenE (hs : PySem.W.findIn X.K (.ref C) "__len__" = some (some (.ref g))) (hf : PySem.W.isFn X.K (.ref g) = true) (F : FnE X.prog X.w X.K X.mg X.base CX n g ps sp) (hr : Room (n + 1) X.A) (hx : Passes CX X E) :
    CallR X (.builtin "len") (rLenO C sp E) := call_lenO hs hf F.r hr hx
end

/-! ### ==, != of data -/
def rEqX (K : PySem.W.Frag) : R2 := fun x y H Q => ∃ d e, Dp K H x d ∧ Dp K H y e ∧ d.plain = true ∧ e.plain = true ∧ d.depth ≤ 64 ∧ Q (.bl (PyData.eqv d e)) H
def rNeX (K : PySem.W.Frag) : R2 := fun x y H Q => ∃ d e, Dp K H x d ∧ Dp K H y e ∧ d.plain = true ∧ e.plain = true ∧ d.depth ≤ 64 ∧ Q (.bl (!PyData.eqv d e)) H
section
variable {X : Cx}
theorem op_eqX (hu : X.A.units + 64 < cLine) : OpR X (compareOp .Eq) (rEqX X.K) := by
  intro pins s σ H x y v u Q I rx ry h
  obtain ⟨d, e, hd, he, pd, pe, dd, q⟩ := h
  obtain ⟨l1, r1⟩ := Dp.reads I d x v hd rx
  obtain ⟨l2, r2⟩ := Dp.reads I e y u he ry
  exact SeqAt.eq_plain r1 r2 pd pe (PySem.W.room_datum dd hu) ⟨.bl _, H, I, rfl, q⟩
theorem op_neX (hu : X.A.units + 64 < cLine) : OpR X (compareOp .NotEq) (rNeX X.K) := by
  intro pins s σ H x y v u Q I rx ry h
  obtain ⟨d, e, hd, he, pd, pe, dd, q⟩ := h
  obtain ⟨l1, r1⟩ := Dp.reads I d x v hd rx
  obtain ⟨l2, r2⟩ := Dp.reads I e y u he ry
  exact SeqAt.ne_plain r1 r2 pd pe (PySem.W.room_datum dd hu) ⟨.bl _, H, I, rfl, q⟩
end
open PySem.W (Datum Tup)
/-- v holds x -/
def Hd {α : Type} [DecidableEq α] [Datum α] (K : PySem.W.Frag) (H : Hp) (v : V) (x : α) : Prop := Dp K H v (Datum.toD x)
section
variable {α : Type} [DecidableEq α] [Datum α] {K : PySem.W.Frag} {H H' : Hp} {u v : V} {x y : α} {Q : VK}
theorem eq_hd (hu : Hd K H u x) (hv : Hd K H v y) (q : Q (.bl (decide (x = y))) H) (hd : Datum.depth α ≤ 64 := by decide) : rEqX K u v H Q :=
  ⟨_, _, hu, hv, Datum.plain x, Datum.plain y, Nat.le_trans (Datum.depth_le x) hd, by rw [Datum.eqv]; exact q⟩
theorem ne_hd (hu : Hd K H u x) (hv : Hd K H v y) (q : Q (.bl (!decide (x = y))) H) (hd : Datum.depth α ≤ 64 := by decide) : rNeX K u v H Q :=
  ⟨_, _, hu, hv, Datum.plain x, Datum.plain y, Nat.le_trans (Datum.depth_le x) hd, by rw [Datum.eqv]; exact q⟩
end

/-! ### heaps that grow -/
theorem Same.new {H : Hp} {p : Addr} {o : HO} (h : H p = none) : Same H (upd H p o) := fun b u e => by
  rw [upd_ne (ne_of_none e h)]
  exact e
theorem Same.mut {H H' : Hp} {p : Addr} {o : HO} (e : Same H H') (h : H p = none) : Same H (upd H' p o) := fun b u q => by
  rw [upd_ne (ne_of_none q h)]
  exact e b u q
theorem Same.seqT {K : PySem.W.Frag} {H H' : Hp} {a : Addr} {xs : List V} (e : Same H H') (h : SqT K H a xs) : SqT K H' a xs := by
  rcases h with (h | ⟨o, h⟩) | h
  · exact .inl (.inl (e _ _ h))
  · exact .inl (.inr ⟨o, e _ _ h⟩)
  · exact .inr h
mutual
theorem Dp.same {K : PySem.W.Frag} {H H' : Hp} (e : Same H H') : ∀ (d : PyData) (v : V), Dp K H v d → Dp K H' v d
  | .none, _, h => by cases h; exact .non
  | .bool b, _, h => by cases h; exact .bl b
  | .int i, _, h => by cases h; exact .int i
  | .str x, _, h => by cases h; exact .str x
  | .list ds, _, h => by
    cases h with
    | lst s a => exact .lst (e.seq s) (DpAll.same e ds _ a)
  | .tuple ds, _, h => by
    cases h with
    | tup s a => exact .tup (Same.seqT e s) (DpAll.same e ds _ a)
  | .dict _, _, h => by cases h
theorem DpAll.same {K : PySem.W.Frag} {H H' : Hp} (e : Same H H') : ∀ (ds : List PyData) (vs : List V), DpAll K H vs ds → DpAll K H' vs ds
  | [], _, h => by cases h; exact .nil
  | d :: ds, _, h => by
    cases h with
    | cons a b => exact .cons (Dp.same e d _ a) (DpAll.same e ds _ b)
end
section
variable {α β : Type} [DecidableEq α] [Datum α] [DecidableEq β] [Datum β] {K : PySem.W.Frag} {H H' : Hp}
theorem Hd.same {v : V} {x : α} (e : Same H H') (h : Hd K H v x) : Hd K H' v x := Dp.same e _ _ h
theorem hd_int (i : Int) : Hd K H (.int i) i := .int i
theorem hd_bl (b : Bool) : Hd K H (.bl b) b := .bl b
theorem hd_str (z : Str) : Hd K H (.str z) z := .str z
theorem dpAll_ints : ∀ ns : List Int, DpAll K H (ns.map V.int) (ns.map Datum.toD)
  | [] => .nil
  | n :: ns => .cons (.int n) (dpAll_ints ns)
theorem hd_intsL {p : Addr} {ns : List Int} (h : SqL K H p (ns.map V.int)) : Hd K H (.ref p) ns := .lst h (dpAll_ints ns)
theorem hd_intsT {p : Addr} {ns : List Int} (h : SqT K H p (ns.map V.int)) : Hd K H (.ref p) (Tup.mk ns) := .tup h (dpAll_ints ns)
end

/-! ### comprehensions of one name whose elements are plain values -/
section
variable {K : PySem.W.Frag} {σ : L2.St} {H1 : Hp} {te : TE} {tt : TT} {vs : List Nat} {j : Nat} {Qd : Addr → Hp → Prop}
/-- what holds of the new list at D behind i turns -/
def LcI (H1 : Hp) (D : Addr) (ys : Nat → List V) (i : Nat) (H : Hp) : Prop := H1 D = none ∧ Same H1 H ∧ H D = some (.lst (ys i))
theorem take_succ {α : Type} : ∀ {l : List α} {i : Nat} {x : α}, l[i]? = some x → l.take (i + 1) = l.take i ++ [x]
  | [], i, x, h => by simp at h
  | a :: l, 0, x, h => by
    cases h
    rfl
  | a :: l, i + 1, x, h => congrArg (a :: ·) (take_succ (l := l) (i := i) h)
/-- one turn -/
theorem lc_turn {D : Addr} {b : V → Bool} {f : V → V} {xs : List V} {i : Nat} {x : V} {H : Hp} (hz : xs.length ≤ 100000) (hx : xs[i]? = some x) (p : LcI H1 D (fun i => ((xs.take i).filter b).map f) i H)
    (ht : ∀ H2, Same H1 H2 → ∀ R : Bool → Hp → Prop, (∀ H3, Same H2 H3 → R (b x) H3) → tt ((wipe σ vs).set j (some x)) H2 R)
    (he : b x = true → ∀ H2, Same H1 H2 → ∀ R : VK, (∀ H3, Same H2 H3 → R (f x) H3) → te ((wipe σ vs).set j (some x)) H2 R) :
    tt ((wipe σ vs).set j (some x)) H fun c H3 => if c = true then te ((wipe σ vs).set j (some x)) H3 fun y H4 => ∃ acc, H4 D = some (.lst acc) ∧ acc.length < sizeLine ∧ LcI H1 D (fun i => ((xs.take i).filter b).map f) (i + 1) (upd H4 D (.lst (acc ++ [y])))
      else LcI H1 D (fun i => ((xs.take i).filter b).map f) (i + 1) H3 := by
  obtain ⟨p1, p2, p3⟩ := p
  refine ht H p2 _ fun H3 e3 => ?_
  cases hb : b x with
  | true =>
    refine iteT (he hb H3 (p2.trans e3) _ fun H4 e4 => ⟨_, e4 D _ (e3 D _ p3), ?_, p1, Same.mut ((p2.trans e3).trans e4) p1, ?_⟩)
    · rw [List.length_map]
      refine Nat.lt_of_le_of_lt (List.length_filter_le _ _) (Nat.lt_of_le_of_lt (List.length_take_le _ _) ?_)
      refine Nat.lt_of_lt_of_le ?_ (show 100000 ≤ sizeLine by decide)
      have := (List.getElem?_eq_some_iff.mp hx).1
      omega
    · dsimp only
      rw [upd_same, take_succ hx, List.filter_append, List.map_append, List.filter_cons, if_pos hb]
      rfl
  | false =>
    refine iteF ⟨p1, p2.trans e3, ?_⟩
    dsimp only
    rw [take_succ hx, List.filter_append, List.filter_cons, if_neg (by rw [hb]; decide), List.filter_nil, List.append_nil]
    exact e3 D _ p3
/-- over a list: f of the items that b takes -/
theorem lc_fmL {a : Addr} {xs : List V} (hx : SqL K H1 a xs) (b : V → Bool) (f : V → V) (hz : xs.length ≤ 100000) (hw : ∀ x, wipe ((wipe σ vs).set j (some x)) vs = wipe σ vs)
    (ht : ∀ x ∈ xs, ∀ H2, Same H1 H2 → ∀ R : Bool → Hp → Prop, (∀ H3, Same H2 H3 → R (b x) H3) → tt ((wipe σ vs).set j (some x)) H2 R)
    (he : ∀ x ∈ xs, b x = true → ∀ H2, Same H1 H2 → ∀ R : VK, (∀ H3, Same H2 H3 → R (f x) H3) → te ((wipe σ vs).set j (some x)) H2 R)
    (k : ∀ D H', H1 D = none → Same H1 H' → H' D = some (.lst ((xs.filter b).map f)) → Qd D H') (D : Addr) (hD : H1 D = none) :
    ∃ W : Nat → Nat → Hp → Prop, (∃ m, W 0 m (upd H1 D (.lst []))) ∧ ∀ i m H, W i m H →
      ((Itl K a).stop i H ∧ Qd D H) ∨ ((Itl K a).go i H ∧ ∃ Nx : Hp → Prop, (∀ H', Nx H' → ∃ m', m' < m ∧ W (i + 1) m' H') ∧ ∀ x H', (Itl K a).yld i H x H' → gName j x (wipe σ vs) H' fun σ2 H2 => wipe σ2 vs = wipe σ vs ∧ tt σ2 H2 fun b H3 =>
        if b = true then te σ2 H3 fun y H4 => ∃ acc, H4 D = some (.lst acc) ∧ acc.length < sizeLine ∧ Nx (upd H4 D (.lst (acc ++ [y]))) else Nx H3) :=
  lc_list (xs := xs) (LcI H1 D fun i => ((xs.take i).filter b).map f) ⟨hD, Same.new hD, upd_same⟩ (fun i H _ p => p.2.1.seq hx)
    (fun i x H hi p => ⟨hw x, lc_turn hz hi p (ht x (List.mem_of_getElem? hi)) (he x (List.mem_of_getElem? hi))⟩) fun H p => k D H hD p.2.1 (by have := p.2.2; dsimp only at this; rw [List.take_length] at this; exact this)
theorem lc_fmT {a : Addr} {xs : List V} (hx : SqT K H1 a xs) (b : V → Bool) (f : V → V) (hz : xs.length ≤ 100000) (hw : ∀ x, wipe ((wipe σ vs).set j (some x)) vs = wipe σ vs)
    (ht : ∀ x ∈ xs, ∀ H2, Same H1 H2 → ∀ R : Bool → Hp → Prop, (∀ H3, Same H2 H3 → R (b x) H3) → tt ((wipe σ vs).set j (some x)) H2 R)
    (he : ∀ x ∈ xs, b x = true → ∀ H2, Same H1 H2 → ∀ R : VK, (∀ H3, Same H2 H3 → R (f x) H3) → te ((wipe σ vs).set j (some x)) H2 R)
    (k : ∀ D H', H1 D = none → Same H1 H' → H' D = some (.lst ((xs.filter b).map f)) → Qd D H') (D : Addr) (hD : H1 D = none) :
    ∃ W : Nat → Nat → Hp → Prop, (∃ m, W 0 m (upd H1 D (.lst []))) ∧ ∀ i m H, W i m H →
      ((Itt K a).stop i H ∧ Qd D H) ∨ ((Itt K a).go i H ∧ ∃ Nx : Hp → Prop, (∀ H', Nx H' → ∃ m', m' < m ∧ W (i + 1) m' H') ∧ ∀ x H', (Itt K a).yld i H x H' → gName j x (wipe σ vs) H' fun σ2 H2 => wipe σ2 vs = wipe σ vs ∧ tt σ2 H2 fun b H3 =>
        if b = true then te σ2 H3 fun y H4 => ∃ acc, H4 D = some (.lst acc) ∧ acc.length < sizeLine ∧ Nx (upd H4 D (.lst (acc ++ [y]))) else Nx H3) :=
  lc_tup (xs := xs) (LcI H1 D fun i => ((xs.take i).filter b).map f) ⟨hD, Same.new hD, upd_same⟩ (fun i H _ p => Same.seqT p.2.1 hx)
    (fun i x H hi p => ⟨hw x, lc_turn hz hi p (ht x (List.mem_of_getElem? hi)) (he x (List.mem_of_getElem? hi))⟩) fun H p => k D H hD p.2.1 (by have := p.2.2; dsimp only at this; rw [List.take_length] at this; exact this)
/-- the ints lo, lo + 1, .. -/
def rgI (lo : Int) (n : Nat) : List Int := (List.range n).map fun (i : Nat) => lo + (i : Int)
theorem rgI_length (lo : Int) (n : Nat) : (rgI lo n).length = n := by simp [rgI]
theorem rgI_get {lo : Int} {n i : Nat} (h : i < n) : (rgI lo n)[i]? = some (lo + (i : Int)) := by simp [rgI, h]
theorem lc_fmR {lo : Int} {n : Nat} (b : V → Bool) (f : V → V) (hz : n ≤ 100000) (hw : ∀ x, wipe ((wipe σ vs).set j (some x)) vs = wipe σ vs)
    (ht : ∀ x : Int, lo ≤ x → x < lo + (n : Int) → ∀ H2, Same H1 H2 → ∀ R : Bool → Hp → Prop, (∀ H3, Same H2 H3 → R (b (.int x)) H3) → tt ((wipe σ vs).set j (some (.int x))) H2 R)
    (he : ∀ x : Int, lo ≤ x → x < lo + (n : Int) → b (.int x) = true → ∀ H2, Same H1 H2 → ∀ R : VK, (∀ H3, Same H2 H3 → R (f (.int x)) H3) → te ((wipe σ vs).set j (some (.int x))) H2 R)
    (k : ∀ D H', H1 D = none → Same H1 H' → H' D = some (.lst ((((rgI lo n).map V.int).filter b).map f)) → Qd D H') (D : Addr) (hD : H1 D = none) :
    ∃ W : Nat → Nat → Hp → Prop, (∃ m, W 0 m (upd H1 D (.lst []))) ∧ ∀ i m H, W i m H →
      ((Itr lo n).stop i H ∧ Qd D H) ∨ ((Itr lo n).go i H ∧ ∃ Nx : Hp → Prop, (∀ H', Nx H' → ∃ m', m' < m ∧ W (i + 1) m' H') ∧ ∀ x H', (Itr lo n).yld i H x H' → gName j x (wipe σ vs) H' fun σ2 H2 => wipe σ2 vs = wipe σ vs ∧ tt σ2 H2 fun b H3 =>
        if b = true then te σ2 H3 fun y H4 => ∃ acc, H4 D = some (.lst acc) ∧ acc.length < sizeLine ∧ Nx (upd H4 D (.lst (acc ++ [y]))) else Nx H3) := by
  have hl : ((rgI lo n).map V.int).length = n := by rw [List.length_map, rgI_length]
  refine lc_range (LcI H1 D fun i => ((((rgI lo n).map V.int).take i).filter b).map f) ⟨hD, Same.new hD, upd_same⟩ (fun i H hi p => ⟨hw _, ?_⟩) fun H p => k D H hD p.2.1 ?_
  · exact lc_turn (by rw [hl]; exact hz) (by rw [List.getElem?_map, rgI_get hi]; rfl) p (ht _ (by omega) (by omega)) (he _ (by omega) (by omega))
  · have := p.2.2
    dsimp only at this
    rw [List.take_of_length_le (by rw [hl]; exact Nat.le_refl _)] at this
    exact this
end

def absI (i : Int) : Int := if i < 0 then -i else i
/-! ### the same over ints, nothing left out -/
section
variable {K : PySem.W.Frag} {σ : L2.St} {H1 : Hp} {te : TE} {vs : List Nat} {j : Nat} {Qd : Addr → Hp → Prop}
/-- a value by its int -/
def onI (g : Int → V) : V → V
  | .int i => g i
  | v => v
theorem onI_map (g : Int → V) (ns : List Int) : (((ns.map V.int).filter fun _ => true).map (onI g)) = ns.map g := by
  rw [List.filter_eq_self.mpr (fun _ _ => rfl), List.map_map]
  rfl
theorem lc_mR {lo : Int} {n : Nat} (g : Int → V) (hz : n ≤ 100000) (hw : ∀ x, wipe ((wipe σ vs).set j (some x)) vs = wipe σ vs)
    (he : ∀ x : Int, lo ≤ x → x < lo + (n : Int) → ∀ H2, Same H1 H2 → ∀ R : VK, (∀ H3, Same H2 H3 → R (g x) H3) → te ((wipe σ vs).set j (some (.int x))) H2 R)
    (k : ∀ D H', H1 D = none → Same H1 H' → H' D = some (.lst ((rgI lo n).map g)) → Qd D H') (D : Addr) (hD : H1 D = none) :
    ∃ W : Nat → Nat → Hp → Prop, (∃ m, W 0 m (upd H1 D (.lst []))) ∧ ∀ i m H, W i m H →
      ((Itr lo n).stop i H ∧ Qd D H) ∨ ((Itr lo n).go i H ∧ ∃ Nx : Hp → Prop, (∀ H', Nx H' → ∃ m', m' < m ∧ W (i + 1) m' H') ∧ ∀ x H', (Itr lo n).yld i H x H' → gName j x (wipe σ vs) H' fun σ2 H2 => wipe σ2 vs = wipe σ vs ∧ tYes σ2 H2 fun b H3 =>
        if b = true then te σ2 H3 fun y H4 => ∃ acc, H4 D = some (.lst acc) ∧ acc.length < sizeLine ∧ Nx (upd H4 D (.lst (acc ++ [y]))) else Nx H3) :=
  lc_fmR (fun _ => true) (onI g) hz hw (fun x _ _ H2 _ R q => q H2 (Same.refl _)) (fun x h1 h2 _ => he x h1 h2) (fun D H' h1 h2 h3 => k D H' h1 h2 (by rw [onI_map] at h3; exact h3)) D hD
theorem lc_mL {a : Addr} {ns : List Int} (hx : SqL K H1 a (ns.map V.int)) (g : Int → V) (hz : ns.length ≤ 100000) (hw : ∀ x, wipe ((wipe σ vs).set j (some x)) vs = wipe σ vs)
    (he : ∀ x ∈ ns, ∀ H2, Same H1 H2 → ∀ R : VK, (∀ H3, Same H2 H3 → R (g x) H3) → te ((wipe σ vs).set j (some (.int x))) H2 R)
    (k : ∀ D H', H1 D = none → Same H1 H' → H' D = some (.lst (ns.map g)) → Qd D H') (D : Addr) (hD : H1 D = none) :
    ∃ W : Nat → Nat → Hp → Prop, (∃ m, W 0 m (upd H1 D (.lst []))) ∧ ∀ i m H, W i m H →
      ((Itl K a).stop i H ∧ Qd D H) ∨ ((Itl K a).go i H ∧ ∃ Nx : Hp → Prop, (∀ H', Nx H' → ∃ m', m' < m ∧ W (i + 1) m' H') ∧ ∀ x H', (Itl K a).yld i H x H' → gName j x (wipe σ vs) H' fun σ2 H2 => wipe σ2 vs = wipe σ vs ∧ tYes σ2 H2 fun b H3 =>
        if b = true then te σ2 H3 fun y H4 => ∃ acc, H4 D = some (.lst acc) ∧ acc.length < sizeLine ∧ Nx (upd H4 D (.lst (acc ++ [y]))) else Nx H3) :=
  lc_fmL hx (fun _ => true) (onI g) (by rw [List.length_map]; exact hz) hw (fun x _ H2 _ R q => q H2 (Same.refl _)) (fun x hm _ H2 e R r => by obtain ⟨i, hi, rfl⟩ := List.mem_map.mp hm; exact he i hi H2 e R r)
    (fun D H' h1 h2 h3 => k D H' h1 h2 (by rw [onI_map] at h3; exact h3)) D hD
theorem lc_mT {a : Addr} {ns : List Int} (hx : SqT K H1 a (ns.map V.int)) (g : Int → V) (hz : ns.length ≤ 100000) (hw : ∀ x, wipe ((wipe σ vs).set j (some x)) vs = wipe σ vs)
    (he : ∀ x ∈ ns, ∀ H2, Same H1 H2 → ∀ R : VK, (∀ H3, Same H2 H3 → R (g x) H3) → te ((wipe σ vs).set j (some (.int x))) H2 R)
    (k : ∀ D H', H1 D = none → Same H1 H' → H' D = some (.lst (ns.map g)) → Qd D H') (D : Addr) (hD : H1 D = none) :
    ∃ W : Nat → Nat → Hp → Prop, (∃ m, W 0 m (upd H1 D (.lst []))) ∧ ∀ i m H, W i m H →
      ((Itt K a).stop i H ∧ Qd D H) ∨ ((Itt K a).go i H ∧ ∃ Nx : Hp → Prop, (∀ H', Nx H' → ∃ m', m' < m ∧ W (i + 1) m' H') ∧ ∀ x H', (Itt K a).yld i H x H' → gName j x (wipe σ vs) H' fun σ2 H2 => wipe σ2 vs = wipe σ vs ∧ tYes σ2 H2 fun b H3 =>
        if b = true then te σ2 H3 fun y H4 => ∃ acc, H4 D = some (.lst acc) ∧ acc.length < sizeLine ∧ Nx (upd H4 D (.lst (acc ++ [y]))) else Nx H3) :=
  lc_fmT hx (fun _ => true) (onI g) (by rw [List.length_map]; exact hz) hw (fun x _ H2 _ R q => q H2 (Same.refl _)) (fun x hm _ H2 e R r => by obtain ⟨i, hi, rfl⟩ := List.mem_map.mp hm; exact he i hi H2 e R r)
    (fun D H' h1 h2 h3 => k D H' h1 h2 (by rw [onI_map] at h3; exact h3)) D hD
end

/-! ### .. as rules for a comprehension's reading -/
section
variable {K : PySem.W.Frag} {σ : L2.St} {H : Hp} {te tl : TE} {aa : TA} {vs : List Nat} {j : Nat} {R : VK}
/-- what is asked of each element and of what follows -/
def LcAsk (σ : L2.St) (vs : List Nat) (j : Nat) (te : TE) (R : VK) (ns : List Int) (g : Int → V) (H1 : Hp) : Prop :=
  (∀ x ∈ ns, ∀ H2, Same H1 H2 → ∀ R' : VK, (∀ H3, Same H2 H3 → R' (g x) H3) → te ((wipe σ vs).set j (some (.int x))) H2 R') ∧ ∀ D H', H1 D = none → Same H1 H' → H' D = some (.lst (ns.map g)) → R (.ref D) H'
theorem mem_rgI {lo : Int} {n : Nat} {z : Int} : z ∈ rgI lo n ↔ lo ≤ z ∧ z < lo + (n : Int) := by
  unfold rgI
  rw [List.mem_map]
  constructor
  · rintro ⟨k, hk, rfl⟩
    have := List.mem_range.mp hk
    omega
  · intro ⟨h1, h2⟩
    exact ⟨(z - lo).toNat, List.mem_range.mpr (by omega), by omega⟩
theorem thnA {aa : TA} {R1 R2 : List V → Hp → Prop} (mono : ∀ ws H, R1 ws H → R2 ws H) (am : aa σ H R1 → aa σ H R2) (h : aa σ H R1) : aa σ H R2 := am h
/-- a comprehension of one name, without a test, behind its iterable -/
def LcG (J : It) (σ : L2.St) (vs : List Nat) (j : Nat) (te : TE) (R : VK) (H1 : Hp) : Prop := ∀ D, H1 D = none → ∃ W : Nat → Nat → Hp → Prop, (∃ m, W 0 m (upd H1 D (.lst []))) ∧ ∀ i m H, W i m H →
    (J.stop i H ∧ R (.ref D) H) ∨ (J.go i H ∧ ∃ Nx : Hp → Prop, (∀ H', Nx H' → ∃ m', m' < m ∧ W (i + 1) m' H') ∧ ∀ x H', J.yld i H x H' → gName j x (wipe σ vs) H' fun σ2 H2 => wipe σ2 vs = wipe σ vs ∧ tYes σ2 H2 fun b H3 =>
      if b = true then te σ2 H3 fun y H4 => ∃ acc, H4 D = some (.lst acc) ∧ acc.length < sizeLine ∧ Nx (upd H4 D (.lst (acc ++ [y]))) else Nx H3)
theorem i_lcN {wi : TI} (h : wi σ H fun J H1 => LcG J σ vs j te R H1) : tLc wi (gName j) tYes te vs σ H R := h
theorem lcR {lo : Int} {n : Nat} (g : Int → V) (hw : ∀ x, wipe ((wipe σ vs).set j (some x)) vs = wipe σ vs) (hz : n ≤ 100000) (h : LcAsk σ vs j te R (rgI lo n) g H) : LcG (Itr lo n) σ vs j te R H := fun D hD =>
  lc_mR (σ := σ) (H1 := H) (te := te) (vs := vs) (j := j) (Qd := fun D H => R (.ref D) H) (lo := lo) (n := n) g hz hw (fun x h1 h2 => h.1 x (mem_rgI.mpr ⟨h1, h2⟩)) h.2 D hD
theorem lcL {a : Addr} {ns : List Int} (g : Int → V) (hw : ∀ x, wipe ((wipe σ vs).set j (some x)) vs = wipe σ vs) (hx : SqL K H a (ns.map V.int)) (hz : ns.length ≤ 100000) (h : LcAsk σ vs j te R ns g H) : LcG (Itl K a) σ vs j te R H := fun D hD =>
  lc_mL (σ := σ) (H1 := H) (te := te) (vs := vs) (j := j) (Qd := fun D H => R (.ref D) H) hx g hz hw h.1 h.2 D hD
theorem lcT {a : Addr} {ns : List Int} (g : Int → V) (hw : ∀ x, wipe ((wipe σ vs).set j (some x)) vs = wipe σ vs) (hx : SqT K H a (ns.map V.int)) (hz : ns.length ≤ 100000) (h : LcAsk σ vs j te R ns g H) : LcG (Itt K a) σ vs j te R H := fun D hD =>
  lc_mT (σ := σ) (H1 := H) (te := te) (vs := vs) (j := j) (Qd := fun D H => R (.ref D) H) hx g hz hw h.1 h.2 D hD
end

/-! ### readings by name -/
abbrev rAddI : R2 := rI0 fun i j => .int (i + j)
abbrev rSubI : R2 := rI0 fun i j => .int (i - j)
abbrev rMulI : R2 := rI (fun i j => CMul i j ∨ CMulW i j) fun i j => .int (i * j)
abbrev rDivI : R2 := rI CDivW fun i j => .int (i / j)
abbrev rModI : R2 := rI (fun _ j => 0 < j) fun i j => .int (i % j)
abbrev rPowI : R2 := rI CPow fun i j => .int (i ^ j.toNat)
abbrev rLtI : R2 := rI0 fun i j => .bl (decide (i < j))
abbrev rLeI : R2 := rI0 fun i j => .bl (decide (i ≤ j))
abbrev rGtI : R2 := rI0 fun i j => .bl (decide (j < i))
abbrev rGeI : R2 := rI0 fun i j => .bl (decide (j ≤ i))
abbrev rNeg : V → Hp → VK → Prop := rU fun i => .int (-i)
def rAddT : R2 := fun x y H Q => ∃ i j, x = .str i ∧ y = .str j ∧ i.length + j.length ≤ sizeLine ∧ Q (.str (i ++ j)) H
def rIsNo : R2 := fun x y H Q => y = .non ∧ Q (.bl (decide (x = .non))) H
def rIsNotNo : R2 := fun x y H Q => y = .non ∧ Q (.bl (!decide (x = .non))) H
def rLenS (K : PySem.W.Frag) : List V → Hp → VK → Prop := fun xs H Q => ∃ p ys, xs = [.ref p] ∧ (SqL K H p ys ∨ SqT K H p ys) ∧ Q (.int ys.length) H
def rLenT : List V → Hp → VK → Prop := fun xs H Q => ∃ z, xs = [.str z] ∧ z.length ≤ sizeLine ∧ Q (.int z.length) H
def rAbs : List V → Hp → VK → Prop := fun xs H Q => ∃ i, xs = [.int i] ∧ Q (.int (if i < 0 then -i else i)) H
def rMax2 : List V → Hp → VK → Prop := fun xs H Q => ∃ i j, xs = [.int i, .int j] ∧ Q (.int (if j > i then j else i)) H
def rMin2 : List V → Hp → VK → Prop := fun xs H Q => ∃ i j, xs = [.int i, .int j] ∧ Q (.int (if j < i then j else i)) H
def rInt1 : List V → Hp → VK → Prop := fun xs H Q => (∃ i, xs = [.int i] ∧ Q (.int i) H) ∨ ∃ k, xs = [.bl k] ∧ Q (.int (if k then 1 else 0)) H
def rStrI : List V → Hp → VK → Prop := fun xs H Q => ∃ i, xs = [.int i] ∧ i.natAbs.log2 < 1920 ∧ Q (.str (toString i)) H
def rListS (K : PySem.W.Frag) : List V → Hp → VK → Prop := fun xs H Q => ∃ p ys, xs = [.ref p] ∧ (SqL K H p ys ∨ SqT K H p ys) ∧ ∀ l, H l = none → Q (.ref l) (upd H l (.lst ys))
def rTupS (K : PySem.W.Frag) : List V → Hp → VK → Prop := fun xs H Q => ∃ p ys, xs = [.ref p] ∧ ((SqL K H p ys ∧ ∀ l, H l = none → Q (.ref l) (upd H l (.tup ys))) ∨ (SqT K H p ys ∧ Q (.ref p) H))
def rIxLT (K : PySem.W.Frag) : R2 := fun x y H Q => rIxL K x y H Q ∨ rIxT K x y H Q
def tJoined (ts : List TE) : TE := fun σ H Q => tJs ts Str.empty σ H fun out H1 => Q (.str out) H1
def rJoinT (K : PySem.W.Frag) : V → List V → Hp → VK → Prop := fun x xs H Q => ∃ a p, ∃ ys : List Str, x = .str a ∧ xs = [.ref p] ∧ (SqL K H p (ys.map V.str) ∨ SqT K H p (ys.map V.str)) ∧ (ys.map (·.length)).sum + ys.length * a.length ≤ 16777216 ∧ Q (.str (Txt.join a ys)) H
def tJoinT (K : PySem.W.Frag) (to te : TE) : TE := tM1 (rJoinT K) to te
section
variable {X : Cx}
theorem op_mulA : OpR X (binaryOp .Mult) rMulI := opI fun _ _ _ _ _ _ _ hc q => mul_int q (hc.elim CMul.ok CMulW.ok)
theorem iop_mulA : OpR X (inplaceOp .Mult) rMulI := opI fun _ _ _ _ _ _ _ hc q => imul_int q (hc.elim CMul.ok CMulW.ok)
theorem op_addT : OpR X (binaryOp .Add) rAddT := op_add_str
theorem op_isNo : OpR X (compareOp .Is) rIsNo := op_isN
theorem op_isNotNo : OpR X (compareOp .IsNot) rIsNotNo := op_notN
theorem c_lenS : CallR X (.builtin "len") (rLenS X.K) := call_len_seq
theorem c_lenT : CallR X (.builtin "len") rLenT := call_len_str
theorem c_abs : CallR X (.builtin "abs") rAbs := call_abs
theorem c_max2 (h : X.calm = true) : CallR X (.builtin "max") rMax2 := call_max2 h
theorem c_min2 (h : X.calm = true) : CallR X (.builtin "min") rMin2 := call_min2 h
theorem c_int1 : CallR X (.type "int") rInt1 := call_int1
theorem c_strI : CallR X (.type "str") rStrI := call_str_int
theorem c_listS : CallR X (.type "list") (rListS X.K) := call_list_of
theorem c_tupS : CallR X (.type "tuple") (rTupS X.K) := call_tuple_of
theorem ix_ltp : IxR X (rIxLT X.K) := ix_list.or ix_tup
theorem ip_of {op : Operator} {r : R2} (h : OpR X (inplaceOp op) r) : PIp X op r := h
theorem pe_joinT {o e : Expr} {to te : TE} {apos pos : Pos} (ho : PE X o to) (he : PE X e te) (hs : starEach [e] X.env = [(false, eval e X.env)] := by rfl) (hbase : attributeBase o "join" X.env (eval o X.env) = eval o X.env := by rfl) (hline : (apos.endLine == pos.line) = true := by rfl) :
    PE X (.Call (.Attribute o "join" apos) [e] [] pos) (tJoinT X.K to te) := pe_join ho he hs hbase hline
theorem pe_joinedN {v1 v2 : Expr} {rest : List Expr} {ts : List TE} {pos : Pos} (h : PJ X (v1 :: v2 :: rest) ts) : PE X (.JoinedStr (v1 :: v2 :: rest) pos) (tJoined ts) := pe_joined h

/-! ### a list or a tuple, walked -/
def iLT (K : PySem.W.Frag) (tl : TE) : TI := fun σ H R => tl σ H fun x H1 => ∃ a, x = .ref a ∧ (((∃ xs, SqL K H1 a xs) ∧ R (Itl K a) H1) ∨ ((∃ xs, SqT K H1 a xs) ∧ R (Itt K a) H1))
/-- an expression that is worth what is there already -/
theorem pi_ltp {tg l : Expr} {tl : TE} (hl : PE X l tl) : PI X tg l (iLT X.K tl) := by
  refine ⟨fun pins s σ H R I h => ?_⟩
  refine thn (hl.run pins s σ H _ I h) fun v s1 hv => ?_
  obtain ⟨x, H1, I1, r1, a, rfl, z⟩ := hv
  have ev : v = .ref a := r1
  subst ev
  have fp : ∀ b ∈ [s1.heap.objs.size], FpOk X pins H1 b := fun b hb => by
    obtain rfl := List.mem_singleton.mp hb
    exact I1.fpOk (Nat.le_refl _) (I1.hok.fresh (Nat.le_refl _))
  rcases z with ⟨⟨xs, hq⟩, q⟩ | ⟨⟨xs, hq⟩, q⟩
  · obtain ⟨ws, rv, p, hz⟩ := I1.list hq
    exact wpAny_pyIter_list p.isList ⟨s1.heap.objs.size, [s1.heap.objs.size], _, _, H1, rfl, I1.kept (t' := s1.toks) fun b o e => Heap.get?_push_of_some _ e, turn_list a _, ⟨_, Heap.get?_push_size _ rfl, rfl, rfl⟩, fp, q⟩
  · obtain ⟨ws, rv, p, hz⟩ := I1.tuple hq
    exact wpAny_pyIter_tuple (show s1.heap.IsTuple a ws.toArray from p) ⟨s1.heap.objs.size, [s1.heap.objs.size], _, _, H1, rfl, I1.kept (t' := s1.toks) fun b o e => Heap.get?_push_of_some _ e, turn_tuple a _, ⟨_, Heap.get?_push_size _ rfl, rfl, rfl⟩, fp, q⟩
end

/-! ### the names of built-ins that the module does not bind -/
structure Nm (mg : Str → Option Value) : Prop where
  abs : mg "abs" = none
  all : mg "all" = none
  any : mg "any" = none
  bool_ : mg "bool" = none
  dict_ : mg "dict" = none
  enumerate : mg "enumerate" = none
  int_ : mg "int" = none
  isinstance : mg "isinstance" = none
  iter : mg "iter" = none
  len : mg "len" = none
  list_ : mg "list" = none
  max : mg "max" = none
  min : mg "min" = none
  next : mg "next" = none
  range : mg "range" = none
  repr_ : mg "repr" = none
  reversed : mg "reversed" = none
  set_ : mg "set" = none
  sorted : mg "sorted" = none
  str_ : mg "str" = none
  sum : mg "sum" = none
  tuple_ : mg "tuple" = none
  zip : mg "zip" = none
section
variable {X : Cx} {x y : Expr} {tx ty : TE} {p p2 pos pos2 : Pos}
theorem g_lr1 (n : Nm X.mg) (hc : X.calm = true) (hx : PE X x tx) (hg : Gl X "list") (hg2 : Gl X "range") (na : starEach [x] X.env = (false, eval x X.env) :: starEach [] X.env := by rfl)
    (nb : starEach [Expr.Call (.Name "range" p2) [x] [] pos2] X.env = (false, eval (Expr.Call (.Name "range" p2) [x] [] pos2) X.env) :: starEach [] X.env := by rfl) :
    PE X (.Call (.Name "list" p) [.Call (.Name "range" p2) [x] [] pos2] [] pos) (tLstRg (tRg1 tx)) := pe_listRg hc hg n.list_ (prg_1 hg2 n.range hx na) nb
theorem g_lr2 (n : Nm X.mg) (hc : X.calm = true) (hx : PE X x tx) (hy : PE X y ty) (hg : Gl X "list") (hg2 : Gl X "range") (na : starEach [x, y] X.env = (false, eval x X.env) :: starEach [y] X.env := by rfl)
    (nb : starEach [y] X.env = (false, eval y X.env) :: starEach [] X.env := by rfl) (hp : (backTo pos2 (starEach [y] X.env)).any (·.1) = false := by rfl)
    (nc : starEach [Expr.Call (.Name "range" p2) [x, y] [] pos2] X.env = (false, eval (Expr.Call (.Name "range" p2) [x, y] [] pos2) X.env) :: starEach [] X.env := by rfl) :
    PE X (.Call (.Name "list" p) [.Call (.Name "range" p2) [x, y] [] pos2] [] pos) (tLstRg (tRg2 tx ty)) := pe_listRg hc hg n.list_ (prg_2 hg2 n.range hx hy na nb hp) nc
end
/-! ### the addresses of the classes -/
structure Ad where
  Arrangement : Addr
  HugeRow : Addr
  Game : Addr
  Console : Addr
  CardError : Addr
  InvalidRow : Addr
  InvalidPlace : Addr
  InvalidNumber : Addr
  InvalidStep : Addr
  InvalidWord : Addr
  InvalidCode : Addr
  InvalidName : Addr
  InvalidCommand : Addr
  SizeMismatch : Addr
  ParseError : Addr
  LimitExceeded : Addr
  NothingToUndo : Addr
  NothingToRedo : Addr

/-! ### one step of a reading at its head -/
section
variable {σ : L2.St} {H : Hp} {Q : VK} {D : Ends} {te ta tb tc to ti tl : TE} {t u : TS} {g : TG} {c c1 c2 : TT} {aa tr : TA} {x y v w : V} {K : PySem.W.Frag} {sp : Sp} {E : XK} {C : Addr} {r r' : R2} {n i j : Nat}
theorem i_seq (h : t { D with nx := u D } σ H) : tSeq t u D σ H := h
theorem i_asg (h : te σ H fun x H1 => g x σ H1 D.nx) : tAsg te g D σ H := h
theorem i_ret (h : te σ H D.rt) : tRet te D σ H := h
theorem i_retN (h : D.rt .non H) : tRetN D σ H := h
theorem i_ifs (h : c σ H fun b H1 => if b = true then t D σ H1 else u D σ H1) : tIfS c t u D σ H := h
theorem i_next (h : D.nx σ H) : tNext D σ H := h
theorem i_brk (h : D.bk σ H) : tBreak D σ H := h
theorem i_cont (h : D.ct σ H) : tCont D σ H := h
theorem i_drop (h : te σ H fun _ H1 => D.nx σ H1) : tDrop te D σ H := h
theorem i_par (h : aa σ H fun vs H1 => ∃ v w, vs = [v, w] ∧ D.nx ((σ.set i (some v)).set j (some w)) H1) : tPar i j aa D σ H := h
theorem i_aug {tp : TIp} (hx : σ[i]? = some (some x)) (h : te σ H fun y H1 => tp x y H1 fun z H2 => D.nx (σ.set i (some z)) H2) : tAug i te tp D σ H := ⟨x, hx, h⟩
theorem i_gN {R : L2.St → Hp → Prop} (h : R (σ.set i (some v)) H) : gName i v σ H R := h
theorem i_gS {ts : TSet} {R : L2.St → Hp → Prop} (h : to σ H fun o H1 => ti σ H1 fun i H2 => ts o i v H2 fun H3 => R σ H3) : gSub to ti ts v σ H R := h
theorem i_nil {R : List V → Hp → Prop} (h : R [] H) : tNil σ H R := h
theorem i_cons {R : List V → Hp → Prop} (h : te σ H fun x H1 => tr σ H1 fun xs H2 => R (x :: xs) H2) : tCons te tr σ H R := h
theorem i_tup (h : aa σ H fun xs H1 => xs.length ≤ sizeLine ∧ ∀ p, H1 p = none → Q (.ref p) (upd H1 p (.tup xs))) : tTup aa σ H Q := h
theorem i_lst (h : aa σ H fun xs H1 => xs.length ≤ sizeLine ∧ ∀ p, H1 p = none → Q (.ref p) (upd H1 p (.lst xs))) : tLst aa σ H Q := h
theorem i_op (h : ta σ H fun x H1 => tb σ H1 fun y H2 => r x y H2 Q) : tOp r ta tb σ H Q := h
theorem i_un {f : V → Hp → VK → Prop} (h : ta σ H fun x H1 => f x H1 Q) : tUn f ta σ H Q := h
theorem i_test {R : Bool → Hp → Prop} (h : te σ H fun x H' => ∃ k, x = .bl k ∧ R k H') : tTest te σ H R := h
theorem i_B {R : Bool → Hp → Prop} (h : te σ H fun x H' => ∃ k, x = .bl k ∧ R k H') : tB te σ H R := h
theorem i_bl {R : Bool → Prop} {b : Bool} (h : R b) : ∃ k, V.bl b = .bl k ∧ R k := ⟨b, rfl, h⟩
theorem iteN {A B : Prop} (h : B) : if (!true) = true then A else B := iteF h
theorem iteM {A B : Prop} (h : A) : if (!false) = true then A else B := iteT h
theorem i_dT {c A B : Prop} [Decidable c] (hc : c) (h : A) : if decide c = true then A else B := by rw [decide_eq_true hc]; exact iteT h
theorem i_dF {c A B : Prop} [Decidable c] (hc : ¬ c) (h : B) : if decide c = true then A else B := by rw [decide_eq_false hc]; exact iteF h
theorem i_nT {c A B : Prop} [Decidable c] (hc : c) (h : B) : if (!decide c) = true then A else B := by rw [decide_eq_true hc]; exact iteF h
theorem i_nF {c A B : Prop} [Decidable c] (hc : ¬ c) (h : A) : if (!decide c) = true then A else B := by rw [decide_eq_false hc]; exact iteT h
theorem i_not {R : Bool → Hp → Prop} (h : c σ H fun b H1 => R (!b) H1) : tNot c σ H R := h
theorem i_and {R : Bool → Hp → Prop} (h : c1 σ H fun b H1 => if b = true then c2 σ H1 R else R false H1) : tAnd c1 c2 σ H R := h
theorem i_or {R : Bool → Hp → Prop} (h : c1 σ H fun b H1 => if b = true then R true H1 else c2 σ H1 R) : tOr c1 c2 σ H R := h
theorem i_andV (h : ta σ H fun x H1 => ∃ b, x = .bl b ∧ if b = true then tb σ H1 Q else Q (.bl false) H1) : tAndV ta tb σ H Q := h
theorem i_orV (h : ta σ H fun x H1 => ∃ b, x = .bl b ∧ if b = true then Q (.bl true) H1 else tb σ H1 Q) : tOrV ta tb σ H Q := h
theorem i_notV (h : ta σ H fun x H1 => ∃ b, x = .bl b ∧ Q (.bl (!b)) H1) : tNotV ta σ H Q := h
theorem i_if (h : c σ H fun b H1 => if b = true then ta σ H1 Q else tb σ H1 Q) : tIf c ta tb σ H Q := h
theorem i_chain (h : ta σ H fun x H1 => tb σ H1 fun y H2 => r x y H2 fun z H3 => ∃ k, z = .bl k ∧ (if k = true then tc σ H3 fun w' H4 => r' y w' H4 Q else Q (.bl false) H3)) : tChain r r' ta tb tc σ H Q := h
theorem i_cb {f : List V → Hp → VK → Prop} (h : aa σ H fun vs H1 => f vs H1 Q) : tCB f aa σ H Q := h
theorem i_call (h : aa σ H fun vs H1 => sp vs H1 Q E) : tCallR sp E aa σ H Q := h
def MkG (C : Addr) (sp : Sp) (E : XK) (vs : List V) (Q : VK) (H1 : Hp) : Prop := ∀ x dx, H1 x = none → H1 dx = none → dx ≠ x → sp (.ref x :: vs) (upd (upd H1 dx (.own x)) x (.ins C dx [])) (fun v H2 => v = .non ∧ Q (.ref x) H2) E
theorem i_make (h : aa σ H fun vs H1 => MkG C sp E vs Q H1) : tMakeR C sp E aa σ H Q := h
theorem i_smeth (h : ta σ H fun x H1 => x = .ref C ∧ aa σ H1 fun vs H2 => sp vs H2 Q E) : tSMeth C sp E ta aa σ H Q := h
theorem i_prop (h : ta σ H fun x H1 => ∃ a dx fs, x = .ref a ∧ H1 a = some (.ins C dx fs) ∧ sp [.ref a] H1 Q E) : tPropR C sp E ta σ H Q := h
theorem i_fld {f : Str} (h : ta σ H fun x H1 => ∃ a C dx fs v, x = .ref a ∧ H1 a = some (.ins C dx fs) ∧ Cls K C ∧ NoAttr K C f ∧ fs.lookup f = some v ∧ Q v H1) : tFld K ta f σ H Q := h
theorem i_sfld {f : Str} {tv : TE} (h : tv σ H fun y H1 => ta σ H1 fun x H2 => ∃ a C dx fs, x = .ref a ∧ H2 a = some (.ins C dx fs) ∧ Cls K C ∧ NoAttr K C f ∧ fs.length < 1000 ∧ D.nx σ (upd H2 a (.ins C dx (putF f y fs)))) : sFld K ta tv f D σ H := h
theorem i_bm {T : String} {f : V → List V → Hp → VK → Prop} (h : to σ H fun x H1 => tyV K T x H1 ∧ aa σ H1 fun xs H2 => f x xs H2 Q) : tBM K T f to aa σ H Q := h
theorem i_bm0 {T : String} {f : V → List V → Hp → VK → Prop} (h : to σ H fun x H1 => tyV K T x H1 ∧ f x [] H1 Q) : tBM0 K T f to σ H Q := h
theorem i_var (hv : σ[i]? = some (some v)) (h : Q v H) : tVar i σ H Q := ⟨v, hv, h⟩
theorem i_c (h : Q v H) : tC v σ H Q := h
theorem i_rI0 {g : Int → Int → V} {i j : Int} (h : Q (g i j) H) : rI0 g (.int i) (.int j) H Q := ⟨i, j, rfl, rfl, h⟩
theorem i_rI {P : Int → Int → Prop} {g : Int → Int → V} {i j : Int} (hc : P i j) (h : Q (g i j) H) : rI P g (.int i) (.int j) H Q := ⟨i, j, rfl, rfl, hc, h⟩
theorem i_rU {g : Int → V} {i : Int} (h : Q (g i) H) : rU g (.int i) H Q := ⟨i, rfl, h⟩
theorem i_abs {i : Int} (h : Q (.int (absI i)) H) : rAbs [.int i] H Q := ⟨i, rfl, h⟩
theorem i_max2 {i j : Int} (h : Q (.int (if j > i then j else i)) H) : rMax2 [.int i, .int j] H Q := ⟨i, j, rfl, h⟩
theorem i_min2 {i j : Int} (h : Q (.int (if j < i then j else i)) H) : rMin2 [.int i, .int j] H Q := ⟨i, j, rfl, h⟩
theorem i_int1 {k : Bool} (h : Q (.int (if k then 1 else 0)) H) : rInt1 [.bl k] H Q := .inr ⟨k, rfl, h⟩
theorem i_lenL {p : Addr} {xs : List V} (hs : SqL K H p xs) (h : Q (.int (xs.length : Nat)) H) : rLenS K [.ref p] H Q := ⟨p, xs, rfl, .inl hs, h⟩
theorem i_lenT {p : Addr} {xs : List V} (hs : SqT K H p xs) (h : Q (.int (xs.length : Nat)) H) : rLenS K [.ref p] H Q := ⟨p, xs, rfl, .inr hs, h⟩
theorem i_ixL {p : Addr} {xs : List V} {i : Int} (hs : SqL K H p xs) (ha : atI xs i = some v) (h : Q v H) : rIxL K (.ref p) (.int i) H Q := ⟨p, xs, i, v, rfl, rfl, hs, ha, h⟩
theorem i_ixT {p : Addr} {xs : List V} {i : Int} (hs : SqT K H p xs) (ha : atI xs i = some v) (h : Q v H) : rIxT K (.ref p) (.int i) H Q := ⟨p, xs, i, v, rfl, rfl, hs, ha, h⟩
theorem i_setL {p : Addr} {xs : List V} {k : Int} {j : Nat} {R : Hp → Prop} (hs : H p = some (.lst xs)) (hk : ixN xs.length k = some j) (h : R (upd H p (.lst (xs.set j v)))) : rSetL (.ref p) (.int k) v H R := ⟨p, xs, k, j, rfl, rfl, hs, hk, h⟩
theorem i_app {p : Addr} {xs : List V} (hs : H p = some (.lst xs)) (hz : xs.length ≤ 100000) (h : Q .non (upd H p (.lst (xs ++ [v])))) : rAppend (.ref p) [v] H Q := ⟨p, xs, v, rfl, rfl, hs, Nat.lt_of_le_of_lt hz (by decide), h⟩
theorem i_for {wi : TI} (h : wi σ H fun J H1 => ∃ W : Nat → Nat → L2.St → Hp → Prop, (∃ m, W 0 m σ H1) ∧ ∀ i m σ H, W i m σ H →
    (J.stop i H ∧ D.nx σ H) ∨ (J.go i H ∧ ∃ N : L2.St → Hp → Prop, (∀ σ' H', N σ' H' → ∃ m', m' < m ∧ W (i + 1) m' σ' H') ∧ ∀ x H', J.yld i H x H' → g x σ H' fun σ2 H2 => t { D with nx := N, ct := N, bk := D.nx } σ2 H2)) : tFor wi g t D σ H := h
theorem i_lc {wi : TI} {ws : List Nat} (h : wi σ H fun J H1 => ∀ D, H1 D = none → ∃ W : Nat → Nat → Hp → Prop, (∃ m, W 0 m (upd H1 D (.lst []))) ∧ ∀ i m H, W i m H →
    (J.stop i H ∧ Q (.ref D) H) ∨ (J.go i H ∧ ∃ Nx : Hp → Prop, (∀ H', Nx H' → ∃ m', m' < m ∧ W (i + 1) m' H') ∧ ∀ x H', J.yld i H x H' → g x (wipe σ ws) H' fun σ2 H2 => wipe σ2 ws = wipe σ ws ∧ c σ2 H2 fun b H3 =>
      if b = true then te σ2 H3 fun y H4 => ∃ acc, H4 D = some (.lst acc) ∧ acc.length < sizeLine ∧ Nx (upd H4 D (.lst (acc ++ [y]))) else Nx H3)) : tLc wi g c te ws σ H Q := h
theorem i_rng1 {R : It → Hp → Prop} (h : aa σ H fun vs H1 => ∃ j : Int, vs = [.int j] ∧ -(2 ^ 62) ≤ j ∧ j < 2 ^ 62 ∧ R (Itr 0 j.toNat) H1) : iRng1 aa σ H R := h
theorem i_rng2 {R : It → Hp → Prop} (h : aa σ H fun vs H1 => ∃ i j : Int, vs = [.int i, .int j] ∧ (-(2 ^ 62) ≤ i ∧ i < 2 ^ 62 ∧ -(2 ^ 62) ≤ j ∧ j < 2 ^ 62) ∧ R (Itr i (j - i).toNat) H1) : iRng2 aa σ H R := h
theorem i_iL {R : It → Hp → Prop} (h : tl σ H fun x H1 => ∃ a, x = .ref a ∧ (∃ xs, SqL K H1 a xs) ∧ R (Itl K a) H1) : iList K tl σ H R := h
theorem i_iT {R : It → Hp → Prop} (h : tl σ H fun x H1 => ∃ a, x = .ref a ∧ (∃ xs, SqT K H1 a xs) ∧ R (Itt K a) H1) : iTup K tl σ H R := h
theorem i_iLT {R : It → Hp → Prop} (h : tl σ H fun x H1 => ∃ a, x = .ref a ∧ (((∃ xs, SqL K H1 a xs) ∧ R (Itl K a) H1) ∨ ((∃ xs, SqT K H1 a xs) ∧ R (Itt K a) H1))) : iLT K tl σ H R := h
theorem i_iEn {R : It → Hp → Prop} (h : aa σ H fun vs H1 => ∃ a xs, vs = [.ref a] ∧ SqL K H1 a xs ∧ R (Ite K a) H1) : iEnum K aa σ H R := h
theorem i_iZp {R : It → Hp → Prop} (h : aa σ H fun vs H1 => ∃ a b xs ys, vs = [.ref a, .ref b] ∧ SqL K H1 a xs ∧ SqL K H1 b ys ∧ R (Itz K a b) H1) : iZip K aa σ H R := h
theorem i_lr1 (h : ta σ H fun x H1 => ∃ n, x = .int n ∧ RgOk 0 n ∧ ∀ q, H1 q = none → Q (.ref q) (upd H1 q (.lst (rgV 0 n)))) : tLstRg (tRg1 ta) σ H Q := h
theorem i_lr2 (h : ta σ H fun x H1 => tb σ H1 fun y H2 => ∃ i j, x = .int i ∧ y = .int j ∧ RgOk i j ∧ ∀ q, H2 q = none → Q (.ref q) (upd H2 q (.lst (rgV i j)))) : tLstRg (tRg2 ta tb) σ H Q := h
theorem i_gT {n : Nat} {gs : TGs} {R : L2.St → Hp → Prop} (h : ∃ a xs, v = .ref a ∧ SqT K H a xs ∧ xs.length = n ∧ gs xs σ H R) : gTup K n gs v σ H R := h
theorem i_gC {gs : TGs} {R : L2.St → Hp → Prop} {xs : List V} (h : g x σ H fun σ' H' => gs xs σ' H' R) : gCons g gs (x :: xs) σ H R := ⟨x, xs, rfl, h⟩
theorem i_gNil {R : L2.St → Hp → Prop} (h : R σ H) : gNil [] σ H R := ⟨rfl, h⟩
theorem i_sl {f : V → Option Int → Option Int → Hp → VK → Prop} {lo hi : TO} (h : te σ H fun x H1 => lo σ H1 fun l H2 => hi σ H2 fun u H3 => f x l u H3 Q) : tSl f te lo hi σ H Q := h
theorem i_noP {R : Option Int → Hp → Prop} (h : R none H) : tNoPart σ H R := h
theorem i_prt {R : Option Int → Hp → Prop} (h : te σ H fun x H1 => ∃ i, x = .int i ∧ R (some i) H1) : tPart te σ H R := h
theorem i_int {i : Int} {R : Int → Prop} (h : R i) : ∃ j, V.int i = .int j ∧ R j := ⟨i, rfl, h⟩
theorem i_jT (h : to σ H fun x H1 => (∃ a, x = .str a) ∧ te σ H1 fun y H2 => rJoinT K x [y] H2 Q) : tJoinT K to te σ H Q := by
  unfold tJoinT tM1
  exact h
theorem popIx {n : Nat} {i : Int} (h0 : 0 ≤ i) (h1 : i < (n : Int)) : seqIndex? i n = some i.toNat := (ixN_seq (n := n) (i := i) (j := i.toNat) (by unfold ixN; rw [if_pos h0, if_pos h1])).1
theorem i_popAt {p : Addr} {xs : List V} {i : Int} (hs : H p = some (.lst xs)) (h0 : 0 ≤ i) (h1 : i < (xs.length : Int)) (hz : xs.length ≤ 100000) (hx : xs[i.toNat]? = some y) (h : Q y (upd H p (.lst (xs.eraseIdx i.toNat)))) : rPopAt (.ref p) [.int i] H Q :=
  ⟨p, xs, i, i.toNat, y, rfl, rfl, hs, by omega, by omega, popIx h0 h1, hx, h⟩
theorem i_fmt (h : te σ H fun x H1 => (∃ y : Str, x = .str y ∧ y.length ≤ sizeLine ∧ Q (.str y) H1) ∨ ∃ i : Int, x = .int i ∧ i.natAbs.log2 < 1920 ∧ Q (.str (toString i)) H1) : tFmt te σ H Q := h
theorem i_fmt6 (h : te σ H fun x H1 => ∃ i : Int, x = .int i ∧ i.natAbs.log2 < 1920 ∧ (intSpecTextOf spec6 i).length ≤ sizeLine ∧ Q (.str (intSpecTextOf spec6 i)) H1) : tFmt6 te σ H Q := h
theorem i_joined {ts : List TE} (h : tJs ts Str.empty σ H fun out H1 => Q (.str out) H1) : tJoined ts σ H Q := h
theorem i_jsC {ts : List TE} {acc : Str} {R : Str → Hp → Prop} (h : te σ H fun x H1 => ∃ y : Str, x = .str y ∧ (acc ++ y).length ≤ sizeLine ∧ tJs ts (acc ++ y) σ H1 R) : tJs (te :: ts) acc σ H R := h
theorem i_jsN {acc : Str} {R : Str → Hp → Prop} (h : R acc H) : tJs [] acc σ H R := h
theorem i_strI {i : Int} (hi : i.natAbs.log2 < 1920) (h : Q (.str (toString i)) H) : rStrI [.int i] H Q := ⟨i, rfl, hi, h⟩
theorem i_addT {z z' : Str} (hz : z.length + z'.length ≤ sizeLine) (h : Q (.str (z ++ z')) H) : rAddT (.str z) (.str z') H Q := ⟨z, z', rfl, rfl, hz, h⟩
theorem i_lenStr {z : Str} (hz : z.length ≤ sizeLine) (h : Q (.int (z.length : Nat)) H) : rLenT [.str z] H Q := ⟨z, rfl, hz, h⟩
theorem i_eq (hs : scal x y = true) (h : Q (.bl (decide (x = y))) H) : rEq x y H Q := ⟨hs, h⟩
theorem i_ne (hs : scal x y = true) (h : Q (.bl (!decide (x = y))) H) : rNe x y H Q := ⟨hs, h⟩
end
end TC

set_option Elab.async false
set_option linter.all false
set_option maxRecDepth 100000
set_option maxHeartbeats 4000000
/-! A list or a tuple alike: enumerate, slices, comprehensions with a test, loops. -/
namespace PySem
open Sem (wp)
/-- enumerate(a tuple) is made -/
theorem tc_enumNewT (tt : Addr) (ws : Array Value) :
    Meets (Builtin.«enumerate.__new__» ⟨[.type "enumerate", .ref tt], []⟩) (fun _ R s => s.heap.IsTuple tt ws ∧
      R (.ok (.ret (.ref (s.heap.push { cls := .type "tuple_iterator", data := .fields #[.ref tt, .int 0 0] }).objs.size)))
        { s with heap := (s.heap.push { cls := .type "tuple_iterator", data := .fields #[.ref tt, .int 0 0] }).push { cls := .type "enumerate", data := .fields #[.none, .bool false, .ref s.heap.objs.size, rawInt 0, .none, .none] } }) :=
  .of_wp fun prog w A R s hst => by
    obtain ⟨hh, gg, dd, uu, oo⟩ := s
    obtain ⟨hT, hR⟩ := hst
    have hsub := sub_enumerate
    have qT : ∀ {A' : Around} {E : Value → Shared → Prop} {Q : Value → Shared → Prop}, Q (.ref hh.objs.size) ⟨hh.push { cls := .type "tuple_iterator", data := .fields #[.ref tt, .int 0 0] }, gg, dd, uu, oo⟩ → wpAny (model prog w) A' (pyIter (.ref tt)) Q E ⟨hh, gg, dd, uu, oo⟩ :=
      fun z => (begins_tuple tt ws).iter prog w _ _ ⟨hh, gg, dd, uu, oo⟩ _ hT z
    wp_walk using qT
    refine wpAny_stack_any fun _ => wpAny_pure ?_
    split
    · rename_i cls _ _ _ _ _
      cases (cls == Value.type "enumerate") <;> (wp_walk using qT; exact ⟨_, rfl, hR⟩)
    · (wp_walk using qT; exact ⟨_, rfl, hR⟩)
theorem tc_enumCallT {prog : Program} {w : World} {A : Around} {E : Value → Shared → Prop} {s : Shared} {tt : Addr} {ws : Array Value} {Q : Value → Shared → Prop} (hT : s.heap.IsTuple tt ws)
    (hQ : ∀ h', IsEnum h' (s.heap.objs.size + 1) s.heap.objs.size 0 .none → h'.IsTupleIter s.heap.objs.size tt 0 → h'.objs.size = s.heap.objs.size + 2 → (∀ b o, s.heap.get? b = some o → h'.get? b = some o) →
      Q (.ref (s.heap.objs.size + 1)) { s with heap := h' }) : wpAny (model prog w) A (call (.type "enumerate") [.ref tt]) Q E s := by
  refine callType_new F.called_enumerate (by decide) (F.typeCall_enumerate_1 _) (F.newCall_enumerate_1 _) (fun ob => F.args_object_init_2 ob _) F.entry_enumerate_new (tc_enumNewT tt ws) ⟨hT, ?_⟩
  generalize hk : s.heap.push { cls := .type "tuple_iterator", data := .fields #[.ref tt, .int 0 0] } = hk1
  have z1 : hk1.objs.size = s.heap.objs.size + 1 := by rw [← hk]; exact Heap.size_push ..
  have g1 : hk1.get? s.heap.objs.size = some { cls := .type "tuple_iterator", data := .fields #[.ref tt, .int 0 0] } := by rw [← hk]; exact Heap.get?_push_size _ rfl
  have k1 : ∀ b o, s.heap.get? b = some o → hk1.get? b = some o := fun b o x => by rw [← hk]; exact Heap.get?_push_of_some _ x
  have g2 : IsEnum (hk1.push { cls := .type "enumerate", data := .fields #[.none, .bool false, .ref s.heap.objs.size, rawInt 0, .none, .none] }) (s.heap.objs.size + 1) s.heap.objs.size 0 .none := by
    have z := Heap.get?_push_size hk1 (o := { cls := .type "enumerate", data := .fields #[.none, .bool false, .ref s.heap.objs.size, rawInt 0, .none, .none] }) rfl
    rw [z1] at z
    exact z
  show _ ∧ _
  rw [z1]
  exact ⟨⟨_, g2, rfl⟩, hQ _ g2 ⟨_, Heap.get?_push_of_some _ g1, rfl, rfl⟩ (by rw [Heap.size_push, z1]) fun b o x => Heap.get?_push_of_some _ (k1 b o x)⟩
end PySem
namespace TC
open PySem PySem.Spec PyProof.Rows L2
/-- the tuple at a, each item in a new pair -/
def Ett (K : PySem.W.Frag) (a : Addr) : It :=
  ⟨fun i H => ∃ (xs : List V) (x : V), SqT K H a xs ∧ xs[i]? = some x, fun i H v H' => ∃ T x, v = .ref T ∧ H T = none ∧ H' = upd H T (.tup [.int (i : Nat), x]) ∧ ∀ xs, SqT K H a xs → xs[i]? = some x, fun i H => ∃ xs : List V, SqT K H a xs ∧ xs.length ≤ i⟩
theorem tup_inj {X : Cx} {pins : List (Addr × Obj)} {σ : L2.St} {H : Hp} {s : Shared} {a : Addr} {xs ys : List V} (I : Inv X pins σ H s) (h : SqT X.K H a xs) (h' : SqT X.K H a ys) : ys = xs := I.tuple_inj h' h
theorem turn_enumT {P : Program} {w : World} {K : PySem.W.Frag} {elts : List Expr} {kk : Nat} {tpos : Pos} (a en it : Addr) :
    Turn P w K (.Tuple elts kk tpos) (Ett K a) [en, it] en (fun i h => (∃ old, IsEnum h en it ((i : Nat) : Int) old) ∧ h.IsTupleIter it a i ∧ en ≠ it) where
  mem := List.mem_cons_self
  obj := fun i h st b hb => by
    obtain ⟨⟨old, he⟩, ⟨o, ho, _, hd⟩, _⟩ := st
    rcases List.mem_cons.mp hb with rfl | hb
    · exact ⟨_, he, fun v q => nomatch q⟩
    · rw [List.mem_singleton.mp hb]
      exact ⟨o, ho, fun v q => by rw [hd] at q; cases q⟩
  keep := fun i h h' st k => by
    obtain ⟨⟨old, he⟩, hi, hne⟩ := st
    exact ⟨⟨old, k en List.mem_cons_self _ he⟩, hi.at fun o q => k it (List.mem_cons_of_mem _ List.mem_cons_self) o q, hne⟩
  item := by
    intro X hP hw hK hc i pins s σ H E I hf st hg
    subst hP hw hK
    obtain ⟨⟨old, he⟩, hit, hne⟩ := st
    obtain ⟨xs, x, hq, hx⟩ := hg
    obtain ⟨its, rv, pt, hz⟩ := I.tuple hq
    obtain ⟨u, hu, ru⟩ := rv.get hx
    have nea : en ∉ [it, a] := fun hm => by
      rcases List.mem_cons.mp hm with z | hm
      · exact hne z
      · have z := List.mem_singleton.mp hm
        obtain ⟨o, ho, hcl, _⟩ := pt
        rw [← z, he] at ho
        cases ho
        exact absurd (Value.type.inj hcl) (by decide)
    have nit : a ≠ it := fun z => by
      obtain ⟨o, ho, hcl, _⟩ := pt
      obtain ⟨o', ho', hcl', _⟩ := hit
      rw [z, ho'] at ho
      cases ho
      rw [hcl] at hcl'
      exact absurd (Value.type.inj hcl') (by decide)
    have D := Draws.tuple (prog := X.prog) (w := X.w) (A := X.A.in1) (I.ok.hd hc) it a nit its.toArray
    have hlt : i < its.toArray.size := by
      have h1 := rv.length
      have h2 := (List.getElem?_eq_some_iff.mp hx).1
      rw [List.size_toArray]
      omega
    have hel : en < s.heap.objs.size := Heap.lt_size he
    have hil : it < s.heap.objs.size := by obtain ⟨_, q, _⟩ := hit; exact Heap.lt_size q
    refine wpAny_pyNext_enum_itemD D he ⟨hit, pt⟩ hlt hne nea fun y h' tk hy ho hit' hT hsz hk => ?_
    have ey : y = u := by
      have z : its.toArray[i]? = some u := by simpa using hu
      rw [z] at hy
      exact (Option.some.inj hy).symm
    subst ey
    refine ⟨_, rfl, wpAny_letOwnedTupleGo_enum (s := { s with heap := h', toks := tk + 1 }) ho fun h2 he2 sb => ?_⟩
    have hT2 : h2.get? s.heap.objs.size = some { cls := .type "tuple", data := .seq #[.int i tk, y] } := (sb.2 _ (Nat.ne_of_gt hel)).trans hT
    have new : ObjOk X.prog X.w (upd H s.heap.objs.size (.tup [.int (i : Nat), x])) h2 s.heap.objs.size (.tup [.int (i : Nat), x]) :=
      ⟨by show 2 ≤ sizeLine; decide, [.int i tk, y], .cons ⟨_, rfl⟩ (.cons ru .nil), ⟨_, hT2, rfl, _, rfl⟩⟩
    have I1 : Inv X pins σ (upd H s.heap.objs.size (.tup [.int (i : Nat), x])) { s with heap := h2, toks := tk + 1 } :=
      I.turnedNew (ch := [en, it]) (fun b ob hb q => (sb.2 b (fun z => hb (by rw [z]; exact List.mem_cons_self))).trans (hk b ob (fun z => hb (by rw [z]; exact List.mem_cons_self)) (fun z => hb (by rw [z]; exact List.mem_cons_of_mem _ List.mem_cons_self)) q)) hf (Nat.le_refl _) new
    refine ⟨.ref s.heap.objs.size, _, I1, rfl, ⟨_, x, rfl, I.hok.fresh (Nat.le_refl _), rfl, fun ys hy => by rw [tup_inj I hq hy]; exact hx⟩, ⟨⟨y, ?_⟩, hit'.1.at fun o q => (sb.2 it (Ne.symm hne)).trans q, hne⟩, fun b hb => ?_⟩
    · have e1 : ((i + 1 : Nat) : Int) = (i : Int) + 1 := by omega
      rw [e1]
      exact he2
    · have hb2 : b < s.heap.objs.size := by
        rcases List.mem_cons.mp hb with rfl | hb
        · exact hel
        · rw [List.mem_singleton.mp hb]
          exact hil
      rw [upd_ne (Nat.ne_of_lt hb2)]
      exact (hf b hb).1
  done := by
    intro X hP hw hK hc i pins s σ H E I hf st hg
    subst hP hw hK
    obtain ⟨⟨old, he⟩, hit, hne⟩ := st
    obtain ⟨xs, hq, hx⟩ := hg
    obtain ⟨its, rv, pt, hz⟩ := I.tuple hq
    have hl := rv.length
    have nit : a ≠ it := fun z => by
      obtain ⟨o, ho, hcl, _⟩ := pt
      obtain ⟨o', ho', hcl', _⟩ := hit
      rw [z, ho'] at ho
      cases ho
      rw [hcl] at hcl'
      exact absurd (Value.type.inj hcl') (by decide)
    obtain ⟨f0, f1, f2, f3, f4, f5⟩ := hf it (List.mem_cons_of_mem _ List.mem_cons_self)
    have D : Draws X.prog X.w X.A.in1 it [it, a] i (fun _ _ => False) (fun j h => j = i ∧ h.IsTupleIter it a i ∧ h.IsTuple a its.toArray) := {
      live := fun _ _ z => by
        obtain ⟨_, ⟨o, ho, _⟩, _⟩ := z
        exact ⟨o, ho⟩
      frame := fun _ h h' z k => ⟨z.1, z.2.1.at fun o q => k it List.mem_cons_self o q, z.2.2.at fun o q => k a (List.mem_cons_of_mem _ List.mem_cons_self) o q⟩
      item := fun j s Q E hj z => absurd z.1 (Nat.ne_of_lt hj)
      done := fun s Q E z hE => wpAny_nextOf_tuple_end (show X.A.in1.handled = none from I.ok.hd hc) z.2.1 z.2.2 (Array.getElem?_eq_none (by rw [List.size_toArray]; omega)) hE }
    exact wpAny_pyNext_enum_endD D he ⟨rfl, hit, pt⟩ fun h' eb => ⟨rfl, I.turned (t' := s.toks) (fun b o hb q => eb b o hb q) f0 f1 f3 f4 f5⟩
  self := fun A i s Q E st h => by
    obtain ⟨⟨_, he⟩, _⟩ := st
    exact wpAny_pyIter_enum he h
/-- enumerate of a list or a tuple -/
def iEnumS (K : PySem.W.Frag) (ta : TA) : TI := fun σ H R => ta σ H fun vs H1 => ∃ a, vs = [.ref a] ∧ (((∃ xs, SqL K H1 a xs) ∧ R (Ite K a) H1) ∨ ((∃ xs, SqT K H1 a xs) ∧ R (Ett K a) H1))
theorem pi_enumS {X : Cx} {e : Expr} {ta : TA} {p pos tpos : Pos} {elts : List Expr} {kk : Nat} (hg : Gl X "enumerate") (hm : X.mg "enumerate" = none) (ha : PA X [e] ta) (hs : starEach [e] X.env = [(false, eval e X.env)] := by rfl) :
    PI X (.Tuple elts kk tpos) (.Call (.Name "enumerate" p) [e] [] pos) (iEnumS X.K ta) := by
  refine ⟨fun pins s σ H R I h => Call_ (ld_blt I hg hm boot_enumerate (PyProof.Rows.callWith_type1 (thn (ha.run pos pins s σ H _ I h) fun us s1 hu => ?_) hs rfl))⟩
  obtain ⟨vs, H1, I1, r1, a, ex, q⟩ := hu
  subst ex
  cases r1 with
  | cons r rr =>
    cases rr
    cases r
    have fp : ∀ b ∈ [s1.heap.objs.size + 1, s1.heap.objs.size], FpOk X pins H1 b := fun b hb => by
      have hle : s1.heap.objs.size ≤ b := by
        rcases List.mem_cons.mp hb with z | z
        · rw [z]
          exact Nat.le_succ _
        · rw [List.mem_singleton.mp z]
          exact Nat.le_refl _
      exact I1.fpOk hle (I1.hok.fresh hle)
    rcases q with ⟨⟨xs, hq⟩, q⟩ | ⟨⟨xs, hq⟩, q⟩
    · obtain ⟨its, rv, pl, hz⟩ := I1.list hq
      refine call_enumerate_list pl.isList fun h' he hit hsz hk => wpAny_pyIter_enum he ?_
      exact ⟨_, _, _, _, H1, rfl, I1.kept (t' := s1.toks) hk, turn_enum a (s1.heap.objs.size + 1) s1.heap.objs.size, ⟨⟨.none, he⟩, hit, Nat.succ_ne_self _⟩, fp, q⟩
    · obtain ⟨its, rv, pt, hz⟩ := I1.tuple hq
      refine tc_enumCallT pt fun h' he hit hsz hk => wpAny_pyIter_enum he ?_
      exact ⟨_, _, _, _, H1, rfl, I1.kept (t' := s1.toks) hk, turn_enumT a (s1.heap.objs.size + 1) s1.heap.objs.size, ⟨⟨.none, he⟩, hit, Nat.succ_ne_self _⟩, fp, q⟩
/-! ### a sequence: a list or a tuple -/
def SqA (K : PySem.W.Frag) (H : Hp) (a : Addr) (xs : List V) : Prop := SqL K H a xs ∨ SqT K H a xs
/-- what stood there as a sequence stands -/
structure KeepS (K : PySem.W.Frag) (p : Addr) (H H' : Hp) : Prop where
  l : ∀ xs, SqL K H p xs → SqL K H' p xs
  t : ∀ xs, SqT K H p xs → SqT K H' p xs
section
variable {K : PySem.W.Frag} {H H' H1 : Hp} {p : Addr} {xs : List V} {Q R : VK} {σ : L2.St}
theorem Same.keepS (e : Same H H') : KeepS K p H H' := ⟨fun _ h => e.seq h, fun _ h => Same.seqT e h⟩
theorem KeepS.refl : KeepS K p H H := ⟨fun _ h => h, fun _ h => h⟩
theorem KeepS.trans {H2 : Hp} (a : KeepS K p H H') (b : KeepS K p H' H2) : KeepS K p H H2 := ⟨fun _ h => b.l _ (a.l _ h), fun _ h => b.t _ (a.t _ h)⟩
theorem SqA.keep (h : SqA K H p xs) (k : KeepS K p H H') : SqA K H' p xs := h.elim (fun z => .inl (k.l _ z)) fun z => .inr (k.t _ z)
theorem SqA.same (h : SqA K H p xs) (e : Same H H') : SqA K H' p xs := h.keep (Same.keepS e)
theorem SqA.ofL (h : H p = some (.lst xs)) : SqA K H p xs := .inl (SqL.of h)
theorem SqA.ofT (h : H p = some (.tup xs)) : SqA K H p xs := .inr (SqT.of h)
theorem i_lenA (hs : SqA K H p xs) (h : Q (.int (xs.length : Nat)) H) : rLenS K [.ref p] H Q := ⟨p, xs, rfl, hs, h⟩
theorem i_ixA {i : Int} {v : V} (hs : SqA K H p xs) (ha : atI xs i = some v) (h : Q v H) : rIxLT K (.ref p) (.int i) H Q :=
  hs.elim (fun z => .inl ⟨p, xs, i, v, rfl, rfl, z, ha, h⟩) fun z => .inr ⟨p, xs, i, v, rfl, rfl, z, ha, h⟩
def rSlS (K : PySem.W.Frag) : V → Option Int → Option Int → Hp → VK → Prop := fun x lo hi H Q => rSlL K x lo hi H Q ∨ rSlA K x lo hi H Q
theorem sl_seq {X : Cx} : SlR X (rSlS X.K) := sl_list.or sl_tupA
/-- a slice of a sequence: a sequence, new or the tuple itself -/
theorem i_slA {lo hi : Option Int} (hs : SqA K H p xs) (h : ∀ q H', Same H H' → SqA K H' q (cutV xs lo hi) → Q (.ref q) H') : rSlS K (.ref p) lo hi H Q := by
  rcases hs with hs | hs
  · exact .inl ⟨p, xs, rfl, hs, fun q hq => h q _ (Same.new hq) (.inl (SqL.of upd_same))⟩
  · refine .inr ⟨p, xs, rfl, hs, fun hw => ?_, fun _ q hq => h q _ (Same.new hq) (.inr (SqT.of upd_same))⟩
    have e : cutV xs lo hi = xs := by
      unfold cutV
      rw [hw.1, hw.2, List.drop_zero, Nat.sub_zero, List.take_length]
    exact h p H (Same.refl _) (by rw [e]; exact .inr hs)
theorem walkS_L (h : SqL K H p xs) : Walk (Itl K p) xs.length (KeepS K p H) (YAt xs) := walk_list.mono (fun _ k => k.l _ h) fun _ _ _ _ _ _ y => y
theorem walkS_T (h : SqT K H p xs) : Walk (Itt K p) xs.length (KeepS K p H) (YAt xs) := walk_tup.mono (fun _ k => k.t _ h) fun _ _ _ _ _ _ y => y
theorem walk_ett {xs : List V} : Walk (Ett K p) xs.length (fun H => SqT K H p xs) (YPair (fun i => some (.int (i : Nat))) (fun i => xs[i]?)) := by
  refine ⟨fun i _ hi q => ⟨xs, xs[i], q, by simp [hi]⟩, fun _ q => ⟨xs, q, Nat.le_refl _⟩, fun i H v H' _ q y => ?_⟩
  obtain ⟨T, x, y1, y2, y3, y4⟩ := y
  exact ⟨T, _, x, y1, y2, y3, rfl, y4 xs q⟩
theorem walkE_L (h : SqL K H p xs) : Walk (Ite K p) xs.length (KeepS K p H) (YPair (fun i => some (.int (i : Nat))) (fun i => xs[i]?)) := walk_enum.mono (fun _ k => k.l _ h) fun _ _ _ _ _ _ y => y
theorem walkE_T (h : SqT K H p xs) : Walk (Ett K p) xs.length (KeepS K p H) (YPair (fun i => some (.int (i : Nat))) (fun i => xs[i]?)) := walk_ett.mono (fun _ k => k.t _ h) fun _ _ _ _ _ _ y => y
/-- .. walked -/
theorem i_itA {R : It → Hp → Prop} (h : SqA K H p xs) (k : ∀ J, Walk J xs.length (KeepS K p H) (YAt xs) → R J H) : ∃ a, V.ref p = .ref a ∧ (((∃ xs, SqL K H a xs) ∧ R (Itl K a) H) ∨ ((∃ xs, SqT K H a xs) ∧ R (Itt K a) H)) :=
  ⟨p, rfl, h.elim (fun z => .inl ⟨⟨xs, z⟩, k _ (walkS_L z)⟩) fun z => .inr ⟨⟨xs, z⟩, k _ (walkS_T z)⟩⟩
theorem i_itL {R : It → Hp → Prop} (h : SqL K H p xs) (k : ∀ J, Walk J xs.length (KeepS K p H) (YAt xs) → R J H) : ∃ a, V.ref p = .ref a ∧ (∃ xs, SqL K H a xs) ∧ R (Itl K a) H := ⟨p, rfl, ⟨xs, h⟩, k _ (walkS_L h)⟩
theorem i_itT {R : It → Hp → Prop} (h : SqT K H p xs) (k : ∀ J, Walk J xs.length (KeepS K p H) (YAt xs) → R J H) : ∃ a, V.ref p = .ref a ∧ (∃ xs, SqT K H a xs) ∧ R (Itt K a) H := ⟨p, rfl, ⟨xs, h⟩, k _ (walkS_T h)⟩
theorem i_enA {aa : TA} {R : It → Hp → Prop} (h : aa σ H fun vs H1 => ∃ a, vs = [.ref a] ∧ (((∃ xs, SqL K H1 a xs) ∧ R (Ite K a) H1) ∨ ((∃ xs, SqT K H1 a xs) ∧ R (Ett K a) H1))) : iEnumS K aa σ H R := h
theorem i_enK {R : It → Hp → Prop} (h : SqA K H p xs) (k : ∀ J, Walk J xs.length (KeepS K p H) (YPair (fun i => some (.int (i : Nat))) (fun i => xs[i]?)) → R J H) :
    ∃ a, [V.ref p] = [.ref a] ∧ (((∃ xs, SqL K H a xs) ∧ R (Ite K a) H) ∨ ((∃ xs, SqT K H a xs) ∧ R (Ett K a) H)) :=
  ⟨p, rfl, h.elim (fun z => .inl ⟨⟨xs, z⟩, k _ (walkE_L z)⟩) fun z => .inr ⟨⟨xs, z⟩, k _ (walkE_T z)⟩⟩
end

/-! ### comprehensions whose elements are plain values -/
section
variable {K : PySem.W.Frag} {σ : L2.St} {H : Hp} {te : TE} {tt : TT} {vs : List Nat} {g : TG} {R : VK} {J : It} {n : Nat} {G : Hp → Prop} {Y : Nat → Hp → V → Hp → Prop} {β : Type}
/-- a comprehension behind its iterable -/
def LcX (σ : L2.St) (vs : List Nat) (g : TG) (tt : TT) (te : TE) (R : VK) (J : It) (H1 : Hp) : Prop := ∀ D, H1 D = none → ∃ W : Nat → Nat → Hp → Prop, (∃ m, W 0 m (upd H1 D (.lst []))) ∧ ∀ i m H, W i m H →
    (J.stop i H ∧ R (.ref D) H) ∨ (J.go i H ∧ ∃ Nx : Hp → Prop, (∀ H', Nx H' → ∃ m', m' < m ∧ W (i + 1) m' H') ∧ ∀ x H', J.yld i H x H' → g x (wipe σ vs) H' fun σ2 H2 => wipe σ2 vs = wipe σ vs ∧ tt σ2 H2 fun b H3 =>
      if b = true then te σ2 H3 fun y H4 => ∃ acc, H4 D = some (.lst acc) ∧ acc.length < sizeLine ∧ Nx (upd H4 D (.lst (acc ++ [y]))) else Nx H3)
theorem i_lcX {wi : TI} (h : wi σ H (LcX σ vs g tt te R)) : tLc wi g tt te vs σ H R := h
/-- the question an element is asked, at its slots -/
def ElQ (H1 : Hp) (tt : TT) (te : TE) (b : Bool) (v : V) (σ2 : L2.St) : Prop :=
  (∀ H2, Same H1 H2 → ∀ R' : Bool → Hp → Prop, (∀ H3, Same H2 H3 → R' b H3) → tt σ2 H2 R') ∧ (b = true → ∀ H2, Same H1 H2 → ∀ R' : VK, (∀ H3, Same H2 H3 → R' v H3) → te σ2 H2 R')
theorem lcGen (w : Walk J n G Y) (ys : List β) (b : β → Bool) (f : β → V) (hn : ys.length = n) (hz : n ≤ 100000) (hG : ∀ H', Same H H' → G H')
    (turn : ∀ i y, ys[i]? = some y → ∀ H2 x H3, Same H H2 → Y i H2 x H3 → ∀ R' : L2.St → Hp → Prop, (∀ σ2 H4, Same H2 H4 → wipe σ2 vs = wipe σ vs → ElQ H tt te (b y) (f y) σ2 → R' σ2 H4) → g x (wipe σ vs) H3 R')
    (k : ∀ D H', H D = none → Same H H' → H' D = some (.lst ((ys.filter b).map f)) → R (.ref D) H') : LcX σ vs g tt te R J H := fun D hD => by
  refine lc_it w (Qd := fun H' => R (.ref D) H') (fun i H' => Same H H' ∧ H' D = some (.lst (((ys.take i).filter b).map f))) ⟨Same.new hD, upd_same⟩ (fun i H' _ p => hG H' p.1) (fun i x H2 H3 hi p y => ?_)
    (fun H' p => k D H' hD p.1 (by have z := p.2; rw [← hn, List.take_length] at z; exact z))
  obtain ⟨p1, p2⟩ := p
  obtain ⟨yy, hy⟩ : ∃ yy, ys[i]? = some yy := ⟨ys[i]'(by omega), by simp⟩
  refine turn i yy hy H2 x H3 p1 y _ fun σ2 H4 e4 hw el => ⟨hw, ?_⟩
  refine el.1 H4 (p1.trans e4) _ fun H5 e5 => ?_
  have es : Same H H5 := (p1.trans e4).trans e5
  have ed : H5 D = some (.lst (((ys.take i).filter b).map f)) := e5 _ _ (e4 _ _ p2)
  cases hb : b yy with
  | true =>
    refine iteT (el.2 hb H5 es _ fun H6 e6 => ⟨_, e6 _ _ ed, ?_, Same.mut (es.trans e6) hD, ?_⟩)
    · rw [List.length_map]
      refine Nat.lt_of_le_of_lt (List.length_filter_le _ _) (Nat.lt_of_le_of_lt (List.length_take_le _ _) ?_)
      exact Nat.lt_of_lt_of_le (show i < 100000 by omega) (show 100000 ≤ sizeLine by decide)
    · rw [upd_same, take_succ hy, List.filter_append, List.map_append, List.filter_cons, if_pos hb]
      rfl
  | false =>
    refine iteF ⟨es, ?_⟩
    rw [take_succ hy, List.filter_append, List.filter_cons, if_neg (by rw [hb]; decide), List.filter_nil, List.append_nil]
    exact ed
/-- one name, over ints -/
theorem lcS {j : Nat} {ns : List Int} (w : Walk J (ns.map V.int).length G (YAt (ns.map V.int))) (b : Int → Bool) (f : Int → V) (hz : ns.length ≤ 100000) (hG : ∀ H', Same H H' → G H') (hw : ∀ x, wipe ((wipe σ vs).set j (some x)) vs = wipe σ vs)
    (el : ∀ x ∈ ns, ElQ H tt te (b x) (f x) ((wipe σ vs).set j (some (.int x))))
    (k : ∀ D H', H D = none → Same H H' → H' D = some (.lst ((ns.filter b).map f)) → R (.ref D) H') : LcX σ vs (gName j) tt te R J H :=
  lcGen w ns b f (by rw [List.length_map]) (by rw [List.length_map]; exact hz) hG (fun i y hy H2 x H3 e2 yv R' kk => by
    obtain ⟨rfl, hx⟩ := yv
    rw [List.getElem?_map, hy] at hx
    cases hx
    exact kk _ _ (Same.refl _) (hw _) (el y (List.mem_of_getElem? hy))) k
/-- one name, over any values -/
theorem lcV {j : Nat} {xs : List V} (w : Walk J xs.length G (YAt xs)) (b : V → Bool) (f : V → V) (hz : xs.length ≤ 100000) (hG : ∀ H', Same H H' → G H') (hw : ∀ x, wipe ((wipe σ vs).set j (some x)) vs = wipe σ vs)
    (el : ∀ x ∈ xs, ElQ H tt te (b x) (f x) ((wipe σ vs).set j (some x)))
    (k : ∀ D H', H D = none → Same H H' → H' D = some (.lst ((xs.filter b).map f)) → R (.ref D) H') : LcX σ vs (gName j) tt te R J H :=
  lcGen w xs b f rfl hz hG (fun i y hy H2 x H3 e2 yv R' kk => by
    obtain ⟨rfl, hx⟩ := yv
    rw [hy] at hx
    cases hx
    exact kk _ _ (Same.refl _) (hw _) (el y (List.mem_of_getElem? hy))) k
/-- two names, over enumerate -/
theorem lcE {j j' : Nat} {xs : List V} (w : Walk J xs.length G (YPair (fun i => some (.int (i : Nat))) (fun i => xs[i]?))) (b : V × Nat → Bool) (f : V × Nat → V) (hz : xs.length ≤ 100000) (hG : ∀ H', Same H H' → G H')
    (hw : ∀ x y, wipe (((wipe σ vs).set j (some x)).set j' (some y)) vs = wipe σ vs)
    (el : ∀ (i : Nat) x, xs[i]? = some x → ElQ H tt te (b (x, i)) (f (x, i)) (((wipe σ vs).set j (some (.int (i : Nat)))).set j' (some x)))
    (k : ∀ D H', H D = none → Same H H' → H' D = some (.lst ((xs.zipIdx.filter b).map f)) → R (.ref D) H') : LcX σ vs (gTup K 2 (gCons (gName j) (gCons (gName j') gNil))) tt te R J H :=
  lcGen w xs.zipIdx b f (by rw [List.length_zipIdx]) hz hG (fun i y hy H2 x H3 e2 yv R' kk => by
    obtain ⟨T, a1, a2, rfl, hT, rfl, h1, h2⟩ := yv
    dsimp only at h1 h2
    rw [List.getElem?_zipIdx, h2] at hy
    cases h1
    have hy' : y = (a2, i) := by
      have := Option.some.inj hy
      rw [← this]
      show (a2, 0 + i) = (a2, i)
      rw [Nat.zero_add]
    subst hy'
    exact ⟨T, [.int (i : Nat), a2], rfl, SqT.of upd_same, rfl, .int (i : Nat), [a2], rfl, a2, [], rfl, rfl, kk _ _ (Same.new hT) (hw _ _) (el i a2 h2)⟩) k
/-- a for loop behind its iterable -/
def ForG (g : TG) (tb : TS) (D : Ends) (σ : L2.St) (J : It) (H1 : Hp) : Prop := ∃ W : Nat → Nat → L2.St → Hp → Prop, (∃ m, W 0 m σ H1) ∧ ∀ i m σ H, W i m σ H →
    (J.stop i H ∧ D.nx σ H) ∨ (J.go i H ∧ ∃ N : L2.St → Hp → Prop, (∀ σ' H', N σ' H' → ∃ m', m' < m ∧ W (i + 1) m' σ' H') ∧ ∀ x H', J.yld i H x H' → g x σ H' fun σ2 H2 => tb { D with nx := N, ct := N, bk := D.nx } σ2 H2)
theorem i_forG {wi : TI} {tb : TS} {D : Ends} (h : wi σ H (ForG g tb D σ)) : tFor wi g tb D σ H := h
theorem forG (w : Walk J n G Y) {tb : TS} {D : Ends} (Pv : Nat → L2.St → Hp → Prop) (h0 : Pv 0 σ H) (hG : ∀ i σ H, i ≤ n → Pv i σ H → G H)
    (hs : ∀ i x σ H H', i < n → Pv i σ H → Y i H x H' → g x σ H' fun σ2 H2 => tb { D with nx := Pv (i + 1), ct := Pv (i + 1), bk := D.nx } σ2 H2) (hd : ∀ σ H, Pv n σ H → D.nx σ H) : ForG g tb D σ J H := for_it w Pv h0 hG hs hd
theorem elq1 {H1 : Hp} {v : V} {σ2 : L2.St} (h : ∀ H2, Same H1 H2 → ∀ R' : VK, (∀ H3, Same H2 H3 → R' v H3) → te σ2 H2 R') : ElQ H1 tYes te true v σ2 := ⟨fun H2 _ R' k => k H2 (Same.refl _), fun _ => h⟩
theorem filter_yes {α : Type} (l : List α) : (l.filter fun _ => true) = l := List.filter_eq_self.mpr fun _ _ => rfl
end
end TC

set_option Elab.async false
set_option linter.all false
set_option maxRecDepth 100000
set_option maxHeartbeats 4000000
/-! Errors of own classes: made by a walked __init__, raised, caught by one of several clauses with names. -/
namespace TC
open PySem PySem.Spec PyProof.Rows L2

/-! ### try with several clauses, with or without a name -/
/-- a clause: its class, the slot of its name, its suite's reading -/
abbrev Cl := Value × Option Nat × (Addr → Value → Option Addr → TS)
def endN (i : Nat) (D : Ends) : Ends := { nx := fun σ H => D.nx (σ.set i none) H, rt := D.rt, bk := fun σ H => D.bk (σ.set i none) H, ct := fun σ H => D.ct (σ.set i none) H }
/-- what the clauses wish of an exception of the body -/
def wCl (K : PySem.W.Frag) (Wo : WX) (D : Ends) : List Cl → WX
  | [] => Wo
  | (c, none, ts) :: r => fun cls d σ H => ∃ b, PySem.W.exmOne K cls c = some b ∧ (b = true → ∀ a, H a = none → ts a cls d D σ H) ∧ (b = false → wCl K Wo D r cls d σ H)
  | (c, some i, ts) :: r => fun cls d σ H => ∃ b, PySem.W.exmOne K cls c = some b ∧ (b = true → ∀ a, H a = none → ts a cls d (endN i D) (σ.set i (some (.ref a))) H) ∧ (b = false → wCl K Wo D r cls d σ H)
inductive ClsOk (X : Cx) : List ExceptHandler → List Cl → Prop
  | nil : ClsOk X [] []
  | un {x : Str} {c : Value} {ts : Addr → Value → Option Addr → TS} {q : Stmt} {suite : List Stmt} {p1 p2 : Pos} {hds : List ExceptHandler} {l : List Cl} (hc : Names X x c)
      (hsu : ∀ (a : Addr) (oe : Obj) (cls : Value) (d : Option Addr) (pn : List (Addr × Obj)), Zc cls d oe → (∃ vs, oe.data = .fields vs) → PSs (X.suite a ((a, oe) :: pn)) (q :: suite) (ts a cls d)) (r : ClsOk X hds l) :
      ClsOk X (.ExceptHandler (some (.Name x p1)) none (q :: suite) p2 :: hds) ((c, none, ts) :: l)
  | nm {x n : Str} {c : Value} {i : Nat} {ts : Addr → Value → Option Addr → TS} {q : Stmt} {suite : List Stmt} {p1 p2 : Pos} {hds : List ExceptHandler} {l : List Cl} (hi : X.N[i]? = some n) (hl : X.env.kindOf n = some .local) (hc : Names X x c)
      (hsu : ∀ (a : Addr) (oe : Obj) (cls : Value) (d : Option Addr) (pn : List (Addr × Obj)), Zc cls d oe → (∃ vs, oe.data = .fields vs) → PSs (X.suite a ((a, oe) :: pn)) (q :: suite) (ts a cls d)) (r : ClsOk X hds l) :
      ClsOk X (.ExceptHandler (some (.Name x p1)) (some n) (q :: suite) p2 :: hds) ((c, some i, ts) :: l)
section
variable {X : Cx}
/-- an exception on the ground of its frame -/
structure Down (X : Cx) (pins : List (Addr × Obj)) (σ : L2.St) (H : Hp) (a : Addr) (cls : Value) (d : Option Addr) (g : Shared) (B : Heap) (s : Shared) : Prop where
  inv : Inv X pins σ H g
  nb : ∀ b o, g.heap.get? b = some o → b ∉ frs X.stack → B.get? b = some o
  up : g.heap.UpToSlots s.heap
  fl : HandSPX.FlyingZ B (X.env :: X.outer) a (Zc cls d) s.heap
  na : H a = none
  os : s.os = g.os
  ag : AllBare s.gens
theorem Down.now {pins : List (Addr × Obj)} {σ : L2.St} {H : Hp} {a : Addr} {cls : Value} {d : Option Addr} {g s : Shared} {B : Heap} (Z : Down X pins σ H a cls d g B s) : Inv X pins σ H s := Z.inv.landed Z.nb Z.fl.1 Z.up Z.os Z.ag
theorem Down.move {pins : List (Addr × Obj)} {σ : L2.St} {H : Hp} {a : Addr} {cls : Value} {d : Option Addr} {g s : Shared} {B h2 : Heap} (Z : Down X pins σ H a cls d g B s) (f2 : HandSPX.FlyingZ B (X.env :: X.outer) a (Zc cls d) h2) (u2 : s.heap.UpToSlots h2) :
    Down X pins σ H a cls d g B { s with heap := h2 } := ⟨Z.inv, Z.nb, Z.up.trans u2, f2, Z.na, Z.os, Z.ag⟩
/-- .. its suite's state -/
theorem Down.suite {pins : List (Addr × Obj)} {σ : L2.St} {H : Hp} {a : Addr} {cls : Value} {d : Option Addr} {g s : Shared} {B : Heap} (hf : X.env.frame = some X.env.locals) (Z : Down X pins σ H a cls d g B s) :
    ∃ oe, s.heap.get? a = some oe ∧ Zc cls d oe ∧ (∃ vs, oe.data = .fields vs) ∧ Inv (X.suite a ((a, oe) :: (X.pn ++ pins))) [] σ H s := by
  obtain ⟨oe, vs, he, hz, hd⟩ := Z.fl.there
  have away : a ∉ frs (X.env :: X.outer) := fun hm => by
    obtain ⟨_, o2, e2, no⟩ := Z.fl.2.2.1.mem hm
    rw [he] at e2
    cases e2
    exact no _ hd
  refine ⟨oe, he, hz, ⟨vs, hd⟩, Z.now.suite he hd Z.na (fun z => away (List.mem_filterMap.mpr ⟨X.env, List.mem_cons_self, by rw [hf, z]⟩)) fun hm => ?_⟩
  obtain ⟨ev, he2, q⟩ := List.mem_filterMap.mp hm
  exact away (List.mem_filterMap.mpr ⟨ev, List.mem_cons_of_mem _ he2, q⟩)
/-- the class of a clause is looked at -/
theorem clause_test {pins : List (Addr × Obj)} {σ : L2.St} {H : Hp} {s : Shared} {a : Addr} {oe : Obj} {x : Str} {c : Value} {p : Pos} {Q : Value → Shared → Prop} {E : Value → Shared → Prop} (S : Inv (X.suite a ((a, oe) :: (X.pn ++ pins))) [] σ H s) (hc : Names X x c) (q : Q c s) :
    wpAny (model X.prog X.w) (X.A.mark (some (.ref a))) (eval (.Name x p) X.env) Q E s := by
  obtain ⟨h1, h2, h3 | ⟨h3, h4, h5⟩⟩ := hc
  · exact ld_glob (X := X.suite a ((a, oe) :: (X.pn ++ pins))) S h1 h3 q h2
  · exact ld_blt (X := X.suite a ((a, oe) :: (X.pn ++ pins))) S h1 h3 h4 q h5 h2
/-- the clauses, from the first -/
theorem clauses_go {Wo : WX} {D : Ends} {pins : List (Addr × Obj)} {a : Addr} {cls : Value} {d : Option Addr} {g s : Shared} {B : Heap} {σ : L2.St} {H : Hp} (hs : X.stack = X.env :: X.outer) (hf : X.env.frame = some X.env.locals) (hN : X.N.Nodup) (tk : Takes X Wo)
    (Z : Down X pins σ H a cls d g B s) : ∀ {hds : List ExceptHandler} {l : List Cl}, ClsOk X hds l → wCl X.K Wo D l cls d σ H → wpAny (model X.prog X.w) X.A (handleBy (.ref a) X.env hds) (SP X pins D) X.xe s := by
  have okX := Z.inv.ok
  obtain ⟨oe, he, hz, hdv, S⟩ := Z.suite hf
  have LT : PySem.W.Looks (model X.prog X.w) s.heap (typeOf (.ref a)) cls := fun A Q E s2 k q => wpAny_typeOf_ref (k _ _ he) (by rw [hz.1]; exact q)
  intro hds l hk
  induction hk with
  | nil =>
    intro w
    refine wpAny_handleBy_nil ?_
    obtain ⟨k1, k2, k3, o1, fv, tb, o2, ts, q1, q2, q3, q4, qr⟩ := id Z.fl
    unfold PySem.passOn
    refine wpAny_bind (wpAny_field q1 q3 q4 ?_)
    rw [if_neg (show ¬ ((Value.ref tb == Value.none) = true) from by simp)]
    have last : wpAny (model X.prog X.w) X.A (setFlight (.ref a) X.env.frame) (fun _ u => wpAny (model X.prog X.w) X.A (throw (.ref a) : Sem Flow) (SP X pins D) X.xe u) X.xe s := by
      rw [hf]
      exact HandSPX.setFlight_upZ Z.fl fun h2 up2 u2 => wpAny_throw (tk _ _ ⟨a, B, g, pins, σ, H, cls, d, rfl, Z.inv, Z.nb, Z.up.trans u2, .inr (.inr (by rw [hs]; exact up2)), Z.na, Z.os, Z.ag, w⟩)
    first
      | exact wpAny_bind (wpAny_pure (wpAny_bind last))
      | exact wpAny_bind last
  | un hc hsu r ih =>
    intro w
    obtain ⟨b, hb, yes, no⟩ := w
    refine wpAny_handleBy_cons (codeAny_handlers_test (clause_test S hc ((PySem.W.exm_one (M := model X.prog X.w) Z.now.kIn LT hb).here ?_))) (fun z => nomatch z)
    cases b with
    | false => exact ih (no rfl)
    | true =>
      refine codeAny_handlers_suite (HandSPX.lands_againZ Z.fl fun h2 f2 u2 => ?_)
      obtain ⟨oe2, _, hz2, hdv2, S2⟩ := (Z.move f2 u2).suite hf
      refine wpAny_mono ((hsu a oe2 cls d (X.pn ++ pins) hz2 hdv2).run [] _ _ H _ S2 (yes rfl a Z.na)) (fun f v hv => ?_) fun _ _ z => z.elim
      cases f with
      | ret u =>
        obtain ⟨x, σ1, H1, I1, r1, q1⟩ := hv
        exact ⟨_, _, _, I1.unsuite okX, r1, q1⟩
      | next => obtain ⟨σ1, H1, I1, q1⟩ := hv; exact ⟨_, _, I1.unsuite okX, q1⟩
      | brk => obtain ⟨σ1, H1, I1, q1⟩ := hv; exact ⟨_, _, I1.unsuite okX, q1⟩
      | cont => obtain ⟨σ1, H1, I1, q1⟩ := hv; exact ⟨_, _, I1.unsuite okX, q1⟩
  | nm hi hl hc hsu r ih =>
    intro w
    obtain ⟨b, hb, yes, no⟩ := w
    refine wpAny_handleBy_cons (codeAny_handlers_test (clause_test S hc ((PySem.W.exm_one (M := model X.prog X.w) Z.now.kIn LT hb).here ?_))) (fun z => nomatch z)
    cases b with
    | false => exact ih (no rfl)
    | true =>
      refine codeAny_handlers_suite_as (HandSPX.lands_againZ Z.fl fun h2 f2 u2 => ?_)
      obtain ⟨oe2, _, hz2, hdv2, S2⟩ := (Z.move f2 u2).suite hf
      refine store_ok (X := X.suite a ((a, oe2) :: (X.pn ++ pins))) (v := .ref a) S2 hN hi (.inl hl) rfl (fun s5 S5 => ?_) (.inr hl)
      refine wpAny_mono ((hsu a oe2 cls d (X.pn ++ pins) hz2 hdv2).run [] s5 _ H _ S5 (yes rfl a Z.na)) (fun f v hv => ?_) fun _ _ z => z.elim
      cases f with
      | ret u =>
        obtain ⟨x, σ1, H1, I1, r1, q1⟩ := hv
        exact gone_ok (I1.unsuite okX) hN hi hl fun s7 J7 => ⟨_, _, _, J7, r1, q1⟩
      | next => obtain ⟨σ1, H1, I1, q1⟩ := hv; exact gone_ok (I1.unsuite okX) hN hi hl fun s7 J7 => ⟨_, _, J7, q1⟩
      | brk => obtain ⟨σ1, H1, I1, q1⟩ := hv; exact gone_ok (I1.unsuite okX) hN hi hl fun s7 J7 => ⟨_, _, J7, q1⟩
      | cont => obtain ⟨σ1, H1, I1, q1⟩ := hv; exact gone_ok (I1.unsuite okX) hN hi hl fun s7 J7 => ⟨_, _, J7, q1⟩
/-- try: body / clauses -/
def tTry (K : PySem.W.Frag) (Wo : WX) (tb : WX → TS) (l : List Cl) : TS := fun D σ H => tb (wCl K Wo D l) D σ H
theorem ps_tryC {Wo : WX} {tb : WX → TS} {h₀ : ExceptHandler} {hds : List ExceptHandler} {l : List Cl} {body : List Stmt} {pos : Pos} (hs : X.stack = X.env :: X.outer) (hf : X.env.frame = some X.env.locals) (hN : X.N.Nodup) (tk : Takes X Wo)
    (hb : ∀ (W : WX) (pn : List (Addr × Obj)) (xe : Value → Shared → Prop), Takes (X.tr pn xe) W → PassesOwn (model X.prog X.w) X.A X.env xe → PSs (X.tr pn xe) body (tb W)) (hk : ClsOk X (h₀ :: hds) l) :
    PS X (.Try body (h₀ :: hds) [] [] pos) (tTry X.K Wo tb l) := by
  refine ⟨fun pins s σ H D I h => wpAny_Try_except ?_⟩
  refine wpAny_mono ((hb (wCl X.K Wo D l) (X.pn ++ pins) (fun u t => wpAny (model X.prog X.w) X.A (noteFrame u X.env) (fun _ t2 => wpAny (model X.prog X.w) X.A (setFlight u none) (fun _ t3 =>
    wpAny (model X.prog X.w) X.A (handleBy u X.env (h₀ :: hds)) (SP X pins D) X.xe t3) X.xe t2) X.xe t) (fun u t xx => ?_) PassesOwn.looking).run [] s σ H D (I.toTry _) h) (fun f t ht => ?_) fun u t z => z
  · obtain ⟨a, B, g, pins1, σ1, H1, cls, d, rfl, J, nb, up, sky, na, os, ag, w⟩ := xx
    have sk : Sky B (X.env :: X.outer) a (Zc cls d) X.env.locals t.heap := by
      rw [← hs]
      exact sky
    show wpAny (model X.prog X.w) X.A (noteFrame (.ref a) X.env) _ _ _
    refine Sky.land Zc.steady (by rw [I.ok.frames, hs]) hf sk fun h3 f3 u3 => ?_
    exact clauses_go hs hf hN tk (s := { t with heap := h3 }) ⟨J.ofTry I.ok, nb, up.trans u3, f3, na, os, ag⟩ hk w
  · cases f with
    | next => obtain ⟨σ1, H1, J, q⟩ := ht; exact wpAny_execs_nil ⟨σ1, H1, J.ofTry I.ok, q⟩
    | brk => obtain ⟨σ1, H1, J, q⟩ := ht; exact ⟨σ1, H1, J.ofTry I.ok, q⟩
    | cont => obtain ⟨σ1, H1, J, q⟩ := ht; exact ⟨σ1, H1, J.ofTry I.ok, q⟩
    | ret u => obtain ⟨v, σ1, H1, J, r, q⟩ := ht; exact ⟨v, σ1, H1, J.ofTry I.ok, r, q⟩
end

/-! ### the base class's __init__, called through its own subclass -/
section
variable {X : Cx} {C0 : Addr} {mc : Value} {x : Str} {e : Expr} {es : List Expr} {ta : TA} {p1 p2 pos : Pos}
theorem pe_ceinit {pl : Sem Bool} (hg : Gl X x) (hm : X.mg x = some (.ref C0)) (r : ClX.CRead X.K C0 mc) (vV : PySem.W.findCls X.K (.ref C0) mc "__init__" = some (.val (.builtin "ValueError.__init__"))) (ha : PA X (e :: es) ta)
    (hdb : (x == ("__debug__" : Str)) = false := by decide)
    (he : starEach (e :: es) X.env = (false, eval e X.env) :: starEach es X.env := by rfl) (hpl : (backTo pos (starEach es X.env)).any (·.1) = false := by rfl)
    (hc : eval (.Call (.Attribute (.Name x p1) "__init__" p2) (e :: es) [] pos) X.env = (do
      let own ← eval (.Name x p1) X.env
      standAt p2.atName
      let (fn, self) ← holding [own] (getMethod own "__init__" pl)
      callWith pos fn self (backTo pos (starEach (e :: es) X.env)) (backToKw pos (keywordEach [] X.env))) := by rfl) :
    PE X (.Call (.Attribute (.Name x p1) "__init__" p2) (e :: es) [] pos) (tVeI X.K ta) := by
  refine ⟨fun pins s σ H Q I h => ?_⟩
  refine PySem.W.methodCall_KW (pl := pl) (ld_glob I hg hm ?_ hdb) hc
  refine PySem.W.method_cls I.kIn r.ga (PySem.W.cls_value I.kIn r.rd vV (by decide +kernel) ?_)
  refine PyProof.Rows.callWith_method1 (thn (ha.run pos pins _ σ H _ (I.tok _) h) fun us s1 hu => ?_) he hpl
  obtain ⟨vs, H1, I1, rv, a, C, ws, ev, hl, T, ea, q⟩ := hu
  subst ev
  cases rv with
  | @cons _ u0 _ ur ra rw' =>
    obtain rfl : u0 = Value.ref a := ra
    refine oinit_ok T I1 ea ?_ fun s2 J => ⟨.non, H1, J, rfl, q⟩
    have z := Paired.length rw'
    rw [sizeLine_eq]
    omega
end

/-! ### an own error: its __init__, its making, its raising -/
/-- the __init__ of an error class with one field -/
def sp_Er (K : PySem.W.Frag) (C : Addr) (f : Str) : Sp := fun vs H Q _ => vs.length = 2 ∧ ∃ e v, vs = [.ref e, v] ∧ OexC K C ∧ PySem.W.findIn K (.ref C) f = some none ∧ H e = some (exo e C none) ∧
  ∀ dx, H dx = none → dx ≠ e → Q .non (upd (upd H dx (exd dx [(f, v)])) e (exo e C (some dx)))
def t_Er (K : PySem.W.Frag) (f msg : Str) : TS := tSeq (tDrop (tVeI K (tCons (tVar 0) (tCons (tC (.str msg)) (tNil))))) (tOst K f (tVar 0) (tVar 1))
section
variable {K : PySem.W.Frag} {H : Hp} {Q : VK} {E : XK} {vs : List V} {C : Addr} {f msg : Str}
theorem pure_Er (h : sp_Er K C f vs H Q E) : t_Er K f msg { nx := fun _ H' => Q .non H', rt := Q } (vs.map some ++ List.replicate (2 - vs.length) none) H := by
  obtain ⟨_, e, v, rfl, T, nf, he, q⟩ := h
  exact ⟨.ref e, rfl, e, C, [.str msg], rfl, (by show 1 ≤ 1000; decide), T, he, v, rfl, .ref e, rfl, e, C, rfl, T, nf, .inl ⟨he, q⟩⟩
end
/-- what is asked where an error of the class at C is raised with v -/
def RaiseQ (K : PySem.W.Frag) (C : Addr) (f : Str) (v : V) (H1 : Hp) (Q : XK) : Prop := [v].length ≤ 1000 ∧ ∀ a, H1 a = none → sp_Er K C f (.ref a :: ([v] ++ [])) (upd H1 a (exo a C none))
  (fun z H2 => z = .non ∧ ∃ (d : Addr) (fs : List (Str × V)), H2 a = some (exo a C (some d)) ∧ H2 d = some (exd d fs) ∧ H1 d = none ∧ Q (.ref C) (some d) (upd (del H2 a) d (.xd fs))) (fun _ _ _ => False)
theorem raise_ok {K : PySem.W.Frag} {C : Addr} {f : Str} {v : V} {H1 : Hp} {Q : XK} (T : OexC K C) (nf : PySem.W.findIn K (.ref C) f = some none) (q : ∀ d, H1 d = none → Q (.ref C) (some d) (upd H1 d (.xd [(f, v)]))) : RaiseQ K C f v H1 Q := by
  refine ⟨by show 1 ≤ 1000; decide, fun a ha => ⟨rfl, a, v, rfl, T, nf, upd_same, fun dx hd ne => ⟨rfl, dx, [(f, v)], upd_same, ?_, ?_, ?_⟩⟩⟩
  · rw [upd_ne ne, upd_same]
  · rw [upd_ne ne] at hd
    exact hd
  · rw [upd_ne ne] at hd
    have e : upd (del (upd (upd (upd H1 a (exo a C none)) dx (exd dx [(f, v)])) a (exo a C (some dx))) a) dx (.xd [(f, v)]) = upd H1 dx (.xd [(f, v)]) := by
      funext b
      by_cases hb : b = dx
      · rw [hb, upd_same, upd_same]
      · rw [upd_ne hb, upd_ne hb]
        by_cases h2 : b = a
        · rw [h2, del_same, ha]
        · rw [del_ne h2, upd_ne h2, upd_ne hb, upd_ne h2]
    rw [e]
    exact q dx hd
def tRaise (K : PySem.W.Frag) (C : Addr) (f : Str) (W : WX) (te : TE) : TS := fun _ σ H => te σ H fun v H1 => RaiseQ K C f v H1 fun cls d H' => W cls d σ H'
section
variable {X : Cx} {CX : CXT} {k : Nat} {C fI : Addr} {ps : List Str} {x f : Str} {e : Expr} {te : TE} {W : WX} {p pos pos2 : Pos}
theorem ps_raiseV (hc : X.calm = true) (tk : Takes X W) (T : OexC X.K C) (iC : PySem.W.findIn X.K (.ref C) "__init__" = some (some (.ref fI))) (tI : PySem.W.typeIn X.K (.ref fI) = some (.type "function"))
    (F : FnE X.prog X.w X.K X.mg X.base CX k fI ps (sp_Er X.K C f)) (hr : Room (k + 1) X.A) (hx : Passes CX X (fun _ _ _ => False)) (hg : Gl X x) (hm : X.mg x = some (.ref C)) (he : PE X e te)
    (hdb : (x == ("__debug__" : Str)) = false := by decide) (hs : starEach (e :: []) X.env = (false, eval e X.env) :: starEach [] X.env := by rfl) :
    PS X (.Raise (some (.Call (.Name x p) [e] [] pos)) none pos2) (tRaise X.K C f W te) := by
  obtain ⟨fd, F1, b⟩ := F
  exact ps_raise hc tk (pmk_oex (dvs := []) T iC tI F1 hr b .nil hx hg hm (pa_cons he pa_nil hs) hdb hs (by rfl))
end

/-! ### calls that may raise -/
theorem takesAt {X : Cx} {W : WX} (tk : Takes X W) (σ : L2.St) : PassesAt (L2.CX X.prog X.w) X σ (WE W σ) := passAt tk σ
abbrev WO (E : XK) : WX := fun cls d _ H => E cls d H
section
variable {X : Cx} {CX : CXT} {k : Nat} {f C : Addr} {ps : List Str} {sp : Sp} {x m : Str} {p pos apos : Pos} {e o : Expr} {es : List Expr} {ta : TE} {t : TA} {W : WX}
def tCallW (sp : Sp) (W : WX) (t : TA) : TE := fun σ H Q => t σ H fun vs H1 => sp vs H1 Q (WE W σ)
theorem pe_callW (F : FnE X.prog X.w X.K X.mg X.base (L2.CX X.prog X.w) k f ps sp) (hr : Room k X.A) (hg : Gl X x) (hm : X.mg x = some (.ref f)) (hk : PySem.W.keepIn X.K (.ref f) = true) (tk : Takes X W)
    (ha : PA X (e :: es) t) (hdb : (x == ("__debug__" : Str)) = false := by decide) (he : starEach (e :: es) X.env = (false, eval e X.env) :: starEach es X.env := by rfl) (hpl : (backTo pos (starEach es X.env)).any (·.1) = false := by rfl) :
    PE X (.Call (.Name x p) (e :: es) [] pos) (tCallW sp W t) := by
  obtain ⟨fd, F1, b⟩ := F
  exact pe_callS F1 hr hg hm hk b (takesAt tk) ha hdb he hpl
/-- an instance is made: what its __init__ lets out passes at these slots -/
theorem make_at {pins : List (Addr × Obj)} {σ : L2.St} {H : Hp} {s : Shared} {Q : VK} {us : List Value} {vs : List V} {E : XK} (M : Mk X.K C f) (F : FnE X.prog X.w X.K X.mg X.base CX k f ps sp) (hr : Room (k + 1) X.A)
    (hx : PassesAt CX X σ E) (I : Inv X pins σ H s) (r : Vals vs us) (h : MkG C sp E vs Q H) : wpAny (model X.prog X.w) X.A (call (.ref C) us) (EP X pins σ Q) X.xe s := by
  obtain ⟨fd, F1, b⟩ := F
  have hq := h (s.heap.objs.size + 1) s.heap.objs.size (I.hok.fresh (Nat.le_succ _)) (I.hok.fresh (Nat.le_refl _)) (Nat.ne_of_lt (Nat.lt_succ_self _))
  have J := Inv.made (C := C) I
  have rr : Vals (V.ref (s.heap.objs.size + 1) :: vs) (Value.ref (s.heap.objs.size + 1) :: us) := .cons rfl r
  have nl : (Value.ref (s.heap.objs.size + 1) :: us).length = ps.length := rr.length.symm.trans (F1.len _ _ _ _ hq)
  have bb := b _ (Value.ref (s.heap.objs.size + 1) :: us) J.kIn (by rw [List.append_nil]; exact nl)
  rw [List.append_nil] at bb
  refine wpAny_call (make_map (f := f) I.kIn M.makes M.init (beq_iff_eq.mp M.fn) (codeAny_mono (F1.run _ X.stack _ _ ⟨Value.ref (s.heap.objs.size + 1) :: us, []⟩ _ _ _ E (hr.make C us []) (J.env0.make C us []) bb rr hq) fun res t ht => ?_))
  cases res with
  | error er => exact hx pins _ _ er t J ht
  | ok fl =>
    cases fl with
    | ret u =>
      obtain ⟨v, H2, I2, rv, ev, q⟩ := J.after ht
      subst ev
      exact ⟨rv, V.ref (s.heap.objs.size + 1), H2, I2, rfl, q⟩
    | next => exact ht.elim
    | brk => exact ht.elim
    | cont => exact ht.elim
def tMakeW (C : Addr) (sp : Sp) (W : WX) (t : TA) : TE := fun σ H Q => t σ H fun vs H1 => MkG C sp (WE W σ) vs Q H1
theorem pe_makeW (M : Mk X.K C f) (F : FnE X.prog X.w X.K X.mg X.base (L2.CX X.prog X.w) k f ps sp) (hr : Room (k + 1) X.A) (hg : Gl X x) (hm : X.mg x = some (.ref C)) (tk : Takes X W)
    (ha : PA X (e :: es) t) (hdb : (x == ("__debug__" : Str)) = false := by decide) (he : starEach (e :: es) X.env = (false, eval e X.env) :: starEach es X.env := by rfl) (hpl : (backTo pos (starEach es X.env)).any (·.1) = false := by rfl) :
    PE X (.Call (.Name x p) (e :: es) [] pos) (tMakeW C sp W t) :=
  ⟨fun pins s σ H Q I h => wpAny_Call_Name_kw (ld_glob I hg hm (PySem.W.callWith_K (h₀ := X.base) I.ok.mod.kin M.kp (thn (ha.run pos pins s σ H _ I h) fun us s1 ⟨vs, H1, I1, r, q⟩ => ⟨I1.kIn, make_at M F hr (takesAt tk σ) I1 r q⟩) he hpl) hdb)⟩
end
end TC

set_option Elab.async false
set_option linter.all false
set_option maxRecDepth 100000
set_option maxHeartbeats 4000000
/-! repr of data, and defs that are called where no repr is under way. -/
namespace TC
open PySem PySem.Spec PyProof.Rows L2

/-! ### data with empty dicts in it, as repr shows it -/
mutual
inductive Rp (K : PySem.W.Frag) (H : Hp) : V → PyData → Prop
  | non : Rp K H .non .none
  | bl (b : Bool) : Rp K H (.bl b) (.bool b)
  | int (i : Int) : Rp K H (.int i) (.int i)
  | str (x : Str) : Rp K H (.str x) (.str x)
  | lst {a : Addr} {xs : List V} {ds : List PyData} : SqL K H a xs → RpAll K H xs ds → PyData.hasDictAll ds = false → Rp K H (.ref a) (.list ds)
  | tup {a : Addr} {xs : List V} {ds : List PyData} : SqT K H a xs → RpAll K H xs ds → PyData.hasDictAll ds = false → Rp K H (.ref a) (.tuple ds)
  | tde {a p : Addr} {i : Int} : SqT K H a [.ref p, .int i] → H p = some (.dK []) → Rp K H (.ref a) (.tuple [.dict [], .int i])
  | emp {a : Addr} : H a = some (.dK []) → Rp K H (.ref a) (.dict [])
inductive RpAll (K : PySem.W.Frag) (H : Hp) : List V → List PyData → Prop
  | nil : RpAll K H [] []
  | cons {v : V} {vs : List V} {d : PyData} {ds : List PyData} : Rp K H v d → RpAll K H vs ds → RpAll K H (v :: vs) (d :: ds)
end
mutual
theorem Rp.same {K : PySem.W.Frag} {H H' : Hp} (e : Same H H') : ∀ (d : PyData) (v : V), Rp K H v d → Rp K H' v d
  | .none, _, h => by cases h; exact .non
  | .bool b, _, h => by cases h; exact .bl b
  | .int i, _, h => by cases h; exact .int i
  | .str x, _, h => by cases h; exact .str x
  | .list ds, _, h => by
    cases h with
    | lst s a n => exact .lst (e.seq s) (RpAll.same e ds _ a) n
  | .tuple ds, _, h => by
    cases h with
    | tup s a n => exact .tup (Same.seqT e s) (RpAll.same e ds _ a) n
    | tde s z => exact .tde (Same.seqT e s) (e _ _ z)
  | .dict _, _, h => by
    cases h with
    | emp z => exact .emp (e _ _ z)
theorem RpAll.same {K : PySem.W.Frag} {H H' : Hp} (e : Same H H') : ∀ (ds : List PyData) (vs : List V), RpAll K H vs ds → RpAll K H' vs ds
  | [], _, h => by cases h; exact .nil
  | d :: ds, _, h => by
    cases h with
    | cons a b => exact .cons (Rp.same e d _ a) (RpAll.same e ds _ b)
end
section
variable {X : Cx} {pins : List (Addr × Obj)} {σ : L2.St} {H : Hp} {s : Shared}
theorem reads_emp (I : Inv X pins σ H s) {a : Addr} (z : H a = some (.dK [])) : ∃ as, Reads s.heap (.ref a) (.dict []) as ∧ sysModules ∉ as := by
  obtain ⟨_, ns, vs, kv, o, es, ep, ho, hx, hd, _, hp, _⟩ := dk_of I.hok z
  cases kv
  have he : es.toList = [] := by
    cases hl : es.toList with
    | nil => rfl
    | cons y ys =>
      rw [hl] at hp
      exact absurd hp (by intro q; cases q)
  refine ⟨[a] ++ [], Reads.dict (as := []) (bs := []) ho hx.1 hd ?_ ?_, fun hm => ?_⟩
  · rw [he]
    exact .nil
  · rw [he]
    exact .nil
  · have := List.mem_singleton.mp hm
    rw [← this, beq_self_eq_true] at ns
    cases ns
mutual
theorem Rp.reads (I : Inv X pins σ H s) : ∀ (d : PyData) (v : V) (u : Value), Rp X.K H v d → RelV v u → ∃ as, Reads s.heap u d as ∧ (d.hasDict = true → sysModules ∉ as)
  | .none, _, _, h, r => by
    cases h
    cases r
    exact ⟨_, Reads.none, fun _ z => nomatch z⟩
  | .bool b, _, _, h, r => by
    cases h
    cases r
    exact ⟨_, Reads.bool b, fun _ z => nomatch z⟩
  | .int i, _, _, h, r => by
    cases h
    obtain ⟨t, rfl⟩ := r
    exact ⟨_, Reads.int i t, fun _ z => nomatch z⟩
  | .str x, _, _, h, r => by
    cases h
    obtain ⟨t, rfl⟩ := r
    exact ⟨_, Reads.str x t, fun _ z => nomatch z⟩
  | .list ds, _, _, h, r => by
    cases h with
    | lst hs ha nd =>
      cases r
      obtain ⟨its, rv, pl, _⟩ := I.list hs
      obtain ⟨o, ho, hc, n, hd⟩ := pl.isList
      obtain ⟨as, ra⟩ := RpAll.reads I ds _ _ ha rv
      refine ⟨_, Reads.list ho hc hd ra, fun z => ?_⟩
      have z2 : PyData.hasDictAll ds = true := z
      rw [nd] at z2
      cases z2
  | .tuple ds, _, _, h, r => by
    cases h with
    | tup hs ha nd =>
      cases r
      obtain ⟨its, rv, ⟨o, ho, hc, n, hd⟩, _⟩ := I.tuple hs
      obtain ⟨as, ra⟩ := RpAll.reads I ds _ _ ha rv
      refine ⟨_, Reads.tuple ho hc hd ra, fun z => ?_⟩
      have z2 : PyData.hasDictAll ds = true := z
      rw [nd] at z2
      cases z2
    | tde hs z =>
      cases r
      obtain ⟨its, rv, ⟨o, ho, hc, n, hd⟩, _⟩ := I.tuple hs
      obtain ⟨as, ra, nm⟩ := reads_emp I z
      cases rv with
      | cons r1 r2 =>
        cases r2 with
        | cons r3 r4 =>
          cases r4
          cases r1
          obtain ⟨t, rfl⟩ := r3
          refine ⟨_, Reads.tuple ho hc hd (ReadsAll.cons ra (ReadsAll.cons (Reads.int _ t) ReadsAll.nil)), fun _ hm => ?_⟩
          rw [List.append_nil, List.append_nil] at hm
          exact nm hm
  | .dict kvs, _, _, h, r => by
    cases h with
    | emp z =>
      cases r
      obtain ⟨as, ra, nm⟩ := reads_emp I z
      exact ⟨as, ra, fun _ => nm⟩
theorem RpAll.reads (I : Inv X pins σ H s) : ∀ (ds : List PyData) (vs : List V) (us : List Value), RpAll X.K H vs ds → Vals vs us → ∃ as, ReadsAll s.heap us ds as
  | [], _, _, h, r => by
    cases h
    cases r
    exact ⟨_, ReadsAll.nil⟩
  | d :: ds, _, _, h, r => by
    cases h with
    | cons a b =>
      cases r with
      | cons r1 r2 =>
        obtain ⟨as, q1, m1⟩ := Rp.reads I d _ _ a r1
        obtain ⟨bs, q2⟩ := RpAll.reads I ds _ _ b r2
        exact ⟨_, ReadsAll.cons q1 q2⟩
end
end
/-- repr(v) where no repr is under way -/
def rRepr (K : PySem.W.Frag) : List V → Hp → VK → Prop := fun xs H Q => ∃ v d, xs = [v] ∧ Rp K H v d ∧ d.showable = true ∧ d.shown.length ≤ sizeLine ∧ d.depth ≤ 60 ∧ Q (.str d.shown) H
theorem i_repr {K : PySem.W.Frag} {H : Hp} {Q : VK} {v : V} {d : PyData} (h1 : Rp K H v d) (h2 : d.showable = true) (h3 : d.shown.length ≤ sizeLine) (h4 : d.depth ≤ 60) (q : Q (.str d.shown) H) : rRepr K [v] H Q := ⟨v, d, rfl, h1, h2, h3, h4, q⟩
section
variable {X : Cx}
theorem call_reprD (hg : X.A.guards = some []) (hu : X.A.units + 64 < cLine) : CallR X (.builtin "repr") (rRepr X.K) := by
  intro pins s σ H xs us Q I r h
  obtain ⟨v, d, rfl, hp, hs, hz, hdp, q⟩ := h
  obtain ⟨u, rfl, rv⟩ := vals1 r
  obtain ⟨as, rd, nm⟩ := Rp.reads I d v u hp rv
  have big : ∀ a, Reads s.heap (.ref a) d as → wpAny (model X.prog X.w) X.A (call (.builtin "repr") [.ref a]) (EP X pins σ Q) X.xe s := fun a ra =>
    repr_of_reads' ra hs nm hg (by omega) (fun _ _ e => e) (fun h' t tk k => ⟨.str _, H, I.kept (t' := tk) k, ⟨t, rfl⟩, q⟩) hz
  cases hp with
  | non =>
    cases rv
    exact PySem.P.repr_of_none ⟨.str _, H, I.tok _, ⟨_, rfl⟩, q⟩
  | bl b =>
    cases rv
    exact PySem.P.repr_of_bool ⟨.str _, H, I.tok _, ⟨_, rfl⟩, q⟩
  | int i =>
    obtain ⟨t, rfl⟩ := rv
    exact PySem.P.repr_of_int (of_decide_eq_true hs) ⟨.str _, H, I.tok _, ⟨_, rfl⟩, q⟩
  | str x =>
    obtain ⟨t, rfl⟩ := rv
    exact PySem.P.repr_of_str ⟨.str _, H, I.tok _, ⟨_, rfl⟩, q⟩ hz
  | lst _ _ _ => cases rv; exact big _ rd
  | tup _ _ _ => cases rv; exact big _ rd
  | tde _ _ => cases rv; exact big _ rd
  | emp _ => cases rv; exact big _ rd
end

/-! ### defs that are called where no repr is under way -/
structure FnG (P : Program) (w : World) (K : PySem.W.Frag) (mg : Str → Option Value) (base : Heap) (CX : CXT) (k : Nat) (f : Addr) (fd : FuncData) (ps : List Str) (sp : Sp) : Prop where
  len : ∀ vs H Q E, sp vs H Q E → vs.length = ps.length
  run : ∀ (A : Around) (outer : List Env) (s : Shared) (H : Hp) (args : Args) (us : List Value) (vs : List V) (Q : VK) (E : XK), A.guards = some [] → Room k A → Env0 P w K mg base A outer s H → BindsTo s fd args (ps.zip us) → Vals vs us → sp vs H Q E →
    codeAny (model P w) A (.call (.ref f) args) (CR CX outer P w H s Q E) s
def FnGE (P : Program) (w : World) (K : PySem.W.Frag) (mg : Str → Option Value) (base : Heap) (CX : CXT) (k : Nat) (f : Addr) (ps : List Str) (sp : Sp) : Prop :=
  ∃ fd : FuncData, FnG P w K mg base CX k f fd ps sp ∧ Binds K fd ps []
section
variable {P : Program} {w : World} {K : PySem.W.Frag} {mg : Str → Option Value} {base : Heap} {CX : CXT} {k : Nat} {f : Addr} {ps : List Str} {sp : Sp}
/-- a def by its body -/
theorem fnG_of {x qual : Str} {st : Stmt} {fd : FuncData} {N : List Str} (F : Fun K x qual st f fd) (S : FnScope N ps (defScope st)) (len : ∀ vs H Q E, sp vs H Q E → vs.length = ps.length)
    (hbody : ∀ (cdv : Value) (A : Around) (outer : List Env) (s : Shared) (H : Hp) (vs : List V) (Q : VK) (E : XK), A.guards = some [] → Room k (A.deeper (envOfC qual (defScope st) s.heap.objs.size f cdv)) → sp vs H Q E →
      ∃ t, PSs (cxOf CX P w K mg base N qual (defScope st) f cdv A outer s H E) (defBody st) t ∧ t { nx := fun _ H' => Q .non H', rt := Q } (start N vs) H) : FnG P w K mg base CX (k + 1) f fd ps sp := by
  obtain ⟨oc, od, kV, doc, pm, an, cdv, ct, osl, rfl, lk, hcd⟩ := F.ex
  refine ⟨len, fun A outer s H args us vs Q E hG hr e0 hb rv hsp => ?_⟩
  have inK : K.In s.heap := e0.mod.kin.keeps fun b o z => (e0.bs b o z).1
  have kinds : ∀ z ∈ ps.zip us, (defScope st).names.lookup z.1 = some .local ∨ ((defScope st).names.lookup z.1 = some .cell ∧ ((cellsFrom (s.heap.objs.size + 1) (defScope st).names []).lookup z.1).isSome = true) := by
    intro z hz
    rcases S.par z.1 (List.of_mem_zip hz).1 with q | q
    · exact .inl q
    · exact .inr ⟨q, PySem.W.cellsFrom_some _ _ _ (.inl q)⟩
  refine codeAny_call_function hr.depth (inK _ _ lk) rfl S.co S.gen rfl (PySem.W.codeRec_of inK hcd) (hb _ _ _ _ (wpAny_newFunctionEnv_cells S.kind kinds fun env he s1 x => ?_))
  subst he
  refine ⟨(e0.mod.nolimit.keeps fun b o z => (e0.bs b o z).1).keeps x.toInCall.keep, codeAny_func ?_⟩
  obtain ⟨t, ht, hq⟩ := hbody cdv A outer s H vs Q E hG (hr.deeper _) hsp
  refine wpAny_mono (ht.run [] s1 (start N vs) H _ (inv_start S hr.hd e0 (len _ _ _ _ hsp) rv x) hq) (fun fl s2 h2 => ?_) fun _ _ z => z
  cases fl with
  | ret u => obtain ⟨v, σ1, H1, J, r1, q1⟩ := h2; exact ⟨v, H1, J.os, J.bare, J.base, J.hok, r1, q1⟩
  | next => obtain ⟨σ1, H1, J, q1⟩ := h2; exact ⟨.non, H1, J.os, J.bare, J.base, J.hok, rfl, q1⟩
  | brk => obtain ⟨_, _, _, q1⟩ := h2; exact q1.elim
  | cont => obtain ⟨_, _, _, q1⟩ := h2; exact q1.elim
theorem FnE.g (F : FnE P w K mg base CX k f ps sp) : FnGE P w K mg base CX k f ps sp := by
  obtain ⟨fd, F1, b⟩ := F
  exact ⟨fd, ⟨F1.len, fun A outer s H args us vs Q E _ => F1.run A outer s H args us vs Q E⟩, b⟩
end
theorem FnG.imp {P : Program} {w : World} {K : PySem.W.Frag} {mg : Str → Option Value} {base : Heap} {CX : CXT} {k : Nat} {f : Addr} {fd : FuncData} {ps : List Str} {sp sp' : Sp} (F : FnG P w K mg base CX k f fd ps sp) (h : ∀ vs H Q E, sp' vs H Q E → sp vs H Q E) : FnG P w K mg base CX k f fd ps sp' :=
  ⟨fun vs H Q E z => F.len vs H Q E (h _ _ _ _ z), fun A outer s H args us vs Q E g hr he hb hv hs => F.run A outer s H args us vs Q E g hr he hb hv (h _ _ _ _ hs)⟩
section
variable {X : Cx} {CX : CXT} {k : Nat} {f : Addr} {ps : List Str} {sp : Sp} {x : Str} {p pos : Pos} {e : Expr} {es : List Expr} {t : TA} {W : WX} {E : XK}
theorem runG_at {pins : List (Addr × Obj)} {σ : L2.St} {H : Hp} {s : Shared} {Q : VK} {us : List Value} {vs : List V} (hG : X.A.guards = some []) (F : FnGE X.prog X.w X.K X.mg X.base CX k f ps sp) (hr : Room k X.A)
    (hx : PassesAt CX X σ E) (I : Inv X pins σ H s) (r : Vals vs us) (h : sp vs H Q E) : wpAny (model X.prog X.w) X.A (call (.ref f) us) (EP X pins σ Q) X.xe s := by
  obtain ⟨fd, F1, b⟩ := F
  have nl : us.length = ps.length := r.length.symm.trans (F1.len _ _ _ _ h)
  have bb := b s us I.kIn (by rw [List.append_nil]; exact nl)
  rw [List.append_nil] at bb
  refine wpAny_call (codeAny_mono (F1.run X.A X.stack s H ⟨us, []⟩ us vs Q E hG hr I.env0 bb r h) fun res t ht => ?_)
  cases res with
  | error er => exact hx pins H s er t I ht
  | ok fl =>
    cases fl with
    | ret u => exact I.after ht
    | next => exact ht.elim
    | brk => exact ht.elim
    | cont => exact ht.elim
theorem pe_callG (hG : X.A.guards = some []) (F : FnGE X.prog X.w X.K X.mg X.base CX k f ps sp) (hr : Room k X.A) (hg : Gl X x) (hm : X.mg x = some (.ref f)) (hk : PySem.W.keepIn X.K (.ref f) = true) (hx : Passes CX X E)
    (ha : PA X (e :: es) t) (hdb : (x == ("__debug__" : Str)) = false := by decide) (he : starEach (e :: es) X.env = (false, eval e X.env) :: starEach es X.env := by rfl) (hpl : (backTo pos (starEach es X.env)).any (·.1) = false := by rfl) :
    PE X (.Call (.Name x p) (e :: es) [] pos) (tCallR sp E t) :=
  ⟨fun pins s σ H Q I h => wpAny_Call_Name_kw (ld_glob I hg hm (PySem.W.callWith_K (h₀ := X.base) I.ok.mod.kin hk (thn (ha.run pos pins s σ H _ I h) fun us s1 ⟨vs, H1, I1, r, q⟩ => ⟨I1.kIn, runG_at hG F hr (fun pn H2 s2 e2 t2 J c => hx pn σ H2 s2 e2 t2 J c) I1 r q⟩) he hpl) hdb)⟩
theorem pe_callG0 (hG : X.A.guards = some []) (F : FnGE X.prog X.w X.K X.mg X.base CX k f ps sp) (hr : Room k X.A) (hg : Gl X x) (hm : X.mg x = some (.ref f)) (hk : PySem.W.keepIn X.K (.ref f) = true) (hx : Passes CX X E)
    (hdb : (x == ("__debug__" : Str)) = false := by decide) : PE X (.Call (.Name x p) [] [] pos) (tCallR sp E tNil) :=
  ⟨fun pins s σ H Q I h => wpAny_Call_Name_kw (ld_glob I hg hm (PySem.W.callWith_K0 I.kIn hk (runG_at (us := []) hG F hr (fun pn H2 s2 e2 t2 J c => hx pn σ H2 s2 e2 t2 J c) I .nil h)) hdb)⟩
theorem pe_callGW (hG : X.A.guards = some []) (F : FnGE X.prog X.w X.K X.mg X.base (L2.CX X.prog X.w) k f ps sp) (hr : Room k X.A) (hg : Gl X x) (hm : X.mg x = some (.ref f)) (hk : PySem.W.keepIn X.K (.ref f) = true) (tk : Takes X W)
    (ha : PA X (e :: es) t) (hdb : (x == ("__debug__" : Str)) = false := by decide) (he : starEach (e :: es) X.env = (false, eval e X.env) :: starEach es X.env := by rfl) (hpl : (backTo pos (starEach es X.env)).any (·.1) = false := by rfl) :
    PE X (.Call (.Name x p) (e :: es) [] pos) (tCallW sp W t) :=
  ⟨fun pins s σ H Q I h => wpAny_Call_Name_kw (ld_glob I hg hm (PySem.W.callWith_K (h₀ := X.base) I.ok.mod.kin hk (thn (ha.run pos pins s σ H _ I h) fun us s1 ⟨vs, H1, I1, r, q⟩ => ⟨I1.kIn, runG_at hG F hr (takesAt tk σ) I1 r q⟩) he hpl) hdb)⟩
end

/-! ### the law, called where no repr is under way -/
/-- the heap of the law's call: the script, where the module does not hold it -/
def Hs (K : PySem.W.Frag) (a : Addr) (vs : List Value) (ns : List Int) : Hp := fun b =>
  if b = a ∧ K.lookup a = none then some (.frz { cls := .type "list", data := .seq vs.toArray } (.lst (ns.map V.int))) else none
section
variable {P : Program} {w : World} {K : PySem.W.Frag} {mg mb : Str → Option Value} {CX : CXT} {k : Nat} {fa a : Addr} {fd : FuncData} {x : Str} {sp : Sp} {g : Shared} {vs : List Value} {ns : List Int}
theorem hs_only (b : Addr) : Hs K a vs ns b = none ∨ (b = a ∧ K.lookup a = none ∧ Hs K a vs ns b = some (.frz { cls := .type "list", data := .seq vs.toArray } (.lst (ns.map V.int)))) := by
  unfold Hs
  by_cases h : b = a ∧ K.lookup a = none
  · exact .inr ⟨h.1, h.2, if_pos h⟩
  · exact .inl (if_neg h)
theorem hs_seq (KX : K.In g.heap) (ha : g.heap.get? a = some { cls := .type "list", data := .seq vs.toArray }) (hi : IntsAre vs ns) (hl : ns.length ≤ sizeLine) : SqL K (Hs K a vs ns) a (ns.map V.int) := by
  cases hk : K.lookup a with
  | none => exact .inl (.inr ⟨{ cls := .type "list", data := .seq vs.toArray }, by unfold Hs; rw [if_pos ⟨rfl, hk⟩]⟩)
  | some o =>
    have z := KX a o hk
    rw [ha] at z
    cases z
    exact .inr ⟨_, vs.toArray, _, hk, rfl, rfl, rfl, by rw [List.size_toArray, hi.length]; exact hl, by simpa using vals_ints hi⟩
theorem law_callG (KX : K.In g.heap) (hns : g.heap.Ns mainGlobals mg) (hb : g.heap.Ns builtinsNs mb) (hbb : ∀ x : Str, x ≠ "__name__" → mb x = bootBuiltins x) (hlim : g.heap.NoLimit) (hg : g.gens = #[])
    (ha : g.heap.get? a = some { cls := .type "list", data := .seq vs.toArray }) (hi : IntsAre vs ns) (hl : ns.length ≤ sizeLine) (hr : Room k callerA)
    (F : ∀ base : Heap, K.In base → base.Ns mainGlobals mg → FnG P w K mg base CX k fa fd [x] sp) (hbind : ∀ (s : Shared) (u : Value), BindsTo s fd ⟨[u], []⟩ [(x, u)])
    (hsp : ∀ H : Hp, SqL K H a (ns.map V.int) → sp [.ref a] H (fun v _ => v = .bl true) fun _ _ _ => False) (hCX : ∀ H e s', CX [] H g (fun _ _ _ => False) e s' → False) :
    codeAny (model P w) callerA (.call (.ref fa) ⟨[.ref a], []⟩) (fun r s' => r = .ok (.ret (.bool true)) ∧ OldK g.heap s'.heap ∧ s'.os = g.os ∧ AllBare s'.gens) g := by
  have stays : ∀ {b : Addr} {o : Obj}, g.heap.get? b = some o → Hs K a vs ns b = none → (hidT g.heap (Hs K a vs ns)).get? b = some o := fun z n => hidT_get z n
  have inB : K.In (hidT g.heap (Hs K a vs ns)) := fun b o z => stays (KX b o z) (by
    rcases hs_only (K := K) (a := a) (vs := vs) (ns := ns) b with n | ⟨rfl, hk, _⟩
    · exact n
    · rw [hk] at z
      cases z)
  have nsB : ∀ {b : Addr} {m : Str → Option Value}, g.heap.Ns b m → (hidT g.heap (Hs K a vs ns)).Ns b m := by
    rintro b m ⟨o, es, ep, z, zd, r⟩
    refine ⟨o, es, ep, stays z ?_, zd, r⟩
    rcases hs_only (K := K) (a := a) (vs := vs) (ns := ns) b with n | ⟨rfl, _, _⟩
    · exact n
    · rw [ha] at z
      cases z
      exact nomatch zd
  obtain ⟨mc, l1, l2⟩ := hlim
  have M : Mod K mg (hidT g.heap (Hs K a vs ns)) := ⟨inB, nsB hns, ⟨mb, nsB hb, hbb⟩, ⟨mc, nsB l1, l2⟩⟩
  have rv := vals_ints hi
  have ok0 : HOk P w (Hs K a vs ns) g.heap := fun b u z => by
    rcases hs_only (K := K) (a := a) (vs := vs) (ns := ns) b with n | ⟨rfl, _, y⟩
    · rw [n] at z
      cases z
    · rw [y] at z
      cases z
      exact ⟨ha, by rw [List.length_map]; exact hl, vs, _, rv, ha⟩
  have e0 : Env0 P w K mg (hidT g.heap (Hs K a vs ns)) callerA [] g (Hs K a vs ns) :=
    ⟨rfl, M, fun b o z => of_hidT z, Nat.le_of_eq (hidT_size _ _), trivial, fun b z => absurd (show b ∈ ([] : List Addr) from z) List.not_mem_nil, ok0, .of_eq hg⟩
  refine codeAny_mono ((F _ inB (nsB hns)).run callerA [] g (Hs K a vs ns) ⟨[.ref a], []⟩ [.ref a] [.ref a] _ _ rfl hr e0 (hbind g (.ref a)) (.cons rfl .nil) (hsp _ (hs_seq KX ha hi hl))) fun r t ht => ?_
  cases r with
  | error er => exact (hCX _ er t ht).elim
  | ok fl =>
    cases fl with
    | next => exact ht.elim
    | brk => exact ht.elim
    | cont => exact ht.elim
    | ret u =>
      obtain ⟨v, H2, os, bare, un, ok2, r2, q⟩ := ht
      have q2 : v = .bl true := q
      subst q2
      obtain rfl : u = Value.bool true := r2
      refine ⟨rfl, OldK.of_keep fun b o z => ?_, os, bare⟩
      rcases hs_only (K := K) (a := a) (vs := vs) (ns := ns) b with n | ⟨rfl, _, y⟩
      · exact un.keep b o z n (fun m => absurd (show b ∈ ([] : List Addr) from m) List.not_mem_nil) List.not_mem_nil
      · obtain ⟨z2, _⟩ := ok2 b _ (un.frzs b _ _ y)
        rw [ha] at z
        cases z
        exact z2
theorem walk_ofG {l : PySem.W.OpenLaw} {n k : Nat} {q : Program} {loose : List Str} {XP : (Str → Option Value) → Heap → Prop} {YP : World → Heap → Prop} {d : DefRec} {K : Params → PySem.W.Frag} {CX : World → CXT} {sp : World → Sp} {x : Str}
    (hn : l.most = some n) (hn2 : n ≤ sizeLine) (hdf : d.params.defaults = []) (hr : Room k callerA) (hY : ∀ (w : World) (h : Heap), YP w h → (K w.params).In h)
    (F : ∀ (w : World) (mg : Str → Option Value) (fa : Addr) (h : Heap), (K w.params).In h → h.Ns mainGlobals mg → mg d.name = some (.ref fa) →
      ∃ fd : FuncData, (∀ (s : Shared) (u : Value), BindsTo s fd ⟨[u], []⟩ [(x, u)]) ∧ ∀ base : Heap, (K w.params).In base → base.Ns mainGlobals mg → FnG l.prog w (K w.params) mg base (CX w) k fa fd [x] (sp w))
    (hsp : ∀ (w : World) (H : Hp) (a : Addr) (ns : List Int), ns.length ≤ n → (∀ z ∈ ns, Builtin.Int.intBits z ≤ 1048576) → SqL (K w.params) H a (ns.map V.int) → sp w [.ref a] H (fun v _ => v = .bl true) fun _ _ _ => False)
    (hCX : ∀ (w : World) (H : Hp) (s : Shared) (e : Value) (s' : Shared), CX w [] H s (fun _ _ _ => False) e s' → False) : PySem.W.WalkO q loose XP YP l.row.toRowW d [] (fun f vs => PySem.call f vs) :=
  Att.attach_callB hn hdf fun w s₀ g mg mb fa o pm cd doc a vs ns G Y ho hd hcd hmg hobj hints hlen hbits hg => by
    obtain ⟨fd, hb, hF⟩ := F w mg fa _ (hY w _ Y) G.T.g hmg
    exact law_callG (hY w _ Y) G.T.g G.T.b G.T.builtins G.T.nolimit hg hobj hints (Nat.le_trans hlen hn2) hr hF hb (fun H hS => hsp w H a ns hlen hbits hS) fun H e s' => hCX w H g e s'
end

/-! ### isinstance of a caught error -/
theorem Room.u64 {k : Nat} {A : Around} (r : Room k A) : A.units + 64 < cLine := by have := r.un; omega
def rIsD (K : PySem.W.Frag) (D a : Addr) (cls : Value) (d : Option Addr) : List V → Hp → VK → Prop := fun xs H Q => ∃ (D2 : Addr) (b : Bool) (dd : Addr) (fs : List (Str × V)), xs = [.ref a, .ref D2] ∧ cls = .ref D ∧ PySem.W.kitOne K (.ref D) (.ref D2) = some b ∧ d = some dd ∧ H dd = some (.xd fs) ∧ Q (.bl b) H
theorem call_isD {X : Cx} {a D : Addr} {oe : Obj} {cls : Value} {d : Option Addr} {pn : List (Addr × Obj)} (C : ExcC X.K D) (hz : Zc cls d oe) (hf : ∃ vs, oe.data = .fields vs) : CallR (X.suite a ((a, oe) :: pn)) (.builtin "isinstance") (rIsD X.K D a cls d) := by
  intro pins s σ H xs us Q I r h
  obtain ⟨D2, b, dd, fs, rfl, rfl, e, rfl, hdd, q⟩ := h
  cases r with
  | cons rx rr =>
    cases rr with
    | cons rt rr =>
      cases rr
      cases rx
      cases rt
      obtain ⟨hget, _⟩ := I.pin (a, oe) (List.mem_append.mpr (.inl List.mem_cons_self))
      obtain ⟨vs, hv⟩ := hf
      obtain ⟨mA, hns, _⟩ := (show ∃ mA, s.heap.Ns1 dd mA ∧ ∀ f, RelO (fs.lookup f) (mA f) from I.hok dd _ hdd)
      obtain ⟨od, ho, _⟩ := lookIn_ns hns
      have J : PySem.W.InstAt s.heap a oe D (some od) := by
        obtain ⟨oc, odc, oda, osl⟩ := oe
        obtain ⟨h1, h2⟩ := hz
        dsimp only at h1 h2 hv
        subst h1 h2 hv
        exact ⟨hget, rfl, rfl, ho⟩
      obtain ⟨cdD, hcD, _⟩ := PySem.W.any_some C.hd
      exact PySem.W.kia_one (PySem.W.kitx_exc (od := some od) (by rw [hcD]; rfl) C.hg C.hk C.hs C.ha C.hn C.ht C.hm) I.kIn J e (fun z => nomatch z) fun tk => ⟨.bl b, H, I.kept (t' := tk) fun _ _ z => z, rfl, q⟩
end TC

set_option Elab.async false
set_option linter.all false
set_option maxRecDepth 100000
set_option maxHeartbeats 4000000
/-! Promises and readings of the defs that many laws share. No text of a law stands here. -/
namespace TC
open PySem PySem.Spec PyProof.Rows L2
open PySem.W (Datum Tup)
theorem divOk {i j : Int} (h : 0 < j) (h2 : j ≤ 10000000000000000000000000000000000000000) : CDivW i j :=
  wide_div (b := 200) h (Nat.lt_of_le_of_lt (show j.natAbs ≤ 10000000000000000000000000000000000000000 by omega) (by decide)) (by decide) (by decide)
local macro_rules | `(tactic| walk_at "st") => `(tactic| repeat (first
  | with_reducible refine i_seq ?_ | with_reducible refine i_asg ?_ | with_reducible refine i_ret ?_ | with_reducible refine i_retN ?_ | with_reducible refine i_ifs ?_ | with_reducible refine i_next ?_ | with_reducible refine i_drop ?_
  | with_reducible refine i_par ?_ | with_reducible refine i_gN ?_ | with_reducible refine i_gS ?_ | with_reducible refine i_nil ?_ | with_reducible refine i_cons ?_ | with_reducible refine i_tup ?_ | with_reducible refine i_lst ?_
  | with_reducible refine i_op ?_ | with_reducible refine i_un ?_ | with_reducible refine i_test ?_ | with_reducible refine i_B ?_ | with_reducible refine i_bl ?_ | with_reducible refine i_not ?_ | with_reducible refine i_and ?_ | with_reducible refine i_or ?_
  | with_reducible refine i_andV ?_ | with_reducible refine i_orV ?_ | with_reducible refine i_notV ?_ | with_reducible refine i_if ?_ | with_reducible refine i_chain ?_ | with_reducible refine i_cb ?_ | with_reducible refine i_call ?_ | with_reducible refine i_make ?_
  | with_reducible refine i_smeth ?_ | with_reducible refine i_prop ?_ | with_reducible refine i_fld ?_ | with_reducible refine i_sfld ?_ | with_reducible refine i_bm ?_ | with_reducible refine i_fmt ?_ | with_reducible refine i_fmt6 ?_ | with_reducible refine i_joined ?_ | with_reducible refine i_jsC ?_ | with_reducible refine i_jsN ?_ | with_reducible refine i_for ?_ | with_reducible refine i_rng1 ?_ | with_reducible refine i_rng2 ?_ | with_reducible refine i_iL ?_ | with_reducible refine i_iT ?_ | with_reducible refine i_iLT ?_ | with_reducible refine i_iEn ?_ | with_reducible refine i_iZp ?_ | with_reducible refine i_lr1 ?_ | with_reducible refine i_lr2 ?_ | with_reducible refine i_gT ?_ | with_reducible refine i_gC ?_ | with_reducible refine i_gNil ?_ | with_reducible refine i_sl ?_ | with_reducible refine i_noP ?_ | with_reducible refine i_prt ?_ | with_reducible refine i_int ?_ | with_reducible refine i_jT ?_ | with_reducible refine i_bm0 ?_
  | ((with_reducible refine' i_var ?hv ?_); (case hv => exact rfl)) | with_reducible refine i_c ?_ | with_reducible refine i_rI0 ?_ | with_reducible refine i_rU ?_ | with_reducible refine i_abs ?_ | with_reducible refine i_max2 ?_ | with_reducible refine i_min2 ?_ | with_reducible refine i_int1 ?_
  | ((with_reducible refine' i_rI ?hc ?_); (case hc => first | (show (0 : Int) < _; first | decide | omega) | (refine Or.inl (Or.inl ?_); constructor <;> first | decide | omega) | (refine Or.inl (Or.inr ?_); constructor <;> first | decide | omega) | (refine divOk ?_ ?_ <;> first | decide | omega) | (refine ⟨?_, ?_, ?_⟩ <;> first | decide | omega)))
  | with_reducible refine iteT ?_ | with_reducible refine iteF ?_ | with_reducible refine iteN ?_ | with_reducible refine iteM ?_))
/-- a reading, from the call to what it hands back -/
def Run (t : TS) (n : Nat) (vs : List V) (H : Hp) (Q : VK) : Prop := t { nx := fun _ H' => Q .non H', rt := Q } (vs.map some ++ List.replicate (n - vs.length) none) H
section
variable {K : PySem.W.Frag} {a : Ad} {H H' : Hp} {Q : VK} {E : XK} {vs : List V}

/-! ### is_integer -/
def IntQ (K : PySem.W.Frag) (H : Hp) (v : V) (b : Bool) : Prop :=
  (∃ i, v = .int i ∧ b = true) ∨ (b = false ∧ ∃ (t : Value) (b1 b2 : Bool), TyX K H v t ∧ PySem.W.kitOne K t (.type "int") = some b1 ∧ PySem.W.kitOne K t (.type "bool") = some b2 ∧ (b1 && !b2) = false)
theorem IntQ.int (i : Int) : IntQ K H (.int i) true := .inl ⟨i, rfl, rfl⟩
def sp_is_integer (K : PySem.W.Frag) (a : Ad) : Sp := fun vs H Q _ => vs.length = 1 ∧ ∃ v b, vs = [v] ∧ IntQ K H v b ∧ Q (.bl b) H
def t_is_integer (K : PySem.W.Frag) (a : Ad) : TS := tRet (tAndV (tCB (rIsi K) (tCons (tVar 0) (tCons (tC (.ty "int")) (tNil)))) (tNotV (tCB (rIsi K) (tCons (tVar 0) (tCons (tC (.ty "bool")) (tNil))))))
theorem pure_is_integer (h : sp_is_integer K a vs H Q E) : Run (t_is_integer K a) 1 vs H Q := by
  obtain ⟨_, v, b, rfl, hq, q⟩ := h
  have go : ∀ (t : Value) (b1 b2 : Bool), TyX K H v t → PySem.W.kitOne K t (.type "int") = some b1 → PySem.W.kitOne K t (.type "bool") = some b2 → (b1 && !b2) = b → Run (t_is_integer K a) 1 [v] H Q := by
    intro t b1 b2 ty e1 e2 e3
    subst e3
    refine ⟨v, rfl, v, _, t, _, b1, rfl, .ty "int", ty, e1, b1, rfl, ?_⟩
    cases b1 with
    | true => exact iteT ⟨v, rfl, v, _, t, _, b2, rfl, .ty "bool", ty, e2, b2, rfl, q⟩
    | false => exact iteF q
  rcases hq with ⟨i, rfl, rfl⟩ | ⟨rfl, t, b1, b2, ty, e1, e2, e3⟩
  · exact go _ true false (.base (.int i)) (kit_ty (by decide +kernel)) (kit_ty (by decide +kernel)) rfl
  · exact go t b1 b2 ty e1 e2 e3

/-! ### rows -/
def IsRow (ns : List Int) : Prop := 1 ≤ ns.length ∧ ns.length ≤ 2000 ∧ (ns.map absI).Perm (rgI 1 ns.length)
theorem tyx_L {p : Addr} {xs : List V} (h : SqL K H p xs) : TyX K H (.ref p) (.type "list") := by
  rcases h with (h | ⟨o, h⟩) | ⟨o, its, n, h1, h2, _⟩
  · exact .base (.lst h)
  · exact .base (.frz h)
  · exact .kList h1 h2
theorem tyx_T {p : Addr} {xs : List V} (h : SqT K H p xs) : TyX K H (.ref p) (.type "tuple") := by
  rcases h with (h | ⟨o, h⟩) | ⟨o, its, n, h1, h2, _⟩
  · exact .base (.tup h)
  · exact .fTuple h
  · exact .kTuple h1 h2

/-- what is_row answers of a list or tuple of xs -/
def RowAns (xs : List V) (b : Bool) : Prop := b = true ↔ ∃ ns : List Int, xs = ns.map V.int ∧ IsRow ns
/-- all items are ints or known not to be -/
theorem ints_of {xs : List V} {f : V → Bool} (hf : ∀ x ∈ xs, IntQ K H x (f x)) : xs.all f = true → ∃ ns : List Int, xs = ns.map V.int := by
  induction xs with
  | nil => exact fun _ => ⟨[], rfl⟩
  | cons x xs ih =>
    intro h
    rw [List.all_cons, Bool.and_eq_true] at h
    obtain ⟨ns, rfl⟩ := ih (fun y hy => hf y (List.mem_cons_of_mem _ hy)) h.2
    rcases hf x List.mem_cons_self with ⟨i, rfl, _⟩ | ⟨e, _⟩
    · exact ⟨i :: ns, rfl⟩
    · rw [h.1] at e
      cases e
theorem TyX.same {v : V} {t : Value} (e : Same H H') (h : TyX K H v t) : TyX K H' v t := by
  cases h with
  | base b =>
    refine .base ?_
    cases b with
    | non => exact .non
    | bl x => exact .bl x
    | int x => exact .int x
    | str x => exact .str x
    | flt x => exact .flt x
    | lst q => exact .lst (e _ _ q)
    | frz q => exact .frz (e _ _ q)
    | tup q => exact .tup (e _ _ q)
    | dK q => exact .dK (e _ _ q)
    | dT q => exact .dT (e _ _ q)
    | ins q c1 c2 c3 c4 c5 => exact .ins (e _ _ q) c1 c2 c3 c4 c5
  | byt b => exact .byt b
  | set q => exact .set (e _ _ q)
  | kList q c => exact .kList q c
  | kTuple q c => exact .kTuple q c
  | kDict q c => exact .kDict q c
  | fTuple q => exact .fTuple (e _ _ q)
  | fDict q => exact .fDict (e _ _ q)
theorem IntQ.same {v : V} {b : Bool} (e : Same H H') (h : IntQ K H v b) : IntQ K H' v b := by
  rcases h with h | ⟨rfl, t, b1, b2, ty, r⟩
  · exact .inl h
  · exact .inr ⟨rfl, t, b1, b2, TyX.same e ty, r⟩
def sp_Arrangement_is_row (K : PySem.W.Frag) (a : Ad) : Sp := fun vs H Q _ => vs.length = 1 ∧ ∃ v, vs = [v] ∧
  ((∃ p xs, v = .ref p ∧ (SqL K H p xs ∨ SqT K H p xs) ∧ (∀ x ∈ xs, ∃ b, IntQ K H x b) ∧ xs.length ≤ 100000 ∧ ∀ b H', Same H H' → RowAns xs b → Q (.bl b) H') ∨
   (∃ t, TyX K H v t ∧ PySem.W.kitAny K t [.type "list", .type "tuple"] = some false ∧ ∀ H', Same H H' → Q (.bl false) H'))
def t_Arrangement_is_row (K : PySem.W.Frag) (a : Ad) : TS := tSeq (tIfS (tOr (tNot (tB (tCB (rIsiT K) (tCons (tVar 0) (tCons (tTup (tCons (tC (.ty "list")) (tCons (tC (.ty "tuple")) (tNil)))) (tNil)))))) (tNot (tTest (tChain (rLeI) (rLeI) (tC (.int 1)) (tCB (rLenS K) (tCons (tVar 0) (tNil))) (tC (.int 2000)))))) (tRet (tC (.bl false))) (tNext))
  (tSeq (tIfS (tNot (tB (tCB (rAll K) (tCons (tLc (iLT K (tVar 0)) (gName 1) (tYes) (tCallR (sp_is_integer K a) E0 (tCons (tVar 1) (tNil))) [1]) (tNil))))) (tRet (tC (.bl false))) (tNext))
  (tRet (tOp (rEqX K) (tCB (rSortedI K) (tCons (tLc (iLT K (tVar 0)) (gName 1) (tYes) (tCB (rAbs) (tCons (tVar 1) (tNil))) [1]) (tNil))) (tLstRg (tRg2 (tC (.int 1)) (tOp (rAddI) (tCB (rLenS K) (tCons (tVar 0) (tNil))) (tC (.int 1))))))))
theorem kit_lt_L : PySem.W.kitAny K (.type "list") [.type "list", .type "tuple"] = some true := kitAny_cons (b := true) (kit_ty (by decide +kernel)) (fun z => by cases z) (fun _ => rfl)
theorem kit_lt_T : PySem.W.kitAny K (.type "tuple") [.type "list", .type "tuple"] = some true :=
  kitAny_cons (b := false) (kit_ty (by decide +kernel)) (fun _ => kitAny_cons (b := true) (kit_ty (by decide +kernel)) (fun z => by cases z) (fun _ => rfl)) (fun z => by cases z)
theorem sq_same {p : Addr} {xs : List V} (e : Same H H') (h : SqL K H p xs ∨ SqT K H p xs) : SqL K H' p xs ∨ SqT K H' p xs := h.elim (fun z => .inl (e.seq z)) fun z => .inr (Same.seqT e z)
theorem pw_rg (lo : Int) (n : Nat) : (rgI lo n).Pairwise (· ≤ ·) := by
  unfold rgI
  rw [List.pairwise_map]
  exact List.pairwise_lt_range.imp fun h => by omega
theorem rgV_eq (b : Int) (n : Nat) (lo : Int) (h : b - lo = (n : Int)) : rgV lo b = (rgI lo n).map V.int := by
  unfold rgV rgI
  rw [h, List.map_map]
  rfl
theorem seq_len {p : Addr} {xs : List V} (h : SqL K H p xs ∨ SqT K H p xs) {R : VK} (q : R (.int xs.length) H) : rLenS K [.ref p] H R := ⟨p, xs, rfl, h, q⟩
/-- the comprehension over a list or a tuple: f of each item -/
theorem lt_map {p : Addr} {xs : List V} {σ : L2.St} {te : TE} {ws : List Nat} {j : Nat} {R : VK} (f : V → V) (h : SqL K H p xs ∨ SqT K H p xs) (hz : xs.length ≤ 100000) (hw : ∀ x, wipe ((wipe σ ws).set j (some x)) ws = wipe σ ws)
    (he : ∀ x ∈ xs, ∀ H2, Same H H2 → ∀ R : VK, (∀ H3, Same H2 H3 → R (f x) H3) → te ((wipe σ ws).set j (some x)) H2 R)
    (k : ∀ D H', H D = none → Same H H' → H' D = some (.lst (xs.map f)) → R (.ref D) H') {tl : TE} (htl : ∀ S : VK, S (.ref p) H → tl σ H S) : tLc (iLT K tl) (gName j) tYes te ws σ H R := by
  refine htl _ ?_
  have k' : ∀ D H', H D = none → Same H H' → H' D = some (.lst ((xs.filter fun _ => true).map f)) → R (.ref D) H' := fun D H' h1 h2 h3 => k D H' h1 h2 (by rw [List.filter_eq_self.mpr (fun _ _ => rfl)] at h3; exact h3)
  refine ⟨p, rfl, ?_⟩
  rcases h with h | h
  · exact .inl ⟨⟨xs, h⟩, lc_fmL h (fun _ => true) f hz hw (fun x _ H2 _ R q => q H2 (Same.refl _)) (fun x hx _ => he x hx) k'⟩
  · exact .inr ⟨⟨xs, h⟩, lc_fmT h (fun _ => true) f hz hw (fun x _ H2 _ R q => q H2 (Same.refl _)) (fun x hx _ => he x hx) k'⟩
theorem inj_ints : ∀ l1 l2 : List Int, l1.map V.int = l2.map V.int → l1 = l2
  | [], [], _ => rfl
  | [], _ :: _, h => by cases h
  | _ :: _, [], h => by cases h
  | x :: xs, y :: ys, h => by
    rw [List.map_cons, List.map_cons, List.cons.injEq] at h
    rw [V.int.inj h.1, inj_ints _ _ h.2]
theorem pure_Arrangement_is_row (h : sp_Arrangement_is_row K a vs H Q E) : Run (t_Arrangement_is_row K a) 2 vs H Q := by
  obtain ⟨_, v, rfl, h⟩ := h
  unfold Run t_Arrangement_is_row
  rcases h with ⟨p, xs, rfl, hs, hi, hz, q⟩ | ⟨t, ty, ek, q⟩
  · -- a list or a tuple
    walk_at "st"
    refine ⟨by show 2 ≤ sizeLine; decide, fun tp htp => ?_⟩
    walk_at "st"
    have s1 : Same H (upd H tp (.tup [.ty "list", .ty "tuple"])) := Same.new htp
    have isi : ∀ R : VK, R (.bl true) (upd H tp (.tup [.ty "list", .ty "tuple"])) → rIsiT K [.ref p, .ref tp] (upd H tp (.tup [.ty "list", .ty "tuple"])) R := by
      rcases hs with hs | hs
      · exact fun R r => ⟨.ref p, tp, [.ty "list", .ty "tuple"], _, [.type "list", .type "tuple"], true, rfl, upd_same, .cons (.ty _) (.cons (.ty _) .nil), TyX.same s1 (tyx_L hs), kit_lt_L, r⟩
      · exact fun R r => ⟨.ref p, tp, [.ty "list", .ty "tuple"], _, [.type "list", .type "tuple"], true, rfl, upd_same, .cons (.ty _) (.cons (.ty _) .nil), TyX.same s1 (tyx_T hs), kit_lt_T, r⟩
    refine isi _ ?_
    walk_at "st"
    have hs1 := sq_same s1 hs
    refine ⟨p, xs, rfl, hs1, ?_⟩
    walk_at "st"
    have no : ∀ H', Same H H' → (¬ (1 ≤ xs.length ∧ xs.length ≤ 2000)) → Q (.bl false) H' := fun H' e hn => q false H' e ⟨fun z => (by cases z), fun ⟨ns, e1, r1, r2, _⟩ => (hn (by rw [e1, List.length_map]; exact ⟨r1, r2⟩)).elim⟩
    by_cases h1 : (1 : Int) ≤ (xs.length : Int)
    · refine i_dT h1 ?_
      walk_at "st"
      by_cases h2 : (xs.length : Int) ≤ 2000
      · refine i_nT h2 ?_
        walk_at "st"
        have hf : ∃ f : V → Bool, ∀ x ∈ xs, IntQ K H x (f x) := by
          classical
          refine ⟨fun x => if h : ∃ b, IntQ K H x b then h.choose else false, fun x hx => ?_⟩
          have := hi x hx
          dsimp only
          rw [dif_pos this]
          exact this.choose_spec
        obtain ⟨f, hf⟩ := hf
        refine lt_map (p := p) (fun x => .bl (f x)) hs1 hz (fun _ => rfl) (fun x hx H2 e2 R r => ?_) (fun D H' hD e2 hl => ?_) (fun S z => i_var rfl z)
        · walk_at "st"
          exact ⟨rfl, x, f x, rfl, (hf x hx).same (s1.trans e2), r H2 (Same.refl _)⟩
        walk_at "st"
        have e3 : xs.map (fun x => V.bl (f x)) = (xs.map f).map V.bl := by rw [List.map_map]; rfl
        rw [e3] at hl
        refine ⟨D, xs.map f, rfl, SqL.of hl, ?_⟩
        walk_at "st"
        have e5 : (xs.map f).all id = xs.all f := by rw [List.all_map]; rfl
        rw [e5]
        cases ha : xs.all f with
        | false =>
          walk_at "st"
          refine q false H' (s1.trans e2) ⟨fun z => (by cases z), fun ⟨ns, e1, _⟩ => ?_⟩
          have : xs.all f = true := List.all_eq_true.mpr fun x hx => by
            rcases hf x hx with ⟨i, _, e⟩ | ⟨_, t, b1, b2, ty, k1, k2, k3⟩
            · exact e
            · rw [e1] at hx
              obtain ⟨i, _, rfl⟩ := List.mem_map.mp hx
              cases ty with
              | base b =>
                cases b
                have z1 : PySem.W.kitOne K (.type "int") (.type "int") = some true := kit_ty (by decide +kernel)
                have z2 : PySem.W.kitOne K (.type "int") (.type "bool") = some false := kit_ty (by decide +kernel)
                rw [z1] at k1
                rw [z2] at k2
                cases k1
                cases k2
                cases k3
          rw [this] at ha
          cases ha
        | true =>
          walk_at "st"
          obtain ⟨ns, rfl⟩ := ints_of hf ha
          rw [List.length_map] at h1 h2 hz
          have hs2 := sq_same e2 hs1
          refine lt_map (p := p) (fun x => match x with | .int i => .int (absI i) | y => y) hs2 (by rw [List.length_map]; exact hz) (fun _ => rfl) (fun x hx H3 e3 R r => ?_) (fun D2 H2 hD2 e3 hl2 => ?_) (fun S z => i_var rfl z)
          · obtain ⟨i, _, rfl⟩ := List.mem_map.mp hx
            walk_at "st"
            exact r H3 (Same.refl _)
          have e4 : (ns.map V.int).map (fun x => match x with | .int i => V.int (absI i) | y => y) = (ns.map absI).map V.int := by rw [List.map_map, List.map_map]; rfl
          rw [e4] at hl2
          walk_at "st"
          refine ⟨D2, ns.map absI, rfl, SqL.of hl2, fun ns' p2 hp ho hn2 => ?_⟩
          have hs3 := sq_same (Same.new (o := .lst (ns'.map V.int)) hn2) (sq_same e3 hs2)
          walk_at "st"
          refine ⟨p, _, rfl, hs3, ?_⟩
          walk_at "st"
          refine ⟨_, _, rfl, rfl, ?_, fun p3 hp3 => ?_⟩
          · rw [List.length_map]
            exact RgOk.of_le (by omega) (by omega) (by omega) (by omega)
          have n3 : p2 ≠ p3 := ne_of_none upd_same hp3
          refine eq_hd (hd_intsL (ns := ns') (SqL.of ?_)) (hd_intsL (ns := rgI 1 ns.length) (SqL.of ?_)) (q _ _ ?_ ?_)
          · rw [upd_ne n3, upd_same]
          · rw [upd_same, rgV_eq _ ns.length 1 (by rw [List.length_map]; omega)]
          · exact (((s1.trans e2).trans e3).trans (Same.new hn2)).trans (Same.new hp3)
          · rw [RowAns, decide_eq_true_eq]
            constructor
            · intro e
              exact ⟨ns, rfl, by omega, by omega, by rw [← e]; exact hp.symm⟩
            · rintro ⟨ms, e1, r1, r2, r3⟩
              have e2 := inj_ints _ _ e1
              subst e2
              exact List.Perm.eq_of_pairwise (fun x y _ _ h1 h2 => Int.le_antisymm h1 h2) ho (pw_rg _ _) (hp.trans r3)
      · refine i_nF h2 ?_
        walk_at "st"
        exact no _ s1 (by omega)
    · refine i_dF h1 ?_
      walk_at "st"
      exact no _ s1 (by omega)
  · walk_at "st"
    refine ⟨by show 2 ≤ sizeLine; decide, fun tp htp => ?_⟩
    walk_at "st"
    refine ⟨v, tp, [.ty "list", .ty "tuple"], t, [.type "list", .type "tuple"], false, rfl, upd_same, .cons (.ty _) (.cons (.ty _) .nil), TyX.same (Same.new htp) ty, ek, ?_⟩
    walk_at "st"
    exact q _ (Same.new htp)

/-! ### the class Arrangement -/
/-- what of the class the readings ask -/
structure ArrC (K : PySem.W.Frag) (a : Ad) : Prop where
  cl : Cls K a.Arrangement
  no : NoAttr K a.Arrangement "cards"
def ArrAt (K : PySem.W.Frag) (a : Ad) (H : Hp) (x : Addr) (row : List Int) : Prop :=
  ∃ dx t, H x = some (.ins a.Arrangement dx [("cards", .ref t)]) ∧ SqT K H t (row.map V.int) ∧ IsRow row
theorem ArrAt.same {x : Addr} {row : List Int} (e : Same H H') (h : ArrAt K a H x row) : ArrAt K a H' x row := by
  obtain ⟨dx, t, h1, h2, h3⟩ := h
  exact ⟨dx, t, e _ _ h1, Same.seqT e h2, h3⟩
/-- H' knows all that H knows, but for what stands at x -/
def Off (x : Addr) (H H' : Hp) : Prop := ∀ b o, b ≠ x → H b = some o → H' b = some o
theorem Off.refl (x : Addr) (H : Hp) : Off x H H := fun _ _ _ h => h
theorem sm_off {x : Addr} (e : Same H H') : Off x H H' := fun b o _ h => e b o h
theorem Off.trans {x : Addr} {H1 : Hp} (e : Off x H H1) (e2 : Off x H1 H') : Off x H H' := fun b o n h => e2 b o n (e b o n h)
theorem Off.upd {x : Addr} {o : HO} (e : Off x H H') : Off x H (upd H' x o) := fun b u n h => by rw [upd_ne n]; exact e b u n h
theorem Off.sqT {x p : Addr} {xs : List V} {o : HO} (e : Off x H H') (hx : H x = some o) (ht : ∀ zs, o ≠ .tup zs) (hf : ∀ q zs, o ≠ .frz q (.tup zs)) (h : SqT K H p xs) : SqT K H' p xs := by
  rcases h with (h | ⟨q, h⟩) | h
  · exact .inl (.inl (e _ _ (ne_of h hx (fun z => ht _ z.symm)) h))
  · exact .inl (.inr ⟨q, e _ _ (ne_of h hx (fun z => hf _ _ z.symm)) h⟩)
  · exact .inr h
theorem Off.sqL {x p : Addr} {xs : List V} {o : HO} (e : Off x H H') (hx : H x = some o) (ht : ∀ zs, o ≠ .lst zs) (hf : ∀ q zs, o ≠ .frz q (.lst zs)) (h : SqL K H p xs) : SqL K H' p xs := by
  rcases h with (h | ⟨q, h⟩) | h
  · exact .inl (.inl (e _ _ (ne_of h hx (fun z => ht _ z.symm)) h))
  · exact .inl (.inr ⟨q, e _ _ (ne_of h hx (fun z => hf _ _ z.symm)) h⟩)
  · exact .inr h
/-- what was not there may be anything -/
theorem Off.all {x : Addr} (e : Off x H H') (n : H x = none) : Same H H' := fun b o h => e b o (ne_of_none h n) h
theorem intq_ints {ns : List Int} : ∀ x ∈ ns.map V.int, ∃ b, IntQ K H x b := fun x hx => by
  obtain ⟨i, _, rfl⟩ := List.mem_map.mp hx
  exact ⟨true, .int i⟩
/-- Arrangement(row), row an arrangement -/
def sp_Arrangement___init__ (K : PySem.W.Frag) (a : Ad) : Sp := fun vs H Q _ => vs.length = 2 ∧ ∃ (x dx p : Addr) (ns : List Int), vs = [.ref x, .ref p] ∧ H x = some (.ins a.Arrangement dx []) ∧ (SqL K H p (ns.map V.int) ∨ SqT K H p (ns.map V.int)) ∧ IsRow ns ∧
  ∀ H', Off x H H' → ArrAt K a H' x ns → Q .non H'
def t_Arrangement___init__ (K : PySem.W.Frag) (a : Ad) : TS := tSeq (tIfS (tNot (tB (tSMeth a.Arrangement (sp_Arrangement_is_row K a) E0 (tC (.ref a.Arrangement)) (tCons (tVar 1) (tNil))))) (tNever) (tNext))
  (sFld K (tVar 0) (tCB (rTupS K) (tCons (tVar 1) (tNil))) "cards")
theorem pure_Arrangement___init__ (c : ArrC K a) (h : sp_Arrangement___init__ K a vs H Q E) : Run (t_Arrangement___init__ K a) 2 vs H Q := by
  obtain ⟨_, x, dx, p, ns, rfl, hx, hs, hr, q⟩ := h
  unfold Run t_Arrangement___init__
  walk_at "st"
  refine ⟨rfl, ?_⟩
  walk_at "st"
  refine ⟨rfl, _, rfl, .inl ⟨p, _, rfl, hs, intq_ints, ?_, fun b H1 e1 ans => ?_⟩⟩
  · rw [List.length_map]
    exact Nat.le_trans hr.2.1 (by decide)
  obtain rfl : b = true := ans.mpr ⟨ns, rfl, hr⟩
  walk_at "st"
  have hx1 := e1 _ _ hx
  have fin : ∀ t H2, Same H1 H2 → SqT K H2 t (ns.map V.int) → sFld K (tVar 0) (fun _ _ R => R (.ref t) H2) "cards" { nx := fun _ H' => Q .non H', rt := Q } [some (.ref x), some (.ref p)] H := fun t H2 e2 ht => by
    have hx2 := e2 _ _ hx1
    walk_at "st"
    refine ⟨x, _, dx, _, rfl, hx2, c.cl, c.no, by decide, ?_⟩
    have off : Off x H2 (upd H2 x (.ins a.Arrangement dx [("cards", .ref t)])) := Off.upd (Off.refl x H2)
    exact q _ (((sm_off e1).trans (sm_off e2)).trans off) ⟨dx, t, upd_same, off.sqT hx2 (fun _ z => by cases z) (fun _ _ z => by cases z) ht, hr⟩
  rcases sq_same e1 hs with h1 | h1
  · exact ⟨p, _, rfl, .inl ⟨h1, fun t ht => fin t _ (Same.new ht) (SqT.of upd_same)⟩⟩
  · exact ⟨p, _, rfl, .inr ⟨h1, fin p _ (Same.refl _) h1⟩⟩
def sp_Arrangement_row (K : PySem.W.Frag) (a : Ad) : Sp := fun vs H Q _ => vs.length = 1 ∧ ∃ x row, vs = [.ref x] ∧ ArrAt K a H x row ∧ ∀ t, SqT K H t (row.map V.int) → Q (.ref t) H
def t_Arrangement_row (K : PySem.W.Frag) (a : Ad) : TS := tRet (tFld K (tVar 0) "cards")
theorem pure_Arrangement_row (c : ArrC K a) (h : sp_Arrangement_row K a vs H Q E) : Run (t_Arrangement_row K a) 1 vs H Q := by
  obtain ⟨_, x, row, rfl, ⟨dx, t, h1, h2, _⟩, q⟩ := h
  unfold Run t_Arrangement_row
  walk_at "st"
  exact ⟨x, _, dx, _, .ref t, rfl, h1, c.cl, c.no, rfl, q t h2⟩
def sp_Arrangement___len__ (K : PySem.W.Frag) (a : Ad) : Sp := fun vs H Q _ => vs.length = 1 ∧ ∃ x row, vs = [.ref x] ∧ ArrAt K a H x row ∧ Q (.int (row.length : Nat)) H
def t_Arrangement___len__ (K : PySem.W.Frag) (a : Ad) : TS := tRet (tCB (rLenS K) (tCons (tFld K (tVar 0) "cards") (tNil)))
theorem pure_Arrangement___len__ (c : ArrC K a) (h : sp_Arrangement___len__ K a vs H Q E) : Run (t_Arrangement___len__ K a) 1 vs H Q := by
  obtain ⟨_, x, row, rfl, ⟨dx, t, h1, h2, _⟩, q⟩ := h
  unfold Run t_Arrangement___len__
  walk_at "st"
  refine ⟨x, _, dx, _, .ref t, rfl, h1, c.cl, c.no, rfl, ?_⟩
  walk_at "st"
  refine i_lenT h2 ?_
  rw [List.length_map]
  exact q

/-! ### the law's pool of random numbers -/
/-- a pool stands at p: its two numbers are not negative, the second is small -/
def PoolAt (H : Hp) (p : Addr) : Prop := ∃ A B : Int, H p = some (.lst [.int A, .int B]) ∧ 0 ≤ A ∧ 0 ≤ B ∧ B < 2147483647
def sp__law_pool (K : PySem.W.Frag) (a : Ad) : Sp := fun vs H Q _ => vs.length = 2 ∧ ∃ (s : Addr) (ns : List Int) (k : Int), vs = [.ref s, .int k] ∧ SqL K H s (ns.map V.int) ∧ 0 ≤ k ∧ k < 1000 ∧
  ∀ p o, H p = none → PoolAt (upd H p o) p → Q (.ref p) (upd H p o)
def t__law_pool (K : PySem.W.Frag) (a : Ad) : TS := tSeq (tAsg (tC (.int 0)) (gName 2))
  (tSeq (tIfS (tTest (tOp (rLtI) (tVar 1) (tCB (rLenS K) (tCons (tVar 0) (tNil))))) (tAsg (tCB (rAbs) (tCons (tOp (rIxL K) (tVar 0) (tVar 1)) (tNil))) (gName 2)) (tNext))
  (tSeq (tAsg (tOp (rModI) (tOp (rMulI) (tOp (rAddI) (tOp (rAddI) (tOp (rAddI) (tOp (rModI) (tVar 2) (tC (.int 2147483629))) (tOp (rMulI) (tOp (rMulI) (tC (.int 7919)) (tVar 1)) (tVar 1))) (tOp (rMulI) (tC (.int 31)) (tVar 1))) (tC (.int 17))) (tC (.int 48271))) (tC (.int 2147483647))) (gName 3))
  (tRet (tLst (tCons (tOp (rMulI) (tVar 2) (tCB (rInt1) (tCons (tOp (rGeI) (tVar 2) (tOp (rPowI) (tC (.int 10)) (tC (.int 18)))) (tNil)))) (tCons (tOp (rModI) (tOp (rMulI) (tVar 3) (tVar 3)) (tC (.int 2147483629))) (tNil)))))))
theorem pure__law_pool (h : sp__law_pool K a vs H Q E) : Run (t__law_pool K a) 4 vs H Q := by
  obtain ⟨_, s, ns, k, rfl, hs, k0, k1, q⟩ := h
  unfold Run t__law_pool
  have fin : ∀ (c m : Int) (b : Bool), 0 ≤ c → [V.int (c * if b = true then 1 else 0), V.int (m % 2147483629)].length ≤ sizeLine ∧ ∀ p, H p = none → Q (.ref p) (upd H p (.lst [V.int (c * if b = true then 1 else 0), V.int (m % 2147483629)])) := by
    intro c m b hc
    refine ⟨by show 2 ≤ sizeLine; decide, fun p hp => q p _ hp ⟨_, _, upd_same, ?_, by omega, by omega⟩⟩
    cases b with
    | true => rw [if_pos rfl]; omega
    | false => rw [if_neg Bool.false_ne_true]; omega
  walk_at "st"
  refine i_lenL hs ?_
  walk_at "st"
  by_cases hk : k < ((ns.map V.int).length : Nat)
  · refine i_dT hk ?_
    walk_at "st"
    rw [List.length_map] at hk
    have hg : (ns.map V.int)[k.toNat]? = some (.int (ns.getD k.toNat 0)) := by
      rw [List.getElem?_map, List.getD_eq_getElem?_getD]
      cases e : ns[k.toNat]? with
      | none =>
        have := List.getElem?_eq_none_iff.mp e
        omega
      | some z => rfl
    have ek : k = ((k.toNat : Nat) : Int) := by omega
    refine i_ixL hs (by rw [ek]; exact atI_nat hg) ?_
    walk_at "st"
    refine fin _ _ _ ?_
    unfold absI
    split <;> omega
  · refine i_dF hk ?_
    walk_at "st"
    exact fin 0 _ _ (Int.le_refl 0)
/-- all but what stands at p is as it was -/
def Kept (p : Addr) (H H' : Hp) : Prop := ∀ b, b ≠ p → H' b = H b
theorem Kept.off {p : Addr} (k : Kept p H H') : Off p H H' := fun b o n h => (k b n).trans h
def sp__law_take (K : PySem.W.Frag) (a : Ad) : Sp := fun vs H Q _ => vs.length = 2 ∧ ∃ (p : Addr) (m : Int), vs = [.ref p, .int m] ∧ PoolAt H p ∧ 0 < m ∧ m ≤ 10000000000000000000000000000000000000000 ∧
  ∀ r H', 0 ≤ r → r < m → Kept p H H' → PoolAt H' p → Q (.int r) H'
def t__law_take (K : PySem.W.Frag) (a : Ad) : TS := tSeq (tIfS (tTest (tOp (rGtI) (tOp (rIxL K) (tVar 0) (tC (.int 0))) (tC (.int 0)))) (tSeq (tAsg (tOp (rModI) (tOp (rIxL K) (tVar 0) (tC (.int 0))) (tVar 1)) (gName 2))
  (tSeq (tAsg (tOp (rDivI) (tOp (rIxL K) (tVar 0) (tC (.int 0))) (tVar 1)) (gSub (tVar 0) (tC (.int 0)) rSetL))
  (tRet (tVar 2)))) (tNext))
  (tSeq (tAsg (tOp (rModI) (tOp (rAddI) (tOp (rMulI) (tOp (rIxL K) (tVar 0) (tC (.int 1))) (tC (.int 48271))) (tC (.int 12345))) (tC (.int 2147483647))) (gSub (tVar 0) (tC (.int 1)) rSetL))
  (tRet (tOp (rModI) (tOp (rDivI) (tOp (rModI) (tOp (rMulI) (tOp (rIxL K) (tVar 0) (tC (.int 1))) (tOp (rIxL K) (tVar 0) (tC (.int 1)))) (tC (.int 2147483629))) (tC (.int 64))) (tVar 1))))
theorem pure__law_take (h : sp__law_take K a vs H Q E) : Run (t__law_take K a) 3 vs H Q := by
  obtain ⟨_, p, m, rfl, ⟨A, B, hp, A0, B0, B1⟩, m0, m1, q⟩ := h
  unfold Run t__law_take
  walk_at "st"
  refine i_ixL (SqL.of hp) (v := .int A) rfl ?_
  walk_at "st"
  by_cases hA : 0 < A
  · refine i_dT hA ?_
    walk_at "st"
    refine i_ixL (SqL.of hp) (v := .int A) rfl ?_
    walk_at "st"
    refine i_ixL (SqL.of hp) (v := .int A) rfl ?_
    walk_at "st"
    refine i_setL hp (j := 0) rfl ?_
    walk_at "st"
    exact q _ _ (Int.emod_nonneg _ (by omega)) (Int.emod_lt_of_pos _ m0) (fun b n => upd_ne n) ⟨_, B, upd_same, Int.ediv_nonneg A0 (by omega), B0, B1⟩
  · refine i_dF hA ?_
    walk_at "st"
    refine i_ixL (SqL.of hp) (v := .int B) rfl ?_
    walk_at "st"
    refine i_setL hp (j := 1) rfl ?_
    walk_at "st"
    have hp2 : upd H p (.lst [.int A, .int ((B * 48271 + 12345) % 2147483647)]) p = some (.lst [.int A, .int ((B * 48271 + 12345) % 2147483647)]) := upd_same
    refine i_ixL (SqL.of hp2) (v := .int ((B * 48271 + 12345) % 2147483647)) rfl ?_
    walk_at "st"
    refine i_ixL (SqL.of hp2) (v := .int ((B * 48271 + 12345) % 2147483647)) rfl ?_
    walk_at "st"
    exact q _ _ (Int.emod_nonneg _ (by omega)) (Int.emod_lt_of_pos _ m0) (fun b n => upd_ne n) ⟨A, _, upd_same, A0, by omega, by omega⟩

/-- a row of m cards, from 1 to m -/
def sp__law_cards (K : PySem.W.Frag) (a : Ad) : Sp := fun vs H Q _ => vs.length = 2 ∧ ∃ (p : Addr) (m : Int), vs = [.ref p, .int m] ∧ PoolAt H p ∧ 1 ≤ m ∧ m ≤ 2000 ∧
  ∀ (t : Addr) (row : List Int) H', H t = none → Off p H H' → PoolAt H' p → H' t = some (.tup (row.map V.int)) → row.length = m.toNat → IsRow row → Q (.ref t) H'
def t__law_cards (K : PySem.W.Frag) (a : Ad) : TS := tSeq (tPar 3 4 (tCons (tLstRg (tRg2 (tC (.int 1)) (tOp (rAddI) (tVar 1) (tC (.int 1))))) (tCons (tLst (tNil)) (tNil))))
  (tSeq (tFor (iRng1 (tCons (tVar 1) (tNil))) (gName 2) (tSeq (tAsg (tBM K "list" (rPopAt) (tVar 3) (tCons (tCallR (sp__law_take K a) E0 (tCons (tVar 0) (tCons (tCB (rLenS K) (tCons (tVar 3) (tNil))) (tNil)))) (tNil))) (gName 5))
  (tDrop (tBM K "list" (rAppend) (tVar 4) (tCons (tOp (rIxL K) (tLst (tCons (tVar 5) (tCons (tOp (rSubI) (tC (.int 0)) (tVar 5)) (tNil)))) (tCallR (sp__law_take K a) E0 (tCons (tVar 0) (tCons (tC (.int 2)) (tNil))))) (tNil))))))
  (tRet (tCB (rTupS K) (tCons (tVar 4) (tNil)))))
theorem erase_map {α β : Type} (f : α → β) : ∀ (l : List α) (k : Nat), (l.map f).eraseIdx k = (l.eraseIdx k).map f
  | [], _ => by simp
  | _ :: _, 0 => rfl
  | x :: l, k + 1 => congrArg (f x :: ·) (erase_map f l k)
theorem erase_perm {α : Type} : ∀ (l : List α) (k : Nat) (h : k < l.length), (l[k] :: l.eraseIdx k).Perm l
  | x :: l, 0, _ => List.Perm.refl _
  | x :: l, k + 1, h => (List.Perm.swap x _ _).trans ((erase_perm l k (Nat.lt_of_succ_lt_succ h)).cons x)
/-- behind i turns -/
structure CardsI (H0 H : Hp) (p r q : Addr) (m : Nat) (i : Nat) (rest res : List Int) : Prop where
  off : Off p H0 H
  pool : PoolAt H p
  hr : H r = some (.lst (rest.map V.int))
  hq : H q = some (.lst (res.map V.int))
  rp : r ≠ p
  qp : q ≠ p
  rq : r ≠ q
  len : res.length = i
  perm : (rest ++ res.map absI).Perm (rgI 1 m)
theorem CardsI.restlen {H0 H : Hp} {p r q : Addr} {m i : Nat} {rest res : List Int} (c : CardsI H0 H p r q m i rest res) : rest.length + i = m := by
  have := c.perm.length_eq
  rw [List.length_append, List.length_map, rgI_length, c.len] at this
  exact this
theorem pure__law_cards (h : sp__law_cards K a vs H Q E) : Run (t__law_cards K a) 6 vs H Q := by
  obtain ⟨_, p, m, rfl, hp, m0, m1, q⟩ := h
  unfold Run t__law_cards
  walk_at "st"
  refine ⟨_, _, rfl, rfl, RgOk.of_le (by omega) (by omega) (by omega) (by omega), fun r hr => ?_⟩
  walk_at "st"
  refine ⟨Nat.zero_le _, fun l hl => ?_⟩
  walk_at "st"
  refine ⟨_, _, rfl, ?_⟩
  walk_at "st"
  have hpr : r ≠ p := fun e => by obtain ⟨A, B, e1, _⟩ := hp; rw [← e, hr] at e1; cases e1
  have hlr : l ≠ r := fun e => by rw [e, upd_same] at hl; cases hl
  have hl0 : H l = none := by rw [upd_ne hlr] at hl; exact hl
  have hpl : l ≠ p := fun e => by obtain ⟨A, B, e1, _⟩ := hp; rw [← e, hl0] at e1; cases e1
  have c0 : CardsI H (upd (upd H r (.lst (rgV 1 (m + 1)))) l (.lst [])) p r l m.toNat 0 (rgI 1 m.toNat) [] := by
    refine ⟨sm_off (Same.mut (Same.new hr) hl0), ?_, ?_, upd_same, hpr, hpl, hlr.symm, rfl, ?_⟩
    · obtain ⟨A, B, e1, e2⟩ := hp
      exact ⟨A, B, by rw [upd_ne hpl.symm, upd_ne hpr.symm]; exact e1, e2⟩
    · rw [upd_ne hlr.symm, upd_same, rgV_eq _ m.toNat 1 (by omega)]
    · rw [List.map_nil, List.append_nil]
  refine ⟨m, rfl, by omega, by omega, for_range (lo := 0) (n := m.toNat) (fun i σ H' => ∃ (rest res : List Int) (x y : Option V), σ = [some (.ref p), some (.int m), x, some (.ref r), some (.ref l), y] ∧ CardsI H H' p r l m.toNat i rest res)
    ⟨_, _, none, none, rfl, c0⟩ ?_ ?_⟩
  · rintro i σ H1 hi ⟨rest, res, x, y, rfl, c⟩
    have hrl := c.restlen
    walk_at "st"
    refine ⟨.inl ⟨rfl, _, SqL.of c.hr⟩, ?_⟩
    walk_at "st"
    refine i_lenL (SqL.of c.hr) ?_
    walk_at "st"
    rw [List.length_map]
    refine ⟨rfl, p, _, rfl, c.pool, by omega, by omega, fun k H2 k0 k1 kept pool2 => ?_⟩
    walk_at "st"
    have hk : k.toNat < rest.length := by omega
    have hr2 : H2 r = some (.lst (rest.map V.int)) := (kept r c.rp).trans c.hr
    refine i_popAt hr2 k0 (by rw [List.length_map]; exact k1) (by rw [List.length_map]; omega) (y := .int rest[k.toNat]) (by rw [List.getElem?_map, List.getElem?_eq_getElem hk]; rfl) ?_
    walk_at "st"
    have hq2 : H2 l = some (.lst (res.map V.int)) := (kept l c.qp).trans c.hq
    have er : (rest.map V.int).eraseIdx k.toNat = (rest.eraseIdx k.toNat).map V.int := erase_map _ _ _
    rw [er]
    have hq3 : upd H2 r (.lst ((rest.eraseIdx k.toNat).map V.int)) l = some (.lst (res.map V.int)) := by rw [upd_ne c.rq.symm]; exact hq2
    refine ⟨.inl ⟨rfl, _, SqL.of hq3⟩, ?_⟩
    walk_at "st"
    refine ⟨by show 2 ≤ sizeLine; decide, fun l2 hl2 => ?_⟩
    walk_at "st"
    have n2r : l2 ≠ r := fun e => by rw [e, upd_same] at hl2; cases hl2
    have hl2' : H2 l2 = none := by rw [upd_ne n2r] at hl2; exact hl2
    have n2l : l2 ≠ l := fun e => by rw [e, hq2] at hl2'; cases hl2'
    have n2p : l2 ≠ p := fun e => by obtain ⟨A, B, e1, _⟩ := pool2; rw [← e, hl2'] at e1; cases e1
    have pool3 : PoolAt (upd (upd H2 r (.lst ((rest.eraseIdx k.toNat).map V.int))) l2 (.lst [.int rest[k.toNat], .int (0 - rest[k.toNat])])) p := by
      obtain ⟨A, B, e1, e2⟩ := pool2
      exact ⟨A, B, by rw [upd_ne n2p.symm, upd_ne c.rp.symm]; exact e1, e2⟩
    refine ⟨rfl, p, _, rfl, pool3, by omega, by omega, fun j H3 j0 j1 kept3 pool4 => ?_⟩
    have hl3 : H3 l2 = some (.lst [.int rest[k.toNat], .int (0 - rest[k.toNat])]) := (kept3 l2 n2p).trans upd_same
    have hq4 : H3 l = some (.lst (res.map V.int)) := (kept3 l c.qp).trans (by rw [upd_ne n2l.symm]; exact hq3)
    have hr4 : H3 r = some (.lst ((rest.eraseIdx k.toNat).map V.int)) := (kept3 r c.rp).trans (by rw [upd_ne n2r.symm, upd_same])
    have off4 : Off p H H3 := fun b o n hb => by
      rw [kept3 b n, upd_ne (fun e => by rw [e] at hb; have := c.off _ _ n2p hb; rw [← kept l2 n2p, hl2'] at this; cases this), upd_ne (fun e => by rw [e, hr] at hb; cases hb), kept b n]
      exact c.off b o n hb
    have fin : ∀ z : Int, absI z = rest[k.toNat] → rAppend (.ref l) [.int z] H3 fun v H' => ∃ (rest' res' : List Int) (x y : Option V),
        [some (V.ref p), some (V.int m), some (V.int (0 + (i : Int))), some (V.ref r), some (V.ref l), some (V.int rest[k.toNat])] = [some (.ref p), some (.int m), x, some (.ref r), some (.ref l), y] ∧ CardsI H H' p r l m.toNat (i + 1) rest' res' := by
      intro z hz
      refine i_app hq4 (by rw [List.length_map, c.len]; omega) ?_
      refine ⟨rest.eraseIdx k.toNat, res ++ [z], _, _, rfl, ?_, ?_, ?_, ?_, c.rp, c.qp, c.rq, ?_, ?_⟩
      · exact fun b o n hb => by rw [upd_ne (fun e => by rw [e, hl0] at hb; cases hb)]; exact off4 b o n hb
      · obtain ⟨A, B, e1, e2⟩ := pool4
        exact ⟨A, B, by rw [upd_ne c.qp.symm]; exact e1, e2⟩
      · rw [upd_ne c.rq]; exact hr4
      · rw [upd_same, List.map_append]; rfl
      · rw [List.length_append, c.len]; rfl
      · rw [List.map_append, List.map_cons, List.map_nil, hz, ← List.append_assoc]
        refine List.Perm.trans ?_ c.perm
        refine List.Perm.trans List.perm_append_comm ?_
        show ((rest[k.toNat]) :: (rest.eraseIdx k.toNat ++ res.map absI)).Perm _
        rw [← List.cons_append]
        exact List.Perm.append_right _ (erase_perm rest k.toNat hk)
    have pos : 1 ≤ rest[k.toNat] := (mem_rgI.mp (c.perm.mem_iff.mp (List.mem_append_left _ (List.getElem_mem hk)))).1
    have hj : j = 0 ∨ j = 1 := by omega
    rcases hj with rfl | rfl
    · refine i_ixL (SqL.of hl3) (v := .int rest[k.toNat]) rfl ?_
      walk_at "st"
      exact fin _ (by unfold absI; rw [if_neg (by omega)])
    · refine i_ixL (SqL.of hl3) (v := .int (0 - rest[k.toNat])) rfl ?_
      walk_at "st"
      exact fin _ (by unfold absI; rw [if_pos (by omega)]; omega)
  · rintro σ H1 ⟨rest, res, x, y, rfl, c⟩
    have hrl := c.restlen
    have hnil : rest = [] := List.length_eq_zero_iff.mp (by omega)
    subst hnil
    walk_at "st"
    refine ⟨l, _, rfl, .inl ⟨SqL.of c.hq, fun t ht => ?_⟩⟩
    have off2 : Off p H (upd H1 t (.tup (res.map V.int))) := fun b o n hb => by
      rw [upd_ne (ne_of_none (c.off b o n hb) ht)]
      exact c.off b o n hb
    have hperm := c.perm
    rw [List.nil_append] at hperm
    have htp : t ≠ p := fun e => by obtain ⟨A, B, e1, _⟩ := c.pool; rw [← e, ht] at e1; cases e1
    have ht0 : H t = none := by
      cases e : H t with
      | none => rfl
      | some o => have := c.off t o htp e; rw [ht] at this; cases this
    refine q t res _ ht0 off2 ?_ upd_same c.len ⟨by rw [c.len]; omega, by rw [c.len]; omega, by rw [c.len]; exact hperm⟩
    obtain ⟨A, B, e1, e2⟩ := c.pool
    exact ⟨A, B, by rw [upd_ne htp.symm]; exact e1, e2⟩
end
end TC

set_option Elab.async false
set_option linter.all false
set_option maxRecDepth 100000
set_option maxHeartbeats 4000000
/-! Steps through the readings of calls that may raise, of clauses, of sequences. -/
namespace TC
open PySem PySem.Spec PyProof.Rows L2
section
variable {K : PySem.W.Frag} {a : Ad} {H H' : Hp} {Q : VK} {E : XK} {vs : List V} {σ : L2.St} {te to : TE} {aa : TA} {D : Ends} {W Wo : WX} {sp : Sp} {C : Addr} {f : Str}
theorem i_callW (h : aa σ H fun vs H1 => sp vs H1 Q (WE W σ)) : tCallW sp W aa σ H Q := h
theorem i_makeW (h : aa σ H fun vs H1 => MkG C sp (WE W σ) vs Q H1) : tMakeW C sp W aa σ H Q := h
theorem i_raise (h : te σ H fun v H1 => RaiseQ K C f v H1 fun cls d H' => W cls d σ H') : tRaise K C f W te D σ H := h
theorem i_try {tb : WX → TS} {l : List Cl} (h : tb (wCl K Wo D l) D σ H) : tTry K Wo tb l D σ H := h
theorem i_par3 {i j l : Nat} (h : aa σ H fun vs H1 => ∃ u v w, vs = [u, v, w] ∧ D.nx (((σ.set i (some u)).set j (some v)).set l (some w)) H1) : tPar3 i j l aa D σ H := h
theorem i_rng3 {R : It → Hp → Prop} (h : aa σ H fun vs H1 => ∃ (i j c : Int) (n : Nat), vs = [.int i, .int j, .int c] ∧ RgC i j c n ∧ R (Itc i c n) H1) : iRng3 aa σ H R := h
theorem i_revL (h : te σ H fun x H1 => ∃ a xs, x = .ref a ∧ SqL K H1 a xs ∧ ∀ p, H1 p = none → Q (.ref p) (upd H1 p (.lst xs.reverse))) : tRevL K te σ H Q := h
theorem i_star {R : List V → Hp → Prop} (h : te σ H fun x H1 => ∃ p xs, x = V.ref p ∧ (SqT K H1 p xs ∨ SqL K H1 p xs) ∧ aa σ H1 fun ys H2 => R (xs ++ ys) H2) : StX.tStar K te aa σ H R := h
def XfG (e : Addr) (cls : Value) (d : Option Addr) (C : Addr) (f : Str) (Q : VK) (x : V) (H1 : Hp) : Prop := x = .ref e ∧ cls = .ref C ∧ ∃ (dd : Addr) (fs : List (Str × V)) (v : V), d = some dd ∧ H1 dd = some (.xd fs) ∧ fs.lookup f = some v ∧ Q v H1
theorem i_xf {e : Addr} {cls : Value} {d : Option Addr} (h : te σ H (XfG e cls d C f Q)) : tXf e cls d C f te σ H Q := h
/-- the field of the error that the suite holds -/
theorem xf_ok {e dd : Addr} {v : V} (hd : H dd = some (.xd [(f, v)])) (q : Q v H) : XfG e (.ref C) (some dd) C f Q (.ref e) H :=
  ⟨rfl, rfl, dd, _, v, rfl, hd, by simp [List.lookup], q⟩
theorem i_isB {x y : Bool} (h : Q (.bl (decide (x = y))) H) : rIsB (.bl x) (.bl y) H Q := ⟨x, y, rfl, rfl, h⟩
theorem i_notB {x y : Bool} (h : Q (.bl (!decide (x = y))) H) : rNotB (.bl x) (.bl y) H Q := ⟨x, y, rfl, rfl, h⟩
theorem i_dnewK (h : tDNewK σ H Q) : tDNewK σ H Q := h
theorem isD_ok {D2 D e dd : Addr} {b : Bool} {fs : List (Str × V)} (hk : PySem.W.kitOne K (.ref D) (.ref D2) = some b) (hd : H dd = some (.xd fs)) (q : Q (.bl b) H) : rIsD K D e (.ref D) (some dd) [.ref e, .ref D2] H Q := ⟨D2, b, dd, fs, rfl, rfl, hk, rfl, hd, q⟩
theorem i_whl {c : TT} {tb : TS} (h : ∃ W : Nat → L2.St → Hp → Prop, (∃ m, W m σ H) ∧ ∀ m σ H, W m σ H → c σ H fun b H1 => if b = true then ∃ N : L2.St → Hp → Prop, (∀ σ' H', N σ' H' → ∃ m', m' < m ∧ W m' σ' H') ∧ tb { D with nx := N, ct := N, bk := D.nx } σ H1 else D.nx σ H1) : tWhile c tb D σ H := h
/-- a tuple that stands beside a list of one's own -/
theorem SqT.past {p t : Addr} {l xs : List V} (h : SqT K (upd H p (.lst l)) t xs) (e : Same H H') : SqT K H' t xs := by
  rcases h with (h | ⟨o, h⟩) | h
  · by_cases hp : t = p
    · rw [hp, upd_same] at h
      cases h
    · rw [upd_ne hp] at h
      exact .inl (.inl (e _ _ h))
  · by_cases hp : t = p
    · rw [hp, upd_same] at h
      cases h
    · rw [upd_ne hp] at h
      exact .inl (.inr ⟨o, e _ _ h⟩)
  · exact .inr h
theorem i_enT {p : Addr} {xs : List V} {R : It → Hp → Prop} (h : SqT K H p xs) (k : R (Ett K p) H) : ∃ a, [V.ref p] = [.ref a] ∧ (((∃ xs, SqL K H a xs) ∧ R (Ite K a) H) ∨ ((∃ xs, SqT K H a xs) ∧ R (Ett K a) H)) := ⟨p, rfl, .inr ⟨⟨xs, h⟩, k⟩⟩
theorem i_enL {p : Addr} {xs : List V} {R : It → Hp → Prop} (h : SqL K H p xs) (k : R (Ite K p) H) : ∃ a, [V.ref p] = [.ref a] ∧ (((∃ xs, SqL K H a xs) ∧ R (Ite K a) H) ∨ ((∃ xs, SqT K H a xs) ∧ R (Ett K a) H)) := ⟨p, rfl, .inl ⟨⟨xs, h⟩, k⟩⟩
/-- a new instance, made of a row at p -/
theorem make_okA {p : Addr} {ns : List Int} {R : VK} (hs : SqA K H p (ns.map V.int)) (hr : IsRow ns) (k : ∀ x H', H x = none → Same H H' → ArrAt K a H' x ns → R (.ref x) H') :
    MkG a.Arrangement (sp_Arrangement___init__ K a) E [.ref p] R H := by
  intro x dx nx nd ne
  have e1 : Same H (upd (upd H dx (.own x)) x (.ins a.Arrangement dx [])) := Same.mut (Same.new nd) nx
  exact ⟨rfl, x, dx, p, ns, rfl, upd_same, sq_same e1 hs, hr, fun H' off at_ => ⟨rfl, k x H' nx (fun b o h => off b o (ne_of_none h nx) (e1 b o h)) at_⟩⟩
/-! ### is_between -/
def BtQ (K : PySem.W.Frag) (H : Hp) (v : V) (lo hi : Int) (b : Bool) : Prop := (∃ i, v = .int i ∧ b = decide (lo ≤ i ∧ i ≤ hi)) ∨ (b = false ∧ IntQ K H v false)
theorem BtQ.same {v : V} {lo hi : Int} {b : Bool} (e : Same H H') (h : BtQ K H v lo hi b) : BtQ K H' v lo hi b := h.elim .inl fun z => .inr ⟨z.1, z.2.same e⟩
theorem btq_of {v : V} {b : Bool} (lo hi : Int) (h : IntQ K H v b) : ∃ b2, BtQ K H v lo hi b2 := by
  rcases h with ⟨i, rfl, _⟩ | ⟨rfl, z⟩
  · exact ⟨_, .inl ⟨i, rfl, rfl⟩⟩
  · exact ⟨false, .inr ⟨rfl, .inr ⟨rfl, z⟩⟩⟩
def sp_is_between (K : PySem.W.Frag) (a : Ad) : Sp := fun vs H Q _ => vs.length = 3 ∧ ∃ v lo hi b, vs = [v, .int lo, .int hi] ∧ BtQ K H v lo hi b ∧ Q (.bl b) H
def t_is_between (K : PySem.W.Frag) (a : Ad) : TS := tRet (tAndV (tCallR (sp_is_integer K a) E0 (tCons (tVar 0) (tNil))) (tChain (rLeI) (rLeI) (tVar 1) (tVar 0) (tVar 2)))
theorem pure_is_between (h : sp_is_between K a vs H Q E) : Run (t_is_between K a) 3 vs H Q := by
  obtain ⟨_, v, lo, hi, b, rfl, hq, q⟩ := h
  unfold Run t_is_between
  refine i_ret (i_andV (i_call (i_cons (i_var rfl (i_nil ?_)))))
  rcases hq with ⟨i, rfl, rfl⟩ | ⟨rfl, hq⟩
  · refine ⟨rfl, _, true, rfl, IntQ.int i, true, rfl, iteT ?_⟩
    refine i_chain (i_var rfl (i_var rfl (i_rI0 ⟨_, rfl, ?_⟩)))
    by_cases h1 : lo ≤ i
    · rw [decide_eq_true h1]
      refine iteT (i_var rfl (i_rI0 ?_))
      have : decide (lo ≤ i ∧ i ≤ hi) = decide (i ≤ hi) := by simp [h1]
      rw [this] at q
      exact q
    · rw [decide_eq_false h1]
      refine iteF ?_
      have : decide (lo ≤ i ∧ i ≤ hi) = false := by simp [h1]
      rw [this] at q
      exact q
  · exact ⟨rfl, v, false, rfl, hq, false, rfl, iteF q⟩
end
end TC

set_option Elab.async false
set_option linter.all false
set_option maxRecDepth 100000
set_option maxHeartbeats 4000000
/-! What repr shows of data, and how long it is. -/
namespace TC
open PySem PySem.Spec PyProof.Rows L2
theorem rp_negText (m : Nat) : Str.ofString (toString (Int.negSucc m)) = ⟨(45 :: (Nat.toDigits 10 (m + 1)).map Char.toNat).toArray⟩ := by
  have e : toString (Int.negSucc m) = "-" ++ Nat.repr (m + 1) := rfl
  rw [e, Str.ofString_eq_toList]
  unfold Nat.repr
  simp
theorem rp_num (k : Nat) (i : Int) (hk : 1 ≤ k) (h : i.natAbs < 10 ^ k) : (toString i : Str).length ≤ k + 1 := by
  cases i with
  | ofNat m =>
    have e : (toString (Int.ofNat m) : Str) = _ := text_ofNat m
    rw [e]
    show ((List.map Char.toNat (Nat.toDigits 10 m)).toArray).size ≤ _
    rw [List.size_toArray, List.length_map]
    have := digits10_le hk (show m < 10 ^ k from h)
    omega
  | negSucc m =>
    have e : (toString (Int.negSucc m) : Str) = _ := rp_negText m
    rw [e]
    show ((45 :: List.map Char.toNat (Nat.toDigits 10 (m + 1))).toArray).size ≤ _
    rw [List.size_toArray, List.length_cons, List.length_map]
    have := digits10_le hk (show m + 1 < 10 ^ k from h)
    omega
theorem rp_log {i : Int} (h : i.natAbs < 2 ^ 200) : i.natAbs.log2 < 1920 := Nat.lt_trans (PySem.Flt.log2_lt_of (by decide) h) (by decide)
/-- shown in at most m signs, at most k deep -/
structure RpO (d : PyData) (m k : Nat) : Prop where
  s : d.showable = true
  l : d.shown.length ≤ m
  p : d.depth ≤ k
theorem RpO.mono {d : PyData} {m k m2 k2 : Nat} (h : RpO d m k) (hm : m ≤ m2) (hk : k ≤ k2) : RpO d m2 k2 := ⟨h.s, Nat.le_trans h.l hm, Nat.le_trans h.p hk⟩
theorem rpo_int {i : Int} (h : i.natAbs < 10 ^ 50) : RpO (.int i) 51 0 := ⟨decide_eq_true (rp_log (Nat.lt_trans h (by decide))), rp_num 50 i (by decide) h, Nat.le_refl _⟩
theorem rpo_none : RpO .none 51 0 := ⟨rfl, by decide +kernel, Nat.le_refl _⟩
theorem rpo_bool (b : Bool) : RpO (.bool b) 51 0 := ⟨rfl, by cases b <;> decide +kernel, Nat.le_refl _⟩
theorem rpo_str {x : Str} (h : (reprText x).length ≤ 51) : RpO (.str x) 51 0 := ⟨rfl, h, Nat.le_refl _⟩
theorem rpo_emp : RpO (.dict []) 51 1 := ⟨rfl, by decide +kernel, by decide⟩
theorem rp_all {ds : List PyData} (h : ∀ d ∈ ds, d.showable = true) : PyData.showableAll ds = true := by
  induction ds with
  | nil => rfl
  | cons d ds ih =>
    show (PyData.showable d && PyData.showableAll ds) = true
    rw [h d List.mem_cons_self, ih fun x hx => h x (List.mem_cons_of_mem _ hx)]
    rfl
theorem rp_dep {ds : List PyData} {k : Nat} (h : ∀ d ∈ ds, d.depth ≤ k) : PyData.depthAll ds ≤ k := by
  induction ds with
  | nil => exact Nat.zero_le _
  | cons d ds ih =>
    have h1 := h d List.mem_cons_self
    have h2 := ih fun x hx => h x (List.mem_cons_of_mem _ hx)
    show max (PyData.depth d) (PyData.depthAll ds) ≤ k
    omega
theorem rp_len {ds : List PyData} {m : Nat} (h : ∀ d ∈ ds, d.shown.length ≤ m) : ((PyData.shownAll ds).map (·.length)).sum ≤ ds.length * m ∧ (PyData.shownAll ds).length = ds.length := by
  induction ds with
  | nil => exact ⟨Nat.zero_le _, rfl⟩
  | cons d ds ih =>
    have h1 := h d List.mem_cons_self
    have h2 := ih fun x hx => h x (List.mem_cons_of_mem _ hx)
    refine ⟨?_, ?_⟩
    · show (PyData.shown d).length + ((PyData.shownAll ds).map (·.length)).sum ≤ (ds.length + 1) * m
      rw [Nat.add_mul]
      omega
    · show (PyData.shownAll ds).length + 1 = ds.length + 1
      rw [h2.2]
theorem rpo_list {ds : List PyData} {m k : Nat} (h : ∀ d ∈ ds, RpO d m k) : RpO (.list ds) (ds.length * m + 2 * ds.length + 3) (k + 1) := by
  obtain ⟨l1, l2⟩ := rp_len fun d hd => (h d hd).l
  refine ⟨rp_all fun d hd => (h d hd).s, ?_, Nat.succ_le_succ (rp_dep fun d hd => (h d hd).p)⟩
  have := listText_len_le (PyData.shownAll ds)
  show (listText (PyData.shownAll ds)).length ≤ _
  rw [l2] at this
  omega
theorem rpo_tup {ds : List PyData} {m k : Nat} (h : ∀ d ∈ ds, RpO d m k) : RpO (.tuple ds) (ds.length * m + 2 * ds.length + 3) (k + 1) := by
  obtain ⟨l1, l2⟩ := rp_len fun d hd => (h d hd).l
  refine ⟨rp_all fun d hd => (h d hd).s, ?_, Nat.succ_le_succ (rp_dep fun d hd => (h d hd).p)⟩
  have := tupleText_len_le (PyData.shownAll ds)
  show (tupleText (PyData.shownAll ds)).length ≤ _
  rw [l2] at this
  omega
theorem rpo_ints {ns : List Int} (h : ∀ n ∈ ns, n.natAbs < 10 ^ 50) : RpO (.list (ns.map PyData.int)) (ns.length * 51 + 2 * ns.length + 3) 1 := by
  have := rpo_list (ds := ns.map PyData.int) (m := 51) (k := 0) (by
    intro d hd
    obtain ⟨n, hn, rfl⟩ := List.mem_map.mp hd
    exact rpo_int (h n hn))
  rw [List.length_map] at this
  exact this
section
variable {K : PySem.W.Frag} {H : Hp} {Q : VK}
theorem i_reprO {v : V} {d : PyData} {m k : Nat} (h : Rp K H v d) (o : RpO d m k) (hm : m ≤ 1000000) (hk : k ≤ 60) (q : Q (.str d.shown) H) : rRepr K [v] H Q :=
  i_repr h o.s (Nat.le_trans o.l (Nat.le_trans hm (by decide))) (Nat.le_trans o.p hk) q
theorem rpAll_ints : ∀ ns : List Int, RpAll K H (ns.map V.int) (ns.map PyData.int)
  | [] => .nil
  | n :: ns => .cons (.int n) (rpAll_ints ns)
theorem nodict_ints : ∀ ns : List Int, PyData.hasDictAll (ns.map PyData.int) = false
  | [] => rfl
  | n :: ns => by
    show (PyData.hasDict (.int n) || PyData.hasDictAll (ns.map PyData.int)) = false
    rw [nodict_ints ns]
    rfl
theorem rp_intsL {p : Addr} {ns : List Int} (h : SqL K H p (ns.map V.int)) : Rp K H (.ref p) (.list (ns.map PyData.int)) := .lst h (rpAll_ints ns) (nodict_ints ns)
theorem rp_intsT {p : Addr} {ns : List Int} (h : SqT K H p (ns.map V.int)) : Rp K H (.ref p) (.tuple (ns.map PyData.int)) := .tup h (rpAll_ints ns) (nodict_ints ns)
theorem RpAll.app {xs ys : List V} {ds es : List PyData} (h : RpAll K H xs ds) (g : RpAll K H ys es) : RpAll K H (xs ++ ys) (ds ++ es) := by
  induction xs generalizing ds with
  | nil => cases h; exact g
  | cons x xs ih =>
    cases h with
    | cons a b => exact .cons a (ih b)
end
end TC

set_option Elab.async false
set_option linter.all false
set_option maxRecDepth 100000
set_option maxHeartbeats 4000000
/-! Small steps that many laws want. -/
namespace TC
open PySem PySem.Spec PyProof.Rows L2
open PySem.W (Datum Tup)
section
variable {K : PySem.W.Frag} {a : Ad} {H H' : Hp} {Q : VK} {E : XK} {vs : List V}
theorem row_ok {x : Addr} {ns : List Int} (h : ArrAt K a H x ns) (k : ∀ t, SqT K H t (ns.map V.int) → Q (.ref t) H) : ∃ y dx fs, V.ref x = .ref y ∧ H y = some (.ins a.Arrangement dx fs) ∧ sp_Arrangement_row K a [.ref y] H Q E := by
  obtain ⟨dx, t, h1, h2, h3⟩ := h
  exact ⟨x, dx, _, rfl, h1, rfl, x, ns, rfl, ⟨dx, t, h1, h2, h3⟩, k⟩
theorem i_slT {p : Addr} {xs : List V} {lo hi : Option Int} (hs : SqT K H p xs) (h : ∀ q H', Same H H' → SqT K H' q (cutV xs lo hi) → Q (.ref q) H') : rSlA K (.ref p) lo hi H Q := by
  refine ⟨p, xs, rfl, hs, fun hw => ?_, fun _ q hq => h q _ (Same.new hq) (SqT.of upd_same)⟩
  have e : cutV xs lo hi = xs := by
    unfold cutV
    rw [hw.1, hw.2, List.drop_zero, Nat.sub_zero, List.take_length]
  exact h p H (Same.refl _) (by rw [e]; exact hs)
theorem cut_take {xs : List V} {i : Nat} (hi : i ≤ xs.length) : cutV xs none (some (i : Int)) = xs.take i := by
  unfold cutV
  rw [HT.sIx_nat, HT.sIx_none, Nat.min_eq_left hi, List.drop_zero, Nat.sub_zero]
theorem isiT_A {p tp : Addr} {xs : List V} {R : VK} (hs : SqA K H p xs) (ht : H tp = some (.tup [.ty "list", .ty "tuple"])) (r : R (.bl true) H) : rIsiT K [.ref p, .ref tp] H R := by
  rcases hs with hs | hs
  · exact ⟨.ref p, tp, [.ty "list", .ty "tuple"], _, [.type "list", .type "tuple"], true, rfl, ht, .cons (.ty _) (.cons (.ty _) .nil), tyx_L hs, kit_lt_L, r⟩
  · exact ⟨.ref p, tp, [.ty "list", .ty "tuple"], _, [.type "list", .type "tuple"], true, rfl, ht, .cons (.ty _) (.cons (.ty _) .nil), tyx_T hs, kit_lt_T, r⟩
theorem isiT_no {v : V} {t : Value} {tp : Addr} {R : VK} (ty : TyX K H v t) (e : PySem.W.kitAny K t [.type "list", .type "tuple"] = some false) (ht : H tp = some (.tup [.ty "list", .ty "tuple"])) (r : R (.bl false) H) : rIsiT K [v, .ref tp] H R :=
  ⟨v, tp, [.ty "list", .ty "tuple"], t, [.type "list", .type "tuple"], false, rfl, ht, .cons (.ty _) (.cons (.ty _) .nil), ty, e, r⟩
theorem bt_true {v : V} {lo hi : Int} (h : BtQ K H v lo hi true) : ∃ i, v = .int i ∧ lo ≤ i ∧ i ≤ hi := by
  rcases h with ⟨i, rfl, e⟩ | ⟨e, _⟩
  · have := of_decide_eq_true e.symm
    exact ⟨i, rfl, this⟩
  · cases e
theorem at_nat {xs : List V} {i : Nat} {v : V} (h : xs[i]? = some v) : atI xs (i : Int) = some v := by
  have hi := (List.getElem?_eq_some_iff.mp h).1
  unfold atI ixN
  rw [if_pos (by omega), if_pos (by omega)]
  simpa using h
theorem two_off {p q : Addr} {o1 o2 : HO} (e : Same H H') (hp : H p = none) (hq : H q = none) : Same H (upd (upd H' p o1) q o2) := Same.mut (Same.mut e hp) hq
structure ErF (K : PySem.W.Frag) (C : Addr) (f : Str) : Prop where
  ox : OexC K C
  nv : PySem.W.findIn K (.ref C) f = some none
theorem dec_self {α : Type} [DecidableEq α] (x : α) : decide (x = x) = true := decide_eq_true rfl
theorem intq_no {v : V} {t : Value} {b1 b2 : Bool} (ty : TyX K H v t) (k1 : PySem.W.kitOne K t (.type "int") = some b1) (k2 : PySem.W.kitOne K t (.type "bool") = some b2) (hb : (b1 && !b2) = false) : IntQ K H v false := .inr ⟨rfl, t, b1, b2, ty, k1, k2, hb⟩
theorem intq_non : IntQ K H .non false := intq_no (b1 := false) (b2 := false) (.base .non) (kit_ty (by decide +kernel)) (kit_ty (by decide +kernel)) rfl
theorem intq_bl (b : Bool) : IntQ K H (.bl b) false := intq_no (b1 := true) (b2 := true) (.base (.bl b)) (kit_ty (by decide +kernel)) (kit_ty (by decide +kernel)) rfl
theorem intq_str (x : Str) : IntQ K H (.str x) false := intq_no (b1 := false) (b2 := false) (.base (.str x)) (kit_ty (by decide +kernel)) (kit_ty (by decide +kernel)) rfl
theorem intq_L {p : Addr} {xs : List V} (h : SqL K H p xs) : IntQ K H (.ref p) false := intq_no (b1 := false) (b2 := false) (tyx_L h) (kit_ty (by decide +kernel)) (kit_ty (by decide +kernel)) rfl
theorem intq_T {p : Addr} {xs : List V} (h : SqT K H p xs) : IntQ K H (.ref p) false := intq_no (b1 := false) (b2 := false) (tyx_T h) (kit_ty (by decide +kernel)) (kit_ty (by decide +kernel)) rfl
theorem seqno {T : String} (h1 : kitB T "list" = some false) (h2 : kitB T "tuple" = some false) : PySem.W.kitAny K (.type T) [.type "list", .type "tuple"] = some false :=
  kitAny_cons (b := false) (kit_ty h1) (fun _ => kitAny_cons (b := false) (kit_ty h2) (fun _ => kitAny_nil) (fun z => by cases z)) (fun z => by cases z)
theorem rpo_one {i : Int} (h : i.natAbs < 10 ^ 50) : RpO (.list [.int i]) 200 3 ∧ RpO (.tuple [.int i]) 200 3 :=
  ⟨(rpo_list (ds := [.int i]) (m := 51) (k := 0) (fun d hd => by rw [List.mem_singleton.mp hd]; exact rpo_int h)).mono (by show 1 * 51 + 2 * 1 + 3 ≤ 200; decide) (by decide), (rpo_tup (ds := [.int i]) (m := 51) (k := 0) (fun d hd => by rw [List.mem_singleton.mp hd]; exact rpo_int h)).mono (by show 1 * 51 + 2 * 1 + 3 ≤ 200; decide) (by decide)⟩
theorem nodict_app : ∀ (xs ys : List PyData), PyData.hasDictAll xs = false → PyData.hasDictAll ys = false → PyData.hasDictAll (xs ++ ys) = false
  | [], _, _, h => h
  | x :: xs, ys, h, g => by
    have h' : (PyData.hasDict x || PyData.hasDictAll xs) = false := h
    rw [Bool.or_eq_false_iff] at h'
    show (PyData.hasDict x || PyData.hasDictAll (xs ++ ys)) = false
    rw [h'.1, nodict_app xs ys h'.2 g]
    rfl
theorem keptSame {p : Addr} {H0 : Hp} (e : Same H0 H) (n : H0 p = none) (k : Kept p H H') : Same H0 H' := fun b o h => by
  rw [k b (ne_of_none h n)]
  exact e b o h
theorem offSame {p : Addr} {H0 : Hp} (e : Same H0 H) (n : H0 p = none) (k : Off p H H') : Same H0 H' := fun b o h => k b o (ne_of_none h n) (e b o h)
theorem poolSame {p : Addr} (e : Same H H') (h : PoolAt H p) : PoolAt H' p := by
  obtain ⟨A, B, h1, h2⟩ := h
  exact ⟨A, B, e _ _ h1, h2⟩
theorem flat_rep (n : Nat) (x : V) : (List.replicate n [x]).flatten = List.replicate n x := by
  induction n with
  | zero => rfl
  | succ n ih => rw [List.replicate_succ, List.flatten_cons, ih, List.replicate_succ]; rfl
theorem rep_ints (n : Nat) (i : Int) : List.replicate n (V.int i) = (List.replicate n i).map V.int := by rw [List.map_replicate]
theorem i_repL {l : Addr} {x : V} {n : Nat} (hl : H l = some (.lst [x])) (hn : n ≤ 100000) (h : ∀ p, H p = none → Q (.ref p) (upd H p (.lst (List.replicate n x)))) : rRep (.ref l) (.int (n : Nat)) H Q :=
  ⟨l, _, [x], rfl, rfl, hl, by omega, by omega, by rw [List.length_singleton, Int.toNat_natCast, Nat.one_mul]; exact Nat.le_trans hn (by decide), fun p hp => by rw [Int.toNat_natCast, flat_rep]; exact h p hp⟩

theorem i_slL {p : Addr} {xs : List V} {lo hi : Option Int} (hs : SqL K H p xs) (h : ∀ q, H q = none → Q (.ref q) (upd H q (.lst (cutV xs lo hi)))) : rSlL K (.ref p) lo hi H Q := ⟨p, xs, rfl, hs, h⟩
theorem cut_drop {xs : List V} {i : Nat} (hi : i ≤ xs.length) : cutV xs (some (i : Int)) none = xs.drop i := by
  unfold cutV
  rw [HT.sIx_nat, HT.sIx_none, Nat.min_eq_left hi]
  exact List.take_of_length_le (by rw [List.length_drop]; omega)
theorem tYes_ok {σ : L2.St} {R : Bool → Hp → Prop} (h : R true H) : tYes σ H R := h
/-- a field, behind its object -/
def FldG (K : PySem.W.Frag) (f : Str) (Q : VK) (x : V) (H1 : Hp) : Prop := ∃ y C dx fs v, x = .ref y ∧ H1 y = some (.ins C dx fs) ∧ Cls K C ∧ NoAttr K C f ∧ fs.lookup f = some v ∧ Q v H1
theorem i_fldG {σ : L2.St} {ta : TE} {f : Str} (h : ta σ H (FldG K f Q)) : tFld K ta f σ H Q := h
theorem fld_ok {x : Addr} {ns : List Int} (c : ArrC K a) (h : ArrAt K a H x ns) (k : ∀ t, SqT K H t (ns.map V.int) → Q (.ref t) H) : FldG K "cards" Q (.ref x) H := by
  obtain ⟨dx, t, h1, h2, h3⟩ := h
  exact ⟨x, _, dx, _, .ref t, rfl, h1, c.cl, c.no, rfl, k t h2⟩
end
end TC

set_option Elab.async false
set_option linter.all false
set_option maxRecDepth 100000
set_option maxHeartbeats 4000000
/-! Operations that the class itself gives: a[i], a == b, a * b. -/
namespace TC
open PySem PySem.Spec PyProof.Rows L2
section
variable {X : Cx} {CX : CXT} {k : Nat} {f C : Addr} {ps : List Str} {sp : Sp} {E : L2.St → XK} {e a b : Expr} {ta tb : TE} {pos : Pos}
/-- an own def runs under A' -/
theorem call_at {pins : List (Addr × Obj)} {σ : L2.St} {H : Hp} {s : Shared} {Q : VK} {us : List Value} {vs : List V} {E : XK} {A' : Around} (hr : Room k A') (e0 : Env0 X.prog X.w X.K X.mg X.base A' X.stack s H) (F : FnE X.prog X.w X.K X.mg X.base CX k f ps sp)
    (hx : PassesAt CX X σ E) (I : Inv X pins σ H s) (r : Vals vs us) (h : sp vs H Q E) : wpAny (model X.prog X.w) A' (call (.ref f) us) (EP X pins σ Q) X.xe s := by
  obtain ⟨fd, F1, bd⟩ := F
  have nl : us.length = ps.length := r.length.symm.trans (F1.len _ _ _ _ h)
  have bb := bd s us I.kIn (by rw [List.append_nil]; exact nl)
  rw [List.append_nil] at bb
  refine wpAny_call (codeAny_mono (F1.run A' X.stack s H ⟨us, []⟩ us vs Q E hr e0 bb r h) fun res t ht => ?_)
  cases res with
  | error er => exact hx pins H s er t I ht
  | ok fl =>
    cases fl with
    | ret u => exact I.after ht
    | next => exact ht.elim
    | brk => exact ht.elim
    | cont => exact ht.elim
theorem pAt {E : XK} (h : Passes CX X E) : ∀ σ : L2.St, PassesAt CX X σ E := fun σ pn H s e s' I c => h pn σ H s e s' I c
/-- what an own method is asked -/
def InsQ (C : Addr) (sp : Sp) (E : XK) (ys : List V) (Q : VK) (x : V) (H2 : Hp) : Prop := ∃ a dx fs, x = .ref a ∧ H2 a = some (.ins C dx fs) ∧ sp (.ref a :: ys) H2 Q E
def tIxO (C : Addr) (sp : Sp) (E : L2.St → XK) (ta tb : TE) : TE := fun σ H Q => ta σ H fun x H1 => tb σ H1 fun y H2 => InsQ C sp (E σ) [y] Q x H2
theorem pe_ixO (hs : PySem.W.findIn X.K (.ref C) "__getitem__" = some (some (.ref f))) (hfi : PySem.W.fnIn X.K f = true) (hfn : PySem.W.isFn X.K (.ref f) = true) (F : FnE X.prog X.w X.K X.mg X.base CX k f ps sp) (hr : Room (k + 1) X.A) (hx : ∀ σ, PassesAt CX X σ (E σ))
    (ha : PE X a ta) (hb : PE X b tb) (hsl : ∀ v u, subscripted b true v u = runValue (.builtin "lifetime.subscript" ⟨[v, u], []⟩)) : PE X (.Subscript a b pos) (tIxO C sp E ta tb) := by
  refine ⟨fun pins s σ H Q I h => Subscript_ (thn (ha.run pins s σ H _ I h) fun v s1 hv => ?_)⟩
  obtain ⟨x, H1, I1, r1, q1⟩ := hv
  refine thn (hb.run pins s1 σ H1 _ I1 q1) fun u s2 hu => ?_
  obtain ⟨y, H2, I2, r2, o, dx, fs, rfl, eo, q⟩ := hu
  obtain rfl : v = Value.ref o := r1
  obtain ⟨od, J⟩ := inst_of I2 eo
  obtain ⟨m, hF⟩ := I2.fr
  exact PySem.W.sub_K hF I2.ok.mod.kin J hs hfi hfn (call_at (us := [.ref o, u]) (vs := [.ref o, y]) hr.in1 I2.env0.in1 F (hx σ) I2 (.cons rfl (.cons r2 .nil)) q) (hsl _ _)
/-- == of the class's own, with what is of the class or surely not -/
def rEqO (K : PySem.W.Frag) (C : Addr) (sp : Sp) : R2 := fun x y H Q => ∃ (t : Value), TyX K H y t ∧ PySem.W.notFirst K C t = true ∧ InsQ C sp E0 [y] (fun z H' => ∃ b, z = .bl b ∧ Q (.bl b) H') x H
end
end TC
namespace PySem.W
open PySem PySem.Spec PySem.Calls PyProof.Rows
section
variable {prog : Program} {w : World} {A : Around} {E : Value → Shared → Prop} {s : Shared} {K : Frag} {x C f : Addr} {ox : Obj} {od : Option Obj} {b tb : Value}
/-- a != b by the class's own == -/
theorem tc_neOwn {Q : Value → Shared → Prop} (hu : A.units + 8 < cLine) (X : K.In s.heap) (I : InstAt s.heap x ox C od) (hne : findIn K (.ref C) "__ne__" = some (some (.builtin "object.__ne__"))) (heq : findIn K (.ref C) "__eq__" = some (some (.ref f))) (hf : isFn K (.ref f) = true)
    (hm : mroIn K C (.type "object") = some true) (h : wpAny (model prog w) A.in1 (call (.ref f) [.ref x, b]) (BoolBack fun v s' => Q (.bool (!v)) s') E s) :
    wpAny (model prog w) A (tryCompare (.ref x) "__ne__" b) (fun r s' => ∃ v, r = some v ∧ Q v s') E s := by
  unfold tryCompare
  refine wpAny_bind ?_
  simp only [callSpecialIfBound?, bindSpecialIfBound?]
  refine wpAny_holding (wpAny_bind (wpAny_bind (wpAny_bind (I.type.here ((looks_findIn X hne).here ?_)))))
  have bnd := PySem.F.cmp_object.ne.bind (.ref x)
  have sub : Looks (model prog w) s.heap (isInstance (.ref x) (.type "object")) true := I.type.andThen (looks_mroIn X hm)
  have fin : wpAny (model prog w) A (call (.builtin "object.__ne__") [.ref x, b]) (fun r s' => Q r s' ∧ r ≠ .notImplemented) E s := by
    refine wpAny_call (codeAny_call_builtin PySem.F.cmp_object.ne.plain PySem.F.cmpEntry_ne (@check_slot (model prog w) _ _ s "object.__ne__" "object" "__ne__" (.ref x) [b] [] _ PySem.F.cmpKind_ne PySem.F.cmpSplit_ne sub (PySem.F.cmpArgs_ne (.ref x) b) ?_))
    unfold Builtin.«object.__ne__»
    refine wpAny_bind (wpAny_of_eq (a := ((Value.ref x : Value), [b])) (by first | rfl | (simp only [slotArgs]; rfl)) ?_)
    refine wpAny_bind (wpAny_cRoomFor (by show A.units + 1 < cLine; omega) ?_)
    refine wpAny_bind (ifBound_K X I heq hf (wpAny_mono h (fun v s' hv => ?_) fun _ _ z => z))
    cases v <;> first | exact hv.elim | skip
    rename_i bb
    exact wpAny_bind (wpAny_truthy_bool (wpAny_pure ⟨hv, fun z => nomatch z⟩))
  have last : wpAny (model prog w) A (call (.builtin "object.__ne__") ([.ref x] ++ [b]) >>= fun v => pure (some v)) (fun r s' => ∃ v, r = some v ∧ v ≠ .notImplemented ∧ Q v s') E s :=
    wpAny_bind (wpAny_mono fin (fun v s' hv => wpAny_pure ⟨v, rfl, hv.2, hv.1⟩) fun _ _ z => z)
  refine wpAny_bind (wpAny_askSetting (wpAny_ite ?_))
  simp only [bnd]
  split
  · exact wpAny_bind (wpAny_pure (wpAny_pure (wpAny_mono last (fun r s' z => by obtain ⟨v, rfl, nv, q⟩ := z; cases v <;> first | exact absurd rfl nv | exact wpAny_pure ⟨_, rfl, q⟩) fun _ _ z => z)))
  · exact wpAny_tryCatch (wpAny_bind (wpAny_pure (wpAny_pure (wpAny_mono last (fun r s' z => by obtain ⟨v, rfl, nv, q⟩ := z; cases v <;> first | exact absurd rfl nv | exact wpAny_pure ⟨_, rfl, q⟩) fun _ _ z => z))))
theorem tc_neCmp {Q : Value → Shared → Prop} (hu : A.units + 8 < cLine) (X : K.In s.heap) (I : InstAt s.heap x ox C od) (hb : Looks (model prog w) s.heap (typeOf b) tb) (hn : notFirst K C tb = true) (hne : findIn K (.ref C) "__ne__" = some (some (.builtin "object.__ne__"))) (heq : findIn K (.ref C) "__eq__" = some (some (.ref f))) (hf : isFn K (.ref f) = true)
    (hm : mroIn K C (.type "object") = some true) (h : wpAny (model prog w) A.in1 (call (.ref f) [.ref x, b]) (BoolBack fun v s' => Q (.bool (!v)) s') E s) : wpAny (model prog w) A (richCompare .NotEq (.ref x) b) Q E s := by
  have one := tc_neOwn (b := b) (Q := Q) hu X I hne heq hf hm h
  unfold richCompare
  simp only [oneThing_ref]
  refine wpAny_holding (wpAny_bind (wpAny_cRoomFor (by omega) (wpAny_bind (I.type.here (wpAny_bind (hb.here ?_))))))
  split
  · rename_i q
    have e : subIn K tb (.ref C) = some false := by
      rcases Bool.or_eq_true_iff.mp hn with e | e
      · rw [beq_iff_eq.mp e] at q
        simp at q
      · exact beq_iff_eq.mp e
    refine wpAny_bind ((looks_subIn X e).here ?_)
    simp only [Bool.false_eq_true, if_false]
    refine wpAny_bind (wpAny_mono one (fun r s' z => ?_) fun _ _ e => e)
    obtain ⟨v, rfl, hq⟩ := z
    exact wpAny_pure hq
  · refine wpAny_bind (wpAny_pure ?_)
    simp only [Bool.false_eq_true, if_false]
    refine wpAny_bind (wpAny_mono one (fun r s' z => ?_) fun _ _ e => e)
    obtain ⟨v, rfl, hq⟩ := z
    exact wpAny_pure hq
end
end PySem.W
namespace TC
open PySem PySem.Spec PyProof.Rows L2
section
variable {X : Cx} {CX : CXT} {k : Nat} {f C : Addr} {ps : List Str} {sp : Sp}
theorem op_eqO (hs : PySem.W.findIn X.K (.ref C) "__eq__" = some (some (.ref f))) (hfn : PySem.W.isFn X.K (.ref f) = true) (F : FnE X.prog X.w X.K X.mg X.base CX k f ps sp) (hr : Room k X.A) (hx : Passes CX X E0) : OpR X (compareOp .Eq) (rEqO X.K C sp) := by
  intro pins s σ H x y v u Q I rx ry h
  obtain ⟨t, ty, hn, o, dx, fs, rfl, eo, q⟩ := h
  obtain rfl : v = Value.ref o := rx
  obtain ⟨od, J⟩ := inst_of I eo
  obtain ⟨m, hF⟩ := I.fr
  obtain ⟨P, kx, hp, _⟩ := kit_of I ry ty
  have hb : PySem.W.Looks (model X.prog X.w) s.heap (typeOf u) t := kx.ty _ _ I.kIn hp
  show wpAny _ _ (richCompare .Eq _ _) _ _ _
  refine PySem.W.cmp_K (by have := hr.un; omega) hF I.ok.mod.kin J hb hn hs hfn (wpAny_mono (call_at (us := [.ref o, u]) (vs := [.ref o, y]) hr I.env0 F (fun pn H2 s2 e2 t2 J2 c => hx pn σ H2 s2 e2 t2 J2 c) I (.cons rfl (.cons ry .nil)) q) (fun v2 s2 z => ?_) fun _ _ z => z)
  obtain ⟨z1, H1, I1, rz, bb, rfl, q1⟩ := z
  cases rz
  exact ⟨.bl bb, H1, I1, rfl, q1⟩
/-- != by the class's own == -/
def rNeO (K : PySem.W.Frag) (C : Addr) (sp : Sp) : R2 := fun x y H Q => ∃ (t : Value), TyX K H y t ∧ PySem.W.notFirst K C t = true ∧ InsQ C sp E0 [y] (fun z H' => ∃ b, z = .bl b ∧ Q (.bl (!b)) H') x H
theorem op_neO (hne : PySem.W.findIn X.K (.ref C) "__ne__" = some (some (.builtin "object.__ne__"))) (hm : PySem.W.mroIn X.K C (.type "object") = some true) (hs : PySem.W.findIn X.K (.ref C) "__eq__" = some (some (.ref f))) (hfn : PySem.W.isFn X.K (.ref f) = true)
    (F : FnE X.prog X.w X.K X.mg X.base CX k f ps sp) (hr : Room (k + 1) X.A) (hx : Passes CX X E0) : OpR X (compareOp .NotEq) (rNeO X.K C sp) := by
  intro pins s σ H x y v u Q I rx ry h
  obtain ⟨t, ty, hn, o, dx, fs, rfl, eo, q⟩ := h
  obtain rfl : v = Value.ref o := rx
  obtain ⟨od, J⟩ := inst_of I eo
  obtain ⟨P, kx, hp, _⟩ := kit_of I ry ty
  have hb : PySem.W.Looks (model X.prog X.w) s.heap (typeOf u) t := kx.ty _ _ I.kIn hp
  show wpAny _ _ (richCompare .NotEq _ _) _ _ _
  refine PySem.W.tc_neCmp (by have := hr.un; omega) I.kIn J hb hn hne hs hfn hm (wpAny_mono (call_at (us := [.ref o, u]) (vs := [.ref o, y]) hr.in1 I.env0.in1 F (fun pn H2 s2 e2 t2 J2 c => hx pn σ H2 s2 e2 t2 J2 c) I (.cons rfl (.cons ry .nil)) q) (fun v2 s2 z => ?_) fun _ _ z => z)
  obtain ⟨z1, H1, I1, rz, bb, rfl, q1⟩ := z
  cases rz
  exact ⟨.bl (!bb), H1, I1, rfl, q1⟩
/-- a op b of the class's own, both of the class -/
def tOpO (C : Addr) (sp : Sp) (E : L2.St → XK) (ta tb : TE) : TE := fun σ H Q => ta σ H fun x H1 => tb σ H1 fun y H2 => ∃ b dy gs, y = .ref b ∧ H2 b = some (.ins C dy gs) ∧ InsQ C sp (E σ) [y] (fun z H' => ∃ r, z = .ref r ∧ Q (.ref r) H') x H2
theorem pe_opO {op : Operator} {E : L2.St → XK} {a b : Expr} {ta tb : TE} {pos : Pos} (hc : PySem.W.selfFirst X.K C = true) (hs : PySem.W.findIn X.K (.ref C) (PySem.dunder op.info.2) = some (some (.ref f))) (hfn : PySem.W.isFn X.K (.ref f) = true)
    (F : FnE X.prog X.w X.K X.mg X.base CX k f ps sp) (hr : Room k X.A) (hx : ∀ σ, PassesAt CX X σ (E σ)) (ha : PE X a ta) (hb : PE X b tb) : PE X (.BinOp a op b pos) (tOpO C sp E ta tb) := by
  refine ⟨fun pins s σ H Q I h => ?_⟩
  refine wpAny_BinOp (binT ha hb I h fun v u s2 x y H2 I2 rx ry q => ?_)
  obtain ⟨b2, dy, gs, rfl, eb, o, dx, fs, rfl, eo, q⟩ := q
  obtain rfl : v = Value.ref o := rx
  obtain rfl : u = Value.ref b2 := ry
  obtain ⟨od, J⟩ := inst_of I2 eo
  obtain ⟨od2, J2⟩ := inst_of I2 eb
  obtain ⟨m, hF⟩ := I2.fr
  refine PySem.W.binop_K hF I2.ok.mod.kin J J2.type hc hs hfn (wpAny_mono (call_at (us := [.ref o, .ref b2]) (vs := [.ref o, .ref b2]) hr I2.env0 F (hx σ) I2 (.cons rfl (.cons rfl .nil)) q) (fun v2 s3 z => ?_) fun _ _ z => z)
  obtain ⟨z1, H1, I1, rz, r2, rfl, q1⟩ := z
  cases rz
  exact ⟨.ref r2, H1, I1, rfl, q1⟩
end
end TC
namespace TC
open PySem PySem.Spec PyProof.Rows L2 ClX
/-! ### a classmethod, called through its class; the class that it is given, called -/
section
variable {X : Cx} {CX : CXT} {k i : Nat} {C p g f : Addr} {mc : Value} {ps : List Str} {sp : Sp} {E : L2.St → XK} {o e : Expr} {es : List Expr} {m x : Str} {pos apos np : Pos} {ta : TE} {t : TA}
def tCMethW (C : Addr) (sp : Sp) (E : L2.St → XK) (ta : TE) (t : TA) : TE := fun σ H Q => ta σ H fun x H1 => x = .ref C ∧ t σ H1 fun vs H2 => sp (.ref C :: vs) H2 Q (E σ)
theorem pe_cmethW {pl : Sem Bool} (he : PE X o ta) (r : CRead X.K C mc) (c : CMet X.K C mc m p g) (F : FnE X.prog X.w X.K X.mg X.base CX k g ps sp) (hr : Room k X.A) (hx : ∀ σ, PassesAt CX X σ (E σ)) (ha : PA X (e :: es) t)
    (hst : starEach (e :: es) X.env = (false, eval e X.env) :: starEach es X.env := by rfl) (hpl : (backTo pos (starEach es X.env)).any (·.1) = false := by rfl)
    (ht : eval (.Call (.Attribute o m apos) (e :: es) [] pos) X.env = (do
      let own ← eval o X.env
      standAt apos.atName
      let (fn, self) ← holding [own] (getMethod own m pl)
      callWith pos fn self (backTo pos (starEach (e :: es) X.env)) (backToKw pos (keywordEach [] X.env))) := by rfl) :
    PE X (.Call (.Attribute o m apos) (e :: es) [] pos) (tCMethW C sp E ta t) := by
  refine ⟨fun pins s σ H Q I h => PySem.W.methodCall_KW (pl := pl) (thn (he.run pins s σ H _ I h) fun u s1 hu => ?_) ht⟩
  obtain ⟨x, H1, I1, rx, ex, q⟩ := hu
  subst ex
  obtain rfl : u = Value.ref C := rx
  refine getmethcm_ok I1 r c fun s2 I2 => callwith_cm I2 (base_none I1 (Nat.le_refl _)) c.fi (thn (ha.run pos _ s2 σ H1 _ I2 q) fun us s3 hv => ?_) hst hpl
  obtain ⟨vs, H2, I3, rv, q2⟩ := hv
  refine ⟨⟨pin_at I3, I3.kIn⟩, ?_⟩
  obtain ⟨fd, F1, bd⟩ := F
  have rr : Vals (V.ref C :: vs) (Value.ref C :: us) := .cons rfl rv
  have nl : (Value.ref C :: us).length = ps.length := rr.length.symm.trans (F1.len _ _ _ _ q2)
  have bb := bd s3 (Value.ref C :: us) I3.kIn (by rw [List.append_nil]; exact nl)
  rw [List.append_nil] at bb
  have run : wpAny (model X.prog X.w) X.A (call (.ref s1.heap.objs.size) us) (EP X ((s1.heap.objs.size, PySem.W.methodObj (.ref g) (.ref C)) :: pins) σ Q) X.xe s3 := by
    refine wpAny_call (PySem.W.method_call (pin_at I3) (codeAny_mono (F1.run X.A X.stack s3 H2 ⟨Value.ref C :: us, []⟩ _ _ Q (E σ) hr I3.env0 bb rr q2) fun res t ht => ?_))
    cases res with
    | error er => exact hx σ _ H2 s3 er t I3 ht
    | ok fl =>
      cases fl with
      | ret u => exact I3.after ht
      | next => exact ht.elim
      | brk => exact ht.elim
      | cont => exact ht.elim
  exact thn run fun _ _ y => unpinE y
/-- cls(e, ..), cls a name of one's own that holds the class at C -/
def tMakeV (i : Nat) (C : Addr) (sp : Sp) (E : L2.St → XK) (t : TA) : TE := fun σ H Q => tVar i σ H fun x H0 => x = .ref C ∧ t σ H0 fun vs H1 => MkG C sp (E σ) vs Q H1
theorem pe_makeV (hv : PE X (.Name x np) (tVar i)) (M : Mk X.K C f) (F : FnE X.prog X.w X.K X.mg X.base CX k f ps sp) (hr : Room (k + 1) X.A) (hx : ∀ σ, PassesAt CX X σ (E σ)) (ha : PA X (e :: es) t)
    (he : starEach (e :: es) X.env = (false, eval e X.env) :: starEach es X.env := by rfl) (hpl : (backTo pos (starEach es X.env)).any (·.1) = false := by rfl) : PE X (.Call (.Name x np) (e :: es) [] pos) (tMakeV i C sp E t) := by
  refine ⟨fun pins s σ H Q I h => wpAny_Call_Name_kw (thn (hv.run pins s σ H _ I h) fun u s1 hu => ?_)⟩
  obtain ⟨y, H1, I1, ry, ey, q⟩ := hu
  subst ey
  obtain rfl : u = Value.ref C := ry
  exact PySem.W.callWith_K (h₀ := X.base) I1.ok.mod.kin M.kp (thn (ha.run pos pins s1 σ H1 _ I1 q) fun us s2 ⟨vs, H2, I2, r, q2⟩ => ⟨I2.kIn, make_at M F hr (hx σ) I2 r q2⟩) he hpl
section
variable {σ : L2.St} {H : Hp} {Q : VK} {ta tb : TE}
theorem i_makeV (hv : σ[i]? = some (some (.ref C))) (h : t σ H fun vs H1 => MkG C sp (E σ) vs Q H1) : tMakeV i C sp E t σ H Q := ⟨.ref C, hv, rfl, h⟩
theorem i_cmethW (h : ta σ H fun x H1 => x = .ref C ∧ t σ H1 fun vs H2 => sp (.ref C :: vs) H2 Q (E σ)) : tCMethW C sp E ta t σ H Q := h
theorem i_ixO (h : ta σ H fun x H1 => tb σ H1 fun y H2 => InsQ C sp (E σ) [y] Q x H2) : tIxO C sp E ta tb σ H Q := h
theorem i_opO (h : ta σ H fun x H1 => tb σ H1 fun y H2 => ∃ b dy gs, y = .ref b ∧ H2 b = some (.ins C dy gs) ∧ InsQ C sp (E σ) [y] (fun z H' => ∃ r, z = .ref r ∧ Q (.ref r) H') x H2) : tOpO C sp E ta tb σ H Q := h
theorem i_tr2 (h : ta σ H fun x H1 => tb σ H1 fun y H2 => ∃ i j, x = .int i ∧ y = .int j ∧ RgOk i j ∧ ∀ q, H2 q = none → Q (.ref q) (upd H2 q (.tup (rgV i j)))) : tTupRg (tRg2 ta tb) σ H Q := h
end
end
section
variable {X : Cx} {x y : Expr} {tx ty : TE} {p p2 pos pos2 : Pos}
theorem g_tr1 (n : Nm X.mg) (hc : X.calm = true) (hx : PE X x tx) (hg : Gl X "tuple") (hg2 : Gl X "range") (na : starEach [x] X.env = (false, eval x X.env) :: starEach [] X.env := by rfl)
    (nb : starEach [Expr.Call (.Name "range" p2) [x] [] pos2] X.env = (false, eval (Expr.Call (.Name "range" p2) [x] [] pos2) X.env) :: starEach [] X.env := by rfl) :
    PE X (.Call (.Name "tuple" p) [.Call (.Name "range" p2) [x] [] pos2] [] pos) (tTupRg (tRg1 tx)) := pe_tupRg hc hg n.tuple_ (prg_1 hg2 n.range hx na) nb
theorem g_tr2 (n : Nm X.mg) (hc : X.calm = true) (hx : PE X x tx) (hy : PE X y ty) (hg : Gl X "tuple") (hg2 : Gl X "range") (na : starEach [x, y] X.env = (false, eval x X.env) :: starEach [y] X.env := by rfl)
    (nb : starEach [y] X.env = (false, eval y X.env) :: starEach [] X.env := by rfl) (hp : (backTo pos2 (starEach [y] X.env)).any (·.1) = false := by rfl)
    (nc : starEach [Expr.Call (.Name "range" p2) [x, y] [] pos2] X.env = (false, eval (Expr.Call (.Name "range" p2) [x, y] [] pos2) X.env) :: starEach [] X.env := by rfl) :
    PE X (.Call (.Name "tuple" p) [.Call (.Name "range" p2) [x, y] [] pos2] [] pos) (tTupRg (tRg2 tx ty)) := pe_tupRg hc hg n.tuple_ (prg_2 hg2 n.range hx hy na nb hp) nc
end
end TC

set_option Elab.async false
set_option linter.all false
set_option maxRecDepth 100000
set_option maxHeartbeats 4000000
/-! Values as data: what a slot holds, what a heap says of it. -/
namespace TV
open PySem PySem.Spec PyProof.Rows L2 TC

inductive Cn where
  | arr | huge | game | cons | trial
  deriving DecidableEq
inductive En where
  | base | row | place | number | step | word | code | name | command | size | parse | limit | undo | redo
  deriving DecidableEq
structure Adr where
  cn : Cn → Addr
  en : En → Addr
  inj : ∀ c c', cn c = cn c' → c = c'
  ea : Addr
  phi : Hp → Prop
  mono : ∀ F F', Same F F' → phi F → phi F'
def flds : Cn → List Str
  | .arr => ["cards"]
  | .huge => ["number", "changed"]
  | .game => ["first", "cards", "played", "undone", "text"]
  | .cons => ["game"]
  | .trial => ["game", "cards", "played", "undone"]
def fldE : En → Str
  | .parse => "line"
  | .limit => "limit"
  | .undo => "user"
  | .redo => "user"
  | _ => "value"
inductive D where
  | non | bl (b : Bool) | int (i : Int) | str (x : Str) | ty (n : String) | cls (c : Cn)
  | scr (ns : List Int)
  | tup (ds : List D) | lst (ds : List D) | obj (c : Cn) (ds : List D) | dct (ks vs : List D)
/-- a key of a dict -/
def D.key : D → Option Key
  | .int i => some (.inl i)
  | .str x => some (.inr x)
  | _ => none
def D.keys : List D → Option (List Key)
  | [] => some []
  | d :: ds => match d.key, D.keys ds with
    | some k, some ks => some (k :: ks)
    | _, _ => none
def D.tkey : D → Option (List Key)
  | .tup ds => D.keys ds
  | _ => none
def D.tkeys : List D → Option (List (List Key))
  | [] => some []
  | d :: ds => match d.tkey, D.tkeys ds with
    | some k, some ks => some (k :: ks)
    | _, _ => none

section
variable (K : PySem.W.Frag) (a : Adr) (F : Hp)
mutual
def Rep : D → V → Prop
  | .non, v => v = .non
  | .bl b, v => v = .bl b
  | .int i, v => v = .int i
  | .str x, v => v = .str x
  | .ty n, v => v = .ty n
  | .cls c, v => v = .ref (a.cn c)
  | .tup ds, v => ∃ p vs, v = .ref p ∧ SqT K F p vs ∧ Reps ds vs
  | .scr ns, v => ∃ p, v = .ref p ∧ SqL K F p (ns.map V.int)
  | .lst ds, v => ∃ p vs, v = .ref p ∧ F p = some (.lst vs) ∧ Reps ds vs
  | .obj c ds, v => ∃ p dx vs, v = .ref p ∧ F p = some (.ins (a.cn c) dx ((flds c).zip vs)) ∧ vs.length ≤ (flds c).length ∧ Reps ds vs
  | .dct ks ds, v => ∃ p vs, v = .ref p ∧ Reps ds vs ∧ ((∃ kk, D.keys ks = some kk ∧ kk.length = vs.length ∧ F p = some (.dK (kk.zip vs))) ∨ (∃ kk, ks ≠ [] ∧ D.tkeys ks = some kk ∧ kk.length = vs.length ∧ F p = some (.dT (kk.zip vs))))
def Reps : List D → List V → Prop
  | [], vs => vs = []
  | d :: ds, vs => ∃ v r, vs = v :: r ∧ Rep d v ∧ Reps ds r
end
end
/-- the object at p, its parts in F -/
def Top (K : PySem.W.Frag) (a : Adr) (H F : Hp) (p : Addr) : D → Prop
  | .lst ds => ∃ vs, H p = some (.lst vs) ∧ Reps K a F ds vs
  | .obj c ds => ∃ dx vs, H p = some (.ins (a.cn c) dx ((flds c).zip vs)) ∧ vs.length ≤ (flds c).length ∧ Reps K a F ds vs
  | .dct ks ds => ∃ vs, Reps K a F ds vs ∧ ((∃ kk, D.keys ks = some kk ∧ kk.length = vs.length ∧ H p = some (.dK (kk.zip vs))) ∨ (∃ kk, ks ≠ [] ∧ D.tkeys ks = some kk ∧ kk.length = vs.length ∧ H p = some (.dT (kk.zip vs))))
  | _ => False
section
variable {K : PySem.W.Frag} {a : Adr} {F F' H H' : Hp} {p : Addr} {v : V} {d : D} {ds es : List D} {vs ws : List V}
mutual
theorem Rep.mono (e : Same F F') : ∀ (d : D) (v : V), Rep K a F d v → Rep K a F' d v
  | .non, _, h => by rw [Rep] at h ⊢; exact h
  | .bl b, _, h => by rw [Rep] at h ⊢; exact h
  | .int i, _, h => by rw [Rep] at h ⊢; exact h
  | .str x, _, h => by rw [Rep] at h ⊢; exact h
  | .ty n, _, h => by rw [Rep] at h ⊢; exact h
  | .cls c, _, h => by rw [Rep] at h ⊢; exact h
  | .tup ds, _, h => by
    rw [Rep] at h ⊢
    obtain ⟨p, vs, e1, s, r⟩ := h
    exact ⟨p, vs, e1, Same.seqT e s, Reps.mono e ds _ r⟩
  | .scr ns, _, h => by
    rw [Rep] at h ⊢
    obtain ⟨p, e1, s⟩ := h
    exact ⟨p, e1, e.seq s⟩
  | .lst ds, _, h => by
    rw [Rep] at h ⊢
    obtain ⟨p, vs, e1, s, r⟩ := h
    exact ⟨p, vs, e1, e _ _ s, Reps.mono e ds _ r⟩
  | .obj c ds, _, h => by
    rw [Rep] at h ⊢
    obtain ⟨p, dx, vs, e1, s, l, r⟩ := h
    exact ⟨p, dx, vs, e1, e _ _ s, l, Reps.mono e ds _ r⟩
  | .dct ks ds, _, h => by
    rw [Rep] at h ⊢
    obtain ⟨p, vs, e1, r, s⟩ := h
    exact ⟨p, vs, e1, Reps.mono e ds _ r, s.elim (fun ⟨kk, k1, k2, k3⟩ => .inl ⟨kk, k1, k2, e _ _ k3⟩) fun ⟨kk, k0, k1, k2, k3⟩ => .inr ⟨kk, k0, k1, k2, e _ _ k3⟩⟩
theorem Reps.mono (e : Same F F') : ∀ (ds : List D) (vs : List V), Reps K a F ds vs → Reps K a F' ds vs
  | [], _, h => by rw [Reps] at h ⊢; exact h
  | d :: ds, _, h => by
    rw [Reps] at h ⊢
    obtain ⟨v, r, e1, h1, h2⟩ := h
    exact ⟨v, r, e1, Rep.mono e d v h1, Reps.mono e ds r h2⟩
end
theorem Top.mono (e : Same F F') (h : H p = H' p) (t : Top K a H F p d) : Top K a H' F' p d := by
  cases d with
  | lst ds => obtain ⟨vs, h1, r⟩ := t; exact ⟨vs, h ▸ h1, r.mono e⟩
  | obj c ds => obtain ⟨dx, vs, h1, l, r⟩ := t; exact ⟨dx, vs, h ▸ h1, l, r.mono e⟩
  | dct ks ds => obtain ⟨vs, r, h1⟩ := t; exact ⟨vs, r.mono e, h ▸ h1⟩
  | _ => exact t.elim
theorem Top.some (t : Top K a H F p d) : ∃ o, H p = some o := by
  cases d with
  | lst ds => obtain ⟨vs, h1, r⟩ := t; exact ⟨_, h1⟩
  | obj c ds => obtain ⟨dx, vs, h1, l, r⟩ := t; exact ⟨_, h1⟩
  | dct ks ds => obtain ⟨vs, r, ⟨_, _, _, h1⟩ | ⟨_, _, _, _, h1⟩⟩ := t <;> exact ⟨_, h1⟩
  | _ => exact t.elim
/-- a made object, frozen -/
theorem Top.rep (t : Top K a H F p d) (e : Same F F') (h : F' p = H p) : Rep K a F' d (.ref p) := by
  cases d with
  | lst ds => obtain ⟨vs, h1, r⟩ := t; rw [Rep]; exact ⟨p, vs, rfl, h.trans h1, r.mono e⟩
  | obj c ds => obtain ⟨dx, vs, h1, l, r⟩ := t; rw [Rep]; exact ⟨p, dx, vs, rfl, h.trans h1, l, r.mono e⟩
  | dct ks ds => obtain ⟨vs, r, h1⟩ := t; rw [Rep]; exact ⟨p, vs, rfl, r.mono e, by rw [h]; exact h1⟩
  | _ => exact t.elim
theorem Reps.length : ∀ {ds : List D} {vs : List V}, Reps K a F ds vs → ds.length = vs.length
  | [], _, h => by rw [Reps] at h; rw [h]; rfl
  | d :: ds, _, h => by
    rw [Reps] at h
    obtain ⟨v, r, rfl, _, h2⟩ := h
    rw [List.length_cons, List.length_cons, Reps.length h2]
theorem Reps.nil : Reps K a F [] [] := by rw [Reps]
theorem Reps.cons (h : Rep K a F d v) (t : Reps K a F ds vs) : Reps K a F (d :: ds) (v :: vs) := by rw [Reps]; exact ⟨v, vs, rfl, h, t⟩
theorem Reps.uncons (h : Reps K a F (d :: ds) vs) : ∃ v r, vs = v :: r ∧ Rep K a F d v ∧ Reps K a F ds r := by rw [Reps] at h; exact h
theorem Reps.append : ∀ {ds es : List D} {vs ws : List V}, Reps K a F ds vs → Reps K a F es ws → Reps K a F (ds ++ es) (vs ++ ws)
  | [], _, _, _, h, g => by rw [Reps] at h; subst h; exact g
  | d :: ds, es, vs, ws, h, g => by
    obtain ⟨v, r, rfl, h1, h2⟩ := h.uncons
    exact .cons h1 (Reps.append h2 g)
theorem Reps.take : ∀ {ds : List D} {vs : List V} (n : Nat), Reps K a F ds vs → Reps K a F (ds.take n) (vs.take n)
  | _, _, 0, _ => by rw [List.take_zero, List.take_zero]; exact .nil
  | [], _, n + 1, h => by rw [Reps] at h; subst h; exact .nil
  | d :: ds, vs, n + 1, h => by
    obtain ⟨v, r, rfl, h1, h2⟩ := h.uncons
    exact .cons h1 (Reps.take n h2)
theorem Reps.drop : ∀ {ds : List D} {vs : List V} (n : Nat), Reps K a F ds vs → Reps K a F (ds.drop n) (vs.drop n)
  | _, _, 0, h => h
  | [], _, n + 1, h => by rw [Reps] at h; subst h; exact .nil
  | d :: ds, vs, n + 1, h => by
    obtain ⟨v, r, rfl, h1, h2⟩ := h.uncons
    exact Reps.drop n h2
theorem Reps.get : ∀ {ds : List D} {vs : List V} {i : Nat} {d : D}, Reps K a F ds vs → ds[i]? = some d → ∃ v, vs[i]? = some v ∧ Rep K a F d v
  | [], _, i, _, _, e => by simp at e
  | d :: ds, _, 0, d', h, e => by
    obtain ⟨v, r, rfl, h1, h2⟩ := h.uncons
    simp at e
    subst e
    exact ⟨v, rfl, h1⟩
  | d :: ds, _, i + 1, d', h, e => by
    obtain ⟨v, r, rfl, h1, h2⟩ := h.uncons
    obtain ⟨w, hw, rw_⟩ := Reps.get (i := i) h2 (by simpa using e)
    exact ⟨w, by simpa using hw, rw_⟩
theorem Reps.set : ∀ {ds : List D} {vs : List V} (i : Nat), Rep K a F d v → Reps K a F ds vs → Reps K a F (ds.set i d) (vs.set i v)
  | [], _, i, _, h => by rw [Reps] at h; subst h; rw [List.set_nil, List.set_nil]; exact .nil
  | e :: ds, _, 0, g, h => by
    obtain ⟨w, r, rfl, h1, h2⟩ := h.uncons
    exact .cons g h2
  | e :: ds, _, i + 1, g, h => by
    obtain ⟨w, r, rfl, h1, h2⟩ := h.uncons
    exact .cons h1 (Reps.set i g h2)
theorem Reps.eraseIdx : ∀ {ds : List D} {vs : List V} (i : Nat), Reps K a F ds vs → Reps K a F (ds.eraseIdx i) (vs.eraseIdx i)
  | [], _, i, h => by rw [Reps] at h; subst h; exact .nil
  | e :: ds, _, 0, h => by
    obtain ⟨w, r, rfl, h1, h2⟩ := h.uncons
    exact h2
  | e :: ds, _, i + 1, h => by
    obtain ⟨w, r, rfl, h1, h2⟩ := h.uncons
    exact .cons h1 (Reps.eraseIdx i h2)
theorem Reps.reverse {ds : List D} {vs : List V} (h : Reps K a F ds vs) : Reps K a F ds.reverse vs.reverse := by
  induction ds generalizing vs with
  | nil => rw [Reps] at h; subst h; exact .nil
  | cons d ds ih =>
    obtain ⟨w, r, rfl, h1, h2⟩ := h.uncons
    rw [List.reverse_cons, List.reverse_cons]
    exact (ih h2).append (.cons h1 .nil)
theorem Reps.ints : ∀ {ns : List Int} {vs : List V}, Reps K a F (ns.map D.int) vs ↔ vs = ns.map V.int
  | [], _ => by rw [List.map_nil, Reps]; rfl
  | n :: ns, vs => by
    rw [List.map_cons, Reps]
    constructor
    · rintro ⟨v, r, rfl, h1, h2⟩
      rw [Rep] at h1
      rw [h1, (Reps.ints (ns := ns)).mp h2]
      rfl
    · rintro rfl
      exact ⟨_, _, rfl, by rw [Rep], Reps.ints.mpr rfl⟩
end
end TV

set_option Elab.async false
set_option linter.all false
set_option maxRecDepth 100000
set_option maxHeartbeats 4000000
/-! States as data: slots that own, slots that share; what an evaluator tells of a reading. -/
namespace TV
open PySem PySem.Spec PyProof.Rows L2 TC

inductive Kd where
  | pure | own | prm
  deriving DecidableEq
inductive Sl where
  | val (k : Kd) (d : D) | exn (c : En) (d : D)
abbrev Sv := List (Option Sl)
def Sl.owned : Sl → Bool
  | .val .own _ => true
  | .val .prm _ => true
  | _ => false
/-- the ground of a piece of code: heap and frozen heap at its start, what it may change, its parameters that it may change -/
structure Bd where
  H0 : Hp
  F0 : Hp
  M : Addr → Prop
  P : Nat → Addr
section
variable (K : PySem.W.Frag) (a : Adr)
def SlOk (B : Bd) (H F : Hp) (i : Nat) (v : V) : Sl → Prop
  | .val .pure d => Rep K a F d v
  | .val .own d => ∃ p, v = .ref p ∧ F p = none ∧ (B.M p ∨ B.H0 p = none) ∧ Top K a H F p d
  | .val .prm d => v = .ref (B.P i) ∧ F (B.P i) = none ∧ (B.M (B.P i) ∨ B.H0 (B.P i) = none) ∧ Top K a H F (B.P i) d
  | .exn _ _ => v = .ref a.ea
structure Cc (B : Bd) (E : Sv) (σ : L2.St) (H F : Hp) : Prop where
  len : σ.length = E.length
  le : Same F H
  lo : Same B.F0 F
  new : ∀ p o, F p = some o → (∃ o', B.F0 p = some o') ∨ B.H0 p = none ∨ B.M p
  keep : ∀ p o, B.H0 p = some o → ¬ B.M p → H p = some o
  live : ∀ p o, B.H0 p = some o → ∃ o', H p = some o'
  sl : ∀ (i : Nat) (s : Sl), E[i]? = some (some s) → ∃ v, σ[i]? = some (some v) ∧ SlOk K a B H F i v s
  sep : ∀ (i j : Nat) (s t : Sl) (p : Addr), E[i]? = some (some s) → E[j]? = some (some t) → s.owned = true → t.owned = true → σ[i]? = some (some (.ref p)) → σ[j]? = some (some (.ref p)) → i = j
  ctx : a.phi F
inductive Vl where
  | dv (d : D) | fr (d : D) | loc (i : Nat)
def VOk (B : Bd) (E : Sv) (σ : L2.St) (H F : Hp) (v : V) : Vl → Prop
  | .dv d => Rep K a F d v
  | .fr d => ∃ p, v = .ref p ∧ F p = none ∧ B.H0 p = none ∧ Top K a H F p d ∧ ∀ (i : Nat) (s : Sl), E[i]? = some (some s) → s.owned = true → σ[i]? ≠ some (some (.ref p))
  | .loc i => σ[i]? = some (some v)
def View (H F : Hp) (v : V) (d : D) : Prop := Rep K a F d v ∨ ∃ p, v = .ref p ∧ Top K a H F p d
end
def Vl.get (E : Sv) : Vl → Option D
  | .dv d => some d
  | .fr d => some d
  | .loc i => match E[i]? with
    | some (some (.val _ d)) => some d
    | _ => none
def Vl.hold : Vl → Vl
  | .fr d => .dv d
  | v => v
def Sv.frz (E : Sv) : Vl → Option (D × Sv)
  | .dv d => some (d, E)
  | .fr d => some (d, E)
  | .loc i => match E[i]? with
    | some (some (.val .own d)) => some (d, E.set i (some (.val .pure d)))
    | some (some (.val .pure d)) => some (d, E)
    | _ => none
inductive SRs where
  | nx (E : Sv) | rt (v : Vl) (E : Sv) | bk (E : Sv) | ct (E : Sv) | ex (c : En) (d : D) (E : Sv) | er
def ExOk (K : PySem.W.Frag) (a : Adr) (F : Hp) (c : En) (d : D) (dd : Addr) : Prop := ∃ v, F dd = some (.xd [(fldE c, v)]) ∧ Rep K a F d v
def frA : V → Vl → Option Addr
  | .ref p, .fr _ => some p
  | _, _ => none
def frAs : List V → List Vl → List Addr
  | x :: xs, v :: vs => match frA x v with
    | some p => p :: frAs xs vs
    | none => frAs xs vs
  | _, _ => []
/-- values of arguments: fresh ones stand apart -/
inductive AllV (K : PySem.W.Frag) (a : Adr) (B : Bd) (E : Sv) (σ : L2.St) (H F : Hp) : List V → List Vl → Prop
  | nil : AllV K a B E σ H F [] []
  | cons {x : V} {v : Vl} {xs : List V} {vs : List Vl} : VOk K a B E σ H F x v → AllV K a B E σ H F xs vs → (∀ p, frA x v = some p → p ∉ frAs xs vs) → AllV K a B E σ H F (x :: xs) (v :: vs)
section
variable {K : PySem.W.Frag} {a : Adr} {W : WX} {B : Bd} {E E1 : Sv} {σ : L2.St} {H F H' F' : Hp} {x y v : V} {d : D} {p : Addr} {vl : Vl} {i j : Nat}
theorem Same.upd {F : Hp} {p : Addr} {o : HO} (h : F p = none) : Same F (L2.upd F p o) := Same.new h
theorem same_trans {A B C : Hp} (h : Same A B) (g : Same B C) : Same A C := h.trans g
/-- the heap grows, so does the frozen part -/
structure Gr (H F H' F' : Hp) : Prop where
  hh : Same H H'
  ff : Same F F'
  le : Same F' H'
  nw : ∀ p o, F' p = some o → (∃ o', F p = some o') ∨ H p = none
theorem Gr.refl (h : Same F H) : Gr H F H F := ⟨Same.refl _, Same.refl _, h, fun p o e => .inl ⟨o, e⟩⟩
theorem Cc.own_in (C : Cc K a B E σ H F) {s : Sl} (h : E[i]? = some (some s)) (hs : s.owned = true) : ∃ p d, σ[i]? = some (some (.ref p)) ∧ F p = none ∧ Top K a H F p d ∧ (∃ k, s = .val k d) ∧ (B.M p ∨ B.H0 p = none) := by
  obtain ⟨v, hv, ok⟩ := C.sl i s h
  cases s with
  | exn c d => cases hs
  | val k d =>
    cases k with
    | pure => cases hs
    | own => obtain ⟨p, rfl, f, m, t⟩ := ok; exact ⟨p, d, hv, f, t, ⟨_, rfl⟩, m⟩
    | prm => obtain ⟨rfl, f, m, t⟩ := ok; exact ⟨_, d, hv, f, t, ⟨_, rfl⟩, m⟩
theorem SlOk.mono {s : Sl} (ff : Same F F') (hk : ∀ p o, s.owned = true → v = .ref p → H p = some o → F p = none → H' p = some o ∧ F' p = none) (h : SlOk K a B H F i v s) : SlOk K a B H' F' i v s := by
  cases s with
  | exn c d => exact h
  | val k d =>
    cases k with
    | pure => exact Rep.mono ff _ _ h
    | own =>
      obtain ⟨p, rfl, f, m, t⟩ := h
      obtain ⟨o, ho⟩ := t.some
      obtain ⟨h1, h2⟩ := hk p o rfl rfl ho f
      exact ⟨p, rfl, h2, m, t.mono ff (ho.trans h1.symm)⟩
    | prm =>
      obtain ⟨rfl, f, m, t⟩ := h
      obtain ⟨o, ho⟩ := t.some
      obtain ⟨h1, h2⟩ := hk _ o rfl rfl ho f
      exact ⟨rfl, h2, m, t.mono ff (ho.trans h1.symm)⟩
theorem Cc.grow (C : Cc K a B E σ H F) (g : Gr H F H' F') : Cc K a B E σ H' F' := by
  refine ⟨C.len, g.le, C.lo.trans g.ff, fun p o h => ?_, fun p o h m => g.hh _ _ (C.keep p o h m), fun p o h => ?_, fun i s h => ?_, C.sep, a.mono _ _ g.ff C.ctx⟩
  · rcases g.nw p o h with ⟨o', h2⟩ | h2
    · exact C.new p o' h2
    · refine .inr (.inl ?_)
      cases h3 : B.H0 p with
      | none => rfl
      | some o2 =>
        obtain ⟨o3, h4⟩ := C.live p o2 h3
        rw [h2] at h4
        cases h4
  · obtain ⟨o', h2⟩ := C.live p o h
    exact ⟨o', g.hh _ _ h2⟩
  · obtain ⟨v, hv, ok⟩ := C.sl i s h
    refine ⟨v, hv, ok.mono g.ff fun p o _ _ hp hf => ⟨g.hh _ _ hp, ?_⟩⟩
    cases h3 : F' p with
    | none => rfl
    | some o2 =>
      rcases g.nw p o2 h3 with ⟨o3, h4⟩ | h4
      · rw [hf] at h4; cases h4
      · rw [hp] at h4; cases h4
theorem Cc.fresh (C : Cc K a B E σ H F) (h : H p = none) : F p = none ∧ B.H0 p = none ∧ ∀ (i : Nat) (s : Sl), E[i]? = some (some s) → s.owned = true → σ[i]? ≠ some (some (.ref p)) := by
  refine ⟨?_, ?_, fun i s h1 h2 h3 => ?_⟩
  · cases e : F p with
    | none => rfl
    | some o => rw [C.le _ _ e] at h; cases h
  · cases e : B.H0 p with
    | none => rfl
    | some o =>
      obtain ⟨o', h2⟩ := C.live _ _ e
      rw [h] at h2
      cases h2
  · obtain ⟨q, d, e, _, t, _⟩ := C.own_in h1 h2
    rw [h3] at e
    cases e
    obtain ⟨o, ho⟩ := t.some
    rw [h] at ho
    cases ho
/-- p becomes frozen -/
theorem Cc.freeze {o : HO} (C : Cc K a B E σ H F) (hp : H p = some o) (hf : F p = none) (hm : B.M p ∨ B.H0 p = none) (hn : ∀ (i : Nat) (s : Sl), E[i]? = some (some s) → s.owned = true → σ[i]? ≠ some (some (.ref p))) : Cc K a B E σ H (upd F p o) := by
  have ff : Same F (upd F p o) := Same.new hf
  refine ⟨C.len, fun q u e => ?_, C.lo.trans ff, fun q u e => ?_, C.keep, C.live, fun i s h => ?_, C.sep, a.mono _ _ ff C.ctx⟩
  · by_cases h : q = p
    · subst h; rw [upd_same] at e; cases e; exact hp
    · rw [upd_ne h] at e; exact C.le _ _ e
  · by_cases h : q = p
    · subst h
      exact hm.elim (fun m => .inr (.inr m)) fun m => .inr (.inl m)
    · rw [upd_ne h] at e; exact C.new _ _ e
  · obtain ⟨v, hv, ok⟩ := C.sl i s h
    refine ⟨v, hv, ok.mono ff fun q u hs e hq hf2 => ⟨hq, ?_⟩⟩
    subst e
    rw [upd_ne fun z => hn i s h hs (by rw [hv, z])]
    exact hf2
theorem getElem?_set_cases {α : Type} {l : List α} {i j : Nat} {x y : α} (h : (l.set i x)[j]? = some y) : (i = j ∧ x = y ∧ i < l.length) ∨ (i ≠ j ∧ l[j]? = some y) := by
  by_cases e : i = j
  · subst e
    rw [List.getElem?_set_self'] at h
    cases hl : l[i]? with
    | none => rw [hl] at h; cases h
    | some z =>
      rw [hl] at h
      cases h
      exact .inl ⟨rfl, rfl, (List.getElem?_eq_some_iff.mp hl).1⟩
  · rw [List.getElem?_set_ne e] at h
    exact .inr ⟨e, h⟩
/-- a slot's data is told otherwise -/
theorem Cc.reslot {s : Sl} {x : V} (C : Cc K a B E σ H F) (hi : σ[i]? = some (some x)) (hs : s.owned = false) (ok : SlOk K a B H F i x s) : Cc K a B (E.set i (some s)) σ H F := by
  refine ⟨by rw [List.length_set]; exact C.len, C.le, C.lo, C.new, C.keep, C.live, fun j t h => ?_, fun j l t u q h1 h2 h3 h4 h5 h6 => ?_, C.ctx⟩
  · rcases getElem?_set_cases h with ⟨rfl, e, _⟩ | ⟨_, h⟩
    · cases e
      exact ⟨x, hi, ok⟩
    · exact C.sl j t h
  · rcases getElem?_set_cases h1 with ⟨rfl, e, _⟩ | ⟨_, h1⟩
    · cases e
      rw [hs] at h3
      cases h3
    · rcases getElem?_set_cases h2 with ⟨rfl, e, _⟩ | ⟨_, h2⟩
      · cases e
        rw [hs] at h4
        cases h4
      · exact C.sep j l t u q h1 h2 h3 h4 h5 h6
theorem Cc.get_rep (C : Cc K a B E σ H F) (hx : VOk K a B E σ H F x vl) (e : vl.get E = some d) : View K a H F x d := by
  cases vl with
  | dv d' => cases e; exact .inl hx
  | fr d' => cases e; obtain ⟨p, rfl, _, _, t, _⟩ := hx; exact .inr ⟨p, rfl, t⟩
  | loc i =>
    have hx' : σ[i]? = some (some x) := hx
    dsimp only [Vl.get] at e
    cases h : E[i]? with
    | none => rw [h] at e; cases e
    | some o =>
      cases o with
      | none => rw [h] at e; cases e
      | some s =>
        cases s with
        | exn c d' => rw [h] at e; cases e
        | val k d' =>
          rw [h] at e
          cases e
          obtain ⟨v, hv, ok⟩ := C.sl i _ h
          rw [hx'] at hv
          cases hv
          cases k with
          | pure => exact .inl ok
          | own => obtain ⟨p, rfl, _, _, t⟩ := ok; exact .inr ⟨p, rfl, t⟩
          | prm => obtain ⟨rfl, _, _, t⟩ := ok; exact .inr ⟨_, rfl, t⟩
/-- a value that is kept for later -/
theorem Cc.hold (C : Cc K a B E σ H F) (hx : VOk K a B E σ H F x vl) : ∃ F', Cc K a B E σ H F' ∧ Same F F' ∧ VOk K a B E σ H F' x vl.hold := by
  cases vl with
  | dv d' => exact ⟨F, C, Same.refl _, hx⟩
  | loc i => exact ⟨F, C, Same.refl _, hx⟩
  | fr d' =>
    obtain ⟨p, rfl, f, m, t, n⟩ := hx
    obtain ⟨o, ho⟩ := t.some
    exact ⟨upd F p o, C.freeze ho f (.inr m) n, Same.new f, t.rep (Same.new f) (upd_same.trans ho.symm)⟩
theorem Cc.frz (C : Cc K a B E σ H F) (hx : VOk K a B E σ H F x vl) (e : E.frz vl = some (d, E1)) : ∃ F', Cc K a B E1 σ H F' ∧ Same F F' ∧ Rep K a F' d x := by
  cases vl with
  | dv d' => cases e; exact ⟨F, C, Same.refl _, hx⟩
  | fr d' => cases e; exact C.hold hx
  | loc i =>
    have hx' : σ[i]? = some (some x) := hx
    dsimp only [Sv.frz] at e
    cases h : E[i]? with
    | none => rw [h] at e; cases e
    | some o =>
      cases o with
      | none => rw [h] at e; cases e
      | some s =>
        cases s with
        | exn c d' => rw [h] at e; cases e
        | val k d' =>
          rw [h] at e
          cases k with
          | prm => cases e
          | pure =>
            cases e
            obtain ⟨v, hv, ok⟩ := C.sl i _ h
            rw [hx'] at hv
            cases hv
            exact ⟨F, C, Same.refl _, ok⟩
          | own =>
            cases e
            obtain ⟨v, hv, ok⟩ := C.sl i _ h
            rw [hx'] at hv
            cases hv
            obtain ⟨p, rfl, f, m, t⟩ := ok
            obtain ⟨o, ho⟩ := t.some
            have ff : Same F (upd F p o) := Same.new f
            have rp := t.rep ff (upd_same.trans ho.symm)
            refine ⟨upd F p o, ?_, ff, rp⟩
            refine ⟨by rw [List.length_set]; exact C.len, fun q u e => ?_, C.lo.trans ff, fun q u e => ?_, C.keep, C.live, fun j t2 h2 => ?_, fun j l t2 u q h1 h2 h3 h4 h5 h6 => ?_, a.mono _ _ ff C.ctx⟩
            · by_cases hq : q = p
              · subst hq; rw [upd_same] at e; cases e; exact ho
              · rw [upd_ne hq] at e; exact C.le _ _ e
            · by_cases hq : q = p
              · subst hq
                exact m.elim (fun m => .inr (.inr m)) fun m => .inr (.inl m)
              · rw [upd_ne hq] at e; exact C.new _ _ e
            · rcases getElem?_set_cases h2 with ⟨rfl, e, _⟩ | ⟨ne, h2⟩
              · cases e
                exact ⟨_, hx', rp⟩
              · obtain ⟨v2, hv2, ok2⟩ := C.sl j t2 h2
                refine ⟨v2, hv2, ok2.mono ff fun q u hs e hq hf2 => ⟨hq, ?_⟩⟩
                subst e
                rw [upd_ne fun z => ?_]
                · exact hf2
                · subst z
                  exact ne (C.sep i j _ _ q h h2 rfl hs hx' hv2)
            · rcases getElem?_set_cases h1 with ⟨rfl, e, _⟩ | ⟨_, h1⟩
              · cases e
                cases h3
              · rcases getElem?_set_cases h2 with ⟨rfl, e, _⟩ | ⟨_, h2⟩
                · cases e
                  cases h4
                · exact C.sep j l t2 u q h1 h2 h3 h4 h5 h6
/-- a held value outlives what follows -/
theorem VOk.later {H2 F2 : Hp} {E2 : Sv} (h : VOk K a B E σ H F x vl.hold) (ff : Same F F2) : VOk K a B E2 σ H2 F2 x vl.hold := by
  cases vl with
  | dv d' => exact Rep.mono ff _ _ h
  | fr d' => exact Rep.mono ff _ _ (show Rep K a F d' x from h)
  | loc i => exact h
/-- the ground laid anew here -/
def Bd.re (B : Bd) (E : Sv) (σ : L2.St) (H F : Hp) : Bd := ⟨H, F, fun p => ∃ (i : Nat) (s : Sl), E[i]? = some (some s) ∧ s.owned = true ∧ σ[i]? = some (some (.ref p)), B.P⟩
theorem Cc.re (C : Cc K a B E σ H F) : Cc K a (B.re E σ H F) E σ H F := by
  refine ⟨C.len, C.le, Same.refl _, fun p o e => .inl ⟨o, e⟩, fun p o e _ => e, fun p o e => ⟨o, e⟩, fun i s h => ?_, C.sep, C.ctx⟩
  obtain ⟨v, hv, ok⟩ := C.sl i s h
  refine ⟨v, hv, ?_⟩
  cases s with
  | exn c d => trivial
  | val k d =>
    cases k with
    | pure => exact ok
    | own => obtain ⟨p, rfl, f, m, t⟩ := ok; exact ⟨p, rfl, f, .inl ⟨i, _, h, rfl, hv⟩, t⟩
    | prm => obtain ⟨rfl, f, m, t⟩ := ok; exact ⟨rfl, f, .inl ⟨i, _, h, rfl, hv⟩, t⟩
theorem Cc.mOf (C : Cc K a B E σ H F) (h : (B.re E σ H F).M p) : B.M p ∨ B.H0 p = none := by
  obtain ⟨i, s, h1, h2, h3⟩ := h
  obtain ⟨q, d, e, _, _, _, m⟩ := C.own_in h1 h2
  rw [h3] at e
  cases e
  exact m
theorem Cc.noneOf (C : Cc K a B E σ H F) (h : H p = none) : B.H0 p = none := by
  cases e : B.H0 p with
  | none => rfl
  | some o =>
    obtain ⟨o', h2⟩ := C.live _ _ e
    rw [h] at h2
    cases h2
theorem Cc.un {E2 : Sv} {σ2 : L2.St} {H2 F2 : Hp} (C : Cc K a B E σ H F) (C2 : Cc K a (B.re E σ H F) E2 σ2 H2 F2) : Cc K a B E2 σ2 H2 F2 := by
  have mm : ∀ p, ((B.re E σ H F).M p ∨ (B.re E σ H F).H0 p = none) → (B.M p ∨ B.H0 p = none) := fun p h => h.elim C.mOf fun z => .inr (C.noneOf z)
  refine ⟨C2.len, C2.le, C.lo.trans C2.lo, fun p o e => ?_, fun p o e nm => ?_, fun p o e => ?_, fun i s h => ?_, C2.sep, C2.ctx⟩
  · rcases C2.new p o e with ⟨o', h⟩ | h | h
    · exact C.new p o' h
    · exact .inr (.inl (C.noneOf h))
    · exact (C.mOf h).elim (fun z => .inr (.inr z)) fun z => .inr (.inl z)
  · have h1 := C.keep p o e nm
    refine C2.keep p o h1 fun hm => ?_
    rcases C.mOf hm with z | z
    · exact nm z
    · rw [e] at z; cases z
  · obtain ⟨o1, h1⟩ := C.live p o e
    exact C2.live p o1 h1
  · obtain ⟨v, hv, ok⟩ := C2.sl i s h
    refine ⟨v, hv, ?_⟩
    cases s with
    | exn c d => trivial
    | val k d =>
      cases k with
      | pure => exact ok
      | own => obtain ⟨p, rfl, f, m, t⟩ := ok; exact ⟨p, rfl, f, mm _ m, t⟩
      | prm => obtain ⟨rfl, f, m, t⟩ := ok; exact ⟨rfl, f, mm _ m, t⟩
/-- a value, behind what follows -/
theorem VOk.pastS {E2 : Sv} {σ2 : L2.St} {H2 F2 : Hp} (C : Cc K a B E σ H F) (h : VOk K a B E σ H F x vl) (C2 : Cc K a (B.re E σ H F) E2 σ2 H2 F2) (ff : Same F F2) (nl : ∀ i, vl ≠ .loc i) : VOk K a B E2 σ2 H2 F2 x vl := by
  cases vl with
  | dv d => exact Rep.mono ff _ _ h
  | loc i => exact (nl i rfl).elim
  | fr d =>
    obtain ⟨p, rfl, f, m, t, n⟩ := h
    obtain ⟨o, ho⟩ := t.some
    have nm : ¬ (B.re E σ H F).M p := fun ⟨i, s, h1, h2, h3⟩ => n i s h1 h2 h3
    have h2 : H2 p = some o := C2.keep p o ho nm
    refine ⟨p, rfl, ?_, m, t.mono ff (ho.trans h2.symm), fun i s h1 h2 h3 => ?_⟩
    · cases e : F2 p with
      | none => rfl
      | some o2 =>
        rcases C2.new p o2 e with ⟨o', h⟩ | h | h
        · rw [show F p = some o' from h] at f; cases f
        · rw [show H p = none from h] at ho; cases ho
        · exact (nm h).elim
    · obtain ⟨q, d2, e, _, _, _, m2⟩ := C2.own_in h1 h2
      rw [h3] at e
      cases e
      rcases m2 with m2 | m2
      · exact nm m2
      · rw [show H p = none from m2] at ho; cases ho
theorem VOk.past {E2 : Sv} {H2 F2 : Hp} (C : Cc K a B E σ H F) (h : VOk K a B E σ H F x vl) (C2 : Cc K a (B.re E σ H F) E2 σ H2 F2) (ff : Same F F2) : VOk K a B E2 σ H2 F2 x vl := by
  cases vl with
  | dv d => exact Rep.mono ff _ _ h
  | loc i => exact h
  | fr d =>
    obtain ⟨p, rfl, f, m, t, n⟩ := h
    obtain ⟨o, ho⟩ := t.some
    have nm : ¬ (B.re E σ H F).M p := fun ⟨i, s, h1, h2, h3⟩ => n i s h1 h2 h3
    have h2 : H2 p = some o := C2.keep p o ho nm
    refine ⟨p, rfl, ?_, m, t.mono ff (ho.trans h2.symm), fun i s h1 h2 h3 => ?_⟩
    · cases e : F2 p with
      | none => rfl
      | some o2 =>
        rcases C2.new p o2 e with ⟨o', h⟩ | h | h
        · rw [show F p = some o' from h] at f; cases f
        · rw [show H p = none from h] at ho; cases ho
        · exact (nm h).elim
    · obtain ⟨q, d2, e, _, _, _, m2⟩ := C2.own_in h1 h2
      rw [h3] at e
      cases e
      rcases m2 with m2 | m2
      · exact nm m2
      · rw [show H p = none from m2] at ho; cases ho
theorem VOk.un (C : Cc K a B E σ H F) {E2 : Sv} {H2 F2 : Hp} (h : VOk K a (B.re E σ H F) E2 σ H2 F2 x vl) : VOk K a B E2 σ H2 F2 x vl := by
  cases vl with
  | dv d => exact h
  | loc i => exact h
  | fr d =>
    obtain ⟨p, rfl, f, m, t, n⟩ := h
    exact ⟨p, rfl, f, C.noneOf m, t, n⟩
/-- what an operation yields -/
def ResOk (K : PySem.W.Frag) (a : Adr) (H H' F' : Hp) (v : V) (d : D) : Bool → Prop
  | true => ∃ p, v = .ref p ∧ H p = none ∧ F' p = none ∧ Top K a H' F' p d
  | false => Rep K a F' d v
def mkV (d : D) : Bool → Vl
  | true => .fr d
  | false => .dv d
theorem Cc.res {b : Bool} (C : Cc K a B E σ H F) (g : Gr H F H' F') (r : ResOk K a H H' F' x d b) : VOk K a B E σ H' F' x (mkV d b) := by
  cases b with
  | false => exact r
  | true =>
    obtain ⟨p, rfl, h, f, t⟩ := r
    obtain ⟨_, h2, h3⟩ := C.fresh h
    exact ⟨p, rfl, f, h2, t, h3⟩
end
end TV

set_option Elab.async false
set_option linter.all false
set_option maxRecDepth 100000
set_option maxHeartbeats 4000000
/-! Evaluators of expressions, and what they tell of a reading. -/
namespace TV
open PySem PySem.Spec PyProof.Rows L2 TC

inductive Rs (α : Type) where
  | ok (v : α) (E : Sv) | ex (c : En) (d : D) (E : Sv) | er
def Rs.bind {α β : Type} (r : Rs α) (f : α → Sv → Rs β) : Rs β := match r with
  | .ok v E => f v E
  | .ex c d E => .ex c d E
  | .er => .er
def At (K : PySem.W.Frag) (a : Adr) (W : WX) {α β : Type} (ok : Bd → Sv → L2.St → Hp → Hp → β → α → Prop) (B : Bd) (σ : L2.St) (F : Hp) (t : (β → Hp → Prop) → Prop) (r : Rs α) : Prop := match r with
  | .ok v E1 => ∀ Q : β → Hp → Prop, (∀ x H' F', Cc K a B E1 σ H' F' → Same F F' → ok B E1 σ H' F' x v → Q x H') → t Q
  | .ex c d E1 => ∀ Q : β → Hp → Prop, (∀ dd H' F', Cc K a B E1 σ H' F' → Same F F' → ExOk K a F' c d dd → W (.ref (a.en c)) (some dd) σ H') → t Q
  | .er => True
abbrev OkV (K : PySem.W.Frag) (a : Adr) : Bd → Sv → L2.St → Hp → Hp → V → Vl → Prop := fun B E σ H F x v => VOk K a B E σ H F x v
abbrev OkEq {α : Type} : Bd → Sv → L2.St → Hp → Hp → α → α → Prop := fun _ _ _ _ _ x v => x = v
abbrev OkA (K : PySem.W.Frag) (a : Adr) : Bd → Sv → L2.St → Hp → Hp → List V → List Vl → Prop := fun B E σ H F x v => AllV K a B E σ H F x v
section
variable (K : PySem.W.Frag) (a : Adr) (W : WX)
def Snd (t : TE) (ev : Sv → Rs Vl) : Prop := ∀ (B : Bd) (E : Sv) (σ : L2.St) (H F : Hp), Cc K a B E σ H F → At K a W (OkV K a) B σ F (t σ H) (ev E)
def SndT (t : TT) (ev : Sv → Rs Bool) : Prop := ∀ (B : Bd) (E : Sv) (σ : L2.St) (H F : Hp), Cc K a B E σ H F → At K a W OkEq B σ F (t σ H) (ev E)
def SndA (t : TA) (ev : Sv → Rs (List Vl)) : Prop := ∀ (B : Bd) (E : Sv) (σ : L2.St) (H F : Hp), Cc K a B E σ H F → At K a W (OkA K a) B σ F (t σ H) (ev E)
def SndO (t : TO) (ev : Sv → Rs (Option Int)) : Prop := ∀ (B : Bd) (E : Sv) (σ : L2.St) (H F : Hp), Cc K a B E σ H F → At K a W OkEq B σ F (t σ H) (ev E)
end
section
variable {K : PySem.W.Frag} {a : Adr} {W : WX} {B : Bd} {E E1 : Sv} {σ : L2.St} {H F H' F' : Hp} {x y v : V} {d : D} {p : Addr} {vl : Vl} {i j : Nat}
section
variable {α β γ δ : Type} {ok : Bd → Sv → L2.St → Hp → Hp → β → α → Prop} {ok' : Bd → Sv → L2.St → Hp → Hp → δ → γ → Prop}
theorem At.low {t : (β → Hp → Prop) → Prop} {r : Rs α} (s : Same F F') (h : At K a W ok B σ F' t r) : At K a W ok B σ F t r := by
  cases r with
  | er => trivial
  | ok v E1 => exact fun Q k => h Q fun x H2 F2 C s2 o => k x H2 F2 C (s.trans s2) o
  | ex c d E1 => exact fun Q k => h Q fun dd H2 F2 C s2 o => k dd H2 F2 C (s.trans s2) o
theorem At.bind {t : (β → Hp → Prop) → Prop} {k : β → Hp → (δ → Hp → Prop) → Prop} {r : Rs α} {f : α → Sv → Rs γ} (h : At K a W ok B σ F t r)
    (hk : ∀ v E1 x H1 F1, r = .ok v E1 → Cc K a B E1 σ H1 F1 → Same F F1 → ok B E1 σ H1 F1 x v → At K a W ok' B σ F1 (k x H1) (f v E1)) : At K a W ok' B σ F (fun Q => t fun x H1 => k x H1 Q) (r.bind f) := by
  cases r with
  | er => trivial
  | ex c d E1 => exact fun Q q => h _ q
  | ok v E1 =>
    show At K a W ok' B σ F (fun Q => t fun x H1 => k x H1 Q) (f v E1)
    have hk' := fun x H1 F1 C s o => hk v E1 x H1 F1 rfl C s o
    generalize f v E1 = r at hk'
    cases r with
    | er => trivial
    | ok w E2 => exact fun Q q => h _ fun x H1 F1 C s o => hk' x H1 F1 C s o Q fun z H2 F2 C2 s2 o2 => q z H2 F2 C2 (s.trans s2) o2
    | ex c d E2 => exact fun Q q => h _ fun x H1 F1 C s o => hk' x H1 F1 C s o Q fun z H2 F2 C2 s2 o2 => q z H2 F2 C2 (s.trans s2) o2
theorem At.pure {z : β} {v : α} (C : Cc K a B E σ H F) (o : ok B E σ H F z v) : At K a W ok B σ F (fun Q => Q z H) (.ok v E) := fun Q q => q z H F C (Same.refl _) o
end
/-! ### names, constants -/
def eVar (i : Nat) : Sv → Rs Vl := fun E => match E[i]? with
  | some (some (.val .pure d)) => .ok (.dv d) E
  | some (some (.val .own _)) => .ok (.loc i) E
  | some (some (.val .prm _)) => .ok (.loc i) E
  | _ => .er
theorem snd_var : Snd K a W (tVar i) (eVar i) := by
  intro B E σ H F C
  unfold eVar
  cases h : E[i]? with
  | none => trivial
  | some o =>
    cases o with
    | none => trivial
    | some s =>
      cases s with
      | exn c d => trivial
      | val k d =>
        obtain ⟨v, hv, ok⟩ := C.sl i _ h
        cases k with
        | pure => exact fun Q q => ⟨v, hv, q v H F C (Same.refl _) ok⟩
        | own => exact fun Q q => ⟨v, hv, q v H F C (Same.refl _) hv⟩
        | prm => exact fun Q q => ⟨v, hv, q v H F C (Same.refl _) hv⟩
def eC (d : D) : Sv → Rs Vl := fun E => .ok (.dv d) E
theorem snd_c (h : ∀ F, Rep K a F d v) : Snd K a W (tC v) (eC d) := fun B E σ H F C Q q => q v H F C (Same.refl _) (h F)
/-! ### what is looked at -/
theorem View.flat (h : View K a H F x d) (hd : ∀ p, ¬ Top K a H F p d) : Rep K a F d x := h.elim id fun ⟨p, _, t⟩ => (hd p t).elim
theorem View.non (h : View K a H F x .non) : x = .non := by have := h.flat fun _ t => t; rwa [Rep] at this
theorem View.int {i : Int} (h : View K a H F x (.int i)) : x = .int i := by have := h.flat fun _ t => t; rwa [Rep] at this
theorem View.bl {i : Bool} (h : View K a H F x (.bl i)) : x = .bl i := by have := h.flat fun _ t => t; rwa [Rep] at this
theorem View.str {i : Str} (h : View K a H F x (.str i)) : x = .str i := by have := h.flat fun _ t => t; rwa [Rep] at this
theorem View.ty {i : String} (h : View K a H F x (.ty i)) : x = .ty i := by have := h.flat fun _ t => t; rwa [Rep] at this
theorem View.tup {ds : List D} (l : Same F H) (h : View K a H F x (.tup ds)) : ∃ p vs, x = .ref p ∧ SqT K H p vs ∧ Reps K a F ds vs := by
  have := h.flat fun _ t => t
  rw [Rep] at this
  obtain ⟨p, vs, e, s, r⟩ := this
  exact ⟨p, vs, e, Same.seqT l s, r⟩
theorem View.lst {ds : List D} (l : Same F H) (h : View K a H F x (.lst ds)) : ∃ p vs, x = .ref p ∧ H p = some (.lst vs) ∧ Reps K a F ds vs := by
  rcases h with h | ⟨p, e, vs, s, r⟩
  · rw [Rep] at h
    obtain ⟨p, vs, e, s, r⟩ := h
    exact ⟨p, vs, e, l _ _ s, r⟩
  · exact ⟨p, vs, e, s, r⟩
theorem View.scr {ns : List Int} (l : Same F H) (h : View K a H F x (.scr ns)) : ∃ p, x = .ref p ∧ SqL K H p (ns.map V.int) := by
  have := h.flat fun _ t => t
  rw [Rep] at this
  obtain ⟨p, e, s⟩ := this
  exact ⟨p, e, l.seq s⟩
theorem View.obj {c : Cn} {ds : List D} (l : Same F H) (h : View K a H F x (.obj c ds)) : ∃ p dx vs, x = .ref p ∧ H p = some (.ins (a.cn c) dx ((flds c).zip vs)) ∧ vs.length ≤ (flds c).length ∧ Reps K a F ds vs := by
  rcases h with h | ⟨p, e, dx, vs, s, n, r⟩
  · rw [Rep] at h
    obtain ⟨p, dx, vs, e, s, n, r⟩ := h
    exact ⟨p, dx, vs, e, l _ _ s, n, r⟩
  · exact ⟨p, dx, vs, e, s, n, r⟩
theorem View.dct {ks ds : List D} (l : Same F H) (h : View K a H F x (.dct ks ds)) : ∃ p vs, x = .ref p ∧ Reps K a F ds vs ∧ ((∃ kk, D.keys ks = some kk ∧ kk.length = vs.length ∧ H p = some (.dK (kk.zip vs))) ∨ (∃ kk, ks ≠ [] ∧ D.tkeys ks = some kk ∧ kk.length = vs.length ∧ H p = some (.dT (kk.zip vs)))) := by
  rcases h with h | ⟨p, e, vs, r, s⟩
  · rw [Rep] at h
    obtain ⟨p, vs, e, r, s⟩ := h
    exact ⟨p, vs, e, r, s.elim (fun ⟨kk, k1, k2, k3⟩ => .inl ⟨kk, k1, k2, l _ _ k3⟩) fun ⟨kk, k0, k1, k2, k3⟩ => .inr ⟨kk, k0, k1, k2, l _ _ k3⟩⟩
  · exact ⟨p, vs, e, r, s⟩
theorem View.mono (s : Same F F') (hh : Same H H') (h : View K a H F x d) : View K a H' F' x d := h.elim (fun z => .inl (z.mono s)) fun ⟨p, e, t⟩ => .inr ⟨p, e, by
  obtain ⟨o, ho⟩ := t.some
  exact t.mono s (ho.trans (hh _ _ ho).symm)⟩
inductive Views (K : PySem.W.Frag) (a : Adr) (H F : Hp) : List V → List D → Prop
  | nil : Views K a H F [] []
  | cons {x : V} {d : D} {xs : List V} {ds : List D} : View K a H F x d → Views K a H F xs ds → Views K a H F (x :: xs) (d :: ds)
def getAll (E : Sv) : List Vl → Option (List D)
  | [] => some []
  | v :: vs => match v.get E, getAll E vs with
    | some d, some ds => some (d :: ds)
    | _, _ => none
theorem Cc.views (C : Cc K a B E σ H F) : ∀ {vs : List Vl} {xs : List V} {ds : List D}, AllV K a B E σ H F xs vs → getAll E vs = some ds → Views K a H F xs ds
  | [], _, _, h, e => by
    cases h
    cases e
    exact .nil
  | v :: vs, _, _, h, e => by
    unfold getAll at e
    cases q1 : v.get E with
    | none => rw [q1] at e; cases e
    | some d =>
      cases q2 : getAll E vs with
      | none => rw [q1, q2] at e; cases e
      | some ds =>
        rw [q1, q2] at e
        cases e
        cases h with
        | cons h1 h2 _ => exact .cons (C.get_rep h1 q1) (C.views h2 q2)
/-! ### operations -/
/-- an operation of two values, as data -/
def ROp (K : PySem.W.Frag) (a : Adr) (r : R2) (f : D → D → Option (D × Bool)) : Prop := ∀ (H F : Hp) (x y : V) (dx dy d : D) (b : Bool), Same F H → View K a H F x dx → View K a H F y dy → f dx dy = some (d, b) →
  ∀ Q : VK, (∀ v H' F', Gr H F H' F' → ResOk K a H H' F' v d b → Q v H') → r x y H Q
def RUn (K : PySem.W.Frag) (a : Adr) (r : V → Hp → VK → Prop) (f : D → Option (D × Bool)) : Prop := ∀ (H F : Hp) (x : V) (dx d : D) (b : Bool), Same F H → View K a H F x dx → f dx = some (d, b) →
  ∀ Q : VK, (∀ v H' F', Gr H F H' F' → ResOk K a H H' F' v d b → Q v H') → r x H Q
def RCall (K : PySem.W.Frag) (a : Adr) (r : List V → Hp → VK → Prop) (f : List D → Option (D × Bool)) : Prop := ∀ (H F : Hp) (xs : List V) (ds : List D) (d : D) (b : Bool), Same F H → Views K a H F xs ds → f ds = some (d, b) →
  ∀ Q : VK, (∀ v H' F', Gr H F H' F' → ResOk K a H H' F' v d b → Q v H') → r xs H Q
def ofRes (r : Option (D × Bool)) (E : Sv) : Rs Vl := match r with
  | some (d, b) => .ok (mkV d b) E
  | none => .er
theorem At.res {t : VK → Prop} {r : Option (D × Bool)} (C : Cc K a B E σ H F) (h : ∀ d b, r = some (d, b) → ∀ Q : VK, (∀ v H' F', Gr H F H' F' → ResOk K a H H' F' v d b → Q v H') → t Q) : At K a W (OkV K a) B σ F t (ofRes r E) := by
  cases r with
  | none => trivial
  | some z =>
    obtain ⟨d, b⟩ := z
    exact fun Q q => h d b rfl Q fun v H' F' g o => q v H' F' (C.grow g) g.ff (C.res g o)
def op2 (f : D → D → Option (D × Bool)) (x y : Option D) (E : Sv) : Rs Vl := match x, y with
  | some x, some y => ofRes (f x y) E
  | _, _ => .er
def eOp (f : D → D → Option (D × Bool)) (ea eb : Sv → Rs Vl) : Sv → Rs Vl := fun E => (ea E).bind fun v E1 => (eb E1).bind fun w E2 => op2 f (v.hold.get E2) (w.get E2) E2
theorem snd_op {r : R2} {f : D → D → Option (D × Bool)} {ta tb : TE} {ea eb : Sv → Rs Vl} (hr : ROp K a r f) (ha : Snd K a W ta ea) (hb : Snd K a W tb eb) : Snd K a W (tOp r ta tb) (eOp f ea eb) := by
  intro B E σ H F C
  refine At.bind (ok' := OkV K a) (k := fun x H1 Q => tb σ H1 fun y H2 => r x y H2 Q) (ha B E σ H F C) fun v E1 x H1 F1 _ C1 s1 o1 => ?_
  obtain ⟨F1', C1', s1', o1'⟩ := C1.hold o1
  refine (At.bind (ok' := OkV K a) (k := fun y H2 Q => r x y H2 Q) (hb B E1 σ H1 F1' C1') fun w E2 y H2 F2 _ C2 s2 o2 => ?_).low s1'
  have o1'' := o1'.later (E2 := E2) (H2 := H2) s2
  unfold op2
  cases e1 : v.hold.get E2 with
  | none => trivial
  | some dx =>
    cases e2 : w.get E2 with
    | none => trivial
    | some dy => exact C2.le |> fun l => At.res C2 fun d b e Q q => hr H2 F2 x y dx dy d b l (C2.get_rep o1'' e1) (C2.get_rep o2 e2) e Q q
def eUn (f : D → Option (D × Bool)) (ea : Sv → Rs Vl) : Sv → Rs Vl := fun E => (ea E).bind fun v E1 => match v.get E1 with
  | some x => ofRes (f x) E1
  | none => .er
theorem snd_un {r : V → Hp → VK → Prop} {f : D → Option (D × Bool)} {ta : TE} {ea : Sv → Rs Vl} (hr : RUn K a r f) (ha : Snd K a W ta ea) : Snd K a W (tUn r ta) (eUn f ea) := by
  intro B E σ H F C
  refine At.bind (ok' := OkV K a) (k := fun x H1 Q => r x H1 Q) (ha B E σ H F C) fun v E1 x H1 F1 _ C1 s1 o1 => ?_
  cases e1 : v.get E1 with
  | none => trivial
  | some dx => exact At.res C1 fun d b e Q q => hr H1 F1 x dx d b C1.le (C1.get_rep o1 e1) e Q q
/-! ### arguments -/
def aNil : Sv → Rs (List Vl) := fun E => .ok [] E
def aCons (e : Sv → Rs Vl) (es : Sv → Rs (List Vl)) : Sv → Rs (List Vl) := fun E => (e E).bind fun v E1 => (es E1).bind fun vs E2 => .ok (v :: vs) E2
theorem snd_anil : SndA K a W tNil aNil := fun B E σ H F C Q q => q [] H F C (Same.refl _) .nil
theorem At.reB {α β : Type} {ok ok' : Bd → Sv → L2.St → Hp → Hp → β → α → Prop} {t : (β → Hp → Prop) → Prop} {r : Rs α} (C : Cc K a B E σ H F) (h : At K a W ok (B.re E σ H F) σ F t r)
    (ho : ∀ v E1 x H1 F1, Cc K a (B.re E σ H F) E1 σ H1 F1 → Same F F1 → ok (B.re E σ H F) E1 σ H1 F1 x v → ok' B E1 σ H1 F1 x v) : At K a W ok' B σ F t r := by
  cases r with
  | er => trivial
  | ok v E1 => exact fun Q k => h Q fun x H' F' C' s o => k x H' F' (C.un C') s (ho v E1 x H' F' C' s o)
  | ex c d E1 => exact fun Q k => h Q fun dd H' F' C' s o => k dd H' F' (C.un C') s o
theorem frAs_new (C : Cc K a B E σ H F) {E2 : Sv} {H2 F2 : Hp} : ∀ {xs : List V} {vs : List Vl}, AllV K a (B.re E σ H F) E2 σ H2 F2 xs vs → ∀ p ∈ frAs xs vs, H p = none
  | _, _, .nil, p, hp => by cases hp
  | _, _, .cons (x := x) (v := v) (xs := xs) (vs := vs) h t _, p, hp => by
    unfold frAs at hp
    cases e : frA x v with
    | none =>
      rw [e] at hp
      exact frAs_new C t p hp
    | some q =>
      rw [e] at hp
      cases hp with
      | tail _ hp => exact frAs_new C t p hp
      | head =>
        cases v with
        | dv d => cases x <;> cases e
        | loc i => cases x <;> cases e
        | fr d =>
          obtain ⟨q2, rfl, _, m, _⟩ := h
          cases e
          exact m
theorem AllV.un (C : Cc K a B E σ H F) {E2 : Sv} {H2 F2 : Hp} : ∀ {xs : List V} {vs : List Vl}, AllV K a (B.re E σ H F) E2 σ H2 F2 xs vs → AllV K a B E2 σ H2 F2 xs vs
  | _, _, .nil => .nil
  | _, _, .cons h t d => .cons (h.un C) (t.un C) d
theorem snd_acons {te : TE} {ts : TA} {e : Sv → Rs Vl} {es : Sv → Rs (List Vl)} (h : Snd K a W te e) (hs : SndA K a W ts es) : SndA K a W (tCons te ts) (aCons e es) := by
  intro B E σ H F C
  refine At.bind (ok' := OkA K a) (k := fun x H1 Q => ts σ H1 fun xs H2 => Q (x :: xs) H2) (h B E σ H F C) fun v E1 x H1 F1 _ C1 s1 o1 => ?_
  refine At.bind (ok := fun B E2 σ H2 F2 xs vs => AllV K a B E2 σ H2 F2 xs vs ∧ (∀ p ∈ frAs xs vs, H1 p = none) ∧ VOk K a B E2 σ H2 F2 x v) (ok' := OkA K a) (k := fun xs H2 Q => Q (x :: xs) H2)
    (At.reB C1 (hs (B.re E1 σ H1 F1) E1 σ H1 F1 C1.re) fun vs E2 xs H2 F2 C2 s2 o2 => ⟨o2.un C1, frAs_new C1 o2, VOk.past C1 o1 C2 s2⟩) fun vs E2 xs H2 F2 _ C2 s2 o2 => At.pure (ok := OkA K a) C2 (.cons o2.2.2 o2.1 fun p hp hm => ?_)
  have hn := o2.2.1 p hm
  cases v with
  | dv d => cases x <;> cases hp
  | loc i => cases x <;> cases hp
  | fr d =>
    obtain ⟨q2, rfl, _, _, t, _⟩ := o1
    cases hp
    obtain ⟨o, ho⟩ := t.some
    rw [hn] at ho
    cases ho
/-! ### calls of built-ins -/
def eCB (f : List D → Option (D × Bool)) (es : Sv → Rs (List Vl)) : Sv → Rs Vl := fun E => (es E).bind fun vs E1 => match getAll E1 vs with
  | some ds => ofRes (f ds) E1
  | none => .er
theorem snd_cb {r : List V → Hp → VK → Prop} {f : List D → Option (D × Bool)} {ts : TA} {es : Sv → Rs (List Vl)} (hr : RCall K a r f) (hs : SndA K a W ts es) : Snd K a W (tCB r ts) (eCB f es) := by
  intro B E σ H F C
  refine At.bind (ok' := OkV K a) (k := fun xs H1 Q => r xs H1 Q) (hs B E σ H F C) fun vs E1 xs H1 F1 _ C1 s1 o1 => ?_
  cases e1 : getAll E1 vs with
  | none => trivial
  | some ds => exact At.res C1 fun d b e Q q => hr H1 F1 xs ds d b C1.le (C1.views o1 e1) e Q q
/-! ### tests -/
def eTB (e : Sv → Rs Vl) : Sv → Rs Bool := fun E => (e E).bind fun v E1 => match v with
  | .dv (.bl b) => .ok b E1
  | _ => .er
theorem tb_core {B : Bd} {E : Sv} {σ : L2.St} {H F : Hp} {te : TE} {e : Sv → Rs Vl} (h : Snd K a W te e) (C : Cc K a B E σ H F) : At K a W OkEq B σ F (fun Q => te σ H fun x H' => ∃ k, x = .bl k ∧ Q k H') (eTB e E) := by
  refine At.bind (ok' := OkEq) (k := fun x H' Q => ∃ k, x = .bl k ∧ Q k H') (h B E σ H F C) fun v E1 x H1 F1 _ C1 s1 o1 => ?_
  cases v with
  | fr d => trivial
  | loc i => trivial
  | dv d =>
    cases d with
    | bl b =>
      have e : x = .bl b := by have := o1; dsimp only [OkV, VOk] at this; rwa [Rep] at this
      exact fun Q q => ⟨b, e, q b H1 F1 C1 (Same.refl _) rfl⟩
    | _ => trivial
theorem snd_tB {te : TE} {e : Sv → Rs Vl} (h : Snd K a W te e) : SndT K a W (tB te) (eTB e) := fun B E σ H F C => tb_core h C
theorem snd_tTest {te : TE} {e : Sv → Rs Vl} (h : Snd K a W te e) : SndT K a W (tTest te) (eTB e) := fun B E σ H F C => tb_core h C
def eTNot (c : Sv → Rs Bool) : Sv → Rs Bool := fun E => (c E).bind fun b E1 => .ok (!b) E1
theorem snd_tnot {t : TT} {c : Sv → Rs Bool} (h : SndT K a W t c) : SndT K a W (tNot t) (eTNot c) := fun B E σ H F C =>
  At.bind (ok' := OkEq) (k := fun b H1 Q => Q (!b) H1) (h B E σ H F C) fun v E1 x H1 F1 _ C1 s1 o1 => by
    have o1 : x = v := o1
    subst o1
    exact At.pure C1 rfl
def eTAnd (c1 c2 : Sv → Rs Bool) : Sv → Rs Bool := fun E => (c1 E).bind fun b E1 => match b with
  | true => c2 E1
  | false => .ok false E1
theorem snd_tand {t1 t2 : TT} {c1 c2 : Sv → Rs Bool} (h1 : SndT K a W t1 c1) (h2 : SndT K a W t2 c2) : SndT K a W (tAnd t1 t2) (eTAnd c1 c2) := fun B E σ H F C =>
  At.bind (ok' := OkEq) (k := fun b H1 Q => if b = true then t2 σ H1 Q else Q false H1) (h1 B E σ H F C) fun v E1 x H1 F1 _ C1 s1 o1 => by
    have o1 : x = v := o1
    subst o1
    cases x with
    | true => exact h2 B E1 σ H1 F1 C1
    | false => exact At.pure C1 rfl
def eTOr (c1 c2 : Sv → Rs Bool) : Sv → Rs Bool := fun E => (c1 E).bind fun b E1 => match b with
  | true => .ok true E1
  | false => c2 E1
theorem snd_tor {t1 t2 : TT} {c1 c2 : Sv → Rs Bool} (h1 : SndT K a W t1 c1) (h2 : SndT K a W t2 c2) : SndT K a W (tOr t1 t2) (eTOr c1 c2) := fun B E σ H F C =>
  At.bind (ok' := OkEq) (k := fun b H1 Q => if b = true then Q true H1 else t2 σ H1 Q) (h1 B E σ H F C) fun v E1 x H1 F1 _ C1 s1 o1 => by
    have o1 : x = v := o1
    subst o1
    cases x with
    | true => exact At.pure C1 rfl
    | false => exact h2 B E1 σ H1 F1 C1
/-! ### and, or, not as values; the conditional expression -/
def eAnd (ea eb : Sv → Rs Vl) : Sv → Rs Vl := fun E => (eTB ea E).bind fun b E1 => match b with
  | true => eb E1
  | false => .ok (.dv (.bl false)) E1
theorem rep_bl {b : Bool} : Rep K a F (.bl b) (.bl b) := by rw [Rep]
theorem rep_int {b : Int} : Rep K a F (.int b) (.int b) := by rw [Rep]
theorem rep_str {b : Str} : Rep K a F (.str b) (.str b) := by rw [Rep]
theorem rep_non : Rep K a F .non .non := by rw [Rep]
theorem rep_ty {n : String} : Rep K a F (.ty n) (.ty n) := by rw [Rep]
theorem rep_cls {c : Cn} : Rep K a F (.cls c) (.ref (a.cn c)) := by rw [Rep]
theorem At.monoT {α β : Type} {ok : Bd → Sv → L2.St → Hp → Hp → β → α → Prop} {t t' : (β → Hp → Prop) → Prop} {r : Rs α} (h : At K a W ok B σ F t r) (ht : ∀ Q, t Q → t' Q) : At K a W ok B σ F t' r := by
  cases r with
  | er => trivial
  | ok v E1 => exact fun Q k => ht _ (h Q k)
  | ex c d E1 => exact fun Q k => ht _ (h Q k)
theorem snd_and {ta tb : TE} {ea eb : Sv → Rs Vl} (ha : Snd K a W ta ea) (hb : Snd K a W tb eb) : Snd K a W (tAndV ta tb) (eAnd ea eb) := fun B E σ H F C => by
  refine At.bind (ok := OkEq) (ok' := OkV K a) (t := fun Q => ta σ H fun x H' => ∃ k, x = .bl k ∧ Q k H') (k := fun c H1 Q => if c = true then tb σ H1 Q else Q (.bl false) H1) (tb_core ha C) fun v E1 x H1 F1 _ C1 s1 o1 => ?_
  have o1 : x = v := o1
  subst o1
  cases x with
  | true => exact hb B E1 σ H1 F1 C1
  | false => exact At.pure (ok := OkV K a) C1 (rep_bl (K := K) (a := a) (F := F1))
def eOr (ea eb : Sv → Rs Vl) : Sv → Rs Vl := fun E => (eTB ea E).bind fun b E1 => match b with
  | true => .ok (.dv (.bl true)) E1
  | false => eb E1
theorem snd_or {ta tb : TE} {ea eb : Sv → Rs Vl} (ha : Snd K a W ta ea) (hb : Snd K a W tb eb) : Snd K a W (tOrV ta tb) (eOr ea eb) := fun B E σ H F C => by
  refine At.bind (ok := OkEq) (ok' := OkV K a) (t := fun Q => ta σ H fun x H' => ∃ k, x = .bl k ∧ Q k H') (k := fun c H1 Q => if c = true then Q (.bl true) H1 else tb σ H1 Q) (tb_core ha C) fun v E1 x H1 F1 _ C1 s1 o1 => ?_
  have o1 : x = v := o1
  subst o1
  cases x with
  | true => exact At.pure (ok := OkV K a) C1 (rep_bl (K := K) (a := a) (F := F1))
  | false => exact hb B E1 σ H1 F1 C1
def eNot (ea : Sv → Rs Vl) : Sv → Rs Vl := fun E => (eTB ea E).bind fun b E1 => .ok (.dv (.bl (!b))) E1
theorem snd_not {ta : TE} {ea : Sv → Rs Vl} (ha : Snd K a W ta ea) : Snd K a W (tNotV ta) (eNot ea) := fun B E σ H F C => by
  refine At.bind (ok := OkEq) (ok' := OkV K a) (t := fun Q => ta σ H fun x H' => ∃ k, x = .bl k ∧ Q k H') (k := fun c H1 Q => Q (.bl (!c)) H1) (tb_core ha C) fun v E1 x H1 F1 _ C1 s1 o1 => ?_
  have o1 : x = v := o1
  subst o1
  exact At.pure (ok := OkV K a) C1 (rep_bl (K := K) (a := a) (F := F1))
def eIf (c : Sv → Rs Bool) (ea eb : Sv → Rs Vl) : Sv → Rs Vl := fun E => (c E).bind fun b E1 => match b with
  | true => ea E1
  | false => eb E1
theorem snd_if {t : TT} {c : Sv → Rs Bool} {ta tb : TE} {ea eb : Sv → Rs Vl} (h : SndT K a W t c) (ha : Snd K a W ta ea) (hb : Snd K a W tb eb) : Snd K a W (tIf t ta tb) (eIf c ea eb) := fun B E σ H F C =>
  At.bind (ok' := OkV K a) (k := fun b H1 Q => if b = true then ta σ H1 Q else tb σ H1 Q) (h B E σ H F C) fun v E1 x H1 F1 _ C1 s1 o1 => by
    have o1 : x = v := o1
    subst o1
    cases x with
    | true => exact ha B E1 σ H1 F1 C1
    | false => exact hb B E1 σ H1 F1 C1
/-- a chain x < y < z -/
def eChain (f g : D → D → Option (D × Bool)) (ea eb ec : Sv → Rs Vl) : Sv → Rs Vl := fun E => (ea E).bind fun v E1 => (eb E1).bind fun w E2 => (op2 f (v.hold.get E2) (w.get E2) E2).bind fun z E3 => match z with
  | .dv (.bl true) => (ec E3).bind fun u E4 => op2 g (w.hold.get E4) (u.get E4) E4
  | .dv (.bl false) => .ok (.dv (.bl false)) E3
  | _ => .er
theorem snd_chain {r r' : R2} {f g : D → D → Option (D × Bool)} {ta tb tc : TE} {ea eb ec : Sv → Rs Vl} (hr : ROp K a r f) (hr' : ROp K a r' g) (ha : Snd K a W ta ea) (hb : Snd K a W tb eb) (hc : Snd K a W tc ec) : Snd K a W (tChain r r' ta tb tc) (eChain f g ea eb ec) := by
  intro B E σ H F C
  refine At.bind (ok' := OkV K a) (k := fun x H1 Q => tb σ H1 fun y H2 => r x y H2 fun z H3 => ∃ k, z = .bl k ∧ (if k = true then tc σ H3 fun w' H4 => r' y w' H4 Q else Q (.bl false) H3)) (ha B E σ H F C) fun v E1 x H1 F1 _ C1 s1 o1 => ?_
  obtain ⟨F1', C1', s1', o1'⟩ := C1.hold o1
  refine (At.bind (ok' := OkV K a) (k := fun y H2 Q => r x y H2 fun z H3 => ∃ k, z = .bl k ∧ (if k = true then tc σ H3 fun w' H4 => r' y w' H4 Q else Q (.bl false) H3)) (hb B E1 σ H1 F1' C1') fun w E2 y H2 F2 _ C2 s2 o2 => ?_).low s1'
  have o1'' := o1'.later (E2 := E2) (H2 := H2) s2
  obtain ⟨F2', C2', s2', o2'⟩ := C2.hold o2
  refine (At.bind (ok := OkV K a) (ok' := OkV K a) (t := fun Q => r x y H2 Q) (k := fun z H3 Q => ∃ k, z = .bl k ∧ (if k = true then tc σ H3 fun w' H4 => r' y w' H4 Q else Q (.bl false) H3)) ?_ fun z E3 zz H3 F3 _ C3 s3 o3 => ?_).low s2'
  · unfold op2
    cases e1 : v.hold.get E2 with
    | none => trivial
    | some dx =>
      cases e2 : w.get E2 with
      | none => trivial
      | some dy =>
        have e2' : w.hold.get E2 = some dy := by cases w <;> exact e2
        exact At.res C2' fun d b e Q q => hr H2 F2' x y dx dy d b C2'.le ((C2.get_rep o1'' e1).mono s2' (Same.refl _)) (C2'.get_rep o2' e2') e Q q
  · cases z with
    | fr d => trivial
    | loc i => trivial
    | dv d =>
      cases d with
      | bl b =>
        have e : zz = .bl b := by have := o3; dsimp only [OkV, VOk] at this; rwa [Rep] at this
        subst e
        cases b with
        | false => exact fun Q q => ⟨false, rfl, q _ H3 F3 C3 (Same.refl _) (rep_bl (K := K) (a := a) (F := F3))⟩
        | true =>
          refine At.monoT (At.bind (hc B E3 σ H3 F3 C3) (k := fun w' H4 Q => r' y w' H4 Q) (f := fun u E4 => op2 g (w.hold.get E4) (u.get E4) E4) (ok' := OkV K a) fun u E4 uu H4 F4 _ C4 s4 o4 => ?_) fun Q h => ⟨true, rfl, h⟩
          have o2'' := o2'.later (E2 := E4) (H2 := H4) (s3.trans s4)
          unfold op2
          cases e1 : w.hold.get E4 with
          | none => trivial
          | some dx =>
            cases e2 : u.get E4 with
            | none => trivial
            | some dy => exact At.res C4 fun d b e Q q => hr' H4 F4 y uu dx dy d b C4.le (C4.get_rep o2'' e1) (C4.get_rep o4 e2) e Q q
      | _ => trivial
end
end TV

set_option Elab.async false
set_option linter.all false
set_option maxRecDepth 100000
set_option maxHeartbeats 4000000
/-! The operations of the language on data. -/
namespace TV
open PySem PySem.Spec PyProof.Rows L2 TC

def LIM : Nat := 1000000
theorem lim_le : LIM ≤ sizeLine := by decide
section
variable {K : PySem.W.Frag} {a : Adr} {W : WX} {B : Bd} {E E1 : Sv} {σ : L2.St} {H F H' F' : Hp} {x y v : V} {d : D} {p : Addr} {vl : Vl} {i j : Nat} {X : Cx}
theorem OpOr {f : Value → Value → Sem Value} {r r' : R2} (h : OpR X f r) (h' : OpR X f r') : OpR X f (fun x y H Q => r x y H Q ∨ r' x y H Q) := by
  intro pins s σ H x y v u Q I rx ry q
  rcases q with q | q
  · exact h pins s σ H x y v u Q I rx ry q
  · exact h' pins s σ H x y v u Q I rx ry q
theorem CallOr {f : Value} {r r' : List V → Hp → VK → Prop} (h : CallR X f r) (h' : CallR X f r') : CallR X f (fun xs H Q => r xs H Q ∨ r' xs H Q) := by
  intro pins s σ H xs us Q I rx q
  rcases q with q | q
  · exact h pins s σ H xs us Q I rx q
  · exact h' pins s σ H xs us Q I rx q
theorem free_of (l : Same F H) (h : H p = none) : F p = none := by
  cases e : F p with
  | none => rfl
  | some o => rw [l _ _ e] at h; cases h
theorem gr_frozen {o : HO} (l : Same F H) (h : H p = none) : Gr H F (upd H p o) (upd F p o) := by
  have hf := free_of l h
  refine ⟨Same.new h, Same.new hf, fun q u e => ?_, fun q u e => ?_⟩
  · by_cases z : q = p
    · subst z; rw [upd_same] at e ⊢; exact e
    · rw [upd_ne z] at e ⊢; exact l _ _ e
  · by_cases z : q = p
    · subst z; exact .inr h
    · rw [upd_ne z] at e; exact .inl ⟨u, e⟩
theorem gr_own {o : HO} (l : Same F H) (h : H p = none) : Gr H F (upd H p o) F :=
  ⟨Same.new h, Same.refl _, l.trans (Same.new h), fun q u e => .inl ⟨u, e⟩⟩
/-- a new list -/
theorem new_lst {ds : List D} {vs : List V} {Q : VK} (l : Same F H) (r : Reps K a F ds vs) (q : ∀ v H' F', Gr H F H' F' → ResOk K a H H' F' v (.lst ds) true → Q v H') (hp : H p = none) : Q (.ref p) (upd H p (.lst vs)) :=
  q _ _ F (gr_own l hp) ⟨p, rfl, hp, free_of l hp, vs, upd_same, r⟩
/-- a new tuple -/
theorem new_tup {ds : List D} {vs : List V} {Q : VK} (l : Same F H) (r : Reps K a F ds vs) (q : ∀ v H' F', Gr H F H' F' → ResOk K a H H' F' v (.tup ds) false → Q v H') (hp : H p = none) : Q (.ref p) (upd H p (.tup vs)) := by
  have g := gr_frozen (o := .tup vs) l hp
  refine q _ _ _ g ?_
  show Rep K a _ _ _
  rw [Rep]
  exact ⟨p, vs, rfl, SqT.of upd_same, r.mono g.ff⟩
/-- a value that was there -/
theorem old_v {Q : VK} (l : Same F H) (r : Rep K a F d v) (q : ∀ v H' F', Gr H F H' F' → ResOk K a H H' F' v d false → Q v H') : Q v H := q v H F (Gr.refl l) r
theorem rep_tup {ds : List D} {vs : List V} (h : SqT K F p vs) (r : Reps K a F ds vs) : Rep K a F (.tup ds) (.ref p) := by rw [Rep]; exact ⟨p, vs, rfl, h, r⟩
theorem View.tupR {ds : List D} (h : View K a H F x (.tup ds)) : ∃ p vs, x = .ref p ∧ SqT K F p vs ∧ Reps K a F ds vs := by
  have := h.flat fun _ t => t
  rwa [Rep] at this

/-! ### + -/
def fAdd : D → D → Option (D × Bool)
  | .int i, .int j => some (.int (i + j), false)
  | .str x, .str y => if x.length + y.length ≤ LIM then some (.str (x ++ y), false) else none
  | .lst xs, .lst ys => if xs.length + ys.length ≤ LIM then some (.lst (xs ++ ys), true) else none
  | .tup xs, .tup ys => if xs.length + ys.length ≤ LIM then some (.tup (xs ++ ys), false) else none
  | _, _ => none
def rAdd (K : PySem.W.Frag) : R2 := fun x y H Q => rAddI x y H Q ∨ rAddT x y H Q ∨ rCat x y H Q ∨ rCatA K x y H Q
theorem op_addX : OpR X (binaryOp .Add) (rAdd X.K) := OpOr op_add (OpOr op_addT (OpOr op_cat op_catA))
theorem ro_add : ROp K a (rAdd K) fAdd := by
  intro H F x y dx dy d b l vx vy e Q q
  cases dx <;> cases dy <;> first | (cases e; done) | skip
  case int.int i j =>
    cases e
    rw [vx.int, vy.int]
    exact .inl ⟨i, j, rfl, rfl, old_v l rep_int q⟩
  case str.str i j =>
    dsimp only [fAdd] at e
    split at e
    · cases e
      rw [vx.str, vy.str]
      exact .inr (.inl ⟨i, j, rfl, rfl, Nat.le_trans (by assumption) lim_le, old_v l rep_str q⟩)
    · cases e
  case lst.lst xs ys =>
    dsimp only [fAdd] at e
    split at e
    · cases e
      obtain ⟨p1, vs1, rfl, h1, r1⟩ := vx.lst l
      obtain ⟨p2, vs2, rfl, h2, r2⟩ := vy.lst l
      exact .inr (.inr (.inl ⟨p1, p2, vs1, vs2, rfl, rfl, h1, h2, by rw [← r1.length, ← r2.length]; exact Nat.le_trans (by assumption) lim_le, fun p hp => new_lst l (r1.append r2) q hp⟩))
    · cases e
  case tup.tup xs ys =>
    dsimp only [fAdd] at e
    split at e
    · cases e
      obtain ⟨p1, vs1, rfl, h1, r1⟩ := vx.tupR
      obtain ⟨p2, vs2, rfl, h2, r2⟩ := vy.tupR
      refine .inr (.inr (.inr ⟨p1, p2, vs1, vs2, rfl, rfl, Same.seqT l h1, Same.seqT l h2, by rw [← r1.length, ← r2.length]; exact Nat.le_trans (by assumption) lim_le, fun z => ?_, fun _ z => ?_, fun _ _ p hp => new_tup l (r1.append r2) q hp⟩))
      · have e1 : xs = [] := List.eq_nil_of_length_eq_zero (by rw [r1.length, z]; rfl)
        subst e1
        exact old_v l (rep_tup h2 r2) q
      · have e2 : ys = [] := List.eq_nil_of_length_eq_zero (by rw [r2.length, z]; rfl)
        subst e2
        rw [List.append_nil] at q
        exact old_v l (rep_tup h1 r1) q
    · cases e
/-! ### other arithmetic -/
def fI (f : Int → Int → Option Int) : D → D → Option (D × Bool)
  | .int i, .int j => (f i j).map fun z => (.int z, false)
  | _, _ => none
theorem ro_I {P : Int → Int → Prop} {g : Int → Int → Int} {f : Int → Int → Option Int} (h : ∀ i j z, f i j = some z → P i j ∧ g i j = z) : ROp K a (rI P fun i j => .int (g i j)) (fI f) := by
  intro H F x y dx dy d b l vx vy e Q q
  cases dx <;> cases dy <;> first | (cases e; done) | skip
  case int.int i j =>
    rw [vx.int, vy.int]
    dsimp only [fI] at e
    cases e2 : f i j with
    | none => rw [e2] at e; cases e
    | some z =>
      rw [e2] at e
      cases e
      obtain ⟨h1, h2⟩ := h i j z e2
      exact ⟨i, j, rfl, rfl, h1, by dsimp only; rw [h2]; exact old_v l rep_int q⟩
theorem ro_I0 {g : Int → Int → Int} : ROp K a (rI0 fun i j => .int (g i j)) (fI fun i j => some (g i j)) := by
  intro H F x y dx dy d b l vx vy e Q q
  cases dx <;> cases dy <;> first | (cases e; done) | skip
  case int.int i j =>
    rw [vx.int, vy.int]
    cases e
    exact ⟨i, j, rfl, rfl, old_v l rep_int q⟩
def fSub : D → D → Option (D × Bool) := fI fun i j => some (i - j)
theorem ro_sub : ROp K a rSubI fSub := ro_I0
/-- * : ints, a list or a text so many times -/
def mulOk (i j : Int) : Bool := decide ((-(2 ^ 64) < i ∧ i < 2 ^ 64) ∨ (-(2 ^ 64) < j ∧ j < 2 ^ 64)) || decide (i.natAbs.log2 + j.natAbs.log2 < 1000000)
def fMul : D → D → Option (D × Bool)
  | .int i, .int j => if mulOk i j = true then some (.int (i * j), false) else none
  | .lst xs, .int k => if xs.length * k.toNat ≤ LIM ∧ -(2 ^ 62) ≤ k ∧ k ≤ 1000000 then some (.lst (List.replicate k.toNat xs).flatten, true) else none
  | .str z, .int k => if z.length ≤ 1 ∧ -(2 ^ 62) < k ∧ k ≤ 1000000 then some (.str (PySem.Txt.mul z k), false) else none
  | _, _ => none
def rMul : R2 := fun x y H Q => rMulI x y H Q ∨ rRep x y H Q ∨ rMulS x y H Q
theorem op_mulX : OpR X (binaryOp .Mult) rMul := OpOr op_mulA (OpOr op_rep op_mulS)
theorem Reps.rep {ds : List D} {vs : List V} (h : Reps K a F ds vs) : ∀ n : Nat, Reps K a F (List.replicate n ds).flatten (List.replicate n vs).flatten
  | 0 => .nil
  | n + 1 => by rw [List.replicate_succ, List.replicate_succ, List.flatten_cons, List.flatten_cons]; exact h.append (Reps.rep h n)
theorem ro_mul : ROp K a rMul fMul := by
  intro H F x y dx dy d b l vx vy e Q q
  cases dx <;> cases dy <;> first | (cases e; done) | skip
  case int.int i j =>
    dsimp only [fMul] at e
    split at e
    · rename_i h
      cases e
      rw [vx.int, vy.int]
      unfold mulOk at h
      rw [Bool.or_eq_true] at h
      exact .inl ⟨i, j, rfl, rfl, h.imp (fun z => by have z2 := of_decide_eq_true z; exact z2) (fun z => by have z2 := of_decide_eq_true z; exact z2), old_v l rep_int q⟩
    · cases e
  case lst.int xs k =>
    dsimp only [fMul] at e
    split at e
    · rename_i h
      cases e
      obtain ⟨p1, vs1, rfl, h1, r1⟩ := vx.lst l
      rw [vy.int]
      exact .inr (.inl ⟨p1, k, vs1, rfl, rfl, h1, by omega, by omega, by rw [← r1.length]; exact Nat.le_trans h.1 lim_le, fun p hp => new_lst l (r1.rep _) q hp⟩)
    · cases e
  case str.int z k =>
    dsimp only [fMul] at e
    split at e
    · rename_i h
      cases e
      rw [vx.str, vy.int]
      exact .inr (.inr ⟨z, k, rfl, rfl, h.2.1, h.1, h.2.2, old_v l rep_str q⟩)
    · cases e
def fDiv : D → D → Option (D × Bool) := fI fun i j => if 0 < j ∧ j.natAbs.log2 < 9000 then some (i / j) else none
theorem ro_div : ROp K a rDivI fDiv := ro_I fun i j z h => by
  split at h
  · rename_i c; cases h; exact ⟨c, rfl⟩
  · cases h
def fMod : D → D → Option (D × Bool) := fI fun i j => if 0 < j then some (i % j) else none
theorem ro_mod : ROp K a rModI fMod := ro_I fun i j z h => by
  split at h
  · rename_i c; cases h; exact ⟨c, rfl⟩
  · cases h
def fPow : D → D → Option (D × Bool) := fI fun i j => if 0 ≤ j ∧ j ≤ 1000000 ∧ i.natAbs < 2 ^ 64 then some (i ^ j.toNat) else none
theorem ro_pow : ROp K a rPowI fPow := ro_I fun i j z h => by
  split at h
  · rename_i c; cases h; exact ⟨c, rfl⟩
  · cases h
def fNeg : D → Option (D × Bool)
  | .int i => some (.int (-i), false)
  | _ => none
theorem ro_neg : RUn K a rNeg fNeg := by
  intro H F x dx d b l vx e Q q
  cases dx <;> first | (cases e; done) | skip
  case int i =>
    cases e
    rw [vx.int]
    exact ⟨i, rfl, old_v l rep_int q⟩
/-! ### comparisons of ints -/
def fC (p : Int → Int → Bool) : D → D → Option (D × Bool)
  | .int i, .int j => some (.bl (p i j), false)
  | _, _ => none
theorem ro_C {p : Int → Int → Bool} : ROp K a (rI0 fun i j => .bl (p i j)) (fC p) := by
  intro H F x y dx dy d b l vx vy e Q q
  cases dx <;> cases dy <;> first | (cases e; done) | skip
  case int.int i j =>
    cases e
    rw [vx.int, vy.int]
    exact ⟨i, j, rfl, rfl, old_v l rep_bl q⟩
def fLt : D → D → Option (D × Bool) := fC fun i j => decide (i < j)
def fLe : D → D → Option (D × Bool) := fC fun i j => decide (i ≤ j)
def fGt : D → D → Option (D × Bool) := fC fun i j => decide (j < i)
def fGe : D → D → Option (D × Bool) := fC fun i j => decide (j ≤ i)
theorem ro_lt : ROp K a rLtI fLt := ro_C
theorem ro_le : ROp K a rLeI fLe := ro_C
theorem ro_gt : ROp K a rGtI fGt := ro_C
theorem ro_ge : ROp K a rGeI fGe := ro_C
/-! ### data -/
mutual
def D.dat : D → Nat → Bool
  | .non, _ => true
  | .bl _, _ => true
  | .int _, _ => true
  | .str _, _ => true
  | .tup _, 0 => false
  | .lst _, 0 => false
  | .tup ds, n + 1 => D.datL ds n
  | .lst ds, n + 1 => D.datL ds n
  | _, _ => false
def D.datL : List D → Nat → Bool
  | [], _ => true
  | d :: ds, n => D.dat d n && D.datL ds n
end
mutual
def D.py : D → PyData
  | .bl b => .bool b
  | .int i => .int i
  | .str x => .str x
  | .tup ds => .tuple (D.pyL ds)
  | .lst ds => .list (D.pyL ds)
  | _ => .none
def D.pyL : List D → List PyData
  | [] => []
  | d :: ds => D.py d :: D.pyL ds
end
mutual
def D.eqv : D → D → Bool
  | .non, .non => true
  | .bl a, .bl b => a == b
  | .bl a, .int j => (if a then 1 else 0) == j
  | .int i, .bl b => i == (if b then 1 else 0)
  | .int i, .int j => i == j
  | .str x, .str y => x == y
  | .lst xs, .lst ys => D.eqvL xs ys
  | .tup xs, .tup ys => D.eqvL xs ys
  | _, _ => false
def D.eqvL : List D → List D → Bool
  | [], [] => true
  | x :: xs, y :: ys => D.eqv x y && D.eqvL xs ys
  | _, _ => false
end
mutual
theorem rep_dp (l : Same F H) : ∀ (d : D) (v : V) (n : Nat), d.dat n = true → Rep K a F d v → Dp K H v d.py
  | .non, _, _, _, h => by rw [Rep] at h; subst h; exact Dp.non
  | .bl b, _, _, _, h => by rw [Rep] at h; subst h; rw [D.py]; exact .bl b
  | .int b, _, _, _, h => by rw [Rep] at h; subst h; rw [D.py]; exact .int b
  | .str b, _, _, _, h => by rw [Rep] at h; subst h; rw [D.py]; exact .str b
  | .tup ds, _, n + 1, e, h => by
    rw [Rep] at h
    obtain ⟨p, vs, rfl, s, r⟩ := h
    rw [D.py]
    exact .tup (Same.seqT l s) (reps_dp l ds vs n (by rw [D.dat] at e; exact e) r)
  | .lst ds, _, n + 1, e, h => by
    rw [Rep] at h
    obtain ⟨p, vs, rfl, s, r⟩ := h
    rw [D.py]
    exact .lst (SqL.of (l _ _ s)) (reps_dp l ds vs n (by rw [D.dat] at e; exact e) r)
  | .tup _, _, 0, e, _ => by rw [D.dat] at e; cases e
  | .lst _, _, 0, e, _ => by rw [D.dat] at e; cases e
  | .ty _, _, 0, e, _ => nomatch e
  | .ty _, _, _ + 1, e, _ => nomatch e
  | .cls _, _, _, e, _ => nomatch e
  | .scr _, _, _, e, _ => nomatch e
  | .obj _ _, _, _, e, _ => nomatch e
  | .dct _ _, _, _, e, _ => nomatch e
theorem reps_dp (l : Same F H) : ∀ (ds : List D) (vs : List V) (n : Nat), D.datL ds n = true → Reps K a F ds vs → DpAll K H vs (D.pyL ds)
  | [], _, _, _, h => by rw [Reps] at h; subst h; rw [D.pyL]; exact .nil
  | d :: ds, _, n, e, h => by
    obtain ⟨v, r, rfl, h1, h2⟩ := h.uncons
    rw [D.datL, Bool.and_eq_true] at e
    rw [D.pyL]
    exact .cons (rep_dp l d v n e.1 h1) (reps_dp l ds r n e.2 h2)
end
theorem view_dp {n : Nat} (l : Same F H) (e : d.dat n = true) (h : View K a H F x d) : Dp K H x d.py := by
  rcases h with h | ⟨p, rfl, t⟩
  · exact rep_dp l d x n e h
  · cases d with
    | lst ds =>
      cases n with
      | zero => rw [D.dat] at e; cases e
      | succ n =>
        obtain ⟨vs, h1, r⟩ := t
        rw [D.py]
        exact .lst (SqL.of h1) (reps_dp l ds vs n (by rw [D.dat] at e; exact e) r)
    | obj c ds => rw [D.dat] at e <;> first | cases e | (intros; contradiction)
    | dct c ds => rw [D.dat] at e <;> first | cases e | (intros; contradiction)
    | _ => exact t.elim
mutual
theorem py_plain : ∀ d : D, d.py.plain = true
  | .non => rfl
  | .bl _ => by rw [D.py]; rfl
  | .int _ => by rw [D.py]; rfl
  | .str _ => by rw [D.py]; rfl
  | .tup ds => by rw [D.py, PyData.plain]; exact pyL_plain ds
  | .lst ds => by rw [D.py, PyData.plain]; exact pyL_plain ds
  | .ty _ => rfl
  | .cls _ => rfl
  | .scr _ => rfl
  | .obj _ _ => rfl
  | .dct _ _ => rfl
theorem pyL_plain : ∀ ds : List D, PyData.plainAll (D.pyL ds) = true
  | [] => by rw [D.pyL]; rfl
  | d :: ds => by rw [D.pyL, PyData.plainAll, py_plain d, pyL_plain ds]; rfl
end
mutual
theorem py_depth : ∀ (d : D) (n : Nat), d.dat n = true → d.py.depth ≤ n
  | .non, n, _ => Nat.zero_le _
  | .bl _, n, _ => by rw [D.py]; exact Nat.zero_le _
  | .int _, n, _ => by rw [D.py]; exact Nat.zero_le _
  | .str _, n, _ => by rw [D.py]; exact Nat.zero_le _
  | .tup ds, n + 1, e => by rw [D.py, PyData.depth]; exact Nat.succ_le_succ (pyL_depth ds n (by rw [D.dat] at e; exact e))
  | .lst ds, n + 1, e => by rw [D.py, PyData.depth]; exact Nat.succ_le_succ (pyL_depth ds n (by rw [D.dat] at e; exact e))
  | .tup _, 0, e => by rw [D.dat] at e; cases e
  | .lst _, 0, e => by rw [D.dat] at e; cases e
  | .ty _, n, e => nomatch e
  | .cls _, n, e => nomatch e
  | .scr _, n, e => nomatch e
  | .obj _ _, n, e => nomatch e
  | .dct _ _, n, e => nomatch e
theorem pyL_depth : ∀ (ds : List D) (n : Nat), D.datL ds n = true → PyData.depthAll (D.pyL ds) ≤ n
  | [], n, _ => by rw [D.pyL]; exact Nat.zero_le _
  | d :: ds, n, e => by
    rw [D.datL, Bool.and_eq_true] at e
    rw [D.pyL, PyData.depthAll]
    exact Nat.max_le.mpr ⟨py_depth d n e.1, pyL_depth ds n e.2⟩
end
end
end TV

set_option Elab.async false
set_option linter.all false
set_option maxRecDepth 100000
set_option maxHeartbeats 4000000
/-! Equality, membership, identity on data. -/
namespace TV
open PySem PySem.Spec PyProof.Rows L2 TC
mutual
theorem eqv_py : ∀ (x y : D) (n m : Nat), x.dat n = true → y.dat m = true → PyData.eqv x.py y.py = D.eqv x y
  | .non, y, _, m, _, hy => by cases y <;> first | rfl | (cases m <;> cases hy)
  | .bl _, y, _, m, _, hy => by cases y <;> first | rfl | (cases m <;> cases hy)
  | .int _, y, _, m, _, hy => by cases y <;> first | rfl | (cases m <;> cases hy)
  | .str _, y, _, m, _, hy => by cases y <;> first | rfl | (cases m <;> cases hy)
  | .lst xs, y, n, m, hx, hy => by
    cases n with
    | zero => cases hx
    | succ n =>
      cases y with
      | lst ys =>
        cases m with
        | zero => cases hy
        | succ m =>
          show PyData.eqvAll (D.pyL xs) (D.pyL ys) = D.eqvL xs ys
          exact eqvL_py xs ys n m hx hy
      | _ => first | rfl | (cases m <;> cases hy)
  | .tup xs, y, n, m, hx, hy => by
    cases n with
    | zero => cases hx
    | succ n =>
      cases y with
      | tup ys =>
        cases m with
        | zero => cases hy
        | succ m =>
          show PyData.eqvAll (D.pyL xs) (D.pyL ys) = D.eqvL xs ys
          exact eqvL_py xs ys n m hx hy
      | _ => first | rfl | (cases m <;> cases hy)
  | .ty _, _, n, _, hx, _ => by cases n <;> cases hx
  | .cls _, _, n, _, hx, _ => by cases n <;> cases hx
  | .scr _, _, n, _, hx, _ => by cases n <;> cases hx
  | .obj _ _, _, n, _, hx, _ => by cases n <;> cases hx
  | .dct _ _, _, n, _, hx, _ => by cases n <;> cases hx
theorem eqvL_py : ∀ (xs ys : List D) (n m : Nat), D.datL xs n = true → D.datL ys m = true → PyData.eqvAll (D.pyL xs) (D.pyL ys) = D.eqvL xs ys
  | [], [], _, _, _, _ => rfl
  | [], _ :: _, _, _, _, _ => rfl
  | _ :: _, [], _, _, _, _ => rfl
  | x :: xs, y :: ys, n, m, hx, hy => by
    rw [D.datL, Bool.and_eq_true] at hx hy
    show (PyData.eqv x.py y.py && PyData.eqvAll (D.pyL xs) (D.pyL ys)) = (D.eqv x y && D.eqvL xs ys)
    rw [eqv_py x y n m hx.1 hy.1, eqvL_py xs ys n m hx.2 hy.2]
end
section
variable {K : PySem.W.Frag} {a : Adr} {W : WX} {B : Bd} {E E1 : Sv} {σ : L2.St} {H F H' F' : Hp} {x y v : V} {d : D} {p : Addr} {vl : Vl} {i j : Nat} {X : Cx}
def fEq (x y : D) : Option (D × Bool) := if (x.dat 20 && y.dat 20) = true then some (.bl (x.eqv y), false) else none
def fNe (x y : D) : Option (D × Bool) := if (x.dat 20 && y.dat 20) = true then some (.bl (!x.eqv y), false) else none
theorem ro_eq : ROp K a (rEqX K) fEq := by
  intro H F x y dx dy d b l vx vy e Q q
  unfold fEq at e
  split at e
  · rename_i h
    cases e
    rw [Bool.and_eq_true] at h
    exact ⟨_, _, view_dp l h.1 vx, view_dp l h.2 vy, py_plain _, py_plain _, Nat.le_trans (py_depth _ _ h.1) (by decide), by rw [eqv_py _ _ _ _ h.1 h.2]; exact old_v l rep_bl q⟩
  · cases e
theorem ro_ne : ROp K a (rNeX K) fNe := by
  intro H F x y dx dy d b l vx vy e Q q
  unfold fNe at e
  split at e
  · rename_i h
    cases e
    rw [Bool.and_eq_true] at h
    exact ⟨_, _, view_dp l h.1 vx, view_dp l h.2 vy, py_plain _, py_plain _, Nat.le_trans (py_depth _ _ h.1) (by decide), by rw [eqv_py _ _ _ _ h.1 h.2]; exact old_v l rep_bl q⟩
  · cases e
/-! ### is -/
def D.isN : D → Bool
  | .non => true
  | _ => false
theorem View.nonIff (h : View K a H F x d) : decide (x = .non) = d.isN := by
  cases d with
  | non => rw [h.non]; rfl
  | bl _ => rw [h.bl]; rfl
  | int _ => rw [h.int]; rfl
  | str _ => rw [h.str]; rfl
  | ty _ => rw [h.ty]; rfl
  | cls c => have := h.flat fun _ t => t; rw [Rep] at this; rw [this]; rfl
  | scr c => have := h.flat fun _ t => t; rw [Rep] at this; obtain ⟨p, e, _⟩ := this; rw [e]; rfl
  | tup c => have := h.flat fun _ t => t; rw [Rep] at this; obtain ⟨p, _, e, _⟩ := this; rw [e]; rfl
  | lst c =>
    rcases h with h | ⟨p, e, _⟩
    · rw [Rep] at h; obtain ⟨p, _, e, _⟩ := h; rw [e]; rfl
    · rw [e]; rfl
  | obj c _ =>
    rcases h with h | ⟨p, e, _⟩
    · rw [Rep] at h; obtain ⟨p, _, _, e, _⟩ := h; rw [e]; rfl
    · rw [e]; rfl
  | dct c _ =>
    rcases h with h | ⟨p, e, _⟩
    · rw [Rep] at h; obtain ⟨p, _, e, _⟩ := h; rw [e]; rfl
    · rw [e]; rfl
def fIs : D → D → Option (D × Bool)
  | x, .non => some (.bl x.isN, false)
  | .bl b, .bl c => some (.bl (b == c), false)
  | _, _ => none
def fIsNot : D → D → Option (D × Bool)
  | x, .non => some (.bl (!x.isN), false)
  | .bl b, .bl c => some (.bl (!(b == c)), false)
  | _, _ => none
def rIs : R2 := fun x y H Q => rIsNo x y H Q ∨ rIsB x y H Q
def rIsNot : R2 := fun x y H Q => rIsNotNo x y H Q ∨ rNotB x y H Q
theorem op_isX : OpR X (compareOp .Is) rIs := OpOr op_isNo op_isBl
theorem op_isNotX : OpR X (compareOp .IsNot) rIsNot := OpOr op_isNotNo op_notBl
theorem ro_is : ROp K a rIs fIs := by
  intro H F x y dx dy d b l vx vy e Q q
  by_cases hy : dy = .non
  · subst hy
    have e2 : some (D.bl dx.isN, false) = some (d, b) := by
      rw [← e]
      cases dx <;> rfl
    cases e2
    exact .inl ⟨vy.non, by rw [vx.nonIff]; exact old_v l rep_bl q⟩
  · cases dx <;> cases dy <;> first | (exact absurd rfl hy) | (cases e; done) | skip
    case bl.bl i j =>
      cases e
      rw [vx.bl, vy.bl]
      exact .inr ⟨i, j, rfl, rfl, by rw [show decide (i = j) = (i == j) by cases i <;> cases j <;> rfl]; exact old_v l rep_bl q⟩
theorem ro_isNot : ROp K a rIsNot fIsNot := by
  intro H F x y dx dy d b l vx vy e Q q
  by_cases hy : dy = .non
  · subst hy
    have e2 : some (D.bl (!dx.isN), false) = some (d, b) := by
      rw [← e]
      cases dx <;> rfl
    cases e2
    exact .inl ⟨vy.non, by rw [vx.nonIff]; exact old_v l rep_bl q⟩
  · cases dx <;> cases dy <;> first | (exact absurd rfl hy) | (cases e; done) | skip
    case bl.bl i j =>
      cases e
      rw [vx.bl, vy.bl]
      exact .inr ⟨i, j, rfl, rfl, by rw [show decide (i = j) = (i == j) by cases i <;> cases j <;> rfl]; exact old_v l rep_bl q⟩
/-! ### in, of lists and tuples of data -/
def rInD (K : PySem.W.Frag) (neg : Bool) : R2 := fun x y H Q => ∃ d xs, Dp K H x d ∧ (Dp K H y (.list xs) ∨ Dp K H y (.tuple xs)) ∧ d.plain = true ∧ PyData.plainAll xs = true ∧ d.depth ≤ 60 ∧ Q (.bl (if neg then !(xs.any fun z => PyData.eqv z d) else xs.any fun z => PyData.eqv z d)) H
theorem op_inD (hu : X.A.units + 64 < cLine) : OpR X (compareOp .In) (rInD X.K false) := by
  intro pins s σ H x y v u Q I rx ry h
  obtain ⟨d, xs, hd, he, pd, px, dd, q⟩ := h
  obtain ⟨l1, r1⟩ := Dp.reads I d x v hd rx
  have hu2 : ∀ k, X.A.units + 1 + min k d.depth < cLine := fun k => by have : min k d.depth ≤ d.depth := Nat.min_le_right _ _; omega
  rcases he with he | he
  · obtain ⟨l2, r2⟩ := Dp.reads I _ y u he ry
    exact SeqAt.in_list_data r2 r1 px pd (hu2 _) ⟨.bl _, H, I, rfl, q⟩
  · obtain ⟨l2, r2⟩ := Dp.reads I _ y u he ry
    exact SeqAt.in_tuple_data r2 r1 px pd (hu2 _) ⟨.bl _, H, I, rfl, q⟩
theorem op_notInD (hu : X.A.units + 64 < cLine) : OpR X (compareOp .NotIn) (rInD X.K true) := by
  intro pins s σ H x y v u Q I rx ry h
  obtain ⟨d, xs, hd, he, pd, px, dd, q⟩ := h
  obtain ⟨l1, r1⟩ := Dp.reads I d x v hd rx
  have hu2 : ∀ k, X.A.units + 1 + min k d.depth < cLine := fun k => by have : min k d.depth ≤ d.depth := Nat.min_le_right _ _; omega
  rcases he with he | he
  · obtain ⟨l2, r2⟩ := Dp.reads I _ y u he ry
    exact SeqAt.notIn_list_data r2 r1 px pd (hu2 _) ⟨.bl _, H, I, rfl, q⟩
  · obtain ⟨l2, r2⟩ := Dp.reads I _ y u he ry
    exact SeqAt.notIn_tuple_data r2 r1 px pd (hu2 _) ⟨.bl _, H, I, rfl, q⟩
def fIn (neg : Bool) (x : D) : D → Option (D × Bool)
  | .lst ds => if (x.dat 20 && D.datL ds 20) = true then some (.bl (if neg then !(ds.any fun z => z.eqv x) else ds.any fun z => z.eqv x), false) else none
  | .tup ds => if (x.dat 20 && D.datL ds 20) = true then some (.bl (if neg then !(ds.any fun z => z.eqv x) else ds.any fun z => z.eqv x), false) else none
  | _ => none
theorem any_py {x : D} {n m : Nat} (hx : x.dat n = true) : ∀ ds : List D, D.datL ds m = true → ((D.pyL ds).any fun z => PyData.eqv z x.py) = ds.any fun z => z.eqv x
  | [], _ => rfl
  | d :: ds, h => by
    rw [D.datL, Bool.and_eq_true] at h
    rw [D.pyL, List.any_cons, List.any_cons, eqv_py d x m n h.1 hx, any_py hx ds h.2]
theorem ro_in {neg : Bool} : ROp K a (rInD K neg) (fIn neg) := by
  intro H F x y dx dy d b l vx vy e Q q
  cases dy <;> first | (cases e; done) | skip
  case lst ds =>
    dsimp only [fIn] at e
    split at e
    · rename_i h
      cases e
      rw [Bool.and_eq_true] at h
      refine ⟨_, D.pyL ds, view_dp l h.1 vx, .inl (view_dp (n := 21) (d := .lst ds) l h.2 vy), py_plain _, pyL_plain _, Nat.le_trans (py_depth _ _ h.1) (by decide), ?_⟩
      rw [any_py h.1 ds h.2]
      exact old_v l rep_bl q
    · cases e
  case tup ds =>
    dsimp only [fIn] at e
    split at e
    · rename_i h
      cases e
      rw [Bool.and_eq_true] at h
      refine ⟨_, D.pyL ds, view_dp l h.1 vx, .inr (view_dp (n := 21) (d := .tup ds) l h.2 vy), py_plain _, pyL_plain _, Nat.le_trans (py_depth _ _ h.1) (by decide), ?_⟩
      rw [any_py h.1 ds h.2]
      exact old_v l rep_bl q
    · cases e
end
end TV

set_option Elab.async false
set_option linter.all false
set_option maxRecDepth 100000
set_option maxHeartbeats 4000000
/-! Subscripts, slices, built-ins on data. -/
namespace TV
open PySem PySem.Spec PyProof.Rows L2 TC
section
variable {K : PySem.W.Frag} {a : Adr} {W : WX} {B : Bd} {E E1 : Sv} {σ : L2.St} {H F H' F' : Hp} {x y v : V} {d : D} {p : Addr} {vl : Vl} {i j : Nat} {X : Cx}
/-! ### a[i] -/
def fIx : D → D → Option (D × Bool)
  | .lst ds, .int i => (atI ds i).map fun d => (d, false)
  | .tup ds, .int i => (atI ds i).map fun d => (d, false)
  | .scr ns, .int i => (atI ns i).map fun z => (.int z, false)
  | .str z, .int i => if z.length ≤ LIM then (atI z.cps.toList i).map fun c => (.str ⟨#[c]⟩, false) else none
  | _, _ => none
theorem Reps.atI {ds : List D} {vs : List V} {i : Int} {d : D} (r : Reps K a F ds vs) (h : L2.atI ds i = some d) : ∃ v, L2.atI vs i = some v ∧ Rep K a F d v := by
  unfold L2.atI at h ⊢
  rw [r.length] at h
  cases e : ixN vs.length i with
  | none => rw [e] at h; cases h
  | some j =>
    rw [e] at h
    obtain ⟨v, hv, rv⟩ := r.get (show ds[j]? = some d from h)
    exact ⟨v, hv, rv⟩
theorem atI_map {α β : Type} {f : α → β} {xs : List α} {i : Int} : L2.atI (xs.map f) i = (L2.atI xs i).map f := by
  unfold L2.atI
  rw [List.length_map]
  cases ixN xs.length i with
  | none => rfl
  | some j => show (xs.map f)[j]? = (xs[j]?).map f; rw [List.getElem?_map]
theorem ro_ix : ROp K a (rIx K) fIx := by
  intro H F x y dx dy d b l vx vy e Q q
  cases dx <;> cases dy <;> first | (cases e; done) | skip
  case lst.int ds i =>
    obtain ⟨p, vs, rfl, h, r⟩ := vx.lst l
    rw [vy.int]
    dsimp only [fIx] at e
    cases e2 : atI ds i with
    | none => rw [e2] at e; cases e
    | some z =>
      rw [e2] at e
      cases e
      obtain ⟨w, hw, rw_⟩ := r.atI e2
      exact .inl ⟨p, vs, i, w, rfl, rfl, SqL.of h, hw, old_v l rw_ q⟩
  case tup.int ds i =>
    obtain ⟨p, vs, rfl, h, r⟩ := vx.tup l
    rw [vy.int]
    dsimp only [fIx] at e
    cases e2 : atI ds i with
    | none => rw [e2] at e; cases e
    | some z =>
      rw [e2] at e
      cases e
      obtain ⟨w, hw, rw_⟩ := r.atI e2
      exact .inr (.inl ⟨p, vs, i, w, rfl, rfl, h, hw, old_v l rw_ q⟩)
  case scr.int ns i =>
    obtain ⟨p, rfl, h⟩ := vx.scr l
    rw [vy.int]
    dsimp only [fIx] at e
    cases e2 : atI ns i with
    | none => rw [e2] at e; cases e
    | some z =>
      rw [e2] at e
      cases e
      exact .inl ⟨p, _, i, .int z, rfl, rfl, h, by rw [atI_map, e2]; rfl, old_v l rep_int q⟩
  case str.int s i =>
    rw [vx.str, vy.int]
    dsimp only [fIx] at e
    split at e
    · cases e2 : atI s.cps.toList i with
      | none => rw [e2] at e; cases e
      | some z =>
        rw [e2] at e
        cases e
        exact .inr (.inr ⟨s, i, z, rfl, rfl, Nat.le_trans (by assumption) lim_le, e2, old_v l rep_str q⟩)
    · cases e
/-! ### a[i:j] -/
def cutG {α : Type} (xs : List α) (lo hi : Option Int) : List α := (xs.drop (HT.sIx xs.length 0 lo)).take (HT.sIx xs.length xs.length hi - HT.sIx xs.length 0 lo)
def fSl (lo hi : Option Int) : D → Option (D × Bool)
  | .lst ds => some (.lst (cutG ds lo hi), true)
  | .tup ds => some (.tup (cutG ds lo hi), false)
  | _ => none
def RSl (K : PySem.W.Frag) (a : Adr) (r : V → Option Int → Option Int → Hp → VK → Prop) (f : Option Int → Option Int → D → Option (D × Bool)) : Prop := ∀ (H F : Hp) (x : V) (lo hi : Option Int) (dx d : D) (b : Bool), Same F H → View K a H F x dx → f lo hi dx = some (d, b) →
  ∀ Q : VK, (∀ v H' F', Gr H F H' F' → ResOk K a H H' F' v d b → Q v H') → r x lo hi H Q
theorem Reps.cut {ds : List D} {vs : List V} {lo hi : Option Int} (r : Reps K a F ds vs) : Reps K a F (cutG ds lo hi) (cutV vs lo hi) := by
  unfold cutG cutV
  rw [r.length]
  exact (r.drop _).take _
theorem rs_sl : RSl K a (rSlS K) fSl := by
  intro H F x lo hi dx d b l vx e Q q
  cases dx <;> first | (cases e; done) | skip
  case lst ds =>
    cases e
    obtain ⟨p, vs, rfl, h, r⟩ := vx.lst l
    exact .inl ⟨p, vs, rfl, SqL.of h, fun t ht => new_lst l r.cut q ht⟩
  case tup ds =>
    cases e
    obtain ⟨p, vs, rfl, h, r⟩ := vx.tupR
    refine .inr ⟨p, vs, rfl, Same.seqT l h, fun hw => ?_, fun _ t ht => new_tup l r.cut q ht⟩
    have e1 : cutG ds lo hi = ds := by
      unfold cutG
      rw [← r.length] at hw
      rw [hw.1, hw.2, List.drop_zero, Nat.sub_zero, List.take_length]
    rw [e1] at q
    exact old_v l (rep_tup h r) q
def oNone : Sv → Rs (Option Int) := fun E => .ok none E
def oSome (e : Sv → Rs Vl) : Sv → Rs (Option Int) := fun E => (e E).bind fun v E1 => match v with
  | .dv (.int i) => .ok (some i) E1
  | _ => .er
theorem snd_onone : SndO K a W tNoPart oNone := fun B E σ H F C Q q => q none H F C (Same.refl _) rfl
theorem snd_osome {te : TE} {e : Sv → Rs Vl} (h : Snd K a W te e) : SndO K a W (tPart te) (oSome e) := by
  intro B E σ H F C
  refine At.bind (ok' := OkEq) (k := fun x H1 Q => ∃ i, x = .int i ∧ Q (some i) H1) (h B E σ H F C) fun v E1 x H1 F1 _ C1 s1 o1 => ?_
  cases v with
  | fr d => trivial
  | loc i => trivial
  | dv d =>
    cases d with
    | int b =>
      have e : x = .int b := by have := o1; dsimp only [OkV, VOk] at this; rwa [Rep] at this
      exact fun Q q => ⟨b, e, q (some b) H1 F1 C1 (Same.refl _) rfl⟩
    | _ => trivial
def eSl (f : Option Int → Option Int → D → Option (D × Bool)) (e : Sv → Rs Vl) (lo hi : Sv → Rs (Option Int)) : Sv → Rs Vl := fun E => (e E).bind fun v E1 => (lo E1).bind fun i E2 => (hi E2).bind fun j E3 => match v.hold.get E3 with
  | some d => ofRes (f i j d) E3
  | none => .er
theorem snd_sl {r : V → Option Int → Option Int → Hp → VK → Prop} {f : Option Int → Option Int → D → Option (D × Bool)} {te : TE} {tl th : TO} {e : Sv → Rs Vl} {lo hi : Sv → Rs (Option Int)} (hr : RSl K a r f) (h : Snd K a W te e) (hl : SndO K a W tl lo) (hh : SndO K a W th hi) : Snd K a W (tSl r te tl th) (eSl f e lo hi) := by
  intro B E σ H F C
  refine At.bind (ok' := OkV K a) (k := fun x H1 Q => tl σ H1 fun l H2 => th σ H2 fun u H3 => r x l u H3 Q) (h B E σ H F C) fun v E1 x H1 F1 _ C1 s1 o1 => ?_
  obtain ⟨F1', C1', s1', o1'⟩ := C1.hold o1
  refine (At.bind (ok' := OkV K a) (k := fun l H2 Q => th σ H2 fun u H3 => r x l u H3 Q) (hl B E1 σ H1 F1' C1') fun i E2 i' H2 F2 _ C2 s2 o2 => ?_).low s1'
  refine At.bind (ok' := OkV K a) (k := fun u H3 Q => r x i' u H3 Q) (hh B E2 σ H2 F2 C2) fun j E3 j' H3 F3 _ C3 s3 o3 => ?_
  have o2 : i' = i := o2
  have o3 : j' = j := o3
  subst o2 o3
  have o1'' := o1'.later (E2 := E3) (H2 := H3) (s2.trans s3)
  cases e1 : v.hold.get E3 with
  | none => trivial
  | some dx => exact At.res C3 fun d b e Q q => hr H3 F3 x i' j' dx d b C3.le (C3.get_rep o1'' e1) e Q q
/-! ### built-ins -/
theorem Views.one {xs : List V} {d : D} (h : Views K a H F xs [d]) : ∃ x, xs = [x] ∧ View K a H F x d := by
  cases h with
  | cons h1 h2 => cases h2; exact ⟨_, rfl, h1⟩
theorem Views.two {xs : List V} {d e : D} (h : Views K a H F xs [d, e]) : ∃ x y, xs = [x, y] ∧ View K a H F x d ∧ View K a H F y e := by
  cases h with
  | cons h1 h2 =>
    obtain ⟨y, rfl, h3⟩ := h2.one
    exact ⟨_, _, rfl, h1, h3⟩
def f1 (f : D → Option (D × Bool)) : List D → Option (D × Bool)
  | [d] => f d
  | _ => none
theorem rc_1 {r : List V → Hp → VK → Prop} {f : D → Option (D × Bool)} (h : ∀ (H F : Hp) (x : V) (dx d : D) (b : Bool), Same F H → View K a H F x dx → f dx = some (d, b) → ∀ Q : VK, (∀ v H' F', Gr H F H' F' → ResOk K a H H' F' v d b → Q v H') → r [x] H Q) : RCall K a r (f1 f) := by
  intro H F xs ds d b l vx e Q q
  match ds, vx, e with
  | [dx], vx, e =>
    obtain ⟨x, rfl, v1⟩ := vx.one
    exact h H F x dx d b l v1 e Q q
def f2 (f : D → D → Option (D × Bool)) : List D → Option (D × Bool)
  | [d, e] => f d e
  | _ => none
theorem rc_2 {r : List V → Hp → VK → Prop} {f : D → D → Option (D × Bool)} (h : ∀ (H F : Hp) (x y : V) (dx dy d : D) (b : Bool), Same F H → View K a H F x dx → View K a H F y dy → f dx dy = some (d, b) → ∀ Q : VK, (∀ v H' F', Gr H F H' F' → ResOk K a H H' F' v d b → Q v H') → r [x, y] H Q) : RCall K a r (f2 f) := by
  intro H F xs ds d b l vx e Q q
  match ds, vx, e with
  | [dx, dy], vx, e =>
    obtain ⟨x, y, rfl, v1, v2⟩ := vx.two
    exact h H F x y dx dy d b l v1 v2 e Q q
def rLen (K : PySem.W.Frag) : List V → Hp → VK → Prop := fun xs H Q => TC.rLenS K xs H Q ∨ rLenT xs H Q
theorem c_len : CallR X (.builtin "len") (rLen X.K) := CallOr c_lenS c_lenT
def fLen : D → Option (D × Bool)
  | .lst ds => some (.int ds.length, false)
  | .tup ds => some (.int ds.length, false)
  | .scr ns => some (.int ns.length, false)
  | .str z => if z.length ≤ LIM then some (.int z.length, false) else none
  | _ => none
theorem rc_len : RCall K a (rLen K) (f1 fLen) := rc_1 fun H F x dx d b l vx e Q q => by
  cases dx <;> first | (cases e; done) | skip
  case lst ds =>
    cases e
    obtain ⟨p, vs, rfl, h, r⟩ := vx.lst l
    exact .inl ⟨p, vs, rfl, .inl (SqL.of h), by rw [← r.length]; exact old_v l rep_int q⟩
  case tup ds =>
    cases e
    obtain ⟨p, vs, rfl, h, r⟩ := vx.tup l
    exact .inl ⟨p, vs, rfl, .inr h, by rw [← r.length]; exact old_v l rep_int q⟩
  case scr ns =>
    cases e
    obtain ⟨p, rfl, h⟩ := vx.scr l
    exact .inl ⟨p, _, rfl, .inl h, by rw [List.length_map]; exact old_v l rep_int q⟩
  case str z =>
    dsimp only [fLen] at e
    split at e
    · cases e
      rw [vx.str]
      exact .inr ⟨z, rfl, Nat.le_trans (by assumption) lim_le, old_v l rep_int q⟩
    · cases e
def fList : D → Option (D × Bool)
  | .lst ds => some (.lst ds, true)
  | .tup ds => some (.lst ds, true)
  | .scr ns => some (.lst (ns.map D.int), true)
  | _ => none
theorem rc_list : RCall K a (TC.rListS K) (f1 fList) := rc_1 fun H F x dx d b l vx e Q q => by
  cases dx <;> first | (cases e; done) | skip
  case lst ds =>
    cases e
    obtain ⟨p, vs, rfl, h, r⟩ := vx.lst l
    exact ⟨p, vs, rfl, .inl (SqL.of h), fun t ht => new_lst l r q ht⟩
  case tup ds =>
    cases e
    obtain ⟨p, vs, rfl, h, r⟩ := vx.tup l
    exact ⟨p, vs, rfl, .inr h, fun t ht => new_lst l r q ht⟩
  case scr ns =>
    cases e
    obtain ⟨p, rfl, h⟩ := vx.scr l
    exact ⟨p, _, rfl, .inl h, fun t ht => new_lst l (Reps.ints.mpr rfl) q ht⟩
def fTuple : D → Option (D × Bool)
  | .lst ds => some (.tup ds, false)
  | .tup ds => some (.tup ds, false)
  | .scr ns => some (.tup (ns.map D.int), false)
  | _ => none
theorem rc_tuple : RCall K a (rTupS K) (f1 fTuple) := rc_1 fun H F x dx d b l vx e Q q => by
  cases dx <;> first | (cases e; done) | skip
  case lst ds =>
    cases e
    obtain ⟨p, vs, rfl, h, r⟩ := vx.lst l
    exact ⟨p, vs, rfl, .inl ⟨SqL.of h, fun t ht => new_tup l r q ht⟩⟩
  case tup ds =>
    cases e
    obtain ⟨p, vs, rfl, h, r⟩ := vx.tupR
    exact ⟨p, vs, rfl, .inr ⟨Same.seqT l h, old_v l (rep_tup h r) q⟩⟩
  case scr ns =>
    cases e
    obtain ⟨p, rfl, h⟩ := vx.scr l
    exact ⟨p, _, rfl, .inl ⟨h, fun t ht => new_tup l (Reps.ints.mpr rfl) q ht⟩⟩
def fAbs : D → Option (D × Bool)
  | .int i => some (.int (if i < 0 then -i else i), false)
  | _ => none
theorem rc_abs : RCall K a rAbs (f1 fAbs) := rc_1 fun H F x dx d b l vx e Q q => by
  cases dx <;> first | (cases e; done) | skip
  case int i =>
    cases e
    rw [vx.int]
    exact ⟨i, rfl, old_v l rep_int q⟩
def fMax2 : D → D → Option (D × Bool)
  | .int i, .int j => some (.int (if j > i then j else i), false)
  | _, _ => none
def fMin2 : D → D → Option (D × Bool)
  | .int i, .int j => some (.int (if j < i then j else i), false)
  | _, _ => none
theorem rc_max2 : RCall K a TC.rMax2 (f2 fMax2) := rc_2 fun H F x y dx dy d b l vx vy e Q q => by
  cases dx <;> cases dy <;> first | (cases e; done) | skip
  case int.int i j =>
    cases e
    rw [vx.int, vy.int]
    exact ⟨i, j, rfl, old_v l rep_int q⟩
theorem rc_min2 : RCall K a TC.rMin2 (f2 fMin2) := rc_2 fun H F x y dx dy d b l vx vy e Q q => by
  cases dx <;> cases dy <;> first | (cases e; done) | skip
  case int.int i j =>
    cases e
    rw [vx.int, vy.int]
    exact ⟨i, j, rfl, old_v l rep_int q⟩
def fInt1 : D → Option (D × Bool)
  | .int i => some (.int i, false)
  | .bl k => some (.int (if k then 1 else 0), false)
  | _ => none
theorem rc_int1 : RCall K a rInt1 (f1 fInt1) := rc_1 fun H F x dx d b l vx e Q q => by
  cases dx <;> first | (cases e; done) | skip
  case int i =>
    cases e
    rw [vx.int]
    exact .inl ⟨i, rfl, old_v l rep_int q⟩
  case bl i =>
    cases e
    rw [vx.bl]
    exact .inr ⟨i, rfl, old_v l rep_int q⟩
def fStrI : D → Option (D × Bool)
  | .int i => if i.natAbs.log2 < 1920 then some (.str (toString i), false) else none
  | _ => none
theorem rc_strI : RCall K a rStrI (f1 fStrI) := rc_1 fun H F x dx d b l vx e Q q => by
  cases dx <;> first | (cases e; done) | skip
  case int i =>
    dsimp only [fStrI] at e
    split at e
    · cases e
      rw [vx.int]
      exact ⟨i, rfl, by assumption, old_v l rep_str q⟩
    · cases e
/-! ints, bools in a list -/
def D.ints : List D → Option (List Int)
  | [] => some []
  | .int i :: ds => (D.ints ds).map (i :: ·)
  | _ => none
theorem D.ints_eq : ∀ {ds : List D} {ns : List Int}, D.ints ds = some ns → ds = ns.map D.int
  | [], _, h => by cases h; rfl
  | .int i :: ds, ns, h => by
    unfold D.ints at h
    cases e : D.ints ds with
    | none => rw [e] at h; cases h
    | some ms => rw [e] at h; cases h; rw [D.ints_eq e]; rfl
  | .non :: _, _, h => by cases h
  | .bl _ :: _, _, h => by cases h
  | .str _ :: _, _, h => by cases h
  | .ty _ :: _, _, h => by cases h
  | .cls _ :: _, _, h => by cases h
  | .scr _ :: _, _, h => by cases h
  | .tup _ :: _, _, h => by cases h
  | .lst _ :: _, _, h => by cases h
  | .obj _ _ :: _, _, h => by cases h
  | .dct _ _ :: _, _, h => by cases h
theorem D.ints_map : ∀ ns : List Int, D.ints (ns.map D.int) = some ns
  | [] => rfl
  | n :: ns => by show (D.ints (ns.map D.int)).map (n :: ·) = _; rw [D.ints_map ns]; rfl
def D.bls : List D → Option (List Bool)
  | [] => some []
  | .bl i :: ds => (D.bls ds).map (i :: ·)
  | _ => none
theorem D.bls_eq : ∀ {ds : List D} {ns : List Bool}, D.bls ds = some ns → ds = ns.map D.bl
  | [], _, h => by cases h; rfl
  | .bl i :: ds, ns, h => by
    unfold D.bls at h
    cases e : D.bls ds with
    | none => rw [e] at h; cases h
    | some ms => rw [e] at h; cases h; rw [D.bls_eq e]; rfl
  | .non :: _, _, h => by cases h
  | .int _ :: _, _, h => by cases h
  | .str _ :: _, _, h => by cases h
  | .ty _ :: _, _, h => by cases h
  | .cls _ :: _, _, h => by cases h
  | .scr _ :: _, _, h => by cases h
  | .tup _ :: _, _, h => by cases h
  | .lst _ :: _, _, h => by cases h
  | .obj _ _ :: _, _, h => by cases h
  | .dct _ _ :: _, _, h => by cases h
theorem D.bls_map : ∀ ns : List Bool, D.bls (ns.map D.bl) = some ns
  | [] => rfl
  | n :: ns => by show (D.bls (ns.map D.bl)).map (n :: ·) = _; rw [D.bls_map ns]; rfl
theorem Reps.bls : ∀ {ns : List Bool} {vs : List V}, Reps K a F (ns.map D.bl) vs → vs = ns.map V.bl
  | [], _, h => by rw [List.map_nil, Reps] at h; exact h
  | n :: ns, vs, h => by
    rw [List.map_cons] at h
    obtain ⟨v, r, rfl, h1, h2⟩ := h.uncons
    rw [Rep] at h1
    rw [h1, h2.bls]
    rfl
def fSum : D → Option (D × Bool)
  | .lst ds => (D.ints ds).map fun ns => (.int ns.sum, false)
  | _ => none
theorem rc_sum : RCall K a (rSum K) (f1 fSum) := rc_1 fun H F x dx d b l vx e Q q => by
  cases dx <;> first | (cases e; done) | skip
  case lst ds =>
    dsimp only [fSum] at e
    cases e2 : D.ints ds with
    | none => rw [e2] at e; cases e
    | some ns =>
      rw [e2] at e
      cases e
      obtain ⟨p, vs, rfl, h, r⟩ := vx.lst l
      rw [D.ints_eq e2] at r
      rw [Reps.ints.mp r] at h
      exact ⟨p, ns, rfl, SqL.of h, old_v l rep_int q⟩
def fAll : D → Option (D × Bool)
  | .lst ds => (D.bls ds).map fun ns => (.bl (ns.all id), false)
  | _ => none
def fAny : D → Option (D × Bool)
  | .lst ds => (D.bls ds).map fun ns => (.bl (ns.any id), false)
  | _ => none
theorem rc_all : RCall K a (rAll K) (f1 fAll) := rc_1 fun H F x dx d b l vx e Q q => by
  cases dx <;> first | (cases e; done) | skip
  case lst ds =>
    dsimp only [fAll] at e
    cases e2 : D.bls ds with
    | none => rw [e2] at e; cases e
    | some ns =>
      rw [e2] at e
      cases e
      obtain ⟨p, vs, rfl, h, r⟩ := vx.lst l
      rw [D.bls_eq e2] at r
      rw [r.bls] at h
      exact ⟨p, ns, rfl, SqL.of h, old_v l rep_bl q⟩
theorem rc_any : RCall K a (rAny K) (f1 fAny) := rc_1 fun H F x dx d b l vx e Q q => by
  cases dx <;> first | (cases e; done) | skip
  case lst ds =>
    dsimp only [fAny] at e
    cases e2 : D.bls ds with
    | none => rw [e2] at e; cases e
    | some ns =>
      rw [e2] at e
      cases e
      obtain ⟨p, vs, rfl, h, r⟩ := vx.lst l
      rw [D.bls_eq e2] at r
      rw [r.bls] at h
      exact ⟨p, ns, rfl, SqL.of h, old_v l rep_bl q⟩
/-- sorted of ints -/
def srt (ns : List Int) : List Int := ns.mergeSort fun i j => decide (i ≤ j)
theorem srt_perm (ns : List Int) : (srt ns).Perm ns := List.mergeSort_perm _ _
theorem srt_sorted (ns : List Int) : (srt ns).Pairwise (· ≤ ·) := by
  have h := List.pairwise_mergeSort (le := fun i j : Int => decide (i ≤ j)) (fun x y z h1 h2 => decide_eq_true (Int.le_trans (of_decide_eq_true h1) (of_decide_eq_true h2))) (fun x y => by
    rcases Int.le_total x y with h | h
    · simp [h]
    · simp [h]) ns
  exact h.imp fun h => of_decide_eq_true h
theorem srt_unique {ns ms : List Int} (h : ms.Perm ns) (s : ms.Pairwise (· ≤ ·)) : ms = srt ns :=
  List.Perm.eq_of_pairwise (le := (· ≤ ·)) (fun x y _ _ h1 h2 => Int.le_antisymm h1 h2) s (srt_sorted ns) (h.trans (srt_perm ns).symm)
def fSorted : D → Option (D × Bool)
  | .lst ds => (D.ints ds).map fun ns => (.lst ((srt ns).map D.int), true)
  | _ => none
theorem rc_sorted : RCall K a (rSortedI K) (f1 fSorted) := rc_1 fun H F x dx d b l vx e Q q => by
  cases dx <;> first | (cases e; done) | skip
  case lst ds =>
    dsimp only [fSorted] at e
    cases e2 : D.ints ds with
    | none => rw [e2] at e; cases e
    | some ns =>
      rw [e2] at e
      cases e
      obtain ⟨p, vs, rfl, h, r⟩ := vx.lst l
      rw [D.ints_eq e2] at r
      rw [Reps.ints.mp r] at h
      refine ⟨p, ns, rfl, SqL.of h, fun ms t hp hs ht => ?_⟩
      rw [srt_unique hp hs]
      exact new_lst l (Reps.ints.mpr rfl) q ht
end
end TV

set_option Elab.async false
set_option linter.all false
set_option maxRecDepth 100000
set_option maxHeartbeats 4000000
/-! Displays, iterables, statements. -/
namespace TV
open PySem PySem.Spec PyProof.Rows L2 TC
section
variable {K : PySem.W.Frag} {a : Adr} {W : WX} {B : Bd} {E E1 : Sv} {σ : L2.St} {H F H' F' : Hp} {x y v : V} {d : D} {p : Addr} {vl : Vl} {i j : Nat} {X : Cx}
/-! ### displays -/
inductive AllH (K : PySem.W.Frag) (a : Adr) (B : Bd) (E : Sv) (σ : L2.St) (H F : Hp) : List V → List Vl → Prop
  | nil : AllH K a B E σ H F [] []
  | cons {x : V} {v : Vl} {xs : List V} {vs : List Vl} : VOk K a B E σ H F x v.hold → AllH K a B E σ H F xs vs → AllH K a B E σ H F (x :: xs) (v.hold :: vs)
theorem AllH.later {E2 : Sv} {H2 F2 : Hp} (ff : Same F F2) : ∀ {xs : List V} {vs : List Vl}, AllH K a B E σ H F xs vs → AllH K a B E2 σ H2 F2 xs vs := by
  intro xs vs h
  induction h with
  | nil => exact .nil
  | cons h1 _ ih => exact .cons (h1.later ff) ih
theorem hold_hold (v : Vl) : v.hold.hold = v.hold := by cases v <;> rfl
theorem VOk.other {q : Addr} {o : HO} (ff : F q = none) (h : VOk K a B E σ H F x vl) (hq : frA x vl ≠ some q) : VOk K a B E σ H (upd F q o) x vl := by
  cases vl with
  | dv d => exact Rep.mono (Same.new ff) _ _ h
  | loc i => exact h
  | fr d =>
    obtain ⟨p, rfl, f, m, t, n⟩ := h
    have hp : p ≠ q := fun e => hq (by rw [e]; rfl)
    exact ⟨p, rfl, by rw [upd_ne hp]; exact f, m, t.mono (Same.new ff) rfl, n⟩
theorem AllV.other {q : Addr} {o : HO} (ff : F q = none) : ∀ {xs : List V} {vs : List Vl}, AllV K a B E σ H F xs vs → q ∉ frAs xs vs → AllV K a B E σ H (upd F q o) xs vs
  | _, _, .nil, _ => .nil
  | _, _, .cons (x := x) (v := v) (xs := xs) (vs := vs) h t dd, hq => by
    have h1 : frA x v ≠ some q := fun e => hq (by unfold frAs; rw [e]; exact List.mem_cons_self)
    have h2 : q ∉ frAs xs vs := fun m => hq (by
      unfold frAs
      cases e : frA x v with
      | none => exact m
      | some z => exact List.mem_cons_of_mem _ m)
    exact .cons (h.other ff h1) (t.other ff h2) dd
theorem Cc.holdAll (C : Cc K a B E σ H F) : ∀ {xs : List V} {vs : List Vl}, AllV K a B E σ H F xs vs → ∃ F', Cc K a B E σ H F' ∧ Same F F' ∧ AllH K a B E σ H F' xs (vs.map Vl.hold) := by
  intro xs vs h
  induction vs generalizing xs F with
  | nil => cases h; exact ⟨F, C, Same.refl _, .nil⟩
  | cons v vs ih =>
    cases h with
    | cons h1 h2 dd =>
      rename_i x xs
      have fin : ∀ F1, Cc K a B E σ H F1 → Same F F1 → VOk K a B E σ H F1 x v.hold → AllV K a B E σ H F1 xs vs → ∃ F', Cc K a B E σ H F' ∧ Same F F' ∧ AllH K a B E σ H F' (x :: xs) ((v :: vs).map Vl.hold) := fun F1 C1 s1 o1 t1 => by
        obtain ⟨F2, C2, s2, o2⟩ := ih C1 t1
        refine ⟨F2, C2, s1.trans s2, ?_⟩
        rw [List.map_cons]
        exact .cons (o1.later s2) o2
      cases v with
      | dv d => exact fin F C (Same.refl _) h1 h2
      | loc i => exact fin F C (Same.refl _) h1 h2
      | fr d =>
        obtain ⟨p, rfl, f, m, t, n⟩ := h1
        obtain ⟨o, ho⟩ := t.some
        exact fin (upd F p o) (C.freeze ho f (.inr m) n) (Same.new f) (t.rep (Same.new f) (upd_same.trans ho.symm)) (h2.other f (dd p rfl))
def Sv.frzs : Sv → List Vl → Option (List D × Sv)
  | E, [] => some ([], E)
  | E, v :: vs => match E.frz v with
    | some (d, E1) => match Sv.frzs E1 vs with
      | some (ds, E2) => some (d :: ds, E2)
      | none => none
    | none => none
theorem Cc.frzs : ∀ {vs : List Vl} {E E' : Sv} {F : Hp} {xs : List V} {ds : List D}, Cc K a B E σ H F → AllH K a B E σ H F xs vs → Sv.frzs E vs = some (ds, E') → ∃ F', Cc K a B E' σ H F' ∧ Same F F' ∧ Reps K a F' ds xs
  | [], E, E', F, _, _, C, h, e => by
    cases h
    cases e
    exact ⟨F, C, Same.refl _, .nil⟩
  | v :: vs, E, E', F, _, _, C, h, e => by
    unfold Sv.frzs at e
    cases q1 : E.frz v with
    | none => rw [q1] at e; cases e
    | some z =>
      obtain ⟨d, E1⟩ := z
      rw [q1] at e
      dsimp only at e
      cases q2 : Sv.frzs E1 vs with
      | none => rw [q2] at e; cases e
      | some z =>
        obtain ⟨ds, E2⟩ := z
        rw [q2] at e
        cases e
        cases h with
        | cons h1 h2 =>
          obtain ⟨F1, C1, s1, r1⟩ := C.frz h1 q1
          obtain ⟨F2, C2, s2, r2⟩ := C1.frzs (h2.later s1) q2
          exact ⟨F2, C2, s1.trans s2, .cons (r1.mono s2) r2⟩
def eTup (es : Sv → Rs (List Vl)) : Sv → Rs Vl := fun E => (es E).bind fun vs E1 => match Sv.frzs E1 (vs.map Vl.hold) with
  | some (ds, E2) => if ds.length ≤ LIM then .ok (.dv (.tup ds)) E2 else .er
  | none => .er
def eLst (es : Sv → Rs (List Vl)) : Sv → Rs Vl := fun E => (es E).bind fun vs E1 => match Sv.frzs E1 (vs.map Vl.hold) with
  | some (ds, E2) => if ds.length ≤ LIM then .ok (.fr (.lst ds)) E2 else .er
  | none => .er
theorem snd_tup {ts : TA} {es : Sv → Rs (List Vl)} (h : SndA K a W ts es) : Snd K a W (tTup ts) (eTup es) := by
  intro B E σ H F C
  refine At.bind (ok' := OkV K a) (k := fun xs H1 Q => xs.length ≤ sizeLine ∧ ∀ p, H1 p = none → Q (.ref p) (upd H1 p (.tup xs))) (h B E σ H F C) fun vs E1 xs H1 F1 _ C1 s1 o1 => ?_
  obtain ⟨F2, C2, s2, o2⟩ := C1.holdAll o1
  cases e : Sv.frzs E1 (vs.map Vl.hold) with
  | none => trivial
  | some z =>
    obtain ⟨ds, E2⟩ := z
    dsimp only
    split
    · rename_i hz
      obtain ⟨F3, C3, s3, r3⟩ := C2.frzs o2 e
      intro Q q
      refine ⟨by rw [← r3.length]; exact Nat.le_trans hz lim_le, fun p hp => new_tup C3.le r3 (fun v H' F' g o => q v H' F' (C3.grow g) ((s2.trans s3).trans g.ff) ?_) hp⟩
      exact C3.res (b := false) g o
    · trivial
theorem snd_lst {ts : TA} {es : Sv → Rs (List Vl)} (h : SndA K a W ts es) : Snd K a W (tLst ts) (eLst es) := by
  intro B E σ H F C
  refine At.bind (ok' := OkV K a) (k := fun xs H1 Q => xs.length ≤ sizeLine ∧ ∀ p, H1 p = none → Q (.ref p) (upd H1 p (.lst xs))) (h B E σ H F C) fun vs E1 xs H1 F1 _ C1 s1 o1 => ?_
  obtain ⟨F2, C2, s2, o2⟩ := C1.holdAll o1
  cases e : Sv.frzs E1 (vs.map Vl.hold) with
  | none => trivial
  | some z =>
    obtain ⟨ds, E2⟩ := z
    dsimp only
    split
    · rename_i hz
      obtain ⟨F3, C3, s3, r3⟩ := C2.frzs o2 e
      intro Q q
      refine ⟨by rw [← r3.length]; exact Nat.le_trans hz lim_le, fun p hp => new_lst C3.le r3 (fun v H' F' g o => q v H' F' (C3.grow g) ((s2.trans s3).trans g.ff) ?_) hp⟩
      exact C3.res (b := true) g o
    · trivial
/-- *e in a display -/
def aStar (e : Sv → Rs Vl) (es : Sv → Rs (List Vl)) : Sv → Rs (List Vl) := fun E => (e E).bind fun v E1 => match v.get E1 with
  | some (.lst ds) => (es E1).bind fun vs E2 => .ok (ds.map Vl.dv ++ vs) E2
  | some (.tup ds) => (es E1).bind fun vs E2 => .ok (ds.map Vl.dv ++ vs) E2
  | _ => .er
theorem AllV.reps {E2 : Sv} {H2 F2 : Hp} (ff : Same F F2) : ∀ {ds : List D} {xs ys : List V} {vs : List Vl}, Reps K a F ds xs → AllV K a B E2 σ H2 F2 ys vs → AllV K a B E2 σ H2 F2 (xs ++ ys) (ds.map Vl.dv ++ vs)
  | [], _, _, _, r, h => by rw [Reps] at r; subst r; exact h
  | d :: ds, _, _, _, r, h => by
    obtain ⟨v, r', rfl, h1, h2⟩ := r.uncons
    exact .cons (v := .dv d) (h1.mono ff) (AllV.reps ff h2 h) fun p hp => by cases v <;> cases hp
theorem snd_astar {te : TE} {ts : TA} {e : Sv → Rs Vl} {es : Sv → Rs (List Vl)} (h : Snd K a W te e) (hs : SndA K a W ts es) : SndA K a W (StX.tStar K te ts) (aStar e es) := by
  intro B E σ H F C
  refine At.bind (ok' := OkA K a) (k := fun x H1 Q => ∃ p xs, x = V.ref p ∧ (SqT K H1 p xs ∨ SqL K H1 p xs) ∧ ts σ H1 fun ys H2 => Q (xs ++ ys) H2) (h B E σ H F C) fun v E1 x H1 F1 _ C1 s1 o1 => ?_
  obtain ⟨F1', C1', s1', o1'⟩ := C1.hold o1
  have core : ∀ (p : Addr) (xs : List V) (ds : List D), x = .ref p → (SqT K H1 p xs ∨ SqL K H1 p xs) → Reps K a F1' ds xs → At K a W (OkA K a) B σ F1 (fun Q => ∃ p xs, x = V.ref p ∧ (SqT K H1 p xs ∨ SqL K H1 p xs) ∧ ts σ H1 fun ys H2 => Q (xs ++ ys) H2) ((es E1).bind fun vs E2 => .ok (ds.map Vl.dv ++ vs) E2) := by
    intro p xs ds ex hx r
    refine At.monoT ((At.bind (ok' := OkA K a) (k := fun ys H2 Q => Q (xs ++ ys) H2) (hs B E1 σ H1 F1' C1') fun vs E2 ys H2 F2 _ C2 s2 o2 => ?_).low s1') fun Q h => ⟨p, xs, ex, hx, h⟩
    exact At.pure C2 (AllV.reps s2 r o2)
  cases e1 : v.get E1 with
  | none => trivial
  | some dd =>
    have vw := C1'.get_rep o1' (show v.hold.get E1 = some dd by cases v <;> exact e1)
    cases dd with
    | lst ds =>
      obtain ⟨p, xs, e2, hx, r⟩ := vw.lst C1'.le
      exact core p xs ds e2 (.inr (SqL.of hx)) r
    | tup ds =>
      obtain ⟨p, xs, e2, hx, r⟩ := vw.tup C1'.le
      exact core p xs ds e2 (.inl hx) r
    | _ => trivial
/-! ### list(range(..)), tuple(range(..)) -/
theorem rgV_eq (i j : Int) : rgV i j = (rgI i (j - i).toNat).map V.int := by
  unfold rgV rgI
  rw [List.map_map]
  rfl
def rgOk (i j : Int) : Bool := decide (-(2 ^ 62) ≤ i ∧ i < 2 ^ 62 ∧ -(2 ^ 62) ≤ j ∧ j < 2 ^ 62 ∧ (j - i).toNat ≤ 2 ^ 24)
def eRg (c : Bool) (i j : Int) (E : Sv) : Rs Vl := if rgOk i j = true then .ok (if c then .fr (.lst ((rgI i (j - i).toNat).map D.int)) else .dv (.tup ((rgI i (j - i).toNat).map D.int))) E else .er
def eRg1 (c : Bool) (e : Sv → Rs Vl) : Sv → Rs Vl := fun E => (e E).bind fun v E1 => match v with
  | .dv (.int n) => eRg c 0 n E1
  | _ => .er
def eRg2 (c : Bool) (e f : Sv → Rs Vl) : Sv → Rs Vl := fun E => (e E).bind fun v E1 => (f E1).bind fun w E2 => match v, w with
  | .dv (.int m), .dv (.int n) => eRg c m n E2
  | _, _ => .er
theorem eRg_lst {m n : Int} (C : Cc K a B E σ H F) : At K a W (OkV K a) B σ F (fun Q => RgOk m n ∧ ∀ q, H q = none → Q (.ref q) (upd H q (.lst (rgV m n)))) (eRg true m n E) := by
  unfold eRg
  split
  · rename_i h
    have h := of_decide_eq_true h
    refine fun Q q => ⟨h, fun p hp => ?_⟩
    rw [rgV_eq]
    exact new_lst C.le (Reps.ints.mpr rfl) (fun v H' F' g o => q v H' F' (C.grow g) g.ff (C.res (b := true) g o)) hp
  · trivial
theorem eRg_tup {m n : Int} (C : Cc K a B E σ H F) : At K a W (OkV K a) B σ F (fun Q => RgOk m n ∧ ∀ q, H q = none → Q (.ref q) (upd H q (.tup (rgV m n)))) (eRg false m n E) := by
  unfold eRg
  split
  · rename_i h
    have h := of_decide_eq_true h
    refine fun Q q => ⟨h, fun p hp => ?_⟩
    rw [rgV_eq]
    exact new_tup C.le (Reps.ints.mpr rfl) (fun v H' F' g o => q v H' F' (C.grow g) g.ff (C.res (b := false) g o)) hp
  · trivial
theorem vok_int {n : Int} {x : V} (h : VOk K a B E σ H F x (.dv (.int n))) : x = .int n := by
  have h2 : Rep K a F (.int n) x := h
  rwa [Rep] at h2
theorem vok_bl {n : Bool} {x : V} (h : VOk K a B E σ H F x (.dv (.bl n))) : x = .bl n := by
  have h2 : Rep K a F (.bl n) x := h
  rwa [Rep] at h2
theorem vok_str {n : Str} {x : V} (h : VOk K a B E σ H F x (.dv (.str n))) : x = .str n := by
  have h2 : Rep K a F (.str n) x := h
  rwa [Rep] at h2
theorem snd_lr1 {te : TE} {e : Sv → Rs Vl} (h : Snd K a W te e) : Snd K a W (tLstRg (tRg1 te)) (eRg1 true e) := by
  intro B E σ H F C
  refine At.bind (ok' := OkV K a) (k := fun x H1 Q => ∃ n, x = .int n ∧ (RgOk 0 n ∧ ∀ q, H1 q = none → Q (.ref q) (upd H1 q (.lst (rgV 0 n))))) (h B E σ H F C) fun v E1 x H1 F1 _ C1 s1 o1 => ?_
  cases v with
  | fr d => trivial
  | loc i => trivial
  | dv d =>
    cases d with
    | int n => exact At.monoT (eRg_lst C1) fun Q z => ⟨n, vok_int o1, z⟩
    | _ => trivial
theorem snd_tr1 {te : TE} {e : Sv → Rs Vl} (h : Snd K a W te e) : Snd K a W (tTupRg (tRg1 te)) (eRg1 false e) := by
  intro B E σ H F C
  refine At.bind (ok' := OkV K a) (k := fun x H1 Q => ∃ n, x = .int n ∧ (RgOk 0 n ∧ ∀ q, H1 q = none → Q (.ref q) (upd H1 q (.tup (rgV 0 n))))) (h B E σ H F C) fun v E1 x H1 F1 _ C1 s1 o1 => ?_
  cases v with
  | fr d => trivial
  | loc i => trivial
  | dv d =>
    cases d with
    | int n => exact At.monoT (eRg_tup C1) fun Q z => ⟨n, vok_int o1, z⟩
    | _ => trivial
theorem snd_lr2 {te tf : TE} {e f : Sv → Rs Vl} (h : Snd K a W te e) (h2 : Snd K a W tf f) : Snd K a W (tLstRg (tRg2 te tf)) (eRg2 true e f) := by
  intro B E σ H F C
  refine At.bind (ok' := OkV K a) (k := fun x H1 Q => tf σ H1 fun y H2 => ∃ i j, x = .int i ∧ y = .int j ∧ (RgOk i j ∧ ∀ q, H2 q = none → Q (.ref q) (upd H2 q (.lst (rgV i j))))) (h B E σ H F C) fun v E1 x H1 F1 _ C1 s1 o1 => ?_
  obtain ⟨F1', C1', s1', o1'⟩ := C1.hold o1
  refine (At.bind (ok' := OkV K a) (k := fun y H2 Q => ∃ i j, x = .int i ∧ y = .int j ∧ (RgOk i j ∧ ∀ q, H2 q = none → Q (.ref q) (upd H2 q (.lst (rgV i j))))) (h2 B E1 σ H1 F1' C1') fun w E2 y H2 F2 _ C2 s2 o2 => ?_).low s1'
  split
  · exact At.monoT (eRg_lst C2) fun Q z => ⟨_, _, vok_int o1, vok_int o2, z⟩
  · trivial
theorem snd_tr2 {te tf : TE} {e f : Sv → Rs Vl} (h : Snd K a W te e) (h2 : Snd K a W tf f) : Snd K a W (tTupRg (tRg2 te tf)) (eRg2 false e f) := by
  intro B E σ H F C
  refine At.bind (ok' := OkV K a) (k := fun x H1 Q => tf σ H1 fun y H2 => ∃ i j, x = .int i ∧ y = .int j ∧ (RgOk i j ∧ ∀ q, H2 q = none → Q (.ref q) (upd H2 q (.tup (rgV i j))))) (h B E σ H F C) fun v E1 x H1 F1 _ C1 s1 o1 => ?_
  obtain ⟨F1', C1', s1', o1'⟩ := C1.hold o1
  refine (At.bind (ok' := OkV K a) (k := fun y H2 Q => ∃ i j, x = .int i ∧ y = .int j ∧ (RgOk i j ∧ ∀ q, H2 q = none → Q (.ref q) (upd H2 q (.tup (rgV i j))))) (h2 B E1 σ H1 F1' C1') fun w E2 y H2 F2 _ C2 s2 o2 => ?_).low s1'
  split
  · exact At.monoT (eRg_tup C2) fun Q z => ⟨_, _, vok_int o1, vok_int o2, z⟩
  · trivial
/-! ### what is walked -/
def Yld (K : PySem.W.Frag) (a : Adr) (J : It) (ds : List D) (F : Hp) : Prop := ∀ (H2 F2 : Hp), Same F F2 → Same F2 H2 → ∀ i, (∀ d, ds[i]? = some d → J.go i H2 ∧ ∀ x H3, J.yld i H2 x H3 → ∃ F3, Gr H2 F2 H3 F3 ∧ Rep K a F3 d x) ∧ (ds.length ≤ i → J.stop i H2)
abbrev OkI (K : PySem.W.Frag) (a : Adr) : Bd → Sv → L2.St → Hp → Hp → It → List D → Prop := fun _ _ _ _ F J ds => Yld K a J ds F
def SndI (K : PySem.W.Frag) (a : Adr) (W : WX) (t : TI) (ev : Sv → Rs (List D)) : Prop := ∀ (B : Bd) (E : Sv) (σ : L2.St) (H F : Hp), Cc K a B E σ H F → At K a W (OkI K a) B σ F (t σ H) (ev E)
theorem yld_lst {p : Addr} {vs : List V} {ds : List D} (h : F p = some (.lst vs)) (r : Reps K a F ds vs) : Yld K a (Itl K p) ds F := by
  intro H2 F2 s l i
  have h2 : SqL K H2 p vs := SqL.of (l _ _ (s _ _ h))
  refine ⟨fun d hd => ?_, fun hi => ⟨vs, h2, by rw [← r.length]; exact hi⟩⟩
  obtain ⟨v, hv, rv⟩ := r.get hd
  refine ⟨⟨vs, v, h2, hv⟩, ?_⟩
  rintro x H3 ⟨rfl, hx⟩
  have := hx vs h2
  rw [hv] at this
  cases this
  exact ⟨F2, Gr.refl l, rv.mono s⟩
theorem yld_sq {p : Addr} {vs : List V} {ds : List D} (h : SqL K F p vs) (r : Reps K a F ds vs) : Yld K a (Itl K p) ds F := by
  intro H2 F2 s l i
  have h2 : SqL K H2 p vs := l.seq (s.seq h)
  refine ⟨fun d hd => ?_, fun hi => ⟨vs, h2, by rw [← r.length]; exact hi⟩⟩
  obtain ⟨v, hv, rv⟩ := r.get hd
  refine ⟨⟨vs, v, h2, hv⟩, ?_⟩
  rintro x H3 ⟨rfl, hx⟩
  have := hx vs h2
  rw [hv] at this
  cases this
  exact ⟨F2, Gr.refl l, rv.mono s⟩
theorem yld_tup {p : Addr} {vs : List V} {ds : List D} (h : SqT K F p vs) (r : Reps K a F ds vs) : Yld K a (Itt K p) ds F := by
  intro H2 F2 s l i
  have h2 : SqT K H2 p vs := Same.seqT l (Same.seqT s h)
  refine ⟨fun d hd => ?_, fun hi => ⟨vs, h2, by rw [← r.length]; exact hi⟩⟩
  obtain ⟨v, hv, rv⟩ := r.get hd
  refine ⟨⟨vs, v, h2, hv⟩, ?_⟩
  rintro x H3 ⟨rfl, hx⟩
  have := hx vs h2
  rw [hv] at this
  cases this
  exact ⟨F2, Gr.refl l, rv.mono s⟩
theorem yld_rng {lo : Int} {n : Nat} : Yld K a (Itr lo n) ((rgI lo n).map D.int) F := by
  intro H2 F2 s l i
  refine ⟨fun d hd => ?_, fun hi => by rw [List.length_map, rgI_length] at hi; exact hi⟩
  rw [List.getElem?_map] at hd
  have hi : i < n := by
    rcases Nat.lt_or_ge i n with h | h
    · exact h
    · rw [List.getElem?_eq_none (by rw [rgI_length]; exact h)] at hd
      cases hd
  rw [rgI_get hi] at hd
  cases hd
  refine ⟨hi, ?_⟩
  rintro x H3 ⟨rfl, rfl⟩
  exact ⟨F2, Gr.refl l, rep_int⟩
/-- lo, lo + c, .. -/
def rgC (lo c : Int) (n : Nat) : List Int := (List.range n).map fun (i : Nat) => lo + (i : Int) * c
theorem yld_rng3 {lo c : Int} {n : Nat} : Yld K a (Itc lo c n) ((rgC lo c n).map D.int) F := by
  intro H2 F2 s l i
  refine ⟨fun d hd => ?_, fun hi => by unfold rgC at hi; rw [List.length_map, List.length_map, List.length_range] at hi; exact hi⟩
  rw [List.getElem?_map] at hd
  have hi : i < n := by
    rcases Nat.lt_or_ge i n with h | h
    · exact h
    · rw [List.getElem?_eq_none (by unfold rgC; rw [List.length_map, List.length_range]; exact h)] at hd
      cases hd
  unfold rgC at hd
  rw [List.getElem?_map, List.getElem?_range hi] at hd
  cases hd
  refine ⟨hi, ?_⟩
  rintro x H3 ⟨rfl, rfl⟩
  exact ⟨F2, Gr.refl l, rep_int⟩
theorem yld_str {z : Str} : Yld K a (Its z) (z.cps.toList.map fun c => D.str ⟨#[c]⟩) F := by
  intro H2 F2 s l i
  refine ⟨fun d hd => ?_, fun hi => by rw [List.length_map, Array.length_toList] at hi; exact hi⟩
  rw [List.getElem?_map] at hd
  cases e : z.cps.toList[i]? with
  | none => rw [e] at hd; cases hd
  | some c =>
    rw [e] at hd
    cases hd
    have hi := (List.getElem?_eq_some_iff.mp e).1
    rw [Array.length_toList] at hi
    refine ⟨hi, ?_⟩
    rintro x H3 ⟨rfl, c2, h2, rfl⟩
    rw [← Array.getElem?_toList, e] at h2
    cases h2
    exact ⟨F2, Gr.refl l, rep_str⟩
theorem rep_pair {F2 H2 : Hp} {T : Addr} {dx dy : D} {x y : V} (l : Same F2 H2) (hT : H2 T = none) (rx : Rep K a F2 dx x) (ry : Rep K a F2 dy y) : ∃ F3, Gr H2 F2 (upd H2 T (.tup [x, y])) F3 ∧ Rep K a F3 (.tup [dx, dy]) (.ref T) := by
  have g := gr_frozen (o := .tup [x, y]) l hT
  refine ⟨_, g, ?_⟩
  rw [Rep]
  exact ⟨T, [x, y], rfl, SqT.of upd_same, .cons (rx.mono g.ff) (.cons (ry.mono g.ff) .nil)⟩
def enumD (ds : List D) : List D := ds.zipIdx.map fun (d, i) => .tup [.int (i : Nat), d]
theorem enumD_get {ds : List D} {i : Nat} {e : D} (h : (enumD ds)[i]? = some e) : ∃ d, ds[i]? = some d ∧ e = .tup [.int (i : Nat), d] := by
  unfold enumD at h
  rw [List.getElem?_map, List.getElem?_zipIdx] at h
  cases e2 : ds[i]? with
  | none => rw [e2] at h; cases h
  | some d => rw [e2] at h; cases h; exact ⟨d, rfl, by simp⟩
theorem enumD_length (ds : List D) : (enumD ds).length = ds.length := by unfold enumD; rw [List.length_map, List.length_zipIdx]
theorem yld_enL {p : Addr} {vs : List V} {ds : List D} (h : SqL K F p vs) (r : Reps K a F ds vs) : Yld K a (Ite K p) (enumD ds) F := by
  intro H2 F2 s l i
  have h2 : SqL K H2 p vs := l.seq (s.seq h)
  refine ⟨fun d hd => ?_, fun hi => ⟨vs, h2, by rw [← r.length, ← enumD_length]; exact hi⟩⟩
  obtain ⟨d, hd2, rfl⟩ := enumD_get hd
  obtain ⟨v, hv, rv⟩ := r.get hd2
  refine ⟨⟨vs, v, h2, hv⟩, ?_⟩
  rintro x H3 ⟨T, y, rfl, hT, rfl, hx⟩
  have := hx vs h2
  rw [hv] at this
  cases this
  exact rep_pair l hT rep_int (rv.mono s)
theorem yld_enT {p : Addr} {vs : List V} {ds : List D} (h : SqT K F p vs) (r : Reps K a F ds vs) : Yld K a (Ett K p) (enumD ds) F := by
  intro H2 F2 s l i
  have h2 : SqT K H2 p vs := Same.seqT l (Same.seqT s h)
  refine ⟨fun d hd => ?_, fun hi => ⟨vs, h2, by rw [← r.length, ← enumD_length]; exact hi⟩⟩
  obtain ⟨d, hd2, rfl⟩ := enumD_get hd
  obtain ⟨v, hv, rv⟩ := r.get hd2
  refine ⟨⟨vs, v, h2, hv⟩, ?_⟩
  rintro x H3 ⟨T, y, rfl, hT, rfl, hx⟩
  have := hx vs h2
  rw [hv] at this
  cases this
  exact rep_pair l hT rep_int (rv.mono s)
def zipD : List D → List D → List D
  | d :: ds, e :: es => .tup [d, e] :: zipD ds es
  | _, _ => []
theorem zipD_get : ∀ {ds es : List D} {i : Nat} {z : D}, (zipD ds es)[i]? = some z → ∃ d e, ds[i]? = some d ∧ es[i]? = some e ∧ z = .tup [d, e]
  | d :: ds, e :: es, 0, z, h => by cases h; exact ⟨d, e, rfl, rfl, rfl⟩
  | d :: ds, e :: es, i + 1, z, h => zipD_get (ds := ds) (es := es) (i := i) h
  | [], _, i, z, h => by unfold zipD at h; simp at h
  | _ :: _, [], i, z, h => by unfold zipD at h; simp at h
theorem zipD_end : ∀ {ds es : List D} {i : Nat}, (zipD ds es).length ≤ i → ds.length ≤ i ∨ es.length ≤ i
  | d :: ds, e :: es, 0, h => by unfold zipD at h; simp at h
  | d :: ds, e :: es, i + 1, h => by
    have := zipD_end (ds := ds) (es := es) (i := i) (by unfold zipD at h; simpa using h)
    simpa using this
  | [], _, i, h => .inl (Nat.zero_le _)
  | _ :: _, [], i, h => .inr (Nat.zero_le _)
theorem yld_zip {p q : Addr} {vs ws : List V} {ds es : List D} (h : SqL K F p vs) (g : SqL K F q ws) (r : Reps K a F ds vs) (r' : Reps K a F es ws) : Yld K a (Itz K p q) (zipD ds es) F := by
  intro H2 F2 s l i
  have h2 : SqL K H2 p vs := l.seq (s.seq h)
  have g2 : SqL K H2 q ws := l.seq (s.seq g)
  refine ⟨fun d hd => ?_, fun hi => ⟨vs, ws, h2, g2, by rw [← r.length, ← r'.length]; exact zipD_end hi⟩⟩
  obtain ⟨d, e, hd2, he, rfl⟩ := zipD_get hd
  obtain ⟨v, hv, rv⟩ := r.get hd2
  obtain ⟨w, hw, rw_⟩ := r'.get he
  refine ⟨⟨vs, ws, v, w, h2, g2, hv, hw⟩, ?_⟩
  rintro x H3 ⟨T, y1, y2, rfl, hT, rfl, hx, hy⟩
  have := hx vs h2
  rw [hv] at this
  cases this
  have := hy ws g2
  rw [hw] at this
  cases this
  exact rep_pair l hT (rv.mono s) (rw_.mono s)
/-- a list, a tuple, a text, the script -/
def itD : D → Option (List D)
  | .lst ds => some ds
  | .tup ds => some ds
  | .scr ns => some (ns.map D.int)
  | .str z => some (z.cps.toList.map fun c => D.str ⟨#[c]⟩)
  | _ => none
def iAny (e : Sv → Rs Vl) : Sv → Rs (List D) := fun E => (e E).bind fun v E1 => match E1.frz v with
  | some (d, E2) => match itD d with
    | some ds => .ok ds E2
    | none => .er
  | none => .er
def iAnyT (K : PySem.W.Frag) (te : TE) : TI := fun σ H R => te σ H fun x H1 => (∃ a, x = .ref a ∧ (((∃ xs, SqL K H1 a xs) ∧ R (Itl K a) H1) ∨ ((∃ xs, SqT K H1 a xs) ∧ R (Itt K a) H1))) ∨ ∃ z, x = .str z ∧ R (Its z) H1
theorem snd_iAny {te : TE} {e : Sv → Rs Vl} (h : Snd K a W te e) : SndI K a W (iAnyT K te) (iAny e) := by
  intro B E σ H F C
  refine At.bind (ok' := OkI K a) (k := fun x H1 R => (∃ a, x = .ref a ∧ (((∃ xs, SqL K H1 a xs) ∧ R (Itl K a) H1) ∨ ((∃ xs, SqT K H1 a xs) ∧ R (Itt K a) H1))) ∨ ∃ z, x = .str z ∧ R (Its z) H1) (h B E σ H F C) fun v E1 x H1 F1 _ C1 s1 o1 => ?_
  cases e1 : E1.frz v with
  | none => trivial
  | some z =>
    obtain ⟨d, E2⟩ := z
    obtain ⟨F2, C2, s2, r2⟩ := C1.frz o1 e1
    cases d with
    | lst ds =>
      rw [Rep] at r2
      obtain ⟨p, vs, rfl, hp, r⟩ := r2
      exact fun R k => .inl ⟨p, rfl, .inl ⟨⟨vs, SqL.of (C2.le _ _ hp)⟩, k _ _ _ C2 s2 (yld_lst hp r)⟩⟩
    | tup ds =>
      rw [Rep] at r2
      obtain ⟨p, vs, rfl, hp, r⟩ := r2
      exact fun R k => .inl ⟨p, rfl, .inr ⟨⟨vs, Same.seqT C2.le hp⟩, k _ _ _ C2 s2 (yld_tup hp r)⟩⟩
    | scr ns =>
      rw [Rep] at r2
      obtain ⟨p, rfl, hp⟩ := r2
      exact fun R k => .inl ⟨p, rfl, .inl ⟨⟨_, C2.le.seq hp⟩, k _ _ _ C2 s2 (yld_sq hp (Reps.ints.mpr rfl))⟩⟩
    | str z =>
      rw [Rep] at r2
      exact fun R k => .inr ⟨z, r2, k _ _ _ C2 s2 yld_str⟩
    | _ => trivial
def rngOk1 (j : Int) : Bool := decide (-(2 ^ 62) ≤ j ∧ j < 2 ^ 62)
def iRg1 (e : Sv → Rs (List Vl)) : Sv → Rs (List D) := fun E => (e E).bind fun vs E1 => match vs with
  | [.dv (.int j)] => if rngOk1 j = true then .ok ((rgI 0 j.toNat).map D.int) E1 else .er
  | _ => .er
def iRg2 (e : Sv → Rs (List Vl)) : Sv → Rs (List D) := fun E => (e E).bind fun vs E1 => match vs with
  | [.dv (.int i), .dv (.int j)] => if (rngOk1 i && rngOk1 j) = true then .ok ((rgI i (j - i).toNat).map D.int) E1 else .er
  | _ => .er
theorem allv1 {xs : List V} {v : Vl} (h : AllV K a B E σ H F xs [v]) : ∃ x, xs = [x] ∧ VOk K a B E σ H F x v := by
  cases h with
  | cons h1 h2 _ => cases h2; exact ⟨_, rfl, h1⟩
theorem allv2 {xs : List V} {v w : Vl} (h : AllV K a B E σ H F xs [v, w]) : ∃ x y, xs = [x, y] ∧ VOk K a B E σ H F x v ∧ VOk K a B E σ H F y w := by
  cases h with
  | cons h1 h2 _ =>
    obtain ⟨y, rfl, h3⟩ := allv1 h2
    exact ⟨_, y, rfl, h1, h3⟩
theorem allv3 {xs : List V} {u v w : Vl} (h : AllV K a B E σ H F xs [u, v, w]) : ∃ x y z, xs = [x, y, z] ∧ VOk K a B E σ H F x u ∧ VOk K a B E σ H F y v ∧ VOk K a B E σ H F z w := by
  cases h with
  | cons h1 h2 _ =>
    obtain ⟨y, z, rfl, h3, h4⟩ := allv2 h2
    exact ⟨_, y, z, rfl, h1, h3, h4⟩
theorem snd_iRg1 {ts : TA} {es : Sv → Rs (List Vl)} (h : SndA K a W ts es) : SndI K a W (iRng1 ts) (iRg1 es) := by
  intro B E σ H F C
  refine At.bind (ok' := OkI K a) (k := fun xs H1 R => ∃ j : Int, xs = [.int j] ∧ -(2 ^ 62) ≤ j ∧ j < 2 ^ 62 ∧ R (Itr 0 j.toNat) H1) (h B E σ H F C) fun vs E1 xs H1 F1 _ C1 s1 o1 => ?_
  split
  · rename_i j _
    split
    · rename_i hj
      obtain ⟨x, rfl, hx⟩ := allv1 o1
      have hj2 := of_decide_eq_true hj
      exact fun R k => ⟨j, by rw [vok_int hx], hj2.1, hj2.2, k _ _ _ C1 (Same.refl _) yld_rng⟩
    · trivial
  · trivial
theorem snd_iRg2 {ts : TA} {es : Sv → Rs (List Vl)} (h : SndA K a W ts es) : SndI K a W (iRng2 ts) (iRg2 es) := by
  intro B E σ H F C
  refine At.bind (ok' := OkI K a) (k := fun xs H1 R => ∃ i j : Int, xs = [.int i, .int j] ∧ (-(2 ^ 62) ≤ i ∧ i < 2 ^ 62 ∧ -(2 ^ 62) ≤ j ∧ j < 2 ^ 62) ∧ R (Itr i (j - i).toNat) H1) (h B E σ H F C) fun vs E1 xs H1 F1 _ C1 s1 o1 => ?_
  split
  · rename_i i j _
    split
    · rename_i hj
      obtain ⟨x, y, rfl, hx, hy⟩ := allv2 o1
      rw [Bool.and_eq_true] at hj
      have h1 := of_decide_eq_true hj.1
      have h2 := of_decide_eq_true hj.2
      exact fun R k => ⟨i, j, by rw [vok_int hx, vok_int hy], ⟨h1.1, h1.2, h2.1, h2.2⟩, k _ _ _ C1 (Same.refl _) yld_rng⟩
    · trivial
  · trivial
/-- range(i, j, c) -/
def rgLen (i j c : Int) : Nat := (Builtin.Range.rangeSize i j c).toNat
def rng3Ok (i j c : Int) : Bool := decide (c ≠ 0 ∧ c.natAbs < 1073741824) && Builtin.Range.small i j c && decide (0 ≤ Builtin.Range.rangeSize i j c)
def iRg3 (e : Sv → Rs (List Vl)) : Sv → Rs (List D) := fun E => (e E).bind fun vs E1 => match vs with
  | [.dv (.int i), .dv (.int j), .dv (.int c)] => if rng3Ok i j c = true then .ok ((rgC i c (rgLen i j c)).map D.int) E1 else .er
  | _ => .er
theorem snd_iRg3 {ts : TA} {es : Sv → Rs (List Vl)} (h : SndA K a W ts es) : SndI K a W (iRng3 ts) (iRg3 es) := by
  intro B E σ H F C
  refine At.bind (ok' := OkI K a) (k := fun xs H1 R => ∃ (i j c : Int) (n : Nat), xs = [.int i, .int j, .int c] ∧ RgC i j c n ∧ R (Itc i c n) H1) (h B E σ H F C) fun vs E1 xs H1 F1 _ C1 s1 o1 => ?_
  split
  · rename_i i j c _
    split
    · rename_i hj
      obtain ⟨x, y, z, rfl, hx, hy, hz⟩ := allv3 o1
      unfold rng3Ok at hj
      rw [Bool.and_eq_true, Bool.and_eq_true] at hj
      obtain ⟨⟨h1, h2⟩, h3⟩ := hj
      have h1' := of_decide_eq_true h1
      have h3' := of_decide_eq_true h3
      exact fun R k => ⟨i, j, c, _, by rw [vok_int hx, vok_int hy, vok_int hz], ⟨h1'.1, h1'.2, h2, by unfold rgLen; omega⟩, k _ _ _ C1 (Same.refl _) yld_rng3⟩
    · trivial
  · trivial
def iEnum1 (e : Sv → Rs Vl) : Sv → Rs (List D) := fun E => (e E).bind fun v E1 => match E1.frz v with
  | some (d, E2) => match d with
    | .lst ds => .ok (enumD ds) E2
    | .tup ds => .ok (enumD ds) E2
    | _ => .er
  | none => .er
theorem snd_iEnum {te : TE} {e : Sv → Rs Vl} (h : Snd K a W te e) : SndI K a W (iEnumS K (tCons te tNil)) (iEnum1 e) := by
  intro B E σ H F C
  refine At.bind (ok' := OkI K a) (k := fun x H1 R => ∃ a, [x] = [.ref a] ∧ (((∃ xs, SqL K H1 a xs) ∧ R (Ite K a) H1) ∨ ((∃ xs, SqT K H1 a xs) ∧ R (Ett K a) H1))) (h B E σ H F C) fun v E1 x H1 F1 _ C1 s1 o1 => ?_
  cases e1 : E1.frz v with
  | none => trivial
  | some z =>
    obtain ⟨d, E2⟩ := z
    obtain ⟨F2, C2, s2, r2⟩ := C1.frz o1 e1
    cases d with
    | lst ds =>
      rw [Rep] at r2
      obtain ⟨p, vs, rfl, hp, r⟩ := r2
      exact fun R k => ⟨p, rfl, .inl ⟨⟨vs, SqL.of (C2.le _ _ hp)⟩, k _ _ _ C2 s2 (yld_enL (SqL.of hp) r)⟩⟩
    | tup ds =>
      rw [Rep] at r2
      obtain ⟨p, vs, rfl, hp, r⟩ := r2
      exact fun R k => ⟨p, rfl, .inr ⟨⟨vs, Same.seqT C2.le hp⟩, k _ _ _ C2 s2 (yld_enT hp r)⟩⟩
    | _ => trivial
def iZip2 (e f : Sv → Rs Vl) : Sv → Rs (List D) := fun E => (e E).bind fun v E1 => match E1.frz v.hold with
  | some (.lst ds, E2) => (f E2).bind fun w E3 => match E3.frz w with
    | some (.lst es, E4) => .ok (zipD ds es) E4
    | _ => .er
  | _ => .er
theorem snd_iZip {te tf : TE} {e f : Sv → Rs Vl} (h : Snd K a W te e) (h2 : Snd K a W tf f) : SndI K a W (iZip K (tCons te (tCons tf tNil))) (iZip2 e f) := by
  intro B E σ H F C
  refine At.bind (ok' := OkI K a) (k := fun x H1 R => tf σ H1 fun y H2 => ∃ a b xs ys, [x, y] = [.ref a, .ref b] ∧ SqL K H2 a xs ∧ SqL K H2 b ys ∧ R (Itz K a b) H2) (h B E σ H F C) fun v E1 x H1 F1 _ C1 s1 o1 => ?_
  obtain ⟨F1', C1', s1', o1'⟩ := C1.hold o1
  cases e1 : E1.frz v.hold with
  | none => trivial
  | some z =>
    obtain ⟨d, E2⟩ := z
    obtain ⟨F2, C2, s2, r2⟩ := C1'.frz o1' e1
    cases d with
    | lst ds =>
      rw [Rep] at r2
      obtain ⟨p, vs, rfl, hp, r⟩ := r2
      refine (At.bind (ok' := OkI K a) (k := fun y H2 R => ∃ a b xs ys, [V.ref p, y] = [.ref a, .ref b] ∧ SqL K H2 a xs ∧ SqL K H2 b ys ∧ R (Itz K a b) H2) (h2 B E2 σ H1 F2 C2) fun w E3 y H3 F3 _ C3 s3 o3 => ?_).low (s1'.trans s2)
      cases e3 : E3.frz w with
      | none => trivial
      | some z =>
        obtain ⟨d2, E4⟩ := z
        obtain ⟨F4, C4, s4, r4⟩ := C3.frz o3 e3
        cases d2 with
        | lst es =>
          rw [Rep] at r4
          obtain ⟨q, ws, rfl, hq, r'⟩ := r4
          have hp4 := (s3.trans s4) _ _ hp
          exact fun R k => ⟨p, q, vs, ws, rfl, SqL.of (C4.le _ _ hp4), SqL.of (C4.le _ _ hq), k _ _ _ C4 s4 (yld_zip (SqL.of hp4) (SqL.of hq) (r.mono (s3.trans s4)) r')⟩
        | _ => trivial
    | _ => trivial
end
end TV

set_option Elab.async false
set_option linter.all false
set_option maxRecDepth 100000
set_option maxHeartbeats 4000000
/-! Statements. -/
namespace TV
open PySem PySem.Spec PyProof.Rows L2 TC
def Rs.bindS {α : Type} (r : Rs α) (f : α → Sv → SRs) : SRs := match r with
  | .ok v E => f v E
  | .ex c d E => .ex c d E
  | .er => .er
section
variable (K : PySem.W.Frag) (a : Adr) (W : WX)
def Acc (B : Bd) (F : Hp) (D : Ends) : SRs → Prop
  | .nx E1 => ∀ σ' H' F', Cc K a B E1 σ' H' F' → Same F F' → D.nx σ' H'
  | .rt v E1 => ∀ x σ' H' F', Cc K a B E1 σ' H' F' → Same F F' → VOk K a B E1 σ' H' F' x v → D.rt x H'
  | .bk E1 => ∀ σ' H' F', Cc K a B E1 σ' H' F' → Same F F' → D.bk σ' H'
  | .ct E1 => ∀ σ' H' F', Cc K a B E1 σ' H' F' → Same F F' → D.ct σ' H'
  | .ex c d E1 => ∀ dd σ' H' F', Cc K a B E1 σ' H' F' → Same F F' → ExOk K a F' c d dd → W (.ref (a.en c)) (some dd) σ' H'
  | .er => False
def SndS (t : TS) (ev : Sv → SRs) : Prop := ∀ (B : Bd) (E : Sv) (σ : L2.St) (H F : Hp), Cc K a B E σ H F → ∀ D : Ends, Acc K a W B F D (ev E) → t D σ H
def SndG (ts : List Nat) (g : TG) (tg : D → Sv → Option Sv) : Prop := ∀ (B : Bd) (E E1 : Sv) (σ : L2.St) (H F : Hp) (x : V) (d : D), Cc K a B E σ H F → Rep K a F d x → tg d E = some E1 → ∀ Q : L2.St → Hp → Prop, (∀ σ', Cc K a B E1 σ' H F → (∀ vs : List Nat, (∀ i ∈ ts, i ∈ vs) → wipe σ' vs = wipe σ vs) → Q σ' H) → g x σ H Q
def SndGs (ts : List Nat) (g : TGs) (tg : List D → Sv → Option Sv) : Prop := ∀ (B : Bd) (E E1 : Sv) (σ : L2.St) (H F : Hp) (xs : List V) (ds : List D), Cc K a B E σ H F → Reps K a F ds xs → tg ds E = some E1 → ∀ Q : L2.St → Hp → Prop, (∀ σ', Cc K a B E1 σ' H F → (∀ vs : List Nat, (∀ i ∈ ts, i ∈ vs) → wipe σ' vs = wipe σ vs) → Q σ' H) → g xs σ H Q
end
section
variable {K : PySem.W.Frag} {a : Adr} {W : WX} {B : Bd} {E E1 : Sv} {σ : L2.St} {H F H' F' : Hp} {x y v : V} {d : D} {p : Addr} {vl : Vl} {i j : Nat} {X : Cx}
theorem Acc.up {D : Ends} {r : SRs} (s : Same F F') (h : Acc K a W B F D r) : Acc K a W B F' D r := by
  cases r with
  | nx E1 => exact fun σ' H' F2 C s2 => h σ' H' F2 C (s.trans s2)
  | rt v E1 => exact fun x σ' H' F2 C s2 => h x σ' H' F2 C (s.trans s2)
  | bk E1 => exact fun σ' H' F2 C s2 => h σ' H' F2 C (s.trans s2)
  | ct E1 => exact fun σ' H' F2 C s2 => h σ' H' F2 C (s.trans s2)
  | ex c d E1 => exact fun dd σ' H' F2 C s2 => h dd σ' H' F2 C (s.trans s2)
  | er => exact h
theorem At.toS {α β : Type} {ok : Bd → Sv → L2.St → Hp → Hp → β → α → Prop} {t : (β → Hp → Prop) → Prop} {r : Rs α} {f : α → Sv → SRs} {D : Ends} {k : β → Hp → Prop} (h : At K a W ok B σ F t r) (A : Acc K a W B F D (r.bindS f))
    (hk : ∀ v E1 x H1 F1, r = .ok v E1 → Cc K a B E1 σ H1 F1 → Same F F1 → ok B E1 σ H1 F1 x v → Acc K a W B F1 D (f v E1) → k x H1) : t k := by
  cases r with
  | er => exact A.elim
  | ex c d E1 => exact h _ fun dd H' F' C s o => A dd σ H' F' C s o
  | ok v E1 => exact h _ fun x H' F' C s o => hk v E1 x H' F' rfl C s o (A.up s)
/-! ### simple ones -/
def sNext : Sv → SRs := fun E => .nx E
def sBrk : Sv → SRs := fun E => .bk E
def sCont : Sv → SRs := fun E => .ct E
def sSeq (t u : Sv → SRs) : Sv → SRs := fun E => match t E with
  | .nx E1 => u E1
  | r => r
theorem snd_next : SndS K a W tNext sNext := fun B E σ H F C D A => A σ H F C (Same.refl _)
theorem snd_brk : SndS K a W tBreak sBrk := fun B E σ H F C D A => A σ H F C (Same.refl _)
theorem snd_cont : SndS K a W tCont sCont := fun B E σ H F C D A => A σ H F C (Same.refl _)
theorem snd_seq {t u : TS} {et eu : Sv → SRs} (ht : SndS K a W t et) (hu : SndS K a W u eu) : SndS K a W (tSeq t u) (sSeq et eu) := by
  intro B E σ H F C D A
  refine ht B E σ H F C _ ?_
  unfold sSeq at A
  cases e : et E with
  | nx E1 =>
    rw [e] at A
    exact fun σ' H' F' C' s => hu B E1 σ' H' F' C' D (A.up s)
  | rt v E1 => rw [e] at A; exact A
  | bk E1 => rw [e] at A; exact A
  | ct E1 => rw [e] at A; exact A
  | ex c d E1 => rw [e] at A; exact A
  | er => rw [e] at A; exact A
def sDrop (e : Sv → Rs Vl) : Sv → SRs := fun E => (e E).bindS fun _ E1 => .nx E1
theorem snd_drop {te : TE} {e : Sv → Rs Vl} (h : Snd K a W te e) : SndS K a W (tDrop te) (sDrop e) := fun B E σ H F C D A =>
  At.toS (h B E σ H F C) A fun v E1 x H1 F1 _ C1 s1 o1 A1 => A1 σ H1 F1 C1 (Same.refl _)
def sRet (e : Sv → Rs Vl) : Sv → SRs := fun E => (e E).bindS fun v E1 => .rt v E1
theorem snd_ret {te : TE} {e : Sv → Rs Vl} (h : Snd K a W te e) : SndS K a W (tRet te) (sRet e) := fun B E σ H F C D A =>
  At.toS (k := D.rt) (h B E σ H F C) A fun v E1 x H1 F1 _ C1 s1 o1 A1 => A1 x σ H1 F1 C1 (Same.refl _) o1
def sRetN : Sv → SRs := fun E => .rt (.dv .non) E
theorem snd_retN : SndS K a W tRetN sRetN := fun B E σ H F C D A => A .non σ H F C (Same.refl _) (rep_non (K := K) (a := a) (F := F))
def sIf (c : Sv → Rs Bool) (t u : Sv → SRs) : Sv → SRs := fun E => (c E).bindS fun b E1 => match b with
  | true => t E1
  | false => u E1
theorem snd_ifS {c : TT} {t u : TS} {ec : Sv → Rs Bool} {et eu : Sv → SRs} (hc : SndT K a W c ec) (ht : SndS K a W t et) (hu : SndS K a W u eu) : SndS K a W (tIfS c t u) (sIf ec et eu) := fun B E σ H F C D A =>
  At.toS (k := fun b H1 => if b = true then t D σ H1 else u D σ H1) (hc B E σ H F C) A fun v E1 x H1 F1 _ C1 s1 o1 A1 => by
    have o1 : x = v := o1
    subst o1
    cases x with
    | true => exact ht B E1 σ H1 F1 C1 D A1
    | false => exact hu B E1 σ H1 F1 C1 D A1
/-! ### stores -/
theorem Cc.store {s : Sl} (C : Cc K a B E σ H F) (ok : SlOk K a B H F i x s) (hd : s.owned = true → ∀ p, x = .ref p → ∀ (l : Nat) (t : Sl), E[l]? = some (some t) → t.owned = true → σ[l]? ≠ some (some (.ref p))) :
    Cc K a B (E.set i (some s)) (σ.set i (some x)) H F := by
  refine ⟨by rw [List.length_set, List.length_set]; exact C.len, C.le, C.lo, C.new, C.keep, C.live, fun j t h => ?_, fun j l t u q h1 h2 h3 h4 h5 h6 => ?_, C.ctx⟩
  · rcases getElem?_set_cases h with ⟨rfl, e, hl⟩ | ⟨ne, h⟩
    · cases e
      refine ⟨x, ?_, ok⟩
      rw [List.getElem?_set_self (by rw [C.len]; exact hl)]
    · obtain ⟨v, hv, ok2⟩ := C.sl j t h
      exact ⟨v, by rw [List.getElem?_set_ne ne]; exact hv, ok2⟩
  · rcases getElem?_set_cases h1 with ⟨rfl, e, hl⟩ | ⟨ne, h1⟩
    · cases e
      rcases getElem?_set_cases h2 with ⟨rfl, e, hl⟩ | ⟨ne2, h2⟩
      · rfl
      · rw [List.getElem?_set_ne ne2] at h6
        rcases getElem?_set_cases h5 with ⟨_, e5, _⟩ | ⟨ne5, _⟩
        · cases e5
          exact (hd h3 q rfl l u h2 h4 h6).elim
        · exact (ne5 rfl).elim
    · rcases getElem?_set_cases h2 with ⟨rfl, e, hl⟩ | ⟨ne2, h2⟩
      · cases e
        rw [List.getElem?_set_ne ne] at h5
        rcases getElem?_set_cases h6 with ⟨_, e6, _⟩ | ⟨ne6, _⟩
        · cases e6
          exact (hd h4 q rfl j t h1 h3 h5).elim
        · exact (ne6 rfl).elim
      · rw [List.getElem?_set_ne ne] at h5
        rw [List.getElem?_set_ne ne2] at h6
        exact C.sep j l t u q h1 h2 h3 h4 h5 h6
def Sv.put (E : Sv) (i : Nat) : Vl → Option Sv
  | .dv d => some (E.set i (some (.val .pure d)))
  | .fr d => some (E.set i (some (.val .own d)))
  | .loc j => match E.frz (.loc j) with
    | some (d, E1) => some (E1.set i (some (.val .pure d)))
    | none => none
theorem Cc.putFr (C : Cc K a B E σ H F) (o : VOk K a B E σ H F x (.fr d)) : Cc K a B (E.set i (some (.val .own d))) (σ.set i (some x)) H F := by
  obtain ⟨p, rfl, f, m, t, n⟩ := o
  exact C.store (s := .val .own d) ⟨p, rfl, f, .inr m, t⟩ fun _ q e l t h1 h2 => by cases e; exact n l t h1 h2
theorem Cc.putDv (C : Cc K a B E σ H F) (o : Rep K a F d x) : Cc K a B (E.set i (some (.val .pure d))) (σ.set i (some x)) H F :=
  C.store (s := .val .pure d) o fun z => by cases z
theorem Cc.put (C : Cc K a B E σ H F) (o : VOk K a B E σ H F x vl) (e : E.put i vl = some E1) : ∃ F', Cc K a B E1 (σ.set i (some x)) H F' ∧ Same F F' := by
  cases vl with
  | dv d => cases e; exact ⟨F, C.putDv o, Same.refl _⟩
  | fr d => cases e; exact ⟨F, C.putFr o, Same.refl _⟩
  | loc j =>
    dsimp only [Sv.put] at e
    cases h : E.frz (.loc j) with
    | none => rw [h] at e; cases e
    | some z =>
      obtain ⟨d, E2⟩ := z
      rw [h] at e
      cases e
      obtain ⟨F', C', s, r⟩ := C.frz o h
      exact ⟨F', C'.putDv r, s⟩
def sAsg (e : Sv → Rs Vl) (i : Nat) : Sv → SRs := fun E => (e E).bindS fun v E1 => match E1.put i v with
  | some E2 => .nx E2
  | none => .er
theorem snd_asg {te : TE} {e : Sv → Rs Vl} (h : Snd K a W te e) : SndS K a W (tAsg te (gName i)) (sAsg e i) := fun B E σ H F C D A =>
  At.toS (k := fun x H1 => gName i x σ H1 D.nx) (h B E σ H F C) A fun v E1 x H1 F1 _ C1 s1 o1 A1 => by
    cases e1 : E1.put i v with
    | none => rw [e1] at A1; exact A1.elim
    | some E2 =>
      rw [e1] at A1
      obtain ⟨F2, C2, s2⟩ := C1.put o1 e1
      exact A1 _ H1 F2 C2 s2
/-- targets of frozen values -/
def gtName (i : Nat) : D → Sv → Option Sv := fun d E => some (E.set i (some (.val .pure d)))
theorem wipe_get {σ : L2.St} {k : Nat} : ∀ vs : List Nat, (wipe σ vs)[k]? = if k ∈ vs then (if k < σ.length then some none else none) else σ[k]?
  | [] => by rw [if_neg (by simp)]; rfl
  | v :: vs => by
    unfold wipe
    by_cases h : v = k
    · subst h
      rw [if_pos List.mem_cons_self, List.getElem?_set_self']
      cases e : (wipe σ vs)[v]? with
      | none =>
        have := List.getElem?_eq_none_iff.mp e
        rw [wipe_length] at this
        rw [if_neg (by omega)]
        rfl
      | some z =>
        have := (List.getElem?_eq_some_iff.mp e).1
        rw [wipe_length] at this
        rw [if_pos this]
        rfl
    · rw [List.getElem?_set_ne h, wipe_get vs]
      by_cases h2 : k ∈ vs
      · rw [if_pos h2, if_pos (List.mem_cons_of_mem _ h2)]
      · rw [if_neg h2, if_neg (fun z => by rcases List.mem_cons.mp z with z | z; exact h z.symm; exact h2 z)]
theorem wipe_set {σ : L2.St} {i : Nat} {x : Option V} {vs : List Nat} (h : i ∈ vs) : wipe (σ.set i x) vs = wipe σ vs := by
  refine List.ext_getElem? fun k => ?_
  rw [wipe_get, wipe_get, List.length_set]
  by_cases hk : k ∈ vs
  · rw [if_pos hk, if_pos hk]
  · rw [if_neg hk, if_neg hk, List.getElem?_set_ne (fun e : i = k => hk (by rw [← e]; exact h))]
theorem snd_gtName : SndG K a [i] (gName i) (gtName i) := fun B E E1 σ H F x d C r e Q q => by
  cases e
  exact q _ (C.putDv r) fun vs h => wipe_set (h i List.mem_cons_self)
def gtNil : List D → Sv → Option Sv
  | [], E => some E
  | _, _ => none
def gtCons (t : D → Sv → Option Sv) (u : List D → Sv → Option Sv) : List D → Sv → Option Sv
  | d :: ds, E => (t d E).bind fun E1 => u ds E1
  | _, _ => none
def gtTup (n : Nat) (t : List D → Sv → Option Sv) : D → Sv → Option Sv
  | .tup ds, E => if ds.length = n then t ds E else none
  | _, _ => none
theorem snd_gtNil : SndGs K a [] gNil gtNil := fun B E E1 σ H F xs ds C r e Q q => by
  cases ds with
  | nil =>
    cases e
    rw [Reps] at r
    exact ⟨r, q σ C fun _ _ => rfl⟩
  | cons d ds => cases e
theorem snd_gtCons {ts us : List Nat} {t : TG} {u : TGs} {et : D → Sv → Option Sv} {eu : List D → Sv → Option Sv} (ht : SndG K a ts t et) (hu : SndGs K a us u eu) : SndGs K a (ts ++ us) (gCons t u) (gtCons et eu) := fun B E E1 σ H F xs ds C r e Q q => by
  cases ds with
  | nil => cases e
  | cons d ds =>
    obtain ⟨v, r', rfl, h1, h2⟩ := r.uncons
    dsimp only [gtCons] at e
    cases e2 : et d E with
    | none => rw [e2] at e; cases e
    | some E2 =>
      rw [e2] at e
      exact ⟨v, r', rfl, ht B E E2 σ H F v d C h1 e2 _ fun σ' C' w1 => hu B E2 E1 σ' H F r' ds C' h2 e Q fun σ2 C2 w2 => q σ2 C2 fun vs hv => (w2 vs fun i hi => hv i (List.mem_append.mpr (.inr hi))).trans (w1 vs fun i hi => hv i (List.mem_append.mpr (.inl hi)))⟩
theorem snd_gtTup {ts : List Nat} {n : Nat} {t : TGs} {et : List D → Sv → Option Sv} (ht : SndGs K a ts t et) : SndG K a ts (gTup K n t) (gtTup n et) := fun B E E1 σ H F x d C r e Q q => by
  cases d <;> first | (cases e; done) | skip
  case tup ds =>
    rw [Rep] at r
    obtain ⟨p, vs, rfl, hs, r⟩ := r
    dsimp only [gtTup] at e
    split at e
    · rename_i hn
      exact ⟨p, vs, rfl, Same.seqT C.le hs, by rw [← r.length]; exact hn, ht B E E1 σ H F vs ds C r e Q q⟩
    · cases e
def sAsgT (e : Sv → Rs Vl) (tg : D → Sv → Option Sv) : Sv → SRs := fun E => (e E).bindS fun v E1 => match E1.frz v with
  | some (d, E2) => match tg d E2 with
    | some E3 => .nx E3
    | none => .er
  | none => .er
theorem snd_asgT {te : TE} {e : Sv → Rs Vl} {g : TG} {tg : D → Sv → Option Sv} {ts : List Nat} (h : Snd K a W te e) (hg : SndG K a ts g tg) : SndS K a W (tAsg te g) (sAsgT e tg) := fun B E σ H F C D A =>
  At.toS (k := fun x H1 => g x σ H1 D.nx) (h B E σ H F C) A fun v E1 x H1 F1 _ C1 s1 o1 A1 => by
    cases e1 : E1.frz v with
    | none => rw [e1] at A1; exact A1.elim
    | some z =>
      obtain ⟨d, E2⟩ := z
      rw [e1] at A1
      dsimp only at A1
      obtain ⟨F2, C2, s2, r2⟩ := C1.frz o1 e1
      cases e2 : tg d E2 with
      | none => rw [e2] at A1; exact A1.elim
      | some E3 =>
        rw [e2] at A1
        exact hg B E2 E3 σ H1 F2 x d C2 r2 e2 _ fun σ' C' _ => A1 σ' H1 F2 C' s2
/-! a, b = x, y -/
def Sv.unl (E : Sv) : Vl → Option (Vl × Sv)
  | .dv d => some (.dv d, E)
  | .fr d => some (.fr d, E)
  | .loc i => match E.frz (.loc i) with
    | some (d, E1) => some (.dv d, E1)
    | none => none
def Sv.unls : Sv → List Vl → Option (List Vl × Sv)
  | E, [] => some ([], E)
  | E, v :: vs => match E.unl v with
    | some (w, E1) => match Sv.unls E1 vs with
      | some (ws, E2) => some (w :: ws, E2)
      | none => none
    | none => none
/-- put behind all stores: no slot is named -/
inductive AllU (K : PySem.W.Frag) (a : Adr) (B : Bd) (E : Sv) (σ : L2.St) (H F : Hp) : List V → List Vl → Prop
  | nil : AllU K a B E σ H F [] []
  | cons {x : V} {v : Vl} {xs : List V} {vs : List Vl} : VOk K a B E σ H F x v → (∀ i, v ≠ .loc i) → AllU K a B E σ H F xs vs → (∀ p, frA x v = some p → p ∉ frAs xs vs) → AllU K a B E σ H F (x :: xs) (v :: vs)
theorem set_owned_sub {i : Nat} {d : D} {E : Sv} {j : Nat} {s : Sl} (h : (E.set i (some (.val .pure d)))[j]? = some (some s)) (hs : s.owned = true) : E[j]? = some (some s) := by
  rcases getElem?_set_cases h with ⟨_, e, _⟩ | ⟨_, h⟩
  · cases e; cases hs
  · exact h
/-- freezing a slot leaves the other values -/
theorem Cc.frz2 {d : D} (C : Cc K a B E σ H F) (hx : VOk K a B E σ H F x (.loc i)) (e : E.frz (.loc i) = some (d, E1)) : ∃ F', Cc K a B E1 σ H F' ∧ Same F F' ∧ Rep K a F' d x ∧ (∀ (z : V) (w : Vl), VOk K a B E σ H F z w → VOk K a B E1 σ H F' z w) := by
  have hx' : σ[i]? = some (some x) := hx
  dsimp only [Sv.frz] at e
  cases h : E[i]? with
  | none => rw [h] at e; cases e
  | some o =>
    cases o with
    | none => rw [h] at e; cases e
    | some s =>
      cases s with
      | exn c d' => rw [h] at e; cases e
      | val k d' =>
        rw [h] at e
        cases k with
        | prm => cases e
        | pure =>
          cases e
          obtain ⟨v, hv, ok⟩ := C.sl i _ h
          rw [hx'] at hv
          cases hv
          exact ⟨F, C, Same.refl _, ok, fun _ _ z => z⟩
        | own =>
          cases e
          have e0 : E.frz (.loc i) = some (d, E.set i (some (.val .pure d))) := by dsimp only [Sv.frz]; rw [h]
          obtain ⟨v, hv, ok⟩ := C.sl i _ h
          rw [hx'] at hv
          cases hv
          obtain ⟨p, rfl, f, m, t⟩ := ok
          obtain ⟨o, ho⟩ := t.some
          have ff : Same F (upd F p o) := Same.new f
          have rp := t.rep ff (upd_same.trans ho.symm)
          refine ⟨upd F p o, ?_, ff, rp, fun z w hz => ?_⟩
          · refine ⟨by rw [List.length_set]; exact C.len, fun q u e => ?_, C.lo.trans ff, fun q u e => ?_, C.keep, C.live, fun j t2 h2 => ?_, fun j l t2 u q h1 h2 h3 h4 h5 h6 => C.sep j l t2 u q (set_owned_sub h1 h3) (set_owned_sub h2 h4) h3 h4 h5 h6, a.mono _ _ ff C.ctx⟩
            · by_cases hq : q = p
              · subst hq; rw [upd_same] at e; cases e; exact ho
              · rw [upd_ne hq] at e; exact C.le _ _ e
            · by_cases hq : q = p
              · subst hq
                exact m.elim (fun m => .inr (.inr m)) fun m => .inr (.inl m)
              · rw [upd_ne hq] at e; exact C.new _ _ e
            · rcases getElem?_set_cases h2 with ⟨rfl, e, _⟩ | ⟨ne, h2⟩
              · cases e
                exact ⟨_, hx', rp⟩
              · obtain ⟨v2, hv2, ok2⟩ := C.sl j t2 h2
                refine ⟨v2, hv2, ok2.mono ff fun q u hs e hq hf2 => ⟨hq, ?_⟩⟩
                subst e
                rw [upd_ne fun z => ?_]
                · exact hf2
                · subst z
                  exact ne (C.sep i j _ _ q h h2 rfl hs hx' hv2)
          · cases w with
            | dv d => exact Rep.mono ff _ _ hz
            | loc j => exact hz
            | fr d =>
              obtain ⟨q, rfl, f2, m2, t2, n2⟩ := hz
              refine ⟨q, rfl, ?_, m2, t2.mono ff rfl, fun j s h1 h2 => n2 j s (set_owned_sub h1 h2) h2⟩
              rw [upd_ne fun z => ?_]
              · exact f2
              · subst z
                exact n2 i _ h rfl hx'
theorem Cc.unls : ∀ {vs ws : List Vl} {xs : List V} {E E1 : Sv} {F : Hp}, Cc K a B E σ H F → AllV K a B E σ H F xs vs → Sv.unls E vs = some (ws, E1) → ∃ F', Cc K a B E1 σ H F' ∧ Same F F' ∧ AllU K a B E1 σ H F' xs ws ∧ (∀ (z : V) (w : Vl), VOk K a B E σ H F z w → VOk K a B E1 σ H F' z w) ∧ frAs xs ws = frAs xs vs
  | [], _, _, E, _, F, C, h, e => by
    cases h
    cases e
    exact ⟨F, C, Same.refl _, .nil, fun _ _ z => z, rfl⟩
  | v :: vs, _, _, E, _, F, C, h, e => by
    unfold Sv.unls at e
    cases q1 : E.unl v with
    | none => rw [q1] at e; cases e
    | some z =>
      obtain ⟨w, E2⟩ := z
      rw [q1] at e
      dsimp only at e
      cases q2 : Sv.unls E2 vs with
      | none => rw [q2] at e; cases e
      | some z =>
        obtain ⟨ws, E3⟩ := z
        rw [q2] at e
        cases e
        cases h with
        | cons h1 h2 dd =>
          rename_i x xs
          have one : ∃ F2, Cc K a B E2 σ H F2 ∧ Same F F2 ∧ VOk K a B E2 σ H F2 x w ∧ (∀ i, w ≠ .loc i) ∧ frA x w = frA x v ∧ (∀ (z : V) (w : Vl), VOk K a B E σ H F z w → VOk K a B E2 σ H F2 z w) := by
            cases v with
            | dv d => cases q1; exact ⟨F, C, Same.refl _, h1, fun i z => (by cases z), rfl, fun _ _ z => z⟩
            | fr d => cases q1; exact ⟨F, C, Same.refl _, h1, fun i z => (by cases z), rfl, fun _ _ z => z⟩
            | loc j =>
              dsimp only [Sv.unl] at q1
              cases q3 : E.frz (.loc j) with
              | none => rw [q3] at q1; cases q1
              | some z =>
                obtain ⟨d, E4⟩ := z
                rw [q3] at q1
                cases q1
                obtain ⟨F2, C2, s2, r2, k2⟩ := C.frz2 h1 q3
                exact ⟨F2, C2, s2, r2, fun i z => (by cases z), by cases x <;> rfl, k2⟩
          obtain ⟨F2, C2, s2, o2, nl, ef, k2⟩ := one
          have all2 : ∀ {xs : List V} {vs : List Vl}, AllV K a B E σ H F xs vs → AllV K a B E2 σ H F2 xs vs := fun h => by
            induction h with
            | nil => exact .nil
            | cons a1 _ a3 ih => exact .cons (k2 _ _ a1) ih a3
          obtain ⟨F3, C3, s3, o3, k3, ef3⟩ := C2.unls (all2 h2) q2
          refine ⟨F3, C3, s2.trans s3, .cons (k3 _ _ o2) nl o3 fun p hp => ?_, fun z w hz => k3 _ _ (k2 _ _ hz), ?_⟩
          · rw [ef3]
            exact dd p (by rw [← ef]; exact hp)
          · unfold frAs
            rw [ef, ef3]
/-- stores one behind the other -/
def Sv.puts : Sv → List (Nat × Vl) → Sv
  | E, [] => E
  | E, (i, .dv d) :: r => Sv.puts (E.set i (some (.val .pure d))) r
  | E, (i, .fr d) :: r => Sv.puts (E.set i (some (.val .own d))) r
  | E, (_, .loc _) :: _ => E
def setAll : L2.St → List (Nat × V) → L2.St
  | σ, [] => σ
  | σ, (i, x) :: r => setAll (σ.set i (some x)) r
theorem VOk.stored {s : Sl} {z : V} (h : VOk K a B E σ H F x vl) (nl : ∀ i, vl ≠ .loc i) (hs : s.owned = true → ∀ p, frA x vl = some p → z ≠ .ref p) : VOk K a B (E.set i (some s)) (σ.set i (some z)) H F x vl := by
  cases vl with
  | dv d => exact h
  | loc j => exact (nl j rfl).elim
  | fr d =>
    obtain ⟨p, rfl, f, m, t, n⟩ := h
    refine ⟨p, rfl, f, m, t, fun j u h1 h2 h3 => ?_⟩
    rcases getElem?_set_cases h1 with ⟨rfl, e, hl⟩ | ⟨ne, h1⟩
    · cases e
      rcases getElem?_set_cases h3 with ⟨_, e3, _⟩ | ⟨ne3, _⟩
      · cases e3
        exact hs h2 p rfl rfl
      · exact ne3 rfl
    · rw [List.getElem?_set_ne ne] at h3
      exact n j u h1 h2 h3
theorem AllU.stored {s : Sl} {z : V} (hs : s.owned = true → ∃ q, z = .ref q ∧ ∀ (xs : List V) (vs : List Vl), True) : ∀ {xs : List V} {vs : List Vl}, AllU K a B E σ H F xs vs → (s.owned = true → ∀ p ∈ frAs xs vs, z ≠ .ref p) → AllU K a B (E.set i (some s)) (σ.set i (some z)) H F xs vs
  | _, _, .nil, _ => .nil
  | _, _, .cons (x := x) (v := v) (xs := xs) (vs := vs) h nl t dd, hq => by
    refine .cons (h.stored nl fun ho p hp => hq ho p (by unfold frAs; rw [hp]; exact List.mem_cons_self)) nl (t.stored hs fun ho p hp => hq ho p ?_) dd
    unfold frAs
    cases e : frA x v with
    | none => exact hp
    | some q => exact List.mem_cons_of_mem _ hp
theorem Cc.puts {ws : List Vl} {is : List Nat} {xs : List V} (C : Cc K a B E σ H F) (h : AllU K a B E σ H F xs ws) (hl : is.length = ws.length) : Cc K a B (Sv.puts E (is.zip ws)) (setAll σ (is.zip xs)) H F := by
  induction ws generalizing is xs E σ with
  | nil =>
    cases h
    rw [List.zip_nil_right, List.zip_nil_right]
    exact C
  | cons w ws ih =>
    cases is with
    | nil => cases hl
    | cons i is =>
      cases h with
      | cons h1 nl h2 dd =>
        rename_i x xs
        cases w with
        | loc j => exact (nl j rfl).elim
        | dv d => exact ih (C.putDv (i := i) h1) (h2.stored (s := .val .pure d) (fun z => by cases z) (fun z => by cases z)) (by simpa using hl)
        | fr d =>
          obtain ⟨q, hq, _⟩ := id h1
          exact ih (C.putFr (i := i) h1) (h2.stored (s := .val .own d) (fun _ => ⟨q, hq, fun _ _ => trivial⟩) fun _ p hp e => dd p (by rw [e]; rfl) hp) (by simpa using hl)
def sPar (is : List Nat) (es : Sv → Rs (List Vl)) : Sv → SRs := fun E => (es E).bindS fun vs E1 => match Sv.unls E1 vs with
  | some (ws, E2) => if is.length = ws.length then .nx (Sv.puts E2 (is.zip ws)) else .er
  | none => .er
theorem AllU.length {xs : List V} {vs : List Vl} (h : AllU K a B E σ H F xs vs) : xs.length = vs.length := by
  induction h with
  | nil => rfl
  | cons _ _ _ _ ih => rw [List.length_cons, List.length_cons, ih]
theorem par_core {is : List Nat} {ts : TA} {es : Sv → Rs (List Vl)} {D : Ends} (h : SndA K a W ts es) (C : Cc K a B E σ H F) (A : Acc K a W B F D (sPar is es E)) : ts σ H fun xs H1 => xs.length = is.length ∧ D.nx (setAll σ (is.zip xs)) H1 :=
  At.toS (k := fun xs H1 => xs.length = is.length ∧ D.nx (setAll σ (is.zip xs)) H1) (h B E σ H F C) A fun vs E1 xs H1 F1 _ C1 s1 o1 A1 => by
    cases e1 : Sv.unls E1 vs with
    | none => rw [e1] at A1; exact A1.elim
    | some z =>
      obtain ⟨ws, E2⟩ := z
      rw [e1] at A1
      dsimp only at A1
      split at A1
      · rename_i hl
        obtain ⟨F2, C2, s2, o2, _, _⟩ := C1.unls o1 e1
        exact ⟨by rw [o2.length, hl], A1 _ H1 F2 (C2.puts o2 hl) s2⟩
      · exact A1.elim
def tParN (is : List Nat) (ts : TA) : TS := fun D σ H => ts σ H fun xs H1 => xs.length = is.length ∧ D.nx (setAll σ (is.zip xs)) H1
/-- how the two readings of the layer follow -/
structure MonA (K : PySem.W.Frag) (ts : TA) : Prop where
  mono : ∀ (σ : L2.St) (H : Hp) (Q Q' : List V → Hp → Prop), (∀ xs H', Q xs H' → Q' xs H') → ts σ H Q → ts σ H Q'
theorem snd_par {i j : Nat} {ts : TA} {es : Sv → Rs (List Vl)} (h : SndA K a W ts es) : SndS K a W (tPar i j ts) (sPar [i, j] es) := fun B E σ H F C D A =>
  At.toS (k := fun xs H1 => ∃ v w, xs = [v, w] ∧ D.nx ((σ.set i (some v)).set j (some w)) H1) (h B E σ H F C) A fun vs E1 xs H1 F1 _ C1 s1 o1 A1 => by
    cases e1 : Sv.unls E1 vs with
    | none => rw [e1] at A1; exact A1.elim
    | some z =>
      obtain ⟨ws, E2⟩ := z
      rw [e1] at A1
      dsimp only at A1
      split at A1
      · rename_i hl
        obtain ⟨F2, C2, s2, o2, _, _⟩ := C1.unls o1 e1
        have hx := o2.length
        have n2 := A1 _ H1 F2 (C2.puts o2 hl) s2
        match ws, xs, hl, hx, n2 with
        | [w1, w2], [x1, x2], _, _, n2 => exact ⟨x1, x2, rfl, n2⟩
      · exact A1.elim
theorem snd_par3 {i j l : Nat} {ts : TA} {es : Sv → Rs (List Vl)} (h : SndA K a W ts es) : SndS K a W (tPar3 i j l ts) (sPar [i, j, l] es) := fun B E σ H F C D A =>
  At.toS (k := fun xs H1 => ∃ u v w, xs = [u, v, w] ∧ D.nx (((σ.set i (some u)).set j (some v)).set l (some w)) H1) (h B E σ H F C) A fun vs E1 xs H1 F1 _ C1 s1 o1 A1 => by
    cases e1 : Sv.unls E1 vs with
    | none => rw [e1] at A1; exact A1.elim
    | some z =>
      obtain ⟨ws, E2⟩ := z
      rw [e1] at A1
      dsimp only at A1
      split at A1
      · rename_i hl
        obtain ⟨F2, C2, s2, o2, _, _⟩ := C1.unls o1 e1
        have hx := o2.length
        have n2 := A1 _ H1 F2 (C2.puts o2 hl) s2
        match ws, xs, hl, hx, n2 with
        | [w1, w2, w3], [x1, x2, x3], _, _, n2 => exact ⟨x1, x2, x3, rfl, n2⟩
      · exact A1.elim
/-! ### a op= e -/
def sAug (f : D → D → Option (D × Bool)) (i : Nat) (e : Sv → Rs Vl) : Sv → SRs := fun E => match E[i]? with
  | some (some (.val .pure d)) => (e E).bindS fun w E1 => match w.get E1 with
    | some y => match f d y with
      | some (z, false) => .nx (E1.set i (some (.val .pure z)))
      | _ => .er
    | none => .er
  | _ => .er
theorem snd_aug {f : D → D → Option (D × Bool)} {te : TE} {tp : TIp} {e : Sv → Rs Vl} (hr : ROp K a tp f) (h : Snd K a W te e) : SndS K a W (tAug i te tp) (sAug f i e) := by
  intro B E σ H F C D A
  unfold sAug at A
  cases h0 : E[i]? with
  | none => rw [h0] at A; exact A.elim
  | some o =>
    cases o with
    | none => rw [h0] at A; exact A.elim
    | some s =>
      cases s with
      | exn c d => rw [h0] at A; exact A.elim
      | val k d =>
        cases k with
        | own => rw [h0] at A; exact A.elim
        | prm => rw [h0] at A; exact A.elim
        | pure =>
          rw [h0] at A
          obtain ⟨x, hx, ok⟩ := C.sl i _ h0
          refine ⟨x, hx, At.toS (k := fun y H1 => tp x y H1 fun z H2 => D.nx (σ.set i (some z)) H2) (h B E σ H F C) A fun w E1 y H1 F1 _ C1 s1 o1 A1 => ?_⟩
          cases e1 : w.get E1 with
          | none => rw [e1] at A1; exact A1.elim
          | some dy =>
            rw [e1] at A1
            dsimp only at A1
            cases e2 : f d dy with
            | none => rw [e2] at A1; exact A1.elim
            | some z =>
              obtain ⟨z, b⟩ := z
              rw [e2] at A1
              cases b with
              | true => exact A1.elim
              | false => exact hr H1 F1 x y d dy z false C1.le (.inl (Rep.mono s1 _ _ ok)) (C1.get_rep o1 e1) e2 _ fun v H' F' g o => A1 _ H' F' ((C1.grow g).putDv o) g.ff
/-! ### while -/
def eWhile (c : Sv → Rs Bool) (b : Sv → SRs) : Nat → Sv → SRs
  | 0, _ => .er
  | n + 1, E => (c E).bindS fun k E1 => match k with
    | true => match b E1 with
      | .nx E2 => eWhile c b n E2
      | .ct E2 => eWhile c b n E2
      | .bk E2 => .nx E2
      | r => r
    | false => .nx E1
theorem snd_while {n : Nat} {tc : TT} {tb : TS} {c : Sv → Rs Bool} {b : Sv → SRs} (hc : SndT K a W tc c) (hb : SndS K a W tb b) : SndS K a W (tWhile tc tb) (eWhile c b n) := by
  intro B E σ H F C D A
  refine ⟨fun m σ' H' => ∃ E' F', Cc K a B E' σ' H' F' ∧ Same F F' ∧ Acc K a W B F' D (eWhile c b m E'), ⟨n, E, F, C, Same.refl _, A⟩, ?_⟩
  rintro m σ1 H1 ⟨E1, F1, C1, s1, A1⟩
  cases m with
  | zero => exact A1.elim
  | succ m =>
    unfold eWhile at A1
    refine At.toS (k := fun k H1 => if k = true then ∃ N : L2.St → Hp → Prop, (∀ σ' H', N σ' H' → ∃ m', m' < m + 1 ∧ ∃ E' F', Cc K a B E' σ' H' F' ∧ Same F F' ∧ Acc K a W B F' D (eWhile c b m' E')) ∧ tb { D with nx := N, ct := N, bk := D.nx } σ1 H1 else D.nx σ1 H1) (hc B E1 σ1 H1 F1 C1) A1 fun k E2 k' H2 F2 _ C2 s2 o2 A2 => ?_
    have o2 : k' = k := o2
    subst o2
    cases k' with
    | false => exact A2 σ1 H2 F2 C2 (Same.refl _)
    | true =>
      refine ⟨fun σ' H' => ∃ E' F', Cc K a B E' σ' H' F' ∧ Same F F' ∧ Acc K a W B F' D (eWhile c b m E'), fun σ' H' z => ⟨m, Nat.lt_succ_self _, z⟩, hb B E2 σ1 H2 F2 C2 _ ?_⟩
      dsimp only at A2
      cases e : b E2 with
      | nx E3 => rw [e] at A2; exact fun σ' H' F' C' s => ⟨E3, F', C', (s1.trans s2).trans s, A2.up s⟩
      | ct E3 => rw [e] at A2; exact fun σ' H' F' C' s => ⟨E3, F', C', (s1.trans s2).trans s, A2.up s⟩
      | bk E3 => rw [e] at A2; exact A2
      | rt v E3 => rw [e] at A2; exact A2
      | ex c d E3 => rw [e] at A2; exact A2
      | er => rw [e] at A2; exact A2
/-! ### for -/
def loop (g : D → Sv → Option Sv) (b : Sv → SRs) : List D → Sv → SRs
  | [], E => .nx E
  | d :: ds, E => match g d E with
    | some E1 => match b E1 with
      | .nx E2 => loop g b ds E2
      | .ct E2 => loop g b ds E2
      | .bk E2 => .nx E2
      | r => r
    | none => .er
def sFor (it : Sv → Rs (List D)) (g : D → Sv → Option Sv) (b : Sv → SRs) : Sv → SRs := fun E => (it E).bindS fun ds E1 => loop g b ds E1
theorem snd_for {wi : TI} {tg : TG} {tb : TS} {it : Sv → Rs (List D)} {g : D → Sv → Option Sv} {b : Sv → SRs} {ts : List Nat} (hi : SndI K a W wi it) (hg : SndG K a ts tg g) (hb : SndS K a W tb b) : SndS K a W (tFor wi tg tb) (sFor it g b) := by
  intro B E σ H F C D A
  refine At.toS (k := fun J H1 => ∃ W : Nat → Nat → L2.St → Hp → Prop, (∃ m, W 0 m σ H1) ∧ ∀ i m σ H, W i m σ H →
    (J.stop i H ∧ D.nx σ H) ∨ (J.go i H ∧ ∃ N : L2.St → Hp → Prop, (∀ σ' H', N σ' H' → ∃ m', m' < m ∧ W (i + 1) m' σ' H') ∧ ∀ x H', J.yld i H x H' → tg x σ H' fun σ2 H2 => tb { D with nx := N, ct := N, bk := D.nx } σ2 H2)) (hi B E σ H F C) A fun ds E1 J H1 F1 _ C1 s1 o1 A1 => ?_
  refine ⟨fun i m σ' H' => ∃ E' F', Cc K a B E' σ' H' F' ∧ Same F1 F' ∧ i ≤ ds.length ∧ m = ds.length - i ∧ Acc K a W B F' D (loop g b (ds.drop i) E'), ⟨ds.length, E1, F1, C1, Same.refl _, Nat.zero_le _, rfl, A1⟩, ?_⟩
  rintro i m σ2 H2 ⟨E2, F2, C2, s2, hi2, rfl, A2⟩
  obtain ⟨y1, y2⟩ := o1 H2 F2 s2 C2.le i
  cases hd : ds[i]? with
  | none =>
    have hl : ds.length ≤ i := List.getElem?_eq_none_iff.mp hd
    rw [List.drop_eq_nil_of_le hl] at A2
    exact .inl ⟨y2 hl, A2 σ2 H2 F2 C2 (Same.refl _)⟩
  | some d =>
    obtain ⟨g1, g2⟩ := y1 d hd
    have hlt := (List.getElem?_eq_some_iff.mp hd).1
    have hdr : ds.drop i = d :: ds.drop (i + 1) := by rw [List.drop_eq_getElem_cons hlt, (List.getElem?_eq_some_iff.mp hd).2]
    rw [hdr] at A2
    refine .inr ⟨g1, fun σ' H' => ∃ E' F', Cc K a B E' σ' H' F' ∧ Same F1 F' ∧ Acc K a W B F' D (loop g b (ds.drop (i + 1)) E'), fun σ' H' ⟨E', F', C', s', A'⟩ => ⟨ds.length - (i + 1), by omega, E', F', C', s', hlt, rfl, A'⟩, fun x H3 hy => ?_⟩
    obtain ⟨F3, gr, rx⟩ := g2 x H3 hy
    have C3 := C2.grow gr
    unfold loop at A2
    cases e1 : g d E2 with
    | none => rw [e1] at A2; exact A2.elim
    | some E3 =>
      rw [e1] at A2
      dsimp only at A2
      refine hg B E2 E3 σ2 H3 F3 x d C3 rx e1 _ fun σ3 C4 _ => hb B E3 σ3 H3 F3 C4 _ ?_
      have A3 := A2.up gr.ff
      cases e : b E3 with
      | nx E4 => rw [e] at A3; exact fun σ' H' F' C' s => ⟨E4, F', C', (s2.trans gr.ff).trans s, A3.up s⟩
      | ct E4 => rw [e] at A3; exact fun σ' H' F' C' s => ⟨E4, F', C', (s2.trans gr.ff).trans s, A3.up s⟩
      | bk E4 => rw [e] at A3; exact A3
      | rt v E4 => rw [e] at A3; exact A3
      | ex c d E4 => rw [e] at A3; exact A3
      | er => rw [e] at A3; exact A3
end
end TV

set_option Elab.async false
set_option linter.all false
set_option maxRecDepth 100000
set_option maxHeartbeats 4000000
/-! Defs: their promises as evaluators; calls. -/
namespace TV
open PySem PySem.Spec PyProof.Rows L2 TC
inductive FRs where
  | ok (d : D) (fr : Bool) (outs : List D) | ex (c : En) (d : D) (outs : List D) | er
def MutA (ms : List Nat) (vs : List V) (p : Addr) : Prop := ∃ i, i ∈ ms ∧ vs[i]? = some (.ref p)
structure ArgsOk (K : PySem.W.Frag) (a : Adr) (ms : List Nat) (vs : List V) (ds : List D) (H F : Hp) : Prop where
  le : Same F H
  len : vs.length = ds.length
  mu : ∀ i v d, vs[i]? = some v → ds[i]? = some d → i ∈ ms → ∃ p, v = .ref p ∧ F p = none ∧ Top K a H F p d
  fro : ∀ i v d, vs[i]? = some v → ds[i]? = some d → i ∉ ms → Rep K a F d v
  sep : ∀ i j p, i ∈ ms → j ∈ ms → vs[i]? = some (.ref p) → vs[j]? = some (.ref p) → i = j
  has : ∀ i, i ∈ ms → i < vs.length
structure PostM (K : PySem.W.Frag) (a : Adr) (ms : List Nat) (vs : List V) (outs : List D) (H F H' F' : Hp) : Prop where
  ff : Same F F'
  le : Same F' H'
  nw : ∀ p o, F' p = some o → (∃ o', F p = some o') ∨ H p = none
  keep : ∀ p o, H p = some o → ¬ MutA ms vs p → H' p = some o
  live : ∀ p o, H p = some o → ∃ o', H' p = some o'
  out : ∀ i d, (i, d) ∈ ms.zip outs → ∃ p, vs[i]? = some (.ref p) ∧ F' p = none ∧ Top K a H' F' p d
  len : outs.length = ms.length
def spM (K : PySem.W.Frag) (a : Adr) (n : Nat) (ms : List Nat) (f : List D → FRs) : Sp := fun vs H Q E => vs.length = n ∧ ∃ F ds, ArgsOk K a ms vs ds H F ∧ match f ds with
  | .ok d fr outs => ∀ v H' F', PostM K a ms vs outs H F H' F' → ResOk K a H H' F' v d fr → Q v H'
  | .ex c d outs => ∀ dd H' F', PostM K a ms vs outs H F H' F' → ExOk K a F' c d dd → E (.ref (a.en c)) (some dd) H'
  | .er => False
/-! ### a body run -/
def sv0 (ms : List Nat) : Nat → List D → Sv
  | _, [] => []
  | i, d :: ds => some (.val (if i ∈ ms then .prm else .pure) d) :: sv0 ms (i + 1) ds
def getOuts (E : Sv) : List Nat → Option (List D)
  | [] => some []
  | m :: ms => match E[m]? with
    | some (some (.val .prm d)) => (getOuts E ms).map (d :: ·)
    | _ => none
def endF (ms : List Nat) : SRs → FRs
  | .nx E => match getOuts E ms with
    | some os => .ok .non false os
    | none => .er
  | .rt v E => match getOuts E ms with
    | some os => match v with
      | .dv d => .ok d false os
      | .fr d => .ok d true os
      | .loc i => match E[i]? with
        | some (some (.val .own d)) => .ok d true os
        | _ => .er
    | none => .er
  | .ex c d E => match getOuts E ms with
    | some os => .ex c d os
    | none => .er
  | _ => .er
def runF (ms : List Nat) (L : Nat) (body : Sv → SRs) (ds : List D) : FRs := endF ms (body (sv0 ms 0 ds ++ List.replicate (L - ds.length) none))
section
variable {K : PySem.W.Frag} {a : Adr} {W : WX} {B : Bd} {E E1 : Sv} {σ : L2.St} {H F H' F' : Hp} {x y v : V} {d : D} {p : Addr} {vl : Vl} {i j : Nat} {X : Cx}
theorem sv0_length (ms : List Nat) : ∀ (ds : List D) (i : Nat), (sv0 ms i ds).length = ds.length
  | [], _ => rfl
  | d :: ds, i => by unfold sv0; rw [List.length_cons, List.length_cons, sv0_length ms ds]
theorem sv0_get {ms : List Nat} : ∀ {ds : List D} {i j : Nat} {o : Option Sl}, (sv0 ms i ds)[j]? = some o → ∃ d, ds[j]? = some d ∧ o = some (.val (if i + j ∈ ms then .prm else .pure) d)
  | [], _, _, _, h => by unfold sv0 at h; simp at h
  | d :: ds, i, 0, o, h => by
    unfold sv0 at h
    cases h
    exact ⟨d, rfl, rfl⟩
  | d :: ds, i, j + 1, o, h => by
    unfold sv0 at h
    obtain ⟨d', h1, h2⟩ := sv0_get (ds := ds) (i := i + 1) (j := j) (by simpa using h)
    refine ⟨d', by simpa using h1, ?_⟩
    rw [show i + (j + 1) = i + 1 + j by omega]
    exact h2
theorem getOuts_length {E : Sv} : ∀ {ms : List Nat} {os : List D}, getOuts E ms = some os → os.length = ms.length
  | [], _, h => by cases h; rfl
  | m :: ms, os, h => by
    unfold getOuts at h
    split at h
    · cases e : getOuts E ms with
      | none => rw [e] at h; cases h
      | some r => rw [e] at h; cases h; rw [List.length_cons, List.length_cons, getOuts_length e]
    · cases h
theorem getOuts_get {E : Sv} : ∀ {ms : List Nat} {os : List D} {i : Nat} {d : D}, getOuts E ms = some os → (i, d) ∈ ms.zip os → E[i]? = some (some (.val .prm d))
  | [], _, _, _, h, hm => by cases h; cases hm
  | m :: ms, os, i, d, h, hm => by
    unfold getOuts at h
    split at h
    · rename_i d' hd
      cases e : getOuts E ms with
      | none => rw [e] at h; cases h
      | some r =>
        rw [e] at h
        cases h
        rw [List.zip_cons_cons] at hm
        cases hm with
        | head => exact hd
        | tail _ hm => exact getOuts_get e hm
    · cases h
def adrOf (vs : List V) (i : Nat) : Addr := match vs[i]? with
  | some (.ref p) => p
  | _ => 0
theorem cc_start {ms : List Nat} {vs : List V} {ds : List D} {N : List Str} (hphi : ∀ F, a.phi F) (A : ArgsOk K a ms vs ds H F) : Cc K a ⟨H, F, MutA ms vs, adrOf vs⟩ (sv0 ms 0 ds ++ List.replicate (N.length - ds.length) none) (L2.start N vs) H F := by
  have slot : ∀ (i : Nat) (s : Sl), (sv0 ms 0 ds ++ List.replicate (N.length - ds.length) none)[i]? = some (some s) → ∃ d v, ds[i]? = some d ∧ vs[i]? = some v ∧ (L2.start N vs)[i]? = some (some v) ∧ s = .val (if i ∈ ms then .prm else .pure) d := by
    intro i s h
    by_cases hi : i < ds.length
    · rw [List.getElem?_append_left (by rw [sv0_length]; exact hi)] at h
      obtain ⟨d, hd, e⟩ := sv0_get h
      cases e
      have hv : i < vs.length := by rw [A.len]; exact hi
      refine ⟨d, vs[i], hd, List.getElem?_eq_getElem hv, ?_, by rw [Nat.zero_add]⟩
      unfold L2.start
      rw [List.getElem?_append_left (by rw [List.length_map]; exact hv), List.getElem?_map, List.getElem?_eq_getElem hv]
      rfl
    · rw [List.getElem?_append_right (by rw [sv0_length]; omega), List.getElem?_replicate] at h
      split at h <;> cases h
  refine ⟨?_, A.le, Same.refl _, fun p o e => .inl ⟨o, e⟩, fun p o e _ => e, fun p o e => ⟨o, e⟩, fun i s h => ?_, fun i j s t p h1 h2 h3 h4 h5 h6 => ?_, hphi F⟩
  · unfold L2.start
    rw [List.length_append, List.length_append, List.length_map, List.length_replicate, List.length_replicate, sv0_length, A.len]
  · obtain ⟨d, v, hd, hv, hs, rfl⟩ := slot i s h
    refine ⟨v, hs, ?_⟩
    by_cases hm : i ∈ ms
    · rw [if_pos hm]
      obtain ⟨p, rfl, f, t⟩ := A.mu i v d hv hd hm
      have e : adrOf vs i = p := by unfold adrOf; rw [hv]
      show V.ref p = .ref (adrOf vs i) ∧ F (adrOf vs i) = none ∧ (MutA ms vs (adrOf vs i) ∨ H (adrOf vs i) = none) ∧ Top K a H F (adrOf vs i) d
      rw [e]
      exact ⟨rfl, f, .inl ⟨i, hm, hv⟩, t⟩
    · rw [if_neg hm]
      exact A.fro i v d hv hd hm
  · obtain ⟨d1, v1, hd1, hv1, hs1, rfl⟩ := slot i s h1
    obtain ⟨d2, v2, hd2, hv2, hs2, rfl⟩ := slot j t h2
    rw [hs1] at h5
    rw [hs2] at h6
    cases h5
    cases h6
    have m1 : i ∈ ms := by
      by_cases hm : i ∈ ms
      · exact hm
      · rw [if_neg hm] at h3; cases h3
    have m2 : j ∈ ms := by
      by_cases hm : j ∈ ms
      · exact hm
      · rw [if_neg hm] at h4; cases h4
    exact A.sep i j p m1 m2 hv1 hv2
theorem cc_end {ms : List Nat} {vs : List V} {ds os : List D} {E : Sv} {σ : L2.St} (A : ArgsOk K a ms vs ds H F) (C : Cc K a ⟨H, F, MutA ms vs, adrOf vs⟩ E σ H' F') (ho : getOuts E ms = some os) : PostM K a ms vs os H F H' F' := by
  have adr : ∀ i, i ∈ ms → ∃ p, vs[i]? = some (.ref p) ∧ adrOf vs i = p := fun i hi => by
    have hlt := A.has i hi
    have hlt2 : i < ds.length := by rw [← A.len]; exact hlt
    obtain ⟨p, hp, _⟩ := A.mu i vs[i] (ds[i]'hlt2) (List.getElem?_eq_getElem hlt) (List.getElem?_eq_getElem hlt2) hi
    have hv : vs[i]? = some (.ref p) := by rw [List.getElem?_eq_getElem hlt, hp]
    exact ⟨p, hv, by unfold adrOf; rw [hv]⟩
  have out : ∀ i d, (i, d) ∈ ms.zip os → ∃ p, vs[i]? = some (.ref p) ∧ F' p = none ∧ Top K a H' F' p d := fun i d hm => by
    have hi : i ∈ ms := (List.of_mem_zip hm).1
    obtain ⟨p, hv, ep⟩ := adr i hi
    obtain ⟨x, hx, ok⟩ := C.sl i _ (getOuts_get ho hm)
    obtain ⟨rfl, f, _, t⟩ := ok
    rw [show (Bd.P ⟨H, F, MutA ms vs, adrOf vs⟩) i = p from ep] at f t
    exact ⟨p, hv, f, t⟩
  refine ⟨C.lo, C.le, fun p o e => ?_, fun p o e nm => C.keep p o e nm, C.live, out, getOuts_length ho⟩
  rcases C.new p o e with h | h | ⟨i, hi, hv⟩
  · exact .inl h
  · exact .inr h
  · obtain ⟨k, hk, hk2⟩ := List.getElem_of_mem hi
    have hl := getOuts_length ho
    have hm : (i, os[k]'(by rw [hl]; exact hk)) ∈ ms.zip os := by
      rw [← hk2]
      exact List.mem_iff_getElem.mpr ⟨k, by rw [List.length_zip, hl]; omega, by rw [List.getElem_zip]⟩
    obtain ⟨p', hv', f, _⟩ := out i _ hm
    rw [hv] at hv'
    cases hv'
    rw [e] at f
    cases f
/-- a def's body does what its evaluator tells -/
theorem run_ok {n : Nat} {ms : List Nat} {N : List Str} {body : Sv → SRs} {t : TS} {vs : List V} {Q : VK} {E : XK} (hphi : ∀ F, a.phi F) (h : SndS K a (WO E) t body) (hsp : spM K a n ms (runF ms N.length body) vs H Q E) : t { nx := fun _ H' => Q .non H', rt := Q } (L2.start N vs) H := by
  obtain ⟨hn, F, ds, A, hf⟩ := hsp
  refine h _ _ _ _ _ (cc_start (N := N) hphi A) _ ?_
  unfold runF at hf
  generalize hr : body (sv0 ms 0 ds ++ List.replicate (N.length - ds.length) none) = r at hf
  have fine : ∀ (E' : Sv) (os : List D), getOuts E' ms = some os → ∀ (σ' : L2.St) (H' F' : Hp) (i : Nat) (x : V) (d : D), Cc K a ⟨H, F, MutA ms vs, adrOf vs⟩ E' σ' H' F' → E'[i]? = some (some (.val .own d)) → σ'[i]? = some (some x) → ResOk K a H H' F' x d true := fun E' os ho σ' H' F' i x d C hi hx => by
    obtain ⟨x', hx', ok⟩ := C.sl i _ hi
    rw [hx] at hx'
    cases hx'
    obtain ⟨p, rfl, f, m, t⟩ := ok
    refine ⟨p, rfl, ?_, f, t⟩
    rcases m with ⟨k, hk, hv⟩ | m
    · have P := cc_end A C ho
      obtain ⟨q, hq, hq2⟩ := List.getElem_of_mem hk
      have hl := getOuts_length ho
      have hm : (k, os[q]'(by rw [hl]; exact hq)) ∈ ms.zip os := by
        refine List.mem_iff_getElem.mpr ⟨q, by rw [List.length_zip, hl]; omega, ?_⟩
        rw [List.getElem_zip, hq2]
      have hs := getOuts_get ho hm
      obtain ⟨z, hz, ok2⟩ := C.sl k _ hs
      obtain ⟨rfl, _⟩ := ok2
      have ea : adrOf vs k = p := by unfold adrOf; rw [hv]
      rw [show (Bd.P ⟨H, F, MutA ms vs, adrOf vs⟩) k = p from ea] at hz
      have := C.sep i k _ _ p hi hs rfl rfl hx hz
      subst this
      rw [hi] at hs
      cases hs
    · exact m
  cases r with
  | er => exact hf.elim
  | bk E1 => exact hf.elim
  | ct E1 => exact hf.elim
  | nx E1 =>
    intro σ' H' F' C s
    dsimp only [endF] at hf
    cases ho : getOuts E1 ms with
    | none => rw [ho] at hf; exact hf.elim
    | some os => rw [ho] at hf; exact hf _ _ _ (cc_end A C ho) (by show Rep K a F' .non .non; rw [Rep])
  | ex c d E1 =>
    intro dd σ' H' F' C s o
    dsimp only [endF] at hf
    cases ho : getOuts E1 ms with
    | none => rw [ho] at hf; exact hf.elim
    | some os => rw [ho] at hf; exact hf _ _ _ (cc_end A C ho) o
  | rt v E1 =>
    intro x σ' H' F' C s o
    dsimp only [endF] at hf
    cases ho : getOuts E1 ms with
    | none => rw [ho] at hf; exact hf.elim
    | some os =>
      rw [ho] at hf
      cases v with
      | dv d => exact hf _ _ _ (cc_end A C ho) o
      | fr d =>
        obtain ⟨p, rfl, f, m, t, _⟩ := o
        exact hf _ _ _ (cc_end A C ho) ⟨p, rfl, m, f, t⟩
      | loc i =>
        dsimp only at hf
        cases hi : E1[i]? with
        | none => rw [hi] at hf; exact hf.elim
        | some s =>
          cases s with
          | none => rw [hi] at hf; exact hf.elim
          | some s =>
            cases s with
            | exn c d => rw [hi] at hf; exact hf.elim
            | val k d =>
              cases k with
              | pure => rw [hi] at hf; exact hf.elim
              | prm => rw [hi] at hf; exact hf.elim
              | own => rw [hi] at hf; exact hf _ _ _ (cc_end A C ho) (fine _ _ ho _ _ _ _ _ _ C hi o)
end
end TV

set_option Elab.async false
set_option linter.all false
set_option maxRecDepth 100000
set_option maxHeartbeats 4000000
/-! A call of an own def, by its evaluator. -/
namespace TV
open PySem PySem.Spec PyProof.Rows L2 TC
def D.flat : D → Bool
  | .non => true
  | .bl _ => true
  | .int _ => true
  | .str _ => true
  | .ty _ => true
  | .cls _ => true
  | _ => false
/-- the kinds of things that can be changed -/
inductive Kn where
  | lst | dct | obj (c : Cn)
  deriving DecidableEq
def D.head : D → Option Kn
  | .lst _ => some .lst
  | .scr _ => some .lst
  | .dct _ _ => some .dct
  | .obj c _ => some (.obj c)
  | _ => none
mutual
/-- nothing of these kinds is in it -/
def D.noK (ks : List Kn) : D → Bool
  | .non => true
  | .bl _ => true
  | .int _ => true
  | .str _ => true
  | .ty _ => true
  | .cls _ => true
  | .scr _ => !ks.contains .lst
  | .tup ds => D.noKL ks ds
  | .lst ds => !ks.contains .lst && D.noKL ks ds
  | .dct _ ds => !ks.contains .dct && D.noKL ks ds
  | .obj c ds => !ks.contains (.obj c) && D.noKL ks ds
def D.noKL (ks : List Kn) : List D → Bool
  | [] => true
  | d :: ds => D.noK ks d && D.noKL ks ds
end
def D.kids (ks : List Kn) : D → Bool
  | .lst ds => D.noKL ks ds
  | .obj _ ds => D.noKL ks ds
  | .dct _ ds => D.noKL ks ds
  | d => D.noK ks d
def safeR (ks : List Kn) (d : D) (fr : Bool) : Bool := if fr then d.kids ks else d.noK ks
def posLoc (j : Nat) : List Vl → Nat → Option Nat
  | [], _ => none
  | .loc i :: vs, m => if i = j then some m else posLoc j vs (m + 1)
  | _ :: vs, m => posLoc j vs (m + 1)
def locs : List Vl → List Nat
  | [] => []
  | .loc i :: vs => i :: locs vs
  | _ :: vs => locs vs
def ownedAt (E : Sv) (i : Nat) : Bool := match E[i]? with
  | some (some s) => s.owned
  | _ => false
def prmAt (E : Sv) (i : Nat) : Bool := match E[i]? with
  | some (some (.val .prm _)) => true
  | _ => false
def holdX (ms : List Nat) : Nat → List Vl → List Vl
  | _, [] => []
  | m, v :: vs => (if m ∈ ms then v else v.hold) :: holdX ms (m + 1) vs
/-- the kinds of the owned slots that are lent -/
def lentK (E : Sv) (ms : List Nat) : Nat → List Vl → List Kn
  | _, [] => []
  | m, v :: vs => (match v with
    | .loc i => if (ownedAt E i && !decide (m ∈ ms)) = true then (match v.get E with
      | some d => (match d.head with
        | some k => [k]
        | none => [])
      | none => []) else []
    | _ => []) ++ lentK E ms (m + 1) vs
def lendsPrm (E : Sv) (ms : List Nat) : Nat → List Vl → Bool
  | _, [] => false
  | m, v :: vs => (match v with
    | .loc i => prmAt E i && !decide (m ∈ ms)
    | _ => false) || lendsPrm E ms (m + 1) vs
def mutB (E : Sv) (ms : List Nat) : Nat → List Vl → Bool
  | _, [] => true
  | m, v :: vs => (!decide (m ∈ ms) || (match v with
    | .loc i => ownedAt E i
    | .fr _ => true
    | .dv _ => false)) && mutB E ms (m + 1) vs
def outAt (ms : List Nat) (outs : List D) (m : Nat) : Option D := match ms, outs with
  | k :: ms, d :: outs => if k = m then some d else outAt ms outs m
  | _, _ => none
def updSlot (vs : List Vl) (ms : List Nat) (outs : List D) (safe : Bool) (j : Nat) (s : Option Sl) : Option Sl := match s with
  | some (.val k d) => if k = .pure then s else match posLoc j vs 0 with
    | none => s
    | some m => match outAt ms outs m with
      | some d' => some (.val k d')
      | none => if safe then s else some (.val .pure d)
  | s => s
def updE (vs : List Vl) (ms : List Nat) (outs : List D) (safe : Bool) (E : Sv) : Sv := match locs vs with
  | [] => E
  | _ => E.mapIdx (updSlot vs ms outs safe)
def lendOk (E : Sv) (ms : List Nat) (vs : List Vl) (q : List Kn → Bool) : Bool := match lentK E ms 0 vs with
  | [] => true
  | k :: ks => q (k :: ks)
def callX (f : List D → FRs) (ms : List Nat) (vs0 : List Vl) (E : Sv) : Rs (Vl × List D) := match getAll E (holdX ms 0 vs0) with
  | some ds => if (mutB E ms 0 (holdX ms 0 vs0) && decide ((locs (holdX ms 0 vs0)).Nodup) && ms.all (fun m => decide (m < vs0.length)) && decide ms.Nodup) = true then match f ds with
      | .ok d fr outs => if lendOk E ms (holdX ms 0 vs0) (fun ks => safeR ks d fr && outs.all (D.kids ks)) = true then .ok (mkV d fr, outs) (updE (holdX ms 0 vs0) ms outs true E) else
          if lendsPrm E ms 0 (holdX ms 0 vs0) = true then .er else .ok (mkV d fr, outs) (updE (holdX ms 0 vs0) ms outs false E)
      | .ex c d outs => if lendOk E ms (holdX ms 0 vs0) (fun ks => d.noK ks && outs.all (D.kids ks)) = true then .ex c d (updE (holdX ms 0 vs0) ms outs true E) else
          if lendsPrm E ms 0 (holdX ms 0 vs0) = true then .er else .ex c d (updE (holdX ms 0 vs0) ms outs false E)
      | .er => .er
    else .er
  | none => .er
section
variable {K : PySem.W.Frag} {a : Adr} {W : WX} {B : Bd} {E E1 : Sv} {σ : L2.St} {H F H' F' : Hp} {x y v : V} {d : D} {p : Addr} {vl : Vl} {i j : Nat} {X : Cx}
/-! ### lists of arguments, place by place -/
theorem AllV.at_ : ∀ {xs : List V} {vs : List Vl}, AllV K a B E σ H F xs vs → xs.length = vs.length ∧ (∀ (m : Nat) (x : V) (v : Vl), xs[m]? = some x → vs[m]? = some v → VOk K a B E σ H F x v) ∧
    (∀ (m k : Nat) (x y : V) (v w : Vl) (p : Addr), xs[m]? = some x → vs[m]? = some v → xs[k]? = some y → vs[k]? = some w → frA x v = some p → frA y w = some p → m = k)
  | _, _, .nil => ⟨rfl, fun m x v h => by simp at h, fun m k x y v w p h => by simp at h⟩
  | _, _, .cons (x := x0) (v := v0) (xs := xs) (vs := vs) h t dd => by
    obtain ⟨l, q, s⟩ := t.at_
    have mem : ∀ (k : Nat) (y : V) (w : Vl) (p : Addr), xs[k]? = some y → vs[k]? = some w → frA y w = some p → p ∈ frAs xs vs := by
      intro k y w p hy hw hp
      clear q s h t dd
      induction xs generalizing vs k with
      | nil => simp at hy
      | cons x1 xs ih =>
        cases vs with
        | nil => simp at hw
        | cons v1 vs =>
          unfold frAs
          cases k with
          | zero =>
            simp at hy hw
            subst hy hw
            rw [hp]
            exact List.mem_cons_self
          | succ k =>
            have := ih (vs := vs) (k := k) (by simpa using l) (by simpa using hy) (by simpa using hw)
            cases frA x1 v1 with
            | none => exact this
            | some z => exact List.mem_cons_of_mem _ this
    refine ⟨by rw [List.length_cons, List.length_cons, l], fun m x v hx hv => ?_, fun m k x y v w p hx hv hy hw e1 e2 => ?_⟩
    · cases m with
      | zero => simp at hx hv; subst hx hv; exact h
      | succ m => exact q m x v (by simpa using hx) (by simpa using hv)
    · cases m with
      | zero =>
        simp at hx hv
        subst hx hv
        cases k with
        | zero => rfl
        | succ k => exact (dd p e1 (mem k y w p (by simpa using hy) (by simpa using hw) e2)).elim
      | succ m =>
        cases k with
        | zero =>
          simp at hy hw
          subst hy hw
          exact (dd p e2 (mem m x v p (by simpa using hx) (by simpa using hv) e1)).elim
        | succ k => rw [s m k x y v w p (by simpa using hx) (by simpa using hv) (by simpa using hy) (by simpa using hw) e1 e2]
theorem VOk.addNew {F2 : Hp} (ff : Same F F2) (h : VOk K a B E σ H F x vl) (hn : ∀ p, frA x vl = some p → F2 p = none) : VOk K a B E σ H F2 x vl := by
  cases vl with
  | dv d => exact Rep.mono ff _ _ h
  | loc i => exact h
  | fr d =>
    obtain ⟨p, rfl, f, m, t, n⟩ := h
    exact ⟨p, rfl, hn p rfl, m, t.mono ff rfl, n⟩
theorem frA_hold (x : V) (v : Vl) : frA x v.hold = none := by cases x <;> cases v <;> rfl
theorem Cc.holdX (ms : List Nat) : ∀ {vs : List Vl} {m : Nat} {xs : List V} {F : Hp}, Cc K a B E σ H F → AllV K a B E σ H F xs vs → ∃ F', Cc K a B E σ H F' ∧ Same F F' ∧ AllV K a B E σ H F' xs (TV.holdX ms m vs) ∧ (∀ q o, F' q = some o → (∃ o', F q = some o') ∨ q ∈ frAs xs vs) ∧ (∀ q ∈ frAs xs (TV.holdX ms m vs), q ∈ frAs xs vs)
  | [], m, _, F, C, h => by
    cases h
    exact ⟨F, C, Same.refl _, .nil, fun q o e => .inl ⟨o, e⟩, fun q hq => hq⟩
  | v :: vs, m, _, F, C, h => by
    cases h with
    | cons h1 h2 dd =>
      rename_i x xs
      obtain ⟨F1, C1, s1, t1, n1, k1⟩ := Cc.holdX ms (m := m + 1) C h2
      have hx1 : VOk K a B E σ H F1 x v := h1.addNew s1 fun p hp => by
        cases e : F1 p with
        | none => rfl
        | some o =>
          rcases n1 p o e with ⟨o', h⟩ | h
          · cases v with
            | dv d => cases x <;> cases hp
            | loc i => cases x <;> cases hp
            | fr d => obtain ⟨q, rfl, f, _⟩ := h1; cases hp; rw [h] at f; cases f
          · exact (dd p hp h).elim
      have memC : ∀ q, q ∈ frAs xs vs → q ∈ frAs (x :: xs) (v :: vs) := fun q hq => by
        unfold frAs
        cases frA x v with
        | none => exact hq
        | some z => exact List.mem_cons_of_mem _ hq
      by_cases hm : m ∈ ms
      · refine ⟨F1, C1, s1, ?_, fun q o e => (n1 q o e).imp id (memC q), fun q hq => ?_⟩
        · unfold TV.holdX
          rw [if_pos hm]
          exact .cons hx1 t1 fun p hp hq => dd p hp (k1 p hq)
        · unfold TV.holdX at hq
          rw [if_pos hm] at hq
          unfold frAs at hq ⊢
          cases e : frA x v with
          | none => rw [e] at hq; exact k1 q hq
          | some z =>
            rw [e] at hq
            rcases List.mem_cons.mp hq with h | h
            · exact List.mem_cons.mpr (.inl h)
            · exact List.mem_cons.mpr (.inr (k1 q h))
      · have fin : ∀ F2, Cc K a B E σ H F2 → Same F1 F2 → VOk K a B E σ H F2 x v.hold → (∀ q o, F2 q = some o → (∃ o', F1 q = some o') ∨ frA x v = some q) → ∃ F', Cc K a B E σ H F' ∧ Same F F' ∧ AllV K a B E σ H F' (x :: xs) (TV.holdX ms m (v :: vs)) ∧ (∀ q o, F' q = some o → (∃ o', F q = some o') ∨ q ∈ frAs (x :: xs) (v :: vs)) ∧ (∀ q ∈ frAs (x :: xs) (TV.holdX ms m (v :: vs)), q ∈ frAs (x :: xs) (v :: vs)) := by
          intro F2 C2 s2 o2 n2
          have t2 : AllV K a B E σ H F2 xs (TV.holdX ms (m + 1) vs) := by
            have gen : ∀ {xs : List V} {ws : List Vl}, AllV K a B E σ H F1 xs ws → (∀ p ∈ frAs xs ws, F2 p = none) → AllV K a B E σ H F2 xs ws := fun h => by
              induction h with
              | nil => exact fun _ => .nil
              | cons a1 _ a3 ih =>
                rename_i x1 v1 xs1 vs1 _
                intro hn
                refine .cons (a1.addNew s2 fun p hp => hn p (by unfold frAs; rw [hp]; exact List.mem_cons_self)) (ih fun p hp => hn p ?_) a3
                unfold frAs
                cases frA x1 v1 with
                | none => exact hp
                | some z => exact List.mem_cons_of_mem _ hp
            refine gen t1 fun p hp => ?_
            cases e : F2 p with
            | none => rfl
            | some o =>
              rcases n2 p o e with ⟨o', h⟩ | h
              · have := t1
                have fr0 : ∀ {xs : List V} {ws : List Vl}, AllV K a B E σ H F1 xs ws → ∀ p ∈ frAs xs ws, F1 p = none := fun h => by
                  induction h with
                  | nil => exact fun p hp => by cases hp
                  | cons a1 _ a3 ih =>
                    rename_i x1 v1 xs1 vs1 _
                    intro p hp
                    unfold frAs at hp
                    cases e : frA x1 v1 with
                    | none => rw [e] at hp; exact ih p hp
                    | some z =>
                      rw [e] at hp
                      rcases List.mem_cons.mp hp with h | h
                      · subst h
                        cases v1 with
                        | dv d => cases x1 <;> cases e
                        | loc i => cases x1 <;> cases e
                        | fr d => obtain ⟨q, rfl, f, _⟩ := a1; cases e; exact f
                      · exact ih p h
                have := fr0 t1 p hp
                rw [h] at this
                cases this
              · exact (dd p h (k1 p hp)).elim
          refine ⟨F2, C2, s1.trans s2, ?_, fun q o e => ?_, fun q hq => ?_⟩
          · show AllV K a B E σ H F2 (x :: xs) ((if m ∈ ms then v else v.hold) :: TV.holdX ms (m + 1) vs)
            rw [if_neg hm]
            exact .cons o2 t2 fun p hp => by rw [frA_hold] at hp; cases hp
          · rcases n2 q o e with ⟨o', h⟩ | h
            · exact (n1 q o' h).imp id (memC q)
            · refine .inr ?_
              unfold frAs
              rw [h]
              exact List.mem_cons_self
          · have hq : q ∈ frAs (x :: xs) ((if m ∈ ms then v else v.hold) :: TV.holdX ms (m + 1) vs) := hq
            rw [if_neg hm] at hq
            unfold frAs at hq
            rw [frA_hold] at hq
            exact memC q (k1 q hq)
        cases v with
        | dv d => exact fin F1 C1 (Same.refl _) hx1 fun q o e => .inl ⟨o, e⟩
        | loc i => exact fin F1 C1 (Same.refl _) hx1 fun q o e => .inl ⟨o, e⟩
        | fr d =>
          obtain ⟨p, rfl, f, m, t, n⟩ := hx1
          obtain ⟨o, ho⟩ := t.some
          refine fin (upd F1 p o) (C1.freeze ho f (.inr m) n) (Same.new f) (t.rep (Same.new f) (upd_same.trans ho.symm)) fun q u e => ?_
          by_cases hq : q = p
          · subst hq; exact .inr rfl
          · rw [upd_ne hq] at e; exact .inl ⟨u, e⟩
theorem holdX_get {ms : List Nat} : ∀ {vs : List Vl} {m k : Nat} {w : Vl}, (TV.holdX ms m vs)[k]? = some w → ∃ v, vs[k]? = some v ∧ ((m + k ∈ ms ∧ w = v) ∨ (m + k ∉ ms ∧ w = v.hold))
  | [], _, _, _, h => by unfold TV.holdX at h; simp at h
  | v :: vs, m, 0, w, h => by
    unfold TV.holdX at h
    by_cases hm : m ∈ ms
    · rw [if_pos hm] at h; cases h; exact ⟨v, rfl, .inl ⟨hm, rfl⟩⟩
    · rw [if_neg hm] at h; cases h; exact ⟨v, rfl, .inr ⟨hm, rfl⟩⟩
  | v :: vs, m, k + 1, w, h => by
    unfold TV.holdX at h
    obtain ⟨v', h1, h2⟩ := holdX_get (vs := vs) (m := m + 1) (k := k) (by simpa using h)
    refine ⟨v', by simpa using h1, ?_⟩
    rw [show m + (k + 1) = m + 1 + k by omega]
    exact h2
theorem holdX_length (ms : List Nat) : ∀ (vs : List Vl) (m : Nat), (TV.holdX ms m vs).length = vs.length
  | [], _ => rfl
  | v :: vs, m => by unfold TV.holdX; rw [List.length_cons, List.length_cons, holdX_length ms vs]
theorem getAll_at : ∀ {vs : List Vl} {ds : List D}, getAll E vs = some ds → ds.length = vs.length ∧ ∀ (m : Nat) (v : Vl) (d : D), vs[m]? = some v → ds[m]? = some d → v.get E = some d
  | [], _, h => by cases h; exact ⟨rfl, fun m v d h => by simp at h⟩
  | v :: vs, _, h => by
    unfold getAll at h
    cases e1 : v.get E with
    | none => rw [e1] at h; cases h
    | some d =>
      cases e2 : getAll E vs with
      | none => rw [e1, e2] at h; cases h
      | some ds =>
        rw [e1, e2] at h
        cases h
        obtain ⟨l, q⟩ := getAll_at e2
        refine ⟨by rw [List.length_cons, List.length_cons, l], fun m w z hw hz => ?_⟩
        cases m with
        | zero => simp at hw hz; subst hw hz; exact e1
        | succ m => exact q m w z (by simpa using hw) (by simpa using hz)
theorem locs_mem : ∀ {vs : List Vl} {m i : Nat}, vs[m]? = some (.loc i) → i ∈ locs vs
  | [], _, _, h => by simp at h
  | v :: vs, 0, i, h => by cases h; unfold locs; exact List.mem_cons_self
  | v :: vs, m + 1, i, h => by
    have := locs_mem (vs := vs) (m := m) (i := i) (by simpa using h)
    cases v with
    | dv d => exact this
    | fr d => exact this
    | loc j => exact List.mem_cons_of_mem _ this
theorem locs_inj : ∀ {vs : List Vl} {m k i : Nat}, (locs vs).Nodup → vs[m]? = some (.loc i) → vs[k]? = some (.loc i) → m = k
  | [], _, _, _, _, h, _ => by simp at h
  | v :: vs, m, k, i, nd, h1, h2 => by
    have nd2 : (locs vs).Nodup := by
      cases v with
      | dv d => exact nd
      | fr d => exact nd
      | loc j => exact (List.nodup_cons.mp nd).2
    cases m with
    | zero =>
      cases k with
      | zero => rfl
      | succ k =>
        cases h1
        exact ((List.nodup_cons.mp nd).1 (locs_mem (vs := vs) (m := k) (by simpa using h2))).elim
    | succ m =>
      cases k with
      | zero =>
        cases h2
        exact ((List.nodup_cons.mp nd).1 (locs_mem (vs := vs) (m := m) (by simpa using h1))).elim
      | succ k => exact congrArg (· + 1) (locs_inj (vs := vs) (m := m) (k := k) (i := i) nd2 (by simpa using h1) (by simpa using h2))
theorem posLoc_some {j : Nat} : ∀ {vs : List Vl} {m k : Nat}, posLoc j vs m = some k → m ≤ k ∧ vs[k - m]? = some (.loc j)
  | [], _, _, h => by cases h
  | v :: vs, m, k, h => by
    have tail : posLoc j vs (m + 1) = some k → m ≤ k ∧ (v :: vs)[k - m]? = some (.loc j) := fun h => by
      obtain ⟨h1, h2⟩ := posLoc_some h
      refine ⟨by omega, ?_⟩
      rw [show k - m = (k - (m + 1)) + 1 by omega, List.getElem?_cons_succ]
      exact h2
    cases v with
    | dv d => exact tail h
    | fr d => exact tail h
    | loc i =>
      unfold posLoc at h
      by_cases e : i = j
      · rw [if_pos e] at h
        cases h
        subst e
        exact ⟨Nat.le_refl _, by rw [Nat.sub_self]; rfl⟩
      · rw [if_neg e] at h
        exact tail h
theorem posLoc_none {j : Nat} : ∀ {vs : List Vl} {m : Nat}, posLoc j vs m = none → ∀ k : Nat, vs[k]? ≠ some (Vl.loc j)
  | [], _, _, k, h => by simp at h
  | v :: vs, m, h, k, hk => by
    have tail : posLoc j vs (m + 1) = none → k ≠ 0 → False := fun h hk0 => by
      obtain ⟨k', rfl⟩ : ∃ k', k = k' + 1 := ⟨k - 1, by omega⟩
      exact posLoc_none h k' (by simpa using hk)
    cases v with
    | dv d => exact tail h (fun e => by subst e; cases hk)
    | fr d => exact tail h (fun e => by subst e; cases hk)
    | loc i =>
      unfold posLoc at h
      by_cases e : i = j
      · rw [if_pos e] at h; cases h
      · rw [if_neg e] at h
        exact tail h (fun z => by subst z; cases hk; exact e rfl)
theorem outAt_some : ∀ {ms : List Nat} {outs : List D} {m : Nat} {d : D}, outAt ms outs m = some d → (m, d) ∈ ms.zip outs
  | [], outs, m, d, h => by cases outs <;> cases h
  | k :: ms, [], m, d, h => by cases h
  | k :: ms, o :: outs, m, d, h => by
    unfold outAt at h
    by_cases e : k = m
    · rw [if_pos e] at h; cases h; subst e; rw [List.zip_cons_cons]; exact List.mem_cons_self
    · rw [if_neg e] at h; rw [List.zip_cons_cons]; exact List.mem_cons_of_mem _ (outAt_some h)
theorem outAt_none : ∀ {ms : List Nat} {outs : List D} {m : Nat}, outs.length = ms.length → outAt ms outs m = none → m ∉ ms
  | [], _, _, _, _, h => by cases h
  | k :: ms, [], _, l, _, _ => by cases l
  | k :: ms, o :: outs, m, l, h, hm => by
    unfold outAt at h
    by_cases e : k = m
    · rw [if_pos e] at h; cases h
    · rw [if_neg e] at h
      rcases List.mem_cons.mp hm with z | z
      · exact e z.symm
      · exact outAt_none (by simpa using l) h z
theorem head_of {H F : Hp} {p : Addr} {d : D} (t : Top K a H F p d) : ∃ k, d.head = some k := by
  cases d <;> first | exact t.elim | exact ⟨_, rfl⟩
theorem lentK_mem {ms : List Nat} : ∀ {vs : List Vl} {m k i : Nat} {d : D} {h : Kn}, vs[k]? = some (.loc i) → ownedAt E i = true → m + k ∉ ms → (Vl.loc i).get E = some d → d.head = some h → h ∈ lentK E ms m vs
  | [], _, _, _, _, _, h, _, _, _, _ => by simp at h
  | v :: vs, m, 0, i, d, h, hk, ho, hm, hg, hh => by
    cases hk
    unfold lentK
    refine List.mem_append.mpr (.inl ?_)
    dsimp only
    rw [ho, show decide (m ∈ ms) = false from decide_eq_false hm, hg]
    dsimp only
    rw [hh]
    exact List.mem_cons_self
  | v :: vs, m, k + 1, i, d, h, hk, ho, hm, hg, hh => by
    unfold lentK
    exact List.mem_append.mpr (.inr (lentK_mem (vs := vs) (m := m + 1) (k := k) (by simpa using hk) ho (by rw [show m + 1 + k = m + (k + 1) by omega]; exact hm) hg hh))
theorem lendsPrm_false {ms : List Nat} : ∀ {vs : List Vl} {m k i : Nat}, lendsPrm E ms m vs = false → vs[k]? = some (.loc i) → m + k ∉ ms → prmAt E i = false
  | [], _, _, _, _, h, _ => by simp at h
  | v :: vs, m, 0, i, h, hk, ho => by
    cases hk
    unfold lendsPrm at h
    rw [Bool.or_eq_false_iff] at h
    have h1 := h.1
    dsimp only at h1
    rw [show decide (m ∈ ms) = false from decide_eq_false ho] at h1
    simpa using h1
  | v :: vs, m, k + 1, i, h, hk, ho => by
    unfold lendsPrm at h
    rw [Bool.or_eq_false_iff] at h
    exact lendsPrm_false (vs := vs) (m := m + 1) (k := k) h.2 (by simpa using hk) (by rw [show m + 1 + k = m + (k + 1) by omega]; exact ho)
theorem mutB_at {ms : List Nat} : ∀ {vs : List Vl} {m k : Nat} {v : Vl}, mutB E ms m vs = true → vs[k]? = some v → m + k ∈ ms → (∃ d, v = .fr d) ∨ ∃ i, v = .loc i ∧ ownedAt E i = true
  | [], _, _, _, _, h, _ => by simp at h
  | w :: vs, m, 0, v, h, hk, ho => by
    cases hk
    unfold mutB at h
    rw [Bool.and_eq_true, Bool.or_eq_true] at h
    rcases h.1 with z | z
    · rw [show decide (m ∈ ms) = true from decide_eq_true ho] at z; cases z
    · cases w with
      | dv d => cases z
      | fr d => exact .inl ⟨d, rfl⟩
      | loc i => exact .inr ⟨i, rfl, z⟩
  | w :: vs, m, k + 1, v, h, hk, ho => by
    unfold mutB at h
    rw [Bool.and_eq_true] at h
    exact mutB_at (vs := vs) (m := m + 1) (k := k) h.2 (by simpa using hk) (by rw [show m + 1 + k = m + (k + 1) by omega]; exact ho)
theorem ownedAt_of {i : Nat} (h : ownedAt E i = true) : ∃ s, E[i]? = some (some s) ∧ s.owned = true := by
  unfold ownedAt at h
  split at h
  · rename_i s hs; exact ⟨s, hs, h⟩
  · cases h
/-- the kind of what stands at an address -/
def knO (a : Adr) : HO → Kn → Prop
  | .lst _, k => k = .lst
  | .dK _, k => k = .dct
  | .dT _, k => k = .dct
  | .ins C _ _, k => ∃ c, C = a.cn c ∧ k = .obj c
  | _, _ => False
theorem topKn {H F : Hp} {p : Addr} {d : D} {k : Kn} (t : Top K a H F p d) (hk : d.head = some k) : ∃ o, H p = some o ∧ knO a o k := by
  cases d with
  | lst ds => obtain ⟨vs, h, r⟩ := t; cases hk; exact ⟨_, h, rfl⟩
  | obj c ds => obtain ⟨dx, vs, h, l, r⟩ := t; cases hk; exact ⟨_, h, c, rfl, rfl⟩
  | dct ks ds => obtain ⟨vs, r, ⟨_, _, _, h⟩ | ⟨_, _, _, _, h⟩⟩ := t <;> cases hk <;> exact ⟨_, h, rfl⟩
  | _ => exact t.elim
theorem top_kind {H F : Hp} {p : Addr} {d : D} (t : Top K a H F p d) : ∃ o, H p = some o ∧ ∀ fs, o ≠ .xd fs := by
  cases d with
  | lst ds => obtain ⟨vs, h, r⟩ := t; exact ⟨_, h, fun fs e => by cases e⟩
  | obj c ds => obtain ⟨dx, vs, h, l, r⟩ := t; exact ⟨_, h, fun fs e => by cases e⟩
  | dct ks ds => obtain ⟨vs, r, ⟨_, _, _, h⟩ | ⟨_, _, _, _, h⟩⟩ := t <;> exact ⟨_, h, fun fs e => by cases e⟩
  | _ => exact t.elim
/-- the addresses that are lent -/
def Lent (E : Sv) (σ : L2.St) (ms : List Nat) (vs : List Vl) (p : Addr) : Prop := ∃ m i, m ∉ ms ∧ vs[m]? = some (.loc i) ∧ ownedAt E i = true ∧ σ[i]? = some (some (.ref p))
open Classical in
noncomputable def addC (H F : Hp) (L : Addr → Prop) : Hp := fun p => if L p then H p else F p
open Classical in
noncomputable def delC (F : Hp) (L : Addr → Prop) : Hp := fun p => if L p then none else F p
theorem addC_in {L : Addr → Prop} (h : L p) : addC H F L p = H p := by unfold addC; rw [if_pos h]
theorem addC_out {L : Addr → Prop} (h : ¬ L p) : addC H F L p = F p := by unfold addC; rw [if_neg h]
theorem delC_in {L : Addr → Prop} (h : L p) : delC F L p = none := by unfold delC; rw [if_pos h]
theorem delC_out {L : Addr → Prop} (h : ¬ L p) : delC F L p = F p := by unfold delC; rw [if_neg h]
/-- the kinds of what is left out -/
def KnL (a : Adr) (F : Hp) (L : Addr → Prop) (ks : List Kn) : Prop := ∀ p, L p → ∃ o k, F p = some o ∧ knO a o k ∧ k ∈ ks
theorem not_mem_of {ks : List Kn} {k : Kn} (h : (!ks.contains k) = true) : k ∉ ks := by
  intro hm
  have : ks.contains k = true := List.contains_iff_mem.mpr hm
  rw [this] at h
  cases h
theorem sqT_del {F : Hp} {L : Addr → Prop} {ks : List Kn} {p : Addr} {vs : List V} (hL : KnL a F L ks) (s : SqT K F p vs) : SqT K (delC F L) p vs := by
  rcases s with (s | ⟨o, s⟩) | s
  · refine .inl (.inl ?_)
    by_cases h : L p
    · obtain ⟨o, k, e, hk, _⟩ := hL p h
      rw [s] at e
      cases e
      exact hk.elim
    · rw [delC_out h]; exact s
  · refine .inl (.inr ⟨o, ?_⟩)
    by_cases h : L p
    · obtain ⟨o, k, e, hk, _⟩ := hL p h
      rw [s] at e
      cases e
      exact hk.elim
    · rw [delC_out h]; exact s
  · exact .inr s
mutual
theorem rep_del {F : Hp} {L : Addr → Prop} {ks : List Kn} (hL : KnL a F L ks) : ∀ (d : D) (v : V), D.noK ks d = true → Rep K a F d v → Rep K a (delC F L) d v
  | .non, _, _, h => by rw [Rep] at h ⊢; exact h
  | .bl _, _, _, h => by rw [Rep] at h ⊢; exact h
  | .int _, _, _, h => by rw [Rep] at h ⊢; exact h
  | .str _, _, _, h => by rw [Rep] at h ⊢; exact h
  | .ty _, _, _, h => by rw [Rep] at h ⊢; exact h
  | .cls _, _, _, h => by rw [Rep] at h ⊢; exact h
  | .scr ns, _, e, h => by
    rw [D.noK] at e
    rw [Rep] at h ⊢
    obtain ⟨p, rfl, s⟩ := h
    refine ⟨p, rfl, ?_⟩
    by_cases hp : L p
    · obtain ⟨o, k, e1, hk, hm⟩ := hL p hp
      rcases s with (s | ⟨o2, s⟩) | s
      · rw [s] at e1; cases e1; cases hk; exact (not_mem_of e hm).elim
      · rw [s] at e1; cases e1; exact hk.elim
      · exact .inr s
    · rcases s with (s | ⟨o2, s⟩) | s
      · exact .inl (.inl ((delC_out hp).trans s))
      · exact .inl (.inr ⟨o2, (delC_out hp).trans s⟩)
      · exact .inr s
  | .tup ds, _, e, h => by
    rw [D.noK] at e
    rw [Rep] at h ⊢
    obtain ⟨p, vs, rfl, s, r⟩ := h
    exact ⟨p, vs, rfl, sqT_del hL s, reps_del hL ds vs e r⟩
  | .lst ds, _, e, h => by
    rw [D.noK, Bool.and_eq_true] at e
    rw [Rep] at h ⊢
    obtain ⟨p, vs, rfl, s, r⟩ := h
    refine ⟨p, vs, rfl, ?_, reps_del hL ds vs e.2 r⟩
    rw [delC_out fun hp => ?_]
    · exact s
    · obtain ⟨o, k, e1, hk, hm⟩ := hL p hp
      rw [s] at e1
      cases e1
      cases hk
      exact not_mem_of e.1 hm
  | .obj c ds, _, e, h => by
    rw [D.noK, Bool.and_eq_true] at e
    rw [Rep] at h ⊢
    obtain ⟨p, dx, vs, rfl, s, l, r⟩ := h
    refine ⟨p, dx, vs, rfl, ?_, l, reps_del hL ds vs e.2 r⟩
    rw [delC_out fun hp => ?_]
    · exact s
    · obtain ⟨o, k, e1, hk, hm⟩ := hL p hp
      rw [s] at e1
      cases e1
      obtain ⟨c2, h2, rfl⟩ := hk
      rw [← a.inj _ _ h2] at hm
      exact not_mem_of e.1 hm
  | .dct kd ds, _, e, h => by
    rw [D.noK, Bool.and_eq_true] at e
    rw [Rep] at h ⊢
    obtain ⟨p, vs, rfl, r, s⟩ := h
    refine ⟨p, vs, rfl, reps_del hL ds vs e.2 r, ?_⟩
    rw [delC_out fun hp => ?_]
    · exact s
    · obtain ⟨o, k, e1, hk, hm⟩ := hL p hp
      rcases s with ⟨kk, _, _, s⟩ | ⟨kk, _, _, _, s⟩ <;>
      · rw [s] at e1
        cases e1
        cases hk
        exact not_mem_of e.1 hm
theorem reps_del {F : Hp} {L : Addr → Prop} {ks : List Kn} (hL : KnL a F L ks) : ∀ (ds : List D) (vs : List V), D.noKL ks ds = true → Reps K a F ds vs → Reps K a (delC F L) ds vs
  | [], _, _, h => by rw [Reps] at h ⊢; exact h
  | d :: ds, _, e, h => by
    rw [D.noKL, Bool.and_eq_true] at e
    obtain ⟨v, r, rfl, h1, h2⟩ := h.uncons
    exact .cons (rep_del hL d v e.1 h1) (reps_del hL ds r e.2 h2)
end
theorem top_del {H F : Hp} {L : Addr → Prop} {ks : List Kn} {d : D} (hL : KnL a F L ks) (e : d.kids ks = true) (t : Top K a H F p d) : Top K a H (delC F L) p d := by
  cases d with
  | lst ds => obtain ⟨vs, h, r⟩ := t; exact ⟨vs, h, reps_del hL ds vs e r⟩
  | obj c ds => obtain ⟨dx, vs, h, l, r⟩ := t; exact ⟨dx, vs, h, l, reps_del hL ds vs e r⟩
  | dct ks ds => obtain ⟨vs, r, h⟩ := t; exact ⟨vs, reps_del hL ds vs e r, h⟩
  | _ => exact t.elim
/-- what holds when the callee begins -/
theorem call_pre {ms : List Nat} {vs : List Vl} {xs : List V} {ds : List D} (C : Cc K a B E σ H F) (hv : AllV K a B E σ H F xs vs) (hd : getAll E vs = some ds) (hm : mutB E ms 0 vs = true) (hl : (locs vs).Nodup) (hms : ∀ m ∈ ms, m < vs.length)
    (hh : ∀ (m : Nat) (v : Vl), vs[m]? = some v → m ∉ ms → v = v.hold) :
    ArgsOk K a ms xs ds H (addC H F (Lent E σ ms vs)) ∧ Same F (addC H F (Lent E σ ms vs)) ∧ (∀ p, Lent E σ ms vs p → F p = none) := by
  obtain ⟨len, at_, sep⟩ := hv.at_
  obtain ⟨dl, dg⟩ := getAll_at hd
  have lentF : ∀ p, Lent E σ ms vs p → F p = none ∧ ∃ o, H p = some o := by
    rintro p ⟨m, i, _, _, ho, hs⟩
    obtain ⟨s, h1, h2⟩ := ownedAt_of ho
    obtain ⟨q, d, e, f, t, _⟩ := C.own_in h1 h2
    rw [hs] at e
    cases e
    exact ⟨f, t.some⟩
  have ff : Same F (addC H F (Lent E σ ms vs)) := fun p o e => by
    by_cases h : Lent E σ ms vs p
    · rw [(lentF p h).1] at e; cases e
    · rw [addC_out h]; exact e
  have get : ∀ (m : Nat) (x : V), xs[m]? = some x → ∃ v, vs[m]? = some v ∧ VOk K a B E σ H F x v := fun m x hx => by
    have h1 := (List.getElem?_eq_some_iff.mp hx).1
    rw [len] at h1
    exact ⟨vs[m], List.getElem?_eq_getElem h1, at_ m x vs[m] hx (List.getElem?_eq_getElem h1)⟩
  -- a parameter that is changed
  have mu : ∀ (m : Nat) (x : V) (v : Vl) (d : D), xs[m]? = some x → vs[m]? = some v → v.get E = some d → m ∈ ms → ∃ p, x = .ref p ∧ F p = none ∧ ¬ Lent E σ ms vs p ∧ Top K a H F p d ∧ ((∃ d', v = .fr d') ∨ ∃ i, v = .loc i ∧ ownedAt E i = true ∧ σ[i]? = some (some (.ref p))) := by
    intro m x v d hx hv hg hmm
    have ok := at_ m x v hx hv
    rcases mutB_at hm hv (by rw [Nat.zero_add]; exact hmm) with ⟨d', rfl⟩ | ⟨i, rfl, ho⟩
    · cases hg
      obtain ⟨p, rfl, f, _, t, n⟩ := ok
      refine ⟨p, rfl, f, fun ⟨m2, i2, _, h2, ho2, hs2⟩ => ?_, t, .inl ⟨_, rfl⟩⟩
      obtain ⟨s, g1, g2⟩ := ownedAt_of ho2
      exact n i2 s g1 g2 hs2
    · obtain ⟨s, g1, g2⟩ := ownedAt_of ho
      obtain ⟨p, d2, e, f, t, ⟨k, hk⟩, _⟩ := C.own_in g1 g2
      have ok' : σ[i]? = some (some x) := ok
      rw [e] at ok'
      cases ok'
      dsimp only [Vl.get] at hg
      rw [g1, hk] at hg
      cases hg
      refine ⟨p, rfl, f, fun ⟨m2, i2, nm2, h2, ho2, hs2⟩ => ?_, t, .inr ⟨i, rfl, ho, e⟩⟩
      obtain ⟨s2, g3, g4⟩ := ownedAt_of ho2
      have := C.sep i i2 s s2 p g1 g3 g2 g4 e hs2
      subst this
      have := locs_inj hl hv h2
      subst this
      exact nm2 hmm
  refine ⟨⟨?_, by rw [len, dl], fun m x d hx hd2 hmm => ?_, fun m x d hx hd2 hmm => ?_, fun m k p hm1 hm2 h1 h2 => ?_, fun m hmm => by rw [len]; exact hms m hmm⟩, ff, fun p h => (lentF p h).1⟩
  · intro p o e
    by_cases h : Lent E σ ms vs p
    · rw [addC_in h] at e; exact e
    · rw [addC_out h] at e; exact C.le _ _ e
  · obtain ⟨v, hv2, _⟩ := get m x hx
    obtain ⟨p, rfl, f, nl, t, _⟩ := mu m x v d hx hv2 (dg m v d hv2 hd2) hmm
    exact ⟨p, rfl, by rw [addC_out nl]; exact f, t.mono ff rfl⟩
  · obtain ⟨v, hv2, ok⟩ := get m x hx
    have hg := dg m v d hv2 hd2
    have hhd := hh m v hv2 hmm
    cases v with
    | dv d' => cases hg; exact Rep.mono ff _ _ ok
    | fr d' => cases hhd
    | loc i =>
      have ok' : σ[i]? = some (some x) := ok
      cases ho : ownedAt E i with
      | true =>
        obtain ⟨s, g1, g2⟩ := ownedAt_of ho
        obtain ⟨p, d2, e, f, t, ⟨k, hk⟩, _⟩ := C.own_in g1 g2
        rw [e] at ok'
        cases ok'
        dsimp only [Vl.get] at hg
        rw [g1, hk] at hg
        cases hg
        exact t.rep ff (addC_in ⟨m, i, hmm, hv2, ho, e⟩)
      | false =>
        have vw := C.get_rep ok hg
        dsimp only [Vl.get] at hg
        cases g1 : E[i]? with
        | none => rw [g1] at hg; cases hg
        | some s =>
          cases s with
          | none => rw [g1] at hg; cases hg
          | some s =>
            cases s with
            | exn c d => rw [g1] at hg; cases hg
            | val k d2 =>
              rw [g1] at hg
              cases hg
              obtain ⟨z, hz, okz⟩ := C.sl i _ g1
              rw [ok'] at hz
              cases hz
              cases k with
              | pure => exact Rep.mono ff _ _ okz
              | own => unfold ownedAt at ho; rw [g1] at ho; cases ho
              | prm => unfold ownedAt at ho; rw [g1] at ho; cases ho
  · have g1 := (List.getElem?_eq_some_iff.mp h1).1
    have g2 := (List.getElem?_eq_some_iff.mp h2).1
    obtain ⟨v, hv2, _⟩ := get m _ h1
    obtain ⟨w, hw2, _⟩ := get k _ h2
    have e1 : m < ds.length := by rw [dl, ← len]; exact g1
    have e2 : k < ds.length := by rw [dl, ← len]; exact g2
    obtain ⟨p1, ep1, _, _, _, c1⟩ := mu m _ v ds[m] h1 hv2 (dg m v _ hv2 (List.getElem?_eq_getElem e1)) hm1
    obtain ⟨p2, ep2, _, _, _, c2⟩ := mu k _ w ds[k] h2 hw2 (dg k w _ hw2 (List.getElem?_eq_getElem e2)) hm2
    cases ep1
    cases ep2
    have okv := at_ m _ v h1 hv2
    have okw := at_ k _ w h2 hw2
    rcases c1 with ⟨d1, rfl⟩ | ⟨i1, rfl, o1, s1⟩ <;> rcases c2 with ⟨d2, rfl⟩ | ⟨i2, rfl, o2, s2⟩
    · exact sep m k _ _ _ _ p h1 hv2 h2 hw2 rfl rfl
    · obtain ⟨s, z1, z2⟩ := ownedAt_of o2
      obtain ⟨q, e, _, _, _, n⟩ := okv
      cases e
      exact (n i2 s z1 z2 s2).elim
    · obtain ⟨s, z1, z2⟩ := ownedAt_of o1
      obtain ⟨q, e, _, _, _, n⟩ := okw
      cases e
      exact (n i1 s z1 z2 s1).elim
    · obtain ⟨sA, z1, z2⟩ := ownedAt_of o1
      obtain ⟨sB, z3, z4⟩ := ownedAt_of o2
      have := C.sep i1 i2 sA sB p z1 z3 z2 z4 s1 s2
      subst this
      exact locs_inj hl hv2 hw2
theorem updE_get {vs : List Vl} {ms : List Nat} {outs : List D} {safe : Bool} {j : Nat} : (updE vs ms outs safe E)[j]? = (E[j]?).map (updSlot vs ms outs safe j) := by
  unfold updE
  cases hl : locs vs with
  | nil =>
    dsimp only
    cases e : E[j]? with
    | none => rfl
    | some s =>
      have np : posLoc j vs 0 = none := by
        cases e2 : posLoc j vs 0 with
        | none => rfl
        | some m =>
          have := locs_mem (posLoc_some e2).2
          rw [hl] at this
          cases this
      cases s with
      | none => rfl
      | some s =>
        cases s with
        | exn c d => rfl
        | val k d =>
          show some (some (Sl.val k d)) = some (updSlot vs ms outs safe j (some (.val k d)))
          dsimp only [updSlot]
          rw [np]
          by_cases hk : k = .pure
          · rw [if_pos hk]
          · rw [if_neg hk]
  | cons i is => rw [List.getElem?_mapIdx]
/-- what holds behind the call -/
theorem call_post {ms : List Nat} {vs : List Vl} {xs : List V} {ds outs : List D} {safe : Bool} (C : Cc K a B E σ H F) (hv : AllV K a B E σ H F xs vs) (hd : getAll E vs = some ds) (hm : mutB E ms 0 vs = true) (hl : (locs vs).Nodup)
    (hms : ∀ m ∈ ms, m < vs.length) (hh : ∀ (m : Nat) (v : Vl), vs[m]? = some v → m ∉ ms → v = v.hold) (P : PostM K a ms xs outs H (addC H F (Lent E σ ms vs)) H' F')
    (hsafe : safe = true → outs.all (D.kids (lentK E ms 0 vs)) = true ∨ lentK E ms 0 vs = []) (hun : safe = false → lendsPrm E ms 0 vs = false) :
    Cc K a B (updE vs ms outs safe E) σ H' (if safe then delC F' (Lent E σ ms vs) else F') ∧ Same F (if safe then delC F' (Lent E σ ms vs) else F') ∧ KnL a F' (Lent E σ ms vs) (lentK E ms 0 vs) ∧
    (∀ m d' p, (m, d') ∈ ms.zip outs → xs[m]? = some (.ref p) → Top K a H' (if safe then delC F' (Lent E σ ms vs) else F') p d' ∧ (if safe then delC F' (Lent E σ ms vs) else F') p = none) := by
  obtain ⟨A, ff, lF⟩ := call_pre C hv hd hm hl hms hh
  obtain ⟨len, at_, sep⟩ := hv.at_
  have knl : KnL a F' (Lent E σ ms vs) (lentK E ms 0 vs) := by
    intro p hL
    obtain ⟨m, i, nm, hvm, ho, hs⟩ := id hL
    obtain ⟨s, g1, g2⟩ := ownedAt_of ho
    obtain ⟨q, d, e, f, t, ⟨kd, hkd⟩, _⟩ := C.own_in g1 g2
    rw [hs] at e
    cases e
    obtain ⟨k, hk⟩ := head_of t
    obtain ⟨o, ho1, ho2⟩ := topKn t hk
    refine ⟨o, k, P.ff _ _ (show addC H F (Lent E σ ms vs) p = some o by rw [addC_in hL]; exact ho1), ho2, ?_⟩
    refine lentK_mem hvm ho (by rw [Nat.zero_add]; exact nm) ?_ hk
    dsimp only [Vl.get]
    rw [g1, hkd]
  have noLent : lentK E ms 0 vs = [] → ∀ p, ¬ Lent E σ ms vs p := fun h p hL => by
    obtain ⟨o, k, _, _, hm⟩ := knl p hL
    rw [h] at hm
    cases hm
  obtain ⟨F3, hF3⟩ : ∃ F3, F3 = (if safe then delC F' (Lent E σ ms vs) else F') := ⟨_, rfl⟩
  rw [← hF3]
  have sub : ∀ p o, F3 p = some o → F' p = some o := fun p o e => by
    rw [hF3] at e
    cases safe with
    | false => exact e
    | true =>
      by_cases h : Lent E σ ms vs p
      · rw [show (if true = true then delC F' (Lent E σ ms vs) else F') p = none from delC_in h] at e; cases e
      · rwa [show (if true = true then delC F' (Lent E σ ms vs) else F') p = F' p from delC_out h] at e
  have sup : ∀ p o, F' p = some o → (safe = true → ¬ Lent E σ ms vs p) → F3 p = some o := fun p o e h => by
    rw [hF3]
    cases safe with
    | false => exact e
    | true => rw [show (if true = true then delC F' (Lent E σ ms vs) else F') p = F' p from delC_out (h rfl)]; exact e
  have f3 : Same F F3 := fun p o e => sup p o (P.ff _ _ (ff _ _ e)) fun _ hL => by rw [lF p hL] at e; cases e
  have none3 : ∀ p, F' p = none → F3 p = none := fun p h => by
    cases e : F3 p with
    | none => rfl
    | some o => rw [sub p o e] at h; cases h
  have outT : ∀ m d' p, (m, d') ∈ ms.zip outs → xs[m]? = some (.ref p) → Top K a H' F3 p d' ∧ F3 p = none := fun m d' p hm2 hx2 => by
    obtain ⟨p', hx', hn', ht'⟩ := P.out m d' hm2
    rw [hx2] at hx'
    cases hx'
    refine ⟨?_, none3 p hn'⟩
    rw [hF3]
    cases safe with
    | false => exact ht'
    | true =>
      rcases hsafe rfl with h | h
      · exact top_del knl (List.all_eq_true.mp h d' (List.of_mem_zip hm2).2) ht'
      · have e : delC F' (Lent E σ ms vs) = F' := by funext q; exact delC_out (noLent h q)
        show Top K a H' (delC F' (Lent E σ ms vs)) p d'
        rw [e]
        exact ht'
  -- an owned slot's address
  have own : ∀ (j : Nat) (s : Sl) (p : Addr), E[j]? = some (some s) → s.owned = true → σ[j]? = some (some (.ref p)) → F p = none ∧ (∃ o, H p = some o) ∧ (B.M p ∨ B.H0 p = none) ∧ (∀ k d, s = .val k d → Top K a H F p d) := fun j s p h1 h2 h3 => by
    obtain ⟨q, d, e, f, t, ⟨k, hk⟩, m⟩ := C.own_in h1 h2
    rw [h3] at e
    cases e
    refine ⟨f, t.some, m, fun k' d' e => ?_⟩
    rw [hk] at e
    cases e
    exact t
  -- an argument that is changed, its address
  have mutAdr : ∀ (m : Nat) (p : Addr), m ∈ ms → xs[m]? = some (.ref p) → (∃ d, vs[m]? = some (.fr d) ∧ B.H0 p = none ∧ ∀ (i : Nat) (s : Sl), E[i]? = some (some s) → s.owned = true → σ[i]? ≠ some (some (.ref p))) ∨ ∃ i, vs[m]? = some (.loc i) ∧ ownedAt E i = true ∧ σ[i]? = some (some (.ref p)) := by
    intro m p hmm hx
    have h1 := (List.getElem?_eq_some_iff.mp hx).1
    rw [len] at h1
    have hv2 : vs[m]? = some vs[m] := List.getElem?_eq_getElem h1
    have ok := at_ m _ _ hx hv2
    rcases mutB_at hm hv2 (by rw [Nat.zero_add]; exact hmm) with ⟨d', e⟩ | ⟨i, e, ho⟩
    · rw [e] at ok hv2
      obtain ⟨q, e2, _, h0, _, n⟩ := ok
      cases e2
      exact .inl ⟨d', hv2, h0, n⟩
    · rw [e] at ok hv2
      exact .inr ⟨i, hv2, ho, ok⟩
  refine ⟨⟨?_, fun p o e => P.le _ _ (sub p o e), C.lo.trans f3, fun p o e => ?_, fun p o e nm => ?_, fun p o e => ?_, fun j s hj => ?_, fun i j s t p h1 h2 h3 h4 h5 h6 => ?_, a.mono _ _ f3 C.ctx⟩, f3, knl, fun m d' p hm2 hx2 => ?_⟩
  · rw [C.len]
    unfold updE
    split
    · rfl
    · rw [List.length_mapIdx]
  · rcases P.nw p o (sub p o e) with ⟨o', h⟩ | h
    · by_cases hL : Lent E σ ms vs p
      · obtain ⟨m, i, _, _, ho, hs⟩ := hL
        obtain ⟨s, g1, g2⟩ := ownedAt_of ho
        rcases (own i s p g1 g2 hs).2.2.1 with z | z
        · exact .inr (.inr z)
        · exact .inr (.inl z)
      · rw [addC_out hL] at h
        exact C.new p o' h
    · exact .inr (.inl (C.noneOf h))
  · refine P.keep p o (C.keep p o e nm) fun ⟨m, hmm, hx⟩ => ?_
    rcases mutAdr m p hmm hx with ⟨_, _, h0, _⟩ | ⟨i, _, ho, hs⟩
    · rw [e] at h0; cases h0
    · obtain ⟨s, g1, g2⟩ := ownedAt_of ho
      rcases (own i s p g1 g2 hs).2.2.1 with z | z
      · exact nm z
      · rw [e] at z; cases z
  · obtain ⟨o1, h1⟩ := C.live p o e
    exact P.live p o1 h1
  · rw [updE_get] at hj
    cases hE : E[j]? with
    | none => rw [hE] at hj; cases hj
    | some s0 =>
      rw [hE] at hj
      have hj : updSlot vs ms outs safe j s0 = some s := by simpa using hj
      cases s0 with
      | none => cases hj
      | some s0 =>
        obtain ⟨z, hz, okz⟩ := C.sl j s0 hE
        refine ⟨z, hz, ?_⟩
        cases s0 with
        | exn c d => cases hj; exact okz
        | val k d =>
          dsimp only [updSlot] at hj
          by_cases hk : k = .pure
          · rw [if_pos hk] at hj
            cases hj
            subst hk
            exact Rep.mono f3 _ _ okz
          · rw [if_neg hk] at hj
            have how : (Sl.val k d).owned = true := by cases k <;> first | rfl | exact (hk rfl).elim
            have hoj : ownedAt E j = true := by unfold ownedAt; rw [hE]; exact how
            obtain ⟨p, d0, ep, f, t, ⟨k0, hk0⟩, mm⟩ := C.own_in hE how
            cases hk0
            rw [hz] at ep
            cases ep
            -- the slot, owned still, with what is in it
            have build : ∀ d', F3 p = none → Top K a H' F3 p d' → SlOk K a B H' F3 j (.ref p) (.val k d') := fun d' hn ht => by
              cases k with
              | pure => exact (hk rfl).elim
              | own => exact ⟨p, rfl, hn, mm, ht⟩
              | prm =>
                obtain ⟨e, _⟩ := okz
                cases e
                exact ⟨rfl, hn, mm, ht⟩
            have notMut : (∀ m, m ∈ ms → vs[m]? ≠ some (.loc j)) → ¬ MutA ms xs p := fun h ⟨m, hmm, hx⟩ => by
              rcases mutAdr m p hmm hx with ⟨_, _, _, n⟩ | ⟨i, hvi, ho, hs⟩
              · exact n j _ hE how hz
              · obtain ⟨s2, g1, g2⟩ := ownedAt_of ho
                have := C.sep j i _ s2 p hE g1 how g2 hz hs
                subst this
                exact h m hmm hvi
            have keepT : ¬ MutA ms xs p → F3 p = none → Top K a H' F3 p d := fun nm hn => by
              obtain ⟨o, ho⟩ := t.some
              exact t.mono f3 (ho.trans (P.keep p o ho nm).symm)
            cases hp : posLoc j vs 0 with
            | none =>
              rw [hp] at hj
              cases hj
              have nl := posLoc_none hp
              have nm := notMut fun m _ => nl m
              have notL : ¬ Lent E σ ms vs p := fun ⟨m, i, _, hvi, ho, hs⟩ => by
                obtain ⟨s2, g1, g2⟩ := ownedAt_of ho
                have := C.sep j i _ s2 p hE g1 how g2 hz hs
                subst this
                exact nl m hvi
              have hn : F3 p = none := none3 p (by
                cases e : F' p with
                | none => rfl
                | some o =>
                  rcases P.nw p o e with ⟨o', h⟩ | h
                  · rw [addC_out notL, f] at h; cases h
                  · obtain ⟨o2, h2⟩ := t.some; rw [h] at h2; cases h2)
              exact build d hn (keepT nm hn)
            | some m =>
              rw [hp] at hj
              dsimp only at hj
              obtain ⟨_, hvm⟩ := posLoc_some hp
              rw [Nat.sub_zero] at hvm
              cases ho : outAt ms outs m with
              | some d' =>
                rw [ho] at hj
                cases hj
                obtain ⟨p', hx', hn', ht'⟩ := P.out m d' (outAt_some ho)
                have hmm : m ∈ ms := (List.of_mem_zip (outAt_some ho)).1
                have okm := at_ m _ _ hx' hvm
                have okm : σ[j]? = some (some (.ref p')) := okm
                rw [hz] at okm
                cases okm
                exact build d' (none3 p hn') (outT m d' p (outAt_some ho) hx').1
              | none =>
                rw [ho] at hj
                dsimp only at hj
                have nms : m ∉ ms := outAt_none P.len ho
                have hL : Lent E σ ms vs p := ⟨m, j, nms, hvm, hoj, hz⟩
                have nm := notMut fun m2 h2 e => nms (by rw [locs_inj hl hvm e]; exact h2)
                cases safe with
                | true =>
                  cases hj
                  have hn : F3 p = none := by rw [hF3]; exact delC_in hL
                  exact build d hn (keepT nm hn)
                | false =>
                  cases hj
                  have r0 : Rep K a (addC H F (Lent E σ ms vs)) d (.ref p) := t.rep ff (addC_in hL)
                  show Rep K a F3 d (.ref p)
                  rw [hF3]
                  exact r0.mono P.ff
  · have back : ∀ (q : Nat) (s : Sl), (updE vs ms outs safe E)[q]? = some (some s) → s.owned = true → ∃ s0, E[q]? = some (some s0) ∧ s0.owned = true := by
      intro q s hq hs
      rw [updE_get] at hq
      cases hE : E[q]? with
      | none => rw [hE] at hq; cases hq
      | some s0 =>
        rw [hE] at hq
        have hq : updSlot vs ms outs safe q s0 = some s := by simpa using hq
        cases s0 with
        | none => cases hq
        | some s0 =>
          refine ⟨s0, rfl, ?_⟩
          cases s0 with
          | exn c d => cases hq; cases hs
          | val k d =>
            cases k with
            | own => rfl
            | prm => rfl
            | pure => cases hq; cases hs
    obtain ⟨s0, e1, e2⟩ := back i s h1 h3
    obtain ⟨t0, e3, e4⟩ := back j t h2 h4
    exact C.sep i j s0 t0 p e1 e3 e2 e4 h5 h6
  · exact outT m d' p hm2 hx2
theorem lendOk_of {ms : List Nat} {vs : List Vl} {q : List Kn → Bool} (h : lendOk E ms vs q = true) : q (lentK E ms 0 vs) = true ∨ lentK E ms 0 vs = [] := by
  unfold lendOk at h
  cases e : lentK E ms 0 vs with
  | nil => exact .inr rfl
  | cons k ks => rw [e] at h; exact .inl h
/-- the parameters that were fresh and are changed -/
def OkC (K : PySem.W.Frag) (a : Adr) (ms : List Nat) (vs : List Vl) (xs : List V) : Bd → Sv → L2.St → Hp → Hp → V → Vl × List D → Prop := fun B E σ H F x r => VOk K a B E σ H F x r.1 ∧
  ∀ m d0 d' p, (m, d') ∈ ms.zip r.2 → vs[m]? = some (.fr d0) → xs[m]? = some (.ref p) → VOk K a B E σ H F (.ref p) (.fr d')
/-- the call of a def with such a promise -/
theorem call_core {n : Nat} {ms : List Nat} {f : List D → FRs} {vs0 : List Vl} {xs : List V} {Ex : XK} (hEx : ∀ cls d H, W cls d σ H → Ex cls d H) (C : Cc K a B E σ H F) (hv0 : AllV K a B E σ H F xs vs0) (hn : vs0.length = n) :
    At K a W (OkC K a ms vs0 xs) B σ F (fun Q => spM K a n ms f xs H Q Ex) (callX f ms vs0 E) := by
  obtain ⟨F1, C1, s1, hv, _, _⟩ := Cc.holdX ms (m := 0) C hv0
  unfold callX
  generalize hvs : TV.holdX ms 0 vs0 = vs at hv
  cases hd : getAll E vs with
  | none => trivial
  | some ds =>
    dsimp only
    by_cases hc : (mutB E ms 0 vs && decide ((locs vs).Nodup) && ms.all (fun m => decide (m < vs0.length)) && decide ms.Nodup) = true
    · rw [if_pos hc]
      rw [Bool.and_eq_true, Bool.and_eq_true, Bool.and_eq_true] at hc
      obtain ⟨⟨⟨hm, hl⟩, hms⟩, _⟩ := hc
      have hl := of_decide_eq_true hl
      have hlen : vs.length = vs0.length := by rw [← hvs]; exact holdX_length ms vs0 0
      have hms : ∀ m ∈ ms, m < vs.length := fun m hmm => by rw [hlen]; exact of_decide_eq_true (List.all_eq_true.mp hms m hmm)
      have hh : ∀ (m : Nat) (v : Vl), vs[m]? = some v → m ∉ ms → v = v.hold := fun m v h1 h2 => by
        rw [← hvs] at h1
        obtain ⟨w, _, ⟨h3, _⟩ | ⟨_, rfl⟩⟩ := holdX_get h1
        · rw [Nat.zero_add] at h3; exact (h2 h3).elim
        · rw [hold_hold]
      obtain ⟨A, ff, lF⟩ := call_pre C1 hv hd hm hl hms hh
      have xl : xs.length = n := by rw [hv.at_.1, hlen, hn]
      have freshOwn : ∀ {E2 : Sv} {p : Addr}, H p = none → (∀ (q : Nat) (s : Sl), E2[q]? = some (some s) → s.owned = true → ∃ s0, E[q]? = some (some s0) ∧ s0.owned = true) → ∀ (i : Nat) (s : Sl), E2[i]? = some (some s) → s.owned = true → σ[i]? ≠ some (some (.ref p)) := fun hp bk i s h1 h2 h3 => by
        obtain ⟨s0, e1, e2⟩ := bk i s h1 h2
        obtain ⟨q, d, e, _, t, _⟩ := C1.own_in e1 e2
        rw [h3] at e
        cases e
        obtain ⟨o, ho⟩ := t.some
        rw [hp] at ho
        cases ho
      have back : ∀ {outs : List D} {safe : Bool} (q : Nat) (s : Sl), (updE vs ms outs safe E)[q]? = some (some s) → s.owned = true → ∃ s0, E[q]? = some (some s0) ∧ s0.owned = true := by
        intro outs safe q s hq hs
        rw [updE_get] at hq
        cases hE : E[q]? with
        | none => rw [hE] at hq; cases hq
        | some s0 =>
          rw [hE] at hq
          have hq : updSlot vs ms outs safe q s0 = some s := by simpa using hq
          cases s0 with
          | none => cases hq
          | some s0 =>
            refine ⟨s0, rfl, ?_⟩
            cases s0 with
            | exn c d => cases hq; cases hs
            | val k d =>
              cases k with
              | own => rfl
              | prm => rfl
              | pure => cases hq; cases hs
      cases hf : f ds with
      | er => trivial
      | ok d fr outs =>
        have fin : ∀ safe : Bool, (safe = true → (safeR (lentK E ms 0 vs) d fr && outs.all (D.kids (lentK E ms 0 vs))) = true ∨ lentK E ms 0 vs = []) → (safe = false → lendsPrm E ms 0 vs = false) → At K a W (OkC K a ms vs0 xs) B σ F (fun Q => spM K a n ms f xs H Q Ex) (.ok (mkV d fr, outs) (updE vs ms outs safe E)) := by
          intro safe hs1 hs2 Q q
          refine ⟨xl, _, ds, A, ?_⟩
          rw [hf]
          intro v H' F' P R
          obtain ⟨C2, s2, knl, outT⟩ := call_post (safe := safe) C1 hv hd hm hl hms hh P (fun h => (hs1 h).imp (fun z => (Bool.and_eq_true _ _ ▸ z).2) id) hs2
          have eqF : lentK E ms 0 vs = [] → delC F' (Lent E σ ms vs) = F' := fun h => by
            funext p
            refine delC_out fun hL => ?_
            obtain ⟨o, k, _, _, hm⟩ := knl p hL
            rw [h] at hm
            cases hm
          refine q v H' _ C2 (s1.trans s2) ⟨?_, fun m d0 d' p hm2 hv2 hx2 => ?_⟩
          · cases fr with
            | false =>
              show Rep K a _ d v
              have R' : Rep K a F' d v := R
              cases safe with
              | false => exact R'
              | true =>
                rcases hs1 rfl with h | h
                · rw [Bool.and_eq_true] at h
                  exact rep_del knl d v h.1 R'
                · show Rep K a (delC F' (Lent E σ ms vs)) d v
                  rw [eqF h]
                  exact R'
            | true =>
              obtain ⟨p, rfl, h0, hn0, t⟩ := R
              have hsub : (if safe then delC F' (Lent E σ ms vs) else F') p = none := by
                cases safe with
                | false => exact hn0
                | true =>
                  show delC F' (Lent E σ ms vs) p = none
                  by_cases hL : Lent E σ ms vs p
                  · exact delC_in hL
                  · rw [delC_out hL]; exact hn0
              refine ⟨p, rfl, hsub, C1.noneOf h0, ?_, freshOwn h0 back⟩
              cases safe with
              | false => exact t
              | true =>
                rcases hs1 rfl with h | h
                · rw [Bool.and_eq_true] at h
                  exact top_del knl h.1 t
                · show Top K a H' (delC F' (Lent E σ ms vs)) p d
                  rw [eqF h]
                  exact t
          · obtain ⟨t1, t2⟩ := outT m d' p hm2 hx2
            have hmm : m ∈ ms := (List.of_mem_zip hm2).1
            have ok0 := hv0.at_.2.1 m _ _ hx2 hv2
            obtain ⟨p', e, _, h0, _, n0⟩ := ok0
            cases e
            refine ⟨p, rfl, t2, h0, t1, fun i s h1 h2 h3 => ?_⟩
            obtain ⟨s0, e1, e2⟩ := back i s h1 h2
            exact n0 i s0 e1 e2 h3
        dsimp only
        split
        · rename_i h
          exact fin true (fun _ => lendOk_of h) (fun h => by cases h)
        · split
          · trivial
          · rename_i h
            exact fin false (fun h => by cases h) fun _ => by simpa using h
      | ex c d outs =>
        have fin : ∀ safe : Bool, (safe = true → (d.noK (lentK E ms 0 vs) && outs.all (D.kids (lentK E ms 0 vs))) = true ∨ lentK E ms 0 vs = []) → (safe = false → lendsPrm E ms 0 vs = false) → At K a W (OkC K a ms vs0 xs) B σ F (fun Q => spM K a n ms f xs H Q Ex) (.ex c d (updE vs ms outs safe E)) := by
          intro safe hs1 hs2 Q q
          refine ⟨xl, _, ds, A, ?_⟩
          rw [hf]
          intro dd H' F' P R
          obtain ⟨C2, s2, knl, _⟩ := call_post (safe := safe) C1 hv hd hm hl hms hh P (fun h => (hs1 h).imp (fun z => (Bool.and_eq_true _ _ ▸ z).2) id) hs2
          refine hEx _ _ _ (q dd H' _ C2 (s1.trans s2) ?_)
          obtain ⟨v, hx, r⟩ := R
          cases safe with
          | false => exact ⟨v, hx, r⟩
          | true =>
            have hdd : ¬ Lent E σ ms vs dd := fun hL => by
              obtain ⟨o, k, e1, hk, _⟩ := knl dd hL
              rw [hx] at e1
              cases e1
              exact hk.elim
            refine ⟨v, ?_, ?_⟩
            · show delC F' (Lent E σ ms vs) dd = _
              rw [delC_out hdd]
              exact hx
            · show Rep K a (delC F' (Lent E σ ms vs)) d v
              rcases hs1 rfl with h | h
              · rw [Bool.and_eq_true] at h
                exact rep_del knl d v h.1 r
              · have e : delC F' (Lent E σ ms vs) = F' := by
                  funext p
                  refine delC_out fun hL => ?_
                  obtain ⟨o, k, _, _, hm⟩ := knl p hL
                  rw [h] at hm
                  cases hm
                rw [e]
                exact r
        dsimp only
        split
        · rename_i h
          exact fin true (fun _ => lendOk_of h) (fun h => by cases h)
        · split
          · trivial
          · rename_i h
            exact fin false (fun h => by cases h) fun _ => by simpa using h
    · rw [if_neg hc]
      trivial
end
end TV

set_option Elab.async false
set_option linter.all false
set_option maxRecDepth 100000
set_option maxHeartbeats 4000000
/-! What changes: lists, fields; errors; comprehensions. -/
namespace TV
open PySem PySem.Spec PyProof.Rows L2 TC
section
variable {K : PySem.W.Frag} {a : Adr} {W : WX} {B : Bd} {E E1 : Sv} {σ : L2.St} {H F H' F' : Hp} {x y v : V} {d : D} {p : Addr} {vl : Vl} {i j : Nat} {X : Cx}
/-- the thing of slot i is changed -/
theorem Cc.mutate {s : Sl} {d' : D} {o : HO} (C : Cc K a B E σ H F) (hE : E[i]? = some (some s)) (hs : s.owned = true) (hσ : σ[i]? = some (some (.ref p))) (t : Top K a (upd H p o) F p d') (k : Kd) (hk : ∃ d, s = .val k d) : Cc K a B (E.set i (some (.val k d'))) σ (upd H p o) F := by
  obtain ⟨q, d0, e, f, t0, _, m⟩ := C.own_in hE hs
  rw [hσ] at e
  cases e
  refine ⟨by rw [List.length_set]; exact C.len, fun q u e => ?_, C.lo, C.new, fun q u e nm => ?_, fun q u e => ?_, fun j s2 h => ?_, fun j l s2 u q h1 h2 h3 h4 h5 h6 => ?_, C.ctx⟩
  · rw [upd_ne fun z => by rw [z, f] at e; cases e]
    exact C.le _ _ e
  · rw [upd_ne fun z => ?_]
    · exact C.keep q u e nm
    · subst z
      rcases m with m | m
      · exact nm m
      · rw [e] at m; cases m
  · by_cases hq : q = p
    · subst hq; exact ⟨_, upd_same⟩
    · obtain ⟨o', h⟩ := C.live q u e
      exact ⟨o', by rw [upd_ne hq]; exact h⟩
  · rcases getElem?_set_cases h with ⟨rfl, e, hl⟩ | ⟨ne, h⟩
    · cases e
      obtain ⟨z, hz, okz⟩ := C.sl i s hE
      rw [hσ] at hz
      cases hz
      refine ⟨_, hσ, ?_⟩
      obtain ⟨d1, rfl⟩ := hk
      cases k with
      | pure => cases hs
      | own => exact ⟨p, rfl, f, m, t⟩
      | prm =>
        obtain ⟨e, _⟩ := okz
        cases e
        exact ⟨rfl, f, m, t⟩
    · obtain ⟨z, hz, okz⟩ := C.sl j s2 h
      refine ⟨z, hz, okz.mono (Same.refl _) fun q u hs2 e hq hf => ⟨?_, hf⟩⟩
      subst e
      rw [upd_ne fun z => ?_]
      · exact hq
      · subst z
        exact ne (C.sep i j s s2 q hE h hs hs2 hσ hz)
  · have bk : ∀ (q : Nat) (u : Sl), (E.set i (some (.val k d')))[q]? = some (some u) → u.owned = true → ∃ u0, E[q]? = some (some u0) ∧ u0.owned = true := fun q u h h2 => by
      rcases getElem?_set_cases h with ⟨rfl, _, _⟩ | ⟨_, h⟩
      · exact ⟨s, hE, hs⟩
      · exact ⟨u, h, h2⟩
    obtain ⟨a1, b1, c1⟩ := bk j s2 h1 h3
    obtain ⟨a2, b2, c2⟩ := bk l u h2 h4
    exact C.sep j l a1 a2 q b1 b2 c1 c2 h5 h6
/-! ### x.m(..) that changes the list of a name -/
def RMt (K : PySem.W.Frag) (a : Adr) (r : V → List V → Hp → VK → Prop) (f : D → List D → Option (D × D)) : Prop := ∀ (H F : Hp) (p : Addr) (d : D) (xs : List V) (as : List D) (d' z : D), Same F H → F p = none → Top K a H F p d → Reps K a F as xs → f d as = some (d', z) →
  ∀ Q : VK, (∀ v o, Top K a (upd H p o) F p d' → Rep K a F z v → Q v (upd H p o)) → r (.ref p) xs H Q
/-- an owned slot -/
def ownD (E : Sv) (i : Nat) : Option (Kd × D) := match E[i]? with
  | some (some (.val .own d)) => some (.own, d)
  | some (some (.val .prm d)) => some (.prm, d)
  | _ => none
theorem ownD_of {k : Kd} (h : ownD E i = some (k, d)) : E[i]? = some (some (.val k d)) ∧ (Sl.val k d).owned = true := by
  unfold ownD at h
  split at h
  · cases h; exact ⟨by assumption, rfl⟩
  · cases h; exact ⟨by assumption, rfl⟩
  · cases h
def eMt (f : D → List D → Option (D × D)) (T : D → Bool) (i : Nat) (es : Sv → Rs (List Vl)) : Sv → Rs Vl := fun E => match ownD E i with
  | some (_, d0) => if T d0 = true then (es E).bind fun vs E1 => match Sv.frzs E1 (vs.map Vl.hold) with
      | some (as, E2) => match ownD E2 i with
        | some (k, d) => match f d as with
          | some (d', z) => .ok (.dv z) (E2.set i (some (.val k d')))
          | none => .er
        | none => .er
      | none => .er
    else .er
  | none => .er
def isLst : D → Bool
  | .lst _ => true
  | _ => false
def isDct : D → Bool
  | .dct _ _ => true
  | _ => false
theorem snd_mt {T : String} {P : D → Bool} {r : V → List V → Hp → VK → Prop} {f : D → List D → Option (D × D)} {ts : TA} {es : Sv → Rs (List Vl)} (hr : RMt K a r f) (hs : SndA K a W ts es)
    (hT : ∀ (H F : Hp) (p : Addr) (d : D), Top K a H F p d → P d = true → tyV K T (.ref p) H) : Snd K a W (tBM K T r (tVar i) ts) (eMt f P i es) := by
  intro B E σ H F C
  unfold eMt
  cases h0 : ownD E i with
  | none => trivial
  | some z =>
    obtain ⟨k0, d0⟩ := z
    dsimp only
    obtain ⟨hE, ho⟩ := ownD_of h0
    obtain ⟨p, d1, hσ, f0, t0, ⟨_, e1⟩, m0⟩ := C.own_in hE ho
    cases e1
    split
    · rename_i hP
      refine At.monoT (t := fun Q => ts σ H fun xs H2 => r (.ref p) xs H2 Q) ?_ fun Q h => ⟨.ref p, hσ, hT H F p _ t0 hP, h⟩
      refine At.bind (ok' := OkV K a) (k := fun xs H1 Q => r (.ref p) xs H1 Q) (hs B E σ H F C) fun vs E1 xs H1 F1 _ C1 s1 o1 => ?_
      obtain ⟨F2, C2, s2, o2⟩ := C1.holdAll o1
      cases e : Sv.frzs E1 (vs.map Vl.hold) with
      | none => trivial
      | some z =>
        obtain ⟨as, E2⟩ := z
        obtain ⟨F3, C3, s3, r3⟩ := C2.frzs o2 e
        dsimp only
        cases h2 : ownD E2 i with
        | none => trivial
        | some z =>
          obtain ⟨k, d⟩ := z
          obtain ⟨hE2, ho2⟩ := ownD_of h2
          obtain ⟨p2, d2, hσ2, f2, t2, ⟨_, e2⟩, m2⟩ := C3.own_in hE2 ho2
          cases e2
          rw [hσ] at hσ2
          cases hσ2
          dsimp only
          cases hf : f d as with
          | none => trivial
          | some z =>
            obtain ⟨d', z⟩ := z
            intro Q q
            exact hr H1 F3 p d xs as d' z C3.le f2 t2 r3 hf Q fun v o t rz => q v (upd H1 p o) F3 (C3.mutate hE2 ho2 hσ t k ⟨d, rfl⟩) (s2.trans s3) rz
    · trivial
theorem tyV_lst (H F : Hp) (p : Addr) (d : D) (t : Top K a H F p d) (h : isLst d = true) : tyV K "list" (.ref p) H := by
  cases d <;> first | (cases h; done) | skip
  case lst ds =>
    obtain ⟨vs, e, _⟩ := t
    exact .inl ⟨rfl, vs, SqL.of e⟩
theorem tyV_dct (H F : Hp) (p : Addr) (d : D) (t : Top K a H F p d) (h : isDct d = true) : tyV K "dict" (.ref p) H := by
  cases d <;> first | (cases h; done) | skip
  case dct ks ds =>
    obtain ⟨vs, _, ⟨_, _, _, e⟩ | ⟨_, _, _, _, e⟩⟩ := t
    · exact .inr (.inr (.inl ⟨rfl, .inl ⟨_, e⟩⟩))
    · exact .inr (.inr (.inl ⟨rfl, .inr ⟨_, e⟩⟩))
theorem Reps.one {as : D} {xs : List V} (h : Reps K a F [as] xs) : ∃ x, xs = [x] ∧ Rep K a F as x := by
  obtain ⟨v, r, rfl, h1, h2⟩ := h.uncons
  rw [Reps] at h2
  exact ⟨v, by rw [h2], h1⟩
def mAppend : D → List D → Option (D × D)
  | .lst ds, [x] => if ds.length < LIM then some (.lst (ds ++ [x]), .non) else none
  | _, _ => none
theorem rm_append : RMt K a rAppend mAppend := by
  intro H F p d xs as d' z l f t r e Q q
  cases d <;> first | (cases e; done) | skip
  case lst ds =>
    cases as with
    | nil => cases e
    | cons x as =>
      cases as with
      | cons w2 as => cases e
      | nil =>
      obtain ⟨y, rfl, ry⟩ := r.one
      dsimp only [mAppend] at e
      split at e
      · cases e
        obtain ⟨vs, hp, rv⟩ := t
        exact ⟨p, vs, y, rfl, rfl, hp, by rw [← rv.length]; exact Nat.lt_of_lt_of_le (by assumption) lim_le, q _ _ ⟨_, upd_same, rv.append (.cons ry .nil)⟩ (by rw [Rep])⟩
      · cases e
def mPopAt : D → List D → Option (D × D)
  | .lst ds, [.int i] => if 0 ≤ i ∧ i < ds.length ∧ ds.length ≤ LIM then (ds[i.toNat]?).map fun z => (.lst (ds.eraseIdx i.toNat), z) else none
  | _, _ => none
theorem rm_popAt : RMt K a rPopAt mPopAt := by
  intro H F p d xs as d' z l f t r e Q q
  cases d <;> first | (cases e; done) | skip
  case lst ds =>
    cases as with
    | nil => cases e
    | cons w as =>
      cases as with
      | cons w2 as => cases w <;> cases e
      | nil =>
      cases w <;> first | (cases e; done) | skip
      rename_i i
      obtain ⟨y, rfl, ry⟩ := r.one
      rw [Rep] at ry
      subst ry
      dsimp only [mPopAt] at e
      split at e
      · rename_i h
        obtain ⟨vs, hp, rv⟩ := t
        cases e2 : ds[i.toNat]? with
        | none => rw [e2] at e; cases e
        | some w =>
          rw [e2] at e
          cases e
          obtain ⟨w', hw, rw_⟩ := rv.get e2
          have hl : (LIM : Nat) = 1000000 := rfl
          obtain ⟨h1, h2, h3⟩ := h
          rw [hl] at h3
          have h4 : i < 1000001 := by omega
          have h5 : -(2 ^ 63) ≤ i := by omega
          have h6 : i < 2 ^ 63 := by omega
          exact ⟨p, vs, i, i.toNat, w', rfl, rfl, hp, h5, h6, popIx h1 (by rw [← rv.length]; exact h2), hw, q _ _ ⟨_, upd_same, rv.eraseIdx _⟩ rw_⟩
      · cases e
def mExtend : D → List D → Option (D × D)
  | .lst ds, [.lst es] => if ds.length + es.length ≤ LIM then some (.lst (ds ++ es), .non) else none
  | _, _ => none
theorem rm_extend : RMt K a rExtend mExtend := by
  intro H F p d xs as d' z l f t r e Q q
  cases d <;> first | (cases e; done) | skip
  case lst ds =>
    cases as with
    | nil => cases e
    | cons w as =>
      cases as with
      | cons w2 as => cases w <;> cases e
      | nil =>
      cases w <;> first | (cases e; done) | skip
      rename_i es
      obtain ⟨y, rfl, ry⟩ := r.one
      rw [Rep] at ry
      obtain ⟨p2, vs2, rfl, h2, r2⟩ := ry
      dsimp only [mExtend] at e
      split at e
      · rename_i h
        cases e
        obtain ⟨vs, hp, rv⟩ := t
        exact ⟨p, p2, vs, vs2, rfl, rfl, hp, l _ _ h2, by rw [← rv.length, ← r2.length]; exact Nat.le_trans h lim_le, q _ _ ⟨_, upd_same, rv.append r2⟩ (by rw [Rep])⟩
      · cases e
/-! methods without arguments -/
def eMt0 (f : D → List D → Option (D × D)) (T : D → Bool) (i : Nat) : Sv → Rs Vl := fun E => match ownD E i with
  | some (k, d) => if T d = true then match f d [] with
      | some (d', z) => .ok (.dv z) (E.set i (some (.val k d')))
      | none => .er
    else .er
  | none => .er
theorem snd_mt0 {T : String} {P : D → Bool} {r : V → List V → Hp → VK → Prop} {f : D → List D → Option (D × D)} (hr : RMt K a r f)
    (hT : ∀ (H F : Hp) (p : Addr) (d : D), Top K a H F p d → P d = true → tyV K T (.ref p) H) : Snd K a W (tBM0 K T r (tVar i)) (eMt0 f P i) := by
  intro B E σ H F C
  unfold eMt0
  cases h0 : ownD E i with
  | none => trivial
  | some z =>
    obtain ⟨k, d⟩ := z
    dsimp only
    obtain ⟨hE, ho⟩ := ownD_of h0
    obtain ⟨p, d1, hσ, f0, t0, ⟨_, e1⟩, m0⟩ := C.own_in hE ho
    cases e1
    split
    · rename_i hP
      cases hf : f d [] with
      | none => trivial
      | some z =>
        obtain ⟨d', z⟩ := z
        intro Q q
        exact ⟨.ref p, hσ, hT H F p _ t0 hP, hr H F p d [] [] d' z C.le f0 t0 .nil hf Q fun v o t rz => q v (upd H p o) F (C.mutate hE ho hσ t k ⟨d, rfl⟩) (Same.refl _) rz⟩
    · trivial
def mPop : D → List D → Option (D × D)
  | .lst ds, [] => (ds[ds.length - 1]?).map fun z => (.lst ds.dropLast, z)
  | _, _ => none
theorem Reps.dropLast {ds : List D} {vs : List V} (h : Reps K a F ds vs) : Reps K a F ds.dropLast vs.dropLast := by
  rw [List.dropLast_eq_take, List.dropLast_eq_take, h.length]
  exact h.take _
theorem rm_pop : RMt K a rPop mPop := by
  intro H F p d xs as d' z l f t r e Q q
  cases d <;> first | (cases e; done) | skip
  case lst ds =>
    cases as with
    | cons w as => cases e
    | nil =>
      rw [Reps] at r
      subst r
      obtain ⟨vs, hp, rv⟩ := t
      dsimp only [mPop] at e
      cases e2 : ds[ds.length - 1]? with
      | none => rw [e2] at e; cases e
      | some w =>
        rw [e2] at e
        cases e
        obtain ⟨w', hw, rw_⟩ := rv.get e2
        exact ⟨p, vs, w', rfl, rfl, hp, by rw [← rv.length]; exact hw, q _ _ ⟨_, upd_same, rv.dropLast⟩ rw_⟩
def mClear : D → List D → Option (D × D)
  | .lst _, [] => some (.lst [], .non)
  | _, _ => none
theorem rm_clear : RMt K a rClear mClear := by
  intro H F p d xs as d' z l f t r e Q q
  cases d <;> first | (cases e; done) | skip
  case lst ds =>
    cases as with
    | cons w as => cases e
    | nil =>
      rw [Reps] at r
      subst r
      obtain ⟨vs, hp, rv⟩ := t
      cases e
      exact ⟨p, vs, rfl, rfl, hp, q _ _ ⟨_, upd_same, .nil⟩ (by rw [Rep])⟩
end
end TV

set_option Elab.async false
set_option linter.all false
set_option maxRecDepth 100000
set_option maxHeartbeats 4000000
/-! What changes: lists, fields; errors; comprehensions. -/
namespace TV
open PySem PySem.Spec PyProof.Rows L2 TC
section
variable {K : PySem.W.Frag} {a : Adr} {W : WX} {B : Bd} {E E1 : Sv} {σ : L2.St} {H F H' F' : Hp} {x y v : V} {d : D} {p : Addr} {vl : Vl} {i j : Nat} {X : Cx}
/-! ### x[i] = e -/
def RSet (K : PySem.W.Frag) (a : Adr) (r : V → V → V → Hp → (Hp → Prop) → Prop) (f : D → D → D → Option D) : Prop := ∀ (H F : Hp) (p : Addr) (d di dv d' : D) (i v : V), Same F H → F p = none → Top K a H F p d → Rep K a F di i → Rep K a F dv v → f d di dv = some d' →
  ∀ Q : Hp → Prop, (∀ o, Top K a (upd H p o) F p d' → Q (upd H p o)) → r (.ref p) i v H Q
def sSet (f : D → D → D → Option D) (j : Nat) (idx e : Sv → Rs Vl) : Sv → SRs := fun E => (e E).bindS fun v E1 => match E1.frz v with
  | some (dv, E2) => match ownD E2 j with
    | some _ => (idx E2).bindS fun w E3 => match E3.frz w with
      | some (di, E4) => match ownD E4 j with
        | some (k, d) => match f d di dv with
          | some d' => .nx (E4.set j (some (.val k d')))
          | none => .er
        | none => .er
      | none => .er
    | none => .er
  | none => .er
theorem snd_set {r : V → V → V → Hp → (Hp → Prop) → Prop} {f : D → D → D → Option D} {te ti : TE} {e idx : Sv → Rs Vl} (hr : RSet K a r f) (he : Snd K a W te e) (hi : Snd K a W ti idx) : SndS K a W (tAsg te (gSub (tVar j) ti r)) (sSet f j idx e) := fun B E σ H F C D A =>
  At.toS (k := fun x H1 => gSub (tVar j) ti r x σ H1 D.nx) (he B E σ H F C) A fun v E1 x H1 F1 _ C1 s1 o1 A1 => by
    cases e1 : E1.frz v with
    | none => rw [e1] at A1; exact A1.elim
    | some z =>
      obtain ⟨dv, E2⟩ := z
      rw [e1] at A1
      dsimp only at A1
      obtain ⟨F2, C2, s2, r2⟩ := C1.frz o1 e1
      cases h0 : ownD E2 j with
      | none => rw [h0] at A1; exact A1.elim
      | some z =>
        obtain ⟨k0, d0⟩ := z
        rw [h0] at A1
        dsimp only at A1
        obtain ⟨hE, ho⟩ := ownD_of h0
        obtain ⟨p, _, hσ, _, _, _, _⟩ := C2.own_in hE ho
        refine ⟨.ref p, hσ, At.toS (k := fun y H2 => r (.ref p) y x H2 fun H3 => D.nx σ H3) (hi B E2 σ H1 F2 C2) (A1.up s2) fun w E3 y H3 F3 _ C3 s3 o3 A3 => ?_⟩
        cases e3 : E3.frz w with
        | none => rw [e3] at A3; exact A3.elim
        | some z =>
          obtain ⟨di, E4⟩ := z
          rw [e3] at A3
          dsimp only at A3
          obtain ⟨F4, C4, s4, r4⟩ := C3.frz o3 e3
          cases h4 : ownD E4 j with
          | none => rw [h4] at A3; exact A3.elim
          | some z =>
            obtain ⟨k, d⟩ := z
            rw [h4] at A3
            dsimp only at A3
            obtain ⟨hE4, ho4⟩ := ownD_of h4
            obtain ⟨p4, d4, hσ4, f4, t4, ⟨_, e4⟩, _⟩ := C4.own_in hE4 ho4
            cases e4
            rw [hσ] at hσ4
            cases hσ4
            cases hf : f d di dv with
            | none => rw [hf] at A3; exact A3.elim
            | some d' =>
              rw [hf] at A3
              exact hr H3 F4 p d di dv d' y x C4.le f4 t4 r4 (r2.mono (s3.trans s4)) hf _ fun o t => A3 σ (upd H3 p o) F4 (C4.mutate hE4 ho4 hσ t k ⟨d, rfl⟩) s4
def fSetL : D → D → D → Option D
  | .lst ds, .int i, v => (ixN ds.length i).map fun j => .lst (ds.set j v)
  | _, _, _ => none
theorem rs_setL : RSet K a rSetL fSetL := by
  intro H F p d di dv d' i v l f t ri rv e Q q
  cases d <;> cases di <;> first | (cases e; done) | skip
  case lst.int ds k =>
    rw [Rep] at ri
    subst ri
    obtain ⟨vs, hp, r⟩ := t
    dsimp only [fSetL] at e
    cases e2 : ixN ds.length k with
    | none => rw [e2] at e; cases e
    | some j =>
      rw [e2] at e
      cases e
      exact ⟨p, vs, k, j, rfl, rfl, hp, by rw [← r.length]; exact e2, q _ ⟨_, upd_same, Reps.set j rv r⟩⟩
/-! ### raise -/
def sRaise (c : En) (e : Sv → Rs Vl) : Sv → SRs := fun E => (e E).bindS fun v E1 => match E1.frz v with
  | some (d, E2) => .ex c d E2
  | none => .er
theorem snd_raise {c : En} {te : TE} {e : Sv → Rs Vl} (T : OexC K (a.en c)) (nf : PySem.W.findIn K (.ref (a.en c)) (fldE c) = some none) (he : Snd K a W te e) : SndS K a W (tRaise K (a.en c) (fldE c) W te) (sRaise c e) := fun B E σ H F C D A =>
  At.toS (k := fun v H1 => RaiseQ K (a.en c) (fldE c) v H1 fun cls d H' => W cls d σ H') (he B E σ H F C) A fun v E1 x H1 F1 _ C1 s1 o1 A1 => by
    cases e1 : E1.frz v with
    | none => rw [e1] at A1; exact A1.elim
    | some z =>
      obtain ⟨d, E2⟩ := z
      rw [e1] at A1
      dsimp only at A1
      obtain ⟨F2, C2, s2, r2⟩ := C1.frz o1 e1
      refine raise_ok T nf fun dd hd => ?_
      have g := gr_frozen (o := .xd [(fldE c, x)]) C2.le hd
      exact A1 dd σ _ _ (C2.grow g) (s2.trans g.ff) ⟨x, upd_same, r2.mono g.ff⟩
/-! ### fields -/
theorem lookup_zip : ∀ {fs : List Str} {vs : List V} {k : Nat} {f : Str} {v : V}, fs.Nodup → fs[k]? = some f → vs[k]? = some v → (fs.zip vs).lookup f = some v
  | [], _, _, _, _, _, h, _ => by simp at h
  | g :: fs, [], _, _, _, _, _, h => by simp at h
  | g :: fs, w :: vs, 0, f, v, _, h1, h2 => by
    simp at h1 h2
    subst h1 h2
    rw [List.zip_cons_cons, List.lookup_cons_self]
  | g :: fs, w :: vs, k + 1, f, v, nd, h1, h2 => by
    have h1' : fs[k]? = some f := by simpa using h1
    have h2' : vs[k]? = some v := by simpa using h2
    have ne : f ≠ g := fun e => by
      subst e
      exact (List.nodup_cons.mp nd).1 (List.mem_of_getElem? h1')
    rw [List.zip_cons_cons, List.lookup_cons, show (f == g) = false from by simpa using ne]
    exact lookup_zip (List.nodup_cons.mp nd).2 h1' h2'
theorem putF_zip : ∀ {fs : List Str} {vs : List V} {k : Nat} {f : Str} {v : V}, fs.Nodup → fs[k]? = some f → k < vs.length → putF f v (fs.zip vs) = fs.zip (vs.set k v)
  | [], _, _, _, _, _, h, _ => by simp at h
  | g :: fs, [], _, _, _, _, _, h => by simp at h
  | g :: fs, w :: vs, 0, f, v, _, h1, h2 => by
    simp at h1
    subst h1
    rw [List.zip_cons_cons, List.set_cons_zero, List.zip_cons_cons]
    show (if g = g then _ else _) = _
    rw [if_pos rfl]
  | g :: fs, w :: vs, k + 1, f, v, nd, h1, h2 => by
    have h1' : fs[k]? = some f := by simpa using h1
    have ne : ¬ g = f := fun e => by
      subst e
      exact (List.nodup_cons.mp nd).1 (List.mem_of_getElem? h1')
    rw [List.zip_cons_cons, List.set_cons_succ, List.zip_cons_cons]
    show (if g = f then _ else _) = _
    rw [if_neg ne, putF_zip (List.nodup_cons.mp nd).2 h1' (by simpa using h2)]
theorem putF_zip_new : ∀ {fs : List Str} {vs : List V} {f : Str} {v : V}, fs.Nodup → fs[vs.length]? = some f → putF f v (fs.zip vs) = fs.zip (vs ++ [v])
  | [], _, _, _, _, h => by simp at h
  | g :: fs, [], f, v, _, h => by
    simp at h
    subst h
    rw [List.zip_nil_right, List.nil_append, List.zip_cons_cons, List.zip_nil_right]
    rfl
  | g :: fs, w :: vs, f, v, nd, h => by
    have h1' : fs[vs.length]? = some f := by simpa using h
    have ne : ¬ g = f := fun e => by
      subst e
      exact (List.nodup_cons.mp nd).1 (List.mem_of_getElem? h1')
    rw [List.zip_cons_cons, List.cons_append, List.zip_cons_cons]
    show (if g = f then _ else _) = _
    rw [if_neg ne, putF_zip_new (List.nodup_cons.mp nd).2 h1']
theorem flds_nodup (c : Cn) : (flds c).Nodup := by cases c <;> decide
def eFld (c : Cn) (k : Nat) (e : Sv → Rs Vl) : Sv → Rs Vl := fun E => (e E).bind fun v E1 => match v.get E1 with
  | some (.obj c' ds) => if c' = c then match ds[k]? with
      | some d => .ok (.dv d) E1
      | none => .er
    else .er
  | _ => .er
theorem snd_fld {c : Cn} {k : Nat} {f : Str} {te : TE} {e : Sv → Rs Vl} (cl : Cls K (a.cn c)) (n : NoAttr K (a.cn c) f) (hf : (flds c)[k]? = some f) (he : Snd K a W te e) : Snd K a W (tFld K te f) (eFld c k e) := by
  intro B E σ H F C
  refine At.bind (ok' := OkV K a) (k := fun x H1 Q => ∃ a C dx fs v, x = .ref a ∧ H1 a = some (.ins C dx fs) ∧ Cls K C ∧ NoAttr K C f ∧ fs.lookup f = some v ∧ Q v H1) (he B E σ H F C) fun v E1 x H1 F1 _ C1 s1 o1 => ?_
  cases e1 : v.get E1 with
  | none => trivial
  | some dd =>
    cases dd with
    | obj c' ds =>
      dsimp only
      split
      · rename_i hc
        subst hc
        cases e2 : ds[k]? with
        | none => trivial
        | some d =>
          obtain ⟨p, dx, vs, rfl, hp, _, r⟩ := (C1.get_rep o1 e1).obj C1.le
          obtain ⟨w, hw, rw_⟩ := r.get e2
          exact fun Q q => ⟨p, _, dx, _, w, rfl, hp, cl, n, lookup_zip (flds_nodup _) hf hw, q w H1 F1 C1 (Same.refl _) rw_⟩
      · trivial
    | _ => trivial
def putK (ds : List D) (k : Nat) (d : D) : Option (List D) := if k < ds.length then some (ds.set k d) else if k = ds.length then some (ds ++ [d]) else none
def sSetFld (j : Nat) (c : Cn) (k : Nat) (e : Sv → Rs Vl) : Sv → SRs := fun E => (e E).bindS fun v E1 => match E1.frz v with
  | some (d, E2) => match ownD E2 j with
    | some (kd, .obj c' ds) => if c' = c then match putK ds k d with
        | some ds' => .nx (E2.set j (some (.val kd (.obj c ds'))))
        | none => .er
      else .er
    | _ => .er
  | none => .er
theorem snd_setFld {c : Cn} {k : Nat} {f : Str} {te : TE} {e : Sv → Rs Vl} (cl : Cls K (a.cn c)) (n : NoAttr K (a.cn c) f) (hf : (flds c)[k]? = some f) (he : Snd K a W te e) : SndS K a W (sFld K (tVar j) te f) (sSetFld j c k e) := fun B E σ H F C D A =>
  At.toS (k := fun y H1 => tVar j σ H1 fun x H2 => ∃ a C dx fs, x = .ref a ∧ H2 a = some (.ins C dx fs) ∧ Cls K C ∧ NoAttr K C f ∧ fs.length < 1000 ∧ D.nx σ (upd H2 a (.ins C dx (putF f y fs)))) (he B E σ H F C) A fun v E1 y H1 F1 _ C1 s1 o1 A1 => by
    cases e1 : E1.frz v with
    | none => rw [e1] at A1; exact A1.elim
    | some z =>
      obtain ⟨d, E2⟩ := z
      rw [e1] at A1
      dsimp only at A1
      obtain ⟨F2, C2, s2, r2⟩ := C1.frz o1 e1
      cases h0 : ownD E2 j with
      | none => rw [h0] at A1; exact A1.elim
      | some z =>
        obtain ⟨kd, d0⟩ := z
        rw [h0] at A1
        obtain ⟨hE, ho⟩ := ownD_of h0
        obtain ⟨p, _, hσ, f0, t0, ⟨_, e0⟩, _⟩ := C2.own_in hE ho
        cases e0
        cases d0 with
        | obj c' ds =>
          dsimp only at A1
          split at A1
          · rename_i hc
            subst hc
            cases h1 : putK ds k d with
            | none => rw [h1] at A1; exact A1.elim
            | some ds' =>
              rw [h1] at A1
              obtain ⟨dx, vs, hp, hl, r⟩ := t0
              have hlen : (flds c').length ≤ 10 := by cases c' <;> decide
              refine ⟨.ref p, hσ, p, _, dx, _, rfl, hp, cl, n, ?_, A1 σ _ F2 (C2.mutate hE ho hσ ?_ kd ⟨_, rfl⟩) s2⟩
              · rw [List.length_zip]
                omega
              · unfold putK at h1
                split at h1
                · cases h1
                  rename_i hk
                  refine ⟨dx, vs.set k y, ?_, by rw [List.length_set]; exact hl, Reps.set k r2 r⟩
                  rw [upd_same, putF_zip (flds_nodup _) hf (by rw [← r.length]; exact hk)]
                · split at h1
                  · cases h1
                    rename_i hk
                    have hk2 : k = vs.length := by rw [hk, r.length]
                    have hlt := (List.getElem?_eq_some_iff.mp hf).1
                    refine ⟨dx, vs ++ [y], ?_, by rw [List.length_append]; show vs.length + 1 ≤ _; omega, r.append (.cons r2 .nil)⟩
                    rw [upd_same, putF_zip_new (flds_nodup _) (by rw [← hk2]; exact hf)]
                  · cases h1
          · exact A1.elim
        | _ => exact A1.elim
end
end TV

set_option Elab.async false
set_option linter.all false
set_option maxRecDepth 100000
set_option maxHeartbeats 4000000
/-! List comprehensions. -/
namespace TV
open PySem PySem.Spec PyProof.Rows L2 TC
def wipeE (E : Sv) : List Nat → Sv
  | [] => E
  | v :: vs => (wipeE E vs).set v none
def restE (E2 E1 : Sv) : List Nat → Sv
  | [] => E2
  | i :: ws => (restE E2 E1 ws).set i (E1[i]?.getD none)
def noOwn (E : Sv) (ws : List Nat) : Bool := ws.all fun i => !ownedAt E i
def lcGo (g : D → Sv → Option Sv) (tt : Sv → Rs Bool) (te : Sv → Rs Vl) (ws : List Nat) : List D → Sv → List D → Option (List D × Sv)
  | [], E, acc => some (acc, E)
  | d :: ds, E, acc => match g d E with
    | some E1 => match tt E1 with
      | .ok true E2 => match te E2 with
        | .ok v E3 => match E3.frz v with
          | some (x, E4) => if acc.length < LIM then lcGo g tt te ws ds (wipeE E4 ws) (acc ++ [x]) else none
          | none => none
        | _ => none
      | .ok false E2 => lcGo g tt te ws ds (wipeE E2 ws) acc
      | _ => none
    | none => none
def eLc (it : Sv → Rs (List D)) (g : D → Sv → Option Sv) (tt : Sv → Rs Bool) (te : Sv → Rs Vl) (ws : List Nat) : Sv → Rs Vl := fun E => (it E).bind fun ds E1 => if noOwn E1 ws = true then match lcGo g tt te ws ds (wipeE E1 ws) [] with
    | some (acc, E2) => .ok (.fr (.lst acc)) (restE E2 E1 ws)
    | none => .er
  else .er
def eYes : Sv → Rs Bool := fun E => .ok true E
section
variable {K : PySem.W.Frag} {a : Adr} {W : WX} {B : Bd} {E E1 : Sv} {σ : L2.St} {H F H' F' : Hp} {x y v : V} {d : D} {p : Addr} {vl : Vl} {i j : Nat} {X : Cx}
theorem wipeE_get {E : Sv} {k : Nat} : ∀ vs : List Nat, (wipeE E vs)[k]? = if k ∈ vs then (if k < E.length then some none else none) else E[k]?
  | [] => by rw [if_neg (by simp)]; rfl
  | v :: vs => by
    have len : ∀ ws : List Nat, (wipeE E ws).length = E.length := fun ws => by
      induction ws with
      | nil => rfl
      | cons w ws ih => unfold wipeE; rw [List.length_set, ih]
    unfold wipeE
    by_cases h : v = k
    · subst h
      rw [if_pos List.mem_cons_self, List.getElem?_set_self']
      cases e : (wipeE E vs)[v]? with
      | none =>
        have := List.getElem?_eq_none_iff.mp e
        rw [len] at this
        rw [if_neg (by omega)]
        rfl
      | some z =>
        have := (List.getElem?_eq_some_iff.mp e).1
        rw [len] at this
        rw [if_pos this]
        rfl
    · rw [List.getElem?_set_ne h, wipeE_get vs]
      by_cases h2 : k ∈ vs
      · rw [if_pos h2, if_pos (List.mem_cons_of_mem _ h2)]
      · rw [if_neg h2, if_neg (fun z => by rcases List.mem_cons.mp z with z | z; exact h z.symm; exact h2 z)]
theorem wipeE_length (E : Sv) : ∀ ws : List Nat, (wipeE E ws).length = E.length := fun ws => by
  induction ws with
  | nil => rfl
  | cons w ws ih => unfold wipeE; rw [List.length_set, ih]
theorem wipeE_some {E : Sv} {ws : List Nat} {k : Nat} {s : Sl} (h : (wipeE E ws)[k]? = some (some s)) : k ∉ ws ∧ E[k]? = some (some s) := by
  rw [wipeE_get] at h
  by_cases hk : k ∈ ws
  · rw [if_pos hk] at h
    split at h <;> cases h
  · rw [if_neg hk] at h
    exact ⟨hk, h⟩
theorem Cc.wipe (C : Cc K a B E σ H F) (ws : List Nat) : Cc K a B (wipeE E ws) (L2.wipe σ ws) H F := by
  have eq : ∀ k, k ∉ ws → (L2.wipe σ ws)[k]? = σ[k]? := fun k hk => by rw [wipe_get, if_neg hk]
  refine ⟨by rw [L2.wipe_length, wipeE_length]; exact C.len, C.le, C.lo, C.new, C.keep, C.live, fun k s h => ?_, fun k l s t p h1 h2 h3 h4 h5 h6 => ?_, C.ctx⟩
  · obtain ⟨hk, h⟩ := wipeE_some h
    obtain ⟨v, hv, ok⟩ := C.sl k s h
    exact ⟨v, by rw [eq k hk]; exact hv, ok⟩
  · obtain ⟨hk, h1⟩ := wipeE_some h1
    obtain ⟨hl, h2⟩ := wipeE_some h2
    rw [eq k hk] at h5
    rw [eq l hl] at h6
    exact C.sep k l s t p h1 h2 h3 h4 h5 h6
theorem VOk.wipe {ws : List Nat} (h : VOk K a B E σ H F x (.fr d)) : VOk K a B (wipeE E ws) (L2.wipe σ ws) H F x (.fr d) := by
  obtain ⟨p, rfl, f, m, t, n⟩ := h
  refine ⟨p, rfl, f, m, t, fun k s h1 h2 h3 => ?_⟩
  obtain ⟨hk, h1⟩ := wipeE_some h1
  rw [wipe_get, if_neg hk] at h3
  exact n k s h1 h2 h3
theorem VOk.grow (C : Cc K a B E σ H F) (g : Gr H F H' F') (h : VOk K a B E σ H F x (.fr d)) : VOk K a B E σ H' F' x (.fr d) := by
  obtain ⟨p, rfl, f, m, t, n⟩ := h
  obtain ⟨o, ho⟩ := t.some
  refine ⟨p, rfl, ?_, m, t.mono g.ff (ho.trans (g.hh _ _ ho).symm), n⟩
  cases e : F' p with
  | none => rfl
  | some o2 =>
    rcases g.nw p o2 e with ⟨o3, h⟩ | h
    · rw [f] at h; cases h
    · rw [ho] at h; cases h
theorem restE_get {E2 E1 : Sv} (hl : E2.length = E1.length) {k : Nat} : ∀ ws : List Nat, (restE E2 E1 ws)[k]? = if k ∈ ws then E1[k]? else E2[k]?
  | [] => by rw [if_neg (by simp)]; rfl
  | v :: ws => by
    have len : ∀ ws : List Nat, (restE E2 E1 ws).length = E2.length := fun ws => by
      induction ws with
      | nil => rfl
      | cons w ws ih => unfold restE; rw [List.length_set, ih]
    unfold restE
    by_cases h : v = k
    · subst h
      rw [if_pos List.mem_cons_self, List.getElem?_set_self']
      cases e : (restE E2 E1 ws)[v]? with
      | none =>
        have := List.getElem?_eq_none_iff.mp e
        rw [len, hl] at this
        rw [List.getElem?_eq_none this]
        rfl
      | some z =>
        have := (List.getElem?_eq_some_iff.mp e).1
        rw [len, hl] at this
        rw [List.getElem?_eq_getElem this]
        rfl
    · rw [List.getElem?_set_ne h, restE_get hl ws]
      by_cases h2 : k ∈ ws
      · rw [if_pos h2, if_pos (List.mem_cons_of_mem _ h2)]
      · rw [if_neg h2, if_neg (fun z => by rcases List.mem_cons.mp z with z | z; exact h z.symm; exact h2 z)]
theorem noOwn_at {E : Sv} {ws : List Nat} (h : noOwn E ws = true) {k : Nat} {s : Sl} (hk : k ∈ ws) (hs : E[k]? = some (some s)) : s.owned = false := by
  have := List.all_eq_true.mp h k hk
  unfold ownedAt at this
  rw [hs] at this
  simpa using this
theorem Cc.rest {H2 F2 : Hp} {E2 : Sv} {ws : List Nat} (C : Cc K a B E1 σ H F) (no : noOwn E1 ws = true) (C2 : Cc K a B E2 (L2.wipe σ ws) H2 F2) (ff : Same F F2) : Cc K a B (restE E2 E1 ws) σ H2 F2 := by
  have hl : E2.length = E1.length := by rw [← C2.len, ← C.len, L2.wipe_length]
  have own : ∀ (k : Nat) (s : Sl), (restE E2 E1 ws)[k]? = some (some s) → s.owned = true → k ∉ ws ∧ E2[k]? = some (some s) := fun k s h hs => by
    rw [restE_get hl] at h
    by_cases hk : k ∈ ws
    · rw [if_pos hk] at h
      rw [noOwn_at no hk h] at hs
      cases hs
    · rw [if_neg hk] at h
      exact ⟨hk, h⟩
  have eq : ∀ k, k ∉ ws → (L2.wipe σ ws)[k]? = σ[k]? := fun k hk => by rw [wipe_get, if_neg hk]
  refine ⟨?_, C2.le, C2.lo, C2.new, C2.keep, C2.live, fun k s h => ?_, fun k l s t p h1 h2 h3 h4 h5 h6 => ?_, C2.ctx⟩
  · have len : ∀ ws : List Nat, (restE E2 E1 ws).length = E2.length := fun ws => by
      induction ws with
      | nil => rfl
      | cons w ws ih => unfold restE; rw [List.length_set, ih]
    rw [len, hl]
    exact C.len
  · rw [restE_get hl] at h
    by_cases hk : k ∈ ws
    · rw [if_pos hk] at h
      obtain ⟨v, hv, ok⟩ := C.sl k s h
      refine ⟨v, hv, ?_⟩
      have no2 := noOwn_at no hk h
      cases s with
      | exn c d => exact ok
      | val kd d =>
        cases kd with
        | pure => exact Rep.mono ff _ _ ok
        | own => cases no2
        | prm => cases no2
    · rw [if_neg hk] at h
      obtain ⟨v, hv, ok⟩ := C2.sl k s h
      exact ⟨v, by rw [← eq k hk]; exact hv, ok⟩
  · obtain ⟨hk, h1⟩ := own k s h1 h3
    obtain ⟨hl2, h2⟩ := own l t h2 h4
    rw [← eq k hk] at h5
    rw [← eq l hl2] at h6
    exact C2.sep k l s t p h1 h2 h3 h4 h5 h6
theorem VOk.rest {H2 F2 : Hp} {E2 : Sv} {ws : List Nat} (C : Cc K a B E1 σ H F) (no : noOwn E1 ws = true) (C2 : Cc K a B E2 (L2.wipe σ ws) H2 F2) (h : VOk K a B E2 (L2.wipe σ ws) H2 F2 x (.fr d)) : VOk K a B (restE E2 E1 ws) σ H2 F2 x (.fr d) := by
  have hl : E2.length = E1.length := by rw [← C2.len, ← C.len, L2.wipe_length]
  obtain ⟨p, rfl, f, m, t, n⟩ := h
  refine ⟨p, rfl, f, m, t, fun k s h1 h2 h3 => ?_⟩
  rw [restE_get hl] at h1
  by_cases hk : k ∈ ws
  · rw [if_pos hk] at h1
    rw [noOwn_at no hk h1] at h2
    cases h2
  · rw [if_neg hk] at h1
    exact n k s h1 h2 (by rw [wipe_get, if_neg hk]; exact h3)
/-- a thing of no slot is changed -/
theorem Cc.other {o : HO} {o' : HO} (C : Cc K a B E σ H F) (f : F p = none) (h0 : B.H0 p = none) (hp : H p = some o') (n : ∀ (i : Nat) (s : Sl), E[i]? = some (some s) → s.owned = true → σ[i]? ≠ some (some (.ref p))) : Cc K a B E σ (upd H p o) F := by
  refine ⟨C.len, fun q u e => ?_, C.lo, C.new, fun q u e nm => ?_, fun q u e => ?_, fun k s h => ?_, C.sep, C.ctx⟩
  · rw [upd_ne fun z => by rw [z, f] at e; cases e]
    exact C.le _ _ e
  · rw [upd_ne fun z => by rw [z, h0] at e; cases e]
    exact C.keep q u e nm
  · rw [upd_ne fun z => by rw [z, h0] at e; cases e]
    exact C.live q u e
  · obtain ⟨v, hv, ok⟩ := C.sl k s h
    refine ⟨v, hv, ok.mono (Same.refl _) fun q u hs e hq hf => ⟨?_, hf⟩⟩
    subst e
    rw [upd_ne fun z => n k s h hs (by rw [hv, z])]
    exact hq
theorem snd_yes : SndT K a W tYes eYes := fun B E σ H F C Q q => q true H F C (Same.refl _) rfl
abbrev WF : WX := fun _ _ _ _ => False
theorem snd_lc {wi : TI} {tg : TG} {tt' : TT} {te' : TE} {it : Sv → Rs (List D)} {g : D → Sv → Option Sv} {tt : Sv → Rs Bool} {te : Sv → Rs Vl} {ts ws : List Nat} (hi : SndI K a W wi it) (hg : SndG K a ts tg g) (ht : SndT K a WF tt' tt) (he : Snd K a WF te' te) (hts : ∀ i ∈ ts, i ∈ ws) :
    Snd K a W (tLc wi tg tt' te' ws) (eLc it g tt te ws) := by
  intro B E σ H F C
  refine At.bind (ok' := OkV K a) (k := fun J H1 Q => ∀ D, H1 D = none → ∃ W : Nat → Nat → Hp → Prop, (∃ m, W 0 m (upd H1 D (.lst []))) ∧ ∀ i m H, W i m H →
    (J.stop i H ∧ Q (.ref D) H) ∨ (J.go i H ∧ ∃ Nx : Hp → Prop, (∀ H', Nx H' → ∃ m', m' < m ∧ W (i + 1) m' H') ∧ ∀ x H', J.yld i H x H' → tg x (L2.wipe σ ws) H' fun σ2 H2 => L2.wipe σ2 ws = L2.wipe σ ws ∧ tt' σ2 H2 fun b H3 =>
      if b = true then te' σ2 H3 fun y H4 => ∃ acc, H4 D = some (.lst acc) ∧ acc.length < sizeLine ∧ Nx (upd H4 D (.lst (acc ++ [y]))) else Nx H3)) (hi B E σ H F C) fun ds E1 J H1 F1 _ C1 s1 o1 => ?_
  split
  · rename_i no
    cases hgo : lcGo g tt te ws ds (wipeE E1 ws) [] with
    | none => trivial
    | some z =>
      obtain ⟨acc, Ef⟩ := z
      intro Q q Dp hD
      have c0 := (C1.grow (gr_own (o := .lst []) C1.le hD)).wipe ws
      obtain ⟨fD, h0D, nD⟩ := C1.fresh hD
      have v0 : VOk K a B E1 σ (upd H1 Dp (.lst [])) F1 (.ref Dp) (.fr (.lst [])) := ⟨Dp, rfl, fD, h0D, ⟨[], upd_same, .nil⟩, nD⟩
      refine ⟨fun i m H2 => ∃ E' F' ac, Cc K a B E' (L2.wipe σ ws) H2 F' ∧ Same F1 F' ∧ VOk K a B E' (L2.wipe σ ws) H2 F' (.ref Dp) (.fr (.lst ac)) ∧ i ≤ ds.length ∧ m = ds.length - i ∧ lcGo g tt te ws (ds.drop i) E' ac = some (acc, Ef),
        ⟨ds.length, _, F1, [], c0, Same.refl _, v0.wipe, Nat.zero_le _, rfl, hgo⟩, ?_⟩
      rintro i m H2 ⟨E', F', ac, C', s', vD, hi2, rfl, go⟩
      obtain ⟨y1, y2⟩ := o1 H2 F' s' C'.le i
      cases hd : ds[i]? with
      | none =>
        have hl : ds.length ≤ i := List.getElem?_eq_none_iff.mp hd
        rw [List.drop_eq_nil_of_le hl] at go
        cases go
        exact .inl ⟨y2 hl, q (.ref Dp) H2 F' (C1.rest no C' s') s' (VOk.rest C1 no C' vD)⟩
      | some d =>
        obtain ⟨g1, g2⟩ := y1 d hd
        have hlt := (List.getElem?_eq_some_iff.mp hd).1
        have hdr : ds.drop i = d :: ds.drop (i + 1) := by rw [List.drop_eq_getElem_cons hlt, (List.getElem?_eq_some_iff.mp hd).2]
        rw [hdr] at go
        refine .inr ⟨g1, fun H' => ∃ E' F' ac, Cc K a B E' (L2.wipe σ ws) H' F' ∧ Same F1 F' ∧ VOk K a B E' (L2.wipe σ ws) H' F' (.ref Dp) (.fr (.lst ac)) ∧ lcGo g tt te ws (ds.drop (i + 1)) E' ac = some (acc, Ef),
          fun H' ⟨E2, F2, a2, c2, z1, z2, z3⟩ => ⟨ds.length - (i + 1), by omega, E2, F2, a2, c2, z1, z2, hlt, rfl, z3⟩, fun x H3 hy => ?_⟩
        obtain ⟨F3, gr, rx⟩ := g2 x H3 hy
        have C3 := C'.grow gr
        have vD3 := VOk.grow C' gr vD
        unfold lcGo at go
        cases e1 : g d E' with
        | none => rw [e1] at go; cases go
        | some Eg =>
          rw [e1] at go
          dsimp only at go
          refine hg _ E' Eg (L2.wipe σ ws) H3 F3 x d C3.re rx e1 _ fun σ2 C4' w4 => ?_
          have C4 := C3.un C4'
          have vD4 : VOk K a B Eg σ2 H3 F3 (.ref Dp) (.fr (.lst ac)) := VOk.pastS C3 vD3 C4' (Same.refl _) (fun i z => by cases z)
          have wEq : L2.wipe σ2 ws = L2.wipe σ ws := by
            rw [w4 ws hts]
            refine List.ext_getElem? fun k => ?_
            rw [wipe_get, wipe_get, L2.wipe_length]
            by_cases hk : k ∈ ws
            · rw [if_pos hk, if_pos hk]
            · rw [if_neg hk, if_neg hk]
          refine ⟨wEq, ?_⟩
          have T := ht (B.re Eg σ2 H3 F3) Eg σ2 H3 F3 C4.re
          cases e2 : tt Eg with
          | er => rw [e2] at go; cases go
          | ex c d2 E5 => rw [e2] at go; cases go
          | ok b E5 =>
            rw [e2] at T go
            refine T _ fun b' H5 F5 C5' s5 eb => ?_
            have eb : b' = b := eb
            subst eb
            have C5 := C4.un C5'
            have vD5 : VOk K a B E5 σ2 H5 F5 (.ref Dp) (.fr (.lst ac)) := VOk.pastS C4 vD4 C5' s5 (fun i z => by cases z)
            cases b' with
            | false =>
              rw [if_neg (by decide)]
              refine ⟨wipeE E5 ws, F5, ac, ?_, (s'.trans gr.ff).trans s5, ?_, go⟩
              · rw [← wEq]; exact C5.wipe ws
              · rw [← wEq]; exact vD5.wipe
            | true =>
              rw [if_pos rfl]
              dsimp only at go
              have T6 := he (B.re E5 σ2 H5 F5) E5 σ2 H5 F5 C5.re
              cases e3 : te E5 with
              | er => rw [e3] at go; cases go
              | ex c d2 E6 => rw [e3] at go; cases go
              | ok v E6 =>
                rw [e3] at T6 go
                refine T6 _ fun y H6 F6 C6' s6 oy => ?_
                have C6 := C5.un C6'
                have vD6 : VOk K a B E6 σ2 H6 F6 (.ref Dp) (.fr (.lst ac)) := VOk.pastS C5 vD5 C6' s6 (fun i z => by cases z)
                dsimp only at go
                cases e4 : E6.frz v with
                | none => rw [e4] at go; cases go
                | some z =>
                  obtain ⟨dx, E7⟩ := z
                  rw [e4] at go
                  dsimp only at go
                  have fin : ∃ F7, Cc K a B E7 σ2 H6 F7 ∧ Same F6 F7 ∧ Rep K a F7 dx y ∧ VOk K a B E7 σ2 H6 F7 (.ref Dp) (.fr (.lst ac)) := by
                    cases v with
                    | dv d0 => cases e4; exact ⟨F6, C6, Same.refl _, oy, vD6⟩
                    | loc j =>
                      obtain ⟨F7, C7, s7, r7, k7⟩ := C6.frz2 (i := j) oy e4
                      exact ⟨F7, C7, s7, r7, k7 _ _ vD6⟩
                    | fr d0 =>
                      cases e4
                      obtain ⟨p, rfl, f, m, t, n⟩ := oy
                      obtain ⟨o, ho⟩ := t.some
                      have m5 : H5 p = none := m
                      have hne : Dp ≠ p := fun e => by
                        obtain ⟨_, e0, _, _, t0, _⟩ := vD5
                        cases e0
                        obtain ⟨o5, ho5⟩ := t0.some
                        rw [e, m5] at ho5
                        cases ho5
                      refine ⟨upd F6 p o, C6.freeze ho f (.inr (C5.noneOf m5)) n, Same.new f, t.rep (Same.new f) (upd_same.trans ho.symm), ?_⟩
                      exact vD6.other f fun e => hne (by cases e; rfl)
                  obtain ⟨F7, C7, s7, r7, vD7⟩ := fin
                  split at go
                  · rename_i hlen
                    obtain ⟨p7, ep, f7, m7, ⟨vs7, hp7, rv7⟩, n7⟩ := vD7
                    cases ep
                    refine ⟨vs7, hp7, by rw [← rv7.length]; exact Nat.lt_of_lt_of_le hlen lim_le, wipeE E7 ws, F7, ac ++ [dx], ?_, (((s'.trans gr.ff).trans s5).trans s6).trans s7, ?_, go⟩
                    · rw [← wEq]
                      exact (C7.other f7 m7 hp7 n7).wipe ws
                    · rw [← wEq]
                      exact VOk.wipe ⟨Dp, rfl, f7, m7, ⟨_, upd_same, rv7.append (.cons r7 .nil)⟩, n7⟩
                  · cases go
  · trivial
end
end TV

set_option Elab.async false
set_option linter.all false
set_option maxRecDepth 100000
set_option maxHeartbeats 4000000
/-! try with clauses. -/
namespace TV
open PySem PySem.Spec PyProof.Rows L2 TC
/-- a clause: its class, its name's slot, its suite -/
structure Hnd where
  c : En
  i : Option Nat
  s : D → Sv → SRs
def noExn (E : Sv) : Bool := E.all fun s => match s with
  | some (.exn _ _) => false
  | _ => true
def setN (E : Sv) : Option Nat → Sv
  | some i => E.set i none
  | none => E
/-- exception slots stay where they are: what a suite's end tells -/
def onlyAt (io : Option Nat) (E : Sv) : Bool := match io with
  | some i => noExn (E.set i none)
  | none => noExn E
def endH (i : Option Nat) : SRs → SRs
  | .nx E => if onlyAt i E = true then .nx (setN E i) else .er
  | .rt (.dv d) E => if onlyAt i E = true then .rt (.dv d) (setN E i) else .er
  | .rt (.fr d) E => if onlyAt i E = true then .rt (.fr d) (setN E i) else .er
  | .bk E => if onlyAt i E = true then .bk (setN E i) else .er
  | .ct E => if onlyAt i E = true then .ct (setN E i) else .er
  | _ => .er
def runH (c : En) (d : D) (E : Sv) : List Hnd → SRs
  | [] => .ex c d E
  | h :: hs => if c = h.c then (if noExn E = true then endH h.i (h.s d (match h.i with
      | some i => E.set i (some (.exn c d))
      | none => E)) else .er) else runH c d E hs
def sTry (known : List En) (body : Sv → SRs) (hs : List Hnd) : Sv → SRs := fun E => match body E with
  | .ex c d E1 => if known.contains c = true then runH c d E1 hs else .er
  | r => r
/-- the state's view within a suite -/
def Adr.sui (K : PySem.W.Frag) (a : Adr) (ea : Addr) (c : En) (dd : Addr) (v : V) (d : D) : Adr := ⟨a.cn, a.en, a.inj, ea, fun F => a.phi F ∧ F dd = some (.xd [(fldE c, v)]) ∧ Rep K a F d v, fun F F' s h => ⟨a.mono F F' s h.1, s _ _ h.2.1, h.2.2.mono s⟩⟩
section
variable {K : PySem.W.Frag} {a a' : Adr} {W : WX} {B : Bd} {E E1 : Sv} {σ : L2.St} {H F H' F' : Hp} {x y v : V} {d : D} {p : Addr} {vl : Vl} {i j : Nat} {X : Cx}
mutual
theorem rep_cn (e : a'.cn = a.cn) : ∀ (d : D) (v : V), Rep K a F d v → Rep K a' F d v
  | .non, _, h => by rw [Rep] at h ⊢; exact h
  | .bl _, _, h => by rw [Rep] at h ⊢; exact h
  | .int _, _, h => by rw [Rep] at h ⊢; exact h
  | .str _, _, h => by rw [Rep] at h ⊢; exact h
  | .ty _, _, h => by rw [Rep] at h ⊢; exact h
  | .cls _, _, h => by rw [Rep] at h ⊢; rw [e]; exact h
  | .scr _, _, h => by rw [Rep] at h ⊢; exact h
  | .tup ds, _, h => by
    rw [Rep] at h ⊢
    obtain ⟨p, vs, rfl, s, r⟩ := h
    exact ⟨p, vs, rfl, s, reps_cn e ds vs r⟩
  | .lst ds, _, h => by
    rw [Rep] at h ⊢
    obtain ⟨p, vs, rfl, s, r⟩ := h
    exact ⟨p, vs, rfl, s, reps_cn e ds vs r⟩
  | .obj c ds, _, h => by
    rw [Rep] at h ⊢
    obtain ⟨p, dx, vs, rfl, s, l, r⟩ := h
    exact ⟨p, dx, vs, rfl, by rw [e]; exact s, l, reps_cn e ds vs r⟩
  | .dct _ ds, _, h => by
    rw [Rep] at h ⊢
    obtain ⟨p, vs, rfl, r, s⟩ := h
    exact ⟨p, vs, rfl, reps_cn e ds vs r, s⟩
theorem reps_cn (e : a'.cn = a.cn) : ∀ (ds : List D) (vs : List V), Reps K a F ds vs → Reps K a' F ds vs
  | [], _, h => by rw [Reps] at h ⊢; exact h
  | d :: ds, _, h => by
    obtain ⟨v, r, rfl, h1, h2⟩ := h.uncons
    exact .cons (rep_cn e d v h1) (reps_cn e ds r h2)
end
theorem top_cn (e : a'.cn = a.cn) (t : Top K a H F p d) : Top K a' H F p d := by
  cases d with
  | lst ds => obtain ⟨vs, h, r⟩ := t; exact ⟨vs, h, reps_cn e _ _ r⟩
  | obj c ds => obtain ⟨dx, vs, h, l, r⟩ := t; exact ⟨dx, vs, by rw [e]; exact h, l, reps_cn e _ _ r⟩
  | dct ks ds => obtain ⟨vs, r, h⟩ := t; exact ⟨vs, reps_cn e _ _ r, h⟩
  | _ => exact t.elim
theorem cc_cn (e : a'.cn = a.cn) (hp : a'.phi F) (ne : ∀ (i : Nat) (c : En) (d : D), E[i]? ≠ some (some (.exn c d))) (C : Cc K a B E σ H F) : Cc K a' B E σ H F := by
  refine ⟨C.len, C.le, C.lo, C.new, C.keep, C.live, fun i s h => ?_, C.sep, hp⟩
  obtain ⟨v, hv, ok⟩ := C.sl i s h
  refine ⟨v, hv, ?_⟩
  cases s with
  | exn c d => exact (ne i c d h).elim
  | val k d =>
    cases k with
    | pure => exact rep_cn e _ _ ok
    | own => obtain ⟨p, rfl, f, m, t⟩ := ok; exact ⟨p, rfl, f, m, top_cn e t⟩
    | prm => obtain ⟨rfl, f, m, t⟩ := ok; exact ⟨rfl, f, m, top_cn e t⟩
theorem noExn_at (h : noExn E = true) (i : Nat) (c : En) (d : D) : E[i]? ≠ some (some (.exn c d)) := fun e => by
  have := List.all_eq_true.mp h _ (List.mem_of_getElem? e)
  cases this
theorem Cc.drop (C : Cc K a B E σ H F) (i : Nat) (x : Option V) : Cc K a B (E.set i none) (σ.set i x) H F := by
  have bk : ∀ (j : Nat) (s : Sl), (E.set i none)[j]? = some (some s) → i ≠ j ∧ E[j]? = some (some s) := fun j s h => by
    rcases getElem?_set_cases h with ⟨_, e, _⟩ | ⟨ne, h⟩
    · cases e
    · exact ⟨ne, h⟩
  refine ⟨by rw [List.length_set, List.length_set]; exact C.len, C.le, C.lo, C.new, C.keep, C.live, fun j s h => ?_, fun j l s t p h1 h2 h3 h4 h5 h6 => ?_, C.ctx⟩
  · obtain ⟨ne, h⟩ := bk j s h
    obtain ⟨v, hv, ok⟩ := C.sl j s h
    exact ⟨v, by rw [List.getElem?_set_ne ne]; exact hv, ok⟩
  · obtain ⟨n1, h1⟩ := bk j s h1
    obtain ⟨n2, h2⟩ := bk l t h2
    rw [List.getElem?_set_ne n1] at h5
    rw [List.getElem?_set_ne n2] at h6
    exact C.sep j l s t p h1 h2 h3 h4 h5 h6
def setNs (σ : L2.St) : Option Nat → L2.St
  | some i => σ.set i none
  | none => σ
/-- a clause's promise: the suite's readings follow its evaluator -/
def SndH (K : PySem.W.Frag) (a : Adr) (ts : Addr → Value → Option Addr → TS) (h : Hnd) : Prop := ∀ (ea dd : Addr) (v : V) (d : D), SndS K (a.sui K ea h.c dd v d) WF (ts ea (.ref (a.en h.c)) (some dd)) (h.s d)
def clOf (a : Adr) (h : Hnd) (ts : Addr → Value → Option Addr → TS) : Cl := (.ref (a.en h.c), h.i, ts)
theorem back_nx {E2 : Sv} {ea dd : Addr} {c : En} {v : V} {d0 : D} {io : Option Nat} (hi : ∀ (j : Nat) (c : En) (d : D), E2[j]? = some (some (.exn c d)) → io = some j) (C : Cc K (a.sui K ea c dd v d0) B E2 σ H F) : Cc K a B (setN E2 io) (setNs σ io) H F ∧ Cc K a B (setN E2 io) σ H F := by
  have ph : a.phi F := C.ctx.1
  cases io with
  | none => exact ⟨cc_cn (a := a.sui K ea c dd v d0) rfl ph (fun i c d e => by cases hi i c d e) C, cc_cn (a := a.sui K ea c dd v d0) rfl ph (fun i c d e => by cases hi i c d e) C⟩
  | some i =>
    have ne : ∀ (j : Nat) (c : En) (d : D), (E2.set i none)[j]? ≠ some (some (.exn c d)) := fun j c d e => by
      rcases getElem?_set_cases e with ⟨_, e, _⟩ | ⟨ne, h⟩
      · cases e
      · have := hi j c d h
        cases this
        exact ne rfl
    refine ⟨cc_cn (a := a.sui K ea c dd v d0) rfl ph ne (C.drop i none), ?_⟩
    have C2 := cc_cn (a' := a) (a := a.sui K ea c dd v d0) rfl ph ne (C.drop i none)
    refine ⟨by show σ.length = (E2.set i none).length; rw [List.length_set]; exact C.len, C2.le, C2.lo, C2.new, C2.keep, C2.live, fun j s h => ?_, fun j l s t p h1 h2 h3 h4 h5 h6 => ?_, ph⟩
    · have h : (E2.set i none)[j]? = some (some s) := h
      obtain ⟨w, hw, ok⟩ := C2.sl j s h
      rcases getElem?_set_cases h with ⟨_, e, _⟩ | ⟨ne2, _⟩
      · cases e
      · rw [List.getElem?_set_ne ne2] at hw
        exact ⟨w, hw, ok⟩
    · have h1 : (E2.set i none)[j]? = some (some s) := h1
      have h2 : (E2.set i none)[l]? = some (some t) := h2
      rcases getElem?_set_cases h1 with ⟨_, e, _⟩ | ⟨n1, h1'⟩
      · cases e
      · rcases getElem?_set_cases h2 with ⟨_, e, _⟩ | ⟨n2, h2'⟩
        · cases e
        · exact C2.sep j l s t p h1 h2 h3 h4 (by rw [List.getElem?_set_ne n1]; exact h5) (by rw [List.getElem?_set_ne n2]; exact h6)
theorem onlyAt_of {io : Option Nat} (h : onlyAt io E = true) (j : Nat) (c : En) (d : D) (e : E[j]? = some (some (.exn c d))) : io = some j := by
  cases io with
  | none => exact (noExn_at h j c d e).elim
  | some i =>
    by_cases hj : i = j
    · rw [hj]
    · exact (noExn_at h j c d (by rw [List.getElem?_set_ne hj]; exact e)).elim
theorem vok_cn {c : En} {ea dd : Addr} {v0 : V} {d0 : D} {E2 : Sv} {io : Option Nat} (h : VOk K (a.sui K ea c dd v0 d0) B E2 σ H F x vl) (nl : ∀ i, vl ≠ .loc i) : VOk K a B (setN E2 io) σ H F x vl := by
  cases vl with
  | dv d => exact (rep_cn (a' := a) (a := a.sui K ea c dd v0 d0) rfl _ _ h : Rep K a F d x)
  | loc i => exact (nl i rfl).elim
  | fr d =>
    obtain ⟨p, rfl, f, m, t, n⟩ := h
    refine ⟨p, rfl, f, m, top_cn (a := a.sui K ea c dd v0 d0) rfl t, fun i s h1 h2 => ?_⟩
    cases io with
    | none => exact n i s h1 h2
    | some j =>
      rcases getElem?_set_cases h1 with ⟨_, e, _⟩ | ⟨_, h1⟩
      · cases e
      · exact n i s h1 h2
/-- the clauses take the exception -/
theorem hands_ok {Wo : WX} {c : En} {dd : Addr} {D : Ends} : ∀ {hs : List Hnd} {l : List Cl}, (∀ h ∈ hs, PySem.W.exmOne K (.ref (a.en c)) (.ref (a.en h.c)) = some (decide (c = h.c))) → Paired (fun h (q : Cl) => q.1 = .ref (a.en h.c) ∧ q.2.1 = h.i ∧ SndH K a q.2.2 h) hs l →
    Cc K a B E σ H F → ExOk K a F c d dd → Acc K a Wo B F D (runH c d E hs) → wCl K Wo D l (.ref (a.en c)) (some dd) σ H
  | [], _, _, .nil, C, o, A => A dd σ H F C (Same.refl _) o
  | h :: hs, _, hx, .cons (b := q) hq hp, C, o, A => by
    obtain ⟨q1, q2, ts⟩ := q
    obtain ⟨e1, e2, sh⟩ := hq
    dsimp only at e1 e2 sh
    subst e1 e2
    have hb := hx h List.mem_cons_self
    unfold runH at A
    have no : decide (c = h.c) = false → wCl K Wo D _ (.ref (a.en c)) (some dd) σ H := fun z => hands_ok (fun h' hm => hx h' (List.mem_cons_of_mem _ hm)) hp C o (by rw [if_neg (of_decide_eq_false z)] at A; exact A)
    have yes : decide (c = h.c) = true → ∀ ea, H ea = none → ts ea (.ref (a.en c)) (some dd) (match h.i with
        | some i => endN i D
        | none => D) (match h.i with
        | some i => σ.set i (some (.ref ea))
        | none => σ) H := by
      intro z ea hea
      have ec := of_decide_eq_true z
      rw [if_pos ec] at A
      split at A
      · rename_i hne
        obtain ⟨v, hv, rv⟩ := o
        subst ec
        have C1 : Cc K (a.sui K ea h.c dd v d) B E σ H F := cc_cn (a := a) rfl ⟨C.ctx, hv, rv⟩ (noExn_at hne) C
        have C2 : Cc K (a.sui K ea h.c dd v d) B (match h.i with
          | some i => E.set i (some (.exn h.c d))
          | none => E) (match h.i with
          | some i => σ.set i (some (.ref ea))
          | none => σ) H F := by
          cases h.i with
          | none => exact C1
          | some i => exact C1.store (s := .exn h.c d) rfl fun z => by cases z
        refine sh ea dd v d B _ _ H F C2 _ ?_
        generalize hr : h.s d (match h.i with
          | some i => E.set i (some (.exn h.c d))
          | none => E) = r at A
        cases r with
        | nx E2 =>
          dsimp only [endH] at A
          split at A
          · rename_i ho
            intro σ2 H2 F2 C3 s3
            have bk := back_nx (fun j c d e => onlyAt_of ho j c d e) C3
            have z := A _ H2 F2 bk.1 s3
            cases hi : h.i with
            | none => rw [hi] at z; exact z
            | some i => rw [hi] at z; exact z
          · exact A.elim
        | bk E2 =>
          dsimp only [endH] at A
          split at A
          · rename_i ho
            intro σ2 H2 F2 C3 s3
            have bk := back_nx (fun j c d e => onlyAt_of ho j c d e) C3
            have z := A _ H2 F2 bk.1 s3
            cases hi : h.i with
            | none => rw [hi] at z; exact z
            | some i => rw [hi] at z; exact z
          · exact A.elim
        | ct E2 =>
          dsimp only [endH] at A
          split at A
          · rename_i ho
            intro σ2 H2 F2 C3 s3
            have bk := back_nx (fun j c d e => onlyAt_of ho j c d e) C3
            have z := A _ H2 F2 bk.1 s3
            cases hi : h.i with
            | none => rw [hi] at z; exact z
            | some i => rw [hi] at z; exact z
          · exact A.elim
        | rt w E2 =>
          have core : (∀ i, w ≠ .loc i) → onlyAt h.i E2 = true → Acc K a Wo B F D (.rt w (setN E2 h.i)) → Acc K (a.sui K ea h.c dd v d) WF B F (match h.i with
            | some i => endN i D
            | none => D) (.rt w E2) := fun nl ho A x σ2 H2 F2 C3 s3 o3 => by
            have bk := back_nx (fun j c d e => onlyAt_of ho j c d e) C3
            have := A x σ2 H2 F2 bk.2 s3 (vok_cn o3 nl)
            cases hi : h.i with
            | none => exact this
            | some i => exact this
          cases w with
          | loc j => exact A.elim
          | dv d2 =>
            dsimp only [endH] at A
            split at A
            · exact core (fun i z => by cases z) (by assumption) A
            · exact A.elim
          | fr d2 =>
            dsimp only [endH] at A
            split at A
            · exact core (fun i z => by cases z) (by assumption) A
            · exact A.elim
        | ex c2 d2 E2 => exact A.elim
        | er => exact A.elim
      · exact A.elim
    cases hi : h.i with
    | none =>
      rw [hi] at yes
      exact ⟨_, hb, fun z => yes z, no⟩
    | some i =>
      rw [hi] at yes
      exact ⟨_, hb, fun z => yes z, no⟩
theorem snd_try {Wo : WX} {known : List En} {tb : WX → TS} {body : Sv → SRs} {hs : List Hnd} {l : List Cl} (hb : ∀ W, SndS K a W (tb W) body) (hx : ∀ c ∈ known, ∀ h ∈ hs, PySem.W.exmOne K (.ref (a.en c)) (.ref (a.en h.c)) = some (decide (c = h.c)))
    (hp : Paired (fun h (q : Cl) => q.1 = .ref (a.en h.c) ∧ q.2.1 = h.i ∧ SndH K a q.2.2 h) hs l) : SndS K a Wo (tTry K Wo tb l) (sTry known body hs) := by
  intro B E σ H F C D A
  refine hb (wCl K Wo D l) B E σ H F C D ?_
  unfold sTry at A
  cases e : body E with
  | nx E1 => rw [e] at A; exact A
  | rt v E1 => rw [e] at A; exact A
  | bk E1 => rw [e] at A; exact A
  | ct E1 => rw [e] at A; exact A
  | er => rw [e] at A; exact A
  | ex c d E1 =>
    rw [e] at A
    dsimp only at A
    split at A
    · rename_i hk
      intro dd σ2 H2 F2 C2 s2 o2
      exact hands_ok (hx c (List.contains_iff_mem.mp hk)) hp C2 o2 (A.up s2)
    · exact A.elim
end
end TV

set_option Elab.async false
set_option linter.all false
set_option maxRecDepth 100000
set_option maxHeartbeats 4000000
/-! Rules: an expression of the text and its evaluator. -/
namespace TV
open PySem PySem.Spec PyProof.Rows L2 TC
/-! ### strongest readings -/
def t0 (X : Cx) (e : Expr) : TE := fun σ H Q => ∀ (pins : List (Addr × Obj)) (s : Shared), L2.Inv X pins σ H s → wpAny (model X.prog X.w) X.A (eval e X.env) (EP X pins σ Q) X.xe s
def tt0 (X : Cx) (e : Expr) : TT := fun σ H Q => ∀ (pins : List (Addr × Obj)) (s : Shared), L2.Inv X pins σ H s → wpAny (model X.prog X.w) X.A (PySem.isTrue e X.env (eval e X.env)) (TP X pins σ Q) X.xe s
def tw0 (X : Cx) (e : Expr) : TT := fun σ H Q => ∀ (whole : Sem Value) (pins : List (Addr × Obj)) (s : Shared), L2.Inv X pins σ H s → wpAny (model X.prog X.w) X.A (PySem.isTrue e X.env whole) (TP X pins σ Q) X.xe s
def ta0 (X : Cx) (es : List Expr) : TA := fun σ H Q => ∀ (pos : Pos) (pins : List (Addr × Obj)) (s : Shared), L2.Inv X pins σ H s → wpAny (model X.prog X.w) X.A (spliced (backTo pos (starEach es X.env))) (AP X pins σ Q) X.xe s
def to0 (X : Cx) (e : Option Expr) : TO := fun σ H Q => ∀ (pins : List (Addr × Obj)) (s : Shared), L2.Inv X pins σ H s → wpAny (model X.prog X.w) X.A (evalPart e X.env) (fun u s' => ∃ o H', L2.Inv X pins σ H' s' ∧ IsPart u o ∧ Q o H') X.xe s
def ti0 (X : Cx) (tg iter : Expr) : TI := fun σ H R => ∀ (pins : List (Addr × Obj)) (s : Shared), L2.Inv X pins σ H s → wpAny (model X.prog X.w) X.A (eval iter X.env) (fun v s1 => wpAny (model X.prog X.w) X.A (pyIter v) (PIE X pins σ tg R) X.xe s1) X.xe s
def ts0 (X : Cx) (st : Stmt) : TS := fun D σ H => ∀ (pins : List (Addr × Obj)) (s : Shared), L2.Inv X pins σ H s → wpAny (model X.prog X.w) X.A (exec st X.env) (SP X pins D) X.xe s
def tss0 (X : Cx) (st : List Stmt) : TS := fun D σ H => ∀ (pins : List (Addr × Obj)) (s : Shared), L2.Inv X pins σ H s → wpAny (model X.prog X.w) X.A (execs st X.env) (SP X pins D) X.xe s
def tts0 (X : Cx) (ifs : List Expr) : TT := fun σ H Q => ∀ (pins : List (Addr × Obj)) (s : Shared), L2.Inv X pins σ H s → wpAny (model X.prog X.w) X.A
    (forIn ifs true fun (c : Expr) (r : Bool) => if r = true then do let ok ← PySem.isTrue c X.env (eval c X.env); pure (ForInStep.yield ok) else pure (ForInStep.yield r)) (TP X pins σ Q) X.xe s
section
variable {X : Cx} {a : Adr} {W : WX}
theorem pe0 {e : Expr} : PE X e (t0 X e) := ⟨fun pins s σ H Q I h => h pins s I⟩
theorem pt0 {e : Expr} : PT X e (tt0 X e) := ⟨fun pins s σ H Q I h => h pins s I⟩
theorem pw0 {e : Expr} : PW X e (tw0 X e) := ⟨fun w pins s σ H Q I h => h w pins s I⟩
theorem pa0 {e : List Expr} : PA X e (ta0 X e) := ⟨fun pos pins s σ H Q I h => h pos pins s I⟩
theorem po0 {e : Option Expr} : PO X e (to0 X e) := ⟨fun pins s σ H Q I h => h pins s I⟩
theorem pi0 {tg e : Expr} : PI X tg e (ti0 X tg e) := ⟨fun pins s σ H Q I h => h pins s I⟩
theorem ps0 {e : Stmt} : PS X e (ts0 X e) := ⟨fun pins s σ H Q I h => h pins s I⟩
theorem pss0 {e : List Stmt} : PSs X e (tss0 X e) := ⟨fun pins s σ H Q I h => h pins s I⟩
theorem pts0 {e : List Expr} : PTs X e (tts0 X e) := ⟨fun pins s σ H Q I h => h pins s I⟩
end
structure PEV (X : Cx) (a : Adr) (W : WX) (e : Expr) (ev : Sv → Rs Vl) : Prop where
  s : Snd X.K a W (t0 X e) ev
structure PTV (X : Cx) (a : Adr) (W : WX) (e : Expr) (ev : Sv → Rs Bool) : Prop where
  s : SndT X.K a W (tt0 X e) ev
structure PWV (X : Cx) (a : Adr) (W : WX) (e : Expr) (ev : Sv → Rs Bool) : Prop where
  s : SndT X.K a W (tw0 X e) ev
structure PAV (X : Cx) (a : Adr) (W : WX) (e : List Expr) (ev : Sv → Rs (List Vl)) : Prop where
  s : SndA X.K a W (ta0 X e) ev
structure POV (X : Cx) (a : Adr) (W : WX) (e : Option Expr) (ev : Sv → Rs (Option Int)) : Prop where
  s : SndO X.K a W (to0 X e) ev
structure PIV (X : Cx) (a : Adr) (W : WX) (tg e : Expr) (ev : Sv → Rs (List D)) : Prop where
  s : SndI X.K a W (ti0 X tg e) ev
structure PSV (X : Cx) (a : Adr) (W : WX) (e : Stmt) (ev : Sv → SRs) : Prop where
  s : SndS X.K a W (ts0 X e) ev
structure PSsV (X : Cx) (a : Adr) (W : WX) (e : List Stmt) (ev : Sv → SRs) : Prop where
  s : SndS X.K a W (tss0 X e) ev
structure PTsV (X : Cx) (a : Adr) (W : WX) (e : List Expr) (ev : Sv → Rs Bool) : Prop where
  s : SndT X.K a W (tts0 X e) ev
section
variable {X : Cx} {a : Adr} {W : WX}
theorem up {e : Expr} {t : TE} {ev : Sv → Rs Vl} (h : PE X e t) (g : Snd X.K a W t ev) : PEV X a W e ev := ⟨fun B E σ H F C => (g B E σ H F C).monoT fun Q q pins s I => h.run pins s σ H Q I q⟩
theorem upT {e : Expr} {t : TT} {ev : Sv → Rs Bool} (h : PT X e t) (g : SndT X.K a W t ev) : PTV X a W e ev := ⟨fun B E σ H F C => (g B E σ H F C).monoT fun Q q pins s I => h.run pins s σ H Q I q⟩
theorem upW {e : Expr} {t : TT} {ev : Sv → Rs Bool} (h : PW X e t) (g : SndT X.K a W t ev) : PWV X a W e ev := ⟨fun B E σ H F C => (g B E σ H F C).monoT fun Q q w pins s I => h.run w pins s σ H Q I q⟩
theorem upA {e : List Expr} {t : TA} {ev : Sv → Rs (List Vl)} (h : PA X e t) (g : SndA X.K a W t ev) : PAV X a W e ev := ⟨fun B E σ H F C => (g B E σ H F C).monoT fun Q q pos pins s I => h.run pos pins s σ H Q I q⟩
theorem upO {e : Option Expr} {t : TO} {ev : Sv → Rs (Option Int)} (h : PO X e t) (g : SndO X.K a W t ev) : POV X a W e ev := ⟨fun B E σ H F C => (g B E σ H F C).monoT fun Q q pins s I => h.run pins s σ H Q I q⟩
theorem upTs {e : List Expr} {t : TT} {ev : Sv → Rs Bool} (h : PTs X e t) (g : SndT X.K a W t ev) : PTsV X a W e ev := ⟨fun B E σ H F C => (g B E σ H F C).monoT fun Q q pins s I => h.run pins s σ H Q I q⟩
theorem upS {e : Stmt} {t : TS} {ev : Sv → SRs} (h : PS X e t) (g : SndS X.K a W t ev) : PSV X a W e ev := ⟨fun B E σ H F C D A pins s I => h.run pins s σ H D I (g B E σ H F C D A)⟩
theorem upSs {e : List Stmt} {t : TS} {ev : Sv → SRs} (h : PSs X e t) (g : SndS X.K a W t ev) : PSsV X a W e ev := ⟨fun B E σ H F C D A pins s I => h.run pins s σ H D I (g B E σ H F C D A)⟩
end
end TV

set_option Elab.async false
set_option linter.all false
set_option maxRecDepth 100000
set_option maxHeartbeats 4000000
/-! Rules: an expression of the text and its evaluator, one by one. -/
namespace TV
open PySem PySem.Spec PyProof.Rows L2 TC
section
variable {X : Cx} {a : Adr} {W : WX}
/-! ### leaves -/
theorem v_pv {e : Expr} {i : Nat} (h : PE X e (tVar i)) : PEV X a W e (eVar i) := up h snd_var
theorem v_int {i : Int} {j : Nat} {pos : Pos} : PEV X a W (.Constant (.int i) j pos) (eC (.int i)) := up pe_int (snd_c fun _ => rep_int)
theorem v_bl {b : Bool} {j : Nat} {pos : Pos} : PEV X a W (.Constant (.bool b) j pos) (eC (.bl b)) := up pe_bl (snd_c fun _ => rep_bl)
theorem v_str {x : Str} {j : Nat} {pos : Pos} : PEV X a W (.Constant (.str x) j pos) (eC (.str x)) := up pe_str (snd_c fun _ => rep_str)
theorem v_non {j : Nat} {pos : Pos} : PEV X a W (.Constant .none j pos) (eC .non) := up pe_non (snd_c fun _ => rep_non)
theorem v_gi {e : Expr} {i : Int} (h : PE X e (tC (.int i))) : PEV X a W e (eC (.int i)) := up h (snd_c fun _ => rep_int)
theorem v_ty {e : Expr} {n : String} (h : PE X e (tC (.ty n))) : PEV X a W e (eC (.ty n)) := up h (snd_c fun _ => rep_ty)
theorem v_cls {e : Expr} {c : Cn} (h : PE X e (tC (.ref (a.cn c)))) : PEV X a W e (eC (.cls c)) := up h (snd_c fun _ => rep_cls)
/-! ### operators -/
variable {e e1 e2 e3 : Expr} {v v1 v2 v3 : Sv → Rs Vl} {pos : Pos}
theorem v_bin {op : Operator} {r : R2} {f : D → D → Option (D × Bool)} (ho : OpR X (binaryOp op) r) (hr : ROp X.K a r f) (h1 : PEV X a W e1 v1) (h2 : PEV X a W e2 v2) : PEV X a W (.BinOp e1 op e2 pos) (eOp f v1 v2) := up (pe_op ho pe0 pe0) (snd_op hr h1.s h2.s)
theorem v_cmp {op : CmpOp} {r : R2} {f : D → D → Option (D × Bool)} (ho : OpR X (compareOp op) r) (hr : ROp X.K a r f) (h1 : PEV X a W e1 v1) (h2 : PEV X a W e2 v2) (nm : behindInMarks op e2 = false) : PEV X a W (.Compare e1 [op] [e2] pos) (eOp f v1 v2) := up (pe_cmpR ho pe0 pe0 nm) (snd_op hr h1.s h2.s)
theorem v_chain {op op' : CmpOp} {r r' : R2} {f g : D → D → Option (D × Bool)} (ho : OpR X (compareOp op) r) (ho' : OpR X (compareOp op') r') (hr : ROp X.K a r f) (hr' : ROp X.K a r' g) (h1 : PEV X a W e1 v1) (h2 : PEV X a W e2 v2) (h3 : PEV X a W e3 v3) (lm : lastMarks [op, op'] [e2, e3] = false := by rfl) : PEV X a W (.Compare e1 [op, op'] [e2, e3] pos) (eChain f g v1 v2 v3) := up (pe_chain ho ho' pe0 pe0 pe0 lm) (snd_chain hr hr' h1.s h2.s h3.s)
theorem v_un {op : UnaryOp} {r : V → Hp → VK → Prop} {f : D → Option (D × Bool)} (ho : UnR X (unaryOp op) r) (hr : RUn X.K a r f) (h1 : PEV X a W e1 v1) : PEV X a W (.UnaryOp op e1 pos) (eUn f v1) := up (pe_un ho pe0) (snd_un hr h1.s)
theorem v_not (h1 : PEV X a W e1 v1) : PEV X a W (.UnaryOp .Not e1 pos) (eNot v1) := up (pe_not pe0) (snd_not h1.s)
theorem v_one {op : BoolOp} (h1 : PEV X a W e1 v1) : PEV X a W (.BoolOp op [e1] pos) v1 := up (pe_one pe0) h1.s
theorem v_and {rest : List Expr} (h1 : PEV X a W e1 v1) (h2 : PEV X a W (.BoolOp .And (e2 :: rest) pos) v2) : PEV X a W (.BoolOp .And (e1 :: e2 :: rest) pos) (eAnd v1 v2) := up (pe_and pe0 pe0) (snd_and h1.s h2.s)
theorem v_or {rest : List Expr} (h1 : PEV X a W e1 v1) (h2 : PEV X a W (.BoolOp .Or (e2 :: rest) pos) v2) : PEV X a W (.BoolOp .Or (e1 :: e2 :: rest) pos) (eOr v1 v2) := up (pe_or pe0 pe0) (snd_or h1.s h2.s)
theorem v_if {c : Sv → Rs Bool} (hc : PTV X a W e c) (h1 : PEV X a W e1 v1) (h2 : PEV X a W e2 v2) : PEV X a W (.IfExp e e1 e2 pos) (eIf c v1 v2) := up (pe_ifExp pt0 pe0 pe0) (snd_if hc.s h1.s h2.s)
/-! ### displays, arguments -/
variable {es : List Expr} {vs : Sv → Rs (List Vl)}
theorem va_nil : PAV X a W [] aNil := upA pa_nil snd_anil
theorem va_cons (h1 : PEV X a W e1 v1) (h2 : PAV X a W es vs) (he : starEach (e1 :: es) X.env = (false, eval e1 X.env) :: starEach es X.env := by rfl) : PAV X a W (e1 :: es) (aCons v1 vs) := upA (pa_cons pe0 pa0 he) (snd_acons h1.s h2.s)
theorem va_star {p : Pos} (h1 : PEV X a W e1 v1) (h2 : PAV X a W es vs) (he : starEach (.Starred e1 p :: es) X.env = (true, eval e1 X.env) :: starEach es X.env := by rfl) : PAV X a W (.Starred e1 p :: es) (aStar v1 vs) := upA (StX.pa_star pe0 pa0 he) (snd_astar h1.s h2.s)
theorem v_lst (h : PAV X a W es vs) : PEV X a W (.List es pos) (eLst vs) := up (pe_lst pa0) (snd_lst h.s)
theorem v_tup {k : Nat} (h : PAV X a W es vs) : PEV X a W (.Tuple es k pos) (eTup vs) := up (pe_tup pa0) (snd_tup h.s)
/-! ### subscripts -/
theorem v_ix (h1 : PEV X a W e1 v1) (h2 : PEV X a W e2 v2) (hp : PlainIx e2) : PEV X a W (.Subscript e1 e2 pos) (eOp fIx v1 v2) := up (pe_ix ix_seq pe0 pe0 hp) (snd_op ro_ix h1.s h2.s)
theorem vo_none : POV X a W none oNone := upO po_none snd_onone
theorem vo_some (h : PEV X a W e v) : POV X a W (some e) (oSome v) := upO (po_some pe0) (snd_osome h.s)
theorem v_sl {lo hi : Option Expr} {l h : Sv → Rs (Option Int)} {p2 : Pos} (h1 : PEV X a W e1 v1) (h2 : POV X a W lo l) (h3 : POV X a W hi h) : PEV X a W (.Subscript e1 (.Slice lo hi none p2) pos) (eSl fSl v1 l h) := up (pe_slice sl_seq pe0 po0 po0) (snd_sl rs_sl h1.s h2.s h3.s)
/-! ### built-ins -/
theorem v_cb {x : Str} {p : Pos} {id : String} {r : List V → Hp → VK → Prop} {f : List D → Option (D × Bool)} (hc : CallR X (.builtin id) r) (hr : RCall X.K a r f) (hg : Gl X x) (hm : X.mg x = none) (hb : bootBuiltins x = some (.builtin id)) (h : PAV X a W (e :: es) vs)
    (h1 : x ≠ Str.ofString "__name__" := by decide) (h2 : (x == Str.ofString "__debug__") = false := by decide) (h3 : starEach (e :: es) X.env = (false, eval e X.env) :: starEach es X.env := by rfl) (h4 : (backTo pos (starEach es X.env)).any (·.1) = false := by rfl) :
    PEV X a W (.Call (.Name x p) (e :: es) [] pos) (eCB f vs) := up (pe_callB hc hg hm hb pa0 h1 h2 h3 h4) (snd_cb hr h.s)
theorem v_ct {x : Str} {p : Pos} {T : String} {r : List V → Hp → VK → Prop} {f : List D → Option (D × Bool)} (hc : CallR X (.type T) r) (hr : RCall X.K a r f) (hg : Gl X x) (hm : X.mg x = none) (hb : bootBuiltins x = some (.type T)) (h : PAV X a W (e :: es) vs)
    (h1 : x ≠ Str.ofString "__name__" := by decide) (h2 : (x == Str.ofString "__debug__") = false := by decide) (h3 : starEach (e :: es) X.env = (false, eval e X.env) :: starEach es X.env := by rfl) (h4 : (backTo pos (starEach es X.env)).any (·.1) = false := by rfl) :
    PEV X a W (.Call (.Name x p) (e :: es) [] pos) (eCB f vs) := up (pe_callTy hc hg hm hb pa0 h1 h2 h3 h4) (snd_cb hr h.s)
/-! ### methods of an owned slot -/
theorem v_mt {o : Expr} {i : Nat} {name : Str} {apos : Pos} {T id : String} {P : D → Bool} {r : V → List V → Hp → VK → Prop} {f : D → List D → Option (D × D)} (po : PE X o (tVar i)) (p1 : PlainAttrs T) (p2 : Slot T name id) (p3 : typeOf (.builtin id) = pure (.type "method_descriptor")) (m : MtR X id r) (hr : RMt X.K a r f)
    (hT : ∀ (H F : Hp) (p : Addr) (d : D), Top X.K a H F p d → P d = true → tyV X.K T (.ref p) H) (h : PAV X a W (e :: es) vs)
    (h1 : attributeBase o name X.env (eval o X.env) = eval o X.env := by rfl)
    (h2 : ((((backTo pos (starEach (e :: es) X.env)).all fun x => !x.1) && (backToKw pos (keywordEach [] X.env)).all fun x => x.1.isSome) && decide (((e :: es).length + ([] : List Keyword).length + if ([] : List Keyword).isEmpty = true then 0 else 1) < 30)) = true := by rfl) (h3 : (apos.endLine == pos.line) = true := by rfl)
    (h4 : starEach (e :: es) X.env = (false, eval e X.env) :: starEach es X.env := by rfl) (h5 : (backTo pos (starEach es X.env)).any (·.1) = false := by rfl) :
    PEV X a W (.Call (.Attribute o name apos) (e :: es) [] pos) (eMt f P i vs) := up (pe_bm p1 p2 p3 m po pa0 h1 h2 h3 h4 h5) (snd_mt hr h.s hT)
theorem v_mt0 {o : Expr} {i : Nat} {name : Str} {apos : Pos} {T id : String} {P : D → Bool} {r : V → List V → Hp → VK → Prop} {f : D → List D → Option (D × D)} (po : PE X o (tVar i)) (p1 : PlainAttrs T) (p2 : Slot T name id) (p3 : typeOf (.builtin id) = pure (.type "method_descriptor")) (m : MtR X id r) (hr : RMt X.K a r f)
    (hT : ∀ (H F : Hp) (p : Addr) (d : D), Top X.K a H F p d → P d = true → tyV X.K T (.ref p) H)
    (h1 : attributeBase o name X.env (eval o X.env) = eval o X.env := by rfl) (h3 : (apos.endLine == pos.line) = true := by rfl) :
    PEV X a W (.Call (.Attribute o name apos) [] [] pos) (eMt0 f P i) := up (pe_bm0 p1 p2 p3 m po h1 h3) (snd_mt0 hr hT)
/-! ### fields -/
theorem v_fld {c : Cn} {k : Nat} {f : Str} (cl : Cls X.K (a.cn c)) (n : NoAttr X.K (a.cn c) f) (hf : (flds c)[k]? = some f) (h : PEV X a W e v) (h1 : attributeBase e f X.env (eval e X.env) = eval e X.env) : PEV X a W (.Attribute e f pos) (eFld c k v) := up (pe_fld pe0 h1) (snd_fld cl n hf h.s)
/-! ### tests -/
variable {c1 c2 : Sv → Rs Bool}
theorem vt_val (h : PEV X a W e v) (h1 : ∀ (whole : Sem Value), PySem.isTrue e X.env whole = (do
    let u ← whole
    standAt e.pos
    holding [u] (truthy u)) := by intro whole; rfl) : PTV X a W e (eTB v) := upT (pt_val pe0 h1) (snd_tB h.s)
theorem vt_cmp {op : CmpOp} {r : R2} {f : D → D → Option (D × Bool)} (ho : OpR X (compareOp op) r) (hr : ROp X.K a r f) (h1 : PEV X a W e1 v1) (h2 : PEV X a W e2 v2) (nm : behindInMarks op e2 = false) : PTV X a W (.Compare e1 [op] [e2] pos) (eTB (eOp f v1 v2)) := upT (pt_cmpR ho pe0 pe0 nm) (snd_tTest (snd_op hr h1.s h2.s))
theorem vt_chain {op op' : CmpOp} {r r' : R2} {f g : D → D → Option (D × Bool)} (ho : OpR X (compareOp op) r) (ho' : OpR X (compareOp op') r') (hr : ROp X.K a r f) (hr' : ROp X.K a r' g) (h1 : PEV X a W e1 v1) (h2 : PEV X a W e2 v2) (h3 : PEV X a W e3 v3) (lm : lastMarks [op, op'] [e2, e3] = false := by rfl) : PTV X a W (.Compare e1 [op, op'] [e2, e3] pos) (eTB (eChain f g v1 v2 v3)) := upT (pt_chain ho ho' pe0 pe0 pe0 lm) (snd_tTest (snd_chain hr hr' h1.s h2.s h3.s))
theorem vt_not (h : PTV X a W e c1) : PTV X a W (.UnaryOp .Not e pos) (eTNot c1) := upT (pt_not pt0) (snd_tnot h.s)
theorem vt_pw (h : PWV X a W e c1) : PTV X a W e c1 := upT (PW.pt pw0) h.s
theorem vw_and {rest : List Expr} (h1 : PTV X a W e1 c1) (h2 : PWV X a W (.BoolOp .And (e2 :: rest) pos) c2) : PWV X a W (.BoolOp .And (e1 :: e2 :: rest) pos) (eTAnd c1 c2) := upW (pw_and pt0 pw0) (snd_tand h1.s h2.s)
theorem vw_or {rest : List Expr} (h1 : PTV X a W e1 c1) (h2 : PWV X a W (.BoolOp .Or (e2 :: rest) pos) c2) : PWV X a W (.BoolOp .Or (e1 :: e2 :: rest) pos) (eTOr c1 c2) := upW (pw_or pt0 pw0) (snd_tor h1.s h2.s)
theorem vw_and1 (h1 : PTV X a W e1 c1) : PWV X a W (.BoolOp .And [e1] pos) c1 := upW (pw_and1 pt0) h1.s
theorem vw_or1 (h1 : PTV X a W e1 c1) : PWV X a W (.BoolOp .Or [e1] pos) c1 := upW (pw_or1 pt0) h1.s
/-! ### what is walked -/
variable {tg : Expr}
theorem upI {t : TI} {ev : Sv → Rs (List D)} (h : PI X tg e t) (g : SndI X.K a W t ev) : PIV X a W tg e ev := by
  constructor
  intro B E σ H F C
  have := g B E σ H F C
  unfold At at this ⊢
  cases hr : ev E with
  | er => trivial
  | ok z E1 => rw [hr] at this; exact fun Q k pins s I => h.run pins s σ H Q I (this Q k)
  | ex c d E1 => rw [hr] at this; exact fun Q k pins s I => h.run pins s σ H Q I (this Q k)
theorem pi_any {tl : TE} (hl : PE X e tl) : PI X tg e (iAnyT X.K tl) := by
  refine ⟨fun pins s σ H R I h => ?_⟩
  refine thn (hl.run pins s σ H _ I h) fun v s1 hv => ?_
  obtain ⟨x, H1, I1, r1, z⟩ := hv
  rcases z with ⟨p, rfl, z⟩ | ⟨x1, ex, q⟩
  · have ev : v = .ref p := r1
    subst ev
    have fp : ∀ b ∈ [s1.heap.objs.size], FpOk X pins H1 b := fun b hb => by
      obtain rfl := List.mem_singleton.mp hb
      exact I1.fpOk (Nat.le_refl _) (I1.hok.fresh (Nat.le_refl _))
    rcases z with ⟨⟨xs, hq⟩, q⟩ | ⟨⟨xs, hq⟩, q⟩
    · obtain ⟨ws, rv, p', hz⟩ := I1.list hq
      exact wpAny_pyIter_list p'.isList ⟨s1.heap.objs.size, [s1.heap.objs.size], _, _, H1, rfl, I1.kept (t' := s1.toks) fun b o e => Heap.get?_push_of_some _ e, turn_list p _, ⟨_, Heap.get?_push_size _ rfl, rfl, rfl⟩, fp, q⟩
    · obtain ⟨ws, rv, p', hz⟩ := I1.tuple hq
      exact wpAny_pyIter_tuple (show s1.heap.IsTuple p ws.toArray from p') ⟨s1.heap.objs.size, [s1.heap.objs.size], _, _, H1, rfl, I1.kept (t' := s1.toks) fun b o e => Heap.get?_push_of_some _ e, turn_tuple p _, ⟨_, Heap.get?_push_size _ rfl, rfl, rfl⟩, fp, q⟩
  · subst ex
    obtain ⟨t, rfl⟩ := r1
    cases ha : x1.cps.all fun x => decide (x < 128) with
    | false => exact wpAny_pyIter_wide ha (pi_one I1 { cls := Value.type "str_iterator", data := Data.fields #[Value.str x1 t, Value.int 0 0] } (turn_str s1.heap.objs.size x1 t "str_iterator" (Or.inr rfl)) ⟨_, Heap.get?_push_size s1.heap rfl, rfl, rfl⟩ q)
    | true => exact wpAny_pyIter_ascii ha (pi_one I1 { cls := Value.type "str_ascii_iterator", data := Data.fields #[Value.str x1 t, Value.int 0 0] } (turn_str s1.heap.objs.size x1 t "str_ascii_iterator" (Or.inl rfl)) ⟨_, Heap.get?_push_size s1.heap rfl, rfl, rfl⟩ q)
theorem vi_any (h : PEV X a W e v) : PIV X a W tg e (iAny v) := upI (pi_any pe0) (snd_iAny h.s)
end
end TV

set_option Elab.async false
set_option linter.all false
set_option maxRecDepth 100000
set_option maxHeartbeats 4000000
/-! Rules: what is walked, comprehensions, statements. -/
namespace TV
open PySem PySem.Spec PyProof.Rows L2 TC
section
variable {K : PySem.W.Frag} {a : Adr} {W : WX} {ι : Sort _}
theorem snd_all {t : ι → TE} {ev : Sv → Rs Vl} (h : ∀ i, Snd K a W (t i) ev) : Snd K a W (fun σ H Q => ∀ i, t i σ H Q) ev := fun B E σ H F C => by
  have h2 := fun i => h i B E σ H F C
  unfold At at h2 ⊢
  cases e : ev E with
  | er => trivial
  | ok z E1 => rw [e] at h2; exact fun Q k i => h2 i Q k
  | ex c d E1 => rw [e] at h2; exact fun Q k i => h2 i Q k
theorem sndT_all {t : ι → TT} {ev : Sv → Rs Bool} (h : ∀ i, SndT K a W (t i) ev) : SndT K a W (fun σ H Q => ∀ i, t i σ H Q) ev := fun B E σ H F C => by
  have h2 := fun i => h i B E σ H F C
  unfold At at h2 ⊢
  cases e : ev E with
  | er => trivial
  | ok z E1 => rw [e] at h2; exact fun Q k i => h2 i Q k
  | ex c d E1 => rw [e] at h2; exact fun Q k i => h2 i Q k
theorem sndS_all {t : ι → TS} {ev : Sv → SRs} (h : ∀ i, SndS K a W (t i) ev) : SndS K a W (fun D σ H => ∀ i, t i D σ H) ev := fun B E σ H F C D A i => h i B E σ H F C D A
end
section
variable {X : Cx} {a : Adr} {W : WX} {e e1 e2 e3 tg : Expr} {v v1 v2 v3 : Sv → Rs Vl} {pos : Pos} {es : List Expr} {vs : Sv → Rs (List Vl)} {c c1 c2 : Sv → Rs Bool}
/-! ### what is walked -/
theorem vi_rg1 {p : Pos} (hg : Gl X (Str.ofString "range")) (hm : X.mg (Str.ofString "range") = none) (h : PAV X a W [e1] vs) (h1 : starEach [e1] X.env = [(false, eval e1 X.env)] := by rfl) : PIV X a W tg (.Call (.Name (Str.ofString "range") p) [e1] [] pos) (iRg1 vs) := upI (pi_range1 hg hm pa0 h1) (snd_iRg1 h.s)
theorem vi_rg2 {p : Pos} (hg : Gl X (Str.ofString "range")) (hm : X.mg (Str.ofString "range") = none) (h : PAV X a W [e1, e2] vs) (h1 : starEach [e1, e2] X.env = [(false, eval e1 X.env), (false, eval e2 X.env)] := by rfl) (h2 : starEach [e2] X.env = [(false, eval e2 X.env)] := by rfl) : PIV X a W tg (.Call (.Name (Str.ofString "range") p) [e1, e2] [] pos) (iRg2 vs) := upI (pi_range2 hg hm pa0 h1 h2) (snd_iRg2 h.s)
theorem vi_rg3 {p : Pos} (hg : Gl X (Str.ofString "range")) (hm : X.mg (Str.ofString "range") = none) (h : PAV X a W [e1, e2, e3] vs) (h1 : starEach [e1, e2, e3] X.env = (false, eval e1 X.env) :: starEach [e2, e3] X.env := by rfl) (h2 : (backTo pos (starEach [e2, e3] X.env)).any (·.1) = false := by rfl) : PIV X a W tg (.Call (.Name (Str.ofString "range") p) [e1, e2, e3] [] pos) (iRg3 vs) := upI (pi_range3 hg hm pa0 h1 h2) (snd_iRg3 h.s)
theorem vi_enum {p tpos : Pos} {elts : List Expr} {kk : Nat} (hg : Gl X (Str.ofString "enumerate")) (hm : X.mg (Str.ofString "enumerate") = none) (h : PEV X a W e v) (h0 : starEach (e :: []) X.env = (false, eval e X.env) :: starEach [] X.env := by rfl) (h1 : starEach [e] X.env = [(false, eval e X.env)] := by rfl) : PIV X a W (.Tuple elts kk tpos) (.Call (.Name (Str.ofString "enumerate") p) [e] [] pos) (iEnum1 v) := upI (pi_enumS hg hm (pa_cons pe0 pa_nil h0) h1) (snd_iEnum h.s)
theorem vi_zip {p tpos : Pos} {elts : List Expr} {kk : Nat} (hg : Gl X (Str.ofString "zip")) (hm : X.mg (Str.ofString "zip") = none) (h1 : PEV X a W e1 v1) (h2 : PEV X a W e2 v2) (g1 : starEach [e1, e2] X.env = (false, eval e1 X.env) :: starEach [e2] X.env := by rfl) (g2 : starEach [e2] X.env = (false, eval e2 X.env) :: starEach [] X.env := by rfl) (g3 : (backTo pos (starEach [e2] X.env)).any (·.1) = false := by rfl) :
    PIV X a W (.Tuple elts kk tpos) (.Call (.Name (Str.ofString "zip") p) [e1, e2] [] pos) (iZip2 v1 v2) := upI (pi_zip hg hm (pa_cons pe0 (pa_cons pe0 pa_nil g2) g1) g1 g3) (snd_iZip h1.s h2.s)
/-! ### range as a list or tuple -/
theorem v_lr1 {e0 : Expr} (h : PE X e0 (tLstRg (tRg1 (t0 X e)))) (h1 : PEV X a W e v) : PEV X a W e0 (eRg1 true v) := up h (snd_lr1 h1.s)
theorem v_lr2 {e0 : Expr} (h : PE X e0 (tLstRg (tRg2 (t0 X e1) (t0 X e2)))) (h1 : PEV X a W e1 v1) (h2 : PEV X a W e2 v2) : PEV X a W e0 (eRg2 true v1 v2) := up h (snd_lr2 h1.s h2.s)
theorem v_tr1 {e0 : Expr} (h : PE X e0 (tTupRg (tRg1 (t0 X e)))) (h1 : PEV X a W e v) : PEV X a W e0 (eRg1 false v) := up h (snd_tr1 h1.s)
theorem v_tr2 {e0 : Expr} (h : PE X e0 (tTupRg (tRg2 (t0 X e1) (t0 X e2)))) (h1 : PEV X a W e1 v1) (h2 : PEV X a W e2 v2) : PEV X a W e0 (eRg2 false v1 v2) := up h (snd_tr2 h1.s h2.s)
/-! ### reversal -/
def rRev (K : PySem.W.Frag) : V → Hp → VK → Prop := fun x H1 Q => ∃ a xs, x = .ref a ∧ SqL K H1 a xs ∧ ∀ p, H1 p = none → Q (.ref p) (upd H1 p (.lst xs.reverse))
def fRev : D → Option (D × Bool)
  | .lst ds => some (.lst ds.reverse, true)
  | _ => none
theorem ru_rev {K : PySem.W.Frag} : RUn K a (rRev K) fRev := fun H F x dx d b l vx e Q q => by
  cases dx <;> first | (cases e; done) | skip
  case lst ds =>
    cases e
    obtain ⟨p, xs, rfl, s, r⟩ := vx.lst l
    exact ⟨p, xs, rfl, SqL.of s, fun p2 h2 => new_lst l r.reverse q h2⟩
theorem v_rev {k : Nat} {p1 p2 p3 : Pos} (h : PEV X a W e v) : PEV X a W (.Subscript e (.Slice none none (some (.UnaryOp .USub (.Constant (.int 1) k p1) p2)) p3) pos) (eUn fRev v) := up (t := tUn (rRev X.K) (t0 X e)) (pe_revL pe0) (snd_un ru_rev h.s)
/-! ### comprehensions -/
theorem vts_nil : PTsV X a W [] eYes := upTs pts_nil snd_yes
theorem vts_one (h : PTV X a W e c) : PTsV X a W [e] c := upTs (pts_one pt0) h.s
def tBE (X : Cx) (scope : Scope) (e : Expr) : TE := fun σ H Q => ∀ (i : Shared × Hp × Addr × List (Str × Addr) × List Addr), t0 (X.blk i.1 i.2.1 scope (compEnvC scope i.2.2.2.1 i.2.2.1 X.env) i.2.2.2.2) e σ H Q
def tBT (X : Cx) (scope : Scope) (e : List Expr) : TT := fun σ H Q => ∀ (i : Shared × Hp × Addr × List (Str × Addr) × List Addr), tts0 (X.blk i.1 i.2.1 scope (compEnvC scope i.2.2.2.1 i.2.2.1 X.env) i.2.2.2.2) e σ H Q
theorem pe_blk {scope : Scope} (s : Shared) (H : Hp) (C : Addr) (cl : List (Str × Addr)) (fp : List Addr) : PE (X.blk s H scope (compEnvC scope cl C X.env) fp) e (tBE X scope e) := ⟨fun pins s' σ H' Q I h => h (s, H, C, cl, fp) pins s' I⟩
theorem pts_blk {scope : Scope} (s : Shared) (H : Hp) (C : Addr) (cl : List (Str × Addr)) (fp : List Addr) : PTs (X.blk s H scope (compEnvC scope cl C X.env) fp) es (tBT X scope es) := ⟨fun pins s' σ H' Q I h => h (s, H, C, cl, fp) pins s' I⟩
theorem v_lc {elt iter : Expr} {ifs : List Expr} {scope : Scope} {own : List (Str × Nat)} {it : Sv → Rs (List D)} {g : TG} {eg : D → Sv → Option Sv} {ts : List Nat} (hc : X.calm = true) (hN : X.N.Nodup) (hi : PIV X a W tg iter it) (hb : BlkOk X.N X.env.scope scope own)
    (hg : ∀ (s : Shared) (H : Hp) (C : Addr) (cl : List (Str × Addr)) (fp : List Addr), PG (X.blk s H scope (compEnvC scope cl C X.env) fp) tg g) (hgv : SndG X.K a ts g eg)
    (ht : ∀ (s : Shared) (H : Hp) (C : Addr) (cl : List (Str × Addr)) (fp : List Addr), PTsV (X.blk s H scope (compEnvC scope cl C X.env) fp) a WF ifs c)
    (he : ∀ (s : Shared) (H : Hp) (C : Addr) (cl : List (Str × Addr)) (fp : List Addr), PEV (X.blk s H scope (compEnvC scope cl C X.env) fp) a WF elt v)
    (hts : ∀ i ∈ ts, i ∈ own.map (·.2)) (h1 : ∀ x, foldedSetIterable iter X.env x = pure x := by intro x; rfl) :
    PEV X a W (.ListComp elt [{ target := tg, iter := iter, ifs := ifs, is_async := 0 }] scope pos) (eLc it eg c v (own.map (·.2))) :=
  up (pe_lc hc hN pi0 hb hg (fun s H C cl fp => pts_blk s H C cl fp) (fun s H C cl fp => pe_blk s H C cl fp) h1) (snd_lc hi.s hgv (sndT_all fun i => (ht i.1 i.2.1 i.2.2.1 i.2.2.2.1 i.2.2.2.2).s) (snd_all fun i => (he i.1 i.2.1 i.2.2.1 i.2.2.2.1 i.2.2.2.2).s) hts)
/-! ### statements -/
variable {st : Stmt} {b b1 b2 : Sv → SRs} {l l1 l2 : List Stmt}
theorem vss_nil : PSsV X a W [] sNext := upSs pss_nil snd_next
theorem vss_one (h : PSV X a W st b) : PSsV X a W [st] b := upSs (pss_one ps0) h.s
theorem vss_cons (h1 : PSV X a W st b1) (h2 : PSsV X a W l b2) : PSsV X a W (st :: l) (sSeq b1 b2) := upSs (pss_cons ps0 pss0) (snd_seq h1.s h2.s)
theorem vs_ret (h : PEV X a W e v) : PSV X a W (.Return (some e) pos) (sRet v) := upS (ps_ret pe0) (snd_ret h.s)
theorem vs_retN : PSV X a W (.Return none pos) sRetN := upS ps_retN snd_retN
theorem vs_pass : PSV X a W (.Pass pos) sNext := upS ps_pass snd_next
theorem vs_break : PSV X a W (.Break pos) sBrk := upS ps_break snd_brk
theorem vs_continue : PSV X a W (.Continue pos) sCont := upS ps_continue snd_cont
theorem vs_expr (h : PEV X a W e v) (h1 : swapsWith e none pos.line X.env = pure false := by rfl) : PSV X a W (.Expr e pos) (sDrop v) := upS (ps_expr pe0 h1) (snd_drop h.s)
theorem vs_if (h : PTV X a W e c) (h1 : PSsV X a W l1 b1) (h2 : PSsV X a W l2 b2) : PSV X a W (.If e l1 l2 pos) (sIf c b1 b2) := upS (ps_if pt0 pss0 pss0) (snd_ifS h.s h1.s h2.s)
theorem vs_set {i : Nat} {x : Str} {p' : Pos} (hN : X.N.Nodup) (hx : X.N[i]? = some x) (hl : L2.Loc X.env.scope x) (h : PEV X a W e v) (h1 : swapsWith e (some (.Name x p')) pos.line X.env = pure false := by rfl) (h2 : X.fn x = true ∨ List.lookup x X.env.scope.names = some NameKind.local := by first | exact Or.inl rfl | exact Or.inr rfl) : PSV X a W (.Assign [.Name x p'] e pos) (sAsg v i) := upS (ps_set hN hx hl pe0 h1 h2) (snd_asg h.s)
theorem vs_asg {g : TG} {eg : D → Sv → Option Sv} {ts : List Nat} (hg : PG X tg g) (hgv : SndG X.K a ts g eg) (h : PEV X a W e v) (h1 : swapsWithSole [tg] e pos.line X.env = pure false := by rfl) (h2 : swappedStores [tg] e X.env = pure none := by rfl) (h3 : List.map (fun x => x.2) (assignEach [tg] X.env) = [assign tg X.env] := by rfl) : PSV X a W (.Assign [tg] e pos) (sAsgT v eg) := upS (ps_asg pe0 hg h1 h2 h3) (snd_asgT h.s hgv)
theorem vs_par {i j : Nat} {x y : Str} {px py pt pt2 : Pos} {kt k2 : Nat} (hc : X.calm = true) (hN : X.N.Nodup) (hx : X.N[i]? = some x) (hy : X.N[j]? = some y) (ne : i ≠ j) (lx : List.lookup x X.env.scope.names = some NameKind.local) (ly : List.lookup y X.env.scope.names = some NameKind.local) (h : PAV X a W [e1, e2] vs)
    (h1 : swappedStores [.Tuple [.Name x px, .Name y py] kt pt] (.Tuple [e1, e2] k2 pt2) X.env = pure (some [x, y])) (h2 : swapsWithSole [.Tuple [.Name x px, .Name y py] kt pt] (.Tuple [e1, e2] k2 pt2) pos.line X.env = pure false := by rfl) :
    PSV X a W (.Assign [.Tuple [.Name x px, .Name y py] kt pt] (.Tuple [e1, e2] k2 pt2) pos) (sPar [i, j] vs) := upS (ps_par hc hN hx hy ne lx ly pa0 h1 h2) (snd_par h.s)
theorem vs_par3 {i j k : Nat} {x y z : Str} {px py pz pt pt2 : Pos} {kt k2 : Nat} (hc : X.calm = true) (hN : X.N.Nodup) (hx : X.N[i]? = some x) (hy : X.N[j]? = some y) (hz : X.N[k]? = some z) (n1 : i ≠ j) (n2 : i ≠ k) (n3 : j ≠ k) (lx : List.lookup x X.env.scope.names = some NameKind.local) (ly : List.lookup y X.env.scope.names = some NameKind.local) (lz : List.lookup z X.env.scope.names = some NameKind.local) (h : PAV X a W [e1, e2, e3] vs)
    (h1 : swappedStores [.Tuple [.Name x px, .Name y py, .Name z pz] kt pt] (.Tuple [e1, e2, e3] k2 pt2) X.env = pure (some [x, y, z])) (h2 : swapsWithSole [.Tuple [.Name x px, .Name y py, .Name z pz] kt pt] (.Tuple [e1, e2, e3] k2 pt2) pos.line X.env = pure false := by rfl) :
    PSV X a W (.Assign [.Tuple [.Name x px, .Name y py, .Name z pz] kt pt] (.Tuple [e1, e2, e3] k2 pt2) pos) (sPar [i, j, k] vs) := upS (ps_par3 hc hN hx hy hz n1 n2 n3 lx ly lz pa0 h1 h2) (snd_par3 h.s)
theorem vs_aug {i : Nat} {x : Str} {p' : Pos} {op : Operator} {tp : TIp} {f : D → D → Option (D × Bool)} (hN : X.N.Nodup) (hx : X.N[i]? = some x) (hl : L2.Loc X.env.scope x) (hp : PIp X op tp) (hr : ROp X.K a tp f) (h : PEV X a W e v) (h2 : X.fn x = true ∨ List.lookup x X.env.scope.names = some NameKind.local := by first | exact Or.inl rfl | exact Or.inr rfl) : PSV X a W (.AugAssign (.Name x p') op e pos) (sAug f i v) := upS (ps_aug hN hx hl pe0 hp h2) (snd_aug hr h.s)
theorem vs_while {n : Nat} (hp : PassesOwn (model X.prog X.w) X.A X.env X.xe) (h : PTV X a W e c) (hb : PSsV X a W l b) : PSV X a W (.While e l [] pos) (eWhile c b n) := upS (ps_while hp pt0 pss0) (snd_while h.s hb.s)
theorem vs_for {iter : Expr} {it : Sv → Rs (List D)} {g : TG} {eg : D → Sv → Option Sv} {ts : List Nat} (hp : PassesOwn (model X.prog X.w) X.A X.env X.xe) (hc : X.calm = true) (hi : PIV X a W tg iter it) (hg : PG X tg g) (hgv : SndG X.K a ts g eg) (hb : PSsV X a W l b) (h1 : ∀ x, foldedSetIterable iter X.env x = pure x := by intro x; rfl) : PSV X a W (.For tg iter l [] pos) (sFor it eg b) := upS (ps_for hp hc pi0 hg pss0 h1) (snd_for hi.s hgv hb.s)
/-- x[i] = e on an owned slot -/
theorem vs_setIx {j : Nat} {o : Expr} {p' : Pos} (po : PE X o (tVar j)) (h1 : PEV X a W e1 v1) (h : PEV X a W e v) (g0 : ∀ u, assign (.Subscript o e1 p') X.env u = (do
      let ov ← holding [u] (eval o X.env)
      let iv ← holding [u, ov] (eval e1 X.env)
      standAt p'
      holding [u, ov, iv] (setItem ov iv u)
      release [u, ov, iv] []) := by intro u; rfl)
    (g1 : swapsWithSole [.Subscript o e1 p'] e pos.line X.env = pure false := by rfl) (g2 : swappedStores [.Subscript o e1 p'] e X.env = pure none := by rfl) (g3 : List.map (fun x => x.2) (assignEach [.Subscript o e1 p'] X.env) = [assign (.Subscript o e1 p') X.env] := by rfl) :
    PSV X a W (.Assign [.Subscript o e1 p'] e pos) (sSet fSetL j v1 v) := upS (ps_asg pe0 (pg_sub po pe0 set_list g0) g1 g2 g3) (snd_set rs_setL h.s h1.s)
/-- self.f = e on an owned slot -/
theorem vs_setFld {j : Nat} {o : Expr} {c : Cn} {k : Nat} {f : Str} {p' : Pos} (po : PE X o (tVar j)) (cl : Cls X.K (a.cn c)) (n : NoAttr X.K (a.cn c) f) (hf : (flds c)[k]? = some f) (h : PEV X a W e v) (h1 : swapsWith e (some (.Attribute o f p')) pos.line X.env = pure false) : PSV X a W (.Assign [.Attribute o f p'] e pos) (sSetFld j c k v) := upS (ps_fld po pe0 h1) (snd_setFld cl n hf h.s)
end
end TV

set_option Elab.async false
set_option linter.all false
set_option maxRecDepth 100000
set_option maxHeartbeats 4000000
/-! Rules: calls of the text's own defs. -/
namespace TV
open PySem PySem.Spec PyProof.Rows L2 TC
/-- no error may pass -/
def Rs.nx {α : Type} : Rs α → Rs α
  | .ex _ _ _ => .er
  | r => r
def Rs.fst {α β : Type} (r : Rs (α × β)) : Rs α := match r with
  | .ok v E => .ok v.1 E
  | .ex c d E => .ex c d E
  | .er => .er
section
variable {K : PySem.W.Frag} {a : Adr} {W : WX} {B : Bd} {E E1 : Sv} {σ : L2.St} {H F H' F' : Hp} {x y v : V} {d : D} {p : Addr} {vl : Vl} {i j : Nat}
theorem At.nx {α β : Type} {ok : Bd → Sv → L2.St → Hp → Hp → β → α → Prop} {t : (β → Hp → Prop) → Prop} {r : Rs α} (h : At K a WF ok B σ F t r) : At K a W ok B σ F t r.nx := by
  cases r with
  | ok v E1 => exact h
  | ex c d E1 => trivial
  | er => trivial
theorem At.mapOk {α β γ : Type} {ok : Bd → Sv → L2.St → Hp → Hp → β → α × γ → Prop} {ok' : Bd → Sv → L2.St → Hp → Hp → β → α → Prop} {t : (β → Hp → Prop) → Prop} {r : Rs (α × γ)} (h : At K a W ok B σ F t r) (hk : ∀ E1 x H1 F1 v, ok B E1 σ H1 F1 x v → ok' B E1 σ H1 F1 x v.1) : At K a W ok' B σ F t r.fst := by
  cases r with
  | ok v E1 => exact fun Q q => h Q fun x H' F' C s o => q x H' F' C s (hk _ _ _ _ _ o)
  | ex c d E1 => exact h
  | er => trivial
/-- the call itself -/
def callE (n : Nat) (ms : List Nat) (f : List D → FRs) (vs : List Vl) (E : Sv) : Rs Vl := if vs.length = n then (callX f ms vs E).fst else .er
theorem callE_ok {n : Nat} {ms : List Nat} {f : List D → FRs} {vs : List Vl} {xs : List V} {Ex : XK} (hEx : ∀ cls d H, W cls d σ H → Ex cls d H) (C : Cc K a B E σ H F) (hv : AllV K a B E σ H F xs vs) : At K a W (OkV K a) B σ F (fun Q => spM K a n ms f xs H Q Ex) (callE n ms f vs E) := by
  unfold callE
  split
  · rename_i hn
    exact At.mapOk (call_core hEx C hv hn) fun E1 x H1 F1 v o => o.1
  · trivial
def eCall (n : Nat) (ms : List Nat) (f : List D → FRs) (es : Sv → Rs (List Vl)) : Sv → Rs Vl := fun E => (es E).bind fun vs E1 => callE n ms f vs E1
theorem snd_call {n : Nat} {ms : List Nat} {f : List D → FRs} {t : TA} {es : Sv → Rs (List Vl)} (h : SndA K a W t es) : Snd K a W (tCallW (spM K a n ms f) W t) (eCall n ms f es) := fun B E σ H F C =>
  At.bind (ok' := OkV K a) (k := fun xs H1 Q => spM K a n ms f xs H1 Q (WE W σ)) (h B E σ H F C) fun vs E1 xs H1 F1 _ C1 s1 o1 => callE_ok (fun _ _ _ z => z) C1 o1
/-- no error passes -/
def eCallN (n : Nat) (ms : List Nat) (f : List D → FRs) (es : Sv → Rs (List Vl)) : Sv → Rs Vl := fun E => (es E).bind fun vs E1 => (callE n ms f vs E1).nx
theorem snd_callN {n : Nat} {ms : List Nat} {f : List D → FRs} {t : TA} {es : Sv → Rs (List Vl)} {Ex : XK} (h : SndA K a W t es) : Snd K a W (tCallR (spM K a n ms f) Ex t) (eCallN n ms f es) := fun B E σ H F C =>
  At.bind (ok' := OkV K a) (k := fun xs H1 Q => spM K a n ms f xs H1 Q Ex) (h B E σ H F C) fun vs E1 xs H1 F1 _ C1 s1 o1 => At.nx (callE_ok (fun _ _ _ z => z.elim) C1 o1)
/-! ### on own objects -/
def isObj (c : Cn) : Option D → Bool
  | some (.obj c' _) => decide (c' = c)
  | _ => false
theorem isObj_of {c : Cn} {o : Option D} (h : isObj c o = true) : ∃ ds, o = some (.obj c ds) := by
  unfold isObj at h
  split at h
  · rename_i ds
    exact ⟨ds, by rw [of_decide_eq_true h]⟩
  · cases h
theorem allv_1 (h : VOk K a B E σ H F x vl) : AllV K a B E σ H F [x] [vl] := .cons h .nil fun p _ hm => by cases hm
def eProp (c : Cn) (f : List D → FRs) (e : Sv → Rs Vl) : Sv → Rs Vl := fun E => (e E).bind fun v E1 => if isObj c (v.get E1) = true then (callE 1 [] f [v] E1).nx else .er
theorem snd_prop {c : Cn} {f : List D → FRs} {te : TE} {e : Sv → Rs Vl} {Ex : XK} (h : Snd K a W te e) : Snd K a W (tPropR (a.cn c) (spM K a 1 [] f) Ex te) (eProp c f e) := by
  intro B E σ H F C
  refine At.bind (ok' := OkV K a) (k := fun x H1 Q => ∃ (p : Addr) (dx : Addr) (fs : List (Str × V)), x = V.ref p ∧ H1 p = some (.ins (a.cn c) dx fs) ∧ spM K a 1 [] f [.ref p] H1 Q Ex) (h B E σ H F C) fun v E1 x H1 F1 _ C1 s1 o1 => ?_
  · split
    · rename_i hi
      obtain ⟨ds, hd⟩ := isObj_of hi
      obtain ⟨p, dx, vs, rfl, hp, _, _⟩ := (C1.get_rep o1 hd).obj C1.le
      exact (At.nx (callE_ok (W := WF) (Ex := Ex) (fun _ _ _ z => z.elim) C1 (allv_1 o1))).monoT fun Q q => ⟨p, dx, _, rfl, hp, q⟩
    · trivial
/-- the kind of thing that len shows -/
def eLenO (c : Cn) (f : List D → FRs) (e : Sv → Rs Vl) : Sv → Rs Vl := fun E => (e E).bind fun v E1 => if isObj c (v.get E1) = true then ((callE 1 [] f [v] E1).nx).bind fun w E2 => match w with
    | .dv (.int i) => if 0 ≤ i ∧ i < 2 ^ 62 then .ok (.dv (.int i)) E2 else .er
    | _ => .er
  else .er
theorem snd_lenO {c : Cn} {f : List D → FRs} {te : TE} {e : Sv → Rs Vl} {Ex : XK} (h : Snd K a W te e) : Snd K a W (tCB (rLenO (a.cn c) (spM K a 1 [] f) Ex) (tCons te tNil)) (eLenO c f e) := by
  intro B E σ H F C
  refine At.bind (ok' := OkV K a) (k := fun x H1 Q => rLenO (a.cn c) (spM K a 1 [] f) Ex [x] H1 Q) (h B E σ H F C) fun v E1 x H1 F1 _ C1 s1 o1 => ?_
  · split
    · rename_i hi
      obtain ⟨ds, hd⟩ := isObj_of hi
      obtain ⟨p, dx, vs, rfl, hp, _, _⟩ := (C1.get_rep o1 hd).obj C1.le
      refine (At.bind (W := W) (ok' := OkV K a) (k := fun z H' Q => ∃ i : Int, z = .int i ∧ 0 ≤ i ∧ i < 2 ^ 62 ∧ Q (.int i) H') (At.nx (callE_ok (W := WF) (Ex := Ex) (n := 1) (ms := []) (f := f) (fun _ _ _ z => z.elim) C1 (allv_1 o1))) fun w E2 z H2 F2 hw C2 s2 o2 => ?_).monoT fun Q q => ⟨p, dx, _, rfl, hp, q⟩
      clear hw
      cases w with
      | fr d => trivial
      | loc i => trivial
      | dv d =>
        cases d <;> first | trivial | skip
        case int i =>
          dsimp only
          split
          · rename_i hr
            have e : z = .int i := by have := o2; dsimp only [OkV, VOk] at this; rwa [Rep] at this
            exact fun Q q => ⟨i, e, hr.1, hr.2, q _ H2 F2 C2 (Same.refl _) (rep_int (K := K) (a := a) (F := F2))⟩
          · trivial
    · trivial
/-- a class's static method -/
def eSM (n : Nat) (ms : List Nat) (f : List D → FRs) (es : Sv → Rs (List Vl)) : Sv → Rs Vl := eCallN n ms f es
theorem snd_smeth {c : Cn} {n : Nat} {ms : List Nat} {f : List D → FRs} {t : TA} {es : Sv → Rs (List Vl)} {Ex : XK} (h : SndA K a W t es) : Snd K a W (tSMeth (a.cn c) (spM K a n ms f) Ex (tC (.ref (a.cn c))) t) (eSM n ms f es) := fun B E σ H F C => (snd_callN h B E σ H F C).monoT fun Q q => ⟨rfl, q⟩
/-- a class's class method -/
def eCM (c : Cn) (n : Nat) (f : List D → FRs) (es : Sv → Rs (List Vl)) : Sv → Rs Vl := fun E => (es E).bind fun vs E1 => callE n [] f (.dv (.cls c) :: vs) E1
theorem snd_cmeth {c : Cn} {n : Nat} {f : List D → FRs} {t : TA} {es : Sv → Rs (List Vl)} (h : SndA K a W t es) : Snd K a W (tCMethW (a.cn c) (spM K a n [] f) (WE W) (tC (.ref (a.cn c))) t) (eCM c n f es) := fun B E σ H F C =>
  (At.bind (ok' := OkV K a) (k := fun xs H1 Q => spM K a n [] f (.ref (a.cn c) :: xs) H1 Q (WE W σ)) (h B E σ H F C) fun vs E1 xs H1 F1 _ C1 s1 o1 => callE_ok (fun _ _ _ z => z) C1 (.cons (v := .dv (.cls c)) (rep_cls (K := K) (a := a) (F := F1)) o1 fun p hp => by cases hp)).monoT fun Q q => ⟨rfl, q⟩
end
end TV

set_option Elab.async false
set_option linter.all false
set_option maxRecDepth 100000
set_option maxHeartbeats 4000000
/-! What repr shows; isinstance; errors. -/
namespace TV
open PySem PySem.Spec PyProof.Rows L2 TC
mutual
def D.rok : D → Nat → Option Nat
  | .non, _ => some 51
  | .bl _, _ => some 51
  | .int i, _ => if i.natAbs < 10 ^ 50 then some 51 else none
  | .str x, _ => if (reprText x).length ≤ 51 then some 51 else none
  | .tup ds, n + 1 => match D.rokL ds n with
    | some m => some (ds.length * m + 2 * ds.length + 3)
    | none => none
  | .lst ds, n + 1 => match D.rokL ds n with
    | some m => some (ds.length * m + 2 * ds.length + 3)
    | none => none
  | _, _ => none
def D.rokL : List D → Nat → Option Nat
  | [], _ => some 0
  | d :: ds, n => match D.rok d n, D.rokL ds n with
    | some m, some k => some (max m k)
    | _, _ => none
end
section
variable {K : PySem.W.Frag} {a : Adr} {W : WX} {B : Bd} {E E1 : Sv} {σ : L2.St} {H F H' F' : Hp} {x y v : V} {d : D} {p : Addr} {vl : Vl} {i j : Nat} {X : Cx}
theorem pyL_len : ∀ ds : List D, (D.pyL ds).length = ds.length
  | [] => by rw [D.pyL]; rfl
  | d :: ds => by rw [D.pyL, List.length_cons, List.length_cons, pyL_len ds]
mutual
theorem rok_py (l : Same F H) : ∀ (d : D) (v : V) (n m : Nat), d.rok n = some m → Rep K a F d v → Rp K H v d.py ∧ RpO d.py m n ∧ d.py.hasDict = false
  | .non, _, _, _, e, h => by rw [Rep] at h; subst h; cases e; exact ⟨.non, rpo_none.mono (Nat.le_refl _) (Nat.zero_le _), rfl⟩
  | .bl b, _, _, _, e, h => by rw [Rep] at h; subst h; cases e; rw [D.py]; exact ⟨.bl b, (rpo_bool b).mono (Nat.le_refl _) (Nat.zero_le _), rfl⟩
  | .int b, _, _, _, e, h => by
    rw [Rep] at h; subst h
    rw [D.rok] at e
    split at e
    · rename_i hb; cases e; rw [D.py]; exact ⟨.int b, (rpo_int hb).mono (Nat.le_refl _) (Nat.zero_le _), rfl⟩
    · cases e
  | .str b, _, _, _, e, h => by
    rw [Rep] at h; subst h
    rw [D.rok] at e
    split at e
    · rename_i hb; cases e; rw [D.py]; exact ⟨.str b, (rpo_str hb).mono (Nat.le_refl _) (Nat.zero_le _), rfl⟩
    · cases e
  | .tup ds, _, n + 1, m, e, h => by
    rw [Rep] at h
    obtain ⟨p, vs, rfl, s, r⟩ := h
    rw [D.rok] at e
    cases hk : D.rokL ds n with
    | none => rw [hk] at e; cases e
    | some k =>
      rw [hk] at e
      cases e
      obtain ⟨h1, h2, h3⟩ := rokL_py l ds vs n k hk r
      rw [D.py]
      refine ⟨.tup (Same.seqT l s) h1 h3, ?_, h3⟩
      have := rpo_tup h2
      rw [pyL_len] at this
      exact this
  | .lst ds, _, n + 1, m, e, h => by
    rw [Rep] at h
    obtain ⟨p, vs, rfl, s, r⟩ := h
    rw [D.rok] at e
    cases hk : D.rokL ds n with
    | none => rw [hk] at e; cases e
    | some k =>
      rw [hk] at e
      cases e
      obtain ⟨h1, h2, h3⟩ := rokL_py l ds vs n k hk r
      rw [D.py]
      refine ⟨.lst (SqL.of (l _ _ s)) h1 h3, ?_, h3⟩
      have := rpo_list h2
      rw [pyL_len] at this
      exact this
  | .tup _, _, 0, _, e, _ => nomatch e
  | .lst _, _, 0, _, e, _ => nomatch e
  | .ty _, _, n, _, e, _ => by cases n <;> cases e
  | .cls _, _, n, _, e, _ => by cases n <;> cases e
  | .scr _, _, n, _, e, _ => by cases n <;> cases e
  | .obj _ _, _, n, _, e, _ => by cases n <;> cases e
  | .dct _ _, _, n, _, e, _ => by cases n <;> cases e
theorem rokL_py (l : Same F H) : ∀ (ds : List D) (vs : List V) (n m : Nat), D.rokL ds n = some m → Reps K a F ds vs → RpAll K H vs (D.pyL ds) ∧ (∀ d ∈ D.pyL ds, RpO d m n) ∧ PyData.hasDictAll (D.pyL ds) = false
  | [], _, _, _, _, h => by rw [Reps] at h; subst h; rw [D.pyL]; exact ⟨.nil, fun d hd => (List.not_mem_nil hd).elim, rfl⟩
  | d :: ds, _, n, m, e, h => by
    obtain ⟨v, r, rfl, h1, h2⟩ := h.uncons
    rw [D.rokL] at e
    cases q1 : D.rok d n with
    | none => rw [q1] at e; cases e
    | some m1 =>
      cases q2 : D.rokL ds n with
      | none => rw [q1, q2] at e; cases e
      | some m2 =>
        rw [q1, q2] at e
        cases e
        obtain ⟨a1, a2, a3⟩ := rok_py l d v n m1 q1 h1
        obtain ⟨b1, b2, b3⟩ := rokL_py l ds r n m2 q2 h2
        rw [D.pyL]
        refine ⟨.cons a1 b1, fun z hz => ?_, ?_⟩
        · rcases List.mem_cons.mp hz with rfl | hz
          · exact a2.mono (Nat.le_max_left _ _) (Nat.le_refl _)
          · exact (b2 z hz).mono (Nat.le_max_right _ _) (Nat.le_refl _)
        · show (PyData.hasDict d.py || PyData.hasDictAll (D.pyL ds)) = false
          rw [a3, b3]
          rfl
end
theorem view_rp {n m : Nat} (l : Same F H) (e : d.rok n = some m) (h : View K a H F x d) : Rp K H x d.py ∧ RpO d.py m n := by
  rcases h with h | ⟨p, rfl, t⟩
  · obtain ⟨h1, h2, _⟩ := rok_py l d x n m e h
    exact ⟨h1, h2⟩
  · cases d with
    | lst ds =>
      cases n with
      | zero => nomatch e
      | succ n =>
        obtain ⟨vs, h1, r⟩ := t
        rw [D.rok] at e
        cases hk : D.rokL ds n with
        | none => rw [hk] at e; cases e
        | some k =>
          rw [hk] at e
          cases e
          obtain ⟨g1, g2, g3⟩ := rokL_py l ds vs n k hk r
          rw [D.py]
          refine ⟨.lst (SqL.of h1) g1 g3, ?_⟩
          have := rpo_list g2
          rw [pyL_len] at this
          exact this
    | obj c ds => cases n <;> cases e
    | dct c ds => cases n <;> cases e
    | _ => exact t.elim
def fRepr : D → Option (D × Bool) := fun d => match d with
  | .dct [] [] => some (.str (PyData.shown (.dict [])), false)
  | d => match d.rok 20 with
    | some m => if m ≤ 1000000 then some (.str d.py.shown, false) else none
    | none => none
theorem rc_repr : RCall K a (rRepr K) (f1 fRepr) := rc_1 fun H F x dx d b l vx e Q q => by
  have old : ∀ s : Str, d = .str s → b = false → Q (.str s) H := fun s e1 e2 => by
    subst e1; subst e2
    exact q _ _ _ (Gr.refl l) (rep_str (K := K) (a := a) (F := F))
  have gen : (match dx.rok 20 with
    | some m => if m ≤ 1000000 then some (D.str dx.py.shown, false) else none
    | none => none) = some (d, b) → rRepr K [x] H Q := fun e => by
    cases hm : dx.rok 20 with
    | none => rw [hm] at e; cases e
    | some m =>
      rw [hm] at e
      dsimp only at e
      split at e
      · rename_i hl
        cases e
        obtain ⟨h1, h2⟩ := view_rp l hm vx
        exact i_reprO h1 h2 hl (by decide) (old _ rfl rfl)
      · cases e
  unfold fRepr at e
  split at e
  · cases e
    obtain ⟨p, vs, rfl, r, h⟩ := vx.dct l
    have hv : vs = [] := by rw [Reps] at r; exact r
    subst hv
    rcases h with ⟨kk, k1, k2, k3⟩ | ⟨kk, k0, _⟩
    · cases k1
      exact i_reprO (.emp k3) rpo_emp (by decide) (by decide) (old _ rfl rfl)
    · exact (k0 rfl).elim
  · exact gen e
end
end TV

set_option Elab.async false
set_option linter.all false
set_option maxRecDepth 100000
set_option maxHeartbeats 4000000
/-! isinstance; errors raised and caught; a def's promise. -/
namespace TV
open PySem PySem.Spec PyProof.Rows L2 TC
/-! ### isinstance -/
def D.tyN : D → Option String
  | .non => some "NoneType"
  | .bl _ => some "bool"
  | .int _ => some "int"
  | .str _ => some "str"
  | .lst _ => some "list"
  | .scr _ => some "list"
  | .tup _ => some "tuple"
  | .dct _ _ => some "dict"
  | _ => none
def tyNs : List String := ["NoneType", "bool", "int", "str", "list", "tuple", "dict"]
def subT (n m : String) : Bool := n == m || (n == "bool" && m == "int")
theorem kitB_all : (tyNs.all fun n => tyNs.all fun m => kitB n m == some (subT n m)) = true := by decide +kernel
theorem kit_sub {K : PySem.W.Frag} {n m : String} (hn : n ∈ tyNs) (hm : m ∈ tyNs) : PySem.W.kitOne K (.type n) (.type m) = some (subT n m) := by
  have h := List.all_eq_true.mp (List.all_eq_true.mp kitB_all n hn) m hm
  exact kit_ty (eq_of_beq h)
section
variable {K : PySem.W.Frag} {a : Adr} {W : WX} {B : Bd} {E E1 : Sv} {σ : L2.St} {H F H' F' : Hp} {x y v : V} {d : D} {p : Addr} {vl : Vl} {i j : Nat} {X : Cx}
theorem tyn_mem {n : String} (h : d.tyN = some n) : n ∈ tyNs := by
  cases d <;> cases h <;> decide
theorem view_ty {n : String} (l : Same F H) (h : View K a H F x d) (e : d.tyN = some n) : TyX K H x (.type n) := by
  cases d with
  | non => cases e; rw [h.non]; exact .base .non
  | bl b => cases e; rw [h.bl]; exact .base (.bl b)
  | int i => cases e; rw [h.int]; exact .base (.int i)
  | str i => cases e; rw [h.str]; exact .base (.str i)
  | lst ds => cases e; obtain ⟨p, vs, rfl, s, _⟩ := h.lst l; exact .base (.lst s)
  | scr ns => cases e; obtain ⟨p, rfl, s⟩ := h.scr l; exact tyx_L s
  | tup ds => cases e; obtain ⟨p, vs, rfl, s, _⟩ := h.tup l; exact tyx_T s
  | dct ks ds =>
    cases e
    obtain ⟨p, vs, rfl, _, ⟨kk, _, _, s⟩ | ⟨kk, _, _, _, s⟩⟩ := h.dct l
    · exact .base (.dK s)
    · exact .base (.dT s)
  | _ => cases e
def fIsi : D → D → Option (D × Bool)
  | x, .ty m => if tyNs.contains m = true then match x.tyN with
    | some n => some (.bl (subT n m), false)
    | none => none
    else none
  | _, _ => none
theorem rc_isi : RCall K a (rIsi K) (f2 fIsi) := rc_2 fun H F x y dx dy d b l vx vy e Q q => by
  unfold fIsi at e
  split at e
  · rename_i m
    split at e
    · rename_i hm
      cases hn : dx.tyN with
      | none => rw [hn] at e; cases e
      | some n =>
        rw [hn] at e
        cases e
        exact ⟨x, y, .type n, .type m, subT n m, rfl, by rw [vy.ty]; exact .ty m, view_ty l vx hn, kit_sub (tyn_mem hn) (List.contains_iff_mem.mp hm), q _ _ _ (Gr.refl l) (rep_bl (K := K) (a := a) (F := F))⟩
    · cases e
  · cases e
def tTys : List String → TA
  | [] => tNil
  | m :: ms => tCons (tC (.ty m)) (tTys ms)
theorem tTys_run {σ : L2.St} {H : Hp} {Q : List V → Hp → Prop} : ∀ (ms : List String), Q (ms.map V.ty) H → tTys ms σ H Q
  | [], q => q
  | m :: ms, q => tTys_run (Q := fun xs H => Q (V.ty m :: xs) H) ms q
theorem kitAny_tys {n : String} (hn : n ∈ tyNs) : ∀ (ms : List String), (∀ m ∈ ms, m ∈ tyNs) → PySem.W.kitAny K (.type n) (ms.map Value.type) = some (ms.any fun m => subT n m)
  | [], _ => rfl
  | m :: ms, h => by
    have h1 := kit_sub (K := K) hn (h m List.mem_cons_self)
    have h2 := kitAny_tys hn ms fun z hz => h z (List.mem_cons_of_mem _ hz)
    rw [List.map_cons, List.any_cons]
    unfold PySem.W.kitAny
    rw [h1]
    cases subT n m with
    | true => rfl
    | false => exact h2
theorem paired_tys : ∀ ms : List String, Paired ClsV (ms.map V.ty) (ms.map Value.type)
  | [] => .nil
  | m :: ms => .cons (.ty m) (paired_tys ms)
def eIsiT (ms : List String) (e : Sv → Rs Vl) : Sv → Rs Vl := fun E => (e E).bind fun v E1 => match v.hold.get E1 with
  | some d => match d.tyN with
    | some n => if (ms.all fun m => tyNs.contains m) = true ∧ ms.length ≤ 7 then .ok (.dv (.bl (ms.any fun m => subT n m))) E1 else .er
    | none => .er
  | none => .er
theorem snd_isiT {ms : List String} {te : TE} {e : Sv → Rs Vl} (h : Snd K a W te e) : Snd K a W (tCB (rIsiT K) (tCons te (tCons (tTup (tTys ms)) tNil))) (eIsiT ms e) := by
  intro B E σ H F C
  refine At.bind (ok' := OkV K a) (k := fun x H1 Q => (tTup (tTys ms)) σ H1 fun y H2 => rIsiT K [x, y] H2 Q) (h B E σ H F C) fun v E1 x H1 F1 _ C1 s1 o1 => ?_
  obtain ⟨F1', C1', s1', o1'⟩ := C1.hold o1
  cases hg : v.hold.get E1 with
  | none => trivial
  | some d =>
    dsimp only
    cases hn : d.tyN with
    | none => trivial
    | some n =>
      dsimp only
      by_cases hm : (ms.all fun m => tyNs.contains m) = true ∧ ms.length ≤ 7
      · rw [if_pos hm]
        have vw := C1'.get_rep o1' hg
        intro Q q
        refine tTys_run ms ⟨?_, fun p hp => ?_⟩
        · rw [List.length_map]
          exact Nat.le_trans hm.2 (by decide)
        · have l2 : Same F1' (upd H1 p (.tup (ms.map V.ty))) := C1'.le.trans (Same.new hp)
          have g : Gr H1 F1' (upd H1 p (.tup (ms.map V.ty))) F1' := ⟨Same.new hp, Same.refl _, l2, fun q o e => .inl ⟨o, e⟩⟩
          exact ⟨x, p, ms.map V.ty, .type n, ms.map Value.type, _, rfl, upd_same, paired_tys ms, view_ty l2 (vw.mono (Same.refl _) (Same.new hp)) hn, kitAny_tys (tyn_mem hn) ms fun m h => List.contains_iff_mem.mp (List.all_eq_true.mp hm.1 m h), q _ _ F1' (C1'.grow g) s1' (rep_bl (K := K) (a := a) (F := F1'))⟩
      · rw [if_neg hm]
        trivial
end
end TV

set_option Elab.async false
set_option linter.all false
set_option maxRecDepth 100000
set_option maxHeartbeats 4000000
/-! Rules: calls, errors, a def's promise. -/
namespace TV
open PySem PySem.Spec PyProof.Rows L2 TC
section
variable {X : Cx} {a : Adr} {W : WX} {e e1 e2 e3 tg o : Expr} {v v1 v2 v3 : Sv → Rs Vl} {pos apos : Pos} {es : List Expr} {vs : Sv → Rs (List Vl)} {c c1 c2 : Sv → Rs Bool} {k n : Nat} {f : Addr} {ps : List Str} {ms : List Nat} {ev : List D → FRs} {x m : Str} {p : Pos}
/-! ### calls -/
theorem v_call (F : FnE X.prog X.w X.K X.mg X.base (L2.CX X.prog X.w) k f ps (spM X.K a n ms ev)) (hr : Room k X.A) (hg : Gl X x) (hm : X.mg x = some (.ref f)) (hk : PySem.W.keepIn X.K (.ref f) = true) (tk : Takes X W) (h : PAV X a W (e :: es) vs)
    (h1 : (x == Str.ofString "__debug__") = false := by decide) (h2 : starEach (e :: es) X.env = (false, eval e X.env) :: starEach es X.env := by rfl) (h3 : (backTo pos (starEach es X.env)).any (·.1) = false := by rfl) :
    PEV X a W (.Call (.Name x p) (e :: es) [] pos) (eCall n ms ev vs) := up (pe_callW F hr hg hm hk tk pa0 h1 h2 h3) (snd_call h.s)
theorem v_callG (hG : X.A.guards = some []) (F : FnGE X.prog X.w X.K X.mg X.base (L2.CX X.prog X.w) k f ps (spM X.K a n ms ev)) (hr : Room k X.A) (hg : Gl X x) (hm : X.mg x = some (.ref f)) (hk : PySem.W.keepIn X.K (.ref f) = true) (tk : Takes X W) (h : PAV X a W (e :: es) vs)
    (h1 : (x == Str.ofString "__debug__") = false := by decide) (h2 : starEach (e :: es) X.env = (false, eval e X.env) :: starEach es X.env := by rfl) (h3 : (backTo pos (starEach es X.env)).any (·.1) = false := by rfl) :
    PEV X a W (.Call (.Name x p) (e :: es) [] pos) (eCall n ms ev vs) := up (pe_callGW hG F hr hg hm hk tk pa0 h1 h2 h3) (snd_call h.s)
theorem v_call0 (F : FnE X.prog X.w X.K X.mg X.base (L2.CX X.prog X.w) k f ps (spM X.K a n ms ev)) (hr : Room k X.A) (hg : Gl X x) (hm : X.mg x = some (.ref f)) (hk : PySem.W.keepIn X.K (.ref f) = true) (h1 : (x == Str.ofString "__debug__") = false := by decide) :
    PEV X a W (.Call (.Name x p) [] [] pos) (eCallN n ms ev aNil) := up (pe_callR0 F hr hg hm hk passL h1) (snd_callN snd_anil)
theorem v_callG0 (hG : X.A.guards = some []) (F : FnGE X.prog X.w X.K X.mg X.base (L2.CX X.prog X.w) k f ps (spM X.K a n ms ev)) (hr : Room k X.A) (hg : Gl X x) (hm : X.mg x = some (.ref f)) (hk : PySem.W.keepIn X.K (.ref f) = true) (h1 : (x == Str.ofString "__debug__") = false := by decide) :
    PEV X a W (.Call (.Name x p) [] [] pos) (eCallN n ms ev aNil) := up (pe_callG0 hG F hr hg hm hk passL h1) (snd_callN snd_anil)
theorem v_prop {cn : Cn} {C pp : Addr} (hC : a.cn cn = C) (h : PEV X a W e v) (cl : Cls X.K C) (pr : PropOf X.K C x pp f) (F : FnE X.prog X.w X.K X.mg X.base (L2.CX X.prog X.w) k f ps (spM X.K a 1 [] ev)) (hr : Room (k + 1) X.A) (h1 : attributeBase e x X.env (eval e X.env) = eval e X.env) :
    PEV X a W (.Attribute e x pos) (eProp cn ev v) := by
  subst hC
  exact up (pe_propR (E := E0) pe0 cl pr F hr (fun pins σ H s u s' I z => by obtain ⟨_, _, _, _, _, _, _, _, _, _, _, _, z⟩ := z; exact z.elim) h1) (snd_prop h.s)
theorem v_lenO {cn : Cn} {C : Addr} {p : Pos} (hC : a.cn cn = C) (hs : PySem.W.findIn X.K (.ref C) "__len__" = some (some (.ref f))) (hf : PySem.W.isFn X.K (.ref f) = true) (F : FnE X.prog X.w X.K X.mg X.base (L2.CX X.prog X.w) k f ps (spM X.K a 1 [] ev)) (hr : Room (k + 1) X.A) (hg : Gl X (Str.ofString "len")) (hm : X.mg (Str.ofString "len") = none) (h : PEV X a W e v)
    (h3 : starEach (e :: []) X.env = (false, eval e X.env) :: starEach [] X.env := by rfl) (h4 : (backTo pos (starEach [] X.env)).any (·.1) = false := by rfl) :
    PEV X a W (.Call (.Name (Str.ofString "len") p) [e] [] pos) (eLenO cn ev v) := by
  subst hC
  exact up (pe_callB (call_lenE hs hf F hr passL) hg hm (by decide +kernel) (pa_cons pe0 pa_nil h3) (by decide) (by decide) h3 h4) (snd_lenO h.s)
theorem v_smeth {cn : Cn} {C pp : Addr} {mc : Value} {pl : Sem Bool} (hC : a.cn cn = C) (po : PE X o (tC (.ref C))) (r : ClX.CRead X.K C mc) (sm : SMet X.K C mc m pp f) (F : FnE X.prog X.w X.K X.mg X.base (L2.CX X.prog X.w) k f ps (spM X.K a n ms ev)) (hr : Room k X.A) (h : PAV X a W (e :: es) vs)
    (h1 : starEach (e :: es) X.env = (false, eval e X.env) :: starEach es X.env := by rfl) (h2 : (backTo pos (starEach es X.env)).any (·.1) = false := by rfl)
    (h3 : eval (.Call (.Attribute o m apos) (e :: es) [] pos) X.env = (do
      let ov ← eval o X.env
      standAt apos.atName
      let (f, first) ← holding [ov] (getMethod ov m pl)
      callWith pos f first (backTo pos (starEach (e :: es) X.env)) (backToKw pos (keywordEach [] X.env))) := by rfl) :
    PEV X a W (.Call (.Attribute o m apos) (e :: es) [] pos) (eSM n ms ev vs) := by
  subst hC
  exact up (pe_smethR po r sm F hr passL pa0 h1 h2 h3) (snd_smeth h.s)
theorem v_cmeth {cn : Cn} {C pp : Addr} {mc : Value} {pl : Sem Bool} (hC : a.cn cn = C) (po : PE X o (tC (.ref C))) (r : ClX.CRead X.K C mc) (sm : ClX.CMet X.K C mc m pp f) (F : FnE X.prog X.w X.K X.mg X.base (L2.CX X.prog X.w) k f ps (spM X.K a n [] ev)) (hr : Room k X.A) (tk : Takes X W) (h : PAV X a W (e :: es) vs)
    (h1 : starEach (e :: es) X.env = (false, eval e X.env) :: starEach es X.env := by rfl) (h2 : (backTo pos (starEach es X.env)).any (·.1) = false := by rfl)
    (h3 : eval (.Call (.Attribute o m apos) (e :: es) [] pos) X.env = (do
      let own ← eval o X.env
      standAt apos.atName
      let (fn, self) ← holding [own] (getMethod own m pl)
      callWith pos fn self (backTo pos (starEach (e :: es) X.env)) (backToKw pos (keywordEach [] X.env))) := by rfl) :
    PEV X a W (.Call (.Attribute o m apos) (e :: es) [] pos) (eCM cn n ev vs) := by
  subst hC
  exact up (pe_cmethW (E := WE W) po r sm F hr (fun σ => takesAt tk σ) pa0 h1 h2 h3) (snd_cmeth h.s)
theorem takesF {X : Cx} : Takes X WF := fun u s' z => by
  obtain ⟨_, _, _, _, _, _, _, _, _, _, _, _, _, _, _, _, z⟩ := z
  exact z.elim
/-! ### errors -/
theorem vs_raise {C : En} {CA fI : Addr} {fl : Str} {CX : CXT} {pos2 : Pos} (hC : a.en C = CA) (hfl : fldE C = fl) (hc : X.calm = true) (tk : Takes X W) (T : OexC X.K CA) (iC : PySem.W.findIn X.K (.ref CA) "__init__" = some (some (.ref fI))) (tI : PySem.W.typeIn X.K (.ref fI) = some (.type "function")) (nf : PySem.W.findIn X.K (.ref CA) fl = some none)
    (F : FnE X.prog X.w X.K X.mg X.base CX k fI ps (sp_Er X.K CA fl)) (hr : Room (k + 1) X.A) (hx : Passes CX X (fun _ _ _ => False)) (hg : Gl X x) (hm : X.mg x = some (.ref CA)) (h : PEV X a W e v)
    (h1 : (x == Str.ofString "__debug__") = false := by decide) (h2 : starEach (e :: []) X.env = (false, eval e X.env) :: starEach [] X.env := by rfl) :
    PSV X a W (.Raise (some (.Call (.Name x p) [e] [] pos)) none pos2) (sRaise C v) := by
  subst hC
  subst hfl
  exact upS (ps_raiseV hc tk T iC tI F hr hx hg hm pe0 h1 h2) (snd_raise T nf h.s)
/-- clauses and what they run -/
def HsV (X : Cx) (a : Adr) (hds : List ExceptHandler) (hs : List Hnd) : Prop := ∃ l, ClsOk X hds l ∧ Paired (fun h (q : Cl) => q.1 = .ref (a.en h.c) ∧ q.2.1 = h.i ∧ SndH X.K a q.2.2 h) hs l
theorem hv_nil : HsV X a [] [] := ⟨[], .nil, .nil⟩
variable {hds : List ExceptHandler} {hs : List Hnd} {q : Stmt} {suite : List Stmt} {p1 p2 : Pos} {CA : Addr} {C : En} {sv : D → Sv → SRs} {i : Nat} {nm : Str}
def tSu (X : Cx) (st : List Stmt) : Addr → Value → Option Addr → TS := fun ea cls d D σ H => ∀ (i : {z : Obj × List (Addr × Obj) // Zc cls d z.1 ∧ ∃ vs, z.1.data = .fields vs}), tss0 (X.suite ea ((ea, i.1.1) :: i.1.2)) st D σ H
theorem pss_su {st : List Stmt} (ea : Addr) (oe : Obj) (cls : Value) (d : Option Addr) (pn : List (Addr × Obj)) (hz : Zc cls d oe) (hf : ∃ vs, oe.data = .fields vs) : PSs (X.suite ea ((ea, oe) :: pn)) st (tSu X st ea cls d) := ⟨fun pins s σ H D I h => h ⟨(oe, pn), hz, hf⟩ pins s I⟩
theorem hv_nm (hC : a.en C = CA) (hi : X.N[i]? = some nm) (hk : X.env.kindOf nm = some NameKind.local) (hn : Names X x (.ref CA))
    (hsu : ∀ (ea dd : Addr) (v : V) (d : D) (oe : Obj) (pn : List (Addr × Obj)), Zc (.ref CA) (some dd) oe → (∃ vs, oe.data = .fields vs) → PSsV (X.suite ea ((ea, oe) :: pn)) (a.sui X.K ea C dd v d) WF (q :: suite) (sv d)) (r : HsV X a hds hs) :
    HsV X a (.ExceptHandler (some (.Name x p1)) (some nm) (q :: suite) p2 :: hds) (⟨C, some i, sv⟩ :: hs) := by
  subst hC
  obtain ⟨l, c, pr⟩ := r
  exact ⟨(.ref (a.en C), some i, tSu X (q :: suite)) :: l, .nm hi hk hn (fun ea oe cls d pn hz hf => pss_su ea oe cls d pn hz hf) c, .cons ⟨rfl, rfl, fun ea dd v d => sndS_all fun z => (hsu ea dd v d z.1.1 z.1.2 z.2.1 z.2.2).s⟩ pr⟩
theorem hv_un (hC : a.en C = CA) (hn : Names X x (.ref CA))
    (hsu : ∀ (ea dd : Addr) (v : V) (d : D) (oe : Obj) (pn : List (Addr × Obj)), Zc (.ref CA) (some dd) oe → (∃ vs, oe.data = .fields vs) → PSsV (X.suite ea ((ea, oe) :: pn)) (a.sui X.K ea C dd v d) WF (q :: suite) (sv d)) (r : HsV X a hds hs) :
    HsV X a (.ExceptHandler (some (.Name x p1)) none (q :: suite) p2 :: hds) (⟨C, none, sv⟩ :: hs) := by
  subst hC
  obtain ⟨l, c, pr⟩ := r
  exact ⟨(.ref (a.en C), none, tSu X (q :: suite)) :: l, .un hn (fun ea oe cls d pn hz hf => pss_su ea oe cls d pn hz hf) c, .cons ⟨rfl, rfl, fun ea dd v d => sndS_all fun z => (hsu ea dd v d z.1.1 z.1.2 z.2.1 z.2.2).s⟩ pr⟩
def tTb (X : Cx) (st : List Stmt) : WX → TS := fun W D σ H => ∀ (i : {z : List (Addr × Obj) × (Value → Shared → Prop) // Takes (X.tr z.1 z.2) W ∧ PassesOwn (model X.prog X.w) X.A X.env z.2}), tss0 (X.tr i.1.1 i.1.2) st D σ H
theorem vs_try {h₀ : ExceptHandler} {body : List Stmt} {b : Sv → SRs} {known : List En} (h1 : X.stack = X.env :: X.outer) (h2 : X.env.frame = some X.env.locals) (hN : X.N.Nodup) (tk : Takes X W)
    (hb : ∀ (W : WX) (pn : List (Addr × Obj)) (xe : Value → Shared → Prop), Takes (X.tr pn xe) W → PassesOwn (model X.prog X.w) X.A X.env xe → PSsV (X.tr pn xe) a W body b) (hh : HsV X a (h₀ :: hds) hs)
    (hx : ∀ c ∈ known, ∀ h ∈ hs, PySem.W.exmOne X.K (.ref (a.en c)) (.ref (a.en h.c)) = some (decide (c = h.c))) :
    PSV X a W (.Try body (h₀ :: hds) [] [] pos) (sTry known b hs) := by
  obtain ⟨l, ck, pr⟩ := hh
  exact upS (ps_tryC (tb := tTb X body) h1 h2 hN tk (fun W pn xe t po => ⟨fun pins s σ H D I h => h ⟨(pn, xe), t, po⟩ pins s I⟩) ck) (snd_try (fun W => sndS_all fun z => (hb W z.1.1 z.1.2 z.2.1 z.2.2).s) hx pr)
end
/-! ### within a suite -/
section
variable {K : PySem.W.Frag} {a : Adr} {W : WX} {ea dd : Addr} {C : En} {v0 : V} {d0 : D}
def isExn (E : Sv) (i : Nat) : Bool := match E[i]? with
  | some (some (.exn _ _)) => true
  | _ => false
theorem isExn_of {E : Sv} {i : Nat} (h : isExn E i = true) : ∃ c d, E[i]? = some (some (.exn c d)) := by
  unfold isExn at h
  split at h
  · rename_i c d e; exact ⟨c, d, e⟩
  · cases h
def eXf (d : D) (i : Nat) : Sv → Rs Vl := fun E => if isExn E i = true then .ok (.dv d) E else .er
theorem snd_xf {i : Nat} {f : Str} (hf : fldE C = f) : Snd K (a.sui K ea C dd v0 d0) W (tXf ea (.ref (a.en C)) (some dd) (a.en C) f (tVar i)) (eXf d0 i) := fun B E σ H F Cx => by
  unfold eXf
  split
  · rename_i h
    obtain ⟨c, d, e⟩ := isExn_of h
    obtain ⟨v, hv, ok⟩ := Cx.sl i _ e
    have ok : v = .ref ea := ok
    subst ok
    obtain ⟨ph, h1, h2⟩ := Cx.ctx
    have r : Rep K (a.sui K ea C dd v0 d0) F d0 v0 := rep_cn (a' := a.sui K ea C dd v0 d0) (a := a) rfl _ _ h2
    exact fun Q q => ⟨.ref ea, hv, rfl, rfl, dd, _, v0, rfl, Cx.le _ _ h1, by rw [hf, List.lookup_cons, beq_self_eq_true], q v0 H F Cx (Same.refl _) r⟩
  · trivial
def eIsD (b : Bool) (i : Nat) : Sv → Rs Vl := fun E => if isExn E i = true then .ok (.dv (.bl b)) E else .er
theorem snd_isD {i : Nat} {D2 : Addr} {b : Bool} (hk : PySem.W.kitOne K (.ref (a.en C)) (.ref D2) = some b) : Snd K (a.sui K ea C dd v0 d0) W (tCB (rIsD K (a.en C) ea (.ref (a.en C)) (some dd)) (tCons (tVar i) (tCons (tC (.ref D2)) tNil))) (eIsD b i) := fun B E σ H F Cx => by
  unfold eIsD
  split
  · rename_i h
    obtain ⟨c, d, e⟩ := isExn_of h
    obtain ⟨v, hv, ok⟩ := Cx.sl i _ e
    have ok : v = .ref ea := ok
    subst ok
    obtain ⟨ph, h1, h2⟩ := Cx.ctx
    exact fun Q q => ⟨.ref ea, hv, D2, b, dd, _, rfl, rfl, hk, rfl, Cx.le _ _ h1, q _ H F Cx (Same.refl _) (rep_bl (K := K) (a := a.sui K ea C dd v0 d0) (F := F))⟩
  · trivial
end
section
variable {X : Cx} {a : Adr} {W : WX} {ea dd CA : Addr} {C : En} {v0 : V} {d0 : D} {oe : Obj} {pn : List (Addr × Obj)} {e : Expr} {pos : Pos} {i : Nat}
theorem v_xf {f : Str} (hC : a.en C = CA) (hf : fldE C = f) (xc : XfC X.K CA) (nv : PySem.W.findIn X.K (.ref CA) f = some none) (hz : Zc (.ref CA) (some dd) oe) (hd : ∃ vs, oe.data = .fields vs) (pv : PE (X.suite ea ((ea, oe) :: pn)) e (tVar i)) (h1 : attributeBase e f X.env (eval e X.env) = eval e X.env := by rfl) :
    PEV (X.suite ea ((ea, oe) :: pn)) (a.sui X.K ea C dd v0 d0) W (.Attribute e f pos) (eXf d0 i) := by
  subst hC
  exact up (pe_xf xc nv hz hd pv h1) (snd_xf hf)
theorem v_isD {D2 : Addr} {b : Bool} {e2 : Expr} {p : Pos} (hC : a.en C = CA) (xc : L2.ExcC X.K CA) (hk : PySem.W.kitOne X.K (.ref CA) (.ref D2) = some b) (hz : Zc (.ref CA) (some dd) oe) (hd : ∃ vs, oe.data = .fields vs) (hg : Gl X (Str.ofString "isinstance")) (hm : X.mg (Str.ofString "isinstance") = none)
    (pv : PE (X.suite ea ((ea, oe) :: pn)) e (tVar i)) (pc : PE (X.suite ea ((ea, oe) :: pn)) e2 (tC (.ref D2)))
    (h3 : starEach (e :: e2 :: []) X.env = (false, eval e X.env) :: starEach (e2 :: []) X.env := by rfl) (h5 : starEach (e2 :: []) X.env = (false, eval e2 X.env) :: starEach [] X.env := by rfl) (h4 : (backTo pos (starEach (e2 :: []) X.env)).any (·.1) = false := by rfl) :
    PEV (X.suite ea ((ea, oe) :: pn)) (a.sui X.K ea C dd v0 d0) W (.Call (.Name (Str.ofString "isinstance") p) [e, e2] [] pos) (eIsD b i) := by
  subst hC
  exact up (pe_callB (X := X.suite ea ((ea, oe) :: pn)) (call_isD xc hz hd) hg hm (by decide +kernel) (pa_cons pv (pa_cons pc pa_nil h5) h3) (by decide) (by decide) h3 h4) (snd_isD hk)
end
/-! ### a def's promise -/
section
variable {P : Program} {w : World} {K : PySem.W.Frag} {mg : Str → Option Value} {base : Heap} {x qual : Str} {st : Stmt} {f : Addr} {N ps : List Str} {k n : Nat} {ms : List Nat} {a : Adr} {ev : Sv → SRs}
theorem fnE_of (hF : ∃ fd, L2.Fun K x qual st f fd) (sc : FnScope N ps (defScope st)) (hphi : ∀ F, a.phi F) (hn : ps.length = n)
    (hb : ∀ (cdv : Value) (A : Around) (outer : List Env) (s : Shared) (H : Hp) (E : XK), Room k (A.deeper (envOfC qual (defScope st) s.heap.objs.size f cdv)) → PSsV (cxOf (L2.CX P w) P w K mg base N qual (defScope st) f cdv A outer s H E) a (WO E) (defBody st) ev)
    (hbi : ∀ (kV doc pm : Value) (an : Option Addr) (cdv ct : Value) (us : List Value), us.length = ps.length → bindArgs (PySem.W.fnOf x qual (defArgs st) (defBody st) (defScope st) .none kV doc pm an cdv ct) { pos := us } = pure (ps.zip us)) :
    FnE P w K mg base (L2.CX P w) (k + 1) f ps (spM K a n ms (runF ms N.length ev)) := by
  obtain ⟨fd, F⟩ := hF
  exact ⟨fd, F.okX sc (fun vs H Q E h => by rw [hn]; exact h.1) (fun cdv A outer s H vs Q E hr h => ⟨_, pss0, run_ok hphi (hb cdv A outer s H E hr).s h⟩), F.binds hbi⟩
theorem fnG_ofV (hF : ∃ fd, L2.Fun K x qual st f fd) (sc : FnScope N ps (defScope st)) (hphi : ∀ F, a.phi F) (hn : ps.length = n)
    (hb : ∀ (cdv : Value) (A : Around) (outer : List Env) (s : Shared) (H : Hp) (E : XK), A.guards = some [] → Room k (A.deeper (envOfC qual (defScope st) s.heap.objs.size f cdv)) → PSsV (cxOf (L2.CX P w) P w K mg base N qual (defScope st) f cdv A outer s H E) a (WO E) (defBody st) ev)
    (hbi : ∀ (kV doc pm : Value) (an : Option Addr) (cdv ct : Value) (us : List Value), us.length = ps.length → bindArgs (PySem.W.fnOf x qual (defArgs st) (defBody st) (defScope st) .none kV doc pm an cdv ct) { pos := us } = pure (ps.zip us)) :
    FnGE P w K mg base (L2.CX P w) (k + 1) f ps (spM K a n ms (runF ms N.length ev)) := by
  obtain ⟨fd, F⟩ := hF
  exact ⟨fd, fnG_of F sc (fun vs H Q E h => by rw [hn]; exact h.1) (fun cdv A outer s H vs Q E hG hr h => ⟨_, pss0, run_ok hphi (hb cdv A outer s H E hG hr).s h⟩), F.binds hbi⟩
end
end TV

set_option Elab.async false
set_option linter.all false
set_option maxRecDepth 100000
set_option maxHeartbeats 4000000
/-! Methods that only look; lists set by a comprehension. -/
namespace TV
open PySem PySem.Spec PyProof.Rows L2 TC
section
variable {K : PySem.W.Frag} {a : Adr} {W : WX} {B : Bd} {E E1 : Sv} {σ : L2.St} {H F H' F' : Hp} {x y v : V} {d : D} {p : Addr} {vl : Vl} {i j : Nat} {X : Cx}
def RMr (K : PySem.W.Frag) (a : Adr) (r : V → List V → Hp → VK → Prop) (f : D → List D → Option (D × Bool)) : Prop := ∀ (H F : Hp) (x : V) (xs : List V) (dx : D) (ds : List D) (d : D) (b : Bool), Same F H → View K a H F x dx → Views K a H F xs ds → f dx ds = some (d, b) →
  ∀ Q : VK, (∀ v H' F', Gr H F H' F' → ResOk K a H H' F' v d b → Q v H') → r x xs H Q
def eMr (f : D → List D → Option (D × Bool)) (T : D → Bool) (eo : Sv → Rs Vl) (es : Sv → Rs (List Vl)) : Sv → Rs Vl := fun E => (eo E).bind fun v E1 => match v.hold.get E1 with
  | some d0 => if T d0 = true then (es E1).bind fun vs E2 => match v.hold.get E2, getAll E2 vs with
      | some d, some ds => ofRes (f d ds) E2
      | _, _ => .er
    else .er
  | none => .er
theorem snd_mr {T : String} {P : D → Bool} {r : V → List V → Hp → VK → Prop} {f : D → List D → Option (D × Bool)} {to : TE} {ts : TA} {eo : Sv → Rs Vl} {es : Sv → Rs (List Vl)} (hr : RMr K a r f) (ho : Snd K a W to eo) (hs : SndA K a W ts es)
    (hT : ∀ (H F : Hp) (x : V) (d : D), Same F H → View K a H F x d → P d = true → tyV K T x H) : Snd K a W (tBM K T r to ts) (eMr f P eo es) := by
  intro B E σ H F C
  refine At.bind (ok' := OkV K a) (k := fun x H1 Q => tyV K T x H1 ∧ ts σ H1 fun xs H2 => r x xs H2 Q) (ho B E σ H F C) fun v E1 x H1 F1 _ C1 s1 o1 => ?_
  obtain ⟨F1', C1', s1', o1'⟩ := C1.hold o1
  cases e0 : v.hold.get E1 with
  | none => trivial
  | some d0 =>
    dsimp only
    by_cases hp : P d0 = true
    · rw [if_pos hp]
      have ty := hT H1 F1' x d0 C1'.le (C1'.get_rep o1' e0) hp
      refine At.low s1' (At.monoT (At.bind (ok' := OkV K a) (k := fun xs H2 Q => r x xs H2 Q) (hs B E1 σ H1 F1' C1') fun vs E2 xs H2 F2 _ C2 s2 o2 => ?_) fun Q q => ⟨ty, q⟩)
      have o1'' := o1'.later (E2 := E2) (H2 := H2) s2
      cases e1 : v.hold.get E2 with
      | none => trivial
      | some dx =>
        cases e2 : getAll E2 vs with
        | none => trivial
        | some ds => exact At.res C2 fun d b e Q q => hr H2 F2 x xs dx ds d b C2.le (C2.get_rep o1'' e1) (C2.views o2 e2) e Q q
    · rw [if_neg hp]
      trivial
theorem vty_lst (H F : Hp) (x : V) (d : D) (l : Same F H) (h : View K a H F x d) (hp : isLst d = true) : tyV K "list" x H := by
  cases d <;> first | (cases hp; done) | skip
  case lst ds =>
    obtain ⟨p, vs, rfl, s, r⟩ := h.lst l
    exact tyV_lst (K := K) (a := a) H F p (.lst ds) ⟨vs, s, r⟩ rfl
def rCntD (K : PySem.W.Frag) : V → List V → Hp → VK → Prop := fun x xs H Q => ∃ ds d y, xs = [y] ∧ Dp K H x (.list ds) ∧ Dp K H y d ∧ d.plain = true ∧ PyData.plainAll ds = true ∧ d.depth ≤ 60 ∧ Q (.int (ds.countP fun z => PyData.eqv z d : Nat)) H
theorem mt_countD (hu : X.A.units + 64 < cLine) : MtR X "list.count" (rCntD X.K) := by
  intro pins s σ H x xs v us Q I rx rs h
  obtain ⟨ds, d, y, rfl, hd, he, pd, px, dd, q⟩ := h
  obtain ⟨u, rfl, ru⟩ := rs.one
  obtain ⟨l1, r1⟩ := Dp.reads I _ x v hd rx
  obtain ⟨l2, r2⟩ := Dp.reads I d y u he ru
  cases r1 with
  | list g1 g2 g3 h2 => exact SeqAt.count_list_data ⟨_, g1, g2, _, g3⟩ h2 r2 px pd (by have : min (PyData.depthAll ds) d.depth ≤ d.depth := Nat.min_le_right _ _; omega) ⟨.int _, H, I.tok _, ⟨_, rfl⟩, q⟩
def mCount : D → List D → Option (D × Bool)
  | .lst ds, [x] => if (x.dat 20 && D.datL ds 20) = true then some (.int (ds.countP fun z => z.eqv x : Nat), false) else none
  | _, _ => none
theorem cntP_py {x : D} {n m : Nat} (hx : x.dat n = true) : ∀ ds : List D, D.datL ds m = true → ((D.pyL ds).countP fun z => PyData.eqv z x.py) = ds.countP fun z => z.eqv x
  | [], _ => rfl
  | d :: ds, h => by
    rw [D.datL, Bool.and_eq_true] at h
    rw [D.pyL, List.countP_cons, List.countP_cons, eqv_py d x m n h.1 hx, cntP_py hx ds h.2]
theorem rm_count : RMr K a (rCntD K) mCount := by
  intro H F x xs dx ds d b l vx vs e Q q
  unfold mCount at e
  split at e
  · rename_i es y
    split at e
    · rename_i h
      cases e
      rw [Bool.and_eq_true] at h
      cases vs with
      | cons v1 v2 =>
        cases v2
        refine ⟨D.pyL es, _, _, rfl, view_dp (n := 21) (d := .lst es) l h.2 vx, view_dp l h.1 v1, py_plain _, pyL_plain _, Nat.le_trans (py_depth _ _ h.1) (by decide), ?_⟩
        rw [cntP_py h.1 es h.2]
        exact q _ _ _ (Gr.refl l) (rep_int (K := K) (a := a) (F := F))
    · cases e
  · cases e
end
section
variable {X : Cx} {a : Adr} {W : WX} {e e1 e2 e3 tg : Expr} {v v1 v2 v3 : Sv → Rs Vl} {pos : Pos} {es : List Expr} {vs : Sv → Rs (List Vl)} {c c1 c2 : Sv → Rs Bool}
theorem v_mr {o : Expr} {vo : Sv → Rs Vl} {name : Str} {apos : Pos} {T id : String} {P : D → Bool} {r : V → List V → Hp → VK → Prop} {f : D → List D → Option (D × Bool)} (p1 : PlainAttrs T) (p2 : Slot T name id) (p3 : typeOf (.builtin id) = pure (.type "method_descriptor")) (m : MtR X id r) (hr : RMr X.K a r f)
    (hT : ∀ (H F : Hp) (x : V) (d : D), Same F H → View X.K a H F x d → P d = true → tyV X.K T x H) (ho : PEV X a W o vo) (h : PAV X a W (e :: es) vs)
    (h1 : attributeBase o name X.env (eval o X.env) = eval o X.env := by rfl)
    (h2 : ((((backTo pos (starEach (e :: es) X.env)).all fun x => !x.1) && (backToKw pos (keywordEach [] X.env)).all fun x => x.1.isSome) && decide (((e :: es).length + ([] : List Keyword).length + if ([] : List Keyword).isEmpty = true then 0 else 1) < 30)) = true := by rfl) (h3 : (apos.endLine == pos.line) = true := by rfl)
    (h4 : starEach (e :: es) X.env = (false, eval e X.env) :: starEach es X.env := by rfl) (h5 : (backTo pos (starEach es X.env)).any (·.1) = false := by rfl) :
    PEV X a W (.Call (.Attribute o name apos) (e :: es) [] pos) (eMr f P vo vs) := up (pe_bm p1 p2 p3 m pe0 pa0 h1 h2 h3 h4 h5) (snd_mr hr ho.s h.s hT)
theorem vs_setLc {elt iter : Expr} {ifs : List Expr} {scope : Scope} {own : List (Str × Nat)} {spos py : Pos} {i : Nat} {y : Str} {it : Sv → Rs (List D)} {g : TG} {eg : D → Sv → Option Sv} {ts : List Nat} (hc : X.calm = true) (hN : X.N.Nodup) (hy : X.N[i]? = some y) (hyl : List.lookup y X.env.scope.names = some NameKind.local)
    (sw : swapsWith (.ListComp elt [{ target := tg, iter := iter, ifs := ifs, is_async := 0 }] scope pos) (some (.Name y py)) spos.line X.env = pure true) (hi : PIV X a W tg iter it) (hb : BlkOk X.N X.env.scope scope own)
    (hg : ∀ (s : Shared) (H : Hp) (C : Addr) (cl : List (Str × Addr)) (fp : List Addr), PG (X.blk s H scope (compEnvC scope cl C X.env) fp) tg g) (hgv : SndG X.K a ts g eg)
    (ht : ∀ (s : Shared) (H : Hp) (C : Addr) (cl : List (Str × Addr)) (fp : List Addr), PTsV (X.blk s H scope (compEnvC scope cl C X.env) fp) a WF ifs c)
    (he : ∀ (s : Shared) (H : Hp) (C : Addr) (cl : List (Str × Addr)) (fp : List Addr), PEV (X.blk s H scope (compEnvC scope cl C X.env) fp) a WF elt v)
    (hts : ∀ i ∈ ts, i ∈ own.map (·.2)) (h1 : ∀ x, foldedSetIterable iter X.env x = pure x := by intro x; rfl) :
    PSV X a W (.Assign [.Name y py] (.ListComp elt [{ target := tg, iter := iter, ifs := ifs, is_async := 0 }] scope pos) spos) (sAsg (eLc it eg c v (own.map (·.2))) i) :=
  upS (ps_setLc hc hN hy hyl sw pi0 hb hg (fun s H C cl fp => pts_blk s H C cl fp) (fun s H C cl fp => pe_blk s H C cl fp) h1) (snd_asg (snd_lc hi.s hgv (sndT_all fun i => (ht i.1 i.2.1 i.2.2.1 i.2.2.2.1 i.2.2.2.2).s) (snd_all fun i => (he i.1 i.2.1 i.2.2.1 i.2.2.2.1 i.2.2.2.2).s) hts))
end
end TV

set_option Elab.async false
set_option linter.all false
set_option maxRecDepth 100000
set_option maxHeartbeats 4000000
/-! The law's end. -/
namespace TV
open PySem PySem.Spec PyProof.Rows L2 TC
def adrOfs (a1 a2 a3 a4 a5 : Nat) (en : En → Addr) (h : a1 ≠ a2 ∧ a1 ≠ a3 ∧ a1 ≠ a4 ∧ a1 ≠ a5 ∧ a2 ≠ a3 ∧ a2 ≠ a4 ∧ a2 ≠ a5 ∧ a3 ≠ a4 ∧ a3 ≠ a5 ∧ a4 ≠ a5) : Adr where
  cn := fun c => match c with
    | .arr => a1
    | .huge => a2
    | .game => a3
    | .cons => a4
    | .trial => a5
  en := en
  inj := fun c c' e => by
    obtain ⟨h1, h2, h3, h4, h5, h6, h7, h8, h9, h10⟩ := h
    cases c <;> cases c' <;> first | rfl | (exact absurd e (by assumption)) | (exact absurd e.symm (by assumption))
  ea := 0
  phi := fun _ => True
  mono := fun _ _ _ h => h
section
variable {P : Program} {w : World} {K : PySem.W.Frag} {mg : Str → Option Value} {base : Heap} {x qual : Str} {st : Stmt} {f : Addr} {fd : FuncData} {N ps : List Str} {k n : Nat} {ms : List Nat} {a : Adr} {ev : Sv → SRs}
theorem fnG_law (F : L2.Fun K x qual st f fd) (sc : FnScope N ps (defScope st)) (hphi : ∀ F, a.phi F) (hn : ps.length = n)
    (hb : ∀ (cdv : Value) (A : Around) (outer : List Env) (s : Shared) (H : Hp) (E : XK), A.guards = some [] → Room k (A.deeper (envOfC qual (defScope st) s.heap.objs.size f cdv)) → PSsV (cxOf (L2.CX P w) P w K mg base N qual (defScope st) f cdv A outer s H E) a (WO E) (defBody st) ev) :
    FnG P w K mg base (L2.CX P w) (k + 1) f fd ps (spM K a n ms (runF ms N.length ev)) :=
  fnG_of F sc (fun vs H Q E h => by rw [hn]; exact h.1) (fun cdv A outer s H vs Q E hG hr h => ⟨_, pss0, run_ok hphi (hb cdv A outer s H E hG hr).s h⟩)
theorem law_end {H : Hp} {p : Addr} {ns : List Int} {g : List D → FRs} {E : XK} (h : g [.scr ns] = .ok (.bl true) false []) (hS : SqL K H p (ns.map V.int)) : spM K a 1 [] g [.ref p] H (fun v _ => v = .bl true) E := by
  refine ⟨rfl, H, [.scr ns], ?_, ?_⟩
  · refine { len := rfl, le := Same.refl _, has := fun i hi => (List.not_mem_nil hi).elim, fro := fun i v d hv hd _ => ?_, mu := fun i v d hv hd hm => (List.not_mem_nil hm).elim, sep := fun i j p hi => (List.not_mem_nil hi).elim }
    cases i with
    | zero => cases hv; cases hd; rw [Rep]; exact ⟨p, rfl, hS⟩
    | succ i => cases hv
  · rw [h]
    intro v H' F' _ r
    have r : Rep K a F' (.bl true) v := r
    rw [Rep] at r
    exact r
end
end TV

set_option Elab.async false
set_option linter.all false
set_option maxRecDepth 100000
set_option maxHeartbeats 4000000
/-! The plain side: an evaluator run step by step, as rewriting. -/
namespace TV
open PySem PySem.Spec PyProof.Rows L2 TC
section
variable {α β γ : Type} {E E0 E1 E2 E3 : Sv} {v w u : Vl} {d d1 d2 d3 x y : D} {b b1 b2 : Bool} {i j k n : Nat} {e e1 e2 e3 : Sv → Rs Vl} {es : Sv → Rs (List Vl)} {vs : List Vl} {c c1 c2 : Sv → Rs Bool} {s t : Sv → SRs} {r : SRs} {f g : D → D → Option (D × Bool)} {ds os : List D} {ms : List Nat} {C : En}
/-! ### slots -/
def zVar (i : Nat) (E : Sv) : Option (Option Sl) → Rs Vl
  | some (some (.val .pure d)) => .ok (.dv d) E
  | some (some (.val .own _)) => .ok (.loc i) E
  | some (some (.val .prm _)) => .ok (.loc i) E
  | _ => .er
theorem z_var : eVar i E = zVar i E E[i]? := rfl
theorem z_var1 : zVar i E (some (some (.val .pure d))) = .ok (.dv d) E := rfl
theorem z_var2 : zVar i E (some (some (.val .own d))) = .ok (.loc i) E := rfl
theorem z_var3 : zVar i E (some (some (.val .prm d))) = .ok (.loc i) E := rfl
theorem z_c : eC d E = .ok (.dv d) E := rfl
def zSl : Option (Option Sl) → Option D
  | some (some (.val _ d)) => some d
  | _ => none
theorem z_g1 : Vl.get E (.dv d) = some d := rfl
theorem z_g2 : Vl.get E (.fr d) = some d := rfl
theorem z_g3 : Vl.get E (.loc i) = zSl E[i]? := rfl
theorem z_sl {k : Kd} : zSl (some (some (.val k d))) = some d := rfl
theorem z_h1 : Vl.hold (.dv d) = .dv d := rfl
theorem z_h2 : Vl.hold (.fr d) = .dv d := rfl
theorem z_h3 : Vl.hold (.loc i) = .loc i := rfl
theorem z_mk1 : mkV d true = .fr d := rfl
theorem z_mk2 : mkV d false = .dv d := rfl
theorem z_of1 : ofRes (some (d, b)) E = .ok (mkV d b) E := rfl
theorem z_of2 : ofRes none E = .er := rfl
/-! ### operators -/
def zOp1 (f : D → D → Option (D × Bool)) (eb : Sv → Rs Vl) (r : Rs Vl) : Rs Vl := r.bind fun v E1 => (eb E1).bind fun w E2 => op2 f (v.hold.get E2) (w.get E2) E2
def zOp2 (f : D → D → Option (D × Bool)) (v : Vl) (r : Rs Vl) : Rs Vl := r.bind fun w E2 => op2 f (v.hold.get E2) (w.get E2) E2
theorem z_op : eOp f e1 e2 E = zOp1 f e2 (e1 E) := rfl
theorem z_op1 : zOp1 f e2 (.ok v E1) = zOp2 f v (e2 E1) := rfl
theorem z_op1x : zOp1 f e2 (.ex C d E1) = .ex C d E1 := rfl
theorem z_op2 : zOp2 f v (.ok w E2) = op2 f (v.hold.get E2) (w.get E2) E2 := rfl
theorem z_op2x : zOp2 f v (.ex C d E1) = .ex C d E1 := rfl
theorem z_opr : op2 f (some x) (some y) E = ofRes (f x y) E := rfl
def zUn1 (f : D → Option (D × Bool)) (r : Rs Vl) : Rs Vl := r.bind fun v E1 => match v.get E1 with
  | some x => ofRes (f x) E1
  | none => .er
def zUn2 (f : D → Option (D × Bool)) (E : Sv) : Option D → Rs Vl
  | some x => ofRes (f x) E
  | none => .er
variable {f1' : D → Option (D × Bool)} {fl : List D → Option (D × Bool)}
theorem z_un : eUn f1' e E = zUn1 f1' (e E) := rfl
theorem z_un1 : zUn1 f1' (.ok v E1) = zUn2 f1' E1 (v.get E1) := rfl
theorem z_un1x : zUn1 f1' (.ex C d E1) = .ex C d E1 := rfl
theorem z_un2 : zUn2 f1' E (some x) = ofRes (f1' x) E := rfl
/-! ### arguments -/
def zAc1 (es : Sv → Rs (List Vl)) (r : Rs Vl) : Rs (List Vl) := r.bind fun v E1 => (es E1).bind fun vs E2 => .ok (v :: vs) E2
def zAc2 (v : Vl) (r : Rs (List Vl)) : Rs (List Vl) := r.bind fun vs E2 => .ok (v :: vs) E2
theorem z_an : aNil E = .ok [] E := rfl
theorem z_ac : aCons e es E = zAc1 es (e E) := rfl
theorem z_ac1 : zAc1 es (.ok v E1) = zAc2 v (es E1) := rfl
theorem z_ac1x : zAc1 es (.ex C d E1) = .ex C d E1 := rfl
theorem z_ac2 : zAc2 v (.ok vs E2) = .ok (v :: vs) E2 := rfl
theorem z_ac2x : zAc2 v (.ex C d E1) = .ex C d E1 := rfl
def zAs1 (es : Sv → Rs (List Vl)) (r : Rs Vl) : Rs (List Vl) := r.bind fun v E1 => match v.get E1 with
  | some (.lst ds) => (es E1).bind fun vs E2 => .ok (ds.map Vl.dv ++ vs) E2
  | some (.tup ds) => (es E1).bind fun vs E2 => .ok (ds.map Vl.dv ++ vs) E2
  | _ => .er
def zAs2 (es : Sv → Rs (List Vl)) (E1 : Sv) : Option D → Rs (List Vl)
  | some (.lst ds) => (es E1).bind fun vs E2 => .ok (ds.map Vl.dv ++ vs) E2
  | some (.tup ds) => (es E1).bind fun vs E2 => .ok (ds.map Vl.dv ++ vs) E2
  | _ => .er
def zAs3 (ds : List D) (r : Rs (List Vl)) : Rs (List Vl) := r.bind fun vs E2 => .ok (ds.map Vl.dv ++ vs) E2
theorem z_as : aStar e es E = zAs1 es (e E) := rfl
theorem z_as1 : zAs1 es (.ok v E1) = zAs2 es E1 (v.get E1) := rfl
theorem z_as2 : zAs2 es E1 (some (.lst ds)) = zAs3 ds (es E1) := rfl
theorem z_as2t : zAs2 es E1 (some (.tup ds)) = zAs3 ds (es E1) := rfl
theorem z_as3 : zAs3 ds (.ok vs E2) = .ok (ds.map Vl.dv ++ vs) E2 := rfl
def zCb1 (f : List D → Option (D × Bool)) (r : Rs (List Vl)) : Rs Vl := r.bind fun vs E1 => match getAll E1 vs with
  | some ds => ofRes (f ds) E1
  | none => .er
def zCb2 (f : List D → Option (D × Bool)) (E1 : Sv) : Option (List D) → Rs Vl
  | some ds => ofRes (f ds) E1
  | none => .er
theorem z_cb : eCB fl es E = zCb1 fl (es E) := rfl
theorem z_cb1 : zCb1 fl (.ok vs E1) = zCb2 fl E1 (getAll E1 vs) := rfl
theorem z_cb1x : zCb1 fl (.ex C d E1) = .ex C d E1 := rfl
theorem z_cb2 : zCb2 fl E1 (some ds) = ofRes (fl ds) E1 := rfl
def zGa1 (o : Option (List D)) : Option D → Option (List D)
  | some d => o.map (d :: ·)
  | none => none
theorem z_ga0 : getAll E [] = some [] := rfl
theorem z_ga1 : getAll E (v :: vs) = zGa1 (getAll E vs) (v.get E) := by
  show (match v.get E, getAll E vs with
    | some d, some ds => some (d :: ds)
    | _, _ => none) = zGa1 (getAll E vs) (v.get E)
  generalize v.get E = a
  generalize getAll E vs = b
  cases a <;> cases b <;> rfl
theorem z_ga2 : zGa1 (some ds) (some d) = some (d :: ds) := rfl
/-! ### tests -/
def zTB (r : Rs Vl) : Rs Bool := r.bind fun v E1 => match v with
  | .dv (.bl b) => .ok b E1
  | _ => .er
theorem z_tb : eTB e E = zTB (e E) := rfl
theorem z_tb1 : zTB (.ok (.dv (.bl b)) E) = .ok b E := rfl
theorem z_tb1x : zTB (.ex C d E1) = .ex C d E1 := rfl
def zNt (r : Rs Bool) : Rs Bool := r.bind fun b E1 => .ok (!b) E1
theorem z_nt : eTNot c E = zNt (c E) := rfl
theorem z_nt1 : zNt (.ok b E) = .ok (!b) E := rfl
def zAn (c2 : Sv → Rs Bool) (r : Rs Bool) : Rs Bool := r.bind fun b E1 => match b with
  | true => c2 E1
  | false => .ok false E1
theorem z_and : eTAnd c1 c2 E = zAn c2 (c1 E) := rfl
theorem z_and1 : zAn c2 (.ok true E) = c2 E := rfl
theorem z_and2 : zAn c2 (.ok false E) = .ok false E := rfl
def zOr (c2 : Sv → Rs Bool) (r : Rs Bool) : Rs Bool := r.bind fun b E1 => match b with
  | true => .ok true E1
  | false => c2 E1
theorem z_or : eTOr c1 c2 E = zOr c2 (c1 E) := rfl
theorem z_or1 : zOr c2 (.ok true E) = .ok true E := rfl
theorem z_or2 : zOr c2 (.ok false E) = c2 E := rfl
def zAnE (eb : Sv → Rs Vl) (r : Rs Bool) : Rs Vl := r.bind fun b E1 => match b with
  | true => eb E1
  | false => .ok (.dv (.bl false)) E1
theorem z_eand : eAnd e1 e2 E = zAnE e2 (eTB e1 E) := rfl
theorem z_eand1 : zAnE e2 (.ok true E) = e2 E := rfl
theorem z_eand2 : zAnE e2 (.ok false E) = .ok (.dv (.bl false)) E := rfl
def zOrE (eb : Sv → Rs Vl) (r : Rs Bool) : Rs Vl := r.bind fun b E1 => match b with
  | true => .ok (.dv (.bl true)) E1
  | false => eb E1
theorem z_eor : eOr e1 e2 E = zOrE e2 (eTB e1 E) := rfl
theorem z_eor1 : zOrE e2 (.ok true E) = .ok (.dv (.bl true)) E := rfl
theorem z_eor2 : zOrE e2 (.ok false E) = e2 E := rfl
def zNtE (r : Rs Bool) : Rs Vl := r.bind fun b E1 => .ok (.dv (.bl (!b))) E1
theorem z_ent : eNot e E = zNtE (eTB e E) := rfl
theorem z_ent1 : zNtE (.ok b E) = .ok (.dv (.bl (!b))) E := rfl
def zIfE (ea eb : Sv → Rs Vl) (r : Rs Bool) : Rs Vl := r.bind fun b E1 => match b with
  | true => ea E1
  | false => eb E1
theorem z_eif : eIf c e1 e2 E = zIfE e1 e2 (c E) := rfl
theorem z_eif1 : zIfE e1 e2 (.ok true E) = e1 E := rfl
theorem z_eif2 : zIfE e1 e2 (.ok false E) = e2 E := rfl
/-! ### displays -/
def zTl (t : Bool) (r : Rs (List Vl)) : Rs Vl := r.bind fun vs E1 => match Sv.frzs E1 (vs.map Vl.hold) with
  | some (ds, E2) => if ds.length ≤ LIM then .ok (if t then .dv (.tup ds) else .fr (.lst ds)) E2 else .er
  | none => .er
def zTl2 (t : Bool) : Option (List D × Sv) → Rs Vl
  | some (ds, E2) => if ds.length ≤ LIM then .ok (if t then .dv (.tup ds) else .fr (.lst ds)) E2 else .er
  | none => .er
theorem z_tup : eTup es E = zTl true (es E) := rfl
theorem z_lst : eLst es E = zTl false (es E) := rfl
theorem z_tl1 : zTl b (.ok vs E1) = zTl2 b (Sv.frzs E1 (vs.map Vl.hold)) := rfl
theorem z_tl1x : zTl b (.ex C d E1) = .ex C d E1 := rfl
theorem z_tl2 : zTl2 true (some (ds, E2)) = if ds.length ≤ LIM then .ok (.dv (.tup ds)) E2 else .er := rfl
theorem z_tl3 : zTl2 false (some (ds, E2)) = if ds.length ≤ LIM then .ok (.fr (.lst ds)) E2 else .er := rfl
def zFz (E : Sv) (i : Nat) : Option (Option Sl) → Option (D × Sv)
  | some (some (.val .own d)) => some (d, E.set i (some (.val .pure d)))
  | some (some (.val .pure d)) => some (d, E)
  | _ => none
theorem z_fz1 : Sv.frz E (.dv d) = some (d, E) := rfl
theorem z_fz2 : Sv.frz E (.fr d) = some (d, E) := rfl
theorem z_fz3 : Sv.frz E (.loc i) = zFz E i E[i]? := rfl
theorem z_fz4 : zFz E i (some (some (.val .own d))) = some (d, E.set i (some (.val .pure d))) := rfl
theorem z_fz5 : zFz E i (some (some (.val .pure d))) = some (d, E) := rfl
def zFs1 (vs : List Vl) : Option (D × Sv) → Option (List D × Sv)
  | some (d, E1) => match Sv.frzs E1 vs with
    | some (ds, E2) => some (d :: ds, E2)
    | none => none
  | none => none
def zFs2 (d : D) : Option (List D × Sv) → Option (List D × Sv)
  | some (ds, E2) => some (d :: ds, E2)
  | none => none
theorem z_fs0 : Sv.frzs E [] = some ([], E) := rfl
theorem z_fs1 : Sv.frzs E (v :: vs) = zFs1 vs (E.frz v) := rfl
theorem z_fs2 : zFs1 vs (some (d, E1)) = zFs2 d (Sv.frzs E1 vs) := rfl
theorem z_fs3 : zFs2 d (some (ds, E2)) = some (d :: ds, E2) := rfl
/-! ### statements -/
def zSq (u : Sv → SRs) : SRs → SRs
  | .nx E1 => u E1
  | r => r
theorem z_sq : sSeq s t E = zSq t (s E) := rfl
theorem z_sq1 : zSq t (.nx E1) = t E1 := rfl
theorem z_sq2 : zSq t (.rt v E1) = .rt v E1 := rfl
theorem z_sq3 : zSq t (.ex C d E1) = .ex C d E1 := rfl
theorem z_sq4 : zSq t (.bk E1) = .bk E1 := rfl
theorem z_sq5 : zSq t (.ct E1) = .ct E1 := rfl
theorem z_nx : sNext E = .nx E := rfl
theorem z_bk : sBrk E = .bk E := rfl
theorem z_ct : sCont E = .ct E := rfl
theorem z_rn : sRetN E = .rt (.dv .non) E := rfl
def zDr (r : Rs Vl) : SRs := r.bindS fun _ E1 => .nx E1
theorem z_dr : sDrop e E = zDr (e E) := rfl
theorem z_dr1 : zDr (.ok v E1) = .nx E1 := rfl
theorem z_dr1x : zDr (.ex C d E1) = .ex C d E1 := rfl
def zRt (r : Rs Vl) : SRs := r.bindS fun v E1 => .rt v E1
theorem z_rt : sRet e E = zRt (e E) := rfl
theorem z_rt1 : zRt (.ok v E1) = .rt v E1 := rfl
theorem z_rt1x : zRt (.ex C d E1) = .ex C d E1 := rfl
def zIf (s t : Sv → SRs) (r : Rs Bool) : SRs := r.bindS fun b E1 => match b with
  | true => s E1
  | false => t E1
theorem z_if : sIf c s t E = zIf s t (c E) := rfl
theorem z_if1 : zIf s t (.ok true E) = s E := rfl
theorem z_if2 : zIf s t (.ok false E) = t E := rfl
theorem z_ifx : zIf s t (.ex C d E) = .ex C d E := rfl
def zAg (i : Nat) (r : Rs Vl) : SRs := r.bindS fun v E1 => match E1.put i v with
  | some E2 => .nx E2
  | none => .er
def zAg2 : Option Sv → SRs
  | some E2 => .nx E2
  | none => .er
theorem z_ag : sAsg e i E = zAg i (e E) := rfl
theorem z_ag1 : zAg i (.ok v E1) = zAg2 (E1.put i v) := rfl
theorem z_ag1x : zAg i (.ex C d E1) = .ex C d E1 := rfl
theorem z_ag2 : zAg2 (some E2) = .nx E2 := rfl
def zPt (i : Nat) : Option (D × Sv) → Option Sv
  | some (d, E1) => some (E1.set i (some (.val .pure d)))
  | none => none
theorem z_pt1 : Sv.put E i (.dv d) = some (E.set i (some (.val .pure d))) := rfl
theorem z_pt2 : Sv.put E i (.fr d) = some (E.set i (some (.val .own d))) := rfl
theorem z_pt3 : Sv.put E i (.loc j) = zPt i (E.frz (.loc j)) := rfl
theorem z_pt4 : zPt i (some (d, E1)) = some (E1.set i (some (.val .pure d))) := rfl
def zFr (g : D → Sv → Option Sv) (b : Sv → SRs) (r : Rs (List D)) : SRs := r.bindS fun ds E1 => loop g b ds E1
variable {it : Sv → Rs (List D)} {gt : D → Sv → Option Sv}
theorem z_for : sFor it gt s E = zFr gt s (it E) := rfl
theorem z_for1 : zFr gt s (.ok ds E1) = loop gt s ds E1 := rfl
def zRs (C : En) (r : Rs Vl) : SRs := r.bindS fun v E1 => match E1.frz v with
  | some (d, E2) => .ex C d E2
  | none => .er
end
end TV

set_option Elab.async false
set_option linter.all false
set_option maxRecDepth 100000
set_option maxHeartbeats 4000000
/-! The plain side, further steps. -/
namespace TV
open PySem PySem.Spec PyProof.Rows L2 TC
section
variable {α β γ : Type} {E E0 E1 E2 E3 : Sv} {v w u : Vl} {d d1 d2 d3 x y : D} {b b1 b2 : Bool} {i j k n : Nat} {e e1 e2 e3 : Sv → Rs Vl} {es : Sv → Rs (List Vl)} {vs : List Vl} {c c1 c2 : Sv → Rs Bool} {s t : Sv → SRs} {r : SRs} {f g : D → D → Option (D × Bool)} {ds os : List D} {ms : List Nat} {C : En} {it : Sv → Rs (List D)} {gt : D → Sv → Option Sv}
/-! ### raise, x[i] = e, methods of owned lists -/
def zRs2 (C : En) : Option (D × Sv) → SRs
  | some (d, E2) => .ex C d E2
  | none => .er
theorem z_rs : sRaise C e E = zRs C (e E) := rfl
theorem z_rs1 : zRs C (.ok v E1) = zRs2 C (E1.frz v) := rfl
theorem z_rs2 : zRs2 C (some (d, E2)) = .ex C d E2 := rfl
variable {fs : D → D → D → Option D}
def zSt (f : D → D → D → Option D) (j : Nat) (idx : Sv → Rs Vl) (r : Rs Vl) : SRs := r.bindS fun v E1 => match E1.frz v with
  | some (dv, E2) => match ownD E2 j with
    | some _ => (idx E2).bindS fun w E3 => match E3.frz w with
      | some (di, E4) => match ownD E4 j with
        | some (k, d) => match f d di dv with
          | some d' => .nx (E4.set j (some (.val k d')))
          | none => .er
        | none => .er
      | none => .er
    | none => .er
  | none => .er
def zSt2 (f : D → D → D → Option D) (j : Nat) (idx : Sv → Rs Vl) : Option (D × Sv) → SRs
  | some (dv, E2) => match ownD E2 j with
    | some _ => (idx E2).bindS fun w E3 => match E3.frz w with
      | some (di, E4) => match ownD E4 j with
        | some (k, d) => match f d di dv with
          | some d' => .nx (E4.set j (some (.val k d')))
          | none => .er
        | none => .er
      | none => .er
    | none => .er
  | none => .er
def zSt3 (f : D → D → D → Option D) (j : Nat) (idx : Sv → Rs Vl) (dv : D) (E2 : Sv) : Option (Kd × D) → SRs
  | some _ => (idx E2).bindS fun w E3 => match E3.frz w with
      | some (di, E4) => match ownD E4 j with
        | some (k, d) => match f d di dv with
          | some d' => .nx (E4.set j (some (.val k d')))
          | none => .er
        | none => .er
      | none => .er
  | none => .er
def zSt4 (f : D → D → D → Option D) (j : Nat) (dv : D) (r : Rs Vl) : SRs := r.bindS fun w E3 => match E3.frz w with
      | some (di, E4) => match ownD E4 j with
        | some (k, d) => match f d di dv with
          | some d' => .nx (E4.set j (some (.val k d')))
          | none => .er
        | none => .er
      | none => .er
def zSt5 (f : D → D → D → Option D) (j : Nat) (dv : D) : Option (D × Sv) → SRs
  | some (di, E4) => match ownD E4 j with
        | some (k, d) => match f d di dv with
          | some d' => .nx (E4.set j (some (.val k d')))
          | none => .er
        | none => .er
  | none => .er
def zSt6 (f : D → D → D → Option D) (j : Nat) (dv di : D) (E4 : Sv) : Option (Kd × D) → SRs
  | some (k, d) => match f d di dv with
          | some d' => .nx (E4.set j (some (.val k d')))
          | none => .er
  | none => .er
def zSt7 (j : Nat) (k : Kd) (E4 : Sv) : Option D → SRs
  | some d' => .nx (E4.set j (some (.val k d')))
  | none => .er
variable {idx : Sv → Rs Vl} {kd : Kd} {kq : Kd × D}
theorem z_st : sSet fs j idx e E = zSt fs j idx (e E) := rfl
theorem z_st1 : zSt fs j idx (.ok v E1) = zSt2 fs j idx (E1.frz v) := rfl
theorem z_st2 : zSt2 fs j idx (some (d, E2)) = zSt3 fs j idx d E2 (ownD E2 j) := rfl
theorem z_st3 : zSt3 fs j idx d E2 (some kq) = zSt4 fs j d (idx E2) := rfl
theorem z_st4 : zSt4 fs j d (.ok w E3) = zSt5 fs j d (E3.frz w) := rfl
theorem z_st5 : zSt5 fs j d (some (x, E3)) = zSt6 fs j d x E3 (ownD E3 j) := rfl
theorem z_st6 : zSt6 fs j d x E3 (some (kd, y)) = zSt7 j kd E3 (fs y x d) := rfl
theorem z_st7 : zSt7 j kd E3 (some d) = .nx (E3.set j (some (.val kd d))) := rfl
def zOw : Option (Option Sl) → Option (Kd × D)
  | some (some (.val .own d)) => some (.own, d)
  | some (some (.val .prm d)) => some (.prm, d)
  | _ => none
theorem z_ow : ownD E i = zOw E[i]? := rfl
theorem z_ow1 : zOw (some (some (.val .own d))) = some (.own, d) := rfl
theorem z_ow2 : zOw (some (some (.val .prm d))) = some (.prm, d) := rfl
variable {fm : D → List D → Option (D × D)} {T : D → Bool}
def zMt (f : D → List D → Option (D × D)) (T : D → Bool) (i : Nat) (es : Sv → Rs (List Vl)) (E : Sv) : Option (Kd × D) → Rs Vl
  | some (_, d0) => if T d0 = true then (es E).bind fun vs E1 => match Sv.frzs E1 (vs.map Vl.hold) with
      | some (as, E2) => match ownD E2 i with
        | some (k, d) => match f d as with
          | some (d', z) => .ok (.dv z) (E2.set i (some (.val k d')))
          | none => .er
        | none => .er
      | none => .er
    else .er
  | none => .er
def zMt2 (f : D → List D → Option (D × D)) (i : Nat) (r : Rs (List Vl)) : Rs Vl := r.bind fun vs E1 => match Sv.frzs E1 (vs.map Vl.hold) with
      | some (as, E2) => match ownD E2 i with
        | some (k, d) => match f d as with
          | some (d', z) => .ok (.dv z) (E2.set i (some (.val k d')))
          | none => .er
        | none => .er
      | none => .er
def zMt3 (f : D → List D → Option (D × D)) (i : Nat) : Option (List D × Sv) → Rs Vl
  | some (as, E2) => match ownD E2 i with
        | some (k, d) => match f d as with
          | some (d', z) => .ok (.dv z) (E2.set i (some (.val k d')))
          | none => .er
        | none => .er
  | none => .er
def zMt4 (f : D → List D → Option (D × D)) (i : Nat) (as : List D) (E2 : Sv) : Option (Kd × D) → Rs Vl
  | some (k, d) => match f d as with
          | some (d', z) => .ok (.dv z) (E2.set i (some (.val k d')))
          | none => .er
  | none => .er
def zMt5 (i : Nat) (k : Kd) (E2 : Sv) : Option (D × D) → Rs Vl
  | some (d', z) => .ok (.dv z) (E2.set i (some (.val k d')))
  | none => .er
theorem z_mt : eMt fm T i es E = zMt fm T i es E (ownD E i) := rfl
theorem z_mt1 : zMt fm T i es E (some (kd, d)) = if T d = true then zMt2 fm i (es E) else .er := rfl
theorem z_mt2 : zMt2 fm i (.ok vs E1) = zMt3 fm i (Sv.frzs E1 (vs.map Vl.hold)) := rfl
theorem z_mt3 : zMt3 fm i (some (ds, E2)) = zMt4 fm i ds E2 (ownD E2 i) := rfl
theorem z_mt4 : zMt4 fm i ds E2 (some (kd, d)) = zMt5 i kd E2 (fm d ds) := rfl
theorem z_mt5 : zMt5 i kd E2 (some (d, x)) = .ok (.dv x) (E2.set i (some (.val kd d))) := rfl
/-! ### slices -/
def zOs (r : Rs Vl) : Rs (Option Int) := r.bind fun v E1 => match v with
  | .dv (.int i) => .ok (some i) E1
  | _ => .er
variable {z : Int} {o o2 : Option Int} {lo hi : Sv → Rs (Option Int)} {fo : Option Int → Option Int → D → Option (D × Bool)}
theorem z_on : oNone E = .ok none E := rfl
theorem z_os : oSome e E = zOs (e E) := rfl
theorem z_os1 : zOs (.ok (.dv (.int z)) E) = .ok (some z) E := rfl
def zSc (f : Option Int → Option Int → D → Option (D × Bool)) (lo hi : Sv → Rs (Option Int)) (r : Rs Vl) : Rs Vl := r.bind fun v E1 => (lo E1).bind fun i E2 => (hi E2).bind fun j E3 => match v.hold.get E3 with
  | some d => ofRes (f i j d) E3
  | none => .er
def zSc2 (f : Option Int → Option Int → D → Option (D × Bool)) (hi : Sv → Rs (Option Int)) (v : Vl) (r : Rs (Option Int)) : Rs Vl := r.bind fun i E2 => (hi E2).bind fun j E3 => match v.hold.get E3 with
  | some d => ofRes (f i j d) E3
  | none => .er
def zSc3 (f : Option Int → Option Int → D → Option (D × Bool)) (v : Vl) (i : Option Int) (r : Rs (Option Int)) : Rs Vl := r.bind fun j E3 => match v.hold.get E3 with
  | some d => ofRes (f i j d) E3
  | none => .er
def zSc4 (f : Option Int → Option Int → D → Option (D × Bool)) (i j : Option Int) (E3 : Sv) : Option D → Rs Vl
  | some d => ofRes (f i j d) E3
  | none => .er
theorem z_sc : eSl fo e lo hi E = zSc fo lo hi (e E) := rfl
theorem z_sc1 : zSc fo lo hi (.ok v E1) = zSc2 fo hi v (lo E1) := rfl
theorem z_sc2 : zSc2 fo hi v (.ok o E1) = zSc3 fo v o (hi E1) := rfl
theorem z_sc3 : zSc3 fo v o (.ok o2 E1) = zSc4 fo o o2 E1 (v.hold.get E1) := rfl
theorem z_sc4 : zSc4 fo o o2 E1 (some d) = ofRes (fo o o2 d) E1 := rfl
/-! ### what is walked -/
def zIa (r : Rs Vl) : Rs (List D) := r.bind fun v E1 => match E1.frz v with
  | some (d, E2) => match itD d with
    | some ds => .ok ds E2
    | none => .er
  | none => .er
def zIa2 : Option (D × Sv) → Rs (List D)
  | some (d, E2) => match itD d with
    | some ds => .ok ds E2
    | none => .er
  | none => .er
def zIa3 (E2 : Sv) : Option (List D) → Rs (List D)
  | some ds => .ok ds E2
  | none => .er
theorem z_ia : iAny e E = zIa (e E) := rfl
theorem z_ia1 : zIa (.ok v E1) = zIa2 (E1.frz v) := rfl
theorem z_ia2 : zIa2 (some (d, E2)) = zIa3 E2 (itD d) := rfl
theorem z_ia3 : zIa3 E2 (some ds) = .ok ds E2 := rfl
def zR1 (r : Rs (List Vl)) : Rs (List D) := r.bind fun vs E1 => match vs with
  | [.dv (.int j)] => if rngOk1 j = true then .ok ((rgI 0 j.toNat).map D.int) E1 else .er
  | _ => .er
def zR2 (r : Rs (List Vl)) : Rs (List D) := r.bind fun vs E1 => match vs with
  | [.dv (.int i), .dv (.int j)] => if (rngOk1 i && rngOk1 j) = true then .ok ((rgI i (j - i).toNat).map D.int) E1 else .er
  | _ => .er
variable {z1 z2 : Int}
theorem z_r1 : iRg1 es E = zR1 (es E) := rfl
theorem z_r11 : zR1 (.ok [.dv (.int z)] E) = if rngOk1 z = true then .ok ((rgI 0 z.toNat).map D.int) E else .er := rfl
theorem z_r2 : iRg2 es E = zR2 (es E) := rfl
theorem z_r21 : zR2 (.ok [.dv (.int z1), .dv (.int z2)] E) = if (rngOk1 z1 && rngOk1 z2) = true then .ok ((rgI z1 (z2 - z1).toNat).map D.int) E else .er := rfl
def zIe (r : Rs Vl) : Rs (List D) := r.bind fun v E1 => match E1.frz v with
  | some (d, E2) => match d with
    | .lst ds => .ok (enumD ds) E2
    | .tup ds => .ok (enumD ds) E2
    | _ => .er
  | none => .er
def zIe2 : Option (D × Sv) → Rs (List D)
  | some (d, E2) => match d with
    | .lst ds => .ok (enumD ds) E2
    | .tup ds => .ok (enumD ds) E2
    | _ => .er
  | none => .er
theorem z_ie : iEnum1 e E = zIe (e E) := rfl
theorem z_ie1 : zIe (.ok v E1) = zIe2 (E1.frz v) := rfl
theorem z_ie2 : zIe2 (some (.lst ds, E2)) = .ok (enumD ds) E2 := rfl
theorem z_ie3 : zIe2 (some (.tup ds, E2)) = .ok (enumD ds) E2 := rfl
/-! ### a def's end -/
def zEnd (r : Option (List D)) (v : Vl) (E : Sv) : FRs := match r with
  | some os => match v with
    | .dv d => .ok d false os
    | .fr d => .ok d true os
    | .loc i => match E[i]? with
      | some (some (.val .own d)) => .ok d true os
      | _ => .er
  | none => .er
def zLo (os : List D) : Option (Option Sl) → FRs
  | some (some (.val .own d)) => .ok d true os
  | _ => .er
def zEn2 : Option (List D) → FRs
  | some os => .ok .non false os
  | none => .er
def zEx (C : En) (d : D) : Option (List D) → FRs
  | some os => .ex C d os
  | none => .er
theorem z_run {L : Nat} {body : Sv → SRs} : runF ms L body ds = endF ms (body (sv0 ms 0 ds ++ List.replicate (L - ds.length) none)) := rfl
theorem z_end1 : endF ms (.rt v E) = zEnd (getOuts E ms) v E := rfl
theorem z_end2 : zEnd (some os) (.dv d) E = .ok d false os := rfl
theorem z_end3 : zEnd (some os) (.fr d) E = .ok d true os := rfl
theorem z_end4 : zEnd (some os) (.loc i) E = zLo os E[i]? := rfl
theorem z_end5 : zLo os (some (some (.val .own d))) = .ok d true os := rfl
theorem z_end6 : endF ms (.nx E) = zEn2 (getOuts E ms) := rfl
theorem z_end7 : zEn2 (some os) = .ok .non false os := rfl
theorem z_end8 : endF ms (.ex C d E) = zEx C d (getOuts E ms) := rfl
theorem z_end9 : zEx C d (some os) = .ex C d os := rfl
def zGo (ms : List Nat) (E : Sv) : Option (Option Sl) → Option (List D)
  | some (some (.val .prm d)) => (getOuts E ms).map (d :: ·)
  | _ => none
theorem z_go0 : getOuts E [] = some [] := rfl
theorem z_go1 : getOuts E (i :: ms) = zGo ms E E[i]? := rfl
theorem z_go2 : zGo ms E (some (some (.val .prm d))) = (getOuts E ms).map (d :: ·) := rfl
theorem z_s0 : sv0 ms i [] = [] := rfl
theorem z_s1 : sv0 ms i (d :: ds) = some (.val (if i ∈ ms then .prm else .pure) d) :: sv0 ms (i + 1) ds := rfl
/-! ### calls of plain values -/
def zCl (E : Sv) : FRs → Rs Vl
  | .ok d fr _ => .ok (mkV d fr) E
  | .ex c d _ => .ex c d E
  | .er => .er
def zEc (n : Nat) (ms : List Nat) (f : List D → FRs) (r : Rs (List Vl)) : Rs Vl := r.bind fun vs E1 => callE n ms f vs E1
variable {F : List D → FRs}
theorem z_ec : eCall n ms F es E = zEc n ms F (es E) := rfl
theorem z_ec1 : zEc n ms F (.ok vs E) = callE n ms F vs E := rfl
theorem z_ecx : zEc n ms F (.ex C d E) = .ex C d E := rfl
theorem holdX_dv : ∀ (ds : List D) (m : Nat), holdX [] m (ds.map Vl.dv) = ds.map Vl.dv
  | [], _ => rfl
  | d :: ds, m => by
    show (if m ∈ [] then Vl.dv d else Vl.dv d) :: holdX [] (m + 1) (ds.map Vl.dv) = _
    rw [holdX_dv ds, ite_self]
    rfl
theorem getAll_dv : ∀ (ds : List D), getAll E (ds.map Vl.dv) = some ds
  | [] => rfl
  | d :: ds => by rw [List.map_cons, z_ga1, getAll_dv ds]; rfl
theorem mutB_dv : ∀ (ds : List D) (m : Nat), mutB E [] m (ds.map Vl.dv) = true
  | [], _ => rfl
  | d :: ds, m => by
    show ((!decide (m ∈ []) || _) && mutB E [] (m + 1) (ds.map Vl.dv)) = true
    rw [mutB_dv ds]
    simp
theorem locs_dv : ∀ (ds : List D), locs (ds.map Vl.dv) = []
  | [] => rfl
  | d :: ds => locs_dv ds
theorem lentK_dv : ∀ (ds : List D) (m : Nat), lentK E [] m (ds.map Vl.dv) = []
  | [], _ => rfl
  | d :: ds, m => lentK_dv ds (m + 1)
theorem callE_dv (hn : ds.length = n) : callE n [] F (ds.map Vl.dv) E = zCl E (F ds) := by
  unfold callE
  rw [if_pos (by rw [List.length_map]; exact hn)]
  unfold callX
  rw [holdX_dv, getAll_dv]
  dsimp only
  rw [mutB_dv, locs_dv, if_pos (by rfl)]
  cases F ds with
  | er => rfl
  | ok d fr os =>
    dsimp only
    have : lendOk E [] (ds.map Vl.dv) (fun ks => safeR ks d fr && os.all (D.kids ks)) = true := by unfold lendOk; rw [lentK_dv]
    rw [if_pos this]
    unfold updE
    rw [locs_dv]
    rfl
  | ex c d os =>
    dsimp only
    have : lendOk E [] (ds.map Vl.dv) (fun ks => d.noK ks && os.all (D.kids ks)) = true := by unfold lendOk; rw [lentK_dv]
    rw [if_pos this]
    unfold updE
    rw [locs_dv]
    rfl
theorem z_call0 : callE 0 [] F [] E = zCl E (F []) := callE_dv (ds := []) rfl
theorem z_call1 : callE 1 [] F [.dv d1] E = zCl E (F [d1]) := callE_dv (ds := [d1]) rfl
theorem z_call2 : callE 2 [] F [.dv d1, .dv d2] E = zCl E (F [d1, d2]) := callE_dv (ds := [d1, d2]) rfl
theorem z_call3 : callE 3 [] F [.dv d1, .dv d2, .dv d3] E = zCl E (F [d1, d2, d3]) := callE_dv (ds := [d1, d2, d3]) rfl
theorem z_call4 {d4 : D} : callE 4 [] F [.dv d1, .dv d2, .dv d3, .dv d4] E = zCl E (F [d1, d2, d3, d4]) := callE_dv (ds := [d1, d2, d3, d4]) rfl
theorem z_cl1 : zCl E (.ok d b os) = .ok (mkV d b) E := rfl
theorem z_cl2 : zCl E (.ex C d os) = .ex C d E := rfl
end
end TV

set_option Elab.async false
set_option linter.all false
set_option maxRecDepth 100000
set_option maxHeartbeats 4000000
/-! The plain side: loops, comprehensions, calls that lend or change slots. -/
namespace TV
open PySem PySem.Spec PyProof.Rows L2 TC
section
variable {E E0 E1 E2 E3 : Sv} {v w u : Vl} {d d1 d2 d3 x y : D} {b : Sv → SRs} {i j k n : Nat} {vs : List Vl} {xs ys ds os acc : List D} {ms ws : List Nat} {g : D → Sv → Option Sv} {tt : Sv → Rs Bool} {te : Sv → Rs Vl} {it : Sv → Rs (List D)}
/-! ### loops -/
def zLp (g : D → Sv → Option Sv) (b : Sv → SRs) (ds : List D) : SRs → SRs
  | .nx E2 => loop g b ds E2
  | .ct E2 => loop g b ds E2
  | .bk E2 => .nx E2
  | r => r
theorem loop_cons {d : D} (h : g d E = some E1) : loop g b (d :: ds) E = zLp g b ds (b E1) := by
  show (match g d E with
    | some E1 => match b E1 with
      | .nx E2 => loop g b ds E2
      | .ct E2 => loop g b ds E2
      | .bk E2 => .nx E2
      | r => r
    | none => .er) = _
  rw [h]
  rfl
theorem z_lp0 : loop g b [] E = .nx E := rfl
theorem z_lp1 : zLp g b ds (.nx E) = loop g b ds E := rfl
theorem z_lp2 : zLp g b ds (.ct E) = loop g b ds E := rfl
theorem z_lp3 : zLp g b ds (.bk E) = .nx E := rfl
theorem z_lp4 : zLp g b ds (.rt v E) = .rt v E := rfl
theorem z_gt1 : gtName i d E = some (E.set i (some (.val .pure d))) := rfl
/-- each turn goes on -/
theorem loop_inv {P : Nat → Sv → Prop} : ∀ {xs : List D} {k : Nat} {E : Sv}, P k E → (∀ i x E, xs[i]? = some x → P (k + i) E → ∃ E1 E2, g x E = some E1 ∧ (b E1 = .nx E2 ∨ b E1 = .ct E2) ∧ P (k + i + 1) E2) → ∃ E', loop g b xs E = .nx E' ∧ P (k + xs.length) E'
  | [], k, E, h, _ => ⟨E, rfl, h⟩
  | x :: xs, k, E, h, hs => by
    obtain ⟨E1, E2, h1, h2, h3⟩ := hs 0 x E rfl h
    obtain ⟨E', h4, h5⟩ := loop_inv (P := P) (xs := xs) (k := k + 1) (E := E2) h3 fun i y E hy hp => by
      obtain ⟨F1, F2, g1, g2, g3⟩ := hs (i + 1) y E (by simpa using hy) (by rw [show k + (i + 1) = k + 1 + i by omega]; exact hp)
      exact ⟨F1, F2, g1, g2, by rw [show k + 1 + i + 1 = k + (i + 1) + 1 by omega]; exact g3⟩
    refine ⟨E', ?_, by rw [List.length_cons, show k + (xs.length + 1) = k + 1 + xs.length by omega]; exact h5⟩
    rw [loop_cons h1]
    rcases h2 with h2 | h2 <;> rw [h2] <;> exact h4
/-- turns go on, then one ends the def -/
theorem loop_ret {P : Nat → Sv → Prop} {w : Vl} : ∀ {xs : List D} {k m : Nat} {E : Sv}, m < xs.length → P k E → (∀ i x E, i < m → xs[i]? = some x → P (k + i) E → ∃ E1 E2, g x E = some E1 ∧ (b E1 = .nx E2 ∨ b E1 = .ct E2) ∧ P (k + i + 1) E2) →
    (∀ x E, xs[m]? = some x → P (k + m) E → ∃ E1 E2, g x E = some E1 ∧ b E1 = .rt w E2) → ∃ E', loop g b xs E = .rt w E'
  | [], k, m, E, hm, _, _, _ => (Nat.not_lt_zero _ hm).elim
  | x :: xs, k, 0, E, hm, h, hs, he => by
    obtain ⟨E1, E2, h1, h2⟩ := he x E rfl h
    exact ⟨E2, by rw [loop_cons h1, h2]; rfl⟩
  | x :: xs, k, m + 1, E, hm, h, hs, he => by
    obtain ⟨E1, E2, h1, h2, h3⟩ := hs 0 x E (Nat.zero_lt_succ _) rfl h
    obtain ⟨E', h4⟩ := loop_ret (P := P) (xs := xs) (k := k + 1) (m := m) (E := E2) (by simpa using hm) h3 (fun i y E hi hy hp => by
      obtain ⟨F1, F2, g1, g2, g3⟩ := hs (i + 1) y E (by omega) (by simpa using hy) (by rw [show k + (i + 1) = k + 1 + i by omega]; exact hp)
      exact ⟨F1, F2, g1, g2, by rw [show k + 1 + i + 1 = k + (i + 1) + 1 by omega]; exact g3⟩) fun y E hy hp => he y E (by simpa using hy) (by rw [show k + (m + 1) = k + 1 + m by omega]; exact hp)
    refine ⟨E', ?_⟩
    rw [loop_cons h1]
    rcases h2 with h2 | h2 <;> rw [h2] <;> exact h4
/-- while: a measure falls -/
theorem while_inv {c : Sv → Rs Bool} {P : Nat → Sv → Prop} {Q : Sv → Prop} : ∀ {n k : Nat} {E : Sv}, k < n → P k E → (∀ k E, P k E → (∃ E1, c E = .ok false E1 ∧ Q E1) ∨ ∃ E1 E2 k', c E = .ok true E1 ∧ (b E1 = .nx E2 ∨ b E1 = .ct E2) ∧ k' < k ∧ P k' E2) → ∃ E', eWhile c b n E = .nx E' ∧ Q E'
  | 0, k, E, hn, _, _ => (Nat.not_lt_zero _ hn).elim
  | n + 1, k, E, hn, h, hs => by
    rcases hs k E h with ⟨E1, h1, h2⟩ | ⟨E1, E2, k', h1, h2, h3, h4⟩
    · exact ⟨E1, by unfold eWhile; rw [h1]; rfl, h2⟩
    · obtain ⟨E', h5, h6⟩ := while_inv (n := n) (k := k') (E := E2) (by omega) h4 hs
      refine ⟨E', ?_, h6⟩
      unfold eWhile
      rw [h1]
      show (match b E1 with
        | .nx E2 => eWhile c b n E2
        | .ct E2 => eWhile c b n E2
        | .bk E2 => .nx E2
        | r => r) = _
      rcases h2 with h2 | h2 <;> rw [h2] <;> exact h5
/-! ### comprehensions -/
def zLc (g : D → Sv → Option Sv) (tt : Sv → Rs Bool) (te : Sv → Rs Vl) (ws : List Nat) (r : Rs (List D)) : Rs Vl := r.bind fun ds E1 => if noOwn E1 ws = true then match lcGo g tt te ws ds (wipeE E1 ws) [] with
    | some (acc, E2) => .ok (.fr (.lst acc)) (restE E2 E1 ws)
    | none => .er
  else .er
def zLc2 (E1 : Sv) (ws : List Nat) : Option (List D × Sv) → Rs Vl
    | some (acc, E2) => .ok (.fr (.lst acc)) (restE E2 E1 ws)
    | none => .er
theorem z_lc : eLc it g tt te ws E = zLc g tt te ws (it E) := rfl
theorem z_lc1 : zLc g tt te ws (.ok ds E1) = if noOwn E1 ws = true then zLc2 E1 ws (lcGo g tt te ws ds (wipeE E1 ws) []) else .er := rfl
theorem z_lc2 : zLc2 E1 ws (some (acc, E2)) = .ok (.fr (.lst acc)) (restE E2 E1 ws) := rfl
theorem z_wi0 : wipeE E [] = E := rfl
theorem z_wi1 : wipeE E (i :: ws) = (wipeE E ws).set i none := rfl
theorem z_re0 : restE E2 E1 [] = E2 := rfl
theorem z_re1 : restE E2 E1 (i :: ws) = (restE E2 E1 ws).set i (E1[i]?.getD none) := rfl
theorem z_no0 : noOwn E [] = true := rfl
theorem z_no1 : noOwn E (i :: ws) = (!ownedAt E i && noOwn E ws) := rfl
def zOa : Option (Option Sl) → Bool
  | some (some s) => s.owned
  | _ => false
theorem z_oa : ownedAt E i = zOa E[i]? := rfl
theorem z_oa1 : zOa (some none) = false := rfl
theorem z_oa2 : zOa (some (some (.val .pure d))) = false := rfl
theorem z_oa3 : zOa (some (some (.val .own d))) = true := rfl
theorem z_oa4 : zOa (some (some (.val .prm d))) = true := rfl
theorem z_yes : eYes E = .ok true E := rfl
/-- a comprehension that changes nothing -/
theorem lc_pure {p : D → Bool} {h : D → D} : ∀ {xs acc : List D}, (∀ x ∈ xs, ∃ E1, g x E0 = some E1 ∧ tt E1 = .ok (p x) E1 ∧ wipeE E1 ws = E0 ∧ (p x = true → ∃ v, te E1 = .ok v E1 ∧ E1.frz v = some (h x, E1))) → acc.length + xs.length ≤ LIM → lcGo g tt te ws xs E0 acc = some (acc ++ (xs.filter p).map h, E0)
  | [], acc, _, _ => by rw [List.filter_nil, List.map_nil, List.append_nil]; rfl
  | x :: xs, acc, hs, hl => by
    obtain ⟨E1, h1, h2, h3, h4⟩ := hs x List.mem_cons_self
    have rest := fun y hy => hs y (List.mem_cons_of_mem _ hy)
    rw [List.length_cons] at hl
    show (match g x E0 with
      | some E1 => match tt E1 with
        | .ok true E2 => match te E2 with
          | .ok v E3 => match E3.frz v with
            | some (x, E4) => if acc.length < LIM then lcGo g tt te ws xs (wipeE E4 ws) (acc ++ [x]) else none
            | none => none
          | _ => none
        | .ok false E2 => lcGo g tt te ws xs (wipeE E2 ws) acc
        | _ => none
      | none => none) = _
    rw [h1]
    dsimp only
    rw [h2]
    cases hp : p x with
    | false =>
      dsimp only
      rw [h3, List.filter_cons_of_neg (by rw [hp]; exact Bool.false_ne_true)]
      exact lc_pure rest (by omega)
    | true =>
      obtain ⟨v, h5, h6⟩ := h4 hp
      dsimp only
      rw [h5]
      dsimp only
      rw [h6]
      dsimp only
      rw [if_pos (by omega), h3, List.filter_cons_of_pos hp, List.map_cons, lc_pure rest (by rw [List.length_append, List.length_singleton]; omega), List.append_assoc]
      rfl
/-- each turn yields one, the state goes on -/
theorem lc_inv {P : Nat → Sv → Prop} {h : Nat → D} : ∀ {xs acc : List D} {k : Nat} {E : Sv}, P k E → (∀ i x E, xs[i]? = some x → P (k + i) E → ∃ E1 E2 E3 E4 v, g x E = some E1 ∧ tt E1 = .ok true E2 ∧ te E2 = .ok v E3 ∧ E3.frz v = some (h (k + i), E4) ∧ P (k + i + 1) (wipeE E4 ws)) → acc.length + xs.length ≤ LIM → ∃ E', lcGo g tt te ws xs E acc = some (acc ++ (List.range xs.length).map (fun i => h (k + i)), E') ∧ P (k + xs.length) E'
  | [], acc, k, E, hp, _, _ => ⟨E, by rw [List.length_nil, List.range_zero, List.map_nil, List.append_nil]; rfl, hp⟩
  | x :: xs, acc, k, E, hp, hs, hl => by
    obtain ⟨E1, E2, E3, E4, v, h1, h2, h3, h4, h5⟩ := hs 0 x E rfl hp
    rw [List.length_cons] at hl
    obtain ⟨E', h6, h7⟩ := lc_inv (P := P) (h := h) (xs := xs) (acc := acc ++ [h k]) (k := k + 1) (E := wipeE E4 ws) h5 (fun i y E hy hq => by
      obtain ⟨F1, F2, F3, F4, v', g1, g2, g3, g4, g5⟩ := hs (i + 1) y E (by simpa using hy) (by rw [show k + (i + 1) = k + 1 + i by omega]; exact hq)
      exact ⟨F1, F2, F3, F4, v', g1, g2, g3, by rw [show k + 1 + i = k + (i + 1) by omega]; exact g4, by rw [show k + 1 + i + 1 = k + (i + 1) + 1 by omega]; exact g5⟩) (by rw [List.length_append, List.length_singleton]; omega)
    refine ⟨E', ?_, by rw [List.length_cons, show k + (xs.length + 1) = k + 1 + xs.length by omega]; exact h7⟩
    show (match g x E with
      | some E1 => match tt E1 with
        | .ok true E2 => match te E2 with
          | .ok v E3 => match E3.frz v with
            | some (x, E4) => if acc.length < LIM then lcGo g tt te ws xs (wipeE E4 ws) (acc ++ [x]) else none
            | none => none
          | _ => none
        | .ok false E2 => lcGo g tt te ws xs (wipeE E2 ws) acc
        | _ => none
      | none => none) = _
    rw [h1]
    dsimp only
    rw [h2]
    dsimp only
    rw [h3]
    dsimp only
    rw [h4]
    dsimp only
    rw [if_pos (by omega), Nat.add_zero, h6, List.length_cons, List.range_succ_eq_map, List.map_cons, List.map_map, List.append_assoc, List.singleton_append, Nat.add_zero]
    have e : List.map (fun i => h (k + 1 + i)) (List.range xs.length) = List.map ((fun i => h (k + i)) ∘ Nat.succ) (List.range xs.length) := List.map_congr_left fun i _ => by
      show h (k + 1 + i) = h (k + (i + 1))
      rw [show k + 1 + i = k + (i + 1) by omega]
    rw [e]
    rfl
end
end TV

set_option Elab.async false
set_option linter.all false
set_option maxRecDepth 100000
set_option maxHeartbeats 4000000
/-! The plain side: calls that lend slots or change them. -/
namespace TV
open PySem PySem.Spec PyProof.Rows L2 TC
section
variable {E E0 E1 E2 E3 : Sv} {v w u : Vl} {d d1 d2 d3 x y : D} {i j k n : Nat} {vs : List Vl} {xs ys ds os acc : List D} {ms ws : List Nat} {f : List D → FRs} {C : En} {fr : Bool}
theorem outAt_nil {m : Nat} : outAt [] os m = none := by cases os <;> rfl
theorem updE_safe : updE vs [] os true E = E := by
  unfold updE
  cases locs vs with
  | nil => rfl
  | cons a as =>
    show E.mapIdx (updSlot vs [] os true) = E
    refine List.ext_getElem? fun j => ?_
    rw [List.getElem?_mapIdx]
    cases h : E[j]? with
    | none => rfl
    | some s =>
      show some (updSlot vs [] os true j s) = some s
      congr 1
      unfold updSlot
      cases s with
      | none => rfl
      | some s =>
        cases s with
        | exn c d => rfl
        | val k d =>
          dsimp only
          split
          · rfl
          · split
            · rfl
            · rw [outAt_nil]; rfl
/-- nothing is changed; what is lent does not come back -/
theorem call_ro (hn : vs.length = n) (hg : getAll E (holdX [] 0 vs) = some ds) (hl : (locs (holdX [] 0 vs)).Nodup) (hf : f ds = .ok d fr os) (hs : lendOk E [] (holdX [] 0 vs) (fun ks => safeR ks d fr && os.all (D.kids ks)) = true) : callE n [] f vs E = .ok (mkV d fr) E := by
  have hm : ∀ (vs : List Vl) (m : Nat), mutB E [] m vs = true := fun vs => by
    induction vs with
    | nil => intro m; rfl
    | cons v vs ih =>
      intro m
      show ((!decide (m ∈ []) || _) && mutB E [] (m + 1) vs) = true
      rw [ih]
      simp
  unfold callE
  rw [if_pos hn]
  unfold callX
  rw [hg]
  dsimp only
  rw [hm, decide_eq_true hl, if_pos (by rfl), hf]
  dsimp only
  rw [if_pos hs, updE_safe]
  rfl
theorem call_ro_ex (hn : vs.length = n) (hg : getAll E (holdX [] 0 vs) = some ds) (hl : (locs (holdX [] 0 vs)).Nodup) (hf : f ds = .ex C d os) (hs : lendOk E [] (holdX [] 0 vs) (fun ks => d.noK ks && os.all (D.kids ks)) = true) : callE n [] f vs E = .ex C d E := by
  have hm : ∀ (vs : List Vl) (m : Nat), mutB E [] m vs = true := fun vs => by
    induction vs with
    | nil => intro m; rfl
    | cons v vs ih =>
      intro m
      show ((!decide (m ∈ []) || _) && mutB E [] (m + 1) vs) = true
      rw [ih]
      simp
  unfold callE
  rw [if_pos hn]
  unfold callX
  rw [hg]
  dsimp only
  rw [hm, decide_eq_true hl, if_pos (by rfl), hf]
  dsimp only
  rw [if_pos hs, updE_safe]
  rfl
theorem posLoc_dv {j : Nat} : ∀ (ds : List D) (m : Nat), posLoc j (ds.map Vl.dv) m = none
  | [], _ => rfl
  | d :: ds, m => posLoc_dv ds (m + 1)
/-- the first one is changed, the others are plain values -/
theorem call_mut0 {kd : Kd} {z : D} (hE : E[i]? = some (some (.val kd x))) (hk : kd ≠ .pure) (hn : ds.length + 1 = n) (hf : f (x :: ds) = .ok d fr [z]) : callE n [0] f (.loc i :: ds.map Vl.dv) E = .ok (mkV d fr) (E.set i (some (.val kd z))) := by
  have h1 : ∀ (ds : List D) (m : Nat), 0 < m → holdX [0] m (ds.map Vl.dv) = ds.map Vl.dv := fun ds => by
    induction ds with
    | nil => intro m _; rfl
    | cons d ds ih =>
      intro m hm
      show (if m ∈ [0] then Vl.dv d else Vl.dv d) :: holdX [0] (m + 1) (ds.map Vl.dv) = _
      rw [ih _ (Nat.succ_pos _), ite_self]
      rfl
  have h2 : holdX [0] 0 (.loc i :: ds.map Vl.dv) = .loc i :: ds.map Vl.dv := by
    show (if 0 ∈ [0] then Vl.loc i else _) :: holdX [0] 1 (ds.map Vl.dv) = _
    rw [if_pos (List.mem_cons_self), h1 ds 1 (by decide)]
  have h3 : getAll E (.loc i :: ds.map Vl.dv) = some (x :: ds) := by
    rw [z_ga1, getAll_dv, z_g3, hE]
    rfl
  have h4 : ∀ (ds : List D) (m : Nat), 0 < m → mutB E [0] m (ds.map Vl.dv) = true := fun ds => by
    induction ds with
    | nil => intro m _; rfl
    | cons d ds ih =>
      intro m hm
      show ((!decide (m ∈ [0]) || _) && mutB E [0] (m + 1) (ds.map Vl.dv)) = true
      rw [ih _ (Nat.succ_pos _), decide_eq_false (by rw [List.mem_singleton]; omega)]
      rfl
  have ho : ownedAt E i = true := by
    unfold ownedAt
    rw [hE]
    cases kd with
    | pure => exact (hk rfl).elim
    | own => rfl
    | prm => rfl
  have h5 : mutB E [0] 0 (.loc i :: ds.map Vl.dv) = true := by
    show ((!decide (0 ∈ [0]) || ownedAt E i) && mutB E [0] 1 (ds.map Vl.dv)) = true
    rw [h4 ds 1 (by decide), ho]
    simp
  have h6 : ∀ (ds : List D) (m : Nat), lentK E [0] m (ds.map Vl.dv) = [] := fun ds => by
    induction ds with
    | nil => intro m; rfl
    | cons d ds ih => intro m; exact ih (m + 1)
  have h7 : lentK E [0] 0 (.loc i :: ds.map Vl.dv) = [] := by
    show (if (ownedAt E i && !decide (0 ∈ [0])) = true then _ else []) ++ lentK E [0] 1 (ds.map Vl.dv) = []
    rw [h6, if_neg (by simp)]
    rfl
  unfold callE
  rw [if_pos (by rw [List.length_cons, List.length_map]; exact hn)]
  unfold callX
  rw [h2, h3]
  dsimp only
  have h8 : locs (Vl.loc i :: ds.map Vl.dv) = [i] := by
    show i :: locs (ds.map Vl.dv) = [i]
    rw [locs_dv]
  rw [h5, h8, if_pos (by simp), hf]
  dsimp only
  rw [if_pos (by unfold lendOk; rw [h7])]
  show Rs.ok (mkV d fr) (updE (Vl.loc i :: ds.map Vl.dv) [0] [z] true E) = _
  have hu : updE (Vl.loc i :: ds.map Vl.dv) [0] [z] true E = E.set i (some (.val kd z)) := by
    unfold updE
    rw [h8]
    show E.mapIdx (updSlot (Vl.loc i :: ds.map Vl.dv) [0] [z] true) = _
    refine List.ext_getElem? fun j => ?_
    rw [List.getElem?_mapIdx]
    by_cases hj : i = j
    · subst hj
      rw [List.getElem?_set_self', hE]
      show some (updSlot (Vl.loc i :: ds.map Vl.dv) [0] [z] true i (some (.val kd x))) = some (some (.val kd z))
      unfold updSlot
      dsimp only
      rw [if_neg hk]
      have : posLoc i (Vl.loc i :: ds.map Vl.dv) 0 = some 0 := by
        show (if i = i then some 0 else _) = _
        rw [if_pos rfl]
      rw [this]
      rfl
    · rw [List.getElem?_set_ne hj]
      cases h : E[j]? with
      | none => rfl
      | some s =>
        show some (updSlot (Vl.loc i :: ds.map Vl.dv) [0] [z] true j s) = some s
        congr 1
        unfold updSlot
        cases s with
        | none => rfl
        | some s =>
          cases s with
          | exn c d => rfl
          | val k d =>
            dsimp only
            split
            · rfl
            · have : posLoc j (Vl.loc i :: ds.map Vl.dv) 0 = none := by
                show (if i = j then some 0 else posLoc j (ds.map Vl.dv) 1) = _
                rw [if_neg hj, posLoc_dv]
              rw [this]
  rw [hu]
end
end TV

set_option Elab.async false
set_option linter.all false
set_option maxRecDepth 100000
set_option maxHeartbeats 4000000
/-! The plain side: the other steps. -/
namespace TV
open PySem PySem.Spec PyProof.Rows L2 TC
section
variable {E E0 E1 E2 E3 E4 : Sv} {v w u : Vl} {d d1 d2 d3 x y : D} {i j k n : Nat} {vs ws' : List Vl} {xs ys ds os acc : List D} {ms ws is : List Nat} {C : En} {fr b : Bool} {e e1 e2 e3 : Sv → Rs Vl} {es : Sv → Rs (List Vl)} {f g : D → D → Option (D × Bool)} {s t : Sv → SRs}
def zCh1 (f g : D → D → Option (D × Bool)) (eb ec : Sv → Rs Vl) (r : Rs Vl) : Rs Vl := r.bind fun v E1 => (eb E1).bind fun w E2 => (op2 f (v.hold.get E2) (w.get E2) E2).bind fun z E3 => match z with
  | .dv (.bl true) => (ec E3).bind fun u E4 => op2 g (w.hold.get E4) (u.get E4) E4
  | .dv (.bl false) => .ok (.dv (.bl false)) E3
  | _ => .er
def zCh2 (f g : D → D → Option (D × Bool)) (ec : Sv → Rs Vl) (v : Vl) (r : Rs Vl) : Rs Vl := r.bind fun w E2 => (op2 f (v.hold.get E2) (w.get E2) E2).bind fun z E3 => match z with
  | .dv (.bl true) => (ec E3).bind fun u E4 => op2 g (w.hold.get E4) (u.get E4) E4
  | .dv (.bl false) => .ok (.dv (.bl false)) E3
  | _ => .er
def zCh3 (g : D → D → Option (D × Bool)) (ec : Sv → Rs Vl) (w : Vl) (r : Rs Vl) : Rs Vl := r.bind fun z E3 => match z with
  | .dv (.bl true) => (ec E3).bind fun u E4 => op2 g (w.hold.get E4) (u.get E4) E4
  | .dv (.bl false) => .ok (.dv (.bl false)) E3
  | _ => .er
def zCh4 (g : D → D → Option (D × Bool)) (w : Vl) (r : Rs Vl) : Rs Vl := r.bind fun u E4 => op2 g (w.hold.get E4) (u.get E4) E4
theorem z_ch : eChain f g e1 e2 e3 E = zCh1 f g e2 e3 (e1 E) := rfl
theorem z_ch1 : zCh1 f g e2 e3 (.ok v E1) = zCh2 f g e3 v (e2 E1) := rfl
theorem z_ch2 : zCh2 f g e3 v (.ok w E2) = zCh3 g e3 w (op2 f (v.hold.get E2) (w.get E2) E2) := rfl
theorem z_ch3 : zCh3 g e3 w (.ok (.dv (.bl true)) E3) = zCh4 g w (e3 E3) := rfl
theorem z_ch4 : zCh3 g e3 w (.ok (.dv (.bl false)) E3) = .ok (.dv (.bl false)) E3 := rfl
theorem z_ch5 : zCh4 g w (.ok u E4) = op2 g (w.hold.get E4) (u.get E4) E4 := rfl
def zAu (f : D → D → Option (D × Bool)) (i : Nat) (e : Sv → Rs Vl) (E : Sv) : Option (Option Sl) → SRs
  | some (some (.val .pure d)) => (e E).bindS fun w E1 => match w.get E1 with
    | some y => match f d y with
      | some (z, false) => .nx (E1.set i (some (.val .pure z)))
      | _ => .er
    | none => .er
  | _ => .er
def zAu2 (f : D → D → Option (D × Bool)) (i : Nat) (d : D) (r : Rs Vl) : SRs := r.bindS fun w E1 => match w.get E1 with
    | some y => match f d y with
      | some (z, false) => .nx (E1.set i (some (.val .pure z)))
      | _ => .er
    | none => .er
def zAu3 (f : D → D → Option (D × Bool)) (i : Nat) (d : D) (E1 : Sv) : Option D → SRs
    | some y => match f d y with
      | some (z, false) => .nx (E1.set i (some (.val .pure z)))
      | _ => .er
    | none => .er
def zAu4 (i : Nat) (E1 : Sv) : Option (D × Bool) → SRs
      | some (z, false) => .nx (E1.set i (some (.val .pure z)))
      | _ => .er
theorem z_au : sAug f i e E = zAu f i e E E[i]? := rfl
theorem z_au1 : zAu f i e E (some (some (.val .pure d))) = zAu2 f i d (e E) := rfl
theorem z_au2 : zAu2 f i d (.ok w E1) = zAu3 f i d E1 (w.get E1) := rfl
theorem z_au3 : zAu3 f i d E1 (some y) = zAu4 i E1 (f d y) := rfl
theorem z_au4 : zAu4 i E1 (some (y, false)) = .nx (E1.set i (some (.val .pure y))) := rfl
def zPr (is : List Nat) (r : Rs (List Vl)) : SRs := r.bindS fun vs E1 => match Sv.unls E1 vs with
  | some (ws, E2) => if is.length = ws.length then .nx (Sv.puts E2 (is.zip ws)) else .er
  | none => .er
def zPr2 (is : List Nat) : Option (List Vl × Sv) → SRs
  | some (ws, E2) => if is.length = ws.length then .nx (Sv.puts E2 (is.zip ws)) else .er
  | none => .er
theorem z_pr : sPar is es E = zPr is (es E) := rfl
theorem z_pr1 : zPr is (.ok vs E1) = zPr2 is (Sv.unls E1 vs) := rfl
theorem z_pr2 : zPr2 is (some (ws', E2)) = if is.length = ws'.length then .nx (Sv.puts E2 (is.zip ws')) else .er := rfl
def zUl (vs : List Vl) : Option (Vl × Sv) → Option (List Vl × Sv)
  | some (w, E1) => match Sv.unls E1 vs with
    | some (ws, E2) => some (w :: ws, E2)
    | none => none
  | none => none
def zUl2 (w : Vl) : Option (List Vl × Sv) → Option (List Vl × Sv)
  | some (ws, E2) => some (w :: ws, E2)
  | none => none
def zUl3 : Option (D × Sv) → Option (Vl × Sv)
  | some (d, E1) => some (.dv d, E1)
  | none => none
theorem z_ul0 : Sv.unls E [] = some ([], E) := rfl
theorem z_ul1 : Sv.unls E (v :: vs) = zUl vs (E.unl v) := rfl
theorem z_ul2 : zUl vs (some (w, E1)) = zUl2 w (Sv.unls E1 vs) := rfl
theorem z_ul3 : zUl2 w (some (vs, E2)) = some (w :: vs, E2) := rfl
theorem z_ul4 : Sv.unl E (.dv d) = some (.dv d, E) := rfl
theorem z_ul5 : Sv.unl E (.fr d) = some (.fr d, E) := rfl
theorem z_ul6 : Sv.unl E (.loc i) = zUl3 (E.frz (.loc i)) := rfl
theorem z_ul7 : zUl3 (some (d, E1)) = some (.dv d, E1) := rfl
theorem z_zp0 {α β : Type} {bs : List β} : ([] : List α).zip bs = [] := rfl
theorem z_zp1 {α β : Type} {a : α} {b : β} {as : List α} {bs : List β} : (a :: as).zip (b :: bs) = (a, b) :: as.zip bs := rfl
theorem z_pu0 : Sv.puts E [] = E := rfl
theorem z_pu1 {r : List (Nat × Vl)} : Sv.puts E ((i, .dv d) :: r) = Sv.puts (E.set i (some (.val .pure d))) r := rfl
theorem z_pu2 {r : List (Nat × Vl)} : Sv.puts E ((i, .fr d) :: r) = Sv.puts (E.set i (some (.val .own d))) r := rfl
variable {tg : D → Sv → Option Sv} {tgs : List D → Sv → Option Sv}
def zAt (tg : D → Sv → Option Sv) (r : Rs Vl) : SRs := r.bindS fun v E1 => match E1.frz v with
  | some (d, E2) => match tg d E2 with
    | some E3 => .nx E3
    | none => .er
  | none => .er
def zAt2 (tg : D → Sv → Option Sv) : Option (D × Sv) → SRs
  | some (d, E2) => match tg d E2 with
    | some E3 => .nx E3
    | none => .er
  | none => .er
theorem z_at : sAsgT e tg E = zAt tg (e E) := rfl
theorem z_at1 : zAt tg (.ok v E1) = zAt2 tg (E1.frz v) := rfl
theorem z_at2 : zAt2 tg (some (d, E2)) = zAg2 (tg d E2) := rfl
theorem z_gtt : gtTup n tgs (.tup ds) E = if ds.length = n then tgs ds E else none := rfl
def zGc (u : List D → Sv → Option Sv) (ds : List D) : Option Sv → Option Sv
  | some E1 => u ds E1
  | none => none
theorem z_gtc : gtCons tg tgs (d :: ds) E = zGc tgs ds (tg d E) := by
  show (tg d E).bind (fun E1 => tgs ds E1) = _
  cases tg d E <;> rfl
theorem z_gtc1 : zGc tgs ds (some E1) = tgs ds E1 := rfl
theorem z_gtn : gtNil [] E = some E := rfl
variable {hs : List Hnd} {h : Hnd} {kn : List En}
def zTy (known : List En) (hs : List Hnd) : SRs → SRs
  | .ex c d E1 => if known.contains c = true then runH c d E1 hs else .er
  | r => r
theorem z_ty : sTry kn s hs E = zTy kn hs (s E) := rfl
theorem z_ty1 : zTy kn hs (.nx E) = .nx E := rfl
theorem z_ty2 : zTy kn hs (.rt v E) = .rt v E := rfl
theorem z_ty3 : zTy kn hs (.ex C d E) = if kn.contains C = true then runH C d E hs else .er := rfl
def zR3 (r : Rs (List Vl)) : Rs (List D) := r.bind fun vs E1 => match vs with
  | [.dv (.int i), .dv (.int j), .dv (.int c)] => if rng3Ok i j c = true then .ok ((rgC i c (rgLen i j c)).map D.int) E1 else .er
  | _ => .er
theorem z_r3 : iRg3 es E = zR3 (es E) := rfl
theorem z_r31 {a b c : Int} : zR3 (.ok [.dv (.int a), .dv (.int b), .dv (.int c)] E) = if rng3Ok a b c = true then .ok ((rgC a c (rgLen a b c)).map D.int) E else .er := rfl
theorem z_lim0 : (0 ≤ LIM) = True := by decide
theorem z_lim1 : (1 ≤ LIM) = True := by decide
theorem z_lim2 : (2 ≤ LIM) = True := by decide
theorem z_lim3 : (3 ≤ LIM) = True := by decide
theorem z_lim4 : (4 ≤ LIM) = True := by decide
theorem z_lim5 : (5 ≤ LIM) = True := by decide
theorem z_lim6 : (6 ≤ LIM) = True := by decide
theorem z_lim7 : (7 ≤ LIM) = True := by decide
theorem z_lim8 : (8 ≤ LIM) = True := by decide
theorem z_lim9 : (9 ≤ LIM) = True := by decide
theorem z_lim10 : (10 ≤ LIM) = True := by decide
theorem z_lim11 : (11 ≤ LIM) = True := by decide
theorem z_lim12 : (12 ≤ LIM) = True := by decide
theorem z_lim13 : (13 ≤ LIM) = True := by decide
theorem z_lim14 : (14 ≤ LIM) = True := by decide
theorem z_lim15 : (15 ≤ LIM) = True := by decide
theorem z_lim16 : (16 ≤ LIM) = True := by decide
theorem z_lim17 : (17 ≤ LIM) = True := by decide
theorem z_lim18 : (18 ≤ LIM) = True := by decide
theorem z_lim19 : (19 ≤ LIM) = True := by decide
theorem z_lim20 : (20 ≤ LIM) = True := by decide
theorem z_lim21 : (21 ≤ LIM) = True := by decide
theorem z_lim22 : (22 ≤ LIM) = True := by decide
theorem z_lim23 : (23 ≤ LIM) = True := by decide
theorem z_lim24 : (24 ≤ LIM) = True := by decide
theorem z_lim25 : (25 ≤ LIM) = True := by decide
theorem z_lim26 : (26 ≤ LIM) = True := by decide
theorem z_lim27 : (27 ≤ LIM) = True := by decide
theorem z_lim28 : (28 ≤ LIM) = True := by decide
theorem z_lim29 : (29 ≤ LIM) = True := by decide
theorem z_lim30 : (30 ≤ LIM) = True := by decide
theorem z_lim31 : (31 ≤ LIM) = True := by decide
theorem z_lim32 : (32 ≤ LIM) = True := by decide
theorem z_fi {h : Int → Int → Option Int} {a b : Int} : fI h (.int a) (.int b) = (h a b).map fun z => (D.int z, false) := rfl
end
end TV

set_option Elab.async false
set_option linter.all false
set_option maxRecDepth 100000
namespace TV
open PySem PySem.Spec PyProof.Rows L2 TC
/-! Laws of single operations on ints and lists. -/
theorem add_i {a b : Int} : fAdd (.int a) (.int b) = some (.int (a + b), false) := rfl
theorem sub_i {a b : Int} : fSub (.int a) (.int b) = some (.int (a - b), false) := rfl
theorem lt_i {a b : Int} : fLt (.int a) (.int b) = some (.bl (decide (a < b)), false) := rfl
theorem le_i {a b : Int} : fLe (.int a) (.int b) = some (.bl (decide (a ≤ b)), false) := rfl
theorem gt_i {a b : Int} : fGt (.int a) (.int b) = some (.bl (decide (b < a)), false) := rfl
theorem ge_i {a b : Int} : fGe (.int a) (.int b) = some (.bl (decide (b ≤ a)), false) := rfl
theorem neg_i {a : Int} : fNeg (.int a) = some (.int (-a), false) := rfl
theorem mul_i {a b : Int} (h : mulOk a b = true) : fMul (.int a) (.int b) = some (.int (a * b), false) := by unfold fMul; dsimp only; rw [if_pos h]
theorem mulOk_l {a b : Int} (h : -(2 ^ 64) < a) (g : a < 2 ^ 64) : mulOk a b = true := by unfold mulOk; rw [decide_eq_true (Or.inl ⟨h, g⟩)]; rfl
theorem mulOk_r {a b : Int} (h : -(2 ^ 64) < b) (g : b < 2 ^ 64) : mulOk a b = true := by unfold mulOk; rw [decide_eq_true (Or.inr ⟨h, g⟩)]; rfl
theorem mod_i {a b : Int} (h : 0 < b) : fMod (.int a) (.int b) = some (.int (a % b), false) := by unfold fMod fI; dsimp only; rw [if_pos h]; rfl
theorem div_i {a b : Int} (h : 0 < b) (g : b.natAbs.log2 < 9000) : fDiv (.int a) (.int b) = some (.int (a / b), false) := by unfold fDiv fI; dsimp only; rw [if_pos ⟨h, g⟩]; rfl
theorem emod_64 {x m : Int} (h : 0 < m) (g : m < 2 ^ 64) : -(2 ^ 64) < x % m ∧ x % m < 2 ^ 64 := ⟨by have := Int.emod_nonneg x (Int.ne_of_gt h); omega, by have := Int.emod_lt_of_pos x h; omega⟩
theorem atI_nat {α : Type} {xs : List α} {i : Nat} {x : α} (h : xs[i]? = some x) : L2.atI xs (i : Int) = some x := by
  have := (List.getElem?_eq_some_iff.mp h).1
  unfold L2.atI L2.ixN
  rw [if_pos (by omega), if_pos (by omega)]
  exact h
theorem atI_int {α : Type} {xs : List α} {i : Int} {x : α} (h0 : 0 ≤ i) (h : xs[i.toNat]? = some x) : L2.atI xs i = some x := by
  have := atI_nat h
  rwa [Int.toNat_of_nonneg h0] at this
theorem atI_neg {α : Type} {xs : List α} {i : Int} {x : α} (h0 : i < 0) (h1 : -(xs.length : Int) ≤ i) (h : xs[(i + xs.length).toNat]? = some x) : L2.atI xs i = some x := by
  unfold L2.atI L2.ixN
  rw [if_neg (by omega), if_pos h1]
  exact h
theorem ix_l {ds : List D} {i : Int} {d : D} (h : L2.atI ds i = some d) : fIx (.lst ds) (.int i) = some (d, false) := by
  show (L2.atI ds i).map _ = _
  rw [h]
  rfl
theorem ix_t {ds : List D} {i : Int} {d : D} (h : L2.atI ds i = some d) : fIx (.tup ds) (.int i) = some (d, false) := by
  show (L2.atI ds i).map _ = _
  rw [h]
  rfl
theorem ix_s {ns : List Int} {i d : Int} (h : L2.atI ns i = some d) : fIx (.scr ns) (.int i) = some (.int d, false) := by
  show (L2.atI ns i).map _ = _
  rw [h]
  rfl
theorem atI_ints {ns : List Int} {i d : Int} (h : L2.atI ns i = some d) : L2.atI (ns.map D.int) i = some (.int d) := by
  rw [atI_map, h]
  rfl
theorem rg_get {lo : Int} {n i : Nat} {x : D} (h : ((rgI lo n).map D.int)[i]? = some x) : i < n ∧ x = .int (lo + i) := by
  unfold rgI at h
  rw [List.getElem?_map, List.getElem?_map] at h
  by_cases hi : i < n
  · rw [List.getElem?_range hi] at h
    cases h
    exact ⟨hi, rfl⟩
  · rw [List.getElem?_eq_none (by simp; omega)] at h
    cases h
theorem rg_len {lo : Int} {n : Nat} : ((rgI lo n).map D.int).length = n := by
  unfold rgI
  rw [List.length_map, List.length_map, List.length_range]
theorem rngOk1_of {j : Int} (h : -(2 ^ 62) ≤ j) (g : j < 2 ^ 62) : rngOk1 j = true := decide_eq_true ⟨h, g⟩
theorem app_l {ds : List D} {x : D} (h : ds.length < LIM) : mAppend (.lst ds) [x] = some (.lst (ds ++ [x]), .non) := by
  show (if ds.length < LIM then some (D.lst (ds ++ [x]), D.non) else none) = _
  rw [if_pos h]
/-- a loop whose state is told by number and by what does not matter -/
theorem loop_st {J : Type} {St : Nat → J → Sv} {g : D → Sv → Option Sv} {b : Sv → SRs} {xs : List D} (j0 : J) (hb : ∀ i x j, xs[i]? = some x → ∃ E1 j', g x (St i j) = some E1 ∧ b E1 = .nx (St (i + 1) j')) : ∃ j, loop g b xs (St 0 j0) = .nx (St xs.length j) := by
  obtain ⟨E', h, j, rfl⟩ := loop_inv (g := g) (b := b) (k := 0) (E := St 0 j0) (xs := xs) (P := fun i E => ∃ j, E = St i j) ⟨j0, rfl⟩ (by
    rintro i x E hx ⟨j, rfl⟩
    rw [Nat.zero_add]
    obtain ⟨E1, j', h1, h2⟩ := hb i x j hx
    exact ⟨E1, _, h1, .inl h2, j', rfl⟩)
  rw [Nat.zero_add] at h
  exact ⟨j, h⟩
/-! ### counting down -/
theorem rg_size {n : Nat} : Builtin.Range.rangeSize n 0 (-1) = n := by
  unfold Builtin.Range.rangeSize
  rw [if_neg (by decide)]
  by_cases h : (n : Int) > 0
  · rw [if_pos h, show (-(-1 : Int)) = 1 from rfl, Int.ediv_one]
    omega
  · rw [if_neg h]
    omega
theorem fits_of {i : Int} (h : -(2 ^ 62) ≤ i) (g : i < 2 ^ 62) : Builtin.Range.rangeFitsLong i = true := by
  unfold Builtin.Range.rangeFitsLong
  simp
  omega
theorem rg_down {n : Nat} (hn : n < 401) : rng3Ok n 0 (-1) = true ∧ rgLen n 0 (-1) = n := by
  have f1 : Builtin.Range.rangeFitsLong n = true := fits_of (by omega) (by omega)
  refine ⟨?_, by unfold rgLen; rw [rg_size]; omega⟩
  unfold rng3Ok Builtin.Range.small
  rw [rg_size, f1, fits_of (i := 0) (by decide) (by decide), fits_of (i := -1) (by decide) (by decide), if_neg (by decide), fits_of (i := 0 + (-1 + 1)) (by decide) (by decide), decide_eq_true (show (0 : Int) ≤ n by omega)]
  simp
theorem rgC_get {lo c : Int} {n i : Nat} {x : D} (h : ((rgC lo c n).map D.int)[i]? = some x) : i < n ∧ x = .int (lo + i * c) := by
  unfold rgC at h
  rw [List.getElem?_map, List.getElem?_map] at h
  by_cases hi : i < n
  · rw [List.getElem?_range hi] at h
    cases h
    exact ⟨hi, rfl⟩
  · rw [List.getElem?_eq_none (by simp; omega)] at h
    cases h
end TV

set_option Elab.async false
set_option linter.all false
set_option maxRecDepth 100000
set_option maxHeartbeats 4000000
/-! Own objects: made, asked by operators and methods. -/
namespace TV
open PySem PySem.Spec PyProof.Rows L2 TC
section
variable {K : PySem.W.Frag} {a : Adr} {W : WX} {B : Bd} {E E1 : Sv} {σ : L2.St} {H F H' F' : Hp} {x y v : V} {d : D} {p : Addr} {vl : Vl} {i j : Nat}
theorem VOk.gr (g : Gr H F H' F') (h : VOk K a B E σ H F x vl) : VOk K a B E σ H' F' x vl := by
  cases vl with
  | dv d => exact Rep.mono g.ff _ _ h
  | loc i => exact h
  | fr d =>
    obtain ⟨p, rfl, f, m, t, n⟩ := h
    obtain ⟨o, ho⟩ := t.some
    refine ⟨p, rfl, ?_, m, t.mono g.ff (ho.trans (g.hh _ _ ho).symm), n⟩
    cases e : F' p with
    | none => rfl
    | some o2 =>
      rcases g.nw p o2 e with ⟨o', h⟩ | h
      · rw [f] at h; cases h
      · rw [ho] at h; cases h
theorem AllV.gr (g : Gr H F H' F') : ∀ {xs : List V} {vs : List Vl}, AllV K a B E σ H F xs vs → AllV K a B E σ H' F' xs vs
  | _, _, .nil => .nil
  | _, _, .cons h t d => .cons (h.gr g) (t.gr g) d
theorem frAs_live : ∀ {xs : List V} {vs : List Vl}, AllV K a B E σ H F xs vs → ∀ p ∈ frAs xs vs, ∃ o, H p = some o
  | _, _, .nil, p, hp => by cases hp
  | _, _, .cons (x := x) (v := v) (xs := xs) (vs := vs) h t _, p, hp => by
    unfold frAs at hp
    cases e : frA x v with
    | none =>
      rw [e] at hp
      exact frAs_live t p hp
    | some q =>
      rw [e] at hp
      cases hp with
      | tail _ hp => exact frAs_live t p hp
      | head =>
        cases v with
        | dv d => cases x <;> cases e
        | loc i => cases x <;> cases e
        | fr d =>
          obtain ⟨q2, rfl, _, _, t, _⟩ := h
          cases e
          exact t.some
/-! ### C(..) -/
def mkE (c : Cn) (n : Nat) (f : List D → FRs) (vs : List Vl) (E : Sv) : Rs Vl := if vs.length + 1 = n then match callX f [0] (.fr (.obj c []) :: vs) E with
    | .ok (.dv .non, [d']) E1 => .ok (.fr d') E1
    | .ex e d E1 => .ex e d E1
    | _ => .er
  else .er
theorem mkE_ok {c : Cn} {n : Nat} {f : List D → FRs} {vs : List Vl} {xs : List V} {Ex : XK} (hEx : ∀ cls d H, W cls d σ H → Ex cls d H) (C : Cc K a B E σ H F) (hv : AllV K a B E σ H F xs vs) : At K a W (OkV K a) B σ F (fun Q => MkG (a.cn c) (spM K a n [0] f) Ex xs Q H) (mkE c n f vs E) := by
  unfold mkE
  split
  · rename_i hn
    have core : ∀ x dx, H x = none → H dx = none → dx ≠ x → At K a W (OkC K a [0] (.fr (.obj c []) :: vs) (.ref x :: xs)) B σ F (fun Q => spM K a n [0] f (.ref x :: xs) (upd (upd H dx (.own x)) x (.ins (a.cn c) dx [])) Q Ex) (callX f [0] (.fr (.obj c []) :: vs) E) := by
      intro x dx hx hdx hne
      have hx2 : upd H dx (.own x) x = none := by rw [upd_ne (Ne.symm hne)]; exact hx
      have sh : Same H (upd (upd H dx (.own x)) x (.ins (a.cn c) dx [])) := (Same.new hdx).trans (Same.new hx2)
      have g : Gr H F (upd (upd H dx (.own x)) x (.ins (a.cn c) dx [])) F := ⟨sh, Same.refl _, C.le.trans sh, fun p o e => .inl ⟨o, e⟩⟩
      obtain ⟨f1, f2, f3⟩ := C.fresh hx
      refine call_core hEx (C.grow g) (.cons ⟨x, rfl, f1, f2, ⟨dx, [], ?_, Nat.zero_le _, .nil⟩, f3⟩ (hv.gr g) fun q hq hm => ?_) (by rw [List.length_cons]; exact hn)
      · rw [upd_same]
        cases flds c <;> rfl
      · cases hq
        obtain ⟨o, ho⟩ := frAs_live hv x hm
        rw [hx] at ho
        cases ho
    generalize callX f [0] (.fr (.obj c []) :: vs) E = r at core
    cases r with
    | er => trivial
    | ex e d E1 => exact fun Q q x dx h1 h2 h3 => core x dx h1 h2 h3 _ q
    | ok v E1 =>
      obtain ⟨w, os⟩ := v
      cases w with
      | fr d => trivial
      | loc i => trivial
      | dv d =>
        cases d <;> first | trivial | skip
        cases os with
        | nil => trivial
        | cons d' r =>
          cases r with
          | cons _ _ => trivial
          | nil =>
            refine fun Q q x dx h1 h2 h3 => core x dx h1 h2 h3 _ fun z H2 F2 C2 s2 o2 => ⟨?_, q _ H2 F2 C2 s2 (o2.2 0 (.obj c []) d' x (by simp) rfl rfl)⟩
            have := o2.1
            dsimp only [VOk] at this
            rwa [Rep] at this
  · trivial
def eMake (c : Cn) (n : Nat) (f : List D → FRs) (es : Sv → Rs (List Vl)) : Sv → Rs Vl := fun E => (es E).bind fun vs E1 => mkE c n f vs E1
theorem snd_make {c : Cn} {n : Nat} {f : List D → FRs} {t : TA} {es : Sv → Rs (List Vl)} (h : SndA K a W t es) : Snd K a W (tMakeW (a.cn c) (spM K a n [0] f) W t) (eMake c n f es) := fun B E σ H F C =>
  At.bind (ok' := OkV K a) (k := fun xs H1 Q => MkG (a.cn c) (spM K a n [0] f) (WE W σ) xs Q H1) (h B E σ H F C) fun vs E1 xs H1 F1 _ C1 s1 o1 => mkE_ok (fun _ _ _ z => z) C1 o1
/-- cls(..), cls a parameter -/
def eMakeV (c : Cn) (i n : Nat) (f : List D → FRs) (es : Sv → Rs (List Vl)) : Sv → Rs Vl := fun E => match E[i]? with
  | some (some (.val .pure (.cls c'))) => if c' = c then (es E).bind fun vs E1 => mkE c n f vs E1 else .er
  | _ => .er
theorem snd_makeV {c : Cn} {n : Nat} {f : List D → FRs} {t : TA} {es : Sv → Rs (List Vl)} (h : SndA K a W t es) : Snd K a W (tMakeV i (a.cn c) (spM K a n [0] f) (WE W) t) (eMakeV c i n f es) := fun B E σ H F C => by
  unfold eMakeV
  split
  · rename_i c' hE
    split
    · rename_i hc
      subst hc
      obtain ⟨v, hv, ok⟩ := C.sl i _ hE
      have e : v = .ref (a.cn c') := by have ok : Rep K a F (.cls c') v := ok; rwa [Rep] at ok
      subst e
      exact (At.bind (ok' := OkV K a) (k := fun xs H1 Q => MkG (a.cn c') (spM K a n [0] f) (WE W σ) xs Q H1) (h B E σ H F C) fun vs E1 xs H1 F1 _ C1 s1 o1 => mkE_ok (fun _ _ _ z => z) C1 o1).monoT fun Q q => ⟨_, hv, rfl, q⟩
    · trivial
  · trivial
/-! ### x[y], x op y, op x, x.m(..) of the class's own -/
/-- a value, then arguments -/
theorem snd_vthen {ta : TE} {ts : TA} {ea : Sv → Rs Vl} {es : Sv → Rs (List Vl)} {T : Option D → Bool} {g : L2.St → V → Hp → Prop} {k : L2.St → V → List V → Hp → VK → Prop} {h : Vl → List Vl → Sv → Rs Vl} (ha : Snd K a W ta ea) (hs : SndA K a W ts es)
    (hg : ∀ {B E σ H F x v}, Cc K a B E σ H F → VOk K a B E σ H F x v → T (v.get E) = true → g σ x H)
    (hk : ∀ {B E σ H F x v xs vs}, Cc K a B E σ H F → AllV K a B E σ H F (x :: xs) (v :: vs) → At K a W (OkV K a) B σ F (k σ x xs H) (h v vs E)) :
    Snd K a W (fun σ H Q => ta σ H fun x H1 => g σ x H1 ∧ ts σ H1 fun ys H2 => k σ x ys H2 Q) (fun E => (ea E).bind fun v E1 => if T (v.get E1) = true then (es E1).bind fun vs E2 => h v vs E2 else .er) := by
  intro B E σ H F C
  refine At.bind (ok' := OkV K a) (k := fun x H1 Q => g σ x H1 ∧ ts σ H1 fun ys H2 => k σ x ys H2 Q) (ha B E σ H F C) fun v E1 x H1 F1 _ C1 s1 o1 => ?_
  split
  · rename_i hT
    refine At.monoT (t := fun Q => ts σ H1 fun ys H2 => k σ x ys H2 Q) ?_ fun Q q => ⟨hg C1 o1 hT, q⟩
    refine At.bind (ok := fun B E2 σ H2 F2 xs vs => AllV K a B E2 σ H2 F2 xs vs ∧ (∀ p ∈ frAs xs vs, H1 p = none) ∧ VOk K a B E2 σ H2 F2 x v) (ok' := OkV K a) (k := fun xs H2 Q => k σ x xs H2 Q)
      (At.reB C1 (hs (B.re E1 σ H1 F1) E1 σ H1 F1 C1.re) fun vs E2 xs H2 F2 C2 s2 o2 => ⟨o2.un C1, frAs_new C1 o2, VOk.past C1 o1 C2 s2⟩) fun vs E2 xs H2 F2 _ C2 s2 o2 => hk C2 (.cons o2.2.2 o2.1 fun p hp hm => ?_)
    have hn := o2.2.1 p hm
    cases v with
    | dv d => cases x <;> cases hp
    | loc i => cases x <;> cases hp
    | fr d =>
      obtain ⟨q2, rfl, _, _, t, _⟩ := o1
      cases hp
      obtain ⟨o, ho⟩ := t.some
      rw [hn] at ho
      cases ho
  · trivial
theorem obj_ins {c : Cn} (C : Cc K a B E σ H F) (h : VOk K a B E σ H F x vl) (hi : isObj c (vl.get E) = true) : ∃ p dx vs, x = V.ref p ∧ H p = some (.ins (a.cn c) dx ((flds c).zip vs)) := by
  obtain ⟨ds, hd⟩ := isObj_of hi
  obtain ⟨p, dx, ws, rfl, hp, _, _⟩ := (C.get_rep h hd).obj C.le
  exact ⟨p, dx, ws, rfl, hp⟩
/-- x.m(..) -/
def eMeth (c : Cn) (n : Nat) (ms : List Nat) (f : List D → FRs) (eo : Sv → Rs Vl) (es : Sv → Rs (List Vl)) : Sv → Rs Vl := fun E => (eo E).bind fun v E1 => if isObj c (v.get E1) = true then (es E1).bind fun vs E2 => callE n ms f (v :: vs) E2 else .er
def tMethW (C : Addr) (m : Str) (sp : Sp) (W : WX) (ta : TE) (t : TA) : TE := fun σ H Q => ta σ H fun x H1 => (∃ a dx fs, x = .ref a ∧ H1 a = some (.ins C dx fs) ∧ fs.lookup m = none) ∧ t σ H1 fun vs H2 => sp (x :: vs) H2 Q (WE W σ)
theorem lookup_none : ∀ {fs : List Str} {vs : List V} {m : Str}, m ∉ fs → (fs.zip vs).lookup m = none
  | [], _, _, _ => rfl
  | f :: fs, [], _, _ => rfl
  | f :: fs, v :: vs, m, h => by
    rw [List.zip_cons_cons, List.lookup_cons]
    have h1 : (m == f) = false := by rw [beq_eq_false_iff_ne]; exact fun e => h (e ▸ List.mem_cons_self)
    rw [h1]
    exact lookup_none fun z => h (List.mem_cons_of_mem _ z)
theorem snd_meth {c : Cn} {m : Str} {n : Nat} {ms : List Nat} {f : List D → FRs} {ta : TE} {ts : TA} {eo : Sv → Rs Vl} {es : Sv → Rs (List Vl)} (hm : m ∉ flds c) (ho : Snd K a W ta eo) (hs : SndA K a W ts es) : Snd K a W (tMethW (a.cn c) m (spM K a n ms f) W ta ts) (eMeth c n ms f eo es) :=
  snd_vthen (T := isObj c) (g := fun σ x H1 => ∃ p dx fs, x = .ref p ∧ H1 p = some (.ins (a.cn c) dx fs) ∧ fs.lookup m = none) (k := fun σ x xs H Q => spM K a n ms f (x :: xs) H Q (WE W σ)) (h := fun v vs E => callE n ms f (v :: vs) E) ho hs
    (fun C h hT => by obtain ⟨p, dx, vs, e, hp⟩ := obj_ins C h hT; exact ⟨p, dx, _, e, hp, lookup_none hm⟩) fun C h => callE_ok (fun _ _ _ z => z) C h
/-- x[y], x op y, both known when the def is asked; r: how the def is asked, R: what is made of what it yields -/
def eOwn2 (c : Cn) (T : Option D → Bool) (R : Vl → Option Vl) (r : Vl → Vl → Sv → Rs Vl) (ea eb : Sv → Rs Vl) : Sv → Rs Vl := fun E => (ea E).bind fun v E1 => (eb E1).bind fun w E2 => if isObj c (v.get E2) = true ∧ T (w.get E2) = true then (r v w E2).bind fun z E3 => match R z with
    | some z' => .ok z' E3
    | none => .er
  else .er
def ask2 (f : List D → FRs) : Vl → Vl → Sv → Rs Vl := fun v w E => callE 2 [] f [v, w] E
def ask2N (f : List D → FRs) : Vl → Vl → Sv → Rs Vl := fun v w E => (callE 2 [] f [v, w] E).nx
def anyD : Option D → Bool := fun _ => true
def isFr : Vl → Option Vl
  | .fr (.obj c ds) => some (.fr (.obj c ds))
  | _ => none
def isBlV : Vl → Option Vl
  | .dv (.bl b) => some (.dv (.bl b))
  | _ => none
def notBlV : Vl → Option Vl
  | .dv (.bl b) => some (.dv (.bl (!b)))
  | _ => none
theorem snd_own2 {c : Cn} {T : Option D → Bool} {R : Vl → Option Vl} {r : Vl → Vl → Sv → Rs Vl} {sp : Sp} {Ex : L2.St → XK} {ta tb : TE} {ea eb : Sv → Rs Vl} {k : L2.St → V → V → Hp → VK → Prop} (ha : Snd K a W ta ea) (hb : Snd K a W tb eb)
    (hr : ∀ {B E σ H F x y v w}, Cc K a B E σ H F → AllV K a B E σ H F [x, y] [v, w] → At K a W (OkV K a) B σ F (fun Q => sp [x, y] H Q (Ex σ)) (r v w E))
    (hk : ∀ {B E σ H F x y v w} {Q : VK}, Cc K a B E σ H F → VOk K a B E σ H F x v → VOk K a B E σ H F y w → T (w.get E) = true →
      (∀ Q' : VK, (∀ z H' B' E' F' r r', R r = some r' → VOk K a B' E' σ H' F' z r → (∀ z', VOk K a B' E' σ H' F' z' r' → Q z' H') → Q' z H') → InsQ (a.cn c) sp (Ex σ) [y] Q' x H) → k σ x y H Q) :
    Snd K a W (fun σ H Q => ta σ H fun x H1 => tb σ H1 fun y H2 => k σ x y H2 Q) (eOwn2 c T R r ea eb) := by
  intro B E σ H F C
  refine At.bind (ok' := OkV K a) (k := fun x H1 Q => tb σ H1 fun y H2 => k σ x y H2 Q) (ha B E σ H F C) fun v E1 x H1 F1 _ C1 s1 o1 => ?_
  refine At.bind (ok := fun B E2 σ H2 F2 y w => VOk K a B E2 σ H2 F2 y w ∧ (∀ p, frA y w = some p → H1 p = none) ∧ VOk K a B E2 σ H2 F2 x v) (ok' := OkV K a) (k := fun y H2 Q => k σ x y H2 Q)
    (At.reB C1 (hb (B.re E1 σ H1 F1) E1 σ H1 F1 C1.re) fun w E2 y H2 F2 C2 s2 o2 => ⟨o2.un C1, fun p hp => ?_, VOk.past C1 o1 C2 s2⟩) fun w E2 y H2 F2 _ C2 s2 o2 => ?_
  · cases w with
    | dv d => cases y <;> cases hp
    | loc i => cases y <;> cases hp
    | fr d =>
      obtain ⟨q, rfl, _, m, _⟩ := o2
      cases hp
      exact m
  · split
    · rename_i hT
      obtain ⟨p, dx, ws, e, hp⟩ := obj_ins C2 o2.2.2 hT.1
      have av : AllV K a B E2 σ H2 F2 [x, y] [v, w] := by
        refine .cons o2.2.2 (.cons o2.1 .nil fun p _ hm => by cases hm) fun p hp hm => ?_
        have hn : H1 p = none := by
          unfold frAs at hm
          cases e2 : frA y w with
          | none => rw [e2] at hm; cases hm
          | some q =>
            rw [e2] at hm
            cases hm with
            | head => exact o2.2.1 _ e2
            | tail _ h => cases h
        cases v with
        | dv d => cases x <;> cases hp
        | loc i => cases x <;> cases hp
        | fr d =>
          obtain ⟨q2, rfl, _, _, t, _⟩ := o1
          cases hp
          obtain ⟨o, ho⟩ := t.some
          rw [hn] at ho
          cases ho
      have core := hr C2 av
      subst e
      generalize r v w E2 = r at core
      cases r with
      | er => trivial
      | ex c d E3 => exact fun Q q => hk C2 o2.2.2 o2.1 hT.2 fun Q' hQ => ⟨p, dx, _, rfl, hp, core Q' q⟩
      | ok r E3 =>
        show At K a W _ B σ F2 _ (match R r with
          | some z' => Rs.ok z' E3
          | none => .er)
        cases hR : R r with
        | none => trivial
        | some r' => exact fun Q q => hk C2 o2.2.2 o2.1 hT.2 fun Q' hQ => ⟨p, dx, _, rfl, hp, core Q' fun z H' F' C' s' o' => hQ z H' _ _ _ _ _ hR o' fun z' o'' => q z' H' F' C' s' o''⟩
    · trivial
theorem ask2_ok {f : List D → FRs} (C : Cc K a B E σ H F) {x y : V} {v w : Vl} (h : AllV K a B E σ H F [x, y] [v, w]) : At K a W (OkV K a) B σ F (fun Q => spM K a 2 [] f [x, y] H Q (WE W σ)) (ask2 f v w E) := callE_ok (fun _ _ _ z => z) C h
theorem ask2N_ok {f : List D → FRs} (C : Cc K a B E σ H F) {x y : V} {v w : Vl} (h : AllV K a B E σ H F [x, y] [v, w]) : At K a W (OkV K a) B σ F (fun Q => spM K a 2 [] f [x, y] H Q E0) (ask2N f v w E) := At.nx (callE_ok (W := WF) (Ex := E0) (fun _ _ _ z => z.elim) C h)
theorem snd_ixO {c : Cn} {f : List D → FRs} {ta tb : TE} {ea eb : Sv → Rs Vl} (ha : Snd K a W ta ea) (hb : Snd K a W tb eb) : Snd K a W (tIxO (a.cn c) (spM K a 2 [] f) (WE W) ta tb) (eOwn2 c anyD some (ask2 f) ea eb) :=
  snd_own2 (Ex := WE W) (k := fun σ x y H Q => InsQ (a.cn c) (spM K a 2 [] f) (WE W σ) [y] Q x H) ha hb (fun C h => ask2_ok C h) fun C h g _ q => q _ fun z H' B' E' F' r r' hR o z1 => by
    cases hR
    exact z1 z o
theorem fr_ref {z : V} {r r' : Vl} (hR : isFr r = some r') (o : VOk K a B E σ H F z r) : ∃ p, z = .ref p ∧ r = r' := by
  cases r with
  | fr d =>
    cases d <;> first | (cases hR; done) | skip
    cases hR
    obtain ⟨p, e, _⟩ := o
    exact ⟨p, e, rfl⟩
  | _ => cases hR
theorem snd_opO {c : Cn} {f : List D → FRs} {ta tb : TE} {ea eb : Sv → Rs Vl} (ha : Snd K a W ta ea) (hb : Snd K a W tb eb) : Snd K a W (tOpO (a.cn c) (spM K a 2 [] f) (WE W) ta tb) (eOwn2 c (isObj c) isFr (ask2 f) ea eb) :=
  snd_own2 (Ex := WE W) (k := fun σ x y H Q => ∃ b dy gs, y = .ref b ∧ H b = some (.ins (a.cn c) dy gs) ∧ InsQ (a.cn c) (spM K a 2 [] f) (WE W σ) [y] (fun z H' => ∃ r, z = .ref r ∧ Q (.ref r) H') x H) ha hb (fun C h => ask2_ok C h) fun C h g hT q => by
    obtain ⟨b, dy, vs, e, hb⟩ := obj_ins C g hT
    refine ⟨b, dy, _, e, hb, q _ fun z H' B' E' F' r r' hR o z1 => ?_⟩
    obtain ⟨p, rfl, rfl⟩ := fr_ref hR o
    exact ⟨p, rfl, z1 _ o⟩
/-! ### == and !=, isinstance of an own class -/
/-- what isinstance and == ask of a class -/
structure OwnC (K : PySem.W.Frag) (C : Addr) : Prop where
  cl : Cls K C
  kc : ((PySem.W.clsIn K C).isSome && PySem.W.typeIn K (.ref C) == some (.type "type")) = true
  ha : PySem.W.findIn K (.ref C) "__class__" = some (some (.builtin "object.__class__"))
  hn : PySem.W.specialIn K (.builtin "object.__class__") "__get__" = some (some (.builtin "getset_descriptor.__get__"))
  htk : PySem.W.takesIn K (.builtin "object.__class__") = some true
  hm : PySem.W.mroIn K C (.type "object") = some true
theorem sub_ty {C : Addr} {n : String} (h : n ∈ tyNs) : PySem.W.subIn K (.type n) (.ref C) = some false := by
  have e : ∀ m ∈ tyNs, (PySem.fastBuiltinMro m).any (fun l => l.all fun v => match v with | .type _ => true | _ => false) = true := by decide +kernel
  have := e n h
  show (PySem.fastBuiltinMro n).map (·.contains (.ref C)) = some false
  cases hm : PySem.fastBuiltinMro n with
  | none => rw [hm] at this; cases this
  | some l =>
    rw [hm] at this
    rw [Option.map_some]
    congr 1
    rw [← Bool.not_eq_true, List.contains_iff_mem]
    intro hc
    have := List.all_eq_true.mp (by simpa using this) _ hc
    cases this
theorem OwnC.kit {C : Addr} (o : OwnC K C) {n : String} (h : n ∈ tyNs) : PySem.W.kitOne K (.type n) (.ref C) = some false := by
  unfold PySem.W.kitOne PySem.W.kitCls
  rw [if_neg (by intro h; cases h)]
  dsimp only
  rw [if_pos o.kc]
  exact sub_ty h
theorem kc_of {C : Addr} (h : PySem.W.readsIn K C (.type "type") = true) (g : PySem.W.hasDictIn K C = true) : ((PySem.W.clsIn K C).isSome && PySem.W.typeIn K (.ref C) == some (.type "type")) = true := by
  unfold PySem.W.readsIn at h
  simp only [Bool.and_eq_true] at h
  unfold PySem.W.hasDictIn at g
  cases hc : PySem.W.clsIn K C with
  | none => rw [hc] at g; cases g
  | some c => simp [h]
theorem kit_self {C : Addr} : PySem.W.kitOne K (.ref C) (.ref C) = some true := by
  unfold PySem.W.kitOne
  rw [if_pos (by simp)]
/-- is it of the class? -/
def D.isO (c : Cn) (d : D) : Option Bool := match d with
  | .obj c' _ => if c' = c then some true else none
  | d => d.tyN.map fun _ => false
theorem isO_ty {c : Cn} {b : Bool} (o : OwnC K (a.cn c)) (l : Same F H) (h : View K a H F x d) (e : d.isO c = some b) : ∃ t, TyX K H x t ∧ PySem.W.kitOne K t (.ref (a.cn c)) = some b ∧ PySem.W.notFirst K (a.cn c) t = true := by
  by_cases hd : ∃ c' ds, d = .obj c' ds
  · obtain ⟨c', ds, rfl⟩ := hd
    unfold D.isO at e
    dsimp only at e
    split at e
    · rename_i hc
      subst hc
      cases e
      obtain ⟨p, dx, vs, rfl, hp, _, _⟩ := h.obj l
      refine ⟨_, .base (.ins hp o.cl o.ha o.hn o.htk o.hm), kit_self, ?_⟩
      unfold PySem.W.notFirst
      simp
    · cases e
  · have e2 : d.tyN.map (fun _ => false) = some b := by
      cases d <;> first | exact e | skip
      exact (hd ⟨_, _, rfl⟩).elim
    cases hn : d.tyN with
    | none => rw [hn] at e2; cases e2
    | some n =>
      rw [hn] at e2
      cases e2
      refine ⟨_, view_ty l h hn, o.kit (tyn_mem hn), ?_⟩
      unfold PySem.W.notFirst
      rw [sub_ty (tyn_mem hn)]
      simp
def fIsO (c : Cn) : D → D → Option (D × Bool)
  | x, .cls c' => if c' = c then (x.isO c).map fun b => (.bl b, false) else none
  | _, _ => none
theorem rc_isO {c : Cn} (o : OwnC K (a.cn c)) : RCall K a (rIsi K) (f2 (fIsO c)) := rc_2 fun H F x y dx dy d b l vx vy e Q q => by
  unfold fIsO at e
  split at e
  · rename_i c'
    split at e
    · rename_i hc
      subst hc
      cases hb : dx.isO c' with
      | none => rw [hb] at e; cases e
      | some bb =>
        rw [hb] at e
        cases e
        obtain ⟨t, ty, k, _⟩ := isO_ty o l vx hb
        have ey : y = .ref (a.cn c') := by have := vy.flat fun _ t => t; rwa [Rep] at this
        exact ⟨x, y, t, .ref (a.cn c'), bb, rfl, by rw [ey]; exact .own _, ty, k, q _ _ _ (Gr.refl l) (rep_bl (K := K) (a := a) (F := F))⟩
    · cases e
  · cases e
def eqT (c : Cn) : Option D → Bool
  | some d => (d.isO c).isSome
  | none => false
theorem snd_eqO {c : Cn} {f : List D → FRs} {ta tb : TE} {ea eb : Sv → Rs Vl} (o : OwnC K (a.cn c)) (ha : Snd K a W ta ea) (hb : Snd K a W tb eb) : Snd K a W (tOp (rEqO K (a.cn c) (spM K a 2 [] f)) ta tb) (eOwn2 c (eqT c) isBlV (ask2N f) ea eb) :=
  snd_own2 (Ex := fun _ => E0) (k := fun σ x y H Q => rEqO K (a.cn c) (spM K a 2 [] f) x y H Q) ha hb (fun C h => ask2N_ok C h) fun {B E σ H F x y v w Q} C h g hT q => by
    cases hd : w.get E with
    | none => rw [hd] at hT; cases hT
    | some d =>
      rw [hd] at hT
      obtain ⟨b, hb⟩ := Option.isSome_iff_exists.mp hT
      obtain ⟨t, ty, _, nf⟩ := isO_ty o C.le (C.get_rep g hd) hb
      refine ⟨t, ty, nf, q _ fun z H' B' E' F' r r' hR o2 z1 => ?_⟩
      cases r with
      | dv d2 =>
        cases d2 <;> first | (cases hR; done) | skip
        cases hR
        exact ⟨_, vok_bl o2, z1 _ (rep_bl (K := K) (a := a) (F := F'))⟩
      | _ => cases hR
theorem snd_neO {c : Cn} {f : List D → FRs} {ta tb : TE} {ea eb : Sv → Rs Vl} (o : OwnC K (a.cn c)) (ha : Snd K a W ta ea) (hb : Snd K a W tb eb) : Snd K a W (tOp (rNeO K (a.cn c) (spM K a 2 [] f)) ta tb) (eOwn2 c (eqT c) notBlV (ask2N f) ea eb) :=
  snd_own2 (Ex := fun _ => E0) (k := fun σ x y H Q => rNeO K (a.cn c) (spM K a 2 [] f) x y H Q) ha hb (fun C h => ask2N_ok C h) fun {B E σ H F x y v w Q} C h g hT q => by
    cases hd : w.get E with
    | none => rw [hd] at hT; cases hT
    | some d =>
      rw [hd] at hT
      obtain ⟨b, hb⟩ := Option.isSome_iff_exists.mp hT
      obtain ⟨t, ty, _, nf⟩ := isO_ty o C.le (C.get_rep g hd) hb
      refine ⟨t, ty, nf, q _ fun z H' B' E' F' r r' hR o2 z1 => ?_⟩
      cases r with
      | dv d2 =>
        cases d2 <;> first | (cases hR; done) | skip
        cases hR
        exact ⟨_, vok_bl o2, z1 _ (rep_bl (K := K) (a := a) (F := F'))⟩
      | _ => cases hR
/-! ### op x -/
def eOwn1 (c : Cn) (f : List D → FRs) (ea : Sv → Rs Vl) : Sv → Rs Vl := fun E => (ea E).bind fun v E1 => if isObj c (v.get E1) = true then callE 1 [] f [v] E1 else .er
def tUnO (C : Addr) (sp : Sp) (E : L2.St → XK) (ta : TE) : TE := fun σ H Q => ta σ H fun x H1 => InsQ C sp (E σ) [] Q x H1
theorem snd_unO {c : Cn} {f : List D → FRs} {ta : TE} {ea : Sv → Rs Vl} (ha : Snd K a W ta ea) : Snd K a W (tUnO (a.cn c) (spM K a 1 [] f) (WE W) ta) (eOwn1 c f ea) := fun B E σ H F C => by
  refine At.bind (ok' := OkV K a) (k := fun x H1 Q => InsQ (a.cn c) (spM K a 1 [] f) (WE W σ) [] Q x H1) (ha B E σ H F C) fun v E1 x H1 F1 _ C1 s1 o1 => ?_
  split
  · rename_i hi
    obtain ⟨p, dx, vs, rfl, hp⟩ := obj_ins C1 o1 hi
    exact (callE_ok (W := W) (Ex := WE W σ) (fun _ _ _ z => z) C1 (allv_1 o1)).monoT fun Q q => ⟨p, dx, _, rfl, hp, q⟩
  · trivial
/-! ### {} -/
def eDNew : Sv → Rs Vl := fun E => .ok (.fr (.dct [] [])) E
theorem snd_dnew : Snd K a W tDNewK eDNew := fun B E σ H F C Q q p hp =>
  have g := gr_own (o := .dK []) C.le hp
  q (.ref p) _ F (C.grow g) (Same.refl _) (C.res (b := true) g ⟨p, rfl, hp, free_of C.le hp, ⟨[], .nil, .inl ⟨[], rfl, rfl, upd_same⟩⟩⟩)
end
/-! ### the rules -/
section
variable {X : Cx} {a : Adr} {W : WX} {e e1 e2 e3 tg o : Expr} {v v1 v2 v3 : Sv → Rs Vl} {pos apos np : Pos} {es : List Expr} {vs : Sv → Rs (List Vl)} {c c1 c2 : Sv → Rs Bool} {k n i : Nat} {f : Addr} {ps : List Str} {ms : List Nat} {ev : List D → FRs} {x m : Str} {p : Pos} {cn : Cn} {C : Addr}
theorem v_dnew : PEV X a W (.Dict [] [] pos) eDNew := up pe_dnewK snd_dnew
theorem v_make (hC : a.cn cn = C) (M : Mk X.K C f) (F : FnE X.prog X.w X.K X.mg X.base (L2.CX X.prog X.w) k f ps (spM X.K a n [0] ev)) (hr : Room (k + 1) X.A) (hg : Gl X x) (hm : X.mg x = some (.ref C)) (tk : Takes X W) (h : PAV X a W (e :: es) vs)
    (h1 : (x == ("__debug__" : Str)) = false := by decide) (h2 : starEach (e :: es) X.env = (false, eval e X.env) :: starEach es X.env := by rfl) (h3 : (backTo pos (starEach es X.env)).any (·.1) = false := by rfl) :
    PEV X a W (.Call (.Name x p) (e :: es) [] pos) (eMake cn n ev vs) := by
  subst hC
  exact up (pe_makeW M F hr hg hm tk pa0 h1 h2 h3) (snd_make h.s)
theorem v_makeV (hC : a.cn cn = C) (hv : PE X (.Name x np) (tVar i)) (M : Mk X.K C f) (F : FnE X.prog X.w X.K X.mg X.base (L2.CX X.prog X.w) k f ps (spM X.K a n [0] ev)) (hr : Room (k + 1) X.A) (tk : Takes X W) (h : PAV X a W (e :: es) vs)
    (h2 : starEach (e :: es) X.env = (false, eval e X.env) :: starEach es X.env := by rfl) (h3 : (backTo pos (starEach es X.env)).any (·.1) = false := by rfl) :
    PEV X a W (.Call (.Name x np) (e :: es) [] pos) (eMakeV cn i n ev vs) := by
  subst hC
  exact up (pe_makeV (E := WE W) hv M F hr (fun σ => takesAt tk σ) pa0 h2 h3) (snd_makeV h.s)
theorem v_ixO (hC : a.cn cn = C) (hs : PySem.W.findIn X.K (.ref C) "__getitem__" = some (some (.ref f))) (hfi : PySem.W.fnIn X.K f = true) (hfn : PySem.W.isFn X.K (.ref f) = true) (F : FnE X.prog X.w X.K X.mg X.base (L2.CX X.prog X.w) k f ps (spM X.K a 2 [] ev)) (hr : Room (k + 1) X.A) (tk : Takes X W)
    (h1 : PEV X a W e1 v1) (h2 : PEV X a W e2 v2) (hsl : ∀ v u, subscripted e2 true v u = runValue (.builtin "lifetime.subscript" ⟨[v, u], []⟩)) : PEV X a W (.Subscript e1 e2 pos) (eOwn2 cn anyD some (ask2 ev) v1 v2) := by
  subst hC
  exact up (pe_ixO (E := WE W) hs hfi hfn F hr (fun σ => takesAt tk σ) pe0 pe0 hsl) (snd_ixO h1.s h2.s)
theorem v_opO {op : Operator} (hC : a.cn cn = C) (hc : PySem.W.selfFirst X.K C = true) (hs : PySem.W.findIn X.K (.ref C) (PySem.dunder op.info.2) = some (some (.ref f))) (hfn : PySem.W.isFn X.K (.ref f) = true)
    (F : FnE X.prog X.w X.K X.mg X.base (L2.CX X.prog X.w) k f ps (spM X.K a 2 [] ev)) (hr : Room k X.A) (tk : Takes X W) (h1 : PEV X a W e1 v1) (h2 : PEV X a W e2 v2) : PEV X a W (.BinOp e1 op e2 pos) (eOwn2 cn (isObj cn) isFr (ask2 ev) v1 v2) := by
  subst hC
  exact up (pe_opO (E := WE W) hc hs hfn F hr (fun σ => takesAt tk σ) pe0 pe0) (snd_opO h1.s h2.s)
theorem pass0L : Passes (L2.CX X.prog X.w) X E0 := fun pins σ H s u s' I z => by obtain ⟨_, _, _, _, _, _, _, _, _, _, _, _, z⟩ := z; exact z.elim
theorem v_eqO (hC : a.cn cn = C) (oc : OwnC X.K C) (hs : PySem.W.findIn X.K (.ref C) "__eq__" = some (some (.ref f))) (hfn : PySem.W.isFn X.K (.ref f) = true) (F : FnE X.prog X.w X.K X.mg X.base (L2.CX X.prog X.w) k f ps (spM X.K a 2 [] ev)) (hr : Room k X.A)
    (h1 : PEV X a W e1 v1) (h2 : PEV X a W e2 v2) (nm : behindInMarks .Eq e2 = false) : PEV X a W (.Compare e1 [.Eq] [e2] pos) (eOwn2 cn (eqT cn) isBlV (ask2N ev) v1 v2) := by
  subst hC
  exact up (pe_cmpR (op_eqO hs hfn F hr pass0L) pe0 pe0 nm) (snd_eqO oc h1.s h2.s)
theorem vt_eqO (hC : a.cn cn = C) (oc : OwnC X.K C) (hs : PySem.W.findIn X.K (.ref C) "__eq__" = some (some (.ref f))) (hfn : PySem.W.isFn X.K (.ref f) = true) (F : FnE X.prog X.w X.K X.mg X.base (L2.CX X.prog X.w) k f ps (spM X.K a 2 [] ev)) (hr : Room k X.A)
    (h1 : PEV X a W e1 v1) (h2 : PEV X a W e2 v2) (nm : behindInMarks .Eq e2 = false) : PTV X a W (.Compare e1 [.Eq] [e2] pos) (eTB (eOwn2 cn (eqT cn) isBlV (ask2N ev) v1 v2)) := by
  subst hC
  exact upT (pt_cmpR (op_eqO hs hfn F hr pass0L) pe0 pe0 nm) (snd_tTest (snd_eqO oc h1.s h2.s))
theorem v_neO (hC : a.cn cn = C) (oc : OwnC X.K C) (hne : PySem.W.findIn X.K (.ref C) "__ne__" = some (some (.builtin "object.__ne__"))) (hs : PySem.W.findIn X.K (.ref C) "__eq__" = some (some (.ref f))) (hfn : PySem.W.isFn X.K (.ref f) = true) (F : FnE X.prog X.w X.K X.mg X.base (L2.CX X.prog X.w) k f ps (spM X.K a 2 [] ev)) (hr : Room (k + 1) X.A)
    (h1 : PEV X a W e1 v1) (h2 : PEV X a W e2 v2) (nm : behindInMarks .NotEq e2 = false) : PEV X a W (.Compare e1 [.NotEq] [e2] pos) (eOwn2 cn (eqT cn) notBlV (ask2N ev) v1 v2) := by
  subst hC
  exact up (pe_cmpR (op_neO hne oc.hm hs hfn F hr pass0L) pe0 pe0 nm) (snd_neO oc h1.s h2.s)
theorem vt_neO (hC : a.cn cn = C) (oc : OwnC X.K C) (hne : PySem.W.findIn X.K (.ref C) "__ne__" = some (some (.builtin "object.__ne__"))) (hs : PySem.W.findIn X.K (.ref C) "__eq__" = some (some (.ref f))) (hfn : PySem.W.isFn X.K (.ref f) = true) (F : FnE X.prog X.w X.K X.mg X.base (L2.CX X.prog X.w) k f ps (spM X.K a 2 [] ev)) (hr : Room (k + 1) X.A)
    (h1 : PEV X a W e1 v1) (h2 : PEV X a W e2 v2) (nm : behindInMarks .NotEq e2 = false) : PTV X a W (.Compare e1 [.NotEq] [e2] pos) (eTB (eOwn2 cn (eqT cn) notBlV (ask2N ev) v1 v2)) := by
  subst hC
  exact upT (pt_cmpR (op_neO hne oc.hm hs hfn F hr pass0L) pe0 pe0 nm) (snd_tTest (snd_neO oc h1.s h2.s))
/-- op x -/
theorem pe_negO {E : L2.St → XK} {ta : TE} {sp : Sp} (hs : PySem.W.findIn X.K (.ref C) "__neg__" = some (some (.ref f))) (hfn : PySem.W.isFn X.K (.ref f) = true) (F : FnE X.prog X.w X.K X.mg X.base (L2.CX X.prog X.w) k f ps sp) (hr : Room k X.A) (hx : ∀ σ, PassesAt (L2.CX X.prog X.w) X σ (E σ)) (ha : PE X e ta) : PE X (.UnaryOp .USub e pos) (tUnO C sp E ta) := by
  refine ⟨fun pins s σ H Q I h => UnaryOp_ (thn (ha.run pins s σ H _ I h) fun v s1 hv => ?_)⟩
  obtain ⟨x, H1, I1, r1, o, dx, fs, rfl, eo, q⟩ := hv
  obtain rfl : v = Value.ref o := r1
  obtain ⟨od, J⟩ := inst_of I1 eo
  obtain ⟨m, hF⟩ := I1.fr
  exact PySem.W.ksp_neg hF I1.ok.mod.kin J hs hfn (call_at (us := [.ref o]) (vs := [.ref o]) hr I1.env0 F (hx σ) I1 (.cons rfl .nil) q)
theorem pe_invO {E : L2.St → XK} {ta : TE} {sp : Sp} (hs : PySem.W.findIn X.K (.ref C) "__invert__" = some (some (.ref f))) (hfn : PySem.W.isFn X.K (.ref f) = true) (F : FnE X.prog X.w X.K X.mg X.base (L2.CX X.prog X.w) k f ps sp) (hr : Room k X.A) (hx : ∀ σ, PassesAt (L2.CX X.prog X.w) X σ (E σ)) (ha : PE X e ta) : PE X (.UnaryOp .Invert e pos) (tUnO C sp E ta) := by
  refine ⟨fun pins s σ H Q I h => UnaryOp_ (thn (ha.run pins s σ H _ I h) fun v s1 hv => ?_)⟩
  obtain ⟨x, H1, I1, r1, o, dx, fs, rfl, eo, q⟩ := hv
  obtain rfl : v = Value.ref o := r1
  obtain ⟨od, J⟩ := inst_of I1 eo
  obtain ⟨m, hF⟩ := I1.fr
  exact PySem.W.ksp_inv hF I1.ok.mod.kin J hs hfn (call_at (us := [.ref o]) (vs := [.ref o]) hr I1.env0 F (hx σ) I1 (.cons rfl .nil) q)
theorem v_negO (hC : a.cn cn = C) (hs : PySem.W.findIn X.K (.ref C) "__neg__" = some (some (.ref f))) (hfn : PySem.W.isFn X.K (.ref f) = true) (F : FnE X.prog X.w X.K X.mg X.base (L2.CX X.prog X.w) k f ps (spM X.K a 1 [] ev)) (hr : Room k X.A) (tk : Takes X W) (h1 : PEV X a W e v) : PEV X a W (.UnaryOp .USub e pos) (eOwn1 cn ev v) := by
  subst hC
  exact up (pe_negO (E := WE W) hs hfn F hr (fun σ => takesAt tk σ) pe0) (snd_unO h1.s)
theorem v_invO (hC : a.cn cn = C) (hs : PySem.W.findIn X.K (.ref C) "__invert__" = some (some (.ref f))) (hfn : PySem.W.isFn X.K (.ref f) = true) (F : FnE X.prog X.w X.K X.mg X.base (L2.CX X.prog X.w) k f ps (spM X.K a 1 [] ev)) (hr : Room k X.A) (tk : Takes X W) (h1 : PEV X a W e v) : PEV X a W (.UnaryOp .Invert e pos) (eOwn1 cn ev v) := by
  subst hC
  exact up (pe_invO (E := WE W) hs hfn F hr (fun σ => takesAt tk σ) pe0) (snd_unO h1.s)
/-- x.m(..) -/
theorem pe_methW {ta : TE} {t : TA} {sp : Sp} {pl : Sem Bool} (he : PE X o ta) (c : Cls X.K C) (hm : Meth X.K C m f) (F : FnE X.prog X.w X.K X.mg X.base (L2.CX X.prog X.w) k f ps sp) (hr : Room k X.A) (tk : Takes X W) (ha : PA X (e :: es) t)
    (hst : starEach (e :: es) X.env = (false, eval e X.env) :: starEach es X.env := by rfl) (hpl : (backTo pos (starEach es X.env)).any (·.1) = false := by rfl)
    (ht : eval (.Call (.Attribute o m apos) (e :: es) [] pos) X.env = (do
      let ov ← eval o X.env
      standAt apos.atName
      let (f, first) ← holding [ov] (getMethod ov m pl)
      callWith pos f first (backTo pos (starEach (e :: es) X.env)) (backToKw pos (keywordEach [] X.env))) := by rfl) :
    PE X (.Call (.Attribute o m apos) (e :: es) [] pos) (tMethW C m sp W ta t) := by
  refine ⟨fun pins s σ H Q I h => ?_⟩
  refine PySem.W.methodCall_KW (pl := pl) (thn (he.run pins s σ H _ I h) fun u s1 ⟨x, H1, I1, rx, ⟨a, dx, fs, ex, ea, l⟩, q⟩ => ?_) ht
  subst ex
  obtain rfl : u = Value.ref a := rx
  refine getmeth_ok I1 ea c hm l ?_
  refine PySem.W.callWith_K (first := [.ref a]) (h₀ := X.base) I.ok.mod.kin hm.kp (thn (ha.run pos pins s1 σ H1 _ I1 q) fun us s2 ⟨vs, H2, I2, r, q2⟩ => ⟨I2.kIn, ?_⟩) hst hpl
  exact call_at (us := .ref a :: us) (vs := .ref a :: vs) hr I2.env0 F (takesAt tk σ) I2 (.cons rfl r) q2
theorem pe_methW0 {ta : TE} {sp : Sp} {pl : Sem Bool} (he : PE X o ta) (c : Cls X.K C) (hm : Meth X.K C m f) (F : FnE X.prog X.w X.K X.mg X.base (L2.CX X.prog X.w) k f ps sp) (hr : Room k X.A) (tk : Takes X W)
    (ht : eval (.Call (.Attribute o m apos) [] [] pos) X.env = (do
      let ov ← eval o X.env
      standAt apos.atName
      let (f, first) ← holding [ov] (getMethod ov m pl)
      callWith pos f first (backTo pos (starEach [] X.env)) (backToKw pos (keywordEach [] X.env))) := by rfl) :
    PE X (.Call (.Attribute o m apos) [] [] pos) (tMethW C m sp W ta tNil) := by
  refine ⟨fun pins s σ H Q I h => ?_⟩
  refine PySem.W.methodCall_KW (pl := pl) (thn (he.run pins s σ H _ I h) fun u s1 ⟨x, H1, I1, rx, ⟨a, dx, fs, ex, ea, l⟩, q⟩ => ?_) ht
  subst ex
  obtain rfl : u = Value.ref a := rx
  refine getmeth_ok I1 ea c hm l ?_
  exact PySem.W.callWith_K0 (first := [.ref a]) I1.kIn hm.kp (call_at (us := [.ref a]) (vs := [.ref a]) hr I1.env0 F (takesAt tk σ) I1 (.cons rfl .nil) q)
theorem v_meth {pl : Sem Bool} (hC : a.cn cn = C) (hmf : m ∉ flds cn) (c : Cls X.K C) (hm : Meth X.K C m f) (F : FnE X.prog X.w X.K X.mg X.base (L2.CX X.prog X.w) k f ps (spM X.K a n ms ev)) (hr : Room k X.A) (tk : Takes X W) (ho : PEV X a W o v) (h : PAV X a W (e :: es) vs)
    (h2 : starEach (e :: es) X.env = (false, eval e X.env) :: starEach es X.env := by rfl) (h3 : (backTo pos (starEach es X.env)).any (·.1) = false := by rfl)
    (h4 : eval (.Call (.Attribute o m apos) (e :: es) [] pos) X.env = (do
      let ov ← eval o X.env
      standAt apos.atName
      let (f, first) ← holding [ov] (getMethod ov m pl)
      callWith pos f first (backTo pos (starEach (e :: es) X.env)) (backToKw pos (keywordEach [] X.env))) := by rfl) :
    PEV X a W (.Call (.Attribute o m apos) (e :: es) [] pos) (eMeth cn n ms ev v vs) := by
  subst hC
  exact up (pe_methW pe0 c hm F hr tk pa0 h2 h3 h4) (snd_meth hmf ho.s h.s)
theorem v_meth0 {pl : Sem Bool} (hC : a.cn cn = C) (hmf : m ∉ flds cn) (c : Cls X.K C) (hm : Meth X.K C m f) (F : FnE X.prog X.w X.K X.mg X.base (L2.CX X.prog X.w) k f ps (spM X.K a n ms ev)) (hr : Room k X.A) (tk : Takes X W) (ho : PEV X a W o v)
    (h4 : eval (.Call (.Attribute o m apos) [] [] pos) X.env = (do
      let ov ← eval o X.env
      standAt apos.atName
      let (f, first) ← holding [ov] (getMethod ov m pl)
      callWith pos f first (backTo pos (starEach [] X.env)) (backToKw pos (keywordEach [] X.env))) := by rfl) :
    PEV X a W (.Call (.Attribute o m apos) [] [] pos) (eMeth cn n ms ev v aNil) := by
  subst hC
  exact up (pe_methW0 pe0 c hm F hr tk h4) (snd_meth hmf ho.s snd_anil)
end
end TV

set_option Elab.async false
set_option linter.all false
set_option maxRecDepth 100000
set_option maxHeartbeats 4000000
/-! The plain side: own objects. -/
namespace TV
open PySem PySem.Spec PyProof.Rows L2 TC
section
variable {E E0 E1 E2 E3 E4 : Sv} {v w u : Vl} {d d1 d2 d3 x y : D} {i j k n : Nat} {vs : List Vl} {ds os : List D} {ms : List Nat} {C : En} {b fr : Bool} {e e1 e2 e3 : Sv → Rs Vl} {es : Sv → Rs (List Vl)} {c c' : Cn} {F : List D → FRs}
theorem z_dnew : eDNew E = .ok (.fr (.dct [] [])) E := rfl
def zMk (c : Cn) (n : Nat) (f : List D → FRs) (r : Rs (List Vl)) : Rs Vl := r.bind fun vs E1 => mkE c n f vs E1
theorem z_make : eMake c n F es E = zMk c n F (es E) := rfl
theorem z_make1 : zMk c n F (.ok vs E) = mkE c n F vs E := rfl
theorem z_makex : zMk c n F (.ex C d E) = .ex C d E := rfl
def zMkV (c : Cn) (n : Nat) (f : List D → FRs) (es : Sv → Rs (List Vl)) (E : Sv) : Option (Option Sl) → Rs Vl
  | some (some (.val .pure (.cls c'))) => if c' = c then (es E).bind fun vs E1 => mkE c n f vs E1 else .er
  | _ => .er
theorem z_mkv : eMakeV c i n F es E = zMkV c n F es E E[i]? := rfl
theorem z_mkv1 : zMkV c n F es E (some (some (.val .pure (.cls c)))) = zMk c n F (es E) := if_pos rfl
/-- what making yields, all arguments plain -/
def zMr (E : Sv) : FRs → Rs Vl
  | .ok .non false [d'] => .ok (.fr d') E
  | .ex e d _ => .ex e d E
  | _ => .er
theorem mkE_dv (hn : ds.length + 1 = n) : (∃ d', F (.obj c [] :: ds) = .ok .non false [d'] ∧ mkE c n F (ds.map Vl.dv) E = .ok (.fr d') E) ∨ (∃ C d os, F (.obj c [] :: ds) = .ex C d os ∧ mkE c n F (ds.map Vl.dv) E = .ex C d E) ∨ True := .inr (.inr trivial)
theorem holdX0 : ∀ (ds : List D) (m : Nat), 0 < m → holdX [0] m (ds.map Vl.dv) = ds.map Vl.dv
  | [], _, _ => rfl
  | d :: ds, m, hm => by
    show (if m ∈ [0] then Vl.dv d else Vl.dv d) :: holdX [0] (m + 1) (ds.map Vl.dv) = _
    rw [holdX0 ds _ (Nat.succ_pos _), ite_self]
    rfl
theorem mutB0 : ∀ (ds : List D) (m : Nat), 0 < m → mutB E [0] m (ds.map Vl.dv) = true
  | [], _, _ => rfl
  | d :: ds, m, hm => by
    show ((!decide (m ∈ [0]) || _) && mutB E [0] (m + 1) (ds.map Vl.dv)) = true
    rw [mutB0 ds _ (Nat.succ_pos _), decide_eq_false (by rw [List.mem_singleton]; omega)]
    rfl
theorem lentK0 : ∀ (ds : List D) (m : Nat), lentK E [0] m (ds.map Vl.dv) = []
  | [], _ => rfl
  | d :: ds, m => lentK0 ds (m + 1)
theorem mk_pre : callX F [0] (.fr (.obj c []) :: ds.map Vl.dv) E = match F (.obj c [] :: ds) with
    | .ok d fr os => .ok (mkV d fr, os) E
    | .ex e d _ => .ex e d E
    | .er => .er := by
  have h2 : holdX [0] 0 (.fr (.obj c []) :: ds.map Vl.dv) = .fr (.obj c []) :: ds.map Vl.dv := by
    show (if 0 ∈ [0] then Vl.fr (.obj c []) else _) :: holdX [0] 1 (ds.map Vl.dv) = _
    rw [if_pos (List.mem_cons_self), holdX0 ds 1 (by decide)]
  have h3 : getAll E (.fr (.obj c []) :: ds.map Vl.dv) = some (.obj c [] :: ds) := by
    rw [z_ga1, getAll_dv]
    rfl
  have h5 : mutB E [0] 0 (.fr (.obj c []) :: ds.map Vl.dv) = true := by
    show ((!decide (0 ∈ [0]) || true) && mutB E [0] 1 (ds.map Vl.dv)) = true
    rw [mutB0 ds 1 (by decide)]
    simp
  have h7 : lentK E [0] 0 (.fr (.obj c []) :: ds.map Vl.dv) = [] := lentK0 ds 1
  have h8 : locs (Vl.fr (.obj c []) :: ds.map Vl.dv) = [] := locs_dv ds
  unfold callX
  rw [h2, h3]
  dsimp only
  rw [h5, h8, if_pos (by simp)]
  cases F (.obj c [] :: ds) with
  | er => rfl
  | ok d fr os =>
    dsimp only
    rw [if_pos (by unfold lendOk; rw [h7])]
    unfold updE
    rw [h8]
  | ex e d os =>
    dsimp only
    rw [if_pos (by unfold lendOk; rw [h7])]
    unfold updE
    rw [h8]
theorem mk_dv (hn : ds.length + 1 = n) : mkE c n F (ds.map Vl.dv) E = zMr E (F (.obj c [] :: ds)) := by
  unfold mkE
  rw [if_pos (by rw [List.length_map]; exact hn), mk_pre]
  cases F (.obj c [] :: ds) with
  | er => rfl
  | ex e d os => rfl
  | ok d fr os => cases fr <;> cases d <;> first | rfl | (cases os with | nil => rfl | cons a r => cases r <;> rfl)
theorem z_mkE1 : mkE c 2 F [.dv d1] E = zMr E (F [.obj c [], d1]) := mk_dv (ds := [d1]) rfl
theorem z_mr1 : zMr E (.ok .non false [d]) = .ok (.fr d) E := rfl
theorem z_mr2 : zMr E (.ex C d os) = .ex C d E := rfl
/-! ### fields, properties, len -/
def zFl (c : Cn) (k : Nat) (r : Rs Vl) : Rs Vl := r.bind fun v E1 => match v.get E1 with
  | some (.obj c' ds) => if c' = c then match ds[k]? with
      | some d => .ok (.dv d) E1
      | none => .er
    else .er
  | _ => .er
def zFl2 (c : Cn) (k : Nat) (E1 : Sv) : Option D → Rs Vl
  | some (.obj c' ds) => if c' = c then match ds[k]? with
      | some d => .ok (.dv d) E1
      | none => .er
    else .er
  | _ => .er
def zFl3 (E1 : Sv) : Option D → Rs Vl
  | some d => .ok (.dv d) E1
  | none => .er
theorem z_fl : eFld c k e E = zFl c k (e E) := rfl
theorem z_fl1 : zFl c k (.ok v E) = zFl2 c k E (v.get E) := rfl
theorem z_fl2 : zFl2 c k E (some (.obj c ds)) = zFl3 E ds[k]? := by
  show (if c = c then _ else _) = _
  rw [if_pos rfl]
  cases ds[k]? <;> rfl
theorem z_fl3 : zFl3 E (some d) = .ok (.dv d) E := rfl
def zSf (j : Nat) (c : Cn) (k : Nat) (r : Rs Vl) : SRs := r.bindS fun v E1 => match E1.frz v with
  | some (d, E2) => match ownD E2 j with
    | some (kd, .obj c' ds) => if c' = c then match putK ds k d with
        | some ds' => .nx (E2.set j (some (.val kd (.obj c ds'))))
        | none => .er
      else .er
    | _ => .er
  | none => .er
def zSf2 (j : Nat) (c : Cn) (k : Nat) : Option (D × Sv) → SRs
  | some (d, E2) => match ownD E2 j with
    | some (kd, .obj c' ds) => if c' = c then match putK ds k d with
        | some ds' => .nx (E2.set j (some (.val kd (.obj c ds'))))
        | none => .er
      else .er
    | _ => .er
  | none => .er
def zSf3 (j : Nat) (c : Cn) (k : Nat) (d : D) (E2 : Sv) : Option (Kd × D) → SRs
    | some (kd, .obj c' ds) => if c' = c then match putK ds k d with
        | some ds' => .nx (E2.set j (some (.val kd (.obj c ds'))))
        | none => .er
      else .er
    | _ => .er
def zSf4 (j : Nat) (c : Cn) (kd : Kd) (E2 : Sv) : Option (List D) → SRs
        | some ds' => .nx (E2.set j (some (.val kd (.obj c ds'))))
        | none => .er
variable {kd : Kd}
theorem z_sf : sSetFld j c k e E = zSf j c k (e E) := rfl
theorem z_sf1 : zSf j c k (.ok v E) = zSf2 j c k (E.frz v) := rfl
theorem z_sfx : zSf j c k (.ex C d E) = .ex C d E := rfl
theorem z_sf2 : zSf2 j c k (some (d, E)) = zSf3 j c k d E (ownD E j) := rfl
theorem z_sf3 : zSf3 j c k d E (some (kd, .obj c ds)) = zSf4 j c kd E (putK ds k d) := by
  show (if c = c then _ else _) = _
  rw [if_pos rfl]
  cases putK ds k d <;> rfl
theorem z_sf4 : zSf4 j c kd E (some ds) = .nx (E.set j (some (.val kd (.obj c ds)))) := rfl
theorem z_pk : putK [] 0 d = some [d] := rfl
/-! ### calls of def, plain or new arguments -/
theorem callE_hold : callE n [] F vs E = callE n [] F (vs.map Vl.hold) E := by
  have h : ∀ (vs : List Vl) (m : Nat), holdX [] m (vs.map Vl.hold) = holdX [] m vs := fun vs => by
    induction vs with
    | nil => intro m; rfl
    | cons v vs ih =>
      intro m
      show (if m ∈ [] then v.hold else v.hold.hold) :: holdX [] (m + 1) (vs.map Vl.hold) = (if m ∈ [] then v else v.hold) :: holdX [] (m + 1) vs
      rw [ih, if_neg List.not_mem_nil, if_neg List.not_mem_nil]
      cases v <;> rfl
  unfold callE callX
  rw [h, List.length_map]
theorem z_call1f {a0 : D} : callE 1 [] F [.fr a0] E = zCl E (F [a0]) := callE_hold.trans (callE_dv (ds := [a0]) rfl)
theorem z_call2vf {a0 a1 : D} : callE 2 [] F [.dv a0, .fr a1] E = zCl E (F [a0, a1]) := callE_hold.trans (callE_dv (ds := [a0, a1]) rfl)
theorem z_call2fv {a0 a1 : D} : callE 2 [] F [.fr a0, .dv a1] E = zCl E (F [a0, a1]) := callE_hold.trans (callE_dv (ds := [a0, a1]) rfl)
theorem z_call2ff {a0 a1 : D} : callE 2 [] F [.fr a0, .fr a1] E = zCl E (F [a0, a1]) := callE_hold.trans (callE_dv (ds := [a0, a1]) rfl)
theorem z_call3vvf {a0 a1 a2 : D} : callE 3 [] F [.dv a0, .dv a1, .fr a2] E = zCl E (F [a0, a1, a2]) := callE_hold.trans (callE_dv (ds := [a0, a1, a2]) rfl)
theorem z_call3vfv {a0 a1 a2 : D} : callE 3 [] F [.dv a0, .fr a1, .dv a2] E = zCl E (F [a0, a1, a2]) := callE_hold.trans (callE_dv (ds := [a0, a1, a2]) rfl)
theorem z_call3vff {a0 a1 a2 : D} : callE 3 [] F [.dv a0, .fr a1, .fr a2] E = zCl E (F [a0, a1, a2]) := callE_hold.trans (callE_dv (ds := [a0, a1, a2]) rfl)
theorem z_call3fvv {a0 a1 a2 : D} : callE 3 [] F [.fr a0, .dv a1, .dv a2] E = zCl E (F [a0, a1, a2]) := callE_hold.trans (callE_dv (ds := [a0, a1, a2]) rfl)
theorem z_call3fvf {a0 a1 a2 : D} : callE 3 [] F [.fr a0, .dv a1, .fr a2] E = zCl E (F [a0, a1, a2]) := callE_hold.trans (callE_dv (ds := [a0, a1, a2]) rfl)
theorem z_call3ffv {a0 a1 a2 : D} : callE 3 [] F [.fr a0, .fr a1, .dv a2] E = zCl E (F [a0, a1, a2]) := callE_hold.trans (callE_dv (ds := [a0, a1, a2]) rfl)
theorem z_call3fff {a0 a1 a2 : D} : callE 3 [] F [.fr a0, .fr a1, .fr a2] E = zCl E (F [a0, a1, a2]) := callE_hold.trans (callE_dv (ds := [a0, a1, a2]) rfl)
theorem z_call4vvvf {a0 a1 a2 a3 : D} : callE 4 [] F [.dv a0, .dv a1, .dv a2, .fr a3] E = zCl E (F [a0, a1, a2, a3]) := callE_hold.trans (callE_dv (ds := [a0, a1, a2, a3]) rfl)
theorem z_call4vvfv {a0 a1 a2 a3 : D} : callE 4 [] F [.dv a0, .dv a1, .fr a2, .dv a3] E = zCl E (F [a0, a1, a2, a3]) := callE_hold.trans (callE_dv (ds := [a0, a1, a2, a3]) rfl)
theorem z_call4vvff {a0 a1 a2 a3 : D} : callE 4 [] F [.dv a0, .dv a1, .fr a2, .fr a3] E = zCl E (F [a0, a1, a2, a3]) := callE_hold.trans (callE_dv (ds := [a0, a1, a2, a3]) rfl)
theorem z_call4vfvv {a0 a1 a2 a3 : D} : callE 4 [] F [.dv a0, .fr a1, .dv a2, .dv a3] E = zCl E (F [a0, a1, a2, a3]) := callE_hold.trans (callE_dv (ds := [a0, a1, a2, a3]) rfl)
theorem z_call4vfvf {a0 a1 a2 a3 : D} : callE 4 [] F [.dv a0, .fr a1, .dv a2, .fr a3] E = zCl E (F [a0, a1, a2, a3]) := callE_hold.trans (callE_dv (ds := [a0, a1, a2, a3]) rfl)
theorem z_call4vffv {a0 a1 a2 a3 : D} : callE 4 [] F [.dv a0, .fr a1, .fr a2, .dv a3] E = zCl E (F [a0, a1, a2, a3]) := callE_hold.trans (callE_dv (ds := [a0, a1, a2, a3]) rfl)
theorem z_call4vfff {a0 a1 a2 a3 : D} : callE 4 [] F [.dv a0, .fr a1, .fr a2, .fr a3] E = zCl E (F [a0, a1, a2, a3]) := callE_hold.trans (callE_dv (ds := [a0, a1, a2, a3]) rfl)
theorem z_call4fvvv {a0 a1 a2 a3 : D} : callE 4 [] F [.fr a0, .dv a1, .dv a2, .dv a3] E = zCl E (F [a0, a1, a2, a3]) := callE_hold.trans (callE_dv (ds := [a0, a1, a2, a3]) rfl)
theorem z_call4fvvf {a0 a1 a2 a3 : D} : callE 4 [] F [.fr a0, .dv a1, .dv a2, .fr a3] E = zCl E (F [a0, a1, a2, a3]) := callE_hold.trans (callE_dv (ds := [a0, a1, a2, a3]) rfl)
theorem z_call4fvfv {a0 a1 a2 a3 : D} : callE 4 [] F [.fr a0, .dv a1, .fr a2, .dv a3] E = zCl E (F [a0, a1, a2, a3]) := callE_hold.trans (callE_dv (ds := [a0, a1, a2, a3]) rfl)
theorem z_call4fvff {a0 a1 a2 a3 : D} : callE 4 [] F [.fr a0, .dv a1, .fr a2, .fr a3] E = zCl E (F [a0, a1, a2, a3]) := callE_hold.trans (callE_dv (ds := [a0, a1, a2, a3]) rfl)
theorem z_call4ffvv {a0 a1 a2 a3 : D} : callE 4 [] F [.fr a0, .fr a1, .dv a2, .dv a3] E = zCl E (F [a0, a1, a2, a3]) := callE_hold.trans (callE_dv (ds := [a0, a1, a2, a3]) rfl)
theorem z_call4ffvf {a0 a1 a2 a3 : D} : callE 4 [] F [.fr a0, .fr a1, .dv a2, .fr a3] E = zCl E (F [a0, a1, a2, a3]) := callE_hold.trans (callE_dv (ds := [a0, a1, a2, a3]) rfl)
theorem z_call4fffv {a0 a1 a2 a3 : D} : callE 4 [] F [.fr a0, .fr a1, .fr a2, .dv a3] E = zCl E (F [a0, a1, a2, a3]) := callE_hold.trans (callE_dv (ds := [a0, a1, a2, a3]) rfl)
theorem z_call4ffff {a0 a1 a2 a3 : D} : callE 4 [] F [.fr a0, .fr a1, .fr a2, .fr a3] E = zCl E (F [a0, a1, a2, a3]) := callE_hold.trans (callE_dv (ds := [a0, a1, a2, a3]) rfl)
/-! ### no error passes -/
def zNx (r : Rs Vl) : Rs Vl := r.nx
theorem z_nxo : Rs.nx (.ok v E) = .ok v E := rfl
def zEcN (n : Nat) (ms : List Nat) (f : List D → FRs) (r : Rs (List Vl)) : Rs Vl := r.bind fun vs E1 => (callE n ms f vs E1).nx
theorem z_ecn : eCallN n ms F es E = zEcN n ms F (es E) := rfl
theorem z_ecn1 : zEcN n ms F (.ok vs E) = (callE n ms F vs E).nx := rfl
theorem z_sm : eSM n ms F es E = zEcN n ms F (es E) := rfl
def zCm (c : Cn) (n : Nat) (f : List D → FRs) (r : Rs (List Vl)) : Rs Vl := r.bind fun vs E1 => callE n [] f (.dv (.cls c) :: vs) E1
theorem z_cm : eCM c n F es E = zCm c n F (es E) := rfl
theorem z_cm1 : zCm c n F (.ok vs E) = callE n [] F (.dv (.cls c) :: vs) E := rfl
/-! ### own objects asked -/
def zPp (c : Cn) (f : List D → FRs) (r : Rs Vl) : Rs Vl := r.bind fun v E1 => if isObj c (v.get E1) = true then (callE 1 [] f [v] E1).nx else .er
theorem z_pp : eProp c F e E = zPp c F (e E) := rfl
theorem z_pp1 : zPp c F (.ok v E) = if isObj c (v.get E) = true then (callE 1 [] F [v] E).nx else .er := rfl
theorem z_io : isObj c (some (.obj c ds)) = true := decide_eq_true rfl
def zLo2 (c : Cn) (f : List D → FRs) (r : Rs Vl) : Rs Vl := r.bind fun v E1 => if isObj c (v.get E1) = true then ((callE 1 [] f [v] E1).nx).bind fun w E2 => match w with
    | .dv (.int i) => if 0 ≤ i ∧ i < 2 ^ 62 then .ok (.dv (.int i)) E2 else .er
    | _ => .er
  else .er
def zLo3 (r : Rs Vl) : Rs Vl := r.bind fun w E2 => match w with
    | .dv (.int i) => if 0 ≤ i ∧ i < 2 ^ 62 then .ok (.dv (.int i)) E2 else .er
    | _ => .er
theorem z_lo : eLenO c F e E = zLo2 c F (e E) := rfl
theorem z_lo1 : zLo2 c F (.ok v E) = if isObj c (v.get E) = true then zLo3 ((callE 1 [] F [v] E).nx) else .er := rfl
theorem z_lo2 {z : Int} : zLo3 (.ok (.dv (.int z)) E) = if 0 ≤ z ∧ z < 2 ^ 62 then .ok (.dv (.int z)) E else .er := rfl
def zO1 (c : Cn) (f : List D → FRs) (r : Rs Vl) : Rs Vl := r.bind fun v E1 => if isObj c (v.get E1) = true then callE 1 [] f [v] E1 else .er
theorem z_o1 : eOwn1 c F e E = zO1 c F (e E) := rfl
theorem z_o11 : zO1 c F (.ok v E) = if isObj c (v.get E) = true then callE 1 [] F [v] E else .er := rfl
variable {T : Option D → Bool} {R : Vl → Option Vl} {rr : Vl → Vl → Sv → Rs Vl}
def zO2 (c : Cn) (T : Option D → Bool) (R : Vl → Option Vl) (r : Vl → Vl → Sv → Rs Vl) (eb : Sv → Rs Vl) (ra : Rs Vl) : Rs Vl := ra.bind fun v E1 => (eb E1).bind fun w E2 => if isObj c (v.get E2) = true ∧ T (w.get E2) = true then (r v w E2).bind fun z E3 => match R z with
    | some z' => .ok z' E3
    | none => .er
  else .er
def zO3 (c : Cn) (T : Option D → Bool) (R : Vl → Option Vl) (r : Vl → Vl → Sv → Rs Vl) (v : Vl) (rb : Rs Vl) : Rs Vl := rb.bind fun w E2 => if isObj c (v.get E2) = true ∧ T (w.get E2) = true then (r v w E2).bind fun z E3 => match R z with
    | some z' => .ok z' E3
    | none => .er
  else .er
def zO4 (R : Vl → Option Vl) (r : Rs Vl) : Rs Vl := r.bind fun z E3 => match R z with
    | some z' => .ok z' E3
    | none => .er
def zO5 (E3 : Sv) : Option Vl → Rs Vl
    | some z' => .ok z' E3
    | none => .er
theorem z_o2 : eOwn2 c T R rr e1 e2 E = zO2 c T R rr e2 (e1 E) := rfl
theorem z_o21 : zO2 c T R rr e2 (.ok v E) = zO3 c T R rr v (e2 E) := rfl
theorem z_o22 : zO3 c T R rr v (.ok w E) = if isObj c (v.get E) = true ∧ T (w.get E) = true then zO4 R (rr v w E) else .er := rfl
theorem z_o23 : zO4 R (.ok v E) = zO5 E (R v) := rfl
theorem z_o2x : zO4 R (.ex C d E) = .ex C d E := rfl
theorem z_o24 : zO5 E (some v) = .ok v E := rfl
theorem z_any : anyD (some d) = true := rfl
theorem z_ask : ask2 F v w E = callE 2 [] F [v, w] E := rfl
theorem z_askN : ask2N F v w E = (callE 2 [] F [v, w] E).nx := rfl
theorem z_isfr : isFr (.fr (.obj c ds)) = some (.fr (.obj c ds)) := rfl
theorem z_isbl : isBlV (.dv (.bl b)) = some (.dv (.bl b)) := rfl
theorem z_notbl : notBlV (.dv (.bl b)) = some (.dv (.bl (!b))) := rfl
theorem z_eqT : eqT c (some (.obj c ds)) = true := by
  show (D.isO c (.obj c ds)).isSome = true
  show (if c = c then some true else none).isSome = true
  rw [if_pos rfl]
  rfl
def zMh (c : Cn) (n : Nat) (ms : List Nat) (f : List D → FRs) (es : Sv → Rs (List Vl)) (r : Rs Vl) : Rs Vl := r.bind fun v E1 => if isObj c (v.get E1) = true then (es E1).bind fun vs E2 => callE n ms f (v :: vs) E2 else .er
def zMh2 (n : Nat) (ms : List Nat) (f : List D → FRs) (v : Vl) (r : Rs (List Vl)) : Rs Vl := r.bind fun vs E2 => callE n ms f (v :: vs) E2
theorem z_mh : eMeth c n ms F e es E = zMh c n ms F es (e E) := rfl
theorem z_mh1 : zMh c n ms F es (.ok v E) = if isObj c (v.get E) = true then zMh2 n ms F v (es E) else .er := rfl
theorem z_mh2 : zMh2 n ms F v (.ok vs E) = callE n ms F (v :: vs) E := rfl
theorem z_it1 : itD (.lst ds) = some ds := rfl
theorem z_it2 : itD (.tup ds) = some ds := rfl
theorem z_it3 {ns : List Int} : itD (.scr ns) = some (ns.map D.int) := rfl
/-! ### methods that only read -/
variable {fm : D → List D → Option (D × Bool)} {Td : D → Bool}
def zMA (f : D → List D → Option (D × Bool)) (T : D → Bool) (es : Sv → Rs (List Vl)) (r : Rs Vl) : Rs Vl := r.bind fun v E1 => match v.hold.get E1 with
  | some d0 => if T d0 = true then (es E1).bind fun vs E2 => match v.hold.get E2, getAll E2 vs with
      | some d, some ds => ofRes (f d ds) E2
      | _, _ => .er
    else .er
  | none => .er
def zMD (f : D → List D → Option (D × Bool)) (v : Vl) (r : Rs (List Vl)) : Rs Vl := r.bind fun vs E2 => match v.hold.get E2, getAll E2 vs with
      | some d, some ds => ofRes (f d ds) E2
      | _, _ => .er
def zMB (f : D → List D → Option (D × Bool)) (T : D → Bool) (es : Sv → Rs (List Vl)) (v : Vl) (E1 : Sv) : Option D → Rs Vl
  | some d0 => if T d0 = true then zMD f v (es E1) else .er
  | none => .er
def zMF (f : D → List D → Option (D × Bool)) (E2 : Sv) : Option D → Option (List D) → Rs Vl
      | some d, some ds => ofRes (f d ds) E2
      | _, _ => .er
theorem z_ma : eMr fm Td e es E = zMA fm Td es (e E) := rfl
theorem z_mb : zMA fm Td es (.ok v E) = zMB fm Td es v E (v.hold.get E) := rfl
theorem z_mc : zMB fm Td es v E (some d) = if Td d = true then zMD fm v (es E) else .er := rfl
theorem z_md : zMD fm v (.ok vs E) = zMF fm E (v.hold.get E) (getAll E vs) := rfl
theorem z_mf : zMF fm E (some d) (some ds) = ofRes (fm d ds) E := rfl
/-! ### try -/
variable {hs : List Hnd} {c1 : En} {hd : D → Sv → SRs}
theorem z_rh0 : runH C d E [] = .ex C d E := rfl
theorem z_rh1 : runH C d E (⟨c1, some i, hd⟩ :: hs) = if C = c1 then (if noExn E = true then endH (some i) (hd d (E.set i (some (.exn C d)))) else .er) else runH C d E hs := rfl
theorem z_rh2 : runH C d E (⟨c1, none, hd⟩ :: hs) = if C = c1 then (if noExn E = true then endH none (hd d E) else .er) else runH C d E hs := rfl
theorem z_ne0 : noExn [] = true := rfl
theorem z_ne1 : noExn (none :: E) = noExn E := rfl
theorem z_ne2 : noExn (some (.val kd d) :: E) = noExn E := rfl
theorem z_ne3 : noExn (some (.exn C d) :: E) = false := rfl
variable {io : Option Nat}
theorem z_eh1 : endH io (.nx E) = if onlyAt io E = true then .nx (setN E io) else .er := rfl
theorem z_eh2 : endH io (.rt (.dv d) E) = if onlyAt io E = true then .rt (.dv d) (setN E io) else .er := rfl
theorem z_eh3 : endH io (.rt (.fr d) E) = if onlyAt io E = true then .rt (.fr d) (setN E io) else .er := rfl
theorem z_eh4 : endH io (.ct E) = if onlyAt io E = true then .ct (setN E io) else .er := rfl
theorem z_oa5 : onlyAt (some i) E = noExn (E.set i none) := rfl
theorem z_oa6 : onlyAt none E = noExn E := rfl
theorem z_sn1 : setN E (some i) = E.set i none := rfl
theorem z_sn2 : setN E none = E := rfl
def zIx : Option (Option Sl) → Bool
  | some (some (.exn _ _)) => true
  | _ => false
theorem z_ix : isExn E i = zIx E[i]? := rfl
theorem z_ix1 : zIx (some (some (.exn C d))) = true := rfl
theorem z_xf : eXf d i E = if isExn E i = true then .ok (.dv d) E else .er := rfl
theorem z_xd : eIsD b i E = if isExn E i = true then .ok (.dv (.bl b)) E else .er := rfl
end
end TV

set_option Elab.async false
set_option linter.all false
set_option maxRecDepth 100000
/-! The plain side: all steps in one. -/
namespace TV
open PySem PySem.Spec PyProof.Rows L2 TC
theorem z_f1 {f : D → Option (D × Bool)} {d : D} : f1 f [d] = f d := rfl
theorem z_f2 {f : D → D → Option (D × Bool)} {d e : D} : f2 f [d, e] = f d e := rfl
theorem z_isl {ds : List D} : isLst (.lst ds) = true := rfl
theorem z_isl2 {k ds : List D} : isDct (.dct k ds) = true := rfl
def zRA (c : Bool) (f : Sv → Rs Vl) (r : Rs Vl) : Rs Vl := r.bind fun v E1 => (f E1).bind fun w E2 => match v, w with
  | .dv (.int i), .dv (.int j) => eRg c i j E2
  | _, _ => .er
def zRB (c : Bool) (i : Int) (r : Rs Vl) : Rs Vl := r.bind fun w E2 => match w with
  | .dv (.int j) => eRg c i j E2
  | _ => .er
theorem z_ra {c : Bool} {e f : Sv → Rs Vl} {E : Sv} : eRg2 c e f E = zRA c f (e E) := rfl
theorem z_rb {c : Bool} {f : Sv → Rs Vl} {E : Sv} {i : Int} : zRA c f (.ok (.dv (.int i)) E) = zRB c i (f E) := by
  show ((f E).bind _) = ((f E).bind _)
  cases f E with
  | er => rfl
  | ex c d E => rfl
  | ok v E => cases v with
    | dv d => cases d <;> rfl
    | _ => rfl
theorem z_rc {c : Bool} {E : Sv} {i j : Int} : zRB c i (.ok (.dv (.int j)) E) = eRg c i j E := rfl
theorem z_mkE1f {c : Cn} {F : List D → FRs} {d : D} {E : Sv} : mkE c 2 F [.fr d] E = zMr E (F [.obj c [], d]) := (show mkE c 2 F [.fr d] E = mkE c 2 F [.dv d] E from rfl).trans z_mkE1
section
variable {E E0 E1 E2 : Sv} {v w : Vl} {d x y : D} {i n : Nat} {ms : List Nat} {C : En} {c : Cn} {e1 e2 e3 : Sv → Rs Vl} {es : Sv → Rs (List Vl)} {c1 c2 : Sv → Rs Bool} {F : List D → FRs} {T : Option D → Bool} {R : Vl → Option Vl} {rr : Vl → Vl → Sv → Rs Vl} {k : Nat} {s t : Sv → SRs} {f g : D → D → Option (D × Bool)} {gt : D → Sv → Option Sv} {is : List Nat}
theorem z_o1x : zO1 c F (.ex C d E) = .ex C d E := rfl
theorem z_o2ax : zO2 c T R rr e2 (.ex C d E) = .ex C d E := rfl
theorem z_o2bx : zO3 c T R rr v (.ex C d E) = .ex C d E := rfl
theorem z_ppx : zPp c F (.ex C d E) = .ex C d E := rfl
theorem z_lox : zLo2 c F (.ex C d E) = .ex C d E := rfl
theorem z_flx : zFl c k (.ex C d E) = .ex C d E := rfl
theorem z_mhx : zMh c n ms F es (.ex C d E) = .ex C d E := rfl
theorem z_mh2x : zMh2 n ms F v (.ex C d E) = .ex C d E := rfl
theorem z_cmx : zCm c n F (.ex C d E) = .ex C d E := rfl
theorem z_ecnx : zEcN n ms F (.ex C d E) = .ex C d E := rfl
theorem z_eifx : zIfE e1 e2 (.ex C d E) = .ex C d E := rfl
theorem z_anex : zAnE e2 (.ex C d E) = .ex C d E := rfl
theorem z_orex : zOrE e2 (.ex C d E) = .ex C d E := rfl
theorem z_ntex : zNtE (.ex C d E) = .ex C d E := rfl
theorem z_ntx : zNt (.ex C d E) = .ex C d E := rfl
theorem z_anx : zAn c2 (.ex C d E) = .ex C d E := rfl
theorem z_orx : zOr c2 (.ex C d E) = .ex C d E := rfl
theorem z_iax : zIa (.ex C d E) = .ex C d E := rfl
theorem z_iex : zIe (.ex C d E) = .ex C d E := rfl
theorem z_frx : zFr gt s (.ex C d E) = .ex C d E := rfl
theorem z_prx : zPr is (.ex C d E) = .ex C d E := rfl
theorem z_atx : zAt gt (.ex C d E) = .ex C d E := rfl
theorem z_rsx {C2 : En} : zRs C (.ex C2 d E) = .ex C2 d E := rfl
theorem z_as1x : zAs1 es (.ex C d E) = .ex C d E := rfl
end
def zz := (And.intro (And.intro (And.intro (And.intro (And.intro (And.intro (And.intro (And.intro (And.intro @z_var @z_var1) (And.intro @z_var2 (And.intro @z_var3 @z_c))) (And.intro (And.intro @z_g1 (And.intro @z_g2 @z_g3)) (And.intro @z_sl (And.intro @z_h1 @z_h2)))) (And.intro (And.intro (And.intro @z_h3 (And.intro @z_mk1 @z_mk2)) (And.intro @z_of1 (And.intro @z_of2 @z_op))) (And.intro (And.intro @z_op1 (And.intro @z_op1x @z_op2)) (And.intro @z_op2x (And.intro @z_opr @z_un))))) (And.intro (And.intro (And.intro (And.intro @z_un1 (And.intro @z_un1x @z_un2)) (And.intro @z_an (And.intro @z_ac @z_ac1))) (And.intro (And.intro @z_ac1x (And.intro @z_ac2 @z_ac2x)) (And.intro @z_as (And.intro @z_as1 @z_as2)))) (And.intro (And.intro (And.intro @z_as2t (And.intro @z_as3 @z_cb)) (And.intro @z_cb1 (And.intro @z_cb1x @z_cb2))) (And.intro (And.intro @z_ga0 (And.intro @z_ga1 @z_ga2)) (And.intro @z_tb (And.intro @z_tb1 @z_tb1x)))))) (And.intro (And.intro (And.intro (And.intro (And.intro @z_nt @z_nt1) (And.intro @z_and (And.intro @z_and1 @z_and2))) (And.intro (And.intro @z_or (And.intro @z_or1 @z_or2)) (And.intro @z_eand (And.intro @z_eand1 @z_eand2)))) (And.intro (And.intro (And.intro @z_eor (And.intro @z_eor1 @z_eor2)) (And.intro @z_ent (And.intro @z_ent1 @z_eif))) (And.intro (And.intro @z_eif1 (And.intro @z_eif2 @z_tup)) (And.intro @z_lst (And.intro @z_tl1 @z_tl1x))))) (And.intro (And.intro (And.intro (And.intro @z_tl2 (And.intro @z_tl3 @z_fz1)) (And.intro @z_fz2 (And.intro @z_fz3 @z_fz4))) (And.intro (And.intro @z_fz5 (And.intro @z_fs0 @z_fs1)) (And.intro @z_fs2 (And.intro @z_fs3 @z_sq)))) (And.intro (And.intro (And.intro @z_sq1 (And.intro @z_sq2 @z_sq3)) (And.intro @z_sq4 (And.intro @z_sq5 @z_nx))) (And.intro (And.intro @z_bk (And.intro @z_ct @z_rn)) (And.intro @z_dr (And.intro @z_dr1 @z_dr1x))))))) (And.intro (And.intro (And.intro (And.intro (And.intro (And.intro @z_rt @z_rt1) (And.intro @z_rt1x (And.intro @z_if @z_if1))) (And.intro (And.intro @z_if2 (And.intro @z_ifx @z_ag)) (And.intro @z_ag1 (And.intro @z_ag1x @z_ag2)))) (And.intro (And.intro (And.intro @z_pt1 (And.intro @z_pt2 @z_pt3)) (And.intro @z_pt4 (And.intro @z_for @z_for1))) (And.intro (And.intro @z_rs (And.intro @z_rs1 @z_rs2)) (And.intro @z_st (And.intro @z_st1 @z_st2))))) (And.intro (And.intro (And.intro (And.intro @z_st3 (And.intro @z_st4 @z_st5)) (And.intro @z_st6 (And.intro @z_st7 @z_ow))) (And.intro (And.intro @z_ow1 (And.intro @z_ow2 @z_mt)) (And.intro @z_mt1 (And.intro @z_mt2 @z_mt3)))) (And.intro (And.intro (And.intro @z_mt4 (And.intro @z_mt5 @z_on)) (And.intro @z_os (And.intro @z_os1 @z_sc))) (And.intro (And.intro @z_sc1 (And.intro @z_sc2 @z_sc3)) (And.intro @z_sc4 (And.intro @z_ia @z_ia1)))))) (And.intro (And.intro (And.intro (And.intro (And.intro @z_ia2 (And.intro @z_ia3 @z_r1)) (And.intro @z_r11 (And.intro @z_r2 @z_r21))) (And.intro (And.intro @z_ie (And.intro @z_ie1 @z_ie2)) (And.intro @z_ie3 (And.intro @z_run @z_end1)))) (And.intro (And.intro (And.intro @z_end2 (And.intro @z_end3 @z_end4)) (And.intro @z_end5 (And.intro @z_end6 @z_end7))) (And.intro (And.intro @z_end8 (And.intro @z_end9 @z_go0)) (And.intro @z_go1 (And.intro @z_go2 @z_s0))))) (And.intro (And.intro (And.intro (And.intro @z_s1 (And.intro @z_ec @z_ec1)) (And.intro @z_ecx (And.intro @z_call0 @z_call1))) (And.intro (And.intro @z_call2 (And.intro @z_call3 @z_call4)) (And.intro @z_cl1 (And.intro @z_cl2 @z_lp0)))) (And.intro (And.intro (And.intro @z_lp1 (And.intro @z_lp2 @z_lp3)) (And.intro @z_lp4 (And.intro @z_gt1 @z_lc))) (And.intro (And.intro @z_lc1 (And.intro @z_lc2 @z_wi0)) (And.intro @z_wi1 (And.intro @z_re0 @z_re1)))))))) (And.intro (And.intro (And.intro (And.intro (And.intro (And.intro (And.intro @z_no0 @z_no1) (And.intro @z_oa (And.intro @z_oa1 @z_oa2))) (And.intro (And.intro @z_oa3 (And.intro @z_oa4 @z_yes)) (And.intro @z_ch (And.intro @z_ch1 @z_ch2)))) (And.intro (And.intro (And.intro @z_ch3 (And.intro @z_ch4 @z_ch5)) (And.intro @z_au (And.intro @z_au1 @z_au2))) (And.intro (And.intro @z_au3 (And.intro @z_au4 @z_pr)) (And.intro @z_pr1 (And.intro @z_pr2 @z_ul0))))) (And.intro (And.intro (And.intro (And.intro @z_ul1 (And.intro @z_ul2 @z_ul3)) (And.intro @z_ul4 (And.intro @z_ul5 @z_ul6))) (And.intro (And.intro @z_ul7 (And.intro @z_zp0 @z_zp1)) (And.intro @z_pu0 (And.intro @z_pu1 @z_pu2)))) (And.intro (And.intro (And.intro @z_at (And.intro @z_at1 @z_at2)) (And.intro @z_gtt (And.intro @z_gtc @z_gtc1))) (And.intro (And.intro @z_gtn (And.intro @z_ty @z_ty1)) (And.intro @z_ty2 (And.intro @z_ty3 @z_r3)))))) (And.intro (And.intro (And.intro (And.intro (And.intro @z_r31 @z_lim0) (And.intro @z_lim1 (And.intro @z_lim2 @z_lim3))) (And.intro (And.intro @z_lim4 (And.intro @z_lim5 @z_lim6)) (And.intro @z_lim7 (And.intro @z_lim8 @z_lim9)))) (And.intro (And.intro (And.intro @z_lim10 (And.intro @z_lim11 @z_lim12)) (And.intro @z_lim13 (And.intro @z_lim14 @z_lim15))) (And.intro (And.intro @z_lim16 (And.intro @z_lim17 @z_lim18)) (And.intro @z_lim19 (And.intro @z_lim20 @z_lim21))))) (And.intro (And.intro (And.intro (And.intro @z_lim22 (And.intro @z_lim23 @z_lim24)) (And.intro @z_lim25 (And.intro @z_lim26 @z_lim27))) (And.intro (And.intro @z_lim28 (And.intro @z_lim29 @z_lim30)) (And.intro @z_lim31 (And.intro @z_lim32 @z_fi)))) (And.intro (And.intro (And.intro @z_dnew (And.intro @z_make @z_make1)) (And.intro @z_makex (And.intro @z_mkv @z_mkv1))) (And.intro (And.intro @z_mkE1 (And.intro @z_mr1 @z_mr2)) (And.intro @z_fl (And.intro @z_fl1 @z_fl2))))))) (And.intro (And.intro (And.intro (And.intro (And.intro (And.intro @z_fl3 @z_sf) (And.intro @z_sf1 (And.intro @z_sfx @z_sf2))) (And.intro (And.intro @z_sf3 (And.intro @z_sf4 @z_pk)) (And.intro @z_call1f (And.intro @z_call2vf @z_call2fv)))) (And.intro (And.intro (And.intro @z_call2ff (And.intro @z_call3vvf @z_call3vfv)) (And.intro @z_call3vff (And.intro @z_call3fvv @z_call3fvf))) (And.intro (And.intro @z_call3ffv (And.intro @z_call3fff @z_call4vvvf)) (And.intro @z_call4vvfv (And.intro @z_call4vvff @z_call4vfvv))))) (And.intro (And.intro (And.intro (And.intro @z_call4vfvf (And.intro @z_call4vffv @z_call4vfff)) (And.intro @z_call4fvvv (And.intro @z_call4fvvf @z_call4fvfv))) (And.intro (And.intro @z_call4fvff (And.intro @z_call4ffvv @z_call4ffvf)) (And.intro @z_call4fffv (And.intro @z_call4ffff @z_nxo)))) (And.intro (And.intro (And.intro @z_ecn (And.intro @z_ecn1 @z_sm)) (And.intro @z_cm (And.intro @z_cm1 @z_pp))) (And.intro (And.intro @z_pp1 (And.intro @z_io @z_lo)) (And.intro @z_lo1 (And.intro @z_lo2 @z_o1)))))) (And.intro (And.intro (And.intro (And.intro (And.intro @z_o11 (And.intro @z_o2 @z_o21)) (And.intro @z_o22 (And.intro @z_o23 @z_o2x))) (And.intro (And.intro @z_o24 (And.intro @z_any @z_ask)) (And.intro @z_askN (And.intro @z_isfr @z_isbl)))) (And.intro (And.intro (And.intro @z_notbl (And.intro @z_eqT @z_mh)) (And.intro @z_mh1 (And.intro @z_mh2 @z_it1))) (And.intro (And.intro @z_it2 (And.intro @z_it3 @z_ma)) (And.intro @z_mb (And.intro @z_mc @z_md))))) (And.intro (And.intro (And.intro (And.intro @z_mf (And.intro @z_rh0 @z_rh1)) (And.intro @z_rh2 (And.intro @z_ne0 @z_ne1))) (And.intro (And.intro @z_ne2 (And.intro @z_ne3 @z_eh1)) (And.intro @z_eh2 (And.intro @z_eh3 @z_eh4)))) (And.intro (And.intro (And.intro @z_oa5 (And.intro @z_oa6 @z_sn1)) (And.intro @z_sn2 (And.intro @z_ix @z_ix1))) (And.intro (And.intro @z_xf (And.intro @z_xd @z_f1)) (And.intro @z_f2 (And.intro @z_isl (And.intro @z_isl2 (And.intro @z_ra (And.intro @z_rb (And.intro @z_rc @z_mkE1f))))))))))))) (And.intro (And.intro (And.intro (And.intro @z_o1x (And.intro @z_o2ax @z_o2bx)) (And.intro @z_ppx (And.intro @z_lox @z_flx))) (And.intro (And.intro @z_mhx (And.intro @z_mh2x @z_cmx)) (And.intro @z_ecnx (And.intro @z_eifx @z_anex)))) (And.intro (And.intro (And.intro @z_orex (And.intro @z_ntex @z_ntx)) (And.intro @z_anx (And.intro @z_orx @z_iax))) (And.intro (And.intro @z_iex (And.intro @z_frx @z_prx)) (And.intro @z_atx (And.intro @z_rsx @z_as1x))))))
end TV

set_option Elab.async false
set_option linter.all false
set_option maxRecDepth 100000
/-! The plain side: tools for lists of ints, comprehensions, slots. -/
namespace TV
open PySem PySem.Spec PyProof.Rows L2 TC
abbrev LI (ns : List Int) : D := .lst (ns.map D.int)
abbrev TI (ns : List Int) : D := .tup (ns.map D.int)
abbrev pS (d : D) : Option Sl := some (.val .pure d)
abbrev oS (d : D) : Option Sl := some (.val .own d)
section
variable {E E0 E1 : Sv} {d x y : D} {ns ms : List Int} {i j n : Nat} {xs ds : List D} {ws : List Nat} {g : D → Sv → Option Sv} {tt : Sv → Rs Bool} {te : Sv → Rs Vl} {a b : Int}
/-! ### data -/
theorem dat_int {n : Nat} : (D.int a).dat n = true := by cases n <;> rfl
theorem dat_str {n : Nat} {s : Str} : (D.str s).dat n = true := by cases n <;> rfl
theorem dat_bl {n : Nat} {s : Bool} : (D.bl s).dat n = true := by cases n <;> rfl
theorem dat_non {n : Nat} : D.non.dat n = true := by cases n <;> rfl
theorem datL_all {n : Nat} : ∀ {ds : List D}, (∀ d ∈ ds, d.dat n = true) → D.datL ds n = true
  | [], _ => rfl
  | d :: ds, h => by rw [D.datL, h d List.mem_cons_self, datL_all fun z hz => h z (List.mem_cons_of_mem _ hz)]; rfl
theorem datL_ints {n : Nat} : D.datL (ns.map D.int) n = true := datL_all fun d hd => by
  obtain ⟨i, _, rfl⟩ := List.mem_map.mp hd
  exact dat_int
theorem dat_lst {n : Nat} (h : D.datL ds n = true) : (D.lst ds).dat (n + 1) = true := h
theorem dat_tup {n : Nat} (h : D.datL ds n = true) : (D.tup ds).dat (n + 1) = true := h
theorem eqvL_ints : ∀ {ns ms : List Int}, D.eqvL (ns.map D.int) (ms.map D.int) = decide (ns = ms)
  | [], [] => rfl
  | [], m :: ms => by rw [List.map_nil, List.map_cons, decide_eq_false (by simp)]; rfl
  | n :: ns, [] => by rw [List.map_nil, List.map_cons, decide_eq_false (by simp)]; rfl
  | n :: ns, m :: ms => by
    rw [List.map_cons, List.map_cons, D.eqvL, eqvL_ints]
    show (n == m && decide (ns = ms)) = _
    rw [Bool.eq_iff_iff]
    simp
theorem eq_i : fEq (.int a) (.int b) = some (.bl (decide (a = b)), false) := by
  unfold fEq
  rw [dat_int, dat_int]
  rfl
theorem ne_i : fNe (.int a) (.int b) = some (.bl (!decide (a = b)), false) := by
  unfold fNe
  rw [dat_int, dat_int]
  rfl
theorem eq_LI : fEq (LI ns) (LI ms) = some (.bl (decide (ns = ms)), false) := by
  unfold fEq
  rw [dat_lst datL_ints, dat_lst datL_ints]
  show some (D.bl (D.eqvL _ _), false) = _
  rw [eqvL_ints]
theorem ne_LI : fNe (LI ns) (LI ms) = some (.bl (!decide (ns = ms)), false) := by
  unfold fNe
  rw [dat_lst datL_ints, dat_lst datL_ints]
  show some (D.bl (!D.eqvL _ _), false) = _
  rw [eqvL_ints]
theorem eq_TI : fEq (TI ns) (TI ms) = some (.bl (decide (ns = ms)), false) := by
  unfold fEq
  rw [dat_tup datL_ints, dat_tup datL_ints]
  show some (D.bl (D.eqvL _ _), false) = _
  rw [eqvL_ints]
theorem ne_TI : fNe (TI ns) (TI ms) = some (.bl (!decide (ns = ms)), false) := by
  unfold fNe
  rw [dat_tup datL_ints, dat_tup datL_ints]
  show some (D.bl (!D.eqvL _ _), false) = _
  rw [eqvL_ints]
mutual
theorem eqv_self : ∀ (d : D) (n : Nat), d.dat n = true → d.eqv d = true
  | .non, _, _ => rfl
  | .bl b, _, _ => by rw [D.eqv]; simp
  | .int b, _, _ => by rw [D.eqv]; simp
  | .str b, _, _ => by rw [D.eqv]; simp
  | .tup ds, 0, h => nomatch h
  | .lst ds, 0, h => nomatch h
  | .tup ds, n + 1, h => by rw [D.eqv]; exact eqvL_self ds n h
  | .lst ds, n + 1, h => by rw [D.eqv]; exact eqvL_self ds n h
  | .ty _, n, h => by cases n <;> cases h
  | .cls _, n, h => by cases n <;> cases h
  | .scr _, n, h => by cases n <;> cases h
  | .obj _ _, n, h => by cases n <;> cases h
  | .dct _ _, n, h => by cases n <;> cases h
theorem eqvL_self : ∀ (ds : List D) (n : Nat), D.datL ds n = true → D.eqvL ds ds = true
  | [], _, _ => rfl
  | d :: ds, n, h => by
    rw [D.datL, Bool.and_eq_true] at h
    rw [D.eqvL, eqv_self d n h.1, eqvL_self ds n h.2]
    rfl
end
theorem eq_self (h : d.dat 20 = true) : fEq d d = some (.bl true, false) := by
  unfold fEq
  rw [h, eqv_self d 20 h]
  rfl
theorem ne_self (h : d.dat 20 = true) : fNe d d = some (.bl false, false) := by
  unfold fNe
  rw [h, eqv_self d 20 h]
  rfl
/-! ### lists -/
theorem lenL : fLen (.lst ds) = some (.int ds.length, false) := rfl
theorem lenT : fLen (.tup ds) = some (.int ds.length, false) := rfl
theorem lenLI : fLen (LI ns) = some (.int ns.length, false) := by rw [lenL, List.length_map]
theorem lenTI : fLen (TI ns) = some (.int ns.length, false) := by rw [lenT, List.length_map]
theorem ixLI (h0 : 0 ≤ a) (h : a.toNat < ns.length) : fIx (LI ns) (.int a) = some (.int (ns.getD a.toNat 0), false) :=
  ix_l (atI_ints (atI_int h0 (by rw [List.getElem?_eq_getElem h, List.getD_eq_getElem?_getD, List.getElem?_eq_getElem h]; rfl)))
theorem ixTI (h0 : 0 ≤ a) (h : a.toNat < ns.length) : fIx (TI ns) (.int a) = some (.int (ns.getD a.toNat 0), false) :=
  ix_t (atI_ints (atI_int h0 (by rw [List.getElem?_eq_getElem h, List.getD_eq_getElem?_getD, List.getElem?_eq_getElem h]; rfl)))
theorem ixLn {i : Nat} (h : i < ns.length) : fIx (LI ns) (.int i) = some (.int (ns.getD i 0), false) := ixLI (a := (i : Int)) (by omega) (by omega)
theorem ixTn {i : Nat} (h : i < ns.length) : fIx (TI ns) (.int i) = some (.int (ns.getD i 0), false) := ixTI (a := (i : Int)) (by omega) (by omega)
theorem setLI (h0 : 0 ≤ a) (h : a.toNat < ns.length) : fSetL (LI ns) (.int a) (.int b) = some (LI (ns.set a.toNat b)) := by
  show (L2.ixN (ns.map D.int).length a).map (fun j => D.lst ((ns.map D.int).set j (.int b))) = _
  unfold L2.ixN
  rw [if_pos h0, if_pos (by rw [List.length_map]; omega), Option.map_some]
  unfold LI
  rw [List.map_set]
theorem appLI (h : ns.length < LIM) : mAppend (LI ns) [.int a] = some (LI (ns ++ [a]), .non) := by
  rw [app_l (by rw [List.length_map]; exact h)]
  unfold LI
  rw [List.map_append]
  rfl
theorem addLI (h : ns.length + ms.length ≤ LIM) : fAdd (LI ns) (LI ms) = some (LI (ns ++ ms), true) := by
  show (if (ns.map D.int).length + (ms.map D.int).length ≤ LIM then some (D.lst (ns.map D.int ++ ms.map D.int), true) else none) = _
  rw [if_pos (by rw [List.length_map, List.length_map]; exact h)]
  first | unfold LI | unfold TI
  rw [List.map_append]
theorem addTI (h : ns.length + ms.length ≤ LIM) : fAdd (TI ns) (TI ms) = some (TI (ns ++ ms), false) := by
  show (if (ns.map D.int).length + (ms.map D.int).length ≤ LIM then some (D.tup (ns.map D.int ++ ms.map D.int), false) else none) = _
  rw [if_pos (by rw [List.length_map, List.length_map]; exact h)]
  first | unfold LI | unfold TI
  rw [List.map_append]
theorem flatten_rep1 {α : Type} (x : α) : ∀ n : Nat, (List.replicate n [x]).flatten = List.replicate n x
  | 0 => rfl
  | n + 1 => by rw [List.replicate_succ, List.flatten_cons, flatten_rep1 x n]; rfl
theorem repD (h0 : 0 ≤ a) (h : a ≤ 1000000) : fMul (.lst [d]) (.int a) = some (.lst (List.replicate a.toNat d), true) := by
  have hL : LIM = 1000000 := rfl
  show (if [d].length * a.toNat ≤ LIM ∧ -(2 ^ 62) ≤ a ∧ a ≤ 1000000 then some (D.lst (List.replicate a.toNat [d]).flatten, true) else none) = _
  rw [if_pos ⟨by rw [List.length_singleton]; omega, by omega, h⟩, flatten_rep1]
theorem repI (h0 : 0 ≤ a) (h : a ≤ 1000000) : fMul (.lst [.int b]) (.int a) = some (LI (List.replicate a.toNat b), true) := by
  rw [repD h0 h]
  unfold LI
  rw [List.map_replicate]
/-! ### slots -/
theorem map_hold_dv : ∀ ds : List D, (ds.map Vl.dv).map Vl.hold = ds.map Vl.dv
  | [] => rfl
  | d :: ds => by rw [List.map_cons, List.map_cons, map_hold_dv ds]; rfl
theorem frzs_dv : ∀ ds : List D, Sv.frzs E (ds.map Vl.dv) = some (ds, E)
  | [] => rfl
  | d :: ds => by
    show zFs1 (ds.map Vl.dv) (some (d, E)) = _
    show zFs2 d (Sv.frzs E (ds.map Vl.dv)) = _
    rw [frzs_dv ds]
    rfl
theorem frzs_app {vs : List Vl} {es : List D} : ∀ {ds : List D}, Sv.frzs E vs = some (es, E1) → Sv.frzs E (ds.map Vl.dv ++ vs) = some (ds ++ es, E1)
  | [], h => h
  | d :: ds, h => by
    show zFs2 d (Sv.frzs E (ds.map Vl.dv ++ vs)) = _
    rw [frzs_app h]
    rfl
theorem z_mapha {vs : List Vl} : ((ds.map Vl.dv) ++ vs).map Vl.hold = ds.map Vl.dv ++ vs.map Vl.hold := by rw [List.map_append, map_hold_dv]
/-! ### comprehensions -/
theorem lc_idx {h : Nat → D} (hs : ∀ i x, xs[i]? = some x → ∃ E1 v, g x E0 = some E1 ∧ te E1 = .ok v E1 ∧ E1.frz v = some (h i, E1) ∧ wipeE E1 ws = E0) (hl : xs.length ≤ LIM) : lcGo g eYes te ws xs E0 [] = some ((List.range xs.length).map h, E0) := by
  obtain ⟨E', h1, h2⟩ := lc_inv (g := g) (tt := eYes) (te := te) (ws := ws) (xs := xs) (acc := []) (k := 0) (E := E0) (P := fun _ E => E = E0) (h := h) rfl (by
    rintro i x E hx rfl
    obtain ⟨E1, v, h1, h2, h3, h4⟩ := hs i x hx
    exact ⟨E1, E1, E1, E1, v, h1, rfl, h2, by rw [Nat.zero_add]; exact h3, h4⟩) (by simpa using hl)
  subst h2
  rw [h1, List.nil_append]
  simp
theorem lc_map {h : D → D} (hs : ∀ x ∈ xs, ∃ E1 v, g x E0 = some E1 ∧ te E1 = .ok v E1 ∧ E1.frz v = some (h x, E1) ∧ wipeE E1 ws = E0) (hl : xs.length ≤ LIM) : lcGo g eYes te ws xs E0 [] = some (xs.map h, E0) := by
  have := lc_pure (g := g) (tt := eYes) (te := te) (ws := ws) (E0 := E0) (p := fun _ => true) (h := h) (xs := xs) (acc := []) (fun x hx => by
    obtain ⟨E1, v, h1, h2, h3, h4⟩ := hs x hx
    exact ⟨E1, h1, rfl, h4, fun _ => ⟨v, h2, h3⟩⟩) (by simpa using hl)
  rw [this, List.nil_append, List.filter_eq_self.mpr fun _ _ => rfl]
theorem lc_filter {p : D → Bool} {h : D → D} (hs : ∀ x ∈ xs, ∃ E1, g x E0 = some E1 ∧ tt E1 = .ok (p x) E1 ∧ wipeE E1 ws = E0 ∧ (p x = true → ∃ v, te E1 = .ok v E1 ∧ E1.frz v = some (h x, E1))) (hl : xs.length ≤ LIM) : lcGo g tt te ws xs E0 [] = some ((xs.filter p).map h, E0) := by
  have := lc_pure (g := g) (tt := tt) (te := te) (ws := ws) (E0 := E0) (p := p) (h := h) (xs := xs) (acc := []) hs (by simpa using hl)
  rw [this, List.nil_append]
/-- over ints -/
theorem lc_ints {h : Int → D} (hs : ∀ x ∈ ns, ∃ E1 v, g (.int x) E0 = some E1 ∧ te E1 = .ok v E1 ∧ E1.frz v = some (h x, E1) ∧ wipeE E1 ws = E0) (hl : ns.length ≤ LIM) : lcGo g eYes te ws (ns.map D.int) E0 [] = some (ns.map h, E0) := by
  have := lc_map (g := g) (te := te) (ws := ws) (E0 := E0) (xs := ns.map D.int) (h := fun d => match d with | .int i => h i | _ => .non) (fun x hx => by
    obtain ⟨i, hi, rfl⟩ := List.mem_map.mp hx
    exact hs i hi) (by rw [List.length_map]; exact hl)
  rw [this, List.map_map]
  rfl
theorem lc_intsF {p : Int → Bool} {h : Int → D} (hs : ∀ x ∈ ns, ∃ E1, g (.int x) E0 = some E1 ∧ tt E1 = .ok (p x) E1 ∧ wipeE E1 ws = E0 ∧ (p x = true → ∃ v, te E1 = .ok v E1 ∧ E1.frz v = some (h x, E1))) (hl : ns.length ≤ LIM) : lcGo g tt te ws (ns.map D.int) E0 [] = some ((ns.filter p).map h, E0) := by
  have := lc_filter (g := g) (tt := tt) (te := te) (ws := ws) (E0 := E0) (xs := ns.map D.int) (p := fun d => match d with | .int i => p i | _ => false) (h := fun d => match d with | .int i => h i | _ => .non) (fun x hx => by
    obtain ⟨i, hi, rfl⟩ := List.mem_map.mp hx
    exact hs i hi) (by rw [List.length_map]; exact hl)
  rw [this, List.filter_map, List.map_map]
  rfl
/-! ### bools -/
theorem bls_map {α : Type} {p : α → Bool} : ∀ {as : List α}, D.bls (as.map fun z => D.bl (p z)) = some (as.map p)
  | [] => rfl
  | a :: as => by rw [List.map_cons, D.bls, bls_map]; rfl
theorem all_map {α : Type} {p : α → Bool} {as : List α} : fAll (.lst (as.map fun z => D.bl (p z))) = some (.bl (as.all p), false) := by
  show (D.bls _).map _ = _
  rw [bls_map, Option.map_some, List.all_map]
  rfl
theorem any_map {α : Type} {p : α → Bool} {as : List α} : fAny (.lst (as.map fun z => D.bl (p z))) = some (.bl (as.any p), false) := by
  show (D.bls _).map _ = _
  rw [bls_map, Option.map_some, List.any_map]
  rfl
theorem ints_map : ∀ {ns : List Int}, D.ints (ns.map D.int) = some ns
  | [] => rfl
  | a :: as => by rw [List.map_cons, D.ints, ints_map]; rfl
theorem sum_LI : fSum (LI ns) = some (.int ns.sum, false) := by
  show (D.ints _).map _ = _
  rw [ints_map]
  rfl
theorem sorted_LI : fSorted (LI ns) = some (LI (srt ns), true) := by
  show (D.ints _).map _ = _
  rw [ints_map]
  rfl
/-! ### slices -/
theorem cut_to {α : Type} {zs : List α} {k : Nat} (h : k ≤ zs.length) : cutG zs none (some k) = zs.take k := by
  unfold cutG
  rw [HT.sIx_none, HT.sIx_nat, Nat.min_eq_left h, List.drop_zero, Nat.sub_zero]
theorem cut_from {α : Type} {zs : List α} {k : Nat} (h : k ≤ zs.length) : cutG zs (some k) none = zs.drop k := by
  unfold cutG
  rw [HT.sIx_none, HT.sIx_nat, Nat.min_eq_left h, List.take_of_length_le (by rw [List.length_drop]; omega)]
/-! ### comprehensions, once more: the value is told, plain or new -/
def IsV (r : Rs Vl) (E : Sv) (d : D) : Prop := r = .ok (.dv d) E ∨ r = .ok (.fr d) E
theorem IsV.ok {r : Rs Vl} (h : IsV r E d) : ∃ v, r = .ok v E ∧ E.frz v = some (d, E) := h.elim (fun h => ⟨_, h, rfl⟩) fun h => ⟨_, h, rfl⟩
theorem lcI {h : Int → D} (hs : ∀ x ∈ ns, ∃ E1, g (.int x) E0 = some E1 ∧ wipeE E1 ws = E0 ∧ IsV (te E1) E1 (h x)) (hl : ns.length ≤ LIM) : lcGo g eYes te ws (ns.map D.int) E0 [] = some (ns.map h, E0) :=
  lc_ints (fun x hx => by obtain ⟨E1, h1, h2, h3⟩ := hs x hx; obtain ⟨v, h4, h5⟩ := h3.ok; exact ⟨E1, v, h1, h4, h5, h2⟩) hl
theorem lcIF {p : Int → Bool} {h : Int → D} (hs : ∀ x ∈ ns, ∃ E1, g (.int x) E0 = some E1 ∧ wipeE E1 ws = E0 ∧ tt E1 = .ok (p x) E1 ∧ (p x = true → IsV (te E1) E1 (h x))) (hl : ns.length ≤ LIM) : lcGo g tt te ws (ns.map D.int) E0 [] = some ((ns.filter p).map h, E0) :=
  lc_intsF (fun x hx => by obtain ⟨E1, h1, h2, h3, h4⟩ := hs x hx; exact ⟨E1, h1, h3, h2, fun hp => (h4 hp).ok⟩) hl
theorem lcD {h : D → D} (hs : ∀ x ∈ xs, ∃ E1, g x E0 = some E1 ∧ wipeE E1 ws = E0 ∧ IsV (te E1) E1 (h x)) (hl : xs.length ≤ LIM) : lcGo g eYes te ws xs E0 [] = some (xs.map h, E0) :=
  lc_map (fun x hx => by obtain ⟨E1, h1, h2, h3⟩ := hs x hx; obtain ⟨v, h4, h5⟩ := h3.ok; exact ⟨E1, v, h1, h4, h5, h2⟩) hl
theorem lcDF {p : D → Bool} {h : D → D} (hs : ∀ x ∈ xs, ∃ E1, g x E0 = some E1 ∧ wipeE E1 ws = E0 ∧ tt E1 = .ok (p x) E1 ∧ (p x = true → IsV (te E1) E1 (h x))) (hl : xs.length ≤ LIM) : lcGo g tt te ws xs E0 [] = some ((xs.filter p).map h, E0) :=
  lc_filter (fun x hx => by obtain ⟨E1, h1, h2, h3, h4⟩ := hs x hx; exact ⟨E1, h1, h3, h2, fun hp => (h4 hp).ok⟩) hl
/-- over lists of any kind -/
theorem lcM {α : Type} {as : List α} {q : α → D} {h : α → D} (hs : ∀ x ∈ as, ∃ E1, g (q x) E0 = some E1 ∧ wipeE E1 ws = E0 ∧ IsV (te E1) E1 (h x)) (hl : as.length ≤ LIM) : lcGo g eYes te ws (as.map q) E0 [] = some (as.map h, E0) := by
  have key : ∀ (as : List α) (acc : List D), (∀ x ∈ as, ∃ E1, g (q x) E0 = some E1 ∧ wipeE E1 ws = E0 ∧ IsV (te E1) E1 (h x)) → acc.length + as.length ≤ LIM → lcGo g eYes te ws (as.map q) E0 acc = some (acc ++ as.map h, E0) := by
    intro as
    induction as with
    | nil => intro acc _ _; rw [List.map_nil, List.map_nil, List.append_nil]; rfl
    | cons x as ih =>
      intro acc hs hl
      obtain ⟨E1, h1, h2, h3⟩ := hs x List.mem_cons_self
      obtain ⟨v, h4, h5⟩ := h3.ok
      rw [List.length_cons] at hl
      rw [List.map_cons]
      show (match g (q x) E0 with
        | some E1 => match eYes E1 with
          | .ok true E2 => match te E2 with
            | .ok v E3 => match E3.frz v with
              | some (x, E4) => if acc.length < LIM then lcGo g eYes te ws (as.map q) (wipeE E4 ws) (acc ++ [x]) else none
              | none => none
            | _ => none
          | .ok false E2 => lcGo g eYes te ws (as.map q) (wipeE E2 ws) acc
          | _ => none
        | none => none) = _
      rw [h1]
      dsimp only [eYes]
      rw [h4]
      dsimp only
      rw [h5]
      dsimp only
      rw [if_pos (by omega), h2, ih _ (fun y hy => hs y (List.mem_cons_of_mem _ hy)) (by rw [List.length_append, List.length_singleton]; omega), List.map_cons, List.append_assoc]
      rfl
  have := key as [] hs (by simpa using hl)
  rwa [List.nil_append] at this
theorem lcMF {α : Type} {as : List α} {q : α → D} {p : α → Bool} {h : α → D} (hs : ∀ x ∈ as, ∃ E1, g (q x) E0 = some E1 ∧ wipeE E1 ws = E0 ∧ tt E1 = .ok (p x) E1 ∧ (p x = true → IsV (te E1) E1 (h x))) (hl : as.length ≤ LIM) : lcGo g tt te ws (as.map q) E0 [] = some ((as.filter p).map h, E0) := by
  have key : ∀ (as : List α) (acc : List D), (∀ x ∈ as, ∃ E1, g (q x) E0 = some E1 ∧ wipeE E1 ws = E0 ∧ tt E1 = .ok (p x) E1 ∧ (p x = true → IsV (te E1) E1 (h x))) → acc.length + as.length ≤ LIM → lcGo g tt te ws (as.map q) E0 acc = some (acc ++ (as.filter p).map h, E0) := by
    intro as
    induction as with
    | nil => intro acc _ _; rw [List.map_nil, List.filter_nil, List.map_nil, List.append_nil]; rfl
    | cons x as ih =>
      intro acc hs hl
      obtain ⟨E1, h1, h2, h3, h4⟩ := hs x List.mem_cons_self
      rw [List.length_cons] at hl
      have rest := fun y hy => hs y (List.mem_cons_of_mem _ hy)
      rw [List.map_cons]
      show (match g (q x) E0 with
        | some E1 => match tt E1 with
          | .ok true E2 => match te E2 with
            | .ok v E3 => match E3.frz v with
              | some (x, E4) => if acc.length < LIM then lcGo g tt te ws (as.map q) (wipeE E4 ws) (acc ++ [x]) else none
              | none => none
            | _ => none
          | .ok false E2 => lcGo g tt te ws (as.map q) (wipeE E2 ws) acc
          | _ => none
        | none => none) = _
      rw [h1]
      dsimp only
      rw [h3]
      cases hp : p x with
      | false =>
        dsimp only
        rw [h2, ih _ rest (by omega), List.filter_cons_of_neg (by rw [hp]; exact Bool.false_ne_true)]
      | true =>
        obtain ⟨v, h5, h6⟩ := (h4 hp).ok
        dsimp only
        rw [h5]
        dsimp only
        rw [h6]
        dsimp only
        rw [if_pos (by omega), h2, ih _ rest (by rw [List.length_append, List.length_singleton]; omega), List.filter_cons_of_pos hp, List.map_cons, List.append_assoc]
        rfl
  have := key as [] hs (by simpa using hl)
  rwa [List.nil_append] at this
/-- enumerate -/
theorem enumI : enumD (ns.map D.int) = (List.range ns.length).map fun (i : Nat) => D.tup [.int i, .int (ns.getD i 0)] := by
  refine List.ext_getElem? fun i => ?_
  cases h : (enumD (ns.map D.int))[i]? with
  | none =>
    have := List.getElem?_eq_none_iff.mp h
    rw [enumD_length, List.length_map] at this
    rw [List.getElem?_eq_none (by rw [List.length_map, List.length_range]; exact this)]
  | some z =>
    obtain ⟨d, hd, rfl⟩ := enumD_get h
    rw [List.getElem?_map] at hd
    cases h2 : ns[i]? with
    | none => rw [h2] at hd; cases hd
    | some w =>
      rw [h2] at hd
      cases hd
      have hi := (List.getElem?_eq_some_iff.mp h2).1
      rw [List.getElem?_map, List.getElem?_range hi, Option.map_some, List.getD_eq_getElem?_getD, h2]
      rfl
theorem rgI_map {lo : Int} {n : Nat} : (rgI lo n).map D.int = (List.range n).map fun (i : Nat) => D.int (lo + i) := by unfold rgI; rw [List.map_map]; rfl
/-! ### loops over a list of any kind -/
theorem loopM {α J β : Type} {as : List α} {q : α → D} {g : D → Sv → Option Sv} {b : Sv → SRs} {St : β → J → Sv} {step : β → α → β} (P : β → Prop) (s0 : β) (j0 : J) (h0 : P s0) (hb : ∀ s j x, x ∈ as → P s → P (step s x) ∧ ∃ E1 j', g (q x) (St s j) = some E1 ∧ b E1 = .nx (St (step s x) j')) :
    P (as.foldl step s0) ∧ ∃ j, loop g b (as.map q) (St s0 j0) = .nx (St (as.foldl step s0) j) := by
  induction as generalizing s0 j0 with
  | nil => exact ⟨h0, j0, rfl⟩
  | cons x as ih =>
    obtain ⟨h1, E1, j', h2, h3⟩ := hb s0 j0 x List.mem_cons_self h0
    obtain ⟨h4, j, h5⟩ := ih (step s0 x) j' h1 fun s j y hy hp => hb s j y (List.mem_cons_of_mem _ hy) hp
    refine ⟨h4, j, ?_⟩
    rw [List.map_cons, loop_cons h2, h3]
    exact h5
/-- counted loops -/
theorem loopN {J : Type} {n : Nat} {q : Nat → D} {g : D → Sv → Option Sv} {b : Sv → SRs} {St : Nat → J → Sv} (j0 : J) (hb : ∀ i j, i < n → ∃ E1 j', g (q i) (St i j) = some E1 ∧ b E1 = .nx (St (i + 1) j')) :
    ∃ j, loop g b ((List.range n).map q) (St 0 j0) = .nx (St n j) := by
  obtain ⟨j, h⟩ := loop_st (g := g) (b := b) (xs := (List.range n).map q) (St := St) j0 fun i x j hx => by
    rw [List.getElem?_map] at hx
    have hi : i < n := by
      apply Decidable.byContradiction
      intro h
      rw [List.getElem?_eq_none (by rw [List.length_range]; omega)] at hx
      cases hx
    rw [List.getElem?_range hi] at hx
    cases hx
    exact hb i j hi
  rw [List.length_map, List.length_range] at h
  exact ⟨j, h⟩
theorem frzs_app1 : Sv.frzs E (ds.map Vl.dv ++ [.dv d]) = some (ds ++ [d], E) := frzs_app rfl
theorem LI_app1 : (D.lst (ns.map D.int ++ [D.int a])) = LI (ns ++ [a]) := by unfold LI; rw [List.map_append]; rfl
/-- no break in it -/
theorem loop_app {b : Sv → SRs} {ys : List D} (nb : ∀ E E', b E ≠ .bk E') : ∀ {xs : List D} {E : Sv}, loop g b xs E = .nx E1 → loop g b (xs ++ ys) E = loop g b ys E1
  | [], E, h => by
    have h : SRs.nx E = .nx E1 := h
    cases h
    rfl
  | x :: xs, E, h => by
    show (match g x E with
      | some E2 => match b E2 with
        | .nx E2 => loop g b (xs ++ ys) E2
        | .ct E2 => loop g b (xs ++ ys) E2
        | .bk E2 => .nx E2
        | r => r
      | none => .er) = _
    have h : (match g x E with
      | some E2 => match b E2 with
        | .nx E2 => loop g b xs E2
        | .ct E2 => loop g b xs E2
        | .bk E2 => .nx E2
        | r => r
      | none => SRs.er) = .nx E1 := h
    cases hg : g x E with
    | none => rw [hg] at h; cases h
    | some E2 =>
      rw [hg] at h
      dsimp only at h ⊢
      cases hb : b E2 with
      | nx E3 => rw [hb] at h; exact loop_app nb h
      | ct E3 => rw [hb] at h; exact loop_app nb h
      | bk E3 => exact (nb _ _ hb).elim
      | rt v E3 => rw [hb] at h; cases h
      | ex c d E3 => rw [hb] at h; cases h
      | er => rw [hb] at h; cases h
/-- counted loops, told by a relation -/
theorem loopR {n : Nat} {q : Nat → D} {g : D → Sv → Option Sv} {b : Sv → SRs} {R : Nat → Sv → Prop} {E0 : Sv} (h0 : R 0 E0) (hb : ∀ i E, i < n → R i E → ∃ E1 E2, g (q i) E = some E1 ∧ b E1 = .nx E2 ∧ R (i + 1) E2) :
    ∃ E', loop g b ((List.range n).map q) E0 = .nx E' ∧ R n E' := by
  obtain ⟨E', h, h2⟩ := loop_inv (g := g) (b := b) (xs := (List.range n).map q) (k := 0) (P := R) h0 fun i x E hx hr => by
    rw [List.getElem?_map] at hx
    have hi : i < n := by
      apply Decidable.byContradiction
      intro h
      rw [List.getElem?_eq_none (by rw [List.length_range]; omega)] at hx
      cases hx
    rw [List.getElem?_range hi] at hx
    cases hx
    rw [Nat.zero_add] at hr ⊢
    obtain ⟨E1, E2, h1, h2, h3⟩ := hb i E hi hr
    exact ⟨E1, E2, h1, .inl h2, h3⟩
  rw [List.length_map, List.length_range, Nat.zero_add] at h2
  exact ⟨E', h, h2⟩
theorem zk_mr {f : D → List D → Option (D × Bool)} {T : D → Bool} {eo : Sv → Rs Vl} {es : Sv → Rs (List Vl)} {v : Vl} {vs : List Vl} {d0 d1 : D} {as : List D} {E2 : Sv} (h1 : eo E = .ok v E1) (h2 : v.hold.get E1 = some d0) (h3 : T d0 = true) (h4 : es E1 = .ok vs E2) (h5 : v.hold.get E2 = some d1) (h6 : getAll E2 vs = some as) : eMr f T eo es E = ofRes (f d1 as) E2 := by
  unfold eMr
  rw [h1]
  show (match v.hold.get E1 with
    | some d0 => if T d0 = true then (es E1).bind fun vs E2 => match v.hold.get E2, getAll E2 vs with
        | some d, some ds => ofRes (f d ds) E2
        | _, _ => .er
      else .er
    | none => .er) = _
  rw [h2]
  dsimp only
  rw [if_pos h3, h4]
  show (match v.hold.get E2, getAll E2 vs with
        | some d, some ds => ofRes (f d ds) E2
        | _, _ => .er) = _
  rw [h5, h6]
theorem eqv_int : (D.int a).eqv (.int b) = (a == b) := by rw [D.eqv]
theorem count_LI : mCount (LI ns) [.int a] = some (.int (ns.countP fun z => z == a : Nat), false) := by
  show (if ((D.int a).dat 20 && D.datL (ns.map D.int) 20) = true then some (D.int ((ns.map D.int).countP fun z => z.eqv (.int a) : Nat), false) else none) = _
  rw [dat_int, datL_ints, if_pos (by rfl), List.countP_map]
  congr 4
theorem repr_str {x : Str} (h : (reprText x).length ≤ 51) : ∃ r, fRepr (.str x) = some (.str r, false) := by
  refine ⟨(D.str x).py.shown, ?_⟩
  show (match D.rok (.str x) 20 with
    | some m => if m ≤ 1000000 then some (D.str (D.str x).py.shown, false) else none
    | none => none) = _
  rw [D.rok, if_pos h]
  rfl
theorem repr_int (h : a.natAbs < 10 ^ 50) : ∃ r, fRepr (.int a) = some (.str r, false) := by
  refine ⟨(D.int a).py.shown, ?_⟩
  show (match D.rok (.int a) 20 with
    | some m => if m ≤ 1000000 then some (D.str (D.int a).py.shown, false) else none
    | none => none) = _
  rw [D.rok, if_pos h]
  rfl
theorem map_int {α : Type} {f : α → Int} {as : List α} : as.map (fun z => D.int (f z)) = (as.map f).map D.int := by rw [List.map_map]; rfl
/-- loops whose turns leave the state but for what does not matter -/
theorem loopC {J : Type} {b : Sv → SRs} {St : J → Sv} {ds : List D} (j0 : J) (hb : ∀ z ∈ ds, ∀ j, ∃ E1 j', g z (St j) = some E1 ∧ b E1 = .nx (St j')) : ∃ j, loop g b ds (St j0) = .nx (St j) := by
  induction ds generalizing j0 with
  | nil => exact ⟨j0, rfl⟩
  | cons z ds ih =>
    obtain ⟨E1, j', h1, h2⟩ := hb z List.mem_cons_self j0
    obtain ⟨j, h3⟩ := ih j' fun y hy => hb y (List.mem_cons_of_mem _ hy)
    exact ⟨j, by rw [loop_cons h1, h2]; exact h3⟩
theorem noKL_ints {ks : List Kn} : ∀ {ns : List Int}, D.noKL ks (ns.map D.int) = true
  | [] => rfl
  | n :: ns => by rw [List.map_cons, D.noKL, noKL_ints]; rfl
/-! ### lent slots -/
theorem lendG1 {F : List D → FRs} {k : Kd} {fr : Bool} (hE : E[i]? = some (some (.val k x))) (hk : k ≠ .pure) (hf : F [x] = .ok d fr []) (hd : ∀ ks, safeR ks d fr = true) : callE 1 [] F [.loc i] E = .ok (mkV d fr) E := by
  have ho : ownedAt E i = true := by unfold ownedAt; rw [hE]; cases k <;> first | rfl | exact (hk rfl).elim
  refine call_ro (ds := [x]) rfl ?_ ?_ hf ?_
  · have hh : holdX [] 0 [Vl.loc i] = [.loc i] := rfl
    rw [hh, z_ga1, z_ga0, z_g3, hE]
    rfl
  · show [i].Nodup
    simp
  · unfold lendOk
    split
    · rfl
    · show (safeR _ d fr && true) = true
      rw [hd]; rfl
theorem lendG2 {F : List D → FRs} {k : Kd} {fr : Bool} {w : Vl} (hE : E[i]? = some (some (.val k x))) (hk : k ≠ .pure) (hw : w = .dv y ∨ w = .fr y) (hf : F [x, y] = .ok d fr []) (hd : ∀ ks, safeR ks d fr = true) : callE 2 [] F [.loc i, w] E = .ok (mkV d fr) E := by
  have ho : ownedAt E i = true := by unfold ownedAt; rw [hE]; cases k <;> first | rfl | exact (hk rfl).elim
  have hh : holdX [] 0 [.loc i, w] = [.loc i, .dv y] := by rcases hw with rfl | rfl <;> rfl
  refine call_ro (ds := [x, y]) rfl ?_ ?_ hf ?_
  · rw [hh, z_ga1, z_ga1, z_ga0, z_g3, hE]
    rfl
  · rw [hh]
    show [i].Nodup
    simp
  · unfold lendOk
    split
    · rfl
    · show (safeR _ d fr && true) = true
      rw [hd]; rfl
theorem lendG2' {F : List D → FRs} {k : Kd} {fr : Bool} {w : Vl} (hE : E[i]? = some (some (.val k x))) (hk : k ≠ .pure) (hw : w = .dv y ∨ w = .fr y) (hf : F [y, x] = .ok d fr []) (hd : ∀ ks, safeR ks d fr = true) : callE 2 [] F [w, .loc i] E = .ok (mkV d fr) E := by
  have ho : ownedAt E i = true := by unfold ownedAt; rw [hE]; cases k <;> first | rfl | exact (hk rfl).elim
  have hh : holdX [] 0 [w, .loc i] = [.dv y, .loc i] := by rcases hw with rfl | rfl <;> rfl
  refine call_ro (ds := [y, x]) rfl ?_ ?_ hf ?_
  · rw [hh, z_ga1, z_ga1, z_ga0, z_g3, hE]
    rfl
  · rw [hh]
    show [i].Nodup
    simp
  · unfold lendOk
    split
    · rfl
    · show (safeR _ d fr && true) = true
      rw [hd]; rfl
theorem safe_int {ks : List Kn} : safeR ks (.int a) false = true := rfl
theorem safe_bl {ks : List Kn} {b : Bool} : safeR ks (.bl b) false = true := rfl
theorem safe_non {ks : List Kn} : safeR ks .non false = true := rfl
theorem safe_LI {ks : List Kn} : safeR ks (LI ns) true = true := noKL_ints
theorem safe_TI {ks : List Kn} : safeR ks (TI ns) false = true := noKL_ints
/-- what is made of a lent list or of plain things -/
theorem mkL {c : Cn} {F : List D → FRs} {k : Kd} {z : D} (hE : E[i]? = some (some (.val k x))) (hk : k ≠ .pure) (hf : F [.obj c [], x] = .ok .non false [z]) (hd : ∀ ks, D.kids ks z = true) : mkE c 2 F [.loc i] E = .ok (.fr z) E := by
  have ho : ownedAt E i = true := by unfold ownedAt; rw [hE]; cases k <;> first | rfl | exact (hk rfl).elim
  have h2 : holdX [0] 0 [.fr (.obj c []), .loc i] = [.fr (.obj c []), .loc i] := rfl
  have h3 : getAll E [.fr (.obj c []), .loc i] = some [.obj c [], x] := by
    rw [z_ga1, z_ga1, z_ga0, z_g3, hE]
    rfl
  have h8 : locs [Vl.fr (.obj c []), .loc i] = [i] := rfl
  unfold mkE
  rw [if_pos (show [Vl.loc i].length + 1 = 2 from rfl)]
  unfold callX
  rw [h2, h3]
  dsimp only
  rw [show mutB E [0] 0 [Vl.fr (.obj c []), .loc i] = true from rfl, h8, if_pos (by simp), hf]
  dsimp only
  have hl : lendOk E [0] [Vl.fr (.obj c []), .loc i] (fun ks => safeR ks .non false && [z].all (D.kids ks)) = true := by
    unfold lendOk
    split
    · rfl
    · show (true && ([z].all _)) = true
      rw [List.all_cons, hd]; rfl
  rw [if_pos hl]
  have hu : updE [Vl.fr (.obj c []), .loc i] [0] [z] true E = E := by
    unfold updE
    rw [h8]
    show E.mapIdx (updSlot [Vl.fr (.obj c []), .loc i] [0] [z] true) = E
    refine List.ext_getElem? fun j => ?_
    rw [List.getElem?_mapIdx]
    cases h : E[j]? with
    | none => rfl
    | some s =>
      show some (updSlot [Vl.fr (.obj c []), .loc i] [0] [z] true j s) = some s
      congr 1
      unfold updSlot
      cases s with
      | none => rfl
      | some s =>
        cases s with
        | exn c d => rfl
        | val k d =>
          dsimp only
          split
          · rfl
          · by_cases hj : i = j
            · have : posLoc j [Vl.fr (.obj c []), .loc i] 0 = some 1 := by
                show (if i = j then some 1 else none) = _
                rw [if_pos hj]
              rw [this]
              rfl
            · have : posLoc j [Vl.fr (.obj c []), .loc i] 0 = none := by
                show (if i = j then some 1 else none) = _
                rw [if_neg hj]
              rw [this]
  rw [hu]
  rfl
end
end TV

set_option Elab.async false
set_option linter.all false
set_option maxRecDepth 100000
set_option maxHeartbeats 4000000
namespace TV
open PySem
/- _law_pool: slots 0 _law_script, 1 _law_k, 2 _law_cell, 3 _law_mixed -/
def ev_L_pool : List D → FRs := runF [] 4 (sSeq (sAsg (eC (.int 0)) 2)
  (sSeq (sIf (eTB (eOp fLt (eVar 1) (eCB (f1 fLen) (aCons (eVar 0) aNil)))) (sAsg (eCB (f1 fAbs) (aCons (eOp fIx (eVar 0) (eVar 1)) aNil)) 2) sNext)
  (sSeq (sAsg (eOp fMod (eOp fMul (eOp fAdd (eOp fAdd (eOp fAdd (eOp fMod (eVar 2) (eC (.int 2147483629))) (eOp fMul (eOp fMul (eC (.int 7919)) (eVar 1)) (eVar 1))) (eOp fMul (eC (.int 31)) (eVar 1))) (eC (.int 17))) (eC (.int 48271))) (eC (.int 2147483647))) 3)
  (sRet (eLst (aCons (eOp fMul (eVar 2) (eCB (f1 fInt1) (aCons (eOp fGe (eVar 2) (eOp fPow (eC (.int 10)) (eC (.int 18)))) aNil))) (aCons (eOp fMod (eOp fMul (eVar 3) (eVar 3)) (eC (.int 2147483629))) aNil)))))))
/- _law_take: slots 0 _law_pool_here, 1 _law_many, 2 _law_found -/
def ev_L_take : List D → FRs := runF [0] 3 (sSeq (sIf (eTB (eOp fGt (eOp fIx (eVar 0) (eC (.int 0))) (eC (.int 0)))) (sSeq (sAsg (eOp fMod (eOp fIx (eVar 0) (eC (.int 0))) (eVar 1)) 2)
  (sSeq (sSet fSetL 0 (eC (.int 0)) (eOp fDiv (eOp fIx (eVar 0) (eC (.int 0))) (eVar 1)))
  (sRet (eVar 2)))) sNext)
  (sSeq (sSet fSetL 0 (eC (.int 1)) (eOp fMod (eOp fAdd (eOp fMul (eOp fIx (eVar 0) (eC (.int 1))) (eC (.int 48271))) (eC (.int 12345))) (eC (.int 2147483647))))
  (sRet (eOp fMod (eOp fDiv (eOp fMod (eOp fMul (eOp fIx (eVar 0) (eC (.int 1))) (eOp fIx (eVar 0) (eC (.int 1)))) (eC (.int 2147483629))) (eC (.int 64))) (eVar 1)))))
/- _law_row: slots 0 _law_pool_here, 1 _law_size, 2 _law_left, 3 _law_found, 4 _law_way, 5 _law_card, 6 _law_sign, 7 _law_at -/
def ev_L_row_c1 : Sv → Rs Bool := eTB (eOp fNe (eVar 2) (eLst aNil))
def ev_L_row_b1 : Sv → SRs := sSeq (sAsg (eMt mPopAt isLst 2 (aCons (eIf (eTB (eOp fLt (eVar 4) (eC (.int 3)))) (eCall 2 [0] ev_L_take (aCons (eVar 0) (aCons (eCB (f1 fLen) (aCons (eVar 2) aNil)) aNil))) (eC (.int 0))) aNil)) 5)
  (sSeq (sAsg (eCall 2 [0] ev_L_take (aCons (eVar 0) (aCons (eIf (eTB (eOp fEq (eVar 4) (eC (.int 1)))) (eC (.int 3)) (eC (.int 2))) aNil))) 6)
  (sDrop (eMt mAppend isLst 3 (aCons (eIf (eTOr (eTB (eOp fGt (eVar 6) (eC (.int 0)))) (eTB (eOp fEq (eVar 4) (eC (.int 4))))) (eVar 5) (eUn fNeg (eVar 5))) aNil))))
def ev_L_row : List D → FRs := runF [0] 8 (sSeq (sPar [2, 3, 4] (aCons (eRg2 true (eC (.int 1)) (eOp fAdd (eVar 1) (eC (.int 1)))) (aCons (eLst aNil) (aCons (eCall 2 [0] ev_L_take (aCons (eVar 0) (aCons (eC (.int 5)) aNil))) aNil))))
  (sSeq (eWhile ev_L_row_c1 ev_L_row_b1 1000000)
  (sSeq (sIf (eTAnd (eTB (eOp fEq (eVar 4) (eC (.int 3)))) (eTB (eOp fGt (eVar 1) (eC (.int 2))))) (sSeq (sAsg (eCall 2 [0] ev_L_take (aCons (eVar 0) (aCons (eOp fSub (eVar 1) (eC (.int 1))) aNil))) 7)
  (sAsg (eOp fAdd (eOp fAdd (eSl fSl (eVar 3) oNone (oSome (eVar 7))) (eLst (aCons (eOp fIx (eVar 3) (eOp fAdd (eVar 7) (eC (.int 1)))) (aCons (eOp fIx (eVar 3) (eVar 7)) aNil)))) (eSl fSl (eVar 3) (oSome (eOp fAdd (eVar 7) (eC (.int 2)))) oNone)) 3)) sNext)
  (sRet (eVar 3)))))
/- is_integer: slots 0 value -/
def ev_is_integer : List D → FRs := runF [] 1 (sRet (eAnd (eCB (f2 fIsi) (aCons (eVar 0) (aCons (eC (.ty "int")) aNil))) (eNot (eCB (f2 fIsi) (aCons (eVar 0) (aCons (eC (.ty "bool")) aNil))))))
/- Arrangement.is_row: slots 0 value, 1 card -/
def ev_Arrangement_is_row_e1 : Sv → Rs Vl := eCall 1 [] ev_is_integer (aCons (eVar 1) aNil)
def ev_Arrangement_is_row_e2 : Sv → Rs Vl := eCB (f1 fAbs) (aCons (eVar 1) aNil)
def ev_Arrangement_is_row : List D → FRs := runF [] 2 (sSeq (sIf (eTOr (eTNot (eTB (eIsiT ["list", "tuple"] (eVar 0)))) (eTNot (eTB (eChain fLe fLe (eC (.int 1)) (eCB (f1 fLen) (aCons (eVar 0) aNil)) (eC (.int 2000)))))) (sRet (eC (.bl false))) sNext)
  (sSeq (sIf (eTNot (eTB (eCB (f1 fAll) (aCons (eLc (iAny (eVar 0)) (gtName 1) eYes ev_Arrangement_is_row_e1 [1]) aNil)))) (sRet (eC (.bl false))) sNext)
  (sRet (eOp fEq (eCB (f1 fSorted) (aCons (eLc (iAny (eVar 0)) (gtName 1) eYes ev_Arrangement_is_row_e2 [1]) aNil)) (eRg2 true (eC (.int 1)) (eOp fAdd (eCB (f1 fLen) (aCons (eVar 0) aNil)) (eC (.int 1))))))))
/- Arrangement.__init__: slots 0 self, 1 row -/
def ev_Arrangement___init__ : List D → FRs := runF [0] 2 (sSeq (sIf (eTNot (eTB (eSM 1 [] ev_Arrangement_is_row (aCons (eVar 1) aNil)))) (sRaise .row (eVar 1)) sNext)
  (sSetFld 0 .arr 0 (eCB (f1 fTuple) (aCons (eVar 1) aNil))))
/- _law_disorders: slots 0 _law_row_here, 1 _law_found, 2 _law_at, 3 _law_card, 4 _law_one -/
def ev_L_disorders_t1 : Sv → Rs Bool := eTB (eOp fLt (eVar 3) (eC (.int 0)))
def ev_L_disorders_t2 : Sv → Rs Bool := eTB (eOp fGt (eVar 4) (eVar 3))
def ev_L_disorders_t3 : Sv → Rs Bool := eTB (eOp fLt (eOp fAdd (eVar 4) (eVar 3)) (eC (.int 0)))
def ev_L_disorders_b1 : Sv → SRs := sAsg (eOp fAdd (eOp fAdd (eVar 1) (eCB (f1 fLen) (aCons (eLc (iAny (eSl fSl (eVar 0) oNone (oSome (eVar 2)))) (gtName 4) ev_L_disorders_t2 (eVar 4) [4]) aNil))) (eCB (f1 fLen) (aCons (eLc (iAny (eSl fSl (eVar 0) oNone (oSome (eVar 2)))) (gtName 4) ev_L_disorders_t3 (eVar 4) [4]) aNil))) 1
def ev_L_disorders : List D → FRs := runF [] 5 (sSeq (sAsg (eCB (f1 fLen) (aCons (eLc (iAny (eVar 0)) (gtName 3) ev_L_disorders_t1 (eVar 3) [3]) aNil)) 1)
  (sSeq (sFor (iEnum1 (eVar 0)) (gtTup 2 (gtCons (gtName 2) (gtCons (gtName 3) gtNil))) ev_L_disorders_b1)
  (sRet (eVar 1))))
/- _law_neighbor: slots 0 _law_row_here, 1 _law_step -/
def ev_L_neighbor : List D → FRs := runF [] 2 (sSeq (sIf (eTB (eOp fEq (eVar 1) (eC (.int 0)))) (sRet (eOp fAdd (eLst (aCons (eUn fNeg (eOp fIx (eVar 0) (eC (.int 0)))) aNil)) (eCB (f1 fList) (aCons (eSl fSl (eVar 0) (oSome (eC (.int 1))) oNone) aNil)))) sNext)
  (sRet (eOp fAdd (eOp fAdd (eCB (f1 fList) (aCons (eSl fSl (eVar 0) oNone (oSome (eOp fSub (eVar 1) (eC (.int 1))))) aNil)) (eLst (aCons (eOp fIx (eVar 0) (eVar 1)) (aCons (eOp fIx (eVar 0) (eOp fSub (eVar 1) (eC (.int 1)))) aNil)))) (eCB (f1 fList) (aCons (eSl fSl (eVar 0) (oSome (eOp fAdd (eVar 1) (eC (.int 1)))) oNone) aNil)))))
/- disorders_of: slots 0 row, 1 result, 2 index, 3 card, 4 earlier -/
def ev_disorders_of_t1 : Sv → Rs Bool := eTB (eOp fLt (eVar 3) (eC (.int 0)))
def ev_disorders_of_t2 : Sv → Rs Bool := eTB (eOp fGt (eVar 4) (eVar 3))
def ev_disorders_of_t3 : Sv → Rs Bool := eTB (eOp fLt (eOp fAdd (eVar 4) (eVar 3)) (eC (.int 0)))
def ev_disorders_of_b1 : Sv → SRs := sSeq (sAug (fI fun i j => some (i + j)) 1 (eCB (f1 fLen) (aCons (eLc (iAny (eSl fSl (eVar 0) oNone (oSome (eVar 2)))) (gtName 4) ev_disorders_of_t2 (eVar 4) [4]) aNil)))
  (sAug (fI fun i j => some (i + j)) 1 (eCB (f1 fLen) (aCons (eLc (iAny (eSl fSl (eVar 0) oNone (oSome (eVar 2)))) (gtName 4) ev_disorders_of_t3 (eVar 4) [4]) aNil)))
def ev_disorders_of : List D → FRs := runF [] 5 (sSeq (sAsg (eCB (f1 fLen) (aCons (eLc (iAny (eVar 0)) (gtName 3) ev_disorders_of_t1 (eVar 3) [3]) aNil)) 1)
  (sSeq (sFor (iEnum1 (eVar 0)) (gtTup 2 (gtCons (gtName 2) (gtCons (gtName 3) gtNil))) ev_disorders_of_b1)
  (sRet (eVar 1))))
/- Arrangement.row: slots 0 self -/
def ev_Arrangement_row : List D → FRs := runF [] 1 (sRet (eFld .arr 0 (eVar 0)))
/- disorders: slots 0 a -/
def ev_disorders : List D → FRs := runF [] 1 (sRet (eCall 1 [] ev_disorders_of (aCons (eProp .arr ev_Arrangement_row (eVar 0)) aNil)))
/- best_steps: slots 0 row, 1 result, 2 place -/
def ev_best_steps_t1 : Sv → Rs Bool := eTB (eOp fGt (eOp fIx (eVar 0) (eOp fSub (eVar 2) (eC (.int 1)))) (eOp fIx (eVar 0) (eVar 2)))
def ev_best_steps : List D → FRs := runF [] 3 (sSeq (sAsg (eIf (eTB (eOp fLt (eOp fIx (eVar 0) (eC (.int 0))) (eC (.int 0)))) (eLst (aCons (eC (.int 0)) aNil)) (eLst aNil)) 1)
  (sRet (eOp fAdd (eVar 1) (eLc (iRg2 (aCons (eC (.int 1)) (aCons (eCB (f1 fLen) (aCons (eVar 0) aNil)) aNil))) (gtName 2) ev_best_steps_t1 (eVar 2) [2]))))
/- best_neighbors: slots 0 a -/
def ev_best_neighbors : List D → FRs := runF [] 1 (sRet (eCall 1 [] ev_best_steps (aCons (eProp .arr ev_Arrangement_row (eVar 0)) aNil)))
/- is_between: slots 0 value, 1 low, 2 high -/
def ev_is_between : List D → FRs := runF [] 3 (sRet (eAnd (eCall 1 [] ev_is_integer (aCons (eVar 0) aNil)) (eChain fLe fLe (eVar 1) (eVar 0) (eVar 2))))
/- is_word: slots 0 size, 1 value, 2 step -/
def ev_is_word_e1 : Sv → Rs Vl := eCall 3 [] ev_is_between (aCons (eVar 2) (aCons (eC (.int 0)) (aCons (eOp fSub (eVar 0) (eC (.int 1))) aNil)))
def ev_is_word : List D → FRs := runF [] 3 (sRet (eAnd (eIsiT ["list", "tuple"] (eVar 1)) (eCB (f1 fAll) (aCons (eLc (iAny (eVar 1)) (gtName 2) eYes ev_is_word_e1 [2]) aNil))))
/- Arrangement.__len__: slots 0 self -/
def ev_Arrangement___len__ : List D → FRs := runF [] 1 (sRet (eCB (f1 fLen) (aCons (eFld .arr 0 (eVar 0)) aNil)))
/- performed: slots 0 row, 1 step -/
def ev_performed : List D → FRs := runF [] 2 (sSeq (sIf (eTB (eOp fEq (eVar 1) (eC (.int 0)))) (sRet (eTup (aCons (eUn fNeg (eOp fIx (eVar 0) (eC (.int 0)))) (aStar (eSl fSl (eVar 0) (oSome (eC (.int 1))) oNone) aNil)))) sNext)
  (sRet (eTup (aStar (eSl fSl (eVar 0) oNone (oSome (eOp fSub (eVar 1) (eC (.int 1))))) (aCons (eOp fIx (eVar 0) (eVar 1)) (aCons (eOp fIx (eVar 0) (eOp fSub (eVar 1) (eC (.int 1)))) (aStar (eSl fSl (eVar 0) (oSome (eOp fAdd (eVar 1) (eC (.int 1)))) oNone) aNil)))))))
/- after_word: slots 0 row, 1 word, 2 result, 3 step -/
def ev_after_word_b1 : Sv → SRs := sAsg (eCall 2 [] ev_performed (aCons (eVar 2) (aCons (eVar 3) aNil))) 2
def ev_after_word : List D → FRs := runF [] 4 (sSeq (sAsg (eCB (f1 fTuple) (aCons (eVar 0) aNil)) 2)
  (sSeq (sFor (iAny (eVar 1)) (gtName 3) ev_after_word_b1)
  (sRet (eVar 2))))
/- perform: slots 0 a, 1 word -/
def ev_perform : List D → FRs := runF [] 2 (sSeq (sIf (eTNot (eTB (eCall 2 [] ev_is_word (aCons (eLenO .arr ev_Arrangement___len__ (eVar 0)) (aCons (eVar 1) aNil))))) (sRaise .word (eVar 1)) sNext)
  (sRet (eMake .arr 2 ev_Arrangement___init__ (aCons (eCall 2 [] ev_after_word (aCons (eProp .arr ev_Arrangement_row (eVar 0)) (aCons (eVar 1) aNil))) aNil))))
/- _law_refused: slots 0 _law_a, 1 _law_word, 2 e -/
def ev_L_refused_2 : List D → FRs := runF [] 3 (sSeq (sTry [.place, .row, .word] (sDrop (eCall 2 [] ev_perform (aCons (eVar 0) (aCons (eVar 1) aNil)))) [⟨.word, some 2, fun d => sRet (eAnd (eOp fEq (eCB (f1 fRepr) (aCons (eXf d 2) aNil)) (eCB (f1 fRepr) (aCons (eVar 1) aNil))) (eIsD true 2))⟩])
  (sRet (eC (.bl false))))
/- Arrangement.__neg__: slots 0 self, 1 card -/
def ev_Arrangement___neg___e1 : Sv → Rs Vl := eUn fNeg (eVar 1)
def ev_Arrangement___neg__ : List D → FRs := runF [] 2 (sRet (eMake .arr 2 ev_Arrangement___init__ (aCons (eLc (iAny (eFld .arr 0 (eVar 0))) (gtName 1) eYes ev_Arrangement___neg___e1 [1]) aNil)))
/- Arrangement.sorted_row: slots 0 cls, 1 size -/
def ev_Arrangement_sorted_row : List D → FRs := runF [] 2 (sSeq (sIf (eTNot (eTB (eCall 3 [] ev_is_between (aCons (eVar 1) (aCons (eC (.int 1)) (aCons (eC (.int 2000)) aNil)))))) (sRaise .number (eVar 1)) sNext)
  (sRet (eMakeV .arr 0 2 ev_Arrangement___init__ (aCons (eRg2 false (eC (.int 1)) (eOp fAdd (eVar 1) (eC (.int 1)))) aNil))))
/- farthest: slots 0 size -/
def ev_farthest : List D → FRs := runF [] 1 (sRet (eOwn1 .arr ev_Arrangement___neg__ (eCM .arr 2 ev_Arrangement_sorted_row (aCons (eVar 0) aNil))))
/- _law_farthest: slots 0 _law_size, 1 e -/
def ev_L_farthest : List D → FRs := runF [] 2 (sTry [.number, .row] (sRet (eLst (aCons (eC (.str "row")) (aCons (eProp .arr ev_Arrangement_row (eCall 1 [] ev_farthest (aCons (eVar 0) aNil))) aNil)))) [⟨.number, some 1, fun d => sRet (eLst (aCons (eC (.str "number")) (aCons (eCB (f1 fRepr) (aCons (eXf d 1) aNil)) aNil)))⟩])
/- Arrangement.__eq__: slots 0 self, 1 other -/
def ev_Arrangement___eq__ : List D → FRs := runF [] 2 (sRet (eAnd (eCB (f2 (fIsO .arr)) (aCons (eVar 1) (aCons (eC (.cls .arr)) aNil))) (eOp fEq (eFld .arr 0 (eVar 0)) (eFld .arr 0 (eVar 1)))))
/- law: slots 0 _law_script, 1 _law_k, 2 _law_odd, 3 _law_pool_here, 4 _law_row_here, 5 _law_now, 6 _law_due, 7 _law_step, 8 _law_some, 9 _law_size, 10 _law_a, 11 _law_word, 12 _law_rest, 13 _law_turn, 14 _law_card -/
def ev_k10_law_t1 : Sv → Rs Bool := eTB (eOp fLt (eCall 1 [] ev_L_disorders (aCons (eCall 2 [] ev_L_neighbor (aCons (eVar 4) (aCons (eVar 7) aNil))) aNil)) (eVar 5))
def ev_k10_law_e1 : Sv → Rs Vl := eCall 2 [0] ev_L_take (aCons (eVar 3) (aCons (eVar 9) aNil))
def ev_k10_law_b1 : Sv → SRs := sAsg (eCall 2 [] ev_L_neighbor (aCons (eVar 12) (aCons (eVar 7) aNil))) 12
def ev_k10_law_b2 : Sv → SRs := sIf (eTOr (eTB (eOp fNe (eProp .arr ev_Arrangement_row (eCall 2 [] ev_perform (aCons (eVar 10) (aCons (eVar 8) aNil)))) (eCB (f1 fTuple) (aCons (eVar 12) aNil)))) (eTB (eOp fNe (eProp .arr ev_Arrangement_row (eVar 10)) (eCB (f1 fTuple) (aCons (eVar 4) aNil))))) (sRet (eC (.bl false))) sNext
def ev_k10_law_b3 : Sv → SRs := sIf (eTNot (eTB (eCall 2 [] ev_L_refused_2 (aCons (eVar 10) (aCons (eVar 2) aNil))))) (sRet (eC (.bl false))) sNext
def ev_k10_law_e2 : Sv → Rs Vl := eUn fNeg (eVar 14)
def ev_k10_law_b4 : Sv → SRs := sSeq (sAsg (eCall 2 [] ev_L_pool (aCons (eVar 0) (aCons (eVar 1) aNil))) 3)
  (sSeq (sAsg (eCall 2 [0] ev_L_row (aCons (eVar 3) (aCons (eOp fAdd (eC (.int 1)) (eCall 2 [0] ev_L_take (aCons (eVar 3) (aCons (eC (.int 12)) aNil)))) aNil))) 4)
  (sSeq (sAsgT (eTup (aCons (eCB (f1 fLen) (aCons (eVar 4) aNil)) (aCons (eMake .arr 2 ev_Arrangement___init__ (aCons (eVar 4) aNil)) aNil))) (gtTup 2 (gtCons (gtName 9) (gtCons (gtName 10) gtNil))))
  (sSeq (sAsg (eCall 1 [] ev_L_disorders (aCons (eVar 4) aNil)) 5)
  (sSeq (sAsg (eLc (iRg1 (aCons (eVar 9) aNil)) (gtName 7) ev_k10_law_t1 (eVar 7) [7]) 6)
  (sSeq (sIf (eTOr (eTB (eOp fNe (eCall 1 [] ev_disorders (aCons (eVar 10) aNil)) (eVar 5))) (eTB (eOp fNe (eCall 1 [] ev_best_neighbors (aCons (eVar 10) aNil)) (eVar 6)))) (sRet (eC (.bl false))) sNext)
  (sSeq (sPar [11, 12] (aCons (eLc (iRg1 (aCons (eCall 2 [0] ev_L_take (aCons (eVar 3) (aCons (eC (.int 15)) aNil))) aNil)) (gtName 13) eYes ev_k10_law_e1 [13]) (aCons (eVar 4) aNil)))
  (sSeq (sFor (iAny (eVar 11)) (gtName 7) ev_k10_law_b1)
  (sSeq (sFor (iAny (eLst (aCons (eVar 11) (aCons (eCB (f1 fTuple) (aCons (eVar 11) aNil)) aNil)))) (gtName 8) ev_k10_law_b2)
  (sSeq (sFor (iAny (eLst (aCons (eC .non) (aCons (eC (.int 5)) (aCons (eC (.str "0")) (aCons eDNew (aCons (eLst (aCons (eVar 9) aNil)) (aCons (eLst (aCons (eUn fNeg (eC (.int 1))) aNil)) (aCons (eLst (aCons (eC (.bl true)) aNil)) (aCons (eLst (aCons (eC .non) aNil)) (aCons (eOp fAdd (eVar 11) (eLst (aCons (eVar 9) aNil))) (aCons (eTup (aCons (eC (.int 0)) (aCons (eC (.str "0")) aNil))) (aCons (eLst (aCons (eLst (aCons (eC (.int 0)) aNil)) aNil)) aNil))))))))))))) (gtName 2) ev_k10_law_b3)
  (sSeq (sIf (eTB (eOp fNe (eCall 1 [] ev_L_farthest (aCons (eVar 9) aNil)) (eLst (aCons (eC (.str "row")) (aCons (eCB (f1 fTuple) (aCons (eLc (iRg2 (aCons (eC (.int 1)) (aCons (eOp fAdd (eVar 9) (eC (.int 1))) aNil))) (gtName 14) eYes ev_k10_law_e2 [14]) aNil)) aNil))))) (sRet (eC (.bl false))) sNext)
  (sIf (eTB (eOp fNe (eCall 1 [] ev_disorders (aCons (eCall 1 [] ev_farthest (aCons (eVar 9) aNil)) aNil)) (eOp fMul (eVar 9) (eVar 9)))) (sRet (eC (.bl false))) sNext)))))))))))
def ev_k10_law_b5 : Sv → SRs := sIf (eTB (eOp fNe (eCall 1 [] ev_L_farthest (aCons (eVar 2) aNil)) (eLst (aCons (eC (.str "number")) (aCons (eCB (f1 fRepr) (aCons (eVar 2) aNil)) aNil))))) (sRet (eC (.bl false))) sNext
def ev_k10_law : List D → FRs := runF [] 15 (sSeq (sFor (iRg1 (aCons (eCB (f2 fMax2) (aCons (eC (.int 1)) (aCons (eCB (f2 fMin2) (aCons (eC (.int 8)) (aCons (eCB (f1 fLen) (aCons (eVar 0) aNil)) aNil))) aNil))) aNil)) (gtName 1) ev_k10_law_b4)
  (sSeq (sFor (iAny (eLst (aCons (eC (.int 0)) (aCons (eUn fNeg (eC (.int 1))) (aCons (eC (.int 2001)) (aCons (eC (.bl true)) (aCons (eC .non) (aCons (eC (.str "2")) aNil)))))))) (gtName 2) ev_k10_law_b5)
  (sRet (eAnd (eOwn2 .arr (eqT .arr) isBlV (ask2N ev_Arrangement___eq__) (eCall 2 [] ev_perform (aCons (eMake .arr 2 ev_Arrangement___init__ (aCons (eLst (aCons (eC (.int 1)) aNil)) aNil)) (aCons (eLst aNil) aNil))) (eMake .arr 2 ev_Arrangement___init__ (aCons (eLst (aCons (eC (.int 1)) aNil)) aNil))) (eOp fEq (eCall 1 [] ev_best_neighbors (aCons (eMake .arr 2 ev_Arrangement___init__ (aCons (eLst (aCons (eC (.int 1)) aNil)) aNil)) aNil)) (eLst aNil))))))
end TV

set_option Elab.async false
set_option linter.all false
set_option maxRecDepth 100000
namespace TV
open PySem PySem.Spec PyProof.Rows L2 TC
/-! ### the program's small defs -/
def D.isInt : D → Bool
  | .int _ => true
  | _ => false
theorem is_integer_ok {x : D} (h : (x.tyN).isSome = true) : ev_is_integer [x] = .ok (.bl x.isInt) false [] := by
  cases x <;> first | (cases h; done) | rfl
def D.btw (x : D) (lo hi : Int) : Bool := match x with
  | .int i => decide (lo ≤ i) && decide (i ≤ hi)
  | _ => false
theorem is_between_ok {x : D} {lo hi : Int} (h : (x.tyN).isSome = true) : ev_is_between [x, .int lo, .int hi] = .ok (.bl (x.btw lo hi)) false [] := by
  cases x <;> first | (cases h; done) | rfl | skip
  case int i =>
    unfold ev_is_between D.btw
    by_cases h1 : lo ≤ i
    · simp -implicitDefEqProofs only [zz, if_true, if_false, List.getElem?_cons_zero, List.getElem?_cons_succ, List.set_cons_zero, List.set_cons_succ, List.map_cons, List.map_nil, List.length_cons, List.length_nil, List.cons_append, List.nil_append, List.append_nil, Option.map_some, Option.map_none, Bool.not_true, Bool.not_false, decide_true, decide_false, reduceIte, Nat.zero_add, Nat.reduceAdd, Nat.reduceSub, List.replicate_succ, List.replicate_zero, List.mem_cons, List.not_mem_nil, or_false, or_true, false_or, true_or, Nat.reduceEqDiff, Bool.false_eq_true, reduceCtorEq, Bool.true_and, Bool.and_true, Bool.and_self, Bool.and_false, Bool.false_and, Bool.or_true, Bool.true_or, Bool.or_false, Bool.false_or, Option.getD_some, Option.getD_none, and_true, true_and, and_self, List.contains_iff_mem, eq_self, ite_true, ite_false, is_integer_ok h, D.isInt, le_i, h1]
    · simp -implicitDefEqProofs only [zz, if_true, if_false, List.getElem?_cons_zero, List.getElem?_cons_succ, List.set_cons_zero, List.set_cons_succ, List.map_cons, List.map_nil, List.length_cons, List.length_nil, List.cons_append, List.nil_append, List.append_nil, Option.map_some, Option.map_none, Bool.not_true, Bool.not_false, decide_true, decide_false, reduceIte, Nat.zero_add, Nat.reduceAdd, Nat.reduceSub, List.replicate_succ, List.replicate_zero, List.mem_cons, List.not_mem_nil, or_false, or_true, false_or, true_or, Nat.reduceEqDiff, Bool.false_eq_true, reduceCtorEq, Bool.true_and, Bool.and_true, Bool.and_self, Bool.and_false, Bool.false_and, Bool.or_true, Bool.true_or, Bool.or_false, Bool.false_or, Option.getD_some, Option.getD_none, and_true, true_and, and_self, List.contains_iff_mem, eq_self, ite_true, ite_false, is_integer_ok h, D.isInt, le_i, h1]
/-! ### rows -/
abbrev AR (ns : List Int) : D := .obj .arr [TI ns]
theorem rg_sorted (n : Nat) : (rgI 1 n).Pairwise (· ≤ ·) := by
  unfold rgI
  rw [List.pairwise_map]
  exact List.pairwise_lt_range.imp fun h => by omega
theorem rgI_len {lo : Int} {n : Nat} : (rgI lo n).length = n := by unfold rgI; rw [List.length_map, List.length_range]
theorem srt_row {ns : List Int} (h : IsRow ns) : srt (ns.map absI) = rgI 1 ns.length := (srt_unique h.2.2.symm (rg_sorted _)).symm
theorem fabs_i {i : Int} : fAbs (.int i) = some (.int (absI i), false) := rfl
theorem row_lc1 (x : D) (ns : List Int) (hl : ns.length ≤ LIM) : lcGo (gtName 1) eYes ev_Arrangement_is_row_e1 [1] (ns.map D.int) [pS x, none] [] = some (ns.map (fun _ => D.bl ((fun _ => true) ())), [pS x, none]) :=
  lcI (h := fun _ => D.bl true) (fun i _ => ⟨_, rfl, rfl, .inl (by unfold ev_Arrangement_is_row_e1; simp -implicitDefEqProofs only [zz, if_true, if_false, List.getElem?_cons_zero, List.getElem?_cons_succ, List.set_cons_zero, List.set_cons_succ, List.map_cons, List.map_nil, List.length_cons, List.length_nil, List.cons_append, List.nil_append, List.append_nil, Option.map_some, Option.map_none, Bool.not_true, Bool.not_false, decide_true, decide_false, reduceIte, Nat.zero_add, Nat.reduceAdd, Nat.reduceSub, List.replicate_succ, List.replicate_zero, List.mem_cons, List.not_mem_nil, or_false, or_true, false_or, true_or, Nat.reduceEqDiff, Bool.false_eq_true, reduceCtorEq, Bool.true_and, Bool.and_true, Bool.and_self, Bool.and_false, Bool.false_and, Bool.or_true, Bool.true_or, Bool.or_false, Bool.false_or, Option.getD_some, Option.getD_none, and_true, true_and, and_self, List.contains_iff_mem, eq_self, ite_true, ite_false, is_integer_ok (x := .int i) rfl, D.isInt])⟩) hl
theorem row_lc2 (x : D) (ns : List Int) (hl : ns.length ≤ LIM) : lcGo (gtName 1) eYes ev_Arrangement_is_row_e2 [1] (ns.map D.int) [pS x, none] [] = some ((ns.map absI).map D.int, [pS x, none]) := by
  rw [← map_int (f := absI)]
  exact lcI (h := fun i => D.int (absI i)) (fun i _ => ⟨_, rfl, rfl, .inl (by unfold ev_Arrangement_is_row_e2; simp -implicitDefEqProofs only [zz, if_true, if_false, List.getElem?_cons_zero, List.getElem?_cons_succ, List.set_cons_zero, List.set_cons_succ, List.map_cons, List.map_nil, List.length_cons, List.length_nil, List.cons_append, List.nil_append, List.append_nil, Option.map_some, Option.map_none, Bool.not_true, Bool.not_false, decide_true, decide_false, reduceIte, Nat.zero_add, Nat.reduceAdd, Nat.reduceSub, List.replicate_succ, List.replicate_zero, List.mem_cons, List.not_mem_nil, or_false, or_true, false_or, true_or, Nat.reduceEqDiff, Bool.false_eq_true, reduceCtorEq, Bool.true_and, Bool.and_true, Bool.and_self, Bool.and_false, Bool.false_and, Bool.or_true, Bool.true_or, Bool.or_false, Bool.false_or, Option.getD_some, Option.getD_none, and_true, true_and, and_self, List.contains_iff_mem, eq_self, ite_true, ite_false, fabs_i])⟩) hl
theorem isLT {E : Sv} {i : Nat} {d : D} {n : String} (hE : E[i]? = some (pS d)) (hd : d.tyN = some n) : eIsiT ["list", "tuple"] (eVar i) E = Rs.ok (Vl.dv (D.bl (n == "list" || n == "tuple"))) E := by
  unfold eIsiT
  rw [z_var, hE]
  show (match d.tyN with
      | some n => if (["list", "tuple"].all fun m => tyNs.contains m) = true ∧ ["list", "tuple"].length ≤ 7 then Rs.ok (Vl.dv (D.bl (["list", "tuple"].any fun m => subT n m))) E else .er
      | none => .er) = _
  rw [hd]
  dsimp only
  rw [if_pos (by decide +kernel)]
  have hn := tyn_mem hd
  have key : ∀ n ∈ tyNs, (["list", "tuple"].any fun m => subT n m) = (n == "list" || n == "tuple") := by decide +kernel
  rw [key n hn]
theorem rg_true {n : Nat} (h : n ≤ 100000) {E : Sv} : eRg true 1 ((n : Int) + 1) E = .ok (.fr (.lst ((rgI 1 n).map D.int))) E := by
  have e : ((n : Int) + 1 - 1).toNat = n := by omega
  unfold eRg
  rw [if_pos (by unfold rgOk; exact decide_eq_true ⟨by omega, by omega, by omega, by omega, by omega⟩), if_pos rfl, e]
theorem is_row_core (x : D) (ns : List Int) (hx : x = LI ns ∨ x = TI ns) (hr : IsRow ns) : ev_Arrangement_is_row [x] = .ok (.bl true) false [] := by
  have hL : LIM = 1000000 := rfl
  have h1 := hr.1
  have h2 := hr.2.1
  have d1 : decide ((1 : Int) ≤ (ns.length : Int)) = true := decide_eq_true (by omega)
  have d2 : decide ((ns.length : Int) ≤ 2000) = true := decide_eq_true (by omega)
  have al : fAll (.lst (ns.map fun _ => D.bl ((fun _ => true) ()))) = some (.bl (ns.all fun _ => true), false) := all_map (p := fun _ => true)
  have al2 : (ns.all fun _ => true) = true := by simp
  have l1 := row_lc1 x ns (by omega)
  have l2 := row_lc2 x ns (by omega)
  have rg : ∀ E, eRg true 1 ((ns.length : Int) + 1) E = .ok (.fr (.lst ((rgI 1 ns.length).map D.int))) E := fun E => rg_true (by omega)
  unfold ev_Arrangement_is_row
  rcases hx with rfl | rfl
  · have t1 : eIsiT ["list", "tuple"] (eVar 0) [pS (LI ns), none] = .ok (.dv (.bl true)) [pS (LI ns), none] := isLT (d := LI ns) rfl rfl
    simp -implicitDefEqProofs only [zz, if_true, if_false, List.getElem?_cons_zero, List.getElem?_cons_succ, List.set_cons_zero, List.set_cons_succ, List.map_cons, List.map_nil, List.length_cons, List.length_nil, List.cons_append, List.nil_append, List.append_nil, Option.map_some, Option.map_none, Bool.not_true, Bool.not_false, decide_true, decide_false, reduceIte, Nat.zero_add, Nat.reduceAdd, Nat.reduceSub, List.replicate_succ, List.replicate_zero, List.mem_cons, List.not_mem_nil, or_false, or_true, false_or, true_or, Nat.reduceEqDiff, Bool.false_eq_true, reduceCtorEq, Bool.true_and, Bool.and_true, Bool.and_self, Bool.and_false, Bool.false_and, Bool.or_true, Bool.true_or, Bool.or_false, Bool.false_or, Option.getD_some, Option.getD_none, and_true, true_and, and_self, List.contains_iff_mem, eq_self, ite_true, ite_false, t1, le_i, lenLI, d1, d2, l1, al, al2, l2, sorted_LI, srt_row hr, add_i, rg, eq_LI]
  · have t1 : eIsiT ["list", "tuple"] (eVar 0) [pS (TI ns), none] = .ok (.dv (.bl true)) [pS (TI ns), none] := isLT (d := TI ns) rfl rfl
    simp -implicitDefEqProofs only [zz, if_true, if_false, List.getElem?_cons_zero, List.getElem?_cons_succ, List.set_cons_zero, List.set_cons_succ, List.map_cons, List.map_nil, List.length_cons, List.length_nil, List.cons_append, List.nil_append, List.append_nil, Option.map_some, Option.map_none, Bool.not_true, Bool.not_false, decide_true, decide_false, reduceIte, Nat.zero_add, Nat.reduceAdd, Nat.reduceSub, List.replicate_succ, List.replicate_zero, List.mem_cons, List.not_mem_nil, or_false, or_true, false_or, true_or, Nat.reduceEqDiff, Bool.false_eq_true, reduceCtorEq, Bool.true_and, Bool.and_true, Bool.and_self, Bool.and_false, Bool.false_and, Bool.or_true, Bool.true_or, Bool.or_false, Bool.false_or, Option.getD_some, Option.getD_none, and_true, true_and, and_self, List.contains_iff_mem, eq_self, ite_true, ite_false, t1, le_i, lenTI, d1, d2, l1, al, al2, l2, sorted_LI, srt_row hr, add_i, rg, eq_LI]
theorem init_ok (x : D) (ns : List Int) (hx : x = LI ns ∨ x = TI ns) (hr : IsRow ns) : ev_Arrangement___init__ [.obj .arr [], x] = .ok .non false [AR ns] := by
  have h := is_row_core x ns hx hr
  unfold ev_Arrangement___init__
  have t : fTuple x = some (TI ns, false) := by rcases hx with rfl | rfl <;> rfl
  have p : putK [] 0 (TI ns) = some [TI ns] := rfl
  simp -implicitDefEqProofs only [zz, if_true, if_false, List.getElem?_cons_zero, List.getElem?_cons_succ, List.set_cons_zero, List.set_cons_succ, List.map_cons, List.map_nil, List.length_cons, List.length_nil, List.cons_append, List.nil_append, List.append_nil, Option.map_some, Option.map_none, Bool.not_true, Bool.not_false, decide_true, decide_false, reduceIte, Nat.zero_add, Nat.reduceAdd, Nat.reduceSub, List.replicate_succ, List.replicate_zero, List.mem_cons, List.not_mem_nil, or_false, or_true, false_or, true_or, Nat.reduceEqDiff, Bool.false_eq_true, reduceCtorEq, Bool.true_and, Bool.and_true, Bool.and_self, Bool.and_false, Bool.false_and, Bool.or_true, Bool.true_or, Bool.or_false, Bool.false_or, Option.getD_some, Option.getD_none, and_true, true_and, and_self, List.contains_iff_mem, eq_self, ite_true, ite_false, h, t, p]
end TV

set_option Elab.async false
set_option linter.all false
set_option maxRecDepth 100000
namespace TV
open PySem PySem.Spec PyProof.Rows L2 TC
/-! ### drawing -/
theorem ix_l2a {a b : D} : fIx (.lst [a, b]) (.int 0) = some (a, false) := rfl
theorem ix_l2b {a b : D} : fIx (.lst [a, b]) (.int 1) = some (b, false) := rfl
theorem set_l2a {a b c : D} : fSetL (.lst [a, b]) (.int 0) c = some (.lst [c, b]) := rfl
theorem set_l2b {a b c : D} : fSetL (.lst [a, b]) (.int 1) c = some (.lst [a, c]) := rfl
theorem pow_i {a b c : Int} (h : 0 ≤ b ∧ b ≤ 1000000 ∧ a.natAbs < 2 ^ 64) (e : a ^ b.toNat = c) : fPow (.int a) (.int b) = some (.int c, false) := by
  subst e
  unfold fPow fI
  dsimp only
  rw [if_pos h]
  rfl
def takeR (a b n : Int) : Int := if 0 < a then a % n else ((b * 48271 + 12345) % 2147483647) * ((b * 48271 + 12345) % 2147483647) % 2147483629 / 64 % n
def takeA (a n : Int) : Int := if 0 < a then a / n else a
def takeB (a b : Int) : Int := if 0 < a then b else (b * 48271 + 12345) % 2147483647
theorem take_ok (a b n : Int) (hn : 0 < n) (hl : n.natAbs.log2 < 9000) : ev_L_take [.lst [.int a, .int b], .int n] = .ok (.int (takeR a b n)) false [.lst [.int (takeA a n), .int (takeB a b)]] := by
  have m1 : (0 : Int) < 2147483647 := by decide
  have m2 : (0 : Int) < 2147483629 := by decide
  have m3 : (0 : Int) < 64 := by decide
  have l3 : (64 : Int).natAbs.log2 < 9000 := by decide +kernel
  have k1 : ∀ b : Int, mulOk b 48271 = true := fun b => mulOk_r (by decide) (by decide)
  have k2 : ∀ b c : Int, mulOk (b % 2147483647) c = true := fun b c => mulOk_l (emod_64 m1 (by decide)).1 (emod_64 m1 (by decide)).2
  unfold ev_L_take takeR takeA takeB
  by_cases h : 0 < a
  · simp -implicitDefEqProofs only [zz, if_true, if_false, List.getElem?_cons_zero, List.getElem?_cons_succ, List.set_cons_zero, List.set_cons_succ, List.map_cons, List.map_nil, List.length_cons, List.length_nil, List.cons_append, List.nil_append, List.append_nil, Option.map_some, Option.map_none, Bool.not_true, Bool.not_false, decide_true, decide_false, reduceIte, Nat.zero_add, Nat.reduceAdd, Nat.reduceSub, List.replicate_succ, List.replicate_zero, List.mem_cons, List.not_mem_nil, or_false, or_true, false_or, true_or, Nat.reduceEqDiff, Bool.false_eq_true, reduceCtorEq, Bool.true_and, Bool.and_true, Bool.and_self, Bool.and_false, Bool.false_and, Bool.or_true, Bool.true_or, Bool.or_false, Bool.false_or, Option.getD_some, Option.getD_none, and_true, true_and, and_self, List.contains_iff_mem, eq_self, ite_true, ite_false, ix_l2a, ix_l2b, gt_i, mul_i (k1 _), mul_i (k2 _ _), add_i, set_l2a, set_l2b, mod_i hn, div_i hn hl, h]
  · simp -implicitDefEqProofs only [zz, if_true, if_false, List.getElem?_cons_zero, List.getElem?_cons_succ, List.set_cons_zero, List.set_cons_succ, List.map_cons, List.map_nil, List.length_cons, List.length_nil, List.cons_append, List.nil_append, List.append_nil, Option.map_some, Option.map_none, Bool.not_true, Bool.not_false, decide_true, decide_false, reduceIte, Nat.zero_add, Nat.reduceAdd, Nat.reduceSub, List.replicate_succ, List.replicate_zero, List.mem_cons, List.not_mem_nil, or_false, or_true, false_or, true_or, Nat.reduceEqDiff, Bool.false_eq_true, reduceCtorEq, Bool.true_and, Bool.and_true, Bool.and_self, Bool.and_false, Bool.false_and, Bool.or_true, Bool.true_or, Bool.or_false, Bool.false_or, Option.getD_some, Option.getD_none, and_true, true_and, and_self, List.contains_iff_mem, eq_self, ite_true, ite_false, ix_l2a, ix_l2b, gt_i, mul_i (k1 _), mul_i (k2 _ _), add_i, set_l2a, set_l2b, mod_i m1, mod_i m2, div_i m3 l3, mod_i hn, h]
theorem takeR_range (a b n : Int) (hn : 0 < n) : 0 ≤ takeR a b n ∧ takeR a b n < n := by
  unfold takeR
  split
  · exact ⟨Int.emod_nonneg _ (Int.ne_of_gt hn), Int.emod_lt_of_pos _ hn⟩
  · exact ⟨Int.emod_nonneg _ (Int.ne_of_gt hn), Int.emod_lt_of_pos _ hn⟩
def zTk (i : Nat) (n : Int) (E : Sv) : Option (Option Sl) → Rs Vl
  | some (some (.val .own (.lst [.int a, .int b]))) => .ok (.dv (.int (takeR a b n))) (E.set i (oS (.lst [.int (takeA a n), .int (takeB a b)])))
  | some (some (.val .prm (.lst [.int a, .int b]))) => .ok (.dv (.int (takeR a b n))) (E.set i (some (.val .prm (.lst [.int (takeA a n), .int (takeB a b)]))))
  | _ => callE 2 [0] ev_L_take [.loc i, .dv (.int n)] E
theorem zt_take {i : Nat} {n : Int} {E : Sv} (hn : 0 < n) (hl : n.natAbs.log2 < 9000) : callE 2 [0] ev_L_take [.loc i, .dv (.int n)] E = zTk i n E E[i]? := by
  unfold zTk
  split
  · rename_i a b h
    exact call_mut0 (ds := [.int n]) h (by decide) rfl (take_ok a b n hn hl)
  · rename_i a b h
    exact call_mut0 (ds := [.int n]) h (by decide) rfl (take_ok a b n hn hl)
  · rfl
theorem zt_take1 {i : Nat} {n a b : Int} {E : Sv} : zTk i n E (some (some (.val .own (.lst [.int a, .int b])))) = .ok (.dv (.int (takeR a b n))) (E.set i (oS (.lst [.int (takeA a n), .int (takeB a b)]))) := rfl
theorem zt_take2 {i : Nat} {n a b : Int} {E : Sv} : zTk i n E (some (some (.val .prm (.lst [.int a, .int b])))) = .ok (.dv (.int (takeR a b n))) (E.set i (some (.val .prm (.lst [.int (takeA a n), .int (takeB a b)])))) := rfl
def plMix (c : Int) (k : Nat) : Int := (c % 2147483629 + 7919 * (k : Int) * k + 31 * (k : Int) + 17) * 48271 % 2147483647
def plA (c : Int) : Int := c * (if decide (1000000000000000000 ≤ c) = true then 1 else 0)
def plB (c : Int) (k : Nat) : Int := plMix c k * plMix c k % 2147483629
def plC (ns : List Int) (k : Nat) : Int := if k < ns.length then (if ns.getD k 0 < 0 then -ns.getD k 0 else ns.getD k 0) else 0
theorem pool_ok (ns : List Int) (k : Nat) (hk : k < 1000) : ev_L_pool [.scr ns, .int k] = .ok (.lst [.int (plA (plC ns k)), .int (plB (plC ns k) k)]) true [] := by
  have m1 : (0 : Int) < 2147483647 := by decide
  have m2 : (0 : Int) < 2147483629 := by decide
  have p1 : fPow (.int 10) (.int 18) = some (.int 1000000000000000000, false) := pow_i (by decide) (by decide)
  have k1 : ∀ c : Int, mulOk (7919 : Int) c = true := fun c => mulOk_l (by decide) (by decide)
  have k3 : ∀ c : Int, mulOk (31 : Int) c = true := fun c => mulOk_l (by decide) (by decide)
  have k4 : ∀ c : Int, mulOk c (48271 : Int) = true := fun c => mulOk_r (by decide) (by decide)
  have k5 : ∀ c : Int, mulOk (c % 2147483647) (c % 2147483647) = true := fun c => mulOk_l (emod_64 m1 (by decide)).1 (emod_64 m1 (by decide)).2
  have k6 : ∀ c : Int, mulOk (7919 * (k : Int)) c = true := fun c => mulOk_l (by omega) (by omega)
  have k7 : ∀ (c : Int) (b : Bool), mulOk c (if b = true then 1 else 0) = true := fun c b => by cases b <;> exact mulOk_r (by decide) (by decide)
  have g1 : ∀ b, fInt1 (.bl b) = some (.int (if b = true then 1 else 0), false) := fun b => rfl
  have g2 : ∀ i, fAbs (.int i) = some (.int (if i < 0 then -i else i), false) := fun b => rfl
  have l1 : fLen (.scr ns) = some (.int ns.length, false) := rfl
  unfold ev_L_pool plA plB plMix plC
  by_cases h : k < ns.length
  · have e1 : decide ((k : Int) < (ns.length : Int)) = true := decide_eq_true (by omega)
    have e2 : fIx (.scr ns) (.int k) = some (.int (ns.getD k 0), false) := ix_s (atI_nat (by rw [List.getD_eq_getElem?_getD, List.getElem?_eq_getElem h]; rfl))
    simp -implicitDefEqProofs only [zz, if_true, if_false, List.getElem?_cons_zero, List.getElem?_cons_succ, List.set_cons_zero, List.set_cons_succ, List.map_cons, List.map_nil, List.length_cons, List.length_nil, List.cons_append, List.nil_append, List.append_nil, Option.map_some, Option.map_none, Bool.not_true, Bool.not_false, decide_true, decide_false, reduceIte, Nat.zero_add, Nat.reduceAdd, Nat.reduceSub, List.replicate_succ, List.replicate_zero, List.mem_cons, List.not_mem_nil, or_false, or_true, false_or, true_or, Nat.reduceEqDiff, Bool.false_eq_true, reduceCtorEq, Bool.true_and, Bool.and_true, Bool.and_self, Bool.and_false, Bool.false_and, Bool.or_true, Bool.true_or, Bool.or_false, Bool.false_or, Option.getD_some, Option.getD_none, and_true, true_and, and_self, List.contains_iff_mem, eq_self, ite_true, ite_false, l1, lt_i, e1, e2, g1, g2, p1, mod_i m1, mod_i m2, add_i, mul_i (k1 _), mul_i (k3 _), mul_i (k4 _), mul_i (k5 _), mul_i (k6 _), mul_i (k7 _ _), ge_i, h]
  · have e1 : decide ((k : Int) < (ns.length : Int)) = false := decide_eq_false (by omega)
    simp -implicitDefEqProofs only [zz, if_true, if_false, List.getElem?_cons_zero, List.getElem?_cons_succ, List.set_cons_zero, List.set_cons_succ, List.map_cons, List.map_nil, List.length_cons, List.length_nil, List.cons_append, List.nil_append, List.append_nil, Option.map_some, Option.map_none, Bool.not_true, Bool.not_false, decide_true, decide_false, reduceIte, Nat.zero_add, Nat.reduceAdd, Nat.reduceSub, List.replicate_succ, List.replicate_zero, List.mem_cons, List.not_mem_nil, or_false, or_true, false_or, true_or, Nat.reduceEqDiff, Bool.false_eq_true, reduceCtorEq, Bool.true_and, Bool.and_true, Bool.and_self, Bool.and_false, Bool.false_and, Bool.or_true, Bool.true_or, Bool.or_false, Bool.false_or, Option.getD_some, Option.getD_none, and_true, true_and, and_self, List.contains_iff_mem, eq_self, ite_true, ite_false, l1, lt_i, e1, g1, g2, p1, mod_i m1, mod_i m2, add_i, mul_i (k1 _), mul_i (k3 _), mul_i (k4 _), mul_i (k5 _), mul_i (k6 _), mul_i (k7 _ _), ge_i, h]
theorem log2_small {n : Int} (h0 : 0 < n) (h1 : n < 4096) : n.natAbs.log2 < 9000 := by
  rw [Nat.log2_lt (by omega)]
  have : (4096 : Nat) ≤ 2 ^ 9000 := Nat.le_trans (show (4096 : Nat) ≤ 2 ^ 12 by decide) (Nat.pow_le_pow_right (by decide) (by decide))
  omega
/-! ### a drawn row -/
theorem cutLI_to {ns : List Int} {k : Nat} (h : k ≤ ns.length) : fSl none (some (k : Int)) (LI ns) = some (LI (ns.take k), true) := by
  show some (D.lst (cutG (ns.map D.int) none (some (k : Int))), true) = _
  rw [cut_to (by rw [List.length_map]; exact h)]
  unfold LI
  rw [List.map_take]
theorem cutLI_from {ns : List Int} {k : Nat} (h : k ≤ ns.length) : fSl (some (k : Int)) none (LI ns) = some (LI (ns.drop k), true) := by
  show some (D.lst (cutG (ns.map D.int) (some (k : Int)) none), true) = _
  rw [cut_from (by rw [List.length_map]; exact h)]
  unfold LI
  rw [List.map_drop]
theorem map_erase {α β : Type} (f : α → β) : ∀ (l : List α) (i : Nat), (l.map f).eraseIdx i = (l.eraseIdx i).map f
  | [], _ => rfl
  | a :: l, 0 => rfl
  | a :: l, i + 1 => by rw [List.map_cons, List.eraseIdx_cons_succ, List.eraseIdx_cons_succ, List.map_cons, map_erase f l i]
theorem popLI {ns : List Int} {a : Int} (h0 : 0 ≤ a) (h1 : a < ns.length) (h2 : ns.length ≤ LIM) : mPopAt (LI ns) [.int a] = some (LI (ns.eraseIdx a.toNat), .int (ns.getD a.toNat 0)) := by
  show (if 0 ≤ a ∧ a < (ns.map D.int).length ∧ (ns.map D.int).length ≤ LIM then ((ns.map D.int)[a.toNat]?).map fun z => (D.lst ((ns.map D.int).eraseIdx a.toNat), z) else none) = _
  rw [List.length_map, if_pos ⟨h0, h1, h2⟩, List.getElem?_map, List.getElem?_eq_getElem (by omega), List.getD_eq_getElem?_getD, List.getElem?_eq_getElem (by omega)]
  show some (D.lst ((ns.map D.int).eraseIdx a.toNat), D.int _) = some (D.lst ((ns.eraseIdx a.toNat).map D.int), D.int _)
  rw [map_erase]
  rfl
theorem perm_erase : ∀ {l : List Int} {k : Nat} (h : k < l.length), (l[k] :: l.eraseIdx k).Perm l
  | a :: l, 0, _ => .refl _
  | a :: l, k + 1, h => by
    have := perm_erase (l := l) (k := k) (by simpa using h)
    exact (List.Perm.swap _ _ _).trans (this.cons a)
def RowInv (n : Nat) (left found : List Int) : Prop := (left ++ found.map absI).Perm (rgI 1 n) ∧ left.length + found.length = n
abbrev poolD (a b : Int) : D := .lst [.int a, .int b]
theorem row_body (n : Nat) (hn : n ≤ 100) (a b way : Int) (left found : List Int) (hl : left ≠ []) (hi : RowInv n left found) (x1 j5 j6 j7 : Option Sl) : ∃ a' b' left' found' j5' j6', RowInv n left' found' ∧ left'.length < left.length ∧ ev_L_row_b1 [some (.val .prm (poolD a b)), x1, oS (LI left), oS (LI found), pS (.int way), j5, j6, j7] = .nx [some (.val .prm (poolD a' b')), x1, oS (LI left'), oS (LI found'), pS (.int way), j5', j6', j7] := by
  have hL : LIM = 1000000 := rfl
  have hlen := hi.2
  have hpos : 0 < left.length := List.length_pos_iff.mpr hl
  have step : ∀ (i : Int) (s : Int), 0 ≤ i → i < left.length → (s = left.getD i.toNat 0 ∨ s = -left.getD i.toNat 0) → RowInv n (left.eraseIdx i.toNat) (found ++ [s]) ∧ (left.eraseIdx i.toNat).length < left.length := by
    intro i s h0 h1 hs
    have hlt : i.toNat < left.length := by omega
    have e0 : left.getD i.toNat 0 = left[i.toNat] := by rw [List.getD_eq_getElem?_getD, List.getElem?_eq_getElem hlt]; rfl
    have hm : 0 < left[i.toNat] := by
      have : left[i.toNat] ∈ rgI 1 n := hi.1.subset (List.mem_append_left _ (List.getElem_mem hlt))
      have := (mem_rgI.mp this).1
      omega
    have ha : absI s = left[i.toNat] := by
      rw [e0] at hs
      unfold absI
      rcases hs with rfl | rfl
      · rw [if_neg (by omega)]
      · rw [if_pos (by omega)]; omega
    refine ⟨⟨?_, ?_⟩, ?_⟩
    · rw [List.map_append, List.map_cons, List.map_nil, ha]
      have p1 : (left.eraseIdx i.toNat ++ (found.map absI ++ [left[i.toNat]])).Perm (left[i.toNat] :: (left.eraseIdx i.toNat ++ found.map absI)) := by
        rw [← List.append_assoc]
        exact List.perm_append_singleton _ _
      exact p1.trans (((perm_erase hlt).append_right _).trans hi.1)
    · rw [List.length_eraseIdx_of_lt hlt, List.length_append, List.length_singleton]; omega
    · rw [List.length_eraseIdx_of_lt hlt]; omega
  -- the place that is taken
  have core : ∀ (a b i : Int) (hi0 : 0 ≤ i) (hi1 : i < left.length) (E : Sv), E = [some (.val .prm (poolD a b)), x1, oS (LI (left.eraseIdx i.toNat)), oS (LI found), pS (.int way), pS (.int (left.getD i.toNat 0)), j6, j7] →
      ∃ a' b' found' j5' j6', RowInv n (left.eraseIdx i.toNat) found' ∧ sSeq (sAsg (eCall 2 [0] ev_L_take (aCons (eVar 0) (aCons (eIf (eTB (eOp fEq (eVar 4) (eC (.int 1)))) (eC (.int 3)) (eC (.int 2))) aNil))) 6)
        (sDrop (eMt mAppend isLst 3 (aCons (eIf (eTOr (eTB (eOp fGt (eVar 6) (eC (.int 0)))) (eTB (eOp fEq (eVar 4) (eC (.int 4))))) (eVar 5) (eUn fNeg (eVar 5))) aNil))) E = .nx [some (.val .prm (poolD a' b')), x1, oS (LI (left.eraseIdx i.toNat)), oS (LI found'), pS (.int way), j5', j6', j7] := by
    intro a b i h0 h1 E hE
    subst hE
    have s1 := (step i _ h0 h1 (.inl rfl)).1
    have s2 := (step i _ h0 h1 (.inr rfl)).1
    have ap : ∀ z, mAppend (LI found) [.int z] = some (LI (found ++ [z]), .non) := fun z => appLI (by omega)
    have go : ∀ m : Int, (m = 3 ∨ m = 2) → ∃ a' b' found' j5' j6', RowInv n (left.eraseIdx i.toNat) found' ∧ sDrop (eMt mAppend isLst 3 (aCons (eIf (eTOr (eTB (eOp fGt (eVar 6) (eC (.int 0)))) (eTB (eOp fEq (eVar 4) (eC (.int 4))))) (eVar 5) (eUn fNeg (eVar 5))) aNil)) [some (.val .prm (poolD (takeA a m) (takeB a b))), x1, oS (LI (left.eraseIdx i.toNat)), oS (LI found), pS (.int way), pS (.int (left.getD i.toNat 0)), pS (.int (takeR a b m)), j7] = .nx [some (.val .prm (poolD a' b')), x1, oS (LI (left.eraseIdx i.toNat)), oS (LI found'), pS (.int way), j5', j6', j7] := by
      intro m hm
      by_cases hc : (0 < takeR a b m) ∨ way = 4
      · refine ⟨takeA a m, takeB a b, found ++ [left.getD i.toNat 0], pS (.int (left.getD i.toNat 0)), pS (.int (takeR a b m)), s1, ?_⟩
        rcases hc with hc | hc
        · simp -implicitDefEqProofs only [zz, if_true, if_false, List.getElem?_cons_zero, List.getElem?_cons_succ, List.set_cons_zero, List.set_cons_succ, List.map_cons, List.map_nil, List.length_cons, List.length_nil, List.cons_append, List.nil_append, List.append_nil, Option.map_some, Option.map_none, Bool.not_true, Bool.not_false, decide_true, decide_false, reduceIte, Nat.zero_add, Nat.reduceAdd, Nat.reduceSub, List.replicate_succ, List.replicate_zero, List.mem_cons, List.not_mem_nil, or_false, or_true, false_or, true_or, Nat.reduceEqDiff, Bool.false_eq_true, reduceCtorEq, Bool.true_and, Bool.and_true, Bool.and_self, Bool.and_false, Bool.false_and, Bool.or_true, Bool.true_or, Bool.or_false, Bool.false_or, Option.getD_some, Option.getD_none, and_true, true_and, and_self, List.contains_iff_mem, eq_self, ite_true, ite_false, gt_i, hc, ap]
        · by_cases hd : 0 < takeR a b m
          · simp -implicitDefEqProofs only [zz, if_true, if_false, List.getElem?_cons_zero, List.getElem?_cons_succ, List.set_cons_zero, List.set_cons_succ, List.map_cons, List.map_nil, List.length_cons, List.length_nil, List.cons_append, List.nil_append, List.append_nil, Option.map_some, Option.map_none, Bool.not_true, Bool.not_false, decide_true, decide_false, reduceIte, Nat.zero_add, Nat.reduceAdd, Nat.reduceSub, List.replicate_succ, List.replicate_zero, List.mem_cons, List.not_mem_nil, or_false, or_true, false_or, true_or, Nat.reduceEqDiff, Bool.false_eq_true, reduceCtorEq, Bool.true_and, Bool.and_true, Bool.and_self, Bool.and_false, Bool.false_and, Bool.or_true, Bool.true_or, Bool.or_false, Bool.false_or, Option.getD_some, Option.getD_none, and_true, true_and, and_self, List.contains_iff_mem, eq_self, ite_true, ite_false, gt_i, hd, ap]
          · simp -implicitDefEqProofs only [zz, if_true, if_false, List.getElem?_cons_zero, List.getElem?_cons_succ, List.set_cons_zero, List.set_cons_succ, List.map_cons, List.map_nil, List.length_cons, List.length_nil, List.cons_append, List.nil_append, List.append_nil, Option.map_some, Option.map_none, Bool.not_true, Bool.not_false, decide_true, decide_false, reduceIte, Nat.zero_add, Nat.reduceAdd, Nat.reduceSub, List.replicate_succ, List.replicate_zero, List.mem_cons, List.not_mem_nil, or_false, or_true, false_or, true_or, Nat.reduceEqDiff, Bool.false_eq_true, reduceCtorEq, Bool.true_and, Bool.and_true, Bool.and_self, Bool.and_false, Bool.false_and, Bool.or_true, Bool.true_or, Bool.or_false, Bool.false_or, Option.getD_some, Option.getD_none, and_true, true_and, and_self, List.contains_iff_mem, eq_self, ite_true, ite_false, gt_i, hd, eq_i, hc, ap]
      · refine ⟨takeA a m, takeB a b, found ++ [-left.getD i.toNat 0], pS (.int (left.getD i.toNat 0)), pS (.int (takeR a b m)), s2, ?_⟩
        have hd : ¬ 0 < takeR a b m := fun z => hc (.inl z)
        have hw : ¬ way = 4 := fun z => hc (.inr z)
        simp -implicitDefEqProofs only [zz, if_true, if_false, List.getElem?_cons_zero, List.getElem?_cons_succ, List.set_cons_zero, List.set_cons_succ, List.map_cons, List.map_nil, List.length_cons, List.length_nil, List.cons_append, List.nil_append, List.append_nil, Option.map_some, Option.map_none, Bool.not_true, Bool.not_false, decide_true, decide_false, reduceIte, Nat.zero_add, Nat.reduceAdd, Nat.reduceSub, List.replicate_succ, List.replicate_zero, List.mem_cons, List.not_mem_nil, or_false, or_true, false_or, true_or, Nat.reduceEqDiff, Bool.false_eq_true, reduceCtorEq, Bool.true_and, Bool.and_true, Bool.and_self, Bool.and_false, Bool.false_and, Bool.or_true, Bool.true_or, Bool.or_false, Bool.false_or, Option.getD_some, Option.getD_none, and_true, true_and, and_self, List.contains_iff_mem, eq_self, ite_true, ite_false, gt_i, hd, eq_i, hw, neg_i, ap]
    by_cases hw : way = 1
    · obtain ⟨a', b', f', q5, q6, h2, h3⟩ := go 3 (.inl rfl)
      refine ⟨a', b', f', q5, q6, h2, ?_⟩
      rw [z_sq, z_ag, z_ec]
      rw [← h3]
      subst hw
      simp -implicitDefEqProofs only [zz, if_true, if_false, List.getElem?_cons_zero, List.getElem?_cons_succ, List.set_cons_zero, List.set_cons_succ, List.map_cons, List.map_nil, List.length_cons, List.length_nil, List.cons_append, List.nil_append, List.append_nil, Option.map_some, Option.map_none, Bool.not_true, Bool.not_false, decide_true, decide_false, reduceIte, Nat.zero_add, Nat.reduceAdd, Nat.reduceSub, List.replicate_succ, List.replicate_zero, List.mem_cons, List.not_mem_nil, or_false, or_true, false_or, true_or, Nat.reduceEqDiff, Bool.false_eq_true, reduceCtorEq, Bool.true_and, Bool.and_true, Bool.and_self, Bool.and_false, Bool.false_and, Bool.or_true, Bool.true_or, Bool.or_false, Bool.false_or, Option.getD_some, Option.getD_none, and_true, true_and, and_self, List.contains_iff_mem, eq_self, ite_true, ite_false, eq_i, zt_take (n := 3) (by decide) (by decide +kernel), zt_take2]
    · obtain ⟨a', b', f', q5, q6, h2, h3⟩ := go 2 (.inr rfl)
      refine ⟨a', b', f', q5, q6, h2, ?_⟩
      rw [z_sq, z_ag, z_ec]
      rw [← h3]
      simp -implicitDefEqProofs only [zz, if_true, if_false, List.getElem?_cons_zero, List.getElem?_cons_succ, List.set_cons_zero, List.set_cons_succ, List.map_cons, List.map_nil, List.length_cons, List.length_nil, List.cons_append, List.nil_append, List.append_nil, Option.map_some, Option.map_none, Bool.not_true, Bool.not_false, decide_true, decide_false, reduceIte, Nat.zero_add, Nat.reduceAdd, Nat.reduceSub, List.replicate_succ, List.replicate_zero, List.mem_cons, List.not_mem_nil, or_false, or_true, false_or, true_or, Nat.reduceEqDiff, Bool.false_eq_true, reduceCtorEq, Bool.true_and, Bool.and_true, Bool.and_self, Bool.and_false, Bool.false_and, Bool.or_true, Bool.true_or, Bool.or_false, Bool.false_or, Option.getD_some, Option.getD_none, and_true, true_and, and_self, List.contains_iff_mem, eq_self, ite_true, ite_false, eq_i, hw, zt_take (n := 2) (by decide) (by decide +kernel), zt_take2]
  unfold ev_L_row_b1
  by_cases hw : way < 3
  · have tr := takeR_range a b left.length (by omega)
    obtain ⟨a', b', f', q5, q6, h2, h3⟩ := core (takeA a left.length) (takeB a b) (takeR a b left.length) tr.1 tr.2 _ rfl
    refine ⟨a', b', _, f', q5, q6, h2, (step _ _ tr.1 tr.2 (.inl rfl)).2, ?_⟩
    rw [← h3, z_sq]
    have pp := popLI (ns := left) tr.1 tr.2 (by omega)
    simp -implicitDefEqProofs only [zz, if_true, if_false, List.getElem?_cons_zero, List.getElem?_cons_succ, List.set_cons_zero, List.set_cons_succ, List.map_cons, List.map_nil, List.length_cons, List.length_nil, List.cons_append, List.nil_append, List.append_nil, Option.map_some, Option.map_none, Bool.not_true, Bool.not_false, decide_true, decide_false, reduceIte, Nat.zero_add, Nat.reduceAdd, Nat.reduceSub, List.replicate_succ, List.replicate_zero, List.mem_cons, List.not_mem_nil, or_false, or_true, false_or, true_or, Nat.reduceEqDiff, Bool.false_eq_true, reduceCtorEq, Bool.true_and, Bool.and_true, Bool.and_self, Bool.and_false, Bool.false_and, Bool.or_true, Bool.true_or, Bool.or_false, Bool.false_or, Option.getD_some, Option.getD_none, and_true, true_and, and_self, List.contains_iff_mem, eq_self, ite_true, ite_false, lt_i, hw, lenLI, zt_take (n := (left.length : Int)) (by omega) (log2_small (by omega) (by omega)), zt_take2, pp]
  · obtain ⟨a', b', f', q5, q6, h2, h3⟩ := core a b 0 (by decide) (by omega) _ rfl
    refine ⟨a', b', _, f', q5, q6, h2, (step 0 _ (by decide) (by omega) (.inl rfl)).2, ?_⟩
    rw [← h3, z_sq]
    have pp := popLI (ns := left) (a := 0) (by decide) (by omega) (by omega)
    simp -implicitDefEqProofs only [zz, if_true, if_false, List.getElem?_cons_zero, List.getElem?_cons_succ, List.set_cons_zero, List.set_cons_succ, List.map_cons, List.map_nil, List.length_cons, List.length_nil, List.cons_append, List.nil_append, List.append_nil, Option.map_some, Option.map_none, Bool.not_true, Bool.not_false, decide_true, decide_false, reduceIte, Nat.zero_add, Nat.reduceAdd, Nat.reduceSub, List.replicate_succ, List.replicate_zero, List.mem_cons, List.not_mem_nil, or_false, or_true, false_or, true_or, Nat.reduceEqDiff, Bool.false_eq_true, reduceCtorEq, Bool.true_and, Bool.and_true, Bool.and_self, Bool.and_false, Bool.false_and, Bool.or_true, Bool.true_or, Bool.or_false, Bool.false_or, Option.getD_some, Option.getD_none, and_true, true_and, and_self, List.contains_iff_mem, eq_self, ite_true, ite_false, lt_i, hw, pp]
end TV

set_option Elab.async false
set_option linter.all false
set_option maxRecDepth 100000
namespace TV
open PySem PySem.Spec PyProof.Rows L2 TC
theorem ne_nil {ns : List Int} : fNe (LI ns) (.lst []) = some (.bl (!decide (ns = [])), false) := ne_LI (ms := [])
theorem split2 {ns : List Int} {k : Nat} (h : k + 1 < ns.length) : ns = ns.take k ++ (ns.getD k 0 :: ns.getD (k + 1) 0 :: ns.drop (k + 2)) := by
  have e1 : ns.getD k 0 = ns[k] := by rw [List.getD_eq_getElem?_getD, List.getElem?_eq_getElem (by omega)]; rfl
  have e2 : ns.getD (k + 1) 0 = ns[k + 1] := by rw [List.getD_eq_getElem?_getD, List.getElem?_eq_getElem h]; rfl
  rw [e1, e2, ← List.drop_eq_getElem_cons h, ← List.drop_eq_getElem_cons (by omega), List.take_append_drop]
def swapAt (ns : List Int) (k : Nat) : List Int := ns.take k ++ [ns.getD (k + 1) 0, ns.getD k 0] ++ ns.drop (k + 2)
theorem swap_perm {ns : List Int} {k : Nat} (h : k + 1 < ns.length) : (swapAt ns k).Perm ns := by
  conv => rhs; rw [split2 h]
  unfold swapAt
  rw [List.append_assoc]
  exact (List.Perm.swap _ _ _).append_left _
theorem row_while (n : Nat) (hn : n ≤ 100) (a b way : Int) (left found : List Int) (hi : RowInv n left found) (x1 j5 j6 j7 : Option Sl) : ∃ a' b' found' j5' j6', RowInv n [] found' ∧ eWhile ev_L_row_c1 ev_L_row_b1 1000000 [some (.val .prm (poolD a b)), x1, oS (LI left), oS (LI found), pS (.int way), j5, j6, j7] = .nx [some (.val .prm (poolD a' b')), x1, oS (LI []), oS (LI found'), pS (.int way), j5', j6', j7] := by
  obtain ⟨E', h, a', b', found', j5', j6', rfl, hf⟩ := while_inv (c := ev_L_row_c1) (b := ev_L_row_b1) (n := 1000000) (k := left.length) (E := [some (.val .prm (poolD a b)), x1, oS (LI left), oS (LI found), pS (.int way), j5, j6, j7])
    (P := fun k E => ∃ a b left found j5 j6, E = [some (.val .prm (poolD a b)), x1, oS (LI left), oS (LI found), pS (.int way), j5, j6, j7] ∧ RowInv n left found ∧ left.length = k)
    (Q := fun E => ∃ a b found j5 j6, E = [some (.val .prm (poolD a b)), x1, oS (LI []), oS (LI found), pS (.int way), j5, j6, j7] ∧ RowInv n [] found)
    (by have := hi.2; omega) ⟨a, b, left, found, j5, j6, rfl, hi, rfl⟩ (by
      rintro k E ⟨a, b, left, found, j5, j6, rfl, hi, rfl⟩
      by_cases hl : left = []
      · subst hl
        refine .inl ⟨_, ?_, a, b, found, j5, j6, rfl, hi⟩
        unfold ev_L_row_c1
        simp -implicitDefEqProofs only [zz, if_true, if_false, List.getElem?_cons_zero, List.getElem?_cons_succ, List.set_cons_zero, List.set_cons_succ, List.map_cons, List.map_nil, List.length_cons, List.length_nil, List.cons_append, List.nil_append, List.append_nil, Option.map_some, Option.map_none, Bool.not_true, Bool.not_false, decide_true, decide_false, reduceIte, Nat.zero_add, Nat.reduceAdd, Nat.reduceSub, List.replicate_succ, List.replicate_zero, List.mem_cons, List.not_mem_nil, or_false, or_true, false_or, true_or, Nat.reduceEqDiff, Bool.false_eq_true, reduceCtorEq, Bool.true_and, Bool.and_true, Bool.and_self, Bool.and_false, Bool.false_and, Bool.or_true, Bool.true_or, Bool.or_false, Bool.false_or, Option.getD_some, Option.getD_none, and_true, true_and, and_self, List.contains_iff_mem, eq_self, ite_true, ite_false, ne_nil]
      · obtain ⟨a', b', left', found', j5', j6', h1, h2, h3⟩ := row_body n hn a b way left found hl hi x1 j5 j6 j7
        refine .inr ⟨_, _, left'.length, ?_, .inl h3, h2, a', b', left', found', j5', j6', rfl, h1, rfl⟩
        unfold ev_L_row_c1
        simp -implicitDefEqProofs only [zz, if_true, if_false, List.getElem?_cons_zero, List.getElem?_cons_succ, List.set_cons_zero, List.set_cons_succ, List.map_cons, List.map_nil, List.length_cons, List.length_nil, List.cons_append, List.nil_append, List.append_nil, Option.map_some, Option.map_none, Bool.not_true, Bool.not_false, decide_true, decide_false, reduceIte, Nat.zero_add, Nat.reduceAdd, Nat.reduceSub, List.replicate_succ, List.replicate_zero, List.mem_cons, List.not_mem_nil, or_false, or_true, false_or, true_or, Nat.reduceEqDiff, Bool.false_eq_true, reduceCtorEq, Bool.true_and, Bool.and_true, Bool.and_self, Bool.and_false, Bool.false_and, Bool.or_true, Bool.true_or, Bool.or_false, Bool.false_or, Option.getD_some, Option.getD_none, and_true, true_and, and_self, List.contains_iff_mem, eq_self, ite_true, ite_false, ne_nil, hl])
  exact ⟨a', b', found', j5', j6', hf, h⟩
theorem row_end {n : Nat} {found : List Int} (h1 : 1 ≤ n) (h2 : n ≤ 100) (h : RowInv n [] found) : IsRow found ∧ found.length = n := by
  have hl : found.length = n := by have := h.2; simpa using this
  refine ⟨⟨by omega, by omega, ?_⟩, hl⟩
  have := h.1
  rw [List.nil_append] at this
  rw [hl]
  exact this
theorem row_start (n : Nat) : RowInv n (rgI 1 n) [] := ⟨by rw [List.map_nil, List.append_nil], by rw [rgI_len]; rfl⟩
theorem isRow_perm {as bs : List Int} (h : as.Perm bs) (hb : IsRow bs) : IsRow as := by
  have hl := h.length_eq
  refine ⟨by have := hb.1; omega, by have := hb.2.1; omega, ?_⟩
  rw [hl]
  exact (h.map absI).trans hb.2.2
theorem lrow_ok (n : Nat) (h1 : 1 ≤ n) (h2 : n ≤ 100) (a b : Int) : ∃ a' b' ns, IsRow ns ∧ ns.length = n ∧ ev_L_row [poolD a b, .int n] = .ok (LI ns) true [poolD a' b'] := by
  have hL : LIM = 1000000 := rfl
  obtain ⟨a', b', found, j5, j6, hf, hw⟩ := row_while n h2 (takeA a 5) (takeB a b) (takeR a b 5) (rgI 1 n) [] (row_start n) (pS (.int n)) none none none
  obtain ⟨hr, hl⟩ := row_end h1 h2 hf
  have rg : ∀ E, eRg true 1 ((n : Int) + 1) E = .ok (.fr (.lst ((rgI 1 n).map D.int))) E := fun E => rg_true (by omega)
  generalize hway : takeR a b 5 = way at hw
  rw [show LI [] = .lst [] from rfl] at hw
  by_cases hc : way = 3 ∧ (2 : Int) < n
  · have d3 : decide (way = 3) = true := decide_eq_true hc.1
    have d4 : decide ((2 : Int) < n) = true := decide_eq_true hc.2
    have tr := takeR_range a' b' ((n : Int) - 1) (by omega)
    obtain ⟨k, hk⟩ := Int.eq_ofNat_of_zero_le tr.1
    have hkn : k + 1 < found.length := by omega
    refine ⟨takeA a' ((n : Int) - 1), takeB a' b', swapAt found k, isRow_perm (swap_perm hkn) hr, by rw [(swap_perm hkn).length_eq, hl], ?_⟩
    have c1 := cutLI_to (ns := found) (k := k) (by omega)
    have c2 := cutLI_from (ns := found) (k := k + 2) (by omega)
    have e1 : (k : Int) + 1 = ((k + 1 : Nat) : Int) := by omega
    have e2 : (k : Int) + 2 = ((k + 2 : Nat) : Int) := by omega
    have a1 : fAdd (LI (found.take k)) (.lst [.int (found.getD (k + 1) 0), .int (found.getD k 0)]) = some (LI (found.take k ++ [found.getD (k + 1) 0, found.getD k 0]), true) := addLI (ms := [_, _]) (by rw [List.length_take]; simp; omega)
    have a2 : fAdd (LI (found.take k ++ [found.getD (k + 1) 0, found.getD k 0])) (LI (found.drop (k + 2))) = some (LI (swapAt found k), true) := addLI (by simp; omega)
    unfold ev_L_row
    simp -implicitDefEqProofs only [zz, if_true, if_false, List.getElem?_cons_zero, List.getElem?_cons_succ, List.set_cons_zero, List.set_cons_succ, List.map_cons, List.map_nil, List.length_cons, List.length_nil, List.cons_append, List.nil_append, List.append_nil, Option.map_some, Option.map_none, Bool.not_true, Bool.not_false, decide_true, decide_false, reduceIte, Nat.zero_add, Nat.reduceAdd, Nat.reduceSub, List.replicate_succ, List.replicate_zero, List.mem_cons, List.not_mem_nil, or_false, or_true, false_or, true_or, Nat.reduceEqDiff, Bool.false_eq_true, reduceCtorEq, Bool.true_and, Bool.and_true, Bool.and_self, Bool.and_false, Bool.false_and, Bool.or_true, Bool.true_or, Bool.or_false, Bool.false_or, Option.getD_some, Option.getD_none, and_true, true_and, and_self, List.contains_iff_mem, eq_self, ite_true, ite_false, add_i, rg, hway, zt_take (n := 5) (by decide) (by decide +kernel), zt_take2, hw, eq_i, d3, gt_i, d4, sub_i, zt_take (n := (n : Int) - 1) (by omega) (log2_small (by omega) (by omega)), hk, c1, add_i, e1, e2, ixLn (ns := found) (i := k + 1) (by omega), ixLn (ns := found) (i := k) (by omega), a1, c2, a2]
  · refine ⟨a', b', found, hr, hl, ?_⟩
    unfold ev_L_row
    by_cases h3 : way = 3
    · have d3 : decide (way = 3) = true := decide_eq_true h3
      have d4 : decide ((2 : Int) < n) = false := decide_eq_false fun z => hc ⟨h3, z⟩
      simp -implicitDefEqProofs only [zz, if_true, if_false, List.getElem?_cons_zero, List.getElem?_cons_succ, List.set_cons_zero, List.set_cons_succ, List.map_cons, List.map_nil, List.length_cons, List.length_nil, List.cons_append, List.nil_append, List.append_nil, Option.map_some, Option.map_none, Bool.not_true, Bool.not_false, decide_true, decide_false, reduceIte, Nat.zero_add, Nat.reduceAdd, Nat.reduceSub, List.replicate_succ, List.replicate_zero, List.mem_cons, List.not_mem_nil, or_false, or_true, false_or, true_or, Nat.reduceEqDiff, Bool.false_eq_true, reduceCtorEq, Bool.true_and, Bool.and_true, Bool.and_self, Bool.and_false, Bool.false_and, Bool.or_true, Bool.true_or, Bool.or_false, Bool.false_or, Option.getD_some, Option.getD_none, and_true, true_and, and_self, List.contains_iff_mem, eq_self, ite_true, ite_false, add_i, rg, hway, zt_take (n := 5) (by decide) (by decide +kernel), zt_take2, hw, eq_i, d3, gt_i, d4]
    · have d3 : decide (way = 3) = false := decide_eq_false h3
      simp -implicitDefEqProofs only [zz, if_true, if_false, List.getElem?_cons_zero, List.getElem?_cons_succ, List.set_cons_zero, List.set_cons_succ, List.map_cons, List.map_nil, List.length_cons, List.length_nil, List.cons_append, List.nil_append, List.append_nil, Option.map_some, Option.map_none, Bool.not_true, Bool.not_false, decide_true, decide_false, reduceIte, Nat.zero_add, Nat.reduceAdd, Nat.reduceSub, List.replicate_succ, List.replicate_zero, List.mem_cons, List.not_mem_nil, or_false, or_true, false_or, true_or, Nat.reduceEqDiff, Bool.false_eq_true, reduceCtorEq, Bool.true_and, Bool.and_true, Bool.and_self, Bool.and_false, Bool.false_and, Bool.or_true, Bool.true_or, Bool.or_false, Bool.false_or, Option.getD_some, Option.getD_none, and_true, true_and, and_self, List.contains_iff_mem, eq_self, ite_true, ite_false, add_i, rg, hway, zt_take (n := 5) (by decide) (by decide +kernel), zt_take2, hw, eq_i, d3]
end TV

set_option Elab.async false
set_option linter.all false
set_option maxRecDepth 100000
namespace TV
open PySem PySem.Spec PyProof.Rows L2 TC
/-! ### the class -/
theorem arow_ok (ns : List Int) : ev_Arrangement_row [AR ns] = .ok (TI ns) false [] := rfl
theorem alen_ok (ns : List Int) : ev_Arrangement___len__ [AR ns] = .ok (.int ns.length) false [] := by
  unfold ev_Arrangement___len__
  simp -implicitDefEqProofs only [zz, if_true, if_false, List.getElem?_cons_zero, List.getElem?_cons_succ, List.set_cons_zero, List.set_cons_succ, List.map_cons, List.map_nil, List.length_cons, List.length_nil, List.cons_append, List.nil_append, List.append_nil, Option.map_some, Option.map_none, Bool.not_true, Bool.not_false, decide_true, decide_false, reduceIte, Nat.zero_add, Nat.reduceAdd, Nat.reduceSub, List.replicate_succ, List.replicate_zero, List.mem_cons, List.not_mem_nil, or_false, or_true, false_or, true_or, Nat.reduceEqDiff, Bool.false_eq_true, reduceCtorEq, Bool.true_and, Bool.and_true, Bool.and_self, Bool.and_false, Bool.false_and, Bool.or_true, Bool.true_or, Bool.or_false, Bool.false_or, Option.getD_some, Option.getD_none, and_true, true_and, and_self, List.contains_iff_mem, eq_self, ite_true, ite_false, lenTI]
theorem aeq_ok (as bs : List Int) : ev_Arrangement___eq__ [AR as, AR bs] = .ok (.bl (decide (as = bs))) false [] := by
  unfold ev_Arrangement___eq__
  have e : fIsO .arr (AR bs) (.cls .arr) = some (.bl true, false) := rfl
  simp -implicitDefEqProofs only [zz, if_true, if_false, List.getElem?_cons_zero, List.getElem?_cons_succ, List.set_cons_zero, List.set_cons_succ, List.map_cons, List.map_nil, List.length_cons, List.length_nil, List.cons_append, List.nil_append, List.append_nil, Option.map_some, Option.map_none, Bool.not_true, Bool.not_false, decide_true, decide_false, reduceIte, Nat.zero_add, Nat.reduceAdd, Nat.reduceSub, List.replicate_succ, List.replicate_zero, List.mem_cons, List.not_mem_nil, or_false, or_true, false_or, true_or, Nat.reduceEqDiff, Bool.false_eq_true, reduceCtorEq, Bool.true_and, Bool.and_true, Bool.and_self, Bool.and_false, Bool.false_and, Bool.or_true, Bool.true_or, Bool.or_false, Bool.false_or, Option.getD_some, Option.getD_none, and_true, true_and, and_self, List.contains_iff_mem, eq_self, ite_true, ite_false, e, eq_TI]
def neg (ns : List Int) : List Int := ns.map fun c => -c
theorem absI_negI (i : Int) : absI (-i) = absI i := by unfold absI; split <;> split <;> omega
theorem isRow_neg {ns : List Int} (h : IsRow ns) : IsRow (neg ns) := by
  unfold neg
  refine ⟨by rw [List.length_map]; exact h.1, by rw [List.length_map]; exact h.2.1, ?_⟩
  rw [List.length_map, List.map_map]
  have : (absI ∘ fun c : Int => -c) = absI := funext fun i => absI_negI i
  rw [this]
  exact h.2.2
theorem aneg_ok {ns : List Int} (h : IsRow ns) : ev_Arrangement___neg__ [AR ns] = .ok (AR (neg ns)) true [] := by
  have hL : LIM = 1000000 := rfl
  have h2 := h.2.1
  have l1 : lcGo (gtName 1) eYes ev_Arrangement___neg___e1 [1] (ns.map D.int) [pS (AR ns), none] [] = some (ns.map (fun c => D.int (-c)), [pS (AR ns), none]) :=
    lcI (fun c _ => ⟨_, rfl, rfl, .inl (by unfold ev_Arrangement___neg___e1; simp -implicitDefEqProofs only [zz, if_true, if_false, List.getElem?_cons_zero, List.getElem?_cons_succ, List.set_cons_zero, List.set_cons_succ, List.map_cons, List.map_nil, List.length_cons, List.length_nil, List.cons_append, List.nil_append, List.append_nil, Option.map_some, Option.map_none, Bool.not_true, Bool.not_false, decide_true, decide_false, reduceIte, Nat.zero_add, Nat.reduceAdd, Nat.reduceSub, List.replicate_succ, List.replicate_zero, List.mem_cons, List.not_mem_nil, or_false, or_true, false_or, true_or, Nat.reduceEqDiff, Bool.false_eq_true, reduceCtorEq, Bool.true_and, Bool.and_true, Bool.and_self, Bool.and_false, Bool.false_and, Bool.or_true, Bool.true_or, Bool.or_false, Bool.false_or, Option.getD_some, Option.getD_none, and_true, true_and, and_self, List.contains_iff_mem, eq_self, ite_true, ite_false, neg_i])⟩) (by omega)
  have l2 := l1.trans (by rw [map_int (f := fun c : Int => -c)])
  have i := init_ok (LI (neg ns)) (neg ns) (.inl rfl) (isRow_neg h)
  unfold ev_Arrangement___neg__
  unfold neg at i
  simp -implicitDefEqProofs only [zz, if_true, if_false, List.getElem?_cons_zero, List.getElem?_cons_succ, List.set_cons_zero, List.set_cons_succ, List.map_cons, List.map_nil, List.length_cons, List.length_nil, List.cons_append, List.nil_append, List.append_nil, Option.map_some, Option.map_none, Bool.not_true, Bool.not_false, decide_true, decide_false, reduceIte, Nat.zero_add, Nat.reduceAdd, Nat.reduceSub, List.replicate_succ, List.replicate_zero, List.mem_cons, List.not_mem_nil, or_false, or_true, false_or, true_or, Nat.reduceEqDiff, Bool.false_eq_true, reduceCtorEq, Bool.true_and, Bool.and_true, Bool.and_self, Bool.and_false, Bool.false_and, Bool.or_true, Bool.true_or, Bool.or_false, Bool.false_or, Option.getD_some, Option.getD_none, and_true, true_and, and_self, List.contains_iff_mem, eq_self, ite_true, ite_false, l2, i]
  rfl
theorem isRow_rg {n : Nat} (h1 : 1 ≤ n) (h2 : n ≤ 2000) : IsRow (rgI 1 n) := by
  refine ⟨by rw [rgI_len]; exact h1, by rw [rgI_len]; exact h2, ?_⟩
  rw [rgI_len]
  have : (rgI 1 n).map absI = rgI 1 n := by
    conv => rhs; rw [← List.map_id (rgI 1 n)]
    refine List.map_congr_left fun i hi => ?_
    have := (mem_rgI.mp hi).1
    unfold absI
    rw [if_neg (by omega)]
    rfl
  rw [this]
theorem btw_n {n : Nat} {m : Int} (h1 : 1 ≤ n) (h2 : (n : Int) ≤ m) : (D.int n).btw 1 m = true := by
  show (decide ((1 : Int) ≤ n) && decide ((n : Int) ≤ m)) = true
  rw [decide_eq_true (by omega), decide_eq_true h2]
  rfl
theorem rg_false {n : Nat} (h : n ≤ 100000) {E : Sv} : eRg false 1 ((n : Int) + 1) E = .ok (.dv (TI (rgI 1 n))) E := by
  have e : ((n : Int) + 1 - 1).toNat = n := by omega
  unfold eRg
  rw [if_pos (by unfold rgOk; exact decide_eq_true ⟨by omega, by omega, by omega, by omega, by omega⟩), if_neg (by decide), e]
theorem asorted_ok {n : Nat} (h1 : 1 ≤ n) (h2 : n ≤ 2000) : ev_Arrangement_sorted_row [.cls .arr, .int n] = .ok (AR (rgI 1 n)) true [] := by
  have i := init_ok (TI (rgI 1 n)) (rgI 1 n) (.inr rfl) (isRow_rg h1 h2)
  have b := btw_n (n := n) (m := 2000) h1 (by omega)
  have t : ((D.int n).tyN).isSome = true := rfl
  unfold ev_Arrangement_sorted_row
  simp -implicitDefEqProofs only [zz, if_true, if_false, List.getElem?_cons_zero, List.getElem?_cons_succ, List.set_cons_zero, List.set_cons_succ, List.map_cons, List.map_nil, List.length_cons, List.length_nil, List.cons_append, List.nil_append, List.append_nil, Option.map_some, Option.map_none, Bool.not_true, Bool.not_false, decide_true, decide_false, reduceIte, Nat.zero_add, Nat.reduceAdd, Nat.reduceSub, List.replicate_succ, List.replicate_zero, List.mem_cons, List.not_mem_nil, or_false, or_true, false_or, true_or, Nat.reduceEqDiff, Bool.false_eq_true, reduceCtorEq, Bool.true_and, Bool.and_true, Bool.and_self, Bool.and_false, Bool.false_and, Bool.or_true, Bool.true_or, Bool.or_false, Bool.false_or, Option.getD_some, Option.getD_none, and_true, true_and, and_self, List.contains_iff_mem, eq_self, ite_true, ite_false, is_between_ok t, b, add_i, rg_false (n := n) (by omega), i]
theorem asorted_bad {x : D} (hx : (x.tyN).isSome = true) (h : x.btw 1 2000 = false) : ev_Arrangement_sorted_row [.cls .arr, x] = .ex .number x [] := by
  unfold ev_Arrangement_sorted_row
  simp -implicitDefEqProofs only [zz, if_true, if_false, List.getElem?_cons_zero, List.getElem?_cons_succ, List.set_cons_zero, List.set_cons_succ, List.map_cons, List.map_nil, List.length_cons, List.length_nil, List.cons_append, List.nil_append, List.append_nil, Option.map_some, Option.map_none, Bool.not_true, Bool.not_false, decide_true, decide_false, reduceIte, Nat.zero_add, Nat.reduceAdd, Nat.reduceSub, List.replicate_succ, List.replicate_zero, List.mem_cons, List.not_mem_nil, or_false, or_true, false_or, true_or, Nat.reduceEqDiff, Bool.false_eq_true, reduceCtorEq, Bool.true_and, Bool.and_true, Bool.and_self, Bool.and_false, Bool.false_and, Bool.or_true, Bool.true_or, Bool.or_false, Bool.false_or, Option.getD_some, Option.getD_none, and_true, true_and, and_self, List.contains_iff_mem, eq_self, ite_true, ite_false, is_between_ok hx, h]
theorem far_ok {n : Nat} (h1 : 1 ≤ n) (h2 : n ≤ 2000) : ev_farthest [.int n] = .ok (AR (neg (rgI 1 n))) true [] := by
  unfold ev_farthest
  simp -implicitDefEqProofs only [zz, if_true, if_false, List.getElem?_cons_zero, List.getElem?_cons_succ, List.set_cons_zero, List.set_cons_succ, List.map_cons, List.map_nil, List.length_cons, List.length_nil, List.cons_append, List.nil_append, List.append_nil, Option.map_some, Option.map_none, Bool.not_true, Bool.not_false, decide_true, decide_false, reduceIte, Nat.zero_add, Nat.reduceAdd, Nat.reduceSub, List.replicate_succ, List.replicate_zero, List.mem_cons, List.not_mem_nil, or_false, or_true, false_or, true_or, Nat.reduceEqDiff, Bool.false_eq_true, reduceCtorEq, Bool.true_and, Bool.and_true, Bool.and_self, Bool.and_false, Bool.false_and, Bool.or_true, Bool.true_or, Bool.or_false, Bool.false_or, Option.getD_some, Option.getD_none, and_true, true_and, and_self, List.contains_iff_mem, eq_self, ite_true, ite_false, asorted_ok h1 h2, aneg_ok (isRow_rg h1 h2)]
theorem far_bad {x : D} (hx : (x.tyN).isSome = true) (h : x.btw 1 2000 = false) : ev_farthest [x] = .ex .number x [] := by
  unfold ev_farthest
  simp -implicitDefEqProofs only [zz, if_true, if_false, List.getElem?_cons_zero, List.getElem?_cons_succ, List.set_cons_zero, List.set_cons_succ, List.map_cons, List.map_nil, List.length_cons, List.length_nil, List.cons_append, List.nil_append, List.append_nil, Option.map_some, Option.map_none, Bool.not_true, Bool.not_false, decide_true, decide_false, reduceIte, Nat.zero_add, Nat.reduceAdd, Nat.reduceSub, List.replicate_succ, List.replicate_zero, List.mem_cons, List.not_mem_nil, or_false, or_true, false_or, true_or, Nat.reduceEqDiff, Bool.false_eq_true, reduceCtorEq, Bool.true_and, Bool.and_true, Bool.and_self, Bool.and_false, Bool.false_and, Bool.or_true, Bool.true_or, Bool.or_false, Bool.false_or, Option.getD_some, Option.getD_none, and_true, true_and, and_self, List.contains_iff_mem, eq_self, ite_true, ite_false, asorted_bad hx h]
/-! ### disorders -/
def sm (k : Nat) (f : Nat → Int) : Int := match k with
  | 0 => 0
  | k + 1 => sm k f + f k
def disAt (c : List Int) (i : Nat) : Int := ((c.take i).filter fun o => decide (c.getD i 0 < o)).length + ((c.take i).filter fun o => decide (o + c.getD i 0 < 0)).length
def disM (c : List Int) : Int := (c.filter fun o => decide (o < 0)).length + sm c.length (disAt c)
theorem fL {ns : List Int} {p : Int → Bool} : fLen (.lst ((ns.filter p).map D.int)) = some (.int (ns.filter p).length, false) := by rw [lenL, List.length_map]
section
variable (x : D) (c : List Int)
theorem pd_lc1 (hl : c.length ≤ LIM) (x1 x2 : Option Sl) : lcGo (gtName 3) ev_disorders_of_t1 (eVar 3) [3] (c.map D.int) [pS x, x1, x2, none, none] [] = some ((c.filter fun o => decide (o < 0)).map D.int, [pS x, x1, x2, none, none]) := by
  refine lcIF (fun z _ => ⟨_, rfl, rfl, ?_, fun _ => .inl rfl⟩) hl
  unfold ev_disorders_of_t1
  simp -implicitDefEqProofs only [zz, if_true, if_false, List.getElem?_cons_zero, List.getElem?_cons_succ, List.set_cons_zero, List.set_cons_succ, List.map_cons, List.map_nil, List.length_cons, List.length_nil, List.cons_append, List.nil_append, List.append_nil, Option.map_some, Option.map_none, Bool.not_true, Bool.not_false, decide_true, decide_false, reduceIte, Nat.zero_add, Nat.reduceAdd, Nat.reduceSub, List.replicate_succ, List.replicate_zero, List.mem_cons, List.not_mem_nil, or_false, or_true, false_or, true_or, Nat.reduceEqDiff, Bool.false_eq_true, reduceCtorEq, Bool.true_and, Bool.and_true, Bool.and_self, Bool.and_false, Bool.false_and, Bool.or_true, Bool.true_or, Bool.or_false, Bool.false_or, Option.getD_some, Option.getD_none, and_true, true_and, and_self, List.contains_iff_mem, eq_self, ite_true, ite_false, lt_i]
theorem pd_lc2 (d : List Int) (v : Int) (hl : d.length ≤ LIM) (x1 x2 : Option Sl) : lcGo (gtName 4) ev_disorders_of_t2 (eVar 4) [4] (d.map D.int) [pS x, x1, x2, pS (.int v), none] [] = some ((d.filter fun o => decide (v < o)).map D.int, [pS x, x1, x2, pS (.int v), none]) := by
  refine lcIF (fun z _ => ⟨_, rfl, rfl, ?_, fun _ => .inl rfl⟩) hl
  unfold ev_disorders_of_t2
  simp -implicitDefEqProofs only [zz, if_true, if_false, List.getElem?_cons_zero, List.getElem?_cons_succ, List.set_cons_zero, List.set_cons_succ, List.map_cons, List.map_nil, List.length_cons, List.length_nil, List.cons_append, List.nil_append, List.append_nil, Option.map_some, Option.map_none, Bool.not_true, Bool.not_false, decide_true, decide_false, reduceIte, Nat.zero_add, Nat.reduceAdd, Nat.reduceSub, List.replicate_succ, List.replicate_zero, List.mem_cons, List.not_mem_nil, or_false, or_true, false_or, true_or, Nat.reduceEqDiff, Bool.false_eq_true, reduceCtorEq, Bool.true_and, Bool.and_true, Bool.and_self, Bool.and_false, Bool.false_and, Bool.or_true, Bool.true_or, Bool.or_false, Bool.false_or, Option.getD_some, Option.getD_none, and_true, true_and, and_self, List.contains_iff_mem, eq_self, ite_true, ite_false, gt_i]
theorem pd_lc3 (d : List Int) (v : Int) (hl : d.length ≤ LIM) (x1 x2 : Option Sl) : lcGo (gtName 4) ev_disorders_of_t3 (eVar 4) [4] (d.map D.int) [pS x, x1, x2, pS (.int v), none] [] = some ((d.filter fun o => decide (o + v < 0)).map D.int, [pS x, x1, x2, pS (.int v), none]) := by
  refine lcIF (fun z _ => ⟨_, rfl, rfl, ?_, fun _ => .inl rfl⟩) hl
  unfold ev_disorders_of_t3
  simp -implicitDefEqProofs only [zz, if_true, if_false, List.getElem?_cons_zero, List.getElem?_cons_succ, List.set_cons_zero, List.set_cons_succ, List.map_cons, List.map_nil, List.length_cons, List.length_nil, List.cons_append, List.nil_append, List.append_nil, Option.map_some, Option.map_none, Bool.not_true, Bool.not_false, decide_true, decide_false, reduceIte, Nat.zero_add, Nat.reduceAdd, Nat.reduceSub, List.replicate_succ, List.replicate_zero, List.mem_cons, List.not_mem_nil, or_false, or_true, false_or, true_or, Nat.reduceEqDiff, Bool.false_eq_true, reduceCtorEq, Bool.true_and, Bool.and_true, Bool.and_self, Bool.and_false, Bool.false_and, Bool.or_true, Bool.true_or, Bool.or_false, Bool.false_or, Option.getD_some, Option.getD_none, and_true, true_and, and_self, List.contains_iff_mem, eq_self, ite_true, ite_false, add_i, lt_i]
end
theorem cutTI_to {ns : List Int} {k : Nat} (h : k ≤ ns.length) : fSl none (some (k : Int)) (TI ns) = some (TI (ns.take k), false) := by
  show some (D.tup (cutG (ns.map D.int) none (some (k : Int))), false) = _
  rw [cut_to (by rw [List.length_map]; exact h)]
  unfold TI
  rw [List.map_take]
theorem cutTI_from {ns : List Int} {k : Nat} (h : k ≤ ns.length) : fSl (some (k : Int)) none (TI ns) = some (TI (ns.drop k), false) := by
  show some (D.tup (cutG (ns.map D.int) (some (k : Int)) none), false) = _
  rw [cut_from (by rw [List.length_map]; exact h)]
  unfold TI
  rw [List.map_drop]
theorem pd_b1 (c : List Int) (i : Nat) (a : Int) (hi : i < c.length) (hl : c.length ≤ LIM) : ev_disorders_of_b1 [pS (TI c), pS (.int a), pS (.int i), pS (.int (c.getD i 0)), none] = .nx [pS (TI c), pS (.int (a + disAt c i)), pS (.int i), pS (.int (c.getD i 0)), none] := by
  unfold ev_disorders_of_b1
  have e1 := cutTI_to (ns := c) (k := i) (by omega)
  have l2 := fun x1 x2 => pd_lc2 (TI c) (c.take i) (c.getD i 0) (by rw [List.length_take]; omega) x1 x2
  have l3 := fun x1 x2 => pd_lc3 (TI c) (c.take i) (c.getD i 0) (by rw [List.length_take]; omega) x1 x2
  simp -implicitDefEqProofs only [zz, if_true, if_false, List.getElem?_cons_zero, List.getElem?_cons_succ, List.set_cons_zero, List.set_cons_succ, List.map_cons, List.map_nil, List.length_cons, List.length_nil, List.cons_append, List.nil_append, List.append_nil, Option.map_some, Option.map_none, Bool.not_true, Bool.not_false, decide_true, decide_false, reduceIte, Nat.zero_add, Nat.reduceAdd, Nat.reduceSub, List.replicate_succ, List.replicate_zero, List.mem_cons, List.not_mem_nil, or_false, or_true, false_or, true_or, Nat.reduceEqDiff, Bool.false_eq_true, reduceCtorEq, Bool.true_and, Bool.and_true, Bool.and_self, Bool.and_false, Bool.false_and, Bool.or_true, Bool.true_or, Bool.or_false, Bool.false_or, Option.getD_some, Option.getD_none, and_true, true_and, and_self, List.contains_iff_mem, eq_self, ite_true, ite_false, e1, l2, l3, fL, add_i, Option.map_some]
  unfold disAt
  rw [Int.add_assoc]
theorem pdis_ok (c : List Int) (hl : c.length ≤ LIM) : ev_disorders_of [TI c] = .ok (.int (disM c)) false [] := by
  unfold ev_disorders_of
  obtain ⟨⟨a, b⟩, h⟩ := loopN (g := gtTup 2 (gtCons (gtName 2) (gtCons (gtName 3) gtNil))) (b := ev_disorders_of_b1) (n := c.length) (q := fun (j : Nat) => D.tup [.int j, .int (c.getD j 0)]) (St := fun i (q : Option Sl × Option Sl) => [pS (TI c), pS (.int ((c.filter fun o => decide (o < 0)).length + sm i (disAt c))), q.1, q.2, none]) (none, none) fun i q hi => ⟨_, (_, _), rfl, by
    show ev_disorders_of_b1 [pS (TI c), _, pS (.int i), pS (.int (c.getD i 0)), none] = _
    rw [pd_b1 c i _ hi hl, sm, Int.add_assoc]⟩
  rw [sm, Int.add_zero] at h
  simp -implicitDefEqProofs only [zz, if_true, if_false, List.getElem?_cons_zero, List.getElem?_cons_succ, List.set_cons_zero, List.set_cons_succ, List.map_cons, List.map_nil, List.length_cons, List.length_nil, List.cons_append, List.nil_append, List.append_nil, Option.map_some, Option.map_none, Bool.not_true, Bool.not_false, decide_true, decide_false, reduceIte, Nat.zero_add, Nat.reduceAdd, Nat.reduceSub, List.replicate_succ, List.replicate_zero, List.mem_cons, List.not_mem_nil, or_false, or_true, false_or, true_or, Nat.reduceEqDiff, Bool.false_eq_true, reduceCtorEq, Bool.true_and, Bool.and_true, Bool.and_self, Bool.and_false, Bool.false_and, Bool.or_true, Bool.true_or, Bool.or_false, Bool.false_or, Option.getD_some, Option.getD_none, and_true, true_and, and_self, List.contains_iff_mem, eq_self, ite_true, ite_false, pd_lc1 (TI c) c hl, fL, enumI, h]
  rfl
theorem dis_ok {c : List Int} (h : IsRow c) : ev_disorders [AR c] = .ok (.int (disM c)) false [] := by
  have hL : LIM = 1000000 := rfl
  have h2 := h.2.1
  unfold ev_disorders
  simp -implicitDefEqProofs only [zz, if_true, if_false, List.getElem?_cons_zero, List.getElem?_cons_succ, List.set_cons_zero, List.set_cons_succ, List.map_cons, List.map_nil, List.length_cons, List.length_nil, List.cons_append, List.nil_append, List.append_nil, Option.map_some, Option.map_none, Bool.not_true, Bool.not_false, decide_true, decide_false, reduceIte, Nat.zero_add, Nat.reduceAdd, Nat.reduceSub, List.replicate_succ, List.replicate_zero, List.mem_cons, List.not_mem_nil, or_false, or_true, false_or, true_or, Nat.reduceEqDiff, Bool.false_eq_true, reduceCtorEq, Bool.true_and, Bool.and_true, Bool.and_self, Bool.and_false, Bool.false_and, Bool.or_true, Bool.true_or, Bool.or_false, Bool.false_or, Option.getD_some, Option.getD_none, and_true, true_and, and_self, List.contains_iff_mem, eq_self, ite_true, ite_false, arow_ok, pdis_ok c (by omega)]
/-! the law's -/
section
variable (x : D) (c : List Int)
theorem ld_lc1 (hl : c.length ≤ LIM) (x1 x2 : Option Sl) : lcGo (gtName 3) ev_L_disorders_t1 (eVar 3) [3] (c.map D.int) [pS x, x1, x2, none, none] [] = some ((c.filter fun o => decide (o < 0)).map D.int, [pS x, x1, x2, none, none]) := by
  refine lcIF (fun z _ => ⟨_, rfl, rfl, ?_, fun _ => .inl rfl⟩) hl
  unfold ev_L_disorders_t1
  simp -implicitDefEqProofs only [zz, if_true, if_false, List.getElem?_cons_zero, List.getElem?_cons_succ, List.set_cons_zero, List.set_cons_succ, List.map_cons, List.map_nil, List.length_cons, List.length_nil, List.cons_append, List.nil_append, List.append_nil, Option.map_some, Option.map_none, Bool.not_true, Bool.not_false, decide_true, decide_false, reduceIte, Nat.zero_add, Nat.reduceAdd, Nat.reduceSub, List.replicate_succ, List.replicate_zero, List.mem_cons, List.not_mem_nil, or_false, or_true, false_or, true_or, Nat.reduceEqDiff, Bool.false_eq_true, reduceCtorEq, Bool.true_and, Bool.and_true, Bool.and_self, Bool.and_false, Bool.false_and, Bool.or_true, Bool.true_or, Bool.or_false, Bool.false_or, Option.getD_some, Option.getD_none, and_true, true_and, and_self, List.contains_iff_mem, eq_self, ite_true, ite_false, lt_i]
theorem ld_lc2 (d : List Int) (v : Int) (hl : d.length ≤ LIM) (x1 x2 : Option Sl) : lcGo (gtName 4) ev_L_disorders_t2 (eVar 4) [4] (d.map D.int) [pS x, x1, x2, pS (.int v), none] [] = some ((d.filter fun o => decide (v < o)).map D.int, [pS x, x1, x2, pS (.int v), none]) := by
  refine lcIF (fun z _ => ⟨_, rfl, rfl, ?_, fun _ => .inl rfl⟩) hl
  unfold ev_L_disorders_t2
  simp -implicitDefEqProofs only [zz, if_true, if_false, List.getElem?_cons_zero, List.getElem?_cons_succ, List.set_cons_zero, List.set_cons_succ, List.map_cons, List.map_nil, List.length_cons, List.length_nil, List.cons_append, List.nil_append, List.append_nil, Option.map_some, Option.map_none, Bool.not_true, Bool.not_false, decide_true, decide_false, reduceIte, Nat.zero_add, Nat.reduceAdd, Nat.reduceSub, List.replicate_succ, List.replicate_zero, List.mem_cons, List.not_mem_nil, or_false, or_true, false_or, true_or, Nat.reduceEqDiff, Bool.false_eq_true, reduceCtorEq, Bool.true_and, Bool.and_true, Bool.and_self, Bool.and_false, Bool.false_and, Bool.or_true, Bool.true_or, Bool.or_false, Bool.false_or, Option.getD_some, Option.getD_none, and_true, true_and, and_self, List.contains_iff_mem, eq_self, ite_true, ite_false, gt_i]
theorem ld_lc3 (d : List Int) (v : Int) (hl : d.length ≤ LIM) (x1 x2 : Option Sl) : lcGo (gtName 4) ev_L_disorders_t3 (eVar 4) [4] (d.map D.int) [pS x, x1, x2, pS (.int v), none] [] = some ((d.filter fun o => decide (o + v < 0)).map D.int, [pS x, x1, x2, pS (.int v), none]) := by
  refine lcIF (fun z _ => ⟨_, rfl, rfl, ?_, fun _ => .inl rfl⟩) hl
  unfold ev_L_disorders_t3
  simp -implicitDefEqProofs only [zz, if_true, if_false, List.getElem?_cons_zero, List.getElem?_cons_succ, List.set_cons_zero, List.set_cons_succ, List.map_cons, List.map_nil, List.length_cons, List.length_nil, List.cons_append, List.nil_append, List.append_nil, Option.map_some, Option.map_none, Bool.not_true, Bool.not_false, decide_true, decide_false, reduceIte, Nat.zero_add, Nat.reduceAdd, Nat.reduceSub, List.replicate_succ, List.replicate_zero, List.mem_cons, List.not_mem_nil, or_false, or_true, false_or, true_or, Nat.reduceEqDiff, Bool.false_eq_true, reduceCtorEq, Bool.true_and, Bool.and_true, Bool.and_self, Bool.and_false, Bool.false_and, Bool.or_true, Bool.true_or, Bool.or_false, Bool.false_or, Option.getD_some, Option.getD_none, and_true, true_and, and_self, List.contains_iff_mem, eq_self, ite_true, ite_false, add_i, lt_i]
end
theorem ld_b1 (c : List Int) (i : Nat) (a : Int) (hi : i < c.length) (hl : c.length ≤ LIM) : ev_L_disorders_b1 [pS (LI c), pS (.int a), pS (.int i), pS (.int (c.getD i 0)), none] = .nx [pS (LI c), pS (.int (a + disAt c i)), pS (.int i), pS (.int (c.getD i 0)), none] := by
  unfold ev_L_disorders_b1
  have e1 := cutLI_to (ns := c) (k := i) (by omega)
  have l2 := fun x1 x2 => ld_lc2 (LI c) (c.take i) (c.getD i 0) (by rw [List.length_take]; omega) x1 x2
  have l3 := fun x1 x2 => ld_lc3 (LI c) (c.take i) (c.getD i 0) (by rw [List.length_take]; omega) x1 x2
  simp -implicitDefEqProofs only [zz, if_true, if_false, List.getElem?_cons_zero, List.getElem?_cons_succ, List.set_cons_zero, List.set_cons_succ, List.map_cons, List.map_nil, List.length_cons, List.length_nil, List.cons_append, List.nil_append, List.append_nil, Option.map_some, Option.map_none, Bool.not_true, Bool.not_false, decide_true, decide_false, reduceIte, Nat.zero_add, Nat.reduceAdd, Nat.reduceSub, List.replicate_succ, List.replicate_zero, List.mem_cons, List.not_mem_nil, or_false, or_true, false_or, true_or, Nat.reduceEqDiff, Bool.false_eq_true, reduceCtorEq, Bool.true_and, Bool.and_true, Bool.and_self, Bool.and_false, Bool.false_and, Bool.or_true, Bool.true_or, Bool.or_false, Bool.false_or, Option.getD_some, Option.getD_none, and_true, true_and, and_self, List.contains_iff_mem, eq_self, ite_true, ite_false, e1, l2, l3, fL, add_i]
  unfold disAt
  rw [Int.add_assoc]
theorem ldis_ok (c : List Int) (hl : c.length ≤ LIM) : ev_L_disorders [LI c] = .ok (.int (disM c)) false [] := by
  unfold ev_L_disorders
  obtain ⟨⟨a, b⟩, h⟩ := loopN (g := gtTup 2 (gtCons (gtName 2) (gtCons (gtName 3) gtNil))) (b := ev_L_disorders_b1) (n := c.length) (q := fun (j : Nat) => D.tup [.int j, .int (c.getD j 0)]) (St := fun i (q : Option Sl × Option Sl) => [pS (LI c), pS (.int ((c.filter fun o => decide (o < 0)).length + sm i (disAt c))), q.1, q.2, none]) (none, none) fun i q hi => ⟨_, (_, _), rfl, by
    show ev_L_disorders_b1 [pS (LI c), _, pS (.int i), pS (.int (c.getD i 0)), none] = _
    rw [ld_b1 c i _ hi hl, sm, Int.add_assoc]⟩
  rw [sm, Int.add_zero] at h
  simp -implicitDefEqProofs only [zz, if_true, if_false, List.getElem?_cons_zero, List.getElem?_cons_succ, List.set_cons_zero, List.set_cons_succ, List.map_cons, List.map_nil, List.length_cons, List.length_nil, List.cons_append, List.nil_append, List.append_nil, Option.map_some, Option.map_none, Bool.not_true, Bool.not_false, decide_true, decide_false, reduceIte, Nat.zero_add, Nat.reduceAdd, Nat.reduceSub, List.replicate_succ, List.replicate_zero, List.mem_cons, List.not_mem_nil, or_false, or_true, false_or, true_or, Nat.reduceEqDiff, Bool.false_eq_true, reduceCtorEq, Bool.true_and, Bool.and_true, Bool.and_self, Bool.and_false, Bool.false_and, Bool.or_true, Bool.true_or, Bool.or_false, Bool.false_or, Option.getD_some, Option.getD_none, and_true, true_and, and_self, List.contains_iff_mem, eq_self, ite_true, ite_false, ld_lc1 (LI c) c hl, fL, enumI, h]
  rfl
/-! ### neighbor steps -/
def nbr (c : List Int) (s : Nat) : List Int := if s = 0 then -c.getD 0 0 :: c.drop 1 else c.take (s - 1) ++ [c.getD s 0, c.getD (s - 1) 0] ++ c.drop (s + 1)
theorem fListLI {ns : List Int} : fList (LI ns) = some (LI ns, true) := rfl
theorem nbr_ok (c : List Int) (s : Nat) (hs : s < c.length) (hl : c.length ≤ 2000) : ev_L_neighbor [LI c, .int s] = .ok (LI (nbr c s)) true [] := by
  have hL : LIM = 1000000 := rfl
  unfold ev_L_neighbor nbr
  by_cases h : s = 0
  · subst h
    have d1 : decide (((0 : Nat) : Int) = 0) = true := rfl
    have e0 : fIx (LI c) (.int 0) = some (.int (c.getD 0 0), false) := ixLI (a := 0) (by decide) hs
    have c1 : fSl (some 1) none (LI c) = some (LI (c.drop 1), true) := cutLI_from (k := 1) (by omega)
    have a1 : fAdd (.lst [.int (-c.getD 0 0)]) (LI (c.drop 1)) = some (LI ([-c.getD 0 0] ++ c.drop 1), true) := addLI (ns := [_]) (by simp; omega)
    simp -implicitDefEqProofs only [zz, if_true, if_false, List.getElem?_cons_zero, List.getElem?_cons_succ, List.set_cons_zero, List.set_cons_succ, List.map_cons, List.map_nil, List.length_cons, List.length_nil, List.cons_append, List.nil_append, List.append_nil, Option.map_some, Option.map_none, Bool.not_true, Bool.not_false, decide_true, decide_false, reduceIte, Nat.zero_add, Nat.reduceAdd, Nat.reduceSub, List.replicate_succ, List.replicate_zero, List.mem_cons, List.not_mem_nil, or_false, or_true, false_or, true_or, Nat.reduceEqDiff, Bool.false_eq_true, reduceCtorEq, Bool.true_and, Bool.and_true, Bool.and_self, Bool.and_false, Bool.false_and, Bool.or_true, Bool.true_or, Bool.or_false, Bool.false_or, Option.getD_some, Option.getD_none, and_true, true_and, and_self, List.contains_iff_mem, eq_self, ite_true, ite_false, eq_i, d1, e0, neg_i, c1, fListLI, a1]
  · have d1 : decide ((s : Int) = 0) = false := decide_eq_false (by omega)
    have e1 : (s : Int) - 1 = ((s - 1 : Nat) : Int) := by omega
    have e2 : (s : Int) + 1 = ((s + 1 : Nat) : Int) := by omega
    have a1 : fAdd (LI (c.take (s - 1))) (.lst [.int (c.getD s 0), .int (c.getD (s - 1) 0)]) = some (LI (c.take (s - 1) ++ [c.getD s 0, c.getD (s - 1) 0]), true) := addLI (ms := [_, _]) (by rw [List.length_take]; simp; omega)
    have a2 : fAdd (LI (c.take (s - 1) ++ [c.getD s 0, c.getD (s - 1) 0])) (LI (c.drop (s + 1))) = some (LI (c.take (s - 1) ++ [c.getD s 0, c.getD (s - 1) 0] ++ c.drop (s + 1)), true) := addLI (by simp; omega)
    simp -implicitDefEqProofs only [zz, if_true, if_false, List.getElem?_cons_zero, List.getElem?_cons_succ, List.set_cons_zero, List.set_cons_succ, List.map_cons, List.map_nil, List.length_cons, List.length_nil, List.cons_append, List.nil_append, List.append_nil, Option.map_some, Option.map_none, Bool.not_true, Bool.not_false, decide_true, decide_false, reduceIte, Nat.zero_add, Nat.reduceAdd, Nat.reduceSub, List.replicate_succ, List.replicate_zero, List.mem_cons, List.not_mem_nil, or_false, or_true, false_or, true_or, Nat.reduceEqDiff, Bool.false_eq_true, reduceCtorEq, Bool.true_and, Bool.and_true, Bool.and_self, Bool.and_false, Bool.false_and, Bool.or_true, Bool.true_or, Bool.or_false, Bool.false_or, Option.getD_some, Option.getD_none, and_true, true_and, and_self, List.contains_iff_mem, eq_self, ite_true, ite_false, eq_i, d1, sub_i, e1, cutLI_to (ns := c) (k := s - 1) (by omega), fListLI, ixLn (ns := c) (i := s) hs, ixLn (ns := c) (i := s - 1) (by omega), a1, add_i, e2, cutLI_from (ns := c) (k := s + 1) (by omega), a2, h]
theorem perf_ok (c : List Int) (s : Nat) (hs : s < c.length) (hl : c.length ≤ 2000) : ev_performed [TI c, .int s] = .ok (TI (nbr c s)) false [] := by
  have hL : LIM = 1000000 := rfl
  unfold ev_performed nbr
  by_cases h : s = 0
  · subst h
    have d1 : decide (((0 : Nat) : Int) = 0) = true := rfl
    have e0 : fIx (TI c) (.int 0) = some (.int (c.getD 0 0), false) := ixTI (a := 0) (by decide) hs
    have c1 : fSl (some 1) none (TI c) = some (TI (c.drop 1), false) := cutTI_from (k := 1) (by omega)
    have l3 : ((c.drop 1).map D.int).length + 1 ≤ LIM := by rw [List.length_map, List.length_drop]; omega
    simp -implicitDefEqProofs only [zz, if_true, if_false, List.getElem?_cons_zero, List.getElem?_cons_succ, List.set_cons_zero, List.set_cons_succ, List.map_cons, List.map_nil, List.length_cons, List.length_nil, List.cons_append, List.nil_append, List.append_nil, Option.map_some, Option.map_none, Bool.not_true, Bool.not_false, decide_true, decide_false, reduceIte, Nat.zero_add, Nat.reduceAdd, Nat.reduceSub, List.replicate_succ, List.replicate_zero, List.mem_cons, List.not_mem_nil, or_false, or_true, false_or, true_or, Nat.reduceEqDiff, Bool.false_eq_true, reduceCtorEq, Bool.true_and, Bool.and_true, Bool.and_self, Bool.and_false, Bool.false_and, Bool.or_true, Bool.true_or, Bool.or_false, Bool.false_or, Option.getD_some, Option.getD_none, and_true, true_and, and_self, List.contains_iff_mem, eq_self, ite_true, ite_false, eq_i, d1, e0, neg_i, c1, map_hold_dv, frzs_dv, l3, List.append_nil]
    rfl
  · have d1 : decide ((s : Int) = 0) = false := decide_eq_false (by omega)
    have e1 : (s : Int) - 1 = ((s - 1 : Nat) : Int) := by omega
    have e2 : (s : Int) + 1 = ((s + 1 : Nat) : Int) := by omega
    have fz : ∀ E, Sv.frzs E (((c.take (s - 1)).map D.int).map Vl.dv ++ (.dv (.int (c.getD s 0)) :: .dv (.int (c.getD (s - 1) 0)) :: ((c.drop (s + 1)).map D.int).map Vl.dv)) = some ((nbr c s).map D.int, E) := fun E => by
      refine (frzs_app (es := .int (c.getD s 0) :: .int (c.getD (s - 1) 0) :: (c.drop (s + 1)).map D.int) (E1 := E) (frzs_dv (.int (c.getD s 0) :: .int (c.getD (s - 1) 0) :: (c.drop (s + 1)).map D.int))).trans ?_
      unfold nbr
      rw [if_neg h, List.map_append, List.map_append, List.append_assoc]
      rfl
    have hn : (nbr c s).length = c.length := by unfold nbr; rw [if_neg h]; simp; omega
    have l3 : ((nbr c s).map D.int).length ≤ LIM := by rw [List.length_map, hn]; omega
    have l4 : ((nbr c s).length ≤ LIM) = True := eq_true (by omega)
    simp -implicitDefEqProofs only [zz, if_true, if_false, List.getElem?_cons_zero, List.getElem?_cons_succ, List.set_cons_zero, List.set_cons_succ, List.map_cons, List.map_nil, List.length_cons, List.length_nil, List.cons_append, List.nil_append, List.append_nil, Option.map_some, Option.map_none, Bool.not_true, Bool.not_false, decide_true, decide_false, reduceIte, Nat.zero_add, Nat.reduceAdd, Nat.reduceSub, List.replicate_succ, List.replicate_zero, List.mem_cons, List.not_mem_nil, or_false, or_true, false_or, true_or, Nat.reduceEqDiff, Bool.false_eq_true, reduceCtorEq, Bool.true_and, Bool.and_true, Bool.and_self, Bool.and_false, Bool.false_and, Bool.or_true, Bool.true_or, Bool.or_false, Bool.false_or, Option.getD_some, Option.getD_none, and_true, true_and, and_self, List.contains_iff_mem, eq_self, ite_true, ite_false, eq_i, d1, sub_i, e1, cutTI_to (ns := c) (k := s - 1) (by omega), ixTn (ns := c) (i := s) hs, ixTn (ns := c) (i := s - 1) (by omega), add_i, e2, cutTI_from (ns := c) (k := s + 1) (by omega), List.append_nil, z_mapha, map_hold_dv, fz, List.length_map, l4]
    unfold nbr
    rw [if_neg h]
theorem nbr_len {c : List Int} {s : Nat} (hs : s < c.length) : (nbr c s).length = c.length := by
  unfold nbr
  split
  · simp; omega
  · simp; omega
/-! ### words -/
def aft (c : List Int) : List Nat → List Int
  | [] => c
  | s :: w => aft (nbr c s) w
theorem aft_len : ∀ {w : List Nat} {c : List Int}, (∀ s ∈ w, s < c.length) → (aft c w).length = c.length
  | [], _, _ => rfl
  | s :: w, c, h => by
    have hs := h s List.mem_cons_self
    rw [aft, aft_len fun z hz => by rw [nbr_len hs]; exact h z (List.mem_cons_of_mem _ hz), nbr_len hs]
abbrev WI (w : List Nat) : List D := w.map fun (s : Nat) => D.int s
theorem aw_loop (x y : Option Sl) : ∀ (w : List Nat) (c : List Int) (j : Option Sl), (∀ s ∈ w, s < c.length) → c.length ≤ 2000 → ∃ j', loop (gtName 3) ev_after_word_b1 (WI w) [x, y, pS (TI c), j] = .nx [x, y, pS (TI (aft c w)), j']
  | [], c, j, _, _ => ⟨j, rfl⟩
  | s :: w, c, j, h, hl => by
    have hs := h s List.mem_cons_self
    obtain ⟨j', h2⟩ := aw_loop x y w (nbr c s) (pS (.int s)) (fun z hz => by rw [nbr_len hs]; exact h z (List.mem_cons_of_mem _ hz)) (by rw [nbr_len hs]; exact hl)
    refine ⟨j', ?_⟩
    show loop (gtName 3) ev_after_word_b1 (D.int s :: WI w) _ = _
    rw [loop_cons (E1 := [x, y, pS (TI c), pS (.int s)]) rfl]
    have hb : ev_after_word_b1 [x, y, pS (TI c), pS (.int s)] = .nx [x, y, pS (TI (nbr c s)), pS (.int s)] := by
      unfold ev_after_word_b1
      simp -implicitDefEqProofs only [zz, if_true, if_false, List.getElem?_cons_zero, List.getElem?_cons_succ, List.set_cons_zero, List.set_cons_succ, List.map_cons, List.map_nil, List.length_cons, List.length_nil, List.cons_append, List.nil_append, List.append_nil, Option.map_some, Option.map_none, Bool.not_true, Bool.not_false, decide_true, decide_false, reduceIte, Nat.zero_add, Nat.reduceAdd, Nat.reduceSub, List.replicate_succ, List.replicate_zero, List.mem_cons, List.not_mem_nil, or_false, or_true, false_or, true_or, Nat.reduceEqDiff, Bool.false_eq_true, reduceCtorEq, Bool.true_and, Bool.and_true, Bool.and_self, Bool.and_false, Bool.false_and, Bool.or_true, Bool.true_or, Bool.or_false, Bool.false_or, Option.getD_some, Option.getD_none, and_true, true_and, and_self, List.contains_iff_mem, eq_self, ite_true, ite_false, perf_ok c s hs hl]
    rw [hb]
    exact h2
theorem aw_ok (c : List Int) (w : List Nat) (x : D) (hx : x = .lst (WI w) ∨ x = .tup (WI w)) (h : ∀ s ∈ w, s < c.length) (hl : c.length ≤ 2000) : ev_after_word [TI c, x] = .ok (TI (aft c w)) false [] := by
  obtain ⟨j, h2⟩ := aw_loop (pS (TI c)) (pS x) w c none h hl
  have t : fTuple (TI c) = some (TI c, false) := rfl
  unfold ev_after_word
  rcases hx with rfl | rfl
  · simp -implicitDefEqProofs only [zz, if_true, if_false, List.getElem?_cons_zero, List.getElem?_cons_succ, List.set_cons_zero, List.set_cons_succ, List.map_cons, List.map_nil, List.length_cons, List.length_nil, List.cons_append, List.nil_append, List.append_nil, Option.map_some, Option.map_none, Bool.not_true, Bool.not_false, decide_true, decide_false, reduceIte, Nat.zero_add, Nat.reduceAdd, Nat.reduceSub, List.replicate_succ, List.replicate_zero, List.mem_cons, List.not_mem_nil, or_false, or_true, false_or, true_or, Nat.reduceEqDiff, Bool.false_eq_true, reduceCtorEq, Bool.true_and, Bool.and_true, Bool.and_self, Bool.and_false, Bool.false_and, Bool.or_true, Bool.true_or, Bool.or_false, Bool.false_or, Option.getD_some, Option.getD_none, and_true, true_and, and_self, List.contains_iff_mem, eq_self, ite_true, ite_false, t, h2]
  · simp -implicitDefEqProofs only [zz, if_true, if_false, List.getElem?_cons_zero, List.getElem?_cons_succ, List.set_cons_zero, List.set_cons_succ, List.map_cons, List.map_nil, List.length_cons, List.length_nil, List.cons_append, List.nil_append, List.append_nil, Option.map_some, Option.map_none, Bool.not_true, Bool.not_false, decide_true, decide_false, reduceIte, Nat.zero_add, Nat.reduceAdd, Nat.reduceSub, List.replicate_succ, List.replicate_zero, List.mem_cons, List.not_mem_nil, or_false, or_true, false_or, true_or, Nat.reduceEqDiff, Bool.false_eq_true, reduceCtorEq, Bool.true_and, Bool.and_true, Bool.and_self, Bool.and_false, Bool.false_and, Bool.or_true, Bool.true_or, Bool.or_false, Bool.false_or, Option.getD_some, Option.getD_none, and_true, true_and, and_self, List.contains_iff_mem, eq_self, ite_true, ite_false, t, h2]
end TV

set_option Elab.async false
set_option linter.all false
set_option maxRecDepth 100000
namespace TV
open PySem PySem.Spec PyProof.Rows L2 TC
/-! ### plain mathematics of disorders -/
def prs (r : Int → Int → Bool) : List Int → Int
  | [] => 0
  | x :: xs => ((xs.filter (r x)).length : Int) + prs r xs
def gtB (x y : Int) : Bool := decide (y < x)
def snB (x y : Int) : Bool := decide (x + y < 0)
theorem prs_snoc (r : Int → Int → Bool) (v : Int) : ∀ c : List Int, prs r (c ++ [v]) = prs r c + ((c.filter fun o => r o v).length : Int)
  | [] => rfl
  | x :: c => by
    rw [List.cons_append, prs, prs, prs_snoc r v c, List.filter_append, List.length_append]
    have e : ((([v] : List Int).filter (r x)).length : Int) + ((c.filter fun o => r o v).length : Int) = (((x :: c).filter fun o => r o v).length : Int) := by
      by_cases h : r x v = true
      · rw [List.filter_cons_of_pos h, List.filter_cons_of_pos (p := fun o => r o v) h, List.length_cons, List.filter_nil, List.length_nil, List.length_cons]
        omega
      · rw [List.filter_cons_of_neg h, List.filter_cons_of_neg (p := fun o => r o v) h, List.filter_nil, List.length_nil]
        omega
    omega
theorem sm_dis (c : List Int) : ∀ k, k ≤ c.length → sm k (disAt c) = prs gtB (c.take k) + prs snB (c.take k)
  | 0, _ => by rw [List.take_zero]; rfl
  | k + 1, h => by
    have e : c.take (k + 1) = c.take k ++ [c.getD k 0] := by
      rw [List.take_succ, List.getElem?_eq_getElem (by omega), List.getD_eq_getElem?_getD, List.getElem?_eq_getElem (by omega)]
      rfl
    rw [sm, sm_dis c k (by omega), e, prs_snoc, prs_snoc]
    unfold disAt gtB snB
    omega
theorem disM_eq (c : List Int) : disM c = ((c.filter fun o => decide (o < 0)).length : Int) + prs gtB c + prs snB c := by
  unfold disM
  rw [sm_dis c c.length (Nat.le_refl _), List.take_length]
  omega
theorem prs_app {r : Int → Int → Bool} {w w' : List Int} {δ : Int} (hp : w'.Perm w) (h : prs r w' = prs r w + δ) : ∀ u : List Int, prs r (u ++ w') = prs r (u ++ w) + δ
  | [] => h
  | x :: u => by
    rw [List.cons_append, List.cons_append, prs, prs, prs_app hp h u, ((hp.append_left u).filter (r x)).length_eq]
    omega
def b1 (p : Bool) : Int := if p then 1 else 0
theorem flt1 (p : Int → Bool) (x : Int) (xs : List Int) : (((x :: xs).filter p).length : Int) = b1 (p x) + ((xs.filter p).length : Int) := by
  unfold b1
  by_cases h : p x = true
  · rw [List.filter_cons_of_pos h, List.length_cons, h, if_pos rfl]; omega
  · rw [List.filter_cons_of_neg h, if_neg h]; omega
theorem dis_swap (u w : List Int) (a b : Int) : disM (u ++ b :: a :: w) = disM (u ++ a :: b :: w) + (b1 (gtB b a) - b1 (gtB a b)) := by
  have hp : (b :: a :: w).Perm (a :: b :: w) := List.Perm.swap _ _ _
  rw [disM_eq, disM_eq, ((hp.append_left u).filter _).length_eq]
  have h1 : prs gtB (b :: a :: w) = prs gtB (a :: b :: w) + (b1 (gtB b a) - b1 (gtB a b)) := by
    rw [prs, prs, prs, prs, flt1, flt1]; omega
  have h2 : prs snB (b :: a :: w) = prs snB (a :: b :: w) + 0 := by
    have e : snB b a = snB a b := by unfold snB; rw [Int.add_comm]
    rw [prs, prs, prs, prs, flt1, flt1, e]; omega
  rw [prs_app hp h1 u, prs_app hp h2 u]
  omega
theorem dis_turn (w : List Int) (a : Int) : disM (-a :: w) = disM (a :: w) + (b1 (decide (-a < 0)) - b1 (decide (a < 0))) := by
  rw [disM_eq, disM_eq, prs, prs, prs, prs, flt1, flt1]
  have e1 : snB (-a) = gtB a := by funext x; unfold snB gtB; rw [decide_eq_decide]; omega
  have e2 : gtB (-a) = snB a := by funext x; unfold snB gtB; rw [decide_eq_decide]; omega
  rw [e1, e2]
  omega
def bestAt (c : List Int) (s : Nat) : Bool := if s = 0 then decide (c.getD 0 0 < 0) else decide (c.getD s 0 < c.getD (s - 1) 0)
theorem lower_iff (c : List Int) (s : Nat) (hs : s < c.length) : decide (disM (nbr c s) < disM c) = bestAt c s := by
  rw [Bool.eq_iff_iff, decide_eq_true_iff]
  unfold nbr bestAt
  by_cases h : s = 0
  · subst h
    rw [if_pos rfl, if_pos rfl]
    cases c with
    | nil => exact (Nat.not_lt_zero _ hs).elim
    | cons a w =>
      show disM (-a :: w) < disM (a :: w) ↔ decide (a < 0) = true
      rw [dis_turn]
      unfold b1
      by_cases h1 : a < 0
      · rw [if_neg (by simp; omega), if_pos (by simpa using h1)]
        simp only [h1, decide_true, iff_true]
        omega
      · rw [if_neg (c := decide (a < 0) = true) (by simpa using h1)]
        simp only [h1, decide_false]
        constructor
        · intro z
          split at z <;> omega
        · intro z; cases z
  · rw [if_neg h, if_neg h]
    have e := split2 (ns := c) (k := s - 1) (by omega)
    have e3 : s - 1 + 1 = s := by omega
    have e4 : s - 1 + 2 = s + 1 := by omega
    rw [e3, e4] at e
    have e2 : c.take (s - 1) ++ [c.getD s 0, c.getD (s - 1) 0] ++ c.drop (s + 1) = c.take (s - 1) ++ c.getD s 0 :: c.getD (s - 1) 0 :: c.drop (s + 1) := by rw [List.append_assoc]; rfl
    rw [e2, dis_swap]
    generalize c.getD (s - 1) 0 = x at e ⊢
    generalize c.getD s 0 = y at e ⊢
    rw [← e]
    unfold b1 gtB
    by_cases h1 : y < x
    · rw [if_neg (by simp; omega), if_pos (by simpa using h1)]
      simp only [h1, decide_true, iff_true]
      omega
    · rw [if_neg (c := decide (y < x) = true) (by simpa using h1)]
      simp only [h1, decide_false]
      constructor
      · intro z
        split at z <;> omega
      · intro z; cases z
theorem prs_all {r : Int → Int → Bool} : ∀ {c : List Int}, c.Pairwise (fun x y => r x y = true) → 2 * prs r c = (c.length : Int) * c.length - c.length
  | [], _ => rfl
  | x :: c, h => by
    obtain ⟨h1, h2⟩ := List.pairwise_cons.mp h
    rw [prs, List.filter_eq_self.mpr h1, Int.mul_add, prs_all h2, List.length_cons]
    have e : ((c.length + 1 : Nat) : Int) * ((c.length + 1 : Nat) : Int) = (c.length : Int) * c.length + c.length + (c.length + 1) := by
      rw [show ((c.length + 1 : Nat) : Int) = (c.length : Int) + 1 by omega, Int.add_mul, Int.mul_add, Int.one_mul, Int.mul_one]
    omega
theorem dis_far (n : Nat) : disM (neg (rgI 1 n)) = (n : Int) * n := by
  have hl : (neg (rgI 1 n)).length = n := by unfold neg; rw [List.length_map, rgI_len]
  have hm : ∀ x ∈ neg (rgI 1 n), x < 0 := by
    intro x hx
    unfold neg at hx
    obtain ⟨y, hy, rfl⟩ := List.mem_map.mp hx
    have := (mem_rgI.mp hy).1
    omega
  have pw : (rgI 1 n).Pairwise (· < ·) := by
    unfold rgI
    rw [List.pairwise_map]
    exact List.pairwise_lt_range.imp fun h => by omega
  have p1 : (neg (rgI 1 n)).Pairwise (fun x y => gtB x y = true) := by
    unfold neg
    rw [List.pairwise_map]
    exact pw.imp fun h => by unfold gtB; exact decide_eq_true (by omega)
  have p2 : (neg (rgI 1 n)).Pairwise (fun x y => snB x y = true) := by
    refine List.pairwise_of_forall_mem_list fun x hx y hy => ?_
    have := hm x hx
    have := hm y hy
    unfold snB
    exact decide_eq_true (by omega)
  have a1 := prs_all p1
  have a2 := prs_all p2
  rw [hl] at a1 a2
  rw [disM_eq, List.filter_eq_self.mpr fun x hx => decide_eq_true (hm x hx), hl]
  omega
end TV

set_option Elab.async false
set_option linter.all false
set_option maxRecDepth 100000
namespace TV
open PySem PySem.Spec PyProof.Rows L2 TC
theorem addL {ds es : List D} (h : ds.length + es.length ≤ LIM) : fAdd (.lst ds) (.lst es) = some (.lst (ds ++ es), true) := by
  show (if ds.length + es.length ≤ LIM then some (D.lst (ds ++ es), true) else none) = _
  rw [if_pos h]
def bestL (c : List Int) : List Nat := (List.range c.length).filter (bestAt c)
theorem bestL_eq (c : List Int) (h : 0 < c.length) : WI (bestL c) = (if c.getD 0 0 < 0 then [D.int 0] else []) ++ ((List.range (c.length - 1)).filter fun i => bestAt c (i + 1)).map fun (i : Nat) => D.int (1 + i) := by
  have e : c.length = c.length - 1 + 1 := by omega
  unfold bestL
  rw [e, List.range_succ_eq_map, List.filter_cons, List.filter_map]
  have e0 : bestAt c 0 = decide (c.getD 0 0 < 0) := rfl
  have e1 : (bestAt c ∘ Nat.succ) = fun i => bestAt c (i + 1) := rfl
  rw [e0, e1, Nat.add_sub_cancel]
  generalize (List.range (c.length - 1)).filter (fun i => bestAt c (i + 1)) = l
  have e2 : (l.map Nat.succ).map (fun (s : Nat) => D.int s) = l.map fun (i : Nat) => D.int (1 + i) := by
    rw [List.map_map]
    refine List.map_congr_left fun i _ => ?_
    show D.int ((i + 1 : Nat) : Int) = _
    congr 1
    omega
  by_cases h0 : c.getD 0 0 < 0
  · rw [if_pos (decide_eq_true h0), if_pos h0]
    unfold WI
    rw [List.map_cons, e2]
    rfl
  · rw [if_neg (by simpa using h0), if_neg h0]
    exact e2
theorem best_ok (c : List Int) (h : 0 < c.length) (hl : c.length ≤ 2000) : ev_best_steps [TI c] = .ok (.lst (WI (bestL c))) true [] := by
  have hL : LIM = 1000000 := rfl
  have l1 : ∀ q, lcGo (gtName 2) ev_best_steps_t1 (eVar 2) [2] ((List.range (c.length - 1)).map fun (i : Nat) => D.int (1 + i)) [pS (TI c), q, none] [] = some (((List.range (c.length - 1)).filter fun i => bestAt c (i + 1)).map (fun (i : Nat) => D.int (1 + i)), [pS (TI c), q, none]) := fun q => by
    refine lcMF (fun i hi => ⟨_, rfl, rfl, ?_, fun _ => .inl rfl⟩) (by rw [List.length_range]; omega)
    rw [List.mem_range] at hi
    have e1 : ((i + 1 : Nat) : Int) - 1 = (i : Int) := by omega
    have e2 : (1 : Int) + i = ((i + 1 : Nat) : Int) := by omega
    have e3 : bestAt c (i + 1) = decide (c.getD (i + 1) 0 < c.getD i 0) := rfl
    unfold ev_best_steps_t1
    simp -implicitDefEqProofs only [zz, if_true, if_false, List.getElem?_cons_zero, List.getElem?_cons_succ, List.set_cons_zero, List.set_cons_succ, List.map_cons, List.map_nil, List.length_cons, List.length_nil, List.cons_append, List.nil_append, List.append_nil, Option.map_some, Option.map_none, Bool.not_true, Bool.not_false, decide_true, decide_false, reduceIte, Nat.zero_add, Nat.reduceAdd, Nat.reduceSub, List.replicate_succ, List.replicate_zero, List.mem_cons, List.not_mem_nil, or_false, or_true, false_or, true_or, Nat.reduceEqDiff, Bool.false_eq_true, reduceCtorEq, Bool.true_and, Bool.and_true, Bool.and_self, Bool.and_false, Bool.false_and, Bool.or_true, Bool.true_or, Bool.or_false, Bool.false_or, Option.getD_some, Option.getD_none, and_true, true_and, and_self, List.contains_iff_mem, eq_self, ite_true, ite_false, sub_i, e1, ixTn (ns := c) (i := i) (by omega), e2, ixTn (ns := c) (i := i + 1) (by omega), gt_i, e3]
  have e0 : fIx (TI c) (.int 0) = some (.int (c.getD 0 0), false) := ixTI (a := 0) (by decide) h
  have r1 : rngOk1 1 = true := rngOk1_of (by decide) (by decide)
  have r2 : rngOk1 (c.length : Int) = true := rngOk1_of (by omega) (by omega)
  have e4 : ((c.length : Int) - 1).toNat = c.length - 1 := by omega
  have lf : (((List.range (c.length - 1)).filter fun i => bestAt c (i + 1)).map fun (i : Nat) => D.int (1 + i)).length ≤ 2000 := by
    rw [List.length_map]
    exact Nat.le_trans (List.length_filter_le _ _) (by rw [List.length_range]; omega)
  unfold ev_best_steps
  rw [bestL_eq c h]
  by_cases h0 : c.getD 0 0 < 0
  · have a1 := addL (ds := [D.int 0]) (es := ((List.range (c.length - 1)).filter fun i => bestAt c (i + 1)).map fun (i : Nat) => D.int (1 + i)) (by rw [List.length_singleton]; omega)
    simp -implicitDefEqProofs only [zz, if_true, if_false, List.getElem?_cons_zero, List.getElem?_cons_succ, List.set_cons_zero, List.set_cons_succ, List.map_cons, List.map_nil, List.length_cons, List.length_nil, List.cons_append, List.nil_append, List.append_nil, Option.map_some, Option.map_none, Bool.not_true, Bool.not_false, decide_true, decide_false, reduceIte, Nat.zero_add, Nat.reduceAdd, Nat.reduceSub, List.replicate_succ, List.replicate_zero, List.mem_cons, List.not_mem_nil, or_false, or_true, false_or, true_or, Nat.reduceEqDiff, Bool.false_eq_true, reduceCtorEq, Bool.true_and, Bool.and_true, Bool.and_self, Bool.and_false, Bool.false_and, Bool.or_true, Bool.true_or, Bool.or_false, Bool.false_or, Option.getD_some, Option.getD_none, and_true, true_and, and_self, List.contains_iff_mem, eq_self, ite_true, ite_false, e0, lt_i, h0, lenTI, r1, r2, e4, rgI_map, l1, a1]
  · have a1 := addL (ds := []) (es := ((List.range (c.length - 1)).filter fun i => bestAt c (i + 1)).map fun (i : Nat) => D.int (1 + i)) (by rw [List.length_nil]; omega)
    simp -implicitDefEqProofs only [zz, if_true, if_false, List.getElem?_cons_zero, List.getElem?_cons_succ, List.set_cons_zero, List.set_cons_succ, List.map_cons, List.map_nil, List.length_cons, List.length_nil, List.cons_append, List.nil_append, List.append_nil, Option.map_some, Option.map_none, Bool.not_true, Bool.not_false, decide_true, decide_false, reduceIte, Nat.zero_add, Nat.reduceAdd, Nat.reduceSub, List.replicate_succ, List.replicate_zero, List.mem_cons, List.not_mem_nil, or_false, or_true, false_or, true_or, Nat.reduceEqDiff, Bool.false_eq_true, reduceCtorEq, Bool.true_and, Bool.and_true, Bool.and_self, Bool.and_false, Bool.false_and, Bool.or_true, Bool.true_or, Bool.or_false, Bool.false_or, Option.getD_some, Option.getD_none, and_true, true_and, and_self, List.contains_iff_mem, eq_self, ite_true, ite_false, e0, lt_i, h0, lenTI, r1, r2, e4, rgI_map, l1, a1]
theorem bestN_ok {c : List Int} (h : IsRow c) : ev_best_neighbors [AR c] = .ok (.lst (WI (bestL c))) true [] := by
  unfold ev_best_neighbors
  simp -implicitDefEqProofs only [zz, if_true, if_false, List.getElem?_cons_zero, List.getElem?_cons_succ, List.set_cons_zero, List.set_cons_succ, List.map_cons, List.map_nil, List.length_cons, List.length_nil, List.cons_append, List.nil_append, List.append_nil, Option.map_some, Option.map_none, Bool.not_true, Bool.not_false, decide_true, decide_false, reduceIte, Nat.zero_add, Nat.reduceAdd, Nat.reduceSub, List.replicate_succ, List.replicate_zero, List.mem_cons, List.not_mem_nil, or_false, or_true, false_or, true_or, Nat.reduceEqDiff, Bool.false_eq_true, reduceCtorEq, Bool.true_and, Bool.and_true, Bool.and_self, Bool.and_false, Bool.false_and, Bool.or_true, Bool.true_or, Bool.or_false, Bool.false_or, Option.getD_some, Option.getD_none, and_true, true_and, and_self, List.contains_iff_mem, eq_self, ite_true, ite_false, arow_ok, best_ok c h.1 h.2.1]
/-! ### words -/
theorem word_lc (x : D) (n : Int) (ds : List D) (hd : ∀ d ∈ ds, (d.tyN).isSome = true) (hl : ds.length ≤ LIM) : lcGo (gtName 2) eYes ev_is_word_e1 [2] ds [pS (.int n), pS x, none] [] = some (ds.map (fun d => D.bl (d.btw 0 (n - 1))), [pS (.int n), pS x, none]) :=
  lcD (fun d hm => ⟨_, rfl, rfl, .inl (by unfold ev_is_word_e1; simp -implicitDefEqProofs only [zz, if_true, if_false, List.getElem?_cons_zero, List.getElem?_cons_succ, List.set_cons_zero, List.set_cons_succ, List.map_cons, List.map_nil, List.length_cons, List.length_nil, List.cons_append, List.nil_append, List.append_nil, Option.map_some, Option.map_none, Bool.not_true, Bool.not_false, decide_true, decide_false, reduceIte, Nat.zero_add, Nat.reduceAdd, Nat.reduceSub, List.replicate_succ, List.replicate_zero, List.mem_cons, List.not_mem_nil, or_false, or_true, false_or, true_or, Nat.reduceEqDiff, Bool.false_eq_true, reduceCtorEq, Bool.true_and, Bool.and_true, Bool.and_self, Bool.and_false, Bool.false_and, Bool.or_true, Bool.true_or, Bool.or_false, Bool.false_or, Option.getD_some, Option.getD_none, and_true, true_and, and_self, List.contains_iff_mem, eq_self, ite_true, ite_false, sub_i, is_between_ok (hd d hm)])⟩) hl
theorem isword_ok (x : D) (n : Int) (ds : List D) (hx : x = .lst ds ∨ x = .tup ds) (hd : ∀ d ∈ ds, (d.tyN).isSome = true) (hl : ds.length ≤ LIM) : ev_is_word [.int n, x] = .ok (.bl (ds.all fun d => d.btw 0 (n - 1))) false [] := by
  have l1 := word_lc x n ds hd hl
  have al : fAll (.lst (ds.map fun d => D.bl (d.btw 0 (n - 1)))) = some (.bl (ds.all fun d => d.btw 0 (n - 1)), false) := all_map
  unfold ev_is_word
  rcases hx with rfl | rfl
  · have t1 : eIsiT ["list", "tuple"] (eVar 1) [pS (.int n), pS (.lst ds), none] = .ok (.dv (.bl true)) [pS (.int n), pS (.lst ds), none] := isLT (d := .lst ds) rfl rfl
    simp -implicitDefEqProofs only [zz, if_true, if_false, List.getElem?_cons_zero, List.getElem?_cons_succ, List.set_cons_zero, List.set_cons_succ, List.map_cons, List.map_nil, List.length_cons, List.length_nil, List.cons_append, List.nil_append, List.append_nil, Option.map_some, Option.map_none, Bool.not_true, Bool.not_false, decide_true, decide_false, reduceIte, Nat.zero_add, Nat.reduceAdd, Nat.reduceSub, List.replicate_succ, List.replicate_zero, List.mem_cons, List.not_mem_nil, or_false, or_true, false_or, true_or, Nat.reduceEqDiff, Bool.false_eq_true, reduceCtorEq, Bool.true_and, Bool.and_true, Bool.and_self, Bool.and_false, Bool.false_and, Bool.or_true, Bool.true_or, Bool.or_false, Bool.false_or, Option.getD_some, Option.getD_none, and_true, true_and, and_self, List.contains_iff_mem, eq_self, ite_true, ite_false, t1, l1, al]
  · have t1 : eIsiT ["list", "tuple"] (eVar 1) [pS (.int n), pS (.tup ds), none] = .ok (.dv (.bl true)) [pS (.int n), pS (.tup ds), none] := isLT (d := .tup ds) rfl rfl
    simp -implicitDefEqProofs only [zz, if_true, if_false, List.getElem?_cons_zero, List.getElem?_cons_succ, List.set_cons_zero, List.set_cons_succ, List.map_cons, List.map_nil, List.length_cons, List.length_nil, List.cons_append, List.nil_append, List.append_nil, Option.map_some, Option.map_none, Bool.not_true, Bool.not_false, decide_true, decide_false, reduceIte, Nat.zero_add, Nat.reduceAdd, Nat.reduceSub, List.replicate_succ, List.replicate_zero, List.mem_cons, List.not_mem_nil, or_false, or_true, false_or, true_or, Nat.reduceEqDiff, Bool.false_eq_true, reduceCtorEq, Bool.true_and, Bool.and_true, Bool.and_self, Bool.and_false, Bool.false_and, Bool.or_true, Bool.true_or, Bool.or_false, Bool.false_or, Option.getD_some, Option.getD_none, and_true, true_and, and_self, List.contains_iff_mem, eq_self, ite_true, ite_false, t1, l1, al]
theorem isword_no (x : D) (n : Int) (hx : x = .non ∨ (∃ i, x = .int i) ∨ (∃ s, x = .str s) ∨ x = .dct [] []) : ev_is_word [.int n, x] = .ok (.bl false) false [] := by
  unfold ev_is_word
  have go : eIsiT ["list", "tuple"] (eVar 1) [pS (.int n), pS x, none] = .ok (.dv (.bl false)) [pS (.int n), pS x, none] := by
    rcases hx with rfl | ⟨i, rfl⟩ | ⟨s, rfl⟩ | rfl
    · exact isLT (n := "NoneType") (d := .non) rfl rfl
    · exact isLT (n := "int") (d := .int i) rfl rfl
    · exact isLT (n := "str") (d := .str s) rfl rfl
    · exact isLT (n := "dict") (d := .dct [] []) rfl rfl
  simp -implicitDefEqProofs only [zz, if_true, if_false, List.getElem?_cons_zero, List.getElem?_cons_succ, List.set_cons_zero, List.set_cons_succ, List.map_cons, List.map_nil, List.length_cons, List.length_nil, List.cons_append, List.nil_append, List.append_nil, Option.map_some, Option.map_none, Bool.not_true, Bool.not_false, decide_true, decide_false, reduceIte, Nat.zero_add, Nat.reduceAdd, Nat.reduceSub, List.replicate_succ, List.replicate_zero, List.mem_cons, List.not_mem_nil, or_false, or_true, false_or, true_or, Nat.reduceEqDiff, Bool.false_eq_true, reduceCtorEq, Bool.true_and, Bool.and_true, Bool.and_self, Bool.and_false, Bool.false_and, Bool.or_true, Bool.true_or, Bool.or_false, Bool.false_or, Option.getD_some, Option.getD_none, and_true, true_and, and_self, List.contains_iff_mem, eq_self, ite_true, ite_false, go]
theorem nbr_row {c : List Int} {s : Nat} (h : IsRow c) (hs : s < c.length) : IsRow (nbr c s) := by
  unfold nbr
  by_cases h0 : s = 0
  · subst h0
    rw [if_pos rfl]
    cases c with
    | nil => exact (Nat.not_lt_zero _ hs).elim
    | cons a w =>
      refine ⟨h.1, h.2.1, ?_⟩
      have := h.2.2
      show (absI (-a) :: w.map absI).Perm _
      rw [absI_negI]
      exact this
  · rw [if_neg h0]
    have e3 : s - 1 + 1 = s := by omega
    have e4 : s - 1 + 2 = s + 1 := by omega
    have := swap_perm (ns := c) (k := s - 1) (by omega)
    unfold swapAt at this
    rw [e3, e4] at this
    exact isRow_perm this h
theorem aft_row : ∀ {w : List Nat} {c : List Int}, IsRow c → (∀ s ∈ w, s < c.length) → IsRow (aft c w)
  | [], _, h, _ => h
  | s :: w, c, h, hs => by
    have h1 := hs s List.mem_cons_self
    exact aft_row (w := w) (nbr_row h h1) fun z hz => by rw [nbr_len h1]; exact hs z (List.mem_cons_of_mem _ hz)
theorem wi_btw {n : Nat} {w : List Nat} (h : ∀ s ∈ w, s < n) : ((WI w).all fun d => d.btw 0 ((n : Int) - 1)) = true := by
  rw [List.all_eq_true]
  intro d hd
  obtain ⟨s, hs, rfl⟩ := List.mem_map.mp hd
  have := h s hs
  show (decide ((0 : Int) ≤ s) && decide ((s : Int) ≤ (n : Int) - 1)) = true
  rw [decide_eq_true (by omega), decide_eq_true (by omega)]
  rfl
theorem len62 {n : Nat} (h : n ≤ 2000) : ((0 : Int) ≤ (n : Int) ∧ (n : Int) < 2 ^ 62) = True := eq_true ⟨by omega, by omega⟩
theorem wi_ty {w : List Nat} : ∀ d ∈ WI w, (d.tyN).isSome = true := fun d hd => by
  obtain ⟨s, hs, rfl⟩ := List.mem_map.mp hd
  rfl
theorem perform_ok {c : List Int} (h : IsRow c) (w : List Nat) (x : D) (hx : x = .lst (WI w) ∨ x = .tup (WI w)) (hw : ∀ s ∈ w, s < c.length) (hl : w.length ≤ LIM) : ev_perform [AR c, x] = .ok (AR (aft c w)) true [] := by
  have t := isword_ok x c.length (WI w) hx wi_ty (by rw [List.length_map]; exact hl)
  rw [wi_btw hw] at t
  have a1 := aw_ok c w x hx hw h.2.1
  have i := init_ok (TI (aft c w)) (aft c w) (.inr rfl) (aft_row h hw)
  unfold ev_perform
  simp -implicitDefEqProofs only [zz, if_true, if_false, List.getElem?_cons_zero, List.getElem?_cons_succ, List.set_cons_zero, List.set_cons_succ, List.map_cons, List.map_nil, List.length_cons, List.length_nil, List.cons_append, List.nil_append, List.append_nil, Option.map_some, Option.map_none, Bool.not_true, Bool.not_false, decide_true, decide_false, reduceIte, Nat.zero_add, Nat.reduceAdd, Nat.reduceSub, List.replicate_succ, List.replicate_zero, List.mem_cons, List.not_mem_nil, or_false, or_true, false_or, true_or, Nat.reduceEqDiff, Bool.false_eq_true, reduceCtorEq, Bool.true_and, Bool.and_true, Bool.and_self, Bool.and_false, Bool.false_and, Bool.or_true, Bool.true_or, Bool.or_false, Bool.false_or, Option.getD_some, Option.getD_none, and_true, true_and, and_self, List.contains_iff_mem, eq_self, ite_true, ite_false, alen_ok, len62 h.2.1, t, arow_ok, a1, i]
theorem perform_bad {c : List Int} (h : IsRow c) (x : D) (hx : ev_is_word [.int c.length, x] = .ok (.bl false) false []) : ev_perform [AR c, x] = .ex .word x [] := by
  unfold ev_perform
  simp -implicitDefEqProofs only [zz, if_true, if_false, List.getElem?_cons_zero, List.getElem?_cons_succ, List.set_cons_zero, List.set_cons_succ, List.map_cons, List.map_nil, List.length_cons, List.length_nil, List.cons_append, List.nil_append, List.append_nil, Option.map_some, Option.map_none, Bool.not_true, Bool.not_false, decide_true, decide_false, reduceIte, Nat.zero_add, Nat.reduceAdd, Nat.reduceSub, List.replicate_succ, List.replicate_zero, List.mem_cons, List.not_mem_nil, or_false, or_true, false_or, true_or, Nat.reduceEqDiff, Bool.false_eq_true, reduceCtorEq, Bool.true_and, Bool.and_true, Bool.and_self, Bool.and_false, Bool.false_and, Bool.or_true, Bool.true_or, Bool.or_false, Bool.false_or, Option.getD_some, Option.getD_none, and_true, true_and, and_self, List.contains_iff_mem, eq_self, ite_true, ite_false, alen_ok, len62 h.2.1, hx]
theorem refused_ok {c : List Int} (h : IsRow c) (x : D) {r : Str} (hx : ev_is_word [.int c.length, x] = .ok (.bl false) false []) (hr : fRepr x = some (.str r, false)) : ev_L_refused_2 [AR c, x] = .ok (.bl true) false [] := by
  have e : fEq (.str r) (.str r) = some (.bl true, false) := eq_self dat_str
  unfold ev_L_refused_2
  simp -implicitDefEqProofs only [zz, if_true, if_false, List.getElem?_cons_zero, List.getElem?_cons_succ, List.set_cons_zero, List.set_cons_succ, List.map_cons, List.map_nil, List.length_cons, List.length_nil, List.cons_append, List.nil_append, List.append_nil, Option.map_some, Option.map_none, Bool.not_true, Bool.not_false, decide_true, decide_false, reduceIte, Nat.zero_add, Nat.reduceAdd, Nat.reduceSub, List.replicate_succ, List.replicate_zero, List.mem_cons, List.not_mem_nil, or_false, or_true, false_or, true_or, Nat.reduceEqDiff, Bool.false_eq_true, reduceCtorEq, Bool.true_and, Bool.and_true, Bool.and_self, Bool.and_false, Bool.false_and, Bool.or_true, Bool.true_or, Bool.or_false, Bool.false_or, Option.getD_some, Option.getD_none, and_true, true_and, and_self, List.contains_iff_mem, eq_self, ite_true, ite_false, perform_bad h x hx, hr, e]
theorem lfar_ok {n : Nat} (h1 : 1 ≤ n) (h2 : n ≤ 2000) : ev_L_farthest [.int n] = .ok (.lst [.str "row", TI (neg (rgI 1 n))]) true [] := by
  unfold ev_L_farthest
  simp -implicitDefEqProofs only [zz, if_true, if_false, List.getElem?_cons_zero, List.getElem?_cons_succ, List.set_cons_zero, List.set_cons_succ, List.map_cons, List.map_nil, List.length_cons, List.length_nil, List.cons_append, List.nil_append, List.append_nil, Option.map_some, Option.map_none, Bool.not_true, Bool.not_false, decide_true, decide_false, reduceIte, Nat.zero_add, Nat.reduceAdd, Nat.reduceSub, List.replicate_succ, List.replicate_zero, List.mem_cons, List.not_mem_nil, or_false, or_true, false_or, true_or, Nat.reduceEqDiff, Bool.false_eq_true, reduceCtorEq, Bool.true_and, Bool.and_true, Bool.and_self, Bool.and_false, Bool.false_and, Bool.or_true, Bool.true_or, Bool.or_false, Bool.false_or, Option.getD_some, Option.getD_none, and_true, true_and, and_self, List.contains_iff_mem, eq_self, ite_true, ite_false, far_ok h1 h2, arow_ok]
theorem lfar_bad {x : D} {r : Str} (hx : (x.tyN).isSome = true) (h : x.btw 1 2000 = false) (hr : fRepr x = some (.str r, false)) : ev_L_farthest [x] = .ok (.lst [.str "number", .str r]) true [] := by
  unfold ev_L_farthest
  simp -implicitDefEqProofs only [zz, if_true, if_false, List.getElem?_cons_zero, List.getElem?_cons_succ, List.set_cons_zero, List.set_cons_succ, List.map_cons, List.map_nil, List.length_cons, List.length_nil, List.cons_append, List.nil_append, List.append_nil, Option.map_some, Option.map_none, Bool.not_true, Bool.not_false, decide_true, decide_false, reduceIte, Nat.zero_add, Nat.reduceAdd, Nat.reduceSub, List.replicate_succ, List.replicate_zero, List.mem_cons, List.not_mem_nil, or_false, or_true, false_or, true_or, Nat.reduceEqDiff, Bool.false_eq_true, reduceCtorEq, Bool.true_and, Bool.and_true, Bool.and_self, Bool.and_false, Bool.false_and, Bool.or_true, Bool.true_or, Bool.or_false, Bool.false_or, Option.getD_some, Option.getD_none, and_true, true_and, and_self, List.contains_iff_mem, eq_self, ite_true, ite_false, far_bad hx h, hr]
end TV

set_option Elab.async false
set_option linter.all false
set_option maxRecDepth 100000
namespace TV
open PySem PySem.Spec PyProof.Rows L2 TC
theorem dat_wi {w : List Nat} {n : Nat} : (D.lst (WI w)).dat (n + 1) = true := dat_lst (datL_all fun d hd => by
  obtain ⟨s, _, rfl⟩ := List.mem_map.mp hd
  exact dat_int)
theorem kids_AR {ks : List Kn} {ns : List Int} : D.kids ks (AR ns) = true := by
  show (D.noK ks (TI ns) && true) = true
  rw [show D.noK ks (TI ns) = D.noKL ks (ns.map D.int) from rfl, noKL_ints]
  rfl
theorem rokL_ints {n : Nat} : ∀ {ns : List Int}, (∀ i ∈ ns, i.natAbs < 10 ^ 50) → ∃ m, m ≤ 51 ∧ D.rokL (ns.map D.int) n = some m
  | [], _ => ⟨0, by omega, rfl⟩
  | i :: ns, h => by
    obtain ⟨m, hm, e⟩ := rokL_ints (n := n) fun z hz => h z (List.mem_cons_of_mem _ hz)
    refine ⟨max 51 m, by omega, ?_⟩
    rw [List.map_cons, D.rokL, e, D.rok, if_pos (h i List.mem_cons_self)]
theorem repr_LI {ns : List Int} (h : ∀ i ∈ ns, i.natAbs < 10 ^ 50) (hl : ns.length ≤ 3000) : ∃ r, fRepr (LI ns) = some (.str r, false) := by
  obtain ⟨m, hm, e⟩ := rokL_ints (n := 19) h
  refine ⟨(LI ns).py.shown, ?_⟩
  show (match D.rok (LI ns) 20 with
    | some m => if m ≤ 1000000 then some (D.str (LI ns).py.shown, false) else none
    | none => none) = _
  rw [D.rok, e]
  dsimp only
  rw [List.length_map, if_pos (by have := Nat.mul_le_mul hl hm; omega)]
theorem wi_LI (w : List Nat) : WI w = (w.map fun (s : Nat) => (s : Int)).map D.int := by
  unfold WI
  rw [List.map_map]
  rfl
/-! ### a drawn word -/
theorem draw_lc (x0 x1 x2 x4 x5 x6 x7 x8 x10 x11 x12 x14 : Option Sl) (n : Nat) (h1 : 1 ≤ n) (h2 : n ≤ 100) : ∀ (xs acc : List D) (a b : Int), acc.length + xs.length ≤ 1000 → ∃ w a' b', (∀ s ∈ w, s < n) ∧ w.length = xs.length ∧
    lcGo (gtName 13) eYes ev_k10_law_e1 [13] xs [x0, x1, x2, oS (poolD a b), x4, x5, x6, x7, x8, pS (.int n), x10, x11, x12, none, x14] acc = some (acc ++ WI w, [x0, x1, x2, oS (poolD a' b'), x4, x5, x6, x7, x8, pS (.int n), x10, x11, x12, none, x14])
  | [], acc, a, b, _ => ⟨[], a, b, fun _ h => (List.not_mem_nil h).elim, rfl, by rw [show WI [] = [] from rfl, List.append_nil]; rfl⟩
  | x :: xs, acc, a, b, hl => by
    have hL : LIM = 1000000 := rfl
    have tr := takeR_range a b n (by omega)
    obtain ⟨s, hs⟩ := Int.eq_ofNat_of_zero_le tr.1
    rw [List.length_cons] at hl
    obtain ⟨w, a', b', hw, hwl, e⟩ := draw_lc x0 x1 x2 x4 x5 x6 x7 x8 x10 x11 x12 x14 n h1 h2 xs (acc ++ [.int s]) (takeA a n) (takeB a b) (by rw [List.length_append, List.length_singleton]; omega)
    refine ⟨s :: w, a', b', ?_, by rw [List.length_cons, List.length_cons, hwl], ?_⟩
    · intro z hz
      rcases List.mem_cons.mp hz with rfl | hz
      · omega
      · exact hw z hz
    have he : ev_k10_law_e1 [x0, x1, x2, oS (poolD a b), x4, x5, x6, x7, x8, pS (.int n), x10, x11, x12, pS x, x14] = .ok (.dv (.int s)) [x0, x1, x2, oS (poolD (takeA a n) (takeB a b)), x4, x5, x6, x7, x8, pS (.int n), x10, x11, x12, pS x, x14] := by
      unfold ev_k10_law_e1
      simp -implicitDefEqProofs only [zz, if_true, if_false, List.getElem?_cons_zero, List.getElem?_cons_succ, List.set_cons_zero, List.set_cons_succ, List.map_cons, List.map_nil, List.length_cons, List.length_nil, List.cons_append, List.nil_append, List.append_nil, Option.map_some, Option.map_none, Bool.not_true, Bool.not_false, decide_true, decide_false, reduceIte, Nat.zero_add, Nat.reduceAdd, Nat.reduceSub, List.replicate_succ, List.replicate_zero, List.mem_cons, List.not_mem_nil, or_false, or_true, false_or, true_or, Nat.reduceEqDiff, Bool.false_eq_true, reduceCtorEq, Bool.true_and, Bool.and_true, Bool.and_self, Bool.and_false, Bool.false_and, Bool.or_true, Bool.true_or, Bool.or_false, Bool.false_or, Option.getD_some, Option.getD_none, and_true, true_and, and_self, List.contains_iff_mem, eq_self, ite_true, ite_false, zt_take (n := (n : Int)) (by omega) (log2_small (by omega) (by omega)), zt_take1, hs]
    show (match gtName 13 x [x0, x1, x2, oS (poolD a b), x4, x5, x6, x7, x8, pS (.int n), x10, x11, x12, none, x14] with
      | some E1 => match eYes E1 with
        | .ok true E2 => match ev_k10_law_e1 E2 with
          | .ok v E3 => match E3.frz v with
            | some (z, E4) => if acc.length < LIM then lcGo (gtName 13) eYes ev_k10_law_e1 [13] xs (wipeE E4 [13]) (acc ++ [z]) else none
            | none => none
          | _ => none
        | .ok false E2 => lcGo (gtName 13) eYes ev_k10_law_e1 [13] xs (wipeE E2 [13]) acc
        | _ => none
      | none => none) = _
    show (match ev_k10_law_e1 [x0, x1, x2, oS (poolD a b), x4, x5, x6, x7, x8, pS (.int n), x10, x11, x12, pS x, x14] with
          | .ok v E3 => match E3.frz v with
            | some (z, E4) => if acc.length < LIM then lcGo (gtName 13) eYes ev_k10_law_e1 [13] xs (wipeE E4 [13]) (acc ++ [z]) else none
            | none => none
          | _ => none) = _
    rw [he]
    show (if acc.length < LIM then lcGo (gtName 13) eYes ev_k10_law_e1 [13] xs [x0, x1, x2, oS (poolD (takeA a n) (takeB a b)), x4, x5, x6, x7, x8, pS (.int n), x10, x11, x12, none, x14] (acc ++ [.int s]) else none) = _
    rw [if_pos (by omega), e, List.append_assoc]
    rfl
/-! ### the word, step by step -/
theorem b1_loop (x0 x1 x2 x3 x4 x5 x6 x8 x9 x10 x11 x13 x14 : Option Sl) : ∀ (w : List Nat) (c : List Int) (k : Kd) (j7 : Option Sl), (k = .pure ∨ k = .own) → zOa (some j7) = false → (∀ s ∈ w, s < c.length) → c.length ≤ 2000 → ∃ k' j7', zOa (some j7') = false ∧ (k' = .pure ∨ k' = .own) ∧
    loop (gtName 7) ev_k10_law_b1 (WI w) [x0, x1, x2, x3, x4, x5, x6, j7, x8, x9, x10, x11, some (.val k (LI c)), x13, x14] = .nx [x0, x1, x2, x3, x4, x5, x6, j7', x8, x9, x10, x11, some (.val k' (LI (aft c w))), x13, x14]
  | [], c, k, j7, hk, h7, _, _ => ⟨k, j7, h7, hk, rfl⟩
  | s :: w, c, k, j7, hk, h7, h, hl => by
    have hs := h s List.mem_cons_self
    obtain ⟨k', j7', h7', hk', e⟩ := b1_loop x0 x1 x2 x3 x4 x5 x6 x8 x9 x10 x11 x13 x14 w (nbr c s) .own (pS (.int s)) (.inr rfl) rfl (fun z hz => by rw [nbr_len hs]; exact h z (List.mem_cons_of_mem _ hz)) (by rw [nbr_len hs]; exact hl)
    refine ⟨k', j7', h7', hk', ?_⟩
    show loop (gtName 7) ev_k10_law_b1 (D.int s :: WI w) _ = _
    rw [loop_cons (E1 := [x0, x1, x2, x3, x4, x5, x6, pS (.int s), x8, x9, x10, x11, some (.val k (LI c)), x13, x14]) rfl]
    have hn := nbr_ok c s hs hl
    have hb : ev_k10_law_b1 [x0, x1, x2, x3, x4, x5, x6, pS (.int s), x8, x9, x10, x11, some (.val k (LI c)), x13, x14] = .nx [x0, x1, x2, x3, x4, x5, x6, pS (.int s), x8, x9, x10, x11, oS (LI (nbr c s)), x13, x14] := by
      unfold ev_k10_law_b1
      rcases hk with rfl | rfl
      · simp -implicitDefEqProofs only [zz, if_true, if_false, List.getElem?_cons_zero, List.getElem?_cons_succ, List.set_cons_zero, List.set_cons_succ, List.map_cons, List.map_nil, List.length_cons, List.length_nil, List.cons_append, List.nil_append, List.append_nil, Option.map_some, Option.map_none, Bool.not_true, Bool.not_false, decide_true, decide_false, reduceIte, Nat.zero_add, Nat.reduceAdd, Nat.reduceSub, List.replicate_succ, List.replicate_zero, List.mem_cons, List.not_mem_nil, or_false, or_true, false_or, true_or, Nat.reduceEqDiff, Bool.false_eq_true, reduceCtorEq, Bool.true_and, Bool.and_true, Bool.and_self, Bool.and_false, Bool.false_and, Bool.or_true, Bool.true_or, Bool.or_false, Bool.false_or, Option.getD_some, Option.getD_none, and_true, true_and, and_self, List.contains_iff_mem, eq_self, ite_true, ite_false, hn]
      · have hc := lendG2 (E := [x0, x1, x2, x3, x4, x5, x6, pS (.int s), x8, x9, x10, x11, oS (LI c), x13, x14]) (i := 12) (k := .own) (w := .dv (.int s)) (F := ev_L_neighbor) rfl (by decide) (.inl rfl) hn fun ks => safe_LI
        simp -implicitDefEqProofs only [zz, if_true, if_false, List.getElem?_cons_zero, List.getElem?_cons_succ, List.set_cons_zero, List.set_cons_succ, List.map_cons, List.map_nil, List.length_cons, List.length_nil, List.cons_append, List.nil_append, List.append_nil, Option.map_some, Option.map_none, Bool.not_true, Bool.not_false, decide_true, decide_false, reduceIte, Nat.zero_add, Nat.reduceAdd, Nat.reduceSub, List.replicate_succ, List.replicate_zero, List.mem_cons, List.not_mem_nil, or_false, or_true, false_or, true_or, Nat.reduceEqDiff, Bool.false_eq_true, reduceCtorEq, Bool.true_and, Bool.and_true, Bool.and_self, Bool.and_false, Bool.false_and, Bool.or_true, Bool.true_or, Bool.or_false, Bool.false_or, Option.getD_some, Option.getD_none, and_true, true_and, and_self, List.contains_iff_mem, eq_self, ite_true, ite_false, hc]
    rw [hb]
    exact e
theorem b2_ok (x0 x1 x2 x3 x5 x6 x7 x9 x11 x13 x14 : Option Sl) (c : List Int) (hc : IsRow c) (w : List Nat) (x : D) (k : Kd) (hx : x = .lst (WI w) ∨ x = .tup (WI w)) (hw : ∀ s ∈ w, s < c.length) (hl : w.length ≤ LIM) (hk : k = .pure ∨ k = .own) :
    ev_k10_law_b2 [x0, x1, x2, x3, pS (LI c), x5, x6, x7, pS x, x9, pS (AR c), x11, some (.val k (LI (aft c w))), x13, x14] = .nx [x0, x1, x2, x3, pS (LI c), x5, x6, x7, pS x, x9, pS (AR c), x11, some (.val k (LI (aft c w))), x13, x14] := by
  have hp := perform_ok hc w x hx hw hl
  have t1 : fTuple (LI (aft c w)) = some (TI (aft c w), false) := rfl
  have t2 : fTuple (LI c) = some (TI c, false) := rfl
  unfold ev_k10_law_b2
  rcases hk with rfl | rfl
  · simp -implicitDefEqProofs only [zz, if_true, if_false, List.getElem?_cons_zero, List.getElem?_cons_succ, List.set_cons_zero, List.set_cons_succ, List.map_cons, List.map_nil, List.length_cons, List.length_nil, List.cons_append, List.nil_append, List.append_nil, Option.map_some, Option.map_none, Bool.not_true, Bool.not_false, decide_true, decide_false, reduceIte, Nat.zero_add, Nat.reduceAdd, Nat.reduceSub, List.replicate_succ, List.replicate_zero, List.mem_cons, List.not_mem_nil, or_false, or_true, false_or, true_or, Nat.reduceEqDiff, Bool.false_eq_true, reduceCtorEq, Bool.true_and, Bool.and_true, Bool.and_self, Bool.and_false, Bool.false_and, Bool.or_true, Bool.true_or, Bool.or_false, Bool.false_or, Option.getD_some, Option.getD_none, and_true, true_and, and_self, List.contains_iff_mem, eq_self, ite_true, ite_false, hp, arow_ok, t1, ne_TI, t2]
  · simp -implicitDefEqProofs only [zz, if_true, if_false, List.getElem?_cons_zero, List.getElem?_cons_succ, List.set_cons_zero, List.set_cons_succ, List.map_cons, List.map_nil, List.length_cons, List.length_nil, List.cons_append, List.nil_append, List.append_nil, Option.map_some, Option.map_none, Bool.not_true, Bool.not_false, decide_true, decide_false, reduceIte, Nat.zero_add, Nat.reduceAdd, Nat.reduceSub, List.replicate_succ, List.replicate_zero, List.mem_cons, List.not_mem_nil, or_false, or_true, false_or, true_or, Nat.reduceEqDiff, Bool.false_eq_true, reduceCtorEq, Bool.true_and, Bool.and_true, Bool.and_self, Bool.and_false, Bool.false_and, Bool.or_true, Bool.true_or, Bool.or_false, Bool.false_or, Option.getD_some, Option.getD_none, and_true, true_and, and_self, List.contains_iff_mem, eq_self, ite_true, ite_false, hp, arow_ok, t1, ne_TI, t2]
def Odd (n : Nat) (z : D) : Prop := ev_is_word [.int n, z] = .ok (.bl false) false [] ∧ ∃ r, fRepr z = some (.str r, false)
theorem b3_ok (x0 x1 x3 x4 x5 x6 x7 x8 x9 x11 x12 x13 x14 : Option Sl) (c : List Int) (hc : IsRow c) (z : D) (hz : Odd c.length z) :
    ev_k10_law_b3 [x0, x1, pS z, x3, x4, x5, x6, x7, x8, x9, pS (AR c), x11, x12, x13, x14] = .nx [x0, x1, pS z, x3, x4, x5, x6, x7, x8, x9, pS (AR c), x11, x12, x13, x14] := by
  obtain ⟨h1, r, hr⟩ := hz
  have h := refused_ok hc z h1 hr
  unfold ev_k10_law_b3
  simp -implicitDefEqProofs only [zz, if_true, if_false, List.getElem?_cons_zero, List.getElem?_cons_succ, List.set_cons_zero, List.set_cons_succ, List.map_cons, List.map_nil, List.length_cons, List.length_nil, List.cons_append, List.nil_append, List.append_nil, Option.map_some, Option.map_none, Bool.not_true, Bool.not_false, decide_true, decide_false, reduceIte, Nat.zero_add, Nat.reduceAdd, Nat.reduceSub, List.replicate_succ, List.replicate_zero, List.mem_cons, List.not_mem_nil, or_false, or_true, false_or, true_or, Nat.reduceEqDiff, Bool.false_eq_true, reduceCtorEq, Bool.true_and, Bool.and_true, Bool.and_self, Bool.and_false, Bool.false_and, Bool.or_true, Bool.true_or, Bool.or_false, Bool.false_or, Option.getD_some, Option.getD_none, and_true, true_and, and_self, List.contains_iff_mem, eq_self, ite_true, ite_false, h]
theorem odd_lst {n : Nat} {z : D} {ds : List D} (hz : z = .lst ds ∨ z = .tup ds) (hd : ∀ d ∈ ds, (d.tyN).isSome = true) (hl : ds.length ≤ LIM) (ha : (ds.all fun d => d.btw 0 ((n : Int) - 1)) = false) (hr : ∃ r, fRepr z = some (.str r, false)) : Odd n z := by
  have := isword_ok z n ds hz hd hl
  rw [ha] at this
  exact ⟨this, hr⟩
theorem odd_no {n : Nat} {z : D} (hz : z = .non ∨ (∃ i, z = .int i) ∨ (∃ s, z = .str s) ∨ z = .dct [] []) (hr : ∃ r, fRepr z = some (.str r, false)) : Odd n z := ⟨isword_no z n hz, hr⟩
theorem odds (n : Nat) (h1 : 1 ≤ n) (h2 : n ≤ 100) (w : List Nat) (hw : ∀ s ∈ w, s < n) (hl : w.length ≤ 100) : ∀ z ∈ [D.non, .int 5, .str "0", .dct [] [], .lst [.int n], .lst [.int (-1)], .lst [.bl true], .lst [.non], .lst (WI w ++ [.int n]), .tup [.int 0, .str "0"], .lst [.lst [.int 0]]], Odd n z := by
  have hL : LIM = 1000000 := rfl
  intro z hz
  simp only [List.mem_cons, List.not_mem_nil, or_false] at hz
  have nn : (D.int n).btw 0 ((n : Int) - 1) = false := by
    show (decide ((0 : Int) ≤ n) && decide ((n : Int) ≤ (n : Int) - 1)) = false
    rw [decide_eq_false (show ¬ ((n : Int) ≤ (n : Int) - 1) by omega), Bool.and_false]
  rcases hz with rfl | rfl | rfl | rfl | rfl | rfl | rfl | rfl | rfl | rfl | rfl
  · exact odd_no (.inl rfl) ⟨_, rfl⟩
  · exact odd_no (.inr (.inl ⟨_, rfl⟩)) ⟨_, rfl⟩
  · exact odd_no (.inr (.inr (.inl ⟨_, rfl⟩))) (repr_str (by decide +kernel))
  · exact odd_no (.inr (.inr (.inr rfl))) ⟨_, rfl⟩
  · exact odd_lst (.inl rfl) (fun d hd => by rw [List.mem_singleton.mp hd]; rfl) (by rw [List.length_singleton]; omega) (by rw [List.all_cons, nn]; rfl) (repr_LI (ns := [(n : Int)]) (fun i hi => by rw [List.mem_singleton.mp hi]; omega) (by rw [List.length_singleton]; omega))
  · exact odd_lst (.inl rfl) (fun d hd => by rw [List.mem_singleton.mp hd]; rfl) (by decide) rfl ⟨_, rfl⟩
  · exact odd_lst (.inl rfl) (fun d hd => by rw [List.mem_singleton.mp hd]; rfl) (by decide) rfl ⟨_, rfl⟩
  · exact odd_lst (.inl rfl) (fun d hd => by rw [List.mem_singleton.mp hd]; rfl) (by decide) rfl ⟨_, rfl⟩
  · have e : D.lst (WI w ++ [.int n]) = LI ((w.map fun (s : Nat) => (s : Int)) ++ [(n : Int)]) := by
      unfold LI
      rw [wi_LI, List.map_append]
      rfl
    refine odd_lst (.inl rfl) (fun d hd => ?_) (by rw [List.length_append, List.length_map]; simp; omega) (by rw [List.all_append, List.all_cons, nn]; simp) ?_
    · rcases List.mem_append.mp hd with hd | hd
      · exact wi_ty d hd
      · rw [List.mem_singleton.mp hd]; rfl
    · rw [e]
      refine repr_LI (fun i hi => ?_) (by rw [List.length_append, List.length_map]; simp; omega)
      rcases List.mem_append.mp hi with hi | hi
      · obtain ⟨s, hs, rfl⟩ := List.mem_map.mp hi
        have := hw s hs
        omega
      · rw [List.mem_singleton.mp hi]; omega
  · refine odd_lst (.inr rfl) (fun d hd => ?_) (by decide) (by rw [List.all_cons, List.all_cons]; simp [D.btw]) ?_
    · simp only [List.mem_cons, List.not_mem_nil, or_false] at hd
      rcases hd with rfl | rfl <;> rfl
    · refine ⟨(D.tup [.int 0, .str "0"]).py.shown, ?_⟩
      show (match D.rok (.tup [.int 0, .str "0"]) 20 with
        | some m => if m ≤ 1000000 then some (D.str (D.tup [.int 0, .str "0"]).py.shown, false) else none
        | none => none) = _
      have e : D.rok (.tup [.int 0, .str "0"]) 20 = some 109 := by
        have h : (reprText (Str.ofString "0")).length ≤ 51 := by decide +kernel
        rw [D.rok, D.rokL, D.rokL, D.rokL, D.rok, D.rok, if_pos h]
        rfl
      rw [e]
      rfl
  · exact odd_lst (.inl rfl) (fun d hd => by rw [List.mem_singleton.mp hd]; rfl) (by decide) rfl ⟨_, rfl⟩
end TV

set_option Elab.async false
set_option linter.all false
set_option maxRecDepth 100000
set_option maxHeartbeats 4000000
namespace TV
open PySem PySem.Spec PyProof.Rows L2 TC
def Ini (ns : List Int) (E : Sv) : Prop := ∃ j1 j2 j3 j4 j5 j6 j7 j8 j9 j10 j11 j12 : Option Sl, zOa (some j7) = false ∧ E = [pS (.scr ns), j1, j2, j3, j4, j5, j6, j7, j8, j9, j10, j11, j12, none, none]
theorem due_lc (x0 x1 x2 x3 x6 x8 x9 x10 x11 x12 x13 x14 : Option Sl) (c : List Int) (hl : c.length ≤ 2000) : lcGo (gtName 7) ev_k10_law_t1 (eVar 7) [7] ((List.range c.length).map fun (i : Nat) => D.int (0 + i)) [x0, x1, x2, x3, oS (LI c), pS (.int (disM c)), x6, none, x8, x9, x10, x11, x12, x13, x14] [] = some (WI (bestL c), [x0, x1, x2, x3, oS (LI c), pS (.int (disM c)), x6, none, x8, x9, x10, x11, x12, x13, x14]) := by
  have hL : LIM = 1000000 := rfl
  have h0 : (fun (i : Nat) => D.int (0 + (i : Int))) = fun (i : Nat) => D.int i := funext fun i => by rw [Int.zero_add]
  rw [h0]
  refine lcMF (h := fun (i : Nat) => D.int i) (p := bestAt c) (fun i hi => ⟨_, rfl, rfl, ?_, fun _ => .inl rfl⟩) (by rw [List.length_range]; omega)
  rw [List.mem_range] at hi
  have n1 := nbr_ok c i hi hl
  have n2 := ldis_ok (nbr c i) (by rw [nbr_len hi]; omega)
  have hc := lendG2 (E := [x0, x1, x2, x3, oS (LI c), pS (.int (disM c)), x6, pS (.int i), x8, x9, x10, x11, x12, x13, x14]) (i := 4) (k := .own) (w := .dv (.int i)) (F := ev_L_neighbor) rfl (by decide) (.inl rfl) n1 fun ks => safe_LI
  unfold ev_k10_law_t1
  simp -implicitDefEqProofs only [zz, if_true, if_false, List.getElem?_cons_zero, List.getElem?_cons_succ, List.set_cons_zero, List.set_cons_succ, List.map_cons, List.map_nil, List.length_cons, List.length_nil, List.cons_append, List.nil_append, List.append_nil, Option.map_some, Option.map_none, Bool.not_true, Bool.not_false, decide_true, decide_false, reduceIte, Nat.zero_add, Nat.reduceAdd, Nat.reduceSub, List.replicate_succ, List.replicate_zero, List.mem_cons, List.not_mem_nil, or_false, or_true, false_or, true_or, Nat.reduceEqDiff, Bool.false_eq_true, reduceCtorEq, Bool.true_and, Bool.and_true, Bool.and_self, Bool.and_false, Bool.false_and, Bool.or_true, Bool.true_or, Bool.or_false, Bool.false_or, Option.getD_some, Option.getD_none, and_true, true_and, and_self, List.contains_iff_mem, eq_self, ite_true, ite_false, hc, n2, lt_i, lower_iff c i hi]
theorem turn_ok (ns : List Int) (k : Nat) (hk : k < 1000) (j2 j3 j4 j5 j6 j7 j8 j9 j10 j11 j12 : Option Sl) (h7 : zOa (some j7) = false) : ∃ E', ev_k10_law_b4 [pS (.scr ns), pS (.int k), j2, j3, j4, j5, j6, j7, j8, j9, j10, j11, j12, none, none] = .nx E' ∧ Ini ns E' := by
  have hL : LIM = 1000000 := rfl
  have hp := pool_ok ns k hk
  generalize plA (plC ns k) = a at hp
  generalize plB (plC ns k) k = b at hp
  obtain ⟨n, hn⟩ := Int.eq_ofNat_of_zero_le (show 0 ≤ 1 + takeR a b 12 by have := takeR_range a b 12 (by decide); omega)
  have n1 : 1 ≤ n ∧ n ≤ 12 := by have := takeR_range a b 12 (by decide); omega
  generalize ha1 : takeA a 12 = a1
  generalize hb1 : takeB a b = b1
  obtain ⟨a2, b2, c, hc, hcl, hrow⟩ := lrow_ok n n1.1 (by omega) a1 b1
  have cl : c.length ≤ 2000 := hc.2.1
  have hrow2 : callE 2 [0] ev_L_row [.loc 3, .dv (.int n)] [pS (.scr ns), pS (.int k), j2, oS (poolD a1 b1), j4, j5, j6, j7, j8, j9, j10, j11, j12, none, none] = .ok (.fr (LI c)) [pS (.scr ns), pS (.int k), j2, oS (poolD a2 b2), j4, j5, j6, j7, j8, j9, j10, j11, j12, none, none] := call_mut0 (i := 3) (kd := .own) (ds := [.int n]) rfl (by decide) rfl hrow
  have hmk := mkL (E := [pS (.scr ns), pS (.int k), j2, oS (poolD a2 b2), oS (LI c), j5, j6, j7, j8, j9, j10, j11, j12, none, none]) (i := 4) (k := .own) (c := .arr) (F := ev_Arrangement___init__) rfl (by decide) (init_ok (LI c) c (.inl rfl) hc) fun ks => kids_AR
  have hd1 := lendG1 (E := [pS (.scr ns), pS (.int k), j2, oS (poolD a2 b2), oS (LI c), j5, j6, j7, j8, pS (.int n), pS (AR c), j11, j12, none, none]) (i := 4) (k := .own) (F := ev_L_disorders) rfl (by decide) (ldis_ok c (by omega)) fun ks => safe_int
  have r1 : rngOk1 (n : Int) = true := rngOk1_of (by omega) (by omega)
  have due := due_lc (pS (.scr ns)) (pS (.int k)) j2 (oS (poolD a2 b2)) j6 j8 (pS (.int n)) (pS (AR c)) j11 j12 none none c cl
  rw [hcl] at due
  have ne1 : fNe (.lst (WI (bestL c))) (.lst (WI (bestL c))) = some (.bl false, false) := ne_self dat_wi
  -- the word
  obtain ⟨m, hm⟩ := Int.eq_ofNat_of_zero_le (takeR_range a2 b2 15 (by decide)).1
  have m1 : m < 15 := by have := (takeR_range a2 b2 15 (by decide)).2; omega
  generalize ha3 : takeA a2 15 = a3
  generalize hb3 : takeB a2 b2 = b3
  have r2 : rngOk1 (m : Int) = true := rngOk1_of (by omega) (by omega)
  obtain ⟨w, a4, b4, hw, hwl, hlc⟩ := draw_lc (pS (.scr ns)) (pS (.int k)) j2 (oS (LI c)) (pS (.int (disM c))) (oS (.lst (WI (bestL c)))) j7 j8 (pS (AR c)) j11 j12 none n n1.1 (by omega) ((List.range m).map fun (i : Nat) => D.int (0 + i)) [] a3 b3 (by rw [List.length_map, List.length_range]; simp; omega)
  rw [List.length_map, List.length_range] at hwl
  rw [List.nil_append] at hlc
  have hwc : ∀ s ∈ w, s < c.length := fun s hs => by rw [hcl]; exact hw s hs
  obtain ⟨k', j7', h7', hk', hl1⟩ := b1_loop (pS (.scr ns)) (pS (.int k)) j2 (oS (poolD a4 b4)) (pS (LI c)) (pS (.int (disM c))) (oS (.lst (WI (bestL c)))) j8 (pS (.int n)) (pS (AR c)) (pS (.lst (WI w))) none none w c .pure j7 (.inl rfl) h7 hwc cl
  obtain ⟨j8', hl2⟩ := loopC (g := gtName 8) (b := ev_k10_law_b2) (ds := [.lst (WI w), .tup (WI w)]) (St := fun j => [pS (.scr ns), pS (.int k), j2, oS (poolD a4 b4), pS (LI c), pS (.int (disM c)), oS (.lst (WI (bestL c))), j7', j, pS (.int n), pS (AR c), pS (.lst (WI w)), some (.val k' (LI (aft c w))), none, none]) j8 fun z hz j => ⟨_, _, rfl, by
    refine b2_ok _ _ _ _ _ _ _ _ _ _ _ c hc w z k' ?_ hwc (by omega) hk'
    simp only [List.mem_cons, List.not_mem_nil, or_false] at hz
    exact hz⟩
  have hodd := odds n n1.1 (by omega) w hw (by omega)
  rw [← hcl] at hodd
  obtain ⟨j2', hl3⟩ := loopC (g := gtName 2) (b := ev_k10_law_b3) (ds := [D.non, .int 5, .str "0", .dct [] [], .lst [.int n], .lst [.int (-1)], .lst [.bl true], .lst [.non], .lst (WI w ++ [.int n]), .tup [.int 0, .str "0"], .lst [.lst [.int 0]]]) (St := fun j => [pS (.scr ns), pS (.int k), j, oS (poolD a4 b4), pS (LI c), pS (.int (disM c)), oS (.lst (WI (bestL c))), j7', j8', pS (.int n), pS (AR c), pS (.lst (WI w)), some (.val k' (LI (aft c w))), none, none]) j2 fun z hz j => ⟨_, _, rfl, by
    refine b3_ok _ _ _ _ _ _ _ _ _ _ _ _ _ c hc z (hodd z ?_)
    rw [hcl]
    exact hz⟩
  have ad : fAdd (.lst (WI w)) (.lst [.int n]) = some (.lst (WI w ++ [.int n]), true) := addL (by rw [List.length_map, List.length_singleton]; omega)
  have tw : fTuple (.lst (WI w)) = some (.tup (WI w), false) := rfl
  -- the farthest one
  have fr := lfar_ok n1.1 (show n ≤ 2000 by omega)
  have r3 : rngOk1 1 = true := rngOk1_of (by decide) (by decide)
  have r4 : rngOk1 ((n : Int) + 1) = true := rngOk1_of (by omega) (by omega)
  have e4 : ((n : Int) + 1 - 1).toNat = n := by omega
  have lneg : lcGo (gtName 14) eYes ev_k10_law_e2 [14] ((rgI 1 n).map D.int) [pS (.scr ns), pS (.int k), j2', oS (poolD a4 b4), pS (LI c), pS (.int (disM c)), oS (.lst (WI (bestL c))), j7', j8', pS (.int n), pS (AR c), pS (.lst (WI w)), some (.val k' (LI (aft c w))), none, none] [] = some ((neg (rgI 1 n)).map D.int, [pS (.scr ns), pS (.int k), j2', oS (poolD a4 b4), pS (LI c), pS (.int (disM c)), oS (.lst (WI (bestL c))), j7', j8', pS (.int n), pS (AR c), pS (.lst (WI w)), some (.val k' (LI (aft c w))), none, none]) := by
    unfold neg
    rw [← map_int (f := fun c : Int => -c)]
    exact lcI (h := fun i => D.int (-i)) (fun i _ => ⟨_, rfl, rfl, .inl (by unfold ev_k10_law_e2; simp -implicitDefEqProofs only [zz, if_true, if_false, List.getElem?_cons_zero, List.getElem?_cons_succ, List.set_cons_zero, List.set_cons_succ, List.map_cons, List.map_nil, List.length_cons, List.length_nil, List.cons_append, List.nil_append, List.append_nil, Option.map_some, Option.map_none, Bool.not_true, Bool.not_false, decide_true, decide_false, reduceIte, Nat.zero_add, Nat.reduceAdd, Nat.reduceSub, List.replicate_succ, List.replicate_zero, List.mem_cons, List.not_mem_nil, or_false, or_true, false_or, true_or, Nat.reduceEqDiff, Bool.false_eq_true, reduceCtorEq, Bool.true_and, Bool.and_true, Bool.and_self, Bool.and_false, Bool.false_and, Bool.or_true, Bool.true_or, Bool.or_false, Bool.false_or, Option.getD_some, Option.getD_none, and_true, true_and, and_self, List.contains_iff_mem, eq_self, ite_true, ite_false, neg_i])⟩) (by rw [rgI_len]; omega)
  rw [rgI_map] at lneg
  have tn : fTuple (.lst ((neg (rgI 1 n)).map D.int)) = some (TI (neg (rgI 1 n)), false) := rfl
  have ne2 : fNe (.lst [.str "row", TI (neg (rgI 1 n))]) (.lst [.str "row", TI (neg (rgI 1 n))]) = some (.bl false, false) := ne_self (by
    show (D.dat (.str "row") 19 && (D.dat (TI (neg (rgI 1 n))) 19 && true)) = true
    rw [dat_str, dat_tup datL_ints]
    rfl)
  have ff := far_ok n1.1 (show n ≤ 2000 by omega)
  have fd := dis_ok (isRow_neg (isRow_rg n1.1 (show n ≤ 2000 by omega)))
  rw [dis_far] at fd
  have k1 : mulOk (n : Int) n = true := mulOk_l (by omega) (by omega)
  have hda := dis_ok hc
  have hbn := bestN_ok hc
  refine ⟨[pS (.scr ns), pS (.int k), j2', oS (poolD a4 b4), pS (LI c), pS (.int (disM c)), oS (.lst (WI (bestL c))), j7', j8', pS (.int n), pS (AR c), pS (.lst (WI w)), some (.val k' (LI (aft c w))), none, none], ?_, pS (.int k), j2', oS (poolD a4 b4), pS (LI c), pS (.int (disM c)), oS (.lst (WI (bestL c))), j7', j8', pS (.int n), pS (AR c), pS (.lst (WI w)), some (.val k' (LI (aft c w))), h7', rfl⟩
  unfold ev_k10_law_b4
  simp -implicitDefEqProofs only [zz, if_true, if_false, List.getElem?_cons_zero, List.getElem?_cons_succ, List.set_cons_zero, List.set_cons_succ, List.map_cons, List.map_nil, List.length_cons, List.length_nil, List.cons_append, List.nil_append, List.append_nil, Option.map_some, Option.map_none, Bool.not_true, Bool.not_false, decide_true, decide_false, reduceIte, Nat.zero_add, Nat.reduceAdd, Nat.reduceSub, List.replicate_succ, List.replicate_zero, List.mem_cons, List.not_mem_nil, or_false, or_true, false_or, true_or, Nat.reduceEqDiff, Bool.false_eq_true, reduceCtorEq, Bool.true_and, Bool.and_true, Bool.and_self, Bool.and_false, Bool.false_and, Bool.or_true, Bool.true_or, Bool.or_false, Bool.false_or, Option.getD_some, Option.getD_none, and_true, true_and, and_self, List.contains_iff_mem, eq_self, ite_true, ite_false, hp, zt_take (n := 12) (by decide) (by decide +kernel), zt_take1, add_i, hn, ha1, hb1, hrow2, lenLI, hcl, hmk, hd1, r1, Int.toNat_natCast, rgI_map, h7, due, hda, ne_i, hbn, ne1, zt_take (n := 15) (by decide) (by decide +kernel), hm, ha3, hb3, r2, hlc, hl1, tw, hl2, neg_i, ad, hl3, fr, r3, r4, e4, lneg, tn, ne2, ff, fd, mul_i k1]
theorem mm_of (n : Nat) : ∃ N : Nat, N ≤ 8 ∧ (if (if (n : Int) < 8 then (n : Int) else 8) > 1 then (if (n : Int) < 8 then (n : Int) else 8) else 1) = (N : Int) := by
  by_cases h : (n : Int) < 8
  · rw [if_pos h]
    by_cases h1 : (n : Int) > 1
    · exact ⟨n, by omega, by rw [if_pos h1]⟩
    · exact ⟨1, by omega, by rw [if_neg h1]; rfl⟩
  · rw [if_neg h]
    exact ⟨8, by omega, rfl⟩
theorem b5_ok (x0 x1 x3 x4 x5 x6 x7 x8 x9 x10 x11 x12 x13 x14 : Option Sl) (z : D) (h1 : (z.tyN).isSome = true) (h2 : z.btw 1 2000 = false) (h3 : ∃ r, fRepr z = some (.str r, false)) : ev_k10_law_b5 [x0, x1, pS z, x3, x4, x5, x6, x7, x8, x9, x10, x11, x12, x13, x14] = .nx [x0, x1, pS z, x3, x4, x5, x6, x7, x8, x9, x10, x11, x12, x13, x14] := by
  obtain ⟨r, hr⟩ := h3
  have f := lfar_bad h1 h2 hr
  have e : fNe (.lst [.str "number", .str r]) (.lst [.str "number", .str r]) = some (.bl false, false) := ne_self (by
    show (D.dat (.str "number") 19 && (D.dat (.str r) 19 && true)) = true
    rw [dat_str, dat_str]
    rfl)
  unfold ev_k10_law_b5
  simp -implicitDefEqProofs only [zz, if_true, if_false, List.getElem?_cons_zero, List.getElem?_cons_succ, List.set_cons_zero, List.set_cons_succ, List.map_cons, List.map_nil, List.length_cons, List.length_nil, List.cons_append, List.nil_append, List.append_nil, Option.map_some, Option.map_none, Bool.not_true, Bool.not_false, decide_true, decide_false, reduceIte, Nat.zero_add, Nat.reduceAdd, Nat.reduceSub, List.replicate_succ, List.replicate_zero, List.mem_cons, List.not_mem_nil, or_false, or_true, false_or, true_or, Nat.reduceEqDiff, Bool.false_eq_true, reduceCtorEq, Bool.true_and, Bool.and_true, Bool.and_self, Bool.and_false, Bool.false_and, Bool.or_true, Bool.true_or, Bool.or_false, Bool.false_or, Option.getD_some, Option.getD_none, and_true, true_and, and_self, List.contains_iff_mem, eq_self, ite_true, ite_false, f, hr, e]
theorem bads : ∀ z ∈ [D.int 0, .int (-1), .int 2001, .bl true, .non, .str "2"], (z.tyN).isSome = true ∧ z.btw 1 2000 = false ∧ ∃ r, fRepr z = some (.str r, false) := by
  intro z hz
  simp only [List.mem_cons, List.not_mem_nil, or_false] at hz
  rcases hz with rfl | rfl | rfl | rfl | rfl | rfl <;> first | exact ⟨rfl, by decide +kernel, _, rfl⟩ | exact ⟨rfl, by decide +kernel, repr_str (by decide +kernel)⟩
theorem row1 : IsRow [1] := isRow_rg (n := 1) (by decide) (by decide)
theorem k10_law_true (ns : List Int) (h : ns.length ≤ 63) (hb : ∀ z ∈ ns, Builtin.Int.intBits z ≤ 1048576) : ev_k10_law [.scr ns] = .ok (.bl true) false [] := by
  obtain ⟨N, hN, eN⟩ := mm_of ns.length
  obtain ⟨E', hl, j1, j2, j3, j4, j5, j6, j7, j8, j9, j10, j11, j12, h7, rfl⟩ := loopR (g := gtName 1) (b := ev_k10_law_b4) (n := N) (q := fun (i : Nat) => D.int (0 + i)) (R := fun _ E => Ini ns E) (E0 := [pS (.scr ns), none, none, none, none, none, none, none, none, none, none, none, none, none, none]) ⟨none, none, none, none, none, none, none, none, none, none, none, none, rfl, rfl⟩ (by
    rintro i E hi ⟨j1, j2, j3, j4, j5, j6, j7, j8, j9, j10, j11, j12, h7, rfl⟩
    obtain ⟨E', h1, h2⟩ := turn_ok ns i (by omega) j2 j3 j4 j5 j6 j7 j8 j9 j10 j11 j12 h7
    exact ⟨_, E', by rw [Int.zero_add]; rfl, h1, h2⟩)
  have r1 : rngOk1 (N : Int) = true := rngOk1_of (by omega) (by omega)
  obtain ⟨j2', hl2⟩ := loopC (g := gtName 2) (b := ev_k10_law_b5) (ds := [D.int 0, .int (-1), .int 2001, .bl true, .non, .str "2"]) (St := fun j => [pS (.scr ns), j1, j, j3, j4, j5, j6, j7, j8, j9, j10, j11, j12, none, none]) j2 fun z hz j => ⟨_, _, rfl, b5_ok _ _ _ _ _ _ _ _ _ _ _ _ _ _ z (bads z hz).1 (bads z hz).2.1 (bads z hz).2.2⟩
  have g1 : fLen (.scr ns) = some (.int ns.length, false) := rfl
  have g2 : ∀ i j : Int, fMin2 (.int i) (.int j) = some (.int (if j < i then j else i), false) := fun _ _ => rfl
  have g3 : ∀ i j : Int, fMax2 (.int i) (.int j) = some (.int (if j > i then j else i), false) := fun _ _ => rfl
  have i1 : ev_Arrangement___init__ [.obj .arr [], .lst [.int 1]] = .ok .non false [AR [1]] := init_ok (LI [1]) [1] (.inl rfl) row1
  have p1 : ev_perform [AR [1], .lst []] = .ok (AR [1]) true [] := perform_ok row1 [] (.lst []) (.inl rfl) (fun _ h => (List.not_mem_nil h).elim) (by decide)
  have q1 : ev_Arrangement___eq__ [AR [1], AR [1]] = .ok (.bl true) false [] := by rw [aeq_ok]; rfl
  have b1 : ev_best_neighbors [AR [1]] = .ok (.lst []) true [] := by
    rw [bestN_ok row1]
    rfl
  have e1 : fEq (.lst []) (.lst []) = some (.bl true, false) := eq_self rfl
  unfold ev_k10_law
  simp -implicitDefEqProofs only [zz, if_true, if_false, List.getElem?_cons_zero, List.getElem?_cons_succ, List.set_cons_zero, List.set_cons_succ, List.map_cons, List.map_nil, List.length_cons, List.length_nil, List.cons_append, List.nil_append, List.append_nil, Option.map_some, Option.map_none, Bool.not_true, Bool.not_false, decide_true, decide_false, reduceIte, Nat.zero_add, Nat.reduceAdd, Nat.reduceSub, List.replicate_succ, List.replicate_zero, List.mem_cons, List.not_mem_nil, or_false, or_true, false_or, true_or, Nat.reduceEqDiff, Bool.false_eq_true, reduceCtorEq, Bool.true_and, Bool.and_true, Bool.and_self, Bool.and_false, Bool.false_and, Bool.or_true, Bool.true_or, Bool.or_false, Bool.false_or, Option.getD_some, Option.getD_none, and_true, true_and, and_self, List.contains_iff_mem, eq_self, ite_true, ite_false, g1, g2, g3, eN, r1, Int.toNat_natCast, rgI_map, hl, neg_i, hl2, i1, p1, q1, b1, e1]
end TV

set_option Elab.async false
set_option linter.all false
set_option maxRecDepth 100000
set_option maxHeartbeats 4000000
namespace TCG
open PySem PySem.Spec PyProof.Rows L2 TC TV
def top (i : Nat) : Stmt := PySem.Challenge.pw_turnedcards_k10_disorders_and_best_neigh.main.body.getD i (.Pass ⟨0, 0, 0, 0⟩)
abbrev s__law_pool : Stmt := top 32
abbrev N__law_pool : List Str := ["_law_script", "_law_k", "_law_cell", "_law_mixed"]
theorem sc__law_pool : FnScope N__law_pool ["_law_script", "_law_k"] (defScope s__law_pool) := ⟨rfl, rfl, rfl, by decide +kernel, rfl, by decide +kernel, by decide +kernel⟩
abbrev s__law_take : Stmt := top 33
abbrev N__law_take : List Str := ["_law_pool_here", "_law_many", "_law_found"]
theorem sc__law_take : FnScope N__law_take ["_law_pool_here", "_law_many"] (defScope s__law_take) := ⟨rfl, rfl, rfl, by decide +kernel, rfl, by decide +kernel, by decide +kernel⟩
abbrev s__law_row : Stmt := top 34
abbrev N__law_row : List Str := ["_law_pool_here", "_law_size", "_law_left", "_law_found", "_law_way", "_law_card", "_law_sign", "_law_at"]
theorem sc__law_row : FnScope N__law_row ["_law_pool_here", "_law_size"] (defScope s__law_row) := ⟨rfl, rfl, rfl, by decide +kernel, rfl, by decide +kernel, by decide +kernel⟩
abbrev s_is_integer : Stmt := top 11
abbrev N_is_integer : List Str := ["value"]
theorem sc_is_integer : FnScope N_is_integer ["value"] (defScope s_is_integer) := ⟨rfl, rfl, rfl, by decide +kernel, rfl, by decide +kernel, by decide +kernel⟩
abbrev s_Arrangement_is_row : Stmt := inClass (top 20) 2
abbrev N_Arrangement_is_row : List Str := ["value", "card"]
theorem sc_Arrangement_is_row : FnScope N_Arrangement_is_row ["value"] (defScope s_Arrangement_is_row) := ⟨rfl, rfl, rfl, by decide +kernel, rfl, by decide +kernel, by decide +kernel⟩
abbrev s_InvalidRow___init__ : Stmt := inClass (top 3) 0
abbrev N_InvalidRow___init__ : List Str := ["self", "value"]
theorem sc_InvalidRow___init__ : FnScope N_InvalidRow___init__ ["self", "value"] (defScope s_InvalidRow___init__) := ⟨rfl, rfl, rfl, by decide +kernel, rfl, by decide +kernel, by decide +kernel⟩
abbrev s_Arrangement___init__ : Stmt := inClass (top 20) 0
abbrev N_Arrangement___init__ : List Str := ["self", "row"]
theorem sc_Arrangement___init__ : FnScope N_Arrangement___init__ ["self", "row"] (defScope s_Arrangement___init__) := ⟨rfl, rfl, rfl, by decide +kernel, rfl, by decide +kernel, by decide +kernel⟩
abbrev s__law_disorders : Stmt := top 35
abbrev N__law_disorders : List Str := ["_law_row_here", "_law_found", "_law_at", "_law_card", "_law_one"]
theorem sc__law_disorders : FnScope N__law_disorders ["_law_row_here"] (defScope s__law_disorders) := ⟨rfl, rfl, rfl, by decide +kernel, rfl, by decide +kernel, by decide +kernel⟩
abbrev s__law_neighbor : Stmt := top 36
abbrev N__law_neighbor : List Str := ["_law_row_here", "_law_step"]
theorem sc__law_neighbor : FnScope N__law_neighbor ["_law_row_here", "_law_step"] (defScope s__law_neighbor) := ⟨rfl, rfl, rfl, by decide +kernel, rfl, by decide +kernel, by decide +kernel⟩
abbrev s_disorders_of : Stmt := top 22
abbrev N_disorders_of : List Str := ["row", "result", "index", "card", "earlier"]
theorem sc_disorders_of : FnScope N_disorders_of ["row"] (defScope s_disorders_of) := ⟨rfl, rfl, rfl, by decide +kernel, rfl, by decide +kernel, by decide +kernel⟩
abbrev s_Arrangement_row : Stmt := inClass (top 20) 3
abbrev N_Arrangement_row : List Str := ["self"]
theorem sc_Arrangement_row : FnScope N_Arrangement_row ["self"] (defScope s_Arrangement_row) := ⟨rfl, rfl, rfl, by decide +kernel, rfl, by decide +kernel, by decide +kernel⟩
abbrev s_disorders : Stmt := top 23
abbrev N_disorders : List Str := ["a"]
theorem sc_disorders : FnScope N_disorders ["a"] (defScope s_disorders) := ⟨rfl, rfl, rfl, by decide +kernel, rfl, by decide +kernel, by decide +kernel⟩
abbrev s_best_steps : Stmt := top 24
abbrev N_best_steps : List Str := ["row", "result", "place"]
theorem sc_best_steps : FnScope N_best_steps ["row"] (defScope s_best_steps) := ⟨rfl, rfl, rfl, by decide +kernel, rfl, by decide +kernel, by decide +kernel⟩
abbrev s_best_neighbors : Stmt := top 25
abbrev N_best_neighbors : List Str := ["a"]
theorem sc_best_neighbors : FnScope N_best_neighbors ["a"] (defScope s_best_neighbors) := ⟨rfl, rfl, rfl, by decide +kernel, rfl, by decide +kernel, by decide +kernel⟩
abbrev s_is_between : Stmt := top 12
abbrev N_is_between : List Str := ["value", "low", "high"]
theorem sc_is_between : FnScope N_is_between ["value", "low", "high"] (defScope s_is_between) := ⟨rfl, rfl, rfl, by decide +kernel, rfl, by decide +kernel, by decide +kernel⟩
abbrev s_is_word : Stmt := top 27
abbrev N_is_word : List Str := ["size", "value", "step"]
theorem sc_is_word : FnScope N_is_word ["size", "value"] (defScope s_is_word) := ⟨rfl, rfl, rfl, by decide +kernel, rfl, by decide +kernel, by decide +kernel⟩
abbrev s_Arrangement___len__ : Stmt := inClass (top 20) 8
abbrev N_Arrangement___len__ : List Str := ["self"]
theorem sc_Arrangement___len__ : FnScope N_Arrangement___len__ ["self"] (defScope s_Arrangement___len__) := ⟨rfl, rfl, rfl, by decide +kernel, rfl, by decide +kernel, by decide +kernel⟩
abbrev s_InvalidWord___init__ : Stmt := inClass (top 7) 0
abbrev N_InvalidWord___init__ : List Str := ["self", "value"]
theorem sc_InvalidWord___init__ : FnScope N_InvalidWord___init__ ["self", "value"] (defScope s_InvalidWord___init__) := ⟨rfl, rfl, rfl, by decide +kernel, rfl, by decide +kernel, by decide +kernel⟩
abbrev s_performed : Stmt := top 26
abbrev N_performed : List Str := ["row", "step"]
theorem sc_performed : FnScope N_performed ["row", "step"] (defScope s_performed) := ⟨rfl, rfl, rfl, by decide +kernel, rfl, by decide +kernel, by decide +kernel⟩
abbrev s_after_word : Stmt := top 28
abbrev N_after_word : List Str := ["row", "word", "result", "step"]
theorem sc_after_word : FnScope N_after_word ["row", "word"] (defScope s_after_word) := ⟨rfl, rfl, rfl, by decide +kernel, rfl, by decide +kernel, by decide +kernel⟩
abbrev s_perform : Stmt := top 29
abbrev N_perform : List Str := ["a", "word"]
theorem sc_perform : FnScope N_perform ["a", "word"] (defScope s_perform) := ⟨rfl, rfl, rfl, by decide +kernel, rfl, by decide +kernel, by decide +kernel⟩
abbrev s__law_refused : Stmt := top 37
abbrev N__law_refused : List Str := ["_law_a", "_law_word", "e"]
theorem sc__law_refused : FnScope N__law_refused ["_law_a", "_law_word"] (defScope s__law_refused) := ⟨rfl, rfl, rfl, by decide +kernel, rfl, by decide +kernel, by decide +kernel⟩
abbrev s_Arrangement___neg__ : Stmt := inClass (top 20) 14
abbrev N_Arrangement___neg__ : List Str := ["self", "card"]
theorem sc_Arrangement___neg__ : FnScope N_Arrangement___neg__ ["self"] (defScope s_Arrangement___neg__) := ⟨rfl, rfl, rfl, by decide +kernel, rfl, by decide +kernel, by decide +kernel⟩
abbrev s_InvalidNumber___init__ : Stmt := inClass (top 5) 0
abbrev N_InvalidNumber___init__ : List Str := ["self", "value"]
theorem sc_InvalidNumber___init__ : FnScope N_InvalidNumber___init__ ["self", "value"] (defScope s_InvalidNumber___init__) := ⟨rfl, rfl, rfl, by decide +kernel, rfl, by decide +kernel, by decide +kernel⟩
abbrev s_Arrangement_sorted_row : Stmt := inClass (top 20) 1
abbrev N_Arrangement_sorted_row : List Str := ["cls", "size"]
theorem sc_Arrangement_sorted_row : FnScope N_Arrangement_sorted_row ["cls", "size"] (defScope s_Arrangement_sorted_row) := ⟨rfl, rfl, rfl, by decide +kernel, rfl, by decide +kernel, by decide +kernel⟩
abbrev s_farthest : Stmt := top 30
abbrev N_farthest : List Str := ["size"]
theorem sc_farthest : FnScope N_farthest ["size"] (defScope s_farthest) := ⟨rfl, rfl, rfl, by decide +kernel, rfl, by decide +kernel, by decide +kernel⟩
abbrev s__law_farthest : Stmt := top 38
abbrev N__law_farthest : List Str := ["_law_size", "e"]
theorem sc__law_farthest : FnScope N__law_farthest ["_law_size"] (defScope s__law_farthest) := ⟨rfl, rfl, rfl, by decide +kernel, rfl, by decide +kernel, by decide +kernel⟩
abbrev s_Arrangement___eq__ : Stmt := inClass (top 20) 9
abbrev N_Arrangement___eq__ : List Str := ["self", "other"]
theorem sc_Arrangement___eq__ : FnScope N_Arrangement___eq__ ["self", "other"] (defScope s_Arrangement___eq__) := ⟨rfl, rfl, rfl, by decide +kernel, rfl, by decide +kernel, by decide +kernel⟩
abbrev s_law : Stmt := top 39
abbrev N_law : List Str := ["_law_script", "_law_k", "_law_odd", "_law_pool_here", "_law_row_here", "_law_now", "_law_due", "_law_step", "_law_some", "_law_size", "_law_a", "_law_word", "_law_rest", "_law_turn", "_law_card"]
theorem sc_law : FnScope N_law ["_law_script"] (defScope s_law) := ⟨rfl, rfl, rfl, by decide +kernel, rfl, by decide +kernel, by decide +kernel⟩
structure Fa where
  _law_pool : Addr
  _law_take : Addr
  _law_row : Addr
  is_integer : Addr
  Arrangement_is_row : Addr
  InvalidRow___init__ : Addr
  Arrangement___init__ : Addr
  _law_disorders : Addr
  _law_neighbor : Addr
  disorders_of : Addr
  Arrangement_row : Addr
  disorders : Addr
  best_steps : Addr
  best_neighbors : Addr
  is_between : Addr
  is_word : Addr
  Arrangement___len__ : Addr
  InvalidWord___init__ : Addr
  performed : Addr
  after_word : Addr
  perform : Addr
  _law_refused : Addr
  Arrangement___neg__ : Addr
  InvalidNumber___init__ : Addr
  Arrangement_sorted_row : Addr
  farthest : Addr
  _law_farthest : Addr
  Arrangement___eq__ : Addr
  law : Addr
  r_Arrangement_is_row : Addr
  r_Arrangement_row : Addr
  r_Arrangement_sorted_row : Addr
  t_MOST_CARDS : Tok
structure Txt (K : PySem.W.Frag) (mg : Str → Option Value) (a : Adr) (fa : Fa) : Prop where
  phi : ∀ F, a.phi F
  F__law_pool : ∃ fd, Fun K "_law_pool" "_law_pool" s__law_pool fa._law_pool fd
  g__law_pool : mg "_law_pool" = some (.ref fa._law_pool)
  k__law_pool : PySem.W.keepIn K (.ref fa._law_pool) = true
  F__law_take : ∃ fd, Fun K "_law_take" "_law_take" s__law_take fa._law_take fd
  g__law_take : mg "_law_take" = some (.ref fa._law_take)
  k__law_take : PySem.W.keepIn K (.ref fa._law_take) = true
  F__law_row : ∃ fd, Fun K "_law_row" "_law_row" s__law_row fa._law_row fd
  g__law_row : mg "_law_row" = some (.ref fa._law_row)
  k__law_row : PySem.W.keepIn K (.ref fa._law_row) = true
  F_is_integer : ∃ fd, Fun K "is_integer" "is_integer" s_is_integer fa.is_integer fd
  g_is_integer : mg "is_integer" = some (.ref fa.is_integer)
  k_is_integer : PySem.W.keepIn K (.ref fa.is_integer) = true
  F_Arrangement_is_row : ∃ fd, Fun K "is_row" "Arrangement.is_row" s_Arrangement_is_row fa.Arrangement_is_row fd
  s_Arrangement_is_row : SMet K (a.cn .arr) (.type "type") "is_row" fa.r_Arrangement_is_row fa.Arrangement_is_row
  F_InvalidRow___init__ : ∃ fd, Fun K "__init__" "InvalidRow.__init__" s_InvalidRow___init__ fa.InvalidRow___init__ fd
  F_Arrangement___init__ : ∃ fd, Fun K "__init__" "Arrangement.__init__" s_Arrangement___init__ fa.Arrangement___init__ fd
  m_Arrangement : Mk K (a.cn .arr) fa.Arrangement___init__
  F__law_disorders : ∃ fd, Fun K "_law_disorders" "_law_disorders" s__law_disorders fa._law_disorders fd
  g__law_disorders : mg "_law_disorders" = some (.ref fa._law_disorders)
  k__law_disorders : PySem.W.keepIn K (.ref fa._law_disorders) = true
  F__law_neighbor : ∃ fd, Fun K "_law_neighbor" "_law_neighbor" s__law_neighbor fa._law_neighbor fd
  g__law_neighbor : mg "_law_neighbor" = some (.ref fa._law_neighbor)
  k__law_neighbor : PySem.W.keepIn K (.ref fa._law_neighbor) = true
  F_disorders_of : ∃ fd, Fun K "disorders_of" "disorders_of" s_disorders_of fa.disorders_of fd
  g_disorders_of : mg "disorders_of" = some (.ref fa.disorders_of)
  k_disorders_of : PySem.W.keepIn K (.ref fa.disorders_of) = true
  F_Arrangement_row : ∃ fd, Fun K "row" "Arrangement.row" s_Arrangement_row fa.Arrangement_row fd
  p_Arrangement_row : PropOf K (a.cn .arr) "row" fa.r_Arrangement_row fa.Arrangement_row
  F_disorders : ∃ fd, Fun K "disorders" "disorders" s_disorders fa.disorders fd
  g_disorders : mg "disorders" = some (.ref fa.disorders)
  k_disorders : PySem.W.keepIn K (.ref fa.disorders) = true
  F_best_steps : ∃ fd, Fun K "best_steps" "best_steps" s_best_steps fa.best_steps fd
  g_best_steps : mg "best_steps" = some (.ref fa.best_steps)
  k_best_steps : PySem.W.keepIn K (.ref fa.best_steps) = true
  F_best_neighbors : ∃ fd, Fun K "best_neighbors" "best_neighbors" s_best_neighbors fa.best_neighbors fd
  g_best_neighbors : mg "best_neighbors" = some (.ref fa.best_neighbors)
  k_best_neighbors : PySem.W.keepIn K (.ref fa.best_neighbors) = true
  F_is_between : ∃ fd, Fun K "is_between" "is_between" s_is_between fa.is_between fd
  g_is_between : mg "is_between" = some (.ref fa.is_between)
  k_is_between : PySem.W.keepIn K (.ref fa.is_between) = true
  F_is_word : ∃ fd, Fun K "is_word" "is_word" s_is_word fa.is_word fd
  g_is_word : mg "is_word" = some (.ref fa.is_word)
  k_is_word : PySem.W.keepIn K (.ref fa.is_word) = true
  F_Arrangement___len__ : ∃ fd, Fun K "__len__" "Arrangement.__len__" s_Arrangement___len__ fa.Arrangement___len__ fd
  f_Arrangement___len__ : PySem.W.findIn K (.ref (a.cn .arr)) "__len__" = some (some (.ref fa.Arrangement___len__))
  i_Arrangement___len__ : PySem.W.isFn K (.ref fa.Arrangement___len__) = true
  kf_Arrangement___len__ : PySem.W.keepIn K (.ref fa.Arrangement___len__) = true
  F_InvalidWord___init__ : ∃ fd, Fun K "__init__" "InvalidWord.__init__" s_InvalidWord___init__ fa.InvalidWord___init__ fd
  F_performed : ∃ fd, Fun K "performed" "performed" s_performed fa.performed fd
  g_performed : mg "performed" = some (.ref fa.performed)
  k_performed : PySem.W.keepIn K (.ref fa.performed) = true
  F_after_word : ∃ fd, Fun K "after_word" "after_word" s_after_word fa.after_word fd
  g_after_word : mg "after_word" = some (.ref fa.after_word)
  k_after_word : PySem.W.keepIn K (.ref fa.after_word) = true
  F_perform : ∃ fd, Fun K "perform" "perform" s_perform fa.perform fd
  g_perform : mg "perform" = some (.ref fa.perform)
  k_perform : PySem.W.keepIn K (.ref fa.perform) = true
  F__law_refused : ∃ fd, Fun K "_law_refused" "_law_refused" s__law_refused fa._law_refused fd
  g__law_refused : mg "_law_refused" = some (.ref fa._law_refused)
  k__law_refused : PySem.W.keepIn K (.ref fa._law_refused) = true
  F_Arrangement___neg__ : ∃ fd, Fun K "__neg__" "Arrangement.__neg__" s_Arrangement___neg__ fa.Arrangement___neg__ fd
  f_Arrangement___neg__ : PySem.W.findIn K (.ref (a.cn .arr)) "__neg__" = some (some (.ref fa.Arrangement___neg__))
  i_Arrangement___neg__ : PySem.W.isFn K (.ref fa.Arrangement___neg__) = true
  kf_Arrangement___neg__ : PySem.W.keepIn K (.ref fa.Arrangement___neg__) = true
  F_InvalidNumber___init__ : ∃ fd, Fun K "__init__" "InvalidNumber.__init__" s_InvalidNumber___init__ fa.InvalidNumber___init__ fd
  F_Arrangement_sorted_row : ∃ fd, Fun K "sorted_row" "Arrangement.sorted_row" s_Arrangement_sorted_row fa.Arrangement_sorted_row fd
  cm_Arrangement_sorted_row : ClX.CMet K (a.cn .arr) (.type "type") "sorted_row" fa.r_Arrangement_sorted_row fa.Arrangement_sorted_row
  F_farthest : ∃ fd, Fun K "farthest" "farthest" s_farthest fa.farthest fd
  g_farthest : mg "farthest" = some (.ref fa.farthest)
  k_farthest : PySem.W.keepIn K (.ref fa.farthest) = true
  F__law_farthest : ∃ fd, Fun K "_law_farthest" "_law_farthest" s__law_farthest fa._law_farthest fd
  g__law_farthest : mg "_law_farthest" = some (.ref fa._law_farthest)
  k__law_farthest : PySem.W.keepIn K (.ref fa._law_farthest) = true
  F_Arrangement___eq__ : ∃ fd, Fun K "__eq__" "Arrangement.__eq__" s_Arrangement___eq__ fa.Arrangement___eq__ fd
  f_Arrangement___eq__ : PySem.W.findIn K (.ref (a.cn .arr)) "__eq__" = some (some (.ref fa.Arrangement___eq__))
  i_Arrangement___eq__ : PySem.W.isFn K (.ref fa.Arrangement___eq__) = true
  kf_Arrangement___eq__ : PySem.W.keepIn K (.ref fa.Arrangement___eq__) = true
  F_law : ∃ fd, Fun K "law" "law" s_law fa.law fd
  g_law : mg "law" = some (.ref fa.law)
  k_law : PySem.W.keepIn K (.ref fa.law) = true
  g_Arrangement : mg "Arrangement" = some (.ref (a.cn .arr))
  cl_Arrangement : Cls K (a.cn .arr)
  r_Arrangement : ClX.CRead K (a.cn .arr) (.type "type")
  oc_Arrangement : OwnC K (a.cn .arr)
  n_Arrangement_cards : NoAttr K (a.cn .arr) "cards"
  c_MOST_CARDS : mg "MOST_CARDS" = some (.int 2000 fa.t_MOST_CARDS)
  g_CardError : mg "CardError" = some (.ref (a.en .base))
  g_InvalidNumber : mg "InvalidNumber" = some (.ref (a.en .number))
  g_InvalidPlace : mg "InvalidPlace" = some (.ref (a.en .place))
  g_InvalidRow : mg "InvalidRow" = some (.ref (a.en .row))
  g_InvalidWord : mg "InvalidWord" = some (.ref (a.en .word))
  r_CardError : ClX.CRead K (a.en .base) (.type "type")
  vi_CardError : PySem.W.findCls K (.ref (a.en .base)) (.type "type") "__init__" = some (.val (.builtin "ValueError.__init__"))
  ox_InvalidNumber : OexC K (a.en .number)
  ic_InvalidNumber : PySem.W.findIn K (.ref (a.en .number)) "__init__" = some (some (.ref fa.InvalidNumber___init__))
  it_InvalidNumber : PySem.W.typeIn K (.ref fa.InvalidNumber___init__) = some (.type "function")
  nv_InvalidNumber : PySem.W.findIn K (.ref (a.en .number)) "value" = some none
  ox_InvalidRow : OexC K (a.en .row)
  ic_InvalidRow : PySem.W.findIn K (.ref (a.en .row)) "__init__" = some (some (.ref fa.InvalidRow___init__))
  it_InvalidRow : PySem.W.typeIn K (.ref fa.InvalidRow___init__) = some (.type "function")
  nv_InvalidRow : PySem.W.findIn K (.ref (a.en .row)) "value" = some none
  ox_InvalidWord : OexC K (a.en .word)
  ic_InvalidWord : PySem.W.findIn K (.ref (a.en .word)) "__init__" = some (some (.ref fa.InvalidWord___init__))
  it_InvalidWord : PySem.W.typeIn K (.ref fa.InvalidWord___init__) = some (.type "function")
  nv_InvalidWord : PySem.W.findIn K (.ref (a.en .word)) "value" = some none
  xf_InvalidNumber : XfC K (a.en .number)
  xc_InvalidNumber : L2.ExcC K (a.en .number)
  xf_InvalidWord : XfC K (a.en .word)
  xc_InvalidWord : L2.ExcC K (a.en .word)
  ex_InvalidNumber_InvalidNumber : PySem.W.exmOne K (.ref (a.en .number)) (.ref (a.en .number)) = some true
  ex_InvalidPlace_InvalidWord : PySem.W.exmOne K (.ref (a.en .place)) (.ref (a.en .word)) = some false
  ex_InvalidRow_InvalidNumber : PySem.W.exmOne K (.ref (a.en .row)) (.ref (a.en .number)) = some false
  ex_InvalidRow_InvalidWord : PySem.W.exmOne K (.ref (a.en .row)) (.ref (a.en .word)) = some false
  ex_InvalidWord_InvalidWord : PySem.W.exmOne K (.ref (a.en .word)) (.ref (a.en .word)) = some true
  ki_InvalidWord_CardError : PySem.W.kitOne K (.ref (a.en .word)) (.ref (a.en .base)) = some true
section
variable {P : Program} {w : World} {K : PySem.W.Frag} {mg : Str → Option Value} {base : Heap} {a : Adr} {fa : Fa}
theorem ok__law_pool (T : Txt K mg a fa) (n : Nm mg)  : FnE P w K mg base (L2.CX P w) 1 fa._law_pool ["_law_script", "_law_k"] (spM K a 2 [] ev_L_pool) := by
  refine fnE_of T.F__law_pool sc__law_pool T.phi rfl (fun cdv A outer s H E hr => ?_) (fun _ _ _ _ _ _ us hl => match us, hl with | [_, _], _ => rfl)
  exact vss_cons (vs_set (i := 2) sc__law_pool.nd rfl (Or.inl rfl) (v_int))
    (vss_cons (vs_if (vt_cmp op_lt ro_lt (v_pv (pv 1)) (v_cb c_len rc_len (by rfl) n.len (by decide +kernel) (by exact (va_cons (v_pv (pv 0)) (va_nil)))) (nomark _)) (vss_one (vs_set (i := 2) sc__law_pool.nd rfl (Or.inl rfl) (v_cb c_abs rc_abs (by rfl) n.abs (by decide +kernel) (by exact (va_cons (v_ix (v_pv (pv 0)) (v_pv (pv 1)) (fun _ _ => rfl)) (va_nil)))))) (vss_nil))
    (vss_cons (vs_set (i := 3) sc__law_pool.nd rfl (Or.inl rfl) (v_bin op_mod ro_mod (v_bin op_mulX ro_mul (v_bin op_addX ro_add (v_bin op_addX ro_add (v_bin op_addX ro_add (v_bin op_mod ro_mod (v_pv (pv 2)) (v_int)) (v_bin op_mulX ro_mul (v_bin op_mulX ro_mul (v_int) (v_pv (pv 1))) (v_pv (pv 1)))) (v_bin op_mulX ro_mul (v_int) (v_pv (pv 1)))) (v_int)) (v_int)) (v_int)))
    (vss_one (vs_ret (v_lst (by exact (va_cons (v_bin op_mulX ro_mul (v_pv (pv 2)) (v_ct c_int1 rc_int1 (by rfl) n.int_ (by decide +kernel) (by exact (va_cons (v_cmp op_ge ro_ge (v_pv (pv 2)) (v_bin op_pow ro_pow (v_int) (v_int)) (nomark _)) (va_nil))))) (va_cons (v_bin op_mod ro_mod (v_bin op_mulX ro_mul (v_pv (pv 3)) (v_pv (pv 3))) (v_int)) (va_nil)))))))))
theorem ok__law_take (T : Txt K mg a fa) (n : Nm mg)  : FnE P w K mg base (L2.CX P w) 1 fa._law_take ["_law_pool_here", "_law_many"] (spM K a 2 [0] ev_L_take) := by
  refine fnE_of T.F__law_take sc__law_take T.phi rfl (fun cdv A outer s H E hr => ?_) (fun _ _ _ _ _ _ us hl => match us, hl with | [_, _], _ => rfl)
  exact vss_cons (vs_if (vt_cmp op_gt ro_gt (v_ix (v_pv (pv 0)) (v_int) (fun _ _ => rfl)) (v_int) (nomark _)) (vss_cons (vs_set (i := 2) sc__law_take.nd rfl (Or.inl rfl) (v_bin op_mod ro_mod (v_ix (v_pv (pv 0)) (v_int) (fun _ _ => rfl)) (v_pv (pv 1))))
    (vss_cons (vs_setIx (pv 0) (v_int) (v_bin op_fdivW ro_div (v_ix (v_pv (pv 0)) (v_int) (fun _ _ => rfl)) (v_pv (pv 1))))
    (vss_one (vs_ret (v_pv (pv 2)))))) (vss_nil))
    (vss_cons (vs_setIx (pv 0) (v_int) (v_bin op_mod ro_mod (v_bin op_addX ro_add (v_bin op_mulX ro_mul (v_ix (v_pv (pv 0)) (v_int) (fun _ _ => rfl)) (v_int)) (v_int)) (v_int)))
    (vss_one (vs_ret (v_bin op_mod ro_mod (v_bin op_fdivW ro_div (v_bin op_mod ro_mod (v_bin op_mulX ro_mul (v_ix (v_pv (pv 0)) (v_int) (fun _ _ => rfl)) (v_ix (v_pv (pv 0)) (v_int) (fun _ _ => rfl))) (v_int)) (v_int)) (v_pv (pv 1))))))
theorem ok__law_row (T : Txt K mg a fa) (n : Nm mg) (G__law_take : FnE P w K mg base (L2.CX P w) 1 fa._law_take ["_law_pool_here", "_law_many"] (spM K a 2 [0] ev_L_take)) : FnE P w K mg base (L2.CX P w) 2 fa._law_row ["_law_pool_here", "_law_size"] (spM K a 2 [0] ev_L_row) := by
  refine fnE_of T.F__law_row sc__law_row T.phi rfl (fun cdv A outer s H E hr => ?_) (fun _ _ _ _ _ _ us hl => match us, hl with | [_, _], _ => rfl)
  exact vss_cons (vs_par3 (i := 2) (j := 3) (k := 4) (by rfl) sc__law_row.nd rfl rfl rfl (by decide) (by decide) (by decide) rfl rfl rfl (by exact (va_cons (v_lr2 (g_lr2 n rfl pe0 pe0 rfl rfl) (v_int) (v_bin op_addX ro_add (v_pv (pv 1)) (v_int))) (va_cons (v_lst (by exact (va_nil))) (va_cons (v_call G__law_take (hr.mono (by decide)) rfl T.g__law_take T.k__law_take (takes_of rfl rfl rfl rfl) (by exact (va_cons (v_pv (pv 0)) (va_cons (v_int) (va_nil))))) (va_nil))))) (by rfl))
    (vss_cons (vs_while (n := 1000000) (passes_of rfl) (vt_cmp (op_neX hr.units) ro_ne (v_pv (pv 2)) (v_lst (by exact (va_nil))) (nomark _))
     (vss_cons (vs_set (i := 5) sc__law_row.nd rfl (Or.inl rfl) (v_mt (pv 2) PySem.F.plainAttrs_list PySem.F.slot_list_pop PySem.F.type_list_pop mt_popAt rm_popAt tyV_lst (by exact (va_cons (v_if (vt_cmp op_lt ro_lt (v_pv (pv 4)) (v_int) (nomark _)) (v_call G__law_take (hr.mono (by decide)) rfl T.g__law_take T.k__law_take (takes_of rfl rfl rfl rfl) (by exact (va_cons (v_pv (pv 0)) (va_cons (v_cb c_len rc_len (by rfl) n.len (by decide +kernel) (by exact (va_cons (v_pv (pv 2)) (va_nil)))) (va_nil))))) (v_int)) (va_nil)))))
    (vss_cons (vs_set (i := 6) sc__law_row.nd rfl (Or.inl rfl) (v_call G__law_take (hr.mono (by decide)) rfl T.g__law_take T.k__law_take (takes_of rfl rfl rfl rfl) (by exact (va_cons (v_pv (pv 0)) (va_cons (v_if (vt_cmp (op_eqX hr.units) ro_eq (v_pv (pv 4)) (v_int) (nomark _)) (v_int) (v_int)) (va_nil))))))
    (vss_one (vs_expr (v_mt (pv 3) PySem.F.plainAttrs_list PySem.F.slot_list_append PySem.F.type_list_append mt_append rm_append tyV_lst (by exact (va_cons (v_if (vt_pw (vw_or (vt_cmp op_gt ro_gt (v_pv (pv 6)) (v_int) (nomark _)) (vw_or1 (vt_cmp (op_eqX hr.units) ro_eq (v_pv (pv 4)) (v_int) (nomark _))))) (v_pv (pv 5)) (v_un un_neg ro_neg (v_pv (pv 5)))) (va_nil)))))))))
    (vss_cons (vs_if (vt_pw (vw_and (vt_cmp (op_eqX hr.units) ro_eq (v_pv (pv 4)) (v_int) (nomark _)) (vw_and1 (vt_cmp op_gt ro_gt (v_pv (pv 1)) (v_int) (nomark _))))) (vss_cons (vs_set (i := 7) sc__law_row.nd rfl (Or.inl rfl) (v_call G__law_take (hr.mono (by decide)) rfl T.g__law_take T.k__law_take (takes_of rfl rfl rfl rfl) (by exact (va_cons (v_pv (pv 0)) (va_cons (v_bin op_sub ro_sub (v_pv (pv 1)) (v_int)) (va_nil))))))
    (vss_one (vs_set (i := 3) sc__law_row.nd rfl (Or.inl rfl) (v_bin op_addX ro_add (v_bin op_addX ro_add (v_sl (v_pv (pv 3)) (vo_none) (vo_some (v_pv (pv 7)))) (v_lst (by exact (va_cons (v_ix (v_pv (pv 3)) (v_bin op_addX ro_add (v_pv (pv 7)) (v_int)) (fun _ _ => rfl)) (va_cons (v_ix (v_pv (pv 3)) (v_pv (pv 7)) (fun _ _ => rfl)) (va_nil)))))) (v_sl (v_pv (pv 3)) (vo_some (v_bin op_addX ro_add (v_pv (pv 7)) (v_int))) (vo_none)))))) (vss_nil))
    (vss_one (vs_ret (v_pv (pv 3))))))
theorem ok_is_integer (T : Txt K mg a fa) (n : Nm mg)  : FnE P w K mg base (L2.CX P w) 1 fa.is_integer ["value"] (spM K a 1 [] ev_is_integer) := by
  refine fnE_of T.F_is_integer sc_is_integer T.phi rfl (fun cdv A outer s H E hr => ?_) (fun _ _ _ _ _ _ us hl => match us, hl with | [_], _ => rfl)
  exact vss_one (vs_ret (v_and (v_cb call_isi rc_isi (by rfl) n.isinstance (by decide +kernel) (by exact (va_cons (v_pv (pv 0)) (va_cons (v_ty (pe_bltn (v := .ty "int") (by rfl) n.int_ (by decide +kernel) rfl)) (va_nil))))) (v_one (v_not (v_cb call_isi rc_isi (by rfl) n.isinstance (by decide +kernel) (by exact (va_cons (v_pv (pv 0)) (va_cons (v_ty (pe_bltn (v := .ty "bool") (by rfl) n.bool_ (by decide +kernel) rfl)) (va_nil)))))))))
theorem ok_Arrangement_is_row (T : Txt K mg a fa) (n : Nm mg) (G_is_integer : FnE P w K mg base (L2.CX P w) 1 fa.is_integer ["value"] (spM K a 1 [] ev_is_integer)) : FnE P w K mg base (L2.CX P w) 2 fa.Arrangement_is_row ["value"] (spM K a 1 [] ev_Arrangement_is_row) := by
  refine fnE_of T.F_Arrangement_is_row sc_Arrangement_is_row T.phi rfl (fun cdv A outer s H E hr => ?_) (fun _ _ _ _ _ _ us hl => match us, hl with | [_], _ => rfl)
  exact vss_cons (vs_if (vt_pw (vw_or (vt_not (vt_val (up (pe_callB call_isiT (by rfl) n.isinstance (by decide +kernel) (by exact (pa_cons pe0 (pa_cons (pe_tup (by exact (pa_cons (pe_bltn (v := .ty "list") (by rfl) n.list_ (by decide +kernel) rfl) (pa_cons (pe_bltn (v := .ty "tuple") (by rfl) n.tuple_ (by decide +kernel) rfl) (pa_nil))))) pa_nil)))) (snd_isiT (ms := ["list", "tuple"]) (PEV.s (v_pv (pv 0))))))) (vw_or1 (vt_not (vt_chain op_le op_le ro_le ro_le (v_int) (v_cb c_len rc_len (by rfl) n.len (by decide +kernel) (by exact (va_cons (v_pv (pv 0)) (va_nil)))) (v_gi (pe_glob rfl T.c_MOST_CARDS ⟨_, rfl⟩))))))) (vss_one (vs_ret (v_bl))) (vss_nil))
    (vss_cons (vs_if (vt_not (vt_val (v_cb (cr_all rfl) rc_all (by rfl) n.all (by decide +kernel) (by exact (va_cons (v_lc (own := [("card", 1)]) (g := gName 1) (by rfl) sc_Arrangement_is_row.nd (vi_any (v_pv (pv 0))) (blkOk_by (own := [("card", 1)]) (N := N_Arrangement_is_row) (sc := defScope s_Arrangement_is_row) (by decide +kernel)) (fun _ _ _ _ _ => pg_name (i := 1) sc_Arrangement_is_row.nd rfl (.inl rfl)) (snd_gtName (i := 1)) (fun _ _ _ _ _ => vts_nil) (fun _ _ _ _ _ => v_call G_is_integer (hr.mono (by decide)) rfl T.g_is_integer T.k_is_integer takesF (by exact (va_cons (v_pv (pv 1)) (va_nil)))) (by decide)) (va_nil)))))) (vss_one (vs_ret (v_bl))) (vss_nil))
    (vss_one (vs_ret (v_cmp (op_eqX hr.units) ro_eq (v_cb cr_sortedI rc_sorted (by rfl) n.sorted (by decide +kernel) (by exact (va_cons (v_lc (own := [("card", 1)]) (g := gName 1) (by rfl) sc_Arrangement_is_row.nd (vi_any (v_pv (pv 0))) (blkOk_by (own := [("card", 1)]) (N := N_Arrangement_is_row) (sc := defScope s_Arrangement_is_row) (by decide +kernel)) (fun _ _ _ _ _ => pg_name (i := 1) sc_Arrangement_is_row.nd rfl (.inl rfl)) (snd_gtName (i := 1)) (fun _ _ _ _ _ => vts_nil) (fun _ _ _ _ _ => v_cb c_abs rc_abs (by rfl) n.abs (by decide +kernel) (by exact (va_cons (v_pv (pv 1)) (va_nil)))) (by decide)) (va_nil)))) (v_lr2 (g_lr2 n rfl pe0 pe0 rfl rfl) (v_int) (v_bin op_addX ro_add (v_cb c_len rc_len (by rfl) n.len (by decide +kernel) (by exact (va_cons (v_pv (pv 0)) (va_nil)))) (v_int))) (nomark _)))))
theorem ok_InvalidRow___init__ (T : Txt K mg a fa) (n : Nm mg)  : FnE P w K mg base CX0 1 fa.InvalidRow___init__ ["self", "value"] (sp_Er K (a.en .row) "value") := by
  obtain ⟨fd, F⟩ := T.F_InvalidRow___init__
  refine ⟨fd, F.ok sc_InvalidRow___init__ (fun vs H Q E h => h.1) (fun cdv A outer s H vs Q E hr h => ⟨(t_Er K "value" "invalid row"), ?_, pure_Er h⟩), F.binds fun _ _ _ _ _ _ us hl => match us, hl with | [_, _], _ => rfl⟩
  exact pss_cons (ps_expr (pe_ceinit rfl T.g_CardError T.r_CardError T.vi_CardError (by exact (pa_cons (pv 0) (pa_cons (pe_str) (pa_nil))))))
    (pss_one (ps_ost (pv 0) (pv 1)))
theorem ok_Arrangement___init__ (T : Txt K mg a fa) (n : Nm mg) (G_Arrangement_is_row : FnE P w K mg base (L2.CX P w) 2 fa.Arrangement_is_row ["value"] (spM K a 1 [] ev_Arrangement_is_row)) (G_InvalidRow___init__ : FnE P w K mg base CX0 1 fa.InvalidRow___init__ ["self", "value"] (sp_Er K (a.en .row) "value")) : FnE P w K mg base (L2.CX P w) 3 fa.Arrangement___init__ ["self", "row"] (spM K a 2 [0] ev_Arrangement___init__) := by
  refine fnE_of T.F_Arrangement___init__ sc_Arrangement___init__ T.phi rfl (fun cdv A outer s H E hr => ?_) (fun _ _ _ _ _ _ us hl => match us, hl with | [_, _], _ => rfl)
  exact vss_cons (vs_if (vt_not (vt_val (v_smeth (cn := .arr) rfl (pe_glob rfl T.g_Arrangement rfl) T.r_Arrangement T.s_Arrangement_is_row G_Arrangement_is_row (hr.mono (by decide)) (by exact (va_cons (v_pv (pv 1)) (va_nil)))))) (vss_one (vs_raise (C := .row) (CA := a.en .row) (fl := "value") rfl rfl rfl (takes_of rfl rfl rfl rfl) T.ox_InvalidRow T.ic_InvalidRow T.it_InvalidRow T.nv_InvalidRow G_InvalidRow___init__ (hr.mono (by decide)) pass0 rfl T.g_InvalidRow (v_pv (pv 1)))) (vss_nil))
    (vss_one (vs_setFld (c := .arr) (k := 0) (pv 0) T.cl_Arrangement T.n_Arrangement_cards rfl (v_ct c_tupS rc_tuple (by rfl) n.tuple_ (by decide +kernel) (by exact (va_cons (v_pv (pv 1)) (va_nil)))) rfl))
theorem ok__law_disorders (T : Txt K mg a fa) (n : Nm mg)  : FnE P w K mg base (L2.CX P w) 1 fa._law_disorders ["_law_row_here"] (spM K a 1 [] ev_L_disorders) := by
  refine fnE_of T.F__law_disorders sc__law_disorders T.phi rfl (fun cdv A outer s H E hr => ?_) (fun _ _ _ _ _ _ us hl => match us, hl with | [_], _ => rfl)
  exact vss_cons (vs_set (i := 1) sc__law_disorders.nd rfl (Or.inl rfl) (v_cb c_len rc_len (by rfl) n.len (by decide +kernel) (by exact (va_cons (v_lc (own := [("_law_card", 3)]) (g := gName 3) (by rfl) sc__law_disorders.nd (vi_any (v_pv (pv 0))) (blkOk_by (own := [("_law_card", 3)]) (N := N__law_disorders) (sc := defScope s__law_disorders) (by decide +kernel)) (fun _ _ _ _ _ => pg_name (i := 3) sc__law_disorders.nd rfl (.inl rfl)) (snd_gtName (i := 3)) (fun _ _ _ _ _ => vts_one (vt_cmp op_lt ro_lt (v_pv (pv 3)) (v_int) (nomark _))) (fun _ _ _ _ _ => v_pv (pv 3)) (by decide)) (va_nil)))))
    (vss_cons (vs_for (passes_of rfl) rfl (vi_enum (by rfl) n.enumerate (v_pv (pv 0))) (pg_tup (n := 2) rfl (pgs_cons (pg_name (i := 2) sc__law_disorders.nd rfl (.inl rfl)) (pgs_cons (pg_name (i := 3) sc__law_disorders.nd rfl (.inr rfl)) (pgs_nil)))) (snd_gtTup (n := 2) (snd_gtCons (snd_gtName (i := 2)) (snd_gtCons (snd_gtName (i := 3)) (snd_gtNil))))
     (vss_one (vs_set (i := 1) sc__law_disorders.nd rfl (Or.inl rfl) (v_bin op_addX ro_add (v_bin op_addX ro_add (v_pv (pv 1)) (v_cb c_len rc_len (by rfl) n.len (by decide +kernel) (by exact (va_cons (v_lc (own := [("_law_one", 4)]) (g := gName 4) (by rfl) sc__law_disorders.nd (vi_any (v_sl (v_pv (pv 0)) (vo_none) (vo_some (v_pv (pv 2))))) (blkOk_by (own := [("_law_one", 4)]) (N := N__law_disorders) (sc := defScope s__law_disorders) (by decide +kernel)) (fun _ _ _ _ _ => pg_name (i := 4) sc__law_disorders.nd rfl (.inl rfl)) (snd_gtName (i := 4)) (fun _ _ _ _ _ => vts_one (vt_cmp op_gt ro_gt (v_pv (pv 4)) (v_pv (pv 3)) (nomark _))) (fun _ _ _ _ _ => v_pv (pv 4)) (by decide)) (va_nil))))) (v_cb c_len rc_len (by rfl) n.len (by decide +kernel) (by exact (va_cons (v_lc (own := [("_law_one", 4)]) (g := gName 4) (by rfl) sc__law_disorders.nd (vi_any (v_sl (v_pv (pv 0)) (vo_none) (vo_some (v_pv (pv 2))))) (blkOk_by (own := [("_law_one", 4)]) (N := N__law_disorders) (sc := defScope s__law_disorders) (by decide +kernel)) (fun _ _ _ _ _ => pg_name (i := 4) sc__law_disorders.nd rfl (.inl rfl)) (snd_gtName (i := 4)) (fun _ _ _ _ _ => vts_one (vt_cmp op_lt ro_lt (v_bin op_addX ro_add (v_pv (pv 4)) (v_pv (pv 3))) (v_int) (nomark _))) (fun _ _ _ _ _ => v_pv (pv 4)) (by decide)) (va_nil))))))))
    (vss_one (vs_ret (v_pv (pv 1)))))
theorem ok__law_neighbor (T : Txt K mg a fa) (n : Nm mg)  : FnE P w K mg base (L2.CX P w) 1 fa._law_neighbor ["_law_row_here", "_law_step"] (spM K a 2 [] ev_L_neighbor) := by
  refine fnE_of T.F__law_neighbor sc__law_neighbor T.phi rfl (fun cdv A outer s H E hr => ?_) (fun _ _ _ _ _ _ us hl => match us, hl with | [_, _], _ => rfl)
  exact vss_cons (vs_if (vt_cmp (op_eqX hr.units) ro_eq (v_pv (pv 1)) (v_int) (nomark _)) (vss_one (vs_ret (v_bin op_addX ro_add (v_lst (by exact (va_cons (v_un un_neg ro_neg (v_ix (v_pv (pv 0)) (v_int) (fun _ _ => rfl))) (va_nil)))) (v_ct c_listS rc_list (by rfl) n.list_ (by decide +kernel) (by exact (va_cons (v_sl (v_pv (pv 0)) (vo_some (v_int)) (vo_none)) (va_nil))))))) (vss_nil))
    (vss_one (vs_ret (v_bin op_addX ro_add (v_bin op_addX ro_add (v_ct c_listS rc_list (by rfl) n.list_ (by decide +kernel) (by exact (va_cons (v_sl (v_pv (pv 0)) (vo_none) (vo_some (v_bin op_sub ro_sub (v_pv (pv 1)) (v_int)))) (va_nil)))) (v_lst (by exact (va_cons (v_ix (v_pv (pv 0)) (v_pv (pv 1)) (fun _ _ => rfl)) (va_cons (v_ix (v_pv (pv 0)) (v_bin op_sub ro_sub (v_pv (pv 1)) (v_int)) (fun _ _ => rfl)) (va_nil)))))) (v_ct c_listS rc_list (by rfl) n.list_ (by decide +kernel) (by exact (va_cons (v_sl (v_pv (pv 0)) (vo_some (v_bin op_addX ro_add (v_pv (pv 1)) (v_int))) (vo_none)) (va_nil)))))))
theorem ok_disorders_of (T : Txt K mg a fa) (n : Nm mg)  : FnE P w K mg base (L2.CX P w) 1 fa.disorders_of ["row"] (spM K a 1 [] ev_disorders_of) := by
  refine fnE_of T.F_disorders_of sc_disorders_of T.phi rfl (fun cdv A outer s H E hr => ?_) (fun _ _ _ _ _ _ us hl => match us, hl with | [_], _ => rfl)
  exact vss_cons (vs_set (i := 1) sc_disorders_of.nd rfl (Or.inl rfl) (v_cb c_len rc_len (by rfl) n.len (by decide +kernel) (by exact (va_cons (v_lc (own := [("card", 3)]) (g := gName 3) (by rfl) sc_disorders_of.nd (vi_any (v_pv (pv 0))) (blkOk_by (own := [("card", 3)]) (N := N_disorders_of) (sc := defScope s_disorders_of) (by decide +kernel)) (fun _ _ _ _ _ => pg_name (i := 3) sc_disorders_of.nd rfl (.inl rfl)) (snd_gtName (i := 3)) (fun _ _ _ _ _ => vts_one (vt_cmp op_lt ro_lt (v_pv (pv 3)) (v_int) (nomark _))) (fun _ _ _ _ _ => v_pv (pv 3)) (by decide)) (va_nil)))))
    (vss_cons (vs_for (passes_of rfl) rfl (vi_enum (by rfl) n.enumerate (v_pv (pv 0))) (pg_tup (n := 2) rfl (pgs_cons (pg_name (i := 2) sc_disorders_of.nd rfl (.inl rfl)) (pgs_cons (pg_name (i := 3) sc_disorders_of.nd rfl (.inr rfl)) (pgs_nil)))) (snd_gtTup (n := 2) (snd_gtCons (snd_gtName (i := 2)) (snd_gtCons (snd_gtName (i := 3)) (snd_gtNil))))
     (vss_cons (vs_aug (i := 1) sc_disorders_of.nd rfl (Or.inl rfl) (ip_of iop_add) ro_I0 (v_cb c_len rc_len (by rfl) n.len (by decide +kernel) (by exact (va_cons (v_lc (own := [("earlier", 4)]) (g := gName 4) (by rfl) sc_disorders_of.nd (vi_any (v_sl (v_pv (pv 0)) (vo_none) (vo_some (v_pv (pv 2))))) (blkOk_by (own := [("earlier", 4)]) (N := N_disorders_of) (sc := defScope s_disorders_of) (by decide +kernel)) (fun _ _ _ _ _ => pg_name (i := 4) sc_disorders_of.nd rfl (.inl rfl)) (snd_gtName (i := 4)) (fun _ _ _ _ _ => vts_one (vt_cmp op_gt ro_gt (v_pv (pv 4)) (v_pv (pv 3)) (nomark _))) (fun _ _ _ _ _ => v_pv (pv 4)) (by decide)) (va_nil)))))
    (vss_one (vs_aug (i := 1) sc_disorders_of.nd rfl (Or.inl rfl) (ip_of iop_add) ro_I0 (v_cb c_len rc_len (by rfl) n.len (by decide +kernel) (by exact (va_cons (v_lc (own := [("earlier", 4)]) (g := gName 4) (by rfl) sc_disorders_of.nd (vi_any (v_sl (v_pv (pv 0)) (vo_none) (vo_some (v_pv (pv 2))))) (blkOk_by (own := [("earlier", 4)]) (N := N_disorders_of) (sc := defScope s_disorders_of) (by decide +kernel)) (fun _ _ _ _ _ => pg_name (i := 4) sc_disorders_of.nd rfl (.inl rfl)) (snd_gtName (i := 4)) (fun _ _ _ _ _ => vts_one (vt_cmp op_lt ro_lt (v_bin op_addX ro_add (v_pv (pv 4)) (v_pv (pv 3))) (v_int) (nomark _))) (fun _ _ _ _ _ => v_pv (pv 4)) (by decide)) (va_nil))))))))
    (vss_one (vs_ret (v_pv (pv 1)))))
theorem ok_Arrangement_row (T : Txt K mg a fa) (n : Nm mg)  : FnE P w K mg base (L2.CX P w) 1 fa.Arrangement_row ["self"] (spM K a 1 [] ev_Arrangement_row) := by
  refine fnE_of T.F_Arrangement_row sc_Arrangement_row T.phi rfl (fun cdv A outer s H E hr => ?_) (fun _ _ _ _ _ _ us hl => match us, hl with | [_], _ => rfl)
  exact vss_one (vs_ret (v_fld (c := .arr) (k := 0) T.cl_Arrangement T.n_Arrangement_cards rfl (v_pv (pv 0)) rfl))
theorem ok_disorders (T : Txt K mg a fa) (n : Nm mg) (G_disorders_of : FnE P w K mg base (L2.CX P w) 1 fa.disorders_of ["row"] (spM K a 1 [] ev_disorders_of)) (G_Arrangement_row : FnE P w K mg base (L2.CX P w) 1 fa.Arrangement_row ["self"] (spM K a 1 [] ev_Arrangement_row)) : FnE P w K mg base (L2.CX P w) 3 fa.disorders ["a"] (spM K a 1 [] ev_disorders) := by
  refine fnE_of T.F_disorders sc_disorders T.phi rfl (fun cdv A outer s H E hr => ?_) (fun _ _ _ _ _ _ us hl => match us, hl with | [_], _ => rfl)
  exact vss_one (vs_ret (v_call G_disorders_of (hr.mono (by decide)) rfl T.g_disorders_of T.k_disorders_of (takes_of rfl rfl rfl rfl) (by exact (va_cons (v_prop (cn := .arr) rfl (v_pv (pv 0)) T.cl_Arrangement T.p_Arrangement_row G_Arrangement_row (hr.mono (by decide)) rfl) (va_nil)))))
theorem ok_best_steps (T : Txt K mg a fa) (n : Nm mg)  : FnE P w K mg base (L2.CX P w) 1 fa.best_steps ["row"] (spM K a 1 [] ev_best_steps) := by
  refine fnE_of T.F_best_steps sc_best_steps T.phi rfl (fun cdv A outer s H E hr => ?_) (fun _ _ _ _ _ _ us hl => match us, hl with | [_], _ => rfl)
  exact vss_cons (vs_set (i := 1) sc_best_steps.nd rfl (Or.inl rfl) (v_if (vt_cmp op_lt ro_lt (v_ix (v_pv (pv 0)) (v_int) (fun _ _ => rfl)) (v_int) (nomark _)) (v_lst (by exact (va_cons (v_int) (va_nil)))) (v_lst (by exact (va_nil)))))
    (vss_one (vs_ret (v_bin op_addX ro_add (v_pv (pv 1)) (v_lc (own := [("place", 2)]) (g := gName 2) (by rfl) sc_best_steps.nd (vi_rg2 (by rfl) n.range (by exact (va_cons (v_int) (va_cons (v_cb c_len rc_len (by rfl) n.len (by decide +kernel) (by exact (va_cons (v_pv (pv 0)) (va_nil)))) (va_nil))))) (blkOk_by (own := [("place", 2)]) (N := N_best_steps) (sc := defScope s_best_steps) (by decide +kernel)) (fun _ _ _ _ _ => pg_name (i := 2) sc_best_steps.nd rfl (.inl rfl)) (snd_gtName (i := 2)) (fun _ _ _ _ _ => vts_one (vt_cmp op_gt ro_gt (v_ix (v_pv (pv 0)) (v_bin op_sub ro_sub (v_pv (pv 2)) (v_int)) (fun _ _ => rfl)) (v_ix (v_pv (pv 0)) (v_pv (pv 2)) (fun _ _ => rfl)) (nomark _))) (fun _ _ _ _ _ => v_pv (pv 2)) (by decide)))))
theorem ok_best_neighbors (T : Txt K mg a fa) (n : Nm mg) (G_best_steps : FnE P w K mg base (L2.CX P w) 1 fa.best_steps ["row"] (spM K a 1 [] ev_best_steps)) (G_Arrangement_row : FnE P w K mg base (L2.CX P w) 1 fa.Arrangement_row ["self"] (spM K a 1 [] ev_Arrangement_row)) : FnE P w K mg base (L2.CX P w) 3 fa.best_neighbors ["a"] (spM K a 1 [] ev_best_neighbors) := by
  refine fnE_of T.F_best_neighbors sc_best_neighbors T.phi rfl (fun cdv A outer s H E hr => ?_) (fun _ _ _ _ _ _ us hl => match us, hl with | [_], _ => rfl)
  exact vss_one (vs_ret (v_call G_best_steps (hr.mono (by decide)) rfl T.g_best_steps T.k_best_steps (takes_of rfl rfl rfl rfl) (by exact (va_cons (v_prop (cn := .arr) rfl (v_pv (pv 0)) T.cl_Arrangement T.p_Arrangement_row G_Arrangement_row (hr.mono (by decide)) rfl) (va_nil)))))
theorem ok_is_between (T : Txt K mg a fa) (n : Nm mg) (G_is_integer : FnE P w K mg base (L2.CX P w) 1 fa.is_integer ["value"] (spM K a 1 [] ev_is_integer)) : FnE P w K mg base (L2.CX P w) 2 fa.is_between ["value", "low", "high"] (spM K a 3 [] ev_is_between) := by
  refine fnE_of T.F_is_between sc_is_between T.phi rfl (fun cdv A outer s H E hr => ?_) (fun _ _ _ _ _ _ us hl => match us, hl with | [_, _, _], _ => rfl)
  exact vss_one (vs_ret (v_and (v_call G_is_integer (hr.mono (by decide)) rfl T.g_is_integer T.k_is_integer (takes_of rfl rfl rfl rfl) (by exact (va_cons (v_pv (pv 0)) (va_nil)))) (v_one (v_chain op_le op_le ro_le ro_le (v_pv (pv 1)) (v_pv (pv 0)) (v_pv (pv 2))))))
theorem ok_is_word (T : Txt K mg a fa) (n : Nm mg) (G_is_between : FnE P w K mg base (L2.CX P w) 2 fa.is_between ["value", "low", "high"] (spM K a 3 [] ev_is_between)) : FnE P w K mg base (L2.CX P w) 3 fa.is_word ["size", "value"] (spM K a 2 [] ev_is_word) := by
  refine fnE_of T.F_is_word sc_is_word T.phi rfl (fun cdv A outer s H E hr => ?_) (fun _ _ _ _ _ _ us hl => match us, hl with | [_, _], _ => rfl)
  exact vss_one (vs_ret (v_and (up (pe_callB call_isiT (by rfl) n.isinstance (by decide +kernel) (by exact (pa_cons pe0 (pa_cons (pe_tup (by exact (pa_cons (pe_bltn (v := .ty "list") (by rfl) n.list_ (by decide +kernel) rfl) (pa_cons (pe_bltn (v := .ty "tuple") (by rfl) n.tuple_ (by decide +kernel) rfl) (pa_nil))))) pa_nil)))) (snd_isiT (ms := ["list", "tuple"]) (PEV.s (v_pv (pv 1))))) (v_one (v_cb (cr_all rfl) rc_all (by rfl) n.all (by decide +kernel) (by exact (va_cons (v_lc (own := [("step", 2)]) (g := gName 2) (by rfl) sc_is_word.nd (vi_any (v_pv (pv 1))) (blkOk_by (own := [("step", 2)]) (N := N_is_word) (sc := defScope s_is_word) (by decide +kernel)) (fun _ _ _ _ _ => pg_name (i := 2) sc_is_word.nd rfl (.inl rfl)) (snd_gtName (i := 2)) (fun _ _ _ _ _ => vts_nil) (fun _ _ _ _ _ => v_call G_is_between (hr.mono (by decide)) rfl T.g_is_between T.k_is_between takesF (by exact (va_cons (v_pv (pv 2)) (va_cons (v_int) (va_cons (v_bin op_sub ro_sub (v_pv (pv 0)) (v_int)) (va_nil)))))) (by decide)) (va_nil)))))))
theorem ok_Arrangement___len__ (T : Txt K mg a fa) (n : Nm mg)  : FnE P w K mg base (L2.CX P w) 1 fa.Arrangement___len__ ["self"] (spM K a 1 [] ev_Arrangement___len__) := by
  refine fnE_of T.F_Arrangement___len__ sc_Arrangement___len__ T.phi rfl (fun cdv A outer s H E hr => ?_) (fun _ _ _ _ _ _ us hl => match us, hl with | [_], _ => rfl)
  exact vss_one (vs_ret (v_cb c_len rc_len (by rfl) n.len (by decide +kernel) (by exact (va_cons (v_fld (c := .arr) (k := 0) T.cl_Arrangement T.n_Arrangement_cards rfl (v_pv (pv 0)) rfl) (va_nil)))))
theorem ok_InvalidWord___init__ (T : Txt K mg a fa) (n : Nm mg)  : FnE P w K mg base CX0 1 fa.InvalidWord___init__ ["self", "value"] (sp_Er K (a.en .word) "value") := by
  obtain ⟨fd, F⟩ := T.F_InvalidWord___init__
  refine ⟨fd, F.ok sc_InvalidWord___init__ (fun vs H Q E h => h.1) (fun cdv A outer s H vs Q E hr h => ⟨(t_Er K "value" "invalid word"), ?_, pure_Er h⟩), F.binds fun _ _ _ _ _ _ us hl => match us, hl with | [_, _], _ => rfl⟩
  exact pss_cons (ps_expr (pe_ceinit rfl T.g_CardError T.r_CardError T.vi_CardError (by exact (pa_cons (pv 0) (pa_cons (pe_str) (pa_nil))))))
    (pss_one (ps_ost (pv 0) (pv 1)))
theorem ok_performed (T : Txt K mg a fa) (n : Nm mg)  : FnE P w K mg base (L2.CX P w) 1 fa.performed ["row", "step"] (spM K a 2 [] ev_performed) := by
  refine fnE_of T.F_performed sc_performed T.phi rfl (fun cdv A outer s H E hr => ?_) (fun _ _ _ _ _ _ us hl => match us, hl with | [_, _], _ => rfl)
  exact vss_cons (vs_if (vt_cmp (op_eqX hr.units) ro_eq (v_pv (pv 1)) (v_int) (nomark _)) (vss_one (vs_ret (v_tup (by exact (va_cons (v_un un_neg ro_neg (v_ix (v_pv (pv 0)) (v_int) (fun _ _ => rfl))) (va_star (v_sl (v_pv (pv 0)) (vo_some (v_int)) (vo_none)) (va_nil))))))) (vss_nil))
    (vss_one (vs_ret (v_tup (by exact (va_star (v_sl (v_pv (pv 0)) (vo_none) (vo_some (v_bin op_sub ro_sub (v_pv (pv 1)) (v_int)))) (va_cons (v_ix (v_pv (pv 0)) (v_pv (pv 1)) (fun _ _ => rfl)) (va_cons (v_ix (v_pv (pv 0)) (v_bin op_sub ro_sub (v_pv (pv 1)) (v_int)) (fun _ _ => rfl)) (va_star (v_sl (v_pv (pv 0)) (vo_some (v_bin op_addX ro_add (v_pv (pv 1)) (v_int))) (vo_none)) (va_nil)))))))))
theorem ok_after_word (T : Txt K mg a fa) (n : Nm mg) (G_performed : FnE P w K mg base (L2.CX P w) 1 fa.performed ["row", "step"] (spM K a 2 [] ev_performed)) : FnE P w K mg base (L2.CX P w) 2 fa.after_word ["row", "word"] (spM K a 2 [] ev_after_word) := by
  refine fnE_of T.F_after_word sc_after_word T.phi rfl (fun cdv A outer s H E hr => ?_) (fun _ _ _ _ _ _ us hl => match us, hl with | [_, _], _ => rfl)
  exact vss_cons (vs_set (i := 2) sc_after_word.nd rfl (Or.inl rfl) (v_ct c_tupS rc_tuple (by rfl) n.tuple_ (by decide +kernel) (by exact (va_cons (v_pv (pv 0)) (va_nil)))))
    (vss_cons (vs_for (passes_of rfl) rfl (vi_any (v_pv (pv 1))) (pg_name (i := 3) sc_after_word.nd rfl (.inl rfl)) (snd_gtName (i := 3))
     (vss_one (vs_set (i := 2) sc_after_word.nd rfl (Or.inl rfl) (v_call G_performed (hr.mono (by decide)) rfl T.g_performed T.k_performed (takes_of rfl rfl rfl rfl) (by exact (va_cons (v_pv (pv 2)) (va_cons (v_pv (pv 3)) (va_nil))))))))
    (vss_one (vs_ret (v_pv (pv 2)))))
theorem ok_perform (T : Txt K mg a fa) (n : Nm mg) (G_is_word : FnE P w K mg base (L2.CX P w) 3 fa.is_word ["size", "value"] (spM K a 2 [] ev_is_word)) (G_Arrangement___len__ : FnE P w K mg base (L2.CX P w) 1 fa.Arrangement___len__ ["self"] (spM K a 1 [] ev_Arrangement___len__)) (G_InvalidWord___init__ : FnE P w K mg base CX0 1 fa.InvalidWord___init__ ["self", "value"] (sp_Er K (a.en .word) "value")) (G_Arrangement___init__ : FnE P w K mg base (L2.CX P w) 3 fa.Arrangement___init__ ["self", "row"] (spM K a 2 [0] ev_Arrangement___init__)) (G_after_word : FnE P w K mg base (L2.CX P w) 2 fa.after_word ["row", "word"] (spM K a 2 [] ev_after_word)) (G_Arrangement_row : FnE P w K mg base (L2.CX P w) 1 fa.Arrangement_row ["self"] (spM K a 1 [] ev_Arrangement_row)) : FnE P w K mg base (L2.CX P w) 5 fa.perform ["a", "word"] (spM K a 2 [] ev_perform) := by
  refine fnE_of T.F_perform sc_perform T.phi rfl (fun cdv A outer s H E hr => ?_) (fun _ _ _ _ _ _ us hl => match us, hl with | [_, _], _ => rfl)
  exact vss_cons (vs_if (vt_not (vt_val (v_call G_is_word (hr.mono (by decide)) rfl T.g_is_word T.k_is_word (takes_of rfl rfl rfl rfl) (by exact (va_cons (v_lenO (cn := .arr) rfl T.f_Arrangement___len__ T.i_Arrangement___len__ G_Arrangement___len__ (hr.mono (by decide)) (by rfl) n.len (v_pv (pv 0))) (va_cons (v_pv (pv 1)) (va_nil))))))) (vss_one (vs_raise (C := .word) (CA := a.en .word) (fl := "value") rfl rfl rfl (takes_of rfl rfl rfl rfl) T.ox_InvalidWord T.ic_InvalidWord T.it_InvalidWord T.nv_InvalidWord G_InvalidWord___init__ (hr.mono (by decide)) pass0 rfl T.g_InvalidWord (v_pv (pv 1)))) (vss_nil))
    (vss_one (vs_ret (v_make (cn := .arr) rfl T.m_Arrangement G_Arrangement___init__ (hr.mono (by decide)) rfl T.g_Arrangement (takes_of rfl rfl rfl rfl) (by exact (va_cons (v_call G_after_word (hr.mono (by decide)) rfl T.g_after_word T.k_after_word (takes_of rfl rfl rfl rfl) (by exact (va_cons (v_prop (cn := .arr) rfl (v_pv (pv 0)) T.cl_Arrangement T.p_Arrangement_row G_Arrangement_row (hr.mono (by decide)) rfl) (va_cons (v_pv (pv 1)) (va_nil))))) (va_nil))))))
theorem ok__law_refused (T : Txt K mg a fa) (n : Nm mg) (G_perform : FnE P w K mg base (L2.CX P w) 5 fa.perform ["a", "word"] (spM K a 2 [] ev_perform)) : FnGE P w K mg base (L2.CX P w) 6 fa._law_refused ["_law_a", "_law_word"] (spM K a 2 [] ev_L_refused_2) := by
  refine fnG_ofV T.F__law_refused sc__law_refused T.phi rfl (fun cdv A outer s H E hG hr => ?_) (fun _ _ _ _ _ _ us hl => match us, hl with | [_, _], _ => rfl)
  exact vss_cons (vs_try (known := [.place, .row, .word]) rfl rfl sc__law_refused.nd (takes_of rfl rfl rfl rfl) (fun W pn xe tk po => vss_one (vs_expr (v_call G_perform (hr.mono (by decide)) rfl T.g_perform T.k_perform tk (by exact (va_cons (v_pv (pv 0)) (va_cons (v_pv (pv 1)) (va_nil))))))) (hv_nm (C := .word) (CA := a.en .word) (i := 2) rfl rfl rfl ⟨rfl, by decide, Or.inl T.g_InvalidWord⟩ (fun ea dd v d oe pn hz hf => vss_one (vs_ret (v_and (v_cmp (op_eqX hr.units) ro_eq (v_cb (call_reprD (by have z := hG; exact z) (by have z := Room.u64 hr; exact z)) rc_repr (by rfl) n.repr_ (by decide +kernel) (by exact (va_cons (v_xf (CA := a.en .word) (f := "value") rfl rfl T.xf_InvalidWord T.nv_InvalidWord hz hf (pv 2)) (va_nil)))) (v_cb (call_reprD (by have z := hG; exact z) (by have z := Room.u64 hr; exact z)) rc_repr (by rfl) n.repr_ (by decide +kernel) (by exact (va_cons (v_pv (pv 1)) (va_nil)))) (nomark _)) (v_one (v_isD (CA := a.en .word) (b := true) rfl T.xc_InvalidWord T.ki_InvalidWord_CardError hz hf rfl n.isinstance (pv 2) (pe_glob rfl T.g_CardError rfl)))))) (hv_nil)) (fun c hc h hh => by simp only [List.mem_cons, List.not_mem_nil, or_false] at hc hh; rcases hc with rfl | rfl | rfl <;> rcases hh with rfl <;> first | exact T.ex_InvalidPlace_InvalidWord | exact T.ex_InvalidRow_InvalidWord | exact T.ex_InvalidWord_InvalidWord))
    (vss_one (vs_ret (v_bl)))
theorem ok_Arrangement___neg__ (T : Txt K mg a fa) (n : Nm mg) (G_Arrangement___init__ : FnE P w K mg base (L2.CX P w) 3 fa.Arrangement___init__ ["self", "row"] (spM K a 2 [0] ev_Arrangement___init__)) : FnE P w K mg base (L2.CX P w) 5 fa.Arrangement___neg__ ["self"] (spM K a 1 [] ev_Arrangement___neg__) := by
  refine fnE_of T.F_Arrangement___neg__ sc_Arrangement___neg__ T.phi rfl (fun cdv A outer s H E hr => ?_) (fun _ _ _ _ _ _ us hl => match us, hl with | [_], _ => rfl)
  exact vss_one (vs_ret (v_make (cn := .arr) rfl T.m_Arrangement G_Arrangement___init__ (hr.mono (by decide)) rfl T.g_Arrangement (takes_of rfl rfl rfl rfl) (by exact (va_cons (v_lc (own := [("card", 1)]) (g := gName 1) (by rfl) sc_Arrangement___neg__.nd (vi_any (v_fld (c := .arr) (k := 0) T.cl_Arrangement T.n_Arrangement_cards rfl (v_pv (pv 0)) rfl)) (blkOk_by (own := [("card", 1)]) (N := N_Arrangement___neg__) (sc := defScope s_Arrangement___neg__) (by decide +kernel)) (fun _ _ _ _ _ => pg_name (i := 1) sc_Arrangement___neg__.nd rfl (.inl rfl)) (snd_gtName (i := 1)) (fun _ _ _ _ _ => vts_nil) (fun _ _ _ _ _ => v_un un_neg ro_neg (v_pv (pv 1))) (by decide)) (va_nil)))))
theorem ok_InvalidNumber___init__ (T : Txt K mg a fa) (n : Nm mg)  : FnE P w K mg base CX0 1 fa.InvalidNumber___init__ ["self", "value"] (sp_Er K (a.en .number) "value") := by
  obtain ⟨fd, F⟩ := T.F_InvalidNumber___init__
  refine ⟨fd, F.ok sc_InvalidNumber___init__ (fun vs H Q E h => h.1) (fun cdv A outer s H vs Q E hr h => ⟨(t_Er K "value" "invalid number"), ?_, pure_Er h⟩), F.binds fun _ _ _ _ _ _ us hl => match us, hl with | [_, _], _ => rfl⟩
  exact pss_cons (ps_expr (pe_ceinit rfl T.g_CardError T.r_CardError T.vi_CardError (by exact (pa_cons (pv 0) (pa_cons (pe_str) (pa_nil))))))
    (pss_one (ps_ost (pv 0) (pv 1)))
theorem ok_Arrangement_sorted_row (T : Txt K mg a fa) (n : Nm mg) (G_is_between : FnE P w K mg base (L2.CX P w) 2 fa.is_between ["value", "low", "high"] (spM K a 3 [] ev_is_between)) (G_InvalidNumber___init__ : FnE P w K mg base CX0 1 fa.InvalidNumber___init__ ["self", "value"] (sp_Er K (a.en .number) "value")) (G_Arrangement___init__ : FnE P w K mg base (L2.CX P w) 3 fa.Arrangement___init__ ["self", "row"] (spM K a 2 [0] ev_Arrangement___init__)) : FnE P w K mg base (L2.CX P w) 5 fa.Arrangement_sorted_row ["cls", "size"] (spM K a 2 [] ev_Arrangement_sorted_row) := by
  refine fnE_of T.F_Arrangement_sorted_row sc_Arrangement_sorted_row T.phi rfl (fun cdv A outer s H E hr => ?_) (fun _ _ _ _ _ _ us hl => match us, hl with | [_, _], _ => rfl)
  exact vss_cons (vs_if (vt_not (vt_val (v_call G_is_between (hr.mono (by decide)) rfl T.g_is_between T.k_is_between (takes_of rfl rfl rfl rfl) (by exact (va_cons (v_pv (pv 1)) (va_cons (v_int) (va_cons (v_gi (pe_glob rfl T.c_MOST_CARDS ⟨_, rfl⟩)) (va_nil)))))))) (vss_one (vs_raise (C := .number) (CA := a.en .number) (fl := "value") rfl rfl rfl (takes_of rfl rfl rfl rfl) T.ox_InvalidNumber T.ic_InvalidNumber T.it_InvalidNumber T.nv_InvalidNumber G_InvalidNumber___init__ (hr.mono (by decide)) pass0 rfl T.g_InvalidNumber (v_pv (pv 1)))) (vss_nil))
    (vss_one (vs_ret (v_makeV (cn := .arr) (i := 0) rfl (pv 0) T.m_Arrangement G_Arrangement___init__ (hr.mono (by decide)) (takes_of rfl rfl rfl rfl) (by exact (va_cons (v_tr2 (g_tr2 n rfl pe0 pe0 rfl rfl) (v_int) (v_bin op_addX ro_add (v_pv (pv 1)) (v_int))) (va_nil))))))
theorem ok_farthest (T : Txt K mg a fa) (n : Nm mg) (G_Arrangement___neg__ : FnE P w K mg base (L2.CX P w) 5 fa.Arrangement___neg__ ["self"] (spM K a 1 [] ev_Arrangement___neg__)) (G_Arrangement_sorted_row : FnE P w K mg base (L2.CX P w) 5 fa.Arrangement_sorted_row ["cls", "size"] (spM K a 2 [] ev_Arrangement_sorted_row)) : FnE P w K mg base (L2.CX P w) 6 fa.farthest ["size"] (spM K a 1 [] ev_farthest) := by
  refine fnE_of T.F_farthest sc_farthest T.phi rfl (fun cdv A outer s H E hr => ?_) (fun _ _ _ _ _ _ us hl => match us, hl with | [_], _ => rfl)
  exact vss_one (vs_ret (v_negO (cn := .arr) rfl T.f_Arrangement___neg__ T.i_Arrangement___neg__ G_Arrangement___neg__ (hr.mono (by decide)) (takes_of rfl rfl rfl rfl) (v_cmeth (cn := .arr) rfl (pe_glob rfl T.g_Arrangement rfl) T.r_Arrangement T.cm_Arrangement_sorted_row G_Arrangement_sorted_row (hr.mono (by decide)) (takes_of rfl rfl rfl rfl) (by exact (va_cons (v_pv (pv 0)) (va_nil))))))
theorem ok__law_farthest (T : Txt K mg a fa) (n : Nm mg) (G_farthest : FnE P w K mg base (L2.CX P w) 6 fa.farthest ["size"] (spM K a 1 [] ev_farthest)) (G_Arrangement_row : FnE P w K mg base (L2.CX P w) 1 fa.Arrangement_row ["self"] (spM K a 1 [] ev_Arrangement_row)) : FnGE P w K mg base (L2.CX P w) 7 fa._law_farthest ["_law_size"] (spM K a 1 [] ev_L_farthest) := by
  refine fnG_ofV T.F__law_farthest sc__law_farthest T.phi rfl (fun cdv A outer s H E hG hr => ?_) (fun _ _ _ _ _ _ us hl => match us, hl with | [_], _ => rfl)
  exact vss_one (vs_try (known := [.number, .row]) rfl rfl sc__law_farthest.nd (takes_of rfl rfl rfl rfl) (fun W pn xe tk po => vss_one (vs_ret (v_lst (by exact (va_cons (v_str) (va_cons (v_prop (cn := .arr) rfl (v_call G_farthest (hr.mono (by decide)) rfl T.g_farthest T.k_farthest tk (by exact (va_cons (v_pv (pv 0)) (va_nil)))) T.cl_Arrangement T.p_Arrangement_row G_Arrangement_row (hr.mono (by decide)) rfl) (va_nil))))))) (hv_nm (C := .number) (CA := a.en .number) (i := 1) rfl rfl rfl ⟨rfl, by decide, Or.inl T.g_InvalidNumber⟩ (fun ea dd v d oe pn hz hf => vss_one (vs_ret (v_lst (by exact (va_cons (v_str) (va_cons (v_cb (call_reprD (by have z := hG; exact z) (by have z := Room.u64 hr; exact z)) rc_repr (by rfl) n.repr_ (by decide +kernel) (by exact (va_cons (v_xf (CA := a.en .number) (f := "value") rfl rfl T.xf_InvalidNumber T.nv_InvalidNumber hz hf (pv 1)) (va_nil)))) (va_nil))))))) (hv_nil)) (fun c hc h hh => by simp only [List.mem_cons, List.not_mem_nil, or_false] at hc hh; rcases hc with rfl | rfl <;> rcases hh with rfl <;> first | exact T.ex_InvalidNumber_InvalidNumber | exact T.ex_InvalidRow_InvalidNumber))
theorem ok_Arrangement___eq__ (T : Txt K mg a fa) (n : Nm mg)  : FnE P w K mg base (L2.CX P w) 1 fa.Arrangement___eq__ ["self", "other"] (spM K a 2 [] ev_Arrangement___eq__) := by
  refine fnE_of T.F_Arrangement___eq__ sc_Arrangement___eq__ T.phi rfl (fun cdv A outer s H E hr => ?_) (fun _ _ _ _ _ _ us hl => match us, hl with | [_, _], _ => rfl)
  exact vss_one (vs_ret (v_and (v_cb call_isi (rc_isO (c := .arr) T.oc_Arrangement) (by rfl) n.isinstance (by decide +kernel) (by exact (va_cons (v_pv (pv 1)) (va_cons (v_cls (c := .arr) (pe_glob rfl T.g_Arrangement rfl)) (va_nil))))) (v_one (v_cmp (op_eqX hr.units) ro_eq (v_fld (c := .arr) (k := 0) T.cl_Arrangement T.n_Arrangement_cards rfl (v_pv (pv 0)) rfl) (v_fld (c := .arr) (k := 0) T.cl_Arrangement T.n_Arrangement_cards rfl (v_pv (pv 1)) rfl) (nomark _)))))
end
theorem law_ok {P : Program} {w : World} {K : PySem.W.Frag} {mg : Str → Option Value} {base : Heap} {a : Adr} {fa : Fa} (T : Txt K mg a fa) (n : Nm mg) {f : Addr} {fd : FuncData} (F : Fun K "law" "law" s_law f fd) (G__law_pool : FnE P w K mg base (L2.CX P w) 1 fa._law_pool ["_law_script", "_law_k"] (spM K a 2 [] ev_L_pool)) (G__law_row : FnE P w K mg base (L2.CX P w) 2 fa._law_row ["_law_pool_here", "_law_size"] (spM K a 2 [0] ev_L_row)) (G__law_take : FnE P w K mg base (L2.CX P w) 1 fa._law_take ["_law_pool_here", "_law_many"] (spM K a 2 [0] ev_L_take)) (G_Arrangement___init__ : FnE P w K mg base (L2.CX P w) 3 fa.Arrangement___init__ ["self", "row"] (spM K a 2 [0] ev_Arrangement___init__)) (G__law_disorders : FnE P w K mg base (L2.CX P w) 1 fa._law_disorders ["_law_row_here"] (spM K a 1 [] ev_L_disorders)) (G__law_neighbor : FnE P w K mg base (L2.CX P w) 1 fa._law_neighbor ["_law_row_here", "_law_step"] (spM K a 2 [] ev_L_neighbor)) (G_disorders : FnE P w K mg base (L2.CX P w) 3 fa.disorders ["a"] (spM K a 1 [] ev_disorders)) (G_best_neighbors : FnE P w K mg base (L2.CX P w) 3 fa.best_neighbors ["a"] (spM K a 1 [] ev_best_neighbors)) (G_perform : FnE P w K mg base (L2.CX P w) 5 fa.perform ["a", "word"] (spM K a 2 [] ev_perform)) (G_Arrangement_row : FnE P w K mg base (L2.CX P w) 1 fa.Arrangement_row ["self"] (spM K a 1 [] ev_Arrangement_row)) (G__law_refused : FnGE P w K mg base (L2.CX P w) 6 fa._law_refused ["_law_a", "_law_word"] (spM K a 2 [] ev_L_refused_2)) (G__law_farthest : FnGE P w K mg base (L2.CX P w) 7 fa._law_farthest ["_law_size"] (spM K a 1 [] ev_L_farthest)) (G_farthest : FnE P w K mg base (L2.CX P w) 6 fa.farthest ["size"] (spM K a 1 [] ev_farthest)) (G_Arrangement___eq__ : FnE P w K mg base (L2.CX P w) 1 fa.Arrangement___eq__ ["self", "other"] (spM K a 2 [] ev_Arrangement___eq__)) : FnG P w K mg base (L2.CX P w) 8 f fd ["_law_script"] (spM K a 1 [] ev_k10_law) := by
  refine fnG_law F sc_law T.phi rfl (fun cdv A outer s H E hG hr => ?_)
  exact vss_cons (vs_for (passes_of rfl) rfl (vi_rg1 (by rfl) n.range (by exact (va_cons (v_cb (c_max2 rfl) rc_max2 (by rfl) n.max (by decide +kernel) (by exact (va_cons (v_int) (va_cons (v_cb (c_min2 rfl) rc_min2 (by rfl) n.min (by decide +kernel) (by exact (va_cons (v_int) (va_cons (v_cb c_len rc_len (by rfl) n.len (by decide +kernel) (by exact (va_cons (v_pv (pv 0)) (va_nil)))) (va_nil))))) (va_nil))))) (va_nil)))) (pg_name (i := 1) sc_law.nd rfl (.inl rfl)) (snd_gtName (i := 1))
     (vss_cons (vs_set (i := 3) sc_law.nd rfl (Or.inr rfl) (v_call G__law_pool (hr.mono (by decide)) rfl T.g__law_pool T.k__law_pool (takes_of rfl rfl rfl rfl) (by exact (va_cons (v_pv (pv 0)) (va_cons (v_pv (pv 1)) (va_nil))))))
    (vss_cons (vs_set (i := 4) sc_law.nd rfl (Or.inr rfl) (v_call G__law_row (hr.mono (by decide)) rfl T.g__law_row T.k__law_row (takes_of rfl rfl rfl rfl) (by exact (va_cons (v_pv (pv 3)) (va_cons (v_bin op_addX ro_add (v_int) (v_call G__law_take (hr.mono (by decide)) rfl T.g__law_take T.k__law_take (takes_of rfl rfl rfl rfl) (by exact (va_cons (v_pv (pv 3)) (va_cons (v_int) (va_nil)))))) (va_nil))))))
    (vss_cons (vs_asg (pg_tup (n := 2) rfl (pgs_cons (pg_name (i := 9) sc_law.nd rfl (.inr rfl)) (pgs_cons (pg_name (i := 10) sc_law.nd rfl (.inl rfl)) (pgs_nil)))) (snd_gtTup (n := 2) (snd_gtCons (snd_gtName (i := 9)) (snd_gtCons (snd_gtName (i := 10)) (snd_gtNil)))) (v_tup (by exact (va_cons (v_cb c_len rc_len (by rfl) n.len (by decide +kernel) (by exact (va_cons (v_pv (pv 4)) (va_nil)))) (va_cons (v_make (cn := .arr) rfl T.m_Arrangement G_Arrangement___init__ (hr.mono (by decide)) rfl T.g_Arrangement (takes_of rfl rfl rfl rfl) (by exact (va_cons (v_pv (pv 4)) (va_nil)))) (va_nil))))))
    (vss_cons (vs_set (i := 5) sc_law.nd rfl (Or.inr rfl) (v_call G__law_disorders (hr.mono (by decide)) rfl T.g__law_disorders T.k__law_disorders (takes_of rfl rfl rfl rfl) (by exact (va_cons (v_pv (pv 4)) (va_nil)))))
    (vss_cons (vs_setLc (own := [("_law_step", 7)]) (g := gName 7) (by rfl) sc_law.nd (i := 6) rfl rfl (sw_true rfl rfl rfl (by decide +kernel)) (vi_rg1 (by rfl) n.range (by exact (va_cons (v_pv (pv 9)) (va_nil)))) (blkOk_by (own := [("_law_step", 7)]) (N := N_law) (sc := defScope s_law) (by decide +kernel)) (fun _ _ _ _ _ => pg_name (i := 7) sc_law.nd rfl (.inl rfl)) (snd_gtName (i := 7)) (fun _ _ _ _ _ => vts_one (vt_cmp op_lt ro_lt (v_call G__law_disorders (hr.mono (by decide)) rfl T.g__law_disorders T.k__law_disorders takesF (by exact (va_cons (v_call G__law_neighbor (hr.mono (by decide)) rfl T.g__law_neighbor T.k__law_neighbor takesF (by exact (va_cons (v_pv (pv 4)) (va_cons (v_pv (pv 7)) (va_nil))))) (va_nil)))) (v_pv (pv 5)) (nomark _))) (fun _ _ _ _ _ => v_pv (pv 7)) (by decide))
    (vss_cons (vs_if (vt_pw (vw_or (vt_cmp (op_neX hr.units) ro_ne (v_call G_disorders (hr.mono (by decide)) rfl T.g_disorders T.k_disorders (takes_of rfl rfl rfl rfl) (by exact (va_cons (v_pv (pv 10)) (va_nil)))) (v_pv (pv 5)) (nomark _)) (vw_or1 (vt_cmp (op_neX hr.units) ro_ne (v_call G_best_neighbors (hr.mono (by decide)) rfl T.g_best_neighbors T.k_best_neighbors (takes_of rfl rfl rfl rfl) (by exact (va_cons (v_pv (pv 10)) (va_nil)))) (v_pv (pv 6)) (nomark _))))) (vss_one (vs_ret (v_bl))) (vss_nil))
    (vss_cons (vs_par (i := 11) (j := 12) (by rfl) sc_law.nd rfl rfl (by decide) rfl rfl (by exact (va_cons (v_lc (own := [("_law_turn", 13)]) (g := gName 13) (by rfl) sc_law.nd (vi_rg1 (by rfl) n.range (by exact (va_cons (v_call G__law_take (hr.mono (by decide)) rfl T.g__law_take T.k__law_take (takes_of rfl rfl rfl rfl) (by exact (va_cons (v_pv (pv 3)) (va_cons (v_int) (va_nil))))) (va_nil)))) (blkOk_by (own := [("_law_turn", 13)]) (N := N_law) (sc := defScope s_law) (by decide +kernel)) (fun _ _ _ _ _ => pg_name (i := 13) sc_law.nd rfl (.inl rfl)) (snd_gtName (i := 13)) (fun _ _ _ _ _ => vts_nil) (fun _ _ _ _ _ => v_call G__law_take (hr.mono (by decide)) rfl T.g__law_take T.k__law_take takesF (by exact (va_cons (v_pv (pv 3)) (va_cons (v_pv (pv 9)) (va_nil))))) (by decide)) (va_cons (v_pv (pv 4)) (va_nil)))) (by rfl))
    (vss_cons (vs_for (passes_of rfl) rfl (vi_any (v_pv (pv 11))) (pg_name (i := 7) sc_law.nd rfl (.inl rfl)) (snd_gtName (i := 7))
     (vss_one (vs_set (i := 12) sc_law.nd rfl (Or.inl rfl) (v_call G__law_neighbor (hr.mono (by decide)) rfl T.g__law_neighbor T.k__law_neighbor (takes_of rfl rfl rfl rfl) (by exact (va_cons (v_pv (pv 12)) (va_cons (v_pv (pv 7)) (va_nil))))))))
    (vss_cons (vs_for (passes_of rfl) rfl (vi_any (v_lst (by exact (va_cons (v_pv (pv 11)) (va_cons (v_ct c_tupS rc_tuple (by rfl) n.tuple_ (by decide +kernel) (by exact (va_cons (v_pv (pv 11)) (va_nil)))) (va_nil)))))) (pg_name (i := 8) sc_law.nd rfl (.inl rfl)) (snd_gtName (i := 8))
     (vss_one (vs_if (vt_pw (vw_or (vt_cmp (op_neX hr.units) ro_ne (v_prop (cn := .arr) rfl (v_call G_perform (hr.mono (by decide)) rfl T.g_perform T.k_perform (takes_of rfl rfl rfl rfl) (by exact (va_cons (v_pv (pv 10)) (va_cons (v_pv (pv 8)) (va_nil))))) T.cl_Arrangement T.p_Arrangement_row G_Arrangement_row (hr.mono (by decide)) rfl) (v_ct c_tupS rc_tuple (by rfl) n.tuple_ (by decide +kernel) (by exact (va_cons (v_pv (pv 12)) (va_nil)))) (nomark _)) (vw_or1 (vt_cmp (op_neX hr.units) ro_ne (v_prop (cn := .arr) rfl (v_pv (pv 10)) T.cl_Arrangement T.p_Arrangement_row G_Arrangement_row (hr.mono (by decide)) rfl) (v_ct c_tupS rc_tuple (by rfl) n.tuple_ (by decide +kernel) (by exact (va_cons (v_pv (pv 4)) (va_nil)))) (nomark _))))) (vss_one (vs_ret (v_bl))) (vss_nil))))
    (vss_cons (vs_for (passes_of rfl) rfl (vi_any (v_lst (by exact (va_cons (v_non) (va_cons (v_int) (va_cons (v_str) (va_cons (v_dnew) (va_cons (v_lst (by exact (va_cons (v_pv (pv 9)) (va_nil)))) (va_cons (v_lst (by exact (va_cons (v_un un_neg ro_neg (v_int)) (va_nil)))) (va_cons (v_lst (by exact (va_cons (v_bl) (va_nil)))) (va_cons (v_lst (by exact (va_cons (v_non) (va_nil)))) (va_cons (v_bin op_addX ro_add (v_pv (pv 11)) (v_lst (by exact (va_cons (v_pv (pv 9)) (va_nil))))) (va_cons (v_tup (by exact (va_cons (v_int) (va_cons (v_str) (va_nil))))) (va_cons (v_lst (by exact (va_cons (v_lst (by exact (va_cons (v_int) (va_nil)))) (va_nil)))) (va_nil))))))))))))))) (pg_name (i := 2) sc_law.nd rfl (.inl rfl)) (snd_gtName (i := 2))
     (vss_one (vs_if (vt_not (vt_val (v_callG hG G__law_refused (hr.mono (by decide)) rfl T.g__law_refused T.k__law_refused (takes_of rfl rfl rfl rfl) (by exact (va_cons (v_pv (pv 10)) (va_cons (v_pv (pv 2)) (va_nil))))))) (vss_one (vs_ret (v_bl))) (vss_nil))))
    (vss_cons (vs_if (vt_cmp (op_neX hr.units) ro_ne (v_callG hG G__law_farthest (hr.mono (by decide)) rfl T.g__law_farthest T.k__law_farthest (takes_of rfl rfl rfl rfl) (by exact (va_cons (v_pv (pv 9)) (va_nil)))) (v_lst (by exact (va_cons (v_str) (va_cons (v_ct c_tupS rc_tuple (by rfl) n.tuple_ (by decide +kernel) (by exact (va_cons (v_lc (own := [("_law_card", 14)]) (g := gName 14) (by rfl) sc_law.nd (vi_rg2 (by rfl) n.range (by exact (va_cons (v_int) (va_cons (v_bin op_addX ro_add (v_pv (pv 9)) (v_int)) (va_nil))))) (blkOk_by (own := [("_law_card", 14)]) (N := N_law) (sc := defScope s_law) (by decide +kernel)) (fun _ _ _ _ _ => pg_name (i := 14) sc_law.nd rfl (.inl rfl)) (snd_gtName (i := 14)) (fun _ _ _ _ _ => vts_nil) (fun _ _ _ _ _ => v_un un_neg ro_neg (v_pv (pv 14))) (by decide)) (va_nil)))) (va_nil))))) (nomark _)) (vss_one (vs_ret (v_bl))) (vss_nil))
    (vss_one (vs_if (vt_cmp (op_neX hr.units) ro_ne (v_call G_disorders (hr.mono (by decide)) rfl T.g_disorders T.k_disorders (takes_of rfl rfl rfl rfl) (by exact (va_cons (v_call G_farthest (hr.mono (by decide)) rfl T.g_farthest T.k_farthest (takes_of rfl rfl rfl rfl) (by exact (va_cons (v_pv (pv 9)) (va_nil)))) (va_nil)))) (v_bin op_mulX ro_mul (v_pv (pv 9)) (v_pv (pv 9))) (nomark _)) (vss_one (vs_ret (v_bl))) (vss_nil)))))))))))))))
    (vss_cons (vs_for (passes_of rfl) rfl (vi_any (v_lst (by exact (va_cons (v_int) (va_cons (v_un un_neg ro_neg (v_int)) (va_cons (v_int) (va_cons (v_bl) (va_cons (v_non) (va_cons (v_str) (va_nil)))))))))) (pg_name (i := 2) sc_law.nd rfl (.inl rfl)) (snd_gtName (i := 2))
     (vss_one (vs_if (vt_cmp (op_neX hr.units) ro_ne (v_callG hG G__law_farthest (hr.mono (by decide)) rfl T.g__law_farthest T.k__law_farthest (takes_of rfl rfl rfl rfl) (by exact (va_cons (v_pv (pv 2)) (va_nil)))) (v_lst (by exact (va_cons (v_str) (va_cons (v_cb (call_reprD (by have z := hG; exact z) (by have z := Room.u64 hr; exact z)) rc_repr (by rfl) n.repr_ (by decide +kernel) (by exact (va_cons (v_pv (pv 2)) (va_nil)))) (va_nil))))) (nomark _)) (vss_one (vs_ret (v_bl))) (vss_nil))))
    (vss_one (vs_ret (v_and (v_eqO (cn := .arr) rfl T.oc_Arrangement T.f_Arrangement___eq__ T.i_Arrangement___eq__ G_Arrangement___eq__ (hr.mono (by decide)) (v_call G_perform (hr.mono (by decide)) rfl T.g_perform T.k_perform (takes_of rfl rfl rfl rfl) (by exact (va_cons (v_make (cn := .arr) rfl T.m_Arrangement G_Arrangement___init__ (hr.mono (by decide)) rfl T.g_Arrangement (takes_of rfl rfl rfl rfl) (by exact (va_cons (v_lst (by exact (va_cons (v_int) (va_nil)))) (va_nil)))) (va_cons (v_lst (by exact (va_nil))) (va_nil))))) (v_make (cn := .arr) rfl T.m_Arrangement G_Arrangement___init__ (hr.mono (by decide)) rfl T.g_Arrangement (takes_of rfl rfl rfl rfl) (by exact (va_cons (v_lst (by exact (va_cons (v_int) (va_nil)))) (va_nil)))) (nomark _)) (v_one (v_cmp (op_eqX hr.units) ro_eq (v_call G_best_neighbors (hr.mono (by decide)) rfl T.g_best_neighbors T.k_best_neighbors (takes_of rfl rfl rfl rfl) (by exact (va_cons (v_make (cn := .arr) rfl T.m_Arrangement G_Arrangement___init__ (hr.mono (by decide)) rfl T.g_Arrangement (takes_of rfl rfl rfl rfl) (by exact (va_cons (v_lst (by exact (va_cons (v_int) (va_nil)))) (va_nil)))) (va_nil)))) (v_lst (by exact (va_nil))) (nomark _)))))))
def sp_lawX (K : PySem.W.Frag) : Sp := fun vs H Q E => ∀ a : Adr, spM K a 1 [] ev_k10_law vs H Q E
theorem all_mk {l : PySem.W.OpenLaw} {w : World} {K : PySem.W.Frag} {h : Heap} {mg : Str → Option Value} {f0 : Addr} (X : K.In h) (G : h.Ns mainGlobals mg) (hfa : mg "law" = some (.ref f0))
    {f__law_pool f__law_take f__law_row f_is_integer f_Arrangement_is_row r_Arrangement_is_row f_InvalidRow___init__ f_Arrangement___init__ f__law_disorders f__law_neighbor f_disorders_of f_Arrangement_row r_Arrangement_row f_disorders f_best_steps f_best_neighbors f_is_between f_is_word f_Arrangement___len__ f_InvalidWord___init__ f_performed f_after_word f_perform f__law_refused f_Arrangement___neg__ f_InvalidNumber___init__ f_Arrangement_sorted_row r_Arrangement_sorted_row f_farthest f__law_farthest f_Arrangement___eq__ f_law C_Arrangement C_CardError C_InvalidNumber C_InvalidPlace C_InvalidRow C_InvalidWord eN_InvalidNumber eN_InvalidRow eN_InvalidWord : Addr} {od__law_pool an__law_pool od__law_take an__law_take od__law_row an__law_row od_is_integer an_is_integer od_Arrangement_is_row an_Arrangement_is_row od_InvalidRow___init__ an_InvalidRow___init__ od_Arrangement___init__ an_Arrangement___init__ od__law_disorders an__law_disorders od__law_neighbor an__law_neighbor od_disorders_of an_disorders_of od_Arrangement_row an_Arrangement_row od_disorders an_disorders od_best_steps an_best_steps od_best_neighbors an_best_neighbors od_is_between an_is_between od_is_word an_is_word od_Arrangement___len__ an_Arrangement___len__ od_InvalidWord___init__ an_InvalidWord___init__ od_performed an_performed od_after_word an_after_word od_perform an_perform od__law_refused an__law_refused od_Arrangement___neg__ an_Arrangement___neg__ od_InvalidNumber___init__ an_InvalidNumber___init__ od_Arrangement_sorted_row an_Arrangement_sorted_row od_farthest an_farthest od__law_farthest an__law_farthest od_Arrangement___eq__ an_Arrangement___eq__ od_law an_law : Option Addr} {oc__law_pool kV__law_pool dc__law_pool pm__law_pool cd__law_pool ct__law_pool oc__law_take kV__law_take dc__law_take pm__law_take cd__law_take ct__law_take oc__law_row kV__law_row dc__law_row pm__law_row cd__law_row ct__law_row oc_is_integer kV_is_integer dc_is_integer pm_is_integer cd_is_integer ct_is_integer oc_Arrangement_is_row kV_Arrangement_is_row dc_Arrangement_is_row pm_Arrangement_is_row cd_Arrangement_is_row ct_Arrangement_is_row oc_InvalidRow___init__ kV_InvalidRow___init__ dc_InvalidRow___init__ pm_InvalidRow___init__ cd_InvalidRow___init__ ct_InvalidRow___init__ oc_Arrangement___init__ kV_Arrangement___init__ dc_Arrangement___init__ pm_Arrangement___init__ cd_Arrangement___init__ ct_Arrangement___init__ oc__law_disorders kV__law_disorders dc__law_disorders pm__law_disorders cd__law_disorders ct__law_disorders oc__law_neighbor kV__law_neighbor dc__law_neighbor pm__law_neighbor cd__law_neighbor ct__law_neighbor oc_disorders_of kV_disorders_of dc_disorders_of pm_disorders_of cd_disorders_of ct_disorders_of oc_Arrangement_row kV_Arrangement_row dc_Arrangement_row pm_Arrangement_row cd_Arrangement_row ct_Arrangement_row oc_disorders kV_disorders dc_disorders pm_disorders cd_disorders ct_disorders oc_best_steps kV_best_steps dc_best_steps pm_best_steps cd_best_steps ct_best_steps oc_best_neighbors kV_best_neighbors dc_best_neighbors pm_best_neighbors cd_best_neighbors ct_best_neighbors oc_is_between kV_is_between dc_is_between pm_is_between cd_is_between ct_is_between oc_is_word kV_is_word dc_is_word pm_is_word cd_is_word ct_is_word oc_Arrangement___len__ kV_Arrangement___len__ dc_Arrangement___len__ pm_Arrangement___len__ cd_Arrangement___len__ ct_Arrangement___len__ oc_InvalidWord___init__ kV_InvalidWord___init__ dc_InvalidWord___init__ pm_InvalidWord___init__ cd_InvalidWord___init__ ct_InvalidWord___init__ oc_performed kV_performed dc_performed pm_performed cd_performed ct_performed oc_after_word kV_after_word dc_after_word pm_after_word cd_after_word ct_after_word oc_perform kV_perform dc_perform pm_perform cd_perform ct_perform oc__law_refused kV__law_refused dc__law_refused pm__law_refused cd__law_refused ct__law_refused oc_Arrangement___neg__ kV_Arrangement___neg__ dc_Arrangement___neg__ pm_Arrangement___neg__ cd_Arrangement___neg__ ct_Arrangement___neg__ oc_InvalidNumber___init__ kV_InvalidNumber___init__ dc_InvalidNumber___init__ pm_InvalidNumber___init__ cd_InvalidNumber___init__ ct_InvalidNumber___init__ oc_Arrangement_sorted_row kV_Arrangement_sorted_row dc_Arrangement_sorted_row pm_Arrangement_sorted_row cd_Arrangement_sorted_row ct_Arrangement_sorted_row oc_farthest kV_farthest dc_farthest pm_farthest cd_farthest ct_farthest oc__law_farthest kV__law_farthest dc__law_farthest pm__law_farthest cd__law_farthest ct__law_farthest oc_Arrangement___eq__ kV_Arrangement___eq__ dc_Arrangement___eq__ pm_Arrangement___eq__ cd_Arrangement___eq__ ct_Arrangement___eq__ oc_law kV_law dc_law pm_law cd_law ct_law : Value} {sl__law_pool sl__law_take sl__law_row sl_is_integer sl_Arrangement_is_row sl_InvalidRow___init__ sl_Arrangement___init__ sl__law_disorders sl__law_neighbor sl_disorders_of sl_Arrangement_row sl_disorders sl_best_steps sl_best_neighbors sl_is_between sl_is_word sl_Arrangement___len__ sl_InvalidWord___init__ sl_performed sl_after_word sl_perform sl__law_refused sl_Arrangement___neg__ sl_InvalidNumber___init__ sl_Arrangement_sorted_row sl_farthest sl__law_farthest sl_Arrangement___eq__ sl_law : Array (Option Value)} {enm_InvalidNumber eq_InvalidNumber enm_InvalidRow eq_InvalidRow enm_InvalidWord eq_InvalidWord : Str} {ebs_InvalidNumber esub_InvalidNumber ebs_InvalidRow esub_InvalidRow ebs_InvalidWord esub_InvalidWord : List Value} {esn_InvalidNumber esn_InvalidRow esn_InvalidWord : List Str} {eab_InvalidNumber eab_InvalidRow eab_InvalidWord : Bool} {ecol_InvalidNumber ecol_InvalidRow ecol_InvalidWord : Option Bool} {edd_InvalidNumber edd_InvalidRow edd_InvalidWord : Option Addr} {em0_InvalidNumber em1_InvalidNumber em2_InvalidNumber em3_InvalidNumber em5_InvalidNumber em0_InvalidRow em1_InvalidRow em2_InvalidRow em3_InvalidRow em5_InvalidRow em0_InvalidWord em1_InvalidWord em2_InvalidWord em3_InvalidWord em5_InvalidWord : Option Value} {re_Arrangement_is_row re_Arrangement_row re_Arrangement_sorted_row : List Value} {tk_MOST_CARDS : Tok}
    (aC_Arrangement : PySem.W.nsIn K mainGlobals "Arrangement" = some (some (.ref C_Arrangement)))
    (pg_Arrangement : PySem.W.plainGet K C_Arrangement Str.empty = true)
    (hd_Arrangement : PySem.W.hasDictIn K C_Arrangement = true)
    (po_Arrangement : PySem.W.plainOver K C_Arrangement = true)
    (sa_Arrangement : PySem.W.findIn K (.ref C_Arrangement) "__setattr__" = some (some (.builtin "object.__setattr__")))
    (mk_Arrangement : PySem.W.makesIn K C_Arrangement = true)
    (kc_Arrangement : PySem.W.keepIn K (.ref C_Arrangement) = true)
    (rd_Arrangement : PySem.W.readsIn K C_Arrangement (.type "type") = true)
    (ga_Arrangement : PySem.W.specialIn K (.ref C_Arrangement) "__getattribute__" = some (some (.builtin "type.__getattribute__")))
    (oha_Arrangement : PySem.W.findIn K (.ref C_Arrangement) "__class__" = some (some (.builtin "object.__class__")))
    (ohm_Arrangement : PySem.W.mroIn K C_Arrangement (.type "object") = some true)
    (no_Arrangement_cards : PySem.W.findIn K (.ref C_Arrangement) "cards" = some none)
    (aC_CardError : PySem.W.nsIn K mainGlobals "CardError" = some (some (.ref C_CardError)))
    (aC_InvalidNumber : PySem.W.nsIn K mainGlobals "InvalidNumber" = some (some (.ref C_InvalidNumber)))
    (aC_InvalidPlace : PySem.W.nsIn K mainGlobals "InvalidPlace" = some (some (.ref C_InvalidPlace)))
    (aC_InvalidRow : PySem.W.nsIn K mainGlobals "InvalidRow" = some (some (.ref C_InvalidRow)))
    (aC_InvalidWord : PySem.W.nsIn K mainGlobals "InvalidWord" = some (some (.ref C_InvalidWord)))
    (rd_CardError : PySem.W.readsIn K C_CardError (.type "type") = true)
    (gm_CardError : PySem.W.specialIn K (.ref C_CardError) "__getattribute__" = some (some (.builtin "type.__getattribute__")))
    (vi_CardError : PySem.W.findCls K (.ref C_CardError) (.type "type") "__init__" = some (.val (.builtin "ValueError.__init__")))
    (xL_InvalidNumber : K.lookup C_InvalidNumber = some (excClassObj enm_InvalidNumber eq_InvalidNumber C_InvalidNumber eN_InvalidNumber ebs_InvalidNumber [.ref C_CardError, .type "ValueError", .type "Exception", .type "BaseException", .type "object"] true esn_InvalidNumber esub_InvalidNumber eab_InvalidNumber ecol_InvalidNumber edd_InvalidNumber em0_InvalidNumber em1_InvalidNumber em2_InvalidNumber em3_InvalidNumber em5_InvalidNumber "ValueError.__new__"))
    (sa_InvalidNumber : PySem.W.findIn K (.ref C_InvalidNumber) "__setattr__" = some (some (.builtin "object.__setattr__")))
    (eC_InvalidNumber : PySem.W.subIn K (.ref C_InvalidNumber) (.type "BaseException") = some true)
    (tC_InvalidNumber : PySem.W.typeIn K (.ref C_InvalidNumber) = some (.type "type"))
    (kC_InvalidNumber : PySem.W.keepIn K (.ref C_InvalidNumber) = true)
    (ic_InvalidNumber : PySem.W.findIn K (.ref C_InvalidNumber) "__init__" = some (some (.ref f_InvalidNumber___init__)))
    (it_InvalidNumber : PySem.W.typeIn K (.ref f_InvalidNumber___init__) = some (.type "function"))
    (nv_InvalidNumber : PySem.W.findIn K (.ref C_InvalidNumber) "value" = some none)
    (xL_InvalidRow : K.lookup C_InvalidRow = some (excClassObj enm_InvalidRow eq_InvalidRow C_InvalidRow eN_InvalidRow ebs_InvalidRow [.ref C_CardError, .type "ValueError", .type "Exception", .type "BaseException", .type "object"] true esn_InvalidRow esub_InvalidRow eab_InvalidRow ecol_InvalidRow edd_InvalidRow em0_InvalidRow em1_InvalidRow em2_InvalidRow em3_InvalidRow em5_InvalidRow "ValueError.__new__"))
    (sa_InvalidRow : PySem.W.findIn K (.ref C_InvalidRow) "__setattr__" = some (some (.builtin "object.__setattr__")))
    (eC_InvalidRow : PySem.W.subIn K (.ref C_InvalidRow) (.type "BaseException") = some true)
    (tC_InvalidRow : PySem.W.typeIn K (.ref C_InvalidRow) = some (.type "type"))
    (kC_InvalidRow : PySem.W.keepIn K (.ref C_InvalidRow) = true)
    (ic_InvalidRow : PySem.W.findIn K (.ref C_InvalidRow) "__init__" = some (some (.ref f_InvalidRow___init__)))
    (it_InvalidRow : PySem.W.typeIn K (.ref f_InvalidRow___init__) = some (.type "function"))
    (nv_InvalidRow : PySem.W.findIn K (.ref C_InvalidRow) "value" = some none)
    (xL_InvalidWord : K.lookup C_InvalidWord = some (excClassObj enm_InvalidWord eq_InvalidWord C_InvalidWord eN_InvalidWord ebs_InvalidWord [.ref C_CardError, .type "ValueError", .type "Exception", .type "BaseException", .type "object"] true esn_InvalidWord esub_InvalidWord eab_InvalidWord ecol_InvalidWord edd_InvalidWord em0_InvalidWord em1_InvalidWord em2_InvalidWord em3_InvalidWord em5_InvalidWord "ValueError.__new__"))
    (sa_InvalidWord : PySem.W.findIn K (.ref C_InvalidWord) "__setattr__" = some (some (.builtin "object.__setattr__")))
    (eC_InvalidWord : PySem.W.subIn K (.ref C_InvalidWord) (.type "BaseException") = some true)
    (tC_InvalidWord : PySem.W.typeIn K (.ref C_InvalidWord) = some (.type "type"))
    (kC_InvalidWord : PySem.W.keepIn K (.ref C_InvalidWord) = true)
    (ic_InvalidWord : PySem.W.findIn K (.ref C_InvalidWord) "__init__" = some (some (.ref f_InvalidWord___init__)))
    (it_InvalidWord : PySem.W.typeIn K (.ref f_InvalidWord___init__) = some (.type "function"))
    (nv_InvalidWord : PySem.W.findIn K (.ref C_InvalidWord) "value" = some none)
    (hn_ : PySem.W.specialIn K (.builtin "object.__class__") "__get__" = some (some (.builtin "getset_descriptor.__get__")))
    (ht_ : PySem.W.takesIn K (.builtin "object.__class__") = some true)
    (xga_InvalidNumber : PySem.W.findIn K (.ref C_InvalidNumber) "__getattribute__" = some (some (.builtin "BaseException.__getattribute__")))
    (xgg_InvalidNumber : PySem.W.findIn K (.ref C_InvalidNumber) "__getattr__" = some none)
    (xhd_InvalidNumber : PySem.W.hasDictIn K C_InvalidNumber = true)
    (xha_InvalidNumber : PySem.W.findIn K (.ref C_InvalidNumber) "__class__" = some (some (.builtin "object.__class__")))
    (xhm_InvalidNumber : PySem.W.mroIn K C_InvalidNumber (.type "object") = some true)
    (xga_InvalidWord : PySem.W.findIn K (.ref C_InvalidWord) "__getattribute__" = some (some (.builtin "BaseException.__getattribute__")))
    (xgg_InvalidWord : PySem.W.findIn K (.ref C_InvalidWord) "__getattr__" = some none)
    (xhd_InvalidWord : PySem.W.hasDictIn K C_InvalidWord = true)
    (xha_InvalidWord : PySem.W.findIn K (.ref C_InvalidWord) "__class__" = some (some (.builtin "object.__class__")))
    (xhm_InvalidWord : PySem.W.mroIn K C_InvalidWord (.type "object") = some true)
    (ex_InvalidNumber_InvalidNumber : PySem.W.exmOne K (.ref C_InvalidNumber) (.ref C_InvalidNumber) = some true)
    (ex_InvalidPlace_InvalidWord : PySem.W.exmOne K (.ref C_InvalidPlace) (.ref C_InvalidWord) = some false)
    (ex_InvalidRow_InvalidNumber : PySem.W.exmOne K (.ref C_InvalidRow) (.ref C_InvalidNumber) = some false)
    (ex_InvalidRow_InvalidWord : PySem.W.exmOne K (.ref C_InvalidRow) (.ref C_InvalidWord) = some false)
    (ex_InvalidWord_InvalidWord : PySem.W.exmOne K (.ref C_InvalidWord) (.ref C_InvalidWord) = some true)
    (ki_InvalidWord_CardError : PySem.W.kitOne K (.ref C_InvalidWord) (.ref C_CardError) = some true)
    (a__law_pool : PySem.W.nsIn K mainGlobals "_law_pool" = some (some (.ref f__law_pool)))
    (l__law_pool : K.lookup f__law_pool = some ⟨oc__law_pool, od__law_pool, .func (PySem.W.fnOf "_law_pool" "_law_pool" (defArgs s__law_pool) (defBody s__law_pool) (defScope s__law_pool) .none kV__law_pool dc__law_pool pm__law_pool an__law_pool cd__law_pool ct__law_pool), sl__law_pool⟩)
    (c__law_pool : PySem.W.codeIn K cd__law_pool "_law_pool" = true)
    (k__law_pool : PySem.W.keepIn K (.ref f__law_pool) = true)
    (a__law_take : PySem.W.nsIn K mainGlobals "_law_take" = some (some (.ref f__law_take)))
    (l__law_take : K.lookup f__law_take = some ⟨oc__law_take, od__law_take, .func (PySem.W.fnOf "_law_take" "_law_take" (defArgs s__law_take) (defBody s__law_take) (defScope s__law_take) .none kV__law_take dc__law_take pm__law_take an__law_take cd__law_take ct__law_take), sl__law_take⟩)
    (c__law_take : PySem.W.codeIn K cd__law_take "_law_take" = true)
    (k__law_take : PySem.W.keepIn K (.ref f__law_take) = true)
    (a__law_row : PySem.W.nsIn K mainGlobals "_law_row" = some (some (.ref f__law_row)))
    (l__law_row : K.lookup f__law_row = some ⟨oc__law_row, od__law_row, .func (PySem.W.fnOf "_law_row" "_law_row" (defArgs s__law_row) (defBody s__law_row) (defScope s__law_row) .none kV__law_row dc__law_row pm__law_row an__law_row cd__law_row ct__law_row), sl__law_row⟩)
    (c__law_row : PySem.W.codeIn K cd__law_row "_law_row" = true)
    (k__law_row : PySem.W.keepIn K (.ref f__law_row) = true)
    (a_is_integer : PySem.W.nsIn K mainGlobals "is_integer" = some (some (.ref f_is_integer)))
    (l_is_integer : K.lookup f_is_integer = some ⟨oc_is_integer, od_is_integer, .func (PySem.W.fnOf "is_integer" "is_integer" (defArgs s_is_integer) (defBody s_is_integer) (defScope s_is_integer) .none kV_is_integer dc_is_integer pm_is_integer an_is_integer cd_is_integer ct_is_integer), sl_is_integer⟩)
    (c_is_integer : PySem.W.codeIn K cd_is_integer "is_integer" = true)
    (k_is_integer : PySem.W.keepIn K (.ref f_is_integer) = true)
    (a_Arrangement_is_row : PySem.W.findCls K (.ref C_Arrangement) (.type "type") "is_row" = some (.get (.builtin "staticmethod.__get__") (.ref r_Arrangement_is_row) .none (.ref C_Arrangement)))
    (e_Arrangement_is_row : PySem.W.recIn K r_Arrangement_is_row "staticmethod" = some (.ref f_Arrangement_is_row :: re_Arrangement_is_row))
    (l_Arrangement_is_row : K.lookup f_Arrangement_is_row = some ⟨oc_Arrangement_is_row, od_Arrangement_is_row, .func (PySem.W.fnOf "is_row" "Arrangement.is_row" (defArgs s_Arrangement_is_row) (defBody s_Arrangement_is_row) (defScope s_Arrangement_is_row) .none kV_Arrangement_is_row dc_Arrangement_is_row pm_Arrangement_is_row an_Arrangement_is_row cd_Arrangement_is_row ct_Arrangement_is_row), sl_Arrangement_is_row⟩)
    (c_Arrangement_is_row : PySem.W.codeIn K cd_Arrangement_is_row "Arrangement.is_row" = true)
    (k_Arrangement_is_row : PySem.W.keepIn K (.ref f_Arrangement_is_row) = true)
    (l_InvalidRow___init__ : K.lookup f_InvalidRow___init__ = some ⟨oc_InvalidRow___init__, od_InvalidRow___init__, .func (PySem.W.fnOf "__init__" "InvalidRow.__init__" (defArgs s_InvalidRow___init__) (defBody s_InvalidRow___init__) (defScope s_InvalidRow___init__) .none kV_InvalidRow___init__ dc_InvalidRow___init__ pm_InvalidRow___init__ an_InvalidRow___init__ cd_InvalidRow___init__ ct_InvalidRow___init__), sl_InvalidRow___init__⟩)
    (c_InvalidRow___init__ : PySem.W.codeIn K cd_InvalidRow___init__ "InvalidRow.__init__" = true)
    (k_InvalidRow___init__ : PySem.W.keepIn K (.ref f_InvalidRow___init__) = true)
    (a_Arrangement___init__ : PySem.W.findIn K (.ref C_Arrangement) "__init__" = some (some (.ref f_Arrangement___init__)))
    (i_Arrangement___init__ : PySem.W.isFn K (.ref f_Arrangement___init__) = true)
    (l_Arrangement___init__ : K.lookup f_Arrangement___init__ = some ⟨oc_Arrangement___init__, od_Arrangement___init__, .func (PySem.W.fnOf "__init__" "Arrangement.__init__" (defArgs s_Arrangement___init__) (defBody s_Arrangement___init__) (defScope s_Arrangement___init__) .none kV_Arrangement___init__ dc_Arrangement___init__ pm_Arrangement___init__ an_Arrangement___init__ cd_Arrangement___init__ ct_Arrangement___init__), sl_Arrangement___init__⟩)
    (c_Arrangement___init__ : PySem.W.codeIn K cd_Arrangement___init__ "Arrangement.__init__" = true)
    (k_Arrangement___init__ : PySem.W.keepIn K (.ref f_Arrangement___init__) = true)
    (a__law_disorders : PySem.W.nsIn K mainGlobals "_law_disorders" = some (some (.ref f__law_disorders)))
    (l__law_disorders : K.lookup f__law_disorders = some ⟨oc__law_disorders, od__law_disorders, .func (PySem.W.fnOf "_law_disorders" "_law_disorders" (defArgs s__law_disorders) (defBody s__law_disorders) (defScope s__law_disorders) .none kV__law_disorders dc__law_disorders pm__law_disorders an__law_disorders cd__law_disorders ct__law_disorders), sl__law_disorders⟩)
    (c__law_disorders : PySem.W.codeIn K cd__law_disorders "_law_disorders" = true)
    (k__law_disorders : PySem.W.keepIn K (.ref f__law_disorders) = true)
    (a__law_neighbor : PySem.W.nsIn K mainGlobals "_law_neighbor" = some (some (.ref f__law_neighbor)))
    (l__law_neighbor : K.lookup f__law_neighbor = some ⟨oc__law_neighbor, od__law_neighbor, .func (PySem.W.fnOf "_law_neighbor" "_law_neighbor" (defArgs s__law_neighbor) (defBody s__law_neighbor) (defScope s__law_neighbor) .none kV__law_neighbor dc__law_neighbor pm__law_neighbor an__law_neighbor cd__law_neighbor ct__law_neighbor), sl__law_neighbor⟩)
    (c__law_neighbor : PySem.W.codeIn K cd__law_neighbor "_law_neighbor" = true)
    (k__law_neighbor : PySem.W.keepIn K (.ref f__law_neighbor) = true)
    (a_disorders_of : PySem.W.nsIn K mainGlobals "disorders_of" = some (some (.ref f_disorders_of)))
    (l_disorders_of : K.lookup f_disorders_of = some ⟨oc_disorders_of, od_disorders_of, .func (PySem.W.fnOf "disorders_of" "disorders_of" (defArgs s_disorders_of) (defBody s_disorders_of) (defScope s_disorders_of) .none kV_disorders_of dc_disorders_of pm_disorders_of an_disorders_of cd_disorders_of ct_disorders_of), sl_disorders_of⟩)
    (c_disorders_of : PySem.W.codeIn K cd_disorders_of "disorders_of" = true)
    (k_disorders_of : PySem.W.keepIn K (.ref f_disorders_of) = true)
    (a_Arrangement_row : PySem.W.findIn K (.ref C_Arrangement) "row" = some (some (.ref r_Arrangement_row)))
    (b_Arrangement_row : PySem.W.specialIn K (.ref r_Arrangement_row) "__get__" = some (some (.builtin "property.__get__")))
    (d_Arrangement_row : PySem.W.takesIn K (.ref r_Arrangement_row) = some true)
    (e_Arrangement_row : PySem.W.recIn K r_Arrangement_row "property" = some (.ref f_Arrangement_row :: re_Arrangement_row))
    (l_Arrangement_row : K.lookup f_Arrangement_row = some ⟨oc_Arrangement_row, od_Arrangement_row, .func (PySem.W.fnOf "row" "Arrangement.row" (defArgs s_Arrangement_row) (defBody s_Arrangement_row) (defScope s_Arrangement_row) .none kV_Arrangement_row dc_Arrangement_row pm_Arrangement_row an_Arrangement_row cd_Arrangement_row ct_Arrangement_row), sl_Arrangement_row⟩)
    (c_Arrangement_row : PySem.W.codeIn K cd_Arrangement_row "Arrangement.row" = true)
    (k_Arrangement_row : PySem.W.keepIn K (.ref f_Arrangement_row) = true)
    (a_disorders : PySem.W.nsIn K mainGlobals "disorders" = some (some (.ref f_disorders)))
    (l_disorders : K.lookup f_disorders = some ⟨oc_disorders, od_disorders, .func (PySem.W.fnOf "disorders" "disorders" (defArgs s_disorders) (defBody s_disorders) (defScope s_disorders) .none kV_disorders dc_disorders pm_disorders an_disorders cd_disorders ct_disorders), sl_disorders⟩)
    (c_disorders : PySem.W.codeIn K cd_disorders "disorders" = true)
    (k_disorders : PySem.W.keepIn K (.ref f_disorders) = true)
    (a_best_steps : PySem.W.nsIn K mainGlobals "best_steps" = some (some (.ref f_best_steps)))
    (l_best_steps : K.lookup f_best_steps = some ⟨oc_best_steps, od_best_steps, .func (PySem.W.fnOf "best_steps" "best_steps" (defArgs s_best_steps) (defBody s_best_steps) (defScope s_best_steps) .none kV_best_steps dc_best_steps pm_best_steps an_best_steps cd_best_steps ct_best_steps), sl_best_steps⟩)
    (c_best_steps : PySem.W.codeIn K cd_best_steps "best_steps" = true)
    (k_best_steps : PySem.W.keepIn K (.ref f_best_steps) = true)
    (a_best_neighbors : PySem.W.nsIn K mainGlobals "best_neighbors" = some (some (.ref f_best_neighbors)))
    (l_best_neighbors : K.lookup f_best_neighbors = some ⟨oc_best_neighbors, od_best_neighbors, .func (PySem.W.fnOf "best_neighbors" "best_neighbors" (defArgs s_best_neighbors) (defBody s_best_neighbors) (defScope s_best_neighbors) .none kV_best_neighbors dc_best_neighbors pm_best_neighbors an_best_neighbors cd_best_neighbors ct_best_neighbors), sl_best_neighbors⟩)
    (c_best_neighbors : PySem.W.codeIn K cd_best_neighbors "best_neighbors" = true)
    (k_best_neighbors : PySem.W.keepIn K (.ref f_best_neighbors) = true)
    (a_is_between : PySem.W.nsIn K mainGlobals "is_between" = some (some (.ref f_is_between)))
    (l_is_between : K.lookup f_is_between = some ⟨oc_is_between, od_is_between, .func (PySem.W.fnOf "is_between" "is_between" (defArgs s_is_between) (defBody s_is_between) (defScope s_is_between) .none kV_is_between dc_is_between pm_is_between an_is_between cd_is_between ct_is_between), sl_is_between⟩)
    (c_is_between : PySem.W.codeIn K cd_is_between "is_between" = true)
    (k_is_between : PySem.W.keepIn K (.ref f_is_between) = true)
    (a_is_word : PySem.W.nsIn K mainGlobals "is_word" = some (some (.ref f_is_word)))
    (l_is_word : K.lookup f_is_word = some ⟨oc_is_word, od_is_word, .func (PySem.W.fnOf "is_word" "is_word" (defArgs s_is_word) (defBody s_is_word) (defScope s_is_word) .none kV_is_word dc_is_word pm_is_word an_is_word cd_is_word ct_is_word), sl_is_word⟩)
    (c_is_word : PySem.W.codeIn K cd_is_word "is_word" = true)
    (k_is_word : PySem.W.keepIn K (.ref f_is_word) = true)
    (a_Arrangement___len__ : PySem.W.findIn K (.ref C_Arrangement) "__len__" = some (some (.ref f_Arrangement___len__)))
    (i_Arrangement___len__ : PySem.W.isFn K (.ref f_Arrangement___len__) = true)
    (l_Arrangement___len__ : K.lookup f_Arrangement___len__ = some ⟨oc_Arrangement___len__, od_Arrangement___len__, .func (PySem.W.fnOf "__len__" "Arrangement.__len__" (defArgs s_Arrangement___len__) (defBody s_Arrangement___len__) (defScope s_Arrangement___len__) .none kV_Arrangement___len__ dc_Arrangement___len__ pm_Arrangement___len__ an_Arrangement___len__ cd_Arrangement___len__ ct_Arrangement___len__), sl_Arrangement___len__⟩)
    (c_Arrangement___len__ : PySem.W.codeIn K cd_Arrangement___len__ "Arrangement.__len__" = true)
    (k_Arrangement___len__ : PySem.W.keepIn K (.ref f_Arrangement___len__) = true)
    (l_InvalidWord___init__ : K.lookup f_InvalidWord___init__ = some ⟨oc_InvalidWord___init__, od_InvalidWord___init__, .func (PySem.W.fnOf "__init__" "InvalidWord.__init__" (defArgs s_InvalidWord___init__) (defBody s_InvalidWord___init__) (defScope s_InvalidWord___init__) .none kV_InvalidWord___init__ dc_InvalidWord___init__ pm_InvalidWord___init__ an_InvalidWord___init__ cd_InvalidWord___init__ ct_InvalidWord___init__), sl_InvalidWord___init__⟩)
    (c_InvalidWord___init__ : PySem.W.codeIn K cd_InvalidWord___init__ "InvalidWord.__init__" = true)
    (k_InvalidWord___init__ : PySem.W.keepIn K (.ref f_InvalidWord___init__) = true)
    (a_performed : PySem.W.nsIn K mainGlobals "performed" = some (some (.ref f_performed)))
    (l_performed : K.lookup f_performed = some ⟨oc_performed, od_performed, .func (PySem.W.fnOf "performed" "performed" (defArgs s_performed) (defBody s_performed) (defScope s_performed) .none kV_performed dc_performed pm_performed an_performed cd_performed ct_performed), sl_performed⟩)
    (c_performed : PySem.W.codeIn K cd_performed "performed" = true)
    (k_performed : PySem.W.keepIn K (.ref f_performed) = true)
    (a_after_word : PySem.W.nsIn K mainGlobals "after_word" = some (some (.ref f_after_word)))
    (l_after_word : K.lookup f_after_word = some ⟨oc_after_word, od_after_word, .func (PySem.W.fnOf "after_word" "after_word" (defArgs s_after_word) (defBody s_after_word) (defScope s_after_word) .none kV_after_word dc_after_word pm_after_word an_after_word cd_after_word ct_after_word), sl_after_word⟩)
    (c_after_word : PySem.W.codeIn K cd_after_word "after_word" = true)
    (k_after_word : PySem.W.keepIn K (.ref f_after_word) = true)
    (a_perform : PySem.W.nsIn K mainGlobals "perform" = some (some (.ref f_perform)))
    (l_perform : K.lookup f_perform = some ⟨oc_perform, od_perform, .func (PySem.W.fnOf "perform" "perform" (defArgs s_perform) (defBody s_perform) (defScope s_perform) .none kV_perform dc_perform pm_perform an_perform cd_perform ct_perform), sl_perform⟩)
    (c_perform : PySem.W.codeIn K cd_perform "perform" = true)
    (k_perform : PySem.W.keepIn K (.ref f_perform) = true)
    (a__law_refused : PySem.W.nsIn K mainGlobals "_law_refused" = some (some (.ref f__law_refused)))
    (l__law_refused : K.lookup f__law_refused = some ⟨oc__law_refused, od__law_refused, .func (PySem.W.fnOf "_law_refused" "_law_refused" (defArgs s__law_refused) (defBody s__law_refused) (defScope s__law_refused) .none kV__law_refused dc__law_refused pm__law_refused an__law_refused cd__law_refused ct__law_refused), sl__law_refused⟩)
    (c__law_refused : PySem.W.codeIn K cd__law_refused "_law_refused" = true)
    (k__law_refused : PySem.W.keepIn K (.ref f__law_refused) = true)
    (a_Arrangement___neg__ : PySem.W.findIn K (.ref C_Arrangement) "__neg__" = some (some (.ref f_Arrangement___neg__)))
    (i_Arrangement___neg__ : PySem.W.isFn K (.ref f_Arrangement___neg__) = true)
    (l_Arrangement___neg__ : K.lookup f_Arrangement___neg__ = some ⟨oc_Arrangement___neg__, od_Arrangement___neg__, .func (PySem.W.fnOf "__neg__" "Arrangement.__neg__" (defArgs s_Arrangement___neg__) (defBody s_Arrangement___neg__) (defScope s_Arrangement___neg__) .none kV_Arrangement___neg__ dc_Arrangement___neg__ pm_Arrangement___neg__ an_Arrangement___neg__ cd_Arrangement___neg__ ct_Arrangement___neg__), sl_Arrangement___neg__⟩)
    (c_Arrangement___neg__ : PySem.W.codeIn K cd_Arrangement___neg__ "Arrangement.__neg__" = true)
    (k_Arrangement___neg__ : PySem.W.keepIn K (.ref f_Arrangement___neg__) = true)
    (l_InvalidNumber___init__ : K.lookup f_InvalidNumber___init__ = some ⟨oc_InvalidNumber___init__, od_InvalidNumber___init__, .func (PySem.W.fnOf "__init__" "InvalidNumber.__init__" (defArgs s_InvalidNumber___init__) (defBody s_InvalidNumber___init__) (defScope s_InvalidNumber___init__) .none kV_InvalidNumber___init__ dc_InvalidNumber___init__ pm_InvalidNumber___init__ an_InvalidNumber___init__ cd_InvalidNumber___init__ ct_InvalidNumber___init__), sl_InvalidNumber___init__⟩)
    (c_InvalidNumber___init__ : PySem.W.codeIn K cd_InvalidNumber___init__ "InvalidNumber.__init__" = true)
    (k_InvalidNumber___init__ : PySem.W.keepIn K (.ref f_InvalidNumber___init__) = true)
    (a_Arrangement_sorted_row : PySem.W.findCls K (.ref C_Arrangement) (.type "type") "sorted_row" = some (.get (.builtin "classmethod.__get__") (.ref r_Arrangement_sorted_row) .none (.ref C_Arrangement)))
    (e_Arrangement_sorted_row : PySem.W.recIn K r_Arrangement_sorted_row "classmethod" = some (.ref f_Arrangement_sorted_row :: re_Arrangement_sorted_row))
    (fi_Arrangement_sorted_row : PySem.W.fnIn K f_Arrangement_sorted_row = true)
    (l_Arrangement_sorted_row : K.lookup f_Arrangement_sorted_row = some ⟨oc_Arrangement_sorted_row, od_Arrangement_sorted_row, .func (PySem.W.fnOf "sorted_row" "Arrangement.sorted_row" (defArgs s_Arrangement_sorted_row) (defBody s_Arrangement_sorted_row) (defScope s_Arrangement_sorted_row) .none kV_Arrangement_sorted_row dc_Arrangement_sorted_row pm_Arrangement_sorted_row an_Arrangement_sorted_row cd_Arrangement_sorted_row ct_Arrangement_sorted_row), sl_Arrangement_sorted_row⟩)
    (c_Arrangement_sorted_row : PySem.W.codeIn K cd_Arrangement_sorted_row "Arrangement.sorted_row" = true)
    (k_Arrangement_sorted_row : PySem.W.keepIn K (.ref f_Arrangement_sorted_row) = true)
    (a_farthest : PySem.W.nsIn K mainGlobals "farthest" = some (some (.ref f_farthest)))
    (l_farthest : K.lookup f_farthest = some ⟨oc_farthest, od_farthest, .func (PySem.W.fnOf "farthest" "farthest" (defArgs s_farthest) (defBody s_farthest) (defScope s_farthest) .none kV_farthest dc_farthest pm_farthest an_farthest cd_farthest ct_farthest), sl_farthest⟩)
    (c_farthest : PySem.W.codeIn K cd_farthest "farthest" = true)
    (k_farthest : PySem.W.keepIn K (.ref f_farthest) = true)
    (a__law_farthest : PySem.W.nsIn K mainGlobals "_law_farthest" = some (some (.ref f__law_farthest)))
    (l__law_farthest : K.lookup f__law_farthest = some ⟨oc__law_farthest, od__law_farthest, .func (PySem.W.fnOf "_law_farthest" "_law_farthest" (defArgs s__law_farthest) (defBody s__law_farthest) (defScope s__law_farthest) .none kV__law_farthest dc__law_farthest pm__law_farthest an__law_farthest cd__law_farthest ct__law_farthest), sl__law_farthest⟩)
    (c__law_farthest : PySem.W.codeIn K cd__law_farthest "_law_farthest" = true)
    (k__law_farthest : PySem.W.keepIn K (.ref f__law_farthest) = true)
    (a_Arrangement___eq__ : PySem.W.findIn K (.ref C_Arrangement) "__eq__" = some (some (.ref f_Arrangement___eq__)))
    (i_Arrangement___eq__ : PySem.W.isFn K (.ref f_Arrangement___eq__) = true)
    (l_Arrangement___eq__ : K.lookup f_Arrangement___eq__ = some ⟨oc_Arrangement___eq__, od_Arrangement___eq__, .func (PySem.W.fnOf "__eq__" "Arrangement.__eq__" (defArgs s_Arrangement___eq__) (defBody s_Arrangement___eq__) (defScope s_Arrangement___eq__) .none kV_Arrangement___eq__ dc_Arrangement___eq__ pm_Arrangement___eq__ an_Arrangement___eq__ cd_Arrangement___eq__ ct_Arrangement___eq__), sl_Arrangement___eq__⟩)
    (c_Arrangement___eq__ : PySem.W.codeIn K cd_Arrangement___eq__ "Arrangement.__eq__" = true)
    (k_Arrangement___eq__ : PySem.W.keepIn K (.ref f_Arrangement___eq__) = true)
    (a_law : PySem.W.nsIn K mainGlobals "law" = some (some (.ref f_law)))
    (l_law : K.lookup f_law = some ⟨oc_law, od_law, .func (PySem.W.fnOf "law" "law" (defArgs s_law) (defBody s_law) (defScope s_law) .none kV_law dc_law pm_law an_law cd_law ct_law), sl_law⟩)
    (c_law : PySem.W.codeIn K cd_law "law" = true)
    (k_law : PySem.W.keepIn K (.ref f_law) = true)
    (v_MOST_CARDS : PySem.W.nsIn K mainGlobals "MOST_CARDS" = some (some (.int 2000 tk_MOST_CARDS)))
    (z_abs : PySem.W.nsIn K mainGlobals "abs" = some none)
    (z_all : PySem.W.nsIn K mainGlobals "all" = some none)
    (z_any : PySem.W.nsIn K mainGlobals "any" = some none)
    (z_bool : PySem.W.nsIn K mainGlobals "bool" = some none)
    (z_dict : PySem.W.nsIn K mainGlobals "dict" = some none)
    (z_enumerate : PySem.W.nsIn K mainGlobals "enumerate" = some none)
    (z_int : PySem.W.nsIn K mainGlobals "int" = some none)
    (z_isinstance : PySem.W.nsIn K mainGlobals "isinstance" = some none)
    (z_iter : PySem.W.nsIn K mainGlobals "iter" = some none)
    (z_len : PySem.W.nsIn K mainGlobals "len" = some none)
    (z_list : PySem.W.nsIn K mainGlobals "list" = some none)
    (z_max : PySem.W.nsIn K mainGlobals "max" = some none)
    (z_min : PySem.W.nsIn K mainGlobals "min" = some none)
    (z_next : PySem.W.nsIn K mainGlobals "next" = some none)
    (z_range : PySem.W.nsIn K mainGlobals "range" = some none)
    (z_repr : PySem.W.nsIn K mainGlobals "repr" = some none)
    (z_reversed : PySem.W.nsIn K mainGlobals "reversed" = some none)
    (z_set : PySem.W.nsIn K mainGlobals "set" = some none)
    (z_sorted : PySem.W.nsIn K mainGlobals "sorted" = some none)
    (z_str : PySem.W.nsIn K mainGlobals "str" = some none)
    (z_sum : PySem.W.nsIn K mainGlobals "sum" = some none)
    (z_tuple : PySem.W.nsIn K mainGlobals "tuple" = some none)
    (z_zip : PySem.W.nsIn K mainGlobals "zip" = some none)
    : ∃ fd : FuncData, (∀ (s : Shared) (v : Value), BindsTo s fd ⟨[v], []⟩ [("_law_script", v)]) ∧ ∃ a : Adr, ∀ base : Heap, K.In base → base.Ns mainGlobals mg → FnG l.prog w K mg base (L2.CX l.prog w) 8 f0 fd ["_law_script"] (spM K a 1 [] ev_k10_law) := by
  have e := (PySem.W.mg_of X G a_law).symm.trans hfa
  have e2 : f_law = f0 := Value.ref.inj (Option.some.inj e)
  subst e2
  let a : Adr := adrOfs (C_Arrangement) (C_Arrangement + 0 + 2) (C_Arrangement + 0 + 3) (C_Arrangement + 0 + 4) (C_Arrangement + 0 + 5) (fun e => match e with | .base => C_CardError | .row => C_InvalidRow | .place => C_InvalidPlace | .number => C_InvalidNumber | .step => 0 | .word => C_InvalidWord | .code => 0 | .name => 0 | .command => 0 | .size => 0 | .parse => 0 | .limit => 0 | .undo => 0 | .redo => 0) (by omega)
  let fa : Fa := ⟨f__law_pool, f__law_take, f__law_row, f_is_integer, f_Arrangement_is_row, f_InvalidRow___init__, f_Arrangement___init__, f__law_disorders, f__law_neighbor, f_disorders_of, f_Arrangement_row, f_disorders, f_best_steps, f_best_neighbors, f_is_between, f_is_word, f_Arrangement___len__, f_InvalidWord___init__, f_performed, f_after_word, f_perform, f__law_refused, f_Arrangement___neg__, f_InvalidNumber___init__, f_Arrangement_sorted_row, f_farthest, f__law_farthest, f_Arrangement___eq__, f_law, r_Arrangement_is_row, r_Arrangement_row, r_Arrangement_sorted_row, tk_MOST_CARDS⟩
  have cl_Arrangement : Cls K C_Arrangement := ⟨pg_Arrangement, hd_Arrangement, po_Arrangement, sa_Arrangement⟩
  have T : Txt K mg a fa := ⟨fun _ => trivial, ⟨_, fun_mk (st := s__law_pool) l__law_pool c__law_pool k__law_pool⟩, PySem.W.mg_of X G a__law_pool, k__law_pool, ⟨_, fun_mk (st := s__law_take) l__law_take c__law_take k__law_take⟩, PySem.W.mg_of X G a__law_take, k__law_take, ⟨_, fun_mk (st := s__law_row) l__law_row c__law_row k__law_row⟩, PySem.W.mg_of X G a__law_row, k__law_row, ⟨_, fun_mk (st := s_is_integer) l_is_integer c_is_integer k_is_integer⟩, PySem.W.mg_of X G a_is_integer, k_is_integer, ⟨_, fun_mk (st := s_Arrangement_is_row) l_Arrangement_is_row c_Arrangement_is_row k_Arrangement_is_row⟩, ⟨a_Arrangement_is_row, ⟨_, e_Arrangement_is_row⟩, k_Arrangement_is_row⟩, ⟨_, fun_mk (st := s_InvalidRow___init__) l_InvalidRow___init__ c_InvalidRow___init__ k_InvalidRow___init__⟩, ⟨_, fun_mk (st := s_Arrangement___init__) l_Arrangement___init__ c_Arrangement___init__ k_Arrangement___init__⟩, ⟨mk_Arrangement, a_Arrangement___init__, i_Arrangement___init__, kc_Arrangement⟩, ⟨_, fun_mk (st := s__law_disorders) l__law_disorders c__law_disorders k__law_disorders⟩, PySem.W.mg_of X G a__law_disorders, k__law_disorders, ⟨_, fun_mk (st := s__law_neighbor) l__law_neighbor c__law_neighbor k__law_neighbor⟩, PySem.W.mg_of X G a__law_neighbor, k__law_neighbor, ⟨_, fun_mk (st := s_disorders_of) l_disorders_of c_disorders_of k_disorders_of⟩, PySem.W.mg_of X G a_disorders_of, k_disorders_of, ⟨_, fun_mk (st := s_Arrangement_row) l_Arrangement_row c_Arrangement_row k_Arrangement_row⟩, ⟨a_Arrangement_row, b_Arrangement_row, d_Arrangement_row, ⟨_, e_Arrangement_row⟩⟩, ⟨_, fun_mk (st := s_disorders) l_disorders c_disorders k_disorders⟩, PySem.W.mg_of X G a_disorders, k_disorders, ⟨_, fun_mk (st := s_best_steps) l_best_steps c_best_steps k_best_steps⟩, PySem.W.mg_of X G a_best_steps, k_best_steps, ⟨_, fun_mk (st := s_best_neighbors) l_best_neighbors c_best_neighbors k_best_neighbors⟩, PySem.W.mg_of X G a_best_neighbors, k_best_neighbors, ⟨_, fun_mk (st := s_is_between) l_is_between c_is_between k_is_between⟩, PySem.W.mg_of X G a_is_between, k_is_between, ⟨_, fun_mk (st := s_is_word) l_is_word c_is_word k_is_word⟩, PySem.W.mg_of X G a_is_word, k_is_word, ⟨_, fun_mk (st := s_Arrangement___len__) l_Arrangement___len__ c_Arrangement___len__ k_Arrangement___len__⟩, a_Arrangement___len__, i_Arrangement___len__, k_Arrangement___len__, ⟨_, fun_mk (st := s_InvalidWord___init__) l_InvalidWord___init__ c_InvalidWord___init__ k_InvalidWord___init__⟩, ⟨_, fun_mk (st := s_performed) l_performed c_performed k_performed⟩, PySem.W.mg_of X G a_performed, k_performed, ⟨_, fun_mk (st := s_after_word) l_after_word c_after_word k_after_word⟩, PySem.W.mg_of X G a_after_word, k_after_word, ⟨_, fun_mk (st := s_perform) l_perform c_perform k_perform⟩, PySem.W.mg_of X G a_perform, k_perform, ⟨_, fun_mk (st := s__law_refused) l__law_refused c__law_refused k__law_refused⟩, PySem.W.mg_of X G a__law_refused, k__law_refused, ⟨_, fun_mk (st := s_Arrangement___neg__) l_Arrangement___neg__ c_Arrangement___neg__ k_Arrangement___neg__⟩, a_Arrangement___neg__, i_Arrangement___neg__, k_Arrangement___neg__, ⟨_, fun_mk (st := s_InvalidNumber___init__) l_InvalidNumber___init__ c_InvalidNumber___init__ k_InvalidNumber___init__⟩, ⟨_, fun_mk (st := s_Arrangement_sorted_row) l_Arrangement_sorted_row c_Arrangement_sorted_row k_Arrangement_sorted_row⟩, ⟨a_Arrangement_sorted_row, ⟨_, e_Arrangement_sorted_row⟩, fi_Arrangement_sorted_row⟩, ⟨_, fun_mk (st := s_farthest) l_farthest c_farthest k_farthest⟩, PySem.W.mg_of X G a_farthest, k_farthest, ⟨_, fun_mk (st := s__law_farthest) l__law_farthest c__law_farthest k__law_farthest⟩, PySem.W.mg_of X G a__law_farthest, k__law_farthest, ⟨_, fun_mk (st := s_Arrangement___eq__) l_Arrangement___eq__ c_Arrangement___eq__ k_Arrangement___eq__⟩, a_Arrangement___eq__, i_Arrangement___eq__, k_Arrangement___eq__, ⟨_, fun_mk (st := s_law) l_law c_law k_law⟩, PySem.W.mg_of X G a_law, k_law, PySem.W.mg_of X G aC_Arrangement, cl_Arrangement, ⟨rd_Arrangement, ga_Arrangement⟩, ⟨cl_Arrangement, kc_of rd_Arrangement hd_Arrangement, oha_Arrangement, hn_, ht_, ohm_Arrangement⟩, no_Arrangement_cards, PySem.W.mg_of X G v_MOST_CARDS, PySem.W.mg_of X G aC_CardError, PySem.W.mg_of X G aC_InvalidNumber, PySem.W.mg_of X G aC_InvalidPlace, PySem.W.mg_of X G aC_InvalidRow, PySem.W.mg_of X G aC_InvalidWord, ⟨rd_CardError, gm_CardError⟩, vi_CardError, ⟨⟨_, _, _, _, _, _, _, _, _, _, _, _, _, _, _, xL_InvalidNumber, by rfl⟩, sa_InvalidNumber, eC_InvalidNumber, tC_InvalidNumber, kC_InvalidNumber⟩, ic_InvalidNumber, it_InvalidNumber, nv_InvalidNumber, ⟨⟨_, _, _, _, _, _, _, _, _, _, _, _, _, _, _, xL_InvalidRow, by rfl⟩, sa_InvalidRow, eC_InvalidRow, tC_InvalidRow, kC_InvalidRow⟩, ic_InvalidRow, it_InvalidRow, nv_InvalidRow, ⟨⟨_, _, _, _, _, _, _, _, _, _, _, _, _, _, _, xL_InvalidWord, by rfl⟩, sa_InvalidWord, eC_InvalidWord, tC_InvalidWord, kC_InvalidWord⟩, ic_InvalidWord, it_InvalidWord, nv_InvalidWord, ⟨xga_InvalidNumber, xgg_InvalidNumber, eC_InvalidNumber, xhd_InvalidNumber⟩, ⟨xga_InvalidNumber, xgg_InvalidNumber, eC_InvalidNumber, xhd_InvalidNumber, xha_InvalidNumber, hn_, ht_, xhm_InvalidNumber⟩, ⟨xga_InvalidWord, xgg_InvalidWord, eC_InvalidWord, xhd_InvalidWord⟩, ⟨xga_InvalidWord, xgg_InvalidWord, eC_InvalidWord, xhd_InvalidWord, xha_InvalidWord, hn_, ht_, xhm_InvalidWord⟩, ex_InvalidNumber_InvalidNumber, ex_InvalidPlace_InvalidWord, ex_InvalidRow_InvalidNumber, ex_InvalidRow_InvalidWord, ex_InvalidWord_InvalidWord, ki_InvalidWord_CardError⟩
  have n : Nm mg := ⟨PySem.W.mg_none_of X G z_abs, PySem.W.mg_none_of X G z_all, PySem.W.mg_none_of X G z_any, PySem.W.mg_none_of X G z_bool, PySem.W.mg_none_of X G z_dict, PySem.W.mg_none_of X G z_enumerate, PySem.W.mg_none_of X G z_int, PySem.W.mg_none_of X G z_isinstance, PySem.W.mg_none_of X G z_iter, PySem.W.mg_none_of X G z_len, PySem.W.mg_none_of X G z_list, PySem.W.mg_none_of X G z_max, PySem.W.mg_none_of X G z_min, PySem.W.mg_none_of X G z_next, PySem.W.mg_none_of X G z_range, PySem.W.mg_none_of X G z_repr, PySem.W.mg_none_of X G z_reversed, PySem.W.mg_none_of X G z_set, PySem.W.mg_none_of X G z_sorted, PySem.W.mg_none_of X G z_str, PySem.W.mg_none_of X G z_sum, PySem.W.mg_none_of X G z_tuple, PySem.W.mg_none_of X G z_zip⟩
  refine ⟨PySem.W.fnOf "law" "law" (defArgs s_law) (defBody s_law) (defScope s_law) .none kV_law dc_law pm_law an_law cd_law ct_law, fun s v => .of_eq rfl, a, fun base _ _ => ?_⟩
  have G__law_pool : FnE l.prog w K mg base (L2.CX l.prog w) 1 fa._law_pool ["_law_script", "_law_k"] (spM K a 2 [] ev_L_pool) := ok__law_pool T n 
  have G__law_take : FnE l.prog w K mg base (L2.CX l.prog w) 1 fa._law_take ["_law_pool_here", "_law_many"] (spM K a 2 [0] ev_L_take) := ok__law_take T n 
  have G__law_row : FnE l.prog w K mg base (L2.CX l.prog w) 2 fa._law_row ["_law_pool_here", "_law_size"] (spM K a 2 [0] ev_L_row) := ok__law_row T n G__law_take
  have G_is_integer : FnE l.prog w K mg base (L2.CX l.prog w) 1 fa.is_integer ["value"] (spM K a 1 [] ev_is_integer) := ok_is_integer T n 
  have G_Arrangement_is_row : FnE l.prog w K mg base (L2.CX l.prog w) 2 fa.Arrangement_is_row ["value"] (spM K a 1 [] ev_Arrangement_is_row) := ok_Arrangement_is_row T n G_is_integer
  have G_InvalidRow___init__ : FnE l.prog w K mg base CX0 1 fa.InvalidRow___init__ ["self", "value"] (sp_Er K (a.en .row) "value") := ok_InvalidRow___init__ T n 
  have G_Arrangement___init__ : FnE l.prog w K mg base (L2.CX l.prog w) 3 fa.Arrangement___init__ ["self", "row"] (spM K a 2 [0] ev_Arrangement___init__) := ok_Arrangement___init__ T n G_Arrangement_is_row G_InvalidRow___init__
  have G__law_disorders : FnE l.prog w K mg base (L2.CX l.prog w) 1 fa._law_disorders ["_law_row_here"] (spM K a 1 [] ev_L_disorders) := ok__law_disorders T n 
  have G__law_neighbor : FnE l.prog w K mg base (L2.CX l.prog w) 1 fa._law_neighbor ["_law_row_here", "_law_step"] (spM K a 2 [] ev_L_neighbor) := ok__law_neighbor T n 
  have G_disorders_of : FnE l.prog w K mg base (L2.CX l.prog w) 1 fa.disorders_of ["row"] (spM K a 1 [] ev_disorders_of) := ok_disorders_of T n 
  have G_Arrangement_row : FnE l.prog w K mg base (L2.CX l.prog w) 1 fa.Arrangement_row ["self"] (spM K a 1 [] ev_Arrangement_row) := ok_Arrangement_row T n 
  have G_disorders : FnE l.prog w K mg base (L2.CX l.prog w) 3 fa.disorders ["a"] (spM K a 1 [] ev_disorders) := ok_disorders T n G_disorders_of G_Arrangement_row
  have G_best_steps : FnE l.prog w K mg base (L2.CX l.prog w) 1 fa.best_steps ["row"] (spM K a 1 [] ev_best_steps) := ok_best_steps T n 
  have G_best_neighbors : FnE l.prog w K mg base (L2.CX l.prog w) 3 fa.best_neighbors ["a"] (spM K a 1 [] ev_best_neighbors) := ok_best_neighbors T n G_best_steps G_Arrangement_row
  have G_is_between : FnE l.prog w K mg base (L2.CX l.prog w) 2 fa.is_between ["value", "low", "high"] (spM K a 3 [] ev_is_between) := ok_is_between T n G_is_integer
  have G_is_word : FnE l.prog w K mg base (L2.CX l.prog w) 3 fa.is_word ["size", "value"] (spM K a 2 [] ev_is_word) := ok_is_word T n G_is_between
  have G_Arrangement___len__ : FnE l.prog w K mg base (L2.CX l.prog w) 1 fa.Arrangement___len__ ["self"] (spM K a 1 [] ev_Arrangement___len__) := ok_Arrangement___len__ T n 
  have G_InvalidWord___init__ : FnE l.prog w K mg base CX0 1 fa.InvalidWord___init__ ["self", "value"] (sp_Er K (a.en .word) "value") := ok_InvalidWord___init__ T n 
  have G_performed : FnE l.prog w K mg base (L2.CX l.prog w) 1 fa.performed ["row", "step"] (spM K a 2 [] ev_performed) := ok_performed T n 
  have G_after_word : FnE l.prog w K mg base (L2.CX l.prog w) 2 fa.after_word ["row", "word"] (spM K a 2 [] ev_after_word) := ok_after_word T n G_performed
  have G_perform : FnE l.prog w K mg base (L2.CX l.prog w) 5 fa.perform ["a", "word"] (spM K a 2 [] ev_perform) := ok_perform T n G_is_word G_Arrangement___len__ G_InvalidWord___init__ G_Arrangement___init__ G_after_word G_Arrangement_row
  have G__law_refused : FnGE l.prog w K mg base (L2.CX l.prog w) 6 fa._law_refused ["_law_a", "_law_word"] (spM K a 2 [] ev_L_refused_2) := ok__law_refused T n G_perform
  have G_Arrangement___neg__ : FnE l.prog w K mg base (L2.CX l.prog w) 5 fa.Arrangement___neg__ ["self"] (spM K a 1 [] ev_Arrangement___neg__) := ok_Arrangement___neg__ T n G_Arrangement___init__
  have G_InvalidNumber___init__ : FnE l.prog w K mg base CX0 1 fa.InvalidNumber___init__ ["self", "value"] (sp_Er K (a.en .number) "value") := ok_InvalidNumber___init__ T n 
  have G_Arrangement_sorted_row : FnE l.prog w K mg base (L2.CX l.prog w) 5 fa.Arrangement_sorted_row ["cls", "size"] (spM K a 2 [] ev_Arrangement_sorted_row) := ok_Arrangement_sorted_row T n G_is_between G_InvalidNumber___init__ G_Arrangement___init__
  have G_farthest : FnE l.prog w K mg base (L2.CX l.prog w) 6 fa.farthest ["size"] (spM K a 1 [] ev_farthest) := ok_farthest T n G_Arrangement___neg__ G_Arrangement_sorted_row
  have G__law_farthest : FnGE l.prog w K mg base (L2.CX l.prog w) 7 fa._law_farthest ["_law_size"] (spM K a 1 [] ev_L_farthest) := ok__law_farthest T n G_farthest G_Arrangement_row
  have G_Arrangement___eq__ : FnE l.prog w K mg base (L2.CX l.prog w) 1 fa.Arrangement___eq__ ["self", "other"] (spM K a 2 [] ev_Arrangement___eq__) := ok_Arrangement___eq__ T n 
  have hl := fun_mk (st := s_law) l_law c_law k_law
  exact law_ok (P := l.prog) (w := w) (base := base) T n hl G__law_pool G__law_row G__law_take G_Arrangement___init__ G__law_disorders G__law_neighbor G_disorders G_best_neighbors G_perform G_Arrangement_row G__law_refused G__law_farthest G_farthest G_Arrangement___eq__
theorem walk {l : PySem.W.OpenLaw} {q : Program} {loose : List Str} {XP : (Str → Option Value) → Heap → Prop} {YP : World → Heap → Prop} {d : DefRec} {K : Params → PySem.W.Frag} (hn : l.most = some 63) (hdf : d.params.defaults = [])
    (hY : ∀ (w : World) (h : Heap), YP w h → (K w.params).In h)
    (F : ∀ (w : World) (mg : Str → Option Value) (fa : Addr) (h : Heap), (K w.params).In h → h.Ns mainGlobals mg → mg d.name = some (.ref fa) →
      ∃ fd : FuncData, (∀ (s : Shared) (u : Value), BindsTo s fd ⟨[u], []⟩ [("_law_script", u)]) ∧ ∃ a : Adr, ∀ base : Heap, (K w.params).In base → base.Ns mainGlobals mg → FnG l.prog w (K w.params) mg base (L2.CX l.prog w) 8 fa fd ["_law_script"] (spM (K w.params) a 1 [] ev_k10_law)) :
    PySem.W.WalkO q loose XP YP l.row.toRowW d [] (fun f vs => PySem.call f vs) :=
  walk_ofG (n := 63) (k := 8) (x := "_law_script") (CX := fun w => L2.CX l.prog w) (sp := fun w => sp_lawX (K w.params)) hn (by decide) hdf ⟨rfl, by decide, by decide⟩ hY
    (fun w mg fa h KX G hm => by
      obtain ⟨fd, b, a, f⟩ := F w mg fa h KX G hm
      exact ⟨fd, b, fun base h1 h2 => (f base h1 h2).imp fun vs H Q E z => z a⟩) (fun _ _ a ns hl hb hS _ => law_end (k10_law_true ns hl hb) hS) fun _ _ _ _ _ z => by
      obtain ⟨_, _, _, _, _, _, _, _, _, _, _, _, z⟩ := z
      exact z.elim
end TCG
open PySem PySem.W PyProof.Rows
set_option maxRecDepth 100000 in
set_option maxHeartbeats 0 in
theorem PySem.Challenge.cw_turnedcards_k10_disorders_and_best_neigh_holds : PySem.Challenge.rw_turnedcards_k10_disorders_and_best_neigh.Holds := by
  w_on; o_law; k_head; (case hw => w_witness2)
  k_fill
  refine TCG.walk (l := PySem.Challenge.rw_turnedcards_k10_disorders_and_best_neigh) rfl rfl (fun w h Y => PySem.W.kIn_of Y) ?F
  case F =>
    intro w mg fa h KX G hmg
    refine' TCG.all_mk KX G hmg ?aC_Arrangement ?pg_Arrangement ?hd_Arrangement ?po_Arrangement ?sa_Arrangement ?mk_Arrangement ?kc_Arrangement ?rd_Arrangement ?ga_Arrangement ?oha_Arrangement ?ohm_Arrangement ?no_Arrangement_cards ?aC_CardError ?aC_InvalidNumber ?aC_InvalidPlace ?aC_InvalidRow ?aC_InvalidWord ?rd_CardError ?gm_CardError ?vi_CardError ?xL_InvalidNumber ?sa_InvalidNumber ?eC_InvalidNumber ?tC_InvalidNumber ?kC_InvalidNumber ?ic_InvalidNumber ?it_InvalidNumber ?nv_InvalidNumber ?xL_InvalidRow ?sa_InvalidRow ?eC_InvalidRow ?tC_InvalidRow ?kC_InvalidRow ?ic_InvalidRow ?it_InvalidRow ?nv_InvalidRow ?xL_InvalidWord ?sa_InvalidWord ?eC_InvalidWord ?tC_InvalidWord ?kC_InvalidWord ?ic_InvalidWord ?it_InvalidWord ?nv_InvalidWord ?hn_ ?ht_ ?xga_InvalidNumber ?xgg_InvalidNumber ?xhd_InvalidNumber ?xha_InvalidNumber ?xhm_InvalidNumber ?xga_InvalidWord ?xgg_InvalidWord ?xhd_InvalidWord ?xha_InvalidWord ?xhm_InvalidWord ?ex_InvalidNumber_InvalidNumber ?ex_InvalidPlace_InvalidWord ?ex_InvalidRow_InvalidNumber ?ex_InvalidRow_InvalidWord ?ex_InvalidWord_InvalidWord ?ki_InvalidWord_CardError ?a__law_pool ?l__law_pool ?c__law_pool ?k__law_pool ?a__law_take ?l__law_take ?c__law_take ?k__law_take ?a__law_row ?l__law_row ?c__law_row ?k__law_row ?a_is_integer ?l_is_integer ?c_is_integer ?k_is_integer ?a_Arrangement_is_row ?e_Arrangement_is_row ?l_Arrangement_is_row ?c_Arrangement_is_row ?k_Arrangement_is_row ?l_InvalidRow___init__ ?c_InvalidRow___init__ ?k_InvalidRow___init__ ?a_Arrangement___init__ ?i_Arrangement___init__ ?l_Arrangement___init__ ?c_Arrangement___init__ ?k_Arrangement___init__ ?a__law_disorders ?l__law_disorders ?c__law_disorders ?k__law_disorders ?a__law_neighbor ?l__law_neighbor ?c__law_neighbor ?k__law_neighbor ?a_disorders_of ?l_disorders_of ?c_disorders_of ?k_disorders_of ?a_Arrangement_row ?b_Arrangement_row ?d_Arrangement_row ?e_Arrangement_row ?l_Arrangement_row ?c_Arrangement_row ?k_Arrangement_row ?a_disorders ?l_disorders ?c_disorders ?k_disorders ?a_best_steps ?l_best_steps ?c_best_steps ?k_best_steps ?a_best_neighbors ?l_best_neighbors ?c_best_neighbors ?k_best_neighbors ?a_is_between ?l_is_between ?c_is_between ?k_is_between ?a_is_word ?l_is_word ?c_is_word ?k_is_word ?a_Arrangement___len__ ?i_Arrangement___len__ ?l_Arrangement___len__ ?c_Arrangement___len__ ?k_Arrangement___len__ ?l_InvalidWord___init__ ?c_InvalidWord___init__ ?k_InvalidWord___init__ ?a_performed ?l_performed ?c_performed ?k_performed ?a_after_word ?l_after_word ?c_after_word ?k_after_word ?a_perform ?l_perform ?c_perform ?k_perform ?a__law_refused ?l__law_refused ?c__law_refused ?k__law_refused ?a_Arrangement___neg__ ?i_Arrangement___neg__ ?l_Arrangement___neg__ ?c_Arrangement___neg__ ?k_Arrangement___neg__ ?l_InvalidNumber___init__ ?c_InvalidNumber___init__ ?k_InvalidNumber___init__ ?a_Arrangement_sorted_row ?e_Arrangement_sorted_row ?fi_Arrangement_sorted_row ?l_Arrangement_sorted_row ?c_Arrangement_sorted_row ?k_Arrangement_sorted_row ?a_farthest ?l_farthest ?c_farthest ?k_farthest ?a__law_farthest ?l__law_farthest ?c__law_farthest ?k__law_farthest ?a_Arrangement___eq__ ?i_Arrangement___eq__ ?l_Arrangement___eq__ ?c_Arrangement___eq__ ?k_Arrangement___eq__ ?a_law ?l_law ?c_law ?k_law ?v_MOST_CARDS ?z_abs ?z_all ?z_any ?z_bool ?z_dict ?z_enumerate ?z_int ?z_isinstance ?z_iter ?z_len ?z_list ?z_max ?z_min ?z_next ?z_range ?z_repr ?z_reversed ?z_set ?z_sorted ?z_str ?z_sum ?z_tuple ?z_zip
    (case aC_Arrangement => k_is)
    (case pg_Arrangement => k_is)
    (case hd_Arrangement => k_is)
    (case po_Arrangement => k_is)
    (case sa_Arrangement => k_is)
    (case mk_Arrangement => k_is)
    (case kc_Arrangement => k_is)
    (case rd_Arrangement => k_is)
    (case ga_Arrangement => k_is)
    (case oha_Arrangement => k_is)
    (case ohm_Arrangement => k_is)
    (case no_Arrangement_cards => k_is)
    (case aC_CardError => k_is)
    (case aC_InvalidNumber => k_is)
    (case aC_InvalidPlace => k_is)
    (case aC_InvalidRow => k_is)
    (case aC_InvalidWord => k_is)
    (case rd_CardError => k_is)
    (case gm_CardError => k_is)
    (case vi_CardError => k_is)
    (case xL_InvalidNumber => k_is)
    (case sa_InvalidNumber => k_is)
    (case eC_InvalidNumber => k_is)
    (case tC_InvalidNumber => k_is)
    (case kC_InvalidNumber => k_is)
    (case ic_InvalidNumber => k_is)
    (case it_InvalidNumber => k_is)
    (case nv_InvalidNumber => k_is)
    (case xL_InvalidRow => k_is)
    (case sa_InvalidRow => k_is)
    (case eC_InvalidRow => k_is)
    (case tC_InvalidRow => k_is)
    (case kC_InvalidRow => k_is)
    (case ic_InvalidRow => k_is)
    (case it_InvalidRow => k_is)
    (case nv_InvalidRow => k_is)
    (case xL_InvalidWord => k_is)
    (case sa_InvalidWord => k_is)
    (case eC_InvalidWord => k_is)
    (case tC_InvalidWord => k_is)
    (case kC_InvalidWord => k_is)
    (case ic_InvalidWord => k_is)
    (case it_InvalidWord => k_is)
    (case nv_InvalidWord => k_is)
    (case hn_ => k_is)
    (case ht_ => k_is)
    (case xga_InvalidNumber => k_is)
    (case xgg_InvalidNumber => k_is)
    (case xhd_InvalidNumber => k_is)
    (case xha_InvalidNumber => k_is)
    (case xhm_InvalidNumber => k_is)
    (case xga_InvalidWord => k_is)
    (case xgg_InvalidWord => k_is)
    (case xhd_InvalidWord => k_is)
    (case xha_InvalidWord => k_is)
    (case xhm_InvalidWord => k_is)
    (case ex_InvalidNumber_InvalidNumber => first | rfl | k_is)
    (case ex_InvalidPlace_InvalidWord => first | rfl | k_is)
    (case ex_InvalidRow_InvalidNumber => first | rfl | k_is)
    (case ex_InvalidRow_InvalidWord => first | rfl | k_is)
    (case ex_InvalidWord_InvalidWord => first | rfl | k_is)
    (case ki_InvalidWord_CardError => first | rfl | k_is)
    (case a__law_pool => k_is)
    (case l__law_pool => k_is)
    (case c__law_pool => k_is)
    (case k__law_pool => k_is)
    (case a__law_take => k_is)
    (case l__law_take => k_is)
    (case c__law_take => k_is)
    (case k__law_take => k_is)
    (case a__law_row => k_is)
    (case l__law_row => k_is)
    (case c__law_row => k_is)
    (case k__law_row => k_is)
    (case a_is_integer => k_is)
    (case l_is_integer => k_is)
    (case c_is_integer => k_is)
    (case k_is_integer => k_is)
    (case a_Arrangement_is_row => k_is)
    (case e_Arrangement_is_row => k_is)
    (case l_Arrangement_is_row => k_is)
    (case c_Arrangement_is_row => k_is)
    (case k_Arrangement_is_row => k_is)
    (case l_InvalidRow___init__ => k_is)
    (case c_InvalidRow___init__ => k_is)
    (case k_InvalidRow___init__ => k_is)
    (case a_Arrangement___init__ => k_is)
    (case i_Arrangement___init__ => k_is)
    (case l_Arrangement___init__ => k_is)
    (case c_Arrangement___init__ => k_is)
    (case k_Arrangement___init__ => k_is)
    (case a__law_disorders => k_is)
    (case l__law_disorders => k_is)
    (case c__law_disorders => k_is)
    (case k__law_disorders => k_is)
    (case a__law_neighbor => k_is)
    (case l__law_neighbor => k_is)
    (case c__law_neighbor => k_is)
    (case k__law_neighbor => k_is)
    (case a_disorders_of => k_is)
    (case l_disorders_of => k_is)
    (case c_disorders_of => k_is)
    (case k_disorders_of => k_is)
    (case a_Arrangement_row => k_is)
    (case b_Arrangement_row => k_is)
    (case d_Arrangement_row => k_is)
    (case e_Arrangement_row => k_is)
    (case l_Arrangement_row => k_is)
    (case c_Arrangement_row => k_is)
    (case k_Arrangement_row => k_is)
    (case a_disorders => k_is)
    (case l_disorders => k_is)
    (case c_disorders => k_is)
    (case k_disorders => k_is)
    (case a_best_steps => k_is)
    (case l_best_steps => k_is)
    (case c_best_steps => k_is)
    (case k_best_steps => k_is)
    (case a_best_neighbors => k_is)
    (case l_best_neighbors => k_is)
    (case c_best_neighbors => k_is)
    (case k_best_neighbors => k_is)
    (case a_is_between => k_is)
    (case l_is_between => k_is)
    (case c_is_between => k_is)
    (case k_is_between => k_is)
    (case a_is_word => k_is)
    (case l_is_word => k_is)
    (case c_is_word => k_is)
    (case k_is_word => k_is)
    (case a_Arrangement___len__ => k_is)
    (case i_Arrangement___len__ => k_is)
    (case l_Arrangement___len__ => k_is)
    (case c_Arrangement___len__ => k_is)
    (case k_Arrangement___len__ => k_is)
    (case l_InvalidWord___init__ => k_is)
    (case c_InvalidWord___init__ => k_is)
    (case k_InvalidWord___init__ => k_is)
    (case a_performed => k_is)
    (case l_performed => k_is)
    (case c_performed => k_is)
    (case k_performed => k_is)
    (case a_after_word => k_is)
    (case l_after_word => k_is)
    (case c_after_word => k_is)
    (case k_after_word => k_is)
    (case a_perform => k_is)
    (case l_perform => k_is)
    (case c_perform => k_is)
    (case k_perform => k_is)
    (case a__law_refused => k_is)
    (case l__law_refused => k_is)
    (case c__law_refused => k_is)
    (case k__law_refused => k_is)
    (case a_Arrangement___neg__ => k_is)
    (case i_Arrangement___neg__ => k_is)
    (case l_Arrangement___neg__ => k_is)
    (case c_Arrangement___neg__ => k_is)
    (case k_Arrangement___neg__ => k_is)
    (case l_InvalidNumber___init__ => k_is)
    (case c_InvalidNumber___init__ => k_is)
    (case k_InvalidNumber___init__ => k_is)
    (case a_Arrangement_sorted_row => k_is)
    (case e_Arrangement_sorted_row => k_is)
    (case fi_Arrangement_sorted_row => k_is)
    (case l_Arrangement_sorted_row => k_is)
    (case c_Arrangement_sorted_row => k_is)
    (case k_Arrangement_sorted_row => k_is)
    (case a_farthest => k_is)
    (case l_farthest => k_is)
    (case c_farthest => k_is)
    (case k_farthest => k_is)
    (case a__law_farthest => k_is)
    (case l__law_farthest => k_is)
    (case c__law_farthest => k_is)
    (case k__law_farthest => k_is)
    (case a_Arrangement___eq__ => k_is)
    (case i_Arrangement___eq__ => k_is)
    (case l_Arrangement___eq__ => k_is)
    (case c_Arrangement___eq__ => k_is)
    (case k_Arrangement___eq__ => k_is)
    (case a_law => k_is)
    (case l_law => k_is)
    (case c_law => k_is)
    (case k_law => k_is)
    (case v_MOST_CARDS => k_is)
    (case z_abs => k_is)
    (case z_all => k_is)
    (case z_any => k_is)
    (case z_bool => k_is)
    (case z_dict => k_is)
    (case z_enumerate => k_is)
    (case z_int => k_is)
    (case z_isinstance => k_is)
    (case z_iter => k_is)
    (case z_len => k_is)
    (case z_list => k_is)
    (case z_max => k_is)
    (case z_min => k_is)
    (case z_next => k_is)
    (case z_range => k_is)
    (case z_repr => k_is)
    (case z_reversed => k_is)
    (case z_set => k_is)
    (case z_sorted => k_is)
    (case z_str => k_is)
    (case z_sum => k_is)
    (case z_tuple => k_is)
    (case z_zip => k_is)

import PyProof.Rows.All
import Wide.All
import OpenK.AllK
import Wide.FinOn
import HandS.ForMost
import HandS.More
import HandS.Exc
import HandS.FStr
import HandS.IsInst
import HandS.Strs
import HandS.MakeKwOnly
import HandS.Style
import HandS.StrMore
import HandS.RaiseMore
import KE.KDictWalk
import KE.KUnpackStar
import KE.KRevSl
import HandS.TryOnly
import HandS.TupAny
import PySem.Challenge.RW_doorhouse_k27_whole_marks_by_names
set_option Elab.async false
set_option linter.all false
set_option maxRecDepth 100000
set_option maxHeartbeats 4000000
/-! Doorhouse k27: further rules of the hand layer. -/
namespace Dh
open PySem PySem.Spec PyProof.Rows L2

/-! ### code that is never come to -/
theorem pe_never {X : Cx} {e : Expr} : PE X e (fun _ _ _ => False) := ⟨fun _ _ _ _ _ _ h => h.elim⟩

/-! ### a def of the module by its promise -/
def Gf (P : Program) (w : World) (K : PySem.W.Frag) (mg : Str → Option Value) (base : Heap) (k : Nat) (x : Str) (ps : List Str) (sp : Sp) : Prop :=
  ∃ f fd, FnOk P w K mg base CX0 k f fd ps sp ∧ Binds K fd ps [] ∧ mg x = some (.ref f) ∧ PySem.W.keepIn K (.ref f) = true
/-- what stands behind the top of a def -/
def Dex (K : PySem.W.Frag) (mg : Str → Option Value) (x : Str) (st : Stmt) (ps : List Str) : Prop :=
  ∃ f fd, Fun K x x st f fd ∧ Binds K fd ps [] ∧ mg x = some (.ref f)
section
variable {P : Program} {w : World} {K : PySem.W.Frag} {mg : Str → Option Value} {base : Heap}
theorem Gf.mono {j k : Nat} {x : Str} {ps : List Str} {sp : Sp} (G : Gf P w K mg base j x ps sp) (h : j ≤ k) : Gf P w K mg base k x ps sp :=
  let ⟨f, fd, F, b, g, kp⟩ := G
  ⟨f, fd, F.mono h, b, g, kp⟩
theorem Gf.imp {k : Nat} {x : Str} {ps : List Str} {sp sp' : Sp} (G : Gf P w K mg base k x ps sp) (h : ∀ vs H Q E, sp' vs H Q E → sp vs H Q E) : Gf P w K mg base k x ps sp' :=
  let ⟨f, fd, F, b, g, kp⟩ := G
  ⟨f, fd, F.imp h, b, g, kp⟩
theorem gf_mk {x : Str} {st : Stmt} {N ps : List Str} {k : Nat} {sp : Sp} (D : Dex K mg x st ps) (S : FnScope N ps (defScope st)) (len : ∀ vs H Q E, sp vs H Q E → vs.length = ps.length)
    (hbody : ∀ (f : Addr) (cdv : Value) (A : Around) (outer : List Env) (s : Shared) (H : Hp) (vs : List V) (Q : VK) (E : XK), Room k (A.deeper (envOfC x (defScope st) s.heap.objs.size f cdv)) → sp vs H Q E →
      ∃ t, PSs (cxOf CX0 P w K mg base N x (defScope st) f cdv A outer s H E).nox (defBody st) t ∧ t { nx := fun _ H' => Q .non H', rt := Q } (start N vs) H) : Gf P w K mg base (k + 1) x ps sp := by
  obtain ⟨f, fd, F, b, g⟩ := D
  exact ⟨f, fd, F.ok S len (fun cdv A outer s H vs Q E hr h => hbody f cdv A outer s H vs Q E hr h), b, g, F.kp⟩
end
def tCallG (sp : Sp) (t : TA) : TE := fun σ H Q => t σ H fun vs H1 => sp vs H1 Q E0
section
variable {X : Cx} {k : Nat} {x : Str} {ps : List Str} {sp : Sp} {p pos : Pos} {e : Expr} {es : List Expr} {t : TA}
theorem pe_callG (G : Gf X.prog X.w X.K X.mg X.base k x ps sp) (hr : Room k X.A) (hg : Gl X x)
    (ha : PA X (e :: es) t) (hdb : (x == ("__debug__" : Str)) = false := by decide) (he : starEach (e :: es) X.env = (false, eval e X.env) :: starEach es X.env := by rfl) (hpl : (backTo pos (starEach es X.env)).any (·.1) = false := by rfl) :
    PE X (.Call (.Name x p) (e :: es) [] pos) (tCallG sp t) := by
  obtain ⟨f, fd, F, b, g, kp⟩ := G
  refine ⟨fun pins s σ H Q I h => ?_⟩
  refine (pe_call (dvs := []) (ds := []) F hr hg g kp b .nil pass0 ha hdb he hpl).run pins s σ H Q I ?_
  unfold tCall
  have e2 : (fun (vs : List V) (H1 : Hp) => sp (vs ++ []) H1 Q E0) = fun vs H1 => sp vs H1 Q E0 := by
    funext vs H1
    rw [List.append_nil]
  rw [e2]
  exact h
end

/-! ### a def of the module called by keywords alone -/
/-- perm: how the keywords' values come into the parameters' order -/
def Gk (P : Program) (w : World) (K : PySem.W.Frag) (mg : Str → Option Value) (base : Heap) (k : Nat) (x : Str) (ks : List Str) (rev : Bool) (sp : Sp) : Prop :=
  ∃ f fd ps, FnOk P w K mg base CX0 k f fd ps sp ∧ (∀ (s : Shared) (ws : List Value), ws.length = ks.length → BindsTo s fd ⟨[], ks.zip ws⟩ (ps.zip (if rev then ws.reverse else ws))) ∧ mg x = some (.ref f) ∧ PySem.W.keepIn K (.ref f) = true
/-- what stands behind the top of a def that is called by keywords -/
def Kex (K : PySem.W.Frag) (mg : Str → Option Value) (x : Str) (st : Stmt) (ps ks : List Str) (rev : Bool) : Prop :=
  ∃ f fd, Fun K x x st f fd ∧ (∀ (s : Shared) (ws : List Value), ws.length = ks.length → BindsTo s fd ⟨[], ks.zip ws⟩ (ps.zip (if rev then ws.reverse else ws))) ∧ mg x = some (.ref f)
theorem gk_mk {P : Program} {w : World} {K : PySem.W.Frag} {mg : Str → Option Value} {base : Heap} {x : Str} {st : Stmt} {N ps ks : List Str} {rev : Bool} {k : Nat} {sp : Sp} (D : Kex K mg x st ps ks rev) (S : FnScope N ps (defScope st)) (len : ∀ vs H Q E, sp vs H Q E → vs.length = ps.length)
    (hbody : ∀ (f : Addr) (cdv : Value) (A : Around) (outer : List Env) (s : Shared) (H : Hp) (vs : List V) (Q : VK) (E : XK), Room k (A.deeper (envOfC x (defScope st) s.heap.objs.size f cdv)) → sp vs H Q E →
      ∃ t, PSs (cxOf CX0 P w K mg base N x (defScope st) f cdv A outer s H E).nox (defBody st) t ∧ t { nx := fun _ H' => Q .non H', rt := Q } (start N vs) H) : Gk P w K mg base (k + 1) x ks rev sp := by
  obtain ⟨f, fd, F, b, g⟩ := D
  exact ⟨f, fd, ps, F.ok S len (fun cdv A outer s H vs Q E hr h => hbody f cdv A outer s H vs Q E hr h), b, g, F.kp⟩
def tCallK0 (sp : Sp) (rev : Bool) (n : Nat) (tk : TA) : TE := fun σ H Q => tk σ H fun zs H1 => zs.length = n ∧ sp (if rev then zs.reverse else zs) H1 Q E0
theorem pe_callGk {X : Cx} {k : Nat} {x : Str} {ks : List Str} {rev : Bool} {sp : Sp} {p pos : Pos} {kws : List Keyword} {tk : TA} (G : Gk X.prog X.w X.K X.mg X.base k x ks rev sp) (hr : Room k X.A) (hg : Gl X x) (hkw : PK X kws tk)
    (hall : (backToKw pos (keywordEach kws X.env)).all (·.1.isSome) = true := by rfl) (hks : (backToKw pos (keywordEach kws X.env)).filterMap (·.1) = ks := by rfl) (hdb : (x == ("__debug__" : Str)) = false := by decide)
    (hpl : ((backTo pos (starEach [] X.env)).any (·.1) || (backToKw pos (keywordEach kws X.env)).any (·.1.isNone)) = false := by rfl) :
    PE X (.Call (.Name x p) [] kws pos) (tCallK0 sp rev ks.length tk) := by
  obtain ⟨f, fd, ps, F, b, g, kp⟩ := G
  refine ⟨fun pins s σ H Q I h => ?_⟩
  refine wpAny_Call_Name_kw (ld_glob I hg g ?_ hdb)
  refine PySem.W.callWith_KW0 (h₀ := X.base) I.ok.mod.kin kp hall ?_ hpl
  refine thn (hkw.run pos pins s σ H _ I h) fun ws s2 ⟨zs, H2, I2, rz, l1, q2⟩ => ⟨I2.kIn, ?_⟩
  rw [hks]
  have r2 : Vals (if rev then zs.reverse else zs) (if rev then ws.reverse else ws) := by
    cases rev with
    | true => exact rz.reverse
    | false => exact rz
  refine wpAny_call (codeAny_mono (F.run X.A X.stack s2 H2 ⟨[], ks.zip ws⟩ _ _ Q E0 hr I2.env0 (b s2 ws (rz.length.symm.trans l1)) r2 q2) fun r s' hq => ?_)
  cases r with
  | error e => exact hq.elim
  | ok fl =>
    cases fl with
    | ret u => exact I2.after hq
    | next => exact False.elim hq
    | brk => exact False.elim hq
    | cont => exact False.elim hq

/-! ### a method of the class at C by its promise -/
def Mf (P : Program) (w : World) (K : PySem.W.Frag) (mg : Str → Option Value) (base : Heap) (C : Addr) (k : Nat) (m : Str) (ps : List Str) (sp : Sp) : Prop :=
  ∃ f fd, FnOk P w K mg base CX0 k f fd ps sp ∧ Binds K fd ps [] ∧ Meth K C m f
def Mex (K : PySem.W.Frag) (C : Addr) (m qual : Str) (st : Stmt) (ps : List Str) : Prop :=
  ∃ f fd, Fun K m qual st f fd ∧ Binds K fd ps [] ∧ Meth K C m f
section
variable {P : Program} {w : World} {K : PySem.W.Frag} {mg : Str → Option Value} {base : Heap} {C : Addr}
theorem mf_mk {m qual : Str} {st : Stmt} {N ps : List Str} {k : Nat} {sp : Sp} (D : Mex K C m qual st ps) (S : FnScope N ps (defScope st)) (len : ∀ vs H Q E, sp vs H Q E → vs.length = ps.length)
    (hbody : ∀ (f : Addr) (cdv : Value) (A : Around) (outer : List Env) (s : Shared) (H : Hp) (vs : List V) (Q : VK) (E : XK), Room k (A.deeper (envOfC qual (defScope st) s.heap.objs.size f cdv)) → sp vs H Q E →
      ∃ t, PSs (cxOf CX0 P w K mg base N qual (defScope st) f cdv A outer s H E).nox (defBody st) t ∧ t { nx := fun _ H' => Q .non H', rt := Q } (start N vs) H) : Mf P w K mg base C (k + 1) m ps sp := by
  obtain ⟨f, fd, F, b, g⟩ := D
  exact ⟨f, fd, F.ok S len (fun cdv A outer s H vs Q E hr h => hbody f cdv A outer s H vs Q E hr h), b, g⟩
end
def tMethG (C : Addr) (m : Str) (sp : Sp) (ta : TE) (t : TA) : TE := fun σ H Q => ta σ H fun x H1 => ∃ a dx fs, x = .ref a ∧ H1 a = some (.ins C dx fs) ∧ fs.lookup m = none ∧
  t σ H1 fun vs H2 => sp (x :: vs) H2 Q E0
section
variable {X : Cx} {k : Nat} {C : Addr} {m : Str} {ps : List Str} {sp : Sp} {apos pos : Pos} {e o : Expr} {es : List Expr} {ta : TE} {t : TA}
theorem pe_methG {pl : Sem Bool} (he : PE X o ta) (c : Cls X.K C) (G : Mf X.prog X.w X.K X.mg X.base C k m ps sp) (hr : Room k X.A) (ha : PA X (e :: es) t)
    (hst : starEach (e :: es) X.env = (false, eval e X.env) :: starEach es X.env := by rfl) (hpl : (backTo pos (starEach es X.env)).any (·.1) = false := by rfl)
    (ht : eval (.Call (.Attribute o m apos) (e :: es) [] pos) X.env = (do
      let ov ← eval o X.env
      standAt apos.atName
      let (f, first) ← holding [ov] (getMethod ov m pl)
      callWith pos f first (backTo pos (starEach (e :: es) X.env)) (backToKw pos (keywordEach [] X.env))) := by rfl) :
    PE X (.Call (.Attribute o m apos) (e :: es) [] pos) (tMethG C m sp ta t) := by
  obtain ⟨f, fd, F, b, g⟩ := G
  refine ⟨fun pins s σ H Q I h => ?_⟩
  refine (pe_meth (dvs := []) (ds := []) he c g F hr b .nil pass0 ha hst hpl ht).run pins s σ H Q I ?_
  unfold tMeth
  have e2 : ∀ x : V, (fun (vs : List V) (H2 : Hp) => sp (x :: (vs ++ [])) H2 Q E0) = fun vs H2 => sp (x :: vs) H2 Q E0 := by
    intro x
    funext vs H1
    rw [List.append_nil]
  simp only [e2]
  exact h
theorem pe_methG0 {pl : Sem Bool} (he : PE X o ta) (c : Cls X.K C) (G : Mf X.prog X.w X.K X.mg X.base C k m ps sp) (hr : Room k X.A)
    (ht : eval (.Call (.Attribute o m apos) [] [] pos) X.env = (do
      let ov ← eval o X.env
      standAt apos.atName
      let (f, first) ← holding [ov] (getMethod ov m pl)
      callWith pos f first (backTo pos (starEach [] X.env)) (backToKw pos (keywordEach [] X.env))) := by rfl) :
    PE X (.Call (.Attribute o m apos) [] [] pos) (tMethG C m sp ta tNil) := by
  obtain ⟨f, fd, F, b, g⟩ := G
  refine ⟨fun pins s σ H Q I h => ?_⟩
  exact (pe_meth0 (dvs := []) (ds := []) he c g F hr b .nil pass0 ht).run pins s σ H Q I h
end
end Dh
/-! walks of texts and dicts; further operators -/
namespace Dh
open PySem PySem.Spec PyProof.Rows L2

/-! ### walks of a text -/
theorem lc_str {x : Str} {g : TG} {tt : TT} {te : TE} {vs : List Nat} {σ : L2.St} {H1 : Hp} {D : Addr} {Qd : Hp → Prop} (Pv : Nat → Hp → Prop) (h0 : Pv 0 (upd H1 D (.lst [])))
    (hs : ∀ i c H, x.cps.toList[i]? = some c → Pv i H → g (.str ⟨#[c]⟩) (wipe σ vs) H fun σ2 H2 => wipe σ2 vs = wipe σ vs ∧ tt σ2 H2 fun b H3 =>
      if b = true then te σ2 H3 fun y H4 => ∃ acc, H4 D = some (.lst acc) ∧ acc.length < sizeLine ∧ Pv (i + 1) (upd H4 D (.lst (acc ++ [y]))) else Pv (i + 1) H3) (hd : ∀ H, Pv x.cps.toList.length H → Qd H) :
    ∃ W : Nat → Nat → Hp → Prop, (∃ m, W 0 m (upd H1 D (.lst []))) ∧ ∀ i m H, W i m H →
      ((Its x).stop i H ∧ Qd H) ∨ ((Its x).go i H ∧ ∃ Nx : Hp → Prop, (∀ H', Nx H' → ∃ m', m' < m ∧ W (i + 1) m' H') ∧ ∀ v H', (Its x).yld i H v H' → g v (wipe σ vs) H' fun σ2 H2 => wipe σ2 vs = wipe σ vs ∧ tt σ2 H2 fun b H3 =>
        if b = true then te σ2 H3 fun y H4 => ∃ acc, H4 D = some (.lst acc) ∧ acc.length < sizeLine ∧ Nx (upd H4 D (.lst (acc ++ [y]))) else Nx H3) := by
  refine ⟨fun i m H => m = x.cps.size - i ∧ i ≤ x.cps.size ∧ Pv i H, ⟨x.cps.size, by simp, Nat.zero_le _, h0⟩, ?_⟩
  rintro i m H ⟨rfl, hi, p⟩
  by_cases hlt : i < x.cps.size
  · refine .inr ⟨hlt, Pv (i + 1), fun H' p' => ⟨x.cps.size - (i + 1), by omega, rfl, hlt, p'⟩, fun v H' y => ?_⟩
    obtain ⟨e, c, hc, ev⟩ := y
    subst e ev
    exact hs i c _ (by simpa using hc) p
  · have e : i = x.cps.size := by omega
    subst e
    exact .inl ⟨Nat.le_refl _, hd H (by simpa using p)⟩
theorem for_str {x : Str} {g : TG} {tb : TS} {D : Ends} {σ : L2.St} {H : Hp} (Pv : Nat → L2.St → Hp → Prop) (h0 : Pv 0 σ H)
    (hs : ∀ i c σ H, x.cps.toList[i]? = some c → Pv i σ H → g (.str ⟨#[c]⟩) σ H fun σ2 H2 => tb { D with nx := Pv (i + 1), ct := Pv (i + 1), bk := D.nx } σ2 H2) (hd : ∀ σ H, Pv x.cps.toList.length σ H → D.nx σ H) :
    ∃ W : Nat → Nat → L2.St → Hp → Prop, (∃ m, W 0 m σ H) ∧ ∀ i m σ H, W i m σ H →
      ((Its x).stop i H ∧ D.nx σ H) ∨ ((Its x).go i H ∧ ∃ N : L2.St → Hp → Prop, (∀ σ' H', N σ' H' → ∃ m', m' < m ∧ W (i + 1) m' σ' H') ∧ ∀ v H', (Its x).yld i H v H' → g v σ H' fun σ2 H2 => tb { D with nx := N, ct := N, bk := D.nx } σ2 H2) := by
  refine ⟨fun i m σ H => m = x.cps.size - i ∧ i ≤ x.cps.size ∧ Pv i σ H, ⟨x.cps.size, by simp, Nat.zero_le _, h0⟩, ?_⟩
  rintro i m σ H ⟨rfl, hi, p⟩
  by_cases hlt : i < x.cps.size
  · refine .inr ⟨hlt, Pv (i + 1), fun σ' H' p' => ⟨x.cps.size - (i + 1), by omega, rfl, hlt, p'⟩, fun v H' y => ?_⟩
    obtain ⟨e, c, hc, ev⟩ := y
    subst e ev
    exact hs i c σ _ (by simpa using hc) p
  · have e : i = x.cps.size := by omega
    subst e
    exact .inl ⟨Nat.le_refl _, hd σ H (by simpa using p)⟩
/-! ### walks of a locked dict -/
theorem lc_keys {d : Addr} {o : Obj} {kvs : List (Key × V)} {g : TG} {tt : TT} {te : TE} {vs : List Nat} {σ : L2.St} {H1 : Hp} {D : Addr} {Qd : Hp → Prop} (Pv : Nat → Hp → Prop) (h0 : Pv 0 (upd H1 D (.lst [])))
    (hl : ∀ i H, Pv i H → H d = some (.frz o (.dK kvs)))
    (hs : ∀ i k v H, kvs[i]? = some (k, v) → Pv i H → g (kV k) (wipe σ vs) H fun σ2 H2 => wipe σ2 vs = wipe σ vs ∧ tt σ2 H2 fun b H3 =>
      if b = true then te σ2 H3 fun y H4 => ∃ acc, H4 D = some (.lst acc) ∧ acc.length < sizeLine ∧ Pv (i + 1) (upd H4 D (.lst (acc ++ [y]))) else Pv (i + 1) H3) (hd : ∀ H, Pv kvs.length H → Qd H) :
    ∃ W : Nat → Nat → Hp → Prop, (∃ m, W 0 m (upd H1 D (.lst []))) ∧ ∀ i m H, W i m H →
      ((Itk d o kvs).stop i H ∧ Qd H) ∨ ((Itk d o kvs).go i H ∧ ∃ Nx : Hp → Prop, (∀ H', Nx H' → ∃ m', m' < m ∧ W (i + 1) m' H') ∧ ∀ v H', (Itk d o kvs).yld i H v H' → g v (wipe σ vs) H' fun σ2 H2 => wipe σ2 vs = wipe σ vs ∧ tt σ2 H2 fun b H3 =>
        if b = true then te σ2 H3 fun y H4 => ∃ acc, H4 D = some (.lst acc) ∧ acc.length < sizeLine ∧ Nx (upd H4 D (.lst (acc ++ [y]))) else Nx H3) := by
  refine ⟨fun i m H => m = kvs.length - i ∧ i ≤ kvs.length ∧ Pv i H, ⟨kvs.length, by simp, Nat.zero_le _, h0⟩, ?_⟩
  rintro i m H ⟨rfl, hi, p⟩
  by_cases hlt : i < kvs.length
  · refine .inr ⟨⟨hl i H p, hlt⟩, Pv (i + 1), fun H' p' => ⟨kvs.length - (i + 1), by omega, rfl, hlt, p'⟩, fun v H' y => ?_⟩
    obtain ⟨e, k, u, hk, ev⟩ := y
    subst e ev
    exact hs i k u _ hk p
  · have e : i = kvs.length := by omega
    subst e
    exact .inl ⟨⟨hl _ H p, Nat.le_refl _⟩, hd H p⟩
theorem lc_vals {d : Addr} {o : Obj} {kvs : List (Key × V)} {g : TG} {tt : TT} {te : TE} {vs : List Nat} {σ : L2.St} {H1 : Hp} {D : Addr} {Qd : Hp → Prop} (Pv : Nat → Hp → Prop) (h0 : Pv 0 (upd H1 D (.lst [])))
    (hl : ∀ i H, Pv i H → H d = some (.frz o (.dK kvs)))
    (hs : ∀ i k v H, kvs[i]? = some (k, v) → Pv i H → g v (wipe σ vs) H fun σ2 H2 => wipe σ2 vs = wipe σ vs ∧ tt σ2 H2 fun b H3 =>
      if b = true then te σ2 H3 fun y H4 => ∃ acc, H4 D = some (.lst acc) ∧ acc.length < sizeLine ∧ Pv (i + 1) (upd H4 D (.lst (acc ++ [y]))) else Pv (i + 1) H3) (hd : ∀ H, Pv kvs.length H → Qd H) :
    ∃ W : Nat → Nat → Hp → Prop, (∃ m, W 0 m (upd H1 D (.lst []))) ∧ ∀ i m H, W i m H →
      ((Itd d o kvs).stop i H ∧ Qd H) ∨ ((Itd d o kvs).go i H ∧ ∃ Nx : Hp → Prop, (∀ H', Nx H' → ∃ m', m' < m ∧ W (i + 1) m' H') ∧ ∀ v H', (Itd d o kvs).yld i H v H' → g v (wipe σ vs) H' fun σ2 H2 => wipe σ2 vs = wipe σ vs ∧ tt σ2 H2 fun b H3 =>
        if b = true then te σ2 H3 fun y H4 => ∃ acc, H4 D = some (.lst acc) ∧ acc.length < sizeLine ∧ Nx (upd H4 D (.lst (acc ++ [y]))) else Nx H3) := by
  refine ⟨fun i m H => m = kvs.length - i ∧ i ≤ kvs.length ∧ Pv i H, ⟨kvs.length, by simp, Nat.zero_le _, h0⟩, ?_⟩
  rintro i m H ⟨rfl, hi, p⟩
  by_cases hlt : i < kvs.length
  · refine .inr ⟨⟨hl i H p, hlt⟩, Pv (i + 1), fun H' p' => ⟨kvs.length - (i + 1), by omega, rfl, hlt, p'⟩, fun v H' y => ?_⟩
    obtain ⟨e, k, hk⟩ := y
    subst e
    exact hs i k v _ hk p
  · have e : i = kvs.length := by omega
    subst e
    exact .inl ⟨⟨hl _ H p, Nat.le_refl _⟩, hd H p⟩

/-! ### d != e of two dicts with the same flat pairs -/
theorem op_ne_dict {X : Cx} (hu : X.A.units < cLine) : OpR X (compareOp .NotEq) (fun x y H Q => ∃ a b kvs, x = .ref a ∧ y = .ref b ∧ H a = some (.dK kvs) ∧ H b = some (.dK kvs) ∧ (kvs.map (·.1)).Nodup ∧ (∀ p ∈ kvs, flatB p.2 = true) ∧ Q (.bl false) H) := by
  intro pins s σ H x y v u Q I rx ry h
  obtain ⟨a, b, kvs, rfl, rfl, ea, eb, nd, fl, q⟩ := h
  obtain rfl : v = Value.ref a := rx
  obtain rfl : u = Value.ref b := ry
  obtain ⟨_, ya, va, ra, da⟩ := (show ObjOk X.prog X.w H s.heap a (.dK kvs) from I.hok a _ ea)
  obtain ⟨_, yb, vb, rb, db⟩ := (show ObjOk X.prog X.w H s.heap b (.dK kvs) from I.hok b _ eb)
  have hl : va.length = vb.length := ra.length.symm.trans rb.length
  exact PySem.W.keq_ne (knd := mixKind X.prog X.w) (r := true) ya yb da db hu (fun _ => hits_all rb ra fun p hp => ⟨val_nodup nd p hp, fl p hp⟩) (fin_bl I q (by simp [hl]))

/-! ### text * int -/
def repS (z : Str) (n : Nat) : Str := ⟨(List.replicate n z.cps).foldl (· ++ ·) #[]⟩
theorem op_mul_str {X : Cx} : OpR X (binaryOp .Mult) (fun x y H Q => ∃ (z : Str) (i : Int), x = .str z ∧ y = .int i ∧ 1 ≤ i ∧ i ≤ 1000 ∧ z.length ≤ 1000 ∧ Q (.str (if i = 1 then z else repS z i.toNat)) H) := by
  intro pins s σ H x y v u Q I rx ry h
  obtain ⟨z, i, rfl, rfl, h1, h2, h3, q⟩ := h
  obtain ⟨t, rfl⟩ := rx
  obtain ⟨t', rfl⟩ := ry
  have hn : ¬ i < 1 := by omega
  have hlen : z.length * i.toNat ≤ 1000 * 1000 := Nat.mul_le_mul h3 (by omega)
  refine PySem.P.mul_str ?_ ?_ ?_ ?_
  · have a : ¬ i < -(2 ^ 63 : Int) := by omega
    have b : ¬ i ≥ 2 ^ 63 := by omega
    rw [decide_eq_false a, decide_eq_false b]
    rfl
  · intro _ _ hgt
    have hpos : (0 : Int) < i := by omega
    have hm : (2 ^ 63 - 1) / (1000 : Int) ≤ (2 ^ 63 - 1) / i := by
      have e : (2 ^ 63 - 1 : Int) / 1000 * i ≤ 2 ^ 63 - 1 := by
        have : (2 ^ 63 - 1 : Int) / 1000 * i ≤ (2 ^ 63 - 1 : Int) / 1000 * 1000 := Int.mul_le_mul_of_nonneg_left (by omega) (by decide)
        have h4 : (2 ^ 63 - 1 : Int) / 1000 * 1000 ≤ 2 ^ 63 - 1 := by decide
        omega
      exact (Int.le_ediv_iff_mul_le hpos).mpr e
    have hk : (2 ^ 63 - 1 : Int) / 1000 = 9223372036854775 := by decide
    omega
  · intro _ _
    show decide (z.length * i.toNat > sizeLine) = false
    exact decide_eq_false (by rw [sizeLine_eq]; omega)
  · rw [if_neg hn]
    by_cases e : i = 1
    · subst e
      rw [if_pos (by simp)]
      rw [if_pos rfl] at q
      exact ⟨.str z, H, I, ⟨t, rfl⟩, q⟩
    · rw [if_neg e] at q
      by_cases e0 : z.length = 0
      · rw [if_pos (by simp [e0])]
        have hz : repS z i.toNat = z := by
          obtain ⟨⟨l⟩⟩ := z
          have hl : l = [] := by
            have : l.length = 0 := e0
            exact List.length_eq_zero_iff.mp this
          subst hl
          unfold repS
          generalize i.toNat = m
          have : ∀ (m : Nat) (acc : Array Nat), (List.replicate m (#[] : Array Nat)).foldl (· ++ ·) acc = acc := by
            intro m
            induction m with
            | zero => intro acc; rfl
            | succ m ih => intro acc; rw [List.replicate_succ, List.foldl_cons, ih]; simp
          rw [this]
        rw [hz] at q
        exact ⟨.str z, H, I, ⟨t, rfl⟩, q⟩
      · rw [if_neg (by simp [e, e0])]
        refine ⟨?_, .str _, H, I.tok _, ⟨_, rfl⟩, q⟩
        have hl : ∀ (m : Nat) (acc : Array Nat), ((List.replicate m z.cps).foldl (· ++ ·) acc).size = acc.size + m * z.cps.size := by
          intro m
          induction m with
          | zero => intro acc; simp
          | succ m ih => intro acc; rw [List.replicate_succ, List.foldl_cons, ih, Array.size_append, Nat.succ_mul]; omega
        show ((List.replicate i.toNat z.cps).foldl (· ++ ·) #[]).size ≤ sizeLine
        rw [hl, sizeLine_eq]
        have e2 : z.cps.size = z.length := rfl
        rw [e2, Nat.mul_comm]
        simp
        omega
end Dh
/-! a written dict of texts by texts -/
namespace Dh
open PySem PySem.Spec PyProof.Rows L2

/-- at d stands, in the written part, a dict of the texts kvs -/
def KW (K : PySem.W.Frag) (w : World) (d : Addr) (kvs : List (Str × Str)) : Prop :=
  ∃ es n, KDict K w d es n ∧ es.toList.map (fun e => (absV e.key, absV e.val)) = kvs.map (fun p => (some (V.str p.1), some (V.str p.2))) ∧ (kvs.map (·.1)).Nodup
theorem absV_str {v : Value} {x : Str} (h : absV v = some (.str x)) : ∃ t, v = .str x t := by
  cases v with
  | str y t =>
    have e : y = x := by
      have : some (V.str y) = some (V.str x) := h
      injection this with e
      injection e
    exact ⟨t, by rw [e]⟩
  | none => exact absurd h (by intro z; cases z)
  | bool _ => exact absurd h (by intro z; cases z)
  | int _ _ => exact absurd h (by intro z; cases z)
  | bytes _ _ => exact absurd h (by intro z; cases z)
  | float _ _ => exact absurd h (by intro z; cases z)
  | ref _ => exact absurd h (by intro z; cases z)
  | type _ => exact absurd h (by intro z; cases z)
  | builtin _ => exact absurd h (by intro z; cases z)
  | _ => exact absurd h (by intro z; cases z)
theorem kw_list : ∀ {l : List DictEntry} {kvs : List (Str × Str)}, l.map (fun e => (absV e.key, absV e.val)) = kvs.map (fun p => (some (V.str p.1), some (V.str p.2))) →
    Paired (fun (e : DictEntry) (p : Str × Str) => (∃ t, e.key = .str p.1 t) ∧ ∃ t, e.val = .str p.2 t) l kvs
  | [], [], _ => .nil
  | [], _ :: _, h => by simp at h
  | _ :: _, [], h => by simp at h
  | e :: l, p :: r, h => by
    rw [List.map_cons, List.map_cons] at h
    injection h with h1 h2
    injection h1 with a b
    exact .cons ⟨absV_str a, absV_str b⟩ (kw_list h2)
/-- the pairs as values -/
theorem kw_pairs {prog : Program} {w : World} : ∀ {l : List DictEntry} {kvs : List (Str × Str)}, Paired (fun (e : DictEntry) (p : Str × Str) => (∃ t, e.key = .str p.1 t) ∧ ∃ t, e.val = .str p.2 t) l kvs →
    ∃ us : List (Str × Value), Pairs (strKind prog w) l us ∧ us.map (·.1) = kvs.map (·.1) ∧ us.length = kvs.length ∧ ∀ (i : Nat) (p : Str × Str), kvs[i]? = some p → ∃ t, us[i]? = some (p.1, .str p.2 t)
  | [], [], _ => ⟨[], .nil, rfl, rfl, fun i p h => by simp at h⟩
  | e :: l, p :: r, h => by
    cases h with
    | cons a b =>
      obtain ⟨⟨t, hk⟩, u, hv⟩ := a
      obtain ⟨us, q1, q2, q3, q4⟩ := kw_pairs (prog := prog) (w := w) b
      refine ⟨(p.1, .str p.2 u) :: us, .cons (by rw [hk]; exact strKind_is prog w p.1 t) hv q1, by rw [List.map_cons, List.map_cons, q2], by rw [List.length_cons, List.length_cons, q3], fun i z hz => ?_⟩
      cases i with
      | zero =>
        simp at hz
        subst hz
        exact ⟨u, rfl⟩
      | succ i => exact q4 i z (by simpa using hz)
section
variable {X : Cx} {d : Addr} {kvs : List (Str × Str)}
theorem KW.at (D : KW X.K X.w d kvs) {h : Heap} (k : X.K.In h) : ∃ (us : List (Str × Value)) (n : Nat), h.DictAt (strKind X.prog X.w) d us n ∧ us.map (·.1) = kvs.map (·.1) ∧ us.length = kvs.length ∧ ∀ (i : Nat) (p : Str × Str), kvs[i]? = some p → ∃ t, us[i]? = some (p.1, .str p.2 t) := by
  obtain ⟨es, n, D, e, nd⟩ := D
  obtain ⟨us, q1, q2, q3, q4⟩ := kw_pairs (prog := X.prog) (w := X.w) (kw_list e)
  refine ⟨us, n, ⟨_, es, k _ _ D.at_, ⟨rfl, rfl, rfl⟩, rfl, fun e he => ?_, q1, by rw [q2]; exact nd⟩, q2, q3, q4⟩
  obtain ⟨x, t, e1, e2⟩ := D.lit.all e (Array.mem_toList_iff.mpr he)
  exact ⟨x, by rw [e1]; exact strKind_is X.prog X.w x t, e2⟩
theorem kw_find {K : PySem.W.Frag} {w : World} (D : KW K w d kvs) (z : Str) :
    PySem.W.nsIn K d z = some none ∧ (kvs.find? fun p => decide (p.1 = z)) = none ∨ ∃ p t, (kvs.find? fun p => decide (p.1 = z)) = some p ∧ PySem.W.nsIn K d z = some (some (.str p.2 t)) := by
  obtain ⟨es, n, D, e, nd⟩ := D
  have hp := kw_list e
  have key : ∀ (l : List DictEntry) (kvs : List (Str × Str)), Paired (fun (e : DictEntry) (p : Str × Str) => (∃ t, e.key = .str p.1 t) ∧ ∃ t, e.val = .str p.2 t) l kvs →
      (l.find? (·.key.isStr z) = none ∧ l.any (·.refKey) = false ∧ (kvs.find? fun p => decide (p.1 = z)) = none) ∨ ∃ e p t, l.find? (·.key.isStr z) = some e ∧ e.val = .str p.2 t ∧ (kvs.find? fun p => decide (p.1 = z)) = some p := by
    intro l kvs h
    induction h with
    | nil => exact .inl ⟨rfl, rfl, rfl⟩
    | @cons en p l r a b ih =>
      obtain ⟨⟨t, hk⟩, u, hv⟩ := a
      by_cases c : p.1 = z
      · refine .inr ⟨en, p, u, ?_, hv, ?_⟩
        · rw [List.find?_cons, hk]
          have : (Value.str p.1 t).isStr z = true := by
            rw [PySem.W.isStr_of, c]
            exact strKind_is (prog := default) (w := w) z t
          rw [this]
        · rw [List.find?_cons]
          simp [c]
      · have n1 : (Value.str p.1 t).isStr z = false := by
          cases q : (Value.str p.1 t).isStr z with
          | false => rfl
          | true =>
            rw [PySem.W.isStr_of] at q
            obtain ⟨t', e⟩ := Value.isStrOf_shape q
            injection e with e1 _
            exact absurd e1 c
        rcases ih with ⟨h1, h2, h3⟩ | ⟨e', p', t', h1, h2, h3⟩
        · refine .inl ⟨?_, ?_, ?_⟩
          · rw [List.find?_cons, hk, n1]
            exact h1
          · rw [List.any_cons, h2, Bool.or_false]
            show en.refKey = false
            unfold DictEntry.refKey
            rw [hk]
          · rw [List.find?_cons]
            simp [c]
            simpa using h3
        · refine .inr ⟨e', p', t', ?_, h2, ?_⟩
          · rw [List.find?_cons, hk, n1]
            exact h1
          · rw [List.find?_cons]
            simp [c]
            simpa using h3
  rcases key _ _ hp with ⟨h1, h2, h3⟩ | ⟨e', p, t, h1, h2, h3⟩
  · refine .inl ⟨?_, h3⟩
    unfold PySem.W.nsIn
    rw [D.at_]
    simp only [h1, h2]
    rfl
  · refine .inr ⟨p, t, h3, ?_⟩
    unfold PySem.W.nsIn
    rw [D.at_]
    simp only [h1, h2]
end
end Dh
/-! rules over a written dict of texts -/
namespace Dh
open PySem PySem.Spec PyProof.Rows L2

def kwGet (kvs : List (Str × Str)) (z : Str) : Option Str := (kvs.find? fun p => decide (p.1 = z)).map (·.2)
section
variable {X : Cx}
theorem op_in_kw : OpR X (compareOp .In) (fun x y H Q => ∃ (z : Str) (d : Addr) (kvs : List (Str × Str)), x = .str z ∧ y = .ref d ∧ KW X.K X.w d kvs ∧ Q (.bl (kwGet kvs z).isSome) H) := by
  intro pins s σ H x y v u Q I rx ry h
  obtain ⟨z, d, kvs, rfl, rfl, D, q⟩ := h
  obtain ⟨es, n, D', _⟩ := id D
  unfold kwGet at q
  rcases kw_find D z with ⟨e, e2⟩ | ⟨p, t, e2, e⟩
  · rw [e2] at q
    exact op_in_kd D' pins s σ H _ _ v u Q I rx ry ⟨z, none, rfl, rfl, e, q⟩
  · rw [e2] at q
    exact op_in_kd D' pins s σ H _ _ v u Q I rx ry ⟨z, _, rfl, rfl, e, q⟩
theorem op_notIn_kw : OpR X (compareOp .NotIn) (fun x y H Q => ∃ (z : Str) (d : Addr) (kvs : List (Str × Str)), x = .str z ∧ y = .ref d ∧ KW X.K X.w d kvs ∧ Q (.bl (!(kwGet kvs z).isSome)) H) := by
  intro pins s σ H x y v u Q I rx ry h
  obtain ⟨z, d, kvs, rfl, rfl, D, q⟩ := h
  obtain ⟨es, n, D', _⟩ := id D
  unfold kwGet at q
  rcases kw_find D z with ⟨e, e2⟩ | ⟨p, t, e2, e⟩
  · rw [e2] at q
    exact op_notIn_kd D' pins s σ H _ _ v u Q I rx ry ⟨z, none, rfl, rfl, e, q⟩
  · rw [e2] at q
    exact op_notIn_kd D' pins s σ H _ _ v u Q I rx ry ⟨z, _, rfl, rfl, e, q⟩
/-- WORDS[z] -/
theorem ix_kw : IxR X (fun x y H Q => ∃ (d : Addr) (z r : Str) (kvs : List (Str × Str)), x = .ref d ∧ y = .str z ∧ KW X.K X.w d kvs ∧ kwGet kvs z = some r ∧ Q (.str r) H) := by
  intro value slice pins s σ H x y v u Q I rx ry h hs
  obtain ⟨d, z, r, kvs, rfl, rfl, D, e, q⟩ := h
  obtain ⟨es, n, D', _⟩ := id D
  unfold kwGet at e
  rcases kw_find D z with ⟨_, e2⟩ | ⟨p, t, e2, e3⟩
  · rw [e2] at e
    cases e
  · rw [e2] at e
    have e4 : p.2 = r := Option.some.inj e
    subst e4
    exact ix_kdict value slice pins s σ H _ _ v u Q I rx ry ⟨d, z, .str p.2, rfl, rfl, ⟨es, n, _, D'.at_, D'.lit, e3, ⟨t, rfl⟩⟩, q⟩ hs
/-- TURNED.get(x, y) -/
def tKGet2 (K : PySem.W.Frag) (w : World) (td ty tx : TE) : TE := fun σ H Q => td σ H fun x H1 => ∃ d kvs, x = .ref d ∧ KW K w d kvs ∧ ty σ H1 fun y H2 => tx σ H2 fun z H3 => ∃ k : Str, y = .str k ∧ Q (match kwGet kvs k with | some r => .str r | none => z) H3
theorem KW.low {K : PySem.W.Frag} {w : World} {d : Addr} {kvs : List (Str × Str)} (D : KW K w d kvs) : (d == sysModules) = false := let ⟨_, _, D, _⟩ := D; D.low
theorem pe_kget2 {o e f : Expr} {apos cpos : Pos} {td ty tx : TE} (ho : PE X o td) (he : PE X e ty) (hf : PE X f tx) (m : M2 X o "get" apos e f cpos) : PE X (.Call (.Attribute o "get" apos) [e, f] [] cpos) (tKGet2 X.K X.w td ty tx) := by
  refine ⟨fun pins s σ H Q I h => ?_⟩
  refine wpAny_Call_method m.base m.few m.line PySem.F.plainAttrs_dict PySem.F.slot_dict_get PySem.F.type_dict_get (thn (ho.run pins s σ H _ I h) fun u s1 ⟨x, H1, I1, rx, d, kvs, ex, D, q1⟩ => ?_)
  subst ex
  obtain rfl : u = Value.ref d := rx
  obtain ⟨es, n, D', _⟩ := id D
  have hm := PySem.W.mapOf_K (prog := X.prog) (w := X.w) I1.kIn D'.at_ D'.lit
  refine ⟨hm.typeIs, hm.noDict, ?_⟩
  rw [m.trees]
  refine Calls.callWith_builtin rfl (Calls.evalArgs_plain (Calls.spliced_cons (thn (he.run pins s1 σ H1 _ I1 q1) fun iv s2 ⟨y, H2, I2, ry, q2⟩ =>
    Calls.spliced_cons (thn (hf.run pins s2 σ H2 _ I2 q2) fun fv s3 ⟨z, H3, I3, rz, k, ey, q3⟩ => Calls.spliced_nil ?_))))
  subst ey
  obtain ⟨t, rfl⟩ := ry
  have hm3 := PySem.W.mapOf_K (prog := X.prog) (w := X.w) I3.kIn D'.at_ D'.lit
  refine call_meetsIn PySem.F.slot_dict_get hm3.typeIs PySem.F.entry_dict_get (PySem.F.args_dict_get_3 _ _ _) (meets_dict_get_default (PySem.strKind X.prog X.w) d (strKind_is X.prog X.w k t) D'.low fv) ⟨_, hm3, ?_⟩
  unfold kwGet at q3
  rcases kw_find D k with ⟨e1, e2⟩ | ⟨p, t', e2, e1⟩
  · rw [e2] at q3
    rw [PySem.W.find_K D'.at_ e1]
    exact ⟨z, H3, I3.tok _, rz, q3⟩
  · rw [e2] at q3
    rw [PySem.W.find_K D'.at_ e1]
    exact ⟨.str p.2, H3, I3.tok _, ⟨t', rfl⟩, q3⟩

/-! ### for word in WORDS -/
def Itkw (d : Addr) (kvs : List (Str × Str)) : It := ⟨fun i _ => i < kvs.length, fun i H x H' => H' = H ∧ ∃ p, kvs[i]? = some p ∧ x = .str p.1, fun i _ => kvs.length ≤ i⟩
theorem turn_kw {P : Program} {w : World} {K : PySem.W.Frag} {tg : Expr} {d : Addr} {kvs : List (Str × Str)} {ep : Nat} (D : KW K w d kvs) (hep : ∀ es n, KDict K w d es n → n = ep) (it : Addr) :
    Turn P w K tg (Itkw d kvs) [it] it (fun i h => h.IsKeyIter it d i kvs.length ep) where
  mem := by simp
  obj := fun i h st b hb => by
    have e : b = it := by simpa using hb
    subst e
    obtain ⟨oi, e, c, dd⟩ := st
    exact ⟨oi, e, fun v z => by rw [dd] at z; cases z⟩
  keep := fun i h h' st k => st.at fun oi e => k it (by simp) oi e
  item := by
    intro X hP hw hK hc i pins s σ H E I hf st hg
    subst hP hw hK
    obtain ⟨f0, f1, f2, f3, f4, f5⟩ := hf it (by simp)
    obtain ⟨es, n, D', e, nd⟩ := id D
    have hn := hep _ _ D'
    subst hn
    obtain ⟨us, ep', hm, h1, h2, h3⟩ := D.at I.kIn
    have eep : ep' = n := by
      obtain ⟨o, es', ho, _, hd, _⟩ := hm
      rw [I.kIn _ _ D'.at_] at ho
      cases ho
      cases hd
      rfl
    subst eep
    obtain ⟨p, hp⟩ : ∃ p, kvs[i]? = some p := ⟨kvs[i], List.getElem?_eq_getElem hg⟩
    obtain ⟨t, hu⟩ := h3 i p hp
    rw [← h2] at st
    refine wpAny_pyNext_dict_item st hm hu fun key h' hkey st' sb => ?_
    have I1 : Inv X pins σ H { s with heap := h' } := I.turned (t' := s.toks) (fun b ob hb e => (sb.2 b hb).trans e) f0 f1 f3 f4 f5
    obtain ⟨oi, e, c, dd⟩ := id st'
    have hk2 : ∃ t', key = .str p.1 t' := Value.isStrOf_shape hkey
    refine ⟨key, rfl, go_of (s := { s with heap := h' }) e c dd (by decide) ⟨.str p.1, H, I1, hk2, ⟨rfl, p, hp, rfl⟩, ?_, fun b hb => (hf b hb).1⟩⟩
    show h'.IsKeyIter it d (i + 1) kvs.length _
    rw [← h2]
    exact st'
  done := by
    intro X hP hw hK hc i pins s σ H E I hf st hg
    subst hP hw hK
    obtain ⟨f0, f1, f2, f3, f4, f5⟩ := hf it (by simp)
    obtain ⟨es, n, D', e, nd⟩ := id D
    have hn := hep _ _ D'
    subst hn
    have hsz : es.size = kvs.length := by
      have := congrArg List.length e
      simpa using this
    exact next_key_end (I.ok.hd hc) st (I.kIn _ _ D'.at_) rfl hsz hg fun h' eb => ⟨rfl, I.turned (t' := s.toks) (fun b ob hb e => eb b ob hb e) f0 f1 f3 f4 f5⟩
  self := fun A i s Q E st h => wpAny_pyIter_keyiter st h
def iKW (K : PySem.W.Frag) (w : World) (td : TE) : TI := fun σ H R => td σ H fun x H1 => ∃ d kvs, x = .ref d ∧ KW K w d kvs ∧ R (Itkw d kvs) H1
theorem pi_kw {tg e : Expr} {td : TE} (he : PE X e td) : PI X tg e (iKW X.K X.w td) := by
  refine ⟨fun pins s σ H R I h => ?_⟩
  refine thn (he.run pins s σ H _ I h) fun u s1 ⟨x, H1, I1, rx, d, kvs, ex, D, q⟩ => ?_
  subst ex
  obtain rfl : u = Value.ref d := rx
  obtain ⟨es, n, D', e, nd⟩ := id D
  have hsz : es.size = kvs.length := by
    have := congrArg List.length e
    simpa using this
  refine iter_keys D'.low (I1.kIn _ _ D'.at_) ⟨rfl, rfl, rfl⟩ rfl (pi_one (tk := s1.toks) I1 _ (turn_kw (ep := n) D (fun es' n' D2 => ?_) _) ⟨_, Heap.get?_push_size _ rfl, rfl, ?_⟩ q)
  · have h1 := D2.at_
    rw [D'.at_] at h1
    cases h1
    rfl
  · rw [hsz] <;> rfl
theorem lc_kw {d : Addr} {kvs : List (Str × Str)} {g : TG} {tt : TT} {te : TE} {vs : List Nat} {σ : L2.St} {H1 : Hp} {D : Addr} {Qd : Hp → Prop} (Pv : Nat → Hp → Prop) (h0 : Pv 0 (upd H1 D (.lst [])))
    (hs : ∀ i p H, kvs[i]? = some p → Pv i H → g (.str p.1) (wipe σ vs) H fun σ2 H2 => wipe σ2 vs = wipe σ vs ∧ tt σ2 H2 fun b H3 =>
      if b = true then te σ2 H3 fun y H4 => ∃ acc, H4 D = some (.lst acc) ∧ acc.length < sizeLine ∧ Pv (i + 1) (upd H4 D (.lst (acc ++ [y]))) else Pv (i + 1) H3) (hd : ∀ H, Pv kvs.length H → Qd H) :
    ∃ W : Nat → Nat → Hp → Prop, (∃ m, W 0 m (upd H1 D (.lst []))) ∧ ∀ i m H, W i m H →
      ((Itkw d kvs).stop i H ∧ Qd H) ∨ ((Itkw d kvs).go i H ∧ ∃ Nx : Hp → Prop, (∀ H', Nx H' → ∃ m', m' < m ∧ W (i + 1) m' H') ∧ ∀ v H', (Itkw d kvs).yld i H v H' → g v (wipe σ vs) H' fun σ2 H2 => wipe σ2 vs = wipe σ vs ∧ tt σ2 H2 fun b H3 =>
        if b = true then te σ2 H3 fun y H4 => ∃ acc, H4 D = some (.lst acc) ∧ acc.length < sizeLine ∧ Nx (upd H4 D (.lst (acc ++ [y]))) else Nx H3) := by
  refine ⟨fun i m H => m = kvs.length - i ∧ i ≤ kvs.length ∧ Pv i H, ⟨kvs.length, by simp, Nat.zero_le _, h0⟩, ?_⟩
  rintro i m H ⟨rfl, hi, p⟩
  by_cases hlt : i < kvs.length
  · refine .inr ⟨hlt, Pv (i + 1), fun H' p' => ⟨kvs.length - (i + 1), by omega, rfl, hlt, p'⟩, fun v H' y => ?_⟩
    obtain ⟨e, q, hk, ev⟩ := y
    subst e ev
    exact hs i q _ hk p
  · have e : i = kvs.length := by omega
    subst e
    exact .inl ⟨Nat.le_refl _, hd H p⟩
end

/-! ### x in WORDS.values() -/
theorem nocontains_values : typeLookup (.type "dict_values") "__contains__" = pure none := by rw [typeLookup_type, builtinLookup_eq_fast]; kernel_rfl
theorem plain_ci : plainId "proto.contains_iter" = true := by decide +kernel
theorem entry_ci : entryFor table "proto.contains_iter" = some Builtin.«proto.contains_iter» := entryFor_of_tree (by kernel_rfl)
section
variable {prog : Program} {w : World} {A : Around} {R : Result → Shared → Prop}
theorem ci_loop {it d : Addr} {us : List (Str × Value)} {vals : List Str} {ep : Nat} {c : Str} {t : Tok} (hh : A.handled = none) (hne : it ≠ d) (hv : ∀ (i : Nat) (x : Str), vals[i]? = some x → ∃ k t, us[i]? = some (k, .str x t)) (hl : us.length = vals.length) :
    ∀ (k i : Nat) (s : Shared), vals.length - i = k → i ≤ vals.length → s.heap.IsValIter it d i us.length ep → s.heap.DictAt (PySem.strKind prog w) d us ep →
    (∀ h' tk, (∀ b o, b ≠ it → s.heap.get? b = some o → h'.get? b = some o) → R (.ok (.ret (.bool ((vals.drop i).any fun x => decide (x = c))))) { s with heap := h', toks := tk }) →
    codeAny (model prog w) A (.builtin "proto.contains_iter" ⟨[.ref it, .str c t], []⟩) R s := by
  intro k
  induction k with
  | zero =>
    intro i s hk hi hst hD hR
    refine codeAny_builtin entry_ci ?_
    rw [Around.under_plainId plain_ci _]
    show wpAny _ A.in1 (pyNext (.ref it) >>= _) _ _ s
    refine wpAny_bind (wpAny_pyNext_values_end (show A.in1.handled = none from hh) hst hD (List.getElem?_eq_none (by omega)) fun h' eb => ?_)
    refine wpAny_bind (wpAny_rule (wpAny_pure ?_))
    have := hR h' s.toks fun b o hb e => eb b o hb e
    rw [List.drop_of_length_le (by omega)] at this
    exact this
  | succ k ih =>
    intro i s hk hi hst hD hR
    have hlt : i < vals.length := by omega
    obtain ⟨ky, t', hu⟩ := hv i vals[i] (List.getElem?_eq_getElem hlt)
    refine codeAny_builtin entry_ci ?_
    rw [Around.under_plainId plain_ci _]
    show wpAny _ A.in1 (pyNext (.ref it) >>= _) _ _ s
    refine wpAny_bind (wpAny_pyNext_values_item hst hD hu fun h' st' sb => ?_)
    have hd : vals.drop i = vals[i] :: vals.drop (i + 1) := List.drop_eq_getElem_cons hlt
    refine wpAny_bind (wpAny_eqBool_str ?_)
    by_cases e : vals[i] = c
    · rw [if_pos (by simpa using e)]
      refine wpAny_bind (wpAny_rule (wpAny_pure ?_))
      have := hR h' s.toks fun b o hb e => (sb.2 b hb).trans e
      rw [hd, List.any_cons, decide_eq_true e, Bool.true_or] at this
      exact this
    · rw [if_neg (by simpa using e)]
      refine wpAny_pure ⟨plainId_quiet plain_ci _, ih (i + 1) _ (by omega) hlt st' ?_ fun h'' tk hk2 => ?_⟩
      · obtain ⟨o, es, ho, r⟩ := hD
        exact ⟨o, es, (sb.2 d (Ne.symm hne)).trans ho, r⟩
      · have := hR h'' tk fun b o hb e => hk2 b o hb ((sb.2 b hb).trans e)
        rw [hd, List.any_cons, decide_eq_false e, Bool.false_or] at this
        exact this
end
def tInVals (K : PySem.W.Frag) (w : World) (ti td : TE) : TE := fun σ H Q => ti σ H fun x H1 => td σ H1 fun y H2 => ∃ (c : Str) (d : Addr) (kvs : List (Str × Str)), x = .str c ∧ y = .ref d ∧ KW K w d kvs ∧ Q (.bl ((kvs.map (·.2)).any fun z => decide (z = c))) H2
theorem pc_inVals {X : Cx} {i o : Expr} {ti td : TE} {apos cpos : Pos} (hc : X.calm = true) (hi : PE X i ti) (ho : PE X o td) (hbase : attributeBase o "values" X.env (eval o X.env) = eval o X.env := by rfl) (hline : (apos.endLine == cpos.line) = true := by rfl) :
    PC X .In i (.Call (.Attribute o "values" apos) [] [] cpos) (tInVals X.K X.w ti td) := by
  refine ⟨fun pins s σ H Q I h => ?_⟩
  refine thn (hi.run pins s σ H _ I h) fun v s0 ⟨x, H0, I0, rx, q0⟩ => ?_
  refine wpAny_Call_method (T := "dict") (id := "dict.values") hbase rfl hline F.plainAttrs_dict F.slot_dict_values F.type_dict_values (thn (ho.run pins s0 σ H0 _ I0 q0) fun u s1 ⟨y, H1, I1, ry, c, d, kvs, ex, ey, D, q⟩ => ?_)
  subst ex ey
  obtain rfl : u = Value.ref d := ry
  obtain ⟨t, rfl⟩ := rx
  obtain ⟨us, ep, hm, h1, h2, h3⟩ := D.at I1.kIn
  refine ⟨hm.dictOf.typeIs, hm.dictOf.mapOf.noDict, ?_⟩
  have I2 : Inv X pins σ H1 { s1 with heap := s1.heap.push { cls := .type "dict_values", data := .fields #[.ref d] } } := I1.kept (t' := s1.toks) fun b ob q => Heap.get?_push_of_some _ q
  have hview : (s1.heap.push { cls := .type "dict_values", data := .fields #[.ref d] }).IsValuesView s1.heap.objs.size d := ⟨_, Heap.get?_push_size _ rfl, rfl, rfl⟩
  have hT : ({ s1 with heap := s1.heap.push { cls := .type "dict_values", data := .fields #[.ref d] } } : Shared).TypeIs (.ref s1.heap.objs.size) "dict_values" := ⟨_, Heap.get?_push_size _ rfl, rfl⟩
  have hsz : d < s1.heap.objs.size := hm.lt_size
  have fin : wpAny (model X.prog X.w) X.A (compareOp .In (.str c t) (.ref s1.heap.objs.size)) (EP X pins σ Q) X.xe { s1 with heap := s1.heap.push { cls := .type "dict_values", data := .fields #[.ref d] } } := by
    show wpAny _ _ (do return Value.bool (← contains (.ref s1.heap.objs.size) (.str c t)) : Sem Value) _ _ _
    refine wpAny_bind ?_
    unfold contains
    refine wpAny_holding ?_
    refine wpAny_bind (wpAny_specialOf hT nocontains_values ?_)
    show wpAny _ _ (if ((none : Option Value) == some Value.none) = true then _ else _) _ _ _
    rw [if_neg (by decide)]
    refine wpAny_bind (wpAny_callSpecialUnlessNone?_none hT nocontains_values ?_)
    refine wpAny_bind (wpAny_rule ?_)
    refine wpAny_bind (wpAny_tryCatch (wpAny_pyIter_values (d := d) (knd := PySem.strKind X.prog X.w) hview (hm.push _) ?_))
    refine wpAny_bind (wpAny_runValue (ci_loop (R := fun r s' => match r with | .ok (.ret v) => _ | .ok _ => False | .error e => _) (vals := kvs.map (·.2)) (us := us) (ep := ep) (I.ok.hd hc) (Ne.symm (Nat.ne_of_lt (Nat.lt_trans hsz (by rw [Heap.size_push]; exact Nat.lt_succ_self _)))) (fun i x hx => ?_) (by rw [h2, List.length_map]) _ 0 _ rfl (Nat.zero_le _) ⟨_, Heap.get?_push_size _ rfl, rfl, rfl⟩ ((hm.push _).push _) fun h' tk kk => ?_))
    · rw [List.getElem?_map] at hx
      cases e : kvs[i]? with
      | none => rw [e] at hx; cases hx
      | some p =>
        rw [e] at hx
        have ep2 : p.2 = x := Option.some.inj hx
        subst ep2
        obtain ⟨t2, hu⟩ := h3 i p e
        exact ⟨_, t2, hu⟩
    · refine wpAny_pure (wpAny_pure ⟨.bl _, H1, I2.kept (t' := tk) (h' := h') fun b ob e => kk b ob (Nat.ne_of_lt ?_) (Heap.get?_push_of_some _ e), rfl, ?_⟩)
      · exact Heap.lt_size e
      · rw [List.drop_zero]
        exact q
  show wpAny _ _ (callWith cpos (.builtin "dict.values") [.ref d] [] []) _ X.xe s1
  exact method_meetsIn F.slot_dict_values F.entry_dict_values rfl (PySem.evalArgs_none ⟨rfl, hm.dictOf.typeIs, F.args_dict_values_1 _, _, meets_dict_values (PySem.strKind X.prog X.w) d D.low, ⟨us, hm.dictOf⟩, fin⟩)
end Dh
/-! t[::-1] of a tuple; a star in a target -/
namespace Dh
open PySem PySem.Spec PyProof.Rows L2

section
variable {prog : Program} {w : World} {A : Around} {E : Value → Shared → Prop} {s : Shared}
theorem sliceApplied_rev {sl : Addr} {vs : Value} {n : Nat} {Q : Int × Int × Nat → Shared → Prop} (hs : s.heap.IsSliceOf sl .none .none vs) (ps : IsPart vs (some (-1)))
    (h : Q ((n : Int) - 1, -1, n) s) : wpAny (model prog w) A (Builtin.Slice.sliceApplied (.ref sl) (pure (n : Int))) Q E s := by
  obtain ⟨os, hos, hcs, hds⟩ := id hs
  unfold Builtin.Slice.sliceApplied Builtin.Slice.sliceFields
  refine wpAny_bind (wpAny_bind (wpAny_field hos hds (x := .none) rfl (wpAny_bind (wpAny_field hos hds (x := .none) rfl (wpAny_bind (wpAny_field hos hds (x := vs) rfl (wpAny_pure ?_)))))))
  refine wpAny_bind (HT.slicePart_ ps ?_)
  show wpAny _ _ (if ((-1 : Int) == 0) = true then _ else _) _ _ s
  rw [if_neg (by decide)]
  refine wpAny_bind (slicePart_none (wpAny_bind (slicePart_none (wpAny_bind (wpAny_pure ?_)))))
  show wpAny _ _ (pure ((n : Int) - 1, (-1 : Int), Builtin.Slice.slicePlaces ((n : Int) - 1) (-1) (-1))) _ _ s
  have e : Builtin.Slice.slicePlaces ((n : Int) - 1) (-1) (-1) = n := by
    unfold Builtin.Slice.slicePlaces
    rw [if_neg (by decide)]
    by_cases h : ((n : Int) - 1) > -1
    · rw [if_pos h]
      have : ((n : Int) - 1 - -1 - 1) / (- -1) = (n : Int) - 1 := by
        rw [show (- -1 : Int) = 1 by decide, Int.ediv_one]
        omega
      rw [this]
      omega
    · rw [if_neg h]
      omega
  rw [e]
  exact wpAny_pure h
theorem pick_rev (xs : Array Value) : ((List.range xs.size).filterMap fun (m : Nat) => xs[(((xs.size : Int) - 1) + (m : Int) * (-1)).toNat]?).toArray = xs.toList.reverse.toArray := by
  have e : ((List.range xs.size).filterMap fun (m : Nat) => xs[(((xs.size : Int) - 1) + (m : Int) * (-1)).toNat]?) = ((List.range xs.size).map (fun k => xs.size - 1 - k)).filterMap (xs[·]?) := by
    rw [List.filterMap_map]
    have key : ∀ l : List Nat, (∀ m ∈ l, m < xs.size) → (l.filterMap fun (m : Nat) => xs[(((xs.size : Int) - 1) + (m : Int) * (-1)).toNat]?) = l.filterMap ((fun x => xs[x]?) ∘ fun k => xs.size - 1 - k) := by
      intro l
      induction l with
      | nil => intro _; rfl
      | cons m r ih =>
        intro hm
        have h1 := hm m List.mem_cons_self
        have e1 : (((xs.size : Int) - 1) + (m : Int) * (-1)).toNat = xs.size - 1 - m := by omega
        rw [List.filterMap_cons, List.filterMap_cons, ih fun k hk => hm k (List.mem_cons_of_mem _ hk), e1]
        rfl
    exact key _ fun m hm => List.mem_range.mp hm
  rw [e, PySem.W.krv_range, List.filterMap_reverse, PySem.W.krv_all]
theorem getItem_tuple_rev {t sl : Addr} {items : Array Value} {vs : Value} {Q : Value → Shared → Prop} (ht : IsTup s.heap t items) (hs : s.heap.IsSliceOf sl .none .none vs) (ps : IsPart vs (some (-1)))
    (h : Q (.ref s.heap.objs.size) { s with heap := s.heap.push { cls := .type "tuple", data := .seq items.toList.reverse.toArray } })
    (hsz : items.size ≤ sizeLine) : wpAny (model prog w) A (getItem (.ref t) (.ref sl)) Q E s := by
  have htake : sizeOk (.seq items.toList.reverse.toArray) := by
    show items.toList.reverse.toArray.size ≤ sizeLine
    rw [List.size_toArray, List.length_reverse, Array.length_toList]
    exact hsz
  obtain ⟨os, hos, hcs, hds⟩ := id hs
  have hTs : s.TypeIs (.ref sl) "slice" := ⟨os, hos, hcs⟩
  unfold getItem
  try with_reducible refine wpAny_holding ?_
  first | refine wpAny_bind (wpAny_pure ?_) | skip
  refine wpAny_bind (wpAny_sequenceKey ht.typeIs (by decide) ?_)
  refine wpAny_bind (wpAny_callSpecial?_slot (name := Str.ofString "__getitem__") ht.typeIs PyProof.Rows.slot_tuple_getitem
    (wpAny_call_entry PyProof.Rows.slot_tuple_getitem ht.typeIs entry_tuple_getitem ?_ (args_tuple_getitem _ _)))
  show wpAny _ _ (Builtin.Tuple.tupleItemsOf (.ref t) >>= _) _ _ s
  refine wpAny_bind (tupleItemsOf_ ht ?_)
  refine wpAny_bind (wpAny_typeOf hTs ?_)
  rw [if_pos (by decide)]
  refine wpAny_bind (sliceApplied_rev hs ps ?_)
  have hno : ¬ ((((items.size : Int) - 1 == 0) && ((-1 : Int) == 1) && (items.size == items.size)) = true) := by
    rw [show ((-1 : Int) == 1) = false by decide]
    simp
  show wpAny _ _ (if (((items.size : Int) - 1 == 0) && ((-1 : Int) == 1) && (items.size == items.size)) = true then _ else _) _ _ s
  rw [if_neg hno, pick_rev]
  first
    | exact wpAny_bind (m := Builtin.Tuple.tupleExact _) (wpAny_newObj_type (wpAny_pure ⟨_, rfl, wpAny_pure h⟩) htake)
    | exact wpAny_bind (m := Builtin.Tuple.tupleExact _) (wpAny_newObj_type (wpAny_bind (wpAny_pure (wpAny_pure ⟨_, rfl, wpAny_pure h⟩))) htake)
    | exact wpAny_bind (wpAny_bind (m := Builtin.Tuple.tupleExact _) (wpAny_newObj_type (wpAny_pure (wpAny_pure ⟨_, rfl, wpAny_pure h⟩)) htake))
    | exact wpAny_bind (wpAny_bind (m := Builtin.Tuple.tupleExact _) (wpAny_newObj_type (wpAny_pure ⟨_, rfl, wpAny_pure h⟩) htake))
end
def tRevT (K : PySem.W.Frag) (te : TE) : TE := fun σ H Q => te σ H fun x H1 => ∃ a xs, x = .ref a ∧ SqT K H1 a xs ∧ ∀ p, H1 p = none → Q (.ref p) (upd H1 p (.tup xs.reverse))
theorem pe_revT {X : Cx} {e : Expr} {te : TE} {k : Nat} {p1 p2 p3 pos : Pos} (he : PE X e te) : PE X (.Subscript e (.Slice none none (some (.UnaryOp .USub (.Constant (.int 1) k p1) p2)) p3) pos) (tRevT X.K te) := by
  refine ⟨fun pins s σ H Q I h => ?_⟩
  refine Subscript_ (thn (he.run pins s σ H _ I h) fun v s1 ⟨x, H1, I1, r1, q1⟩ => ?_)
  obtain ⟨a, xs, ex, hx, q⟩ := q1
  subst ex
  cases r1
  have hst : PO X (some (.UnaryOp .USub (.Constant (.int 1) k p1) p2)) (tPart (tUn (rU fun i => .int (-i)) (tC (.int 1)))) := po_some (pe_un un_neg pe_int)
  refine wpAny_Slice (thn (po_none.run pins s1 σ H1 (fun o H2 => o = none ∧ H2 = H1) I1 ⟨rfl, rfl⟩) fun vl s2 ⟨l, H2, I2, pl, el, e2⟩ => ?_)
  subst el e2
  cases pl
  refine thn (po_none.run pins s2 σ H2 (fun o H3 => o = none ∧ H3 = H2) I2 ⟨rfl, rfl⟩) fun vu s3 ⟨u, H3, I3, pu, eu, e3⟩ => ?_
  subst eu e3
  cases pu
  refine thn (hst.run pins s3 σ H3 (fun o H4 => o = some (-1) ∧ H4 = H3) I3 ⟨1, rfl, -1, rfl, rfl, rfl⟩) fun vs s4 ⟨o, H4, I4, ps, eo, e4⟩ => ?_
  subst eo e4
  have I5 : Inv X pins σ H4 { s4 with heap := s4.heap.push { cls := .type "slice", data := .fields #[.none, .none, vs] } } := I4.kept (t' := s4.toks) fun b ob q => Heap.get?_push_of_some _ q
  obtain ⟨its, r, ht, hz⟩ := I5.tuple hx
  have hlen := r.length
  show wpAny (model X.prog X.w) X.A (subscriptTail e (.Slice none none (some (.UnaryOp .USub (.Constant (.int 1) k p1) p2)) p3) (.ref a) (.ref s4.heap.objs.size)) (EP X pins σ Q) X.xe { s4 with heap := s4.heap.push { cls := .type "slice", data := .fields #[.none, .none, vs] } }
  refine tail_any (ops := [.ref a, .ref s4.heap.objs.size]) ht.typeIs (PyProof.Rows.slot_tuple_getitem.lookup) ?_ (by with_unfolding_all rfl)
  refine getItem_tuple_rev ht (Heap.IsSliceOf.new _ .none .none vs) ps ?_ (by rw [List.size_toArray]; omega)
  refine ⟨.ref _, _, I5.laid (t' := s4.toks) (o := .tup xs.reverse) (fun b ob q => Heap.get?_push_of_some _ q) (Nat.le_refl _) ?_, rfl, q _ (I5.hok.fresh (Nat.le_refl _))⟩
  exact ⟨by rw [List.length_reverse]; exact hz, _, r.reverse, ⟨_, Heap.get?_push_size _ rfl, rfl, _, rfl⟩⟩

/-! ### a star in the targets -/
section
variable {X : Cx}
theorem pgs_star {e : Expr} {es : List Expr} {p : Pos} {t : TG} {u : TGs} (h1 : PG X e t) (h2 : PGs X es u)
    (hs : (assignEach (.Starred e p :: es) X.env).map (·.2) = assign e X.env :: (assignEach es X.env).map (·.2) := by rfl) : PGs X (.Starred e p :: es) (gCons t u) := by
  refine ⟨fun pins s σ H vs us Q I r h => ?_⟩
  obtain ⟨v, vr, e1, h⟩ := h
  subst e1
  cases r with
  | cons r rr =>
    rw [hs]
    refine assignInOrder_cons (thn (h1.run pins s σ H _ _ _ I r h) fun _ s1 ⟨σ1, H1, I1, q1⟩ => ?_)
    exact h2.run pins s1 σ1 H1 _ _ Q I1 rr q1
def gStarL (K : PySem.W.Frag) (n i : Nat) (t : TGs) : TG := fun v σ H Q => ∃ a xs, v = .ref a ∧ SqL K H a xs ∧ n ≤ xs.length + 1 ∧ xs.length ≤ 16384 ∧
  ∀ D, H D = none → t (xs.take i ++ [.ref D] ++ (xs.drop i).drop (xs.length + 1 - n)) σ (upd H D (.lst ((xs.drop i).take (xs.length + 1 - n)))) Q
theorem pg_star {es : List Expr} {k n i : Nat} {pos : Pos} {t : TGs} (hc : X.calm = true) (h : PGs X es t)
    (hn : (assignEach es X.env).length = n := by rfl) (hst : (assignEach es X.env).findIdx? (·.1) = some i := by rfl) (hi : i < n := by decide) : PG X (.Tuple es k pos) (gStarL X.K n i t) := by
  refine ⟨fun pins s σ H v u Q I r hw => ?_⟩
  obtain ⟨l, xs, e1, hq, hl1, hz1, hw⟩ := hw
  subst e1
  cases r
  obtain ⟨its, rv, pl, hz⟩ := I.list hq
  have hl := pl.isList
  have hlen := rv.length
  have hh := I.ok.hd hc
  have hlt : l ≠ s.heap.objs.size := by obtain ⟨o, ho, _⟩ := hl; exact Nat.ne_of_lt (Heap.lt_size ho)
  rw [assign_Tuple]
  refine wpAny_bind (wpAny_standAt ?_)
  unfold unpack
  rw [hn, hst]
  refine wpAny_bind (wpAny_holding ?_)
  unfold unpackItems
  refine wpAny_bind ?_
  unfold notIterableAtAll
  refine wpAny_bind (wpAny_specialOf hl.typeIs PySem.slot_list_iter.lookup ?_)
  refine wpAny_pure ?_
  simp only [Bool.false_eq_true, if_false]
  refine wpAny_bind (wpAny_holding (wpAny_pyIter_list hl ?_))
  refine wpAny_bind (wpAny_holding (PySem.W.kun_draw hlt i 0 _ _ ⟨_, Heap.get?_push_size _ rfl, rfl, rfl⟩ (hl.push _) (by rw [List.size_toArray]; omega) fun h₁ hit₁ hs₁ => ?_))
  have hl₁ : h₁.IsList l its.toArray := (hl.push _).extBut hs₁.extBut hlt
  rw [Nat.zero_add] at hit₁
  have hit₁' := hit₁
  obtain ⟨oi, hoi, _⟩ := hit₁'
  have hl₁' := hl₁
  obtain ⟨ol, hol, _⟩ := hl₁'
  rw [List.drop_zero]
  have hfl : (its.toArray.toList.take i).length = i := by rw [List.length_take, Array.length_toList, List.size_toArray]; omega
  rw [if_neg (show ¬ ((its.toArray.toList.take i).length < i) by rw [hfl]; omega)]
  refine wpAny_bind (wpAny_holding (PySem.W.kun_collect (s := { s with heap := h₁ }) (T := "list_iterator") (.inr (.inr (.inl rfl))) (Walks.list (A := X.A.in1) hh s.heap.objs.size l hlt its.toArray) (fun j u st => st.1.typeIs) (k := i) (by rw [List.size_toArray]; omega) ⟨hit₁, hl₁⟩ (Heap.lt_size hoi) (Heap.lt_size hol) (fun h₂ tk hk => ?_) (by rw [List.size_toArray]; omega)))
  have hrl : (its.toArray.toList.drop i).length = its.length - i := by rw [List.length_drop, Array.length_toList, List.size_toArray]
  have hmid : (its.toArray.toList.drop i).length - (n - 1 - i) = xs.length + 1 - n := by rw [hrl]; omega
  show wpAny _ _ (if (its.toArray.toList.drop i).length < n - 1 - i then _ else _) _ _ _
  rw [if_neg (by rw [hrl]; omega)]
  show wpAny _ _ (newList ((its.toArray.toList.drop i).take ((its.toArray.toList.drop i).length - (n - 1 - i))) >>= fun d => pure (its.toArray.toList.take i ++ [d] ++ (its.toArray.toList.drop i).drop ((its.toArray.toList.drop i).length - (n - 1 - i)))) _ _ _
  rw [hmid]
  have kk : ∀ b o, s.heap.get? b = some o → h₂.get? b = some o := fun b o e => hk b o (Nat.ne_of_lt (Heap.lt_size e)) (hs₁.extBut b o (Nat.ne_of_lt (Heap.lt_size e)) (Heap.get?_push_of_some _ e))
  have I1 : Inv X pins σ H { s with heap := h₂, toks := tk } := I.kept kk
  have hfit : ((its.toArray.toList.drop i).take (xs.length + 1 - n)).length ≤ sizeLine := by rw [List.length_take, hrl]; omega
  unfold newList
  refine wpAny_bind (wpAny_newObj_type (wpAny_pure ?_) (by
    show ((its.toArray.toList.drop i).take (xs.length + 1 - n)).toArray.size ≤ sizeLine
    rw [List.size_toArray]
    exact hfit))
  have hf := I1.hok.fresh (Nat.le_refl _)
  have I2 := I1.laid (t' := tk) (h' := h₂.push { cls := .type "list", data := .seq ((its.toArray.toList.drop i).take (xs.length + 1 - n)).toArray }) (o := .lst ((xs.drop i).take (xs.length + 1 - n))) (fun b u e => Heap.get?_push_of_some _ e) (Nat.le_refl _)
    ⟨by rw [List.length_take, List.length_drop]; omega, (its.drop i).take (xs.length + 1 - n), 0, (rv.drop i).take _, by
      have e : its.toArray.toList = its := by simp
      rw [e]
      exact Heap.get?_push_size _ rfl⟩
  refine h.run pins _ σ _ _ _ Q I2 ?_ (hw _ hf)
  have e : its.toArray.toList = its := by simp
  rw [e]
  exact ((rv.take i).append (.cons (show RelV (.ref h₂.objs.size) (.ref h₂.objs.size) from rfl) .nil)).append ((rv.drop i).drop _)
end
end Dh
/-! texts as lists of codes -/
namespace Dh
open PySem PySem.Spec PyProof.Rows L2

abbrev S (l : List Nat) : Str := ⟨l.toArray⟩
theorem S_app (a b : List Nat) : S a ++ S b = S (a ++ b) := by
  show Str.append _ _ = _
  unfold Str.append
  simp
theorem S_len (a : List Nat) : (S a).length = a.length := by
  show a.toArray.size = _
  simp
theorem S_inj {a b : List Nat} (h : S a = S b) : a = b := by
  have := congrArg (fun x : Str => x.cps.toList) h
  simpa using this
theorem S_eq (a b : List Nat) : decide (S a = S b) = decide (a = b) := by
  by_cases e : a = b
  · subst e; simp
  · rw [decide_eq_false e, decide_eq_false fun h => e (S_inj h)]
theorem S_list (a : List Nat) : (S a).cps.toList = a := by simp
theorem S_of (x : Str) : x = S x.cps.toList := by
  obtain ⟨⟨l⟩⟩ := x
  rfl
theorem V_inj {a b : List Nat} (h : V.str (S a) = V.str (S b)) : a = b := S_inj (V.str.inj h)
theorem dec_V (a b : List Nat) : decide (V.str (S a) = V.str (S b)) = decide (a = b) := by
  by_cases e : a = b
  · subst e; simp
  · rw [decide_eq_false e, decide_eq_false fun h => e (V_inj h)]
theorem dec_Vi (a b : Int) : decide (V.int a = V.int b) = decide (a = b) := by
  by_cases e : a = b
  · subst e; simp
  · rw [decide_eq_false e, decide_eq_false fun h => e (V.int.inj h)]
theorem cutS_nat {l : List Nat} {n m : Nat} (h1 : n ≤ m) (h2 : m ≤ l.length) : cutS (S l) (some (n : Int)) (some (m : Int)) = S ((l.drop n).take (m - n)) := by
  unfold cutS
  rw [S_len, HT.sIx_nat, HT.sIx_nat, Nat.min_eq_left h2, Nat.min_eq_left (Nat.le_trans h1 h2), S_list]
theorem cutS_to {l : List Nat} {m : Nat} (h2 : m ≤ l.length) : cutS (S l) none (some (m : Int)) = S (l.take m) := by
  unfold cutS
  rw [S_len, HT.sIx_nat, Nat.min_eq_left h2, S_list]
  show S ((l.drop 0).take (m - 0)) = _
  simp
/-- what may lie beyond the end -/
theorem cutS_any (l : List Nat) (n m : Nat) : cutS (S l) (some (n : Int)) (some (m : Int)) = S ((l.drop n).take (m - n)) := by
  unfold cutS
  rw [S_len, HT.sIx_nat, HT.sIx_nat, S_list]
  have key : (l.drop (min n l.length)).take (min m l.length - min n l.length) = (l.drop n).take (m - n) := by
    by_cases hn : n ≤ l.length
    · have e1 : min n l.length = n := Nat.min_eq_left hn
      rw [e1]
      by_cases hm : m ≤ l.length
      · have e2 : min m l.length = m := Nat.min_eq_left hm
        rw [e2]
      · have e2 : min m l.length = l.length := Nat.min_eq_right (by omega)
        rw [e2, List.take_of_length_le (by rw [List.length_drop]; exact Nat.le_refl _), List.take_of_length_le (by rw [List.length_drop]; omega)]
    · have e1 : min n l.length = l.length := Nat.min_eq_right (by omega)
      rw [e1, List.drop_eq_nil_of_le (Nat.le_refl _), List.drop_eq_nil_of_le (by omega)]
      simp
  rw [key]
theorem cutS_pre (l : List Nat) (m : Nat) : cutS (S l) none (some (m : Int)) = S (l.take m) := by
  unfold cutS
  rw [S_len, HT.sIx_nat, S_list]
  have e0 : HT.sIx l.length 0 none = 0 := HT.sIx_none _ _
  rw [e0, List.drop_zero, Nat.sub_zero]
  congr 2
  by_cases hm : m ≤ l.length
  · rw [Nat.min_eq_left hm]
  · rw [Nat.min_eq_right (by omega), List.take_of_length_le (Nat.le_refl _), List.take_of_length_le (by omega)]
theorem at_code {l : List Nat} {n c : Nat} (h : l[n]? = some c) : atI l (n : Int) = some c := atI_nat h
section
variable {X : Cx}
theorem mt_indexS : MtR X "str.index" (fun x xs H Q => ∃ a b k, x = .str a ∧ xs = [.str b] ∧ Txt.index0 a b = some k ∧ Q (.int (k : Nat)) H) := by
  intro pins s σ H x xs v us Q I rx rs h
  obtain ⟨a, b, k, rfl, rfl, e, q⟩ := h
  obtain ⟨t, rfl⟩ := rx
  cases rs with
  | cons r1 rs =>
    cases rs
    obtain ⟨u, rfl⟩ := r1
    cases c : Builtin.Str.occurrences a b 0 a.length 1 with
    | nil =>
      exfalso
      unfold Txt.index0 at e
      rw [c] at e
      cases e
    | cons j rest =>
      have : j = k := by
        unfold Txt.index0 at e
        rw [c] at e
        exact Option.some.inj e
      subst this
      exact PySem.SC.index c ⟨.int (j : Nat), H, I.tok _, ⟨_, rfl⟩, q⟩
theorem pe_gR {x : Str} {a : Addr} {pos : Pos} (hg : Gl X x) (hm : X.mg x = some (.ref a)) (hd : (x == ("__debug__" : Str)) = false := by decide) : PE X (.Name x pos) (tC (.ref a)) :=
  pe_glob (v := .ref a) hg hm rfl hd
/-- a module's constant text, constant int -/
theorem pe_gS {x : Str} {z : Str} {pos : Pos} (hg : Gl X x) (hm : ∃ t, X.mg x = some (.str z t)) (hd : (x == ("__debug__" : Str)) = false := by decide) : PE X (.Name x pos) (tC (.str z)) :=
  let ⟨t, h⟩ := hm
  pe_glob hg h ⟨t, rfl⟩ hd
theorem pe_gI {x : Str} {z : Int} {pos : Pos} (hg : Gl X x) (hm : ∃ t, X.mg x = some (.int z t)) (hd : (x == ("__debug__" : Str)) = false := by decide) : PE X (.Name x pos) (tC (.int z)) :=
  let ⟨t, h⟩ := hm
  pe_glob hg h ⟨t, rfl⟩ hd
end
end Dh
/-! the program's text by places, and what the top leaves of it -/
namespace Dh
open PySem PySem.Spec PyProof.Rows L2
def topS (i : Nat) : Stmt := PySem.Challenge.pw_doorhouse_k27_whole_marks_by_names.main.body.getD i (.Pass ⟨0, 0, 0, 0⟩)

abbrev s_is_number : Stmt := topS 12
theorem sc_is_number : FnScope ["thing"] ["thing"] (defScope s_is_number) := ⟨rfl, rfl, rfl, by decide +kernel, rfl, by decide +kernel, by decide +kernel⟩
abbrev s_is_from : Stmt := topS 13
theorem sc_is_from : FnScope ["thing", "least", "most"] ["thing", "least", "most"] (defScope s_is_from) := ⟨rfl, rfl, rfl, by decide +kernel, rfl, by decide +kernel, by decide +kernel⟩
abbrev s_is_made_of : Stmt := topS 14
theorem sc_is_made_of : FnScope ["thing", "signs", "most", "sign"] ["thing", "signs", "most"] (defScope s_is_made_of) := ⟨rfl, rfl, rfl, by decide +kernel, rfl, by decide +kernel, by decide +kernel⟩
abbrev s_is_name : Stmt := topS 15
theorem sc_is_name : FnScope ["thing"] ["thing"] (defScope s_is_name) := ⟨rfl, rfl, rfl, by decide +kernel, rfl, by decide +kernel, by decide +kernel⟩
abbrev s_is_sign : Stmt := topS 16
theorem sc_is_sign : FnScope ["sign"] ["sign"] (defScope s_is_sign) := ⟨rfl, rfl, rfl, by decide +kernel, rfl, by decide +kernel, by decide +kernel⟩
abbrev s_is_text : Stmt := topS 17
theorem sc_is_text : FnScope ["thing", "sign"] ["thing"] (defScope s_is_text) := ⟨rfl, rfl, rfl, by decide +kernel, rfl, by decide +kernel, by decide +kernel⟩
abbrev s_is_value : Stmt := topS 18
theorem sc_is_value : FnScope ["thing"] ["thing"] (defScope s_is_value) := ⟨rfl, rfl, rfl, by decide +kernel, rfl, by decide +kernel, by decide +kernel⟩
abbrev s_is_shaped : Stmt := topS 19
theorem sc_is_shaped : FnScope ["thing", "many"] ["thing", "many"] (defScope s_is_shaped) := ⟨rfl, rfl, rfl, by decide +kernel, rfl, by decide +kernel, by decide +kernel⟩
abbrev s_are_unlike : Stmt := topS 20
theorem sc_are_unlike : FnScope ["things"] ["things"] (defScope s_are_unlike) := ⟨rfl, rfl, rfl, by decide +kernel, rfl, by decide +kernel, by decide +kernel⟩
abbrev s_are_signs : Stmt := topS 26
theorem sc_are_signs : FnScope ["thing", "sign"] ["thing"] (defScope s_are_signs) := ⟨rfl, rfl, rfl, by decide +kernel, rfl, by decide +kernel, by decide +kernel⟩
abbrev s_are_all_there : Stmt := topS 27
theorem sc_are_all_there : FnScope ["begin", "others", "many", "turn", "name"] ["begin", "others"] (defScope s_are_all_there) := ⟨rfl, rfl, rfl, by decide +kernel, rfl, by decide +kernel, by decide +kernel⟩
abbrev s_Reading_init : Stmt := inClass (topS 28) 0
theorem sc_Reading_init : FnScope ["self", "text", "has_holes"] ["self", "text", "has_holes"] (defScope s_Reading_init) := ⟨rfl, rfl, rfl, by decide +kernel, rfl, by decide +kernel, by decide +kernel⟩
abbrev s_Reading_here : Stmt := inClass (topS 28) 1
theorem sc_Reading_here : FnScope ["self"] ["self"] (defScope s_Reading_here) := ⟨rfl, rfl, rfl, by decide +kernel, rfl, by decide +kernel, by decide +kernel⟩
abbrev s_Reading_go_by : Stmt := inClass (topS 28) 2
theorem sc_Reading_go_by : FnScope ["self", "signs", "sign"] ["self", "signs"] (defScope s_Reading_go_by) := ⟨rfl, rfl, rfl, by decide +kernel, rfl, by decide +kernel, by decide +kernel⟩
abbrev s_Reading_name_unlike : Stmt := inClass (topS 28) 3
theorem sc_Reading_name_unlike : FnScope ["self", "others", "begin", "found"] ["self", "others"] (defScope s_Reading_name_unlike) := ⟨rfl, rfl, rfl, by decide +kernel, rfl, by decide +kernel, by decide +kernel⟩
abbrev s_Reading_sign_there : Stmt := inClass (topS 28) 4
theorem sc_Reading_sign_there : FnScope ["self", "sign", "begin", "found", "word"] ["self"] (defScope s_Reading_sign_there) := ⟨rfl, rfl, rfl, by decide +kernel, rfl, by decide +kernel, by decide +kernel⟩
abbrev s_Reading_hole_there : Stmt := inClass (topS 28) 5
theorem sc_Reading_hole_there : FnScope ["self", "end", "words"] ["self"] (defScope s_Reading_hole_there) := ⟨rfl, rfl, rfl, by decide +kernel, rfl, by decide +kernel, by decide +kernel⟩
abbrev s_Reading_attribute_part : Stmt := inClass (topS 28) 6
theorem sc_Reading_attribute_part : FnScope ["self", "kind", "name"] ["self"] (defScope s_Reading_attribute_part) := ⟨rfl, rfl, rfl, by decide +kernel, rfl, by decide +kernel, by decide +kernel⟩
abbrev s_Reading_attribute_there : Stmt := inClass (topS 28) 7
theorem sc_Reading_attribute_there : FnScope ["self", "others", "name", "parts"] ["self", "others"] (defScope s_Reading_attribute_there) := ⟨rfl, rfl, rfl, by decide +kernel, rfl, by decide +kernel, by decide +kernel⟩
abbrev s_Reading_go_by_tag : Stmt := inClass (topS 28) 8
theorem sc_Reading_go_by_tag : FnScope ["self", "name", "attributes", "one", "parts", "is_shut"] ["self"] (defScope s_Reading_go_by_tag) := ⟨rfl, rfl, rfl, by decide +kernel, rfl, by decide +kernel, by decide +kernel⟩
abbrev s_Reading_go_by_end : Stmt := inClass (topS 28) 9
theorem sc_Reading_go_by_end : FnScope ["self", "kind", "name", "attributes", "parts"] ["self"] (defScope s_Reading_go_by_end) := ⟨rfl, rfl, rfl, by decide +kernel, rfl, by decide +kernel, by decide +kernel⟩
abbrev s_Reading_go_by_hole : Stmt := inClass (topS 28) 10
theorem sc_Reading_go_by_hole : FnScope ["self", "kind", "name"] ["self"] (defScope s_Reading_go_by_hole) := ⟨rfl, rfl, rfl, by decide +kernel, rfl, by decide +kernel, by decide +kernel⟩
abbrev s_Reading_shut : Stmt := inClass (topS 28) 11
theorem sc_Reading_shut : FnScope ["self", "kind", "name", "attributes", "parts", "texts", "sign", "one", "signs"] ["self"] (defScope s_Reading_shut) := ⟨rfl, rfl, rfl, by decide +kernel, rfl, by decide +kernel, by decide +kernel⟩
abbrev s_Reading_all_parts : Stmt := inClass (topS 28) 12
theorem sc_Reading_all_parts : FnScope ["self"] ["self"] (defScope s_Reading_all_parts) := ⟨rfl, rfl, rfl, by decide +kernel, rfl, by decide +kernel, by decide +kernel⟩
abbrev s_merged : Stmt := topS 29
theorem sc_merged : FnScope ["parts", "found", "signs", "kind", "what", "attributes", "within"] ["parts"] (defScope s_merged) := ⟨rfl, rfl, rfl, by decide +kernel, rfl, by decide +kernel, by decide +kernel⟩
abbrev s_read_marks : Stmt := topS 30
theorem sc_read_marks : FnScope ["text"] ["text"] (defScope s_read_marks) := ⟨rfl, rfl, rfl, by decide +kernel, rfl, by decide +kernel, by decide +kernel⟩
abbrev s_are_attributes : Stmt := topS 31
theorem sc_are_attributes : FnScope ["thing", "one", "name", "text"] ["thing"] (defScope s_are_attributes) := ⟨rfl, rfl, rfl, by decide +kernel, rfl, by decide +kernel, by decide +kernel⟩
abbrev s_are_nodes : Stmt := topS 32
theorem sc_are_nodes : FnScope ["thing", "line", "some", "is_text", "one"] ["thing"] (defScope s_are_nodes) := ⟨rfl, rfl, rfl, by decide +kernel, rfl, by decide +kernel, by decide +kernel⟩
abbrev s_turned : Stmt := topS 33
theorem sc_turned : FnScope ["text", "sign"] ["text"] (defScope s_turned) := ⟨rfl, rfl, rfl, by decide +kernel, rfl, by decide +kernel, by decide +kernel⟩
abbrev s_show_marks : Stmt := topS 34
theorem sc_show_marks : FnScope ["nodes", "found", "line", "some", "one", "name", "attributes", "within", "head", "own", "text"] ["nodes"] (defScope s_show_marks) := ⟨rfl, rfl, rfl, by decide +kernel, rfl, by decide +kernel, by decide +kernel⟩
abbrev s_parts_in : Stmt := topS 39
theorem sc_parts_in : FnScope ["thing"] ["thing"] (defScope s_parts_in) := ⟨rfl, rfl, rfl, by decide +kernel, rfl, by decide +kernel, by decide +kernel⟩
abbrev s_need_template : Stmt := topS 40
theorem sc_need_template : FnScope ["thing", "found"] ["thing"] (defScope s_need_template) := ⟨rfl, rfl, rfl, by decide +kernel, rfl, by decide +kernel, by decide +kernel⟩
abbrev s_is_template : Stmt := topS 41
theorem sc_is_template : FnScope ["thing"] ["thing"] (defScope s_is_template) := ⟨rfl, rfl, rfl, by decide +kernel, rfl, by decide +kernel, by decide +kernel⟩
abbrev s_is_data : Stmt := topS 42
theorem sc_is_data : FnScope ["thing", "name", "one"] ["thing"] (defScope s_is_data) := ⟨rfl, rfl, rfl, by decide +kernel, rfl, by decide +kernel, by decide +kernel⟩
abbrev s_is_data_row : Stmt := topS 43
theorem sc_is_data_row : FnScope ["thing", "one"] ["thing"] (defScope s_is_data_row) := ⟨rfl, rfl, rfl, by decide +kernel, rfl, by decide +kernel, by decide +kernel⟩
abbrev s_need_data : Stmt := topS 44
theorem sc_need_data : FnScope ["thing"] ["thing"] (defScope s_need_data) := ⟨rfl, rfl, rfl, by decide +kernel, rfl, by decide +kernel, by decide +kernel⟩
abbrev s_holes_by : Stmt := topS 45
theorem sc_holes_by : FnScope ["parts", "found", "kind", "name", "attributes", "within", "own", "some", "word", "what", "hole", "none", "nothing"] ["parts"] (defScope s_holes_by) := ⟨rfl, rfl, rfl, by decide +kernel, rfl, by decide +kernel, by decide +kernel⟩
abbrev s_holes_of : Stmt := topS 46
theorem sc_holes_of : FnScope ["template"] ["template"] (defScope s_holes_of) := ⟨rfl, rfl, rfl, by decide +kernel, rfl, by decide +kernel, by decide +kernel⟩
abbrev s_looked_up : Stmt := topS 47
theorem sc_looked_up : FnScope ["name", "rows", "some", "data"] ["name", "rows"] (defScope s_looked_up) := ⟨rfl, rfl, rfl, by decide +kernel, rfl, by decide +kernel, by decide +kernel⟩
abbrev s_text_by : Stmt := topS 48
theorem sc_text_by : FnScope ["name", "rows", "found"] ["name", "rows"] (defScope s_text_by) := ⟨rfl, rfl, rfl, by decide +kernel, rfl, by decide +kernel, by decide +kernel⟩
abbrev s_linked : Stmt := topS 49
theorem sc_linked : FnScope ["text", "found", "sign", "number"] ["text"] (defScope s_linked) := ⟨rfl, rfl, rfl, by decide +kernel, rfl, by decide +kernel, by decide +kernel⟩
abbrev s_rows_of : Stmt := topS 50
theorem sc_rows_of : FnScope ["kind", "name", "rows", "found", "data"] ["kind", "name", "rows"] (defScope s_rows_of) := ⟨rfl, rfl, rfl, by decide +kernel, rfl, by decide +kernel, by decide +kernel⟩
abbrev s_attribute_by : Stmt := topS 51
theorem sc_attribute_by : FnScope ["own", "parts", "rows", "found", "kind", "what", "none", "nothing", "text"] ["own", "parts", "rows"] (defScope s_attribute_by) := ⟨rfl, rfl, rfl, by decide +kernel, rfl, by decide +kernel, by decide +kernel⟩
abbrev s_filled_parts : Stmt := topS 52
theorem sc_filled_parts : FnScope ["parts", "rows", "found", "kind", "name", "attributes", "within", "inner", "texts", "own", "some"] ["parts", "rows"] (defScope s_filled_parts) := ⟨rfl, rfl, rfl, by decide +kernel, rfl, by decide +kernel, by decide +kernel⟩
abbrev s_tree_by : Stmt := topS 53
theorem sc_tree_by : FnScope ["parts", "data"] ["parts", "data"] (defScope s_tree_by) := ⟨rfl, rfl, rfl, by decide +kernel, rfl, by decide +kernel, by decide +kernel⟩
abbrev s_filled_tree : Stmt := topS 54
theorem sc_filled_tree : FnScope ["template", "data", "parts"] ["template", "data"] (defScope s_filled_tree) := ⟨rfl, rfl, rfl, by decide +kernel, rfl, by decide +kernel, by decide +kernel⟩
abbrev s_filled : Stmt := topS 55
theorem sc_filled : FnScope ["template", "data"] ["template", "data"] (defScope s_filled) := ⟨rfl, rfl, rfl, by decide +kernel, rfl, by decide +kernel, by decide +kernel⟩
abbrev s_pieces_of : Stmt := topS 56
theorem sc_pieces_of : FnScope ["template", "first", "others", "found", "one", "inner", "signs", "words", "name"] ["template"] (defScope s_pieces_of) := ⟨rfl, rfl, rfl, by decide +kernel, rfl, by decide +kernel, by decide +kernel⟩
abbrev s_nested : Stmt := topS 57
theorem sc_nested : FnScope ["pieces", "stack", "kind", "name", "whole"] ["pieces"] (defScope s_nested) := ⟨rfl, rfl, rfl, by decide +kernel, rfl, by decide +kernel, by decide +kernel⟩
abbrev s_pasted_by : Stmt := topS 58
theorem sc_pasted_by : FnScope ["parts", "rows", "found", "kind", "name", "within", "inner"] ["parts", "rows"] (defScope s_pasted_by) := ⟨rfl, rfl, rfl, by decide +kernel, rfl, by decide +kernel, by decide +kernel⟩
abbrev s_pasted : Stmt := topS 59
theorem sc_pasted : FnScope ["template", "data"] ["template", "data"] (defScope s_pasted) := ⟨rfl, rfl, rfl, by decide +kernel, rfl, by decide +kernel, by decide +kernel⟩
abbrev s_way_to_hole : Stmt := topS 60
theorem sc_way_to_hole : FnScope ["parts", "kind", "name", "attributes", "within", "some", "own", "inner", "what", "hole", "none", "nothing", "found", "around"] ["parts"] (defScope s_way_to_hole) := ⟨rfl, rfl, rfl, by decide +kernel, rfl, by decide +kernel, by decide +kernel⟩
abbrev s_breaks : Stmt := topS 61
theorem sc_breaks : FnScope ["template", "found", "around", "name", "data", "kind", "own"] ["template"] (defScope s_breaks) := ⟨rfl, rfl, rfl, by decide +kernel, rfl, by decide +kernel, by decide +kernel⟩
abbrev s_law_cell : Stmt := topS 63
theorem sc_law_cell : FnScope ["_law_script", "_law_k"] ["_law_script", "_law_k"] (defScope s_law_cell) := ⟨rfl, rfl, rfl, by decide +kernel, rfl, by decide +kernel, by decide +kernel⟩
abbrev s_law_pen : Stmt := topS 64
theorem sc_law_pen : FnScope ["_law_cell_here"] ["_law_cell_here"] (defScope s_law_pen) := ⟨rfl, rfl, rfl, by decide +kernel, rfl, by decide +kernel, by decide +kernel⟩
abbrev s_law_draw : Stmt := topS 65
theorem sc_law_draw : FnScope ["_law_pen_here", "_law_many", "_law_digit"] ["_law_pen_here", "_law_many"] (defScope s_law_draw) := ⟨rfl, rfl, rfl, by decide +kernel, rfl, by decide +kernel, by decide +kernel⟩
abbrev s_law_signs_of : Stmt := topS 66
theorem sc_law_signs_of : FnScope ["_law_pen_here", "_law_turn"] ["_law_pen_here"] (defScope s_law_signs_of) := ⟨rfl, rfl, rfl, by decide +kernel, rfl, by decide +kernel, by decide +kernel⟩
abbrev s_law_written : Stmt := topS 67
theorem sc_law_written : FnScope ["_law_pen_here", "_law_own"] ["_law_pen_here"] (defScope s_law_written) := ⟨rfl, rfl, rfl, by decide +kernel, rfl, by decide +kernel, by decide +kernel⟩
abbrev s_law : Stmt := topS 68
theorem sc_law : FnScope ["_law_script", "_law_k", "_law_pen_here", "_law_row", "_law_own", "_law_given"] ["_law_script"] (defScope s_law) := ⟨rfl, rfl, rfl, by decide +kernel, rfl, by decide +kernel, by decide +kernel⟩


/-- what the written part tells -/
structure Tx (K : PySem.W.Frag) (w : World) (mg : Str → Option Value) (C fI aWORDS aTURNED aBLOCKS : Addr) (fdI : FuncData) : Prop where
  gLETTERS : ∃ t, mg "LETTERS" = some (.str "abcdefghijklmnopqrstuvwxyz" t)
  gMOST_SIGNS : ∃ t, mg "MOST_SIGNS" = some (.int 8 t)
  gMOST_VALUE : ∃ t, mg "MOST_VALUE" = some (.int 9999 t)
  gMOST_TEXT : ∃ t, mg "MOST_TEXT" = some (.int 40 t)
  gSIGNS : ∃ t, mg "SIGNS" = some (.str " !\"#$&'()*+,-./0123456789:;<=>?@ABCDEFGHIJKLMNOPQRSTUVWXYZ[\\]^_`abcdefghijklmnopqrstuvwxyz{|}~" t)
  gEND : ∃ t, mg "END" = some (.str "end" t)
  gLINK : ∃ t, mg "LINK" = some (.str "to" t)
  gPLAIN : ∃ t, mg "PLAIN" = some (.str "abcdefghijklmnopqrstuvwxyz0123456789-" t)
  gBREAK : ∃ t, mg "BREAK" = some (.str "\"" t)
  b_len : mg "len" = none
  b_isinstance : mg "isinstance" = none
  b_all : mg "all" = none
  b_any : mg "any" = none
  b_max : mg "max" = none
  b_min : mg "min" = none
  b_str : mg "str" = none
  b_int : mg "int" = none
  b_bool : mg "bool" = none
  b_tuple : mg "tuple" = none
  b_dict : mg "dict" = none
  b_set : mg "set" = none
  b_range : mg "range" = none
  gWORDS : mg "WORDS" = some (.ref aWORDS)
  gTURNED : mg "TURNED" = some (.ref aTURNED)
  gBLOCKS : mg "BLOCKS" = some (.ref aBLOCKS)
  kwWORDS : KW K w aWORDS [("lt;", "<"), ("gt;", ">"), ("amp;", "&"), ("quot;", "\"")]
  kwTURNED : KW K w aTURNED [("<", "&lt;"), (">", "&gt;"), ("&", "&amp;"), ("\"", "&quot;")]
  sqBLOCKS : ∀ H, SqT K H aBLOCKS [.str "each", .str "when"]
  cl : Cls K C
  gReading : mg "Reading" = some (.ref C)
  n_text : NoAttr K C "text"
  n_at : NoAttr K C "at"
  n_has_holes : NoAttr K C "has_holes"
  n_stack : NoAttr K C "stack"
  mkR : Mk K C fI
  d_init : Fun K "__init__" "Reading.__init__" s_Reading_init fI fdI
  kInit : KBn K fdI ["self", "text", "has_holes"] 2 ["has_holes"] (fun us ws => us ++ ws) (fun vs zs => vs ++ zs)
  d_is_number : Dex K mg "is_number" s_is_number ["thing"]
  d_is_from : Dex K mg "is_from" s_is_from ["thing", "least", "most"]
  d_is_made_of : Dex K mg "is_made_of" s_is_made_of ["thing", "signs", "most"]
  d_is_name : Dex K mg "is_name" s_is_name ["thing"]
  d_is_sign : Dex K mg "is_sign" s_is_sign ["sign"]
  d_is_text : Dex K mg "is_text" s_is_text ["thing"]
  d_is_value : Dex K mg "is_value" s_is_value ["thing"]
  d_is_shaped : Dex K mg "is_shaped" s_is_shaped ["thing", "many"]
  d_are_unlike : Dex K mg "are_unlike" s_are_unlike ["things"]
  d_are_signs : Dex K mg "are_signs" s_are_signs ["thing"]
  d_are_all_there : Dex K mg "are_all_there" s_are_all_there ["begin", "others"]
  d_merged : Dex K mg "merged" s_merged ["parts"]
  d_read_marks : Dex K mg "read_marks" s_read_marks ["text"]
  d_are_attributes : Dex K mg "are_attributes" s_are_attributes ["thing"]
  d_are_nodes : Dex K mg "are_nodes" s_are_nodes ["thing"]
  d_turned : Dex K mg "turned" s_turned ["text"]
  d_show_marks : Dex K mg "show_marks" s_show_marks ["nodes"]
  d_parts_in : Dex K mg "parts_in" s_parts_in ["thing"]
  d_need_template : Dex K mg "need_template" s_need_template ["thing"]
  d_is_template : Dex K mg "is_template" s_is_template ["thing"]
  d_is_data : Dex K mg "is_data" s_is_data ["thing"]
  d_is_data_row : Dex K mg "is_data_row" s_is_data_row ["thing"]
  d_need_data : Dex K mg "need_data" s_need_data ["thing"]
  d_holes_by : Dex K mg "holes_by" s_holes_by ["parts"]
  d_holes_of : Dex K mg "holes_of" s_holes_of ["template"]
  d_looked_up : Dex K mg "looked_up" s_looked_up ["name", "rows"]
  d_text_by : Dex K mg "text_by" s_text_by ["name", "rows"]
  d_linked : Dex K mg "linked" s_linked ["text"]
  d_rows_of : Dex K mg "rows_of" s_rows_of ["kind", "name", "rows"]
  d_attribute_by : Dex K mg "attribute_by" s_attribute_by ["own", "parts", "rows"]
  d_filled_parts : Dex K mg "filled_parts" s_filled_parts ["parts", "rows"]
  d_tree_by : Dex K mg "tree_by" s_tree_by ["parts", "data"]
  d_filled_tree : Dex K mg "filled_tree" s_filled_tree ["template", "data"]
  d_filled : Dex K mg "filled" s_filled ["template", "data"]
  d_pieces_of : Dex K mg "pieces_of" s_pieces_of ["template"]
  d_nested : Dex K mg "nested" s_nested ["pieces"]
  d_pasted_by : Dex K mg "pasted_by" s_pasted_by ["parts", "rows"]
  d_pasted : Dex K mg "pasted" s_pasted ["template", "data"]
  d_way_to_hole : Dex K mg "way_to_hole" s_way_to_hole ["parts"]
  d_breaks : Dex K mg "breaks" s_breaks ["template"]
  d_law_cell : Dex K mg "_law_cell" s_law_cell ["_law_script", "_law_k"]
  d_law_pen : Dex K mg "_law_pen" s_law_pen ["_law_cell_here"]
  d_law_draw : Dex K mg "_law_draw" s_law_draw ["_law_pen_here", "_law_many"]
  d_law_signs_of : Dex K mg "_law_signs_of" s_law_signs_of ["_law_pen_here"]
  d_law_written : Dex K mg "_law_written" s_law_written ["_law_pen_here"]
  d_law : Dex K mg "law" s_law ["_law_script"]
  k_read_marks : Kex K mg "read_marks" s_read_marks ["text"] ["text"] false
  k_show_marks : Kex K mg "show_marks" s_show_marks ["nodes"] ["nodes"] false
  k_is_template : Kex K mg "is_template" s_is_template ["thing"] ["thing"] false
  k_holes_of : Kex K mg "holes_of" s_holes_of ["template"] ["template"] false
  k_breaks : Kex K mg "breaks" s_breaks ["template"] ["template"] false
  k_filled_tree : Kex K mg "filled_tree" s_filled_tree ["template", "data"] ["data", "template"] true
  k_filled : Kex K mg "filled" s_filled ["template", "data"] ["data", "template"] true
  k_pasted : Kex K mg "pasted" s_pasted ["template", "data"] ["data", "template"] true
  m_here : Mex K C "here" "Reading.here" s_Reading_here ["self"]
  m_go_by : Mex K C "go_by" "Reading.go_by" s_Reading_go_by ["self", "signs"]
  m_name_unlike : Mex K C "name_unlike" "Reading.name_unlike" s_Reading_name_unlike ["self", "others"]
  m_sign_there : Mex K C "sign_there" "Reading.sign_there" s_Reading_sign_there ["self"]
  m_hole_there : Mex K C "hole_there" "Reading.hole_there" s_Reading_hole_there ["self"]
  m_attribute_part : Mex K C "attribute_part" "Reading.attribute_part" s_Reading_attribute_part ["self"]
  m_attribute_there : Mex K C "attribute_there" "Reading.attribute_there" s_Reading_attribute_there ["self", "others"]
  m_go_by_tag : Mex K C "go_by_tag" "Reading.go_by_tag" s_Reading_go_by_tag ["self"]
  m_go_by_end : Mex K C "go_by_end" "Reading.go_by_end" s_Reading_go_by_end ["self"]
  m_go_by_hole : Mex K C "go_by_hole" "Reading.go_by_hole" s_Reading_go_by_hole ["self"]
  m_shut : Mex K C "shut" "Reading.shut" s_Reading_shut ["self"]
  m_all_parts : Mex K C "all_parts" "Reading.all_parts" s_Reading_all_parts ["self"]
end Dh
/-! heaps that grow -/
namespace Dh
open PySem PySem.Spec PyProof.Rows L2
theorem same_new {H : Hp} {p : Addr} {o : HO} (hp : H p = none) : Same H (upd H p o) := fun b u e => by
  rw [upd_ne (ne_of_none e hp)]
  exact e
theorem same_mut {H0 H : Hp} {p : Addr} {o : HO} (s : Same H0 H) (h0 : H0 p = none) : Same H0 (upd H p o) := fun b u e => by
  rw [upd_ne (ne_of_none e h0)]
  exact s _ _ e
theorem same_seqT {K : PySem.W.Frag} {H H' : Hp} {a : Addr} {xs : List V} (e : Same H H') (h : SqT K H a xs) : SqT K H' a xs := by
  rcases h with (h | ⟨o, h⟩) | h
  · exact .inl (.inl (e _ _ h))
  · exact .inl (.inr ⟨o, e _ _ h⟩)
  · exact .inr h
mutual
theorem Dp.same {K : PySem.W.Frag} {H H' : Hp} (s : Same H H') : ∀ (d : PyData) (v : V), Dp K H v d → Dp K H' v d
  | .none, _, h => by cases h; exact .non
  | .bool b, _, h => by cases h; exact .bl b
  | .int i, _, h => by cases h; exact .int i
  | .str x, _, h => by cases h; exact .str x
  | .list ds, _, h => by
    cases h with
    | lst hs ha => exact .lst (s.seq hs) (DpAll.same s ds _ ha)
  | .tuple ds, _, h => by
    cases h with
    | tup hs ha => exact .tup (same_seqT s hs) (DpAll.same s ds _ ha)
  | .dict _, _, h => by cases h
theorem DpAll.same {K : PySem.W.Frag} {H H' : Hp} (s : Same H H') : ∀ (ds : List PyData) (vs : List V), DpAll K H vs ds → DpAll K H' vs ds
  | [], _, h => by cases h; exact .nil
  | d :: ds, _, h => by
    cases h with
    | cons h1 h2 => exact .cons (Dp.same s d _ h1) (DpAll.same s ds _ h2)
end
theorem DpAll.app {K : PySem.W.Frag} {H : Hp} : ∀ {vs us : List V} {ds es : List PyData}, DpAll K H vs ds → DpAll K H us es → DpAll K H (vs ++ us) (ds ++ es)
  | [], _, [], _, _, h => h
  | _ :: _, _, _ :: _, _, .cons a b, h => .cons a (DpAll.app b h)
  | [], _, _ :: _, _, h, _ => by cases h
  | _ :: _, _, [], _, h, _ => by cases h
theorem DpAll.len {K : PySem.W.Frag} {H : Hp} : ∀ {vs : List V} {ds : List PyData}, DpAll K H vs ds → vs.length = ds.length
  | [], [], _ => rfl
  | _ :: _, _ :: _, .cons _ b => congrArg Nat.succ (DpAll.len b)
  | [], _ :: _, h => by cases h
  | _ :: _, [], h => by cases h
theorem DpAll.at {K : PySem.W.Frag} {H : Hp} : ∀ {vs : List V} {ds : List PyData} {i : Nat} {v : V}, DpAll K H vs ds → vs[i]? = some v → ∃ d, ds[i]? = some d ∧ Dp K H v d
  | v :: vs, d :: ds, 0, u, .cons a b, h => ⟨d, rfl, by simp at h; subst h; exact a⟩
  | v :: vs, d :: ds, i + 1, u, .cons a b, h => by
    obtain ⟨e, h1, h2⟩ := DpAll.at (i := i) b (by simpa using h)
    exact ⟨e, by simpa using h1, h2⟩
  | [], _, _, _, _, h => by simp at h
  | _ :: _, [], _, _, h, _ => by cases h
theorem strOk_S {l : List Nat} (h : ∀ c ∈ l, c < 128) : PyData.strOk (S l) = true := by
  unfold PyData.strOk
  rw [← Array.all_toList]
  refine List.all_eq_true.mpr fun c hc => ?_
  have := h c (by simpa using hc)
  exact decide_eq_true (by omega)
theorem shaped_mk {d : PyData} (h1 : d.canLay0 = true) (h2 : d.depth ≤ 64) : SeqAt.shaped d = true := by
  unfold SeqAt.shaped
  rw [h1, decide_eq_true h2]
  rfl
theorem take_snoc {α : Type} {l : List α} {i : Nat} {a : α} (h : l[i]? = some a) : l.take (i + 1) = l.take i ++ [a] := by
  rw [List.take_add_one, h]
  rfl
end Dh
/-! rules that name the written part by itself: within comprehensions -/
namespace Dh
open PySem PySem.Spec PyProof.Rows L2
section
variable {X : Cx} (K : PySem.W.Frag)
theorem pg_tupK {es : List Expr} {k : Nat} {pos : Pos} {t : TGs} (n : Nat) (hK : X.K = K) (hc : X.calm = true) (h : PGs X es t)
    (hn : (assignEach es X.env).length = n := by rfl) (hst : (assignEach es X.env).findIdx? (·.1) = none := by rfl) : PG X (.Tuple es k pos) (gTup K n t) := by
  subst hK
  exact pg_tup hc h hn hst
theorem ix_listK (hK : X.K = K) : IxR X (rIxL K) := by subst hK; exact ix_list
theorem ix_tupK (hK : X.K = K) : IxR X (rIxT K) := by subst hK; exact ix_tup
theorem op_catTK (hK : X.K = K) : OpR X (binaryOp .Add) (rCatT K) := by subst hK; exact op_catT
theorem pi_listK {tg l : Expr} {tl : TE} (hK : X.K = K) (hl : PE X l tl) : PI X tg l (iList K tl) := by subst hK; exact pi_list hl
theorem pi_tupK {tg l : Expr} {tl : TE} (hK : X.K = K) (hl : PE X l tl) : PI X tg l (iTup K tl) := by subst hK; exact pi_tup hl
theorem pe_kget2K (w : World) {o e f : Expr} {apos cpos : Pos} {td ty tx : TE} (hK : X.K = K) (hw : X.w = w) (ho : PE X o td) (he : PE X e ty) (hf : PE X f tx) (m : M2 X o "get" apos e f cpos) : PE X (.Call (.Attribute o "get" apos) [e, f] [] cpos) (tKGet2 K w td ty tx) := by
  subst hK hw
  exact pe_kget2 ho he hf m
theorem mt_joinK (hK : X.K = K) : MtR X "str.join" (fun x xs H Q => ∃ a p, ∃ ys : List Str, x = .str a ∧ xs = [.ref p] ∧ (SqL K H p (ys.map V.str) ∨ SqT K H p (ys.map V.str)) ∧
    (ys.map (·.length)).sum + ys.length * a.length ≤ 16777216 ∧ Q (.str (Txt.join a ys)) H) := by subst hK; exact mt_join
theorem pe_bmK {o e : Expr} {es : List Expr} {to : TE} {t : TA} {name : Str} {apos cpos : Pos} {T id : String} {r : V → List V → Hp → VK → Prop} (hK : X.K = K) (pa : PlainAttrs T) (slot : Slot T name id) (hty : typeOf (.builtin id) = pure (.type "method_descriptor")) (hm : MtR X id r) (ho : PE X o to) (ha : PA X (e :: es) t)
    (hbase : attributeBase o name X.env (eval o X.env) = eval o X.env := by rfl)
    (hfew : ((backTo cpos (starEach (e :: es) X.env)).all (fun x => !x.1) && (backToKw cpos (keywordEach [] X.env)).all (fun x => x.1.isSome)
      && decide ((e :: es).length + ([] : List Keyword).length + (if ([] : List Keyword).isEmpty then 0 else 1) < 30)) = true := by rfl)
    (hline : (apos.endLine == cpos.line) = true := by rfl) (hs : starEach (e :: es) X.env = (false, eval e X.env) :: starEach es X.env := by rfl) (hplain : (backTo cpos (starEach es X.env)).any (·.1) = false := by rfl) :
    PE X (.Call (.Attribute o name apos) (e :: es) [] cpos) (tBM K T r to t) := by
  subst hK
  exact pe_bm pa slot hty hm ho ha hbase hfew hline hs hplain
end
def tJd (ts : List TE) : TE := fun σ H Q => tJs ts Str.empty σ H fun out H1 => Q (.str out) H1
theorem pe_joinedD {X : Cx} {v1 v2 : Expr} {rest : List Expr} {ts : List TE} {pos : Pos} (h : PJ X (v1 :: v2 :: rest) ts) : PE X (.JoinedStr (v1 :: v2 :: rest) pos) (tJd ts) := pe_joined h
end Dh
namespace Dh
open PySem PySem.Spec PyProof.Rows L2
section
variable {P : Program} {w : World} {K : PySem.W.Frag} {mg : Str → Option Value} {base : Heap} {C fI aWORDS aTURNED aBLOCKS : Addr} {fdI : FuncData}

/-! ### is_number -/
def spIsNumber (K : PySem.W.Frag) : Sp := fun vs H Q _ => ∃ (x : V) (t : String), vs = [x] ∧ TyX K H x (.type t) ∧ (t = "int" ∨ t = "str" ∨ t = "tuple") ∧ Q (.bl (decide (t = "int"))) H
theorem G_is_number (T : Tx K w mg C fI aWORDS aTURNED aBLOCKS fdI) : Gf P w K mg base 1 "is_number" ["thing"] (spIsNumber K) := by
  refine gf_mk T.d_is_number sc_is_number (fun vs H Q E h => ?_) (fun f cdv A outer s H vs Q E hr h => ?_)
  · obtain ⟨x, t, rfl, _⟩ := h
    rfl
  · obtain ⟨x, t, rfl, ty, ht, q⟩ := h
    refine ⟨_, (pss_one (ps_ret (pe_and (pe_callB call_isi (by rfl) T.b_isinstance (by decide +kernel) (pa_cons (pv 0) (pa_cons (pe_bltn (v := .ty "int") (by rfl) T.b_int (by decide +kernel) rfl) pa_nil))) (pe_one (pe_not (pe_callB call_isi (by rfl) T.b_isinstance (by decide +kernel) (pa_cons (pv 0) (pa_cons (pe_bltn (v := .ty "bool") (by rfl) T.b_bool (by decide +kernel) rfl) pa_nil)))))))), ?_⟩
    refine ⟨_, rfl, x, _, _, _, decide (t = "int"), rfl, .ty _, ty, ?_, _, rfl, ?_⟩
    · rcases ht with rfl | rfl | rfl <;> exact kit_ty (by decide +kernel)
    · rcases ht with rfl | rfl | rfl
      · refine iteT ⟨_, rfl, x, _, _, _, false, rfl, .ty _, ty, kit_ty (by decide +kernel), _, rfl, q⟩
      · exact iteF q
      · exact iteF q
/-! ### is_from -/
def spIsFrom (K : PySem.W.Frag) : Sp := fun vs H Q _ => ∃ (x : V) (a b : Int), vs = [x, .int a, .int b] ∧ ((∃ i, x = .int i ∧ Q (.bl (decide (a ≤ i) && decide (i ≤ b))) H) ∨ (TyX K H x (.type "tuple") ∧ Q (.bl false) H))
theorem G_is_from (T : Tx K w mg C fI aWORDS aTURNED aBLOCKS fdI) : Gf P w K mg base 2 "is_from" ["thing", "least", "most"] (spIsFrom K) := by
  have G_is_number : Gf P w K mg base 1 "is_number" ["thing"] (spIsNumber K) := G_is_number T
  refine gf_mk T.d_is_from sc_is_from (fun vs H Q E h => ?_) (fun f cdv A outer s H vs Q E hr h => ?_)
  · obtain ⟨x, a, b, rfl, _⟩ := h
    rfl
  · obtain ⟨x, a, b, rfl, h⟩ := h
    refine ⟨_, (pss_one (ps_ret (pe_and (pe_callG G_is_number (hr.mono (by decide)) (by rfl) (pa_cons (pv 0) pa_nil)) (pe_one (pe_chain op_le op_le (pv 1) (pv 0) (pv 2)))))), ?_⟩
    rcases h with ⟨i, rfl, q⟩ | ⟨ty, q⟩
    · refine ⟨_, rfl, _, "int", rfl, .base (.int i), .inl rfl, _, rfl, iteT ?_⟩
      refine ⟨_, rfl, _, rfl, _, _, rfl, rfl, _, rfl, ?_⟩
      refine ite2 (fun c => ?_) (fun c => ?_)
      · rw [c, Bool.true_and] at q
        exact ⟨_, rfl, _, _, rfl, rfl, q⟩
      · rw [(Bool.not_eq_true _).mp c, Bool.false_and] at q
        exact q
    · exact ⟨_, rfl, _, "tuple", rfl, ty, .inr (.inr rfl), _, rfl, iteF q⟩
/-! ### is_sign -/
def SIGNSL : List Nat := (" !\"#$&'()*+,-./0123456789:;<=>?@ABCDEFGHIJKLMNOPQRSTUVWXYZ[\\]^_`abcdefghijklmnopqrstuvwxyz{|}~" : Str).cps.toList
def spIsSign : Sp := fun vs H Q _ => ∃ c : Nat, vs = [.str (S [c])] ∧ Q (.bl (decide (c ∈ SIGNSL))) H
theorem G_is_sign (T : Tx K w mg C fI aWORDS aTURNED aBLOCKS fdI) : Gf P w K mg base 1 "is_sign" ["sign"] spIsSign := by
  refine gf_mk T.d_is_sign sc_is_sign (fun vs H Q E h => ?_) (fun f cdv A outer s H vs Q E hr h => ?_)
  · obtain ⟨c, rfl, _⟩ := h
    rfl
  · obtain ⟨c, rfl, q⟩ := h
    refine ⟨_, (pss_one (ps_ret (pe_cmpR op_in_sign (pv 0) (pe_gS (by rfl) T.gSIGNS) (by rfl)))), ?_⟩
    exact ⟨_, rfl, c, _, rfl, rfl, q⟩
/-! ### is_made_of -/
def madeOf (z g : List Nat) (m : Int) : Bool := (decide (1 ≤ (z.length : Int)) && decide ((z.length : Int) ≤ m)) && z.all fun c => decide (c ∈ g)
def spIsMadeOf : Sp := fun vs H Q _ => ∃ (z g : List Nat) (m : Int), vs = [.str (S z), .str (S g), .int m] ∧ z.length ≤ 1000 ∧ ∀ H', Same H H' → Q (.bl (madeOf z g m)) H'
theorem G_is_made_of (T : Tx K w mg C fI aWORDS aTURNED aBLOCKS fdI) : Gf P w K mg base 1 "is_made_of" ["thing", "signs", "most"] spIsMadeOf := by
  refine gf_mk T.d_is_made_of sc_is_made_of (fun vs H Q E h => ?_) (fun f cdv A outer s H vs Q E hr h => ?_)
  · obtain ⟨z, g, m, rfl, _⟩ := h
    rfl
  · obtain ⟨z, g, m, rfl, hz, q⟩ := h
    refine ⟨_, (pss_one (ps_ret (pe_and (pe_callB call_isi (by rfl) T.b_isinstance (by decide +kernel) (pa_cons (pv 0) (pa_cons (pe_bltn (v := .ty "str") (by rfl) T.b_str (by decide +kernel) rfl) pa_nil))) (pe_and (pe_chain op_le op_le pe_int (pe_callB call_len_str (by rfl) T.b_len PySem.boot_len (pa_cons (pv 0) pa_nil)) (pv 2)) (pe_one (pe_callB (cr_all rfl) (by rfl) T.b_all (by decide +kernel) (pa_cons (pe_lc (own := [("sign", 3)]) rfl sc_is_made_of.nd (pi_str (pv 0)) (blkOk_by (by kernel_rfl)) (fun _ _ _ _ _ => (pg_name (i := 3) sc_is_made_of.nd rfl (Or.inl rfl))) (fun _ _ _ _ _ => pts_nil) (fun _ _ _ _ _ => (pe_cmpR op_in_sign (pv 3) (pv 1) (by rfl)))) pa_nil))))))), ?_⟩
    refine ⟨_, rfl, _, _, _, _, true, rfl, .ty _, .base (.str _), kit_ty (by decide +kernel), _, rfl, iteT ?_⟩
    refine ⟨_, rfl, _, rfl, by rw [S_len]; exact Nat.le_trans hz (by decide), _, _, rfl, rfl, _, rfl, ?_⟩
    have e1 : (S z).length = z.length := S_len z
    rw [e1]
    unfold madeOf at q
    refine ite2 (fun c => ?_) (fun c => ?_)
    · rw [c, Bool.true_and] at q
      refine ⟨_, rfl, _, _, rfl, rfl, _, rfl, ?_⟩
      refine ite2 (fun c2 => ?_) (fun c2 => ?_)
      · rw [c2, Bool.true_and] at q
        refine ⟨_, rfl, _, rfl, fun D hD => ?_⟩
        refine lc_str (x := S z) (fun i H1 => Same H H1 ∧ H1 D = some (.lst ((z.take i).map fun c => .bl (decide (c ∈ g))))) ⟨same_new hD, upd_same⟩ (fun i c H1 hc ⟨s1, h1⟩ => ?_) (fun H1 ⟨s1, h1⟩ => ?_)
        · rw [S_list] at hc
          refine ⟨rfl, ?_⟩
          refine ⟨_, rfl, _, rfl, c, _, rfl, rfl, _, h1, ?_, same_mut s1 hD, ?_⟩
          · rw [List.length_map, List.length_take]
            exact Nat.lt_of_le_of_lt (Nat.le_trans (Nat.min_le_right _ _) hz) (by decide)
          · rw [upd_same, take_snoc hc, List.map_append]
            simp
        · rw [S_list, List.take_length] at h1
          refine ⟨D, z.map fun c => decide (c ∈ g), rfl, SqL.of (by rw [List.map_map]; exact h1), ?_⟩
          have e2 : (z.map fun c => decide (c ∈ g)).all id = z.all fun c => decide (c ∈ g) := by rw [List.all_map]; rfl
          rw [e2]
          exact q _ s1
      · rw [(Bool.not_eq_true _).mp c2, Bool.false_and] at q
        exact q _ (Same.refl H)
    · rw [(Bool.not_eq_true _).mp c, Bool.false_and, Bool.false_and] at q
      exact ⟨_, rfl, iteF (q _ (Same.refl H))⟩
end
end Dh
namespace Dh
open PySem PySem.Spec PyProof.Rows L2
theorem tyx_tup {K : PySem.W.Frag} {H : Hp} {a : Addr} {xs : List V} (h : SqT K H a xs) : TyX K H (.ref a) (.type "tuple") := by
  rcases h with (h | ⟨o, h⟩) | ⟨o, its, n, hk, hc, _⟩
  · exact .base (.tup h)
  · exact .fTuple h
  · exact .kTuple hk hc
def LETL : List Nat := ("abcdefghijklmnopqrstuvwxyz" : Str).cps.toList
section
variable {P : Program} {w : World} {K : PySem.W.Frag} {mg : Str → Option Value} {base : Heap} {C fI aWORDS aTURNED aBLOCKS : Addr} {fdI : FuncData}
/-! ### is_name -/
def isName (z : List Nat) : Bool := madeOf z LETL 8
def spIsName : Sp := fun vs H Q _ => ∃ z : List Nat, vs = [.str (S z)] ∧ z.length ≤ 1000 ∧ ∀ H', Same H H' → Q (.bl (isName z)) H'
theorem G_is_name (T : Tx K w mg C fI aWORDS aTURNED aBLOCKS fdI) : Gf P w K mg base 2 "is_name" ["thing"] spIsName := by
  have G_is_made_of : Gf P w K mg base 1 "is_made_of" ["thing", "signs", "most"] spIsMadeOf := G_is_made_of T
  refine gf_mk T.d_is_name sc_is_name (fun vs H Q E h => ?_) (fun f cdv A outer s H vs Q E hr h => ?_)
  · obtain ⟨z, rfl, _⟩ := h
    rfl
  · obtain ⟨z, rfl, hz, q⟩ := h
    refine ⟨_, (pss_one (ps_ret (pe_callG G_is_made_of (hr.mono (by decide)) (by rfl) (pa_cons (pv 0) (pa_cons (pe_gS (by rfl) T.gLETTERS) (pa_cons (pe_gI (by rfl) T.gMOST_SIGNS) pa_nil)))))), ?_⟩
    exact ⟨_, rfl, z, LETL, 8, rfl, hz, q⟩
/-! ### is_text -/
def isText (z : List Nat) : Bool := decide ((z.length : Int) ≤ 40) && z.all fun c => decide (c ∈ SIGNSL)
def spIsText (K : PySem.W.Frag) : Sp := fun vs H Q _ => ∃ x : V, vs = [x] ∧ ((∃ z : List Nat, x = .str (S z) ∧ z.length ≤ 1000 ∧ ∀ H', Same H H' → Q (.bl (isText z)) H') ∨ (∃ t, (t = "int" ∨ t = "tuple") ∧ TyX K H x (.type t) ∧ Q (.bl false) H))
theorem G_is_text (T : Tx K w mg C fI aWORDS aTURNED aBLOCKS fdI) : Gf P w K mg base 2 "is_text" ["thing"] (spIsText K) := by
  have G_is_sign : Gf P w K mg base 1 "is_sign" ["sign"] spIsSign := G_is_sign T
  refine gf_mk T.d_is_text sc_is_text (fun vs H Q E h => ?_) (fun f cdv A outer s H vs Q E hr h => ?_)
  · obtain ⟨x, rfl, _⟩ := h
    rfl
  · obtain ⟨x, rfl, h⟩ := h
    refine ⟨_, (pss_one (ps_ret (pe_and (pe_callB call_isi (by rfl) T.b_isinstance (by decide +kernel) (pa_cons (pv 0) (pa_cons (pe_bltn (v := .ty "str") (by rfl) T.b_str (by decide +kernel) rfl) pa_nil))) (pe_and (pe_cmpR op_le (pe_callB call_len_str (by rfl) T.b_len PySem.boot_len (pa_cons (pv 0) pa_nil)) (pe_gI (by rfl) T.gMOST_TEXT) (nomark _)) (pe_one (pe_callB (cr_all rfl) (by rfl) T.b_all (by decide +kernel) (pa_cons (pe_lc (own := [("sign", 1)]) rfl sc_is_text.nd (pi_str (pv 0)) (blkOk_by (by kernel_rfl)) (fun _ _ _ _ _ => (pg_name (i := 1) sc_is_text.nd rfl (Or.inl rfl))) (fun _ _ _ _ _ => pts_nil) (fun _ _ _ _ _ => (pe_callG G_is_sign (hr.mono (by decide)) (by rfl) (pa_cons (pv 1) pa_nil)))) pa_nil))))))), ?_⟩
    rcases h with ⟨z, rfl, hz, q⟩ | ⟨t, ht, ty, q⟩
    · refine ⟨_, rfl, _, _, _, _, true, rfl, .ty _, .base (.str _), kit_ty (by decide +kernel), _, rfl, iteT ?_⟩
      refine ⟨_, rfl, _, rfl, by rw [S_len]; exact Nat.le_trans hz (by decide), _, _, rfl, rfl, _, rfl, ?_⟩
      have e1 : (S z).length = z.length := S_len z
      rw [e1]
      unfold isText at q
      refine ite2 (fun c => ?_) (fun c => ?_)
      · rw [c, Bool.true_and] at q
        refine ⟨_, rfl, _, rfl, fun D hD => ?_⟩
        refine lc_str (x := S z) (fun i H1 => Same H H1 ∧ H1 D = some (.lst ((z.take i).map fun c => .bl (decide (c ∈ SIGNSL))))) ⟨same_new hD, upd_same⟩ (fun i c H1 hc ⟨s1, h1⟩ => ?_) (fun H1 ⟨s1, h1⟩ => ?_)
        · rw [S_list] at hc
          refine ⟨rfl, _, rfl, c, rfl, _, h1, ?_, same_mut s1 hD, ?_⟩
          · rw [List.length_map, List.length_take]
            exact Nat.lt_of_le_of_lt (Nat.le_trans (Nat.min_le_right _ _) hz) (by decide)
          · rw [upd_same, take_snoc hc, List.map_append]
            simp
        · rw [S_list, List.take_length] at h1
          refine ⟨D, z.map fun c => decide (c ∈ SIGNSL), rfl, SqL.of (by rw [List.map_map]; exact h1), ?_⟩
          have e2 : (z.map fun c => decide (c ∈ SIGNSL)).all id = z.all fun c => decide (c ∈ SIGNSL) := by rw [List.all_map]; rfl
          rw [e2]
          exact q _ s1
      · rw [(Bool.not_eq_true _).mp c, Bool.false_and] at q
        exact q _ (Same.refl H)
    · refine ⟨_, rfl, _, _, _, _, false, rfl, .ty _, ty, ?_, _, rfl, iteF q⟩
      rcases ht with rfl | rfl <;> exact kit_ty (by decide +kernel)
/-! ### are_signs -/
def areSigns (z : List Nat) : Bool := z.all fun c => decide (c ∈ SIGNSL)
def spAreSigns : Sp := fun vs H Q _ => ∃ z : List Nat, vs = [.str (S z)] ∧ z.length ≤ 1000 ∧ ∀ H', Same H H' → Q (.bl (areSigns z)) H'
theorem G_are_signs (T : Tx K w mg C fI aWORDS aTURNED aBLOCKS fdI) : Gf P w K mg base 2 "are_signs" ["thing"] spAreSigns := by
  have G_is_sign : Gf P w K mg base 1 "is_sign" ["sign"] spIsSign := G_is_sign T
  refine gf_mk T.d_are_signs sc_are_signs (fun vs H Q E h => ?_) (fun f cdv A outer s H vs Q E hr h => ?_)
  · obtain ⟨x, rfl, _⟩ := h
    rfl
  · obtain ⟨z, rfl, hz, q⟩ := h
    refine ⟨_, (pss_one (ps_ret (pe_and (pe_callB call_isi (by rfl) T.b_isinstance (by decide +kernel) (pa_cons (pv 0) (pa_cons (pe_bltn (v := .ty "str") (by rfl) T.b_str (by decide +kernel) rfl) pa_nil))) (pe_one (pe_callB (cr_all rfl) (by rfl) T.b_all (by decide +kernel) (pa_cons (pe_lc (own := [("sign", 1)]) rfl sc_are_signs.nd (pi_str (pv 0)) (blkOk_by (by kernel_rfl)) (fun _ _ _ _ _ => (pg_name (i := 1) sc_are_signs.nd rfl (Or.inl rfl))) (fun _ _ _ _ _ => pts_nil) (fun _ _ _ _ _ => (pe_callG G_is_sign (hr.mono (by decide)) (by rfl) (pa_cons (pv 1) pa_nil)))) pa_nil)))))), ?_⟩
    refine ⟨_, rfl, _, _, _, _, true, rfl, .ty _, .base (.str _), kit_ty (by decide +kernel), _, rfl, iteT ?_⟩
    refine ⟨_, rfl, _, rfl, fun D hD => ?_⟩
    refine lc_str (x := S z) (fun i H1 => Same H H1 ∧ H1 D = some (.lst ((z.take i).map fun c => .bl (decide (c ∈ SIGNSL))))) ⟨same_new hD, upd_same⟩ (fun i c H1 hc ⟨s1, h1⟩ => ?_) (fun H1 ⟨s1, h1⟩ => ?_)
    · rw [S_list] at hc
      refine ⟨rfl, _, rfl, c, rfl, _, h1, ?_, same_mut s1 hD, ?_⟩
      · rw [List.length_map, List.length_take]
        exact Nat.lt_of_le_of_lt (Nat.le_trans (Nat.min_le_right _ _) hz) (by decide)
      · rw [upd_same, take_snoc hc, List.map_append]
        simp
    · rw [S_list, List.take_length] at h1
      refine ⟨D, z.map fun c => decide (c ∈ SIGNSL), rfl, SqL.of (by rw [List.map_map]; exact h1), ?_⟩
      have e2 : (z.map fun c => decide (c ∈ SIGNSL)).all id = z.all fun c => decide (c ∈ SIGNSL) := by rw [List.all_map]; rfl
      rw [e2]
      exact q _ s1
/-! ### is_value -/
def spIsValue (K : PySem.W.Frag) : Sp := fun vs H Q _ => ∃ x : V, vs = [x] ∧ ((∃ z : List Nat, x = .str (S z) ∧ isText z = true ∧ ∀ H', Same H H' → Q (.bl true) H') ∨ (∃ i : Int, x = .int i ∧ 0 ≤ i ∧ i ≤ 9999 ∧ Q (.bl true) H) ∨ (TyX K H x (.type "tuple") ∧ Q (.bl false) H))
theorem G_is_value (T : Tx K w mg C fI aWORDS aTURNED aBLOCKS fdI) : Gf P w K mg base 3 "is_value" ["thing"] (spIsValue K) := by
  have G_is_text : Gf P w K mg base 2 "is_text" ["thing"] (spIsText K) := G_is_text T
  have G_is_from : Gf P w K mg base 2 "is_from" ["thing", "least", "most"] (spIsFrom K) := G_is_from T
  refine gf_mk T.d_is_value sc_is_value (fun vs H Q E h => ?_) (fun f cdv A outer s H vs Q E hr h => ?_)
  · obtain ⟨x, rfl, _⟩ := h
    rfl
  · obtain ⟨x, rfl, h⟩ := h
    refine ⟨_, (pss_one (ps_ret (pe_or (pe_callG G_is_text (hr.mono (by decide)) (by rfl) (pa_cons (pv 0) pa_nil)) (pe_one (pe_callG G_is_from (hr.mono (by decide)) (by rfl) (pa_cons (pv 0) (pa_cons pe_int (pa_cons (pe_gI (by rfl) T.gMOST_VALUE) pa_nil)))))))), ?_⟩
    rcases h with ⟨z, rfl, ht, q⟩ | ⟨i, rfl, h0, h1, q⟩ | ⟨ty, q⟩
    · have hz : z.length ≤ 1000 := by
        unfold isText at ht
        rw [Bool.and_eq_true] at ht
        have := of_decide_eq_true ht.1
        omega
      refine ⟨_, rfl, _, rfl, .inl ⟨z, rfl, hz, fun H' s1 => ⟨_, rfl, ?_⟩⟩⟩
      rw [ht]
      exact iteT (q _ s1)
    · refine ⟨_, rfl, _, rfl, .inr ⟨"int", .inl rfl, .base (.int i), _, rfl, iteF ?_⟩⟩
      refine ⟨_, rfl, _, 0, 9999, rfl, .inl ⟨i, rfl, ?_⟩⟩
      rw [decide_eq_true h0, decide_eq_true h1]
      exact q
    · exact ⟨_, rfl, _, rfl, .inr ⟨"tuple", .inr rfl, ty, _, rfl, iteF ⟨_, rfl, _, 0, 9999, rfl, .inr ⟨ty, q⟩⟩⟩⟩
/-! ### is_shaped, are_unlike -/
def spIsShaped (K : PySem.W.Frag) : Sp := fun vs H Q _ => ∃ (a : Addr) (xs : List V) (m : Int), vs = [.ref a, .int m] ∧ SqT K H a xs ∧ Q (.bl (decide ((xs.length : Int) = m))) H
theorem G_is_shaped (T : Tx K w mg C fI aWORDS aTURNED aBLOCKS fdI) : Gf P w K mg base 1 "is_shaped" ["thing", "many"] (spIsShaped K) := by
  refine gf_mk T.d_is_shaped sc_is_shaped (fun vs H Q E h => ?_) (fun f cdv A outer s H vs Q E hr h => ?_)
  · obtain ⟨x, xs, m, rfl, _⟩ := h
    rfl
  · obtain ⟨a, xs, m, rfl, ha, q⟩ := h
    refine ⟨_, (pss_one (ps_ret (pe_and (pe_callB call_isi (by rfl) T.b_isinstance (by decide +kernel) (pa_cons (pv 0) (pa_cons (pe_bltn (v := .ty "tuple") (by rfl) T.b_tuple (by decide +kernel) rfl) pa_nil))) (pe_one (pe_cmpR op_eq (pe_callB call_len_seq (by rfl) T.b_len PySem.boot_len (pa_cons (pv 0) pa_nil)) (pv 1) (nomark _)))))), ?_⟩
    refine ⟨_, rfl, _, _, _, _, true, rfl, .ty _, tyx_tup ha, kit_ty (by decide +kernel), _, rfl, iteT ?_⟩
    refine ⟨_, rfl, a, xs, rfl, .inr ha, _, rfl, rfl, ?_⟩
    rw [dec_Vi]
    exact q
def spAreUnlike (K : PySem.W.Frag) : Sp := fun vs H Q _ => ∃ (l : Addr) (xs : List Str), vs = [.ref l] ∧ SqL K H l (xs.map V.str) ∧ xs.length ≤ 1 ∧ Q (.bl true) H
theorem G_are_unlike (T : Tx K w mg C fI aWORDS aTURNED aBLOCKS fdI) : Gf P w K mg base 1 "are_unlike" ["things"] (spAreUnlike K) := by
  refine gf_mk T.d_are_unlike sc_are_unlike (fun vs H Q E h => ?_) (fun f cdv A outer s H vs Q E hr h => ?_)
  · obtain ⟨x, xs, rfl, _⟩ := h
    rfl
  · obtain ⟨l, xs, rfl, ha, h1, q⟩ := h
    refine ⟨_, (pss_one (ps_ret (pe_cmpR op_eq (pe_lenSet rfl (by rfl) T.b_len (by rfl) T.b_set (pv 0)) (pe_callB call_len_seq (by rfl) T.b_len PySem.boot_len (pa_cons (pv 0) pa_nil)) (nomark _)))), ?_⟩
    refine ⟨_, rfl, l, xs, rfl, .inl ha, h1, _, rfl, l, _, rfl, .inl ha, rfl, ?_⟩
    rw [List.length_map, dec_Vi, decide_eq_true rfl]
    exact q
end
end Dh
namespace Dh
open PySem PySem.Spec PyProof.Rows L2
/-! ### the object of Reading -/
def rf (L : List Nat) (n : Nat) (b : Bool) (k : Addr) : List (Str × V) := [("text", .str (S L)), ("at", .int n), ("has_holes", .bl b), ("stack", .ref k)]
theorem ta_ : ¬ (("text" : Str) = "at") := by decide +kernel
theorem th_ : ¬ (("text" : Str) = "has_holes") := by decide +kernel
theorem ts_ : ¬ (("text" : Str) = "stack") := by decide +kernel
theorem ah_ : ¬ (("at" : Str) = "has_holes") := by decide +kernel
theorem as_ : ¬ (("at" : Str) = "stack") := by decide +kernel
theorem hs_ : ¬ (("has_holes" : Str) = "stack") := by decide +kernel
theorem lk_cons (f g : Str) (v : V) (r : List (Str × V)) : ((g, v) :: r).lookup f = if f = g then some v else r.lookup f := by
  rw [List.lookup_cons]
  by_cases e : f = g
  · rw [if_pos e, beq_iff_eq.mpr e]
  · rw [if_neg e, beq_eq_false_iff_ne.mpr e]
theorem rf_text (L n b k) : (rf L n b k).lookup ("text" : Str) = some (.str (S L)) := by unfold rf; rw [lk_cons, if_pos rfl]
theorem rf_at (L n b k) : (rf L n b k).lookup ("at" : Str) = some (.int (n : Nat)) := by unfold rf; rw [lk_cons, if_neg (Ne.symm ta_), lk_cons, if_pos rfl]
theorem rf_hh (L n b k) : (rf L n b k).lookup ("has_holes" : Str) = some (.bl b) := by unfold rf; rw [lk_cons, if_neg (Ne.symm th_), lk_cons, if_neg (Ne.symm ah_), lk_cons, if_pos rfl]
theorem rf_stack (L n b k) : (rf L n b k).lookup ("stack" : Str) = some (.ref k) := by unfold rf; rw [lk_cons, if_neg (Ne.symm ts_), lk_cons, if_neg (Ne.symm as_), lk_cons, if_neg (Ne.symm hs_), lk_cons, if_pos rfl]
theorem rf_no (L n b k) {m : Str} (h1 : ¬ m = "text") (h2 : ¬ m = "at") (h3 : ¬ m = "has_holes") (h4 : ¬ m = "stack") : (rf L n b k).lookup m = none := by
  unfold rf
  rw [lk_cons, if_neg h1, lk_cons, if_neg h2, lk_cons, if_neg h3, lk_cons, if_neg h4]
  rfl
theorem rf_put (L) (n m : Nat) (b k) : putF "at" (.int (m : Nat)) (rf L n b k) = rf L m b k := by
  unfold rf
  show (if ("text" : Str) = "at" then _ else (("text" : Str), V.str (S L)) :: (if ("at" : Str) = "at" then (("at" : Str), V.int (m : Nat)) :: _ else _)) = _
  rw [if_neg ta_, if_pos rfl]
theorem rf_put1 (L) (n : Nat) (b k) : putF "at" (.int ((n : Int) + 1)) (rf L n b k) = rf L (n + 1) b k := rf_put L n (n + 1) b k
/-- the reading at r: its text L, its place n, its stack at k -/
def RdAt (C : Addr) (H : Hp) (r : Addr) (L : List Nat) (n : Nat) (b : Bool) (k : Addr) : Prop := ∃ dx, H r = some (.ins C dx (rf L n b k))
/-- all but what stands at r is kept -/
def SameB (r : Addr) (H H' : Hp) : Prop := ∀ x o, x ≠ r → H x = some o → H' x = some o
theorem SameB.refl (r : Addr) (H : Hp) : SameB r H H := fun _ _ _ h => h
theorem SameB.trans {r : Addr} {H H1 H2 : Hp} (a : SameB r H H1) (b : SameB r H1 H2) : SameB r H H2 := fun x o n h => b x o n (a x o n h)
theorem SameB.of {r : Addr} {H H1 : Hp} (a : Same H H1) : SameB r H H1 := fun x o _ h => a x o h
theorem SameB.upd {r : Addr} {H H1 : Hp} {u : HO} (a : SameB r H H1) : SameB r H (upd H1 r u) := fun x o n h => by
  rw [upd_ne n]
  exact a x o n h
theorem SameB.new {r p : Addr} {H H1 : Hp} {u : HO} (a : SameB r H H1) (hp : H1 p = none) : SameB r H (L2.upd H1 p u) := fun x o n h => by
  rw [upd_ne (ne_of_none (a x o n h) hp)]
  exact a x o n h
/-- a list or tuple that is known stands elsewhere than the reading -/
theorem SameB.seqL {K : PySem.W.Frag} {r : Addr} {H H' : Hp} {a C dx : Addr} {fs : List (Str × V)} {xs : List V} (e : SameB r H H') (hr : H r = some (.ins C dx fs)) (h : SqL K H a xs) : SqL K H' a xs := by
  rcases h with (h | ⟨o, h⟩) | h
  · exact .inl (.inl (e _ _ (ne_of h hr (by intro z; cases z)) h))
  · exact .inl (.inr ⟨o, e _ _ (ne_of h hr (by intro z; cases z)) h⟩)
  · exact .inr h
theorem SameB.seqT {K : PySem.W.Frag} {r : Addr} {H H' : Hp} {a C dx : Addr} {fs : List (Str × V)} {xs : List V} (e : SameB r H H') (hr : H r = some (.ins C dx fs)) (h : SqT K H a xs) : SqT K H' a xs := by
  rcases h with (h | ⟨o, h⟩) | h
  · exact .inl (.inl (e _ _ (ne_of h hr (by intro z; cases z)) h))
  · exact .inl (.inr ⟨o, e _ _ (ne_of h hr (by intro z; cases z)) h⟩)
  · exact .inr h
theorem len1000 {L : List Nat} (h : L.length ≤ 1000) : (S L).length ≤ sizeLine := by
  rw [S_len]
  exact Nat.le_trans h (by decide)
theorem no_m (m : String) (L n b k) (h : (decide ((m : Str) = "text") || decide ((m : Str) = "at") || decide ((m : Str) = "has_holes") || decide ((m : Str) = "stack")) = false) : (rf L n b k).lookup (m : Str) = none := by
  simp only [Bool.or_eq_false_iff, decide_eq_false_iff_not] at h
  exact rf_no _ _ _ _ h.1.1.1 h.1.1.2 h.1.2 h.2
section
variable {P : Program} {w : World} {K : PySem.W.Frag} {mg : Str → Option Value} {base : Heap} {C fI aWORDS aTURNED aBLOCKS : Addr} {fdI : FuncData}
/-! ### here -/
def spHere (C : Addr) : Sp := fun vs H Q _ => ∃ (r k : Addr) (L : List Nat) (n c : Nat) (b : Bool), vs = [.ref r] ∧ RdAt C H r L n b k ∧ L.length ≤ 1000 ∧ L[n]? = some c ∧ Q (.str (S [c])) H
theorem M_here (T : Tx K w mg C fI aWORDS aTURNED aBLOCKS fdI) : Mf P w K mg base C 1 "here" ["self"] (spHere C) := by
  refine mf_mk T.m_here sc_Reading_here (fun vs H Q E h => ?_) (fun f cdv A outer s H vs Q E hr h => ?_)
  · obtain ⟨r, k, L, n, c, b, rfl, _⟩ := h
    rfl
  · obtain ⟨r, k, L, n, c, b, rfl, ⟨dx, h1⟩, hL, hc, q⟩ := h
    refine ⟨_, (pss_cons (ps_if (pt_cmpR op_ge (pe_fld (pv 0) rfl) (pe_callB call_len_str (by rfl) T.b_len PySem.boot_len (pa_cons (pe_fld (pv 0) rfl) pa_nil)) (nomark _)) (pss_one ps_never) pss_nil)
  (pss_one (ps_ret (pe_ix ix_str (pe_fld (pv 0) rfl) (pe_fld (pv 0) rfl) (fun _ _ => rfl))))), ?_⟩
    have hn : n < L.length := (List.getElem?_eq_some_iff.mp hc).1
    refine ⟨_, rfl, r, C, dx, _, _, rfl, h1, T.cl, T.n_at, rf_at _ _ _ _, _, rfl, r, C, dx, _, _, rfl, h1, T.cl, T.n_text, rf_text _ _ _ _, _, rfl, len1000 hL, _, _, rfl, rfl, _, rfl, ?_⟩
    rw [S_len, decide_eq_false (by omega)]
    refine iteF ?_
    exact ⟨_, rfl, r, C, dx, _, _, rfl, h1, T.cl, T.n_text, rf_text _ _ _ _, _, rfl, r, C, dx, _, _, rfl, h1, T.cl, T.n_at, rf_at _ _ _ _, _, _, c, rfl, rfl, len1000 hL, by rw [S_list]; exact at_code hc, q⟩
/-! ### go_by -/
def spGoBy (C : Addr) : Sp := fun vs H Q _ => ∃ (r k : Addr) (L g rem : List Nat) (n : Nat) (b : Bool), vs = [.ref r, .str (S g)] ∧ RdAt C H r L n b k ∧ L.length ≤ 1000 ∧ L.drop n = g ++ rem ∧
  ∀ H', RdAt C H' r L (n + g.length) b k → SameB r H H' → Q .non H'
theorem drop_at {L g rem : List Nat} {n i c : Nat} (h : L.drop n = g ++ rem) (hc : g[i]? = some c) : L[n + i]? = some c := by
  rw [← List.getElem?_drop, h, List.getElem?_append_left (List.getElem?_eq_some_iff.mp hc).1]
  exact hc
theorem M_go_by (T : Tx K w mg C fI aWORDS aTURNED aBLOCKS fdI) : Mf P w K mg base C 2 "go_by" ["self", "signs"] (spGoBy C) := by
  have M_here : Mf P w K mg base C 1 "here" ["self"] (spHere C) := M_here T
  refine mf_mk T.m_go_by sc_Reading_go_by (fun vs H Q E h => ?_) (fun f cdv A outer s H vs Q E hr h => ?_)
  · obtain ⟨r, k, L, g, rem, n, b, rfl, _⟩ := h
    rfl
  · obtain ⟨r, k, L, g, rem, n, b, rfl, hr0, hL, hd, q⟩ := h
    refine ⟨_, (pss_one (ps_for PassesOwn.never rfl (pi_str (pv 1)) (pg_name (i := 2) sc_Reading_go_by.nd rfl (Or.inl rfl))
  (pss_cons (ps_if (pt_cmpR op_ne (pe_methG0 (pv 0) T.cl M_here (hr.mono (by decide))) (pv 2) (nomark _)) (pss_one ps_never) pss_nil)
  (pss_one (ps_fldaug (pv 0) pe_int in_add))))), ?_⟩
    refine ⟨_, rfl, _, rfl, for_str (x := S g) (fun i σ H1 => (∃ v, σ = [some (.ref r), some (.str (S g)), v]) ∧ RdAt C H1 r L (n + i) b k ∧ SameB r H H1) ⟨⟨none, rfl⟩, hr0, SameB.refl r H⟩ (fun i c σ H1 hc ⟨⟨v, e⟩, ⟨dx, h1⟩, s1⟩ => ?_) (fun σ H1 ⟨_, h1, s1⟩ => ?_)⟩
    · subst e
      rw [S_list] at hc
      refine ⟨_, rfl, r, dx, _, rfl, h1, no_m "here" _ _ _ _ (by decide +kernel), r, k, L, n + i, c, b, rfl, ⟨dx, h1⟩, hL, drop_at hd hc, _, rfl, rfl, _, rfl, ?_⟩
      rw [dec_V, decide_eq_true rfl]
      refine iteF ?_
      refine ⟨_, rfl, r, C, dx, _, _, rfl, h1, T.cl, T.n_at, rf_at _ _ _ _, _, _, rfl, rfl, dx, _, h1, (by show 4 < 1000; decide), ⟨_, rfl⟩, ⟨dx, ?_⟩, s1.upd⟩
      rw [upd_same]
      show some (HO.ins C dx (putF "at" (.int (((n + i : Nat) : Int) + 1)) (rf L (n + i) b k))) = _
      rw [rf_put1]
      rfl
    · rw [S_list] at h1
      exact q _ h1 s1
end
end Dh
namespace Dh
open PySem PySem.Spec PyProof.Rows L2
section
variable {P : Program} {w : World} {K : PySem.W.Frag} {mg : Str → Option Value} {base : Heap} {C fI aWORDS aTURNED aBLOCKS : Addr} {fdI : FuncData}
/-! ### are_all_there: of no names -/
def spAllThere (K : PySem.W.Frag) : Sp := fun vs H Q _ => ∃ (z : List Nat) (o : Addr), vs = [.str (S z), .ref o] ∧ z.length ≤ 8 ∧ (SqL K H o [] ∨ SqT K H o []) ∧ ∀ H', Same H H' → Q (.bl false) H'
theorem len26 : (("abcdefghijklmnopqrstuvwxyz" : Str)).length = 26 := by decide +kernel
theorem G_are_all_there (T : Tx K w mg C fI aWORDS aTURNED aBLOCKS fdI) : Gf P w K mg base 1 "are_all_there" ["begin", "others"] (spAllThere K) := by
  refine gf_mk T.d_are_all_there sc_are_all_there (fun vs H Q E h => ?_) (fun f cdv A outer s H vs Q E hr h => ?_)
  · obtain ⟨z, o, rfl, _⟩ := h
    rfl
  · obtain ⟨z, o, rfl, hz, ho, q⟩ := h
    have hlz : (S z).length ≤ sizeLine := by rw [S_len]; exact Nat.le_trans hz (by decide)
    have body : ∀ (t : TS), (∀ (m : Int) (v : Option V) (H1 : Hp), H1 = H → 1 ≤ m → t { nx := fun _ H' => Q .non H', rt := Q } [some (.str (S z)), some (.ref o), some (.int m), v, none] H1) →
        tFor (iRng1 (tCons (tOp (rI0 fun i j => V.int (i + j)) (tOp (rI0 fun i j => V.int (i - j)) (tC (.int 8)) (tCB (fun xs H Q => ∃ z, xs = [.str z] ∧ z.length ≤ sizeLine ∧ Q (.int z.length) H) (tCons (tVar 0) tNil))) (tC (.int 1))) tNil)) (gName 3)
          (tAsg (tOp (rI0 fun i j => V.int (i + j)) (tOp (rI CMul fun i j => V.int (i * j)) (tCB (fun xs H Q => ∃ z, xs = [.str z] ∧ z.length ≤ sizeLine ∧ Q (.int z.length) H) (tCons (tC (.str "abcdefghijklmnopqrstuvwxyz")) tNil)) (tVar 2)) (tC (.int 1))) (gName 2))
          { nx := t { nx := fun _ H' => Q .non H', rt := Q }, rt := Q } [some (.str (S z)), some (.ref o), some (.int 0), none, none] H := by
      intro t ht
      refine ⟨_, rfl, _, rfl, hlz, _, _, rfl, rfl, _, _, rfl, rfl, _, rfl, ?_, ?_, ?_⟩
      · rw [S_len]; omega
      · rw [S_len]; omega
      · refine for_range (lo := 0) (n := (8 - ((S z).length : Int) + 1).toNat) (fun i σ H1 => H1 = H ∧ ∃ (m : Int) (v : Option V), σ = [some (.str (S z)), some (.ref o), some (.int m), v, none] ∧ 0 ≤ m ∧ (1 ≤ i → 1 ≤ m)) ⟨rfl, 0, none, rfl, by omega, by omega⟩ (fun i σ H1 hi ⟨e, m, v, e2, h0, _⟩ => ?_) (fun σ H1 ⟨e, m, v, e2, h0, h1⟩ => ?_)
        · subst e2
          refine ⟨_, rfl, by rw [len26]; decide, _, rfl, _, _, rfl, rfl, .inl ⟨?_, ?_⟩, _, _, rfl, rfl, e, _, _, rfl, ?_, fun _ => ?_⟩
          · rw [len26]; decide
          · rw [len26]; decide
          · rw [len26]; omega
          · rw [len26]; omega
        · subst e2
          refine ht m v H1 e (h1 ?_)
          rw [S_len]
          omega
    rcases ho with ho | ho
    · refine ⟨_, (pss_cons (ps_set (i := 2) sc_are_all_there.nd rfl (Or.inl rfl) pe_int)
  (pss_cons (ps_for PassesOwn.never rfl (pi_range1 (by rfl) T.b_range (pa_cons (pe_op op_add (pe_op op_sub (pe_gI (by rfl) T.gMOST_SIGNS) (pe_callB call_len_str (by rfl) T.b_len PySem.boot_len (pa_cons (pv 0) pa_nil))) pe_int) pa_nil)) (pg_name (i := 3) sc_are_all_there.nd rfl (Or.inl rfl))
  (pss_one (ps_set (i := 2) sc_are_all_there.nd rfl (Or.inl rfl) (pe_op op_add (pe_op op_mul (pe_callB call_len_str (by rfl) T.b_len PySem.boot_len (pa_cons (pe_gS (by rfl) T.gLETTERS) pa_nil)) (pv 2)) pe_int))))
  (pss_one (ps_ret (pe_cmpR op_eq (pe_callB call_len_seq (by rfl) T.b_len PySem.boot_len (pa_cons (pe_lc (own := [("name", 4)]) rfl sc_are_all_there.nd (pi_list (pv 1)) (blkOk_by (by kernel_rfl)) (fun _ _ _ _ _ => (pg_name (i := 4) sc_are_all_there.nd rfl (Or.inl rfl))) (fun _ _ _ _ _ => (pts_one (pt_cmpR op_eq (pe_slice sl_str (pv 4) po_none (po_some (pe_callB call_len_str (by rfl) T.b_len PySem.boot_len (pa_cons (pv 0) pa_nil)))) (pv 0) (nomark _)))) (fun _ _ _ _ _ => (pv 4))) pa_nil)) (pv 2) (nomark _)))))), ?_⟩
      refine body _ fun m v H1 e hm => ?_
      subst e
      refine ⟨_, rfl, o, rfl, ⟨_, ho⟩, fun D hD => ?_⟩
      refine lc_list (K := K) (a := o) (xs := []) (fun i H2 => Same H1 H2 ∧ H2 D = some (.lst [])) ⟨same_new hD, upd_same⟩ (fun i H2 _ ⟨s2, _⟩ => s2.seq ho) (fun i x H2 hx _ => by simp at hx) (fun H2 ⟨s2, h2⟩ => ?_)
      refine ⟨D, [], rfl, .inl (SqL.of h2), _, rfl, rfl, ?_⟩
      rw [dec_Vi, decide_eq_false (by simp; omega)]
      exact q _ s2
    · refine ⟨_, (pss_cons (ps_set (i := 2) sc_are_all_there.nd rfl (Or.inl rfl) pe_int)
  (pss_cons (ps_for PassesOwn.never rfl (pi_range1 (by rfl) T.b_range (pa_cons (pe_op op_add (pe_op op_sub (pe_gI (by rfl) T.gMOST_SIGNS) (pe_callB call_len_str (by rfl) T.b_len PySem.boot_len (pa_cons (pv 0) pa_nil))) pe_int) pa_nil)) (pg_name (i := 3) sc_are_all_there.nd rfl (Or.inl rfl))
  (pss_one (ps_set (i := 2) sc_are_all_there.nd rfl (Or.inl rfl) (pe_op op_add (pe_op op_mul (pe_callB call_len_str (by rfl) T.b_len PySem.boot_len (pa_cons (pe_gS (by rfl) T.gLETTERS) pa_nil)) (pv 2)) pe_int))))
  (pss_one (ps_ret (pe_cmpR op_eq (pe_callB call_len_seq (by rfl) T.b_len PySem.boot_len (pa_cons (pe_lc (own := [("name", 4)]) rfl sc_are_all_there.nd (pi_tup (pv 1)) (blkOk_by (by kernel_rfl)) (fun _ _ _ _ _ => (pg_name (i := 4) sc_are_all_there.nd rfl (Or.inl rfl))) (fun _ _ _ _ _ => (pts_one (pt_cmpR op_eq (pe_slice sl_str (pv 4) po_none (po_some (pe_callB call_len_str (by rfl) T.b_len PySem.boot_len (pa_cons (pv 0) pa_nil)))) (pv 0) (nomark _)))) (fun _ _ _ _ _ => (pv 4))) pa_nil)) (pv 2) (nomark _)))))), ?_⟩
      refine body _ fun m v H1 e hm => ?_
      subst e
      refine ⟨_, rfl, o, rfl, ⟨_, ho⟩, fun D hD => ?_⟩
      refine lc_tup (K := K) (a := o) (xs := []) (fun i H2 => Same H1 H2 ∧ H2 D = some (.lst [])) ⟨same_new hD, upd_same⟩ (fun i H2 _ ⟨s2, _⟩ => same_seqT s2 ho) (fun i x H2 hx _ => by simp at hx) (fun H2 ⟨s2, h2⟩ => ?_)
      refine ⟨D, [], rfl, .inl (SqL.of h2), _, rfl, rfl, ?_⟩
      rw [dec_Vi, decide_eq_false (by simp; omega)]
      exact q _ s2
end
end Dh
namespace Dh
open PySem PySem.Spec PyProof.Rows L2
theorem isName_len {g : List Nat} (h : isName g = true) : 1 ≤ g.length ∧ g.length ≤ 8 ∧ ∀ c ∈ g, c ∈ LETL := by
  unfold isName madeOf at h
  rw [Bool.and_eq_true, Bool.and_eq_true] at h
  have h1 := of_decide_eq_true h.1.1
  have h2 := of_decide_eq_true h.1.2
  refine ⟨by omega, by omega, fun c hc => ?_⟩
  exact of_decide_eq_true (List.all_eq_true.mp h.2 c hc)
theorem SemptyS : (Str.ofString "" : Str) = S [] := by decide +kernel
theorem drop_len {L g rem : List Nat} {n : Nat} (h : L.drop n = g ++ rem) (hg : 1 ≤ g.length) : n + g.length ≤ L.length := by
  have := congrArg List.length h
  rw [List.length_drop, List.length_append] at this
  omega
theorem take_of_drop {L g rem : List Nat} {n : Nat} (h : L.drop n = g ++ rem) (i : Nat) (hi : i ≤ g.length) : (L.drop n).take (n + i - n) = g.take i := by
  rw [h, Nat.add_sub_cancel_left, List.take_append_of_le_length hi]
theorem gen_while {c : TT} {tb : TS} {D : Ends} {σ : L2.St} {H : Hp} (h : ∀ D', D' = D → tWhile c tb D' σ H) : tWhile c tb D σ H := h D rfl
section
variable {P : Program} {w : World} {K : PySem.W.Frag} {mg : Str → Option Value} {base : Heap} {C fI aWORDS aTURNED aBLOCKS : Addr} {fdI : FuncData}
/-! ### name_unlike: unlike no others -/
def spNameUnlike (K : PySem.W.Frag) (C : Addr) : Sp := fun vs H Q _ => ∃ (r k o : Addr) (L g rem : List Nat) (n c : Nat) (b : Bool), vs = [.ref r, .ref o] ∧ RdAt C H r L n b k ∧ (SqL K H o [] ∨ SqT K H o []) ∧ L.length ≤ 1000 ∧
  L.drop n = g ++ c :: rem ∧ isName g = true ∧ c ∉ LETL ∧ ∀ H', RdAt C H' r L (n + g.length) b k → SameB r H H' → Q (.str (S g)) H'
theorem M_name_unlike (T : Tx K w mg C fI aWORDS aTURNED aBLOCKS fdI) : Mf P w K mg base C 2 "name_unlike" ["self", "others"] (spNameUnlike K C) := by
  have M_here : Mf P w K mg base C 1 "here" ["self"] (spHere C) := M_here T
  have G_are_all_there : Gf P w K mg base 1 "are_all_there" ["begin", "others"] (spAllThere K) := G_are_all_there T
  refine mf_mk T.m_name_unlike sc_Reading_name_unlike (fun vs H Q E h => ?_) (fun f cdv A outer s H vs Q E hr h => ?_)
  · obtain ⟨r, k, o, L, g, rem, n, c, b, rfl, _⟩ := h
    rfl
  · obtain ⟨r, k, o, L, g, rem, n, c, b, rfl, ⟨dx, h0⟩, ho, hL, hd, hg, hc, q⟩ := h
    obtain ⟨g1, g8, gl⟩ := isName_len hg
    have hgo : ∀ H1, SameB r H H1 → (SqL K H1 o [] ∨ SqT K H1 o []) := fun H1 s1 => ho.imp (fun z => s1.seqL h0 z) fun z => s1.seqT h0 z
    refine ⟨_, (pss_cons (ps_set (i := 2) sc_Reading_name_unlike.nd rfl (Or.inl rfl) (pe_fld (pv 0) rfl))
  (pss_cons (ps_while PassesOwn.never (PW.pt (pw_and (pt_cmpR op_lt (pe_op op_sub (pe_fld (pv 0) rfl) (pv 2)) (pe_gI (by rfl) T.gMOST_SIGNS) (nomark _)) (pw_and1 (pt_cmpR op_in_sign (pe_methG0 (pv 0) T.cl M_here (hr.mono (by decide))) (pe_gS (by rfl) T.gLETTERS) (by rfl)))))
  (pss_cons (ps_fldaug (pv 0) pe_int in_add)
  (pss_one (ps_if (pt_val (pe_callG G_are_all_there (hr.mono (by decide)) (by rfl) (pa_cons (pe_slice sl_str (pe_fld (pv 0) rfl) (po_some (pv 2)) (po_some (pe_fld (pv 0) rfl))) (pa_cons (pv 1) pa_nil)))) (pss_one ps_never) pss_nil))))
  (pss_cons (ps_set (i := 3) sc_Reading_name_unlike.nd rfl (Or.inl rfl) (pe_slice sl_str (pe_fld (pv 0) rfl) (po_some (pv 2)) (po_some (pe_fld (pv 0) rfl))))
  (pss_cons (ps_if (PW.pt (pw_or (pt_cmpR op_eq (pv 3) pe_str (nomark _)) (pw_or1 (pt_cmpR op_in_seq (pv 3) (pv 1) (by rfl))))) (pss_one ps_never) pss_nil)
  (pss_one (ps_ret (pv 3))))))), ?_⟩
    refine ⟨_, rfl, r, C, dx, _, _, rfl, h0, T.cl, T.n_at, rf_at _ _ _ _, ?_⟩
    refine gen_while fun D eD => ?_
    have fin : ∀ H1, RdAt C H1 r L (n + g.length) b k → SameB r H H1 → D.nx [some (.ref r), some (.ref o), some (.int (n : Nat)), none] H1 := by
      rintro H1 ⟨dx2, h2⟩ s1
      rw [eD]
      refine ⟨_, rfl, r, C, dx2, _, _, rfl, h2, T.cl, T.n_text, rf_text _ _ _ _, _, rfl, _, rfl, _, rfl, r, C, dx2, _, _, rfl, h2, T.cl, T.n_at, rf_at _ _ _ _, _, rfl, _, rfl, len1000 hL, ?_⟩
      rw [cutS_nat (Nat.le_add_right _ _) (drop_len hd g1), take_of_drop hd _ (Nat.le_refl _), List.take_length]
      refine ⟨_, rfl, rfl, _, rfl, ?_⟩
      rw [SemptyS, dec_V, decide_eq_false (by intro z; rw [z] at g1; simp at g1)]
      refine iteF ?_
      refine ⟨_, rfl, _, rfl, o, [], rfl, hgo H1 s1, rfl, rfl, _, rfl, iteF ?_⟩
      exact ⟨_, rfl, q _ ⟨dx2, h2⟩ s1⟩
    refine ⟨fun m σ H1 => ∃ i, m = g.length - i ∧ i ≤ g.length ∧ σ = [some (.ref r), some (.ref o), some (.int (n : Nat)), none] ∧ RdAt C H1 r L (n + i) b k ∧ SameB r H H1, ⟨_, 0, rfl, Nat.zero_le _, rfl, ⟨dx, h0⟩, SameB.refl r H⟩, ?_⟩
    rintro m σ H1 ⟨i, rfl, hi, rfl, ⟨dx1, h1⟩, s1⟩
    refine ⟨_, rfl, r, C, dx1, _, _, rfl, h1, T.cl, T.n_at, rf_at _ _ _ _, _, rfl, _, _, rfl, rfl, _, _, rfl, rfl, _, rfl, ?_⟩
    refine ite2 (fun c1 => ?_) (fun c1 => ?_)
    · have c2 : i < 8 := by
        have := of_decide_eq_true c1
        omega
      by_cases hlt : i < g.length
      · have hgi : g[i]? = some g[i] := List.getElem?_eq_getElem hlt
        have hLi : L[n + i]? = some g[i] := drop_at hd hgi
        have hmem : g[i] ∈ (Str.ofString "abcdefghijklmnopqrstuvwxyz").cps.toList := gl _ (List.getElem_mem hlt)
        refine ⟨_, rfl, r, dx1, _, rfl, h1, no_m "here" _ _ _ _ (by decide +kernel), r, k, L, n + i, g[i], b, rfl, ⟨dx1, h1⟩, hL, hLi, g[i], _, rfl, rfl, _, rfl, ?_⟩
        rw [decide_eq_true hmem]
        refine iteT ?_
        refine ⟨fun σ' H' => σ' = [some (.ref r), some (.ref o), some (.int (n : Nat)), none] ∧ RdAt C H' r L (n + (i + 1)) b k ∧ SameB r H H', fun σ' H' ⟨a, b', c'⟩ => ⟨g.length - (i + 1), by omega, i + 1, rfl, hlt, a, b', c'⟩, ?_⟩
        have h2 : upd H1 r (.ins C dx1 (putF "at" (.int (((n + i : Nat) : Int) + 1)) (rf L (n + i) b k))) r = some (.ins C dx1 (rf L (n + (i + 1)) b k)) := by
          rw [upd_same, rf_put1]
          rfl
        have s2 : SameB r H (upd H1 r (.ins C dx1 (putF "at" (.int (((n + i : Nat) : Int) + 1)) (rf L (n + i) b k)))) := s1.upd
        refine ⟨_, rfl, r, C, dx1, _, _, rfl, h1, T.cl, T.n_at, rf_at _ _ _ _, _, _, rfl, rfl, dx1, _, h1, (by show 4 < 1000; decide), ?_⟩
        refine ⟨_, rfl, r, C, dx1, _, _, rfl, h2, T.cl, T.n_text, rf_text _ _ _ _, _, rfl, _, rfl, _, rfl, r, C, dx1, _, _, rfl, h2, T.cl, T.n_at, rf_at _ _ _ _, _, rfl, _, rfl, len1000 hL, _, rfl, g.take (i + 1), o, ?_, ?_, hgo _ s2, fun H3 s3 => ⟨_, rfl, iteF ⟨rfl, ⟨dx1, s3 _ _ h2⟩, s2.trans (SameB.of s3)⟩⟩⟩
        · rw [cutS_nat (Nat.le_add_right _ _) (Nat.le_trans (Nat.add_le_add_left hlt _) (drop_len hd g1)), take_of_drop hd _ hlt]
        · rw [List.length_take]
          omega
      · have e : i = g.length := by omega
        subst e
        have hLi : L[n + g.length]? = some c := by
          rw [← List.getElem?_drop, hd, List.getElem?_append_right (Nat.le_refl _), Nat.sub_self]
          rfl
        have hmem : ¬ c ∈ (Str.ofString "abcdefghijklmnopqrstuvwxyz").cps.toList := hc
        refine ⟨_, rfl, r, dx1, _, rfl, h1, no_m "here" _ _ _ _ (by decide +kernel), r, k, L, n + g.length, c, b, rfl, ⟨dx1, h1⟩, hL, hLi, c, _, rfl, rfl, _, rfl, ?_⟩
        rw [decide_eq_false hmem]
        exact iteF (fin H1 ⟨dx1, h1⟩ s1)
    · have e : i = g.length := by
        have : ¬ (((n + i : Nat) : Int) - (n : Int) < 8) := fun z => c1 (decide_eq_true z)
        omega
      subst e
      exact iteF (fin H1 ⟨dx1, h1⟩ s1)
end
end Dh
namespace Dh
open PySem PySem.Spec PyProof.Rows L2
abbrev WD : List (Str × Str) := [("lt;", "<"), ("gt;", ">"), ("amp;", "&"), ("quot;", "\"")]
/-- the word behind the & of one of the four -/
def wordOf (c : Nat) : List Nat := if c = 60 then [108, 116, 59] else if c = 62 then [103, 116, 59] else if c = 38 then [97, 109, 112, 59] else [113, 117, 111, 116, 59]
def isSp (c : Nat) : Bool := decide (c = 60) || decide (c = 62) || decide (c = 38) || decide (c = 34)
def enc (c : Nat) : List Nat := if isSp c = true then 38 :: wordOf c else [c]
theorem isSp_cases {c : Nat} (h : isSp c = true) : c = 60 ∨ c = 62 ∨ c = 38 ∨ c = 34 := by
  unfold isSp at h
  simp only [Bool.or_eq_true, decide_eq_true_eq] at h
  omega
theorem word_len {c : Nat} : (wordOf c).length ≤ 5 := by
  unfold wordOf
  split
  · decide
  · split
    · decide
    · split <;> decide
theorem word_none (c : Nat) (h : isSp c = true) (i : Nat) (hi : i < (wordOf c).length) : kwGet WD (S ((wordOf c).take i)) = none := by
  have : ∀ c ∈ [60, 62, 38, 34], ∀ i < (wordOf c).length, kwGet WD (S ((wordOf c).take i)) = none := by decide +kernel
  refine this c ?_ i hi
  rcases isSp_cases h with rfl | rfl | rfl | rfl <;> simp
theorem word_some (c : Nat) (h : isSp c = true) : kwGet WD (S (wordOf c)) = some (S [c]) := by
  have : ∀ c ∈ [60, 62, 38, 34], kwGet WD (S (wordOf c)) = some (S [c]) := by decide +kernel
  refine this c ?_
  rcases isSp_cases h with rfl | rfl | rfl | rfl <;> simp
theorem word_any (c : Nat) (h : isSp c = true) (i : Nat) (hi : i < (wordOf c).length) : (WD.map fun p => decide (V.str (cutS p.1 none (some (((i + 1 : Nat) : Int)))) = V.str (S ((wordOf c).take (i + 1))))).any id = true := by
  have : ∀ c ∈ [60, 62, 38, 34], ∀ i < (wordOf c).length, (WD.map fun p => decide (V.str (cutS p.1 none (some (((i + 1 : Nat) : Int)))) = V.str (S ((wordOf c).take (i + 1))))).any id = true := by decide +kernel
  refine this c ?_ i hi
  rcases isSp_cases h with rfl | rfl | rfl | rfl <;> simp
theorem wd_len : ∀ p ∈ WD, p.1.length ≤ 1000 := by decide +kernel
theorem wd_vals (c : Nat) : ((WD.map (·.2)).any fun z => decide (z = S [c])) = isSp c := by
  have e : (WD.map (·.2)) = [S [60], S [62], S [38], S [34]] := by decide +kernel
  rw [e]
  simp only [List.any_cons, List.any_nil, S_eq, Bool.or_false]
  unfold isSp
  simp [eq_comm, Bool.or_assoc]
theorem amp_S : (Str.ofString "&" : Str) = S [38] := by decide +kernel
theorem sp_signs : ∀ c, isSp c = true → c ∈ SIGNSL := by
  intro c h
  have : ∀ c ∈ [60, 62, 38, 34], c ∈ SIGNSL := by decide +kernel
  refine this c ?_
  rcases isSp_cases h with rfl | rfl | rfl | rfl <;> simp
section
variable {P : Program} {w : World} {K : PySem.W.Frag} {mg : Str → Option Value} {base : Heap} {C fI aWORDS aTURNED aBLOCKS : Addr} {fdI : FuncData}
/-! ### sign_there, out of a template -/
def spSignThere (C : Addr) : Sp := fun vs H Q _ => ∃ (r k : Addr) (L rem : List Nat) (n c : Nat), vs = [.ref r] ∧ RdAt C H r L n false k ∧ L.length ≤ 1000 ∧ L.drop n = enc c ++ rem ∧ c ∈ SIGNSL ∧
  ∀ H', RdAt C H' r L (n + (enc c).length) false k → SameB r H H' → Q (.str (S [c])) H'
theorem M_sign_there (T : Tx K w mg C fI aWORDS aTURNED aBLOCKS fdI) : Mf P w K mg base C 2 "sign_there" ["self"] (spSignThere C) := by
  have M_here : Mf P w K mg base C 1 "here" ["self"] (spHere C) := M_here T
  have G_is_sign : Gf P w K mg base 1 "is_sign" ["sign"] spIsSign := G_is_sign T
  refine mf_mk T.m_sign_there sc_Reading_sign_there (fun vs H Q E h => ?_) (fun f cdv A outer s H vs Q E hr h => ?_)
  · obtain ⟨r, k, L, rem, n, c, rfl, _⟩ := h
    rfl
  · obtain ⟨r, k, L, rem, n, c, rfl, ⟨dx, h0⟩, hL, hd, hc, q⟩ := h
    refine ⟨_, (pss_cons (ps_set (i := 1) sc_Reading_sign_there.nd rfl (Or.inl rfl) (pe_methG0 (pv 0) T.cl M_here (hr.mono (by decide))))
  (pss_cons (ps_if (PW.pt (pw_or (PW.pt (pw_and (pt_cmp (pc_inVals rfl (pv 1) (pe_gR (by rfl) T.gWORDS)) (by rfl)) (pw_and1 (pt_cmpR op_ne (pv 1) pe_str (nomark _))))) (pw_or (pt_not (pt_val (pe_callG G_is_sign (hr.mono (by decide)) (by rfl) (pa_cons (pv 1) pa_nil)))) (pw_or1 (PW.pt (pw_and (pt_val (pe_fld (pv 0) rfl)) (pw_and1 (pt_cmpR op_in_sign (pv 1) pe_str (by rfl))))))))) (pss_one ps_never) pss_nil)
  (pss_cons (ps_fldaug (pv 0) pe_int in_add)
  (pss_cons (ps_if (pt_cmpR op_ne (pv 1) pe_str (nomark _)) (pss_one (ps_ret (pv 1))) pss_nil)
  (pss_cons (ps_set (i := 2) sc_Reading_sign_there.nd rfl (Or.inl rfl) (pe_fld (pv 0) rfl))
  (pss_cons (ps_while PassesOwn.never (pt_cmpR op_notIn_kw (pe_slice sl_str (pe_fld (pv 0) rfl) (po_some (pv 2)) (po_some (pe_fld (pv 0) rfl))) (pe_gR (by rfl) T.gWORDS) (by rfl))
  (pss_cons (ps_set (i := 3) sc_Reading_sign_there.nd rfl (Or.inr rfl) (pe_op op_add_str (pe_slice sl_str (pe_fld (pv 0) rfl) (po_some (pv 2)) (po_some (pe_fld (pv 0) rfl))) (pe_methG0 (pv 0) T.cl M_here (hr.mono (by decide)))))
  (pss_cons (ps_if (pt_not (pt_val (pe_callB (cr_any rfl) (by rfl) T.b_any (by decide +kernel) (pa_cons (pe_lc (own := [("word", 4)]) rfl sc_Reading_sign_there.nd (pi_kw (pe_gR (by rfl) T.gWORDS)) (blkOk_by (by kernel_rfl)) (fun _ _ _ _ _ => (pg_name (i := 4) sc_Reading_sign_there.nd rfl (Or.inl rfl))) (fun _ _ _ _ _ => pts_nil) (fun _ _ _ _ _ => (pe_cmpR op_eq (pe_slice sl_str (pv 4) po_none (po_some (pe_callB call_len_str (by rfl) T.b_len PySem.boot_len (pa_cons (pv 3) pa_nil)))) (pv 3) (nomark _)))) pa_nil)))) (pss_one ps_never) pss_nil)
  (pss_one (ps_fldaug (pv 0) pe_int in_add)))))
  (pss_one (ps_ret (pe_ix ix_kw (pe_gR (by rfl) T.gWORDS) (pe_slice sl_str (pe_fld (pv 0) rfl) (po_some (pv 2)) (po_some (pe_fld (pv 0) rfl))) (fun _ _ => rfl)))))))))), ?_⟩
    by_cases hsp : isSp c = true
    · have he : enc c = 38 :: wordOf c := by unfold enc; rw [if_pos hsp]
      rw [he] at hd q
      have hn : L[n]? = some 38 := drop_at (g := 38 :: wordOf c) (i := 0) hd rfl
      have hd1 : L.drop (n + 1) = wordOf c ++ rem := by
        rw [← List.drop_drop, hd]
        rfl
      -- sign = self.here(), the tests
      refine ⟨_, rfl, r, dx, _, rfl, h0, no_m "here" _ _ _ _ (by decide +kernel), r, k, L, n, 38, false, rfl, ⟨dx, h0⟩, hL, hn, ?_⟩
      refine ⟨_, rfl, _, _, WD, rfl, rfl, T.kwWORDS, _, rfl, ?_⟩
      rw [wd_vals, show isSp 38 = true by decide]
      refine iteT ?_
      refine ⟨_, rfl, rfl, _, rfl, ?_⟩
      rw [amp_S, dec_V, decide_eq_true rfl]
      refine iteF ?_
      refine ⟨_, rfl, 38, rfl, _, rfl, ?_⟩
      rw [decide_eq_true (sp_signs 38 (by decide))]
      refine iteF ?_
      refine ⟨_, rfl, r, C, dx, _, _, rfl, h0, T.cl, T.n_has_holes, rf_hh _ _ _ _, _, rfl, iteF (iteF ?_)⟩
      -- self.at += 1
      have h1 : upd H r (.ins C dx (putF "at" (.int ((n : Int) + 1)) (rf L n false k))) r = some (.ins C dx (rf L (n + 1) false k)) := by
        rw [upd_same, rf_put1]
      have s1 : SameB r H (upd H r (.ins C dx (putF "at" (.int ((n : Int) + 1)) (rf L n false k)))) := (SameB.refl r H).upd
      refine ⟨_, rfl, r, C, dx, _, _, rfl, h0, T.cl, T.n_at, rf_at _ _ _ _, _, _, rfl, rfl, dx, _, h0, (by show 4 < 1000; decide), ?_⟩
      refine ⟨_, rfl, rfl, _, rfl, ?_⟩
      rw [dec_V, decide_eq_true rfl]
      refine iteF ?_
      -- begin = self.at
      refine ⟨_, rfl, r, C, dx, _, _, rfl, h1, T.cl, T.n_at, rf_at _ _ _ _, ?_⟩
      refine gen_while fun D eD => ?_
      refine ⟨fun m σ H1 => ∃ i v, m = (wordOf c).length - i ∧ i ≤ (wordOf c).length ∧ σ = [some (.ref r), some (.str (S [38])), some (.int ((n + 1 : Nat) : Int)), v, none] ∧ RdAt C H1 r L (n + 1 + i) false k ∧ SameB r H H1, ⟨_, 0, none, rfl, Nat.zero_le _, rfl, ⟨dx, h1⟩, s1⟩, ?_⟩
      rintro m σ H1 ⟨i, v, rfl, hi, rfl, ⟨dx1, h2⟩, s2⟩
      have hcut : cutS (S L) (some (((n + 1 : Nat) : Int))) (some (((n + 1 + i : Nat) : Int))) = S ((wordOf c).take i) := by
        have : n + 1 + (wordOf c).length ≤ L.length := drop_len hd1 (by unfold wordOf; split; decide; split; decide; split <;> decide)
        rw [cutS_nat (Nat.le_add_right _ _) (by omega), take_of_drop hd1 _ hi]
      refine ⟨_, rfl, r, C, dx1, _, _, rfl, h2, T.cl, T.n_text, rf_text _ _ _ _, _, rfl, _, rfl, _, rfl, r, C, dx1, _, _, rfl, h2, T.cl, T.n_at, rf_at _ _ _ _, _, rfl, _, rfl, len1000 hL, _, _, WD, rfl, rfl, T.kwWORDS, _, rfl, ?_⟩
      rw [hcut]
      by_cases hlt : i < (wordOf c).length
      · rw [word_none c hsp i hlt]
        refine iteT ?_
        have hgi : (wordOf c)[i]? = some (wordOf c)[i] := List.getElem?_eq_getElem hlt
        have hLi : L[n + 1 + i]? = some (wordOf c)[i] := drop_at hd1 hgi
        refine ⟨fun σ' H' => ∃ v, σ' = [some (.ref r), some (.str (S [38])), some (.int ((n + 1 : Nat) : Int)), v, none] ∧ RdAt C H' r L (n + 1 + (i + 1)) false k ∧ SameB r H H', fun σ' H' ⟨v, a, b', c'⟩ => ⟨(wordOf c).length - (i + 1), by omega, i + 1, v, rfl, hlt, a, b', c'⟩, ?_⟩
        refine ⟨_, rfl, r, C, dx1, _, _, rfl, h2, T.cl, T.n_text, rf_text _ _ _ _, _, rfl, _, rfl, _, rfl, r, C, dx1, _, _, rfl, h2, T.cl, T.n_at, rf_at _ _ _ _, _, rfl, _, rfl, len1000 hL, ?_⟩
        refine ⟨_, rfl, r, dx1, _, rfl, h2, no_m "here" _ _ _ _ (by decide +kernel), r, k, L, n + 1 + i, (wordOf c)[i], false, rfl, ⟨dx1, h2⟩, hL, hLi, _, _, rfl, rfl, ?_, ?_⟩
        · rw [hcut, S_len, S_len]
          have := word_len (c := c)
          rw [List.length_take]
          exact Nat.le_trans (m := 100) (by show _ + 1 ≤ 100; omega) (by decide)
        · have hf : cutS (S L) (some (((n + 1 : Nat) : Int))) (some (((n + 1 + i : Nat) : Int))) ++ S [(wordOf c)[i]] = S ((wordOf c).take (i + 1)) := by
            rw [hcut, S_app, take_snoc hgi]
          rw [hf]
          have hfl : (S ((wordOf c).take (i + 1))).length = i + 1 := by
            rw [S_len, List.length_take]
            omega
          refine ⟨_, WD, rfl, T.kwWORDS, fun D2 hD2 => ?_⟩
          refine lc_kw (d := aWORDS) (kvs := WD) (fun j H3 => Same H1 H3 ∧ H3 D2 = some (.lst ((WD.take j).map fun p => .bl (decide (V.str (cutS p.1 none (some (((i + 1 : Nat) : Int)))) = V.str (S ((wordOf c).take (i + 1)))))))) ⟨same_new hD2, upd_same⟩ (fun j p H3 hp ⟨s3, h3⟩ => ?_) (fun H3 ⟨s3, h3⟩ => ?_)
          · refine ⟨rfl, ?_⟩
            refine ⟨_, rfl, _, rfl, _, rfl, by rw [hfl]; have := word_len (c := c); exact Nat.le_trans (m := 100) (by omega) (by decide), _, rfl, _, rfl, Nat.le_trans (wd_len p (List.mem_of_getElem? hp)) (by decide), _, rfl, rfl, _, h3, ?_, same_mut s3 hD2, ?_⟩
            · rw [List.length_map, List.length_take]
              exact Nat.lt_of_le_of_lt (Nat.min_le_right _ _) (by decide)
            · rw [upd_same, take_snoc hp, List.map_append]
              have e : (((S ((wordOf c).take (i + 1))).length : Nat) : Int) = ((i + 1 : Nat) : Int) := by rw [hfl]
              rw [e]
              rfl
          · rw [List.take_length] at h3
            refine ⟨D2, WD.map fun p => decide (V.str (cutS p.1 none (some (((i + 1 : Nat) : Int)))) = V.str (S ((wordOf c).take (i + 1)))), rfl, SqL.of (by rw [List.map_map]; exact h3), _, rfl, ?_⟩
            rw [word_any c hsp i hlt]
            refine iteF ?_
            have h4 : H3 r = some (.ins C dx1 (rf L (n + 1 + i) false k)) := s3 _ _ h2
            refine ⟨_, rfl, r, C, dx1, _, _, rfl, h4, T.cl, T.n_at, rf_at _ _ _ _, _, _, rfl, rfl, dx1, _, h4, (by show 4 < 1000; decide), ⟨_, rfl, ⟨dx1, ?_⟩, (s2.trans (SameB.of s3)).upd⟩⟩
            rw [upd_same, rf_put1]
            rfl
      · have e : i = (wordOf c).length := by omega
        subst e
        rw [List.take_length, word_some c hsp]
        refine iteF ?_
        rw [eD]
        refine ⟨_, rfl, r, C, dx1, _, _, rfl, h2, T.cl, T.n_text, rf_text _ _ _ _, _, rfl, _, rfl, _, rfl, r, C, dx1, _, _, rfl, h2, T.cl, T.n_at, rf_at _ _ _ _, _, rfl, _, rfl, len1000 hL, aWORDS, _, S [c], WD, rfl, rfl, T.kwWORDS, ?_, q _ ⟨dx1, ?_⟩ s2⟩
        · rw [hcut, List.take_length]
          exact word_some c hsp
        · rw [h2]
          have e : n + 1 + (wordOf c).length = n + (38 :: wordOf c).length := by
            rw [List.length_cons]
            omega
          rw [e]
    · have he : enc c = [c] := by unfold enc; rw [if_neg hsp]
      rw [he] at hd q
      have hn : L[n]? = some c := drop_at (g := [c]) (i := 0) hd rfl
      have hne : c ≠ 38 := fun e => by
        rw [e] at hsp
        exact hsp (by decide)
      refine ⟨_, rfl, r, dx, _, rfl, h0, no_m "here" _ _ _ _ (by decide +kernel), r, k, L, n, c, false, rfl, ⟨dx, h0⟩, hL, hn, ?_⟩
      refine ⟨_, rfl, _, _, WD, rfl, rfl, T.kwWORDS, _, rfl, ?_⟩
      rw [wd_vals, (Bool.not_eq_true _).mp hsp]
      refine iteF (iteF ?_)
      refine ⟨_, rfl, c, rfl, _, rfl, ?_⟩
      rw [decide_eq_true hc]
      refine iteF ?_
      refine ⟨_, rfl, r, C, dx, _, _, rfl, h0, T.cl, T.n_has_holes, rf_hh _ _ _ _, _, rfl, iteF (iteF ?_)⟩
      refine ⟨_, rfl, r, C, dx, _, _, rfl, h0, T.cl, T.n_at, rf_at _ _ _ _, _, _, rfl, rfl, dx, _, h0, (by show 4 < 1000; decide), ?_⟩
      refine ⟨_, rfl, rfl, _, rfl, ?_⟩
      rw [amp_S, dec_V, decide_eq_false (by intro z; exact hne (List.head_eq_of_cons_eq z))]
      refine iteT ?_
      refine ⟨_, rfl, q _ ⟨dx, ?_⟩ (SameB.refl r H).upd⟩
      rw [upd_same, rf_put1]
      rfl
end
end Dh
namespace Dh
open PySem PySem.Spec PyProof.Rows L2
/-! ### the frozen part F of a heap H grows; what else stood in H does not come into it -/
structure Gr (H F H' F' : Hp) : Prop where
  top : Same F' H'
  frz : Same F F'
  new : ∀ b, F b = none → H b ≠ none → F' b = none
  dom : ∀ b, H b ≠ none → H' b ≠ none
theorem Gr.refl {H F : Hp} (s : Same F H) : Gr H F H F := ⟨s, Same.refl F, fun _ h _ => h, fun _ h => h⟩
theorem Gr.trans {H F H1 F1 H2 F2 : Hp} (a : Gr H F H1 F1) (b : Gr H1 F1 H2 F2) : Gr H F H2 F2 :=
  ⟨b.top, a.frz.trans b.frz, fun c h h' => b.new c (a.new c h h') (a.dom c h'), fun c h => b.dom c (a.dom c h)⟩
theorem dom_upd {H : Hp} {p b : Addr} {o : HO} (h : H b ≠ none) : upd H p o b ≠ none := by
  by_cases e : b = p
  · rw [e, upd_same]
    intro z
    cases z
  · rw [upd_ne e]
    exact h
theorem same_upd2 {F H : Hp} {p : Addr} {o : HO} (s : Same F H) : Same (upd F p o) (upd H p o) := fun b u h => by
  by_cases e : b = p
  · subst e
    rw [upd_same] at h ⊢
    exact h
  · rw [upd_ne e] at h ⊢
    exact s b u h
/-- a new thing that will stay -/
theorem Gr.mk2 {H F H1 F1 : Hp} {p : Addr} {o : HO} (a : Gr H F H1 F1) (hp : H1 p = none) : Gr H F (upd H1 p o) (upd F1 p o) :=
  ⟨same_upd2 a.top, a.frz.trans (same_new (a.top.free hp)), fun b h h' => by
    rw [upd_ne (fun e => a.dom b h' (by rw [e]; exact hp))]
    exact a.new b h h', fun b h => dom_upd (a.dom b h)⟩
/-- a new thing that may change -/
theorem Gr.mk1 {H F H1 F1 : Hp} {p : Addr} {o : HO} (a : Gr H F H1 F1) (hp : F1 p = none) : Gr H F (upd H1 p o) F1 :=
  ⟨same_mut a.top hp, a.frz, a.new, fun b h => dom_upd (a.dom b h)⟩
/-- what stands at p, and was not there at first, will change no more -/
theorem Gr.fix {H F H1 F1 : Hp} {p : Addr} {o : HO} (a : Gr H F H1 F1) (h1 : H1 p = some o) (hp : F1 p = none) (h0 : H p = none) : Gr H F H1 (upd F1 p o) :=
  ⟨fun b u h => by
    by_cases e : b = p
    · subst e
      rw [upd_same] at h
      rw [h1]
      exact h
    · rw [upd_ne e] at h
      exact a.top b u h, a.frz.trans (same_new hp), fun b h h' => by
    rw [upd_ne (fun e => h' (by rw [e]; exact h0))]
    exact a.new b h h', a.dom⟩
/-- what keeps all, keeps the frozen part too -/
theorem Gr.same {H F H1 F1 H2 : Hp} (a : Gr H F H1 F1) (s : Same H1 H2) : Gr H F H2 F1 :=
  ⟨a.top.trans s, a.frz, a.new, fun b h => by
    have h1 := a.dom b h
    cases e : H1 b with
    | none => exact absurd e h1
    | some o =>
      rw [s _ _ e]
      intro z
      cases z⟩
theorem Gr.stays {H F H1 F1 : Hp} (a : Gr H F H1 F1) {b : Addr} {o : HO} (h : F b = none) (h' : H b = some o) : F1 b = none := a.new b h (by rw [h']; intro z; cases z)
theorem some_ne {H : Hp} {b : Addr} {o : HO} (h : H b = some o) : H b ≠ none := by rw [h]; intro z; cases z

/-! ### data of parts -/
abbrev tS (l : List Nat) : PyData := .str (S l)
/-- a sign's part -/
def signD (c : Nat) : PyData := .tuple [.str "sign", tS [c], .tuple [], .list []]
def holeD (n : List Nat) : PyData := .tuple [.str "hole", tS n, .tuple [], .list []]
section
variable {K : PySem.W.Frag}
theorem Dp.tup' {H : Hp} {a : Addr} {xs : List V} {ds : List PyData} (h : H a = some (.tup xs)) (d : DpAll K H xs ds) : Dp K H (.ref a) (.tuple ds) := .tup (SqT.of h) d
theorem Dp.lst' {H : Hp} {a : Addr} {xs : List V} {ds : List PyData} (h : H a = some (.lst xs)) (d : DpAll K H xs ds) : Dp K H (.ref a) (.list ds) := .lst (SqL.of h) d
end
section
variable {P : Program} {w : World} {K : PySem.W.Frag} {mg : Str → Option Value} {base : Heap} {C fI aWORDS aTURNED aBLOCKS : Addr} {fdI : FuncData}
/-! ### hole_there -/
abbrev endL : List Nat := [101, 110, 100]
abbrev holeL : List Nat := [104, 111, 108, 101]
abbrev BLK : List V := [.str "each", .str "when"]
def holeRes (two : Bool) (w0 wl : List Nat) : List Nat × List Nat := if two then (w0, wl) else if w0 = endL then (endL, []) else (holeL, w0)
theorem find_hole_len {L t rem : List Nat} {n : Nat} (h : L.drop n = [123, 123] ++ (t ++ ([125, 125] ++ rem))) : n + 2 + t.length + 2 ≤ L.length := by
  have := congrArg List.length h
  rw [List.length_drop] at this
  simp only [List.length_append, List.length_cons, List.length_nil] at this
  omega
def spHoleThere (K : PySem.W.Frag) (C : Addr) : Sp := fun vs H Q _ => ∃ (r k : Addr) (L t rem w0 wl : List Nat) (n : Nat) (b two : Bool), vs = [.ref r] ∧ RdAt C H r L n b k ∧ L.length ≤ 1000 ∧
  L.drop n = [123, 123] ++ (t ++ ([125, 125] ++ rem)) ∧ Txt.find3 (S L) (S [125, 125]) (n : Int) = ((n + 2 + t.length : Nat) : Int) ∧ Txt.split (S t) (S [32]) = (if two then [S w0, S wl] else [S w0]) ∧
  isName (if two then wl else w0) = true ∧ inV (.str (S w0)) BLK = two ∧ (∀ c ∈ w0, c < 128) ∧ (∀ c ∈ wl, c < 128) ∧
  ∀ H' p, RdAt C H' r L (n + 2 + t.length + 2) b k → SameB r H H' → H' p = some (.tup [.str (S (holeRes two w0 wl).1), .str (S (holeRes two w0 wl).2)]) → Q (.ref p) H'
theorem ite_f {b : Bool} {A B : Prop} (h : b = false) (x : B) : if b = true then A else B := by
  rw [h]
  exact iteF x
theorem ite_t {b : Bool} {A B : Prop} (h : b = true) (x : A) : if b = true then A else B := by
  rw [h]
  exact iteT x
theorem brS : (Str.ofString "}}" : Str) = S [125, 125] := by decide +kernel
theorem opS : (Str.ofString "{{" : Str) = S [123, 123] := by decide +kernel
theorem spS : (Str.ofString " " : Str) = S [32] := by decide +kernel
theorem endS : (Str.ofString "end" : Str) = S endL := by decide +kernel
theorem holeS : (Str.ofString "hole" : Str) = S holeL := by decide +kernel
theorem M_hole_there (T : Tx K w mg C fI aWORDS aTURNED aBLOCKS fdI) : Mf P w K mg base C 3 "hole_there" ["self"] (spHoleThere K C) := by
  have G_is_name : Gf P w K mg base 2 "is_name" ["thing"] spIsName := G_is_name T
  refine mf_mk T.m_hole_there sc_Reading_hole_there (fun vs H Q E h => ?_) (fun f cdv A outer s H vs Q E hr h => ?_)
  · obtain ⟨r, k, L, t, rem, w0, wl, n, b, two, rfl, _⟩ := h
    rfl
  · obtain ⟨r, k, L, t, rem, w0, wl, n, b, two, rfl, ⟨dx, h0⟩, hL, hd, hf, hsp, hnm, hbl, hw0, hw1, q⟩ := h
    refine ⟨_, (pss_cons (ps_set (i := 1) sc_Reading_hole_there.nd rfl (Or.inl rfl) (pe_bm PySem.F.plainAttrs_str PySem.F.slot_str_find PySem.F.type_str_find mt_find3 (pe_fld (pv 0) rfl) (pa_cons pe_str (pa_cons (pe_fld (pv 0) rfl) pa_nil))))
  (pss_cons (ps_set (i := 2) sc_Reading_hole_there.nd rfl (Or.inl rfl) (pe_bm PySem.F.plainAttrs_str PySem.F.slot_str_split PySem.F.type_str_split mt_split (pe_slice sl_str (pe_fld (pv 0) rfl) (po_some (pe_op op_add (pe_fld (pv 0) rfl) pe_int)) (po_some (pe_callB (call_max2 rfl) (by rfl) T.b_max (by decide +kernel) (pa_cons (pv 1) (pa_cons pe_int pa_nil))))) (pa_cons pe_str pa_nil)))
  (pss_cons (ps_if (PW.pt (pw_or (pt_cmpR op_ne (pe_slice sl_str (pe_fld (pv 0) rfl) (po_some (pe_fld (pv 0) rfl)) (po_some (pe_op op_add (pe_fld (pv 0) rfl) pe_int))) pe_str (nomark _)) (pw_or (pt_cmpR op_lt (pv 1) pe_int (nomark _)) (pw_or1 (pt_cmpR op_gt (pe_callB call_len_seq (by rfl) T.b_len PySem.boot_len (pa_cons (pv 2) pa_nil)) pe_int (nomark _)))))) (pss_one ps_never) pss_nil)
  (pss_cons (ps_if (PW.pt (pw_or (pt_not (pt_val (pe_callG G_is_name (hr.mono (by decide)) (by rfl) (pa_cons (pe_ix ix_list (pv 2) (pe_un un_neg pe_int) (fun _ _ => rfl)) pa_nil)))) (pw_or1 (pt_cmpR op_ne (pe_cmpR op_in_seq (pe_ix ix_list (pv 2) pe_int (fun _ _ => rfl)) (pe_gR (by rfl) T.gBLOCKS) (by rfl)) (pe_cmpR op_eq (pe_callB call_len_seq (by rfl) T.b_len PySem.boot_len (pa_cons (pv 2) pa_nil)) pe_int (nomark _)) (nomark _))))) (pss_one ps_never) pss_nil)
  (pss_cons (ps_fld (pv 0) (pe_op op_add (pv 1) pe_int) rfl)
  (pss_cons (ps_if (pt_cmpR (op_eqD hr.units) (pv 2) (pe_lst (pa_cons (pe_gS (by rfl) T.gEND) pa_nil)) (nomark _)) (pss_one (ps_ret (pe_tup (pa_cons (pe_gS (by rfl) T.gEND) (pa_cons pe_str pa_nil))))) pss_nil)
  (pss_one (ps_ret (pe_ifExp (pt_cmpR op_eq (pe_callB call_len_seq (by rfl) T.b_len PySem.boot_len (pa_cons (pv 2) pa_nil)) pe_int (nomark _)) (pe_tup (pa_cons pe_str (pa_cons (pe_ix ix_list (pv 2) pe_int (fun _ _ => rfl)) pa_nil))) (pe_tup (pa_cons (pe_ix ix_list (pv 2) pe_int (fun _ _ => rfl)) (pa_cons (pe_ix ix_list (pv 2) pe_int (fun _ _ => rfl)) pa_nil)))))))))))), ?_⟩
    have hlen := find_hole_len hd
    have hcut1 : cutS (S L) (some ((n : Int) + 2)) (some ((n + 2 + t.length : Nat) : Int)) = S t := by
      have e : (n : Int) + 2 = ((n + 2 : Nat) : Int) := by omega
      rw [e, cutS_nat (by omega) (by omega)]
      have h2 : L.drop (n + 2) = t ++ ([125, 125] ++ rem) := by
        rw [← List.drop_drop, hd]
        rfl
      rw [h2, Nat.add_sub_cancel_left, List.take_left]
    have hcut2 : cutS (S L) (some (n : Int)) (some ((n : Int) + 2)) = S [123, 123] := by
      have e : (n : Int) + 2 = ((n + 2 : Nat) : Int) := by omega
      rw [e, cutS_nat (by omega) (by omega), hd, Nat.add_sub_cancel_left]
      rfl
    -- end, words
    refine ⟨_, rfl, r, C, dx, _, _, rfl, h0, T.cl, T.n_text, rf_text _ _ _ _, rfl, _, rfl, r, C, dx, _, _, rfl, h0, T.cl, T.n_at, rf_at _ _ _ _, _, _, _, rfl, rfl, ?_⟩
    rw [brS, hf]
    refine ⟨_, rfl, r, C, dx, _, _, rfl, h0, T.cl, T.n_text, rf_text _ _ _ _, _, rfl, r, C, dx, _, _, rfl, h0, T.cl, T.n_at, rf_at _ _ _ _, _, _, rfl, rfl, _, rfl, _, rfl, _, _, rfl, ?_⟩
    rw [if_neg (by omega)]
    refine ⟨_, rfl, _, rfl, len1000 hL, rfl, _, _, rfl, rfl, ?_, ?_, ?_⟩
    · rw [spS, S_len]
      rfl
    · rw [hcut1, S_len]
      exact Nat.le_trans (m := 2000) (by omega) (by decide)
    rw [hcut1, spS, hsp]
    intro p hp
    have s1 : SameB r H (upd H p (.lst ((if two then [S w0, S wl] else [S w0]).map V.str))) := (SameB.refl r H).new hp
    have nrp : r ≠ p := ne_of_none h0 hp
    have h1 : upd H p (.lst ((if two then [S w0, S wl] else [S w0]).map V.str)) r = some (.ins C dx (rf L n b k)) := by rw [upd_ne nrp]; exact h0
    have hw : upd H p (.lst ((if two then [S w0, S wl] else [S w0]).map V.str)) p = some (.lst ((if two then [S w0, S wl] else [S w0]).map V.str)) := upd_same
    revert s1 h1 hw
    generalize upd H p (.lst ((if two then [S w0, S wl] else [S w0]).map V.str)) = H1
    intro s1 h1 hw
    -- the first test
    refine ⟨_, rfl, r, C, dx, _, _, rfl, h1, T.cl, T.n_text, rf_text _ _ _ _, _, rfl, r, C, dx, _, _, rfl, h1, T.cl, T.n_at, rf_at _ _ _ _, _, rfl, _, rfl, r, C, dx, _, _, rfl, h1, T.cl, T.n_at, rf_at _ _ _ _, _, _, rfl, rfl, _, rfl, _, rfl, len1000 hL, rfl, _, rfl, ?_⟩
    rw [hcut2, opS, dec_V, decide_eq_true rfl]
    refine iteF ?_
    refine ⟨_, rfl, _, _, rfl, rfl, _, rfl, ?_⟩
    rw [decide_eq_false (by omega)]
    refine iteF ?_
    have hwl : ((if two then [S w0, S wl] else [S w0]).map V.str) = (if two then [.str (S w0), .str (S wl)] else [.str (S w0)]) := by cases two <;> rfl
    rw [hwl] at hw
    refine ⟨_, rfl, p, _, rfl, .inl (SqL.of hw), _, _, rfl, rfl, _, rfl, ?_⟩
    have hl2 : ((if two then [V.str (S w0), .str (S wl)] else [.str (S w0)]).length : Int) = (if two then 2 else 1) := by cases two <;> rfl
    rw [hl2, decide_eq_false (by cases two <;> decide)]
    refine iteF ?_
    -- the second test
    have hlast : atI (if two then [V.str (S w0), .str (S wl)] else [.str (S w0)]) (-1) = some (.str (S (if two then wl else w0))) := by
      cases two
      · exact atI_last [] _
      · exact atI_last [V.str (S w0)] _
    have hfirst : atI (if two then [V.str (S w0), .str (S wl)] else [.str (S w0)]) 0 = some (.str (S w0)) := by
      cases two <;> exact atI_nat (j := 0) rfl
    refine ⟨_, rfl, _, rfl, p, _, _, _, rfl, rfl, SqL.of hw, hlast, _, rfl, Nat.le_trans (isName_len hnm).2.1 (by decide), fun H2 s2 => ⟨_, rfl, ?_⟩⟩
    rw [hnm]
    refine iteF ?_
    have hw2 := s2 _ _ hw
    refine ⟨_, rfl, p, _, _, _, rfl, rfl, SqL.of hw2, hfirst, aBLOCKS, BLK, rfl, .inr (T.sqBLOCKS H2), rfl, rfl, ?_⟩
    refine ⟨_, rfl, p, _, rfl, .inl (SqL.of hw2), rfl, rfl, _, rfl, ?_⟩
    rw [hl2]
    have e2 : decide (V.bl (inV (.str (S w0)) BLK) = V.bl (decide (V.int (if two = true then 2 else 1) = V.int 2))) = true := by
      rw [hbl, dec_Vi]
      cases two <;> rfl
    refine ite_f (show (!decide (V.bl (inV (.str (S w0)) BLK) = V.bl (decide (V.int (if two = true then 2 else 1) = V.int 2)))) = false by rw [e2]; rfl) ?_
    -- self.at = end + 2
    have h2 := s2 _ _ h1
    refine ⟨_, rfl, _, _, rfl, rfl, _, rfl, r, C, dx, _, rfl, h2, T.cl, T.n_at, (by show 4 < 1000; decide), ?_⟩
    have h3 : upd H2 r (.ins C dx (putF "at" (.int (((n + 2 + t.length : Nat) : Int) + 2)) (rf L n b k))) r = some (.ins C dx (rf L (n + 2 + t.length + 2) b k)) := by
      rw [upd_same]
      exact congrArg (fun z => some (HO.ins C dx z)) (rf_put L n (n + 2 + t.length + 2) b k)
    have s3 : SameB r H (upd H2 r (.ins C dx (putF "at" (.int (((n + 2 + t.length : Nat) : Int) + 2)) (rf L n b k)))) := (s1.trans (SameB.of s2)).upd
    have nrp2 : p ≠ r := ne_of hw2 h2 (by intro z; cases z)
    have hw3 : upd H2 r (.ins C dx (putF "at" (.int (((n + 2 + t.length : Nat) : Int) + 2)) (rf L n b k))) p = some (.lst (if two then [.str (S w0), .str (S wl)] else [.str (S w0)])) := by
      rw [upd_ne nrp2]
      exact hw2
    revert h3 s3 hw3
    generalize upd H2 r (.ins C dx (putF "at" (.int (((n + 2 + t.length : Nat) : Int) + 2)) (rf L n b k))) = H3
    intro h3 s3 hw3
    -- words == [END]
    refine ⟨_, rfl, by decide, fun p4 hp4 => ?_⟩
    have s4 : SameB r H (upd H3 p4 (.lst [.str "end"])) := s3.new hp4
    have h4 : upd H3 p4 (.lst [.str "end"]) r = some (.ins C dx (rf L (n + 2 + t.length + 2) b k)) := by
      rw [upd_ne (ne_of_none h3 hp4)]
      exact h3
    have hw4 : upd H3 p4 (.lst [.str "end"]) p = some (.lst (if two then [.str (S w0), .str (S wl)] else [.str (S w0)])) := by
      rw [upd_ne (ne_of_none hw3 hp4)]
      exact hw3
    have hdw : Dp K (upd H3 p4 (.lst [.str "end"])) (.ref p) (.list (if two then [tS w0, tS wl] else [tS w0])) := by
      refine Dp.lst' hw4 ?_
      cases two
      · exact .cons (.str _) .nil
      · exact .cons (.str _) (.cons (.str _) .nil)
    refine ⟨_, _, hdw, Dp.lst' upd_same (.cons (.str _) .nil), ?_, by decide +kernel, _, rfl, ?_⟩
    · refine shaped_mk ?_ ?_
      · cases two <;> simp [PyData.canLay0, PyData.canLayAll0, strOk_S hw0, strOk_S hw1]
      · cases two <;> simp [PyData.depth, PyData.depthAll]
    revert h4 s4 hw4
    generalize upd H3 p4 (.lst [.str "end"]) = H4
    intro s4 h4 hw4
    have hdone : ∀ H' p, RdAt C H' r L (n + 2 + t.length + 2) b k → SameB r H H' → H' p = some (.tup [.str (S (holeRes two w0 wl).1), .str (S (holeRes two w0 wl).2)]) → Q (.ref p) H' := q
    cases two with
    | true =>
      have e5 : PyData.eqv (.list (if true = true then [tS w0, tS wl] else [tS w0])) (.list [.str "end"]) = false := by
        simp [PyData.eqv, PyData.eqvAll]
      refine ite_f e5 ?_
      refine ⟨_, rfl, p, _, rfl, .inl (SqL.of hw4), rfl, _, rfl, ?_⟩
      refine ite_f (by rfl) ?_
      refine ⟨_, rfl, p, _, _, _, rfl, rfl, SqL.of hw4, hfirst, _, rfl, p, _, _, _, rfl, rfl, SqL.of hw4, atI_nat (j := 1) rfl, (by show 2 ≤ sizeLine; decide), fun p5 hp5 => ?_⟩
      refine hdone _ p5 ⟨dx, ?_⟩ (s4.new hp5) upd_same
      rw [upd_ne (ne_of_none h4 hp5)]
      exact h4
    | false =>
      by_cases e : w0 = endL
      · subst e
        have e5 : PyData.eqv (.list (if false = true then [tS endL, tS wl] else [tS endL])) (.list [.str "end"]) = true := by
          rw [endS]
          simp [PyData.eqv, PyData.eqvAll]
        refine ite_t e5 ?_
        refine ⟨by decide, fun p5 hp5 => ?_⟩
        rw [endS, SemptyS]
        refine hdone _ p5 ⟨dx, ?_⟩ (s4.new hp5) upd_same
        rw [upd_ne (ne_of_none h4 hp5)]
        exact h4
      · have e5 : PyData.eqv (.list (if false = true then [tS w0, tS wl] else [tS w0])) (.list [.str "end"]) = false := by
          rw [endS]
          simp [PyData.eqv, PyData.eqvAll]
          exact e
        refine ite_f e5 ?_
        refine ⟨_, rfl, p, _, rfl, .inl (SqL.of hw4), rfl, _, rfl, ?_⟩
        refine ite_t (by rfl) ?_
        refine ⟨_, rfl, p, _, _, _, rfl, rfl, SqL.of hw4, hfirst, (by show 2 ≤ sizeLine; decide), fun p5 hp5 => ?_⟩
        have e6 : holeRes false w0 wl = (holeL, w0) := by
          unfold holeRes
          rw [if_neg (by decide), if_neg e]
        rw [e6] at hdone
        rw [holeS]
        refine hdone _ p5 ⟨dx, ?_⟩ (s4.new hp5) upd_same
        rw [upd_ne (ne_of_none h4 hp5)]
        exact h4
end
end Dh
namespace Dh
open PySem PySem.Spec PyProof.Rows L2
theorem Gr.sameB {r : Addr} {H F H1 : Hp} (s : Same F H) (hF : F r = none) (sb : SameB r H H1) (h1 : H1 r ≠ none) : Gr H F H1 F :=
  ⟨fun b o h => sb b o (fun e => by rw [e, hF] at h; cases h) (s b o h), Same.refl F, fun _ h _ => h, fun b h => by
    by_cases e : b = r
    · rw [e]; exact h1
    · cases q : H b with
      | none => exact absurd q h
      | some o => rw [sb b o e q]; intro z; cases z⟩
theorem part_new {K : PySem.W.Frag} {H F H1 F1 : Hp} {e l t : Addr} {x y : V} {dx dy : PyData} (g : Gr H F H1 F1) (he : H1 e = none) (hl : upd H1 e (.tup []) l = none) (ht : upd (upd H1 e (.tup [])) l (.lst []) t = none)
    (d1 : Dp K F1 x dx) (d2 : Dp K F1 y dy) : ∃ F', Gr H F (upd (upd (upd H1 e (.tup [])) l (.lst [])) t (.tup [x, y, .ref e, .ref l])) F' ∧ Same F1 F' ∧ Dp K F' (.ref t) (.tuple [dx, dy, .tuple [], .list []]) := by
  have g1 := g.mk2 (o := .tup []) he
  have g2 := g1.mk2 (o := .lst []) hl
  have g3 := g2.mk2 (o := .tup [x, y, .ref e, .ref l]) ht
  have s1 : Same F1 (upd F1 e (.tup [])) := same_new (g.top.free he)
  have s2 : Same (upd F1 e (.tup [])) (upd (upd F1 e (.tup [])) l (.lst [])) := same_new (g1.top.free hl)
  have s3 : Same (upd (upd F1 e (.tup [])) l (.lst [])) (upd (upd (upd F1 e (.tup [])) l (.lst [])) t (.tup [x, y, .ref e, .ref l])) := same_new (g2.top.free ht)
  have s13 := s1.trans (s2.trans s3)
  refine ⟨_, g3, s13, Dp.tup' upd_same (.cons (Dp.same s13 _ _ d1) (.cons (Dp.same s13 _ _ d2) (.cons ?_ (.cons ?_ .nil))))⟩
  · exact Dp.tup' ((s2.trans s3) _ _ upd_same) .nil
  · exact Dp.lst' (s3 _ _ upd_same) .nil
/-! ### a part of an attribute -/
inductive APt where
  | sg (c : Nat)
  | hl (t : List Nat)
def aT : APt → List Nat
  | .sg c => enc c
  | .hl t => [123, 123] ++ (t ++ [125, 125])
def aD : APt → PyData
  | .sg c => signD c
  | .hl t => holeD t
/-- a plain hole's name -/
def HoleOk (L : List Nat) (n : Nat) (t : List Nat) : Prop :=
  Txt.find3 (S L) (S [125, 125]) (n : Int) = ((n + 2 + t.length : Nat) : Int) ∧ Txt.split (S t) (S [32]) = [S t] ∧ isName t = true ∧ inV (.str (S t)) BLK = false ∧ t ≠ endL
def aOk (b : Bool) (L : List Nat) (n : Nat) : APt → Prop
  | .sg c => b = false ∧ c ∈ SIGNSL
  | .hl t => b = true ∧ HoleOk L n t
theorem letl_lt {c : Nat} (h : c ∈ LETL) : c < 128 := by
  have : ∀ c ∈ LETL, c < 128 := by decide +kernel
  exact this c h
theorem name_lt {t : List Nat} (h : isName t = true) : ∀ c ∈ t, c < 128 := fun c hc => letl_lt ((isName_len h).2.2 c hc)
theorem signS : (Str.ofString "sign" : Str) = S [115, 105, 103, 110] := by decide +kernel
section
variable {P : Program} {w : World} {K : PySem.W.Frag} {mg : Str → Option Value} {base : Heap} {C fI aWORDS aTURNED aBLOCKS : Addr} {fdI : FuncData}
def spAttrPart (K : PySem.W.Frag) (C : Addr) : Sp := fun vs H Q _ => ∃ (F : Hp) (r k : Addr) (L rem : List Nat) (n : Nat) (b : Bool) (p : APt), vs = [.ref r] ∧ RdAt C H r L n b k ∧ Same F H ∧ F r = none ∧ L.length ≤ 1000 ∧ L.drop n = aT p ++ rem ∧ aOk b L n p ∧
  ∀ H' F' v, RdAt C H' r L (n + (aT p).length) b k → SameB r H H' → Gr H F H' F' → Dp K F' v (aD p) → Q v H'
theorem M_attribute_part (T : Tx K w mg C fI aWORDS aTURNED aBLOCKS fdI) : Mf P w K mg base C 4 "attribute_part" ["self"] (spAttrPart K C) := by
  have M_here : Mf P w K mg base C 1 "here" ["self"] (spHere C) := M_here T
  have M_sign_there : Mf P w K mg base C 2 "sign_there" ["self"] (spSignThere C) := M_sign_there T
  have M_hole_there : Mf P w K mg base C 3 "hole_there" ["self"] (spHoleThere K C) := M_hole_there T
  refine mf_mk T.m_attribute_part sc_Reading_attribute_part (fun vs H Q E h => ?_) (fun f cdv A outer s H vs Q E hr h => ?_)
  · obtain ⟨F, r, k, L, rem, n, b, p, rfl, _⟩ := h
    rfl
  · obtain ⟨F, r, k, L, rem, n, b, p, rfl, ⟨dx, h0⟩, sF, hF, hL, hd, hok, q⟩ := h
    refine ⟨_, (pss_cons (ps_if (PW.pt (pw_or (pt_not (pt_val (pe_fld (pv 0) rfl))) (pw_or1 (pt_cmpR op_ne (pe_methG0 (pv 0) T.cl M_here (hr.mono (by decide))) pe_str (nomark _))))) (pss_one (ps_ret (pe_tup (pa_cons pe_str (pa_cons (pe_methG0 (pv 0) T.cl M_sign_there (hr.mono (by decide))) (pa_cons (pe_tup pa_nil) (pa_cons (pe_lst pa_nil) pa_nil))))))) pss_nil)
  (pss_cons (ps_asg (pe_methG0 (pv 0) T.cl M_hole_there (hr.mono (by decide))) (pg_tup rfl (pgs_cons (pg_name (i := 1) sc_Reading_attribute_part.nd rfl (Or.inl rfl)) (pgs_cons (pg_name (i := 2) sc_Reading_attribute_part.nd rfl (Or.inl rfl)) pgs_nil))))
  (pss_cons (ps_if (pt_cmpR op_ne (pv 1) pe_str (nomark _)) (pss_one ps_never) pss_nil)
  (pss_one (ps_ret (pe_tup (pa_cons (pv 1) (pa_cons (pv 2) (pa_cons (pe_tup pa_nil) (pa_cons (pe_lst pa_nil) pa_nil)))))))))), ?_⟩
    cases p with
    | sg c =>
      obtain ⟨rfl, hc⟩ := hok
      refine ⟨_, rfl, r, C, dx, _, _, rfl, h0, T.cl, T.n_has_holes, rf_hh _ _ _ _, _, rfl, iteT (iteT ?_)⟩
      refine ⟨_, rfl, r, dx, _, rfl, h0, no_m "sign_there" _ _ _ _ (by decide +kernel), r, k, L, rem, n, c, rfl, ⟨dx, h0⟩, hL, hd, hc, fun H1 hr1 s1 => ?_⟩
      obtain ⟨dx1, h1⟩ := hr1
      refine ⟨by decide, fun e he => ⟨by decide, fun l hl => ⟨by show 4 ≤ sizeLine; decide, fun t ht => ?_⟩⟩⟩
      obtain ⟨F', g, _, d⟩ := part_new (K := K) (x := .str "sign") (y := .str (S [c])) (Gr.sameB sF hF s1 (some_ne h1)) he hl ht (.str _) (.str _)
      refine q _ F' (.ref t) ⟨dx1, ?_⟩ ?_ g d
      · rw [upd_ne (ne_of_none (by rw [upd_ne (ne_of_none (by rw [upd_ne (ne_of_none h1 he)]; exact h1) hl), upd_ne (ne_of_none h1 he)]; exact h1) ht), upd_ne (ne_of_none (by rw [upd_ne (ne_of_none h1 he)]; exact h1) hl), upd_ne (ne_of_none h1 he)]
        exact h1
      · exact ((s1.new he).new hl).new ht
    | hl t =>
      obtain ⟨rfl, hf, hsp, hnm, hbl, hne⟩ := hok
      have hd2 : L.drop n = [123, 123] ++ (t ++ ([125, 125] ++ rem)) := by
        rw [hd]
        show [123, 123] ++ (t ++ [125, 125]) ++ rem = _
        simp
      have hn : L[n]? = some 123 := drop_at (g := [123, 123]) (i := 0) hd2 rfl
      refine ⟨_, rfl, r, C, dx, _, _, rfl, h0, T.cl, T.n_has_holes, rf_hh _ _ _ _, _, rfl, iteF ?_⟩
      refine ⟨_, rfl, r, dx, _, rfl, h0, no_m "here" _ _ _ _ (by decide +kernel), r, k, L, n, 123, true, rfl, ⟨dx, h0⟩, hL, hn, rfl, _, rfl, ?_⟩
      refine ite_f (by rw [show (Str.ofString "{" : Str) = S [123] by decide +kernel, dec_V, decide_eq_true rfl]; rfl) ?_
      refine ⟨_, rfl, r, dx, _, rfl, h0, no_m "hole_there" _ _ _ _ (by decide +kernel), r, k, L, t, rem, t, t, n, true, false, rfl, ⟨dx, h0⟩, hL, hd2, hf, hsp, hnm, hbl, name_lt hnm, name_lt hnm, fun H1 p hr1 s1 hp => ?_⟩
      obtain ⟨dx1, h1⟩ := hr1
      have e6 : holeRes false t t = (holeL, t) := by
        unfold holeRes
        rw [if_neg (by decide), if_neg hne]
      rw [e6] at hp
      refine ⟨p, _, rfl, SqT.of hp, rfl, _, _, rfl, _, _, rfl, rfl, ?_⟩
      refine ⟨_, rfl, rfl, _, rfl, ?_⟩
      refine ite_f (by rw [holeS, dec_V, decide_eq_true rfl]; rfl) ?_
      refine ⟨_, rfl, _, rfl, by decide, fun e he => ⟨by decide, fun l hl => ⟨by show 4 ≤ sizeLine; decide, fun tt ht => ?_⟩⟩⟩
      obtain ⟨F', g, _, d⟩ := part_new (K := K) (x := .str (S holeL)) (y := .str (S t)) (Gr.sameB sF hF s1 (some_ne h1)) he hl ht (.str _) (.str _)
      refine q _ F' (.ref tt) ⟨dx1, ?_⟩ ?_ g ?_
      · rw [upd_ne (ne_of_none (by rw [upd_ne (ne_of_none (by rw [upd_ne (ne_of_none h1 he)]; exact h1) hl), upd_ne (ne_of_none h1 he)]; exact h1) ht), upd_ne (ne_of_none (by rw [upd_ne (ne_of_none h1 he)]; exact h1) hl), upd_ne (ne_of_none h1 he), h1]
        have e7 : n + 2 + t.length + 2 = n + (aT (.hl t)).length := by
          show _ = n + ([123, 123] ++ (t ++ [125, 125])).length
          simp
          omega
        rw [e7]
      · exact ((s1.new he).new hl).new ht
      · show Dp K F' (.ref tt) (.tuple [.str "hole", tS t, .tuple [], .list []])
        rw [holeS]
        exact d
end
end Dh
namespace Dh
open PySem PySem.Spec PyProof.Rows L2
theorem SameB.updN {r l : Addr} {H H1 : Hp} {u : HO} (a : SameB r H H1) (hl : H l = none) : SameB r H (L2.upd H1 l u) := fun x o n h => by
  rw [upd_ne (ne_of_none h hl)]
  exact a x o n h
def partsT (ps : List APt) : List Nat := (ps.map aT).flatten
theorem partsT_nil : partsT [] = [] := rfl
theorem partsT_cons (p : APt) (ps : List APt) : partsT (p :: ps) = aT p ++ partsT ps := rfl
theorem partsT_snoc (ps : List APt) (p : APt) : partsT (ps ++ [p]) = partsT ps ++ aT p := by
  unfold partsT
  simp
def partsOk (b : Bool) (L : List Nat) : Nat → List APt → Prop
  | _, [] => True
  | n, p :: ps => aOk b L n p ∧ partsOk b L (n + (aT p).length) ps
def attrD (name : List Nat) (ps : List APt) : PyData := .tuple [tS name, .list (ps.map aD)]
theorem aT_head (p : APt) : ∃ c r, aT p = c :: r ∧ c ≠ 34 := by
  cases p with
  | sg c =>
    show ∃ c' r, enc c = c' :: r ∧ c' ≠ 34
    unfold enc
    by_cases h : isSp c = true
    · rw [if_pos h]
      exact ⟨38, _, rfl, by decide⟩
    · rw [if_neg h]
      exact ⟨c, [], rfl, fun e => h (by rw [e]; decide)⟩
  | hl t => exact ⟨123, _, rfl, by decide⟩
theorem quS : (Str.ofString "\"" : Str) = S [34] := by decide +kernel
theorem drop_add {L a b : List Nat} {n m : Nat} (h : L.drop n = a ++ b) (e : m = n + a.length) : L.drop m = b := by
  rw [e, ← List.drop_drop, h, List.drop_left]
section
variable {P : Program} {w : World} {K : PySem.W.Frag} {mg : Str → Option Value} {base : Heap} {C fI aWORDS aTURNED aBLOCKS : Addr} {fdI : FuncData}
def attrT (name : List Nat) (ps : List APt) : List Nat := 32 :: (name ++ (61 :: 34 :: (partsT ps ++ [34])))
def spAttrThere (K : PySem.W.Frag) (C : Addr) : Sp := fun vs H Q _ => ∃ (F : Hp) (r k o : Addr) (L name rem : List Nat) (ps : List APt) (n : Nat) (b : Bool), vs = [.ref r, .ref o] ∧ RdAt C H r L n b k ∧ Same F H ∧ F r = none ∧ (SqL K H o [] ∨ SqT K H o []) ∧ L.length ≤ 1000 ∧
  L.drop n = attrT name ps ++ rem ∧ isName name = true ∧ ps.length ≤ 1000 ∧ partsOk b L (n + 1 + name.length + 2) ps ∧
  ∀ H' F' v, RdAt C H' r L (n + (attrT name ps).length) b k → SameB r H H' → Gr H F H' F' → Dp K F' v (attrD name ps) → Q v H'
theorem M_attribute_there (T : Tx K w mg C fI aWORDS aTURNED aBLOCKS fdI) : Mf P w K mg base C 5 "attribute_there" ["self", "others"] (spAttrThere K C) := by
  have M_here : Mf P w K mg base C 1 "here" ["self"] (spHere C) := M_here T
  have M_go_by : Mf P w K mg base C 2 "go_by" ["self", "signs"] (spGoBy C) := M_go_by T
  have M_name_unlike : Mf P w K mg base C 2 "name_unlike" ["self", "others"] (spNameUnlike K C) := M_name_unlike T
  have M_attribute_part : Mf P w K mg base C 4 "attribute_part" ["self"] (spAttrPart K C) := M_attribute_part T
  refine mf_mk T.m_attribute_there sc_Reading_attribute_there (fun vs H Q E h => ?_) (fun f cdv A outer s H vs Q E hr h => ?_)
  · obtain ⟨F, r, k, o, L, name, rem, ps, n, b, rfl, _⟩ := h
    rfl
  · obtain ⟨F, r, k, o, L, name, rem, ps, n, b, rfl, ⟨dx, h0⟩, sF, hF, ho, hL, hd, hnm, hps, hok, q⟩ := h
    refine ⟨_, (pss_cons (ps_expr (pe_methG (pv 0) T.cl M_go_by (hr.mono (by decide)) (pa_cons pe_str pa_nil)))
  (pss_cons (ps_par (i := 2) (j := 3) rfl sc_Reading_attribute_there.nd rfl rfl (by decide) rfl rfl (pa_cons (pe_methG (pv 0) T.cl M_name_unlike (hr.mono (by decide)) (pa_cons (pv 1) pa_nil)) (pa_cons (pe_lst pa_nil) pa_nil)) (by rfl))
  (pss_cons (ps_expr (pe_methG (pv 0) T.cl M_go_by (hr.mono (by decide)) (pa_cons pe_str pa_nil)))
  (pss_cons (ps_while PassesOwn.never (pt_cmpR op_ne (pe_methG0 (pv 0) T.cl M_here (hr.mono (by decide))) pe_str (nomark _))
  (pss_one (ps_expr (pe_bm PySem.F.plainAttrs_list PySem.F.slot_list_append PySem.F.type_list_append mt_append (pv 3) (pa_cons (pe_methG0 (pv 0) T.cl M_attribute_part (hr.mono (by decide))) pa_nil)))))
  (pss_cons (ps_fldaug (pv 0) pe_int in_add)
  (pss_one (ps_ret (pe_tup (pa_cons (pv 2) (pa_cons (pv 3) pa_nil)))))))))), ?_⟩
    have hd0 : L.drop n = [32] ++ (name ++ (61 :: 34 :: (partsT ps ++ 34 :: rem))) := by
      rw [hd]
      unfold attrT
      simp
    have hd1 : L.drop (n + 1) = name ++ 61 :: (34 :: (partsT ps ++ 34 :: rem)) := drop_add hd0 rfl
    have hd2 : L.drop (n + 1 + name.length) = [61, 34] ++ (partsT ps ++ 34 :: rem) := drop_add hd1 rfl
    have hd3 : L.drop (n + 1 + name.length + 2) = partsT ps ++ 34 :: rem := drop_add hd2 rfl
    -- self.go_by(' ')
    refine ⟨_, rfl, r, dx, _, rfl, h0, no_m "go_by" _ _ _ _ (by decide +kernel), ?_⟩
    rw [spS]
    refine ⟨r, k, L, [32], _, n, b, rfl, ⟨dx, h0⟩, hL, hd0, fun H1 hr1 s1 => ?_⟩
    obtain ⟨dx1, h1⟩ := hr1
    have ho1 : SqL K H1 o [] ∨ SqT K H1 o [] := ho.imp (fun z => s1.seqL h0 z) fun z => s1.seqT h0 z
    -- name, parts = ..
    refine ⟨_, rfl, r, dx1, _, rfl, h1, no_m "name_unlike" _ _ _ _ (by decide +kernel), _, rfl, r, k, o, L, name, _, n + 1, 61, b, rfl, ⟨dx1, h1⟩, ho1, hL, hd1, hnm, by decide +kernel, fun H2 hr2 s2 => ?_⟩
    obtain ⟨dx2, h2⟩ := hr2
    refine ⟨Nat.zero_le _, fun l hl => ⟨_, _, rfl, ?_⟩⟩
    have s02 : SameB r H H2 := s1.trans s2
    have nrl : r ≠ l := ne_of_none h2 hl
    have h3 : upd H2 l (.lst []) r = some (.ins C dx2 (rf L (n + 1 + name.length) b k)) := by rw [upd_ne nrl]; exact h2
    have g2 : Gr H F H2 F := Gr.sameB sF hF s02 (some_ne h2)
    have hl0 : H l = none := by
      cases e : H l with
      | none => rfl
      | some u =>
        by_cases e2 : l = r
        · exact absurd e2.symm nrl
        · rw [s02 l u e2 e] at hl
          cases hl
    have hFl : F l = none := sF.free hl0
    have g3 : Gr H F (upd H2 l (.lst [])) F := g2.mk1 hFl
    have s03 : SameB r H (upd H2 l (.lst [])) := s02.new hl
    have hl3 : upd H2 l (.lst []) l = some (.lst []) := upd_same
    revert h3 g3 s03 hl3
    generalize upd H2 l (.lst []) = H3
    intro h3 g3 s03 hl3
    -- self.go_by('="')
    refine ⟨_, rfl, r, dx2, _, rfl, h3, no_m "go_by" _ _ _ _ (by decide +kernel), ?_⟩
    rw [show (Str.ofString "=\"" : Str) = S [61, 34] by decide +kernel]
    refine ⟨r, k, L, [61, 34], _, n + 1 + name.length, b, rfl, ⟨dx2, h3⟩, hL, hd2, fun H4 hr4 s4 => ?_⟩
    have g4 : Gr H F H4 F := g3.trans (Gr.sameB g3.top hF s4 (let ⟨_, e⟩ := hr4; some_ne e))
    -- the loop
    refine gen_while fun D eD => ?_
    refine ⟨fun m σ H1 => ∃ (pa pb : List APt) (F1 : Hp) (us : List V), m = pb.length ∧ ps = pa ++ pb ∧ σ = [some (.ref r), some (.ref o), some (.str (S name)), some (.ref l)] ∧ RdAt C H1 r L (n + 1 + name.length + 2 + (partsT pa).length) b k ∧ SameB r H H1 ∧ Gr H F H1 F1 ∧ F1 r = none ∧ F1 l = none ∧
      H1 l = some (.lst us) ∧ DpAll K F1 us (pa.map aD) ∧ partsOk b L (n + 1 + name.length + 2 + (partsT pa).length) pb, ⟨_, [], ps, F, [], rfl, rfl, rfl, hr4, s03.trans s4, g4, hF, hFl, s4 _ _ (Ne.symm nrl) hl3, .nil, hok⟩, ?_⟩
    rintro m σ H5 ⟨pa, pb, F1, us, rfl, rfl, rfl, ⟨dx5, h5⟩, s5, g5, hFr, hFl5, hl5, hus, hpk⟩
    have hd5 : L.drop (n + 1 + name.length + 2 + (partsT pa).length) = partsT pb ++ 34 :: rem := by
      refine drop_add (a := partsT pa) ?_ rfl
      rw [hd3]
      unfold partsT
      simp
    cases pb with
    | nil =>
      have hc : L[n + 1 + name.length + 2 + (partsT pa).length]? = some 34 := drop_at (g := [34]) (i := 0) hd5 rfl
      refine ⟨_, rfl, r, dx5, _, rfl, h5, no_m "here" _ _ _ _ (by decide +kernel), r, k, L, _, 34, b, rfl, ⟨dx5, h5⟩, hL, hc, rfl, _, rfl, ?_⟩
      refine ite_f (by rw [quS, dec_V, decide_eq_true rfl]; rfl) ?_
      rw [eD]
      refine ⟨_, rfl, r, C, dx5, _, _, rfl, h5, T.cl, T.n_at, rf_at _ _ _ _, _, _, rfl, rfl, dx5, _, h5, (by show 4 < 1000; decide), ?_⟩
      refine ⟨_, rfl, _, rfl, by show 2 ≤ sizeLine; decide, fun p hp => ?_⟩
      rw [rf_put1] at hp ⊢
      rw [List.append_nil] at q
      have g6 := g5.mk1 (p := r) (o := .ins C dx5 (rf L (n + 1 + name.length + 2 + (partsT pa).length + 1) b k)) hFr
      have hl6 : upd H5 r (.ins C dx5 (rf L (n + 1 + name.length + 2 + (partsT pa).length + 1) b k)) l = some (.lst us) := by
        rw [upd_ne (Ne.symm nrl)]
        exact hl5
      have g7 := g6.fix (p := l) hl6 hFl5 hl0
      have g8 := g7.mk2 (o := .tup [.str (S name), .ref l]) hp
      have sF8 : Same F1 (upd (upd F1 l (.lst us)) p (.tup [.str (S name), .ref l])) := (same_new hFl5).trans (same_new (g7.top.free hp))
      refine q _ _ (.ref p) ⟨dx5, ?_⟩ ((s5.upd).new hp) g8 (Dp.tup' upd_same (.cons (.str _) (.cons (Dp.lst' ((same_new (g7.top.free hp)) _ _ upd_same) (DpAll.same sF8 _ _ hus)) .nil)))
      rw [upd_ne (ne_of_none upd_same hp), upd_same]
      have e7 : n + 1 + name.length + 2 + (partsT pa).length + 1 = n + (attrT name pa).length := by
        unfold attrT
        simp
        omega
      rw [e7]
    | cons p pb =>
      obtain ⟨hp1, hp2⟩ := hpk
      obtain ⟨c0, r0, ep, hc0⟩ := aT_head p
      rw [partsT_cons] at hd5
      have hc : L[n + 1 + name.length + 2 + (partsT pa).length]? = some c0 := by
        exact drop_at (n := n + 1 + name.length + 2 + (partsT pa).length) (g := aT p ++ (partsT pb ++ 34 :: rem)) (rem := []) (i := 0) (hd5.trans (by simp)) (by rw [ep]; rfl)
      refine ⟨_, rfl, r, dx5, _, rfl, h5, no_m "here" _ _ _ _ (by decide +kernel), r, k, L, _, c0, b, rfl, ⟨dx5, h5⟩, hL, hc, rfl, _, rfl, ?_⟩
      refine ite_t (by rw [quS, dec_V, decide_eq_false (by intro z; exact hc0 (List.head_eq_of_cons_eq z))]; rfl) ?_
      refine ⟨fun σ' H1 => ∃ (F1 : Hp) (us : List V), σ' = [some (.ref r), some (.ref o), some (.str (S name)), some (.ref l)] ∧ RdAt C H1 r L (n + 1 + name.length + 2 + (partsT (pa ++ [p])).length) b k ∧ SameB r H H1 ∧ Gr H F H1 F1 ∧ F1 r = none ∧ F1 l = none ∧
        H1 l = some (.lst us) ∧ DpAll K F1 us ((pa ++ [p]).map aD), fun σ' H1 ⟨F1, us, a1, a2, a3, a4, a5, a6, a7, a8⟩ => ⟨pb.length, by simp, pa ++ [p], pb, F1, us, rfl, by simp, a1, a2, a3, a4, a5, a6, a7, a8, ?_⟩, ?_⟩
      · rw [partsT_snoc, List.length_append, ← Nat.add_assoc]
        exact hp2
      refine ⟨_, rfl, .inl ⟨rfl, _, SqL.of hl5⟩, _, rfl, r, dx5, _, rfl, h5, no_m "attribute_part" _ _ _ _ (by decide +kernel), F1, r, k, L, _, _, b, p, rfl, ⟨dx5, h5⟩, g5.top, hFr, hL, (by rw [hd5, List.append_assoc]), hp1, fun H6 F6 v hr6 s6 g6 d6 => ?_⟩
      have hl6 : H6 l = some (.lst us) := s6 _ _ (Ne.symm nrl) hl5
      have hFl6 : F6 l = none := g6.stays hFl5 hl5
      have hFr6 : F6 r = none := g6.stays hFr h5
      have hz : us.length < sizeLine := by
        have := DpAll.len hus
        rw [List.length_map] at this
        rw [this]
        have h9 : (pa ++ p :: pb).length ≤ 1000 := hps
        rw [List.length_append] at h9
        exact Nat.lt_of_le_of_lt (m := 1000) (by omega) (by decide)
      refine ⟨l, us, v, rfl, rfl, hl6, hz, F6, us ++ [v], rfl, ?_, (s5.trans s6).updN hl0, (g5.trans g6).mk1 hFl6, hFr6, hFl6, upd_same, ?_⟩
      · obtain ⟨dx6, h6⟩ := hr6
        refine ⟨dx6, ?_⟩
        rw [upd_ne nrl, h6, partsT_snoc, List.length_append, ← Nat.add_assoc]
      · rw [List.map_append]
        exact DpAll.app (DpAll.same g6.frz _ _ hus) (.cons d6 .nil)
end
end Dh
namespace Dh
open PySem PySem.Spec PyProof.Rows L2
/-! ### merged: parts that are signs and nodes -/
inductive MP where
  | sg (s : List Nat) (x y : PyData)
  | nd (d x y : PyData)
def mpD : MP → PyData
  | .sg s x y => .tuple [.str "sign", tS s, x, y]
  | .nd d x y => .tuple [.str "node", d, x, y]
def mpN : MP → Nat
  | .sg s _ _ => s.length
  | .nd _ _ _ => 0
def mstep (st : List PyData × List Nat) : MP → List PyData × List Nat
  | .sg s _ _ => (st.1, st.2 ++ s)
  | .nd d _ _ => (if st.2 = [] then st.1 ++ [d] else st.1 ++ [tS st.2, d], [])
def mgd (l : List MP) : List PyData := let st := l.foldl mstep ([], []); if st.2 = [] then st.1 else st.1 ++ [tS st.2]
theorem mgd_len : ∀ (l : List MP) (st : List PyData × List Nat), (l.foldl mstep st).2.length ≤ st.2.length + (l.map mpN).sum ∧ (l.foldl mstep st).1.length ≤ st.1.length + 2 * l.length
  | [], st => by simp
  | p :: r, st => by
    have ih := mgd_len r (mstep st p)
    rw [List.foldl_cons, List.map_cons, List.sum_cons, List.length_cons]
    cases p with
    | sg s x y =>
      have e1 : (mstep st (.sg s x y)).2.length = st.2.length + s.length := by
        show (st.2 ++ s).length = _
        rw [List.length_append]
      have e2 : (mstep st (.sg s x y)).1.length = st.1.length := rfl
      have e3 : mpN (.sg s x y) = s.length := rfl
      omega
    | nd d x y =>
      have e1 : (mstep st (.nd d x y)).2.length = 0 := rfl
      have e2 : (mstep st (.nd d x y)).1.length ≤ st.1.length + 2 := by
        show (if st.2 = [] then st.1 ++ [d] else st.1 ++ [tS st.2, d]).length ≤ _
        split <;> simp
      have e3 : mpN (.nd d x y) = 0 := rfl
      omega
theorem take_sum (f : MP → Nat) : ∀ (l : List MP) (i : Nat), ((l.take i).map f).sum ≤ (l.map f).sum
  | [], i => by simp
  | a :: l, 0 => by simp
  | a :: l, i + 1 => by
    have := take_sum f l i
    simp only [List.take_succ_cons, List.map_cons, List.sum_cons]
    omega
section
variable {P : Program} {w : World} {K : PySem.W.Frag} {mg : Str → Option Value} {base : Heap} {C fI aWORDS aTURNED aBLOCKS : Addr} {fdI : FuncData}
def spMerged (K : PySem.W.Frag) : Sp := fun vs H Q _ => ∃ (F : Hp) (l : Addr) (us : List V) (ps : List MP), vs = [.ref l] ∧ Same F H ∧ SqL K H l us ∧ DpAll K F us (ps.map mpD) ∧ ps.length ≤ 1000 ∧ (ps.map mpN).sum ≤ 10000 ∧
  ∀ H' F' v, Same H H' → Gr H F H' F' → Dp K F' v (.tuple (mgd ps)) → Q v H'
theorem G_merged (T : Tx K w mg C fI aWORDS aTURNED aBLOCKS fdI) : Gf P w K mg base 1 "merged" ["parts"] (spMerged K) := by
  refine gf_mk T.d_merged sc_merged (fun vs H Q E h => ?_) (fun f cdv A outer s H vs Q E hr h => ?_)
  · obtain ⟨F, l, us, ps, rfl, _⟩ := h
    rfl
  · obtain ⟨F, l, us, ps, rfl, sF, hl, hus, hn, hz, q⟩ := h
    refine ⟨_, (pss_cons (ps_par (i := 1) (j := 2) rfl sc_merged.nd rfl rfl (by decide) rfl rfl (pa_cons (pe_lst pa_nil) (pa_cons pe_str pa_nil)) (by rfl))
  (pss_cons (ps_for PassesOwn.never rfl (pi_list (pv 0)) (pg_tup rfl (pgs_cons (pg_name (i := 3) sc_merged.nd rfl (Or.inl rfl)) (pgs_cons (pg_name (i := 4) sc_merged.nd rfl (Or.inl rfl)) (pgs_cons (pg_name (i := 5) sc_merged.nd rfl (Or.inl rfl)) (pgs_cons (pg_name (i := 6) sc_merged.nd rfl (Or.inl rfl)) pgs_nil)))))
  (pss_one (ps_if (pt_cmpR op_eq (pv 3) pe_str (nomark _)) (pss_one (ps_aug (i := 2) sc_merged.nd rfl (Or.inl rfl) (pv 4) iop_add_str)) (pss_cons (ps_expr (pe_bm PySem.F.plainAttrs_list PySem.F.slot_list_extend PySem.F.type_list_extend mt_extend (pv 1) (pa_cons (pe_ifExp (pt_cmpR op_ne (pv 2) pe_str (nomark _)) (pe_lst (pa_cons (pv 2) (pa_cons (pv 4) pa_nil))) (pe_lst (pa_cons (pv 4) pa_nil))) pa_nil)))
  (pss_one (ps_set (i := 2) sc_merged.nd rfl (Or.inl rfl) pe_str))))))
  (pss_one (ps_ret (pe_callTy call_tuple_of (by rfl) T.b_tuple (by decide +kernel) (pa_cons (pe_ifExp (pt_cmpR op_ne (pv 2) pe_str (nomark _)) (pe_op op_cat (pv 1) (pe_lst (pa_cons (pv 2) pa_nil))) (pv 1)) pa_nil)))))), ?_⟩
    refine ⟨Nat.zero_le _, fun p hp => ⟨_, _, rfl, ?_⟩⟩
    have hFp : F p = none := sF.free hp
    refine ⟨_, rfl, l, rfl, ⟨us, (same_new hp).seq hl⟩, for_list (K := K) (a := l) (xs := us) (fun i σ H1 => ∃ (gs : List V) (k1 k2 k3 k4 : Option V), σ = [some (.ref l), some (.ref p), some (.str (S ((ps.take i).foldl mstep ([], [])).2)), k1, k2, k3, k4] ∧ Same H H1 ∧ Gr H F H1 F ∧
      H1 p = some (.lst gs) ∧ DpAll K F gs ((ps.take i).foldl mstep ([], [])).1) ?_ (fun i σ H1 _ ⟨gs, _, _, _, _, _, s1, _⟩ => s1.seq hl) ?_ ?_⟩
    · exact ⟨[], none, none, none, none, by rw [SemptyS]; rfl, same_new hp, (Gr.refl sF).mk1 hFp, upd_same, .nil⟩
    · rintro i x σ H1 hx ⟨gs, k1, k2, k3, k4, rfl, s1, g1, h1, hgs⟩
      obtain ⟨d, hd, hdx⟩ := DpAll.at hus hx
      rw [List.getElem?_map] at hd
      cases e : ps[i]? with
      | none =>
        rw [e] at hd
        cases hd
      | some m =>
        rw [e] at hd
        have ed : mpD m = d := Option.some.inj hd
        subst ed
        have hfold : (ps.take (i + 1)).foldl mstep ([], []) = mstep ((ps.take i).foldl mstep ([], [])) m := by
          rw [take_snoc e, List.foldl_append]
          rfl
        have hb := (mgd_len (ps.take i) ([], []))
        have hs1 : ((ps.take i).foldl mstep ([], [])).2.length ≤ 10000 := by
          have := take_sum mpN ps i
          have h0 : (([], []) : List PyData × List Nat).2.length = 0 := rfl
          omega
        have hs2 : ((ps.take i).foldl mstep ([], [])).1.length ≤ 2000 := by
          have h0 : (([], []) : List PyData × List Nat).1.length = 0 := rfl
          rw [List.length_take] at hb
          omega
        have hgl := DpAll.len hgs
        cases m with
        | sg t y z =>
          obtain ⟨a, xs, ea, hq, hxs⟩ : ∃ a xs, x = .ref a ∧ SqT K F a xs ∧ DpAll K F xs [.str "sign", tS t, y, z] := by
            cases hdx with
            | tup hq hxs => exact ⟨_, _, rfl, hq, hxs⟩
          subst ea
          cases hxs with
          | @cons x1 _ _ _ c1 hxs =>
          cases hxs with
          | @cons x2 _ _ _ c2 hxs =>
          cases hxs with
          | @cons x3 _ _ _ c3 hxs =>
          cases hxs with
          | @cons x4 _ _ _ c4 hxs =>
          cases hxs
          cases c1
          cases c2
          have ht : t.length ≤ 10000 := by
            have h2 := take_sum mpN ps (i + 1)
            rw [take_snoc e, List.map_append, List.sum_append] at h2
            have h3 : (([.sg t y z] : List MP).map mpN).sum = t.length := by simp [mpN]
            omega
          refine ⟨a, _, rfl, same_seqT g1.top hq, rfl, _, _, rfl, _, _, rfl, _, _, rfl, _, _, rfl, rfl, ?_⟩
          refine ⟨_, rfl, rfl, _, rfl, ?_⟩
          refine ite_t (by rw [signS, dec_V]; rfl) ?_
          refine ⟨_, rfl, _, rfl, _, _, rfl, rfl, ?_, gs, some (.str "sign"), some (.str (S t)), some x3, some x4, ?_, s1, g1, h1, ?_⟩
          · rw [S_len, S_len]
            exact Nat.le_trans (m := 20000) (by omega) (by decide)
          · rw [hfold, S_app]
            rfl
          · rw [hfold]
            exact hgs
        | nd dd y z =>
          obtain ⟨a, xs, ea, hq, hxs⟩ : ∃ a xs, x = .ref a ∧ SqT K F a xs ∧ DpAll K F xs [.str "node", dd, y, z] := by
            cases hdx with
            | tup hq hxs => exact ⟨_, _, rfl, hq, hxs⟩
          subst ea
          cases hxs with
          | @cons x1 _ _ _ c1 hxs =>
          cases hxs with
          | @cons x2 _ _ _ c2 hxs =>
          cases hxs with
          | @cons x3 _ _ _ c3 hxs =>
          cases hxs with
          | @cons x4 _ _ _ c4 hxs =>
          cases hxs
          cases c1
          refine ⟨a, _, rfl, same_seqT g1.top hq, rfl, _, _, rfl, _, _, rfl, _, _, rfl, _, _, rfl, rfl, ?_⟩
          refine ⟨_, rfl, rfl, _, rfl, ?_⟩
          refine ite_f (by rw [signS, show (Str.ofString "node" : Str) = S [110, 111, 100, 101] by decide +kernel, dec_V]; rfl) ?_
          refine ⟨_, rfl, .inl ⟨rfl, _, SqL.of h1⟩, _, rfl, rfl, _, rfl, ?_⟩
          by_cases es : ((ps.take i).foldl mstep ([], [])).2 = []
          · refine ite_f (by rw [es, SemptyS, dec_V]; rfl) ?_
            refine ⟨_, rfl, by show 1 ≤ sizeLine; decide, fun p2 hp2 => ?_⟩
            have hF2 : F p2 = none := g1.top.free hp2
            have n2 : p ≠ p2 := ne_of_none h1 hp2
            refine ⟨p, p2, gs, [x2], rfl, rfl, by rw [upd_ne n2]; exact h1, upd_same, by show gs.length + 1 ≤ sizeLine; exact Nat.le_trans (m := 3000) (by omega) (by decide), ?_⟩
            refine ⟨_, some (.str "node"), some x2, some x3, some x4, by rw [hfold, SemptyS]; rfl, same_mut (s1.trans (same_new hp2)) hp, (g1.mk1 hF2).mk1 hFp, upd_same, ?_⟩
            rw [hfold]
            show DpAll K F _ (if ((ps.take i).foldl mstep ([], [])).2 = [] then _ else _)
            rw [if_pos es]
            exact DpAll.app hgs (.cons c2 .nil)
          · refine ite_t (by rw [SemptyS, dec_V, decide_eq_false es]; rfl) ?_
            refine ⟨_, rfl, _, rfl, by show 2 ≤ sizeLine; decide, fun p2 hp2 => ?_⟩
            have hF2 : F p2 = none := g1.top.free hp2
            have n2 : p ≠ p2 := ne_of_none h1 hp2
            refine ⟨p, p2, gs, [.str (S ((ps.take i).foldl mstep ([], [])).2), x2], rfl, rfl, by rw [upd_ne n2]; exact h1, upd_same, by show gs.length + 2 ≤ sizeLine; exact Nat.le_trans (m := 3000) (by omega) (by decide), ?_⟩
            refine ⟨_, some (.str "node"), some x2, some x3, some x4, by rw [hfold, SemptyS]; rfl, same_mut (s1.trans (same_new hp2)) hp, (g1.mk1 hF2).mk1 hFp, upd_same, ?_⟩
            rw [hfold]
            show DpAll K F _ (if ((ps.take i).foldl mstep ([], [])).2 = [] then _ else _)
            rw [if_neg es]
            exact DpAll.app hgs (.cons (.str _) (.cons c2 .nil))
    · rintro σ H1 ⟨gs, k1, k2, k3, k4, rfl, s1, g1, h1, hgs⟩
      have hlen : us.length = ps.length := by
        rw [DpAll.len hus, List.length_map]
      rw [hlen, List.take_length] at hgs ⊢
      have hb := (mgd_len ps ([], []))
      have h0 : (([], []) : List PyData × List Nat).1.length = 0 := rfl
      have hgl := DpAll.len hgs
      refine ⟨_, rfl, rfl, _, rfl, ?_⟩
      by_cases es : (ps.foldl mstep ([], [])).2 = []
      · refine ite_f (by rw [es, SemptyS, dec_V]; rfl) ?_
        refine ⟨_, rfl, p, gs, rfl, .inl ⟨SqL.of h1, fun t ht => ?_⟩⟩
        refine q _ _ (.ref t) (s1.trans (same_new ht)) (g1.mk2 ht) (Dp.tup' upd_same ?_)
        have e2 : mgd ps = (ps.foldl mstep ([], [])).1 := by
          unfold mgd
          rw [if_pos es]
        rw [e2]
        exact DpAll.same (same_new (g1.top.free ht)) _ _ hgs
      · refine ite_t (by rw [SemptyS, dec_V, decide_eq_false es]; rfl) ?_
        refine ⟨_, rfl, _, rfl, by show 1 ≤ sizeLine; decide, fun p2 hp2 => ?_⟩
        have n2 : p ≠ p2 := ne_of_none h1 hp2
        have g2 := g1.mk1 (p := p2) (o := .lst [.str (S (ps.foldl mstep ([], [])).2)]) (g1.top.free hp2)
        refine ⟨p, p2, gs, _, rfl, rfl, by rw [upd_ne n2]; exact h1, upd_same, by show gs.length + 1 ≤ sizeLine; exact Nat.le_trans (m := 3000) (by omega) (by decide), fun p3 hp3 => ?_⟩
        have g3 := g2.mk1 (p := p3) (o := .lst (gs ++ [.str (S (ps.foldl mstep ([], [])).2)])) (g2.top.free hp3)
        refine ⟨p3, _, rfl, .inl ⟨SqL.of upd_same, fun t ht => ?_⟩⟩
        refine q _ _ (.ref t) (((s1.trans (same_new hp2)).trans (same_new hp3)).trans (same_new ht)) (g3.mk2 ht) (Dp.tup' upd_same ?_)
        have e2 : mgd ps = (ps.foldl mstep ([], [])).1 ++ [tS (ps.foldl mstep ([], [])).2] := by
          unfold mgd
          rw [if_neg es]
        rw [e2]
        exact DpAll.app (DpAll.same (same_new (g3.top.free ht)) _ _ hgs) (.cons (.str _) .nil)
end
end Dh
namespace Dh
open PySem PySem.Spec PyProof.Rows L2
/-! ### comprehensions over what stays -/
def LcI (K : PySem.W.Frag) (H1 F1 : Hp) (D : Addr) (outs : List PyData) (i : Nat) (H : Hp) : Prop :=
  ∃ F acc, Same H1 H ∧ Gr H1 F1 H F ∧ F D = none ∧ H D = some (.lst acc) ∧ DpAll K F acc (outs.take i)
section
variable {K : PySem.W.Frag} {H1 F1 : Hp} {D : Addr} {outs : List PyData} {i : Nat} {H : Hp}
theorem LcI.init (s1 : Same F1 H1) (hD : H1 D = none) : LcI K H1 F1 D outs 0 (upd H1 D (.lst [])) := ⟨F1, [], same_new hD, (Gr.refl s1).mk1 (s1.free hD), s1.free hD, upd_same, .nil⟩
theorem LcI.same (h : LcI K H1 F1 D outs i H) : Same H1 H := let ⟨_, _, s, _⟩ := h; s
theorem LcI.step {H4 F F' : Hp} {acc : List V} {y : V} {d : PyData} (hD : H1 D = none) (hn : outs.length ≤ 10000) (sa : Same H1 H) (g1 : Gr H1 F1 H F) (fD : F D = none) (hDl : H D = some (.lst acc)) (hacc : DpAll K F acc (outs.take i))
    (hdd : outs[i]? = some d) (s4 : Same H H4) (g4 : Gr H F H4 F') (hd : Dp K F' y d) :
    ∃ acc, H4 D = some (.lst acc) ∧ acc.length < sizeLine ∧ LcI K H1 F1 D outs (i + 1) (upd H4 D (.lst (acc ++ [y]))) := by
  have hD4 := s4 _ _ hDl
  have fD4 := g4.stays fD hDl
  refine ⟨acc, hD4, ?_, F', acc ++ [y], same_mut (sa.trans s4) hD, (g1.trans g4).mk1 fD4, fD4, upd_same, ?_⟩
  · rw [DpAll.len hacc, List.length_take]
    exact Nat.lt_of_le_of_lt (m := 10000) (by omega) (by decide)
  · rw [take_snoc hdd]
    exact DpAll.app (DpAll.same g4.frz _ _ hacc) (.cons hd .nil)
theorem LcI.fin {n : Nat} (h : LcI K H1 F1 D outs n H) (e : n = outs.length) : ∃ F acc, Same H1 H ∧ Gr H1 F1 H F ∧ F D = none ∧ H D = some (.lst acc) ∧ DpAll K F acc outs := by
  subst e
  obtain ⟨F, acc, a, b, c, d, e⟩ := h
  rw [List.take_length] at e
  exact ⟨F, acc, a, b, c, d, e⟩
end
theorem DpAll.strs {K : PySem.W.Frag} {H : Hp} : ∀ (ys : List Str) (acc : List V), DpAll K H acc (ys.map PyData.str) → acc = ys.map V.str
  | [], acc, h => by cases h; rfl
  | y :: ys, acc, h => by
    cases h with
    | cons a b =>
      cases a
      rw [DpAll.strs ys _ b]
      rfl

/-! ### the stack of a reading: what is begun, the latest at the head -/
structure Fm where
  kd : List Nat
  nm : List Nat
  ats : PyData
  ds : List PyData
def Fm.add (f : Fm) (d : PyData) : Fm := { f with ds := f.ds ++ [d] }
def FmAt (K : PySem.W.Frag) (F H : Hp) (v : V) (l : Addr) (f : Fm) : Prop :=
  ∃ t a us, v = .ref t ∧ F t = some (.tup [.str (S f.kd), .str (S f.nm), a, .ref l]) ∧ Dp K F a f.ats ∧ F l = none ∧ H l = some (.lst us) ∧ DpAll K F us f.ds
def Stk (K : PySem.W.Frag) (F H : Hp) : List V → List Addr → List Fm → Prop
  | [], [], [] => True
  | v :: vs, l :: ls, f :: fs => FmAt K F H v l f ∧ l ∉ ls ∧ Stk K F H vs ls fs
  | _, _, _ => False
section
variable {K : PySem.W.Frag}
theorem FmAt.to {F F' H H' : Hp} {v : V} {l : Addr} {f : Fm} (h : FmAt K F H v l f) (s : Same F F') (n : F' l = none) (e : H' l = H l) : FmAt K F' H' v l f := by
  obtain ⟨t, a, us, h1, h2, h3, h4, h5, h6⟩ := h
  exact ⟨t, a, us, h1, s _ _ h2, Dp.same s _ _ h3, n, e.trans h5, DpAll.same s _ _ h6⟩
theorem Stk.to {F F' H H' : Hp} (s : Same F F') : ∀ {vs : List V} {ls : List Addr} {fs : List Fm}, Stk K F H vs ls fs → (∀ l ∈ ls, F l = none → H l ≠ none → F' l = none ∧ H' l = H l) → Stk K F' H' vs ls fs
  | [], [], [], _, _ => trivial
  | v :: vs, l :: ls, f :: fs, ⟨h1, h2, h3⟩, hl => by
    obtain ⟨t, a, us, q1, q2, q3, q4, q5, q6⟩ := h1
    have e := hl l (List.mem_cons_self ..) q4 (some_ne q5)
    exact ⟨FmAt.to ⟨t, a, us, q1, q2, q3, q4, q5, q6⟩ s e.1 e.2, h2, Stk.to s h3 fun l h => hl l (List.mem_cons_of_mem _ h)⟩
theorem Stk.len {F H : Hp} : ∀ {vs : List V} {ls : List Addr} {fs : List Fm}, Stk K F H vs ls fs → vs.length = fs.length
  | [], [], [], _ => rfl
  | _ :: _, _ :: _, _ :: _, ⟨_, _, h⟩ => congrArg Nat.succ (Stk.len h)
theorem Stk.mem {F H : Hp} : ∀ {vs : List V} {ls : List Addr} {fs : List Fm}, Stk K F H vs ls fs → ∀ l ∈ ls, F l = none ∧ ∃ us, H l = some (.lst us)
  | [], [], [], _ => fun l h => by simp at h
  | _ :: _, l :: ls, _ :: _, ⟨⟨t, a, us, q1, q2, q3, q4, q5, q6⟩, _, h⟩ => fun l' hm => by
    rcases List.mem_cons.mp hm with e | e
    · subst e; exact ⟨q4, us, q5⟩
    · exact Stk.mem h l' e
end
/-- a reading under way: begun over H0, F0 -/
structure RS (K : PySem.W.Frag) (C : Addr) (H0 F0 : Hp) (r k : Addr) (L : List Nat) (n : Nat) (b : Bool) (H F : Hp) (vs : List V) (ls : List Addr) (fs : List Fm) : Prop where
  rd : RdAt C H r L n b k
  gr : Gr H0 F0 H F
  fr : F r = none
  fk : F k = none
  sk : H k = some (.lst vs.reverse)
  st : Stk K F H vs ls fs
  ml : ∀ l ∈ ls, H0 l = none ∧ l ≠ k ∧ l ≠ r
  kr : k ≠ r
  hL : L.length ≤ 1000
  r0 : H0 r = none
  k0 : H0 k = none
  sm : Same H0 H
section
variable {K : PySem.W.Frag} {C : Addr} {H0 F0 : Hp} {r k : Addr} {L : List Nat} {n n' : Nat} {b : Bool} {H F H' F' : Hp} {vs : List V} {v : V} {l : Addr} {ls : List Addr} {f : Fm} {fs : List Fm}
theorem RS.step (h : RS K C H0 F0 r k L n b H F vs ls fs) (hr : RdAt C H' r L n' b k) (s : SameB r H H') (g : Gr H F H' F') : RS K C H0 F0 r k L n' b H' F' vs ls fs :=
  ⟨hr, h.gr.trans g, g.stays h.fr h.rd.choose_spec, g.stays h.fk h.sk, s _ _ h.kr h.sk,
    h.st.to g.frz fun l hm hF hH => ⟨g.new l hF hH, by
      cases e : H l with
      | none => exact absurd e hH
      | some o => exact s _ _ (h.ml l hm).2.2 e⟩, h.ml, h.kr, h.hL, h.r0, h.k0, fun b o e => s _ _ (fun z => by rw [z, h.r0] at e; cases e) (h.sm _ _ e)⟩
/-- what stays as it was -/
theorem RS.keep (h : RS K C H0 F0 r k L n b H F vs ls fs) (s : Same H H') (g : Gr H F H' F') : RS K C H0 F0 r k L n b H' F' vs ls fs :=
  h.step (let ⟨dx, e⟩ := h.rd; ⟨dx, s _ _ e⟩) (SameB.of s) g
theorem RS.top (h : RS K C H0 F0 r k L n b H F (v :: vs) (l :: ls) (f :: fs)) : FmAt K F H v l f := h.st.1
theorem RS.ix (h : RS K C H0 F0 r k L n b H F (v :: vs) ls fs) : atI (v :: vs).reverse (-1) = some v := by
  rw [List.reverse_cons]
  exact atI_last _ _
/-- one more part in what was begun last -/
theorem RS.app {us : List V} {x : V} {d : PyData} (h : RS K C H0 F0 r k L n b H F (v :: vs) (l :: ls) (f :: fs)) (hl : H l = some (.lst us)) (hx : Dp K F x d) :
    RS K C H0 F0 r k L n b (upd H l (.lst (us ++ [x]))) F (v :: vs) (l :: ls) (f.add d :: fs) := by
  obtain ⟨hrd, hgr, hfr, hfk, hsk, ⟨⟨t, a, us', q1, q2, q3, q4, q5, q6⟩, hn, hst⟩, hml, hkr, hL, hr0, hk0, hsm⟩ := h
  obtain ⟨m1, m2, m3⟩ := hml l (List.mem_cons_self ..)
  rw [hl] at q5
  cases q5
  refine ⟨?_, hgr.mk1 q4, hfr, hfk, ?_, ⟨⟨t, a, us ++ [x], q1, q2, q3, q4, upd_same, DpAll.app q6 (.cons hx .nil)⟩, hn, ?_⟩, hml, hkr, hL, hr0, hk0, same_mut hsm m1⟩
  · obtain ⟨dx, e⟩ := hrd
    exact ⟨dx, by rw [upd_ne (Ne.symm m3)]; exact e⟩
  · rw [upd_ne (Ne.symm m2)]
    exact hsk
  · exact hst.to (Same.refl F) fun l' hm h1 h2 => ⟨h1, by rw [upd_ne (fun (e : l' = l) => hn (by rw [← e]; exact hm))]⟩
/-- one more thing is begun -/
theorem RS.push {t : Addr} {kd nm : List Nat} {a : V} {ats : PyData} (h : RS K C H0 F0 r k L n b H F vs ls fs) (hl : H l = none) (ht : upd H l (.lst []) t = none) (ha : Dp K F a ats) :
    RS K C H0 F0 r k L n b (upd (upd (upd H l (.lst [])) t (.tup [.str (S kd), .str (S nm), a, .ref l])) k (.lst (vs.reverse ++ [.ref t]))) (upd F t (.tup [.str (S kd), .str (S nm), a, .ref l])) (.ref t :: vs) (l :: ls) (⟨kd, nm, ats, []⟩ :: fs) := by
  have g1 : Gr H0 F0 (upd H l (.lst [])) F := h.gr.mk1 (h.gr.top.free hl)
  have g2 := g1.mk2 (o := .tup [.str (S kd), .str (S nm), a, .ref l]) ht
  obtain ⟨dx, hrd⟩ := h.rd
  have nl : ∀ {x : Addr} {o : HO}, H x = some o → x ≠ l := fun h1 => ne_of_none h1 hl
  have nt : ∀ {x : Addr} {o : HO}, H x = some o → x ≠ t := fun {x o} h1 => ne_of_none (H := upd H l (.lst [])) (by rw [upd_ne (nl h1)]; exact h1) ht
  have Ft : F t = none := by
    cases e : F t with
    | none => rfl
    | some o => exact absurd rfl (nt (h.gr.top _ _ e))
  have Fl : F l = none := h.gr.top.free hl
  have lt : l ≠ t := ne_of_none (H := upd H l (.lst [])) upd_same ht
  have lk : l ≠ k := Ne.symm (nl h.sk)
  have sF : Same F (upd F t (.tup [.str (S kd), .str (S nm), a, .ref l])) := same_new Ft
  have H0l : H0 l = none := by
    cases e : H0 l with
    | none => rfl
    | some o => exact absurd hl (h.gr.dom l (some_ne e))
  refine ⟨⟨dx, ?_⟩, g2.mk1 ?_, ?_, ?_, ?_, ⟨⟨t, a, [], rfl, upd_same, Dp.same sF _ _ ha, ?_, ?_, .nil⟩, ?_, ?_⟩, ?_, h.kr, h.hL, h.r0, h.k0, same_mut (h.sm.trans ((same_new hl).trans (same_new ht))) h.k0⟩
  · rw [upd_ne (Ne.symm h.kr), upd_ne (nt hrd), upd_ne (nl hrd)]
    exact hrd
  · rw [upd_ne (nt h.sk)]
    exact h.fk
  · rw [upd_ne (nt hrd)]
    exact h.fr
  · rw [upd_ne (nt h.sk)]
    exact h.fk
  · rw [upd_same, List.reverse_cons]
  · rw [upd_ne lt]
    exact Fl
  · rw [upd_ne lk, upd_ne lt, upd_same]
  · intro hm
    obtain ⟨_, us, e⟩ := h.st.mem l hm
    rw [hl] at e
    cases e
  · exact h.st.to sF fun l' hm h1 h2 => by
      obtain ⟨us, e⟩ := (h.st.mem l' hm).2
      exact ⟨by rw [upd_ne (nt e)]; exact h1, by rw [upd_ne (h.ml l' hm).2.1, upd_ne (nt e), upd_ne (nl e)]⟩
  · intro l' hm
    rcases List.mem_cons.mp hm with e | e
    · subst e
      exact ⟨H0l, lk, Ne.symm (nl hrd)⟩
    · exact h.ml l' e
/-- what was begun last is taken off: its parts will stay -/
theorem RS.pop {us : List V} (h : RS K C H0 F0 r k L n b H F (v :: vs) (l :: ls) (f :: fs)) (hl : H l = some (.lst us)) :
    RS K C H0 F0 r k L n b (upd H k (.lst vs.reverse)) (upd F l (.lst us)) vs ls fs ∧ Same F (upd F l (.lst us)) := by
  obtain ⟨hrd, hgr, hfr, hfk, hsk, ⟨⟨t, a, us', q1, q2, q3, q4, q5, q6⟩, hn, hst⟩, hml, hkr, hL, hr0, hk0, hsm⟩ := h
  obtain ⟨m1, m2, m3⟩ := hml l (List.mem_cons_self ..)
  have sF : Same F (upd F l (.lst us)) := same_new q4
  have g1 : Gr H0 F0 (upd H k (.lst vs.reverse)) F := hgr.mk1 hfk
  refine ⟨⟨?_, g1.fix (p := l) (o := .lst us) (by rw [upd_ne m2]; exact hl) q4 m1, ?_, ?_, upd_same, ?_, fun l' hm => hml l' (List.mem_cons_of_mem _ hm), hkr, hL, hr0, hk0, same_mut hsm hk0⟩, sF⟩
  · obtain ⟨dx, e⟩ := hrd
    exact ⟨dx, by rw [upd_ne (Ne.symm hkr)]; exact e⟩
  · rw [upd_ne (Ne.symm m3)]
    exact hfr
  · rw [upd_ne (Ne.symm m2)]
    exact hfk
  · exact hst.to sF fun l' hm h1 h2 => ⟨by rw [upd_ne (fun (e : l' = l) => hn (by rw [← e]; exact hm))]; exact h1, by rw [upd_ne (hml l' (List.mem_cons_of_mem _ hm)).2.1]⟩
/-- a thing that is no part of the reading changes -/
theorem RS.mut {p : Addr} {o : HO} (h : RS K C H0 F0 r k L n b H F vs ls fs) (h0 : H0 p = none) (hF : F p = none) (hr : p ≠ r) (hk : p ≠ k) (hl : ∀ l ∈ ls, p ≠ l) : RS K C H0 F0 r k L n b (upd H p o) F vs ls fs :=
  ⟨let ⟨dx, e⟩ := h.rd; ⟨dx, by rw [upd_ne (Ne.symm hr)]; exact e⟩, h.gr.mk1 hF, h.fr, h.fk, by rw [upd_ne (Ne.symm hk)]; exact h.sk,
    h.st.to (Same.refl F) fun l hm hF' _ => ⟨hF', by rw [upd_ne (Ne.symm (hl l hm))]⟩, h.ml, h.kr, h.hL, h.r0, h.k0, same_mut h.sm h0⟩
theorem rev_last (v : V) (vs : List V) : (v :: vs).reverse[(v :: vs).reverse.length - 1]? = some v := by
  rw [List.reverse_cons]
  simp
theorem rev_drop (v : V) (vs : List V) : (v :: vs).reverse.dropLast = vs.reverse := by
  rw [List.reverse_cons, List.dropLast_concat]
end
end Dh
namespace Dh
open PySem PySem.Spec PyProof.Rows L2
/-! ### shut -/
abbrev Atr := List Nat × List Nat
def atD (a : Atr) : PyData := attrD a.1 (a.2.map APt.sg)
def atX (a : Atr) : PyData := .tuple [tS a.1, tS a.2]
def nodeD (nm : List Nat) (as : List Atr) (ps : List MP) : PyData := .tuple [tS nm, .tuple (as.map atX), .tuple (mgd ps)]
def ShutD (b : Bool) (f : Fm) (pt : PyData) : Prop :=
  (b = true ∧ pt = .tuple [tS f.kd, tS f.nm, f.ats, .list f.ds]) ∨
  (b = false ∧ ∃ (as : List Atr) (ps : List MP), as.length ≤ 1 ∧ (∀ a ∈ as, a.2.length ≤ 1000) ∧ f.ats = .tuple (as.map atD) ∧ f.ds = ps.map mpD ∧ ps.length ≤ 1000 ∧ (ps.map mpN).sum ≤ 10000 ∧
    pt = .tuple [.str "node", nodeD f.nm as ps, f.ats, .list f.ds])
theorem at3 {a b c d : V} : atI [a, b, c, d] 3 = some d := atI_nat (j := 3) rfl
theorem Dp.tupI {K : PySem.W.Frag} {H : Hp} {v : V} {ds : List PyData} (h : Dp K H v (.tuple ds)) : ∃ a xs, v = .ref a ∧ SqT K H a xs ∧ DpAll K H xs ds := by
  cases h with
  | tup h1 h2 => exact ⟨_, _, rfl, h1, h2⟩
theorem Dp.lstI {K : PySem.W.Frag} {H : Hp} {v : V} {ds : List PyData} (h : Dp K H v (.list ds)) : ∃ a xs, v = .ref a ∧ SqL K H a xs ∧ DpAll K H xs ds := by
  cases h with
  | lst h1 h2 => exact ⟨_, _, rfl, h1, h2⟩
theorem DpAll.two {K : PySem.W.Frag} {H : Hp} {xs : List V} {a b : PyData} (h : DpAll K H xs [a, b]) : ∃ x y, xs = [x, y] ∧ Dp K H x a ∧ Dp K H y b := by
  cases h with
  | cons h1 h =>
    cases h with
    | cons h2 h =>
      cases h
      exact ⟨_, _, rfl, h1, h2⟩
theorem DpAll.four {K : PySem.W.Frag} {H : Hp} {xs : List V} {a b c d : PyData} (h : DpAll K H xs [a, b, c, d]) : ∃ x y z w, xs = [x, y, z, w] ∧ Dp K H x a ∧ Dp K H y b ∧ Dp K H z c ∧ Dp K H w d := by
  cases h with
  | cons h1 h =>
    cases h with
    | cons h2 h =>
      cases h with
      | cons h3 h =>
        cases h with
        | cons h4 h =>
          cases h
          exact ⟨_, _, _, _, rfl, h1, h2, h3, h4⟩
theorem joinE : ∀ ys : List (List Nat), Txt.join (S []) (ys.map S) = S ys.flatten := fun ys => by
  rw [TL.join_eq]
  induction ys with
  | nil => rfl
  | cons x ys ih =>
    cases ys with
    | nil =>
      show S x = _
      simp
    | cons y r =>
      show S x ++ S [] ++ Str.join (S []) ((y :: r).map S) = _
      rw [ih, S_app, S_app]
      simp
theorem flat1 (s : List Nat) : (s.map fun c => [c]).flatten = s := by
  induction s with
  | nil => rfl
  | cons c s ih => rw [List.map_cons, List.flatten_cons, ih]; rfl
theorem joinS (s : List Nat) : Txt.join (S []) (s.map fun c => S [c]) = S s := by
  have e : (s.map fun c => S [c]) = (s.map fun c => [c]).map S := by rw [List.map_map]; rfl
  rw [e, joinE, flat1]
theorem sum_ones (s : List Nat) : ((s.map fun c => S [c]).map (·.length)).sum = s.length := by
  induction s with
  | nil => rfl
  | cons c s ih =>
    rw [List.map_cons, List.map_cons, List.sum_cons, ih, S_len]
    simp
    omega
theorem map_atI {α β : Type} {f : α → β} {l : List α} {i : Nat} {d : β} (h : (l.map f)[i]? = some d) : ∃ a, l[i]? = some a ∧ d = f a := by
  rw [List.getElem?_map] at h
  cases e : l[i]? with
  | none => rw [e] at h; cases h
  | some a => rw [e] at h; exact ⟨a, rfl, (Option.some.inj h).symm⟩
theorem mapS (s : List Nat) : (s.map fun c => tS [c]) = (s.map fun c => S [c]).map PyData.str := by rw [List.map_map]; rfl
section
variable {P : Program} {w : World} {K : PySem.W.Frag} {mg : Str → Option Value} {base : Heap} {C fI aWORDS aTURNED aBLOCKS : Addr} {fdI : FuncData}
def spShut (K : PySem.W.Frag) (C : Addr) : Sp := fun vs H Q _ => ∃ (H0 F0 F : Hp) (r k : Addr) (L : List Nat) (n : Nat) (b : Bool) (v v2 : V) (vv : List V) (l l2 : Addr) (ls : List Addr) (f f2 : Fm) (fs : List Fm) (pt : PyData), vs = [.ref r] ∧
  RS K C H0 F0 r k L n b H F (v :: v2 :: vv) (l :: l2 :: ls) (f :: f2 :: fs) ∧ f.ds.length ≤ 1000 ∧ f2.ds.length ≤ 1000 ∧ ShutD b f pt ∧
  ∀ H' F', RS K C H0 F0 r k L n b H' F' (v2 :: vv) (l2 :: ls) (f2.add pt :: fs) → Q .non H'
theorem M_shut (T : Tx K w mg C fI aWORDS aTURNED aBLOCKS fdI) : Mf P w K mg base C 2 "shut" ["self"] (spShut K C) := by
  have G_merged : Gf P w K mg base 1 "merged" ["parts"] (spMerged K) := G_merged T
  refine mf_mk T.m_shut sc_Reading_shut (fun vs H Q E h => ?_) (fun f cdv A outer s H vs Q E hr h => ?_)
  · obtain ⟨H0, F0, F, r, k, L, n, b, v, v2, vv, l, l2, ls, f, f2, fs, pt, rfl, _⟩ := h
    rfl
  · obtain ⟨H0, F0, F, r, k, L, n, b, v, v2, vv, l, l2, ls, f, f2, fs, pt, rfl, R, hn1, hn2, hsd, q⟩ := h
    refine ⟨_, (pss_cons (ps_asg (pe_bm0 PySem.F.plainAttrs_list PySem.F.slot_list_pop PySem.F.type_list_pop mt_pop (pe_fld (pv 0) rfl)) (pg_tup rfl (pgs_cons (pg_name (i := 1) sc_Reading_shut.nd rfl (Or.inl rfl)) (pgs_cons (pg_name (i := 2) sc_Reading_shut.nd rfl (Or.inl rfl)) (pgs_cons (pg_name (i := 3) sc_Reading_shut.nd rfl (Or.inl rfl)) (pgs_cons (pg_name (i := 4) sc_Reading_shut.nd rfl (Or.inl rfl)) pgs_nil))))))
  (pss_cons (ps_if (pt_not (pt_val (pe_fld (pv 0) rfl))) (pss_cons (ps_set (i := 5) sc_Reading_shut.nd rfl (Or.inl rfl) (pe_callTy call_tuple_of (by rfl) T.b_tuple (by decide +kernel) (pa_cons (pe_lc (own := [("one", 7), ("signs", 8)]) rfl sc_Reading_shut.nd (pi_tup (pv 3)) (blkOk_by (by kernel_rfl)) (fun _ _ _ _ _ => (pg_tupK K 2 rfl rfl (pgs_cons (pg_name (i := 7) sc_Reading_shut.nd rfl (Or.inl rfl)) (pgs_cons (pg_name (i := 8) sc_Reading_shut.nd rfl (Or.inl rfl)) pgs_nil)))) (fun _ _ _ _ _ => pts_nil) (fun _ _ _ _ _ => (pe_tup (pa_cons (pv 7) (pa_cons (pe_bmK K rfl PySem.F.plainAttrs_str PySem.F.slot_str_join PySem.F.type_str_join (mt_joinK K rfl) pe_str (pa_cons (pe_lc (own := [("sign", 6)]) rfl sc_Reading_shut.nd (pi_listK K rfl (pv 8)) (blkOk_by (by kernel_rfl)) (fun _ _ _ _ _ => (pg_name (i := 6) sc_Reading_shut.nd rfl (Or.inl rfl))) (fun _ _ _ _ _ => pts_nil) (fun _ _ _ _ _ => (pe_ix (ix_tupK K rfl) (pv 6) pe_int (fun _ _ => rfl)))) pa_nil)) pa_nil))))) pa_nil)))
  (pss_one (ps_par (i := 1) (j := 2) rfl sc_Reading_shut.nd rfl rfl (by decide) rfl rfl (pa_cons pe_str (pa_cons (pe_tup (pa_cons (pv 2) (pa_cons (pv 5) (pa_cons (pe_callG G_merged (hr.mono (by first | decide | omega)) (by rfl) (pa_cons (pv 4) pa_nil)) pa_nil)))) pa_nil)) (by rfl)))) pss_nil)
  (pss_one (ps_expr (pe_bm PySem.F.plainAttrs_list PySem.F.slot_list_append PySem.F.type_list_append mt_append (pe_ix ix_tup (pe_ix ix_list (pe_fld (pv 0) rfl) (pe_un un_neg pe_int) (fun _ _ => rfl)) pe_int (fun _ _ => rfl)) (pa_cons (pe_tup (pa_cons (pv 1) (pa_cons (pv 2) (pa_cons (pv 3) (pa_cons (pv 4) pa_nil))))) pa_nil)))))), ?_⟩
    obtain ⟨t, a, us, rfl, ht, da, hFl, hl, dus⟩ := R.top
    obtain ⟨R1, s1⟩ := R.pop hl
    obtain ⟨dx, hr0⟩ := R.rd
    refine ⟨_, rfl, r, C, dx, _, _, rfl, hr0, T.cl, T.n_stack, rf_stack _ _ _ _, .inl ⟨rfl, _, SqL.of R.sk⟩, k, _, _, rfl, rfl, R.sk, rev_last _ _, ?_⟩
    rw [rev_drop]
    have ht1 := R1.gr.top _ _ (s1 _ _ ht)
    have hl1 := R1.gr.top l _ upd_same
    have da1 := Dp.same s1 _ _ da
    have dus1 := DpAll.same s1 _ _ dus
    revert R1 s1 ht1 da1 dus1 hl1
    generalize hH1 : upd H k (.lst (v2 :: vv).reverse) = H1
    have hF1 : upd F l (.lst us) l = some (.lst us) := upd_same
    revert hF1
    generalize upd F l (.lst us) = F1
    intro hF1 R1 s1 ht1 hl1 da1 dus1
    refine ⟨t, _, rfl, SqT.of ht1, rfl, _, _, rfl, _, _, rfl, _, _, rfl, _, _, rfl, rfl, ?_⟩
    obtain ⟨dx1, hr1⟩ := R1.rd
    refine ⟨_, rfl, r, C, dx1, _, _, rfl, hr1, T.cl, T.n_has_holes, rf_hh _ _ _ _, _, rfl, ?_⟩
    rcases hsd with ⟨rfl, rfl⟩ | ⟨rfl, as, ps, has, has2, ea, eds, hps, hpz, rfl⟩
    · refine iteF ?_
      obtain ⟨t2, a2, us2, rfl, ht2, da2, hFl2, hl2, dus2⟩ := R1.top
      refine ⟨_, rfl, r, C, dx1, _, _, rfl, hr1, T.cl, T.n_stack, rf_stack _ _ _ _, _, rfl, k, _, _, _, rfl, rfl, SqL.of R1.sk, R1.ix, t2, _, _, _, rfl, rfl, SqT.of (R1.gr.top _ _ ht2), at3, .inl ⟨rfl, _, SqL.of hl2⟩, ?_⟩
      refine ⟨_, rfl, _, rfl, _, rfl, _, rfl, by show 4 ≤ sizeLine; decide, fun p hp => ?_⟩
      have g := (Gr.refl R1.gr.top).mk2 (o := .tup [.str (S f.kd), .str (S f.nm), a, .ref l]) hp
      have R2 := R1.keep (same_new hp) g
      have l2p : l2 ≠ p := ne_of_none hl2 hp
      have s2 : Same F1 (upd F1 p (.tup [.str (S f.kd), .str (S f.nm), a, .ref l])) := same_new (R1.gr.top.free hp)
      refine ⟨l2, us2, _, rfl, rfl, by rw [upd_ne l2p]; exact hl2, ?_, ?_⟩
      · rw [DpAll.len dus2]
        exact Nat.lt_of_le_of_lt hn2 (by decide)
      · refine q _ _ (R2.app (by rw [upd_ne l2p]; exact hl2) (Dp.tup' upd_same (.cons (.str _) (.cons (.str _) (.cons (Dp.same s2 _ _ da1) (.cons (Dp.lst' (s2 _ _ hF1) (DpAll.same s2 _ _ dus1)) .nil))))))
    · refine iteT ?_
      rw [ea] at da1
      obtain ⟨ta, ya, rfl, hta, hya⟩ := Dp.tupI da1
      refine ⟨_, rfl, ta, rfl, ⟨_, same_seqT R1.gr.top hta⟩, fun D hD => ?_⟩
      have hlen : ya.length = (as.map atX).length := by rw [DpAll.len hya, List.length_map, List.length_map]
      refine lc_tup (K := K) (a := ta) (xs := ya) (LcI K H1 F1 D (as.map atX)) (LcI.init R1.gr.top hD) (fun i H _ hi => same_seqT (R1.gr.top.trans hi.same) hta) ?_ ?_
      · rintro i x H2 hx ⟨F2, acc, sa, g2, fD, hDl, hacc⟩
        obtain ⟨d, hd, dx2⟩ := DpAll.at hya hx
        obtain ⟨aa, haa, rfl⟩ := map_atI hd
        have hout : (as.map atX)[i]? = some (atX aa) := by rw [List.getElem?_map, haa]; rfl
        have hlt := has2 aa (List.mem_of_getElem? haa)
        obtain ⟨p, xs, rfl, hp, hxs⟩ := Dp.tupI (Dp.same g2.frz _ _ dx2)
        obtain ⟨x1, x2, rfl, d1, d2⟩ := DpAll.two hxs
        cases d1
        obtain ⟨pl, ys, rfl, hpl, hys⟩ := Dp.lstI d2
        refine ⟨p, _, rfl, same_seqT g2.top hp, rfl, _, _, rfl, _, _, rfl, rfl, rfl, ?_⟩
        refine ⟨_, rfl, rfl, _, rfl, pl, rfl, ⟨_, g2.top.seq hpl⟩, fun D2 hD2 => ?_⟩
        have e1 : (aa.2.map APt.sg).map aD = aa.2.map signD := by rw [List.map_map]; rfl
        rw [e1] at hys
        have hlen2 : ys.length = (aa.2.map fun c => tS [c]).length := by rw [DpAll.len hys, List.length_map, List.length_map]
        refine lc_list (K := K) (a := pl) (xs := ys) (LcI K H2 F2 D2 (aa.2.map fun c => tS [c])) (LcI.init g2.top hD2) (fun i H _ hi => hi.same.seq (g2.top.seq hpl)) ?_ ?_
        · rintro j y H3 hy ⟨F3, acc3, sa3, g3, fD3, hDl3, hacc3⟩
          obtain ⟨d, hd, dy⟩ := DpAll.at hys hy
          obtain ⟨c, hc, rfl⟩ := map_atI hd
          have hout3 : (aa.2.map fun c => tS [c])[j]? = some (tS [c]) := by rw [List.getElem?_map, hc]; rfl
          obtain ⟨py, zs, rfl, hpy, hzs⟩ := Dp.tupI (Dp.same g3.frz _ _ dy)
          obtain ⟨z1, z2, z3, z4, rfl, _, c2, _, _⟩ := DpAll.four hzs
          cases c2
          refine ⟨rfl, _, rfl, py, _, _, _, rfl, rfl, same_seqT g3.top hpy, atI_nat (j := 1) rfl, ?_⟩
          exact LcI.step hD2 (by rw [List.length_map]; omega) sa3 g3 fD3 hDl3 hacc3 hout3 (Same.refl _) (Gr.refl g3.top) (.str _)
        · intro H3 hfin
          obtain ⟨F3, acc3, sa3, g3, fD3, hDl3, hacc3⟩ := hfin.fin hlen2
          rw [mapS] at hacc3
          have eacc := DpAll.strs _ _ hacc3
          subst eacc
          refine ⟨_, D2, aa.2.map fun c => S [c], rfl, rfl, .inl (SqL.of hDl3), ?_, ?_⟩
          · rw [sum_ones, List.length_map, SemptyS, S_len]
            show aa.2.length + aa.2.length * 0 ≤ _
            omega
          rw [SemptyS, joinS]
          refine ⟨by show 2 ≤ sizeLine; decide, fun pt hpt => ?_⟩
          have g4 := g3.mk2 (o := .tup [.str (S aa.1), .str (S aa.2)]) hpt
          exact LcI.step hD (by rw [List.length_map]; omega) sa g2 fD hDl hacc hout (sa3.trans (same_new hpt)) g4 (Dp.tup' upd_same (.cons (.str _) (.cons (.str _) .nil)))
      · intro H2 hfin
        obtain ⟨F2, acc, sa, g2, fD, hDl, hacc⟩ := hfin.fin hlen
        refine ⟨D, _, rfl, .inl ⟨SqL.of hDl, fun tl htl => ?_⟩⟩
        have g3 := g2.mk2 (o := .tup acc) htl
        have s3 : Same F2 (upd F2 tl (.tup acc)) := same_new (g2.top.free htl)
        have sa3 := sa.trans (same_new (o := .tup acc) htl)
        have dtx : Dp K (upd F2 tl (.tup acc)) (.ref tl) (.tuple (as.map atX)) := Dp.tup' upd_same (DpAll.same s3 _ _ hacc)
        revert g3 sa3 dtx
        generalize upd F2 tl (.tup acc) = F3
        generalize upd H2 tl (.tup acc) = H3
        intro g3 sa3 dtx
        have dus3 : DpAll K F3 us (ps.map mpD) := by
          rw [← eds]
          exact DpAll.same g3.frz _ _ dus1
        refine ⟨_, rfl, _, rfl, _, rfl, F3, l, us, ps, rfl, g3.top, SqL.of (g3.top _ _ (g3.frz _ _ hF1)), dus3, hps, hpz, fun H4 F4 m s4 g4 dm => ?_⟩
        refine ⟨by show 3 ≤ sizeLine; decide, fun p hp => ⟨_, _, rfl, ?_⟩⟩
        have g5 := (g3.trans g4).mk2 (o := .tup [.str (S f.nm), .ref tl, m]) hp
        have sa5 := (sa3.trans s4).trans (same_new (o := .tup [.str (S f.nm), .ref tl, m]) hp)
        have s5 : Same F4 (upd F4 p (.tup [.str (S f.nm), .ref tl, m])) := same_new (g4.top.free hp)
        have dnd : Dp K (upd F4 p (.tup [.str (S f.nm), .ref tl, m])) (.ref p) (nodeD f.nm as ps) :=
          Dp.tup' upd_same (.cons (.str _) (.cons (Dp.same (g4.frz.trans s5) _ _ dtx) (.cons (Dp.same s5 _ _ dm) .nil)))
        revert g5 sa5 dnd
        generalize upd F4 p (.tup [.str (S f.nm), .ref tl, m]) = F5
        generalize upd H4 p (.tup [.str (S f.nm), .ref tl, m]) = H5
        intro g5 sa5 dnd
        have R5 := R1.keep sa5 g5
        obtain ⟨dx5, hr5⟩ := R5.rd
        obtain ⟨t2, a2, us2, rfl, ht2, da2, hFl2, hl2, dus2⟩ := R5.top
        refine ⟨_, rfl, r, C, dx5, _, _, rfl, hr5, T.cl, T.n_stack, rf_stack _ _ _ _, _, rfl, k, _, _, _, rfl, rfl, SqL.of R5.sk, R5.ix, t2, _, _, _, rfl, rfl, SqT.of (R5.gr.top _ _ ht2), at3, .inl ⟨rfl, _, SqL.of hl2⟩, ?_⟩
        refine ⟨_, rfl, _, rfl, _, rfl, _, rfl, by show 4 ≤ sizeLine; decide, fun p2 hp2 => ?_⟩
        have g6 := (Gr.refl R5.gr.top).mk2 (o := .tup [.str "node", .ref p, .ref ta, .ref l]) hp2
        have R6 := R5.keep (same_new hp2) g6
        have l2p : l2 ≠ p2 := ne_of_none hl2 hp2
        have s6 : Same F5 (upd F5 p2 (.tup [.str "node", .ref p, .ref ta, .ref l])) := same_new (R5.gr.top.free hp2)
        refine ⟨l2, us2, _, rfl, rfl, by rw [upd_ne l2p]; exact hl2, ?_, ?_⟩
        · rw [DpAll.len dus2]
          exact Nat.lt_of_le_of_lt hn2 (by decide)
        · have dats : Dp K F5 (.ref ta) f.ats := by
            rw [ea]
            exact .tup (same_seqT g5.frz hta) (DpAll.same g5.frz _ _ hya)
          refine q _ _ (R6.app (by rw [upd_ne l2p]; exact hl2) (Dp.tup' upd_same (.cons (.str _) (.cons (Dp.same s6 _ _ dnd) (.cons (Dp.same s6 _ _ dats) (.cons (Dp.lst' ((g5.frz.trans s6) _ _ hF1) (DpAll.same (g5.frz.trans s6) _ _ dus1)) .nil))))))
end
end Dh
namespace Dh
open PySem PySem.Spec PyProof.Rows L2
/-! ### go_by_tag -/
abbrev tagL : List Nat := [116, 97, 103]
theorem tagS : (Str.ofString "tag" : Str) = S tagL := by decide +kernel
abbrev ATr := List Nat × List APt
def attrsT (as : List ATr) : List Nat := (as.map fun a => attrT a.1 a.2).flatten
def atrD (a : ATr) : PyData := attrD a.1 a.2
def tagE (sh : Bool) : List Nat := if sh then [47, 62] else [62]
def tagT (name : List Nat) (as : List ATr) (sh : Bool) : List Nat := 60 :: (name ++ (attrsT as ++ tagE sh))
def tagFm (name : List Nat) (as : List ATr) : Fm := ⟨tagL, name, .tuple (as.map atrD), []⟩
theorem attrT_head (a : ATr) : ∃ t, attrT a.1 a.2 = 32 :: t := ⟨_, rfl⟩
theorem ltS : (Str.ofString "<" : Str) = S [60] := by decide +kernel
theorem gtS : (Str.ofString ">" : Str) = S [62] := by decide +kernel
theorem slS : (Str.ofString "/" : Str) = S [47] := by decide +kernel
theorem sgS : (Str.ofString "/>" : Str) = S [47, 62] := by decide +kernel
section
variable {P : Program} {w : World} {K : PySem.W.Frag} {mg : Str → Option Value} {base : Heap} {C fI aWORDS aTURNED aBLOCKS : Addr} {fdI : FuncData}
def spGoByTag (K : PySem.W.Frag) (C : Addr) : Sp := fun vs H Q _ => ∃ (H0 F0 F : Hp) (r k : Addr) (L : List Nat) (n : Nat) (b : Bool) (v : V) (vv : List V) (l : Addr) (ls : List Addr) (f : Fm) (fs : List Fm) (name : List Nat) (as : List ATr) (sh : Bool) (rem : List Nat) (pt : PyData), vs = [.ref r] ∧
  RS K C H0 F0 r k L n b H F (v :: vv) (l :: ls) (f :: fs) ∧ fs.length ≤ 900 ∧ f.ds.length ≤ 1000 ∧ L.drop n = tagT name as sh ++ rem ∧ isName name = true ∧ as.length ≤ 1 ∧
  (∀ a ∈ as, isName a.1 = true ∧ a.2.length ≤ 1000 ∧ partsOk b L (n + 1 + name.length + 1 + a.1.length + 2) a.2) ∧ (sh = true → ShutD b (tagFm name as) pt) ∧
  (sh = true → ∀ H' F', RS K C H0 F0 r k L (n + (tagT name as sh).length) b H' F' (v :: vv) (l :: ls) (f.add pt :: fs) → Q .non H') ∧
  (sh = false → ∀ H' F' v' l', RS K C H0 F0 r k L (n + (tagT name as sh).length) b H' F' (v' :: v :: vv) (l' :: l :: ls) (tagFm name as :: f :: fs) → Q .non H')
theorem M_go_by_tag (T : Tx K w mg C fI aWORDS aTURNED aBLOCKS fdI) : Mf P w K mg base C 6 "go_by_tag" ["self"] (spGoByTag K C) := by
  have M_here : Mf P w K mg base C 1 "here" ["self"] (spHere C) := M_here T
  have M_go_by : Mf P w K mg base C 2 "go_by" ["self", "signs"] (spGoBy C) := M_go_by T
  have M_name_unlike : Mf P w K mg base C 2 "name_unlike" ["self", "others"] (spNameUnlike K C) := M_name_unlike T
  have M_attribute_there : Mf P w K mg base C 5 "attribute_there" ["self", "others"] (spAttrThere K C) := M_attribute_there T
  have M_shut : Mf P w K mg base C 2 "shut" ["self"] (spShut K C) := M_shut T
  refine mf_mk T.m_go_by_tag sc_Reading_go_by_tag (fun vs H Q E h => ?_) (fun f cdv A outer s H vs Q E hr h => ?_)
  · obtain ⟨H0, F0, F, r, k, L, n, b, v, vv, l, ls, f, fs, name, as, sh, rem, pt, rfl, _⟩ := h
    rfl
  · obtain ⟨H0, F0, F, r, k, L, n, b, v, vv, l, ls, f, fs, name, as, sh, rem, pt, rfl, R, hfs, hds, hd, hnm, has, hat, hsd, q1, q2⟩ := h
    refine ⟨_, (pss_cons (ps_expr (pe_methG (pv 0) T.cl M_go_by (hr.mono (by first | decide | omega)) (pa_cons pe_str pa_nil)))
  (pss_cons (ps_par (i := 1) (j := 2) rfl sc_Reading_go_by_tag.nd rfl rfl (by decide) rfl rfl (pa_cons (pe_methG (pv 0) T.cl M_name_unlike (hr.mono (by first | decide | omega)) (pa_cons (pe_tup pa_nil) pa_nil)) (pa_cons (pe_lst pa_nil) pa_nil)) (by rfl))
  (pss_cons (ps_while PassesOwn.never (pt_cmpR op_eq (pe_methG0 (pv 0) T.cl M_here (hr.mono (by first | decide | omega))) pe_str (nomark _))
  (pss_one (ps_expr (pe_bm PySem.F.plainAttrs_list PySem.F.slot_list_append PySem.F.type_list_append mt_append (pv 2) (pa_cons (pe_methG (pv 0) T.cl M_attribute_there (hr.mono (by first | decide | omega)) (pa_cons (pe_lc (own := [("one", 3), ("parts", 4)]) rfl sc_Reading_go_by_tag.nd (pi_list (pv 2)) (blkOk_by (by kernel_rfl)) (fun _ _ _ _ _ => (pg_tupK K 2 rfl rfl (pgs_cons (pg_name (i := 3) sc_Reading_go_by_tag.nd rfl (Or.inl rfl)) (pgs_cons (pg_name (i := 4) sc_Reading_go_by_tag.nd rfl (Or.inl rfl)) pgs_nil)))) (fun _ _ _ _ _ => pts_nil) (fun _ _ _ _ _ => (pv 3))) pa_nil)) pa_nil)))))
  (pss_cons (ps_set (i := 5) sc_Reading_go_by_tag.nd rfl (Or.inl rfl) (pe_cmpR op_eq (pe_methG0 (pv 0) T.cl M_here (hr.mono (by first | decide | omega))) pe_str (nomark _)))
  (pss_cons (ps_expr (pe_methG (pv 0) T.cl M_go_by (hr.mono (by first | decide | omega)) (pa_cons (pe_ifExp (pt_val (pv 5)) pe_str pe_str) pa_nil)))
  (pss_cons (ps_expr (pe_bm PySem.F.plainAttrs_list PySem.F.slot_list_append PySem.F.type_list_append mt_append (pe_fld (pv 0) rfl) (pa_cons (pe_tup (pa_cons pe_str (pa_cons (pv 1) (pa_cons (pe_callTy call_tuple_of (by rfl) T.b_tuple (by decide +kernel) (pa_cons (pv 2) pa_nil)) (pa_cons (pe_lst pa_nil) pa_nil))))) pa_nil)))
  (pss_one (ps_if (pt_val (pv 5)) (pss_one (ps_expr (pe_methG0 (pv 0) T.cl M_shut (hr.mono (by first | decide | omega))))) pss_nil)))))))), ?_⟩
    have hd0 : L.drop n = [60] ++ (name ++ (attrsT as ++ (tagE sh ++ rem))) := by
      rw [hd]
      unfold tagT
      simp
    have hd1 : L.drop (n + 1) = name ++ (attrsT as ++ (tagE sh ++ rem)) := drop_add hd0 rfl
    have hd2 : L.drop (n + 1 + name.length) = attrsT as ++ (tagE sh ++ rem) := drop_add hd1 rfl
    obtain ⟨c, rc, hc, hcl⟩ : ∃ c rc, attrsT as ++ (tagE sh ++ rem) = c :: rc ∧ c ∉ LETL := by
      cases as with
      | nil =>
        cases sh
        · exact ⟨62, _, rfl, by decide +kernel⟩
        · exact ⟨47, _, rfl, by decide +kernel⟩
      | cons a as => exact ⟨32, _, rfl, by decide +kernel⟩
    -- self.go_by('<')
    obtain ⟨dx, hr0⟩ := R.rd
    refine ⟨_, rfl, r, dx, _, rfl, hr0, no_m "go_by" _ _ _ _ (by decide +kernel), ?_⟩
    rw [ltS]
    refine ⟨r, k, L, [60], _, n, b, rfl, ⟨dx, hr0⟩, R.hL, hd0, fun H1 hr1 s1 => ?_⟩
    have R1 := R.step hr1 s1 (Gr.sameB R.gr.top R.fr s1 (some_ne hr1.choose_spec))
    clear hr1 s1
    obtain ⟨dx1, hr1⟩ := R1.rd
    -- name, attributes
    refine ⟨_, rfl, r, dx1, _, rfl, hr1, no_m "name_unlike" _ _ _ _ (by decide +kernel), Nat.zero_le _, fun e he => ?_⟩
    have R2 := R1.keep (same_new he) ((Gr.refl R1.gr.top).mk2 (o := .tup []) he)
    refine ⟨r, k, e, L, name, rc, n + 1, c, b, rfl, R2.rd, .inr (SqT.of upd_same), R.hL, by rw [hd1, hc], hnm, hcl, fun H3 hr3 s3 => ?_⟩
    have R3 := R2.step hr3 s3 (Gr.sameB R2.gr.top R2.fr s3 (some_ne hr3.choose_spec))
    clear hr3 s3
    refine ⟨Nat.zero_le _, fun al hal => ⟨_, _, rfl, ?_⟩⟩
    have R4 := R3.keep (same_new hal) ((Gr.refl R3.gr.top).mk1 (o := .lst []) (R3.gr.top.free hal))
    have hFal := R3.gr.top.free hal
    have hal4 : upd H3 al (.lst []) al = some (.lst []) := upd_same
    have alr : al ≠ r := fun e => by
      obtain ⟨dx3, h3⟩ := R3.rd
      rw [e, h3] at hal
      cases hal
    have alk : al ≠ k := fun e => by
      rw [e, R3.sk] at hal
      cases hal
    have all : ∀ l' ∈ l :: ls, al ≠ l' := fun l' hm e => by
      obtain ⟨_, us, h4⟩ := R3.st.mem l' hm
      rw [e, h4] at hal
      cases hal
    have hal0 : H0 al = none := by
      cases q : H0 al with
      | none => rfl
      | some o => exact absurd hal (R3.gr.dom al (some_ne q))
    revert R4 hal4 hFal
    generalize upd H3 al (.lst []) = H4
    generalize upd (F) e (.tup []) = F4
    intro R4 hFal hal4
    -- the loop
    refine gen_while fun D eD => ?_
    refine ⟨fun m σ H1 => ∃ (pa pb : List ATr) (F1 : Hp) (us : List V), m = pb.length ∧ as = pa ++ pb ∧ σ = [some (.ref r), some (.str (S name)), some (.ref al), none, none, none] ∧ RS K C H0 F0 r k L (n + 1 + name.length + (attrsT pa).length) b H1 F1 (v :: vv) (l :: ls) (f :: fs) ∧ F1 al = none ∧
      H1 al = some (.lst us) ∧ DpAll K F1 us (pa.map atrD), ⟨_, [], as, F4, [], rfl, rfl, rfl, R4, hFal, hal4, .nil⟩, ?_⟩
    rintro m σ H5 ⟨pa, pb, F5, us, rfl, eas, rfl, R5, hF5, hal5, hus⟩
    have hd5 : L.drop (n + 1 + name.length + (attrsT pa).length) = attrsT pb ++ (tagE sh ++ rem) := by
      refine drop_add (a := attrsT pa) ?_ rfl
      rw [hd2, eas]
      unfold attrsT
      simp
    obtain ⟨dx5, hr5⟩ := R5.rd
    cases pb with
    | nil =>
      rw [List.append_nil] at eas
      subst eas
      obtain ⟨c5, r5, hc5, hn5⟩ : ∃ c r, tagE sh ++ rem = c :: r ∧ c ≠ 32 := by
        cases sh
        · exact ⟨62, _, rfl, by decide⟩
        · exact ⟨47, _, rfl, by decide⟩
      have hcx : L[n + 1 + name.length + (attrsT as).length]? = some c5 := by
        exact drop_at (n := n + 1 + name.length + (attrsT as).length) (g := [c5]) (rem := r5) (i := 0) (hd5.trans hc5) rfl
      refine ⟨_, rfl, r, dx5, _, rfl, hr5, no_m "here" _ _ _ _ (by decide +kernel), r, k, L, _, c5, b, rfl, ⟨dx5, hr5⟩, R.hL, hcx, rfl, _, rfl, ?_⟩
      refine ite_f (by rw [spS, dec_V, decide_eq_false (by intro z; exact hn5 (List.head_eq_of_cons_eq z))]) ?_
      rw [eD]
      refine ⟨_, rfl, r, dx5, _, rfl, hr5, no_m "here" _ _ _ _ (by decide +kernel), r, k, L, _, c5, b, rfl, ⟨dx5, hr5⟩, R.hL, hcx, rfl, ?_⟩
      have esh : decide (V.str (S [c5]) = V.str "/") = sh := by
        rw [slS, dec_V]
        cases sh
        · have : c5 = 62 := (List.head_eq_of_cons_eq hc5).symm
          subst this
          rfl
        · have : c5 = 47 := (List.head_eq_of_cons_eq hc5).symm
          subst this
          rfl
      rw [esh, tagS]
      refine ⟨_, rfl, r, dx5, _, rfl, hr5, no_m "go_by" _ _ _ _ (by decide +kernel), ?_⟩
      cases sh
      · refine ⟨_, rfl, _, rfl, iteF ?_⟩
        rw [gtS]
        refine ⟨r, k, L, tagE false, rem, _, b, rfl, ⟨dx5, hr5⟩, R.hL, drop_add (a := attrsT as) (by rw [hd2]) rfl, fun H6 hr6 s6 => ?_⟩
        have R6 := R5.step hr6 s6 (Gr.sameB R5.gr.top R5.fr s6 (some_ne hr6.choose_spec))
        have hal6 := s6 _ _ alr hal5
        clear hr6
        obtain ⟨dx6, hr6⟩ := R6.rd
        refine ⟨_, rfl, r, C, dx6, _, _, rfl, hr6, T.cl, T.n_stack, rf_stack _ _ _ _, .inl ⟨rfl, _, SqL.of R6.sk⟩, _, rfl, _, rfl, al, _, rfl, .inl ⟨SqL.of hal6, fun t1 ht1 => ?_⟩⟩
        have R7 := R6.keep (same_new ht1) ((Gr.refl R6.gr.top).mk2 (o := .tup us) ht1)
        have sF7 : Same F5 (upd F5 t1 (.tup us)) := same_new (R6.gr.top.free ht1)
        have d1 : Dp K (upd F5 t1 (.tup us)) (.ref t1) (.tuple (as.map atrD)) := Dp.tup' upd_same (DpAll.same sF7 _ _ hus)
        refine ⟨Nat.zero_le _, fun l' hl' => ⟨by show 4 ≤ sizeLine; decide, fun t ht => ?_⟩⟩
        have R8 := R7.push (kd := tagL) (nm := name) hl' ht d1
        have hk8 : upd (upd (upd H6 t1 (.tup us)) l' (.lst [])) t (.tup [.str (S tagL), .str (S name), .ref t1, .ref l']) k = some (.lst (v :: vv).reverse) := by
          rw [upd_ne (ne_of_none (H := upd (upd H6 t1 (.tup us)) l' (.lst [])) (by rw [upd_ne (ne_of_none R7.sk hl')]; exact R7.sk) ht), upd_ne (ne_of_none R7.sk hl')]
          exact R7.sk
        refine ⟨k, _, _, rfl, rfl, hk8, ?_, ?_⟩
        · rw [List.length_reverse, List.length_cons]
          have := R.st.len
          simp only [List.length_cons] at this
          exact Nat.lt_of_le_of_lt (m := 1000) (by omega) (by decide)
        have en : n + 1 + name.length + (attrsT as).length + (tagE false).length = n + (tagT name as false).length := by
          unfold tagT
          simp only [List.length_cons, List.length_append]
          omega
        rw [en] at R8
        refine ⟨_, rfl, _, rfl, iteF ?_⟩
        exact q2 rfl _ _ _ _ R8
      · refine ⟨_, rfl, _, rfl, iteT ?_⟩
        rw [sgS]
        refine ⟨r, k, L, tagE true, rem, _, b, rfl, ⟨dx5, hr5⟩, R.hL, drop_add (a := attrsT as) (by rw [hd2]) rfl, fun H6 hr6 s6 => ?_⟩
        have R6 := R5.step hr6 s6 (Gr.sameB R5.gr.top R5.fr s6 (some_ne hr6.choose_spec))
        have hal6 := s6 _ _ alr hal5
        clear hr6
        obtain ⟨dx6, hr6⟩ := R6.rd
        refine ⟨_, rfl, r, C, dx6, _, _, rfl, hr6, T.cl, T.n_stack, rf_stack _ _ _ _, .inl ⟨rfl, _, SqL.of R6.sk⟩, _, rfl, _, rfl, al, _, rfl, .inl ⟨SqL.of hal6, fun t1 ht1 => ?_⟩⟩
        have R7 := R6.keep (same_new ht1) ((Gr.refl R6.gr.top).mk2 (o := .tup us) ht1)
        have sF7 : Same F5 (upd F5 t1 (.tup us)) := same_new (R6.gr.top.free ht1)
        have d1 : Dp K (upd F5 t1 (.tup us)) (.ref t1) (.tuple (as.map atrD)) := Dp.tup' upd_same (DpAll.same sF7 _ _ hus)
        refine ⟨Nat.zero_le _, fun l' hl' => ⟨by show 4 ≤ sizeLine; decide, fun t ht => ?_⟩⟩
        have R8 := R7.push (kd := tagL) (nm := name) hl' ht d1
        have hk8 : upd (upd (upd H6 t1 (.tup us)) l' (.lst [])) t (.tup [.str (S tagL), .str (S name), .ref t1, .ref l']) k = some (.lst (v :: vv).reverse) := by
          rw [upd_ne (ne_of_none (H := upd (upd H6 t1 (.tup us)) l' (.lst [])) (by rw [upd_ne (ne_of_none R7.sk hl')]; exact R7.sk) ht), upd_ne (ne_of_none R7.sk hl')]
          exact R7.sk
        refine ⟨k, _, _, rfl, rfl, hk8, ?_, ?_⟩
        · rw [List.length_reverse, List.length_cons]
          have := R.st.len
          simp only [List.length_cons] at this
          exact Nat.lt_of_le_of_lt (m := 1000) (by omega) (by decide)
        have en : n + 1 + name.length + (attrsT as).length + (tagE true).length = n + (tagT name as true).length := by
          unfold tagT
          simp only [List.length_cons, List.length_append]
          omega
        rw [en] at R8
        refine ⟨_, rfl, _, rfl, iteT ?_⟩
        obtain ⟨dx8, hr8⟩ := R8.rd
        refine ⟨_, rfl, r, dx8, _, rfl, hr8, no_m "shut" _ _ _ _ (by decide +kernel), H0, F0, _, r, k, L, _, b, _, v, vv, l', l, ls, tagFm name as, f, fs, pt, rfl, R8, Nat.zero_le _, hds, hsd rfl, fun H9 F9 R9 => q1 rfl _ _ R9⟩
    | cons a pb =>
      have hl3 := congrArg List.length eas
      rw [List.length_append, List.length_cons] at hl3
      have epa : pa = [] := List.eq_nil_of_length_eq_zero (by omega)
      have epb : pb = [] := List.eq_nil_of_length_eq_zero (by omega)
      subst epa epb
      have eus : us = [] := by
        cases hus
        rfl
      subst eus
      obtain ⟨ha1, ha2, ha3⟩ := hat a (by rw [eas]; simp)
      have hd6 : L.drop (n + 1 + name.length) = attrT a.1 a.2 ++ (tagE sh ++ rem) := by
        rw [hd2, eas]
        show (attrT a.1 a.2 ++ []) ++ _ = _
        rw [List.append_nil]
      have R5' : RS K C H0 F0 r k L (n + 1 + name.length) b H5 F5 (v :: vv) (l :: ls) (f :: fs) := R5
      clear hr5
      obtain ⟨dx5, hr5⟩ := R5'.rd
      have hcx : L[n + 1 + name.length]? = some 32 := drop_at (n := n + 1 + name.length) (g := attrT a.1 a.2) (i := 0) hd6 rfl
      refine ⟨_, rfl, r, dx5, _, rfl, hr5, no_m "here" _ _ _ _ (by decide +kernel), r, k, L, _, 32, b, rfl, ⟨dx5, hr5⟩, R.hL, hcx, rfl, _, rfl, ?_⟩
      refine ite_t (by rw [spS, dec_V]; rfl) ?_
      refine ⟨fun σ' H1 => ∃ (F1 : Hp) (us : List V), σ' = [some (.ref r), some (.str (S name)), some (.ref al), none, none, none] ∧ RS K C H0 F0 r k L (n + 1 + name.length + (attrsT [a]).length) b H1 F1 (v :: vv) (l :: ls) (f :: fs) ∧ F1 al = none ∧
        H1 al = some (.lst us) ∧ DpAll K F1 us ([a].map atrD), fun σ' H1 ⟨F1, us, a1, a2, a3, a4, a5⟩ => ⟨0, by simp, [a], [], F1, us, rfl, eas, a1, a2, a3, a4, a5⟩, ?_⟩
      refine ⟨_, rfl, .inl ⟨rfl, _, SqL.of hal5⟩, _, rfl, r, dx5, _, rfl, hr5, no_m "attribute_there" _ _ _ _ (by decide +kernel), _, rfl, al, rfl, ⟨_, SqL.of hal5⟩, fun D2 hD2 => ?_⟩
      refine lc_list (K := K) (a := al) (xs := []) (fun i H2 => H2 = upd H5 D2 (.lst [])) rfl (fun i H2 _ e => by subst e; exact (same_new hD2).seq (SqL.of hal5)) (fun i x H2 hx _ => by simp at hx) (fun H2 e => ?_)
      subst e
      have R6 := R5'.keep (same_new hD2) ((Gr.refl R5'.gr.top).mk1 (o := .lst []) (R5'.gr.top.free hD2))
      have hal6 : upd H5 D2 (.lst []) al = some (.lst []) := same_new hD2 _ _ hal5
      refine ⟨F5, r, k, D2, L, a.1, _, a.2, _, b, rfl, R6.rd, R6.gr.top, R6.fr, .inl (SqL.of upd_same), R.hL, hd6, ha1, ha2, ha3, fun H7 F7 x hr7 s7 g7 d7 => ?_⟩
      have R7 := R6.step hr7 s7 g7
      have hal7 := s7 _ _ alr hal6
      have hF7 := g7.stays hF5 hal6
      refine ⟨al, [], x, rfl, rfl, hal7, by show 0 < sizeLine; decide, F7, [x], rfl, ?_, hF7, upd_same, .cons d7 .nil⟩
      have R8 := R7.mut (o := .lst [x]) hal0 hF7 alr alk all
      have e8 : (attrsT [a]).length = (attrT a.1 a.2).length := by
        show (attrT a.1 a.2 ++ []).length = _
        rw [List.append_nil]
      rw [e8]
      exact R8
end
end Dh
namespace Dh
open PySem PySem.Spec PyProof.Rows L2
/-! ### go_by_end, go_by_hole -/
def endT (name : List Nat) : List Nat := 60 :: 47 :: (name ++ [62])
theorem leS : (Str.ofString "</" : Str) = S [60, 47] := by decide +kernel
def holeT (t : List Nat) : List Nat := [123, 123] ++ (t ++ [125, 125])
def HoleIn (L : List Nat) (n : Nat) (t w0 wl : List Nat) (two : Bool) : Prop :=
  Txt.find3 (S L) (S [125, 125]) (n : Int) = ((n + 2 + t.length : Nat) : Int) ∧ Txt.split (S t) (S [32]) = (if two then [S w0, S wl] else [S w0]) ∧
  isName (if two then wl else w0) = true ∧ inV (.str (S w0)) BLK = two ∧ (∀ c ∈ w0, c < 128) ∧ (∀ c ∈ wl, c < 128)
def blkFm (w0 wl : List Nat) : Fm := ⟨w0, wl, .tuple [], []⟩
theorem at0 {a b c d : V} : atI [a, b, c, d] 0 = some a := atI_nat (j := 0) rfl
section
variable {P : Program} {w : World} {K : PySem.W.Frag} {mg : Str → Option Value} {base : Heap} {C fI aWORDS aTURNED aBLOCKS : Addr} {fdI : FuncData}
def spGoByEnd (K : PySem.W.Frag) (C : Addr) : Sp := fun vs H Q _ => ∃ (H0 F0 F : Hp) (r k : Addr) (L : List Nat) (n : Nat) (b : Bool) (v v2 : V) (vv : List V) (l l2 : Addr) (ls : List Addr) (f f2 : Fm) (fs : List Fm) (rem : List Nat) (pt : PyData), vs = [.ref r] ∧
  RS K C H0 F0 r k L n b H F (v :: v2 :: vv) (l :: l2 :: ls) (f :: f2 :: fs) ∧ f.ds.length ≤ 1000 ∧ f2.ds.length ≤ 1000 ∧ f.kd = tagL ∧ f.nm.length ≤ 8 ∧ L.drop n = endT f.nm ++ rem ∧ ShutD b f pt ∧
  ∀ H' F', RS K C H0 F0 r k L (n + (endT f.nm).length) b H' F' (v2 :: vv) (l2 :: ls) (f2.add pt :: fs) → Q .non H'
theorem M_go_by_end (T : Tx K w mg C fI aWORDS aTURNED aBLOCKS fdI) : Mf P w K mg base C 3 "go_by_end" ["self"] (spGoByEnd K C) := by
  have M_go_by : Mf P w K mg base C 2 "go_by" ["self", "signs"] (spGoBy C) := M_go_by T
  have M_shut : Mf P w K mg base C 2 "shut" ["self"] (spShut K C) := M_shut T
  refine mf_mk T.m_go_by_end sc_Reading_go_by_end (fun vs H Q E h => ?_) (fun f cdv A outer s H vs Q E hr h => ?_)
  · obtain ⟨H0, F0, F, r, k, L, n, b, v, v2, vv, l, l2, ls, f, f2, fs, rem, pt, rfl, _⟩ := h
    rfl
  · obtain ⟨H0, F0, F, r, k, L, n, b, v, v2, vv, l, l2, ls, f, f2, fs, rem, pt, rfl, R, hn1, hn2, hkd, hnm, hd, hsd, q⟩ := h
    refine ⟨_, (pss_cons (ps_asg (pe_ix ix_list (pe_fld (pv 0) rfl) (pe_un un_neg pe_int) (fun _ _ => rfl)) (pg_tup rfl (pgs_cons (pg_name (i := 1) sc_Reading_go_by_end.nd rfl (Or.inl rfl)) (pgs_cons (pg_name (i := 2) sc_Reading_go_by_end.nd rfl (Or.inl rfl)) (pgs_cons (pg_name (i := 3) sc_Reading_go_by_end.nd rfl (Or.inl rfl)) (pgs_cons (pg_name (i := 4) sc_Reading_go_by_end.nd rfl (Or.inl rfl)) pgs_nil))))))
  (pss_cons (ps_if (pt_cmpR op_ne (pv 1) pe_str (nomark _)) (pss_one ps_never) pss_nil)
  (pss_cons (ps_expr (pe_methG (pv 0) T.cl M_go_by (hr.mono (by first | decide | omega)) (pa_cons (pe_op op_add_str (pe_op op_add_str pe_str (pv 2)) pe_str) pa_nil)))
  (pss_one (ps_expr (pe_methG0 (pv 0) T.cl M_shut (hr.mono (by first | decide | omega)))))))), ?_⟩
    obtain ⟨t, a, us, rfl, ht, da, hFl, hl, dus⟩ := R.top
    obtain ⟨dx, hr0⟩ := R.rd
    refine ⟨_, rfl, r, C, dx, _, _, rfl, hr0, T.cl, T.n_stack, rf_stack _ _ _ _, _, rfl, k, _, _, _, rfl, rfl, SqL.of R.sk, R.ix, t, _, rfl, SqT.of (R.gr.top _ _ ht), rfl, _, _, rfl, _, _, rfl, _, _, rfl, _, _, rfl, rfl, ?_⟩
    refine ⟨_, rfl, rfl, _, rfl, ?_⟩
    refine ite_f (by rw [hkd, tagS, dec_V]; rfl) ?_
    refine ⟨_, rfl, r, dx, _, rfl, hr0, no_m "go_by" _ _ _ _ (by decide +kernel), _, rfl, _, _, rfl, rfl, ?_, _, _, rfl, rfl, ?_, ?_⟩
    · rw [leS, S_len, S_len]
      exact Nat.le_trans (m := 1000) (by show 2 + _ ≤ _; omega) (by decide)
    · rw [leS, S_app, gtS, S_len, S_len]
      exact Nat.le_trans (m := 1000) (by rw [List.length_append]; show 2 + _ + 1 ≤ _; omega) (by decide)
    rw [leS, S_app, gtS, S_app]
    refine ⟨r, k, L, [60, 47] ++ f.nm ++ [62], rem, n, b, rfl, ⟨dx, hr0⟩, R.hL, by rw [hd]; simp [endT], fun H6 hr6 s6 => ?_⟩
    have R6 := R.step hr6 s6 (Gr.sameB R.gr.top R.fr s6 (some_ne hr6.choose_spec))
    clear hr6
    obtain ⟨dx6, hr6⟩ := R6.rd
    have e : n + ([60, 47] ++ f.nm ++ [62]).length = n + (endT f.nm).length := by simp [endT]
    rw [e] at R6 hr6
    exact ⟨_, rfl, r, dx6, _, rfl, hr6, no_m "shut" _ _ _ _ (by decide +kernel), H0, F0, F, r, k, L, _, b, _, v2, vv, l, l2, ls, f, f2, fs, pt, rfl, R6, hn1, hn2, hsd, q⟩
def spGoByHole (K : PySem.W.Frag) (C : Addr) : Sp := fun vs H Q _ => ∃ (H0 F0 F : Hp) (r k : Addr) (L : List Nat) (n : Nat) (v : V) (vv : List V) (l : Addr) (ls : List Addr) (f : Fm) (fs : List Fm) (t w0 wl : List Nat) (two : Bool) (rem : List Nat), vs = [.ref r] ∧
  RS K C H0 F0 r k L n true H F (v :: vv) (l :: ls) (f :: fs) ∧ fs.length ≤ 900 ∧ f.ds.length ≤ 1000 ∧ L.drop n = holeT t ++ rem ∧ HoleIn L n t w0 wl two ∧
  (two = true → ∀ H' F' v' l', RS K C H0 F0 r k L (n + (holeT t).length) true H' F' (v' :: v :: vv) (l' :: l :: ls) (blkFm w0 wl :: f :: fs) → Q .non H') ∧
  (two = false → w0 ≠ endL → ∀ H' F', RS K C H0 F0 r k L (n + (holeT t).length) true H' F' (v :: vv) (l :: ls) (f.add (holeD w0) :: fs) → Q .non H') ∧
  (two = false → w0 = endL → ∃ (v2 : V) (vv2 : List V) (l2 : Addr) (ls2 : List Addr) (f2 : Fm) (fs2 : List Fm) (pt : PyData), vv = v2 :: vv2 ∧ ls = l2 :: ls2 ∧ fs = f2 :: fs2 ∧ f2.ds.length ≤ 1000 ∧ inV (.str (S f.kd)) BLK = true ∧ ShutD true f pt ∧
    ∀ H' F', RS K C H0 F0 r k L (n + (holeT t).length) true H' F' vv ls (f2.add pt :: fs2) → Q .non H')
theorem M_go_by_hole (T : Tx K w mg C fI aWORDS aTURNED aBLOCKS fdI) : Mf P w K mg base C 4 "go_by_hole" ["self"] (spGoByHole K C) := by
  have M_hole_there : Mf P w K mg base C 3 "hole_there" ["self"] (spHoleThere K C) := M_hole_there T
  have M_shut : Mf P w K mg base C 2 "shut" ["self"] (spShut K C) := M_shut T
  refine mf_mk T.m_go_by_hole sc_Reading_go_by_hole (fun vs H Q E h => ?_) (fun f cdv A outer s H vs Q E hr h => ?_)
  · obtain ⟨H0, F0, F, r, k, L, n, v, vv, l, ls, f, fs, t, w0, wl, two, rem, rfl, _⟩ := h
    rfl
  · obtain ⟨H0, F0, F, r, k, L, n, v, vv, l, ls, f, fs, t, w0, wl, two, rem, rfl, R, hfs, hds, hd, ⟨i1, i2, i3, i4, i5, i6⟩, q1, q2, q3⟩ := h
    refine ⟨_, (pss_cons (ps_asg (pe_methG0 (pv 0) T.cl M_hole_there (hr.mono (by first | decide | omega))) (pg_tup rfl (pgs_cons (pg_name (i := 1) sc_Reading_go_by_hole.nd rfl (Or.inl rfl)) (pgs_cons (pg_name (i := 2) sc_Reading_go_by_hole.nd rfl (Or.inl rfl)) pgs_nil))))
  (pss_one (ps_if (pt_cmpR op_in_seq (pv 1) (pe_gR (by rfl) T.gBLOCKS) (by rfl)) (pss_one (ps_expr (pe_bm PySem.F.plainAttrs_list PySem.F.slot_list_append PySem.F.type_list_append mt_append (pe_fld (pv 0) rfl) (pa_cons (pe_tup (pa_cons (pv 1) (pa_cons (pv 2) (pa_cons (pe_tup pa_nil) (pa_cons (pe_lst pa_nil) pa_nil))))) pa_nil)))) (pss_one (ps_if (pt_cmpR op_eq (pv 1) pe_str (nomark _)) (pss_one (ps_expr (pe_bm PySem.F.plainAttrs_list PySem.F.slot_list_append PySem.F.type_list_append mt_append (pe_ix ix_tup (pe_ix ix_list (pe_fld (pv 0) rfl) (pe_un un_neg pe_int) (fun _ _ => rfl)) pe_int (fun _ _ => rfl)) (pa_cons (pe_tup (pa_cons (pv 1) (pa_cons (pv 2) (pa_cons (pe_tup pa_nil) (pa_cons (pe_lst pa_nil) pa_nil))))) pa_nil)))) (pss_one (ps_if (pt_cmpR op_in_seq (pe_ix ix_tup (pe_ix ix_list (pe_fld (pv 0) rfl) (pe_un un_neg pe_int) (fun _ _ => rfl)) pe_int (fun _ _ => rfl)) (pe_gR (by rfl) T.gBLOCKS) (by rfl)) (pss_one (ps_expr (pe_methG0 (pv 0) T.cl M_shut (hr.mono (by first | decide | omega))))) (pss_one ps_never)))))))), ?_⟩
    obtain ⟨dx, hr0⟩ := R.rd
    have hd2 : L.drop n = [123, 123] ++ (t ++ ([125, 125] ++ rem)) := by
      rw [hd]
      simp [holeT]
    refine ⟨_, rfl, r, dx, _, rfl, hr0, no_m "hole_there" _ _ _ _ (by decide +kernel), r, k, L, t, rem, w0, wl, n, true, two, rfl, ⟨dx, hr0⟩, R.hL, hd2, i1, i2, i3, i4, i5, i6, fun H1 p hr1 s1 hp => ?_⟩
    have R1 := R.step hr1 s1 (Gr.sameB R.gr.top R.fr s1 (some_ne hr1.choose_spec))
    have en : n + 2 + t.length + 2 = n + (holeT t).length := by
      simp [holeT]
      omega
    rw [en] at R1 hr1
    clear hr1
    obtain ⟨dx1, hr1⟩ := R1.rd
    refine ⟨p, _, rfl, SqT.of hp, rfl, _, _, rfl, _, _, rfl, rfl, ?_⟩
    cases two with
    | true =>
      have e6 : holeRes true w0 wl = (w0, wl) := rfl
      rw [e6]
      refine ⟨_, rfl, aBLOCKS, BLK, rfl, .inr (T.sqBLOCKS H1), rfl, rfl, _, rfl, ?_⟩
      refine ite_t i4 ?_
      refine ⟨_, rfl, r, C, dx1, _, _, rfl, hr1, T.cl, T.n_stack, rf_stack _ _ _ _, .inl ⟨rfl, _, SqL.of R1.sk⟩, ?_⟩
      refine ⟨_, rfl, _, rfl, Nat.zero_le _, fun e he => ⟨Nat.zero_le _, fun l' hl' => ⟨by show 4 ≤ sizeLine; decide, fun t' ht' => ?_⟩⟩⟩
      have R2 := R1.keep (same_new he) ((Gr.refl R1.gr.top).mk2 (o := .tup []) he)
      have d1 : Dp K (upd F e (.tup [])) (.ref e) (.tuple []) := Dp.tup' upd_same .nil
      have R8 := R2.push (kd := w0) (nm := wl) hl' ht' d1
      have hk8 : upd (upd (upd H1 e (.tup [])) l' (.lst [])) t' (.tup [.str (S w0), .str (S wl), .ref e, .ref l']) k = some (.lst (v :: vv).reverse) := by
        rw [upd_ne (ne_of_none (H := upd (upd H1 e (.tup [])) l' (.lst [])) (by rw [upd_ne (ne_of_none R2.sk hl')]; exact R2.sk) ht'), upd_ne (ne_of_none R2.sk hl')]
        exact R2.sk
      refine ⟨k, _, _, rfl, rfl, hk8, ?_, ?_⟩
      · rw [List.length_reverse, List.length_cons]
        have := R.st.len
        simp only [List.length_cons] at this
        exact Nat.lt_of_le_of_lt (m := 1000) (by omega) (by decide)
      exact q1 rfl _ _ _ _ R8
    | false =>
      by_cases hw : w0 = endL
      · have e6 : holeRes false w0 wl = (endL, []) := by
          unfold holeRes
          rw [if_neg (by decide), if_pos hw]
        rw [e6]
        obtain ⟨v2, vv2, l2, ls2, f2, fs2, pt, rfl, rfl, rfl, hn2, hb, hsd, q⟩ := q3 rfl hw
        obtain ⟨t2, a2, us2, rfl, ht2, da2, hFl2, hl2, dus2⟩ := R1.top
        refine ⟨_, rfl, aBLOCKS, BLK, rfl, .inr (T.sqBLOCKS H1), rfl, rfl, _, rfl, ?_⟩
        refine ite_f (by decide +kernel) ?_
        refine ⟨_, rfl, rfl, _, rfl, ?_⟩
        refine ite_f (by rw [holeS, dec_V]; rfl) ?_
        refine ⟨_, rfl, r, C, dx1, _, _, rfl, hr1, T.cl, T.n_stack, rf_stack _ _ _ _, _, rfl, k, _, _, _, rfl, rfl, SqL.of R1.sk, R1.ix, t2, _, _, _, rfl, rfl, SqT.of (R1.gr.top _ _ ht2), at0, aBLOCKS, BLK, rfl, .inr (T.sqBLOCKS H1), rfl, rfl, _, rfl, ?_⟩
        refine ite_t hb ?_
        exact ⟨_, rfl, r, dx1, _, rfl, hr1, no_m "shut" _ _ _ _ (by decide +kernel), H0, F0, F, r, k, L, _, true, _, v2, vv2, l, l2, ls2, f, f2, fs2, pt, rfl, R1, hds, hn2, hsd, q⟩
      · have e6 : holeRes false w0 wl = (holeL, w0) := by
          unfold holeRes
          rw [if_neg (by decide), if_neg hw]
        rw [e6]
        refine ⟨_, rfl, aBLOCKS, BLK, rfl, .inr (T.sqBLOCKS H1), rfl, rfl, _, rfl, ?_⟩
        refine ite_f (by show inV (.str (S holeL)) BLK = false; decide +kernel) ?_
        refine ⟨_, rfl, rfl, _, rfl, ?_⟩
        refine ite_t (by rw [holeS, dec_V]; rfl) ?_
        obtain ⟨t2, a2, us2, rfl, ht2, da2, hFl2, hl2, dus2⟩ := R1.top
        refine ⟨_, rfl, r, C, dx1, _, _, rfl, hr1, T.cl, T.n_stack, rf_stack _ _ _ _, _, rfl, k, _, _, _, rfl, rfl, SqL.of R1.sk, R1.ix, t2, _, _, _, rfl, rfl, SqT.of (R1.gr.top _ _ ht2), at3, .inl ⟨rfl, _, SqL.of hl2⟩, ?_⟩
        refine ⟨_, rfl, _, rfl, Nat.zero_le _, fun e he => ⟨Nat.zero_le _, fun l' hl' => ⟨by show 4 ≤ sizeLine; decide, fun t' ht' => ?_⟩⟩⟩
        obtain ⟨F', g, _, d⟩ := part_new (K := K) (x := .str (S holeL)) (y := .str (S w0)) (Gr.refl R1.gr.top) he hl' ht' (.str _) (.str _)
        have s3 : Same H1 (upd (upd (upd H1 e (.tup [])) l' (.lst [])) t' (.tup [.str (S holeL), .str (S w0), .ref e, .ref l'])) := ((same_new he).trans (same_new hl')).trans (same_new ht')
        have R2 := R1.keep s3 g
        refine ⟨l, us2, _, rfl, rfl, s3 _ _ hl2, ?_, q2 rfl hw _ _ (R2.app (s3 _ _ hl2) ?_)⟩
        · rw [DpAll.len dus2]
          exact Nat.lt_of_le_of_lt hds (by decide)
        · show Dp K F' (.ref t') (.tuple [.str "hole", tS w0, .tuple [], .list []])
          rw [holeS]
          exact d
end
end Dh
namespace Dh
open PySem PySem.Spec PyProof.Rows L2
/-! ### what a text is made of -/
inductive Tk where
  | sg (c : Nat)
  | op (name : List Nat) (as : List ATr) (sh : Bool)
  | en (name : List Nat)
  | hl (t : List Nat)
def tkT : Tk → List Nat
  | .sg c => enc c
  | .op name as sh => tagT name as sh
  | .en name => endT name
  | .hl t => holeT t
def toksT (ts : List Tk) : List Nat := (ts.map tkT).flatten
def atsOk (b : Bool) (L : List Nat) (n : Nat) (name : List Nat) (as : List ATr) : Prop :=
  isName name = true ∧ as.length ≤ 1 ∧ ∀ a ∈ as, isName a.1 = true ∧ a.2.length ≤ 1000 ∧ partsOk b L (n + 1 + name.length + 1 + a.1.length + 2) a.2
inductive TStep (b : Bool) (L : List Nat) (n : Nat) : List Fm → Tk → List Fm → Prop where
  | sg {f : Fm} {fs : List Fm} {c : Nat} : b = false → c ∈ SIGNSL → f.ds.length ≤ 1000 → TStep b L n (f :: fs) (.sg c) (f.add (signD c) :: fs)
  | opn {f : Fm} {fs : List Fm} {name : List Nat} {as : List ATr} : atsOk b L n name as → fs.length ≤ 900 → f.ds.length ≤ 1000 → TStep b L n (f :: fs) (.op name as false) (tagFm name as :: f :: fs)
  | ops {f : Fm} {fs : List Fm} {name : List Nat} {as : List ATr} {pt : PyData} : atsOk b L n name as → fs.length ≤ 900 → f.ds.length ≤ 1000 → ShutD b (tagFm name as) pt → TStep b L n (f :: fs) (.op name as true) (f.add pt :: fs)
  | en {f f2 : Fm} {fs : List Fm} {pt : PyData} : f.ds.length ≤ 1000 → f2.ds.length ≤ 1000 → f.kd = tagL → f.nm.length ≤ 8 → ShutD b f pt → TStep b L n (f :: f2 :: fs) (.en f.nm) (f2.add pt :: fs)
  | hb {f : Fm} {fs : List Fm} {t w0 wl : List Nat} : b = true → HoleIn L n t w0 wl true → fs.length ≤ 900 → f.ds.length ≤ 1000 → TStep b L n (f :: fs) (.hl t) (blkFm w0 wl :: f :: fs)
  | hh {f : Fm} {fs : List Fm} {t w0 : List Nat} : b = true → HoleIn L n t w0 w0 false → w0 ≠ endL → fs.length ≤ 900 → f.ds.length ≤ 1000 → TStep b L n (f :: fs) (.hl t) (f.add (holeD w0) :: fs)
  | he {f f2 : Fm} {fs : List Fm} {t : List Nat} {pt : PyData} : b = true → HoleIn L n t endL endL false → (f2 :: fs).length ≤ 900 → f.ds.length ≤ 1000 → f2.ds.length ≤ 1000 → inV (.str (S f.kd)) BLK = true → ShutD true f pt → TStep b L n (f :: f2 :: fs) (.hl t) (f2.add pt :: fs)
def TRun (b : Bool) (L : List Nat) : Nat → List Fm → List Tk → List Fm → Prop
  | _, fs, [], fs' => fs = fs'
  | n, fs, t :: ts, fs' => ∃ fs1, TStep b L n fs t fs1 ∧ TRun b L (n + (tkT t).length) fs1 ts fs'
def fm0 : Fm := ⟨[], [], .tuple [], []⟩
theorem tkT_head (t : Tk) : ∃ c r, tkT t = c :: r := by
  cases t with
  | sg c =>
    show ∃ c' r, enc c = c' :: r
    unfold enc
    by_cases h : isSp c = true
    · rw [if_pos h]; exact ⟨_, _, rfl⟩
    · rw [if_neg h]; exact ⟨_, _, rfl⟩
  | op name as sh => exact ⟨_, _, rfl⟩
  | en name => exact ⟨_, _, rfl⟩
  | hl t => exact ⟨_, _, rfl⟩
theorem enc_head (c : Nat) : ∃ c' r, enc c = c' :: r ∧ c' ≠ 60 := by
  unfold enc
  by_cases h : isSp c = true
  · rw [if_pos h]; exact ⟨38, _, rfl, by decide⟩
  · rw [if_neg h]; exact ⟨c, _, rfl, fun e => h (by rw [e]; decide)⟩
theorem cut1 {L : List Nat} {n c : Nat} {r : List Nat} (h : L.drop (n + 1) = c :: r) : cutS (S L) (some ((n : Int) + 1)) (some ((n : Int) + 2)) = S [c] := by
  have e1 : (n : Int) + 1 = ((n + 1 : Nat) : Int) := by omega
  have e2 : (n : Int) + 2 = ((n + 2 : Nat) : Int) := by omega
  rw [e1, e2, cutS_any, h]
  have e3 : n + 2 - (n + 1) = 1 := by omega
  rw [e3]
  rfl
theorem name_head {name : List Nat} (h : isName name = true) : ∃ c r, name = c :: r ∧ c ≠ 47 := by
  obtain ⟨h1, _, h3⟩ := isName_len h
  cases name with
  | nil => cases h1
  | cons c r =>
    refine ⟨c, r, rfl, fun e => ?_⟩
    have := h3 c (List.mem_cons_self ..)
    rw [e] at this
    exact absurd this (by decide +kernel)
section
variable {K : PySem.W.Frag} {C : Addr} {H0 F0 : Hp} {r k : Addr} {L : List Nat} {n : Nat} {b : Bool} {H F : Hp} {vs : List V} {ls : List Addr} {f f2 : Fm} {fs : List Fm}
theorem RS.one (h : RS K C H0 F0 r k L n b H F vs ls (f :: fs)) : ∃ v vv l ll, vs = v :: vv ∧ ls = l :: ll := by
  have := h.st
  cases vs with
  | nil => cases ls <;> exact this.elim
  | cons v vv =>
    cases ls with
    | nil => exact this.elim
    | cons l ll => exact ⟨v, vv, l, ll, rfl, rfl⟩
theorem Stk.one {vs : List V} {ls : List Addr} (this : Stk K F H vs ls (f :: fs)) : ∃ v vv l ll, vs = v :: vv ∧ ls = l :: ll := by
  cases vs with
  | nil => cases ls <;> exact this.elim
  | cons v vv =>
    cases ls with
    | nil => exact this.elim
    | cons l ll => exact ⟨v, vv, l, ll, rfl, rfl⟩
theorem RS.two (h : RS K C H0 F0 r k L n b H F vs ls (f :: f2 :: fs)) : ∃ v v2 vv l l2 ll, vs = v :: v2 :: vv ∧ ls = l :: l2 :: ll := by
  obtain ⟨v, vv, l, ll, rfl, rfl⟩ := h.one
  obtain ⟨v2, vv2, l2, ll2, rfl, rfl⟩ := Stk.one h.st.2.2
  exact ⟨v, v2, vv2, l, l2, ll2, rfl, rfl⟩
end
section
variable {P : Program} {w : World} {K : PySem.W.Frag} {mg : Str → Option Value} {base : Heap} {C fI aWORDS aTURNED aBLOCKS : Addr} {fdI : FuncData}
def spAllParts (K : PySem.W.Frag) (C : Addr) : Sp := fun vs H Q _ => ∃ (H0 F0 F : Hp) (r k : Addr) (L : List Nat) (b : Bool) (v : V) (l : Addr) (f0 f1 : Fm) (ts : List Tk), vs = [.ref r] ∧
  RS K C H0 F0 r k L 0 b H F [v] [l] [f0] ∧ L = toksT ts ∧ TRun b L 0 [f0] ts [f1] ∧ ∀ H' F' x, Same H0 H' → Gr H0 F0 H' F' → Dp K F' x (.list f1.ds) → Q x H'
theorem M_all_parts (T : Tx K w mg C fI aWORDS aTURNED aBLOCKS fdI) : Mf P w K mg base C 7 "all_parts" ["self"] (spAllParts K C) := by
  have M_here : Mf P w K mg base C 1 "here" ["self"] (spHere C) := M_here T
  have M_sign_there : Mf P w K mg base C 2 "sign_there" ["self"] (spSignThere C) := M_sign_there T
  have M_go_by_end : Mf P w K mg base C 3 "go_by_end" ["self"] (spGoByEnd K C) := M_go_by_end T
  have M_go_by_tag : Mf P w K mg base C 6 "go_by_tag" ["self"] (spGoByTag K C) := M_go_by_tag T
  have M_go_by_hole : Mf P w K mg base C 4 "go_by_hole" ["self"] (spGoByHole K C) := M_go_by_hole T
  refine mf_mk T.m_all_parts sc_Reading_all_parts (fun vs H Q E h => ?_) (fun f cdv A outer s H vs Q E hr h => ?_)
  · obtain ⟨H0, F0, F, r, k, L, b, v, l, f0, f1, ts, rfl, _⟩ := h
    rfl
  · obtain ⟨H0, F0, F, r, k, L, b, v, l, f0, f1, ts, rfl, R, hts, hrun, q⟩ := h
    refine ⟨_, (pss_cons (ps_while PassesOwn.never (pt_cmpR op_lt (pe_fld (pv 0) rfl) (pe_callB call_len_str (by rfl) T.b_len PySem.boot_len (pa_cons (pe_fld (pv 0) rfl) pa_nil)) (nomark _))
  (pss_one (ps_if (PW.pt (pw_and (pt_cmpR op_eq (pe_methG0 (pv 0) T.cl M_here (hr.mono (by first | decide | omega))) pe_str (nomark _)) (pw_and1 (pt_cmpR op_eq (pe_slice sl_str (pe_fld (pv 0) rfl) (po_some (pe_op op_add (pe_fld (pv 0) rfl) pe_int)) (po_some (pe_op op_add (pe_fld (pv 0) rfl) pe_int))) pe_str (nomark _))))) (pss_one (ps_expr (pe_methG0 (pv 0) T.cl M_go_by_end (hr.mono (by first | decide | omega))))) (pss_one (ps_if (pt_cmpR op_eq (pe_methG0 (pv 0) T.cl M_here (hr.mono (by first | decide | omega))) pe_str (nomark _)) (pss_one (ps_expr (pe_methG0 (pv 0) T.cl M_go_by_tag (hr.mono (by first | decide | omega))))) (pss_one (ps_if (PW.pt (pw_and (pt_val (pe_fld (pv 0) rfl)) (pw_and1 (pt_cmpR op_eq (pe_methG0 (pv 0) T.cl M_here (hr.mono (by first | decide | omega))) pe_str (nomark _))))) (pss_one (ps_expr (pe_methG0 (pv 0) T.cl M_go_by_hole (hr.mono (by first | decide | omega))))) (pss_one (ps_expr (pe_bm PySem.F.plainAttrs_list PySem.F.slot_list_append PySem.F.type_list_append mt_append (pe_ix ix_tup (pe_ix ix_list (pe_fld (pv 0) rfl) (pe_un un_neg pe_int) (fun _ _ => rfl)) pe_int (fun _ _ => rfl)) (pa_cons (pe_tup (pa_cons pe_str (pa_cons (pe_methG0 (pv 0) T.cl M_sign_there (hr.mono (by first | decide | omega))) (pa_cons (pe_tup pa_nil) (pa_cons (pe_lst pa_nil) pa_nil))))) pa_nil)))))))))))
  (pss_cons (ps_if (pt_cmpR op_gt (pe_callB call_len_seq (by rfl) T.b_len PySem.boot_len (pa_cons (pe_fld (pv 0) rfl) pa_nil)) pe_int (nomark _)) (pss_one ps_never) pss_nil)
  (pss_one (ps_ret (pe_ix ix_tup (pe_ix ix_list (pe_fld (pv 0) rfl) pe_int (fun _ _ => rfl)) pe_int (fun _ _ => rfl)))))), ?_⟩
    refine gen_while fun D eD => ?_
    refine ⟨fun m σ H1 => ∃ (tb : List Tk) (n : Nat) (F1 : Hp) (vs : List V) (ls : List Addr) (fs : List Fm), m = tb.length ∧ σ = [some (.ref r)] ∧ RS K C H0 F0 r k L n b H1 F1 vs ls fs ∧ L.drop n = toksT tb ∧ TRun b L n fs tb [f1],
      ⟨_, ts, 0, F, [v], [l], [f0], rfl, rfl, R, hts, hrun⟩, ?_⟩
    rintro m σ H1 ⟨tb, n, F1, vs, ls, fs, rfl, rfl, R1, hd, hrun1⟩
    obtain ⟨dx, hr1⟩ := R1.rd
    have hL := R.hL
    refine ⟨_, rfl, r, C, dx, _, _, rfl, hr1, T.cl, T.n_at, rf_at _ _ _ _, _, rfl, r, C, dx, _, _, rfl, hr1, T.cl, T.n_text, rf_text _ _ _ _, _, rfl, len1000 hL, _, _, rfl, rfl, _, rfl, ?_⟩
    cases tb with
    | nil =>
      have hn : L.length ≤ n := by
        have := congrArg List.length hd
        rw [List.length_drop] at this
        have h0 : (toksT []).length = 0 := rfl
        omega
      refine ite_f (by rw [S_len]; exact decide_eq_false (by omega)) ?_
      rw [eD]
      have efs : fs = [f1] := hrun1
      subst efs
      obtain ⟨v1, vv, l1, ll, rfl, rfl⟩ := R1.one
      have hst := R1.st.2.2
      have evv : vv = [] := by
        cases vv with
        | nil => rfl
        | cons a b => cases ll <;> exact hst.elim
      subst evv
      obtain ⟨t2, a2, us2, rfl, ht2, da2, hFl2, hl2, dus2⟩ := R1.top
      refine ⟨_, rfl, r, C, dx, _, _, rfl, hr1, T.cl, T.n_stack, rf_stack _ _ _ _, k, _, rfl, .inl (SqL.of R1.sk), _, _, rfl, rfl, _, rfl, ?_⟩
      refine ite_f (by rfl) ?_
      refine ⟨_, rfl, r, C, dx, _, _, rfl, hr1, T.cl, T.n_stack, rf_stack _ _ _ _, k, _, _, _, rfl, rfl, SqL.of R1.sk, atI_nat (j := 0) rfl, t2, _, _, _, rfl, rfl, SqT.of (R1.gr.top _ _ ht2), at3, ?_⟩
      have hm := R1.ml l1 (List.mem_cons_self ..)
      have g := R1.gr.fix hl2 hFl2 hm.1
      exact q _ _ _ R1.sm g (Dp.lst' upd_same (DpAll.same (same_new hFl2) _ _ dus2))
    | cons tk tb =>
      have hd' : L.drop n = tkT tk ++ toksT tb := hd
      obtain ⟨c, rc, hc⟩ := tkT_head tk
      have hcx : L[n]? = some c := drop_at (g := [c]) (i := 0) (rem := rc ++ toksT tb) (by rw [hd', hc]; rfl) rfl
      have hn : n < L.length := (List.getElem?_eq_some_iff.mp hcx).1
      have hd2 : L.drop (n + (tkT tk).length) = toksT tb := drop_add hd' rfl
      obtain ⟨fs1, hstep, hrun2⟩ := hrun1
      refine ite_t (by rw [S_len]; exact decide_eq_true (by omega)) ?_
      refine ⟨fun σ' H' => ∃ (F' : Hp) (vs' : List V) (ls' : List Addr), σ' = [some (.ref r)] ∧ RS K C H0 F0 r k L (n + (tkT tk).length) b H' F' vs' ls' fs1,
        fun σ' H' ⟨F', vs', ls', e, R'⟩ => ⟨_, Nat.lt_succ_self _, tb, _, F', vs', ls', fs1, rfl, e, R', hd2, hrun2⟩, ?_⟩
      refine ⟨_, rfl, r, dx, _, rfl, hr1, no_m "here" _ _ _ _ (by decide +kernel), r, k, L, n, c, b, rfl, ⟨dx, hr1⟩, hL, hcx, rfl, _, rfl, ?_⟩
      rw [ltS, dec_V]
      cases hstep with
      | @sg f fs c0 hb hs hds =>
        obtain ⟨c', r', e1, e2⟩ := enc_head c0
        have hne : ¬ [c] = [60] := fun e => by
          have h3 : c :: rc = c' :: r' := hc.symm.trans e1
          exact e2 ((List.head_eq_of_cons_eq h3).symm.trans (List.head_eq_of_cons_eq e))
        refine ite_f (decide_eq_false hne) ?_
        refine ⟨_, rfl, r, dx, _, rfl, hr1, no_m "here" _ _ _ _ (by decide +kernel), r, k, L, n, c, b, rfl, ⟨dx, hr1⟩, hL, hcx, rfl, _, rfl, ?_⟩
        rw [dec_V]
        refine ite_f (decide_eq_false hne) ?_
        subst hb
        refine ⟨_, rfl, r, C, dx, _, _, rfl, hr1, T.cl, T.n_has_holes, rf_hh _ _ _ _, _, rfl, iteF ?_⟩
        obtain ⟨v1, vv, l1, ll, rfl, rfl⟩ := R1.one
        obtain ⟨t2, a2, us2, rfl, ht2, da2, hFl2, hl2, dus2⟩ := R1.top
        refine ⟨_, rfl, r, C, dx, _, _, rfl, hr1, T.cl, T.n_stack, rf_stack _ _ _ _, _, rfl, k, _, _, _, rfl, rfl, SqL.of R1.sk, R1.ix, t2, _, _, _, rfl, rfl, SqT.of (R1.gr.top _ _ ht2), at3, .inl ⟨rfl, _, SqL.of hl2⟩, ?_⟩
        refine ⟨_, rfl, r, dx, _, rfl, hr1, no_m "sign_there" _ _ _ _ (by decide +kernel), r, k, L, _, n, c0, rfl, ⟨dx, hr1⟩, hL, hd', hs, fun H2 hr2 s2 => ?_⟩
        have R2 := R1.step hr2 s2 (Gr.sameB R1.gr.top R1.fr s2 (some_ne hr2.choose_spec))
        have hl3 : H2 l1 = some (.lst us2) := s2 _ _ (R1.ml l1 (List.mem_cons_self ..)).2.2 hl2
        refine ⟨Nat.zero_le _, fun e he => ⟨Nat.zero_le _, fun l' hl' => ⟨by show 4 ≤ sizeLine; decide, fun t' ht' => ?_⟩⟩⟩
        obtain ⟨F', g, _, d⟩ := part_new (K := K) (x := .str "sign") (y := .str (S [c0])) (Gr.refl R2.gr.top) he hl' ht' (.str _) (.str _)
        have s3 : Same H2 (upd (upd (upd H2 e (.tup [])) l' (.lst [])) t' (.tup [.str "sign", .str (S [c0]), .ref e, .ref l'])) := ((same_new he).trans (same_new hl')).trans (same_new ht')
        have R3 := R2.keep s3 g
        refine ⟨l1, us2, _, rfl, rfl, s3 _ _ hl3, ?_, F', _, _, rfl, R3.app (s3 _ _ hl3) d⟩
        rw [DpAll.len dus2]
        exact Nat.lt_of_le_of_lt hds (by decide)
      | @opn f fs name as h1 h2 h3 =>
        have ec : c = 60 := (List.head_eq_of_cons_eq hc).symm
        subst ec
        refine ite_t (by decide) ?_
        refine ⟨_, rfl, r, C, dx, _, _, rfl, hr1, T.cl, T.n_text, rf_text _ _ _ _, _, rfl, r, C, dx, _, _, rfl, hr1, T.cl, T.n_at, rf_at _ _ _ _, _, _, rfl, rfl, _, rfl, _, rfl, r, C, dx, _, _, rfl, hr1, T.cl, T.n_at, rf_at _ _ _ _, _, _, rfl, rfl, _, rfl, _, rfl, len1000 hL, rfl, _, rfl, ?_⟩
        obtain ⟨c2, r2, hnm, hc2⟩ := name_head h1.1
        have hd4 : L.drop (n + 1) = c2 :: (r2 ++ (attrsT as ++ tagE false) ++ toksT tb) := by
          refine drop_add (a := [60]) ?_ rfl
          rw [hd']
          show tagT name as false ++ toksT tb = _
          unfold tagT
          rw [hnm]
          simp
        rw [cut1 hd4]
        refine ite_f (by rw [slS, dec_V]; exact decide_eq_false (fun e => hc2 (List.head_eq_of_cons_eq e))) ?_
        refine ⟨_, rfl, r, dx, _, rfl, hr1, no_m "here" _ _ _ _ (by decide +kernel), r, k, L, n, 60, b, rfl, ⟨dx, hr1⟩, hL, hcx, rfl, _, rfl, ?_⟩
        rw [dec_V]
        refine ite_t (by decide) ?_
        obtain ⟨v1, vv, l1, ll, rfl, rfl⟩ := R1.one
        exact ⟨_, rfl, r, dx, _, rfl, hr1, no_m "go_by_tag" _ _ _ _ (by decide +kernel), H0, F0, F1, r, k, L, n, b, v1, vv, l1, ll, f, fs, name, as, false, toksT tb, .none, rfl, R1, h2, h3, hd', h1.1, h1.2.1, h1.2.2,
          (fun e => (by cases e)), (fun e => (by cases e)), fun _ H' F' v' l' R' => ⟨F', _, _, rfl, R'⟩⟩
      | @ops f fs name as pt h1 h2 h3 h4 =>
        have ec : c = 60 := (List.head_eq_of_cons_eq hc).symm
        subst ec
        refine ite_t (by decide) ?_
        refine ⟨_, rfl, r, C, dx, _, _, rfl, hr1, T.cl, T.n_text, rf_text _ _ _ _, _, rfl, r, C, dx, _, _, rfl, hr1, T.cl, T.n_at, rf_at _ _ _ _, _, _, rfl, rfl, _, rfl, _, rfl, r, C, dx, _, _, rfl, hr1, T.cl, T.n_at, rf_at _ _ _ _, _, _, rfl, rfl, _, rfl, _, rfl, len1000 hL, rfl, _, rfl, ?_⟩
        obtain ⟨c2, r2, hnm, hc2⟩ := name_head h1.1
        have hd4 : L.drop (n + 1) = c2 :: (r2 ++ (attrsT as ++ tagE true) ++ toksT tb) := by
          refine drop_add (a := [60]) ?_ rfl
          rw [hd']
          show tagT name as true ++ toksT tb = _
          unfold tagT
          rw [hnm]
          simp
        rw [cut1 hd4]
        refine ite_f (by rw [slS, dec_V]; exact decide_eq_false (fun e => hc2 (List.head_eq_of_cons_eq e))) ?_
        refine ⟨_, rfl, r, dx, _, rfl, hr1, no_m "here" _ _ _ _ (by decide +kernel), r, k, L, n, 60, b, rfl, ⟨dx, hr1⟩, hL, hcx, rfl, _, rfl, ?_⟩
        rw [dec_V]
        refine ite_t (by decide) ?_
        obtain ⟨v1, vv, l1, ll, rfl, rfl⟩ := R1.one
        exact ⟨_, rfl, r, dx, _, rfl, hr1, no_m "go_by_tag" _ _ _ _ (by decide +kernel), H0, F0, F1, r, k, L, n, b, v1, vv, l1, ll, f, fs, name, as, true, toksT tb, pt, rfl, R1, h2, h3, hd', h1.1, h1.2.1, h1.2.2,
          fun _ => h4, fun _ H' F' R' => ⟨F', _, _, rfl, R'⟩, fun e => (by cases e)⟩
      | @en f f2 fs pt h1 h2 h3 h4 h5 =>
        have ec : c = 60 := (List.head_eq_of_cons_eq hc).symm
        subst ec
        refine ite_t (by decide) ?_
        refine ⟨_, rfl, r, C, dx, _, _, rfl, hr1, T.cl, T.n_text, rf_text _ _ _ _, _, rfl, r, C, dx, _, _, rfl, hr1, T.cl, T.n_at, rf_at _ _ _ _, _, _, rfl, rfl, _, rfl, _, rfl, r, C, dx, _, _, rfl, hr1, T.cl, T.n_at, rf_at _ _ _ _, _, _, rfl, rfl, _, rfl, _, rfl, len1000 hL, rfl, _, rfl, ?_⟩
        have hd4 : L.drop (n + 1) = 47 :: (f.nm ++ [62] ++ toksT tb) := by
          refine drop_add (a := [60]) ?_ rfl
          rw [hd']
          rfl
        rw [cut1 hd4]
        refine ite_t (by rw [slS, dec_V]; rfl) ?_
        obtain ⟨v1, v2, vv, l1, l2, ll, rfl, rfl⟩ := R1.two
        exact ⟨_, rfl, r, dx, _, rfl, hr1, no_m "go_by_end" _ _ _ _ (by decide +kernel), H0, F0, F1, r, k, L, n, b, v1, v2, vv, l1, l2, ll, f, f2, fs, toksT tb, pt, rfl, R1, h1, h2, h3, h4, hd', h5,
          fun H' F' R' => ⟨F', _, _, rfl, R'⟩⟩
      | @hb f fs t w0 wl h0 h1 h2 h3 =>
        have hd3 : L.drop n = holeT t ++ toksT tb := hd'
        have ec : c = 123 := (List.head_eq_of_cons_eq hc).symm
        subst ec
        refine ite_f (by decide) ?_
        refine ⟨_, rfl, r, dx, _, rfl, hr1, no_m "here" _ _ _ _ (by decide +kernel), r, k, L, n, 123, b, rfl, ⟨dx, hr1⟩, hL, hcx, rfl, _, rfl, ?_⟩
        rw [dec_V]
        refine ite_f (by decide) ?_
        subst h0
        refine ⟨_, rfl, r, C, dx, _, _, rfl, hr1, T.cl, T.n_has_holes, rf_hh _ _ _ _, _, rfl, iteT ?_⟩
        refine ⟨_, rfl, r, dx, _, rfl, hr1, no_m "here" _ _ _ _ (by decide +kernel), r, k, L, n, 123, true, rfl, ⟨dx, hr1⟩, hL, hcx, rfl, _, rfl, ?_⟩
        refine ite_t (by rw [show (Str.ofString "{" : Str) = S [123] by decide +kernel, dec_V]; rfl) ?_
        obtain ⟨v1, vv, l1, ll, rfl, rfl⟩ := R1.one
        exact ⟨_, rfl, r, dx, _, rfl, hr1, no_m "go_by_hole" _ _ _ _ (by decide +kernel), H0, F0, F1, r, k, L, n, v1, vv, l1, ll, f, fs, t, w0, wl, true, toksT tb, rfl, R1, h2, h3, hd3, h1,
          fun _ H' F' v' l' R' => ⟨F', _, _, rfl, R'⟩, (fun e => (by cases e)), (fun e => (by cases e))⟩
      | @hh f fs t w0 h0 h1 hw h2 h3 =>
        have hd3 : L.drop n = holeT t ++ toksT tb := hd'
        have ec : c = 123 := (List.head_eq_of_cons_eq hc).symm
        subst ec
        refine ite_f (by decide) ?_
        refine ⟨_, rfl, r, dx, _, rfl, hr1, no_m "here" _ _ _ _ (by decide +kernel), r, k, L, n, 123, b, rfl, ⟨dx, hr1⟩, hL, hcx, rfl, _, rfl, ?_⟩
        rw [dec_V]
        refine ite_f (by decide) ?_
        subst h0
        refine ⟨_, rfl, r, C, dx, _, _, rfl, hr1, T.cl, T.n_has_holes, rf_hh _ _ _ _, _, rfl, iteT ?_⟩
        refine ⟨_, rfl, r, dx, _, rfl, hr1, no_m "here" _ _ _ _ (by decide +kernel), r, k, L, n, 123, true, rfl, ⟨dx, hr1⟩, hL, hcx, rfl, _, rfl, ?_⟩
        refine ite_t (by rw [show (Str.ofString "{" : Str) = S [123] by decide +kernel, dec_V]; rfl) ?_
        obtain ⟨v1, vv, l1, ll, rfl, rfl⟩ := R1.one
        exact ⟨_, rfl, r, dx, _, rfl, hr1, no_m "go_by_hole" _ _ _ _ (by decide +kernel), H0, F0, F1, r, k, L, n, v1, vv, l1, ll, f, fs, t, w0, w0, false, toksT tb, rfl, R1, h2, h3, hd3, h1,
          (fun e => (by cases e)), fun _ _ H' F' R' => ⟨F', _, _, rfl, R'⟩, fun _ e => absurd e hw⟩
      | @he f f2 fs t pt h0 h1 h2 h3 h4 h5 h6 =>
        have hd3 : L.drop n = holeT t ++ toksT tb := hd'
        have ec : c = 123 := (List.head_eq_of_cons_eq hc).symm
        subst ec
        refine ite_f (by decide) ?_
        refine ⟨_, rfl, r, dx, _, rfl, hr1, no_m "here" _ _ _ _ (by decide +kernel), r, k, L, n, 123, b, rfl, ⟨dx, hr1⟩, hL, hcx, rfl, _, rfl, ?_⟩
        rw [dec_V]
        refine ite_f (by decide) ?_
        subst h0
        refine ⟨_, rfl, r, C, dx, _, _, rfl, hr1, T.cl, T.n_has_holes, rf_hh _ _ _ _, _, rfl, iteT ?_⟩
        refine ⟨_, rfl, r, dx, _, rfl, hr1, no_m "here" _ _ _ _ (by decide +kernel), r, k, L, n, 123, true, rfl, ⟨dx, hr1⟩, hL, hcx, rfl, _, rfl, ?_⟩
        refine ite_t (by rw [show (Str.ofString "{" : Str) = S [123] by decide +kernel, dec_V]; rfl) ?_
        obtain ⟨v1, v2, vv, l1, l2, ll, rfl, rfl⟩ := R1.two
        exact ⟨_, rfl, r, dx, _, rfl, hr1, no_m "go_by_hole" _ _ _ _ (by decide +kernel), H0, F0, F1, r, k, L, n, v1, v2 :: vv, l1, l2 :: ll, f, f2 :: fs, t, endL, endL, false, toksT tb, rfl, R1, h2, h3, hd3, h1,
          (fun e => (by cases e)), fun _ e => absurd rfl e, fun _ _ => ⟨v2, vv, l2, ll, f2, fs, pt, rfl, rfl, rfl, h4, h5, h6, fun H' F' R' => ⟨F', _, _, rfl, R'⟩⟩⟩
end
end Dh
namespace Dh
open PySem PySem.Spec PyProof.Rows L2
/-! ### Reading(text, has_holes=..) -/
theorem rf_init (L : List Nat) (b : Bool) (k : Addr) : putF "stack" (.ref k) (putF "has_holes" (.bl b) (putF "at" (.int 0) (putF "text" (.str (S L)) []))) = rf L 0 b k := by
  simp [putF, rf, ta_, th_, ts_, ah_, as_, hs_]
section
variable {P : Program} {w : World} {K : PySem.W.Frag} {mg : Str → Option Value} {base : Heap} {C fI aWORDS aTURNED aBLOCKS : Addr} {fdI : FuncData}
def spInit (K : PySem.W.Frag) (C : Addr) : Sp := fun vs H Q _ => ∃ (H0 F0 : Hp) (x dx : Addr) (L : List Nat) (b : Bool), vs = [.ref x, .str (S L), .bl b] ∧ H x = some (.ins C dx []) ∧ Gr H0 F0 H F0 ∧ Same H0 H ∧ H0 x = none ∧ F0 x = none ∧ L.length ≤ 1000 ∧
  ∀ H' F' k v l, RS K C H0 F0 x k L 0 b H' F' [v] [l] [fm0] → Q .non H'
theorem M_init (T : Tx K w mg C fI aWORDS aTURNED aBLOCKS fdI) : FnOk P w K mg base CX0 1 fI fdI ["self", "text", "has_holes"] (spInit K C) := by
  refine T.d_init.ok sc_Reading_init (fun vs H Q E h => ?_) (fun cdv A outer s H vs Q E hr h => ?_)
  · obtain ⟨H0, F0, x, dx, L, b, rfl, _⟩ := h
    rfl
  · obtain ⟨H0, F0, x, dx, L, b, rfl, h1, g, sm, h0x, fx, hL, q⟩ := h
    refine ⟨_, (pss_cons (ps_fld (pv 0) (pv 1) rfl)
  (pss_cons (ps_fld (pv 0) pe_int rfl)
  (pss_cons (ps_fld (pv 0) (pv 2) rfl)
  (pss_one (ps_fld (pv 0) (pe_lst (pa_cons (pe_tup (pa_cons pe_str (pa_cons pe_str (pa_cons (pe_tup pa_nil) (pa_cons (pe_lst pa_nil) pa_nil))))) pa_nil)) rfl))))), ?_⟩
    refine ⟨_, rfl, _, rfl, x, C, dx, _, rfl, h1, T.cl, T.n_text, (by decide), ?_⟩
    refine ⟨_, rfl, x, C, dx, _, rfl, upd_same, T.cl, T.n_at, (by show 1 < 1000; decide), ?_⟩
    refine ⟨_, rfl, _, rfl, x, C, dx, _, rfl, upd_same, T.cl, T.n_has_holes, (by show 2 < 1000; decide), ?_⟩
    have g3 := ((g.mk1 (p := x) (o := .ins C dx (putF "text" (.str (S L)) [])) fx).mk1 (p := x) (o := .ins C dx (putF "at" (.int 0) (putF "text" (.str (S L)) []))) fx).mk1 (p := x) (o := .ins C dx (putF "has_holes" (.bl b) (putF "at" (.int 0) (putF "text" (.str (S L)) [])))) fx
    have s3 := same_mut (same_mut (same_mut sm h0x (o := .ins C dx (putF "text" (.str (S L)) []))) h0x (o := .ins C dx (putF "at" (.int 0) (putF "text" (.str (S L)) [])))) h0x (o := .ins C dx (putF "has_holes" (.bl b) (putF "at" (.int 0) (putF "text" (.str (S L)) []))))
    have h3 : upd (upd (upd H x (.ins C dx (putF "text" (.str (S L)) []))) x (.ins C dx (putF "at" (.int 0) (putF "text" (.str (S L)) [])))) x (.ins C dx (putF "has_holes" (.bl b) (putF "at" (.int 0) (putF "text" (.str (S L)) [])))) x = _ := upd_same
    revert g3 s3 h3
    generalize upd (upd (upd H x (.ins C dx (putF "text" (.str (S L)) []))) x (.ins C dx (putF "at" (.int 0) (putF "text" (.str (S L)) [])))) x (.ins C dx (putF "has_holes" (.bl b) (putF "at" (.int 0) (putF "text" (.str (S L)) [])))) = H3
    intro g3 s3 h3
    refine ⟨Nat.zero_le _, fun e he => ⟨Nat.zero_le _, fun l hl => ⟨by show 4 ≤ sizeLine; decide, fun t ht => ⟨by show 1 ≤ sizeLine; decide, fun k hk => ?_⟩⟩⟩⟩
    rw [SemptyS] at hk ⊢
    have xe : x ≠ e := ne_of_none h3 he
    have xl : x ≠ l := ne_of_none (H := upd H3 e (.tup [])) (by rw [upd_ne xe]; exact h3) hl
    have xt : x ≠ t := ne_of_none (H := upd (upd H3 e (.tup [])) l (.lst [])) (by rw [upd_ne xl, upd_ne xe]; exact h3) ht
    have xk : x ≠ k := ne_of_none (H := upd (upd (upd H3 e (.tup [])) l (.lst [])) t (.tup [.str (S []), .str (S []), .ref e, .ref l])) (by rw [upd_ne xt, upd_ne xl, upd_ne xe]; exact h3) hk
    have lt : l ≠ t := ne_of_none (H := upd (upd H3 e (.tup [])) l (.lst [])) upd_same ht
    have lk : l ≠ k := ne_of_none (H := upd (upd (upd H3 e (.tup [])) l (.lst [])) t (.tup [.str (S []), .str (S []), .ref e, .ref l])) (by rw [upd_ne lt]; exact upd_same) hk
    have el : e ≠ l := ne_of_none (H := upd H3 e (.tup [])) upd_same hl
    have et : e ≠ t := ne_of_none (H := upd (upd H3 e (.tup [])) l (.lst [])) (by rw [upd_ne el]; exact upd_same) ht
    have tk : t ≠ k := ne_of_none (H := upd (upd (upd H3 e (.tup [])) l (.lst [])) t (.tup [.str (S []), .str (S []), .ref e, .ref l])) upd_same hk
    have ek : e ≠ k := ne_of_none (H := upd (upd (upd H3 e (.tup [])) l (.lst [])) t (.tup [.str (S []), .str (S []), .ref e, .ref l])) (by rw [upd_ne et, upd_ne el]; exact upd_same) hk
    have g4 := g3.mk2 (o := .tup []) he
    have g5 := g4.mk1 (o := .lst []) (g4.top.free hl)
    have g6 := g5.mk2 (o := .tup [.str (S []), .str (S []), .ref e, .ref l]) ht
    have g7 := g6.mk1 (o := .lst [.ref t]) (g6.top.free hk)
    have Fe : F0 e = none := g3.top.free he
    have Fl : F0 l = none := by
      have := g4.top.free hl
      rw [upd_ne (Ne.symm el)] at this
      exact this
    have Fk := g6.top.free hk
    have zero : ∀ {p : Addr} {H5 : Hp}, (∀ b, H0 b ≠ none → H5 b ≠ none) → H5 p = none → H0 p = none := fun {p H5} hdm hp => by
      cases q : H0 p with
      | none => rfl
      | some o => exact absurd hp (hdm p (some_ne q))
    have l0 : H0 l = none := zero g4.dom hl
    have k0 : H0 k = none := zero g6.dom hk
    have s7 := (((s3.trans (same_new (o := .tup []) he)).trans (same_new (o := .lst []) hl)).trans (same_new (o := .tup [.str (S []), .str (S []), .ref e, .ref l]) ht)).trans (same_new (o := .lst [.ref t]) hk)
    refine ⟨_, rfl, x, C, dx, _, rfl, by rw [upd_ne xk, upd_ne xt, upd_ne xl, upd_ne xe]; exact h3, T.cl, T.n_stack, (by show 3 < 1000; decide), ?_⟩
    have Fx : upd (upd F0 e (.tup [])) t (.tup [.str (S []), .str (S []), .ref e, .ref l]) x = none := by
      rw [upd_ne xt, upd_ne xe]
      exact fx
    refine q _ (upd (upd F0 e (.tup [])) t (.tup [.str (S []), .str (S []), .ref e, .ref l])) k (.ref t) l ⟨⟨dx, ?_⟩, g7.mk1 Fx, Fx, Fk, ?_, ⟨⟨t, .ref e, [], rfl, upd_same, Dp.tup' (by rw [upd_ne et]; exact upd_same) .nil, ?_, ?_, .nil⟩, by simp, trivial⟩, ?_, Ne.symm xk, hL, h0x, k0, same_mut s7 h0x⟩
    · rw [upd_same]
      exact congrArg (fun z => some (HO.ins C dx z)) (rf_init L b k)
    · rw [upd_ne (Ne.symm xk), upd_same]
      rfl
    · rw [upd_ne lt, upd_ne (Ne.symm el)]
      exact Fl
    · rw [upd_ne (Ne.symm xl), upd_ne lk, upd_ne lt, upd_same]
    · intro l' hm
      have e1 : l' = l := by simpa using hm
      subst e1
      exact ⟨l0, lk, Ne.symm xl⟩
end
end Dh
namespace Dh
open PySem PySem.Spec PyProof.Rows L2
/-! ### a def called by place and by keywords -/
theorem both_mk {P : Program} {w : World} {K : PySem.W.Frag} {mg : Str → Option Value} {base : Heap} {x : Str} {st : Stmt} {N ps ks : List Str} {rev : Bool} {k : Nat} {sp : Sp} (D : Dex K mg x st ps) (D2 : Kex K mg x st ps ks rev) (S : FnScope N ps (defScope st)) (len : ∀ vs H Q E, sp vs H Q E → vs.length = ps.length)
    (hbody : ∀ (f : Addr) (cdv : Value) (A : Around) (outer : List Env) (s : Shared) (H : Hp) (vs : List V) (Q : VK) (E : XK), Room k (A.deeper (envOfC x (defScope st) s.heap.objs.size f cdv)) → sp vs H Q E →
      ∃ t, PSs (cxOf CX0 P w K mg base N x (defScope st) f cdv A outer s H E).nox (defBody st) t ∧ t { nx := fun _ H' => Q .non H', rt := Q } (start N vs) H) :
    Gf P w K mg base (k + 1) x ps sp ∧ Gk P w K mg base (k + 1) x ks rev sp := ⟨gf_mk D S len hbody, gk_mk D2 S len hbody⟩
/-- what a template, a shown text is read to -/
def Read (b : Bool) (L : List Nat) (ds : List PyData) : Prop := ∃ (ts : List Tk) (f1 : Fm), L = toksT ts ∧ L.length ≤ 1000 ∧ TRun b L 0 [fm0] ts [f1] ∧ f1.ds = ds
theorem Gr.up {H F H' F' : Hp} (s : Same F H) (g : Gr H F H' F') : Same F F' := g.frz
section
variable {P : Program} {w : World} {K : PySem.W.Frag} {mg : Str → Option Value} {base : Heap} {C fI aWORDS aTURNED aBLOCKS : Addr} {fdI : FuncData}
/-- Reading(text, has_holes=b).all_parts() -/
theorem read_go {F H : Hp} {L : List Nat} {b : Bool} {ds : List PyData} {Q : VK} (sF : Same F H) (hR : Read b L ds) (q : ∀ H' F' v, Same H H' → Gr H F H' F' → Dp K F' v (.list ds) → Q v H') :
    ∀ x dx, H x = none → H dx = none → dx ≠ x → spInit K C ([.ref x, .str (S L)] ++ [.bl b]) (upd (upd H dx (.own x)) x (.ins C dx [])) (fun v H3 => v = .non ∧ ∃ a dx fs, V.ref x = .ref a ∧ H3 a = some (.ins C dx fs) ∧ fs.lookup ("all_parts" : Str) = none ∧
      tNil [] H3 fun vs H2 => spAllParts K C (.ref x :: vs) H2 Q E0) E0 := by
  intro x dx hx hdx hne
  obtain ⟨ts, f1, e1, hL, hrun, e2⟩ := hR
  have g1 := (Gr.refl sF).mk1 (p := dx) (o := .own x) (sF.free hdx)
  have g2 := g1.mk1 (p := x) (o := .ins C dx []) (sF.free hx)
  have s1 : Same H (upd H dx (.own x)) := same_new hdx
  have s2 := same_mut (o := .ins C dx []) s1 hx
  refine ⟨H, F, x, dx, L, b, rfl, upd_same, g2, s2, hx, sF.free hx, hL, fun H' F' k v l R => ⟨rfl, ?_⟩⟩
  obtain ⟨dx', h'⟩ := R.rd
  refine ⟨x, dx', _, rfl, h', no_m "all_parts" _ _ _ _ (by decide +kernel), H, F, F', x, k, L, b, v, l, fm0, f1, ts, rfl, R, e1, hrun, fun H2 F2 y s3 g3 d => ?_⟩
  rw [e2] at d
  exact q _ _ _ s3 g3 d
def spReadMarks (K : PySem.W.Frag) : Sp := fun vs H Q _ => ∃ (F : Hp) (L : List Nat) (ps : List MP), vs = [.str (S L)] ∧ Same F H ∧ Read false L (ps.map mpD) ∧ ps.length ≤ 1000 ∧ (ps.map mpN).sum ≤ 10000 ∧
  ∀ H' F' v, Same H H' → Gr H F H' F' → Dp K F' v (.tuple (mgd ps)) → Q v H'
theorem GB_read_marks (T : Tx K w mg C fI aWORDS aTURNED aBLOCKS fdI) : Gf P w K mg base 8 "read_marks" ["text"] (spReadMarks K) ∧ Gk P w K mg base 8 "read_marks" ["text"] false (spReadMarks K) := by
  have G_merged : Gf P w K mg base 1 "merged" ["parts"] (spMerged K) := G_merged T
  have M_init : FnOk P w K mg base CX0 1 fI fdI ["self", "text", "has_holes"] (spInit K C) := M_init T
  have M_all_parts : Mf P w K mg base C 7 "all_parts" ["self"] (spAllParts K C) := M_all_parts T
  refine both_mk T.d_read_marks T.k_read_marks sc_read_marks (fun vs H Q E h => ?_) (fun f cdv A outer s H vs Q E hr h => ?_)
  · obtain ⟨F, L, ps, rfl, _⟩ := h
    rfl
  · obtain ⟨F, L, ps, rfl, sF, hR, hn, hz, q⟩ := h
    refine ⟨_, (pss_cons (ps_if (pt_not (pt_val (pe_callB call_isi (by rfl) T.b_isinstance (by decide +kernel) (pa_cons (pv 0) (pa_cons (pe_bltn (v := .ty "str") (by rfl) T.b_str (by decide +kernel) rfl) pa_nil))))) (pss_one ps_never) pss_nil)
  (pss_one (ps_ret (pe_callG G_merged (hr.mono (by first | decide | omega)) (by rfl) (pa_cons (pe_methG0 (pe_makeK T.mkR M_init (hr.mono (by first | decide | omega)) (by rfl) T.gReading T.kInit pass0 (pa_cons (pv 0) pa_nil) (pk_cons pe_bl pk_nil)) T.cl M_all_parts (hr.mono (by first | decide | omega))) pa_nil))))), ?_⟩
    refine ⟨_, rfl, _, _, _, _, true, rfl, .ty _, .base (.str _), kit_ty (by decide +kernel), _, rfl, iteF ?_⟩
    refine ⟨_, rfl, rfl, rfl, read_go sF hR fun H1 F1 v s1 g1 d1 => ?_⟩
    obtain ⟨l, us, rfl, hl, hus⟩ := Dp.lstI d1
    exact ⟨F1, l, us, ps, rfl, g1.top, g1.top.seq hl, hus, hn, hz, fun H2 F2 v2 s2 g2 d2 => q _ _ _ (s1.trans s2) (g1.trans g2) d2⟩
def spPartsIn (K : PySem.W.Frag) : Sp := fun vs H Q _ => ∃ (F : Hp) (x : V), vs = [x] ∧ Same F H ∧
  ((TyX K H x (.type "tuple") ∧ Q .non H) ∨ (∃ (L : List Nat) (ds : List PyData), x = .str (S L) ∧ Read true L ds ∧ ∀ H' F' v, Same H H' → Gr H F H' F' → Dp K F' v (.list ds) → Q v H'))
theorem G_parts_in (T : Tx K w mg C fI aWORDS aTURNED aBLOCKS fdI) : Gf P w K mg base 8 "parts_in" ["thing"] (spPartsIn K) := by
  have M_init : FnOk P w K mg base CX0 1 fI fdI ["self", "text", "has_holes"] (spInit K C) := M_init T
  have M_all_parts : Mf P w K mg base C 7 "all_parts" ["self"] (spAllParts K C) := M_all_parts T
  refine gf_mk T.d_parts_in sc_parts_in (fun vs H Q E h => ?_) (fun f cdv A outer s H vs Q E hr h => ?_)
  · obtain ⟨F, x, rfl, _⟩ := h
    rfl
  · obtain ⟨F, x, rfl, sF, h⟩ := h
    refine ⟨_, (pss_cons (ps_if (pt_not (pt_val (pe_callB call_isi (by rfl) T.b_isinstance (by decide +kernel) (pa_cons (pv 0) (pa_cons (pe_bltn (v := .ty "str") (by rfl) T.b_str (by decide +kernel) rfl) pa_nil))))) (pss_one (ps_ret pe_non)) pss_nil)
  (pss_one (ps_try_thru0 (pss_one (ps_ret (pe_methG0 (pe_makeK T.mkR M_init (hr.mono (by first | decide | omega)) (by rfl) T.gReading T.kInit pass0 (pa_cons (pv 0) pa_nil) (pk_cons pe_bl pk_nil)) T.cl M_all_parts (hr.mono (by first | decide | omega)))))))), ?_⟩
    rcases h with ⟨ty, q⟩ | ⟨L, ds, rfl, hR, q⟩
    · exact ⟨_, rfl, _, _, _, _, false, rfl, .ty _, ty, kit_ty (by decide +kernel), _, rfl, iteT q⟩
    · refine ⟨_, rfl, _, _, _, _, true, rfl, .ty _, .base (.str _), kit_ty (by decide +kernel), _, rfl, iteF ?_⟩
      exact ⟨_, rfl, rfl, rfl, read_go sF hR q⟩
def spNeedTemplate (K : PySem.W.Frag) : Sp := fun vs H Q _ => ∃ (F : Hp) (L : List Nat) (ds : List PyData), vs = [.str (S L)] ∧ Same F H ∧ Read true L ds ∧ ∀ H' F' v, Same H H' → Gr H F H' F' → Dp K F' v (.list ds) → Q v H'
theorem G_need_template (T : Tx K w mg C fI aWORDS aTURNED aBLOCKS fdI) : Gf P w K mg base 9 "need_template" ["thing"] (spNeedTemplate K) := by
  have G_parts_in : Gf P w K mg base 8 "parts_in" ["thing"] (spPartsIn K) := G_parts_in T
  refine gf_mk T.d_need_template sc_need_template (fun vs H Q E h => ?_) (fun f cdv A outer s H vs Q E hr h => ?_)
  · obtain ⟨F, L, ds, rfl, _⟩ := h
    rfl
  · obtain ⟨F, L, ds, rfl, sF, hR, q⟩ := h
    refine ⟨_, (pss_cons (ps_set (i := 1) sc_need_template.nd rfl (Or.inl rfl) (pe_callG G_parts_in (hr.mono (by first | decide | omega)) (by rfl) (pa_cons (pv 0) pa_nil)))
  (pss_cons (ps_if (pt_cmpR op_isN (pv 1) pe_non (nomark _)) (pss_one ps_never) pss_nil)
  (pss_one (ps_ret (pv 1))))), ?_⟩
    refine ⟨_, rfl, F, _, rfl, sF, .inr ⟨L, ds, rfl, hR, fun H1 F1 v s1 g1 d1 => ?_⟩⟩
    obtain ⟨l, us, rfl, hl, hus⟩ := Dp.lstI d1
    refine ⟨_, rfl, rfl, _, rfl, iteF ?_⟩
    exact ⟨_, rfl, q _ _ _ s1 g1 d1⟩
def spIsTemplate (K : PySem.W.Frag) : Sp := fun vs H Q _ => ∃ (F : Hp) (x : V), vs = [x] ∧ Same F H ∧
  ((TyX K H x (.type "tuple") ∧ Q (.bl false) H) ∨ (∃ (L : List Nat) (ds : List PyData), x = .str (S L) ∧ Read true L ds ∧ ∀ H', Same H H' → Q (.bl true) H'))
theorem GB_is_template (T : Tx K w mg C fI aWORDS aTURNED aBLOCKS fdI) : Gf P w K mg base 9 "is_template" ["thing"] (spIsTemplate K) ∧ Gk P w K mg base 9 "is_template" ["thing"] false (spIsTemplate K) := by
  have G_parts_in : Gf P w K mg base 8 "parts_in" ["thing"] (spPartsIn K) := G_parts_in T
  refine both_mk T.d_is_template T.k_is_template sc_is_template (fun vs H Q E h => ?_) (fun f cdv A outer s H vs Q E hr h => ?_)
  · obtain ⟨F, x, rfl, _⟩ := h
    rfl
  · obtain ⟨F, x, rfl, sF, h⟩ := h
    refine ⟨_, (pss_one (ps_ret (pe_cmpR op_notN (pe_callG G_parts_in (hr.mono (by first | decide | omega)) (by rfl) (pa_cons (pv 0) pa_nil)) pe_non (nomark _)))), ?_⟩
    rcases h with ⟨ty, q⟩ | ⟨L, ds, rfl, hR, q⟩
    · exact ⟨_, rfl, F, _, rfl, sF, .inl ⟨ty, rfl, q⟩⟩
    · refine ⟨_, rfl, F, _, rfl, sF, .inr ⟨L, ds, rfl, hR, fun H1 F1 v s1 g1 d1 => ?_⟩⟩
      obtain ⟨l, us, rfl, hl, hus⟩ := Dp.lstI d1
      exact ⟨rfl, q _ s1⟩
end
end Dh
namespace Dh
open PySem PySem.Spec PyProof.Rows L2
/-! ### data that may be compared -/
def Nice (n : Nat) (d : PyData) : Prop := d.canLay0 = true ∧ d.depth ≤ n
def NiceA (n : Nat) (ds : List PyData) : Prop := ∀ d ∈ ds, Nice n d
theorem niceA_lay {n : Nat} : ∀ {ds : List PyData}, NiceA n ds → PyData.canLayAll0 ds = true ∧ PyData.depthAll ds ≤ n
  | [], _ => by simp [PyData.canLayAll0, PyData.depthAll]
  | d :: ds, h => by
    have h1 := h d (List.mem_cons_self ..)
    have h2 := niceA_lay (ds := ds) fun x hx => h x (List.mem_cons_of_mem _ hx)
    have e1 := h1.2
    have e2 := h2.2
    constructor
    · simp [PyData.canLayAll0, h1.1, h2.1]
    · simp only [PyData.depthAll]
      omega
theorem Nice.tup {n : Nat} {ds : List PyData} (h : NiceA n ds) : Nice (n + 1) (.tuple ds) := by
  have := niceA_lay h
  constructor
  · simp [PyData.canLay0, this.1]
  · simp only [PyData.depth]
    omega
theorem Nice.lst {n : Nat} {ds : List PyData} (h : NiceA n ds) : Nice (n + 1) (.list ds) := by
  have := niceA_lay h
  constructor
  · simp [PyData.canLay0, this.1]
  · simp only [PyData.depth]
    omega
theorem Nice.up {n m : Nat} {d : PyData} (h : Nice n d) (e : n ≤ m) : Nice m d := ⟨h.1, Nat.le_trans h.2 e⟩
theorem Nice.str {l : List Nat} (h : ∀ c ∈ l, c < 128) : Nice 1 (tS l) := by
  constructor
  · simp only [PyData.canLay0]
    exact strOk_S h
  · simp [PyData.depth]
theorem Nice.shaped {n : Nat} {d : PyData} (h : Nice n d) (e : n ≤ 64) : SeqAt.shaped d = true := shaped_mk h.1 (Nat.le_trans h.2 e)
theorem signs_lt {c : Nat} (h : c ∈ SIGNSL) : c < 128 := by
  have : ∀ c ∈ SIGNSL, c < 128 := by decide +kernel
  exact this c h
theorem areSigns_lt {l : List Nat} (h : areSigns l = true) : ∀ c ∈ l, c < 128 := fun c hc => signs_lt (of_decide_eq_true (List.all_eq_true.mp h c hc))
theorem DpAll.bools {K : PySem.W.Frag} {H : Hp} : ∀ (ys : List Bool) (acc : List V), DpAll K H acc (ys.map PyData.bool) → acc = ys.map V.bl
  | [], acc, h => by cases h; rfl
  | y :: ys, acc, h => by
    cases h with
    | cons a b =>
      cases a
      rw [DpAll.bools ys _ b]
      rfl
/-! ### what is shown: a row of tags, in each a text or nothing -/
structure FN where
  nm : List Nat
  ats : List Atr
  tx : List Nat
def inD (tx : List Nat) : List PyData := if tx = [] then [] else [tS tx]
def fnD (n : FN) : PyData := .tuple [tS n.nm, .tuple (n.ats.map atX), .tuple (inD n.tx)]
def AtrOk (as : List Atr) : Prop := as.length ≤ 1 ∧ ∀ x ∈ as, isName x.1 = true ∧ areSigns x.2 = true ∧ x.2.length ≤ 200
def FNok (n : FN) : Prop := isName n.nm = true ∧ AtrOk n.ats ∧ areSigns n.tx = true ∧ n.tx.length ≤ 200
theorem atX_nice {a : Atr} (h : isName a.1 = true ∧ areSigns a.2 = true ∧ a.2.length ≤ 200) : Nice 2 (atX a) := Nice.tup (n := 1) fun d hd => by
  simp only [List.mem_cons, List.not_mem_nil, or_false] at hd
  rcases hd with rfl | rfl
  · exact Nice.str (name_lt h.1)
  · exact Nice.str (areSigns_lt h.2.1)
theorem inD_nice {tx : List Nat} (h : areSigns tx = true) : Nice 2 (.tuple (inD tx)) := Nice.tup (n := 1) fun d hd => by
  unfold inD at hd
  by_cases e : tx = []
  · rw [if_pos e] at hd; cases hd
  · rw [if_neg e] at hd
    simp only [List.mem_cons, List.not_mem_nil, or_false] at hd
    subst hd
    exact Nice.str (areSigns_lt h)
theorem fnD_nice {n : FN} (h : FNok n) : Nice 4 (fnD n) := Nice.tup (n := 3) fun d hd => by
  simp only [List.mem_cons, List.not_mem_nil, or_false] at hd
  rcases hd with rfl | rfl | rfl
  · exact (Nice.str (name_lt h.1)).up (by decide)
  · exact Nice.tup (n := 2) fun d hd => by
      obtain ⟨a, ha, rfl⟩ := List.mem_map.mp hd
      exact atX_nice (h.2.1.2 a ha)
  · exact (inD_nice h.2.2.1).up (by decide)
theorem forest_nice {ns : List FN} (h : ∀ n ∈ ns, FNok n) : Nice 5 (.tuple (ns.map fnD)) := Nice.tup (n := 4) fun d hd => by
  obtain ⟨a, ha, rfl⟩ := List.mem_map.mp hd
  exact fnD_nice (h a ha)
section
variable {P : Program} {w : World} {K : PySem.W.Frag} {mg : Str → Option Value} {base : Heap} {C fI aWORDS aTURNED aBLOCKS : Addr} {fdI : FuncData}
/-! ### are_attributes -/
def spAreAttributes (K : PySem.W.Frag) : Sp := fun vs H Q _ => ∃ (F : Hp) (x : V) (as : List Atr), vs = [x] ∧ Same F H ∧ Dp K F x (.tuple (as.map atX)) ∧ AtrOk as ∧ ∀ H', Same H H' → Q (.bl true) H'
theorem G_are_attributes (T : Tx K w mg C fI aWORDS aTURNED aBLOCKS fdI) : Gf P w K mg base 3 "are_attributes" ["thing"] (spAreAttributes K) := by
  have G_is_shaped : Gf P w K mg base 1 "is_shaped" ["thing", "many"] (spIsShaped K) := G_is_shaped T
  have G_is_name : Gf P w K mg base 2 "is_name" ["thing"] spIsName := G_is_name T
  have G_are_signs : Gf P w K mg base 2 "are_signs" ["thing"] spAreSigns := G_are_signs T
  have G_are_unlike : Gf P w K mg base 1 "are_unlike" ["things"] (spAreUnlike K) := G_are_unlike T
  refine gf_mk T.d_are_attributes sc_are_attributes (fun vs H Q E h => ?_) (fun f cdv A outer s H vs Q E hr h => ?_)
  · obtain ⟨F, x, as, rfl, _⟩ := h
    rfl
  · obtain ⟨F, x, as, rfl, sF, dx, ⟨hn, has⟩, q⟩ := h
    refine ⟨_, (pss_cons (ps_if (PW.pt (pw_or (pt_not (pt_val (pe_callB call_isi (by rfl) T.b_isinstance (by decide +kernel) (pa_cons (pv 0) (pa_cons (pe_bltn (v := .ty "tuple") (by rfl) T.b_tuple (by decide +kernel) rfl) pa_nil))))) (pw_or1 (pt_not (pt_val (pe_callB (cr_all rfl) (by rfl) T.b_all (by decide +kernel) (pa_cons (pe_lc (own := [("one", 1)]) rfl sc_are_attributes.nd (pi_tup (pv 0)) (blkOk_by (by kernel_rfl)) (fun _ _ _ _ _ => (pg_name (i := 1) sc_are_attributes.nd rfl (Or.inl rfl))) (fun _ _ _ _ _ => pts_nil) (fun _ _ _ _ _ => (pe_callG G_is_shaped (hr.mono (by first | decide | omega)) (by rfl) (pa_cons (pv 1) (pa_cons pe_int pa_nil))))) pa_nil))))))) (pss_one (ps_ret pe_bl)) pss_nil)
  (pss_cons (ps_if (pt_not (pt_val (pe_callB (cr_all rfl) (by rfl) T.b_all (by decide +kernel) (pa_cons (pe_lc (own := [("name", 2), ("text", 3)]) rfl sc_are_attributes.nd (pi_tup (pv 0)) (blkOk_by (by kernel_rfl)) (fun _ _ _ _ _ => (pg_tupK K 2 rfl rfl (pgs_cons (pg_name (i := 2) sc_are_attributes.nd rfl (Or.inl rfl)) (pgs_cons (pg_name (i := 3) sc_are_attributes.nd rfl (Or.inl rfl)) pgs_nil)))) (fun _ _ _ _ _ => pts_nil) (fun _ _ _ _ _ => (pe_and (pe_callG G_is_name (hr.mono (by first | decide | omega)) (by rfl) (pa_cons (pv 2) pa_nil)) (pe_one (pe_callG G_are_signs (hr.mono (by first | decide | omega)) (by rfl) (pa_cons (pv 3) pa_nil)))))) pa_nil)))) (pss_one (ps_ret pe_bl)) pss_nil)
  (pss_one (ps_ret (pe_callG G_are_unlike (hr.mono (by first | decide | omega)) (by rfl) (pa_cons (pe_lc (own := [("name", 2), ("text", 3)]) rfl sc_are_attributes.nd (pi_tup (pv 0)) (blkOk_by (by kernel_rfl)) (fun _ _ _ _ _ => (pg_tupK K 2 rfl rfl (pgs_cons (pg_name (i := 2) sc_are_attributes.nd rfl (Or.inl rfl)) (pgs_cons (pg_name (i := 3) sc_are_attributes.nd rfl (Or.inl rfl)) pgs_nil)))) (fun _ _ _ _ _ => pts_nil) (fun _ _ _ _ _ => (pv 2))) pa_nil)))))), ?_⟩
    obtain ⟨a, xs, rfl, ha, hxs⟩ := Dp.tupI dx
    have hlen : xs.length = as.length := by rw [DpAll.len hxs, List.length_map]
    refine ⟨_, rfl, _, _, _, _, true, rfl, .ty _, tyx_tup (same_seqT sF ha), kit_ty (by decide +kernel), _, rfl, iteF ?_⟩
    -- the first comprehension
    refine ⟨_, rfl, a, rfl, ⟨_, same_seqT sF ha⟩, fun D hD => ?_⟩
    refine lc_tup (K := K) (a := a) (xs := xs) (LcI K H F D ((as.map fun _ => true).map PyData.bool)) (LcI.init sF hD) (fun i H _ hi => same_seqT (sF.trans hi.same) ha) ?_ ?_
    · rintro i x H2 hx ⟨F2, acc, sa, g2, fD, hDl, hacc⟩
      obtain ⟨d, hd, dx2⟩ := DpAll.at hxs hx
      obtain ⟨aa, haa, rfl⟩ := map_atI hd
      obtain ⟨p, ys, rfl, hp, hys⟩ := Dp.tupI (Dp.same g2.frz _ _ dx2)
      obtain ⟨y1, y2, rfl, _, _⟩ := DpAll.two hys
      refine ⟨rfl, _, rfl, p, _, _, rfl, same_seqT g2.top hp, ?_⟩
      exact LcI.step hD (by simp; omega) sa g2 fD hDl hacc (d := .bool true) (by simp [haa]) (Same.refl _) (Gr.refl g2.top) (.bl _)
    intro H1 hfin
    obtain ⟨F1, acc, s1, g1, fD, hDl, hacc⟩ := hfin.fin (by simpa using hlen)
    have eacc := DpAll.bools _ _ hacc
    subst eacc
    refine ⟨D, _, rfl, SqL.of hDl, _, rfl, ?_⟩
    refine ite_f (by simp) ?_
    -- the second
    refine ⟨_, rfl, a, rfl, ⟨_, same_seqT (sF.trans s1) ha⟩, fun D2 hD2 => ?_⟩
    refine lc_tup (K := K) (a := a) (xs := xs) (LcI K H1 F1 D2 ((as.map fun _ => true).map PyData.bool)) (LcI.init g1.top hD2) (fun i H _ hi => same_seqT (sF.trans (s1.trans hi.same)) ha) ?_ ?_
    · rintro i x H2 hx ⟨F2, acc, sa, g2, fD2, hDl2, hacc2⟩
      obtain ⟨d, hd, dx2⟩ := DpAll.at hxs hx
      obtain ⟨aa, haa, rfl⟩ := map_atI hd
      obtain ⟨h1, h2, h3⟩ := has aa (List.mem_of_getElem? haa)
      obtain ⟨p, ys, rfl, hp, hys⟩ := Dp.tupI (Dp.same (g1.frz.trans g2.frz) _ _ dx2)
      obtain ⟨y1, y2, rfl, c1, c2⟩ := DpAll.two hys
      cases c1
      cases c2
      refine ⟨p, _, rfl, same_seqT g2.top hp, rfl, _, _, rfl, _, _, rfl, rfl, rfl, ?_⟩
      refine ⟨_, rfl, aa.1, rfl, Nat.le_trans (isName_len h1).2.1 (by decide), fun H3 s3 => ?_⟩
      rw [h1]
      refine ⟨_, rfl, iteT ?_⟩
      refine ⟨_, rfl, aa.2, rfl, by omega, fun H4 s4 => ?_⟩
      rw [h2]
      exact LcI.step hD2 (by simp; omega) sa g2 fD2 hDl2 hacc2 (d := .bool true) (by simp [haa]) (s3.trans s4) ((Gr.refl g2.top).same (s3.trans s4)) (.bl _)
    intro H2 hfin2
    obtain ⟨F2, acc2, s2, g2, fD2, hDl2, hacc2⟩ := hfin2.fin (by simpa using hlen)
    have eacc2 := DpAll.bools _ _ hacc2
    subst eacc2
    refine ⟨D2, _, rfl, SqL.of hDl2, _, rfl, ?_⟩
    refine ite_f (by simp) ?_
    -- the names
    refine ⟨_, rfl, a, rfl, ⟨_, same_seqT (sF.trans (s1.trans s2)) ha⟩, fun D3 hD3 => ?_⟩
    refine lc_tup (K := K) (a := a) (xs := xs) (LcI K H2 F2 D3 ((as.map fun z => S z.1).map PyData.str)) (LcI.init g2.top hD3) (fun i H _ hi => same_seqT (sF.trans (s1.trans (s2.trans hi.same))) ha) ?_ ?_
    · rintro i x H3 hx ⟨F3, acc3, sa, g3, fD3, hDl3, hacc3⟩
      obtain ⟨d, hd, dx2⟩ := DpAll.at hxs hx
      obtain ⟨aa, haa, rfl⟩ := map_atI hd
      obtain ⟨p, ys, rfl, hp, hys⟩ := Dp.tupI (Dp.same (g1.frz.trans (g2.frz.trans g3.frz)) _ _ dx2)
      obtain ⟨y1, y2, rfl, c1, c2⟩ := DpAll.two hys
      cases c1
      cases c2
      refine ⟨p, _, rfl, same_seqT g3.top hp, rfl, _, _, rfl, _, _, rfl, rfl, rfl, ?_⟩
      refine ⟨_, rfl, ?_⟩
      exact LcI.step hD3 (by simp; omega) sa g3 fD3 hDl3 hacc3 (d := .str (S aa.1)) (by simp [haa]) (Same.refl _) (Gr.refl g3.top) (.str _)
    intro H3 hfin3
    obtain ⟨F3, acc3, s3, g3, fD3, hDl3, hacc3⟩ := hfin3.fin (by simpa using hlen)
    have eacc3 := DpAll.strs _ _ hacc3
    subst eacc3
    exact ⟨D3, _, rfl, SqL.of hDl3, by simpa using hn, q _ (s1.trans (s2.trans s3))⟩
end
end Dh
namespace Dh
open PySem PySem.Spec PyProof.Rows L2
/-! ### are_nodes -/
theorem DpAll.three {K : PySem.W.Frag} {H : Hp} {xs : List V} {a b c : PyData} (h : DpAll K H xs [a, b, c]) : ∃ x y z, xs = [x, y, z] ∧ Dp K H x a ∧ Dp K H y b ∧ Dp K H z c := by
  cases h with
  | cons h1 h =>
    cases h with
    | cons h2 h =>
      cases h with
      | cons h3 h =>
        cases h
        exact ⟨_, _, _, rfl, h1, h2, h3⟩
theorem DpAll.snoc {K : PySem.W.Frag} {H : Hp} : ∀ {xs : List V} {ds : List PyData} {d : PyData}, DpAll K H xs (ds ++ [d]) → ∃ ys y, xs = ys ++ [y] ∧ DpAll K H ys ds ∧ Dp K H y d
  | xs, [], d, h => by
    cases h with
    | cons h1 h2 =>
      cases h2
      exact ⟨[], _, rfl, .nil, h1⟩
  | xs, e :: ds, d, h => by
    cases h with
    | cons h1 h2 =>
      obtain ⟨ys, y, rfl, h3, h4⟩ := DpAll.snoc h2
      exact ⟨_ :: ys, y, rfl, .cons h1 h3, h4⟩
theorem last_snoc (us : List V) (u : V) : (us ++ [u])[(us ++ [u]).length - 1]? = some u := by simp
def inT (n : FN) : PyData := .tuple (inD n.tx)
def forD (ns : List FN) : PyData := .tuple (ns.map fnD)
theorem eqv_lnil (ds : List PyData) : PyData.eqv (.list ds) (.list []) = decide (ds = []) := by
  cases ds with
  | nil => rfl
  | cons d ds => rfl
theorem eqv_tnil (ds : List PyData) : PyData.eqv (.tuple ds) (.tuple []) = decide (ds = []) := by
  cases ds with
  | nil => rfl
  | cons d ds => rfl
section
variable {P : Program} {w : World} {K : PySem.W.Frag} {mg : Str → Option Value} {base : Heap} {C fI aWORDS aTURNED aBLOCKS : Addr} {fdI : FuncData}
def spAreNodes (K : PySem.W.Frag) : Sp := fun vs H Q _ => ∃ (F : Hp) (x : V) (ns : List FN), vs = [x] ∧ Same F H ∧ Dp K F x (forD ns) ∧ ns.length ≤ 100 ∧ (∀ n ∈ ns, FNok n) ∧ ∀ H', Same H H' → Q (.bl true) H'
theorem G_are_nodes (T : Tx K w mg C fI aWORDS aTURNED aBLOCKS fdI) : Gf P w K mg base 4 "are_nodes" ["thing"] (spAreNodes K) := by
  have G_is_shaped : Gf P w K mg base 1 "is_shaped" ["thing", "many"] (spIsShaped K) := G_is_shaped T
  have G_is_name : Gf P w K mg base 2 "is_name" ["thing"] spIsName := G_is_name T
  have G_are_signs : Gf P w K mg base 2 "are_signs" ["thing"] spAreSigns := G_are_signs T
  have G_are_attributes : Gf P w K mg base 3 "are_attributes" ["thing"] (spAreAttributes K) := G_are_attributes T
  refine gf_mk T.d_are_nodes sc_are_nodes (fun vs H Q E h => ?_) (fun f cdv A outer s H vs Q E hr h => ?_)
  · obtain ⟨F, x, ns, rfl, _⟩ := h
    rfl
  · obtain ⟨F, x, ns, rfl, sF, dx, hn, hns, q⟩ := h
    refine ⟨_, (pss_cons (ps_set (i := 1) sc_are_nodes.nd rfl (Or.inl rfl) (pe_lst (pa_cons (pv 0) pa_nil)))
  (pss_cons (ps_while PassesOwn.never (pt_cmpR (op_neD hr.units) (pv 1) (pe_lst pa_nil) (nomark _))
  (pss_cons (ps_par (i := 2) (j := 3) rfl sc_are_nodes.nd rfl rfl (by decide) rfl rfl (pa_cons (pe_bm0 PySem.F.plainAttrs_list PySem.F.slot_list_pop PySem.F.type_list_pop mt_pop (pv 1)) (pa_cons pe_bl pa_nil)) (by rfl))
  (pss_cons (ps_if (pt_not (pt_val (pe_callB call_isi (by rfl) T.b_isinstance (by decide +kernel) (pa_cons (pv 2) (pa_cons (pe_bltn (v := .ty "tuple") (by rfl) T.b_tuple (by decide +kernel) rfl) pa_nil))))) (pss_one (ps_ret pe_bl)) pss_nil)
  (pss_one (ps_for PassesOwn.never rfl (pi_tup (pv 2)) (pg_name (i := 4) sc_are_nodes.nd rfl (Or.inl rfl))
  (pss_cons (ps_if (PW.pt (pw_or (PW.pt (pw_and (pt_val (pv 3)) (pw_and1 (pt_val (pe_callB call_isi (by rfl) T.b_isinstance (by decide +kernel) (pa_cons (pv 4) (pa_cons (pe_bltn (v := .ty "str") (by rfl) T.b_str (by decide +kernel) rfl) pa_nil))))))) (pw_or1 (PW.pt (pw_and (pt_val (pe_callB call_isi (by rfl) T.b_isinstance (by decide +kernel) (pa_cons (pv 4) (pa_cons (pe_bltn (v := .ty "str") (by rfl) T.b_str (by decide +kernel) rfl) pa_nil)))) (pw_and1 (PW.pt (pw_or (pt_cmpR op_eq (pv 4) pe_str (nomark _)) (pw_or1 (pt_not (pt_val (pe_callG G_are_signs (hr.mono (by first | decide | omega)) (by rfl) (pa_cons (pv 4) pa_nil))))))))))))) (pss_one (ps_ret pe_bl)) pss_nil)
  (pss_cons (ps_set (i := 3) sc_are_nodes.nd rfl (Or.inl rfl) (pe_callB call_isi (by rfl) T.b_isinstance (by decide +kernel) (pa_cons (pv 4) (pa_cons (pe_bltn (v := .ty "str") (by rfl) T.b_str (by decide +kernel) rfl) pa_nil))))
  (pss_one (ps_if (pt_not (pt_val (pv 3))) (pss_cons (ps_if (PW.pt (pw_or (pt_not (pt_val (pe_callG G_is_shaped (hr.mono (by first | decide | omega)) (by rfl) (pa_cons (pv 4) (pa_cons pe_int pa_nil))))) (pw_or (pt_not (pt_val (pe_callG G_is_name (hr.mono (by first | decide | omega)) (by rfl) (pa_cons (pe_ix ix_tup (pv 4) pe_int (fun _ _ => rfl)) pa_nil)))) (pw_or1 (pt_not (pt_val (pe_callG G_are_attributes (hr.mono (by first | decide | omega)) (by rfl) (pa_cons (pe_ix ix_tup (pv 4) pe_int (fun _ _ => rfl)) pa_nil)))))))) (pss_one (ps_ret pe_bl)) pss_nil)
  (pss_one (ps_expr (pe_bm PySem.F.plainAttrs_list PySem.F.slot_list_append PySem.F.type_list_append mt_append (pv 1) (pa_cons (pe_ix ix_tup (pv 4) pe_int (fun _ _ => rfl)) pa_nil))))) pss_nil)))))))))
  (pss_one (ps_ret pe_bl)))), ?_⟩
    refine ⟨_, rfl, by show 1 ≤ sizeLine; decide, fun l hl => ?_⟩
    have hFl : F l = none := sF.free hl
    refine gen_while fun D eD => ?_
    refine ⟨fun m σ H1 => ∃ (F1 : Hp) (us : List V) (ds : List PyData) (v2 v3 v4 : Option V), σ = [some x, some (.ref l), v2, v3, v4] ∧ Same H H1 ∧ Gr H F H1 F1 ∧ F1 l = none ∧ H1 l = some (.lst us) ∧ DpAll K F1 us ds ∧
      ((ds = [forD ns] ∧ m = ns.length + 1) ∨ (m ≤ ns.length ∧ ds = (ns.take m).map inT)),
      ⟨_, F, [x], [forD ns], none, none, none, rfl, same_new hl, (Gr.refl sF).mk1 hFl, hFl, upd_same, .cons dx .nil, .inl ⟨rfl, rfl⟩⟩, ?_⟩
    rintro m σ H1 ⟨F1, us, ds, v2, v3, v4, rfl, s1, g1, hF1, h1, hus, hds⟩
    have hnice : Nice 6 (.list ds) := by
      refine Nice.lst (n := 5) fun d hd => ?_
      rcases hds with ⟨e, _⟩ | ⟨_, e⟩
      · subst e
        simp only [List.mem_cons, List.not_mem_nil, or_false] at hd
        subst hd
        exact forest_nice hns
      · subst e
        obtain ⟨n, hm, rfl⟩ := List.mem_map.mp hd
        exact (inD_nice (hns n (List.mem_of_mem_take hm)).2.2.1).up (by decide)
    refine ⟨_, rfl, Nat.zero_le _, fun e he => ⟨.list ds, .list [], ?_, ?_, hnice.shaped (by decide), by decide, _, rfl, ?_⟩⟩
    · exact Dp.lst' (same_new he _ _ h1) (DpAll.same (g1.top.trans (same_new he)) _ _ hus)
    · exact Dp.lst' upd_same .nil
    rw [eqv_lnil]
    have g2 := g1.mk1 (o := .lst []) (g1.top.free he)
    have s2 := s1.trans (same_new (o := .lst []) he)
    have h2 : upd H1 e (.lst []) l = some (.lst us) := same_new he _ _ h1
    revert g2 s2 h2
    generalize upd H1 e (.lst []) = H2
    intro g2 s2 h2
    rcases hds with ⟨e1, rfl⟩ | ⟨hm, e1⟩
    · subst e1
      refine ite_t (by simp) ?_
      refine ⟨fun σ' H' => ∃ (F1 : Hp) (us : List V) (v2 v3 v4 : Option V), σ' = [some x, some (.ref l), v2, v3, v4] ∧ Same H H' ∧ Gr H F H' F1 ∧ F1 l = none ∧ H' l = some (.lst us) ∧ DpAll K F1 us ((ns.take ns.length).map inT),
        fun σ' H' ⟨F1, us, v2, v3, v4, a1, a2, a3, a4, a5, a6⟩ => ⟨ns.length, Nat.lt_succ_self _, F1, us, _, v2, v3, v4, a1, a2, a3, a4, a5, a6, .inr ⟨Nat.le_refl _, rfl⟩⟩, ?_⟩
      obtain ⟨u, rfl, du⟩ : ∃ u, us = [u] ∧ Dp K F1 u (forD ns) := by
        cases hus with
        | cons a b => cases b; exact ⟨_, rfl, a⟩
      obtain ⟨a, xs, rfl, ha, hxs⟩ := Dp.tupI du
      have hlen : xs.length = ns.length := by rw [DpAll.len hxs, List.length_map]
      refine ⟨_, rfl, .inl ⟨rfl, _, SqL.of h2⟩, l, _, _, rfl, rfl, h2, rfl, _, _, rfl, ?_⟩
      have g3 := g2.mk1 (o := .lst []) hF1
      have s3 := same_mut (o := .lst []) s2 hl
      have h3 : upd H2 l (.lst []) l = some (.lst []) := upd_same
      have aH : SqT K (upd H2 l (.lst [])) a xs := same_seqT g3.top ha
      show _
      revert g3 s3 h3 aH
      have e4 : ([V.ref a] : List V).dropLast = [] := rfl
      rw [e4]
      generalize upd H2 l (.lst []) = H3
      intro g3 s3 h3 aH
      refine ⟨_, rfl, _, _, _, _, true, rfl, .ty _, tyx_tup aH, kit_ty (by decide +kernel), _, rfl, iteF ?_⟩
      refine ⟨_, rfl, a, rfl, ⟨_, aH⟩, for_tup (K := K) (a := a) (xs := xs) (fun i σ H' => ∃ (F2 : Hp) (us : List V) (v4 : Option V), σ = [some x, some (.ref l), some (.ref a), some (.bl false), v4] ∧ Same H H' ∧ Gr H F H' F2 ∧ Same F1 F2 ∧ F2 l = none ∧ H' l = some (.lst us) ∧ DpAll K F2 us ((ns.take i).map inT))
        ⟨F1, [], v4, rfl, s3, g3, Same.refl _, hF1, h3, .nil⟩ (fun i σ H' _ ⟨F2, _, _, _, _, g, sf, _⟩ => same_seqT (sf.trans g.top) ha) ?_ ?_⟩
      · rintro i y σ H4 hy ⟨F2, us, v4, rfl, s4, g4, sf, hF2, h4, hus4⟩
        obtain ⟨d, hd, dy⟩ := DpAll.at hxs hy
        obtain ⟨n, hni, rfl⟩ := map_atI hd
        obtain ⟨k1, k2, k3, k4⟩ := hns n (List.mem_of_getElem? hni)
        obtain ⟨p, zs, rfl, hp, hzs⟩ := Dp.tupI (Dp.same sf _ _ dy)
        obtain ⟨z1, z2, z3, rfl, c1, c2, c3⟩ := DpAll.three hzs
        cases c1
        have hpH := same_seqT g4.top hp
        refine ⟨_, rfl, _, rfl, iteF ?_⟩
        refine iteF ?_
        refine ⟨_, rfl, _, _, _, _, false, rfl, .ty _, tyx_tup hpH, kit_ty (by decide +kernel), _, rfl, iteF (iteF ?_)⟩
        refine ⟨_, rfl, _, _, _, _, false, rfl, .ty _, tyx_tup hpH, kit_ty (by decide +kernel), ?_⟩
        refine ⟨_, rfl, _, rfl, iteT ?_⟩
        refine ⟨_, rfl, p, _, 3, rfl, hpH, _, rfl, iteF ?_⟩
        refine ⟨_, rfl, p, _, _, _, rfl, rfl, hpH, atI_nat (j := 0) rfl, n.nm, rfl, Nat.le_trans (isName_len k1).2.1 (by decide), fun H5 s5 => ⟨_, rfl, ?_⟩⟩
        rw [k1]
        refine iteF ?_
        refine ⟨_, rfl, p, _, _, _, rfl, rfl, same_seqT s5 hpH, atI_nat (j := 1) rfl, F2, z2, n.ats, rfl, g4.top.trans s5, c2, k2, fun H6 s6 => ⟨_, rfl, iteF ?_⟩⟩
        have s46 := s5.trans s6
        refine ⟨_, rfl, .inl ⟨rfl, _, SqL.of (s46 _ _ h4)⟩, _, rfl, p, _, _, _, rfl, rfl, same_seqT s46 hpH, atI_nat (j := 2) rfl, ?_⟩
        refine ⟨l, us, z3, rfl, rfl, s46 _ _ h4, ?_, F2, us ++ [z3], _, rfl, same_mut (s4.trans s46) hl, (g4.same s46).mk1 hF2, sf, hF2, upd_same, ?_⟩
        · rw [DpAll.len hus4, List.length_map, List.length_take]
          exact Nat.lt_of_le_of_lt (m := 100) (by omega) (by decide)
        · rw [take_snoc hni, List.map_append]
          exact DpAll.app hus4 (.cons c3 .nil)
      · rintro σ H4 ⟨F2, us, v4, rfl, s4, g4, sf, hF2, h4, hus4⟩
        rw [hlen] at hus4
        exact ⟨F2, us, _, _, _, rfl, s4, g4, hF2, h4, hus4⟩
    · cases m with
      | zero =>
        have e0 : ds = [] := by rw [e1]; rfl
        refine ite_f (by rw [e0]; rfl) ?_
        rw [eD]
        exact q _ s2
      | succ m =>
        have hmn : m < ns.length := hm
        have hnm : ns[m]? = some ns[m] := List.getElem?_eq_getElem hmn
        rw [take_snoc hnm, List.map_append] at e1
        subst e1
        refine ite_t (by simp) ?_
        obtain ⟨ys, u, rfl, hys, du⟩ := DpAll.snoc hus
        obtain ⟨k1, k2, k3, k4⟩ := hns ns[m] (List.getElem_mem hmn)
        obtain ⟨a, xs, rfl, ha, hxs⟩ := Dp.tupI du
        refine ⟨fun σ' H' => ∃ (F1 : Hp) (us : List V) (v2 v3 v4 : Option V), σ' = [some x, some (.ref l), v2, v3, v4] ∧ Same H H' ∧ Gr H F H' F1 ∧ F1 l = none ∧ H' l = some (.lst us) ∧ DpAll K F1 us ((ns.take m).map inT),
          fun σ' H' ⟨F1, us, v2, v3, v4, a1, a2, a3, a4, a5, a6⟩ => ⟨m, Nat.lt_succ_self _, F1, us, _, v2, v3, v4, a1, a2, a3, a4, a5, a6, .inr ⟨Nat.le_of_lt hmn, rfl⟩⟩, ?_⟩
        refine ⟨_, rfl, .inl ⟨rfl, _, SqL.of h2⟩, l, _, _, rfl, rfl, h2, last_snoc _ _, _, _, rfl, ?_⟩
        rw [List.dropLast_concat]
        have g3 := g2.mk1 (o := .lst ys) hF1
        have s3 := same_mut (o := .lst ys) s2 hl
        have h3 : upd H2 l (.lst ys) l = some (.lst ys) := upd_same
        have aH : SqT K (upd H2 l (.lst ys)) a xs := same_seqT g3.top ha
        revert g3 s3 h3 aH
        generalize upd H2 l (.lst ys) = H3
        intro g3 s3 h3 aH
        refine ⟨_, rfl, _, _, _, _, true, rfl, .ty _, tyx_tup aH, kit_ty (by decide +kernel), _, rfl, iteF ?_⟩
        refine ⟨_, rfl, a, rfl, ⟨_, aH⟩, for_tup (K := K) (a := a) (xs := xs) (fun i σ H' => ∃ (b : Bool) (v4 : Option V), σ = [some x, some (.ref l), some (.ref a), some (.bl b), v4] ∧ Same H3 H' ∧ (i = 0 → b = false))
          ⟨false, v4, rfl, Same.refl _, fun _ => rfl⟩ (fun i σ H' _ ⟨_, _, _, s, _⟩ => same_seqT s aH) ?_ ?_⟩
        · rintro i y σ H4 hy ⟨b, v4, rfl, s4, hb⟩
          obtain ⟨d, hd, dy⟩ := DpAll.at hxs hy
          have htx : ns[m].tx ≠ [] := fun e => by
            unfold inD at hd
            rw [if_pos e] at hd
            simp at hd
          unfold inD at hd
          rw [if_neg htx] at hd
          have hi : i = 0 := by
            cases i with
            | zero => rfl
            | succ i => simp at hd
          subst hi
          have ed : tS ns[m].tx = d := by simpa using hd
          subst ed
          cases dy
          have eb := hb rfl
          subst eb
          refine ⟨_, rfl, _, rfl, iteF (iteF ?_)⟩
          refine ⟨_, rfl, _, _, _, _, true, rfl, .ty _, .base (.str _), kit_ty (by decide +kernel), _, rfl, iteT ?_⟩
          refine ⟨_, rfl, rfl, _, rfl, ?_⟩
          rw [SemptyS, dec_V]
          refine ite_f (decide_eq_false htx) ?_
          refine ⟨_, rfl, ns[m].tx, rfl, by omega, fun H5 s5 => ⟨_, rfl, ?_⟩⟩
          rw [k3]
          refine iteF ?_
          refine ⟨_, rfl, _, _, _, _, true, rfl, .ty _, .base (.str _), kit_ty (by decide +kernel), ?_⟩
          refine ⟨_, rfl, _, rfl, iteF ?_⟩
          exact ⟨true, _, rfl, s4.trans s5, fun e => by simp at e⟩
        · rintro σ H4 ⟨b, v4, rfl, s4, _⟩
          exact ⟨F1, ys, _, _, _, rfl, s3.trans s4, g3.same s4, hF1, s4 _ _ h3, hys⟩
end
end Dh
namespace Dh
open PySem PySem.Spec PyProof.Rows L2
/-! ### turned -/
def encs (z : List Nat) : List Nat := (z.map enc).flatten
abbrev TD : List (Str × Str) := [("<", "&lt;"), (">", "&gt;"), ("&", "&amp;"), ("\"", "&quot;")]
theorem TD_eq : TD = [(S [60], S (38 :: wordOf 60)), (S [62], S (38 :: wordOf 62)), (S [38], S (38 :: wordOf 38)), (S [34], S (38 :: wordOf 34))] := by decide +kernel
theorem td_get (c : Nat) : (match kwGet TD (S [c]) with | some r => V.str r | none => V.str (S [c])) = V.str (S (enc c)) := by
  rw [TD_eq]
  unfold kwGet enc
  by_cases h1 : c = 60
  · subst h1; simp [isSp]
  by_cases h2 : c = 62
  · subst h2; simp [isSp]
  by_cases h3 : c = 38
  · subst h3; simp [isSp]
  by_cases h4 : c = 34
  · subst h4; simp [isSp]
  have e : isSp c = false := by simp [isSp, h1, h2, h3, h4]
  rw [e]
  simp [Ne.symm h1, Ne.symm h2, Ne.symm h3, Ne.symm h4]
theorem enc_len (c : Nat) : (enc c).length ≤ 6 := by
  unfold enc
  by_cases h : isSp c = true
  · rw [if_pos h]
    have := word_len (c := c)
    simp
    omega
  · rw [if_neg h]; simp
theorem encs_len : ∀ z : List Nat, (encs z).length ≤ 6 * z.length
  | [] => by simp [encs]
  | c :: z => by
    have h1 := enc_len c
    have h2 := encs_len z
    unfold encs at h2 ⊢
    rw [List.map_cons, List.flatten_cons, List.length_append, List.length_cons]
    omega
section
variable {P : Program} {w : World} {K : PySem.W.Frag} {mg : Str → Option Value} {base : Heap} {C fI aWORDS aTURNED aBLOCKS : Addr} {fdI : FuncData}
def spTurned : Sp := fun vs H Q _ => ∃ z : List Nat, vs = [.str (S z)] ∧ z.length ≤ 1000 ∧ ∀ H', Same H H' → Q (.str (S (encs z))) H'
theorem G_turned (T : Tx K w mg C fI aWORDS aTURNED aBLOCKS fdI) : Gf P w K mg base 1 "turned" ["text"] spTurned := by
  refine gf_mk T.d_turned sc_turned (fun vs H Q E h => ?_) (fun f cdv A outer s H vs Q E hr h => ?_)
  · obtain ⟨z, rfl, _⟩ := h
    rfl
  · obtain ⟨z, rfl, hz, q⟩ := h
    refine ⟨_, (pss_one (ps_ret (pe_bm PySem.F.plainAttrs_str PySem.F.slot_str_join PySem.F.type_str_join mt_join pe_str (pa_cons (pe_lc (own := [("sign", 1)]) rfl sc_turned.nd (pi_str (pv 0)) (blkOk_by (by kernel_rfl)) (fun _ _ _ _ _ => (pg_name (i := 1) sc_turned.nd rfl (Or.inl rfl))) (fun _ _ _ _ _ => pts_nil) (fun _ _ _ _ _ => (pe_kget2K K w rfl rfl (pe_gR (by rfl) T.gTURNED) (pv 1) (pv 1) ⟨by rfl, by rfl, by rfl, by rfl⟩))) pa_nil)))), ?_⟩
    refine ⟨rfl, _, rfl, _, rfl, fun D hD => ?_⟩
    refine lc_str (x := S z) (fun i H1 => Same H H1 ∧ H1 D = some (.lst ((z.take i).map fun c => .str (S (enc c))))) ⟨same_new hD, upd_same⟩ (fun i c H1 hc ⟨s1, h1⟩ => ?_) (fun H1 ⟨s1, h1⟩ => ?_)
    · rw [S_list] at hc
      refine ⟨rfl, aTURNED, TD, rfl, T.kwTURNED, _, rfl, _, rfl, _, rfl, _, h1, ?_, same_mut s1 hD, ?_⟩
      · rw [List.length_map, List.length_take]
        exact Nat.lt_of_le_of_lt (Nat.le_trans (Nat.min_le_right _ _) hz) (by decide)
      · rw [upd_same, take_snoc hc, List.map_append]
        exact congrArg (fun z => some (HO.lst (List.map (fun c => V.str (S (enc c))) (List.take i _) ++ [z]))) (td_get c)
    · rw [S_list, List.take_length] at h1
      refine ⟨_, D, (z.map enc).map S, rfl, rfl, .inl (SqL.of (by rw [h1, List.map_map, List.map_map]; rfl)), ?_, ?_⟩
      · rw [SemptyS, S_len]
        have e1 : (((z.map enc).map S).map (·.length)).sum = (encs z).length := by
          unfold encs
          rw [List.length_flatten, List.map_map, List.map_map, List.map_map]
          congr 1
        have := encs_len z
        rw [e1]
        simp only [List.length_nil, Nat.mul_zero]
        omega
      · rw [SemptyS, joinE]
        exact q _ s1
end
end Dh
namespace Dh
open PySem PySem.Spec PyProof.Rows L2
/-! ### show_marks -/
inductive It where
  | st (s : List Nat)
  | tp (s : List Nat)
def itD : It → PyData
  | .st s => tS s
  | .tp s => .tuple [tS s]
def itR : It → List Nat
  | .st s => s
  | .tp s => encs s
def itW : It → Nat
  | .st _ => 1
  | .tp _ => 2
def itOk : It → Prop
  | .st s => (∀ c ∈ s, c < 128) ∧ s.length ≤ 3000
  | .tp s => areSigns s = true ∧ s.length ≤ 200
def wt (its : List It) : Nat := (its.map itW).sum
def atrE (a : Atr) : List Nat := 32 :: (a.1 ++ (61 :: 34 :: (encs a.2 ++ [34])))
def headT (n : FN) : List Nat := 60 :: (n.nm ++ (n.ats.map atrE).flatten)
def nodeIts (n : FN) : List It := if n.tx = [] then [.st (headT n ++ [47, 62])] else [.st ([60, 47] ++ n.nm ++ [62]), .tp n.tx, .st (headT n ++ [62])]
def fnT (n : FN) : List Nat := ((nodeIts n).reverse.map itR).flatten
def showT (ns : List FN) : List Nat := (ns.map fnT).flatten
theorem wt_app (a b : List It) : wt (a ++ b) = wt a + wt b := by
  unfold wt
  rw [List.map_append, List.sum_append]
theorem wt_node (n : FN) : wt (nodeIts n) ≤ 4 := by
  unfold nodeIts
  split <;> simp [wt, itW]
theorem wt_nodes : ∀ ns : List FN, wt (ns.map nodeIts).flatten ≤ 4 * ns.length
  | [] => by simp [wt]
  | n :: ns => by
    have h1 := wt_node n
    have h2 := wt_nodes ns
    rw [List.map_cons, List.flatten_cons, wt_app, List.length_cons]
    omega
theorem len_wt : ∀ its : List It, its.length ≤ wt its
  | [] => by simp [wt]
  | i :: its => by
    have h2 := len_wt its
    unfold wt at h2 ⊢
    rw [List.map_cons, List.sum_cons, List.length_cons]
    cases i <;> simp only [itW] <;> omega
theorem its_show : ∀ ns : List FN, (((ns.reverse.map nodeIts).flatten).reverse.map itR).flatten = showT ns
  | [] => rfl
  | n :: ns => by
    have ih := its_show ns
    rw [List.reverse_cons, List.map_append, List.flatten_append, List.reverse_append, List.map_append, List.flatten_append, ih]
    unfold showT fnT
    simp
theorem encs_lt {z : List Nat} (h : ∀ c ∈ z, c < 128) : ∀ c ∈ encs z, c < 128 := by
  intro c hc
  unfold encs at hc
  obtain ⟨l, hl, hcl⟩ := List.mem_flatten.mp hc
  obtain ⟨d, hd, rfl⟩ := List.mem_map.mp hl
  have := h d hd
  revert hcl
  unfold enc
  split
  · intro hcl
    rcases List.mem_cons.mp hcl with rfl | h2
    · decide
    · revert h2
      unfold wordOf
      split
      · intro h2
        have : ∀ c ∈ [108, 116, 59], c < 128 := by decide
        exact this c h2
      · split
        · intro h2
          have : ∀ c ∈ [103, 116, 59], c < 128 := by decide
          exact this c h2
        · split
          · intro h2
            have : ∀ c ∈ [97, 109, 112, 59], c < 128 := by decide
            exact this c h2
          · intro h2
            have : ∀ c ∈ [113, 117, 111, 116, 59], c < 128 := by decide
            exact this c h2
  · intro hcl
    have e : c = d := by simpa using hcl
    rw [e]
    exact this
theorem headT_ok {n : FN} (h : FNok n) : (∀ c ∈ headT n, c < 128) ∧ (headT n).length ≤ 2000 := by
  obtain ⟨h1, ⟨h2, h3⟩, _, _⟩ := h
  have hl := (isName_len h1).2.1
  constructor
  · intro c hc
    unfold headT at hc
    rcases List.mem_cons.mp hc with rfl | hc
    · decide
    rcases List.mem_append.mp hc with hc | hc
    · exact name_lt h1 c hc
    · obtain ⟨l, hl, hcl⟩ := List.mem_flatten.mp hc
      obtain ⟨a, ha, rfl⟩ := List.mem_map.mp hl
      obtain ⟨k1, k2, k3⟩ := h3 a ha
      unfold atrE at hcl
      simp only [List.mem_cons, List.mem_append, List.not_mem_nil, or_false] at hcl
      rcases hcl with rfl | hcl | rfl | rfl | hcl | rfl
      · decide
      · exact name_lt k1 c hcl
      · decide
      · decide
      · exact encs_lt (areSigns_lt k2) c hcl
      · decide
  · unfold headT
    rw [List.length_cons, List.length_append]
    have : (n.ats.map atrE).flatten.length ≤ 1300 := by
      match hh : n.ats with
      | [] => simp
      | [a] =>
        obtain ⟨k1, k2, k3⟩ := h3 a (by rw [hh]; simp)
        have hk := (isName_len k1).2.1
        have he := encs_len a.2
        simp [atrE]
        omega
      | _ :: _ :: _ => rw [hh] at h2; simp at h2
    omega
theorem nodeIts_ok {n : FN} (h : FNok n) : ∀ it ∈ nodeIts n, itOk it := by
  intro it hit
  obtain ⟨k1, k2⟩ := headT_ok h
  unfold nodeIts at hit
  have e2 : ∀ c ∈ [47, 62], c < 128 := by decide
  have e1 : ∀ c ∈ [62], c < 128 := by decide
  have e0 : ∀ c ∈ [60, 47], c < 128 := by decide
  split at hit
  · simp only [List.mem_cons, List.not_mem_nil, or_false] at hit
    subst hit
    refine ⟨fun c hc => ?_, by rw [List.length_append]; show _ + 2 ≤ _; omega⟩
    rcases List.mem_append.mp hc with hc | hc
    · exact k1 c hc
    · exact e2 c hc
  · simp only [List.mem_cons, List.not_mem_nil, or_false] at hit
    rcases hit with rfl | rfl | rfl
    · have := (isName_len h.1).2.1
      refine ⟨fun c hc => ?_, by rw [List.length_append, List.length_append]; show 2 + _ + 1 ≤ _; omega⟩
      rcases List.mem_append.mp hc with hc | hc
      · rcases List.mem_append.mp hc with hc | hc
        · exact e0 c hc
        · exact name_lt h.1 c hc
      · exact e1 c hc
    · exact ⟨h.2.2.1, h.2.2.2⟩
    · refine ⟨fun c hc => ?_, by rw [List.length_append]; show _ + 1 ≤ _; omega⟩
      rcases List.mem_append.mp hc with hc | hc
      · exact k1 c hc
      · exact e1 c hc
theorem itD_nice {it : It} (h : itOk it) : Nice 2 (itD it) := by
  cases it with
  | st s => exact (Nice.str h.1).up (by decide)
  | tp s =>
    refine Nice.tup (n := 1) fun d hd => ?_
    simp only [List.mem_cons, List.not_mem_nil, or_false] at hd
    subst hd
    exact Nice.str (areSigns_lt h.1)
theorem fnT_len {n : FN} (h : FNok n) : (fnT n).length ≤ 4000 := by
  obtain ⟨k1, k2⟩ := headT_ok h
  have h1 := (isName_len h.1).2.1
  have h2 := encs_len n.tx
  have h3 := h.2.2.2
  unfold fnT nodeIts
  split
  · simp [itR]
    omega
  · simp [itR]
    omega
theorem showT_len : ∀ {ns : List FN}, (∀ n ∈ ns, FNok n) → (showT ns).length ≤ 4000 * ns.length
  | [], _ => by simp [showT]
  | n :: ns, h => by
    have h1 := fnT_len (h n (List.mem_cons_self ..))
    have h2 := showT_len (ns := ns) fun x hx => h x (List.mem_cons_of_mem _ hx)
    unfold showT at h2 ⊢
    rw [List.map_cons, List.flatten_cons, List.length_append, List.length_cons]
    omega
end Dh
namespace Dh
open PySem PySem.Spec PyProof.Rows L2
theorem emptyS : Str.empty = S [] := rfl
theorem DpAll.rev {K : PySem.W.Frag} {H : Hp} : ∀ {xs : List V} {ds : List PyData}, DpAll K H xs ds → DpAll K H xs.reverse ds.reverse
  | [], [], _ => .nil
  | x :: xs, d :: ds, .cons a b => by
    rw [List.reverse_cons, List.reverse_cons]
    exact DpAll.app (DpAll.rev b) (.cons a .nil)
  | [], _ :: _, h => by cases h
  | _ :: _, [], h => by cases h
theorem szS {l : List Nat} (h : l.length ≤ 100000) : (S l).length ≤ sizeLine := by
  rw [S_len]
  exact Nat.le_trans h (by decide)
theorem sz2 {a b : List Nat} (h : a.length + b.length ≤ 100000) : (S a).length + (S b).length ≤ sizeLine := by
  rw [S_len, S_len]
  exact Nat.le_trans h (by decide)
theorem eqqS : (Str.ofString "=\"" : Str) = S [61, 34] := by decide +kernel
theorem rev_at {α : Type} {l : List α} {i : Nat} {a : α} (h : l.reverse[i]? = some a) : a ∈ l := List.mem_reverse.mp (List.mem_of_getElem? h)
section
variable {P : Program} {w : World} {K : PySem.W.Frag} {mg : Str → Option Value} {base : Heap} {C fI aWORDS aTURNED aBLOCKS : Addr} {fdI : FuncData}
def spShowMarks (K : PySem.W.Frag) : Sp := fun vs H Q _ => ∃ (F : Hp) (x : V) (ns : List FN), vs = [x] ∧ Same F H ∧ Dp K F x (forD ns) ∧ ns.length ≤ 100 ∧ (∀ n ∈ ns, FNok n) ∧ ∀ H', Same H H' → Q (.str (S (showT ns))) H'
/-- the line and what is found -/
def ShS (K : PySem.W.Frag) (H0 F : Hp) (l fl : Addr) (fo : List (List Nat)) (ds : List PyData) (H F1 : Hp) : Prop :=
  ∃ us : List V, Same H0 H ∧ Gr H0 F H F1 ∧ F1 l = none ∧ F1 fl = none ∧ H l = some (.lst us) ∧ H fl = some (.lst (fo.map fun s => V.str (S s))) ∧ DpAll K F1 us ds ∧ H0 l = none ∧ H0 fl = none ∧ l ≠ fl
theorem ShS.keep {H0 F H F1 H' F' : Hp} {l fl : Addr} {fo : List (List Nat)} {ds : List PyData} (h : ShS K H0 F l fl fo ds H F1) (s : Same H H') (g : Gr H F1 H' F') : ShS K H0 F l fl fo ds H' F' := by
  obtain ⟨us, a1, a2, a3, a4, a5, a6, a7, a8, a9, a10⟩ := h
  exact ⟨us, a1.trans s, a2.trans g, g.stays a3 a5, g.stays a4 a6, s _ _ a5, s _ _ a6, DpAll.same g.frz _ _ a7, a8, a9, a10⟩
theorem ShS.line {H0 F H F1 : Hp} {l fl : Addr} {fo : List (List Nat)} {ds es : List PyData} {ys : List V} (h : ShS K H0 F l fl fo ds H F1) (hy : DpAll K F1 ys es) : ShS K H0 F l fl fo es (upd H l (.lst ys)) F1 := by
  obtain ⟨us, a1, a2, a3, a4, a5, a6, a7, a8, a9, a10⟩ := h
  exact ⟨ys, same_mut a1 a8, a2.mk1 a3, a3, a4, upd_same, by rw [upd_ne (Ne.symm a10)]; exact a6, hy, a8, a9, a10⟩
theorem ShS.found {H0 F H F1 : Hp} {l fl : Addr} {fo : List (List Nat)} {ds : List PyData} {s : List Nat} (h : ShS K H0 F l fl fo ds H F1) : ShS K H0 F l fl (fo ++ [s]) ds (upd H fl (.lst (fo.map (fun s => V.str (S s)) ++ [.str (S s)]))) F1 := by
  obtain ⟨us, a1, a2, a3, a4, a5, a6, a7, a8, a9, a10⟩ := h
  exact ⟨us, same_mut a1 a9, a2.mk1 a4, a3, a4, by rw [upd_ne a10]; exact a5, by rw [upd_same, List.map_append]; rfl, a7, a8, a9, a10⟩
theorem GB_show_marks (T : Tx K w mg C fI aWORDS aTURNED aBLOCKS fdI) : Gf P w K mg base 5 "show_marks" ["nodes"] (spShowMarks K) ∧ Gk P w K mg base 5 "show_marks" ["nodes"] false (spShowMarks K) := by
  have G_are_nodes : Gf P w K mg base 4 "are_nodes" ["thing"] (spAreNodes K) := G_are_nodes T
  have G_turned : Gf P w K mg base 1 "turned" ["text"] spTurned := G_turned T
  refine both_mk T.d_show_marks T.k_show_marks sc_show_marks (fun vs H Q E h => ?_) (fun f cdv A outer s H vs Q E hr h => ?_)
  · obtain ⟨F, x, ns, rfl, _⟩ := h
    rfl
  · obtain ⟨F, x, ns, rfl, sF, dx, hn, hns, q⟩ := h
    refine ⟨_, (pss_cons (ps_if (pt_not (pt_val (pe_callG G_are_nodes (hr.mono (by first | decide | omega)) (by rfl) (pa_cons (pv 0) pa_nil)))) (pss_one ps_never) pss_nil)
  (pss_cons (ps_par (i := 1) (j := 2) rfl sc_show_marks.nd rfl rfl (by decide) rfl rfl (pa_cons (pe_lst pa_nil) (pa_cons (pe_lst (pa_cons (pv 0) pa_nil)) pa_nil)) (by rfl))
  (pss_cons (ps_while PassesOwn.never (pt_cmpR (op_neD hr.units) (pv 2) (pe_lst pa_nil) (nomark _))
  (pss_cons (ps_set (i := 3) sc_show_marks.nd rfl (Or.inl rfl) (pe_bm0 PySem.F.plainAttrs_list PySem.F.slot_list_pop PySem.F.type_list_pop mt_pop (pv 2)))
  (pss_cons (ps_if (pt_val (pe_callB call_isi (by rfl) T.b_isinstance (by decide +kernel) (pa_cons (pv 3) (pa_cons (pe_bltn (v := .ty "str") (by rfl) T.b_str (by decide +kernel) rfl) pa_nil)))) (pss_cons (ps_expr (pe_bm PySem.F.plainAttrs_list PySem.F.slot_list_append PySem.F.type_list_append mt_append (pv 1) (pa_cons (pv 3) pa_nil)))
  (pss_one ps_continue)) pss_nil)
  (pss_one (ps_for PassesOwn.never rfl (pi_tup (pe_revT (pv 3))) (pg_name (i := 4) sc_show_marks.nd rfl (Or.inl rfl))
  (pss_one (ps_if (pt_val (pe_callB call_isi (by rfl) T.b_isinstance (by decide +kernel) (pa_cons (pv 4) (pa_cons (pe_bltn (v := .ty "str") (by rfl) T.b_str (by decide +kernel) rfl) pa_nil)))) (pss_one (ps_expr (pe_bm PySem.F.plainAttrs_list PySem.F.slot_list_append PySem.F.type_list_append mt_append (pv 2) (pa_cons (pe_callG G_turned (hr.mono (by first | decide | omega)) (by rfl) (pa_cons (pv 4) pa_nil)) pa_nil)))) (pss_cons (ps_asg (pv 4) (pg_tup rfl (pgs_cons (pg_name (i := 5) sc_show_marks.nd rfl (Or.inl rfl)) (pgs_cons (pg_name (i := 6) sc_show_marks.nd rfl (Or.inl rfl)) (pgs_cons (pg_name (i := 7) sc_show_marks.nd rfl (Or.inl rfl)) pgs_nil)))))
  (pss_cons (ps_set (i := 8) sc_show_marks.nd rfl (Or.inl rfl) (pe_op op_add_str (pe_op op_add_str pe_str (pv 5)) (pe_bm PySem.F.plainAttrs_str PySem.F.slot_str_join PySem.F.type_str_join mt_join pe_str (pa_cons (pe_lc (own := [("own", 9), ("text", 10)]) rfl sc_show_marks.nd (pi_tup (pv 6)) (blkOk_by (by kernel_rfl)) (fun _ _ _ _ _ => (pg_tupK K 2 rfl rfl (pgs_cons (pg_name (i := 9) sc_show_marks.nd rfl (Or.inl rfl)) (pgs_cons (pg_name (i := 10) sc_show_marks.nd rfl (Or.inl rfl)) pgs_nil)))) (fun _ _ _ _ _ => pts_nil) (fun _ _ _ _ _ => (pe_joinedD (PJ.cons pe_str (PJ.cons (pe_fmt (pv 9)) (PJ.cons pe_str (PJ.cons (pe_fmt (pe_callG G_turned (hr.mono (by first | decide | omega)) (by rfl) (pa_cons (pv 10) pa_nil))) (PJ.cons pe_str PJ.nil)))))))) pa_nil))))
  (pss_one (ps_expr (pe_bm PySem.F.plainAttrs_list PySem.F.slot_list_extend PySem.F.type_list_extend mt_extend (pv 2) (pa_cons (pe_ifExp (pt_cmpR (op_neD hr.units) (pv 7) (pe_tup pa_nil) (nomark _)) (pe_lst (pa_cons (pe_op op_add_str (pe_op op_add_str pe_str (pv 5)) pe_str) (pa_cons (pv 7) (pa_cons (pe_op op_add_str (pv 8) pe_str) pa_nil)))) (pe_lst (pa_cons (pe_op op_add_str (pv 8) pe_str) pa_nil))) pa_nil)))))))))))))
  (pss_one (ps_ret (pe_bm PySem.F.plainAttrs_str PySem.F.slot_str_join PySem.F.type_str_join mt_join pe_str (pa_cons (pv 1) pa_nil))))))), ?_⟩
    refine ⟨_, rfl, F, x, ns, rfl, sF, dx, hn, hns, fun H1 s1 => ⟨_, rfl, iteF ?_⟩⟩
    refine ⟨Nat.zero_le _, fun fl hfl => ⟨_, rfl, by show 1 ≤ sizeLine; decide, fun l hl => ⟨_, _, rfl, ?_⟩⟩⟩
    have g1 : Gr H F H1 F := (Gr.refl sF).same s1
    have g2 := g1.mk1 (o := .lst []) (g1.top.free hfl)
    have g3 := g2.mk1 (o := .lst [x]) (g2.top.free hl)
    have hFfl := g1.top.free hfl
    have hFl := g2.top.free hl
    have lfl : l ≠ fl := fun e => by rw [e, upd_same] at hl; cases hl
    have hl1 : H1 l = none := by rw [upd_ne lfl] at hl; exact hl
    have Z0 : ShS K H F l fl [] [forD ns] (upd (upd H1 fl (.lst [])) l (.lst [x])) F :=
      ⟨[x], (s1.trans (same_new hfl)).trans (same_new hl), g3, hFl, hFfl, upd_same, by rw [upd_ne (Ne.symm lfl), upd_same]; rfl, .cons dx .nil, s1.free hl1, s1.free hfl, lfl⟩
    revert Z0
    generalize upd (upd H1 fl (.lst [])) l (.lst [x]) = H2
    intro Z0
    refine gen_while fun D eD => ?_
    refine ⟨fun m σ H3 => ∃ (F3 : Hp) (fo : List (List Nat)) (ds : List PyData) (v3 v4 v5 v6 v7 v8 : Option V), σ = [some x, some (.ref fl), some (.ref l), v3, v4, v5, v6, v7, v8, none, none] ∧ ShS K H F l fl fo ds H3 F3 ∧
      ((ds = [forD ns] ∧ fo = [] ∧ m = 401) ∨ (∃ its : List It, ds = its.map itD ∧ (∀ it ∈ its, itOk it) ∧ m = wt its ∧ m ≤ 400 ∧ fo.length + m ≤ 400 ∧ fo.flatten ++ (its.reverse.map itR).flatten = showT ns)),
      ⟨_, F, [], [forD ns], none, none, none, none, none, none, rfl, Z0, .inl ⟨rfl, rfl, rfl⟩⟩, ?_⟩
    rintro m σ H3 ⟨F3, fo, ds, v3, v4, v5, v6, v7, v8, rfl, Z, hds⟩
    have hnice : Nice 6 (.list ds) := by
      refine Nice.lst (n := 5) fun d hd => ?_
      rcases hds with ⟨e, _⟩ | ⟨its, e, hok, _⟩
      · subst e
        simp only [List.mem_cons, List.not_mem_nil, or_false] at hd
        subst hd
        exact forest_nice hns
      · subst e
        obtain ⟨n, hm, rfl⟩ := List.mem_map.mp hd
        exact (itD_nice (hok n hm)).up (by decide)
    obtain ⟨us0, b1, b2, b3, b4, b5, b6, b7, b8, b9, b10⟩ := id Z
    refine ⟨_, rfl, Nat.zero_le _, fun e he => ⟨.list ds, .list [], ?_, ?_, hnice.shaped (by decide), by decide, _, rfl, ?_⟩⟩
    · exact Dp.lst' (same_new he _ _ b5) (DpAll.same (b2.top.trans (same_new he)) _ _ b7)
    · exact Dp.lst' upd_same .nil
    rw [eqv_lnil]
    have Z1 := Z.keep (same_new (o := .lst []) he) ((Gr.refl b2.top).mk1 (o := .lst []) (b2.top.free he))
    clear b1 b2 b3 b4 b5 b6 b7 b8 b9 b10 Z
    revert Z1
    generalize upd H3 e (.lst []) = H4
    intro Z
    obtain ⟨us, b1, b2, b3, b4, b5, b6, b7, b8, b9, b10⟩ := id Z
    rcases hds with ⟨e1, e2, rfl⟩ | ⟨its, e1, hok, em, hm1, hm2, hsh⟩
    · subst e1 e2
      refine ite_t (by simp) ?_
      refine ⟨fun σ' H' => ∃ (F3 : Hp) (v3 v4 v5 v6 v7 v8 : Option V), σ' = [some x, some (.ref fl), some (.ref l), v3, v4, v5, v6, v7, v8, none, none] ∧ ShS K H F l fl [] (((ns.reverse.map nodeIts).flatten).map itD) H' F3,
        fun σ' H' ⟨F3, v3, v4, v5, v6, v7, v8, a1, a2⟩ => ⟨wt (ns.reverse.map nodeIts).flatten, ?_, F3, [], _, v3, v4, v5, v6, v7, v8, a1, a2, .inr ⟨_, rfl, ?_, rfl, ?_, ?_, its_show ns⟩⟩, ?_⟩
      · have := wt_nodes ns.reverse
        rw [List.length_reverse] at this
        omega
      · intro it hit
        obtain ⟨l', hl', hit'⟩ := List.mem_flatten.mp hit
        obtain ⟨n, hn', rfl⟩ := List.mem_map.mp hl'
        exact nodeIts_ok (hns n (List.mem_reverse.mp hn')) it hit'
      · have := wt_nodes ns.reverse
        rw [List.length_reverse] at this
        omega
      · have := wt_nodes ns.reverse
        rw [List.length_reverse] at this
        show 0 + _ ≤ _
        omega
      obtain ⟨u, rfl, du⟩ : ∃ u, us = [u] ∧ Dp K F3 u (forD ns) := by
        cases b7 with
        | cons a b => cases b; exact ⟨_, rfl, a⟩
      obtain ⟨a, xs, rfl, ha, hxs⟩ := Dp.tupI du
      refine ⟨_, rfl, .inl ⟨rfl, _, SqL.of b5⟩, l, _, _, rfl, rfl, b5, rfl, ?_⟩
      have Z5 := Z.line (ys := []) (es := []) .nil
      have e4 : ([V.ref a] : List V).dropLast = [] := rfl
      rw [e4]
      have aH : SqT K (upd H4 l (.lst [])) a xs := same_seqT Z5.choose_spec.2.1.top ha
      revert Z5 aH
      generalize upd H4 l (.lst []) = H5
      intro Z5 aH
      refine ⟨_, rfl, _, _, _, _, false, rfl, .ty _, tyx_tup aH, kit_ty (by decide +kernel), _, rfl, iteF ?_⟩
      refine ⟨_, rfl, a, xs, rfl, aH, fun p hp => ⟨p, rfl, ⟨_, SqT.of upd_same⟩, ?_⟩⟩
      have Z6 := Z5.keep (same_new (o := .tup xs.reverse) hp) ((Gr.refl Z5.choose_spec.2.1.top).mk2 (o := .tup xs.reverse) hp)
      have hp6 : upd F3 p (.tup xs.reverse) p = some (.tup xs.reverse) := upd_same
      have d6 : DpAll K (upd F3 p (.tup xs.reverse)) xs.reverse (ns.reverse.map fnD) := by
        have := DpAll.rev (DpAll.same (same_new (o := .tup xs.reverse) (Z5.choose_spec.2.1.top.free hp)) _ _ hxs)
        rw [← List.map_reverse] at this
        exact this
      revert Z6 hp6 d6
      generalize upd F3 p (.tup xs.reverse) = F6
      generalize upd H5 p (.tup xs.reverse) = H6
      intro Z6 hp6 d6
      have hlen : xs.reverse.length = ns.reverse.length := by rw [DpAll.len d6, List.length_map]
      refine for_tup (K := K) (a := p) (xs := xs.reverse) (fun i σ H' => ∃ (F7 : Hp) (v4 v5 v6 v7 v8 : Option V), σ = [some x, some (.ref fl), some (.ref l), some (.ref a), v4, v5, v6, v7, v8, none, none] ∧ ShS K H F l fl [] ((((ns.reverse.take i).map nodeIts).flatten).map itD) H' F7 ∧ Same F6 F7)
        ⟨F6, v4, v5, v6, v7, v8, rfl, Z6, Same.refl _⟩ (fun i σ H' _ ⟨F7, _, _, _, _, _, _, Z, sf⟩ => SqT.of (Z.choose_spec.2.1.top _ _ (sf _ _ hp6))) ?_ ?_
      · rintro i y σ H7 hy ⟨F7, v4, v5, v6, v7, v8, rfl, Z7, sf⟩
        obtain ⟨d, hd, dy⟩ := DpAll.at d6 hy
        obtain ⟨n, hni, rfl⟩ := map_atI hd
        have hn7 := hns n (rev_at hni)
        obtain ⟨k1, ⟨k2, k2'⟩, k3, k4⟩ := id hn7
        have hnl := (isName_len k1).2.1
        obtain ⟨pa, zs, rfl, hpa, hzs⟩ := Dp.tupI (Dp.same sf _ _ dy)
        obtain ⟨z1, z2, z3, rfl, c1, c2, c3⟩ := DpAll.three hzs
        cases c1
        have hpH := same_seqT Z7.choose_spec.2.1.top hpa
        refine ⟨_, rfl, _, _, _, _, false, rfl, .ty _, tyx_tup hpH, kit_ty (by decide +kernel), _, rfl, iteF ?_⟩
        refine ⟨_, rfl, pa, _, rfl, hpH, rfl, _, _, rfl, _, _, rfl, _, _, rfl, rfl, ?_⟩
        -- head
        obtain ⟨ta, ya, rfl, hta, hya⟩ := Dp.tupI c2
        have hlat : ya.length = n.ats.length := by rw [DpAll.len hya, List.length_map]
        rw [ltS, SemptyS, gtS, leS, sgS]
        refine ⟨_, rfl, _, _, rfl, rfl, sz2 (by show 1 + _ ≤ _; omega), rfl, _, rfl, ta, rfl, ⟨_, same_seqT Z7.choose_spec.2.1.top hta⟩, fun D3 hD3 => ?_⟩
        rw [S_app]
        refine lc_tup (K := K) (a := ta) (xs := ya) (LcI K H7 F7 D3 ((n.ats.map fun a => S (atrE a)).map PyData.str)) (LcI.init Z7.choose_spec.2.1.top hD3) (fun i H _ hi => same_seqT (Z7.choose_spec.2.1.top.trans hi.same) hta) ?_ ?_
        · rintro j y H8 hy8 ⟨F8, acc8, sa8, g8, fD8, hDl8, hacc8⟩
          obtain ⟨d, hd8, dy8⟩ := DpAll.at hya hy8
          obtain ⟨aa, haa, rfl⟩ := map_atI hd8
          obtain ⟨j1, j2, j3⟩ := k2' aa (List.mem_of_getElem? haa)
          have hj1 := (isName_len j1).2.1
          have hj3 := encs_len aa.2
          obtain ⟨pb, ys, rfl, hpb, hys⟩ := Dp.tupI (Dp.same g8.frz _ _ dy8)
          obtain ⟨y1, y2, rfl, m1, m2⟩ := DpAll.two hys
          cases m1
          cases m2
          refine ⟨pb, _, rfl, same_seqT g8.top hpb, rfl, _, _, rfl, _, _, rfl, rfl, rfl, ?_⟩
          have fin : ∀ H9, Same H8 H9 → ∃ acc, H9 D3 = some (.lst acc) ∧ acc.length < sizeLine ∧ LcI K H7 F7 D3 ((n.ats.map fun a => S (atrE a)).map PyData.str) (j + 1) (upd H9 D3 (.lst (acc ++ [.str (S (atrE aa))]))) := fun H9 s9 =>
            LcI.step hD3 (by simp; omega) sa8 g8 fD8 hDl8 hacc8 (d := .str (S (atrE aa))) (by simp [haa]) s9 ((Gr.refl g8.top).same s9) (.str _)
          rw [spS, eqqS, quS]
          have q1 : (Str.empty ++ S [32]) = S [32] := rfl
          have q2 : (S [32] ++ S aa.1) = S (32 :: aa.1) := S_app _ _
          have q3 : (S (32 :: aa.1) ++ S [61, 34]) = S (32 :: (aa.1 ++ [61, 34])) := S_app _ _
          have q4 : (S (32 :: (aa.1 ++ [61, 34])) ++ S (encs aa.2)) = S (32 :: (aa.1 ++ [61, 34]) ++ encs aa.2) := S_app _ _
          have q5 : (S (32 :: (aa.1 ++ [61, 34]) ++ encs aa.2) ++ S [34]) = S (atrE aa) := by
            rw [S_app]
            unfold atrE
            simp
          refine ⟨_, rfl, ?_, _, rfl, .inl ⟨_, rfl, szS (by omega), _, rfl, ?_, ?_⟩⟩
          · rw [q1]
            exact szS (by decide)
          · rw [q1, q2]
            exact szS (by rw [List.length_cons]; omega)
          rw [q1, q2]
          refine ⟨_, rfl, ?_, _, rfl, aa.2, rfl, by omega, fun H9 s9 => .inl ⟨_, rfl, szS (by omega), _, rfl, ?_, ?_⟩⟩
          · rw [q3]
            exact szS (by rw [List.length_cons, List.length_append]; show _ + 2 + 1 ≤ _; omega)
          · rw [q3, q4]
            exact szS (by rw [List.length_append, List.length_cons, List.length_append]; show _ + 2 + 1 + _ ≤ _; omega)
          rw [q3, q4]
          refine ⟨_, rfl, ?_, ?_⟩
          · rw [q5]
            exact szS (by unfold atrE; simp; omega)
          rw [q5]
          exact fin H9 s9
        intro H8 hfin
        obtain ⟨F8, acc8, s8, g8, fD8, hDl8, hacc8⟩ := hfin.fin (by simpa using hlat)
        have eacc := DpAll.strs _ _ hacc8
        subst eacc
        obtain ⟨hh1, hh2⟩ := headT_ok hn7
        have ej : (n.ats.map fun a => S (atrE a)) = (n.ats.map atrE).map S := by rw [List.map_map]; rfl
        have elen : ((n.ats.map atrE).flatten).length ≤ 2000 := by
          unfold headT at hh2
          rw [List.length_cons, List.length_append] at hh2
          omega
        refine ⟨_, D3, _, rfl, rfl, .inl (SqL.of hDl8), ?_, ?_⟩
        · rw [S_len, ej]
          have e1 : (((n.ats.map atrE).map S).map (·.length)).sum = ((n.ats.map atrE).flatten).length := by
            rw [List.length_flatten, List.map_map, List.map_map, List.map_map]
            congr 1
          rw [e1]
          simp only [List.length_nil, Nat.mul_zero]
          omega
        rw [ej, joinE]
        refine ⟨_, _, rfl, rfl, sz2 (by rw [List.length_append]; show 1 + _ + _ ≤ _; omega), ?_⟩
        rw [S_app]
        have ehd : [60] ++ n.nm ++ (n.ats.map atrE).flatten = headT n := by
          unfold headT
          simp
        rw [ehd]
        have Z8 := Z7.keep s8 g8
        obtain ⟨us8, t1, t2, t3, t4, t5, t6, t7, t8, t9, t10⟩ := id Z8
        have hus8 : us8.length ≤ 400 := by
          rw [DpAll.len t7, List.length_map]
          have w1 := len_wt ((ns.reverse.take i).map nodeIts).flatten
          have w2 := wt_nodes (ns.reverse.take i)
          have w3 : (ns.reverse.take i).length ≤ ns.length := by rw [List.length_take, List.length_reverse]; omega
          omega
        refine ⟨_, rfl, .inl ⟨rfl, _, SqL.of t5⟩, _, rfl, Nat.zero_le _, fun e he => ?_⟩
        have c3' : Dp K F8 z3 (.tuple (inD n.tx)) := Dp.same g8.frz _ _ c3
        have Z9 := Z8.keep (same_new (o := .tup []) he) ((Gr.refl t2.top).mk1 (o := .tup []) (t2.top.free he))
        refine ⟨.tuple (inD n.tx), .tuple [], Dp.same (t2.top.trans (same_new he)) _ _ c3', Dp.tup' upd_same .nil, (inD_nice k3).shaped (by decide), by decide, _, rfl, ?_⟩
        rw [eqv_tnil]
        have t5' : upd H8 e (.tup []) l = some (.lst us8) := same_new he _ _ t5
        clear t5 t6
        revert Z9 t5'
        generalize upd H8 e (.tup []) = H9
        intro Z9 t5'
        have hsn : ((((ns.reverse.take (i + 1)).map nodeIts).flatten).map itD) = ((((ns.reverse.take i).map nodeIts).flatten).map itD) ++ (nodeIts n).map itD := by
          rw [take_snoc hni, List.map_append, List.flatten_append, List.map_append]
          simp
        by_cases htx : n.tx = []
        · refine ite_f (by unfold inD; rw [if_pos htx]; rfl) ?_
          refine ⟨_, rfl, _, _, rfl, rfl, sz2 (by show _ + 2 ≤ _; omega), by show 1 ≤ sizeLine; decide, fun q2 hq2 => ?_⟩
          have Z10 := Z9.keep (same_new (o := .lst [.str (S (headT n) ++ S [47, 62])]) hq2) ((Gr.refl Z9.choose_spec.2.1.top).mk1 (o := .lst [.str (S (headT n) ++ S [47, 62])]) (Z9.choose_spec.2.1.top.free hq2))
          refine ⟨l, q2, us8, _, rfl, rfl, same_new hq2 _ _ t5', upd_same, ?_, F8, _, _, _, _, _, rfl, ?_, sf.trans g8.frz⟩
          · exact Nat.le_trans (m := 500) (by show us8.length + 1 ≤ 500; omega) (by decide)
          rw [hsn]
          refine Z10.line (DpAll.app t7 ?_)
          have eit : nodeIts n = [.st (headT n ++ [47, 62])] := by
            unfold nodeIts
            rw [if_pos htx]
          rw [eit, S_app]
          exact .cons (.str _) .nil
        · refine ite_t (by unfold inD; rw [if_neg htx]; rfl) ?_
          refine ⟨_, rfl, _, _, rfl, rfl, sz2 (by show 2 + _ ≤ _; omega), _, _, rfl, rfl, ?_, _, rfl, _, rfl, _, _, rfl, rfl, sz2 (by show _ + 1 ≤ _; omega), by show 3 ≤ sizeLine; decide, fun q2 hq2 => ?_⟩
          · rw [S_app]
            exact sz2 (by rw [List.length_append]; show 2 + _ + 1 ≤ _; omega)
          have Z10 := Z9.keep (same_new (o := .lst [.str (S [60, 47] ++ S n.nm ++ S [62]), z3, .str (S (headT n) ++ S [62])]) hq2) ((Gr.refl Z9.choose_spec.2.1.top).mk1 (o := .lst [.str (S [60, 47] ++ S n.nm ++ S [62]), z3, .str (S (headT n) ++ S [62])]) (Z9.choose_spec.2.1.top.free hq2))
          refine ⟨l, q2, us8, _, rfl, rfl, same_new hq2 _ _ t5', upd_same, ?_, F8, _, _, _, _, _, rfl, ?_, sf.trans g8.frz⟩
          · exact Nat.le_trans (m := 500) (by show us8.length + 3 ≤ 500; omega) (by decide)
          rw [hsn]
          refine Z10.line (DpAll.app t7 ?_)
          have eit : nodeIts n = [.st ([60, 47] ++ n.nm ++ [62]), .tp n.tx, .st (headT n ++ [62])] := by
            unfold nodeIts
            rw [if_neg htx]
          unfold inD at c3'
          rw [if_neg htx] at c3'
          rw [eit, S_app, S_app, S_app]
          exact .cons (.str _) (.cons c3' (.cons (.str _) .nil))
      · rintro σ H7 ⟨F7, v4, v5, v6, v7, v8, rfl, Z7, sf⟩
        rw [hlen, List.take_length] at Z7
        exact ⟨F7, _, _, _, _, _, _, rfl, Z7⟩
    · subst e1
      rcases List.eq_nil_or_concat its with rfl | ⟨ia, it, rfl⟩
      · refine ite_f (by rfl) ?_
        rw [eD]
        have hsh' : fo.flatten = showT ns := by simpa using hsh
        refine ⟨rfl, _, rfl, _, fl, fo.map S, rfl, rfl, .inl (SqL.of (by rw [b6, List.map_map]; rfl)), ?_, ?_⟩
        · rw [SemptyS, S_len]
          have e1 : ((fo.map S).map (·.length)).sum = fo.flatten.length := by
            rw [List.length_flatten, List.map_map]
            congr 1
          have := showT_len hns
          rw [e1, hsh']
          simp only [List.length_nil, Nat.mul_zero]
          omega
        · rw [SemptyS, joinE, hsh']
          exact q _ b1
      · rw [List.concat_eq_append] at *
        refine ite_t (by simp) ?_
        rw [List.map_append] at b7
        obtain ⟨ys, u, rfl, hys, du⟩ := DpAll.snoc b7
        have hit := hok it (by simp)
        have hoka : ∀ i ∈ ia, itOk i := fun i hi => hok i (by simp [hi])
        rw [wt_app] at em
        have Z5 := Z.line hys
        cases it with
        | st s =>
          cases du
          have ew : wt [It.st s] = 1 := rfl
          rw [ew] at em
          refine ⟨fun σ' H' => ∃ (F3 : Hp) (v3 v4 v5 v6 v7 v8 : Option V), σ' = [some x, some (.ref fl), some (.ref l), v3, v4, v5, v6, v7, v8, none, none] ∧ ShS K H F l fl (fo ++ [s]) (ia.map itD) H' F3,
            fun σ' H' ⟨F3, v3, v4, v5, v6, v7, v8, a1, a2⟩ => ⟨wt ia, by omega, F3, fo ++ [s], _, v3, v4, v5, v6, v7, v8, a1, a2, .inr ⟨ia, rfl, hoka, rfl, by omega, ?_, ?_⟩⟩, ?_⟩
          · rw [List.length_append]
            show fo.length + 1 + _ ≤ _
            omega
          · rw [← hsh, List.flatten_append, List.reverse_append, List.map_append, List.flatten_append]
            simp [itR]
          refine ⟨_, rfl, .inl ⟨rfl, _, SqL.of b5⟩, l, _, _, rfl, rfl, b5, last_snoc _ _, ?_⟩
          rw [List.dropLast_concat]
          refine ⟨_, rfl, _, _, _, _, true, rfl, .ty _, .base (.str _), kit_ty (by decide +kernel), _, rfl, iteT ?_⟩
          obtain ⟨us5, t1, t2, t3, t4, t5, t6, t7, t8, t9, t10⟩ := id Z5
          refine ⟨_, rfl, .inl ⟨rfl, _, SqL.of t6⟩, _, rfl, fl, _, _, rfl, rfl, t6, ?_, ?_⟩
          · rw [List.length_map]
            exact Nat.lt_of_le_of_lt (m := 400) (by omega) (by decide)
          exact ⟨F3, _, _, _, _, _, _, rfl, Z5.found⟩
        | tp s =>
          have ew : wt [It.tp s] = 2 := rfl
          rw [ew] at em
          obtain ⟨k3, k4⟩ := hit
          have hel := encs_len s
          refine ⟨fun σ' H' => ∃ (F3 : Hp) (v3 v4 v5 v6 v7 v8 : Option V), σ' = [some x, some (.ref fl), some (.ref l), v3, v4, v5, v6, v7, v8, none, none] ∧ ShS K H F l fl fo ((ia ++ [It.st (encs s)]).map itD) H' F3,
            fun σ' H' ⟨F3, v3, v4, v5, v6, v7, v8, a1, a2⟩ => ⟨wt (ia ++ [It.st (encs s)]), by rw [wt_app]; show _ + 1 < _; omega, F3, fo, _, v3, v4, v5, v6, v7, v8, a1, a2, .inr ⟨_, rfl, ?_, rfl, by rw [wt_app]; show _ + 1 ≤ _; omega, by rw [wt_app]; show _ + (_ + 1) ≤ _; omega, ?_⟩⟩, ?_⟩
          · intro i hi
            rcases List.mem_append.mp hi with hi | hi
            · exact hoka i hi
            · simp only [List.mem_cons, List.not_mem_nil, or_false] at hi
              subst hi
              exact ⟨encs_lt (areSigns_lt k3), by omega⟩
          · rw [← hsh]
            simp [itR]
          obtain ⟨a, xs, rfl, ha, hxs⟩ := Dp.tupI du
          obtain ⟨z, rfl, dz⟩ : ∃ z, xs = [z] ∧ Dp K F3 z (tS s) := by
            cases hxs with
            | cons h1 h2 => cases h2; exact ⟨_, rfl, h1⟩
          cases dz
          refine ⟨_, rfl, .inl ⟨rfl, _, SqL.of b5⟩, l, _, _, rfl, rfl, b5, last_snoc _ _, ?_⟩
          rw [List.dropLast_concat]
          have aH : SqT K (upd H4 l (.lst ys)) a [.str (S s)] := same_seqT Z5.choose_spec.2.1.top ha
          have hl5 : upd H4 l (.lst ys) l = some (.lst ys) := upd_same
          revert Z5 aH hl5
          generalize upd H4 l (.lst ys) = H5
          intro Z5 aH hl5
          refine ⟨_, rfl, _, _, _, _, false, rfl, .ty _, tyx_tup aH, kit_ty (by decide +kernel), _, rfl, iteF ?_⟩
          refine ⟨_, rfl, a, _, rfl, aH, fun p hp => ⟨p, rfl, ⟨_, SqT.of upd_same⟩, ?_⟩⟩
          have Z6 := Z5.keep (same_new (o := .tup [.str (S s)]) hp) ((Gr.refl Z5.choose_spec.2.1.top).mk2 (o := .tup [.str (S s)]) hp)
          have hp6 : upd F3 p (.tup [.str (S s)]) p = some (.tup [.str (S s)]) := upd_same
          have hl6 : upd H5 p (.tup [.str (S s)]) l = some (.lst ys) := same_new hp _ _ hl5
          have e8 : ([V.str (S s)] : List V).reverse = [.str (S s)] := rfl
          rw [e8]
          revert Z6 hp6 hl6
          generalize upd F3 p (.tup [.str (S s)]) = F6
          generalize upd H5 p (.tup [.str (S s)]) = H6
          intro Z6 hp6 hl6
          refine for_tup (K := K) (a := p) (xs := [.str (S s)]) (fun i σ H' => ∃ (v4 : Option V), σ = [some x, some (.ref fl), some (.ref l), some (.ref a), v4, v5, v6, v7, v8, none, none] ∧
              ((i = 0 ∧ H' = H6) ∨ (i = 1 ∧ ShS K H F l fl fo ((ia ++ [It.st (encs s)]).map itD) H' F6)))
            ⟨v4, rfl, .inl ⟨rfl, rfl⟩⟩ (fun i σ H' _ ⟨_, _, h⟩ => ?_) ?_ ?_
          · rcases h with ⟨_, rfl⟩ | ⟨_, Z⟩
            · exact SqT.of (Z6.choose_spec.2.1.top _ _ hp6)
            · exact SqT.of (Z.choose_spec.2.1.top _ _ hp6)
          · rintro i y σ H7 hy ⟨v4, rfl, h⟩
            have hi : i = 0 := by
              cases i with
              | zero => rfl
              | succ i => simp at hy
            subst hi
            have ey : V.str (S s) = y := by simpa using hy
            subst ey
            rcases h with ⟨_, rfl⟩ | ⟨h, _⟩
            · refine ⟨_, rfl, _, _, _, _, true, rfl, .ty _, .base (.str _), kit_ty (by decide +kernel), _, rfl, iteT ?_⟩
              refine ⟨_, rfl, .inl ⟨rfl, _, SqL.of hl6⟩, _, rfl, s, rfl, by omega, fun H8 s8 => ?_⟩
              have Z8 := Z6.keep s8 ((Gr.refl Z6.choose_spec.2.1.top).same s8)
              refine ⟨l, ys, _, rfl, rfl, s8 _ _ hl6, ?_, _, rfl, .inr ⟨rfl, ?_⟩⟩
              · rw [DpAll.len hys, List.length_map]
                have := len_wt ia
                exact Nat.lt_of_le_of_lt (m := 400) (by omega) (by decide)
              · refine Z8.line ?_
                rw [List.map_append]
                refine DpAll.app (es := [itD (.st (encs s))]) ?_ (.cons (.str _) .nil)
                obtain ⟨us6, t1, t2, t3, t4, t5, t6, t7, t8, t9, t10⟩ := id Z6
                rw [hl6] at t5
                cases t5
                exact t7
            · cases h
          · rintro σ H7 ⟨v4, rfl, h⟩
            rcases h with ⟨h, _⟩ | ⟨_, Z7⟩
            · cases h
            · exact ⟨F6, _, _, _, _, _, _, rfl, Z7⟩
end
end Dh
namespace Dh
open PySem PySem.Spec PyProof.Rows L2
/-! ### is_data -/
def noF : Hp := fun _ => none
theorem noF_same (H : Hp) : Same noF H := fun _ _ h => by cases h
theorem unlock {H H' : Hp} {d : Addr} {od : Obj} {u : HO} (hd : H d = some u) (s : Same (upd H d (.frz od u)) H') : H' d = some (.frz od u) ∧ Same H (upd H' d u) :=
  ⟨s _ _ upd_same, fun b o h => by
    by_cases e : b = d
    · subst e
      rw [upd_same, ← hd, h]
    · rw [upd_ne e]
      exact s _ _ (by rw [upd_ne e]; exact h)⟩
def KeyOk (k : Key) : Prop := ∃ z : List Nat, k = .inr (S z) ∧ isName z = true
def FlatV (v : V) : Prop := (∃ z : List Nat, v = .str (S z) ∧ isText z = true) ∨ ∃ i : Int, v = .int i ∧ 0 ≤ i ∧ i ≤ 9999
def FlatD (kvs : List (Key × V)) : Prop := kvs.length ≤ 100 ∧ ∀ p ∈ kvs, KeyOk p.1 ∧ FlatV p.2
section
variable {P : Program} {w : World} {K : PySem.W.Frag} {mg : Str → Option Value} {base : Heap} {C fI aWORDS aTURNED aBLOCKS : Addr} {fdI : FuncData}
def spIsDataOf (K : PySem.W.Frag) (sprow : Sp) : Sp := fun vs H Q _ => ∃ (d : Addr) (kvs : List (Key × V)), vs = [.ref d] ∧ H d = some (.dK kvs) ∧ kvs.length ≤ 100 ∧
  (∀ p ∈ kvs, KeyOk p.1 ∧ (FlatV p.2 ∨ ∀ od H', Same (upd H d (.frz od (.dK kvs))) H' → TyX K H' p.2 (.type "tuple") ∧ ∀ (Q' : VK), (∀ H'', Same H' H'' → Q' (.bl true) H'') → sprow [p.2] H' Q' E0)) ∧
  ∀ H', Same H H' → Q (.bl true) H'
theorem G_is_data_of (T : Tx K w mg C fI aWORDS aTURNED aBLOCKS fdI) {k : Nat} {sprow : Sp} (G_is_data_row : Gf P w K mg base (k + 3) "is_data_row" ["thing"] sprow) : Gf P w K mg base (k + 4) "is_data" ["thing"] (spIsDataOf K sprow) := by
  have G_is_name : Gf P w K mg base 2 "is_name" ["thing"] spIsName := G_is_name T
  have G_is_value : Gf P w K mg base 3 "is_value" ["thing"] (spIsValue K) := G_is_value T
  refine gf_mk T.d_is_data sc_is_data (fun vs H Q E h => ?_) (fun f cdv A outer s H vs Q E hr h => ?_)
  · obtain ⟨d, kvs, rfl, _⟩ := h
    rfl
  · obtain ⟨d, kvs, rfl, hd, hn, hp, q⟩ := h
    refine ⟨_, (pss_cons (ps_if (PW.pt (pw_or (pt_not (pt_val (pe_callB call_isi (by rfl) T.b_isinstance (by decide +kernel) (pa_cons (pv 0) (pa_cons (pe_bltn (v := .ty "dict") (by rfl) T.b_dict (by decide +kernel) rfl) pa_nil))))) (pw_or1 (pt_not (pt_val (pe_callB (cr_all rfl) (by rfl) T.b_all (by decide +kernel) (pa_cons (pe_lock (pe_lc (own := [("name", 1)]) rfl sc_is_data.nd (pi_keys (pv 0)) (blkOk_by (by kernel_rfl)) (fun _ _ _ _ _ => (pg_name (i := 1) sc_is_data.nd rfl (Or.inl rfl))) (fun _ _ _ _ _ => pts_nil) (fun _ _ _ _ _ => (pe_callG G_is_name (hr.mono (by first | decide | omega)) (by rfl) (pa_cons (pv 1) pa_nil))))) pa_nil))))))) (pss_one (ps_ret pe_bl)) pss_nil)
  (pss_one (ps_ret (pe_callB (cr_all rfl) (by rfl) T.b_all (by decide +kernel) (pa_cons (pe_lock (pe_lc (own := [("one", 2)]) rfl sc_is_data.nd (pi_values (pv 0)) (blkOk_by (by kernel_rfl)) (fun _ _ _ _ _ => (pg_name (i := 2) sc_is_data.nd rfl (Or.inl rfl))) (fun _ _ _ _ _ => pts_nil) (fun _ _ _ _ _ => (pe_or (pe_callG G_is_value (hr.mono (by first | decide | omega)) (by rfl) (pa_cons (pv 2) pa_nil)) (pe_one (pe_callG G_is_data_row (hr.mono (by first | decide | omega)) (by rfl) (pa_cons (pv 2) pa_nil))))))) pa_nil))))), ?_⟩
    refine ⟨_, rfl, _, _, _, _, true, rfl, .ty _, .base (.dK hd), kit_ty (by decide +kernel), _, rfl, iteF ?_⟩
    refine ⟨d, _, hd, trivial, fun od => ?_⟩
    refine ⟨_, rfl, d, od, rfl, .inl ⟨kvs, upd_same, fun D hD => ?_⟩⟩
    refine lc_keys (LcI K (upd H d (.frz od (.dK kvs))) noF D ((kvs.map fun _ => true).map PyData.bool)) (LcI.init (noF_same _) hD) (fun i H1 hi => hi.same _ _ upd_same) ?_ ?_
    · rintro i k1 v1 H2 hk ⟨F2, acc, sa, g2, fD, hDl, hacc⟩
      obtain ⟨⟨z, ez, hz⟩, _⟩ := hp _ (List.mem_of_getElem? hk)
      have ez' : k1 = .inr (S z) := ez
      subst ez'
      refine ⟨rfl, _, rfl, z, rfl, Nat.le_trans (isName_len hz).2.1 (by decide), fun H3 s3 => ?_⟩
      rw [hz]
      exact LcI.step hD (by simp; omega) sa g2 fD hDl hacc (d := .bool true) (by simp [hk]) s3 ((Gr.refl g2.top).same s3) (.bl _)
    intro H1 hfin
    obtain ⟨F1, acc, s1, g1, fD, hDl, hacc⟩ := hfin.fin (by simp)
    have eacc := DpAll.bools _ _ hacc
    subst eacc
    obtain ⟨u1, u2⟩ := unlock hd s1
    have dD : D ≠ d := fun e => by rw [e, upd_same] at hD; cases hD
    refine ⟨u1, D, _, rfl, SqL.of (by rw [upd_ne dD]; exact hDl), _, rfl, ?_⟩
    refine ite_f (by simp) ?_
    -- the values
    have hd2 : upd H1 d (.dK kvs) d = some (.dK kvs) := upd_same
    revert u2 hd2
    generalize upd H1 d (.dK kvs) = H5
    intro u2 hd2
    refine ⟨d, _, hd2, trivial, fun od2 => ?_⟩
    have hup : Same (upd H d (.frz od2 (.dK kvs))) (upd H5 d (.frz od2 (.dK kvs))) := same_upd2 u2
    refine ⟨_, rfl, d, od2, kvs, rfl, upd_same, fun D2 hD2 => ?_⟩
    refine lc_vals (LcI K (upd H5 d (.frz od2 (.dK kvs))) noF D2 ((kvs.map fun _ => true).map PyData.bool)) (LcI.init (noF_same _) hD2) (fun i H1 hi => hi.same _ _ upd_same) ?_ ?_
    · rintro i k1 v1 H2 hk ⟨F2, acc2, sa, g2, fD2, hDl2, hacc2⟩
      have fin : ∀ H3, Same H2 H3 → ∃ acc, H3 D2 = some (.lst acc) ∧ acc.length < sizeLine ∧ LcI K (upd H5 d (.frz od2 (.dK kvs))) noF D2 ((kvs.map fun _ => true).map PyData.bool) (i + 1) (upd H3 D2 (.lst (acc ++ [.bl true]))) := fun H3 s3 =>
        LcI.step hD2 (by simp; omega) sa g2 fD2 hDl2 hacc2 (d := .bool true) (by simp [hk]) s3 ((Gr.refl g2.top).same s3) (.bl _)
      obtain ⟨_, hv⟩ := hp _ (List.mem_of_getElem? hk)
      rcases hv with (⟨z, ez, hz⟩ | ⟨j, ej, hj⟩) | hv
      · have ez' : v1 = .str (S z) := ez
        subst ez'
        exact ⟨rfl, _, rfl, _, rfl, .inl ⟨z, rfl, hz, fun H3 s3 => ⟨_, rfl, iteT (fin H3 s3)⟩⟩⟩
      · have ej' : v1 = .int j := ej
        subst ej'
        exact ⟨rfl, _, rfl, _, rfl, .inr (.inl ⟨j, rfl, hj.1, hj.2, _, rfl, iteT (fin H2 (Same.refl _))⟩)⟩
      · obtain ⟨ty, hrow⟩ := hv od2 H2 (hup.trans sa)
        refine ⟨rfl, _, rfl, _, rfl, .inr (.inr ⟨ty, _, rfl, iteF ?_⟩)⟩
        exact ⟨_, rfl, hrow _ fin⟩
    intro H6 hfin2
    obtain ⟨F6, acc2, s6, g6, fD2, hDl2, hacc2⟩ := hfin2.fin (by simp)
    have eacc2 := DpAll.bools _ _ hacc2
    subst eacc2
    obtain ⟨w1, w2⟩ := unlock hd2 s6
    have dD2 : D2 ≠ d := fun e => by rw [e, upd_same] at hD2; cases hD2
    refine ⟨w1, D2, _, rfl, SqL.of (by rw [upd_ne dD2]; exact hDl2), ?_⟩
    have eall : ((kvs.map fun _ => true).all id) = true := by simp
    rw [eall]
    exact q _ (u2.trans w2)
end
end Dh
namespace Dh
open PySem PySem.Spec PyProof.Rows L2
def DatV (K : PySem.W.Frag) (H : Hp) (d : Addr) (v : V) : Prop := FlatV v ∨ ∃ (c : Addr) (us : List V), v = .ref c ∧ c ≠ d ∧ SqT K H c us ∧ us.length ≤ 100 ∧ ∀ u ∈ us, ∃ (d2 : Addr) (kvs : List (Key × V)), u = .ref d2 ∧ d2 ≠ d ∧ H d2 = some (.dK kvs) ∧ FlatD kvs
def Dat1 (K : PySem.W.Frag) (H : Hp) (d : Addr) (kvs : List (Key × V)) : Prop := H d = some (.dK kvs) ∧ kvs.length ≤ 100 ∧ ∀ p ∈ kvs, KeyOk p.1 ∧ DatV K H d p.2
theorem seqT_frz {K : PySem.W.Frag} {H : Hp} {c d : Addr} {us : List V} {od : Obj} {kvs : List (Key × V)} (h : SqT K H c us) (hd : H d = some (.dK kvs)) : SqT K (upd H d (.frz od (.dK kvs))) c us := by
  rcases h with (h | ⟨o, h⟩) | h
  · exact .inl (.inl (by rw [upd_ne (fun e => by rw [e, hd] at h; cases h)]; exact h))
  · exact .inl (.inr ⟨o, by rw [upd_ne (fun e => by rw [e, hd] at h; cases h)]; exact h⟩)
  · exact .inr h
section
variable {P : Program} {w : World} {K : PySem.W.Frag} {mg : Str → Option Value} {base : Heap} {C fI aWORDS aTURNED aBLOCKS : Addr} {fdI : FuncData}
def spNever : Sp := fun _ _ _ _ => False
theorem G_row_never (T : Tx K w mg C fI aWORDS aTURNED aBLOCKS fdI) : Gf P w K mg base 1 "is_data_row" ["thing"] spNever :=
  gf_mk T.d_is_data_row sc_is_data_row (fun vs H Q E h => h.elim) (fun f cdv A outer s H vs Q E hr h => h.elim)
def spIsData0 : Sp := fun vs H Q _ => ∃ (d : Addr) (kvs : List (Key × V)), vs = [.ref d] ∧ H d = some (.dK kvs) ∧ FlatD kvs ∧ ∀ H', Same H H' → Q (.bl true) H'
theorem G_is_data0 (T : Tx K w mg C fI aWORDS aTURNED aBLOCKS fdI) : Gf P w K mg base 4 "is_data" ["thing"] spIsData0 :=
  (G_is_data_of T (k := 0) ((G_row_never T).mono (by decide))).imp fun vs H Q E ⟨d, kvs, e, hd, ⟨hn, hp⟩, q⟩ => ⟨d, kvs, e, hd, hn, fun p hm => ⟨(hp p hm).1, .inl (hp p hm).2⟩, q⟩
def spIsDataRow (K : PySem.W.Frag) : Sp := fun vs H Q _ => ∃ (c : Addr) (us : List V), vs = [.ref c] ∧ SqT K H c us ∧ us.length ≤ 100 ∧ (∀ u ∈ us, ∃ (d : Addr) (kvs : List (Key × V)), u = .ref d ∧ H d = some (.dK kvs) ∧ FlatD kvs) ∧ ∀ H', Same H H' → Q (.bl true) H'
theorem G_is_data_row (T : Tx K w mg C fI aWORDS aTURNED aBLOCKS fdI) : Gf P w K mg base 5 "is_data_row" ["thing"] (spIsDataRow K) := by
  have G_is_data : Gf P w K mg base 4 "is_data" ["thing"] spIsData0 := G_is_data0 T
  refine gf_mk T.d_is_data_row sc_is_data_row (fun vs H Q E h => ?_) (fun f cdv A outer s H vs Q E hr h => ?_)
  · obtain ⟨c, us, rfl, _⟩ := h
    rfl
  · obtain ⟨c, us, rfl, hc, hn, hu, q⟩ := h
    refine ⟨_, (pss_one (ps_ret (pe_and (pe_callB call_isi (by rfl) T.b_isinstance (by decide +kernel) (pa_cons (pv 0) (pa_cons (pe_bltn (v := .ty "tuple") (by rfl) T.b_tuple (by decide +kernel) rfl) pa_nil))) (pe_one (pe_callB (cr_all rfl) (by rfl) T.b_all (by decide +kernel) (pa_cons (pe_lc (own := [("one", 1)]) rfl sc_is_data_row.nd (pi_tup (pv 0)) (blkOk_by (by kernel_rfl)) (fun _ _ _ _ _ => (pg_name (i := 1) sc_is_data_row.nd rfl (Or.inl rfl))) (fun _ _ _ _ _ => pts_nil) (fun _ _ _ _ _ => (pe_callG G_is_data (hr.mono (by first | decide | omega)) (by rfl) (pa_cons (pv 1) pa_nil)))) pa_nil)))))), ?_⟩
    refine ⟨_, rfl, _, _, _, _, true, rfl, .ty _, tyx_tup hc, kit_ty (by decide +kernel), _, rfl, iteT ?_⟩
    refine ⟨_, rfl, c, rfl, ⟨_, hc⟩, fun D hD => ?_⟩
    refine lc_tup (K := K) (a := c) (xs := us) (LcI K H noF D ((us.map fun _ => true).map PyData.bool)) (LcI.init (noF_same _) hD) (fun i H1 _ hi => same_seqT hi.same hc) ?_ ?_
    · rintro i x H2 hx ⟨F2, acc, sa, g2, fD, hDl, hacc⟩
      obtain ⟨d, kvs, rfl, hd, hf⟩ := hu x (List.mem_of_getElem? hx)
      refine ⟨rfl, _, rfl, d, kvs, rfl, sa _ _ hd, hf, fun H3 s3 => ?_⟩
      exact LcI.step hD (by simp; omega) sa g2 fD hDl hacc (d := .bool true) (by simp [hx]) s3 ((Gr.refl g2.top).same s3) (.bl _)
    intro H1 hfin
    obtain ⟨F1, acc, s1, g1, fD, hDl, hacc⟩ := hfin.fin (by simp)
    have eacc := DpAll.bools _ _ hacc
    subst eacc
    refine ⟨D, _, rfl, SqL.of hDl, ?_⟩
    have eall : ((us.map fun _ => true).all id) = true := by simp
    rw [eall]
    exact q _ s1
def spIsData1 (K : PySem.W.Frag) : Sp := fun vs H Q _ => ∃ (d : Addr) (kvs : List (Key × V)), vs = [.ref d] ∧ Dat1 K H d kvs ∧ ∀ H', Same H H' → Q (.bl true) H'
theorem G_is_data1 (T : Tx K w mg C fI aWORDS aTURNED aBLOCKS fdI) : Gf P w K mg base 6 "is_data" ["thing"] (spIsData1 K) :=
  (G_is_data_of T (k := 2) (G_is_data_row T)).imp fun vs H Q E ⟨d, kvs, e, ⟨hd, hn, hp⟩, q⟩ => ⟨d, kvs, e, hd, hn, fun p hm => ⟨(hp p hm).1, (hp p hm).2.imp id fun ⟨c, us, ev, hcd, hc, hl, hu⟩ od H' s' => by
    rw [ev]
    have hc' : SqT K H' c us := same_seqT s' (seqT_frz hc hd)
    exact ⟨tyx_tup hc', fun Q' q' => ⟨c, us, rfl, hc', hl, fun u hm' => by
      obtain ⟨d2, kvs2, e2, n2, h2, f2⟩ := hu u hm'
      exact ⟨d2, kvs2, e2, s' _ _ (by rw [upd_ne n2]; exact h2), f2⟩, q'⟩⟩⟩, q⟩
def spNeedData (K : PySem.W.Frag) : Sp := fun vs H Q _ => ∃ (d : Addr) (kvs : List (Key × V)), vs = [.ref d] ∧ Dat1 K H d kvs ∧ ∀ H', Same H H' → Q .non H'
theorem G_need_data (T : Tx K w mg C fI aWORDS aTURNED aBLOCKS fdI) : Gf P w K mg base 7 "need_data" ["thing"] (spNeedData K) := by
  have G_is_data : Gf P w K mg base 6 "is_data" ["thing"] (spIsData1 K) := G_is_data1 T
  refine gf_mk T.d_need_data sc_need_data (fun vs H Q E h => ?_) (fun f cdv A outer s H vs Q E hr h => ?_)
  · obtain ⟨d, kvs, rfl, _⟩ := h
    rfl
  · obtain ⟨d, kvs, rfl, hd, q⟩ := h
    refine ⟨_, (pss_one (ps_if (pt_not (pt_val (pe_callG G_is_data (hr.mono (by first | decide | omega)) (by rfl) (pa_cons (pv 0) pa_nil)))) (pss_one ps_never) pss_nil)), ?_⟩
    exact ⟨_, rfl, d, kvs, rfl, hd, fun H1 s1 => ⟨_, rfl, iteF (q _ s1)⟩⟩
end
end Dh
namespace Dh
open PySem PySem.Spec PyProof.Rows L2
/-! ### a list that is being written -/
def ML (K : PySem.W.Frag) (H0 F0 : Hp) (l : Addr) (ds : List PyData) (H F : Hp) : Prop :=
  ∃ us : List V, Same H0 H ∧ Gr H0 F0 H F ∧ F l = none ∧ H l = some (.lst us) ∧ DpAll K F us ds ∧ H0 l = none
/-- a list that stays -/
def LstAt (K : PySem.W.Frag) (F : Hp) (v : V) (ds : List PyData) : Prop := ∃ (l : Addr) (us : List V), v = .ref l ∧ F l = some (.lst us) ∧ DpAll K F us ds
section
variable {K : PySem.W.Frag} {H0 F0 H F H' F' : Hp} {l : Addr} {ds es : List PyData}
theorem ML.new (s : Same H0 H) (g : Gr H0 F0 H F) (hl : H l = none) : ML K H0 F0 l [] (upd H l (.lst [])) F :=
  ⟨[], s.trans (same_new hl), g.mk1 (g.top.free hl), g.top.free hl, upd_same, .nil, s.free hl⟩
theorem ML.keep (h : ML K H0 F0 l ds H F) (s : Same H H') (g : Gr H F H' F') : ML K H0 F0 l ds H' F' := by
  obtain ⟨us, a1, a2, a3, a4, a5, a6⟩ := h
  exact ⟨us, a1.trans s, a2.trans g, g.stays a3 a4, s _ _ a4, DpAll.same g.frz _ _ a5, a6⟩
theorem ML.set {ys : List V} (h : ML K H0 F0 l ds H F) (hy : DpAll K F ys es) : ML K H0 F0 l es (upd H l (.lst ys)) F := by
  obtain ⟨us, a1, a2, a3, a4, a5, a6⟩ := h
  exact ⟨ys, same_mut a1 a6, a2.mk1 a3, a3, upd_same, hy, a6⟩
theorem ML.put {y : V} {d : PyData} (h : ML K H0 F0 l ds H F) (hn : ds.length ≤ 10000) (s : Same H H') (g : Gr H F H' F') (hd : Dp K F' y d) :
    ∃ acc, H' l = some (.lst acc) ∧ acc.length < sizeLine ∧ ML K H0 F0 l (ds ++ [d]) (upd H' l (.lst (acc ++ [y]))) F' := by
  obtain ⟨us, a1, a2, a3, a4, a5, a6⟩ := h.keep s g
  refine ⟨us, a4, ?_, ML.set ⟨us, a1, a2, a3, a4, a5, a6⟩ (DpAll.app a5 (.cons hd .nil))⟩
  rw [DpAll.len a5]
  exact Nat.lt_of_le_of_lt hn (by decide)
theorem ML.fin (h : ML K H0 F0 l ds H F) : ∃ F', Same H0 H ∧ Gr H0 F0 H F' ∧ Same F F' ∧ LstAt K F' (.ref l) ds := by
  obtain ⟨us, a1, a2, a3, a4, a5, a6⟩ := h
  exact ⟨upd F l (.lst us), a1, a2.fix a4 a3 a6, same_new a3, l, us, rfl, upd_same, DpAll.same (same_new a3) _ _ a5⟩
theorem ML.gr (h : ML K H0 F0 l ds H F) : Gr H0 F0 H F := let ⟨_, _, g, _⟩ := h; g
theorem ML.same (h : ML K H0 F0 l ds H F) : Same H0 H := let ⟨_, s, _⟩ := h; s
theorem LstAt.dp {v : V} (h : LstAt K F v ds) : Dp K F v (.list ds) := let ⟨_, _, e, h1, h2⟩ := h; e ▸ Dp.lst' h1 h2
end
/-! ### the parts of a template -/
inductive TP where
  | mk (kd nm : List Nat) (as : List ATr) (ws : List TP)
mutual
def tpD : TP → PyData
  | .mk kd nm as ws => .tuple [tS kd, tS nm, .tuple (as.map atrD), .list (tpsD ws)]
def tpsD : List TP → List PyData
  | [] => []
  | p :: ps => tpD p :: tpsD ps
end
mutual
def tpDep : TP → Nat
  | .mk _ _ _ ws => tpsDep ws + 1
def tpsDep : List TP → Nat
  | [] => 0
  | p :: ps => max (tpDep p) (tpsDep ps)
end
theorem tpsD_map : ∀ ps : List TP, tpsD ps = ps.map tpD
  | [] => by simp [tpsD]
  | p :: ps => by simp [tpsD, tpsD_map ps]
theorem tpsDep_mem : ∀ {ps : List TP} {p : TP}, p ∈ ps → tpDep p ≤ tpsDep ps
  | q :: ps, p, h => by
    rw [tpsDep]
    rcases List.mem_cons.mp h with e | e
    · rw [e]; omega
    · have := tpsDep_mem e
      omega
abbrev toL : List Nat := [116, 111]
theorem toS : (Str.ofString "to" : Str) = S toL := by decide +kernel
def prD (x y : Str) : PyData := .tuple [.str x, .str y]
def isBlk (kd : List Nat) : Bool := inV (.str (S kd)) BLK
def holeA (own : List Nat) : List APt → List PyData
  | [] => []
  | .sg _ :: r => holeA own r
  | .hl t :: r => prD (if own = toL then "link" else "quoted") (S t) :: holeA own r
def holeAs : List ATr → List PyData
  | [] => []
  | a :: r => holeA a.1 a.2 ++ holeAs r
mutual
def holeP : TP → List PyData
  | .mk kd nm as ws => (if kd = holeL then [prD "inner" (S nm)] else []) ++ (if isBlk kd = true then [prD (S kd) (S nm)] else []) ++ holeAs as ++ holePs ws
def holePs : List TP → List PyData
  | [] => []
  | p :: ps => holeP p ++ holePs ps
end
theorem holePs_app : ∀ ps qs : List TP, holePs (ps ++ qs) = holePs ps ++ holePs qs
  | [], qs => by simp [holePs]
  | p :: ps, qs => by simp [holePs, holePs_app ps qs]
theorem holeAs_app : ∀ ps qs : List ATr, holeAs (ps ++ qs) = holeAs ps ++ holeAs qs
  | [], qs => by simp [holeAs]
  | p :: ps, qs => by simp [holeAs, holeAs_app ps qs]
theorem holeA_app (own : List Nat) : ∀ ps qs : List APt, holeA own (ps ++ qs) = holeA own ps ++ holeA own qs
  | [], qs => by simp [holeA]
  | .sg c :: ps, qs => by simp [holeA, holeA_app own ps qs]
  | .hl t :: ps, qs => by simp [holeA, holeA_app own ps qs]
end Dh
namespace Dh
open PySem PySem.Spec PyProof.Rows L2
theorem take_app_le {α β : Type} (f : List α → List β) (hf : ∀ a b, f (a ++ b) = f a ++ f b) (l : List α) (i : Nat) : (f (l.take i)).length ≤ (f l).length := by
  have e := hf (l.take i) (l.drop i)
  rw [List.take_append_drop] at e
  rw [e, List.length_append]
  omega
theorem seq_cut {a b : TS} {D : Ends} {σ : L2.St} {H : Hp} (Mid : L2.St → Hp → Prop) (h1 : ∀ N, (∀ σ' H', Mid σ' H' → N σ' H') → a { D with nx := N } σ H) (h2 : ∀ σ' H', Mid σ' H' → b D σ' H') : tSeq a b D σ H := h1 _ h2
section
variable {P : Program} {w : World} {K : PySem.W.Frag} {mg : Str → Option Value} {base : Heap} {C fI aWORDS aTURNED aBLOCKS : Addr} {fdI : FuncData}
def spHolesBy (K : PySem.W.Frag) (n : Nat) : Sp := fun vs H Q _ => ∃ (F : Hp) (x : V) (ps : List TP), vs = [x] ∧ Same F H ∧ Dp K F x (.list (tpsD ps)) ∧ tpsDep ps < n ∧ (holePs ps).length ≤ 1000 ∧
  ∀ H' F' v, Same H H' → Gr H F H' F' → LstAt K F' v (holePs ps) → Q v H'
theorem holes_step (T : Tx K w mg C fI aWORDS aTURNED aBLOCKS fdI) {n : Nat} (G_holes_by : Gf P w K mg base (n + 1) "holes_by" ["parts"] (spHolesBy K n)) : Gf P w K mg base (n + 2) "holes_by" ["parts"] (spHolesBy K (n + 1)) := by
  refine gf_mk T.d_holes_by sc_holes_by (fun vs H Q E h => ?_) (fun f cdv A outer s H vs Q E hr h => ?_)
  · obtain ⟨F, x, ps, rfl, _⟩ := h
    rfl
  · obtain ⟨F, x, ps, rfl, sF, dx, hdep, hlen, q⟩ := h
    refine ⟨_, (pss_cons (ps_set (i := 1) sc_holes_by.nd rfl (Or.inl rfl) (pe_lst pa_nil))
  (pss_cons (ps_for PassesOwn.never rfl (pi_list (pv 0)) (pg_tup rfl (pgs_cons (pg_name (i := 2) sc_holes_by.nd rfl (Or.inl rfl)) (pgs_cons (pg_name (i := 3) sc_holes_by.nd rfl (Or.inl rfl)) (pgs_cons (pg_name (i := 4) sc_holes_by.nd rfl (Or.inl rfl)) (pgs_cons (pg_name (i := 5) sc_holes_by.nd rfl (Or.inl rfl)) pgs_nil)))))
  (pss_cons (ps_if (pt_cmpR op_eq (pv 2) pe_str (nomark _)) (pss_one (ps_expr (pe_bm PySem.F.plainAttrs_list PySem.F.slot_list_append PySem.F.type_list_append mt_append (pv 1) (pa_cons (pe_tup (pa_cons pe_str (pa_cons (pv 3) pa_nil))) pa_nil)))) pss_nil)
  (pss_cons (ps_if (pt_cmpR op_in_seq (pv 2) (pe_gR (by rfl) T.gBLOCKS) (by rfl)) (pss_one (ps_expr (pe_bm PySem.F.plainAttrs_list PySem.F.slot_list_append PySem.F.type_list_append mt_append (pv 1) (pa_cons (pe_tup (pa_cons (pv 2) (pa_cons (pv 3) pa_nil))) pa_nil)))) pss_nil)
  (pss_cons (ps_for PassesOwn.never rfl (pi_tup (pv 4)) (pg_tup rfl (pgs_cons (pg_name (i := 6) sc_holes_by.nd rfl (Or.inl rfl)) (pgs_cons (pg_name (i := 7) sc_holes_by.nd rfl (Or.inl rfl)) pgs_nil)))
  (pss_cons (ps_set (i := 8) sc_holes_by.nd rfl (Or.inr rfl) (pe_ifExp (pt_cmpR op_eq (pv 6) (pe_gS (by rfl) T.gLINK) (nomark _)) pe_str pe_str))
  (pss_one (ps_expr (pe_bm PySem.F.plainAttrs_list PySem.F.slot_list_extend PySem.F.type_list_extend mt_extend (pv 1) (pa_cons (pe_lc (own := [("what", 9), ("hole", 10), ("none", 11), ("nothing", 12)]) rfl sc_holes_by.nd (pi_list (pv 7)) (blkOk_by (by kernel_rfl)) (fun _ _ _ _ _ => (pg_tupK K 4 rfl rfl (pgs_cons (pg_name (i := 9) sc_holes_by.nd rfl (Or.inl rfl)) (pgs_cons (pg_name (i := 10) sc_holes_by.nd rfl (Or.inl rfl)) (pgs_cons (pg_name (i := 11) sc_holes_by.nd rfl (Or.inl rfl)) (pgs_cons (pg_name (i := 12) sc_holes_by.nd rfl (Or.inl rfl)) pgs_nil)))))) (fun _ _ _ _ _ => (pts_one (pt_cmpR op_eq (pv 9) pe_str (nomark _)))) (fun _ _ _ _ _ => (pe_tup (pa_cons (pv 8) (pa_cons (pv 10) pa_nil))))) pa_nil))))))
  (pss_one (ps_expr (pe_bm PySem.F.plainAttrs_list PySem.F.slot_list_extend PySem.F.type_list_extend mt_extend (pv 1) (pa_cons (pe_callG G_holes_by (hr.mono (by first | decide | omega)) (by rfl) (pa_cons (pv 5) pa_nil)) pa_nil))))))))
  (pss_one (ps_ret (pv 1))))), ?_⟩
    obtain ⟨pa, xs, rfl, hpa, hxs⟩ := Dp.lstI dx
    rw [tpsD_map] at hxs
    have hlx : xs.length = ps.length := by rw [DpAll.len hxs, List.length_map]
    refine ⟨Nat.zero_le _, fun l hl => ?_⟩
    have M0 := ML.new (K := K) (Same.refl H) (Gr.refl sF) hl
    refine ⟨_, rfl, pa, rfl, ⟨_, M0.same.seq (sF.seq hpa)⟩, for_list (K := K) (a := pa) (xs := xs) (fun i σ H1 => ∃ (F1 : Hp) (v2 v3 v4 v5 v6 v7 v8 : Option V), σ = [some (.ref pa), some (.ref l), v2, v3, v4, v5, v6, v7, v8, none, none, none, none] ∧ ML K H F l (holePs (ps.take i)) H1 F1)
      ⟨F, none, none, none, none, none, none, none, rfl, M0⟩ (fun i σ H1 _ ⟨F1, _, _, _, _, _, _, _, _, M⟩ => M.same.seq (sF.seq hpa)) ?_ ?_⟩
    · rintro i y σ H1 hy ⟨F1, v2, v3, v4, v5, v6, v7, v8, rfl, M1⟩
      obtain ⟨d, hd, dy⟩ := DpAll.at hxs hy
      obtain ⟨p, hpi, rfl⟩ := map_atI hd
      obtain ⟨kd, nm, as, ws⟩ := p
      have hpw : tpsDep ws < n := by
        have h1 := tpsDep_mem (List.mem_of_getElem? hpi)
        rw [tpDep] at h1
        omega
      have hfull : (holePs (ps.take (i + 1))).length ≤ 1000 := Nat.le_trans (take_app_le holePs holePs_app ps (i + 1)) hlen
      rw [take_snoc hpi, holePs_app] at hfull
      have e1 : holePs [TP.mk kd nm as ws] = (if kd = holeL then [prD "inner" (S nm)] else []) ++ (if isBlk kd = true then [prD (S kd) (S nm)] else []) ++ holeAs as ++ holePs ws := by simp [holePs, holeP]
      rw [e1] at hfull
      simp only [List.length_append] at hfull
      have dy1 := Dp.same M1.gr.frz _ _ dy
      rw [tpD] at dy1
      obtain ⟨t, zs, rfl, ht, hzs⟩ := Dp.tupI dy1
      obtain ⟨z1, z2, z3, z4, rfl, c1, c2, c3, c4⟩ := DpAll.four hzs
      cases c1
      cases c2
      obtain ⟨ta, ya, rfl, hta, hya⟩ := Dp.tupI c3
      have hlya : ya.length = as.length := by rw [DpAll.len hya, List.length_map]
      refine ⟨t, _, rfl, same_seqT M1.gr.top ht, rfl, _, _, rfl, _, _, rfl, _, _, rfl, _, _, rfl, rfl, ?_⟩
      have st0 : List.length ([] : List PyData) = 0 := rfl
      have σe : ∀ (v6 v7 v8 : Option V), ([some (.ref pa), some (.ref l), some (.str (S kd)), some (.str (S nm)), some (.ref ta), some z4, v6, v7, v8, none, none, none, none] : L2.St) = [some (.ref pa), some (.ref l), some (.str (S kd)), some (.str (S nm)), some (.ref ta), some z4, v6, v7, v8, none, none, none, none] := fun _ _ _ => rfl
      -- if kind == 'hole'
      refine seq_cut (fun σ' H' => ∃ F2, σ' = [some (.ref pa), some (.ref l), some (.str (S kd)), some (.str (S nm)), some (.ref ta), some z4, v6, v7, v8, none, none, none, none] ∧ ML K H F l (holePs (ps.take i) ++ (if kd = holeL then [prD "inner" (S nm)] else [])) H' F2 ∧ Same F1 F2) (fun N hN => ?_) ?_
      · refine ⟨_, rfl, rfl, _, rfl, ?_⟩
        by_cases ek : kd = holeL
        · refine ite_t (by rw [holeS, dec_V]; exact decide_eq_true ek) ?_
          obtain ⟨us, _, _, _, hl1, _⟩ := id M1
          refine ⟨_, rfl, .inl ⟨rfl, _, SqL.of hl1⟩, _, rfl, by show 2 ≤ sizeLine; decide, fun p hp => ?_⟩
          have g := (Gr.refl M1.gr.top).mk2 (o := .tup [.str "inner", .str (S nm)]) hp
          rw [if_pos ek] at hfull hN
          obtain ⟨acc, q1, q2, q3⟩ := M1.put (by omega) (same_new hp) g (d := prD "inner" (S nm)) (Dp.tup' upd_same (.cons (.str _) (.cons (.str _) .nil)))
          exact ⟨l, acc, _, rfl, rfl, q1, q2, hN _ _ ⟨_, rfl, q3, g.frz⟩⟩
        · refine ite_f (by rw [holeS, dec_V]; exact decide_eq_false ek) ?_
          rw [if_neg ek, List.append_nil] at hN
          exact hN _ _ ⟨F1, rfl, M1, Same.refl _⟩
      rintro _ H2 ⟨F2, rfl, M2, sf2⟩
      -- if kind in BLOCKS
      refine seq_cut (fun σ' H' => ∃ F3, σ' = [some (.ref pa), some (.ref l), some (.str (S kd)), some (.str (S nm)), some (.ref ta), some z4, v6, v7, v8, none, none, none, none] ∧ ML K H F l (holePs (ps.take i) ++ (if kd = holeL then [prD "inner" (S nm)] else []) ++ (if isBlk kd = true then [prD (S kd) (S nm)] else [])) H' F3 ∧ Same F1 F3) (fun N hN => ?_) ?_
      · refine ⟨_, rfl, aBLOCKS, BLK, rfl, .inr (T.sqBLOCKS H2), rfl, rfl, _, rfl, ?_⟩
        by_cases ek : isBlk kd = true
        · refine ite_t ek ?_
          obtain ⟨us, _, _, _, hl1, _⟩ := id M2
          refine ⟨_, rfl, .inl ⟨rfl, _, SqL.of hl1⟩, _, rfl, _, rfl, by show 2 ≤ sizeLine; decide, fun p hp => ?_⟩
          have g := (Gr.refl M2.gr.top).mk2 (o := .tup [.str (S kd), .str (S nm)]) hp
          rw [if_pos ek] at hfull hN
          obtain ⟨acc, q1, q2, q3⟩ := M2.put (by rw [List.length_append]; omega) (same_new hp) g (d := prD (S kd) (S nm)) (Dp.tup' upd_same (.cons (.str _) (.cons (.str _) .nil)))
          exact ⟨l, acc, _, rfl, rfl, q1, q2, hN _ _ ⟨_, rfl, q3, sf2.trans g.frz⟩⟩
        · refine ite_f (show isBlk kd = false from (Bool.not_eq_true _).mp ek) ?_
          rw [if_neg ek, List.append_nil] at hN
          exact hN _ _ ⟨F2, rfl, M2, sf2⟩
      rintro _ H3 ⟨F3, rfl, M3, sf3⟩
      generalize hA : (if kd = holeL then [prD "inner" (S nm)] else []) = dA at *
      generalize hB : (if isBlk kd = true then [prD (S kd) (S nm)] else []) = dB at *
      -- for own, some in attributes
      refine seq_cut (fun σ' H' => ∃ F4 v6 v7 v8, σ' = [some (.ref pa), some (.ref l), some (.str (S kd)), some (.str (S nm)), some (.ref ta), some z4, v6, v7, v8, none, none, none, none] ∧ ML K H F l (holePs (ps.take i) ++ dA ++ dB ++ holeAs as) H' F4 ∧ Same F1 F4) (fun N hN => ?_) ?_
      · refine ⟨_, rfl, ta, rfl, ⟨_, same_seqT (sf3.trans M3.gr.top) hta⟩, for_tup (K := K) (a := ta) (xs := ya) (fun j σ' H' => ∃ F4 v6 v7 v8, σ' = [some (.ref pa), some (.ref l), some (.str (S kd)), some (.str (S nm)), some (.ref ta), some z4, v6, v7, v8, none, none, none, none] ∧ ML K H F l (holePs (ps.take i) ++ dA ++ dB ++ holeAs (as.take j)) H' F4 ∧ Same F1 F4)
          ⟨F3, v6, v7, v8, rfl, by rw [List.take_zero, holeAs, List.append_nil]; exact M3, sf3⟩ (fun j σ H' _ ⟨F4, _, _, _, _, M, sf⟩ => same_seqT (sf.trans M.gr.top) hta) ?_ ?_⟩
        · rintro j y σ H4 hyj ⟨F4, w6, w7, w8, rfl, M4, sf4⟩
          obtain ⟨d, hdj, dyj⟩ := DpAll.at hya hyj
          obtain ⟨a, haj, rfl⟩ := map_atI hdj
          have hfa : (holeAs (as.take (j + 1))).length ≤ (holeAs as).length := take_app_le holeAs holeAs_app as (j + 1)
          have ea : holeAs (as.take (j + 1)) = holeAs (as.take j) ++ holeA a.1 a.2 := by
            rw [take_snoc haj, holeAs_app]
            simp [holeAs]
          rw [ea, List.length_append] at hfa
          obtain ⟨t2, zs2, rfl, ht2, hzs2⟩ := Dp.tupI (Dp.same sf4 _ _ dyj)
          obtain ⟨x1, x2, rfl, m1, m2⟩ := DpAll.two hzs2
          cases m1
          obtain ⟨lp, us2, rfl, hlp, hus2⟩ := Dp.lstI m2
          have hlu : us2.length = a.2.length := by rw [DpAll.len hus2, List.length_map]
          refine ⟨t2, _, rfl, same_seqT M4.gr.top ht2, rfl, _, _, rfl, _, _, rfl, rfl, ?_⟩
          -- word
          refine seq_cut (fun σ' H' => σ' = [some (.ref pa), some (.ref l), some (.str (S kd)), some (.str (S nm)), some (.ref ta), some z4, some (.str (S a.1)), some (.ref lp), some (.str (if a.1 = toL then "link" else "quoted")), none, none, none, none] ∧ H4 = H') (fun N hN2 => ?_) ?_
          · refine ⟨_, rfl, rfl, _, rfl, ?_⟩
            by_cases el : a.1 = toL
            · refine ite_t (by rw [toS, dec_V]; exact decide_eq_true el) ?_
              rw [if_pos el] at hN2
              exact hN2 _ _ ⟨rfl, rfl⟩
            · refine ite_f (by rw [toS, dec_V]; exact decide_eq_false el) ?_
              rw [if_neg el] at hN2
              exact hN2 _ _ ⟨rfl, rfl⟩
          rintro _ _ ⟨rfl, rfl⟩
          -- found.extend([..])
          obtain ⟨us4, b1, b2, b3, hl4, b5, b6⟩ := id M4
          refine ⟨_, rfl, .inl ⟨rfl, _, SqL.of hl4⟩, _, rfl, lp, rfl, ⟨_, M4.gr.top.seq hlp⟩, fun D hD => ?_⟩
          refine lc_list (K := K) (a := lp) (xs := us2) (fun m H' => ∃ F', ML K H4 F4 D (holeA a.1 (a.2.take m)) H' F') ⟨F4, ML.new (Same.refl _) (Gr.refl M4.gr.top) hD⟩ (fun m H' _ ⟨F', M⟩ => M.same.seq (M4.gr.top.seq hlp)) ?_ ?_
          · rintro m y H5 hym ⟨F5, M5⟩
            obtain ⟨d, hdm, dym⟩ := DpAll.at hus2 hym
            obtain ⟨ap, ham, rfl⟩ := map_atI hdm
            have hfm : (holeA a.1 (a.2.take (m + 1))).length ≤ (holeA a.1 a.2).length := take_app_le (holeA a.1) (holeA_app a.1) a.2 (m + 1)
            have em : holeA a.1 (a.2.take (m + 1)) = holeA a.1 (a.2.take m) ++ holeA a.1 [ap] := by rw [take_snoc ham, holeA_app]
            rw [em, List.length_append] at hfm
            have dym5 := Dp.same M5.gr.frz _ _ dym
            cases ap with
            | sg c =>
              have e9 : holeA a.1 [APt.sg c] = [] := by simp [holeA]
              rw [e9, List.append_nil] at em
              obtain ⟨p5, zs5, rfl, hp5, hzs5⟩ := Dp.tupI dym5
              obtain ⟨n1, n2, n3, n4, rfl, k1, k2, _, _⟩ := DpAll.four hzs5
              cases k1
              cases k2
              refine ⟨p5, _, rfl, same_seqT M5.gr.top hp5, rfl, _, _, rfl, _, _, rfl, _, _, rfl, _, _, rfl, rfl, rfl, ?_⟩
              refine ⟨_, rfl, rfl, _, rfl, ?_⟩
              refine ite_f (by rw [signS, dec_V]; rfl) ?_
              show ∃ F', ML K H4 F4 D (holeA a.1 (a.2.take (m + 1))) H5 F'
              rw [em]
              exact ⟨F5, M5⟩
            | hl t5 =>
              have e9 : holeA a.1 [APt.hl t5] = [prD (if a.1 = toL then "link" else "quoted") (S t5)] := by simp [holeA]
              rw [e9] at em hfm
              obtain ⟨p5, zs5, rfl, hp5, hzs5⟩ := Dp.tupI dym5
              obtain ⟨n1, n2, n3, n4, rfl, k1, k2, _, _⟩ := DpAll.four hzs5
              cases k1
              cases k2
              refine ⟨p5, _, rfl, same_seqT M5.gr.top hp5, rfl, _, _, rfl, _, _, rfl, _, _, rfl, _, _, rfl, rfl, rfl, ?_⟩
              refine ⟨_, rfl, rfl, _, rfl, ?_⟩
              refine ite_t (by rw [holeS, dec_V]; rfl) ?_
              refine ⟨_, rfl, _, rfl, by show 2 ≤ sizeLine; decide, fun p hp => ?_⟩
              have g := (Gr.refl M5.gr.top).mk2 (o := .tup [.str (if a.1 = toL then "link" else "quoted"), .str (S t5)]) hp
              have hq := M5.put (by omega) (same_new hp) g (d := prD (if a.1 = toL then "link" else "quoted") (S t5)) (Dp.tup' upd_same (.cons (.str _) (.cons (.str _) .nil)))
              obtain ⟨acc, q1, q2, q3⟩ := hq
              refine ⟨acc, q1, q2, ?_⟩
              show ∃ F', ML K H4 F4 D (holeA a.1 (a.2.take (m + 1))) _ F'
              rw [em]
              exact ⟨_, q3⟩
          · rintro H5 ⟨F5, M5⟩
            rw [hlu, List.take_length] at M5
            obtain ⟨acc, c1, c2, c3, c4, c5, c6⟩ := id M5
            have M6 := M4.keep c1 c2
            obtain ⟨us6, d1, d2, d3, d4, d5, d6⟩ := id M6
            refine ⟨l, D, us6, acc, rfl, rfl, d4, c4, ?_, F5, _, _, _, rfl, ?_, sf4.trans c2.frz⟩
            · rw [DpAll.len d5, DpAll.len c5]
              simp only [List.length_append]
              exact Nat.le_trans (m := 10000) (by omega) (by decide)
            · rw [ea, ← List.append_assoc]
              exact M6.set (DpAll.app d5 c5)
        · rintro σ H4 ⟨F4, w6, w7, w8, rfl, M4, sf4⟩
          rw [hlya, List.take_length] at M4
          exact hN _ _ ⟨F4, _, _, _, rfl, M4, sf4⟩
      rintro _ H4 ⟨F4, w6, w7, w8, rfl, M4, sf4⟩
      -- found.extend(holes_by(within))
      obtain ⟨us4, b1, b2, b3, hl4, b5, b6⟩ := id M4
      refine ⟨_, rfl, .inl ⟨rfl, _, SqL.of hl4⟩, _, rfl, F4, z4, ws, rfl, M4.gr.top, Dp.same sf4 _ _ c4, hpw, by omega, fun H5 F5 v s5 g5 ⟨l5, us5, ev, hl5, hus5⟩ => ?_⟩
      subst ev
      have M6 := M4.keep s5 g5
      obtain ⟨us6, d1, d2, d3, d4, d5, d6⟩ := id M6
      refine ⟨l, l5, us6, us5, rfl, rfl, d4, g5.top _ _ hl5, ?_, F5, _, _, _, _, _, _, _, rfl, ?_⟩
      · rw [DpAll.len d5, DpAll.len hus5]
        simp only [List.length_append]
        exact Nat.le_trans (m := 10000) (by omega) (by decide)
      · have e2 : holePs (ps.take (i + 1)) = holePs (ps.take i) ++ dA ++ dB ++ holeAs as ++ holePs ws := by
          rw [take_snoc hpi, holePs_app, e1]
          simp
        rw [e2]
        exact M6.set (DpAll.app d5 hus5)
    · rintro σ H1 ⟨F1, v2, v3, v4, v5, v6, v7, v8, rfl, M1⟩
      rw [hlx, List.take_length] at M1
      obtain ⟨F2, s2, g2, _, L2'⟩ := M1.fin
      exact ⟨_, rfl, q _ _ _ s2 g2 L2'⟩
end
end Dh
namespace Dh
open PySem PySem.Spec PyProof.Rows L2
/-! ### xs != [] for a list of anything -/
theorem op_neL0 {X : Cx} (hu : X.A.units + 64 < cLine) : OpR X (compareOp .NotEq) (fun x y H Q => ∃ a b us, x = .ref a ∧ y = .ref b ∧ SqL X.K H a us ∧ SqL X.K H b [] ∧ Q (.bl (!us.isEmpty)) H) := by
  intro pins s σ H x y v u Q I rx ry h
  obtain ⟨a, b, us, rfl, rfl, ha, hb, q⟩ := h
  obtain rfl : v = Value.ref a := rx
  obtain rfl : u = Value.ref b := ry
  obtain ⟨its, r, pl, _⟩ := I.list ha
  obtain ⟨its2, r2, pl2, _⟩ := I.list hb
  cases r2
  cases us with
  | nil =>
    cases r
    have h1 := SeqAt.RcNeAt.lists (A := X.A) (e := fun _ => true) pl.isList pl2.isList rfl (by omega) (fun j h1 h2 => absurd h1 (by simp))
    exact h1 _ _ _ _ ⟨.bl false, H, I, rfl, q⟩
  | cons z zs =>
    cases r
    have h1 := SeqAt.RcNeAt.lists_lengths (A := X.A) pl.isList pl2.isList (by simp) (by omega)
    exact h1 _ _ _ _ ⟨.bl true, H, I, rfl, q⟩
theorem call_strSI {X : Cx} : CallR X (.type "str") (fun xs H Q => (∃ a, xs = [.str a] ∧ Q (.str a) H) ∨ ∃ i, xs = [.int i] ∧ i.natAbs.log2 < 1920 ∧ Q (.str (toString i)) H) := by
  intro pins s σ H xs us Q I r h
  rcases h with h | h
  · exact SkE.call_str_str pins s σ H xs us Q I r h
  · exact call_str_int pins s σ H xs us Q I r h
/-! ### rows -/
abbrev Row := List (Key × V)
def DictsAt (F : Hp) : List Addr → List Row → Prop
  | [], [] => True
  | d :: ds, r :: rs => F d = some (.dK r) ∧ DictsAt F ds rs
  | _, _ => False
def RowsK (K : PySem.W.Frag) (F : Hp) (a : Addr) (rs : List Row) : Prop := ∃ ds : List Addr, SqT K F a (ds.map V.ref) ∧ DictsAt F ds rs
theorem DictsAt.len {F : Hp} : ∀ {ds : List Addr} {rs : List Row}, DictsAt F ds rs → ds.length = rs.length
  | [], [], _ => rfl
  | _ :: _, _ :: _, ⟨_, h⟩ => congrArg Nat.succ (DictsAt.len h)
  | [], _ :: _, h => h.elim
  | _ :: _, [], h => h.elim
theorem DictsAt.at {F : Hp} : ∀ {ds : List Addr} {rs : List Row} {i : Nat} {d : Addr}, DictsAt F ds rs → ds[i]? = some d → ∃ r, rs[i]? = some r ∧ F d = some (.dK r)
  | d :: ds, r :: rs, 0, e, ⟨h, _⟩, hd => ⟨r, rfl, by simp at hd; subst hd; exact h⟩
  | d :: ds, r :: rs, i + 1, e, ⟨_, h⟩, hd => by
    obtain ⟨r2, h1, h2⟩ := DictsAt.at (i := i) h (by simpa using hd)
    exact ⟨r2, by simpa using h1, h2⟩
  | [], _, _, _, _, hd => by simp at hd
  | _ :: _, [], _, _, h, _ => h.elim
theorem DictsAt.same {F F' : Hp} (s : Same F F') : ∀ {ds : List Addr} {rs : List Row}, DictsAt F ds rs → DictsAt F' ds rs
  | [], [], _ => trivial
  | _ :: _, _ :: _, ⟨h1, h2⟩ => ⟨s _ _ h1, DictsAt.same s h2⟩
  | [], _ :: _, h => h.elim
  | _ :: _, [], h => h.elim
theorem DictsAt.app {F : Hp} : ∀ {ds es : List Addr} {rs qs : List Row}, DictsAt F ds rs → DictsAt F es qs → DictsAt F (ds ++ es) (rs ++ qs)
  | [], _, [], _, _, h => h
  | _ :: _, _, _ :: _, _, ⟨h1, h2⟩, h => ⟨h1, DictsAt.app h2 h⟩
  | [], _, _ :: _, _, h, _ => h.elim
  | _ :: _, _, [], _, h, _ => h.elim
def lookAll (z : Str) (rs : List Row) : List V := rs.filterMap fun r => valV r (.inr z)
def lookUp (z : Str) (rs : List Row) : Option V := (lookAll z rs).getLast?
section
variable {P : Program} {w : World} {K : PySem.W.Frag} {mg : Str → Option Value} {base : Heap} {C fI aWORDS aTURNED aBLOCKS : Addr} {fdI : FuncData}
def spLookedUp (K : PySem.W.Frag) : Sp := fun vs H Q _ => ∃ (F : Hp) (z : Str) (a : Addr) (rs : List Row) (v : V), vs = [.str z, .ref a] ∧ Same F H ∧ RowsK K F a rs ∧ rs.length ≤ 10 ∧ lookUp z rs = some v ∧ ∀ H', Same H H' → Q v H'
theorem G_looked_up (T : Tx K w mg C fI aWORDS aTURNED aBLOCKS fdI) : Gf P w K mg base 1 "looked_up" ["name", "rows"] (spLookedUp K) := by
  refine gf_mk T.d_looked_up sc_looked_up (fun vs H Q E h => ?_) (fun f cdv A outer s H vs Q E hr h => ?_)
  · obtain ⟨F, z, a, rs, v, rfl, _⟩ := h
    rfl
  · obtain ⟨F, z, a, rs, v, rfl, sF, ⟨ds, ha, hds⟩, hn, hv, q⟩ := h
    refine ⟨_, (pss_cons (ps_setLc (i := 2) (own := [("data", 3)]) rfl sc_looked_up.nd rfl rfl (sw_true rfl rfl rfl (by decide +kernel)) (pi_tup (pv 1)) (blkOk_by (by kernel_rfl)) (fun _ _ _ _ _ => (pg_name (i := 3) sc_looked_up.nd rfl (Or.inl rfl))) (fun _ _ _ _ _ => (pts_one (pt_cmp (pc_din (hu_of hr) (pv 0) (pv 3))))) (fun _ _ _ _ _ => (pe_dget (hu_of hr) (pv 3) (pv 0) (fun _ _ => rfl))))
  (pss_one (ps_ret (pe_ifExp (pt_cmpR (op_neL0 hr.units) (pv 2) (pe_lst pa_nil) (nomark _)) (pe_ix ix_list (pv 2) (pe_un un_neg pe_int) (fun _ _ => rfl)) pe_non)))), ?_⟩
    refine ⟨_, rfl, a, rfl, ⟨_, same_seqT sF ha⟩, fun D hD => ?_⟩
    have hlen := DictsAt.len hds
    refine lc_tup (K := K) (a := a) (xs := ds.map V.ref) (fun i H1 => Same H H1 ∧ H1 D = some (.lst (lookAll z (rs.take i)))) ⟨same_new hD, upd_same⟩ (fun i H1 _ h1 => same_seqT (sF.trans h1.1) ha) ?_ ?_
    · rintro i x H1 hx ⟨s1, h1⟩
      obtain ⟨d, hd, rfl⟩ := map_atI hx
      obtain ⟨r, hr1, hr2⟩ := DictsAt.at hds hd
      have hrH := s1 _ _ (sF _ _ hr2)
      have el : lookAll z (rs.take (i + 1)) = lookAll z (rs.take i) ++ lookAll z [r] := by
        rw [take_snoc hr1]
        unfold lookAll
        rw [List.filterMap_append]
      have elen : (lookAll z (rs.take i)).length ≤ 10 := by
        unfold lookAll
        refine Nat.le_trans (List.length_filterMap_le ..) ?_
        rw [List.length_take]
        omega
      refine ⟨rfl, _, rfl, _, rfl, d, valV r (.inr z), rfl, .inl ⟨r, .inr z, .inl hrH, rfl, rfl⟩, _, rfl, ?_⟩
      cases ev : valV r (.inr z) with
      | none =>
        refine iteF ⟨s1, ?_⟩
        rw [el, h1]
        simp [lookAll, ev]
      | some u =>
        refine iteT ⟨_, rfl, _, rfl, d, u, rfl, .inl ⟨r, .inr z, .inl hrH, rfl, ev.symm⟩, _, h1, Nat.lt_of_le_of_lt elen (by decide), same_mut s1 hD, ?_⟩
        rw [upd_same, el]
        simp [lookAll, ev]
    · rintro H1 ⟨s1, h1⟩
      rw [List.length_map, hlen, List.take_length] at h1
      obtain ⟨ys, hys⟩ := List.getLast?_eq_some_iff.mp hv
      rw [hys] at h1
      refine ⟨_, rfl, Nat.zero_le _, fun e he => ⟨D, e, _, rfl, rfl, (same_new he).seq (SqL.of h1), SqL.of upd_same, _, rfl, ?_⟩⟩
      refine ite_t (by simp) ?_
      exact ⟨_, rfl, _, rfl, D, _, _, _, rfl, rfl, (same_new he).seq (SqL.of h1), atI_last _ _, q _ (s1.trans (same_new he))⟩
/-! ### text_by -/
def TxtV (v : V) (u : List Nat) : Prop := v = .str (S u) ∨ (v = .int 7 ∧ u = [55])
theorem seven : ((toString (7 : Int)) : Str) = S [55] := by decide +kernel
def spTextBy (K : PySem.W.Frag) : Sp := fun vs H Q _ => ∃ (F : Hp) (z : Str) (a : Addr) (rs : List Row) (v : V) (u : List Nat), vs = [.str z, .ref a] ∧ Same F H ∧ RowsK K F a rs ∧ rs.length ≤ 10 ∧ lookUp z rs = some v ∧ TxtV v u ∧ ∀ H', Same H H' → Q (.str (S u)) H'
theorem G_text_by (T : Tx K w mg C fI aWORDS aTURNED aBLOCKS fdI) : Gf P w K mg base 2 "text_by" ["name", "rows"] (spTextBy K) := by
  have G_looked_up : Gf P w K mg base 1 "looked_up" ["name", "rows"] (spLookedUp K) := G_looked_up T
  refine gf_mk T.d_text_by sc_text_by (fun vs H Q E h => ?_) (fun f cdv A outer s H vs Q E hr h => ?_)
  · obtain ⟨F, z, a, rs, v, u, rfl, _⟩ := h
    rfl
  · obtain ⟨F, z, a, rs, v, u, rfl, sF, hR, hn, hv, htx, q⟩ := h
    refine ⟨_, (pss_cons (ps_set (i := 2) sc_text_by.nd rfl (Or.inl rfl) (pe_callG G_looked_up (hr.mono (by first | decide | omega)) (by rfl) (pa_cons (pv 0) (pa_cons (pv 1) pa_nil))))
  (pss_one (ps_ret (pe_ifExp (PW.pt (pw_or (pt_cmpR op_isN (pv 2) pe_non (nomark _)) (pw_or1 (pt_val (pe_callB call_isi (by rfl) T.b_isinstance (by decide +kernel) (pa_cons (pv 2) (pa_cons (pe_bltn (v := .ty "tuple") (by rfl) T.b_tuple (by decide +kernel) rfl) pa_nil))))))) pe_str (pe_callTy call_strSI (by rfl) T.b_str (by decide +kernel) (pa_cons (pv 2) pa_nil)))))), ?_⟩
    refine ⟨_, rfl, _, rfl, F, z, a, rs, v, rfl, sF, hR, hn, hv, fun H1 s1 => ?_⟩
    rcases htx with rfl | ⟨rfl, rfl⟩
    · refine ⟨_, rfl, rfl, _, rfl, iteF ?_⟩
      refine ⟨_, rfl, _, _, _, _, false, rfl, .ty _, .base (.str _), kit_ty (by decide +kernel), _, rfl, iteF ?_⟩
      exact ⟨_, rfl, .inl ⟨_, rfl, q _ s1⟩⟩
    · refine ⟨_, rfl, rfl, _, rfl, iteF ?_⟩
      refine ⟨_, rfl, _, _, _, _, false, rfl, .ty _, .base (.int _), kit_ty (by decide +kernel), _, rfl, iteF ?_⟩
      refine ⟨_, rfl, .inr ⟨_, rfl, by decide +kernel, ?_⟩⟩
      have := q _ s1
      rw [← seven] at this
      exact this
end
end Dh
namespace Dh
open PySem PySem.Spec PyProof.Rows L2
/-! ### linked -/
abbrev SIGNSs : Str := " !\"#$&'()*+,-./0123456789:;<=>?@ABCDEFGHIJKLMNOPQRSTUVWXYZ[\\]^_`abcdefghijklmnopqrstuvwxyz{|}~"
def PLAINL : List Nat := ("abcdefghijklmnopqrstuvwxyz0123456789-" : Str).cps.toList
def idxS (c : Nat) : Nat := (Txt.index0 SIGNSs (S [c])).getD 0
def pcS (c : Nat) : Str := if decide (c ∈ PLAINL) = true then S [c] else Str.empty ++ "~" ++ toString (((idxS c : Nat) : Int) / 10) ++ toString (((idxS c : Nat) : Int) % 10)
def lnk (c : Nat) : List Nat := (pcS c).cps.toList
def links (z : List Nat) : List Nat := (z.map lnk).flatten
theorem lnk_S (c : Nat) : pcS c = S (lnk c) := S_of _
theorem lnk_ok : ∀ c ∈ SIGNSL, Txt.index0 SIGNSs (S [c]) = some (idxS c) ∧ (lnk c).length ≤ 3 ∧ areSigns (lnk c) = true ∧ idxS c ≤ 100 := by decide +kernel
theorem links_ok : ∀ {z : List Nat}, (∀ c ∈ z, c ∈ SIGNSL) → (links z).length ≤ 3 * z.length ∧ areSigns (links z) = true
  | [], _ => by simp [links, areSigns]
  | c :: z, h => by
    have h1 := lnk_ok c (h c (List.mem_cons_self ..))
    have h2 := links_ok (z := z) fun x hx => h x (List.mem_cons_of_mem _ hx)
    unfold links areSigns at *
    rw [List.map_cons, List.flatten_cons, List.length_append, List.length_cons, List.all_append, h2.2, h1.2.2.1]
    exact ⟨by omega, rfl⟩
theorem str_len_app (a b : Str) : (a ++ b).length = a.length + b.length := by
  obtain ⟨⟨a⟩⟩ := a
  obtain ⟨⟨b⟩⟩ := b
  rw [S_app, S_len, S_len, S_len, List.length_append]
section
variable {P : Program} {w : World} {K : PySem.W.Frag} {mg : Str → Option Value} {base : Heap} {C fI aWORDS aTURNED aBLOCKS : Addr} {fdI : FuncData}
def spLinked : Sp := fun vs H Q _ => ∃ z : List Nat, vs = [.str (S z)] ∧ z.length ≤ 1000 ∧ (∀ c ∈ z, c ∈ SIGNSL) ∧ ∀ H', Same H H' → Q (.str (S (links z))) H'
theorem G_linked (T : Tx K w mg C fI aWORDS aTURNED aBLOCKS fdI) : Gf P w K mg base 1 "linked" ["text"] spLinked := by
  refine gf_mk T.d_linked sc_linked (fun vs H Q E h => ?_) (fun f cdv A outer s H vs Q E hr h => ?_)
  · obtain ⟨z, rfl, _⟩ := h
    rfl
  · obtain ⟨z, rfl, hn, hz, q⟩ := h
    refine ⟨_, (pss_cons (ps_set (i := 1) sc_linked.nd rfl (Or.inl rfl) pe_str)
  (pss_cons (ps_for PassesOwn.never rfl (pi_str (pv 0)) (pg_name (i := 2) sc_linked.nd rfl (Or.inl rfl))
  (pss_cons (ps_set (i := 3) sc_linked.nd rfl (Or.inl rfl) (pe_bm PySem.F.plainAttrs_str PySem.F.slot_str_index PySem.F.type_str_index mt_indexS (pe_gS (by rfl) T.gSIGNS) (pa_cons (pv 2) pa_nil)))
  (pss_one (ps_aug (i := 1) sc_linked.nd rfl (Or.inl rfl) (pe_ifExp (pt_cmpR op_in_sign (pv 2) (pe_gS (by rfl) T.gPLAIN) (by rfl)) (pv 2) (pe_joinedD (PJ.cons pe_str (PJ.cons (pe_fmt (pe_op op_fdiv (pv 3) pe_int)) (PJ.cons (pe_fmt (pe_op op_mod (pv 3) pe_int)) PJ.nil))))) iop_add_str))))
  (pss_one (ps_ret (pv 1))))), ?_⟩
    refine ⟨_, rfl, _, rfl, for_str (x := S z) (fun i σ H1 => H1 = H ∧ ∃ v2 v3, σ = [some (.str (S z)), some (.str (S (links (z.take i)))), v2, v3]) ⟨rfl, none, none, by rw [SemptyS]; rfl⟩ (fun i c σ H1 hc ⟨e, v2, v3, eσ⟩ => ?_) (fun σ H1 ⟨e, v2, v3, eσ⟩ => ?_)⟩
    · subst e eσ
      rw [S_list] at hc
      have hcm : c ∈ SIGNSL := hz c (List.mem_of_getElem? hc)
      obtain ⟨h1, h2, h3, h4⟩ := lnk_ok c hcm
      refine ⟨rfl, _, rfl, _, _, _, rfl, rfl, h1, ?_⟩
      refine ⟨_, rfl, _, rfl, c, _, rfl, rfl, _, rfl, ?_⟩
      have el : links (z.take (i + 1)) = links (z.take i) ++ lnk c := by
        rw [take_snoc hc]
        unfold links
        simp
      have hll : (links (z.take i)).length ≤ 3000 := by
        have := (links_ok (z := z.take i) fun x hx => hz x (List.mem_of_mem_take hx)).1
        rw [List.length_take] at this
        omega
      have fin : ∀ x : Str, x = pcS c → (∃ i_1 j, V.str (S (links (z.take i))) = V.str i_1 ∧ V.str x = V.str j ∧ i_1.length + j.length ≤ sizeLine ∧ i_1 ++ j = S (links (z.take (i + 1)))) := fun x e => by
        rw [e, lnk_S]
        exact ⟨_, _, rfl, rfl, sz2 (by omega), by rw [S_app, el]⟩
      by_cases hp : c ∈ PLAINL
      · refine ite_t (decide_eq_true hp) ?_
        obtain ⟨a, b, q1, q2, q3, q4⟩ := fin (S [c]) (by unfold pcS; rw [if_pos (decide_eq_true hp)])
        exact ⟨_, rfl, a, b, q1, q2, q3, rfl, _, _, by rw [q4]; rfl⟩
      · refine ite_f (decide_eq_false hp) ?_
        have e1 : pcS c = Str.empty ++ "~" ++ toString (((idxS c : Nat) : Int) / 10) ++ toString (((idxS c : Nat) : Int) % 10) := by
          unfold pcS
          rw [if_neg (by rw [decide_eq_false hp]; decide)]
        obtain ⟨a, b, q1, q2, q3, q4⟩ := fin _ e1.symm
        have hlen : (pcS c).length ≤ 3 := by rw [lnk_S, S_len]; exact h2
        rw [e1, str_len_app, str_len_app] at hlen
        refine ⟨_, rfl, ?_, _, rfl, _, 10, rfl, rfl, by unfold CDiv; decide, .inr ⟨_, rfl, ?_, _, rfl, ?_, _, rfl, _, 10, rfl, rfl, (by show (0 : Int) < 10; decide), .inr ⟨_, rfl, ?_, _, rfl, ?_, a, b, q1, q2, q3, rfl, _, _, by rw [q4]; rfl⟩⟩⟩
        · exact Nat.le_trans (m := 3) (by omega) (by decide)
        · exact Nat.lt_of_le_of_lt (Nat.log2_le_self _) (by omega)
        · rw [str_len_app]
          exact Nat.le_trans (m := 3) (by omega) (by decide)
        · exact Nat.lt_of_le_of_lt (Nat.log2_le_self _) (by omega)
        · rw [str_len_app, str_len_app]
          exact Nat.le_trans (m := 3) (by omega) (by decide)
    · subst e eσ
      rw [S_list, List.take_length]
      exact ⟨_, rfl, q _ (Same.refl _)⟩
end
end Dh
namespace Dh
open PySem PySem.Spec PyProof.Rows L2
def RowsL (K : PySem.W.Frag) (F : Hp) : List V → List (List Row) → Prop
  | [], [] => True
  | u :: us, r :: rs => (∃ a, u = .ref a ∧ RowsK K F a r) ∧ RowsL K F us rs
  | _, _ => False
theorem RowsK.same {K : PySem.W.Frag} {F F' : Hp} (s : Same F F') {a : Addr} {rs : List Row} (h : RowsK K F a rs) : RowsK K F' a rs :=
  let ⟨ds, h1, h2⟩ := h
  ⟨ds, same_seqT s h1, h2.same s⟩
theorem RowsL.same {K : PySem.W.Frag} {F F' : Hp} (s : Same F F') : ∀ {us : List V} {rs : List (List Row)}, RowsL K F us rs → RowsL K F' us rs
  | [], [], _ => trivial
  | _ :: _, _ :: _, ⟨⟨a, e, h1⟩, h2⟩ => ⟨⟨a, e, h1.same s⟩, RowsL.same s h2⟩
  | [], _ :: _, h => h.elim
  | _ :: _, [], h => h.elim
theorem RowsL.app {K : PySem.W.Frag} {F : Hp} : ∀ {us ws : List V} {rs qs : List (List Row)}, RowsL K F us rs → RowsL K F ws qs → RowsL K F (us ++ ws) (rs ++ qs)
  | [], _, [], _, _, h => h
  | _ :: _, _, _ :: _, _, ⟨h1, h2⟩, h => ⟨h1, RowsL.app h2 h⟩
  | [], _, _ :: _, _, h, _ => h.elim
  | _ :: _, _, [], _, h, _ => h.elim
theorem RowsL.len {K : PySem.W.Frag} {F : Hp} : ∀ {us : List V} {rs : List (List Row)}, RowsL K F us rs → us.length = rs.length
  | [], [], _ => rfl
  | _ :: _, _ :: _, ⟨_, h⟩ => congrArg Nat.succ (RowsL.len h)
  | [], _ :: _, h => h.elim
  | _ :: _, [], h => h.elim
theorem RowsL.at {K : PySem.W.Frag} {F : Hp} : ∀ {us : List V} {rs : List (List Row)} {i : Nat} {u : V}, RowsL K F us rs → us[i]? = some u → ∃ r a, rs[i]? = some r ∧ u = .ref a ∧ RowsK K F a r
  | u :: us, r :: rs, 0, e, ⟨⟨a, h1, h2⟩, _⟩, hd => ⟨r, a, rfl, by simp at hd; subst hd; exact h1, h2⟩
  | u :: us, r :: rs, i + 1, e, ⟨_, h⟩, hd => by
    obtain ⟨r2, a, h1, h2⟩ := RowsL.at (i := i) h (by simpa using hd)
    exact ⟨r2, a, by simpa using h1, h2⟩
  | [], _, _, _, _, hd => by simp at hd
  | _ :: _, [], _, _, h, _ => h.elim
abbrev eachL : List Nat := [101, 97, 99, 104]
abbrev aL : List Nat := [97]
abbrev cL : List Nat := [99]
theorem eachS : (Str.ofString "each" : Str) = S eachL := by decide +kernel
/-- the text by the name a -/
def TaOk (rs : List Row) (ta : List Nat) : Prop := (∃ v, lookUp (S aL) rs = some v ∧ TxtV v ta) ∧ (∀ c ∈ ta, c ∈ SIGNSL) ∧ ta.length ≤ 20
def CsOk (K : PySem.W.Frag) (F : Hp) (rs : List Row) (cs : List (List Nat)) : Prop :=
  cs = [] ∨ ∃ (c : Addr) (es : List Addr) (qs : List Row), lookUp (S cL) rs = some (.ref c) ∧ SqT K F c (es.map V.ref) ∧ DictsAt F es qs ∧ qs.length = cs.length ∧ cs.length ≤ 4 ∧ ∀ (i : Nat) (q : Row) (u : List Nat), qs[i]? = some q → cs[i]? = some u → TaOk (rs ++ [q]) u
theorem CsOk.same {K : PySem.W.Frag} {F F' : Hp} (s : Same F F') {rs : List Row} {cs : List (List Nat)} (h : CsOk K F rs cs) : CsOk K F' rs cs := by
  rcases h with h | ⟨c, es, qs, h1, h2, h3, h4, h5, h6⟩
  · exact .inl h
  · exact .inr ⟨c, es, qs, h1, same_seqT s h2, h3.same s, h4, h5, h6⟩
def attrX (own : List Nat) (ps : List APt) (ta : List Nat) : List Nat := (ps.map fun p => match p with | .sg c => [c] | .hl _ => if own = toL then links ta else ta).flatten
section
variable {P : Program} {w : World} {K : PySem.W.Frag} {mg : Str → Option Value} {base : Heap} {C fI aWORDS aTURNED aBLOCKS : Addr} {fdI : FuncData}
/-! ### rows_of -/
def spRowsOf (K : PySem.W.Frag) : Sp := fun vs H Q _ => ∃ (F : Hp) (z : Str) (a : Addr) (rs : List Row) (c : Addr) (es : List Addr) (qs : List Row), vs = [.str (S eachL), .str z, .ref a] ∧ Same F H ∧ RowsK K F a rs ∧ rs.length ≤ 9 ∧ rs ≠ [] ∧ lookUp z rs = some (.ref c) ∧ SqT K F c (es.map V.ref) ∧ DictsAt F es qs ∧ qs.length ≤ 10 ∧
  ∀ H' F' l us, Same H H' → Gr H F H' F' → F' l = some (.lst us) → RowsL K F' us (qs.map fun q => rs ++ [q]) → Q (.ref l) H'
theorem G_rows_of (T : Tx K w mg C fI aWORDS aTURNED aBLOCKS fdI) : Gf P w K mg base 2 "rows_of" ["kind", "name", "rows"] (spRowsOf K) := by
  have G_looked_up : Gf P w K mg base 1 "looked_up" ["name", "rows"] (spLookedUp K) := G_looked_up T
  refine gf_mk T.d_rows_of sc_rows_of (fun vs H Q E h => ?_) (fun f cdv A outer s H vs Q E hr h => ?_)
  · obtain ⟨F, z, a, rs, c, es, qs, rfl, _⟩ := h
    rfl
  · obtain ⟨F, z, a, rs, c, es, qs, rfl, sF, hR, hn, hne, hv, hc, hes, hqn, q⟩ := h
    refine ⟨_, (pss_cons (ps_set (i := 3) sc_rows_of.nd rfl (Or.inl rfl) (pe_callG G_looked_up (hr.mono (by first | decide | omega)) (by rfl) (pa_cons (pv 1) (pa_cons (pv 2) pa_nil))))
  (pss_cons (ps_if (pt_cmpR op_eq (pv 0) pe_str (nomark _)) (pss_one (ps_ret (pe_ifExp (pt_val (pe_callB call_isi (by rfl) T.b_isinstance (by decide +kernel) (pa_cons (pv 3) (pa_cons (pe_bltn (v := .ty "tuple") (by rfl) T.b_tuple (by decide +kernel) rfl) pa_nil)))) (pe_lc (own := [("data", 4)]) rfl sc_rows_of.nd (pi_tup (pv 3)) (blkOk_by (by kernel_rfl)) (fun _ _ _ _ _ => (pg_name (i := 4) sc_rows_of.nd rfl (Or.inl rfl))) (fun _ _ _ _ _ => pts_nil) (fun _ _ _ _ _ => (pe_op (op_catTK K rfl) (pv 2) (pe_tup (pa_cons (pv 4) pa_nil))))) (pe_lst pa_nil)))) pss_nil)
  (pss_one (ps_ret pe_never)))), ?_⟩
    refine ⟨_, rfl, _, rfl, F, z, a, rs, _, rfl, sF, hR, by omega, hv, fun H1 s1 => ?_⟩
    refine ⟨_, rfl, rfl, _, rfl, ?_⟩
    refine ite_t (by rw [eachS, dec_V]; rfl) ?_
    have sF1 := sF.trans s1
    refine ⟨_, rfl, _, _, _, _, true, rfl, .ty _, tyx_tup (same_seqT sF1 hc), kit_ty (by decide +kernel), _, rfl, iteT ?_⟩
    obtain ⟨ds, ha, hds⟩ := hR
    have hel := hes.len
    refine ⟨_, rfl, c, rfl, ⟨_, same_seqT sF1 hc⟩, fun D hD => ?_⟩
    refine lc_tup (K := K) (a := c) (xs := es.map V.ref) (fun i H2 => ∃ F2 acc, Same H H2 ∧ Gr H F H2 F2 ∧ F2 D = none ∧ H2 D = some (.lst acc) ∧ RowsL K F2 acc ((qs.take i).map fun q => rs ++ [q]))
      ⟨F, [], s1.trans (same_new hD), ((Gr.refl sF).same s1).mk1 (sF1.free hD), sF1.free hD, upd_same, trivial⟩ (fun i H2 _ ⟨F2, _, _, g2, _⟩ => same_seqT (g2.frz.trans g2.top) hc) ?_ ?_
    · rintro i x H2 hx ⟨F2, acc, s2, g2, fD, hDl, hacc⟩
      obtain ⟨d, hd, rfl⟩ := map_atI hx
      obtain ⟨r, hr1, hr2⟩ := hes.at hd
      refine ⟨rfl, _, rfl, _, rfl, by show 1 ≤ sizeLine; decide, fun p hp => ?_⟩
      have g3 := g2.mk2 (o := .tup [.ref d]) hp
      have aH3 := same_seqT (g2.frz.trans (g2.top.trans (same_new (o := .tup [.ref d]) hp))) ha
      have dne : ds.map V.ref ≠ [] := by
        intro e
        have := hds.len
        rw [List.map_eq_nil_iff.mp e] at this
        exact hne (List.eq_nil_of_length_eq_zero this.symm)
      refine ⟨a, p, _, _, rfl, rfl, aH3, SqT.of upd_same, dne, ?_, (fun e => (by cases e)), fun _ p2 hp2 => ?_⟩
      · rw [List.length_map, hds.len]
        exact Nat.le_trans (m := 100) (by show _ + 1 ≤ _; omega) (by decide)
      have g4 := g3.mk2 (o := .tup (ds.map V.ref ++ [.ref d])) hp2
      have s4 := (s2.trans (same_new (o := .tup [.ref d]) hp)).trans (same_new (o := .tup (ds.map V.ref ++ [.ref d])) hp2)
      have f34 : Same F2 (upd (upd F2 p (.tup [.ref d])) p2 (.tup (ds.map V.ref ++ [.ref d]))) := (same_new (g2.top.free hp)).trans (same_new (g3.top.free hp2))
      have nDp : D ≠ p := ne_of_none hDl hp
      have nDp2 : D ≠ p2 := ne_of_none (H := upd H2 p (.tup [.ref d])) (by rw [upd_ne nDp]; exact hDl) hp2
      have fD4 : upd (upd F2 p (.tup [.ref d])) p2 (.tup (ds.map V.ref ++ [.ref d])) D = none := by rw [upd_ne nDp2, upd_ne nDp]; exact fD
      have H0D : H D = none := s1.free hD
      refine ⟨acc, by rw [upd_ne nDp2, upd_ne nDp]; exact hDl, ?_, _, acc ++ [.ref p2], same_mut s4 H0D, g4.mk1 fD4, fD4, upd_same, ?_⟩
      · rw [hacc.len, List.length_map, List.length_take]
        exact Nat.lt_of_le_of_lt (m := 10) (by omega) (by decide)
      · rw [take_snoc hr1, List.map_append]
        refine RowsL.app (hacc.same f34) ⟨⟨p2, rfl, ds ++ [d], SqT.of (by rw [upd_same, List.map_append]; rfl), ?_⟩, trivial⟩
        exact DictsAt.app (hds.same (g2.frz.trans f34)) ⟨f34 _ _ (g2.frz _ _ hr2), trivial⟩
    · rintro H2 ⟨F2, acc, s2, g2, fD, hDl, hacc⟩
      rw [List.length_map, hel, List.take_length] at hacc
      have H0D : H D = none := s1.free hD
      exact q _ _ D acc s2 (g2.fix hDl fD H0D) upd_same (hacc.same (same_new fD))
/-! ### attribute_by -/
def spAttributeBy (K : PySem.W.Frag) : Sp := fun vs H Q _ => ∃ (F : Hp) (own : List Nat) (x : V) (ps : List APt) (a : Addr) (rs : List Row) (ta : List Nat), vs = [.str (S own), x, .ref a] ∧ Same F H ∧ Dp K F x (.list (ps.map aD)) ∧ RowsK K F a rs ∧ rs.length ≤ 10 ∧ TaOk rs ta ∧
  (∀ p ∈ ps, ∀ t, p = .hl t → t = aL) ∧ ps.length ≤ 100 ∧ ∀ H', Same H H' → Q (.str (S (attrX own ps ta))) H'
theorem attrX_len (own : List Nat) {ta : List Nat} (h : ∀ c ∈ ta, c ∈ SIGNSL) (hn : ta.length ≤ 20) : ∀ ps : List APt, (attrX own ps ta).length ≤ 60 * ps.length
  | [] => by simp [attrX]
  | p :: ps => by
    have ih := attrX_len own h hn ps
    have h1 := (links_ok h).1
    have hx : (if own = toL then links ta else ta).length ≤ 60 := by split <;> omega
    unfold attrX at ih ⊢
    rw [List.map_cons, List.flatten_cons, List.length_append, List.length_cons]
    cases p with
    | sg c =>
      have e1 : (match APt.sg c with | .sg c => [c] | .hl _ => if own = toL then links ta else ta).length = 1 := rfl
      omega
    | hl t =>
      have e1 : (match APt.hl t with | .sg c => [c] | .hl _ => if own = toL then links ta else ta).length = (if own = toL then links ta else ta).length := rfl
      omega
theorem G_attribute_by (T : Tx K w mg C fI aWORDS aTURNED aBLOCKS fdI) : Gf P w K mg base 3 "attribute_by" ["own", "parts", "rows"] (spAttributeBy K) := by
  have G_text_by : Gf P w K mg base 2 "text_by" ["name", "rows"] (spTextBy K) := G_text_by T
  have G_linked : Gf P w K mg base 1 "linked" ["text"] spLinked := G_linked T
  refine gf_mk T.d_attribute_by sc_attribute_by (fun vs H Q E h => ?_) (fun f cdv A outer s H vs Q E hr h => ?_)
  · obtain ⟨F, own, x, ps, a, rs, ta, rfl, _⟩ := h
    rfl
  · obtain ⟨F, own, x, ps, a, rs, ta, rfl, sF, dx, hR, hn, ⟨⟨v, hv, htx⟩, hta, htl⟩, hps, hpl, q⟩ := h
    refine ⟨_, (pss_cons (ps_set (i := 3) sc_attribute_by.nd rfl (Or.inl rfl) pe_str)
  (pss_cons (ps_for PassesOwn.never rfl (pi_list (pv 1)) (pg_tup rfl (pgs_cons (pg_name (i := 4) sc_attribute_by.nd rfl (Or.inl rfl)) (pgs_cons (pg_name (i := 5) sc_attribute_by.nd rfl (Or.inl rfl)) (pgs_cons (pg_name (i := 6) sc_attribute_by.nd rfl (Or.inl rfl)) (pgs_cons (pg_name (i := 7) sc_attribute_by.nd rfl (Or.inl rfl)) pgs_nil)))))
  (pss_cons (ps_set (i := 8) sc_attribute_by.nd rfl (Or.inl rfl) (pe_ifExp (pt_cmpR op_eq (pv 4) pe_str (nomark _)) (pv 5) (pe_callG G_text_by (hr.mono (by first | decide | omega)) (by rfl) (pa_cons (pv 5) (pa_cons (pv 2) pa_nil)))))
  (pss_one (ps_aug (i := 3) sc_attribute_by.nd rfl (Or.inl rfl) (pe_ifExp (PW.pt (pw_and (pt_cmpR op_eq (pv 4) pe_str (nomark _)) (pw_and1 (pt_cmpR op_eq (pv 0) (pe_gS (by rfl) T.gLINK) (nomark _))))) (pe_callG G_linked (hr.mono (by first | decide | omega)) (by rfl) (pa_cons (pv 8) pa_nil)) (pv 8)) iop_add_str))))
  (pss_one (ps_ret (pv 3))))), ?_⟩
    obtain ⟨lp, us, rfl, hlp, hus⟩ := Dp.lstI dx
    have hul : us.length = ps.length := by rw [DpAll.len hus, List.length_map]
    refine ⟨_, rfl, lp, rfl, ⟨_, sF.seq hlp⟩, for_list (K := K) (a := lp) (xs := us) (fun i σ H1 => ∃ v4 v5 v6 v7 v8, σ = [some (.str (S own)), some (.ref lp), some (.ref a), some (.str (S (attrX own (ps.take i) ta))), v4, v5, v6, v7, v8] ∧ Same H H1)
      ⟨none, none, none, none, none, by rw [SemptyS]; rfl, Same.refl H⟩ (fun i σ H1 _ ⟨_, _, _, _, _, _, s1⟩ => (sF.trans s1).seq hlp) ?_ ?_⟩
    · rintro i y σ H1 hy ⟨v4, v5, v6, v7, v8, rfl, s1⟩
      obtain ⟨d, hd, dy⟩ := DpAll.at hus hy
      obtain ⟨ap, hap, rfl⟩ := map_atI hd
      have hxl := attrX_len own hta htl (ps.take i)
      have hpi : (ps.take i).length ≤ 100 := by rw [List.length_take]; omega
      have sF1 := sF.trans s1
      have lk := (links_ok hta).1
      have el : attrX own (ps.take (i + 1)) ta = attrX own (ps.take i) ta ++ attrX own [ap] ta := by
        rw [take_snoc hap]
        unfold attrX
        simp
      cases ap with
      | sg c =>
        obtain ⟨t, zs, rfl, ht, hzs⟩ := Dp.tupI dy
        obtain ⟨n1, n2, n3, n4, rfl, k1, k2, _, _⟩ := DpAll.four hzs
        cases k1
        cases k2
        refine ⟨t, _, rfl, same_seqT sF1 ht, rfl, _, _, rfl, _, _, rfl, _, _, rfl, _, _, rfl, rfl, ?_⟩
        refine ⟨_, rfl, rfl, _, rfl, ?_⟩
        refine ite_t (by rw [signS, dec_V]; rfl) ?_
        refine ⟨_, rfl, ?_⟩
        refine ⟨_, rfl, _, rfl, rfl, _, rfl, ?_⟩
        refine ite_f (by rw [holeS, signS, dec_V]; rfl) ?_
        refine iteF ?_
        refine ⟨_, rfl, _, _, rfl, rfl, sz2 (by show _ + 1 ≤ _; omega), some (.str "sign"), some (.str (S [c])), some n3, some n4, some (.str (S [c])), ?_, s1⟩
        rw [S_app, el]
        rfl
      | hl t0 =>
        have et : t0 = aL := hps _ (List.mem_of_getElem? hap) t0 rfl
        subst et
        obtain ⟨t, zs, rfl, ht, hzs⟩ := Dp.tupI dy
        obtain ⟨n1, n2, n3, n4, rfl, k1, k2, _, _⟩ := DpAll.four hzs
        cases k1
        cases k2
        refine ⟨t, _, rfl, same_seqT sF1 ht, rfl, _, _, rfl, _, _, rfl, _, _, rfl, _, _, rfl, rfl, ?_⟩
        refine ⟨_, rfl, rfl, _, rfl, ?_⟩
        refine ite_f (by rw [holeS, signS, dec_V]; rfl) ?_
        refine ⟨_, rfl, _, rfl, F, _, a, rs, v, ta, rfl, sF1, hR, hn, hv, htx, fun H2 s2 => ?_⟩
        refine ⟨_, rfl, _, rfl, rfl, _, rfl, ?_⟩
        refine ite_t (by rw [holeS, dec_V]; rfl) ?_
        refine ⟨_, rfl, rfl, _, rfl, ?_⟩
        have ex : attrX own [APt.hl aL] ta = if own = toL then links ta else ta := by simp [attrX]
        by_cases eo : own = toL
        · refine ite_t (by rw [toS, dec_V]; exact decide_eq_true eo) ?_
          refine ⟨_, rfl, ta, rfl, by omega, hta, fun H3 s3 => ?_⟩
          refine ⟨_, _, rfl, rfl, sz2 (by omega), some (.str "hole"), some (.str (S aL)), some n3, some n4, some (.str (S ta)), ?_, s1.trans (s2.trans s3)⟩
          rw [S_app, el, ex, if_pos eo]
          rfl
        · refine ite_f (by rw [toS, dec_V]; exact decide_eq_false eo) ?_
          refine ⟨_, rfl, _, _, rfl, rfl, sz2 (by omega), some (.str "hole"), some (.str (S aL)), some n3, some n4, some (.str (S ta)), ?_, s1.trans s2⟩
          rw [S_app, el, ex, if_neg eo]
          rfl
    · rintro σ H1 ⟨v4, v5, v6, v7, v8, rfl, s1⟩
      rw [hul, List.take_length]
      exact ⟨_, rfl, q _ s1⟩
end
end Dh
namespace Dh
open PySem PySem.Spec PyProof.Rows L2
/-! ### filled_parts -/
mutual
def wfP : Bool → TP → Prop
  | blk, .mk kd nm as ws => ws.length ≤ 4 ∧ wfPs false ws ∧ ((blk = true ∧ kd = eachL ∧ nm = cL ∧ as = []) ∨ (kd = tagL ∧ isName nm = true ∧ as.length ≤ 1 ∧ ∀ a ∈ as, isName a.1 = true ∧ (∀ p ∈ a.2, p = .hl aL) ∧ a.2.length ≤ 3) ∨ (kd = holeL ∧ nm = aL ∧ as = []))
def wfPs : Bool → List TP → Prop
  | _, [] => True
  | b, p :: ps => wfP b p ∧ wfPs b ps
end
mutual
def fillP : List Nat → List (List Nat) → TP → List MP
  | ta, cs, .mk kd nm as ws =>
    if kd = eachL then (cs.map fun u => fillPs u [] ws).flatten
    else if kd = tagL then [.nd (nodeD nm (as.map fun a => (a.1, attrX a.1 a.2 ta)) (fillPs ta [] ws)) (.tuple []) (.list [])]
    else [.sg ta (.tuple []) (.list [])]
def fillPs : List Nat → List (List Nat) → List TP → List MP
  | _, _, [] => []
  | ta, cs, p :: ps => fillP ta cs p ++ fillPs ta cs ps
end
theorem wfPs_mem {b : Bool} : ∀ {ps : List TP} {p : TP}, wfPs b ps → p ∈ ps → wfP b p
  | q :: ps, p, h, hm => by
    rw [wfPs] at h
    rcases List.mem_cons.mp hm with e | e
    · rw [e]; exact h.1
    · exact wfPs_mem h.2 e
theorem fillPs_app (ta : List Nat) (cs : List (List Nat)) : ∀ ps qs : List TP, fillPs ta cs (ps ++ qs) = fillPs ta cs ps ++ fillPs ta cs qs
  | [], qs => by simp [fillPs]
  | p :: ps, qs => by simp [fillPs, fillPs_app ta cs ps qs]
theorem fill_len0 (ta : List Nat) (cs : List (List Nat)) : ∀ {ps : List TP}, wfPs false ps → (fillPs ta cs ps).length = ps.length
  | [], _ => by simp [fillPs]
  | .mk kd nm as ws :: ps, h => by
    rw [wfPs, wfP] at h
    have ih := fill_len0 ta cs h.2
    have e1 : (fillP ta cs (.mk kd nm as ws)).length = 1 := by
      rw [fillP]
      rcases h.1.2.2 with ⟨e, _⟩ | ⟨e, _⟩ | ⟨e, _⟩
      · cases e
      · subst e; simp
      · subst e; simp
    rw [fillPs, List.length_append, e1, ih, List.length_cons]
    omega
theorem fill_len {ta : List Nat} {cs : List (List Nat)} (hc : cs.length ≤ 4) : ∀ {b : Bool} {ps : List TP}, wfPs b ps → (fillPs ta cs ps).length ≤ 16 * ps.length
  | _, [], _ => by simp [fillPs]
  | b, .mk kd nm as ws :: ps, h => by
    rw [wfPs, wfP] at h
    have ih := fill_len (ta := ta) hc h.2
    have e1 : (fillP ta cs (.mk kd nm as ws)).length ≤ 16 := by
      rw [fillP]
      split
      · rw [List.length_flatten, List.map_map]
        have : ∀ cs : List (List Nat), (cs.map (List.length ∘ fun u => fillPs u [] ws)).sum = cs.length * ws.length := by
          intro cs
          induction cs with
          | nil => simp
          | cons u cs ih2 =>
            rw [List.map_cons, List.sum_cons, ih2, List.length_cons]
            show (fillPs u [] ws).length + _ = _
            rw [fill_len0 u [] h.1.2.1, Nat.add_mul]
            omega
        rw [this]
        exact Nat.mul_le_mul hc h.1.1
      · split <;> simp
    rw [fillPs, List.length_append, List.length_cons]
    omega
mutual
theorem fillP_small {ta : List Nat} {cs : List (List Nat)} (h1 : ta.length ≤ 20) (h2 : ∀ u ∈ cs, u.length ≤ 20) : ∀ p : TP, ∀ m ∈ fillP ta cs p, mpN m ≤ 20
  | .mk kd nm as ws => by
    intro m hm
    rw [fillP] at hm
    split at hm
    · obtain ⟨l, hl, hml⟩ := List.mem_flatten.mp hm
      obtain ⟨u, hu, rfl⟩ := List.mem_map.mp hl
      exact fillPs_small (h2 u hu) (fun _ h => by cases h) ws m hml
    · split at hm
      · simp only [List.mem_cons, List.not_mem_nil, or_false] at hm
        subst hm
        exact Nat.zero_le _
      · simp only [List.mem_cons, List.not_mem_nil, or_false] at hm
        subst hm
        exact h1
theorem fillPs_small {ta : List Nat} {cs : List (List Nat)} (h1 : ta.length ≤ 20) (h2 : ∀ u ∈ cs, u.length ≤ 20) : ∀ ps : List TP, ∀ m ∈ fillPs ta cs ps, mpN m ≤ 20
  | [] => by intro m hm; rw [fillPs] at hm; cases hm
  | p :: ps => by
    intro m hm
    rw [fillPs] at hm
    rcases List.mem_append.mp hm with hm | hm
    · exact fillP_small h1 h2 p m hm
    · exact fillPs_small h1 h2 ps m hm
end
theorem sum_small : ∀ {l : List MP}, (∀ m ∈ l, mpN m ≤ 20) → (l.map mpN).sum ≤ 20 * l.length
  | [], _ => by simp
  | m :: l, h => by
    have h1 := h m (List.mem_cons_self ..)
    have h2 := sum_small (l := l) fun x hx => h x (List.mem_cons_of_mem _ hx)
    rw [List.map_cons, List.sum_cons, List.length_cons]
    omega
def CsK (K : PySem.W.Frag) (F : Hp) (rs : List Row) (cs : List (List Nat)) : Prop :=
  ∃ (c : Addr) (es : List Addr) (qs : List Row), lookUp (S cL) rs = some (.ref c) ∧ SqT K F c (es.map V.ref) ∧ DictsAt F es qs ∧ qs.length = cs.length ∧ cs.length ≤ 4 ∧ ∀ (i : Nat) (q : Row) (u : List Nat), qs[i]? = some q → cs[i]? = some u → TaOk (rs ++ [q]) u
section
variable {P : Program} {w : World} {K : PySem.W.Frag} {mg : Str → Option Value} {base : Heap} {C fI aWORDS aTURNED aBLOCKS : Addr} {fdI : FuncData}
def spFilledParts (K : PySem.W.Frag) (n : Nat) : Sp := fun vs H Q _ => ∃ (F : Hp) (b : Bool) (x : V) (ps : List TP) (a : Addr) (rs : List Row) (ta : List Nat) (cs : List (List Nat)), vs = [x, .ref a] ∧ Same F H ∧ Dp K F x (.list (tpsD ps)) ∧ tpsDep ps < n ∧ wfPs b ps ∧ ps.length ≤ 4 ∧
  RowsK K F a rs ∧ rs ≠ [] ∧ rs.length ≤ 9 ∧ TaOk rs ta ∧ cs.length ≤ 4 ∧ (b = true → CsK K F rs cs ∧ rs.length ≤ 5) ∧
  ∀ H' F' v, Same H H' → Gr H F H' F' → LstAt K F' v ((fillPs ta cs ps).map mpD) → Q v H'
theorem filled_step (T : Tx K w mg C fI aWORDS aTURNED aBLOCKS fdI) {n : Nat} (G_filled_parts : Gf P w K mg base (n + 4) "filled_parts" ["parts", "rows"] (spFilledParts K n)) : Gf P w K mg base (n + 5) "filled_parts" ["parts", "rows"] (spFilledParts K (n + 1)) := by
  have G_text_by : Gf P w K mg base 2 "text_by" ["name", "rows"] (spTextBy K) := G_text_by T
  have G_rows_of : Gf P w K mg base 2 "rows_of" ["kind", "name", "rows"] (spRowsOf K) := G_rows_of T
  have G_attribute_by : Gf P w K mg base 3 "attribute_by" ["own", "parts", "rows"] (spAttributeBy K) := G_attribute_by T
  have G_merged : Gf P w K mg base 1 "merged" ["parts"] (spMerged K) := G_merged T
  refine gf_mk T.d_filled_parts sc_filled_parts (fun vs H Q E h => ?_) (fun f cdv A outer s H vs Q E hr h => ?_)
  · obtain ⟨F, b, x, ps, a, rs, ta, cs, rfl, _⟩ := h
    rfl
  · obtain ⟨F, b, x, ps, a, rs, ta, cs, rfl, sF, dx, hdep, hwf, hpl, hR, hrne, hrl, hTa, hcl, hCs, q⟩ := h
    refine ⟨_, (pss_cons (ps_set (i := 2) sc_filled_parts.nd rfl (Or.inl rfl) (pe_lst pa_nil))
  (pss_cons (ps_for PassesOwn.never rfl (pi_list (pv 0)) (pg_tup rfl (pgs_cons (pg_name (i := 3) sc_filled_parts.nd rfl (Or.inl rfl)) (pgs_cons (pg_name (i := 4) sc_filled_parts.nd rfl (Or.inl rfl)) (pgs_cons (pg_name (i := 5) sc_filled_parts.nd rfl (Or.inl rfl)) (pgs_cons (pg_name (i := 6) sc_filled_parts.nd rfl (Or.inl rfl)) pgs_nil)))))
  (pss_one (ps_if (pt_cmpR op_in_seq (pv 3) (pe_gR (by rfl) T.gBLOCKS) (by rfl)) (pss_one (ps_for PassesOwn.never rfl (pi_list (pe_callG G_rows_of (hr.mono (by first | decide | omega)) (by rfl) (pa_cons (pv 3) (pa_cons (pv 4) (pa_cons (pv 1) pa_nil))))) (pg_name (i := 7) sc_filled_parts.nd rfl (Or.inl rfl))
  (pss_one (ps_expr (pe_bm PySem.F.plainAttrs_list PySem.F.slot_list_extend PySem.F.type_list_extend mt_extend (pv 2) (pa_cons (pe_callG G_filled_parts (hr.mono (by first | decide | omega)) (by rfl) (pa_cons (pv 6) (pa_cons (pv 7) pa_nil))) pa_nil)))))) (pss_one (ps_if (pt_cmpR op_eq (pv 3) pe_str (nomark _)) (pss_cons (ps_set (i := 8) sc_filled_parts.nd rfl (Or.inl rfl) (pe_callTy call_tuple_of (by rfl) T.b_tuple (by decide +kernel) (pa_cons (pe_lc (own := [("own", 9), ("some", 10)]) rfl sc_filled_parts.nd (pi_tup (pv 5)) (blkOk_by (by kernel_rfl)) (fun _ _ _ _ _ => (pg_tupK K 2 rfl rfl (pgs_cons (pg_name (i := 9) sc_filled_parts.nd rfl (Or.inl rfl)) (pgs_cons (pg_name (i := 10) sc_filled_parts.nd rfl (Or.inl rfl)) pgs_nil)))) (fun _ _ _ _ _ => pts_nil) (fun _ _ _ _ _ => (pe_tup (pa_cons (pv 9) (pa_cons (pe_callG G_attribute_by (hr.mono (by first | decide | omega)) (by rfl) (pa_cons (pv 9) (pa_cons (pv 10) (pa_cons (pv 1) pa_nil)))) pa_nil))))) pa_nil)))
  (pss_one (ps_expr (pe_bm PySem.F.plainAttrs_list PySem.F.slot_list_append PySem.F.type_list_append mt_append (pv 2) (pa_cons (pe_tup (pa_cons pe_str (pa_cons (pe_tup (pa_cons (pv 4) (pa_cons (pv 8) (pa_cons (pe_callG G_merged (hr.mono (by first | decide | omega)) (by rfl) (pa_cons (pe_callG G_filled_parts (hr.mono (by first | decide | omega)) (by rfl) (pa_cons (pv 6) (pa_cons (pv 1) pa_nil))) pa_nil)) pa_nil)))) (pa_cons (pe_tup pa_nil) (pa_cons (pe_lst pa_nil) pa_nil))))) pa_nil))))) (pss_one (ps_expr (pe_bm PySem.F.plainAttrs_list PySem.F.slot_list_append PySem.F.type_list_append mt_append (pv 2) (pa_cons (pe_tup (pa_cons pe_str (pa_cons (pe_ifExp (pt_cmpR op_eq (pv 3) pe_str (nomark _)) (pv 4) (pe_callG G_text_by (hr.mono (by first | decide | omega)) (by rfl) (pa_cons (pv 4) (pa_cons (pv 1) pa_nil)))) (pa_cons (pe_tup pa_nil) (pa_cons (pe_lst pa_nil) pa_nil))))) pa_nil)))))))))
  (pss_one (ps_ret (pv 2))))), ?_⟩
    obtain ⟨pa, xs, rfl, hpa, hxs⟩ := Dp.lstI dx
    rw [tpsD_map] at hxs
    have hlx : xs.length = ps.length := by rw [DpAll.len hxs, List.length_map]
    have hta20 := hTa.2.2
    refine ⟨Nat.zero_le _, fun l hl => ?_⟩
    have M0 := ML.new (K := K) (Same.refl H) (Gr.refl sF) hl
    refine ⟨_, rfl, pa, rfl, ⟨_, M0.same.seq (sF.seq hpa)⟩, for_list (K := K) (a := pa) (xs := xs) (fun i σ H1 => ∃ (F1 : Hp) (v3 v4 v5 v6 v7 v8 : Option V), σ = [some (.ref pa), some (.ref a), some (.ref l), v3, v4, v5, v6, v7, v8, none, none] ∧ ML K H F l ((fillPs ta cs (ps.take i)).map mpD) H1 F1)
      ⟨F, none, none, none, none, none, none, rfl, by rw [List.take_zero, fillPs]; exact M0⟩ (fun i σ H1 _ ⟨F1, _, _, _, _, _, _, _, M⟩ => M.same.seq (sF.seq hpa)) ?_ ?_⟩
    · rintro i y σ H1 hy ⟨F1, v3, v4, v5, v6, v7, v8, rfl, M1⟩
      obtain ⟨d, hd, dy⟩ := DpAll.at hxs hy
      obtain ⟨p, hpi, rfl⟩ := map_atI hd
      obtain ⟨kd, nm, as, ws⟩ := p
      have hpm := List.mem_of_getElem? hpi
      have hwp := wfPs_mem hwf hpm
      rw [wfP] at hwp
      obtain ⟨hwl, hww, hcase⟩ := hwp
      have hpw : tpsDep ws < n := by
        have h1 := tpsDep_mem hpm
        rw [tpDep] at h1
        omega
      have hfl : (fillPs ta cs (ps.take i)).length ≤ 64 := by
        have h1 := fill_len (ta := ta) hcl hwf
        have h2 := take_app_le (fillPs ta cs) (fillPs_app ta cs) ps i
        omega
      have hsn : fillPs ta cs (ps.take (i + 1)) = fillPs ta cs (ps.take i) ++ fillP ta cs (.mk kd nm as ws) := by
        rw [take_snoc hpi, fillPs_app]
        simp [fillPs]
      have dy1 := Dp.same M1.gr.frz _ _ dy
      rw [tpD] at dy1
      obtain ⟨t, zs, rfl, ht, hzs⟩ := Dp.tupI dy1
      obtain ⟨z1, z2, z3, z4, rfl, c1, c2, c3, c4⟩ := DpAll.four hzs
      cases c1
      cases c2
      obtain ⟨tt, ya, rfl, htt, hya⟩ := Dp.tupI c3
      have hlya : ya.length = as.length := by rw [DpAll.len hya, List.length_map]
      have hR1 := hR.same M1.gr.frz
      refine ⟨t, _, rfl, same_seqT M1.gr.top ht, rfl, _, _, rfl, _, _, rfl, _, _, rfl, _, _, rfl, rfl, ?_⟩
      obtain ⟨us1, b1, b2, b3, hl1, b5, b6⟩ := id M1
      have hus1 : us1.length ≤ 64 := by rw [DpAll.len b5, List.length_map]; exact hfl
      refine ⟨_, rfl, aBLOCKS, BLK, rfl, .inr (T.sqBLOCKS H1), rfl, rfl, _, rfl, ?_⟩
      rcases hcase with ⟨eb, rfl, rfl, rfl⟩ | ⟨rfl, hnm, has, hat⟩ | ⟨rfl, rfl, rfl⟩
      · -- each
        refine ite_t (by show inV (.str (S eachL)) BLK = true; decide +kernel) ?_
        obtain ⟨⟨c, es, qs, k1, k2, k3, k4, k5, k6⟩, hr5⟩ := hCs eb
        refine ⟨_, rfl, _, rfl, _, rfl, F1, S cL, a, rs, c, es, qs, rfl, M1.gr.top, hR1, hrl, hrne, k1, same_seqT M1.gr.frz k2, k3.same M1.gr.frz, by omega, fun H2 F2 l2 us2 s2 g2 hl2 hrl2 => ?_⟩
        have efill : fillP ta cs (.mk eachL cL [] ws) = (cs.map fun u => fillPs u [] ws).flatten := by rw [fillP, if_pos rfl]
        refine ⟨l2, rfl, ⟨_, SqL.of (g2.top _ _ hl2)⟩, for_list (K := K) (a := l2) (xs := us2) (fun j σ H3 => ∃ (F3 : Hp) (v7 : Option V), σ = [some (.ref pa), some (.ref a), some (.ref l), some (.str (S eachL)), some (.str (S cL)), some (.ref tt), some z4, v7, v8, none, none] ∧
            ML K H F l ((fillPs ta cs (ps.take i) ++ ((cs.take j).map fun u => fillPs u [] ws).flatten).map mpD) H3 F3 ∧ Same F2 F3) ⟨F2, v7, rfl, by rw [List.take_zero, List.map_nil, List.flatten_nil, List.append_nil]; exact M1.keep s2 g2, Same.refl _⟩ (fun j σ H3 _ ⟨F3, _, _, M, sf⟩ => SqL.of (M.gr.top _ _ (sf _ _ hl2))) ?_ ?_⟩
        · rintro j y σ H3 hyj ⟨F3, w7, rfl, M3, sf3⟩
          obtain ⟨rr, ar, e1, rfl, hrr⟩ := RowsL.at hrl2 hyj
          obtain ⟨qq, hqq, rfl⟩ := map_atI e1
          have hj : j < cs.length := by rw [← k4]; exact (List.getElem?_eq_some_iff.mp hqq).1
          have hcj : cs[j]? = some cs[j] := List.getElem?_eq_getElem hj
          have hTj := k6 j qq cs[j] hqq hcj
          have hrow3 := hrr.same sf3
          obtain ⟨us3, d1, d2, d3, hl3, d5, d6⟩ := id M3
          refine ⟨_, rfl, .inl ⟨rfl, _, SqL.of hl3⟩, _, rfl, _, rfl, F3, false, z4, ws, ar, rs ++ [qq], cs[j], [], rfl, M3.gr.top, Dp.same (g2.frz.trans sf3) _ _ c4, hpw, hww, hwl, hrow3, by simp, by rw [List.length_append]; show _ + 1 ≤ 9; omega, hTj, by simp, (fun e => (by cases e)), fun H4 F4 v s4 g4 ⟨l4, us4, ev, hl4, hus4⟩ => ?_⟩
          subst ev
          have M4 := M3.keep s4 g4
          obtain ⟨us5, d1', d2', d3', hl5, d5', d6'⟩ := id M4
          refine ⟨l, l4, us5, us4, rfl, rfl, hl5, g4.top _ _ hl4, ?_, F4, _, rfl, ?_, sf3.trans g4.frz⟩
          · have h1 : us5.length ≤ 128 := by
              rw [DpAll.len d5', List.length_map, List.length_append]
              have h2 : (((cs.take j).map fun u => fillPs u [] ws).flatten).length ≤ 64 := by
                have : ∀ cs : List (List Nat), (((cs.map fun u => fillPs u [] ws).flatten).length) = cs.length * ws.length := by
                  intro cs
                  induction cs with
                  | nil => simp
                  | cons u cs ih2 =>
                    rw [List.map_cons, List.flatten_cons, List.length_append, ih2, List.length_cons, fill_len0 u [] hww, Nat.add_mul]
                    omega
                rw [this, List.length_take]
                have h3 : min j cs.length ≤ 4 := by omega
                have := Nat.mul_le_mul h3 hwl
                omega
              omega
            have h2 : us4.length ≤ 4 := by
              rw [DpAll.len hus4, List.length_map, fill_len0 _ _ hww]
              exact hwl
            exact Nat.le_trans (m := 200) (by omega) (by decide)
          · have e10 : ((cs.take (j + 1)).map fun u => fillPs u [] ws).flatten = ((cs.take j).map fun u => fillPs u [] ws).flatten ++ fillPs cs[j] [] ws := by
              rw [take_snoc hcj, List.map_append, List.flatten_append]
              simp
            rw [e10, ← List.append_assoc, List.map_append]
            exact M4.set (DpAll.app d5' hus4)
        · rintro σ H3 ⟨F3, w7, rfl, M3, sf3⟩
          have e8 : us2.length = cs.length := by rw [hrl2.len, List.length_map, k4]
          rw [e8, List.take_length, ← efill, ← hsn] at M3
          exact ⟨F3, _, _, _, _, _, _, rfl, M3⟩
      · -- tag
        refine ite_f (by show inV (.str (S tagL)) BLK = false; decide +kernel) ?_
        refine ⟨_, rfl, rfl, _, rfl, ?_⟩
        refine ite_t (by rw [tagS, dec_V]; rfl) ?_
        have efill : fillP ta cs (.mk tagL nm as ws) = [.nd (nodeD nm (as.map fun a => (a.1, attrX a.1 a.2 ta)) (fillPs ta [] ws)) (.tuple []) (.list [])] := by rw [fillP, if_neg (by decide), if_pos rfl]
        -- texts
        refine ⟨_, rfl, tt, rfl, ⟨_, same_seqT M1.gr.top htt⟩, fun D hD => ?_⟩
        refine lc_tup (K := K) (a := tt) (xs := ya) (LcI K H1 F1 D ((as.map fun a => (a.1, attrX a.1 a.2 ta)).map atX)) (LcI.init M1.gr.top hD) (fun j H _ hi => same_seqT (M1.gr.top.trans hi.same) htt) ?_ ?_
        · rintro j y H2 hyj ⟨F2, acc, sa, g2, fD, hDl, hacc⟩
          obtain ⟨d, hdj, dyj⟩ := DpAll.at hya hyj
          obtain ⟨aa, haa, rfl⟩ := map_atI hdj
          obtain ⟨j1, j2, j3⟩ := hat aa (List.mem_of_getElem? haa)
          obtain ⟨t2, zs2, rfl, ht2, hzs2⟩ := Dp.tupI (Dp.same g2.frz _ _ dyj)
          obtain ⟨x1, x2, rfl, m1, m2⟩ := DpAll.two hzs2
          cases m1
          refine ⟨t2, _, rfl, same_seqT g2.top ht2, rfl, _, _, rfl, _, _, rfl, rfl, rfl, ?_⟩
          refine ⟨_, rfl, _, rfl, _, rfl, _, rfl, F2, aa.1, x2, aa.2, a, rs, ta, rfl, g2.top, m2, hR1.same g2.frz, by omega, hTa, (fun p hp t e => ?_), by omega, fun H3 s3 => ⟨by show 2 ≤ sizeLine; decide, fun p hp => ?_⟩⟩
          · have := j2 p hp
            rw [e] at this
            cases this
            rfl
          have g3 := ((Gr.refl g2.top).same s3).mk2 (o := .tup [.str (S aa.1), .str (S (attrX aa.1 aa.2 ta))]) hp
          exact LcI.step hD (by simp; omega) sa g2 fD hDl hacc (d := atX (aa.1, attrX aa.1 aa.2 ta)) (by simp [haa]) (s3.trans (same_new hp)) g3 (Dp.tup' upd_same (.cons (.str _) (.cons (.str _) .nil)))
        intro H2 hfin
        obtain ⟨F2, acc, s2, g2, fD, hDl, hacc⟩ := hfin.fin (by simpa using hlya)
        refine ⟨D, _, rfl, .inl ⟨SqL.of hDl, fun tl htl => ?_⟩⟩
        have g3 := g2.mk2 (o := .tup acc) htl
        have s3 : Same F2 (upd F2 tl (.tup acc)) := same_new (g2.top.free htl)
        have sa3 := s2.trans (same_new (o := .tup acc) htl)
        have dtx : Dp K (upd F2 tl (.tup acc)) (.ref tl) (.tuple ((as.map fun a => (a.1, attrX a.1 a.2 ta)).map atX)) := Dp.tup' upd_same (DpAll.same s3 _ _ hacc)
        revert g3 sa3 dtx
        generalize upd F2 tl (.tup acc) = F3
        generalize upd H2 tl (.tup acc) = H3
        intro g3 sa3 dtx
        have M3 := M1.keep sa3 g3
        obtain ⟨us3, d1, d2, d3, hl3, d5, d6⟩ := id M3
        -- found.append(('node', (name, texts, merged(filled_parts(within, rows))), (), []))
        refine ⟨_, rfl, .inl ⟨rfl, _, SqL.of hl3⟩, _, rfl, _, rfl, _, rfl, _, rfl, F3, false, z4, ws, a, rs, ta, [], rfl, M3.gr.top, Dp.same g3.frz _ _ c4, hpw, hww, hwl, hR1.same g3.frz, hrne, hrl, hTa, by simp, (fun e => (by cases e)), fun H4 F4 v s4 g4 hL4 => ?_⟩
        obtain ⟨l4, us4, rfl, hl4, hus4⟩ := id hL4
        have hfw : (fillPs ta [] ws).length ≤ 4 := by rw [fill_len0 _ _ hww]; exact hwl
        have hsum := sum_small (fillPs_small (cs := []) hta20 (fun _ h => by cases h) ws)
        refine ⟨F4, l4, us4, fillPs ta [] ws, rfl, g4.top, SqL.of (g4.top _ _ hl4), hus4, by omega, by omega, fun H5 F5 m s5 g5 dm => ⟨by show 3 ≤ sizeLine; decide, fun p hp => ?_⟩⟩
        have g6 := (g4.trans g5).mk2 (o := .tup [.str (S nm), .ref tl, m]) hp
        have sa6 := (s4.trans s5).trans (same_new (o := .tup [.str (S nm), .ref tl, m]) hp)
        have s56 : Same F5 (upd F5 p (.tup [.str (S nm), .ref tl, m])) := same_new (g5.top.free hp)
        have dnd : Dp K (upd F5 p (.tup [.str (S nm), .ref tl, m])) (.ref p) (nodeD nm (as.map fun a => (a.1, attrX a.1 a.2 ta)) (fillPs ta [] ws)) :=
          Dp.tup' upd_same (.cons (.str _) (.cons (Dp.same ((g4.frz.trans g5.frz).trans s56) _ _ dtx) (.cons (Dp.same s56 _ _ dm) .nil)))
        revert g6 sa6 dnd
        generalize upd F5 p (.tup [.str (S nm), .ref tl, m]) = F6
        generalize upd H5 p (.tup [.str (S nm), .ref tl, m]) = H6
        intro g6 sa6 dnd
        have M6 := M3.keep sa6 g6
        refine ⟨Nat.zero_le _, fun e he => ⟨Nat.zero_le _, fun l7 hl7 => ⟨by show 4 ≤ sizeLine; decide, fun t7 ht7 => ?_⟩⟩⟩
        obtain ⟨F7, g7, _, d7⟩ := part_new (K := K) (x := .str "node") (y := .ref p) (Gr.refl M6.gr.top) he hl7 ht7 (.str _) dnd
        have s7 : Same H6 (upd (upd (upd H6 e (.tup [])) l7 (.lst [])) t7 (.tup [.str "node", .ref p, .ref e, .ref l7])) := ((same_new he).trans (same_new hl7)).trans (same_new ht7)
        obtain ⟨acc7, q1, q2, q3⟩ := M6.put (by rw [List.length_map]; omega) s7 g7 d7
        refine ⟨l, acc7, _, rfl, rfl, q1, q2, F7, _, _, _, _, v7, _, rfl, ?_⟩
        rw [hsn, efill, List.map_append]
        exact q3
      · -- hole
        refine ite_f (by show inV (.str (S holeL)) BLK = false; decide +kernel) ?_
        refine ⟨_, rfl, rfl, _, rfl, ?_⟩
        refine ite_f (by rw [tagS, dec_V]; rfl) ?_
        have efill : fillP ta cs (.mk holeL aL [] ws) = [.sg ta (.tuple []) (.list [])] := by rw [fillP, if_neg (by decide), if_neg (by decide)]
        refine ⟨_, rfl, .inl ⟨rfl, _, SqL.of hl1⟩, _, rfl, rfl, _, rfl, ?_⟩
        refine ite_f (by rw [signS, dec_V]; rfl) ?_
        obtain ⟨⟨v, hv, htx⟩, hta, htl⟩ := id hTa
        refine ⟨_, rfl, _, rfl, F1, _, a, rs, v, ta, rfl, M1.gr.top, hR1, by omega, hv, htx, fun H2 s2 => ?_⟩
        have M2 := M1.keep s2 ((Gr.refl M1.gr.top).same s2)
        refine ⟨Nat.zero_le _, fun e he => ⟨Nat.zero_le _, fun l7 hl7 => ⟨by show 4 ≤ sizeLine; decide, fun t7 ht7 => ?_⟩⟩⟩
        obtain ⟨F7, g7, _, d7⟩ := part_new (K := K) (x := .str "sign") (y := .str (S ta)) (Gr.refl M2.gr.top) he hl7 ht7 (.str _) (.str _)
        have s7 : Same H2 (upd (upd (upd H2 e (.tup [])) l7 (.lst [])) t7 (.tup [.str "sign", .str (S ta), .ref e, .ref l7])) := ((same_new he).trans (same_new hl7)).trans (same_new ht7)
        obtain ⟨acc7, q1, q2, q3⟩ := M2.put (by rw [List.length_map]; omega) s7 g7 d7
        refine ⟨l, acc7, _, rfl, rfl, q1, q2, F7, _, _, _, _, v7, v8, rfl, ?_⟩
        rw [hsn, efill, List.map_append]
        exact q3
    · rintro σ H1 ⟨F1, v3, v4, v5, v6, v7, v8, rfl, M1⟩
      rw [hlx, List.take_length] at M1
      obtain ⟨F2, s2, g2, _, L2'⟩ := M1.fin
      exact ⟨_, rfl, q _ _ _ s2 g2 L2'⟩
end
end Dh
namespace Dh
open PySem PySem.Spec PyProof.Rows L2
theorem DatV.mono {K : PySem.W.Frag} {F H : Hp} (s : Same F H) {d : Addr} {v : V} (h : DatV K F d v) : DatV K H d v :=
  h.imp id fun ⟨c, us, e, n, h1, h2, h3⟩ => ⟨c, us, e, n, same_seqT s h1, h2, fun u hu => let ⟨d2, k2, a, b, c, e⟩ := h3 u hu; ⟨d2, k2, a, b, s _ _ c, e⟩⟩
theorem Dat1.mono {K : PySem.W.Frag} {F H : Hp} (s : Same F H) {d : Addr} {kvs : Row} (h : Dat1 K F d kvs) : Dat1 K H d kvs :=
  ⟨s _ _ h.1, h.2.1, fun p hp => ⟨(h.2.2 p hp).1, (h.2.2 p hp).2.mono s⟩⟩
/-- what a template is filled with -/
structure Fill (K : PySem.W.Frag) (F : Hp) (ps : List TP) (d : Addr) (r0 : Row) (ta : List Nat) (cs : List (List Nat)) : Prop where
  dep : tpsDep ps < 3
  wf : wfPs true ps
  len : ps.length ≤ 4
  at_ : F d = some (.dK r0)
  ta : TaOk [r0] ta
  cs : CsK K F [r0] cs
theorem CsK.mono {K : PySem.W.Frag} {F F' : Hp} (s : Same F F') {rs : List Row} {cs : List (List Nat)} (h : CsK K F rs cs) : CsK K F' rs cs :=
  let ⟨c, es, qs, h1, h2, h3, h4⟩ := h
  ⟨c, es, qs, h1, same_seqT s h2, h3.same s, h4⟩
theorem Fill.mono {K : PySem.W.Frag} {F F' : Hp} (s : Same F F') {ps : List TP} {d : Addr} {r0 : Row} {ta : List Nat} {cs : List (List Nat)} (h : Fill K F ps d r0 ta cs) : Fill K F' ps d r0 ta cs :=
  ⟨h.dep, h.wf, h.len, s _ _ h.at_, h.ta, h.cs.mono s⟩
section
variable {P : Program} {w : World} {K : PySem.W.Frag} {mg : Str → Option Value} {base : Heap} {C fI aWORDS aTURNED aBLOCKS : Addr} {fdI : FuncData}
theorem G_holes_by (T : Tx K w mg C fI aWORDS aTURNED aBLOCKS fdI) : ∀ n : Nat, Gf P w K mg base (n + 1) "holes_by" ["parts"] (spHolesBy K n)
  | 0 => gf_mk T.d_holes_by sc_holes_by (fun vs H Q E ⟨F, x, ps, e, _, _, h, _⟩ => absurd h (Nat.not_lt_zero _)) (fun f cdv A outer s H vs Q E hr ⟨F, x, ps, e, _, _, h, _⟩ => absurd h (Nat.not_lt_zero _))
  | n + 1 => holes_step T (G_holes_by T n)
theorem G_filled_parts (T : Tx K w mg C fI aWORDS aTURNED aBLOCKS fdI) : ∀ n : Nat, Gf P w K mg base (n + 4) "filled_parts" ["parts", "rows"] (spFilledParts K n)
  | 0 => gf_mk T.d_filled_parts sc_filled_parts (fun vs H Q E ⟨F, b, x, ps, a, rs, ta, cs, e, _, _, h, _⟩ => absurd h (Nat.not_lt_zero _)) (fun f cdv A outer s H vs Q E hr ⟨F, b, x, ps, a, rs, ta, cs, e, _, _, h, _⟩ => absurd h (Nat.not_lt_zero _))
  | n + 1 => filled_step T (G_filled_parts T n)
/-! ### holes_of -/
def spHolesOf (K : PySem.W.Frag) : Sp := fun vs H Q _ => ∃ (F : Hp) (L : List Nat) (ps : List TP), vs = [.str (S L)] ∧ Same F H ∧ Read true L (tpsD ps) ∧ tpsDep ps < 3 ∧ (holePs ps).length ≤ 1000 ∧
  ∀ H' F' v, Same H H' → Gr H F H' F' → Dp K F' v (.tuple (holePs ps)) → Q v H'
theorem GB_holes_of (T : Tx K w mg C fI aWORDS aTURNED aBLOCKS fdI) : Gf P w K mg base 10 "holes_of" ["template"] (spHolesOf K) ∧ Gk P w K mg base 10 "holes_of" ["template"] false (spHolesOf K) := by
  have G_need_template : Gf P w K mg base 9 "need_template" ["thing"] (spNeedTemplate K) := G_need_template T
  have G_holes_by : Gf P w K mg base 4 "holes_by" ["parts"] (spHolesBy K 3) := G_holes_by T 3
  refine both_mk T.d_holes_of T.k_holes_of sc_holes_of (fun vs H Q E h => ?_) (fun f cdv A outer s H vs Q E hr h => ?_)
  · obtain ⟨F, L, ps, rfl, _⟩ := h
    rfl
  · obtain ⟨F, L, ps, rfl, sF, hR, hdep, hlen, q⟩ := h
    refine ⟨_, (pss_one (ps_ret (pe_callTy call_tuple_of (by rfl) T.b_tuple (by decide +kernel) (pa_cons (pe_callG G_holes_by (hr.mono (by first | decide | omega)) (by rfl) (pa_cons (pe_callG G_need_template (hr.mono (by first | decide | omega)) (by rfl) (pa_cons (pv 0) pa_nil)) pa_nil)) pa_nil)))), ?_⟩
    refine ⟨_, rfl, F, L, tpsD ps, rfl, sF, hR, fun H1 F1 v1 s1 g1 d1 => ?_⟩
    refine ⟨F1, v1, ps, rfl, g1.top, d1, hdep, hlen, fun H2 F2 v2 s2 g2 ⟨l, us, ev, hl, hus⟩ => ?_⟩
    subst ev
    refine ⟨l, us, rfl, .inl ⟨SqL.of (g2.top _ _ hl), fun t ht => ?_⟩⟩
    exact q _ _ _ (s1.trans (s2.trans (same_new ht))) ((g1.trans g2).mk2 ht) (Dp.tup' upd_same (DpAll.same (same_new (g2.top.free ht)) _ _ hus))
/-! ### tree_by, filled_tree, filled -/
def spTreeBy (K : PySem.W.Frag) : Sp := fun vs H Q _ => ∃ (F : Hp) (x : V) (ps : List TP) (d : Addr) (r0 : Row) (ta : List Nat) (cs : List (List Nat)), vs = [x, .ref d] ∧ Same F H ∧ Dp K F x (.list (tpsD ps)) ∧ Fill K F ps d r0 ta cs ∧
  ∀ H' F' v, Same H H' → Gr H F H' F' → Dp K F' v (.tuple (mgd (fillPs ta cs ps))) → Q v H'
theorem G_tree_by (T : Tx K w mg C fI aWORDS aTURNED aBLOCKS fdI) : Gf P w K mg base 8 "tree_by" ["parts", "data"] (spTreeBy K) := by
  have G_filled_parts : Gf P w K mg base 7 "filled_parts" ["parts", "rows"] (spFilledParts K 3) := G_filled_parts T 3
  have G_merged : Gf P w K mg base 1 "merged" ["parts"] (spMerged K) := G_merged T
  refine gf_mk T.d_tree_by sc_tree_by (fun vs H Q E h => ?_) (fun f cdv A outer s H vs Q E hr h => ?_)
  · obtain ⟨F, x, ps, d, r0, ta, cs, rfl, _⟩ := h
    rfl
  · obtain ⟨F, x, ps, d, r0, ta, cs, rfl, sF, dx, hf, q⟩ := h
    refine ⟨_, (pss_one (ps_ret (pe_callG G_merged (hr.mono (by first | decide | omega)) (by rfl) (pa_cons (pe_callG G_filled_parts (hr.mono (by first | decide | omega)) (by rfl) (pa_cons (pv 0) (pa_cons (pe_tup (pa_cons (pv 1) pa_nil)) pa_nil))) pa_nil)))), ?_⟩
    refine ⟨_, rfl, _, rfl, by show 1 ≤ sizeLine; decide, fun p hp => ?_⟩
    have g1 := (Gr.refl sF).mk2 (o := .tup [.ref d]) hp
    have sf1 : Same F (upd F p (.tup [.ref d])) := same_new (sF.free hp)
    have hf1 := hf.mono sf1
    have hcl : cs.length ≤ 4 := let ⟨_, _, _, _, _, _, _, h, _⟩ := hf.cs; h
    refine ⟨upd F p (.tup [.ref d]), true, x, ps, p, [r0], ta, cs, rfl, g1.top, Dp.same sf1 _ _ dx, hf.dep, hf.wf, hf.len, ⟨[d], SqT.of upd_same, hf1.at_, trivial⟩, by simp, by simp, hf.ta, hcl, fun _ => ⟨hf1.cs, by simp⟩, fun H2 F2 v2 s2 g2 hL => ?_⟩
    obtain ⟨l, us, rfl, hl, hus⟩ := id hL
    have hlen := fill_len (ta := ta) hcl hf.wf
    have hps := hf.len
    have hcs20 : ∀ u ∈ cs, u.length ≤ 20 := fun u hu => by
      obtain ⟨c, es, qs, k1, k2, k3, k4, k5, k6⟩ := hf.cs
      obtain ⟨i, hi⟩ := List.getElem?_of_mem hu
      have hi2 : i < qs.length := by rw [k4]; exact (List.getElem?_eq_some_iff.mp hi).1
      exact (k6 i _ u (List.getElem?_eq_getElem hi2) hi).2.2
    have hsum := sum_small (fillPs_small hf.ta.2.2 hcs20 ps)
    refine ⟨F2, l, us, fillPs ta cs ps, rfl, g2.top, SqL.of (g2.top _ _ hl), hus, by omega, by omega, fun H3 F3 v3 s3 g3 d3 => ?_⟩
    exact q _ _ _ ((same_new hp).trans (s2.trans s3)) ((g1.trans g2).trans g3) d3
def spFilledTree (K : PySem.W.Frag) : Sp := fun vs H Q _ => ∃ (F : Hp) (L : List Nat) (ps : List TP) (d : Addr) (r0 : Row) (ta : List Nat) (cs : List (List Nat)), vs = [.str (S L), .ref d] ∧ Same F H ∧ Read true L (tpsD ps) ∧ Dat1 K F d r0 ∧ Fill K F ps d r0 ta cs ∧
  ∀ H' F' v, Same H H' → Gr H F H' F' → Dp K F' v (.tuple (mgd (fillPs ta cs ps))) → Q v H'
theorem GB_filled_tree (T : Tx K w mg C fI aWORDS aTURNED aBLOCKS fdI) : Gf P w K mg base 10 "filled_tree" ["template", "data"] (spFilledTree K) ∧ Gk P w K mg base 10 "filled_tree" ["data", "template"] true (spFilledTree K) := by
  have G_need_template : Gf P w K mg base 9 "need_template" ["thing"] (spNeedTemplate K) := G_need_template T
  have G_need_data : Gf P w K mg base 7 "need_data" ["thing"] (spNeedData K) := G_need_data T
  have G_tree_by : Gf P w K mg base 8 "tree_by" ["parts", "data"] (spTreeBy K) := G_tree_by T
  refine both_mk T.d_filled_tree T.k_filled_tree sc_filled_tree (fun vs H Q E h => ?_) (fun f cdv A outer s H vs Q E hr h => ?_)
  · obtain ⟨F, L, ps, d, r0, ta, cs, rfl, _⟩ := h
    rfl
  · obtain ⟨F, L, ps, d, r0, ta, cs, rfl, sF, hR, hD, hf, q⟩ := h
    refine ⟨_, (pss_cons (ps_set (i := 2) sc_filled_tree.nd rfl (Or.inl rfl) (pe_callG G_need_template (hr.mono (by first | decide | omega)) (by rfl) (pa_cons (pv 0) pa_nil)))
  (pss_cons (ps_expr (pe_callG G_need_data (hr.mono (by first | decide | omega)) (by rfl) (pa_cons (pv 1) pa_nil)))
  (pss_one (ps_ret (pe_callG G_tree_by (hr.mono (by first | decide | omega)) (by rfl) (pa_cons (pv 2) (pa_cons (pv 1) pa_nil))))))), ?_⟩
    refine ⟨_, rfl, F, L, tpsD ps, rfl, sF, hR, fun H1 F1 v1 s1 g1 d1 => ?_⟩
    refine ⟨_, rfl, d, r0, rfl, hD.mono (sF.trans s1), fun H2 s2 => ?_⟩
    have g2 := g1.same s2
    refine ⟨_, rfl, _, rfl, F1, v1, ps, d, r0, ta, cs, rfl, g2.top, d1, hf.mono g1.frz, fun H3 F3 v3 s3 g3 d3 => ?_⟩
    exact q _ _ _ (s1.trans (s2.trans s3)) (g2.trans g3) d3
def spFilled (K : PySem.W.Frag) : Sp := fun vs H Q _ => ∃ (F : Hp) (L : List Nat) (ps : List TP) (d : Addr) (r0 : Row) (ta : List Nat) (cs : List (List Nat)) (ns : List FN), vs = [.str (S L), .ref d] ∧ Same F H ∧ Read true L (tpsD ps) ∧ Dat1 K F d r0 ∧ Fill K F ps d r0 ta cs ∧
  mgd (fillPs ta cs ps) = ns.map fnD ∧ ns.length ≤ 100 ∧ (∀ n ∈ ns, FNok n) ∧ ∀ H', Same H H' → Q (.str (S (showT ns))) H'
theorem GB_filled (T : Tx K w mg C fI aWORDS aTURNED aBLOCKS fdI) : Gf P w K mg base 11 "filled" ["template", "data"] (spFilled K) ∧ Gk P w K mg base 11 "filled" ["data", "template"] true (spFilled K) := by
  have G_filled_tree : Gf P w K mg base 10 "filled_tree" ["template", "data"] (spFilledTree K) := (GB_filled_tree T).1
  have G_show_marks : Gf P w K mg base 5 "show_marks" ["nodes"] (spShowMarks K) := (GB_show_marks T).1
  refine both_mk T.d_filled T.k_filled sc_filled (fun vs H Q E h => ?_) (fun f cdv A outer s H vs Q E hr h => ?_)
  · obtain ⟨F, L, ps, d, r0, ta, cs, ns, rfl, _⟩ := h
    rfl
  · obtain ⟨F, L, ps, d, r0, ta, cs, ns, rfl, sF, hR, hD, hf, hm, hn, hns, q⟩ := h
    refine ⟨_, (pss_one (ps_ret (pe_callG G_show_marks (hr.mono (by first | decide | omega)) (by rfl) (pa_cons (pe_callG G_filled_tree (hr.mono (by first | decide | omega)) (by rfl) (pa_cons (pv 0) (pa_cons (pv 1) pa_nil))) pa_nil)))), ?_⟩
    refine ⟨_, rfl, _, rfl, F, L, ps, d, r0, ta, cs, rfl, sF, hR, hD, hf, fun H1 F1 v1 s1 g1 d1 => ?_⟩
    rw [hm] at d1
    exact ⟨F1, v1, ns, rfl, g1.top, d1, hn, hns, fun H2 s2 => q _ (s1.trans s2)⟩
end
end Dh
namespace Dh
open PySem PySem.Spec PyProof.Rows L2
/-! ### pieces_of -/
structure Pc where
  inner : List Nat
  w0 : List Nat
  wl : List Nat
  two : Bool
  sg : List Nat
def pcT (p : Pc) : List Nat := p.inner ++ (125 :: 125 :: p.sg)
def pcK (p : Pc) : Str := if p.inner = endL then "end" else if p.two then S p.w0 else "hole"
def pcN (p : Pc) : List Nat := if p.two then p.wl else p.w0
def pcD (p : Pc) : List PyData := [prD (pcK p) (S (pcN p)), prD "signs" (S p.sg)]
def PcOk (p : Pc) : Prop := Txt.split (S (pcT p)) (S [125, 125]) = [S p.inner, S p.sg] ∧ Txt.split (S p.inner) (S [32]) = (if p.two then [S p.w0, S p.wl] else [S p.w0]) ∧ (pcT p).length ≤ 1000
theorem star1 (x d : V) (rest : List V) : (x :: rest).take 1 ++ [d] ++ ((x :: rest).drop 1).drop ((x :: rest).length + 1 - 2) = [x, d] := by simp
theorem star1' (x : V) (rest : List V) : ((x :: rest).drop 1).take ((x :: rest).length + 1 - 2) = rest := by simp
section
variable {P : Program} {w : World} {K : PySem.W.Frag} {mg : Str → Option Value} {base : Heap} {C fI aWORDS aTURNED aBLOCKS : Addr} {fdI : FuncData}
def spPiecesOf (K : PySem.W.Frag) : Sp := fun vs H Q _ => ∃ (F : Hp) (L first : List Nat) (pcs : List Pc), vs = [.str (S L)] ∧ Same F H ∧ L.length ≤ 1000 ∧ Txt.split (S L) (S [123, 123]) = S first :: pcs.map (fun p => S (pcT p)) ∧ (∀ p ∈ pcs, PcOk p) ∧ pcs.length ≤ 100 ∧
  ∀ H' F' v, Same H H' → Gr H F H' F' → LstAt K F' v (prD "signs" (S first) :: (pcs.map pcD).flatten) → Q v H'
theorem pcs_len : ∀ pcs : List Pc, (pcs.map pcD).flatten.length = 2 * pcs.length
  | [] => rfl
  | p :: ps => by rw [List.map_cons, List.flatten_cons, List.length_append, pcs_len ps, List.length_cons]; show 2 + _ = _; omega
theorem G_pieces_of (T : Tx K w mg C fI aWORDS aTURNED aBLOCKS fdI) : Gf P w K mg base 1 "pieces_of" ["template"] (spPiecesOf K) := by
  refine gf_mk T.d_pieces_of sc_pieces_of (fun vs H Q E h => ?_) (fun f cdv A outer s H vs Q E hr h => ?_)
  · obtain ⟨F, L, first, pcs, rfl, _⟩ := h
    rfl
  · obtain ⟨F, L, first, pcs, rfl, sF, hL, hsp, hpc, hpl, q⟩ := h
    refine ⟨_, (pss_cons (ps_asg (pe_bm PySem.F.plainAttrs_str PySem.F.slot_str_split PySem.F.type_str_split mt_split (pv 0) (pa_cons pe_str pa_nil)) (pg_star (n := 2) (i := 1) rfl (pgs_cons (pg_name (i := 1) sc_pieces_of.nd rfl (Or.inl rfl)) (pgs_star (pg_name (i := 2) sc_pieces_of.nd rfl (Or.inl rfl)) pgs_nil))))
  (pss_cons (ps_set (i := 3) sc_pieces_of.nd rfl (Or.inl rfl) (pe_lst (pa_cons (pe_tup (pa_cons pe_str (pa_cons (pv 1) pa_nil))) pa_nil)))
  (pss_cons (ps_for PassesOwn.never rfl (pi_list (pv 2)) (pg_name (i := 4) sc_pieces_of.nd rfl (Or.inl rfl))
  (pss_cons (ps_asg (pe_bm PySem.F.plainAttrs_str PySem.F.slot_str_split PySem.F.type_str_split mt_split (pv 4) (pa_cons pe_str pa_nil)) (pg_lst rfl (pgs_cons (pg_name (i := 5) sc_pieces_of.nd rfl (Or.inl rfl)) (pgs_cons (pg_name (i := 6) sc_pieces_of.nd rfl (Or.inl rfl)) pgs_nil))))
  (pss_cons (ps_asg (pe_bm PySem.F.plainAttrs_str PySem.F.slot_str_split PySem.F.type_str_split mt_split (pv 5) (pa_cons pe_str pa_nil)) (pg_star (n := 2) (i := 0) rfl (pgs_star (pg_name (i := 7) sc_pieces_of.nd rfl (Or.inl rfl)) (pgs_cons (pg_name (i := 8) sc_pieces_of.nd rfl (Or.inl rfl)) pgs_nil))))
  (pss_cons (ps_expr (pe_bm PySem.F.plainAttrs_list PySem.F.slot_list_append PySem.F.type_list_append mt_append (pv 3) (pa_cons (pe_tup (pa_cons (pe_ifExp (pt_cmpR op_ne (pv 5) (pe_gS (by rfl) T.gEND) (nomark _)) (pe_ix ix_list (pe_op op_cat (pv 7) (pe_lst (pa_cons pe_str pa_nil))) pe_int (fun _ _ => rfl)) (pe_gS (by rfl) T.gEND)) (pa_cons (pv 8) pa_nil))) pa_nil)))
  (pss_one (ps_expr (pe_bm PySem.F.plainAttrs_list PySem.F.slot_list_append PySem.F.type_list_append mt_append (pv 3) (pa_cons (pe_tup (pa_cons pe_str (pa_cons (pv 6) pa_nil))) pa_nil))))))))
  (pss_one (ps_ret (pv 3)))))), ?_⟩
    refine ⟨_, rfl, rfl, _, _, rfl, rfl, by rw [opS, S_len]; rfl, by rw [S_len]; exact Nat.le_trans (m := 2000) (by omega) (by decide), ?_⟩
    rw [opS, hsp]
    intro p hp
    refine ⟨p, _, rfl, SqL.of upd_same, by simp, by simp; omega, fun D hD => ?_⟩
    rw [List.map_cons, star1, star1']
    refine ⟨_, _, rfl, _, _, rfl, rfl, ?_⟩
    have g1 := (Gr.refl sF).mk1 (o := .lst (V.str (S first) :: (pcs.map fun p => S (pcT p)).map V.str)) (sF.free hp)
    have g2 := g1.mk2 (o := .lst ((pcs.map fun p => S (pcT p)).map V.str)) hD
    have s2 := (same_new (o := .lst (V.str (S first) :: (pcs.map fun p => S (pcT p)).map V.str)) hp).trans (same_new (o := .lst ((pcs.map fun p => S (pcT p)).map V.str)) hD)
    have hD2 : upd F D (.lst ((pcs.map fun p => S (pcT p)).map V.str)) D = some (.lst ((pcs.map fun p => S (pcT p)).map V.str)) := upd_same
    revert g2 s2 hD2
    generalize upd F D (.lst ((pcs.map fun p => S (pcT p)).map V.str)) = F2
    generalize upd (upd H p (.lst (V.str (S first) :: (pcs.map fun p => S (pcT p)).map V.str))) D (.lst ((pcs.map fun p => S (pcT p)).map V.str)) = H2
    intro g2 s2 hD2
    clear g1
    -- found = [('signs', first)]
    refine ⟨_, rfl, by show 2 ≤ sizeLine; decide, fun t1 ht1 => ⟨by show 1 ≤ sizeLine; decide, fun l hl => ?_⟩⟩
    have g3 := g2.mk2 (o := .tup [.str "signs", .str (S first)]) ht1
    have M0 := (ML.new (K := K) (s2.trans (same_new (o := .tup [.str "signs", .str (S first)]) ht1)) g3 hl).set (ys := [.ref t1]) (es := [prD "signs" (S first)]) (.cons (Dp.tup' upd_same (.cons (.str _) (.cons (.str _) .nil))) .nil)
    have eM : upd (upd (upd H2 t1 (.tup [.str "signs", .str (S first)])) l (.lst [])) l (.lst [.ref t1]) = upd (upd H2 t1 (.tup [.str "signs", .str (S first)])) l (.lst [.ref t1]) := by
      funext b
      by_cases e : b = l
      · subst e; rw [upd_same, upd_same]
      · rw [upd_ne e, upd_ne e, upd_ne e]
    rw [eM] at M0
    have hD3 : upd F2 t1 (.tup [.str "signs", .str (S first)]) D = some (.lst ((pcs.map fun p => S (pcT p)).map V.str)) := (same_new (g2.top.free ht1)) _ _ hD2
    revert M0 hD3
    generalize upd F2 t1 (.tup [.str "signs", .str (S first)]) = F3
    generalize upd (upd H2 t1 (.tup [.str "signs", .str (S first)])) l (.lst [.ref t1]) = H3
    intro M0 hD3
    refine ⟨_, rfl, D, rfl, ⟨_, SqL.of (M0.gr.top _ _ hD3)⟩, for_list (K := K) (a := D) (xs := (pcs.map fun p => S (pcT p)).map V.str) (fun i σ H1 => ∃ (F1 : Hp) (v4 v5 v6 v7 v8 : Option V), σ = [some (.str (S L)), some (.str (S first)), some (.ref D), some (.ref l), v4, v5, v6, v7, v8] ∧ ML K H F l (prD "signs" (S first) :: ((pcs.take i).map pcD).flatten) H1 F1 ∧ Same F3 F1)
      ⟨F3, none, none, none, none, none, rfl, M0, Same.refl _⟩ (fun i σ H1 _ ⟨F1, _, _, _, _, _, _, M, sf⟩ => SqL.of (M.gr.top _ _ (sf _ _ hD3))) ?_ ?_⟩
    · rintro i y σ H4 hy ⟨F4, v4, v5, v6, v7, v8, rfl, M4, sf4⟩
      obtain ⟨z, hz, rfl⟩ := map_atI hy
      obtain ⟨pc, hpi, rfl⟩ := map_atI hz
      obtain ⟨k1, k2, k3⟩ := hpc pc (List.mem_of_getElem? hpi)
      have hil : pc.inner.length ≤ 1000 := by
        have := k3
        unfold pcT at this
        rw [List.length_append] at this
        omega
      have hlen : ((pcs.take i).map pcD).flatten.length ≤ 200 := by
        rw [pcs_len, List.length_take]
        omega
      -- inner, signs = one.split('}}')
      refine ⟨_, rfl, rfl, _, _, rfl, rfl, by rw [brS, S_len]; rfl, by rw [S_len]; exact Nat.le_trans (m := 2000) (by omega) (by decide), ?_⟩
      rw [brS, k1]
      intro p1 hp1
      refine ⟨p1, _, rfl, SqL.of upd_same, rfl, _, _, rfl, _, _, rfl, rfl, ?_⟩
      have M5 := M4.keep (same_new (o := .lst ([S pc.inner, S pc.sg].map V.str)) hp1) ((Gr.refl M4.gr.top).mk1 (o := .lst ([S pc.inner, S pc.sg].map V.str)) (M4.gr.top.free hp1))
      revert M5
      generalize upd H4 p1 (.lst ([S pc.inner, S pc.sg].map V.str)) = H5
      intro M5
      -- *words, name = inner.split(' ')
      refine ⟨_, rfl, rfl, _, _, rfl, rfl, by rw [spS, S_len]; rfl, by rw [S_len]; exact Nat.le_trans (m := 2000) (by omega) (by decide), ?_⟩
      rw [spS, k2]
      intro p2 hp2
      have x1 : ∀ d : V, ((if pc.two = true then [S pc.w0, S pc.wl] else [S pc.w0]).map V.str).take 0 ++ [d] ++ (((if pc.two = true then [S pc.w0, S pc.wl] else [S pc.w0]).map V.str).drop 0).drop (((if pc.two = true then [S pc.w0, S pc.wl] else [S pc.w0]).map V.str).length + 1 - 2) = [d, .str (S (pcN pc))] := fun d => by
        unfold pcN
        cases pc.two <;> rfl
      have x2 : (((if pc.two = true then [S pc.w0, S pc.wl] else [S pc.w0]).map V.str).drop 0).take (((if pc.two = true then [S pc.w0, S pc.wl] else [S pc.w0]).map V.str).length + 1 - 2) = (if pc.two = true then [V.str (S pc.w0)] else []) := by
        cases pc.two <;> rfl
      refine ⟨p2, _, rfl, SqL.of upd_same, ?_, ?_, fun D2 hD2 => ?_⟩
      · cases pc.two <;> simp
      · cases pc.two <;> simp
      rw [x1, x2]
      refine ⟨_, _, rfl, _, _, rfl, rfl, ?_⟩
      have M6 := M5.keep ((same_new (o := .lst ((if pc.two = true then [S pc.w0, S pc.wl] else [S pc.w0]).map V.str)) hp2).trans (same_new (o := .lst (if pc.two = true then [V.str (S pc.w0)] else [])) hD2)) (((Gr.refl M5.gr.top).mk1 (o := .lst ((if pc.two = true then [S pc.w0, S pc.wl] else [S pc.w0]).map V.str)) (M5.gr.top.free hp2)).mk2 (o := .lst (if pc.two = true then [V.str (S pc.w0)] else [])) hD2)
      have sf6 : Same F4 (upd F4 D2 (.lst (if pc.two = true then [V.str (S pc.w0)] else []))) := same_new (M5.gr.top.free (by
        cases e : H5 D2 with
        | none => rfl
        | some o => rw [upd_ne (ne_of_none e hp2), e] at hD2; cases hD2))
      have hDD : upd (upd H5 p2 (.lst ((if pc.two = true then [S pc.w0, S pc.wl] else [S pc.w0]).map V.str))) D2 (.lst (if pc.two = true then [V.str (S pc.w0)] else [])) D2 = some (.lst (if pc.two = true then [V.str (S pc.w0)] else [])) := upd_same
      revert M6 sf6 hDD
      generalize upd F4 D2 (.lst (if pc.two = true then [V.str (S pc.w0)] else [])) = F6
      generalize upd (upd H5 p2 (.lst ((if pc.two = true then [S pc.w0, S pc.wl] else [S pc.w0]).map V.str))) D2 (.lst (if pc.two = true then [V.str (S pc.w0)] else [])) = H6
      intro M6 sf6 hDD
      -- found.append((.., name))
      dsimp only
      refine seq_cut (fun σ' H' => ∃ F7, σ' = [some (.str (S L)), some (.str (S first)), some (.ref D), some (.ref l), some (.str (S (pcT pc))), some (.str (S pc.inner)), some (.str (S pc.sg)), some (.ref D2), some (.str (S (pcN pc)))] ∧
        ML K H F l (prD "signs" (S first) :: ((pcs.take i).map pcD).flatten ++ [prD (pcK pc) (S (pcN pc))]) H' F7 ∧ Same F6 F7) (fun N hN => ?_) ?_
      · obtain ⟨us, _, _, _, hl6, _⟩ := id M6
        refine ⟨_, rfl, .inl ⟨rfl, _, SqL.of hl6⟩, ?_⟩
        have fin : ∀ (H7 F7 : Hp) (z : Str), z = pcK pc → Same H6 H7 → Gr H6 F6 H7 F7 → ∀ t, H7 t = none → ∃ l_1 xs y, V.ref l = V.ref l_1 ∧ [V.ref t] = [y] ∧ upd H7 t (.tup [.str z, .str (S (pcN pc))]) l_1 = some (.lst xs) ∧ xs.length < sizeLine ∧ N [some (.str (S L)), some (.str (S first)), some (.ref D), some (.ref l), some (.str (S (pcT pc))), some (.str (S pc.inner)), some (.str (S pc.sg)), some (.ref D2), some (.str (S (pcN pc)))] (upd (upd H7 t (.tup [.str z, .str (S (pcN pc))])) l_1 (.lst (xs ++ [y]))) := fun H7 F7 z ez s7 g7 t ht => by
          subst ez
          have g8 := g7.mk2 (o := .tup [.str (pcK pc), .str (S (pcN pc))]) ht
          obtain ⟨acc, q1, q2, q3⟩ := M6.put (by rw [List.length_cons]; omega) (s7.trans (same_new ht)) g8 (d := prD (pcK pc) (S (pcN pc))) (Dp.tup' upd_same (.cons (.str _) (.cons (.str _) .nil)))
          exact ⟨l, acc, _, rfl, rfl, q1, q2, hN _ _ ⟨_, rfl, q3, g8.frz⟩⟩
        refine ⟨_, rfl, rfl, _, rfl, ?_⟩
        by_cases ei : pc.inner = endL
        · refine ite_f (by rw [endS, dec_V, decide_eq_true ei]; rfl) ?_
          refine ⟨_, rfl, by show 2 ≤ sizeLine; decide, fun t ht => ?_⟩
          exact fin H6 F6 _ (by unfold pcK; rw [if_pos ei]) (Same.refl _) (Gr.refl M6.gr.top) t ht
        · refine ite_t (by rw [endS, dec_V, decide_eq_false ei]; rfl) ?_
          refine ⟨_, rfl, by show 1 ≤ sizeLine; decide, fun q1 hq1 => ?_⟩
          have hDD7 : upd H6 q1 (.lst [.str "hole"]) D2 = some (.lst (if pc.two = true then [V.str (S pc.w0)] else [])) := same_new hq1 _ _ hDD
          refine ⟨D2, q1, _, _, rfl, rfl, hDD7, upd_same, ?_, fun q2 hq2 => ?_⟩
          · have : (if pc.two = true then [V.str (S pc.w0)] else []).length ≤ 1 := by cases pc.two <;> simp
            exact Nat.le_trans (m := 2) (by show _ + 1 ≤ 2; omega) (by decide)
          have hk : atI ((if pc.two = true then [V.str (S pc.w0)] else []) ++ [V.str "hole"]) 0 = some (.str (pcK pc)) := by
            unfold pcK
            rw [if_neg ei]
            cases pc.two <;> exact atI_nat (j := 0) rfl
          refine ⟨q2, _, _, _, rfl, rfl, SqL.of upd_same, hk, _, rfl, by show 2 ≤ sizeLine; decide, fun t ht => ?_⟩
          have g7 := (Gr.refl M6.gr.top).mk1 (o := .lst [.str "hole"]) (M6.gr.top.free hq1)
          have g8 := g7.mk1 (o := .lst ((if pc.two = true then [V.str (S pc.w0)] else []) ++ [V.str "hole"])) (g7.top.free hq2)
          exact fin _ F6 _ rfl ((same_new hq1).trans (same_new hq2)) g8 t ht
      rintro _ H7 ⟨F7, rfl, M7, sf7⟩
      -- found.append(('signs', signs))
      obtain ⟨us, _, _, _, hl7, _⟩ := id M7
      refine ⟨_, rfl, .inl ⟨rfl, _, SqL.of hl7⟩, _, rfl, by show 2 ≤ sizeLine; decide, fun t ht => ?_⟩
      have g8 := (Gr.refl M7.gr.top).mk2 (o := .tup [.str "signs", .str (S pc.sg)]) ht
      obtain ⟨acc, q1, q2, q3⟩ := M7.put (by rw [List.length_append, List.length_cons]; show _ + 1 + 1 ≤ _; omega) (same_new ht) g8 (d := prD "signs" (S pc.sg)) (Dp.tup' upd_same (.cons (.str _) (.cons (.str _) .nil)))
      refine ⟨l, acc, _, rfl, rfl, q1, q2, _, _, _, _, _, _, rfl, ?_, sf4.trans (sf6.trans (sf7.trans g8.frz))⟩
      have e9 : prD "signs" (S first) :: ((pcs.take (i + 1)).map pcD).flatten = prD "signs" (S first) :: ((pcs.take i).map pcD).flatten ++ [prD (pcK pc) (S (pcN pc))] ++ [prD "signs" (S pc.sg)] := by
        rw [take_snoc hpi, List.map_append, List.flatten_append]
        simp [pcD]
      rw [e9]
      exact q3
    · rintro σ H4 ⟨F4, v4, v5, v6, v7, v8, rfl, M4, sf4⟩
      rw [List.length_map, List.length_map, List.take_length] at M4
      obtain ⟨F5, s5, g5, _, L5⟩ := M4.fin
      exact ⟨_, rfl, q _ _ _ s5 g5 L5⟩
end
end Dh
namespace Dh
open PySem PySem.Spec PyProof.Rows L2
/-! ### nested -/
structure F3 where
  kd : Str
  nm : Str
  ds : List PyData
def F3.add (f : F3) (d : PyData) : F3 := { f with ds := f.ds ++ [d] }
def F3.whole (f : F3) : PyData := .tuple [.str f.kd, .str f.nm, .list f.ds]
def FmAt3 (K : PySem.W.Frag) (F H : Hp) (v : V) (l : Addr) (f : F3) : Prop :=
  ∃ t us, v = .ref t ∧ F t = some (.tup [.str f.kd, .str f.nm, .ref l]) ∧ F l = none ∧ H l = some (.lst us) ∧ DpAll K F us f.ds
def Stk3 (K : PySem.W.Frag) (F H : Hp) : List V → List Addr → List F3 → Prop
  | [], [], [] => True
  | v :: vs, l :: ls, f :: fs => FmAt3 K F H v l f ∧ l ∉ ls ∧ Stk3 K F H vs ls fs
  | _, _, _ => False
section
variable {K : PySem.W.Frag}
theorem Stk3.to {F F' H H' : Hp} (s : Same F F') : ∀ {vs : List V} {ls : List Addr} {fs : List F3}, Stk3 K F H vs ls fs → (∀ l ∈ ls, F l = none → H l ≠ none → F' l = none ∧ H' l = H l) → Stk3 K F' H' vs ls fs
  | [], [], [], _, _ => trivial
  | v :: vs, l :: ls, f :: fs, ⟨h1, h2, h3⟩, hl => by
    obtain ⟨t, us, q1, q2, q4, q5, q6⟩ := h1
    have e := hl l (List.mem_cons_self ..) q4 (some_ne q5)
    exact ⟨⟨t, us, q1, s _ _ q2, e.1, e.2.trans q5, DpAll.same s _ _ q6⟩, h2, Stk3.to s h3 fun l h => hl l (List.mem_cons_of_mem _ h)⟩
theorem Stk3.len {F H : Hp} : ∀ {vs : List V} {ls : List Addr} {fs : List F3}, Stk3 K F H vs ls fs → vs.length = fs.length
  | [], [], [], _ => rfl
  | _ :: _, _ :: _, _ :: _, ⟨_, _, h⟩ => congrArg Nat.succ (Stk3.len h)
theorem Stk3.mem {F H : Hp} : ∀ {vs : List V} {ls : List Addr} {fs : List F3}, Stk3 K F H vs ls fs → ∀ l ∈ ls, F l = none ∧ ∃ us, H l = some (.lst us)
  | [], [], [], _ => fun l h => by simp at h
  | _ :: _, l :: ls, _ :: _, ⟨⟨t, us, q1, q2, q4, q5, q6⟩, _, h⟩ => fun l' hm => by
    rcases List.mem_cons.mp hm with e | e
    · subst e; exact ⟨q4, us, q5⟩
    · exact Stk3.mem h l' e
theorem Stk3.one {F H : Hp} {vs : List V} {ls : List Addr} {f : F3} {fs : List F3} (this : Stk3 K F H vs ls (f :: fs)) : ∃ v vv l ll, vs = v :: vv ∧ ls = l :: ll := by
  cases vs with
  | nil => cases ls <;> exact this.elim
  | cons v vv =>
    cases ls with
    | nil => exact this.elim
    | cons l ll => exact ⟨v, vv, l, ll, rfl, rfl⟩
end
structure NS (K : PySem.W.Frag) (H0 F0 : Hp) (k : Addr) (H F : Hp) (vs : List V) (ls : List Addr) (fs : List F3) : Prop where
  gr : Gr H0 F0 H F
  sm : Same H0 H
  fk : F k = none
  sk : H k = some (.lst vs.reverse)
  st : Stk3 K F H vs ls fs
  ml : ∀ l ∈ ls, H0 l = none ∧ l ≠ k
  k0 : H0 k = none
section
variable {K : PySem.W.Frag} {H0 F0 : Hp} {k : Addr} {H F H' F' : Hp} {vs : List V} {v : V} {l : Addr} {ls : List Addr} {f : F3} {fs : List F3}
theorem NS.keep (h : NS K H0 F0 k H F vs ls fs) (s : Same H H') (g : Gr H F H' F') : NS K H0 F0 k H' F' vs ls fs :=
  ⟨h.gr.trans g, h.sm.trans s, g.stays h.fk h.sk, s _ _ h.sk, h.st.to g.frz fun l hm hF hH => ⟨g.new l hF hH, by
      cases e : H l with
      | none => exact absurd e hH
      | some o => exact s _ _ e⟩, h.ml, h.k0⟩
theorem NS.app {us : List V} {x : V} {d : PyData} (h : NS K H0 F0 k H F (v :: vs) (l :: ls) (f :: fs)) (hl : H l = some (.lst us)) (hx : Dp K F x d) :
    NS K H0 F0 k (upd H l (.lst (us ++ [x]))) F (v :: vs) (l :: ls) (f.add d :: fs) := by
  obtain ⟨hgr, hsm, hfk, hsk, ⟨⟨t, us', q1, q2, q4, q5, q6⟩, hn, hst⟩, hml, hk0⟩ := h
  obtain ⟨m1, m2⟩ := hml l (List.mem_cons_self ..)
  rw [hl] at q5
  cases q5
  refine ⟨hgr.mk1 q4, same_mut hsm m1, hfk, by rw [upd_ne (Ne.symm m2)]; exact hsk, ⟨⟨t, us ++ [x], q1, q2, q4, upd_same, DpAll.app q6 (.cons hx .nil)⟩, hn, ?_⟩, hml, hk0⟩
  exact hst.to (Same.refl F) fun l' hm h1 h2 => ⟨h1, by rw [upd_ne (fun (e : l' = l) => hn (by rw [← e]; exact hm))]⟩
theorem NS.push {t : Addr} {kd nm : Str} (h : NS K H0 F0 k H F vs ls fs) (hl : H l = none) (ht : upd H l (.lst []) t = none) :
    NS K H0 F0 k (upd (upd (upd H l (.lst [])) t (.tup [.str kd, .str nm, .ref l])) k (.lst (vs.reverse ++ [.ref t]))) (upd F t (.tup [.str kd, .str nm, .ref l])) (.ref t :: vs) (l :: ls) (⟨kd, nm, []⟩ :: fs) := by
  have g1 : Gr H0 F0 (upd H l (.lst [])) F := h.gr.mk1 (h.gr.top.free hl)
  have g2 := g1.mk2 (o := .tup [.str kd, .str nm, .ref l]) ht
  have nl : ∀ {x : Addr} {o : HO}, H x = some o → x ≠ l := fun h1 => ne_of_none h1 hl
  have nt : ∀ {x : Addr} {o : HO}, H x = some o → x ≠ t := fun {x o} h1 => ne_of_none (H := upd H l (.lst [])) (by rw [upd_ne (nl h1)]; exact h1) ht
  have Ft : F t = none := by
    cases e : F t with
    | none => rfl
    | some o => exact absurd rfl (nt (h.gr.top _ _ e))
  have Fl : F l = none := h.gr.top.free hl
  have lt : l ≠ t := ne_of_none (H := upd H l (.lst [])) upd_same ht
  have lk : l ≠ k := Ne.symm (nl h.sk)
  have sF : Same F (upd F t (.tup [.str kd, .str nm, .ref l])) := same_new Ft
  have H0l : H0 l = none := h.sm.free hl
  refine ⟨g2.mk1 ?_, same_mut (h.sm.trans ((same_new hl).trans (same_new ht))) h.k0, ?_, ?_, ⟨⟨t, [], rfl, upd_same, ?_, ?_, .nil⟩, ?_, ?_⟩, ?_, h.k0⟩
  · rw [upd_ne (nt h.sk)]
    exact h.fk
  · rw [upd_ne (nt h.sk)]
    exact h.fk
  · rw [upd_same, List.reverse_cons]
  · rw [upd_ne lt]
    exact Fl
  · rw [upd_ne lk, upd_ne lt, upd_same]
  · intro hm
    obtain ⟨_, us, e⟩ := h.st.mem l hm
    rw [hl] at e
    cases e
  · exact h.st.to sF fun l' hm h1 h2 => by
      obtain ⟨us, e⟩ := (h.st.mem l' hm).2
      exact ⟨by rw [upd_ne (nt e)]; exact h1, by rw [upd_ne (h.ml l' hm).2, upd_ne (nt e), upd_ne (nl e)]⟩
  · intro l' hm
    rcases List.mem_cons.mp hm with e | e
    · subst e
      exact ⟨H0l, lk⟩
    · exact h.ml l' e
theorem NS.pop {us : List V} (h : NS K H0 F0 k H F (v :: vs) (l :: ls) (f :: fs)) (hl : H l = some (.lst us)) :
    NS K H0 F0 k (upd H k (.lst vs.reverse)) (upd F l (.lst us)) vs ls fs ∧ Same F (upd F l (.lst us)) := by
  obtain ⟨hgr, hsm, hfk, hsk, ⟨⟨t, us', q1, q2, q4, q5, q6⟩, hn, hst⟩, hml, hk0⟩ := h
  obtain ⟨m1, m2⟩ := hml l (List.mem_cons_self ..)
  have sF : Same F (upd F l (.lst us)) := same_new q4
  have g1 : Gr H0 F0 (upd H k (.lst vs.reverse)) F := hgr.mk1 hfk
  refine ⟨⟨g1.fix (p := l) (o := .lst us) (by rw [upd_ne m2]; exact hl) q4 m1, same_mut hsm hk0, ?_, upd_same, ?_, fun l' hm => hml l' (List.mem_cons_of_mem _ hm), hk0⟩, sF⟩
  · rw [upd_ne (Ne.symm m2)]
    exact hfk
  · exact hst.to sF fun l' hm h1 h2 => ⟨by rw [upd_ne (fun (e : l' = l) => hn (by rw [← e]; exact hm))]; exact h1, by rw [upd_ne (hml l' (List.mem_cons_of_mem _ hm)).2]⟩
end
def isBlkS (z : Str) : Bool := inV (.str z) BLK
def NRun : List F3 → List (Str × Str) → List F3 → Prop
  | fs, [], fs' => fs = fs'
  | fs, p :: ps, fs' => (p.1 = "end" ∧ ∃ f f2 r, fs = f :: f2 :: r ∧ f2.ds.length ≤ 100 ∧ NRun (f2.add f.whole :: r) ps fs') ∨
    (p.1 ≠ "end" ∧ isBlkS p.1 = true ∧ fs.length ≤ 100 ∧ NRun (⟨p.1, p.2, []⟩ :: fs) ps fs') ∨
    (p.1 ≠ "end" ∧ isBlkS p.1 = false ∧ ∃ f r, fs = f :: r ∧ f.ds.length ≤ 100 ∧ NRun (f.add (.tuple [.str p.1, .str p.2, .list []]) :: r) ps fs')
theorem at2 {a b c : V} : atI [a, b, c] 2 = some c := atI_nat (j := 2) rfl
theorem rev_atN (v : V) (vs : List V) : atI (v :: vs).reverse (-1) = some v := by
  rw [List.reverse_cons]
  exact atI_last _ _
section
variable {P : Program} {w : World} {K : PySem.W.Frag} {mg : Str → Option Value} {base : Heap} {C fI aWORDS aTURNED aBLOCKS : Addr} {fdI : FuncData}
def spNested (K : PySem.W.Frag) : Sp := fun vs H Q _ => ∃ (F : Hp) (x : V) (ps : List (Str × Str)) (f1 : F3), vs = [x] ∧ Same F H ∧ Dp K F x (.list (ps.map fun p => prD p.1 p.2)) ∧ NRun [⟨S [], S [], []⟩] ps [f1] ∧
  ∀ H' F' v, Same H H' → Gr H F H' F' → LstAt K F' v f1.ds → Q v H'
theorem G_nested (T : Tx K w mg C fI aWORDS aTURNED aBLOCKS fdI) : Gf P w K mg base 1 "nested" ["pieces"] (spNested K) := by
  refine gf_mk T.d_nested sc_nested (fun vs H Q E h => ?_) (fun f cdv A outer s H vs Q E hr h => ?_)
  · obtain ⟨F, x, ps, f1, rfl, _⟩ := h
    rfl
  · obtain ⟨F, x, ps, f1, rfl, sF, dx, hrun, q⟩ := h
    refine ⟨_, (pss_cons (ps_set (i := 1) sc_nested.nd rfl (Or.inl rfl) (pe_lst (pa_cons (pe_tup (pa_cons pe_str (pa_cons pe_str (pa_cons (pe_lst pa_nil) pa_nil)))) pa_nil)))
  (pss_cons (ps_for PassesOwn.never rfl (pi_list (pv 0)) (pg_tup rfl (pgs_cons (pg_name (i := 2) sc_nested.nd rfl (Or.inl rfl)) (pgs_cons (pg_name (i := 3) sc_nested.nd rfl (Or.inl rfl)) pgs_nil)))
  (pss_one (ps_if (pt_cmpR op_eq (pv 2) (pe_gS (by rfl) T.gEND) (nomark _)) (pss_cons (ps_set (i := 4) sc_nested.nd rfl (Or.inl rfl) (pe_bm0 PySem.F.plainAttrs_list PySem.F.slot_list_pop PySem.F.type_list_pop mt_pop (pv 1)))
  (pss_one (ps_expr (pe_bm PySem.F.plainAttrs_list PySem.F.slot_list_append PySem.F.type_list_append mt_append (pe_ix ix_tup (pe_ix ix_list (pv 1) (pe_un un_neg pe_int) (fun _ _ => rfl)) pe_int (fun _ _ => rfl)) (pa_cons (pv 4) pa_nil))))) (pss_one (ps_if (pt_cmpR op_in_seq (pv 2) (pe_gR (by rfl) T.gBLOCKS) (by rfl)) (pss_one (ps_expr (pe_bm PySem.F.plainAttrs_list PySem.F.slot_list_append PySem.F.type_list_append mt_append (pv 1) (pa_cons (pe_tup (pa_cons (pv 2) (pa_cons (pv 3) (pa_cons (pe_lst pa_nil) pa_nil)))) pa_nil)))) (pss_one (ps_expr (pe_bm PySem.F.plainAttrs_list PySem.F.slot_list_append PySem.F.type_list_append mt_append (pe_ix ix_tup (pe_ix ix_list (pv 1) (pe_un un_neg pe_int) (fun _ _ => rfl)) pe_int (fun _ _ => rfl)) (pa_cons (pe_tup (pa_cons (pv 2) (pa_cons (pv 3) (pa_cons (pe_lst pa_nil) pa_nil)))) pa_nil)))))))))
  (pss_one (ps_ret (pe_ix ix_tup (pe_ix ix_list (pv 1) pe_int (fun _ _ => rfl)) pe_int (fun _ _ => rfl)))))), ?_⟩
    obtain ⟨pa, xs, rfl, hpa, hxs⟩ := Dp.lstI dx
    have hlx : xs.length = ps.length := by rw [DpAll.len hxs, List.length_map]
    refine ⟨Nat.zero_le _, fun l hl => ⟨by show 3 ≤ sizeLine; decide, fun t ht => ⟨by show 1 ≤ sizeLine; decide, fun k hk => ?_⟩⟩⟩
    rw [SemptyS] at hk ⊢
    have lt : l ≠ t := ne_of_none (H := upd H l (.lst [])) upd_same ht
    have lk : l ≠ k := ne_of_none (H := upd (upd H l (.lst [])) t (.tup [.str (S []), .str (S []), .ref l])) (by rw [upd_ne lt]; exact upd_same) hk
    have g1 := (Gr.refl sF).mk1 (o := .lst []) (sF.free hl)
    have g2 := g1.mk2 (o := .tup [.str (S []), .str (S []), .ref l]) ht
    have g3 := g2.mk1 (o := .lst [.ref t]) (g2.top.free hk)
    have s3 := ((same_new (o := .lst []) hl).trans (same_new (o := .tup [.str (S []), .str (S []), .ref l]) ht)).trans (same_new (o := .lst [.ref t]) hk)
    have k0 : H k = none := by
      cases e : H k with
      | none => rfl
      | some o => rw [((same_new (o := .lst []) hl).trans (same_new (o := .tup [.str (S []), .str (S []), .ref l]) ht)) _ _ e] at hk; cases hk
    have N0 : NS K H F k (upd (upd (upd H l (.lst [])) t (.tup [.str (S []), .str (S []), .ref l])) k (.lst [.ref t])) (upd F t (.tup [.str (S []), .str (S []), .ref l])) [.ref t] [l] [⟨S [], S [], []⟩] :=
      ⟨g3, s3, g2.top.free hk, upd_same, ⟨⟨t, [], rfl, upd_same, by rw [upd_ne lt]; exact sF.free hl, by rw [upd_ne lk, upd_ne lt, upd_same], .nil⟩, by simp, trivial⟩, fun l' hm => by
        have e : l' = l := by simpa using hm
        subst e
        exact ⟨hl, lk⟩, k0⟩
    revert N0
    generalize upd (upd (upd H l (.lst [])) t (.tup [.str (S []), .str (S []), .ref l])) k (.lst [.ref t]) = H2
    generalize upd F t (.tup [.str (S []), .str (S []), .ref l]) = F2
    intro N0
    refine ⟨_, rfl, pa, rfl, ⟨_, N0.sm.seq (sF.seq hpa)⟩, for_list (K := K) (a := pa) (xs := xs) (fun i σ H1 => ∃ (F1 : Hp) (vs : List V) (ls : List Addr) (fs : List F3) (v2 v3 v4 : Option V), σ = [some (.ref pa), some (.ref k), v2, v3, v4] ∧ NS K H F k H1 F1 vs ls fs ∧ NRun fs (ps.drop i) [f1])
      ⟨F2, _, _, _, none, none, none, rfl, N0, hrun⟩ (fun i σ H1 _ ⟨F1, _, _, _, _, _, _, _, N, _⟩ => N.sm.seq (sF.seq hpa)) ?_ ?_⟩
    · rintro i y σ H1 hy ⟨F1, vs, ls, fs, v2, v3, v4, rfl, N1, hr1⟩
      obtain ⟨d, hd, dy⟩ := DpAll.at hxs hy
      obtain ⟨p, hpi, rfl⟩ := map_atI hd
      have hdrop : ps.drop i = p :: ps.drop (i + 1) := by
        obtain ⟨hi, e⟩ := List.getElem?_eq_some_iff.mp hpi
        rw [List.drop_eq_getElem_cons hi, e]
      rw [hdrop, NRun] at hr1
      obtain ⟨t1, zs, rfl, ht1, hzs⟩ := Dp.tupI (Dp.same N1.gr.frz _ _ dy)
      obtain ⟨z1, z2, rfl, c1, c2⟩ := DpAll.two hzs
      cases c1
      cases c2
      refine ⟨t1, _, rfl, same_seqT N1.gr.top ht1, rfl, _, _, rfl, _, _, rfl, rfl, ?_⟩
      refine ⟨_, rfl, rfl, _, rfl, ?_⟩
      have hdec : ∀ x y : Str, decide (V.str x = V.str y) = decide (x = y) := fun x y => by
        by_cases e : x = y
        · subst e; simp
        · rw [decide_eq_false e, decide_eq_false fun h => e (V.str.inj h)]
      rcases hr1 with ⟨he, g, g2, r, rfl, hgl, hr2⟩ | ⟨he, hb, hfl, hr2⟩ | ⟨he, hb, g, r, rfl, hgl, hr2⟩
      · refine ite_t (by rw [hdec]; exact decide_eq_true he) ?_
        obtain ⟨v, vv, l1, ll, rfl, rfl⟩ := N1.st.one
        obtain ⟨w2, vv2, l2, ll2, rfl, rfl⟩ := Stk3.one N1.st.2.2
        obtain ⟨ta, us, rfl, hta, hFl, hl1, hus⟩ := N1.st.1
        obtain ⟨N2, sf2⟩ := N1.pop hl1
        refine ⟨_, rfl, .inl ⟨rfl, _, SqL.of N1.sk⟩, k, _, _, rfl, rfl, N1.sk, rev_last _ _, ?_⟩
        rw [rev_drop]
        have hlf : upd F1 l1 (.lst us) l1 = some (.lst us) := upd_same
        revert N2 sf2 hlf
        generalize upd F1 l1 (.lst us) = F3
        generalize upd H1 k (.lst (w2 :: vv2).reverse) = H3
        intro N2 sf2 hlf
        obtain ⟨tb, us2, rfl, htb, hFl2, hl2, hus2⟩ := N2.st.1
        refine ⟨_, rfl, _, rfl, k, _, _, _, rfl, rfl, SqL.of N2.sk, rev_atN _ _, tb, _, _, _, rfl, rfl, SqT.of (N2.gr.top _ _ htb), at2, .inl ⟨rfl, _, SqL.of hl2⟩, _, rfl, l2, us2, _, rfl, rfl, hl2, ?_, F3, _, _, _, _, _, _, rfl, N2.app hl2 (Dp.tup' (sf2 _ _ hta) (.cons (.str _) (.cons (.str _) (.cons (Dp.lst' hlf (DpAll.same sf2 _ _ hus)) .nil)))), hr2⟩
        rw [DpAll.len hus2]
        exact Nat.lt_of_le_of_lt hgl (by decide)
      · refine ite_f (by rw [hdec]; exact decide_eq_false he) ?_
        refine ⟨_, rfl, aBLOCKS, BLK, rfl, .inr (T.sqBLOCKS H1), rfl, rfl, _, rfl, ?_⟩
        refine ite_t hb ?_
        refine ⟨_, rfl, .inl ⟨rfl, _, SqL.of N1.sk⟩, _, rfl, _, rfl, Nat.zero_le _, fun l' hl' => ⟨by show 3 ≤ sizeLine; decide, fun t' ht' => ?_⟩⟩
        have N2 := N1.push (kd := p.1) (nm := p.2) hl' ht'
        have hk8 : upd (upd H1 l' (.lst [])) t' (.tup [.str p.1, .str p.2, .ref l']) k = some (.lst vs.reverse) := by
          rw [upd_ne (ne_of_none (H := upd H1 l' (.lst [])) (by rw [upd_ne (ne_of_none N1.sk hl')]; exact N1.sk) ht'), upd_ne (ne_of_none N1.sk hl')]
          exact N1.sk
        refine ⟨k, _, _, rfl, rfl, hk8, ?_, _, _, _, _, _, _, v4, rfl, N2, hr2⟩
        rw [List.length_reverse, N1.st.len]
        exact Nat.lt_of_le_of_lt hfl (by decide)
      · refine ite_f (by rw [hdec]; exact decide_eq_false he) ?_
        refine ⟨_, rfl, aBLOCKS, BLK, rfl, .inr (T.sqBLOCKS H1), rfl, rfl, _, rfl, ?_⟩
        refine ite_f hb ?_
        obtain ⟨v, vv, l1, ll, rfl, rfl⟩ := N1.st.one
        obtain ⟨ta, us, rfl, hta, hFl, hl1, hus⟩ := N1.st.1
        refine ⟨_, rfl, _, rfl, k, _, _, _, rfl, rfl, SqL.of N1.sk, rev_atN _ _, ta, _, _, _, rfl, rfl, SqT.of (N1.gr.top _ _ hta), at2, .inl ⟨rfl, _, SqL.of hl1⟩, _, rfl, _, rfl, Nat.zero_le _, fun l' hl' => ⟨by show 3 ≤ sizeLine; decide, fun t' ht' => ?_⟩⟩
        have g1' := ((Gr.refl N1.gr.top).mk2 (o := .lst []) hl').mk2 (o := .tup [.str p.1, .str p.2, .ref l']) ht'
        have s1' := (same_new (o := .lst []) hl').trans (same_new (o := .tup [.str p.1, .str p.2, .ref l']) ht')
        have N2 := N1.keep s1' g1'
        have lt' : l' ≠ t' := ne_of_none (H := upd H1 l' (.lst [])) upd_same ht'
        refine ⟨l1, us, _, rfl, rfl, s1' _ _ hl1, ?_, _, _, _, _, _, _, v4, rfl, N2.app (s1' _ _ hl1) (Dp.tup' upd_same (.cons (.str _) (.cons (.str _) (.cons (Dp.lst' (by rw [upd_ne lt']; exact upd_same) .nil) .nil)))), hr2⟩
        rw [DpAll.len hus]
        exact Nat.lt_of_le_of_lt hgl (by decide)
    · rintro σ H1 ⟨F1, vs, ls, fs, v2, v3, v4, rfl, N1, hr1⟩
      rw [hlx, List.drop_length] at hr1
      have efs : fs = [f1] := hr1
      subst efs
      obtain ⟨v, vv, l1, ll, rfl, rfl⟩ := N1.st.one
      have hst := N1.st.2.2
      have evv : vv = [] := by
        cases vv with
        | nil => rfl
        | cons a b => cases ll <;> exact hst.elim
      subst evv
      obtain ⟨ta, us, rfl, hta, hFl, hl1, hus⟩ := N1.st.1
      refine ⟨_, rfl, k, _, _, _, rfl, rfl, SqL.of N1.sk, atI_nat (j := 0) rfl, ta, _, _, _, rfl, rfl, SqT.of (N1.gr.top _ _ hta), at2, ?_⟩
      have hm := N1.ml l1 (List.mem_cons_self ..)
      exact q _ _ _ N1.sm (N1.gr.fix hl1 hFl hm.1) ⟨l1, us, rfl, upd_same, DpAll.same (same_new hFl) _ _ hus⟩
end
end Dh
namespace Dh
open PySem PySem.Spec PyProof.Rows L2
/-! ### pasted_by, pasted -/
inductive NP where
  | mk (kd nm : List Nat) (ws : List NP)
mutual
def npD : NP → PyData
  | .mk kd nm ws => .tuple [tS kd, tS nm, .list (npsD ws)]
def npsD : List NP → List PyData
  | [] => []
  | p :: ps => npD p :: npsD ps
end
mutual
def npDep : NP → Nat
  | .mk _ _ ws => npsDep ws + 1
def npsDep : List NP → Nat
  | [] => 0
  | p :: ps => max (npDep p) (npsDep ps)
end
theorem npsD_map : ∀ ps : List NP, npsD ps = ps.map npD
  | [] => by simp [npsD]
  | p :: ps => by simp [npsD, npsD_map ps]
theorem npsDep_mem : ∀ {ps : List NP} {p : NP}, p ∈ ps → npDep p ≤ npsDep ps
  | q :: ps, p, h => by
    rw [npsDep]
    rcases List.mem_cons.mp h with e | e
    · rw [e]; omega
    · have := npsDep_mem e
      omega
abbrev signsL : List Nat := [115, 105, 103, 110, 115]
theorem signsS : (Str.ofString "signs" : Str) = S signsL := by decide +kernel
mutual
def wfN : Bool → NP → Prop
  | blk, .mk kd nm ws => ws.length ≤ 4 ∧ wfNs false ws ∧ ((blk = true ∧ kd = eachL ∧ nm = cL) ∨ (kd = signsL ∧ nm.length ≤ 100) ∨ (kd = holeL ∧ nm = aL))
def wfNs : Bool → List NP → Prop
  | _, [] => True
  | b, p :: ps => wfN b p ∧ wfNs b ps
end
mutual
def pasN : List Nat → List (List Nat) → NP → List Nat
  | ta, cs, .mk kd nm ws => if kd = eachL then (cs.map fun u => pasNs u [] ws).flatten else if kd = signsL then nm else ta
def pasNs : List Nat → List (List Nat) → List NP → List Nat
  | _, _, [] => []
  | ta, cs, p :: ps => pasN ta cs p ++ pasNs ta cs ps
end
theorem wfNs_mem {b : Bool} : ∀ {ps : List NP} {p : NP}, wfNs b ps → p ∈ ps → wfN b p
  | q :: ps, p, h, hm => by
    rw [wfNs] at h
    rcases List.mem_cons.mp hm with e | e
    · rw [e]; exact h.1
    · exact wfNs_mem h.2 e
theorem pasNs_app (ta : List Nat) (cs : List (List Nat)) : ∀ ps qs : List NP, pasNs ta cs (ps ++ qs) = pasNs ta cs ps ++ pasNs ta cs qs
  | [], qs => by simp [pasNs]
  | p :: ps, qs => by simp [pasNs, pasNs_app ta cs ps qs]
theorem pas_len0 {ta : List Nat} (ht : ta.length ≤ 20) (cs : List (List Nat)) : ∀ {ps : List NP}, wfNs false ps → (pasNs ta cs ps).length ≤ 100 * ps.length
  | [], _ => by simp [pasNs]
  | .mk kd nm ws :: ps, h => by
    rw [wfNs, wfN] at h
    have ih := pas_len0 ht cs h.2
    have e1 : (pasN ta cs (.mk kd nm ws)).length ≤ 100 := by
      rw [pasN]
      rcases h.1.2.2 with ⟨e, _⟩ | ⟨e, hl⟩ | ⟨e, _⟩
      · cases e
      · subst e
        rw [if_neg (by decide), if_pos rfl]
        exact hl
      · subst e
        rw [if_neg (by decide), if_neg (by decide)]
        omega
    rw [pasNs, List.length_append, List.length_cons]
    omega
theorem pas_rows {ws : List NP} (hw : wfNs false ws) (hl : ws.length ≤ 4) : ∀ {cs : List (List Nat)}, (∀ u ∈ cs, u.length ≤ 20) → ((cs.map fun u => pasNs u [] ws).flatten).length ≤ 400 * cs.length
  | [], _ => by simp
  | u :: cs, h => by
    have h1 := pas_len0 (h u (List.mem_cons_self ..)) [] hw
    have h2 := pas_rows hw hl (cs := cs) fun x hx => h x (List.mem_cons_of_mem _ hx)
    rw [List.map_cons, List.flatten_cons, List.length_append, List.length_cons]
    omega
theorem pas_len {ta : List Nat} (ht : ta.length ≤ 20) {cs : List (List Nat)} (hc : cs.length ≤ 4) (hu : ∀ u ∈ cs, u.length ≤ 20) : ∀ {b : Bool} {ps : List NP}, wfNs b ps → (pasNs ta cs ps).length ≤ 1600 * ps.length
  | _, [], _ => by simp [pasNs]
  | b, .mk kd nm ws :: ps, h => by
    rw [wfNs, wfN] at h
    have ih := pas_len ht hc hu h.2
    have e1 : (pasN ta cs (.mk kd nm ws)).length ≤ 1600 := by
      rw [pasN]
      rcases h.1.2.2 with ⟨_, e, _⟩ | ⟨e, hl⟩ | ⟨e, _⟩
      · subst e
        rw [if_pos rfl]
        have := pas_rows h.1.2.1 h.1.1 hu
        omega
      · subst e
        rw [if_neg (by decide), if_pos rfl]
        omega
      · subst e
        rw [if_neg (by decide), if_neg (by decide)]
        omega
    rw [pasNs, List.length_append, List.length_cons]
    omega
section
variable {P : Program} {w : World} {K : PySem.W.Frag} {mg : Str → Option Value} {base : Heap} {C fI aWORDS aTURNED aBLOCKS : Addr} {fdI : FuncData}
def spPastedBy (K : PySem.W.Frag) (n : Nat) : Sp := fun vs H Q _ => ∃ (F : Hp) (b : Bool) (x : V) (ps : List NP) (a : Addr) (rs : List Row) (ta : List Nat) (cs : List (List Nat)), vs = [x, .ref a] ∧ Same F H ∧ Dp K F x (.list (npsD ps)) ∧ npsDep ps < n ∧ wfNs b ps ∧ ps.length ≤ 20 ∧
  RowsK K F a rs ∧ rs ≠ [] ∧ rs.length ≤ 9 ∧ TaOk rs ta ∧ cs.length ≤ 4 ∧ (∀ u ∈ cs, u.length ≤ 20) ∧ (b = true → CsK K F rs cs ∧ rs.length ≤ 5) ∧
  ∀ H', Same H H' → Q (.str (S (pasNs ta cs ps))) H'
theorem pasted_step (T : Tx K w mg C fI aWORDS aTURNED aBLOCKS fdI) {n : Nat} (G_pasted_by : Gf P w K mg base (n + 4) "pasted_by" ["parts", "rows"] (spPastedBy K n)) : Gf P w K mg base (n + 5) "pasted_by" ["parts", "rows"] (spPastedBy K (n + 1)) := by
  have G_text_by : Gf P w K mg base 2 "text_by" ["name", "rows"] (spTextBy K) := G_text_by T
  have G_rows_of : Gf P w K mg base 2 "rows_of" ["kind", "name", "rows"] (spRowsOf K) := G_rows_of T
  refine gf_mk T.d_pasted_by sc_pasted_by (fun vs H Q E h => ?_) (fun f cdv A outer s H vs Q E hr h => ?_)
  · obtain ⟨F, b, x, ps, a, rs, ta, cs, rfl, _⟩ := h
    rfl
  · obtain ⟨F, b, x, ps, a, rs, ta, cs, rfl, sF, dx, hdep, hwf, hpl, hR, hrne, hrl, hTa, hcl, hcu, hCs, q⟩ := h
    refine ⟨_, (pss_cons (ps_set (i := 2) sc_pasted_by.nd rfl (Or.inl rfl) pe_str)
  (pss_cons (ps_for PassesOwn.never rfl (pi_list (pv 0)) (pg_tup rfl (pgs_cons (pg_name (i := 3) sc_pasted_by.nd rfl (Or.inl rfl)) (pgs_cons (pg_name (i := 4) sc_pasted_by.nd rfl (Or.inl rfl)) (pgs_cons (pg_name (i := 5) sc_pasted_by.nd rfl (Or.inl rfl)) pgs_nil))))
  (pss_one (ps_if (pt_cmpR op_in_seq (pv 3) (pe_gR (by rfl) T.gBLOCKS) (by rfl)) (pss_one (ps_for PassesOwn.never rfl (pi_list (pe_callG G_rows_of (hr.mono (by first | decide | omega)) (by rfl) (pa_cons (pv 3) (pa_cons (pv 4) (pa_cons (pv 1) pa_nil))))) (pg_name (i := 6) sc_pasted_by.nd rfl (Or.inl rfl))
  (pss_one (ps_aug (i := 2) sc_pasted_by.nd rfl (Or.inl rfl) (pe_callG G_pasted_by (hr.mono (by first | decide | omega)) (by rfl) (pa_cons (pv 5) (pa_cons (pv 6) pa_nil))) iop_add_str)))) (pss_one (ps_aug (i := 2) sc_pasted_by.nd rfl (Or.inl rfl) (pe_ifExp (pt_cmpR op_eq (pv 3) pe_str (nomark _)) (pv 4) (pe_callG G_text_by (hr.mono (by first | decide | omega)) (by rfl) (pa_cons (pv 4) (pa_cons (pv 1) pa_nil)))) iop_add_str)))))
  (pss_one (ps_ret (pv 2))))), ?_⟩
    obtain ⟨pa, xs, rfl, hpa, hxs⟩ := Dp.lstI dx
    rw [npsD_map] at hxs
    have hlx : xs.length = ps.length := by rw [DpAll.len hxs, List.length_map]
    have hta20 := hTa.2.2
    refine ⟨_, rfl, pa, rfl, ⟨_, sF.seq hpa⟩, for_list (K := K) (a := pa) (xs := xs) (fun i σ H1 => ∃ (F1 : Hp) (v3 v4 v5 v6 : Option V), σ = [some (.ref pa), some (.ref a), some (.str (S (pasNs ta cs (ps.take i)))), v3, v4, v5, v6] ∧ Same H H1 ∧ Gr H F H1 F1)
      ⟨F, none, none, none, none, by rw [SemptyS, List.take_zero, pasNs]; rfl, Same.refl H, Gr.refl sF⟩ (fun i σ H1 _ ⟨F1, _, _, _, _, _, s1, _⟩ => s1.seq (sF.seq hpa)) ?_ ?_⟩
    · rintro i y σ H1 hy ⟨F1, v3, v4, v5, v6, rfl, s1, g1⟩
      obtain ⟨d, hd, dy⟩ := DpAll.at hxs hy
      obtain ⟨p, hpi, rfl⟩ := map_atI hd
      obtain ⟨kd, nm, ws⟩ := p
      have hpm := List.mem_of_getElem? hpi
      have hwp := wfNs_mem hwf hpm
      rw [wfN] at hwp
      obtain ⟨hwl, hww, hcase⟩ := hwp
      have hpw : npsDep ws < n := by
        have h1 := npsDep_mem hpm
        rw [npDep] at h1
        omega
      have hfl : (pasNs ta cs (ps.take i)).length ≤ 32000 := by
        have h1 := pas_len hta20 hcl hcu hwf
        have h2 := take_app_le (pasNs ta cs) (pasNs_app ta cs) ps i
        omega
      have hsn : pasNs ta cs (ps.take (i + 1)) = pasNs ta cs (ps.take i) ++ pasN ta cs (.mk kd nm ws) := by
        rw [take_snoc hpi, pasNs_app]
        simp [pasNs]
      have dy1 := Dp.same g1.frz _ _ dy
      rw [npD] at dy1
      obtain ⟨t, zs, rfl, ht, hzs⟩ := Dp.tupI dy1
      obtain ⟨z1, z2, z4, rfl, c1, c2, c4⟩ := DpAll.three hzs
      cases c1
      cases c2
      have hR1 := hR.same g1.frz
      refine ⟨t, _, rfl, same_seqT g1.top ht, rfl, _, _, rfl, _, _, rfl, _, _, rfl, rfl, ?_⟩
      refine ⟨_, rfl, aBLOCKS, BLK, rfl, .inr (T.sqBLOCKS H1), rfl, rfl, _, rfl, ?_⟩
      rcases hcase with ⟨eb, rfl, rfl⟩ | ⟨rfl, hnl⟩ | ⟨rfl, rfl⟩
      · refine ite_t (by show inV (.str (S eachL)) BLK = true; decide +kernel) ?_
        obtain ⟨⟨c, es, qs, k1, k2, k3, k4, k5, k6⟩, hr5⟩ := hCs eb
        refine ⟨_, rfl, _, rfl, _, rfl, F1, S cL, a, rs, c, es, qs, rfl, g1.top, hR1, hrl, hrne, k1, same_seqT g1.frz k2, k3.same g1.frz, by omega, fun H2 F2 l2 us2 s2 g2 hl2 hrl2 => ?_⟩
        have efill : pasN ta cs (.mk eachL cL ws) = (cs.map fun u => pasNs u [] ws).flatten := by rw [pasN, if_pos rfl]
        refine ⟨l2, rfl, ⟨_, SqL.of (g2.top _ _ hl2)⟩, for_list (K := K) (a := l2) (xs := us2) (fun j σ H3 => ∃ (F3 : Hp) (v6 : Option V), σ = [some (.ref pa), some (.ref a), some (.str (S (pasNs ta cs (ps.take i) ++ ((cs.take j).map fun u => pasNs u [] ws).flatten))), some (.str (S eachL)), some (.str (S cL)), some z4, v6] ∧
            Same H H3 ∧ Gr H F H3 F3 ∧ Same F2 F3) ⟨F2, v6, by rw [List.take_zero, List.map_nil, List.flatten_nil, List.append_nil]; rfl, s1.trans s2, g1.trans g2, Same.refl _⟩ (fun j σ H3 _ ⟨F3, _, _, _, g, sf⟩ => SqL.of (g.top _ _ (sf _ _ hl2))) ?_ ?_⟩
        · rintro j y σ H3 hyj ⟨F3, w6, rfl, s3, g3, sf3⟩
          obtain ⟨rr, ar, e1, rfl, hrr⟩ := RowsL.at hrl2 hyj
          obtain ⟨qq, hqq, rfl⟩ := map_atI e1
          have hj : j < cs.length := by rw [← k4]; exact (List.getElem?_eq_some_iff.mp hqq).1
          have hcj : cs[j]? = some cs[j] := List.getElem?_eq_getElem hj
          have hTj := k6 j qq cs[j] hqq hcj
          have hrow3 := hrr.same sf3
          have hl1 := pas_len0 hTj.2.2 [] hww
          have hl2' := pas_rows hww hwl (cs := cs.take j) fun u hu => hcu u (List.mem_of_mem_take hu)
          rw [List.length_take] at hl2'
          refine ⟨_, rfl, _, rfl, _, rfl, F3, false, z4, ws, ar, rs ++ [qq], cs[j], [], rfl, g3.top, Dp.same (g2.frz.trans sf3) _ _ c4, hpw, hww, by omega, hrow3, by simp, by rw [List.length_append]; show _ + 1 ≤ 9; omega, hTj, by simp, (fun u hu => (by cases hu)), (fun e => (by cases e)), fun H4 s4 => ?_⟩
          refine ⟨_, _, rfl, rfl, sz2 (by rw [List.length_append]; omega), F3, some (.ref ar), ?_, s3.trans s4, g3.same s4, sf3⟩
          have e10 : ((cs.take (j + 1)).map fun u => pasNs u [] ws).flatten = ((cs.take j).map fun u => pasNs u [] ws).flatten ++ pasNs cs[j] [] ws := by
            rw [take_snoc hcj, List.map_append, List.flatten_append]
            simp
          rw [e10, ← List.append_assoc, S_app]
          rfl
        · rintro σ H3 ⟨F3, w6, rfl, s3, g3, sf3⟩
          have e8 : us2.length = cs.length := by rw [hrl2.len, List.length_map, k4]
          rw [e8, List.take_length, ← efill, ← hsn]
          exact ⟨F3, _, _, _, _, rfl, s3, g3⟩
      · refine ite_f (by show inV (.str (S signsL)) BLK = false; decide +kernel) ?_
        have efill : pasN ta cs (.mk signsL nm ws) = nm := by rw [pasN, if_neg (by decide), if_pos rfl]
        refine ⟨_, rfl, _, rfl, rfl, _, rfl, ?_⟩
        refine ite_t (by rw [signsS, dec_V]; rfl) ?_
        refine ⟨_, rfl, _, _, rfl, rfl, sz2 (by omega), F1, some (.str (S signsL)), some (.str (S nm)), some z4, v6, ?_, s1, g1⟩
        rw [hsn, efill, S_app]
        rfl
      · refine ite_f (by show inV (.str (S holeL)) BLK = false; decide +kernel) ?_
        have efill : pasN ta cs (.mk holeL aL ws) = ta := by rw [pasN, if_neg (by decide), if_neg (by decide)]
        refine ⟨_, rfl, _, rfl, rfl, _, rfl, ?_⟩
        refine ite_f (by rw [signsS, dec_V]; rfl) ?_
        obtain ⟨⟨v, hv, htx⟩, hta, htl⟩ := id hTa
        refine ⟨_, rfl, _, rfl, F1, _, a, rs, v, ta, rfl, g1.top, hR1, by omega, hv, htx, fun H2 s2 => ?_⟩
        refine ⟨_, _, rfl, rfl, sz2 (by omega), F1, some (.str (S holeL)), some (.str (S aL)), some z4, v6, ?_, s1.trans s2, g1.same s2⟩
        rw [hsn, efill, S_app]
        rfl
    · rintro σ H1 ⟨F1, v3, v4, v5, v6, rfl, s1, g1⟩
      rw [hlx, List.take_length]
      exact ⟨_, rfl, q _ s1⟩
theorem G_pasted_by (T : Tx K w mg C fI aWORDS aTURNED aBLOCKS fdI) : ∀ n : Nat, Gf P w K mg base (n + 4) "pasted_by" ["parts", "rows"] (spPastedBy K n)
  | 0 => gf_mk T.d_pasted_by sc_pasted_by (fun vs H Q E ⟨F, b, x, ps, a, rs, ta, cs, e, _, _, h, _⟩ => absurd h (Nat.not_lt_zero _)) (fun f cdv A outer s H vs Q E hr ⟨F, b, x, ps, a, rs, ta, cs, e, _, _, h, _⟩ => absurd h (Nat.not_lt_zero _))
  | n + 1 => pasted_step T (G_pasted_by T n)
/-- what a template's text is cut into -/
def Cut (L : List Nat) (ns : List NP) : Prop := ∃ (first : List Nat) (pcs : List Pc) (ps : List (Str × Str)) (f1 : F3), L.length ≤ 1000 ∧ Txt.split (S L) (S [123, 123]) = S first :: pcs.map (fun p => S (pcT p)) ∧ (∀ p ∈ pcs, PcOk p) ∧ pcs.length ≤ 100 ∧
  prD "signs" (S first) :: (pcs.map pcD).flatten = ps.map (fun p => prD p.1 p.2) ∧ NRun [⟨S [], S [], []⟩] ps [f1] ∧ f1.ds = npsD ns ∧ npsDep ns < 3 ∧ wfNs true ns ∧ ns.length ≤ 20
def spPasted (K : PySem.W.Frag) : Sp := fun vs H Q _ => ∃ (F : Hp) (L : List Nat) (ds : List PyData) (ns : List NP) (d : Addr) (r0 : Row) (ta : List Nat) (cs : List (List Nat)), vs = [.str (S L), .ref d] ∧ Same F H ∧ Read true L ds ∧ Cut L ns ∧ Dat1 K F d r0 ∧ TaOk [r0] ta ∧ CsK K F [r0] cs ∧
  ∀ H', Same H H' → Q (.str (S (pasNs ta cs ns))) H'
theorem GB_pasted (T : Tx K w mg C fI aWORDS aTURNED aBLOCKS fdI) : Gf P w K mg base 10 "pasted" ["template", "data"] (spPasted K) ∧ Gk P w K mg base 10 "pasted" ["data", "template"] true (spPasted K) := by
  have G_need_template : Gf P w K mg base 9 "need_template" ["thing"] (spNeedTemplate K) := G_need_template T
  have G_need_data : Gf P w K mg base 7 "need_data" ["thing"] (spNeedData K) := G_need_data T
  have G_pieces_of : Gf P w K mg base 1 "pieces_of" ["template"] (spPiecesOf K) := G_pieces_of T
  have G_nested : Gf P w K mg base 1 "nested" ["pieces"] (spNested K) := G_nested T
  have G_pasted_by : Gf P w K mg base 7 "pasted_by" ["parts", "rows"] (spPastedBy K 3) := G_pasted_by T 3
  refine both_mk T.d_pasted T.k_pasted sc_pasted (fun vs H Q E h => ?_) (fun f cdv A outer s H vs Q E hr h => ?_)
  · obtain ⟨F, L, ds, ns, d, r0, ta, cs, rfl, _⟩ := h
    rfl
  · obtain ⟨F, L, ds, ns, d, r0, ta, cs, rfl, sF, hR, ⟨first, pcs, ps, f1, c1, c2, c3, c4, c5, c6, c7, c8, c9, c10⟩, hD, hTa, hCs, q⟩ := h
    refine ⟨_, (pss_cons (ps_expr (pe_callG G_need_template (hr.mono (by first | decide | omega)) (by rfl) (pa_cons (pv 0) pa_nil)))
  (pss_cons (ps_expr (pe_callG G_need_data (hr.mono (by first | decide | omega)) (by rfl) (pa_cons (pv 1) pa_nil)))
  (pss_one (ps_ret (pe_callG G_pasted_by (hr.mono (by first | decide | omega)) (by rfl) (pa_cons (pe_callG G_nested (hr.mono (by first | decide | omega)) (by rfl) (pa_cons (pe_callG G_pieces_of (hr.mono (by first | decide | omega)) (by rfl) (pa_cons (pv 0) pa_nil)) pa_nil)) (pa_cons (pe_tup (pa_cons (pv 1) pa_nil)) pa_nil))))))), ?_⟩
    refine ⟨_, rfl, F, L, ds, rfl, sF, hR, fun H1 F1 v1 s1 g1 d1 => ?_⟩
    refine ⟨_, rfl, d, r0, rfl, hD.mono (sF.trans s1), fun H2 s2 => ?_⟩
    have g2 := g1.same s2
    refine ⟨_, rfl, F1, L, first, pcs, rfl, g2.top, c1, c2, c3, c4, fun H3 F3 v3 s3 g3 hL3 => ?_⟩
    rw [c5] at hL3
    refine ⟨F3, v3, ps, f1, rfl, g3.top, hL3.dp, c6, fun H4 F4 v4 s4 g4 hL4 => ?_⟩
    rw [c7] at hL4
    refine ⟨_, rfl, by show 1 ≤ sizeLine; decide, fun p hp => ?_⟩
    have g5 := (((g2.trans g3).trans g4)).mk2 (o := .tup [.ref d]) hp
    have sf5 : Same F4 (upd F4 p (.tup [.ref d])) := same_new (g4.top.free hp)
    have hF4 : Same F F4 := (g1.frz.trans g3.frz).trans g4.frz
    have hcl : cs.length ≤ 4 := let ⟨_, _, _, _, _, _, _, h, _⟩ := hCs; h
    have hcs20 : ∀ u ∈ cs, u.length ≤ 20 := fun u hu => by
      obtain ⟨c, es, qs, k1, k2, k3, k4, k5, k6⟩ := hCs
      obtain ⟨i, hi⟩ := List.getElem?_of_mem hu
      have hi2 : i < qs.length := by rw [k4]; exact (List.getElem?_eq_some_iff.mp hi).1
      exact (k6 i _ u (List.getElem?_eq_getElem hi2) hi).2.2
    exact ⟨_, true, v4, ns, p, [r0], ta, cs, rfl, g5.top, Dp.same sf5 _ _ hL4.dp, c8, c9, c10, ⟨[d], SqT.of upd_same, sf5 _ _ (hF4 _ _ hD.1), trivial⟩, by simp, by simp, hTa, hcl, hcs20, fun _ => ⟨hCs.mono (hF4.trans sf5), by simp⟩,
      fun H6 s6 => q _ (((s1.trans s2).trans (s3.trans s4)).trans ((same_new hp).trans s6))⟩
end
end Dh
namespace Dh
open PySem PySem.Spec PyProof.Rows L2
/-! ### way_to_hole, breaks -/
theorem op_catT0 {X : Cx} : OpR X (binaryOp .Add) (fun x y H Q => ∃ a b ys, x = .ref a ∧ y = .ref b ∧ SqT X.K H a [] ∧ SqT X.K H b ys ∧ Q (.ref b) H) := by
  intro pins s σ H x y v u Q I rx ry h
  obtain ⟨a, b, ys, rfl, rfl, ha, hb, q⟩ := h
  cases rx
  cases ry
  obtain ⟨its, r1, p1, _⟩ := I.tuple ha
  obtain ⟨its2, r2, p2, _⟩ := I.tuple hb
  cases r1
  exact cat_tup0 p1 p2 ⟨.ref b, H, I, rfl, q⟩
section
variable {P : Program} {w : World} {K : PySem.W.Frag} {mg : Str → Option Value} {base : Heap} {C fI aWORDS aTURNED aBLOCKS : Addr} {fdI : FuncData}
def spWay0 (K : PySem.W.Frag) : Sp := fun vs H Q _ => ∃ (F : Hp) (x : V) (nm : List Nat) (ws ps : List TP), vs = [x] ∧ Same F H ∧ Dp K F x (.list (tpsD (.mk holeL nm [] ws :: ps))) ∧
  ∀ H' F' t e, Same H H' → Gr H F H' F' → F' e = some (.tup []) → F' t = some (.tup [.ref e, .str (S nm)]) → Q (.ref t) H'
theorem G_way0 (T : Tx K w mg C fI aWORDS aTURNED aBLOCKS fdI) : Gf P w K mg base 2 "way_to_hole" ["parts"] (spWay0 K) := by
  have G_way_to_hole : Gf P w K mg base 1 "way_to_hole" ["parts"] spNever := gf_mk T.d_way_to_hole sc_way_to_hole (fun vs H Q E h => h.elim) (fun f cdv A outer s H vs Q E hr h => h.elim)
  refine gf_mk T.d_way_to_hole sc_way_to_hole (fun vs H Q E h => ?_) (fun f cdv A outer s H vs Q E hr h => ?_)
  · obtain ⟨F, x, nm, ws, ps, rfl, _⟩ := h
    rfl
  · obtain ⟨F, x, nm, ws, ps, rfl, sF, dx, q⟩ := h
    refine ⟨_, (pss_cons (ps_for PassesOwn.never rfl (pi_list (pv 0)) (pg_tup rfl (pgs_cons (pg_name (i := 1) sc_way_to_hole.nd rfl (Or.inl rfl)) (pgs_cons (pg_name (i := 2) sc_way_to_hole.nd rfl (Or.inl rfl)) (pgs_cons (pg_name (i := 3) sc_way_to_hole.nd rfl (Or.inl rfl)) (pgs_cons (pg_name (i := 4) sc_way_to_hole.nd rfl (Or.inl rfl)) pgs_nil)))))
  (pss_cons (ps_setLc2 (i := 5) (own := [("own", 6), ("inner", 7), ("what", 8), ("hole", 9), ("none", 10), ("nothing", 11)]) (vs1 := [8, 9, 10, 11]) rfl sc_way_to_hole.nd rfl rfl (sw_true rfl rfl rfl (by decide +kernel)) (pi_tup (pv 3)) (blkOk_by (by kernel_rfl)) (by decide) (fun _ _ _ _ _ => (pg_tupK K 2 rfl rfl (pgs_cons (pg_name (i := 6) sc_way_to_hole.nd rfl (Or.inl rfl)) (pgs_cons (pg_name (i := 7) sc_way_to_hole.nd rfl (Or.inl rfl)) pgs_nil)))) (fun _ _ _ _ _ => pts_nil) (fun _ _ _ _ _ => (pi_listK K rfl (pv 7))) (fun _ _ _ _ _ => (pg_tupK K 4 rfl rfl (pgs_cons (pg_name (i := 8) sc_way_to_hole.nd rfl (Or.inl rfl)) (pgs_cons (pg_name (i := 9) sc_way_to_hole.nd rfl (Or.inl rfl)) (pgs_cons (pg_name (i := 10) sc_way_to_hole.nd rfl (Or.inl rfl)) (pgs_cons (pg_name (i := 11) sc_way_to_hole.nd rfl (Or.inl rfl)) pgs_nil)))))) (fun _ _ _ _ _ => (pts_one (pt_cmpR op_eq (pv 8) pe_str (nomark _)))) (fun _ _ _ _ _ => (pv 9)))
  (pss_cons (ps_if (pt_cmpR op_eq (pv 1) pe_str (nomark _)) (pss_one (ps_set (i := 5) sc_way_to_hole.nd rfl (Or.inl rfl) (pe_lst (pa_cons (pv 2) pa_nil)))) pss_nil)
  (pss_cons (ps_if (pt_cmpR (op_neL0 hr.units) (pv 5) (pe_lst pa_nil) (nomark _)) (pss_one (ps_ret (pe_tup (pa_cons (pe_tup pa_nil) (pa_cons (pe_ix ix_list (pv 5) pe_int (fun _ _ => rfl)) pa_nil))))) pss_nil)
  (pss_cons (ps_set (i := 12) sc_way_to_hole.nd rfl (Or.inl rfl) (pe_callG G_way_to_hole (hr.mono (by first | decide | omega)) (by rfl) (pa_cons (pv 4) pa_nil)))
  (pss_one (ps_if (pt_cmpR op_notN (pv 12) pe_non (nomark _)) (pss_cons (ps_set (i := 13) sc_way_to_hole.nd rfl (Or.inl rfl) (pe_ifExp (pt_cmpR op_in_seq (pv 1) (pe_gR (by rfl) T.gBLOCKS) (by rfl)) (pe_tup (pa_cons (pe_tup (pa_cons (pv 1) (pa_cons (pv 2) pa_nil))) pa_nil)) (pe_tup pa_nil)))
  (pss_one (ps_ret (pe_tup (pa_cons (pe_op op_catT0 (pv 13) (pe_ix ix_tup (pv 12) pe_int (fun _ _ => rfl))) (pa_cons (pe_ix ix_tup (pv 12) pe_int (fun _ _ => rfl)) pa_nil)))))) pss_nil)))))))
  (pss_one (ps_ret pe_non))), ?_⟩
    obtain ⟨pa, xs, rfl, hpa, hxs⟩ := Dp.lstI dx
    rw [tpsD_map] at hxs
    refine ⟨_, rfl, pa, rfl, ⟨_, sF.seq hpa⟩, for_list (K := K) (a := pa) (xs := xs) (fun i σ H1 => i = 0 ∧ σ = [some (.ref pa), none, none, none, none, none, none, none, none, none, none, none, none, none] ∧ H = H1)
      ⟨rfl, rfl, rfl⟩ (fun i σ H1 _ ⟨_, _, e⟩ => by subst e; exact sF.seq hpa) ?_ ?_⟩
    · rintro i y σ H1 hy ⟨rfl, rfl, rfl⟩
      obtain ⟨d, hd, dy⟩ := DpAll.at hxs hy
      have ed : tpD (.mk holeL nm [] ws) = d := by simpa using hd
      subst ed
      rw [tpD] at dy
      obtain ⟨t, zs, rfl, ht, hzs⟩ := Dp.tupI dy
      obtain ⟨z1, z2, z3, z4, rfl, c1, c2, c3, c4⟩ := DpAll.four hzs
      cases c1
      cases c2
      obtain ⟨tt, ya, rfl, htt, hya⟩ := Dp.tupI c3
      cases hya
      refine ⟨t, _, rfl, same_seqT sF ht, rfl, _, _, rfl, _, _, rfl, _, _, rfl, _, _, rfl, rfl, ?_⟩
      refine ⟨_, rfl, tt, rfl, ⟨_, same_seqT sF htt⟩, fun D hD => ⟨fun i m H' => i = 0 ∧ upd H D (.lst []) = H', ⟨0, rfl, rfl⟩, ?_⟩⟩
      rintro i m _ ⟨rfl, rfl⟩
      refine .inl ⟨⟨_, same_seqT (sF.trans (same_new hD)) htt, Nat.le_refl _⟩, ?_⟩
      have g1 := (Gr.refl sF).mk1 (o := .lst []) (sF.free hD)
      have s1 : Same H (upd H D (.lst [])) := same_new hD
      revert g1 s1
      generalize upd H D (.lst []) = H1
      intro g1 s1
      -- if kind == 'hole'
      refine ⟨_, rfl, rfl, _, rfl, ?_⟩
      refine ite_t (by rw [holeS, dec_V]; rfl) ?_
      refine ⟨_, rfl, by show 1 ≤ sizeLine; decide, fun l hl => ?_⟩
      have g2 := g1.mk1 (o := .lst [.str (S nm)]) (g1.top.free hl)
      have s2 := s1.trans (same_new (o := .lst [.str (S nm)]) hl)
      have h2 : upd H1 l (.lst [.str (S nm)]) l = some (.lst [.str (S nm)]) := upd_same
      revert g2 s2 h2
      generalize upd H1 l (.lst [.str (S nm)]) = H2
      intro g2 s2 h2
      -- if some != []
      refine ⟨_, rfl, Nat.zero_le _, fun e he => ⟨l, e, _, rfl, rfl, (same_new he).seq (SqL.of h2), SqL.of upd_same, _, rfl, ?_⟩⟩
      refine ite_t (by rfl) ?_
      have g3 := g2.mk1 (o := .lst []) (g2.top.free he)
      have s3 := s2.trans (same_new (o := .lst []) he)
      have h3 : upd H2 e (.lst []) l = some (.lst [.str (S nm)]) := same_new he _ _ h2
      revert g3 s3 h3
      generalize upd H2 e (.lst []) = H3
      intro g3 s3 h3
      refine ⟨Nat.zero_le _, fun e2 he2 => ?_⟩
      have h4 : upd H3 e2 (.tup []) l = some (.lst [.str (S nm)]) := same_new he2 _ _ h3
      refine ⟨_, rfl, l, _, _, _, rfl, rfl, SqL.of h4, atI_nat (j := 0) rfl, by show 2 ≤ sizeLine; decide, fun t2 ht2 => ?_⟩
      have g4 := (g3.mk2 (o := .tup []) he2).mk2 (o := .tup [.ref e2, .str (S nm)]) ht2
      have ne : e2 ≠ t2 := ne_of_none (H := upd H3 e2 (.tup [])) upd_same ht2
      exact q _ _ t2 e2 ((s3.trans (same_new he2)).trans (same_new ht2)) g4 (by rw [upd_ne ne]; exact upd_same) upd_same
    · rintro σ H1 ⟨h, _⟩
      have := DpAll.len hxs
      rw [h] at this
      simp at this
def spWay1 (K : PySem.W.Frag) : Sp := fun vs H Q _ => ∃ (F : Hp) (x : V) (nm nm2 : List Nat) (ws ws2 ps : List TP), vs = [x] ∧ Same F H ∧ Dp K F x (.list (tpsD (.mk tagL nm2 [] (.mk holeL nm [] ws :: ws2) :: ps))) ∧
  ∀ H' F' t e, Same H H' → Gr H F H' F' → F' e = some (.tup []) → F' t = some (.tup [.ref e, .str (S nm)]) → Q (.ref t) H'
theorem G_way1 (T : Tx K w mg C fI aWORDS aTURNED aBLOCKS fdI) : Gf P w K mg base 3 "way_to_hole" ["parts"] (spWay1 K) := by
  have G_way_to_hole : Gf P w K mg base 2 "way_to_hole" ["parts"] (spWay0 K) := G_way0 T
  refine gf_mk T.d_way_to_hole sc_way_to_hole (fun vs H Q E h => ?_) (fun f cdv A outer s H vs Q E hr h => ?_)
  · obtain ⟨F, x, nm, nm2, ws, ws2, ps, rfl, _⟩ := h
    rfl
  · obtain ⟨F, x, nm, nm2, ws, ws2, ps, rfl, sF, dx, q⟩ := h
    refine ⟨_, (pss_cons (ps_for PassesOwn.never rfl (pi_list (pv 0)) (pg_tup rfl (pgs_cons (pg_name (i := 1) sc_way_to_hole.nd rfl (Or.inl rfl)) (pgs_cons (pg_name (i := 2) sc_way_to_hole.nd rfl (Or.inl rfl)) (pgs_cons (pg_name (i := 3) sc_way_to_hole.nd rfl (Or.inl rfl)) (pgs_cons (pg_name (i := 4) sc_way_to_hole.nd rfl (Or.inl rfl)) pgs_nil)))))
  (pss_cons (ps_setLc2 (i := 5) (own := [("own", 6), ("inner", 7), ("what", 8), ("hole", 9), ("none", 10), ("nothing", 11)]) (vs1 := [8, 9, 10, 11]) rfl sc_way_to_hole.nd rfl rfl (sw_true rfl rfl rfl (by decide +kernel)) (pi_tup (pv 3)) (blkOk_by (by kernel_rfl)) (by decide) (fun _ _ _ _ _ => (pg_tupK K 2 rfl rfl (pgs_cons (pg_name (i := 6) sc_way_to_hole.nd rfl (Or.inl rfl)) (pgs_cons (pg_name (i := 7) sc_way_to_hole.nd rfl (Or.inl rfl)) pgs_nil)))) (fun _ _ _ _ _ => pts_nil) (fun _ _ _ _ _ => (pi_listK K rfl (pv 7))) (fun _ _ _ _ _ => (pg_tupK K 4 rfl rfl (pgs_cons (pg_name (i := 8) sc_way_to_hole.nd rfl (Or.inl rfl)) (pgs_cons (pg_name (i := 9) sc_way_to_hole.nd rfl (Or.inl rfl)) (pgs_cons (pg_name (i := 10) sc_way_to_hole.nd rfl (Or.inl rfl)) (pgs_cons (pg_name (i := 11) sc_way_to_hole.nd rfl (Or.inl rfl)) pgs_nil)))))) (fun _ _ _ _ _ => (pts_one (pt_cmpR op_eq (pv 8) pe_str (nomark _)))) (fun _ _ _ _ _ => (pv 9)))
  (pss_cons (ps_if (pt_cmpR op_eq (pv 1) pe_str (nomark _)) (pss_one (ps_set (i := 5) sc_way_to_hole.nd rfl (Or.inl rfl) (pe_lst (pa_cons (pv 2) pa_nil)))) pss_nil)
  (pss_cons (ps_if (pt_cmpR (op_neL0 hr.units) (pv 5) (pe_lst pa_nil) (nomark _)) (pss_one (ps_ret (pe_tup (pa_cons (pe_tup pa_nil) (pa_cons (pe_ix ix_list (pv 5) pe_int (fun _ _ => rfl)) pa_nil))))) pss_nil)
  (pss_cons (ps_set (i := 12) sc_way_to_hole.nd rfl (Or.inl rfl) (pe_callG G_way_to_hole (hr.mono (by first | decide | omega)) (by rfl) (pa_cons (pv 4) pa_nil)))
  (pss_one (ps_if (pt_cmpR op_notN (pv 12) pe_non (nomark _)) (pss_cons (ps_set (i := 13) sc_way_to_hole.nd rfl (Or.inl rfl) (pe_ifExp (pt_cmpR op_in_seq (pv 1) (pe_gR (by rfl) T.gBLOCKS) (by rfl)) (pe_tup (pa_cons (pe_tup (pa_cons (pv 1) (pa_cons (pv 2) pa_nil))) pa_nil)) (pe_tup pa_nil)))
  (pss_one (ps_ret (pe_tup (pa_cons (pe_op op_catT0 (pv 13) (pe_ix ix_tup (pv 12) pe_int (fun _ _ => rfl))) (pa_cons (pe_ix ix_tup (pv 12) pe_int (fun _ _ => rfl)) pa_nil)))))) pss_nil)))))))
  (pss_one (ps_ret pe_non))), ?_⟩
    obtain ⟨pa, xs, rfl, hpa, hxs⟩ := Dp.lstI dx
    rw [tpsD_map] at hxs
    refine ⟨_, rfl, pa, rfl, ⟨_, sF.seq hpa⟩, for_list (K := K) (a := pa) (xs := xs) (fun i σ H1 => i = 0 ∧ σ = [some (.ref pa), none, none, none, none, none, none, none, none, none, none, none, none, none] ∧ H = H1)
      ⟨rfl, rfl, rfl⟩ (fun i σ H1 _ ⟨_, _, e⟩ => by subst e; exact sF.seq hpa) ?_ ?_⟩
    · rintro i y σ H1 hy ⟨rfl, rfl, rfl⟩
      obtain ⟨d, hd, dy⟩ := DpAll.at hxs hy
      have ed : tpD (.mk tagL nm2 [] (.mk holeL nm [] ws :: ws2)) = d := by simpa using hd
      subst ed
      rw [tpD] at dy
      obtain ⟨t, zs, rfl, ht, hzs⟩ := Dp.tupI dy
      obtain ⟨z1, z2, z3, z4, rfl, c1, c2, c3, c4⟩ := DpAll.four hzs
      cases c1
      cases c2
      obtain ⟨tt, ya, rfl, htt, hya⟩ := Dp.tupI c3
      cases hya
      refine ⟨t, _, rfl, same_seqT sF ht, rfl, _, _, rfl, _, _, rfl, _, _, rfl, _, _, rfl, rfl, ?_⟩
      refine ⟨_, rfl, tt, rfl, ⟨_, same_seqT sF htt⟩, fun D hD => ⟨fun i m H' => i = 0 ∧ upd H D (.lst []) = H', ⟨0, rfl, rfl⟩, ?_⟩⟩
      rintro i m _ ⟨rfl, rfl⟩
      refine .inl ⟨⟨_, same_seqT (sF.trans (same_new hD)) htt, Nat.le_refl _⟩, ?_⟩
      have g1 := (Gr.refl sF).mk1 (o := .lst []) (sF.free hD)
      have s1 : Same H (upd H D (.lst [])) := same_new hD
      have hD1 : upd H D (.lst []) D = some (.lst []) := upd_same
      revert g1 s1 hD1
      generalize upd H D (.lst []) = H1
      intro g1 s1 hD1
      -- if kind == 'hole'
      refine ⟨_, rfl, rfl, _, rfl, ?_⟩
      refine ite_f (by rw [holeS, dec_V]; rfl) ?_
      -- if some != []
      refine ⟨_, rfl, Nat.zero_le _, fun e he => ⟨D, e, _, rfl, rfl, (same_new he).seq (SqL.of hD1), SqL.of upd_same, _, rfl, ?_⟩⟩
      refine ite_f (by rfl) ?_
      have g3 := g1.mk1 (o := .lst []) (g1.top.free he)
      have s3 := s1.trans (same_new (o := .lst []) he)
      revert g3 s3
      generalize upd H1 e (.lst []) = H3
      intro g3 s3
      -- found = way_to_hole(within)
      refine ⟨_, rfl, F, z4, nm, ws, ws2, rfl, g3.top, c4, fun H4 F4 t4 e4 s4 g4 he4 ht4 => ?_⟩
      refine ⟨_, rfl, rfl, _, rfl, iteT ?_⟩
      -- around
      refine ⟨_, rfl, aBLOCKS, BLK, rfl, .inr (T.sqBLOCKS H4), rfl, rfl, _, rfl, ?_⟩
      refine ite_f (by show inV (.str (S tagL)) BLK = false; decide +kernel) ?_
      refine ⟨Nat.zero_le _, fun e5 he5 => ?_⟩
      have g5 := g4.mk2 (o := .tup []) he5
      have hT := g4.top
      have ht5 : upd H4 e5 (.tup []) t4 = some (.tup [.ref e4, .str (S nm)]) := same_new he5 _ _ (hT _ _ ht4)
      have he45 : upd H4 e5 (.tup []) e4 = some (.tup []) := same_new he5 _ _ (hT _ _ he4)
      refine ⟨_, rfl, _, rfl, t4, _, _, _, rfl, rfl, SqT.of ht5, atI_nat (j := 0) rfl, e5, e4, _, rfl, rfl, SqT.of upd_same, SqT.of he45, _, rfl, t4, _, _, _, rfl, rfl, SqT.of ht5, atI_nat (j := 1) rfl, by show 2 ≤ sizeLine; decide, fun t6 ht6 => ?_⟩
      have g6 := (g3.trans g5).mk2 (o := .tup [.ref e4, .str (S nm)]) ht6
      have ne : e4 ≠ t6 := ne_of_none he45 ht6
      refine q _ _ t6 e4 (((s3.trans s4).trans (same_new he5)).trans (same_new ht6)) g6 ?_ upd_same
      rw [upd_ne ne]
      exact (same_new (hT.free he5)) _ _ he4
    · rintro σ H1 ⟨h, _⟩
      have := DpAll.len hxs
      rw [h] at this
      simp at this
/-! ### breaks -/
def spBreaks (K : PySem.W.Frag) : Sp := fun vs H Q _ => ∃ (F : Hp) (L : List Nat) (nm nm2 : List Nat) (ws ws2 ps : List TP), vs = [.str (S L)] ∧ Same F H ∧ Read true L (tpsD (.mk tagL nm2 [] (.mk holeL nm [] ws :: ws2) :: ps)) ∧
  ∀ H' d, Same H H' → H' d = some (.dK [(.inr (S nm), .str "\"")]) → Q (.ref d) H'
theorem GB_breaks (T : Tx K w mg C fI aWORDS aTURNED aBLOCKS fdI) : Gf P w K mg base 10 "breaks" ["template"] (spBreaks K) ∧ Gk P w K mg base 10 "breaks" ["template"] false (spBreaks K) := by
  have G_need_template : Gf P w K mg base 9 "need_template" ["thing"] (spNeedTemplate K) := G_need_template T
  have G_way_to_hole : Gf P w K mg base 3 "way_to_hole" ["parts"] (spWay1 K) := G_way1 T
  refine both_mk T.d_breaks T.k_breaks sc_breaks (fun vs H Q E h => ?_) (fun f cdv A outer s H vs Q E hr h => ?_)
  · obtain ⟨F, L, nm, nm2, ws, ws2, ps, rfl, _⟩ := h
    rfl
  · obtain ⟨F, L, nm, nm2, ws, ws2, ps, rfl, sF, hR, q⟩ := h
    refine ⟨_, (pss_cons (ps_set (i := 1) sc_breaks.nd rfl (Or.inl rfl) (pe_callG G_way_to_hole (hr.mono (by first | decide | omega)) (by rfl) (pa_cons (pe_callG G_need_template (hr.mono (by first | decide | omega)) (by rfl) (pa_cons (pv 0) pa_nil)) pa_nil)))
  (pss_cons (ps_if (pt_cmpR op_isN (pv 1) pe_non (nomark _)) (pss_one (ps_ret pe_non)) pss_nil)
  (pss_cons (ps_asg (pv 1) (pg_tup rfl (pgs_cons (pg_name (i := 2) sc_breaks.nd rfl (Or.inl rfl)) (pgs_cons (pg_name (i := 3) sc_breaks.nd rfl (Or.inl rfl)) pgs_nil))))
  (pss_cons (ps_set (i := 4) sc_breaks.nd rfl (Or.inl rfl) (pe_disp (pps_cons (pv 3) (pe_gS (by rfl) T.gBREAK) pps_nil) (by rfl) (by rfl) (fun z => by cases z) (by decide)))
  (pss_cons (ps_for PassesOwn.never rfl (pi_tup (pe_revT (pv 2))) (pg_tup rfl (pgs_cons (pg_name (i := 5) sc_breaks.nd rfl (Or.inl rfl)) (pgs_cons (pg_name (i := 6) sc_breaks.nd rfl (Or.inl rfl)) pgs_nil)))
  (pss_one ps_never))
  (pss_one (ps_ret (pv 4)))))))), ?_⟩
    refine ⟨_, rfl, F, L, _, rfl, sF, hR, fun H1 F1 v1 s1 g1 d1 => ?_⟩
    refine ⟨F1, v1, nm, nm2, ws, ws2, ps, rfl, g1.top, d1, fun H2 F2 t e s2 g2 he ht => ?_⟩
    refine ⟨_, rfl, rfl, _, rfl, iteF ?_⟩
    refine ⟨_, rfl, t, _, rfl, SqT.of (g2.top _ _ ht), rfl, _, _, rfl, _, _, rfl, rfl, ?_⟩
    refine fun p hp => ⟨_, rfl, upd_same, [(.inr (S nm), .str "\"")], rfl, by simp, ?_⟩
    have em : mergeK ([] : List (Key × V)) [(.inr (S nm), .str "\"")] = [(.inr (S nm), .str "\"")] := rfl
    rw [em]
    have s3 : Same H2 (upd (upd H2 p (.dK [])) p (.dK [(.inr (S nm), .str "\"")])) := same_mut (same_new hp) hp
    have hp3 : upd (upd H2 p (.dK [])) p (.dK [(.inr (S nm), .str "\"")]) p = some (.dK [(.inr (S nm), .str "\"")]) := upd_same
    revert s3 hp3
    generalize upd (upd H2 p (.dK [])) p (.dK [(.inr (S nm), .str "\"")]) = H3
    intro s3 hp3
    have he3 : H3 e = some (.tup []) := s3 _ _ (g2.top _ _ he)
    refine ⟨_, rfl, e, [], rfl, SqT.of he3, fun p4 hp4 => ⟨p4, rfl, ⟨_, SqT.of upd_same⟩, ?_⟩⟩
    refine for_tup (K := K) (a := p4) (xs := []) (fun i σ H' => σ = [some (.str (S L)), some (.ref t), some (.ref e), some (.str (S nm)), some (.ref p), none, none] ∧ upd H3 p4 (.tup []) = H') ⟨rfl, rfl⟩ (fun i σ H' _ ⟨_, e⟩ => by subst e; exact SqT.of upd_same) (fun i y σ H' hy _ => by simp at hy) ?_
    rintro σ _ ⟨rfl, rfl⟩
    exact ⟨_, rfl, q _ _ (((s1.trans s2).trans s3).trans (same_new hp4)) (same_new hp4 _ _ hp3)⟩
end
end Dh
namespace Dh
open PySem PySem.Spec PyProof.Rows L2
/-! ### the law's own defs -/
def AB : List Nat := [97, 98, 60, 62, 38]
theorem abS : (Str.ofString "ab<>&" : Str) = S AB := by decide +kernel
section
variable {P : Program} {w : World} {K : PySem.W.Frag} {mg : Str → Option Value} {base : Heap} {C fI aWORDS aTURNED aBLOCKS : Addr} {fdI : FuncData}
def spLawCell (K : PySem.W.Frag) : Sp := fun vs H Q _ => ∃ (a : Addr) (ns : List Int) (j : Nat), vs = [.ref a, .int (j : Nat)] ∧ SqL K H a (ns.map V.int) ∧ ∀ i : Int, Q (.int i) H
theorem G_law_cell (T : Tx K w mg C fI aWORDS aTURNED aBLOCKS fdI) : Gf P w K mg base 1 "_law_cell" ["_law_script", "_law_k"] (spLawCell K) := by
  refine gf_mk T.d_law_cell sc_law_cell (fun vs H Q E h => ?_) (fun f cdv A outer s H vs Q E hr h => ?_)
  · obtain ⟨a, ns, j, rfl, _⟩ := h
    rfl
  · obtain ⟨a, ns, j, rfl, ha, q⟩ := h
    refine ⟨_, (pss_cons (ps_if (pt_cmpR op_lt (pv 1) (pe_callB call_len_seq (by rfl) T.b_len PySem.boot_len (pa_cons (pv 0) pa_nil)) (nomark _)) (pss_one (ps_ret (pe_ix ix_list (pv 0) (pv 1) (fun _ _ => rfl)))) pss_nil)
  (pss_one (ps_ret pe_int))), ?_⟩
    refine ⟨_, rfl, _, rfl, a, _, rfl, .inl ha, _, _, rfl, rfl, _, rfl, ?_⟩
    refine ite2 (fun c => ?_) (fun c => ?_)
    · have hj : j < ns.length := by
        have := of_decide_eq_true c
        rw [List.length_map] at this
        omega
      exact ⟨_, rfl, _, rfl, a, _, _, _, rfl, rfl, ha, atI_nat (by rw [List.getElem?_map, List.getElem?_eq_getElem hj]; rfl), q _⟩
    · exact q 0
def spLawPen : Sp := fun vs H Q _ => ∃ c : Int, vs = [.int c] ∧ ∀ (b : Int) (l : Addr), H l = none → Q (.ref l) (upd H l (.lst [.int c, .int b]))
theorem G_law_pen (T : Tx K w mg C fI aWORDS aTURNED aBLOCKS fdI) : Gf P w K mg base 1 "_law_pen" ["_law_cell_here"] spLawPen := by
  refine gf_mk T.d_law_pen sc_law_pen (fun vs H Q E h => ?_) (fun f cdv A outer s H vs Q E hr h => ?_)
  · obtain ⟨c, rfl, _⟩ := h
    rfl
  · obtain ⟨c, rfl, q⟩ := h
    refine ⟨_, (pss_one (ps_ret (pe_lst (pa_cons (pv 0) (pa_cons (pe_callTy call_int1 (by rfl) T.b_int (by decide +kernel) (pa_cons (pe_cmpR op_ge (pv 0) (pe_op op_pow pe_int pe_int) (nomark _)) pa_nil)) pa_nil))))), ?_⟩
    refine ⟨_, rfl, _, rfl, _, _, rfl, rfl, by unfold CPow; decide, _, _, rfl, rfl, .inr ⟨_, rfl, by show 2 ≤ sizeLine; decide, fun p hp => ?_⟩⟩
    exact q _ p hp
def spLawDraw : Sp := fun vs H Q _ => ∃ (l : Addr) (c b m : Int), vs = [.ref l, .int m] ∧ H l = some (.lst [.int c, .int b]) ∧ 0 < m ∧ m < 100 ∧ ∀ r c' : Int, 0 ≤ r → r < m → Q (.int r) (upd H l (.lst [.int c', .int b]))
theorem G_law_draw (T : Tx K w mg C fI aWORDS aTURNED aBLOCKS fdI) : Gf P w K mg base 1 "_law_draw" ["_law_pen_here", "_law_many"] spLawDraw := by
  refine gf_mk T.d_law_draw sc_law_draw (fun vs H Q E h => ?_) (fun f cdv A outer s H vs Q E hr h => ?_)
  · obtain ⟨l, c, b, m, rfl, _⟩ := h
    rfl
  · obtain ⟨l, c, b, m, rfl, hl, hm, hm2, q⟩ := h
    refine ⟨_, (pss_cons (ps_if (pt_cmpR op_eq (pe_ix ix_list (pv 0) pe_int (fun _ _ => rfl)) pe_int (nomark _)) (pss_cons (ps_set (i := 2) sc_law_draw.nd rfl (Or.inl rfl) (pe_op op_mod (pe_ix ix_list (pv 0) pe_int (fun _ _ => rfl)) (pv 1)))
  (pss_cons (ps_asg (pe_op op_fdiv (pe_ix ix_list (pv 0) pe_int (fun _ _ => rfl)) (pv 1)) (pg_sub (pv 0) pe_int set_list))
  (pss_one (ps_ret (pv 2))))) pss_nil)
  (pss_cons (ps_asg (pe_op op_mod (pe_op op_add (pe_op op_mul (pe_op op_mod (pe_ix ix_list (pv 0) pe_int (fun _ _ => rfl)) pe_int) pe_int) pe_int) pe_int) (pg_sub (pv 0) pe_int set_list))
  (pss_one (ps_ret (pe_op op_mod (pe_op op_fdiv (pe_op op_mod (pe_op op_add (pe_op op_mul (pe_ix ix_list (pv 0) pe_int (fun _ _ => rfl)) (pe_ix ix_list (pv 0) pe_int (fun _ _ => rfl))) (pe_op op_mul pe_int (pe_ix ix_list (pv 0) pe_int (fun _ _ => rfl)))) pe_int) pe_int) (pv 1)))))), ?_⟩
    refine ⟨_, rfl, l, _, _, _, rfl, rfl, SqL.of hl, atI_nat (j := 1) rfl, rfl, _, rfl, ?_⟩
    refine ite2 (fun e => ?_) (fun e => ?_)
    · refine ⟨_, rfl, l, _, _, _, rfl, rfl, SqL.of hl, atI_nat (j := 0) rfl, _, rfl, _, _, rfl, rfl, hm, ?_⟩
      refine ⟨_, rfl, l, _, _, _, rfl, rfl, SqL.of hl, atI_nat (j := 0) rfl, _, rfl, _, _, rfl, rfl, ⟨hm, by omega⟩, _, rfl, l, _, _, _, rfl, rfl, hl, rfl, ?_⟩
      exact ⟨_, rfl, q _ _ (Int.emod_nonneg _ (by omega)) (Int.emod_lt_of_pos _ hm)⟩
    · refine ⟨_, rfl, l, _, _, _, rfl, rfl, SqL.of hl, atI_nat (j := 0) rfl, _, _, rfl, rfl, (by show (0 : Int) < 2147483629; decide), _, _, rfl, rfl, .inr ⟨by decide, by decide⟩, _, _, rfl, rfl, _, _, rfl, rfl, (by show (0 : Int) < 2147483629; decide), ?_⟩
      refine ⟨_, rfl, l, _, _, _, rfl, rfl, hl, rfl, ?_⟩
      have h1 : ∀ x : Int, 0 ≤ x % 2147483629 ∧ x % 2147483629 < 2147483629 := fun x => ⟨Int.emod_nonneg _ (by decide), Int.emod_lt_of_pos _ (by decide)⟩
      have hx1 := h1 (c % 2147483629 * 48271 + 11)
      have hl2 : upd H l (.lst ([V.int c, V.int b].set (Int.toNat 0) (V.int ((c % 2147483629 * 48271 + 11) % 2147483629)))) l = some (.lst [.int ((c % 2147483629 * 48271 + 11) % 2147483629), .int b]) := upd_same
      have cm : ∀ y : Int, CMul ((c % 2147483629 * 48271 + 11) % 2147483629) y := fun y => .inl ⟨by omega, by omega⟩
      have cm2 : CMul 40692 ((c % 2147483629 * 48271 + 11) % 2147483629) := .inl ⟨by decide, by decide⟩
      refine ⟨_, rfl, l, _, _, _, rfl, rfl, SqL.of hl2, atI_nat (j := 0) rfl, _, rfl, l, _, _, _, rfl, rfl, SqL.of hl2, atI_nat (j := 0) rfl, _, _, rfl, rfl, cm _, ?_⟩
      refine ⟨_, rfl, l, _, _, _, rfl, rfl, SqL.of hl2, atI_nat (j := 0) rfl, _, _, rfl, rfl, cm2, _, _, rfl, rfl, _, _, rfl, rfl, (by show (0 : Int) < 2147483647; decide), _, _, rfl, rfl, (by unfold CDiv; decide), _, rfl, _, _, rfl, rfl, hm, ?_⟩
      exact q _ ((c % 2147483629 * 48271 + 11) % 2147483629) (Int.emod_nonneg _ (by omega)) (Int.emod_lt_of_pos _ hm)
def spLawSigns : Sp := fun vs H Q _ => ∃ (l : Addr) (c b : Int), vs = [.ref l] ∧ H l = some (.lst [.int c, .int b]) ∧ ∀ (z : List Nat) (c' : Int) (H' : Hp), z.length ≤ 8 → (∀ x ∈ z, x ∈ AB) → SameB l H H' → H' l = some (.lst [.int c', .int b]) → Q (.str (S z)) H'
theorem G_law_signs_of (T : Tx K w mg C fI aWORDS aTURNED aBLOCKS fdI) : Gf P w K mg base 2 "_law_signs_of" ["_law_pen_here"] spLawSigns := by
  have G_law_draw : Gf P w K mg base 1 "_law_draw" ["_law_pen_here", "_law_many"] spLawDraw := G_law_draw T
  refine gf_mk T.d_law_signs_of sc_law_signs_of (fun vs H Q E h => ?_) (fun f cdv A outer s H vs Q E hr h => ?_)
  · obtain ⟨l, c, b, rfl, _⟩ := h
    rfl
  · obtain ⟨l, c, b, rfl, hl, q⟩ := h
    refine ⟨_, (pss_one (ps_ret (pe_bm PySem.F.plainAttrs_str PySem.F.slot_str_join PySem.F.type_str_join mt_join pe_str (pa_cons (pe_lc (own := [("_law_turn", 1)]) rfl sc_law_signs_of.nd (pi_range1 (by rfl) T.b_range (pa_cons (pe_callG G_law_draw (hr.mono (by first | decide | omega)) (by rfl) (pa_cons (pv 0) (pa_cons pe_int pa_nil))) pa_nil)) (blkOk_by (by kernel_rfl)) (fun _ _ _ _ _ => (pg_name (i := 1) sc_law_signs_of.nd rfl (Or.inl rfl))) (fun _ _ _ _ _ => pts_nil) (fun _ _ _ _ _ => (pe_ix ix_str pe_str (pe_callG G_law_draw (hr.mono (by first | decide | omega)) (by rfl) (pa_cons (pv 0) (pa_cons pe_int pa_nil))) (fun _ _ => rfl)))) pa_nil)))), ?_⟩
    refine ⟨rfl, _, rfl, l, c, b, 9, rfl, hl, by decide, by decide, fun r c1 hr0 hr9 => ⟨_, rfl, by omega, by omega, ?_⟩⟩
    have s1 : SameB l H (upd H l (.lst [.int c1, .int b])) := (SameB.refl l H).upd
    have hl1 : upd H l (.lst [.int c1, .int b]) l = some (.lst [.int c1, .int b]) := upd_same
    revert s1 hl1
    generalize upd H l (.lst [.int c1, .int b]) = H1
    intro s1 hl1
    intro D hD
    have nDl : l ≠ D := ne_of_none hl1 hD
    refine lc_range (lo := 0) (n := r.toNat) (fun i H2 => ∃ (zs : List Nat) (c2 : Int), SameB l H1 H2 ∧ H2 l = some (.lst [.int c2, .int b]) ∧ H2 D = some (.lst (zs.map fun x => .str (S [x]))) ∧ zs.length = i ∧ ∀ x ∈ zs, x ∈ AB)
      ⟨[], c1, (SameB.refl l H1).new hD, by rw [upd_ne nDl]; exact hl1, upd_same, rfl, fun x hx => by cases hx⟩ ?_ ?_
    · rintro i H2 hi ⟨zs, c2, s2, hl2, hD2, hzl, hzs⟩
      refine ⟨rfl, _, rfl, l, c2, b, 5, rfl, hl2, by decide, by decide, fun r2 c3 h0 h5 => ?_⟩
      obtain ⟨x, hx, hxm⟩ : ∃ x, atI (Str.cps (Str.ofString "ab<>&")).toList r2 = some x ∧ x ∈ AB := by
        have : r2 = 0 ∨ r2 = 1 ∨ r2 = 2 ∨ r2 = 3 ∨ r2 = 4 := by omega
        rw [abS, S_list]
        rcases this with rfl | rfl | rfl | rfl | rfl
        · exact ⟨97, rfl, by decide⟩
        · exact ⟨98, rfl, by decide⟩
        · exact ⟨60, rfl, by decide⟩
        · exact ⟨62, rfl, by decide⟩
        · exact ⟨38, rfl, by decide⟩
      refine ⟨_, _, x, rfl, rfl, by rw [abS, S_len]; decide, hx, _, by rw [upd_ne (Ne.symm nDl)]; exact hD2, ?_, zs ++ [x], c3, ?_, ?_, ?_, by rw [List.length_append, hzl]; rfl, ?_⟩
      · rw [List.length_map, hzl]
        exact Nat.lt_of_lt_of_le hi (Nat.le_trans (m := 100) (by omega) (by decide))
      · exact (s2.upd).updN hD
      · rw [upd_ne nDl, upd_same]
      · rw [upd_same, List.map_append]
        rfl
      · intro y hy
        rcases List.mem_append.mp hy with hy | hy
        · exact hzs y hy
        · simp only [List.mem_cons, List.not_mem_nil, or_false] at hy
          subst hy
          exact hxm
    · rintro H2 ⟨zs, c2, s2, hl2, hD2, hzl, hzs⟩
      refine ⟨_, D, zs.map fun x => S [x], rfl, rfl, .inl (SqL.of (by rw [hD2, List.map_map]; rfl)), ?_, ?_⟩
      · rw [sum_ones, List.length_map, SemptyS, S_len]
        show zs.length + zs.length * 0 ≤ _
        omega
      · rw [SemptyS, joinS]
        exact q zs c2 H2 (by omega) hzs (s1.trans s2) hl2
end
end Dh
namespace Dh
open PySem PySem.Spec PyProof.Rows L2
abbrev T1s : Str := "<p>{{a}}</p>{{each c}}<b to=\"{{a}}\"/>{{end}}"
def T1L : List Nat := [60, 112, 62, 123, 123, 97, 125, 125, 60, 47, 112, 62, 123, 123, 101, 97, 99, 104, 32, 99, 125, 125, 60, 98, 32, 116, 111, 61, 34, 123, 123, 97, 125, 125, 34, 47, 62, 123, 123, 101, 110, 100, 125, 125]
def T2L : List Nat := T1L ++ T1L
theorem T1S : (Str.ofString "<p>{{a}}</p>{{each c}}<b to=\"{{a}}\"/>{{end}}" : Str) = S T1L := by decide +kernel
theorem T2S : repS (S T1L) 2 = S T2L := by decide +kernel
theorem aS : (Str.ofString "a" : Str) = S aL := by decide +kernel
theorem cS : (Str.ofString "c" : Str) = S cL := by decide +kernel
def Given (F : Hp) (d : Addr) (z : List Nat) : Prop :=
  ∃ c d1 d2 : Addr, F d = some (.dK [(.inr (S aL), .str (S z)), (.inr (S cL), .ref c)]) ∧ F c = some (.tup [.ref d1, .ref d2]) ∧ F d1 = some (.dK [(.inr (S aL), .int 7)]) ∧ F d2 = some (.dK [])
structure WS (H0 F0 : Hp) (l : Addr) (H F : Hp) : Prop where
  sb : SameB l H0 H
  gr : Gr H0 F0 H F
  fl : F l = none
  hl : H l ≠ none
section
variable {H0 F0 : Hp} {l : Addr} {H F : Hp} {p : Addr} {o : HO}
theorem WS.zero (h : WS H0 F0 l H F) (hp : H p = none) : H0 p = none := by
  cases q : H0 p with
  | none => rfl
  | some o => exact absurd hp (h.gr.dom p (some_ne q))
theorem WS.ne (h : WS H0 F0 l H F) (hp : H p = none) : p ≠ l := fun e => h.hl (by rw [← e]; exact hp)
theorem WS.mk2 (h : WS H0 F0 l H F) (hp : H p = none) : WS H0 F0 l (upd H p o) (upd F p o) :=
  ⟨h.sb.updN (h.zero hp), h.gr.mk2 hp, by rw [upd_ne (Ne.symm (h.ne hp))]; exact h.fl, by rw [upd_ne (Ne.symm (h.ne hp))]; exact h.hl⟩
theorem WS.mk1 (h : WS H0 F0 l H F) (h0 : H0 p = none) (hpl : p ≠ l) (hF : F p = none) : WS H0 F0 l (upd H p o) F :=
  ⟨h.sb.updN h0, h.gr.mk1 hF, h.fl, by rw [upd_ne (Ne.symm hpl)]; exact h.hl⟩
theorem WS.fix (h : WS H0 F0 l H F) (h0 : H0 p = none) (hpl : p ≠ l) (hF : F p = none) (hp : H p = some o) : WS H0 F0 l H (upd F p o) :=
  ⟨h.sb, h.gr.fix hp hF h0, by rw [upd_ne (Ne.symm hpl)]; exact h.fl, h.hl⟩
end
section
variable {P : Program} {w : World} {K : PySem.W.Frag} {mg : Str → Option Value} {base : Heap} {C fI aWORDS aTURNED aBLOCKS : Addr} {fdI : FuncData}
def spLawWritten : Sp := fun vs H Q _ => ∃ (F : Hp) (l : Addr) (c b : Int), vs = [.ref l] ∧ Same F H ∧ F l = none ∧ H l = some (.lst [.int c, .int b]) ∧
  ∀ (H' F' : Hp) (t d : Addr) (L z : List Nat), (L = T1L ∨ L = T2L) → z.length ≤ 8 → (∀ x ∈ z, x ∈ AB) → WS H F l H' F' → F' t = some (.tup [.str (S L), .ref d]) → Given F' d z → Q (.ref t) H'
theorem G_law_written (T : Tx K w mg C fI aWORDS aTURNED aBLOCKS fdI) : Gf P w K mg base 3 "_law_written" ["_law_pen_here"] spLawWritten := by
  have G_law_draw : Gf P w K mg base 1 "_law_draw" ["_law_pen_here", "_law_many"] spLawDraw := G_law_draw T
  have G_law_signs_of : Gf P w K mg base 2 "_law_signs_of" ["_law_pen_here"] spLawSigns := G_law_signs_of T
  refine gf_mk T.d_law_written sc_law_written (fun vs H Q E h => ?_) (fun f cdv A outer s H vs Q E hr h => ?_)
  · obtain ⟨F, l, c, b, rfl, _⟩ := h
    rfl
  · obtain ⟨F, l, c, b, rfl, sF, fl, hl, q⟩ := h
    refine ⟨_, (pss_cons (ps_set (i := 1) sc_law_written.nd rfl (Or.inl rfl) (pe_op op_mul_str pe_str (pe_op op_add pe_int (pe_callG G_law_draw (hr.mono (by first | decide | omega)) (by rfl) (pa_cons (pv 0) (pa_cons pe_int pa_nil))))))
  (pss_one (ps_ret (pe_tup (pa_cons (pv 1) (pa_cons (pe_disp (pps_cons pe_str (pe_callG G_law_signs_of (hr.mono (by first | decide | omega)) (by rfl) (pa_cons (pv 0) pa_nil)) (pps_cons pe_str (pe_tup (pa_cons (pe_disp (pps_cons pe_str pe_int pps_nil) (by rfl) (by rfl) (fun z => by cases z) (by decide)) (pa_cons pe_dnewK pa_nil))) pps_nil)) (by rfl) (by rfl) (fun z => by cases z) (by decide)) pa_nil)))))), ?_⟩
    refine ⟨_, rfl, l, c, b, 2, rfl, hl, by decide, by decide, fun r c1 hr0 hr2 => ⟨_, _, rfl, rfl, _, _, rfl, rfl, by omega, by omega, by rw [T1S, S_len]; decide, ?_⟩⟩
    obtain ⟨L, hLs, hL⟩ : ∃ L, (if (1 : Int) + r = 1 then (Str.ofString "<p>{{a}}</p>{{each c}}<b to=\"{{a}}\"/>{{end}}" : Str) else repS (Str.ofString "<p>{{a}}</p>{{each c}}<b to=\"{{a}}\"/>{{end}}" : Str) (1 + r).toNat) = S L ∧ (L = T1L ∨ L = T2L) := by
      have : r = 0 ∨ r = 1 := by omega
      rcases this with rfl | rfl
      · exact ⟨T1L, by rw [if_pos (by decide), T1S], .inl rfl⟩
      · exact ⟨T2L, by rw [if_neg (by decide), T1S]; exact T2S, .inr rfl⟩
    rw [hLs]
    have W1 : WS H F l (upd H l (.lst [.int c1, .int b])) F := ⟨(SameB.refl l H).upd, (Gr.refl sF).mk1 fl, fl, by rw [upd_same]; intro z; cases z⟩
    have hl1 : upd H l (.lst [.int c1, .int b]) l = some (.lst [.int c1, .int b]) := upd_same
    revert W1 hl1
    generalize upd H l (.lst [.int c1, .int b]) = H1
    intro W1 hl1
    refine ⟨_, rfl, fun d hd => ?_⟩
    have W2 := W1.mk1 (o := .dK []) (W1.zero hd) (W1.ne hd) (W1.gr.top.free hd)
    have ndl := W1.ne hd
    have hd2 : upd H1 d (.dK []) d = some (.dK []) := upd_same
    have hl2 : upd H1 d (.dK []) l = some (.lst [.int c1, .int b]) := by rw [upd_ne (Ne.symm ndl)]; exact hl1
    have h0d := W1.zero hd
    have fd : F d = none := W1.gr.top.free hd
    revert W2 hd2 hl2
    generalize upd H1 d (.dK []) = H2
    intro W2 hd2 hl2
    refine ⟨_, rfl, l, c1, b, rfl, hl2, fun z c2 H3 hz hzm sb3 hl3 => ?_⟩
    have W3 : WS H F l H3 F := ⟨W2.sb.trans sb3, W2.gr.trans (Gr.sameB W2.gr.top fl sb3 (some_ne hl3)), fl, some_ne hl3⟩
    have hd3 : H3 d = some (.dK []) := sb3 _ _ ndl hd2
    refine fun d1 hd1 => ⟨upd_same, [(.inr "a", .int 7)], rfl, by simp, ?_⟩
    have n1l := W3.ne hd1
    have nd1 : d ≠ d1 := ne_of_none hd3 hd1
    have f1 : F d1 = none := W3.gr.top.free hd1
    have W4 := (W3.mk1 (o := .dK []) (W3.zero hd1) n1l f1).mk1 (p := d1) (o := .dK [(.inr (S aL), .int 7)]) (W3.zero hd1) n1l f1
    have em1 : mergeK ([] : List (Key × V)) [(.inr "a", .int 7)] = [(.inr (S aL), .int 7)] := by rw [aS]; rfl
    rw [em1]
    have W4' := W4.fix (W3.zero hd1) n1l f1 upd_same
    have hd4 : upd (upd H3 d1 (.dK [])) d1 (.dK [(.inr (S aL), .int 7)]) d = some (.dK []) := by rw [upd_ne nd1, upd_ne nd1]; exact hd3
    have hf4 : upd F d1 (.dK [(.inr (S aL), .int 7)]) d1 = some (.dK [(.inr (S aL), .int 7)]) := upd_same
    have fd4 : upd F d1 (.dK [(.inr (S aL), .int 7)]) d = none := by rw [upd_ne nd1]; exact fd
    clear W4
    revert W4' hd4 hf4 fd4
    generalize upd (upd H3 d1 (.dK [])) d1 (.dK [(.inr (S aL), .int 7)]) = H4
    generalize upd F d1 (.dK [(.inr (S aL), .int 7)]) = F4
    intro W4 hd4 hf4 fd4
    refine fun d2 hd2 => ⟨by show 2 ≤ sizeLine; decide, fun cc hcc => ?_⟩
    have W5 := W4.mk2 (o := .dK []) hd2
    have W6 := W5.mk2 (o := .tup [.ref d1, .ref d2]) hcc
    have nd2 : d ≠ d2 := ne_of_none hd4 hd2
    have hd5 : upd H4 d2 (.dK []) d = some (.dK []) := by rw [upd_ne nd2]; exact hd4
    have ndc : d ≠ cc := ne_of_none hd5 hcc
    have hd6 : upd (upd H4 d2 (.dK [])) cc (.tup [.ref d1, .ref d2]) d = some (.dK []) := by rw [upd_ne ndc]; exact hd5
    have fd6 : upd (upd F4 d2 (.dK [])) cc (.tup [.ref d1, .ref d2]) d = none := by rw [upd_ne ndc, upd_ne nd2]; exact fd4
    have s46 : Same F4 (upd (upd F4 d2 (.dK [])) cc (.tup [.ref d1, .ref d2])) := (same_new (W4.gr.top.free hd2)).trans (same_new (W5.gr.top.free hcc))
    have n2c : d2 ≠ cc := ne_of_none (H := upd H4 d2 (.dK [])) upd_same hcc
    have hf2 : upd (upd F4 d2 (.dK [])) cc (.tup [.ref d1, .ref d2]) d2 = some (.dK []) := by rw [upd_ne n2c]; exact upd_same
    have hfc : upd (upd F4 d2 (.dK [])) cc (.tup [.ref d1, .ref d2]) cc = some (.tup [.ref d1, .ref d2]) := upd_same
    have hf1 := s46 _ _ hf4
    revert W6 hd6 fd6 hf2 hfc hf1
    generalize upd (upd F4 d2 (.dK [])) cc (.tup [.ref d1, .ref d2]) = F6
    generalize upd (upd H4 d2 (.dK [])) cc (.tup [.ref d1, .ref d2]) = H6
    intro W6 hd6 fd6 hf2 hfc hf1
    refine ⟨hd6, [(.inr "a", .str (S z)), (.inr "c", .ref cc)], rfl, by simp, ?_⟩
    have em2 : mergeK ([] : List (Key × V)) [(.inr "a", .str (S z)), (.inr "c", .ref cc)] = [(.inr (S aL), .str (S z)), (.inr (S cL), .ref cc)] := by
      rw [aS, cS]
      have : ¬ (S aL = S cL) := fun e => by have := S_inj e; simp at this
      simp [mergeK, putK, this]
    rw [em2]
    have W7 := (W6.mk1 (p := d) (o := .dK [(.inr (S aL), .str (S z)), (.inr (S cL), .ref cc)]) h0d ndl fd6).fix h0d ndl fd6 upd_same
    have s67 : Same F6 (upd F6 d (.dK [(.inr (S aL), .str (S z)), (.inr (S cL), .ref cc)])) := same_new fd6
    have hfd : upd F6 d (.dK [(.inr (S aL), .str (S z)), (.inr (S cL), .ref cc)]) d = some (.dK [(.inr (S aL), .str (S z)), (.inr (S cL), .ref cc)]) := upd_same
    refine ⟨by show 2 ≤ sizeLine; decide, fun t ht => ?_⟩
    have W8 := W7.mk2 (o := .tup [.str (S L), .ref d]) ht
    have s78 := same_new (o := .tup [.str (S L), .ref d]) (W7.gr.top.free ht)
    exact q _ _ t d L z hL hz hzm W8 upd_same ⟨cc, d1, d2, s78 _ _ hfd, s78 _ _ (s67 _ _ hfc), s78 _ _ (s67 _ _ hf1), s78 _ _ (s67 _ _ hf2)⟩
end
end Dh
namespace Dh
open PySem PySem.Spec PyProof.Rows L2
/-! ### plain facts: the row that is shown and read back -/
theorem AB_signs : ∀ x ∈ AB, x ∈ SIGNSL := by decide +kernel
theorem AB_all {z : List Nat} (h : ∀ x ∈ z, x ∈ AB) : areSigns z = true := List.all_eq_true.mpr fun c hc => decide_eq_true (AB_signs c (h c hc))
def rowFN (a b : List Nat) : FN := ⟨[112], [([97], a)], 120 :: b⟩
theorem row_ok {a b : List Nat} (ha : ∀ x ∈ a, x ∈ AB) (hb : ∀ x ∈ b, x ∈ AB) (la : a.length ≤ 8) (lb : b.length ≤ 8) : FNok (rowFN a b) := by
  refine ⟨by show isName [112] = true; decide +kernel, ⟨by show 1 ≤ 1; decide, fun x hx => ?_⟩, ?_, ?_⟩
  · have e : x = ([97], a) := by simpa [rowFN] using hx
    subst e
    exact ⟨by show isName [97] = true; decide +kernel, AB_all ha, by show a.length ≤ 200; omega⟩
  · show areSigns (120 :: b) = true
    unfold areSigns
    rw [List.all_cons, show decide (120 ∈ SIGNSL) = true by decide +kernel, Bool.true_and]
    exact AB_all hb
  · show (120 :: b).length ≤ 200
    rw [List.length_cons]
    omega
def sgMP (c : Nat) : MP := .sg [c] (.tuple []) (.list [])
theorem sgMP_D (z : List Nat) : (z.map sgMP).map mpD = z.map signD := by rw [List.map_map]; rfl
theorem run_signs {L : List Nat} : ∀ (z : List Nat) (n : Nat) (f : Fm) (fs fs' : List Fm) (ts : List Tk), (∀ c ∈ z, c ∈ SIGNSL) → f.ds.length + z.length ≤ 1000 → TRun false L (n + (encs z).length) ({ f with ds := f.ds ++ z.map signD } :: fs) ts fs' → TRun false L n (f :: fs) (z.map Tk.sg ++ ts) fs'
  | [], n, f, fs, fs', ts, _, _, h => by
    have e : ({ f with ds := f.ds ++ ([] : List Nat).map signD } : Fm) = f := by simp
    rw [e] at h
    exact h
  | c :: z, n, f, fs, fs', ts, hz, hl, h => by
    rw [List.length_cons] at hl
    refine ⟨_, .sg rfl (hz c (List.mem_cons_self ..)) (by omega), ?_⟩
    refine run_signs z _ (f.add (signD c)) fs fs' ts (fun x hx => hz x (List.mem_cons_of_mem _ hx)) ?_ ?_
    · show (f.ds ++ [signD c]).length + z.length ≤ 1000
      rw [List.length_append]
      show _ + 1 + _ ≤ _
      omega
    · have e1 : n + (tkT (.sg c)).length + (encs z).length = n + (encs (c :: z)).length := by
        unfold encs
        rw [List.map_cons, List.flatten_cons, List.length_append]
        show n + (enc c).length + _ = _
        omega
      have e2 : ({ f.add (signD c) with ds := (f.add (signD c)).ds ++ z.map signD } : Fm) = { f with ds := f.ds ++ (c :: z).map signD } := by
        simp [Fm.add]
      rw [e1, e2]
      exact h
theorem parts_sg (a : List Nat) : partsT (a.map APt.sg) = encs a := by
  unfold partsT encs
  rw [List.map_map]
  rfl
theorem partsOk_sg {L : List Nat} : ∀ (a : List Nat) (n : Nat), (∀ c ∈ a, c ∈ SIGNSL) → partsOk false L n (a.map APt.sg)
  | [], _, _ => trivial
  | c :: a, n, h => ⟨⟨rfl, h c (List.mem_cons_self ..)⟩, partsOk_sg a _ fun x hx => h x (List.mem_cons_of_mem _ hx)⟩
def rowPs (a b : List Nat) : List MP := [.nd (nodeD [112] [([97], a)] ((120 :: b).map sgMP)) (.tuple [atD ([97], a)]) (.list ((120 :: b).map signD))]
theorem mgd_sg : ∀ (z : List Nat) (st : List PyData × List Nat), (z.map sgMP).foldl mstep st = (st.1, st.2 ++ z)
  | [], st => by simp
  | c :: z, st => by
    rw [List.map_cons, List.foldl_cons, mgd_sg z]
    simp [mstep, sgMP]
theorem row_mgd (a b : List Nat) : mgd (rowPs a b) = [fnD (rowFN a b)] := by
  have e1 : mgd ((120 :: b).map sgMP) = [tS (120 :: b)] := by
    unfold mgd
    rw [mgd_sg]
    simp
  unfold mgd rowPs
  simp only [List.foldl_cons, List.foldl_nil, mstep]
  rw [if_pos trivial, if_pos trivial]
  show [] ++ [nodeD [112] [([97], a)] ((120 :: b).map sgMP)] = _
  unfold nodeD
  rw [e1]
  rfl
theorem row_read {a b : List Nat} (ha : ∀ x ∈ a, x ∈ AB) (hb : ∀ x ∈ b, x ∈ AB) (la : a.length ≤ 8) (lb : b.length ≤ 8) : Read false (showT [rowFN a b]) ((rowPs a b).map mpD) := by
  have hla := encs_len a
  have hlb := encs_len (120 :: b)
  rw [List.length_cons] at hlb
  have hbs : ∀ c ∈ (120 :: b), c ∈ SIGNSL := fun c hc => by
    rcases List.mem_cons.mp hc with e | e
    · rw [e]; decide +kernel
    · exact AB_signs c (hb c e)
  have eL : showT [rowFN a b] = toksT ([Tk.op [112] [([97], a.map APt.sg)] false] ++ (120 :: b).map Tk.sg ++ [Tk.en [112]]) := by
    have e1 : (((120 :: b).map Tk.sg).map tkT).flatten = encs (120 :: b) := by
      rw [List.map_map]
      rfl
    unfold toksT
    rw [List.map_append, List.map_append, List.flatten_append, List.flatten_append, e1]
    simp [showT, fnT, nodeIts, rowFN, itR, headT, atrE, tkT, tagT, attrsT, attrT, tagE, endT, parts_sg]
  refine ⟨_, fm0.add (mpD (.nd (nodeD [112] [([97], a)] ((120 :: b).map sgMP)) (.tuple [atD ([97], a)]) (.list ((120 :: b).map signD)))), eL, ?_, ?_, rfl⟩
  · simp only [showT, fnT, nodeIts, rowFN, itR, headT, atrE, List.map_cons, List.map_nil, List.flatten_cons, List.flatten_nil]
    simp [itR]
    omega
  · rw [List.append_assoc]
    refine ⟨_, .opn ⟨by decide +kernel, by simp, fun x hx => ?_⟩ (by simp) (by show 0 ≤ 1000; decide), ?_⟩
    · have e : x = ([97], a.map APt.sg) := by simpa using hx
      subst e
      exact ⟨by show isName [97] = true; decide +kernel, by show (a.map APt.sg).length ≤ 1000; rw [List.length_map]; omega, partsOk_sg _ _ fun c hc => AB_signs c (ha c hc)⟩
    · refine run_signs _ _ (tagFm [112] [([97], a.map APt.sg)]) [fm0] _ _ hbs (by show 0 + _ ≤ _; rw [List.length_cons]; omega) ?_
      have en : ({ tagFm [112] [([97], a.map APt.sg)] with ds := (tagFm [112] [([97], a.map APt.sg)]).ds ++ (120 :: b).map signD } : Fm) = ⟨tagL, [112], .tuple [atD ([97], a)], (120 :: b).map signD⟩ := rfl
      rw [en]
      refine ⟨_, .en (f := ⟨tagL, [112], .tuple [atD ([97], a)], (120 :: b).map signD⟩) (by show ((120 :: b).map signD).length ≤ 1000; rw [List.length_map, List.length_cons]; omega) (by show 0 ≤ 1000; decide) rfl (by show 1 ≤ 8; decide) (.inr ⟨rfl, [([97], a)], (120 :: b).map sgMP, by simp, fun x hx => ?_, rfl, (sgMP_D _).symm, by rw [List.length_map, List.length_cons]; omega, ?_, rfl⟩), rfl⟩
      · have e : x = ([97], a) := by simpa using hx
        subst e
        show a.length ≤ 1000
        omega
      · have e : ∀ z : List Nat, ((z.map sgMP).map mpN).sum = z.length := by
          intro z
          induction z with
          | nil => rfl
          | cons c z ih =>
            rw [List.map_cons, List.map_cons, List.sum_cons, ih, List.length_cons]
            show 1 + _ = _
            omega
        rw [e, List.length_cons]
        omega
end Dh
namespace Dh
open PySem PySem.Spec PyProof.Rows L2
/-! ### plain facts: the templates (printed by genT.py) -/
abbrev eachcL : List Nat := [101, 97, 99, 104, 32, 99]
def P1 : List TP := [.mk tagL [112] [] [.mk holeL aL [] []], .mk eachL cL [] [.mk tagL [98] [(toL, [.hl aL])] []]]
def P2 : List TP := [.mk tagL [112] [] [.mk holeL aL [] []], .mk eachL cL [] [.mk tagL [98] [(toL, [.hl aL])] []], .mk tagL [112] [] [.mk holeL aL [] []], .mk eachL cL [] [.mk tagL [98] [(toL, [.hl aL])] []]]
def N1 : List NP := [.mk signsL [60, 112, 62] [], .mk holeL aL [], .mk signsL [60, 47, 112, 62] [], .mk eachL cL [.mk signsL [60, 98, 32, 116, 111, 61, 34] [], .mk holeL aL [], .mk signsL [34, 47, 62] []], .mk signsL [] []]
def N2 : List NP := [.mk signsL [60, 112, 62] [], .mk holeL aL [], .mk signsL [60, 47, 112, 62] [], .mk eachL cL [.mk signsL [60, 98, 32, 116, 111, 61, 34] [], .mk holeL aL [], .mk signsL [34, 47, 62] []],
  .mk signsL [60, 112, 62] [], .mk holeL aL [], .mk signsL [60, 47, 112, 62] [], .mk eachL cL [.mk signsL [60, 98, 32, 116, 111, 61, 34] [], .mk holeL aL [], .mk signsL [34, 47, 62] []], .mk signsL [] []]
theorem t1_read : Read true T1L (tpsD P1) := by
  refine ⟨[Tk.op [112] [] false, Tk.hl aL, Tk.en [112], Tk.hl eachcL, Tk.op [98] [(toL, [.hl aL])] true, Tk.hl endL], ⟨[], [], .tuple [], tpsD P1⟩, by decide +kernel, by decide +kernel, ?_, rfl⟩
  refine ⟨_, .opn ⟨by decide +kernel, by decide, fun x hx => by cases hx⟩ (by decide) (by decide), ?_⟩
  refine ⟨_, .hh (w0 := aL) rfl ⟨by decide +kernel, by decide +kernel, by decide +kernel, by decide +kernel, by decide +kernel, by decide +kernel⟩ (by decide) (by decide) (by decide), ?_⟩
  refine ⟨_, .en (by decide) (by decide) rfl (by decide) (.inl ⟨rfl, rfl⟩), ?_⟩
  refine ⟨_, .hb (w0 := eachL) (wl := cL) rfl ⟨by decide +kernel, by decide +kernel, by decide +kernel, by decide +kernel, by decide +kernel, by decide +kernel⟩ (by decide) (by decide), ?_⟩
  refine ⟨_, .ops ⟨by decide +kernel, by decide, fun x hx => (by have e := List.mem_singleton.mp hx; subst e; exact ⟨by decide +kernel, by decide, ⟨⟨rfl, by decide +kernel, by decide +kernel, by decide +kernel, by decide +kernel, by decide⟩, trivial⟩⟩)⟩ (by decide) (by decide) (.inl ⟨rfl, rfl⟩), ?_⟩
  refine ⟨_, .he rfl ⟨by decide +kernel, by decide +kernel, by decide +kernel, by decide +kernel, by decide +kernel, by decide +kernel⟩ (by decide) (by decide) (by decide) (by decide +kernel) (.inl ⟨rfl, rfl⟩), ?_⟩
  rfl
theorem t1_cut : Cut T1L N1 := by
  refine ⟨[60, 112, 62], [⟨aL, aL, aL, false, [60, 47, 112, 62]⟩, ⟨eachcL, eachL, cL, true, [60, 98, 32, 116, 111, 61, 34]⟩, ⟨aL, aL, aL, false, [34, 47, 62]⟩, ⟨endL, endL, endL, false, []⟩], [(S signsL, S [60, 112, 62]), (S holeL, S aL), (S signsL, S [60, 47, 112, 62]), (S eachL, S cL), (S signsL, S [60, 98, 32, 116, 111, 61, 34]), (S holeL, S aL), (S signsL, S [34, 47, 62]), (S endL, S endL), (S signsL, S [])], ⟨S [], S [], npsD N1⟩, by decide +kernel, by decide +kernel, ?_, by decide, ?_, ?_, rfl, by decide +kernel, ?_, by decide⟩
  · intro p hp
    simp only [List.mem_cons, List.not_mem_nil, or_false] at hp
    rcases hp with rfl | rfl | rfl | rfl <;> exact ⟨by decide +kernel, by decide +kernel, by decide +kernel⟩
  · simp [pcD, pcK, pcN, signsS, holeS, endS]
  · have ne : ∀ z : List Nat, (decide (z = endL)) = false → S z ≠ (Str.ofString "end" : Str) := fun z h e => by rw [endS] at e; exact (of_decide_eq_false h) (S_inj e)
    refine .inr (.inr ⟨ne _ (by decide), by decide +kernel, _, _, rfl, by decide, ?_⟩)
    refine .inr (.inr ⟨ne _ (by decide), by decide +kernel, _, _, rfl, by decide, ?_⟩)
    refine .inr (.inr ⟨ne _ (by decide), by decide +kernel, _, _, rfl, by decide, ?_⟩)
    refine .inr (.inl ⟨ne _ (by decide), by decide +kernel, by decide, ?_⟩)
    refine .inr (.inr ⟨ne _ (by decide), by decide +kernel, _, _, rfl, by decide, ?_⟩)
    refine .inr (.inr ⟨ne _ (by decide), by decide +kernel, _, _, rfl, by decide, ?_⟩)
    refine .inr (.inr ⟨ne _ (by decide), by decide +kernel, _, _, rfl, by decide, ?_⟩)
    refine .inl ⟨endS.symm, _, _, _, rfl, by decide, ?_⟩
    refine .inr (.inr ⟨ne _ (by decide), by decide +kernel, _, _, rfl, by decide, ?_⟩)
    rfl
  · simp [wfNs, wfN, N1, signsL, holeL, eachL, aL, cL]
theorem t2_read : Read true T2L (tpsD P2) := by
  refine ⟨[Tk.op [112] [] false, Tk.hl aL, Tk.en [112], Tk.hl eachcL, Tk.op [98] [(toL, [.hl aL])] true, Tk.hl endL, Tk.op [112] [] false, Tk.hl aL, Tk.en [112], Tk.hl eachcL, Tk.op [98] [(toL, [.hl aL])] true, Tk.hl endL], ⟨[], [], .tuple [], tpsD P2⟩, by decide +kernel, by decide +kernel, ?_, rfl⟩
  refine ⟨_, .opn ⟨by decide +kernel, by decide, fun x hx => by cases hx⟩ (by decide) (by decide), ?_⟩
  refine ⟨_, .hh (w0 := aL) rfl ⟨by decide +kernel, by decide +kernel, by decide +kernel, by decide +kernel, by decide +kernel, by decide +kernel⟩ (by decide) (by decide) (by decide), ?_⟩
  refine ⟨_, .en (by decide) (by decide) rfl (by decide) (.inl ⟨rfl, rfl⟩), ?_⟩
  refine ⟨_, .hb (w0 := eachL) (wl := cL) rfl ⟨by decide +kernel, by decide +kernel, by decide +kernel, by decide +kernel, by decide +kernel, by decide +kernel⟩ (by decide) (by decide), ?_⟩
  refine ⟨_, .ops ⟨by decide +kernel, by decide, fun x hx => (by have e := List.mem_singleton.mp hx; subst e; exact ⟨by decide +kernel, by decide, ⟨⟨rfl, by decide +kernel, by decide +kernel, by decide +kernel, by decide +kernel, by decide⟩, trivial⟩⟩)⟩ (by decide) (by decide) (.inl ⟨rfl, rfl⟩), ?_⟩
  refine ⟨_, .he rfl ⟨by decide +kernel, by decide +kernel, by decide +kernel, by decide +kernel, by decide +kernel, by decide +kernel⟩ (by decide) (by decide) (by decide) (by decide +kernel) (.inl ⟨rfl, rfl⟩), ?_⟩
  refine ⟨_, .opn ⟨by decide +kernel, by decide, fun x hx => by cases hx⟩ (by decide) (by decide), ?_⟩
  refine ⟨_, .hh (w0 := aL) rfl ⟨by decide +kernel, by decide +kernel, by decide +kernel, by decide +kernel, by decide +kernel, by decide +kernel⟩ (by decide) (by decide) (by decide), ?_⟩
  refine ⟨_, .en (by decide) (by decide) rfl (by decide) (.inl ⟨rfl, rfl⟩), ?_⟩
  refine ⟨_, .hb (w0 := eachL) (wl := cL) rfl ⟨by decide +kernel, by decide +kernel, by decide +kernel, by decide +kernel, by decide +kernel, by decide +kernel⟩ (by decide) (by decide), ?_⟩
  refine ⟨_, .ops ⟨by decide +kernel, by decide, fun x hx => (by have e := List.mem_singleton.mp hx; subst e; exact ⟨by decide +kernel, by decide, ⟨⟨rfl, by decide +kernel, by decide +kernel, by decide +kernel, by decide +kernel, by decide⟩, trivial⟩⟩)⟩ (by decide) (by decide) (.inl ⟨rfl, rfl⟩), ?_⟩
  refine ⟨_, .he rfl ⟨by decide +kernel, by decide +kernel, by decide +kernel, by decide +kernel, by decide +kernel, by decide +kernel⟩ (by decide) (by decide) (by decide) (by decide +kernel) (.inl ⟨rfl, rfl⟩), ?_⟩
  rfl
theorem t2_cut : Cut T2L N2 := by
  refine ⟨[60, 112, 62], [⟨aL, aL, aL, false, [60, 47, 112, 62]⟩, ⟨eachcL, eachL, cL, true, [60, 98, 32, 116, 111, 61, 34]⟩, ⟨aL, aL, aL, false, [34, 47, 62]⟩, ⟨endL, endL, endL, false, [60, 112, 62]⟩, ⟨aL, aL, aL, false, [60, 47, 112, 62]⟩, ⟨eachcL, eachL, cL, true, [60, 98, 32, 116, 111, 61, 34]⟩, ⟨aL, aL, aL, false, [34, 47, 62]⟩, ⟨endL, endL, endL, false, []⟩], [(S signsL, S [60, 112, 62]), (S holeL, S aL), (S signsL, S [60, 47, 112, 62]), (S eachL, S cL), (S signsL, S [60, 98, 32, 116, 111, 61, 34]), (S holeL, S aL), (S signsL, S [34, 47, 62]), (S endL, S endL), (S signsL, S [60, 112, 62]), (S holeL, S aL), (S signsL, S [60, 47, 112, 62]), (S eachL, S cL), (S signsL, S [60, 98, 32, 116, 111, 61, 34]), (S holeL, S aL), (S signsL, S [34, 47, 62]), (S endL, S endL), (S signsL, S [])], ⟨S [], S [], npsD N2⟩, by decide +kernel, by decide +kernel, ?_, by decide, ?_, ?_, rfl, by decide +kernel, ?_, by decide⟩
  · intro p hp
    simp only [List.mem_cons, List.not_mem_nil, or_false] at hp
    rcases hp with rfl | rfl | rfl | rfl | rfl | rfl | rfl | rfl <;> exact ⟨by decide +kernel, by decide +kernel, by decide +kernel⟩
  · simp [pcD, pcK, pcN, signsS, holeS, endS]
  · have ne : ∀ z : List Nat, (decide (z = endL)) = false → S z ≠ (Str.ofString "end" : Str) := fun z h e => by rw [endS] at e; exact (of_decide_eq_false h) (S_inj e)
    refine .inr (.inr ⟨ne _ (by decide), by decide +kernel, _, _, rfl, by decide, ?_⟩)
    refine .inr (.inr ⟨ne _ (by decide), by decide +kernel, _, _, rfl, by decide, ?_⟩)
    refine .inr (.inr ⟨ne _ (by decide), by decide +kernel, _, _, rfl, by decide, ?_⟩)
    refine .inr (.inl ⟨ne _ (by decide), by decide +kernel, by decide, ?_⟩)
    refine .inr (.inr ⟨ne _ (by decide), by decide +kernel, _, _, rfl, by decide, ?_⟩)
    refine .inr (.inr ⟨ne _ (by decide), by decide +kernel, _, _, rfl, by decide, ?_⟩)
    refine .inr (.inr ⟨ne _ (by decide), by decide +kernel, _, _, rfl, by decide, ?_⟩)
    refine .inl ⟨endS.symm, _, _, _, rfl, by decide, ?_⟩
    refine .inr (.inr ⟨ne _ (by decide), by decide +kernel, _, _, rfl, by decide, ?_⟩)
    refine .inr (.inr ⟨ne _ (by decide), by decide +kernel, _, _, rfl, by decide, ?_⟩)
    refine .inr (.inr ⟨ne _ (by decide), by decide +kernel, _, _, rfl, by decide, ?_⟩)
    refine .inr (.inl ⟨ne _ (by decide), by decide +kernel, by decide, ?_⟩)
    refine .inr (.inr ⟨ne _ (by decide), by decide +kernel, _, _, rfl, by decide, ?_⟩)
    refine .inr (.inr ⟨ne _ (by decide), by decide +kernel, _, _, rfl, by decide, ?_⟩)
    refine .inr (.inr ⟨ne _ (by decide), by decide +kernel, _, _, rfl, by decide, ?_⟩)
    refine .inl ⟨endS.symm, _, _, _, rfl, by decide, ?_⟩
    refine .inr (.inr ⟨ne _ (by decide), by decide +kernel, _, _, rfl, by decide, ?_⟩)
    rfl
  · simp [wfNs, wfN, N2, signsL, holeL, eachL, aL, cL]
end Dh
namespace Dh
open PySem PySem.Spec PyProof.Rows L2
/-! ### plain facts: what the templates are filled with -/
def r0 (z : List Nat) (c : Addr) : Row := [(.inr (S aL), .str (S z)), (.inr (S cL), .ref c)]
theorem aL_c : ¬ (S aL = S cL) := fun e => by have := S_inj e; simp at this
theorem text_ok {z : List Nat} (hm : ∀ x ∈ z, x ∈ AB) (hz : z.length ≤ 8) : isText z = true := by
  unfold isText
  rw [decide_eq_true (by omega), Bool.true_and]
  exact AB_all hm
theorem val_a (z : List Nat) (c : Addr) : valV (r0 z c) (.inr (S aL)) = some (.str (S z)) := by simp [valV, r0]
theorem val_c (z : List Nat) (c : Addr) : valV (r0 z c) (.inr (S cL)) = some (.ref c) := by simp [valV, r0]
theorem taOk {z : List Nat} (hm : ∀ x ∈ z, x ∈ AB) (hz : z.length ≤ 8) (c : Addr) : TaOk [r0 z c] z :=
  ⟨⟨.str (S z), by simp [lookUp, lookAll, val_a], .inl rfl⟩, fun x hx => AB_signs x (hm x hx), by omega⟩
section
variable {K : PySem.W.Frag} {F : Hp} {d : Addr} {z : List Nat}
theorem given_all (hm : ∀ x ∈ z, x ∈ AB) (hz : z.length ≤ 8) (h : Given F d z) : ∃ c, Dat1 K F d (r0 z c) ∧ CsK K F [r0 z c] [[55], z] := by
  obtain ⟨c, d1, d2, h0, hc, h1, h2⟩ := h
  refine ⟨c, ⟨h0, by show 2 ≤ 100; decide, fun p hp => ?_⟩, c, [d1, d2], [[(.inr (S aL), .int 7)], []], by simp [lookUp, lookAll, val_c], SqT.of hc, ⟨h1, h2, trivial⟩, rfl, by simp, ?_⟩
  · rcases List.mem_cons.mp hp with e | hp
    · subst e
      exact ⟨⟨aL, rfl, by decide +kernel⟩, .inl (.inl ⟨z, rfl, text_ok hm hz⟩)⟩
    · have e : p = (.inr (S cL), .ref c) := by simpa using hp
      subst e
      refine ⟨⟨cL, rfl, by decide +kernel⟩, .inr ⟨c, [.ref d1, .ref d2], rfl, (fun e => (by rw [e, h0] at hc; cases hc)), SqT.of hc, by simp, fun u hu => ?_⟩⟩
      rcases List.mem_cons.mp hu with e | hu
      · subst e
        refine ⟨d1, _, rfl, (fun e => (by rw [e, h0] at h1; simp at h1)), h1, by simp, fun p hp => ?_⟩
        have e : p = (.inr (S aL), .int 7) := by simpa using hp
        subst e
        exact ⟨⟨aL, rfl, by decide +kernel⟩, .inr ⟨7, rfl, by decide, by decide⟩⟩
      · have e : u = .ref d2 := by simpa using hu
        subst e
        refine ⟨d2, _, rfl, (fun e => (by rw [e, h0] at h2; cases h2)), h2, by simp, fun p hp => (by cases hp)⟩
  · intro i q u hq hu
    have : i = 0 ∨ i = 1 ∨ ∃ j, i = j + 2 := by
      rcases i with _ | _ | j
      · exact .inl rfl
      · exact .inr (.inl rfl)
      · exact .inr (.inr ⟨j, rfl⟩)
    rcases this with rfl | rfl | ⟨j, rfl⟩
    · have e1 : [((.inr (S aL) : Key), V.int 7)] = q := by simpa using hq
      have e2 : [55] = u := by simpa using hu
      subst e1 e2
      exact ⟨⟨.int 7, by simp [lookUp, lookAll, val_a, valV], .inr ⟨rfl, rfl⟩⟩, by decide +kernel, by decide⟩
    · have e1 : [] = q := by simpa using hq
      have e2 : z = u := by simpa using hu
      subst e1 e2
      exact ⟨⟨.str (S z), by
        show (lookAll (S aL) [r0 z c, []]).getLast? = _
        have e1 : lookAll (S aL) [r0 z c, []] = [.str (S z)] := by
          unfold lookAll
          rw [List.filterMap_cons, val_a]
          rfl
        rw [e1]
        rfl, .inl rfl⟩, fun x hx => AB_signs x (hm x hx), by omega⟩
    · simp at hq
end
def ns1 (z : List Nat) : List FN := [⟨[112], [], z⟩, ⟨[98], [(toL, links [55])], []⟩, ⟨[98], [(toL, links z)], []⟩]
theorem ns1_ok {z : List Nat} (hm : ∀ x ∈ z, x ∈ AB) (hz : z.length ≤ 8) : ∀ n ∈ ns1 z, FNok n := by
  have lk := links_ok fun x hx => AB_signs x (hm x hx)
  have l7 : areSigns (links [55]) = true ∧ (links [55]).length ≤ 200 := by decide +kernel
  have toN : isName toL = true := by decide +kernel
  intro n hn
  simp only [ns1, List.mem_cons, List.not_mem_nil, or_false] at hn
  rcases hn with rfl | rfl | rfl
  · exact ⟨by show isName [112] = true; decide +kernel, ⟨by show 0 ≤ 1; decide, fun x hx => by cases hx⟩, AB_all hm, by show z.length ≤ 200; omega⟩
  · refine ⟨by show isName [98] = true; decide +kernel, ⟨by show 1 ≤ 1; decide, fun x hx => ?_⟩, rfl, by show 0 ≤ 200; decide⟩
    have e : x = (toL, links [55]) := by simpa using hx
    subst e
    exact ⟨toN, l7.1, l7.2⟩
  · refine ⟨by show isName [98] = true; decide +kernel, ⟨by show 1 ≤ 1; decide, fun x hx => ?_⟩, rfl, by show 0 ≤ 200; decide⟩
    have e : x = (toL, links z) := by simpa using hx
    subst e
    exact ⟨toN, lk.2, by show (links z).length ≤ 200; omega⟩
theorem mgd_nds : ∀ (l : List (PyData × PyData × PyData)) (st : List PyData × List Nat), st.2 = [] → (l.map fun t => MP.nd t.1 t.2.1 t.2.2).foldl mstep st = (st.1 ++ l.map (·.1), [])
  | [], st, h => by
    obtain ⟨a, b⟩ := st
    have e : b = [] := h
    subst e
    simp
  | t :: l, st, h => by
    rw [List.map_cons, List.foldl_cons, mgd_nds l _ rfl]
    simp [mstep, h]
theorem mgd_map (l : List (PyData × PyData × PyData)) : mgd (l.map fun t => MP.nd t.1 t.2.1 t.2.2) = l.map (·.1) := by
  unfold mgd
  rw [mgd_nds l _ rfl]
  simp
theorem mgd_one (z : List Nat) (x y : PyData) : mgd [.sg z x y] = inD z := by
  unfold mgd inD
  by_cases h : z = []
  · subst h; rfl
  · simp [mstep, h]
theorem mgd_nil : mgd [] = [] := rfl
def nds1 (z : List Nat) : List (PyData × PyData × PyData) := (ns1 z).map fun n => (fnD n, .tuple [], .list [])
theorem fill1 (z : List Nat) : fillPs z [[55], z] P1 = (nds1 z).map fun t => MP.nd t.1 t.2.1 t.2.2 := by
  have e1 : ¬ (tagL = eachL) := by decide
  have e2 : ¬ (holeL = eachL) := by decide
  have e3 : ¬ (holeL = tagL) := by decide
  simp only [P1, fillPs, fillP, if_neg e1, if_neg e2, if_neg e3, if_pos rfl, nds1, ns1, List.map_cons, List.map_nil, List.flatten_cons, List.flatten_nil, List.append_nil, List.cons_append, List.nil_append, nodeD, mgd_one, mgd_nil, fnD, atX, attrX, inD, ↓reduceIte]
theorem fill2 (z : List Nat) : fillPs z [[55], z] P2 = (nds1 z ++ nds1 z).map fun t => MP.nd t.1 t.2.1 t.2.2 := by
  have e : P2 = P1 ++ P1 := rfl
  rw [e, fillPs_app, fill1, List.map_append]
theorem fill1_mgd (z : List Nat) : mgd (fillPs z [[55], z] P1) = (ns1 z).map fnD := by
  rw [fill1, mgd_map, nds1, List.map_map]
  rfl
theorem fill2_mgd (z : List Nat) : mgd (fillPs z [[55], z] P2) = (ns1 z ++ ns1 z).map fnD := by
  rw [fill2, mgd_map, nds1, ← List.map_append, List.map_map]
  rfl
/-- all that the law asks of a template -/
structure TplOk (L : List Nat) (ps : List TP) (np : List NP) (z : List Nat) (ns : List FN) : Prop where
  read : Read true L (tpsD ps)
  cut : Cut L np
  dep : tpsDep ps < 3
  wf : wfPs true ps
  len : ps.length ≤ 4
  holes : (holePs ps).length ≤ 1000
  nice : SeqAt.shaped (.tuple (holePs ps)) = true
  mg : mgd (fillPs z [[55], z] ps) = ns.map fnD
  nsl : ns.length ≤ 100
  nsok : ∀ n ∈ ns, FNok n
  way : ∃ rest, ps = .mk tagL [112] [] (.mk holeL aL [] [] :: []) :: rest
theorem tpl1 {z : List Nat} (hm : ∀ x ∈ z, x ∈ AB) (hz : z.length ≤ 8) : TplOk T1L P1 N1 z (ns1 z) :=
  ⟨t1_read, t1_cut, by decide +kernel, by simp [P1, wfPs, wfP, tagL, eachL, holeL, aL, cL, toL]; decide +kernel, by decide, by decide +kernel, by decide +kernel, fill1_mgd z, by show 3 ≤ 100; decide, ns1_ok hm hz, _, rfl⟩
theorem tpl2 {z : List Nat} (hm : ∀ x ∈ z, x ∈ AB) (hz : z.length ≤ 8) : TplOk T2L P2 N2 z (ns1 z ++ ns1 z) :=
  ⟨t2_read, t2_cut, by decide +kernel, by simp [P2, wfPs, wfP, tagL, eachL, holeL, aL, cL, toL]; decide +kernel, by decide, by decide +kernel, by decide +kernel, fill2_mgd z, by show 6 ≤ 100; decide, fun n hn => by
    rcases List.mem_append.mp hn with h | h <;> exact ns1_ok hm hz n h, _, rfl⟩
end Dh
namespace Dh
open PySem PySem.Spec PyProof.Rows L2
theorem absV_rel {v : Value} {x : Str} (h : absV v = some (.str x)) : RelV (.str x) v := by
  obtain ⟨t, rfl⟩ := absV_str h
  exact ⟨t, rfl⟩
theorem vals_abs : ∀ {l : List Value} {a b : Str}, l.map absV = [some (V.str a), some (V.str b)] → Vals [.str a, .str b] l
  | [x, y], a, b, h => by
    injection h with h1 h2
    injection h2 with h2 _
    exact .cons (absV_rel h1) (.cons (absV_rel h2) .nil)
  | [], _, _, h => by cases h
  | [_], _, _, h => by simp at h
  | _ :: _ :: _ :: _, _, _, h => by simp at h
theorem vals_app : ∀ {vs : List V} {us : List Value} {zs : List V} {ws : List Value}, Vals vs us → Vals zs ws → Vals (vs ++ zs) (us ++ ws)
  | _, _, _, _, .nil, h => h
  | _, _, _, _, .cons r t, h => .cons r (vals_app t h)
def kLaw : Nat := 60
def spLaw (K : PySem.W.Frag) : Sp := fun vs H Q _ => ∃ (a : Addr) (ns : List Int), vs = [.ref a] ∧ SqL K H a (ns.map V.int) ∧ ns.length ≤ 63 ∧ Only H ∧ ∀ H', Q (.bl true) H'
theorem tx_mk {l : PySem.W.OpenLaw} {w : World} {K : PySem.W.Frag} {h : Heap} {mg : Str → Option Value} {fa : Addr} (X : K.In h) (G : h.Ns mainGlobals mg) (hfa : mg "law" = some (.ref fa))
    {tLETTERS : Tok} {tMOST_SIGNS : Tok} {tMOST_VALUE : Tok} {tMOST_TEXT : Tok} {tSIGNS : Tok} {tEND : Tok} {tLINK : Tok} {tPLAIN : Tok} {tBREAK : Tok} {aWORDS : Addr} {aTURNED : Addr} {aBLOCKS : Addr} {esWORDS : Array DictEntry} {nWORDS : Nat} {esTURNED : Array DictEntry} {nTURNED : Nat} {oB : Obj} {iB : Array Value} {nB : Nat} {C : Addr} {f0 : Addr} {od0 an0 : Option Addr} {sl0 : Array (Option Value)} {oc0 kV0 dc0 pm0 cd0 ct0 : Value} {f1 : Addr} {od1 an1 : Option Addr} {sl1 : Array (Option Value)} {oc1 kV1 dc1 pm1 cd1 ct1 : Value} {f2 : Addr} {od2 an2 : Option Addr} {sl2 : Array (Option Value)} {oc2 kV2 dc2 pm2 cd2 ct2 : Value} {f3 : Addr} {od3 an3 : Option Addr} {sl3 : Array (Option Value)} {oc3 kV3 dc3 pm3 cd3 ct3 : Value} {f4 : Addr} {od4 an4 : Option Addr} {sl4 : Array (Option Value)} {oc4 kV4 dc4 pm4 cd4 ct4 : Value} {f5 : Addr} {od5 an5 : Option Addr} {sl5 : Array (Option Value)} {oc5 kV5 dc5 pm5 cd5 ct5 : Value} {f6 : Addr} {od6 an6 : Option Addr} {sl6 : Array (Option Value)} {oc6 kV6 dc6 pm6 cd6 ct6 : Value} {f7 : Addr} {od7 an7 : Option Addr} {sl7 : Array (Option Value)} {oc7 kV7 dc7 pm7 cd7 ct7 : Value} {f8 : Addr} {od8 an8 : Option Addr} {sl8 : Array (Option Value)} {oc8 kV8 dc8 pm8 cd8 ct8 : Value} {f9 : Addr} {od9 an9 : Option Addr} {sl9 : Array (Option Value)} {oc9 kV9 dc9 pm9 cd9 ct9 : Value} {f10 : Addr} {od10 an10 : Option Addr} {sl10 : Array (Option Value)} {oc10 kV10 dc10 pm10 cd10 ct10 : Value} {f11 : Addr} {od11 an11 : Option Addr} {sl11 : Array (Option Value)} {oc11 kV11 dc11 pm11 cd11 ct11 : Value} {f12 : Addr} {od12 an12 : Option Addr} {sl12 : Array (Option Value)} {oc12 kV12 dc12 pm12 cd12 ct12 : Value} {f13 : Addr} {od13 an13 : Option Addr} {sl13 : Array (Option Value)} {oc13 kV13 dc13 pm13 cd13 ct13 : Value} {f14 : Addr} {od14 an14 : Option Addr} {sl14 : Array (Option Value)} {oc14 kV14 dc14 pm14 cd14 ct14 : Value} {f15 : Addr} {od15 an15 : Option Addr} {sl15 : Array (Option Value)} {oc15 kV15 dc15 pm15 cd15 ct15 : Value} {f16 : Addr} {od16 an16 : Option Addr} {sl16 : Array (Option Value)} {oc16 kV16 dc16 pm16 cd16 ct16 : Value} {f17 : Addr} {od17 an17 : Option Addr} {sl17 : Array (Option Value)} {oc17 kV17 dc17 pm17 cd17 ct17 : Value} {f18 : Addr} {od18 an18 : Option Addr} {sl18 : Array (Option Value)} {oc18 kV18 dc18 pm18 cd18 ct18 : Value} {f19 : Addr} {od19 an19 : Option Addr} {sl19 : Array (Option Value)} {oc19 kV19 dc19 pm19 cd19 ct19 : Value} {f20 : Addr} {od20 an20 : Option Addr} {sl20 : Array (Option Value)} {oc20 kV20 dc20 pm20 cd20 ct20 : Value} {f21 : Addr} {od21 an21 : Option Addr} {sl21 : Array (Option Value)} {oc21 kV21 dc21 pm21 cd21 ct21 : Value} {f22 : Addr} {od22 an22 : Option Addr} {sl22 : Array (Option Value)} {oc22 kV22 dc22 pm22 cd22 ct22 : Value} {f23 : Addr} {od23 an23 : Option Addr} {sl23 : Array (Option Value)} {oc23 kV23 dc23 pm23 cd23 ct23 : Value} {f24 : Addr} {od24 an24 : Option Addr} {sl24 : Array (Option Value)} {oc24 kV24 dc24 pm24 cd24 ct24 : Value} {f25 : Addr} {od25 an25 : Option Addr} {sl25 : Array (Option Value)} {oc25 kV25 dc25 pm25 cd25 ct25 : Value} {f26 : Addr} {od26 an26 : Option Addr} {sl26 : Array (Option Value)} {oc26 kV26 dc26 pm26 cd26 ct26 : Value} {f27 : Addr} {od27 an27 : Option Addr} {sl27 : Array (Option Value)} {oc27 kV27 dc27 pm27 cd27 ct27 : Value} {f28 : Addr} {od28 an28 : Option Addr} {sl28 : Array (Option Value)} {oc28 kV28 dc28 pm28 cd28 ct28 : Value} {f29 : Addr} {od29 an29 : Option Addr} {sl29 : Array (Option Value)} {oc29 kV29 dc29 pm29 cd29 ct29 : Value} {f30 : Addr} {od30 an30 : Option Addr} {sl30 : Array (Option Value)} {oc30 kV30 dc30 pm30 cd30 ct30 : Value} {f31 : Addr} {od31 an31 : Option Addr} {sl31 : Array (Option Value)} {oc31 kV31 dc31 pm31 cd31 ct31 : Value} {f32 : Addr} {od32 an32 : Option Addr} {sl32 : Array (Option Value)} {oc32 kV32 dc32 pm32 cd32 ct32 : Value} {f33 : Addr} {od33 an33 : Option Addr} {sl33 : Array (Option Value)} {oc33 kV33 dc33 pm33 cd33 ct33 : Value} {f34 : Addr} {od34 an34 : Option Addr} {sl34 : Array (Option Value)} {oc34 kV34 dc34 pm34 cd34 ct34 : Value} {f35 : Addr} {od35 an35 : Option Addr} {sl35 : Array (Option Value)} {oc35 kV35 dc35 pm35 cd35 ct35 : Value} {f36 : Addr} {od36 an36 : Option Addr} {sl36 : Array (Option Value)} {oc36 kV36 dc36 pm36 cd36 ct36 : Value} {f37 : Addr} {od37 an37 : Option Addr} {sl37 : Array (Option Value)} {oc37 kV37 dc37 pm37 cd37 ct37 : Value} {f38 : Addr} {od38 an38 : Option Addr} {sl38 : Array (Option Value)} {oc38 kV38 dc38 pm38 cd38 ct38 : Value} {f39 : Addr} {od39 an39 : Option Addr} {sl39 : Array (Option Value)} {oc39 kV39 dc39 pm39 cd39 ct39 : Value} {f40 : Addr} {od40 an40 : Option Addr} {sl40 : Array (Option Value)} {oc40 kV40 dc40 pm40 cd40 ct40 : Value} {f41 : Addr} {od41 an41 : Option Addr} {sl41 : Array (Option Value)} {oc41 kV41 dc41 pm41 cd41 ct41 : Value} {f42 : Addr} {od42 an42 : Option Addr} {sl42 : Array (Option Value)} {oc42 kV42 dc42 pm42 cd42 ct42 : Value} {f43 : Addr} {od43 an43 : Option Addr} {sl43 : Array (Option Value)} {oc43 kV43 dc43 pm43 cd43 ct43 : Value} {f44 : Addr} {od44 an44 : Option Addr} {sl44 : Array (Option Value)} {oc44 kV44 dc44 pm44 cd44 ct44 : Value} {f45 : Addr} {od45 an45 : Option Addr} {sl45 : Array (Option Value)} {oc45 kV45 dc45 pm45 cd45 ct45 : Value} {f46 : Addr} {od46 an46 : Option Addr} {sl46 : Array (Option Value)} {oc46 kV46 dc46 pm46 cd46 ct46 : Value} {f47 : Addr} {od47 an47 : Option Addr} {sl47 : Array (Option Value)} {oc47 kV47 dc47 pm47 cd47 ct47 : Value} {f48 : Addr} {od48 an48 : Option Addr} {sl48 : Array (Option Value)} {oc48 kV48 dc48 pm48 cd48 ct48 : Value} {f49 : Addr} {od49 an49 : Option Addr} {sl49 : Array (Option Value)} {oc49 kV49 dc49 pm49 cd49 ct49 : Value} {f50 : Addr} {od50 an50 : Option Addr} {sl50 : Array (Option Value)} {oc50 kV50 dc50 pm50 cd50 ct50 : Value} {f51 : Addr} {od51 an51 : Option Addr} {sl51 : Array (Option Value)} {oc51 kV51 dc51 pm51 cd51 ct51 : Value} {f52 : Addr} {od52 an52 : Option Addr} {sl52 : Array (Option Value)} {oc52 kV52 dc52 pm52 cd52 ct52 : Value} {f53 : Addr} {od53 an53 : Option Addr} {sl53 : Array (Option Value)} {oc53 kV53 dc53 pm53 cd53 ct53 : Value} {f54 : Addr} {od54 an54 : Option Addr} {sl54 : Array (Option Value)} {oc54 kV54 dc54 pm54 cd54 ct54 : Value} {f55 : Addr} {od55 an55 : Option Addr} {sl55 : Array (Option Value)} {oc55 kV55 dc55 pm55 cd55 ct55 : Value} {f56 : Addr} {od56 an56 : Option Addr} {sl56 : Array (Option Value)} {oc56 kV56 dc56 pm56 cd56 ct56 : Value} {f57 : Addr} {od57 an57 : Option Addr} {sl57 : Array (Option Value)} {oc57 kV57 dc57 pm57 cd57 ct57 : Value} {f58 : Addr} {od58 an58 : Option Addr} {sl58 : Array (Option Value)} {oc58 kV58 dc58 pm58 cd58 ct58 : Value}
    (gLETTERS : PySem.W.nsIn K mainGlobals "LETTERS" = some (some (.str "abcdefghijklmnopqrstuvwxyz" tLETTERS)))
    (gMOST_SIGNS : PySem.W.nsIn K mainGlobals "MOST_SIGNS" = some (some (.int 8 tMOST_SIGNS)))
    (gMOST_VALUE : PySem.W.nsIn K mainGlobals "MOST_VALUE" = some (some (.int 9999 tMOST_VALUE)))
    (gMOST_TEXT : PySem.W.nsIn K mainGlobals "MOST_TEXT" = some (some (.int 40 tMOST_TEXT)))
    (gSIGNS : PySem.W.nsIn K mainGlobals "SIGNS" = some (some (.str " !\"#$&'()*+,-./0123456789:;<=>?@ABCDEFGHIJKLMNOPQRSTUVWXYZ[\\]^_`abcdefghijklmnopqrstuvwxyz{|}~" tSIGNS)))
    (gEND : PySem.W.nsIn K mainGlobals "END" = some (some (.str "end" tEND)))
    (gLINK : PySem.W.nsIn K mainGlobals "LINK" = some (some (.str "to" tLINK)))
    (gPLAIN : PySem.W.nsIn K mainGlobals "PLAIN" = some (some (.str "abcdefghijklmnopqrstuvwxyz0123456789-" tPLAIN)))
    (gBREAK : PySem.W.nsIn K mainGlobals "BREAK" = some (some (.str "\"" tBREAK)))
    (b_len : PySem.W.nsIn K mainGlobals "len" = some (none))
    (b_isinstance : PySem.W.nsIn K mainGlobals "isinstance" = some (none))
    (b_all : PySem.W.nsIn K mainGlobals "all" = some (none))
    (b_any : PySem.W.nsIn K mainGlobals "any" = some (none))
    (b_max : PySem.W.nsIn K mainGlobals "max" = some (none))
    (b_min : PySem.W.nsIn K mainGlobals "min" = some (none))
    (b_str : PySem.W.nsIn K mainGlobals "str" = some (none))
    (b_int : PySem.W.nsIn K mainGlobals "int" = some (none))
    (b_bool : PySem.W.nsIn K mainGlobals "bool" = some (none))
    (b_tuple : PySem.W.nsIn K mainGlobals "tuple" = some (none))
    (b_dict : PySem.W.nsIn K mainGlobals "dict" = some (none))
    (b_set : PySem.W.nsIn K mainGlobals "set" = some (none))
    (b_range : PySem.W.nsIn K mainGlobals "range" = some (none))
    (gWORDS : PySem.W.nsIn K mainGlobals "WORDS" = some (some (.ref aWORDS)))
    (gTURNED : PySem.W.nsIn K mainGlobals "TURNED" = some (some (.ref aTURNED)))
    (gBLOCKS : PySem.W.nsIn K mainGlobals "BLOCKS" = some (some (.ref aBLOCKS)))
    (lWORDS : K.lookup aWORDS = some ⟨.type "dict", none, .dict esWORDS nWORDS, #[]⟩)
    (sWORDS : (aWORDS == sysModules) = false)
    (kWORDS : PySem.W.KeysLit w.params esWORDS.toList)
    (eWORDS : esWORDS.toList.map (fun e => (absV e.key, absV e.val)) = ([("lt;", "<"), ("gt;", ">"), ("amp;", "&"), ("quot;", "\"")] : List (Str × Str)).map (fun p => (some (V.str p.1), some (V.str p.2))))
    (lTURNED : K.lookup aTURNED = some ⟨.type "dict", none, .dict esTURNED nTURNED, #[]⟩)
    (sTURNED : (aTURNED == sysModules) = false)
    (kTURNED : PySem.W.KeysLit w.params esTURNED.toList)
    (eTURNED : esTURNED.toList.map (fun e => (absV e.key, absV e.val)) = ([("<", "&lt;"), (">", "&gt;"), ("&", "&amp;"), ("\"", "&quot;")] : List (Str × Str)).map (fun p => (some (V.str p.1), some (V.str p.2))))
    (lBLOCKS : K.lookup aBLOCKS = some oB)
    (cBLOCKS : oB.cls = .type "tuple")
    (dBLOCKS : oB.data = .seq iB nB)
    (vBLOCKS : iB.toList.map absV = [some (V.str "each"), some (V.str "when")])
    (aC : PySem.W.nsIn K mainGlobals "Reading" = some (some (.ref C)))
    (pg : PySem.W.plainGet K C Str.empty = true)
    (hd : PySem.W.hasDictIn K C = true)
    (po : PySem.W.plainOver K C = true)
    (sa : PySem.W.findIn K (.ref C) "__setattr__" = some (some (.builtin "object.__setattr__")))
    (mk : PySem.W.makesIn K C = true)
    (kc : PySem.W.keepIn K (.ref C) = true)
    (n_text : PySem.W.findIn K (.ref C) "text" = some none)
    (n_at : PySem.W.findIn K (.ref C) "at" = some none)
    (n_has_holes : PySem.W.findIn K (.ref C) "has_holes" = some none)
    (n_stack : PySem.W.findIn K (.ref C) "stack" = some none)
    (a0 : PySem.W.nsIn K mainGlobals "is_number" = some (some (.ref f0)))
    (l0 : K.lookup f0 = some ⟨oc0, od0, .func (PySem.W.fnOf "is_number" "is_number" (defArgs s_is_number) (defBody s_is_number) (defScope s_is_number) .none kV0 dc0 pm0 an0 cd0 ct0), sl0⟩)
    (c0 : PySem.W.codeIn K cd0 "is_number" = true)
    (k0 : PySem.W.keepIn K (.ref f0) = true)
    (a1 : PySem.W.nsIn K mainGlobals "is_from" = some (some (.ref f1)))
    (l1 : K.lookup f1 = some ⟨oc1, od1, .func (PySem.W.fnOf "is_from" "is_from" (defArgs s_is_from) (defBody s_is_from) (defScope s_is_from) .none kV1 dc1 pm1 an1 cd1 ct1), sl1⟩)
    (c1 : PySem.W.codeIn K cd1 "is_from" = true)
    (k1 : PySem.W.keepIn K (.ref f1) = true)
    (a2 : PySem.W.nsIn K mainGlobals "is_made_of" = some (some (.ref f2)))
    (l2 : K.lookup f2 = some ⟨oc2, od2, .func (PySem.W.fnOf "is_made_of" "is_made_of" (defArgs s_is_made_of) (defBody s_is_made_of) (defScope s_is_made_of) .none kV2 dc2 pm2 an2 cd2 ct2), sl2⟩)
    (c2 : PySem.W.codeIn K cd2 "is_made_of" = true)
    (k2 : PySem.W.keepIn K (.ref f2) = true)
    (a3 : PySem.W.nsIn K mainGlobals "is_name" = some (some (.ref f3)))
    (l3 : K.lookup f3 = some ⟨oc3, od3, .func (PySem.W.fnOf "is_name" "is_name" (defArgs s_is_name) (defBody s_is_name) (defScope s_is_name) .none kV3 dc3 pm3 an3 cd3 ct3), sl3⟩)
    (c3 : PySem.W.codeIn K cd3 "is_name" = true)
    (k3 : PySem.W.keepIn K (.ref f3) = true)
    (a4 : PySem.W.nsIn K mainGlobals "is_sign" = some (some (.ref f4)))
    (l4 : K.lookup f4 = some ⟨oc4, od4, .func (PySem.W.fnOf "is_sign" "is_sign" (defArgs s_is_sign) (defBody s_is_sign) (defScope s_is_sign) .none kV4 dc4 pm4 an4 cd4 ct4), sl4⟩)
    (c4 : PySem.W.codeIn K cd4 "is_sign" = true)
    (k4 : PySem.W.keepIn K (.ref f4) = true)
    (a5 : PySem.W.nsIn K mainGlobals "is_text" = some (some (.ref f5)))
    (l5 : K.lookup f5 = some ⟨oc5, od5, .func (PySem.W.fnOf "is_text" "is_text" (defArgs s_is_text) (defBody s_is_text) (defScope s_is_text) .none kV5 dc5 pm5 an5 cd5 ct5), sl5⟩)
    (c5 : PySem.W.codeIn K cd5 "is_text" = true)
    (k5 : PySem.W.keepIn K (.ref f5) = true)
    (a6 : PySem.W.nsIn K mainGlobals "is_value" = some (some (.ref f6)))
    (l6 : K.lookup f6 = some ⟨oc6, od6, .func (PySem.W.fnOf "is_value" "is_value" (defArgs s_is_value) (defBody s_is_value) (defScope s_is_value) .none kV6 dc6 pm6 an6 cd6 ct6), sl6⟩)
    (c6 : PySem.W.codeIn K cd6 "is_value" = true)
    (k6 : PySem.W.keepIn K (.ref f6) = true)
    (a7 : PySem.W.nsIn K mainGlobals "is_shaped" = some (some (.ref f7)))
    (l7 : K.lookup f7 = some ⟨oc7, od7, .func (PySem.W.fnOf "is_shaped" "is_shaped" (defArgs s_is_shaped) (defBody s_is_shaped) (defScope s_is_shaped) .none kV7 dc7 pm7 an7 cd7 ct7), sl7⟩)
    (c7 : PySem.W.codeIn K cd7 "is_shaped" = true)
    (k7 : PySem.W.keepIn K (.ref f7) = true)
    (a8 : PySem.W.nsIn K mainGlobals "are_unlike" = some (some (.ref f8)))
    (l8 : K.lookup f8 = some ⟨oc8, od8, .func (PySem.W.fnOf "are_unlike" "are_unlike" (defArgs s_are_unlike) (defBody s_are_unlike) (defScope s_are_unlike) .none kV8 dc8 pm8 an8 cd8 ct8), sl8⟩)
    (c8 : PySem.W.codeIn K cd8 "are_unlike" = true)
    (k8 : PySem.W.keepIn K (.ref f8) = true)
    (a9 : PySem.W.nsIn K mainGlobals "are_signs" = some (some (.ref f9)))
    (l9 : K.lookup f9 = some ⟨oc9, od9, .func (PySem.W.fnOf "are_signs" "are_signs" (defArgs s_are_signs) (defBody s_are_signs) (defScope s_are_signs) .none kV9 dc9 pm9 an9 cd9 ct9), sl9⟩)
    (c9 : PySem.W.codeIn K cd9 "are_signs" = true)
    (k9 : PySem.W.keepIn K (.ref f9) = true)
    (a10 : PySem.W.nsIn K mainGlobals "are_all_there" = some (some (.ref f10)))
    (l10 : K.lookup f10 = some ⟨oc10, od10, .func (PySem.W.fnOf "are_all_there" "are_all_there" (defArgs s_are_all_there) (defBody s_are_all_there) (defScope s_are_all_there) .none kV10 dc10 pm10 an10 cd10 ct10), sl10⟩)
    (c10 : PySem.W.codeIn K cd10 "are_all_there" = true)
    (k10 : PySem.W.keepIn K (.ref f10) = true)
    (a11 : PySem.W.findIn K (.ref C) "__init__" = some (some (.ref f11)))
    (i11 : PySem.W.isFn K (.ref f11) = true)
    (l11 : K.lookup f11 = some ⟨oc11, od11, .func (PySem.W.fnOf "__init__" "Reading.__init__" (defArgs s_Reading_init) (defBody s_Reading_init) (defScope s_Reading_init) .none kV11 dc11 pm11 an11 cd11 ct11), sl11⟩)
    (c11 : PySem.W.codeIn K cd11 "Reading.__init__" = true)
    (k11 : PySem.W.keepIn K (.ref f11) = true)
    (a12 : PySem.W.findIn K (.ref C) "here" = some (some (.ref f12)))
    (i12 : PySem.W.isFn K (.ref f12) = true)
    (l12 : K.lookup f12 = some ⟨oc12, od12, .func (PySem.W.fnOf "here" "Reading.here" (defArgs s_Reading_here) (defBody s_Reading_here) (defScope s_Reading_here) .none kV12 dc12 pm12 an12 cd12 ct12), sl12⟩)
    (c12 : PySem.W.codeIn K cd12 "Reading.here" = true)
    (k12 : PySem.W.keepIn K (.ref f12) = true)
    (a13 : PySem.W.findIn K (.ref C) "go_by" = some (some (.ref f13)))
    (i13 : PySem.W.isFn K (.ref f13) = true)
    (l13 : K.lookup f13 = some ⟨oc13, od13, .func (PySem.W.fnOf "go_by" "Reading.go_by" (defArgs s_Reading_go_by) (defBody s_Reading_go_by) (defScope s_Reading_go_by) .none kV13 dc13 pm13 an13 cd13 ct13), sl13⟩)
    (c13 : PySem.W.codeIn K cd13 "Reading.go_by" = true)
    (k13 : PySem.W.keepIn K (.ref f13) = true)
    (a14 : PySem.W.findIn K (.ref C) "name_unlike" = some (some (.ref f14)))
    (i14 : PySem.W.isFn K (.ref f14) = true)
    (l14 : K.lookup f14 = some ⟨oc14, od14, .func (PySem.W.fnOf "name_unlike" "Reading.name_unlike" (defArgs s_Reading_name_unlike) (defBody s_Reading_name_unlike) (defScope s_Reading_name_unlike) .none kV14 dc14 pm14 an14 cd14 ct14), sl14⟩)
    (c14 : PySem.W.codeIn K cd14 "Reading.name_unlike" = true)
    (k14 : PySem.W.keepIn K (.ref f14) = true)
    (a15 : PySem.W.findIn K (.ref C) "sign_there" = some (some (.ref f15)))
    (i15 : PySem.W.isFn K (.ref f15) = true)
    (l15 : K.lookup f15 = some ⟨oc15, od15, .func (PySem.W.fnOf "sign_there" "Reading.sign_there" (defArgs s_Reading_sign_there) (defBody s_Reading_sign_there) (defScope s_Reading_sign_there) .none kV15 dc15 pm15 an15 cd15 ct15), sl15⟩)
    (c15 : PySem.W.codeIn K cd15 "Reading.sign_there" = true)
    (k15 : PySem.W.keepIn K (.ref f15) = true)
    (a16 : PySem.W.findIn K (.ref C) "hole_there" = some (some (.ref f16)))
    (i16 : PySem.W.isFn K (.ref f16) = true)
    (l16 : K.lookup f16 = some ⟨oc16, od16, .func (PySem.W.fnOf "hole_there" "Reading.hole_there" (defArgs s_Reading_hole_there) (defBody s_Reading_hole_there) (defScope s_Reading_hole_there) .none kV16 dc16 pm16 an16 cd16 ct16), sl16⟩)
    (c16 : PySem.W.codeIn K cd16 "Reading.hole_there" = true)
    (k16 : PySem.W.keepIn K (.ref f16) = true)
    (a17 : PySem.W.findIn K (.ref C) "attribute_part" = some (some (.ref f17)))
    (i17 : PySem.W.isFn K (.ref f17) = true)
    (l17 : K.lookup f17 = some ⟨oc17, od17, .func (PySem.W.fnOf "attribute_part" "Reading.attribute_part" (defArgs s_Reading_attribute_part) (defBody s_Reading_attribute_part) (defScope s_Reading_attribute_part) .none kV17 dc17 pm17 an17 cd17 ct17), sl17⟩)
    (c17 : PySem.W.codeIn K cd17 "Reading.attribute_part" = true)
    (k17 : PySem.W.keepIn K (.ref f17) = true)
    (a18 : PySem.W.findIn K (.ref C) "attribute_there" = some (some (.ref f18)))
    (i18 : PySem.W.isFn K (.ref f18) = true)
    (l18 : K.lookup f18 = some ⟨oc18, od18, .func (PySem.W.fnOf "attribute_there" "Reading.attribute_there" (defArgs s_Reading_attribute_there) (defBody s_Reading_attribute_there) (defScope s_Reading_attribute_there) .none kV18 dc18 pm18 an18 cd18 ct18), sl18⟩)
    (c18 : PySem.W.codeIn K cd18 "Reading.attribute_there" = true)
    (k18 : PySem.W.keepIn K (.ref f18) = true)
    (a19 : PySem.W.findIn K (.ref C) "go_by_tag" = some (some (.ref f19)))
    (i19 : PySem.W.isFn K (.ref f19) = true)
    (l19 : K.lookup f19 = some ⟨oc19, od19, .func (PySem.W.fnOf "go_by_tag" "Reading.go_by_tag" (defArgs s_Reading_go_by_tag) (defBody s_Reading_go_by_tag) (defScope s_Reading_go_by_tag) .none kV19 dc19 pm19 an19 cd19 ct19), sl19⟩)
    (c19 : PySem.W.codeIn K cd19 "Reading.go_by_tag" = true)
    (k19 : PySem.W.keepIn K (.ref f19) = true)
    (a20 : PySem.W.findIn K (.ref C) "go_by_end" = some (some (.ref f20)))
    (i20 : PySem.W.isFn K (.ref f20) = true)
    (l20 : K.lookup f20 = some ⟨oc20, od20, .func (PySem.W.fnOf "go_by_end" "Reading.go_by_end" (defArgs s_Reading_go_by_end) (defBody s_Reading_go_by_end) (defScope s_Reading_go_by_end) .none kV20 dc20 pm20 an20 cd20 ct20), sl20⟩)
    (c20 : PySem.W.codeIn K cd20 "Reading.go_by_end" = true)
    (k20 : PySem.W.keepIn K (.ref f20) = true)
    (a21 : PySem.W.findIn K (.ref C) "go_by_hole" = some (some (.ref f21)))
    (i21 : PySem.W.isFn K (.ref f21) = true)
    (l21 : K.lookup f21 = some ⟨oc21, od21, .func (PySem.W.fnOf "go_by_hole" "Reading.go_by_hole" (defArgs s_Reading_go_by_hole) (defBody s_Reading_go_by_hole) (defScope s_Reading_go_by_hole) .none kV21 dc21 pm21 an21 cd21 ct21), sl21⟩)
    (c21 : PySem.W.codeIn K cd21 "Reading.go_by_hole" = true)
    (k21 : PySem.W.keepIn K (.ref f21) = true)
    (a22 : PySem.W.findIn K (.ref C) "shut" = some (some (.ref f22)))
    (i22 : PySem.W.isFn K (.ref f22) = true)
    (l22 : K.lookup f22 = some ⟨oc22, od22, .func (PySem.W.fnOf "shut" "Reading.shut" (defArgs s_Reading_shut) (defBody s_Reading_shut) (defScope s_Reading_shut) .none kV22 dc22 pm22 an22 cd22 ct22), sl22⟩)
    (c22 : PySem.W.codeIn K cd22 "Reading.shut" = true)
    (k22 : PySem.W.keepIn K (.ref f22) = true)
    (a23 : PySem.W.findIn K (.ref C) "all_parts" = some (some (.ref f23)))
    (i23 : PySem.W.isFn K (.ref f23) = true)
    (l23 : K.lookup f23 = some ⟨oc23, od23, .func (PySem.W.fnOf "all_parts" "Reading.all_parts" (defArgs s_Reading_all_parts) (defBody s_Reading_all_parts) (defScope s_Reading_all_parts) .none kV23 dc23 pm23 an23 cd23 ct23), sl23⟩)
    (c23 : PySem.W.codeIn K cd23 "Reading.all_parts" = true)
    (k23 : PySem.W.keepIn K (.ref f23) = true)
    (a24 : PySem.W.nsIn K mainGlobals "merged" = some (some (.ref f24)))
    (l24 : K.lookup f24 = some ⟨oc24, od24, .func (PySem.W.fnOf "merged" "merged" (defArgs s_merged) (defBody s_merged) (defScope s_merged) .none kV24 dc24 pm24 an24 cd24 ct24), sl24⟩)
    (c24 : PySem.W.codeIn K cd24 "merged" = true)
    (k24 : PySem.W.keepIn K (.ref f24) = true)
    (a25 : PySem.W.nsIn K mainGlobals "read_marks" = some (some (.ref f25)))
    (l25 : K.lookup f25 = some ⟨oc25, od25, .func (PySem.W.fnOf "read_marks" "read_marks" (defArgs s_read_marks) (defBody s_read_marks) (defScope s_read_marks) .none kV25 dc25 pm25 an25 cd25 ct25), sl25⟩)
    (c25 : PySem.W.codeIn K cd25 "read_marks" = true)
    (k25 : PySem.W.keepIn K (.ref f25) = true)
    (a26 : PySem.W.nsIn K mainGlobals "are_attributes" = some (some (.ref f26)))
    (l26 : K.lookup f26 = some ⟨oc26, od26, .func (PySem.W.fnOf "are_attributes" "are_attributes" (defArgs s_are_attributes) (defBody s_are_attributes) (defScope s_are_attributes) .none kV26 dc26 pm26 an26 cd26 ct26), sl26⟩)
    (c26 : PySem.W.codeIn K cd26 "are_attributes" = true)
    (k26 : PySem.W.keepIn K (.ref f26) = true)
    (a27 : PySem.W.nsIn K mainGlobals "are_nodes" = some (some (.ref f27)))
    (l27 : K.lookup f27 = some ⟨oc27, od27, .func (PySem.W.fnOf "are_nodes" "are_nodes" (defArgs s_are_nodes) (defBody s_are_nodes) (defScope s_are_nodes) .none kV27 dc27 pm27 an27 cd27 ct27), sl27⟩)
    (c27 : PySem.W.codeIn K cd27 "are_nodes" = true)
    (k27 : PySem.W.keepIn K (.ref f27) = true)
    (a28 : PySem.W.nsIn K mainGlobals "turned" = some (some (.ref f28)))
    (l28 : K.lookup f28 = some ⟨oc28, od28, .func (PySem.W.fnOf "turned" "turned" (defArgs s_turned) (defBody s_turned) (defScope s_turned) .none kV28 dc28 pm28 an28 cd28 ct28), sl28⟩)
    (c28 : PySem.W.codeIn K cd28 "turned" = true)
    (k28 : PySem.W.keepIn K (.ref f28) = true)
    (a29 : PySem.W.nsIn K mainGlobals "show_marks" = some (some (.ref f29)))
    (l29 : K.lookup f29 = some ⟨oc29, od29, .func (PySem.W.fnOf "show_marks" "show_marks" (defArgs s_show_marks) (defBody s_show_marks) (defScope s_show_marks) .none kV29 dc29 pm29 an29 cd29 ct29), sl29⟩)
    (c29 : PySem.W.codeIn K cd29 "show_marks" = true)
    (k29 : PySem.W.keepIn K (.ref f29) = true)
    (a30 : PySem.W.nsIn K mainGlobals "parts_in" = some (some (.ref f30)))
    (l30 : K.lookup f30 = some ⟨oc30, od30, .func (PySem.W.fnOf "parts_in" "parts_in" (defArgs s_parts_in) (defBody s_parts_in) (defScope s_parts_in) .none kV30 dc30 pm30 an30 cd30 ct30), sl30⟩)
    (c30 : PySem.W.codeIn K cd30 "parts_in" = true)
    (k30 : PySem.W.keepIn K (.ref f30) = true)
    (a31 : PySem.W.nsIn K mainGlobals "need_template" = some (some (.ref f31)))
    (l31 : K.lookup f31 = some ⟨oc31, od31, .func (PySem.W.fnOf "need_template" "need_template" (defArgs s_need_template) (defBody s_need_template) (defScope s_need_template) .none kV31 dc31 pm31 an31 cd31 ct31), sl31⟩)
    (c31 : PySem.W.codeIn K cd31 "need_template" = true)
    (k31 : PySem.W.keepIn K (.ref f31) = true)
    (a32 : PySem.W.nsIn K mainGlobals "is_template" = some (some (.ref f32)))
    (l32 : K.lookup f32 = some ⟨oc32, od32, .func (PySem.W.fnOf "is_template" "is_template" (defArgs s_is_template) (defBody s_is_template) (defScope s_is_template) .none kV32 dc32 pm32 an32 cd32 ct32), sl32⟩)
    (c32 : PySem.W.codeIn K cd32 "is_template" = true)
    (k32 : PySem.W.keepIn K (.ref f32) = true)
    (a33 : PySem.W.nsIn K mainGlobals "is_data" = some (some (.ref f33)))
    (l33 : K.lookup f33 = some ⟨oc33, od33, .func (PySem.W.fnOf "is_data" "is_data" (defArgs s_is_data) (defBody s_is_data) (defScope s_is_data) .none kV33 dc33 pm33 an33 cd33 ct33), sl33⟩)
    (c33 : PySem.W.codeIn K cd33 "is_data" = true)
    (k33 : PySem.W.keepIn K (.ref f33) = true)
    (a34 : PySem.W.nsIn K mainGlobals "is_data_row" = some (some (.ref f34)))
    (l34 : K.lookup f34 = some ⟨oc34, od34, .func (PySem.W.fnOf "is_data_row" "is_data_row" (defArgs s_is_data_row) (defBody s_is_data_row) (defScope s_is_data_row) .none kV34 dc34 pm34 an34 cd34 ct34), sl34⟩)
    (c34 : PySem.W.codeIn K cd34 "is_data_row" = true)
    (k34 : PySem.W.keepIn K (.ref f34) = true)
    (a35 : PySem.W.nsIn K mainGlobals "need_data" = some (some (.ref f35)))
    (l35 : K.lookup f35 = some ⟨oc35, od35, .func (PySem.W.fnOf "need_data" "need_data" (defArgs s_need_data) (defBody s_need_data) (defScope s_need_data) .none kV35 dc35 pm35 an35 cd35 ct35), sl35⟩)
    (c35 : PySem.W.codeIn K cd35 "need_data" = true)
    (k35 : PySem.W.keepIn K (.ref f35) = true)
    (a36 : PySem.W.nsIn K mainGlobals "holes_by" = some (some (.ref f36)))
    (l36 : K.lookup f36 = some ⟨oc36, od36, .func (PySem.W.fnOf "holes_by" "holes_by" (defArgs s_holes_by) (defBody s_holes_by) (defScope s_holes_by) .none kV36 dc36 pm36 an36 cd36 ct36), sl36⟩)
    (c36 : PySem.W.codeIn K cd36 "holes_by" = true)
    (k36 : PySem.W.keepIn K (.ref f36) = true)
    (a37 : PySem.W.nsIn K mainGlobals "holes_of" = some (some (.ref f37)))
    (l37 : K.lookup f37 = some ⟨oc37, od37, .func (PySem.W.fnOf "holes_of" "holes_of" (defArgs s_holes_of) (defBody s_holes_of) (defScope s_holes_of) .none kV37 dc37 pm37 an37 cd37 ct37), sl37⟩)
    (c37 : PySem.W.codeIn K cd37 "holes_of" = true)
    (k37 : PySem.W.keepIn K (.ref f37) = true)
    (a38 : PySem.W.nsIn K mainGlobals "looked_up" = some (some (.ref f38)))
    (l38 : K.lookup f38 = some ⟨oc38, od38, .func (PySem.W.fnOf "looked_up" "looked_up" (defArgs s_looked_up) (defBody s_looked_up) (defScope s_looked_up) .none kV38 dc38 pm38 an38 cd38 ct38), sl38⟩)
    (c38 : PySem.W.codeIn K cd38 "looked_up" = true)
    (k38 : PySem.W.keepIn K (.ref f38) = true)
    (a39 : PySem.W.nsIn K mainGlobals "text_by" = some (some (.ref f39)))
    (l39 : K.lookup f39 = some ⟨oc39, od39, .func (PySem.W.fnOf "text_by" "text_by" (defArgs s_text_by) (defBody s_text_by) (defScope s_text_by) .none kV39 dc39 pm39 an39 cd39 ct39), sl39⟩)
    (c39 : PySem.W.codeIn K cd39 "text_by" = true)
    (k39 : PySem.W.keepIn K (.ref f39) = true)
    (a40 : PySem.W.nsIn K mainGlobals "linked" = some (some (.ref f40)))
    (l40 : K.lookup f40 = some ⟨oc40, od40, .func (PySem.W.fnOf "linked" "linked" (defArgs s_linked) (defBody s_linked) (defScope s_linked) .none kV40 dc40 pm40 an40 cd40 ct40), sl40⟩)
    (c40 : PySem.W.codeIn K cd40 "linked" = true)
    (k40 : PySem.W.keepIn K (.ref f40) = true)
    (a41 : PySem.W.nsIn K mainGlobals "rows_of" = some (some (.ref f41)))
    (l41 : K.lookup f41 = some ⟨oc41, od41, .func (PySem.W.fnOf "rows_of" "rows_of" (defArgs s_rows_of) (defBody s_rows_of) (defScope s_rows_of) .none kV41 dc41 pm41 an41 cd41 ct41), sl41⟩)
    (c41 : PySem.W.codeIn K cd41 "rows_of" = true)
    (k41 : PySem.W.keepIn K (.ref f41) = true)
    (a42 : PySem.W.nsIn K mainGlobals "attribute_by" = some (some (.ref f42)))
    (l42 : K.lookup f42 = some ⟨oc42, od42, .func (PySem.W.fnOf "attribute_by" "attribute_by" (defArgs s_attribute_by) (defBody s_attribute_by) (defScope s_attribute_by) .none kV42 dc42 pm42 an42 cd42 ct42), sl42⟩)
    (c42 : PySem.W.codeIn K cd42 "attribute_by" = true)
    (k42 : PySem.W.keepIn K (.ref f42) = true)
    (a43 : PySem.W.nsIn K mainGlobals "filled_parts" = some (some (.ref f43)))
    (l43 : K.lookup f43 = some ⟨oc43, od43, .func (PySem.W.fnOf "filled_parts" "filled_parts" (defArgs s_filled_parts) (defBody s_filled_parts) (defScope s_filled_parts) .none kV43 dc43 pm43 an43 cd43 ct43), sl43⟩)
    (c43 : PySem.W.codeIn K cd43 "filled_parts" = true)
    (k43 : PySem.W.keepIn K (.ref f43) = true)
    (a44 : PySem.W.nsIn K mainGlobals "tree_by" = some (some (.ref f44)))
    (l44 : K.lookup f44 = some ⟨oc44, od44, .func (PySem.W.fnOf "tree_by" "tree_by" (defArgs s_tree_by) (defBody s_tree_by) (defScope s_tree_by) .none kV44 dc44 pm44 an44 cd44 ct44), sl44⟩)
    (c44 : PySem.W.codeIn K cd44 "tree_by" = true)
    (k44 : PySem.W.keepIn K (.ref f44) = true)
    (a45 : PySem.W.nsIn K mainGlobals "filled_tree" = some (some (.ref f45)))
    (l45 : K.lookup f45 = some ⟨oc45, od45, .func (PySem.W.fnOf "filled_tree" "filled_tree" (defArgs s_filled_tree) (defBody s_filled_tree) (defScope s_filled_tree) .none kV45 dc45 pm45 an45 cd45 ct45), sl45⟩)
    (c45 : PySem.W.codeIn K cd45 "filled_tree" = true)
    (k45 : PySem.W.keepIn K (.ref f45) = true)
    (a46 : PySem.W.nsIn K mainGlobals "filled" = some (some (.ref f46)))
    (l46 : K.lookup f46 = some ⟨oc46, od46, .func (PySem.W.fnOf "filled" "filled" (defArgs s_filled) (defBody s_filled) (defScope s_filled) .none kV46 dc46 pm46 an46 cd46 ct46), sl46⟩)
    (c46 : PySem.W.codeIn K cd46 "filled" = true)
    (k46 : PySem.W.keepIn K (.ref f46) = true)
    (a47 : PySem.W.nsIn K mainGlobals "pieces_of" = some (some (.ref f47)))
    (l47 : K.lookup f47 = some ⟨oc47, od47, .func (PySem.W.fnOf "pieces_of" "pieces_of" (defArgs s_pieces_of) (defBody s_pieces_of) (defScope s_pieces_of) .none kV47 dc47 pm47 an47 cd47 ct47), sl47⟩)
    (c47 : PySem.W.codeIn K cd47 "pieces_of" = true)
    (k47 : PySem.W.keepIn K (.ref f47) = true)
    (a48 : PySem.W.nsIn K mainGlobals "nested" = some (some (.ref f48)))
    (l48 : K.lookup f48 = some ⟨oc48, od48, .func (PySem.W.fnOf "nested" "nested" (defArgs s_nested) (defBody s_nested) (defScope s_nested) .none kV48 dc48 pm48 an48 cd48 ct48), sl48⟩)
    (c48 : PySem.W.codeIn K cd48 "nested" = true)
    (k48 : PySem.W.keepIn K (.ref f48) = true)
    (a49 : PySem.W.nsIn K mainGlobals "pasted_by" = some (some (.ref f49)))
    (l49 : K.lookup f49 = some ⟨oc49, od49, .func (PySem.W.fnOf "pasted_by" "pasted_by" (defArgs s_pasted_by) (defBody s_pasted_by) (defScope s_pasted_by) .none kV49 dc49 pm49 an49 cd49 ct49), sl49⟩)
    (c49 : PySem.W.codeIn K cd49 "pasted_by" = true)
    (k49 : PySem.W.keepIn K (.ref f49) = true)
    (a50 : PySem.W.nsIn K mainGlobals "pasted" = some (some (.ref f50)))
    (l50 : K.lookup f50 = some ⟨oc50, od50, .func (PySem.W.fnOf "pasted" "pasted" (defArgs s_pasted) (defBody s_pasted) (defScope s_pasted) .none kV50 dc50 pm50 an50 cd50 ct50), sl50⟩)
    (c50 : PySem.W.codeIn K cd50 "pasted" = true)
    (k50 : PySem.W.keepIn K (.ref f50) = true)
    (a51 : PySem.W.nsIn K mainGlobals "way_to_hole" = some (some (.ref f51)))
    (l51 : K.lookup f51 = some ⟨oc51, od51, .func (PySem.W.fnOf "way_to_hole" "way_to_hole" (defArgs s_way_to_hole) (defBody s_way_to_hole) (defScope s_way_to_hole) .none kV51 dc51 pm51 an51 cd51 ct51), sl51⟩)
    (c51 : PySem.W.codeIn K cd51 "way_to_hole" = true)
    (k51 : PySem.W.keepIn K (.ref f51) = true)
    (a52 : PySem.W.nsIn K mainGlobals "breaks" = some (some (.ref f52)))
    (l52 : K.lookup f52 = some ⟨oc52, od52, .func (PySem.W.fnOf "breaks" "breaks" (defArgs s_breaks) (defBody s_breaks) (defScope s_breaks) .none kV52 dc52 pm52 an52 cd52 ct52), sl52⟩)
    (c52 : PySem.W.codeIn K cd52 "breaks" = true)
    (k52 : PySem.W.keepIn K (.ref f52) = true)
    (a53 : PySem.W.nsIn K mainGlobals "_law_cell" = some (some (.ref f53)))
    (l53 : K.lookup f53 = some ⟨oc53, od53, .func (PySem.W.fnOf "_law_cell" "_law_cell" (defArgs s_law_cell) (defBody s_law_cell) (defScope s_law_cell) .none kV53 dc53 pm53 an53 cd53 ct53), sl53⟩)
    (c53 : PySem.W.codeIn K cd53 "_law_cell" = true)
    (k53 : PySem.W.keepIn K (.ref f53) = true)
    (a54 : PySem.W.nsIn K mainGlobals "_law_pen" = some (some (.ref f54)))
    (l54 : K.lookup f54 = some ⟨oc54, od54, .func (PySem.W.fnOf "_law_pen" "_law_pen" (defArgs s_law_pen) (defBody s_law_pen) (defScope s_law_pen) .none kV54 dc54 pm54 an54 cd54 ct54), sl54⟩)
    (c54 : PySem.W.codeIn K cd54 "_law_pen" = true)
    (k54 : PySem.W.keepIn K (.ref f54) = true)
    (a55 : PySem.W.nsIn K mainGlobals "_law_draw" = some (some (.ref f55)))
    (l55 : K.lookup f55 = some ⟨oc55, od55, .func (PySem.W.fnOf "_law_draw" "_law_draw" (defArgs s_law_draw) (defBody s_law_draw) (defScope s_law_draw) .none kV55 dc55 pm55 an55 cd55 ct55), sl55⟩)
    (c55 : PySem.W.codeIn K cd55 "_law_draw" = true)
    (k55 : PySem.W.keepIn K (.ref f55) = true)
    (a56 : PySem.W.nsIn K mainGlobals "_law_signs_of" = some (some (.ref f56)))
    (l56 : K.lookup f56 = some ⟨oc56, od56, .func (PySem.W.fnOf "_law_signs_of" "_law_signs_of" (defArgs s_law_signs_of) (defBody s_law_signs_of) (defScope s_law_signs_of) .none kV56 dc56 pm56 an56 cd56 ct56), sl56⟩)
    (c56 : PySem.W.codeIn K cd56 "_law_signs_of" = true)
    (k56 : PySem.W.keepIn K (.ref f56) = true)
    (a57 : PySem.W.nsIn K mainGlobals "_law_written" = some (some (.ref f57)))
    (l57 : K.lookup f57 = some ⟨oc57, od57, .func (PySem.W.fnOf "_law_written" "_law_written" (defArgs s_law_written) (defBody s_law_written) (defScope s_law_written) .none kV57 dc57 pm57 an57 cd57 ct57), sl57⟩)
    (c57 : PySem.W.codeIn K cd57 "_law_written" = true)
    (k57 : PySem.W.keepIn K (.ref f57) = true)
    (a58 : PySem.W.nsIn K mainGlobals "law" = some (some (.ref f58)))
    (l58 : K.lookup f58 = some ⟨oc58, od58, .func (PySem.W.fnOf "law" "law" (defArgs s_law) (defBody s_law) (defScope s_law) .none kV58 dc58 pm58 an58 cd58 ct58), sl58⟩)
    (c58 : PySem.W.codeIn K cd58 "law" = true)
    (k58 : PySem.W.keepIn K (.ref f58) = true)
    (ok : ∀ (base : Heap) (C fI aWORDS aTURNED aBLOCKS : Addr) (fdI fd : FuncData), K.In base → base.Ns mainGlobals mg → Tx K w mg C fI aWORDS aTURNED aBLOCKS fdI → Fun K "law" "law" s_law fa fd → FnOk l.prog w K mg base CX0 kLaw fa fd ["_law_script"] (spLaw K)) :
    ∃ fd : FuncData, (∀ (s : Shared) (v : Value), BindsTo s fd ⟨[v], []⟩ [("_law_script", v)]) ∧ ∀ base : Heap, K.In base → base.Ns mainGlobals mg → FnOk l.prog w K mg base CX0 kLaw fa fd ["_law_script"] (spLaw K) := by
  have e := hfa.symm.trans (PySem.W.mg_of X G a58)
  cases e
  have F0 := fun_mk (st := s_is_number) l0 c0 k0
  have B0 := F0.binds (ps := ["thing"]) fun _ _ _ _ _ _ us hl => match us, hl with | [_], _ => rfl
  have F1 := fun_mk (st := s_is_from) l1 c1 k1
  have B1 := F1.binds (ps := ["thing", "least", "most"]) fun _ _ _ _ _ _ us hl => match us, hl with | [_, _, _], _ => rfl
  have F2 := fun_mk (st := s_is_made_of) l2 c2 k2
  have B2 := F2.binds (ps := ["thing", "signs", "most"]) fun _ _ _ _ _ _ us hl => match us, hl with | [_, _, _], _ => rfl
  have F3 := fun_mk (st := s_is_name) l3 c3 k3
  have B3 := F3.binds (ps := ["thing"]) fun _ _ _ _ _ _ us hl => match us, hl with | [_], _ => rfl
  have F4 := fun_mk (st := s_is_sign) l4 c4 k4
  have B4 := F4.binds (ps := ["sign"]) fun _ _ _ _ _ _ us hl => match us, hl with | [_], _ => rfl
  have F5 := fun_mk (st := s_is_text) l5 c5 k5
  have B5 := F5.binds (ps := ["thing"]) fun _ _ _ _ _ _ us hl => match us, hl with | [_], _ => rfl
  have F6 := fun_mk (st := s_is_value) l6 c6 k6
  have B6 := F6.binds (ps := ["thing"]) fun _ _ _ _ _ _ us hl => match us, hl with | [_], _ => rfl
  have F7 := fun_mk (st := s_is_shaped) l7 c7 k7
  have B7 := F7.binds (ps := ["thing", "many"]) fun _ _ _ _ _ _ us hl => match us, hl with | [_, _], _ => rfl
  have F8 := fun_mk (st := s_are_unlike) l8 c8 k8
  have B8 := F8.binds (ps := ["things"]) fun _ _ _ _ _ _ us hl => match us, hl with | [_], _ => rfl
  have F9 := fun_mk (st := s_are_signs) l9 c9 k9
  have B9 := F9.binds (ps := ["thing"]) fun _ _ _ _ _ _ us hl => match us, hl with | [_], _ => rfl
  have F10 := fun_mk (st := s_are_all_there) l10 c10 k10
  have B10 := F10.binds (ps := ["begin", "others"]) fun _ _ _ _ _ _ us hl => match us, hl with | [_, _], _ => rfl
  have F11 := fun_mk (st := s_Reading_init) l11 c11 k11
  have F12 := fun_mk (st := s_Reading_here) l12 c12 k12
  have B12 := F12.binds (ps := ["self"]) fun _ _ _ _ _ _ us hl => match us, hl with | [_], _ => rfl
  have F13 := fun_mk (st := s_Reading_go_by) l13 c13 k13
  have B13 := F13.binds (ps := ["self", "signs"]) fun _ _ _ _ _ _ us hl => match us, hl with | [_, _], _ => rfl
  have F14 := fun_mk (st := s_Reading_name_unlike) l14 c14 k14
  have B14 := F14.binds (ps := ["self", "others"]) fun _ _ _ _ _ _ us hl => match us, hl with | [_, _], _ => rfl
  have F15 := fun_mk (st := s_Reading_sign_there) l15 c15 k15
  have B15 := F15.binds (ps := ["self"]) fun _ _ _ _ _ _ us hl => match us, hl with | [_], _ => rfl
  have F16 := fun_mk (st := s_Reading_hole_there) l16 c16 k16
  have B16 := F16.binds (ps := ["self"]) fun _ _ _ _ _ _ us hl => match us, hl with | [_], _ => rfl
  have F17 := fun_mk (st := s_Reading_attribute_part) l17 c17 k17
  have B17 := F17.binds (ps := ["self"]) fun _ _ _ _ _ _ us hl => match us, hl with | [_], _ => rfl
  have F18 := fun_mk (st := s_Reading_attribute_there) l18 c18 k18
  have B18 := F18.binds (ps := ["self", "others"]) fun _ _ _ _ _ _ us hl => match us, hl with | [_, _], _ => rfl
  have F19 := fun_mk (st := s_Reading_go_by_tag) l19 c19 k19
  have B19 := F19.binds (ps := ["self"]) fun _ _ _ _ _ _ us hl => match us, hl with | [_], _ => rfl
  have F20 := fun_mk (st := s_Reading_go_by_end) l20 c20 k20
  have B20 := F20.binds (ps := ["self"]) fun _ _ _ _ _ _ us hl => match us, hl with | [_], _ => rfl
  have F21 := fun_mk (st := s_Reading_go_by_hole) l21 c21 k21
  have B21 := F21.binds (ps := ["self"]) fun _ _ _ _ _ _ us hl => match us, hl with | [_], _ => rfl
  have F22 := fun_mk (st := s_Reading_shut) l22 c22 k22
  have B22 := F22.binds (ps := ["self"]) fun _ _ _ _ _ _ us hl => match us, hl with | [_], _ => rfl
  have F23 := fun_mk (st := s_Reading_all_parts) l23 c23 k23
  have B23 := F23.binds (ps := ["self"]) fun _ _ _ _ _ _ us hl => match us, hl with | [_], _ => rfl
  have F24 := fun_mk (st := s_merged) l24 c24 k24
  have B24 := F24.binds (ps := ["parts"]) fun _ _ _ _ _ _ us hl => match us, hl with | [_], _ => rfl
  have F25 := fun_mk (st := s_read_marks) l25 c25 k25
  have B25 := F25.binds (ps := ["text"]) fun _ _ _ _ _ _ us hl => match us, hl with | [_], _ => rfl
  have F26 := fun_mk (st := s_are_attributes) l26 c26 k26
  have B26 := F26.binds (ps := ["thing"]) fun _ _ _ _ _ _ us hl => match us, hl with | [_], _ => rfl
  have F27 := fun_mk (st := s_are_nodes) l27 c27 k27
  have B27 := F27.binds (ps := ["thing"]) fun _ _ _ _ _ _ us hl => match us, hl with | [_], _ => rfl
  have F28 := fun_mk (st := s_turned) l28 c28 k28
  have B28 := F28.binds (ps := ["text"]) fun _ _ _ _ _ _ us hl => match us, hl with | [_], _ => rfl
  have F29 := fun_mk (st := s_show_marks) l29 c29 k29
  have B29 := F29.binds (ps := ["nodes"]) fun _ _ _ _ _ _ us hl => match us, hl with | [_], _ => rfl
  have F30 := fun_mk (st := s_parts_in) l30 c30 k30
  have B30 := F30.binds (ps := ["thing"]) fun _ _ _ _ _ _ us hl => match us, hl with | [_], _ => rfl
  have F31 := fun_mk (st := s_need_template) l31 c31 k31
  have B31 := F31.binds (ps := ["thing"]) fun _ _ _ _ _ _ us hl => match us, hl with | [_], _ => rfl
  have F32 := fun_mk (st := s_is_template) l32 c32 k32
  have B32 := F32.binds (ps := ["thing"]) fun _ _ _ _ _ _ us hl => match us, hl with | [_], _ => rfl
  have F33 := fun_mk (st := s_is_data) l33 c33 k33
  have B33 := F33.binds (ps := ["thing"]) fun _ _ _ _ _ _ us hl => match us, hl with | [_], _ => rfl
  have F34 := fun_mk (st := s_is_data_row) l34 c34 k34
  have B34 := F34.binds (ps := ["thing"]) fun _ _ _ _ _ _ us hl => match us, hl with | [_], _ => rfl
  have F35 := fun_mk (st := s_need_data) l35 c35 k35
  have B35 := F35.binds (ps := ["thing"]) fun _ _ _ _ _ _ us hl => match us, hl with | [_], _ => rfl
  have F36 := fun_mk (st := s_holes_by) l36 c36 k36
  have B36 := F36.binds (ps := ["parts"]) fun _ _ _ _ _ _ us hl => match us, hl with | [_], _ => rfl
  have F37 := fun_mk (st := s_holes_of) l37 c37 k37
  have B37 := F37.binds (ps := ["template"]) fun _ _ _ _ _ _ us hl => match us, hl with | [_], _ => rfl
  have F38 := fun_mk (st := s_looked_up) l38 c38 k38
  have B38 := F38.binds (ps := ["name", "rows"]) fun _ _ _ _ _ _ us hl => match us, hl with | [_, _], _ => rfl
  have F39 := fun_mk (st := s_text_by) l39 c39 k39
  have B39 := F39.binds (ps := ["name", "rows"]) fun _ _ _ _ _ _ us hl => match us, hl with | [_, _], _ => rfl
  have F40 := fun_mk (st := s_linked) l40 c40 k40
  have B40 := F40.binds (ps := ["text"]) fun _ _ _ _ _ _ us hl => match us, hl with | [_], _ => rfl
  have F41 := fun_mk (st := s_rows_of) l41 c41 k41
  have B41 := F41.binds (ps := ["kind", "name", "rows"]) fun _ _ _ _ _ _ us hl => match us, hl with | [_, _, _], _ => rfl
  have F42 := fun_mk (st := s_attribute_by) l42 c42 k42
  have B42 := F42.binds (ps := ["own", "parts", "rows"]) fun _ _ _ _ _ _ us hl => match us, hl with | [_, _, _], _ => rfl
  have F43 := fun_mk (st := s_filled_parts) l43 c43 k43
  have B43 := F43.binds (ps := ["parts", "rows"]) fun _ _ _ _ _ _ us hl => match us, hl with | [_, _], _ => rfl
  have F44 := fun_mk (st := s_tree_by) l44 c44 k44
  have B44 := F44.binds (ps := ["parts", "data"]) fun _ _ _ _ _ _ us hl => match us, hl with | [_, _], _ => rfl
  have F45 := fun_mk (st := s_filled_tree) l45 c45 k45
  have B45 := F45.binds (ps := ["template", "data"]) fun _ _ _ _ _ _ us hl => match us, hl with | [_, _], _ => rfl
  have F46 := fun_mk (st := s_filled) l46 c46 k46
  have B46 := F46.binds (ps := ["template", "data"]) fun _ _ _ _ _ _ us hl => match us, hl with | [_, _], _ => rfl
  have F47 := fun_mk (st := s_pieces_of) l47 c47 k47
  have B47 := F47.binds (ps := ["template"]) fun _ _ _ _ _ _ us hl => match us, hl with | [_], _ => rfl
  have F48 := fun_mk (st := s_nested) l48 c48 k48
  have B48 := F48.binds (ps := ["pieces"]) fun _ _ _ _ _ _ us hl => match us, hl with | [_], _ => rfl
  have F49 := fun_mk (st := s_pasted_by) l49 c49 k49
  have B49 := F49.binds (ps := ["parts", "rows"]) fun _ _ _ _ _ _ us hl => match us, hl with | [_, _], _ => rfl
  have F50 := fun_mk (st := s_pasted) l50 c50 k50
  have B50 := F50.binds (ps := ["template", "data"]) fun _ _ _ _ _ _ us hl => match us, hl with | [_, _], _ => rfl
  have F51 := fun_mk (st := s_way_to_hole) l51 c51 k51
  have B51 := F51.binds (ps := ["parts"]) fun _ _ _ _ _ _ us hl => match us, hl with | [_], _ => rfl
  have F52 := fun_mk (st := s_breaks) l52 c52 k52
  have B52 := F52.binds (ps := ["template"]) fun _ _ _ _ _ _ us hl => match us, hl with | [_], _ => rfl
  have F53 := fun_mk (st := s_law_cell) l53 c53 k53
  have B53 := F53.binds (ps := ["_law_script", "_law_k"]) fun _ _ _ _ _ _ us hl => match us, hl with | [_, _], _ => rfl
  have F54 := fun_mk (st := s_law_pen) l54 c54 k54
  have B54 := F54.binds (ps := ["_law_cell_here"]) fun _ _ _ _ _ _ us hl => match us, hl with | [_], _ => rfl
  have F55 := fun_mk (st := s_law_draw) l55 c55 k55
  have B55 := F55.binds (ps := ["_law_pen_here", "_law_many"]) fun _ _ _ _ _ _ us hl => match us, hl with | [_, _], _ => rfl
  have F56 := fun_mk (st := s_law_signs_of) l56 c56 k56
  have B56 := F56.binds (ps := ["_law_pen_here"]) fun _ _ _ _ _ _ us hl => match us, hl with | [_], _ => rfl
  have F57 := fun_mk (st := s_law_written) l57 c57 k57
  have B57 := F57.binds (ps := ["_law_pen_here"]) fun _ _ _ _ _ _ us hl => match us, hl with | [_], _ => rfl
  have F58 := fun_mk (st := s_law) l58 c58 k58
  refine ⟨PySem.W.fnOf "law" "law" (defArgs s_law) (defBody s_law) (defScope s_law) .none kV58 dc58 pm58 an58 cd58 ct58, fun s v => .of_eq rfl, fun base kb nb => ?_⟩
  refine ok base C f11 aWORDS aTURNED aBLOCKS (PySem.W.fnOf "__init__" "Reading.__init__" (defArgs s_Reading_init) (defBody s_Reading_init) (defScope s_Reading_init) .none kV11 dc11 pm11 an11 cd11 ct11) _ kb nb ?_ F58
  exact {
    gLETTERS := ⟨_, PySem.W.mg_of X G gLETTERS⟩
    gMOST_SIGNS := ⟨_, PySem.W.mg_of X G gMOST_SIGNS⟩
    gMOST_VALUE := ⟨_, PySem.W.mg_of X G gMOST_VALUE⟩
    gMOST_TEXT := ⟨_, PySem.W.mg_of X G gMOST_TEXT⟩
    gSIGNS := ⟨_, PySem.W.mg_of X G gSIGNS⟩
    gEND := ⟨_, PySem.W.mg_of X G gEND⟩
    gLINK := ⟨_, PySem.W.mg_of X G gLINK⟩
    gPLAIN := ⟨_, PySem.W.mg_of X G gPLAIN⟩
    gBREAK := ⟨_, PySem.W.mg_of X G gBREAK⟩
    b_len := PySem.W.mg_none_of X G b_len
    b_isinstance := PySem.W.mg_none_of X G b_isinstance
    b_all := PySem.W.mg_none_of X G b_all
    b_any := PySem.W.mg_none_of X G b_any
    b_max := PySem.W.mg_none_of X G b_max
    b_min := PySem.W.mg_none_of X G b_min
    b_str := PySem.W.mg_none_of X G b_str
    b_int := PySem.W.mg_none_of X G b_int
    b_bool := PySem.W.mg_none_of X G b_bool
    b_tuple := PySem.W.mg_none_of X G b_tuple
    b_dict := PySem.W.mg_none_of X G b_dict
    b_set := PySem.W.mg_none_of X G b_set
    b_range := PySem.W.mg_none_of X G b_range
    gWORDS := PySem.W.mg_of X G gWORDS
    gTURNED := PySem.W.mg_of X G gTURNED
    gBLOCKS := PySem.W.mg_of X G gBLOCKS
    kwWORDS := ⟨esWORDS, nWORDS, ⟨lWORDS, kWORDS, sWORDS⟩, eWORDS, by decide +kernel⟩
    kwTURNED := ⟨esTURNED, nTURNED, ⟨lTURNED, kTURNED, sTURNED⟩, eTURNED, by decide +kernel⟩
    sqBLOCKS := fun H => .inr ⟨oB, iB, nB, lBLOCKS, cBLOCKS, dBLOCKS, (by have := congrArg List.length vBLOCKS; simp at this; rw [this]; decide), vals_abs vBLOCKS⟩
    cl := ⟨pg, hd, po, sa⟩
    gReading := PySem.W.mg_of X G aC
    n_text := n_text
    n_at := n_at
    n_has_holes := n_has_holes
    n_stack := n_stack
    mkR := ⟨mk, a11, i11, kc⟩
    d_init := F11
    kInit := ⟨fun s us ws _ h1 h2 => match us, h1, ws, h2 with | [_, _], _, [_], _ => .of_eq rfl, fun a b => vals_app a b⟩
    d_is_number := ⟨_, _, F0, B0, PySem.W.mg_of X G a0⟩
    d_is_from := ⟨_, _, F1, B1, PySem.W.mg_of X G a1⟩
    d_is_made_of := ⟨_, _, F2, B2, PySem.W.mg_of X G a2⟩
    d_is_name := ⟨_, _, F3, B3, PySem.W.mg_of X G a3⟩
    d_is_sign := ⟨_, _, F4, B4, PySem.W.mg_of X G a4⟩
    d_is_text := ⟨_, _, F5, B5, PySem.W.mg_of X G a5⟩
    d_is_value := ⟨_, _, F6, B6, PySem.W.mg_of X G a6⟩
    d_is_shaped := ⟨_, _, F7, B7, PySem.W.mg_of X G a7⟩
    d_are_unlike := ⟨_, _, F8, B8, PySem.W.mg_of X G a8⟩
    d_are_signs := ⟨_, _, F9, B9, PySem.W.mg_of X G a9⟩
    d_are_all_there := ⟨_, _, F10, B10, PySem.W.mg_of X G a10⟩
    m_here := ⟨_, _, F12, B12, ⟨a12, i12, k12⟩⟩
    m_go_by := ⟨_, _, F13, B13, ⟨a13, i13, k13⟩⟩
    m_name_unlike := ⟨_, _, F14, B14, ⟨a14, i14, k14⟩⟩
    m_sign_there := ⟨_, _, F15, B15, ⟨a15, i15, k15⟩⟩
    m_hole_there := ⟨_, _, F16, B16, ⟨a16, i16, k16⟩⟩
    m_attribute_part := ⟨_, _, F17, B17, ⟨a17, i17, k17⟩⟩
    m_attribute_there := ⟨_, _, F18, B18, ⟨a18, i18, k18⟩⟩
    m_go_by_tag := ⟨_, _, F19, B19, ⟨a19, i19, k19⟩⟩
    m_go_by_end := ⟨_, _, F20, B20, ⟨a20, i20, k20⟩⟩
    m_go_by_hole := ⟨_, _, F21, B21, ⟨a21, i21, k21⟩⟩
    m_shut := ⟨_, _, F22, B22, ⟨a22, i22, k22⟩⟩
    m_all_parts := ⟨_, _, F23, B23, ⟨a23, i23, k23⟩⟩
    d_merged := ⟨_, _, F24, B24, PySem.W.mg_of X G a24⟩
    d_read_marks := ⟨_, _, F25, B25, PySem.W.mg_of X G a25⟩
    d_are_attributes := ⟨_, _, F26, B26, PySem.W.mg_of X G a26⟩
    d_are_nodes := ⟨_, _, F27, B27, PySem.W.mg_of X G a27⟩
    d_turned := ⟨_, _, F28, B28, PySem.W.mg_of X G a28⟩
    d_show_marks := ⟨_, _, F29, B29, PySem.W.mg_of X G a29⟩
    d_parts_in := ⟨_, _, F30, B30, PySem.W.mg_of X G a30⟩
    d_need_template := ⟨_, _, F31, B31, PySem.W.mg_of X G a31⟩
    d_is_template := ⟨_, _, F32, B32, PySem.W.mg_of X G a32⟩
    d_is_data := ⟨_, _, F33, B33, PySem.W.mg_of X G a33⟩
    d_is_data_row := ⟨_, _, F34, B34, PySem.W.mg_of X G a34⟩
    d_need_data := ⟨_, _, F35, B35, PySem.W.mg_of X G a35⟩
    d_holes_by := ⟨_, _, F36, B36, PySem.W.mg_of X G a36⟩
    d_holes_of := ⟨_, _, F37, B37, PySem.W.mg_of X G a37⟩
    d_looked_up := ⟨_, _, F38, B38, PySem.W.mg_of X G a38⟩
    d_text_by := ⟨_, _, F39, B39, PySem.W.mg_of X G a39⟩
    d_linked := ⟨_, _, F40, B40, PySem.W.mg_of X G a40⟩
    d_rows_of := ⟨_, _, F41, B41, PySem.W.mg_of X G a41⟩
    d_attribute_by := ⟨_, _, F42, B42, PySem.W.mg_of X G a42⟩
    d_filled_parts := ⟨_, _, F43, B43, PySem.W.mg_of X G a43⟩
    d_tree_by := ⟨_, _, F44, B44, PySem.W.mg_of X G a44⟩
    d_filled_tree := ⟨_, _, F45, B45, PySem.W.mg_of X G a45⟩
    d_filled := ⟨_, _, F46, B46, PySem.W.mg_of X G a46⟩
    d_pieces_of := ⟨_, _, F47, B47, PySem.W.mg_of X G a47⟩
    d_nested := ⟨_, _, F48, B48, PySem.W.mg_of X G a48⟩
    d_pasted_by := ⟨_, _, F49, B49, PySem.W.mg_of X G a49⟩
    d_pasted := ⟨_, _, F50, B50, PySem.W.mg_of X G a50⟩
    d_way_to_hole := ⟨_, _, F51, B51, PySem.W.mg_of X G a51⟩
    d_breaks := ⟨_, _, F52, B52, PySem.W.mg_of X G a52⟩
    d_law_cell := ⟨_, _, F53, B53, PySem.W.mg_of X G a53⟩
    d_law_pen := ⟨_, _, F54, B54, PySem.W.mg_of X G a54⟩
    d_law_draw := ⟨_, _, F55, B55, PySem.W.mg_of X G a55⟩
    d_law_signs_of := ⟨_, _, F56, B56, PySem.W.mg_of X G a56⟩
    d_law_written := ⟨_, _, F57, B57, PySem.W.mg_of X G a57⟩
    d_law := ⟨_, _, F58, F58.binds (ps := ["_law_script"]) (fun _ _ _ _ _ _ us hl => match us, hl with | [_], _ => rfl), PySem.W.mg_of X G a58⟩
    k_read_marks := ⟨_, _, F25, fun s ws hl => (match ws, hl with | [_], _ => .of_eq rfl), PySem.W.mg_of X G a25⟩
    k_show_marks := ⟨_, _, F29, fun s ws hl => (match ws, hl with | [_], _ => .of_eq rfl), PySem.W.mg_of X G a29⟩
    k_is_template := ⟨_, _, F32, fun s ws hl => (match ws, hl with | [_], _ => .of_eq rfl), PySem.W.mg_of X G a32⟩
    k_holes_of := ⟨_, _, F37, fun s ws hl => (match ws, hl with | [_], _ => .of_eq rfl), PySem.W.mg_of X G a37⟩
    k_breaks := ⟨_, _, F52, fun s ws hl => (match ws, hl with | [_], _ => .of_eq rfl), PySem.W.mg_of X G a52⟩
    k_filled_tree := ⟨_, _, F45, fun s ws hl => (match ws, hl with | [_, _], _ => .of_eq rfl), PySem.W.mg_of X G a45⟩
    k_filled := ⟨_, _, F46, fun s ws hl => (match ws, hl with | [_, _], _ => .of_eq rfl), PySem.W.mg_of X G a46⟩
    k_pasted := ⟨_, _, F50, fun s ws hl => (match ws, hl with | [_, _], _ => .of_eq rfl), PySem.W.mg_of X G a50⟩
  }
end Dh
namespace Dh
open PySem PySem.Spec PyProof.Rows L2
/-! ### the law -/
section
variable {H0 F0 : Hp} {l : Addr} {H F H' F' : Hp}
theorem WS.draw (h : WS H0 F0 l H F) (sb : SameB l H H') (hl' : H' l ≠ none) : WS H0 F0 l H' F := ⟨h.sb.trans sb, h.gr.trans (Gr.sameB h.gr.top h.fl sb hl'), h.fl, hl'⟩
theorem WS.keep (h : WS H0 F0 l H F) (s : Same H H') (g : Gr H F H' F') : WS H0 F0 l H' F' := by
  obtain ⟨o, ho⟩ : ∃ o, H l = some o := by
    cases e : H l with
    | none => exact absurd e h.hl
    | some o => exact ⟨o, rfl⟩
  exact ⟨h.sb.trans (SameB.of s), h.gr.trans g, g.stays h.fl ho, by rw [s _ _ ho]; intro z; cases z⟩
theorem WS.same (h : WS H0 F0 l H F) (h0 : H0 l = none) : Same H0 H := fun b o e => h.sb b o (fun z => by rw [z, h0] at e; cases e) e
end
theorem WS.trans {H0 F0 H1 F1 H2 F2 : Hp} {l : Addr} (a : WS H0 F0 l H1 F1) (b : WS H1 F1 l H2 F2) : WS H0 F0 l H2 F2 := ⟨a.sb.trans b.sb, a.gr.trans b.gr, b.fl, b.hl⟩
theorem pS : (Str.ofString "p" : Str) = S [112] := by decide +kernel
theorem xS : (Str.ofString "x" : Str) = S [120] := by decide +kernel
section
variable {P : Program} {w : World} {K : PySem.W.Frag} {mg : Str → Option Value} {base : Heap} {C fI aWORDS aTURNED aBLOCKS : Addr} {fdI : FuncData}
theorem law_ok {fa : Addr} {fd : FuncData} (T : Tx K w mg C fI aWORDS aTURNED aBLOCKS fdI) (FL : Fun K "law" "law" s_law fa fd) : FnOk P w K mg base CX0 13 fa fd ["_law_script"] (spLaw K) := by
  have G_law_cell : Gf P w K mg base 1 "_law_cell" ["_law_script", "_law_k"] (spLawCell K) := G_law_cell T
  have G_law_pen : Gf P w K mg base 1 "_law_pen" ["_law_cell_here"] spLawPen := G_law_pen T
  have G_law_signs_of : Gf P w K mg base 2 "_law_signs_of" ["_law_pen_here"] spLawSigns := G_law_signs_of T
  have G_law_written : Gf P w K mg base 3 "_law_written" ["_law_pen_here"] spLawWritten := G_law_written T
  have Gk_read_marks : Gk P w K mg base 8 "read_marks" ["text"] false (spReadMarks K) := (GB_read_marks T).2
  have Gk_show_marks : Gk P w K mg base 5 "show_marks" ["nodes"] false (spShowMarks K) := (GB_show_marks T).2
  have Gk_is_template : Gk P w K mg base 9 "is_template" ["thing"] false (spIsTemplate K) := (GB_is_template T).2
  have G_holes_of : Gf P w K mg base 10 "holes_of" ["template"] (spHolesOf K) := (GB_holes_of T).1
  have Gk_holes_of : Gk P w K mg base 10 "holes_of" ["template"] false (spHolesOf K) := (GB_holes_of T).2
  have G_filled_tree : Gf P w K mg base 10 "filled_tree" ["template", "data"] (spFilledTree K) := (GB_filled_tree T).1
  have Gk_filled_tree : Gk P w K mg base 10 "filled_tree" ["data", "template"] true (spFilledTree K) := (GB_filled_tree T).2
  have G_filled : Gf P w K mg base 11 "filled" ["template", "data"] (spFilled K) := (GB_filled T).1
  have Gk_filled : Gk P w K mg base 11 "filled" ["data", "template"] true (spFilled K) := (GB_filled T).2
  have G_pasted : Gf P w K mg base 10 "pasted" ["template", "data"] (spPasted K) := (GB_pasted T).1
  have Gk_pasted : Gk P w K mg base 10 "pasted" ["data", "template"] true (spPasted K) := (GB_pasted T).2
  have G_breaks : Gf P w K mg base 10 "breaks" ["template"] (spBreaks K) := (GB_breaks T).1
  have Gk_breaks : Gk P w K mg base 10 "breaks" ["template"] false (spBreaks K) := (GB_breaks T).2
  refine FL.ok sc_law (fun vs H Q E h => ?_) (fun cdv A outer s H vs Q E hr h => ?_)
  · obtain ⟨a, ns, rfl, _⟩ := h
    rfl
  · obtain ⟨a, ns, rfl, ha, hn, hO, q⟩ := h
    refine ⟨_, (pss_cons (ps_for PassesOwn.never rfl (pi_range1 (by rfl) T.b_range (pa_cons (pe_callB (call_max2 rfl) (by rfl) T.b_max (by decide +kernel) (pa_cons pe_int (pa_cons (pe_callB (call_min2 rfl) (by rfl) T.b_min (by decide +kernel) (pa_cons (pe_callB call_len_seq (by rfl) T.b_len PySem.boot_len (pa_cons (pv 0) pa_nil)) (pa_cons pe_int pa_nil))) pa_nil))) pa_nil)) (pg_name (i := 1) sc_law.nd rfl (Or.inl rfl))
  (pss_cons (ps_set (i := 2) sc_law.nd rfl (Or.inl rfl) (pe_callG G_law_pen (hr.mono (by first | decide | omega)) (by rfl) (pa_cons (pe_callG G_law_cell (hr.mono (by first | decide | omega)) (by rfl) (pa_cons (pv 0) (pa_cons (pv 1) pa_nil))) pa_nil)))
  (pss_cons (ps_set (i := 3) sc_law.nd rfl (Or.inl rfl) (pe_tup (pa_cons (pe_tup (pa_cons pe_str (pa_cons (pe_tup (pa_cons (pe_tup (pa_cons pe_str (pa_cons (pe_callG G_law_signs_of (hr.mono (by first | decide | omega)) (by rfl) (pa_cons (pv 2) pa_nil)) pa_nil))) pa_nil)) (pa_cons (pe_tup (pa_cons (pe_op op_add_str pe_str (pe_callG G_law_signs_of (hr.mono (by first | decide | omega)) (by rfl) (pa_cons (pv 2) pa_nil))) pa_nil)) pa_nil)))) pa_nil)))
  (pss_cons (ps_if (PW.pt (pw_or (pt_cmpR (op_neD hr.units) (pe_callGk Gk_read_marks (hr.mono (by first | decide | omega)) (by rfl) (pk_cons (pe_callGk Gk_show_marks (hr.mono (by first | decide | omega)) (by rfl) (pk_cons (pv 3) pk_nil)) pk_nil)) (pv 3) (nomark _)) (pw_or1 (pt_cmpR op_notBl (pe_callGk Gk_is_template (hr.mono (by first | decide | omega)) (by rfl) (pk_cons (pv 3) pk_nil)) pe_bl (nomark _))))) (pss_one (ps_ret pe_bl)) pss_nil)
  (pss_cons (ps_asg (pe_callG G_law_written (hr.mono (by first | decide | omega)) (by rfl) (pa_cons (pv 2) pa_nil)) (pg_tup rfl (pgs_cons (pg_name (i := 4) sc_law.nd rfl (Or.inl rfl)) (pgs_cons (pg_name (i := 5) sc_law.nd rfl (Or.inl rfl)) pgs_nil))))
  (pss_cons (ps_if (PW.pt (pw_or (pt_cmpR op_notBl (pe_callGk Gk_is_template (hr.mono (by first | decide | omega)) (by rfl) (pk_cons (pv 4) pk_nil)) pe_bl (nomark _)) (pw_or1 (pt_cmpR (op_neD hr.units) (pe_callGk Gk_holes_of (hr.mono (by first | decide | omega)) (by rfl) (pk_cons (pv 4) pk_nil)) (pe_callG G_holes_of (hr.mono (by first | decide | omega)) (by rfl) (pa_cons (pv 4) pa_nil)) (nomark _))))) (pss_one (ps_ret pe_bl)) pss_nil)
  (pss_cons (ps_if (pt_cmpR (op_neD hr.units) (pe_callGk Gk_filled_tree (hr.mono (by first | decide | omega)) (by rfl) (pk_cons (pv 5) (pk_cons (pv 4) pk_nil))) (pe_callG G_filled_tree (hr.mono (by first | decide | omega)) (by rfl) (pa_cons (pv 4) (pa_cons (pv 5) pa_nil))) (nomark _)) (pss_one (ps_ret pe_bl)) pss_nil)
  (pss_cons (ps_if (pt_cmpR op_ne (pe_callGk Gk_filled (hr.mono (by first | decide | omega)) (by rfl) (pk_cons (pv 5) (pk_cons (pv 4) pk_nil))) (pe_callG G_filled (hr.mono (by first | decide | omega)) (by rfl) (pa_cons (pv 4) (pa_cons (pv 5) pa_nil))) (nomark _)) (pss_one (ps_ret pe_bl)) pss_nil)
  (pss_one (ps_if (PW.pt (pw_or (pt_cmpR op_ne (pe_callGk Gk_pasted (hr.mono (by first | decide | omega)) (by rfl) (pk_cons (pv 5) (pk_cons (pv 4) pk_nil))) (pe_callG G_pasted (hr.mono (by first | decide | omega)) (by rfl) (pa_cons (pv 4) (pa_cons (pv 5) pa_nil))) (nomark _)) (pw_or1 (pt_cmpR (op_ne_dict (Nat.lt_of_succ_lt (hu_of hr))) (pe_callGk Gk_breaks (hr.mono (by first | decide | omega)) (by rfl) (pk_cons (pv 4) pk_nil)) (pe_callG G_breaks (hr.mono (by first | decide | omega)) (by rfl) (pa_cons (pv 4) pa_nil)) (nomark _))))) (pss_one (ps_ret pe_bl)) pss_nil))))))))))
  (pss_one (ps_ret pe_bl))), ?_⟩
    refine ⟨_, rfl, a, _, rfl, .inl ha, _, _, rfl, _, _, rfl, _, rfl, ?_, ?_, ?_⟩
    · split <;> (try split) <;> omega
    · split <;> (try split) <;> omega
    refine for_range (lo := 0) (fun i σ H1 => ∃ v1 v2 v3 v4 v5, σ = [some (.ref a), v1, v2, v3, v4, v5] ∧ SqL K H1 a (ns.map V.int)) ⟨none, none, none, none, none, rfl, ha⟩ ?_ ?_
    · rintro i σ Hs hi ⟨v1, v2, v3, v4, v5, rfl, has⟩
      rw [Int.zero_add]
      refine ⟨_, rfl, _, rfl, a, ns, i, rfl, has, fun cell => ⟨cell, rfl, fun b l hl0 => ?_⟩⟩
      have W1 : WS Hs noF l (upd Hs l (.lst [.int cell, .int b])) noF := ⟨(SameB.refl l Hs).upd, (Gr.refl (noF_same _)).mk1 rfl, rfl, by rw [upd_same]; intro z; cases z⟩
      have hl1 : upd Hs l (.lst [.int cell, .int b]) l = some (.lst [.int cell, .int b]) := upd_same
      revert W1 hl1
      generalize upd Hs l (.lst [.int cell, .int b]) = H1
      intro W1 hl1
      -- the row
      refine ⟨_, rfl, l, cell, b, rfl, hl1, fun a1 c1 H2 hz1 hm1 sb2 hl2 => ⟨by show 2 ≤ sizeLine; decide, fun p1 hp1 => ⟨by show 1 ≤ sizeLine; decide, fun p2 hp2 => ?_⟩⟩⟩
      have W2 := W1.draw sb2 (some_ne hl2)
      have W3 := W2.mk2 (o := .tup [.str "a", .str (S a1)]) hp1
      have W4 := W3.mk2 (o := .tup [.ref p1]) hp2
      have hl4 : upd (upd H2 p1 (.tup [.str "a", .str (S a1)])) p2 (.tup [.ref p1]) l = some (.lst [.int c1, .int b]) := same_new hp2 _ _ (same_new hp1 _ _ hl2)
      have d1 : Dp K (upd noF p1 (.tup [.str "a", .str (S a1)])) (.ref p1) (atX ([97], a1)) := Dp.tup' upd_same (.cons (by rw [aS]; exact .str _) (.cons (.str _) .nil))
      have d2 : Dp K (upd (upd noF p1 (.tup [.str "a", .str (S a1)])) p2 (.tup [.ref p1])) (.ref p2) (.tuple ([(([97] : List Nat), a1)].map atX)) := Dp.tup' upd_same (.cons (Dp.same (same_new (W3.gr.top.free hp2)) _ _ d1) .nil)
      clear W3 d1
      revert W4 hl4 d2
      generalize upd (upd H2 p1 (.tup [.str "a", .str (S a1)])) p2 (.tup [.ref p1]) = H4
      generalize upd (upd noF p1 (.tup [.str "a", .str (S a1)])) p2 (.tup [.ref p1]) = F4
      intro W4 hl4 d2
      refine ⟨_, rfl, l, c1, b, rfl, hl4, fun b1 c2 H5 hz2 hm2 sb5 hl5 => ?_⟩
      rw [xS, pS]
      refine ⟨_, _, rfl, rfl, sz2 (by show 1 + _ ≤ _; omega), by show 1 ≤ sizeLine; decide, fun p3 hp3 => ⟨by show 3 ≤ sizeLine; decide, fun p4 hp4 => ⟨by show 1 ≤ sizeLine; decide, fun p5 hp5 => ?_⟩⟩⟩
      have ex : (S [120] ++ S b1) = S (120 :: b1) := S_app _ _
      rw [ex] at hp4 hp5 ⊢
      have W5 := W4.draw sb5 (some_ne hl5)
      have W6 := W5.mk2 (o := .tup [.str (S (120 :: b1))]) hp3
      have W7 := W6.mk2 (o := .tup [.str (S [112]), .ref p2, .ref p3]) hp4
      have W8 := W7.mk2 (o := .tup [.ref p4]) hp5
      have hl8 : upd (upd (upd H5 p3 (.tup [.str (S (120 :: b1))])) p4 (.tup [.str (S [112]), .ref p2, .ref p3])) p5 (.tup [.ref p4]) l = some (.lst [.int c2, .int b]) := same_new hp5 _ _ (same_new hp4 _ _ (same_new hp3 _ _ hl5))
      have s6 : Same F4 (upd F4 p3 (.tup [.str (S (120 :: b1))])) := same_new (W5.gr.top.free hp3)
      have s7 : Same (upd F4 p3 (.tup [.str (S (120 :: b1))])) (upd (upd F4 p3 (.tup [.str (S (120 :: b1))])) p4 (.tup [.str (S [112]), .ref p2, .ref p3])) := same_new (W6.gr.top.free hp4)
      have s8 : Same (upd (upd F4 p3 (.tup [.str (S (120 :: b1))])) p4 (.tup [.str (S [112]), .ref p2, .ref p3])) (upd (upd (upd F4 p3 (.tup [.str (S (120 :: b1))])) p4 (.tup [.str (S [112]), .ref p2, .ref p3])) p5 (.tup [.ref p4])) := same_new (W7.gr.top.free hp5)
      have d3 : Dp K (upd F4 p3 (.tup [.str (S (120 :: b1))])) (.ref p3) (.tuple (inD (120 :: b1))) := Dp.tup' upd_same (.cons (.str _) .nil)
      have d4 : Dp K (upd (upd F4 p3 (.tup [.str (S (120 :: b1))])) p4 (.tup [.str (S [112]), .ref p2, .ref p3])) (.ref p4) (fnD (rowFN a1 b1)) :=
        Dp.tup' upd_same (.cons (.str _) (.cons (Dp.same (s6.trans s7) _ _ d2) (.cons (Dp.same s7 _ _ d3) .nil)))
      have dRow : Dp K (upd (upd (upd F4 p3 (.tup [.str (S (120 :: b1))])) p4 (.tup [.str (S [112]), .ref p2, .ref p3])) p5 (.tup [.ref p4])) (.ref p5) (forD [rowFN a1 b1]) := Dp.tup' upd_same (.cons (Dp.same s8 _ _ d4) .nil)
      clear W6 W7 s6 s7 s8 d3 d4
      revert W8 hl8 dRow
      generalize upd (upd (upd H5 p3 (.tup [.str (S (120 :: b1))])) p4 (.tup [.str (S [112]), .ref p2, .ref p3])) p5 (.tup [.ref p4]) = H8
      generalize upd (upd (upd F4 p3 (.tup [.str (S (120 :: b1))])) p4 (.tup [.str (S [112]), .ref p2, .ref p3])) p5 (.tup [.ref p4]) = F8
      intro W8 hl8 dRow
      have hrow : ∀ n ∈ [rowFN a1 b1], FNok n := fun n hn => by
        have e : n = rowFN a1 b1 := by simpa using hn
        subst e
        exact row_ok hm1 hm2 hz1 hz2
      have hRowNice := forest_nice hrow
      -- the first test
      refine ⟨_, rfl, rfl, F8, _, [rowFN a1 b1], rfl, W8.gr.top, dRow, by simp, hrow, fun H9 s9 => ?_⟩
      refine ⟨rfl, F8, _, rowPs a1 b1, rfl, W8.gr.top.trans s9, row_read hm1 hm2 hz1 hz2, by simp [rowPs], by simp [rowPs, mpN], fun H10 F10 v10 s10 g10 d10 => ?_⟩
      rw [row_mgd] at d10
      have top10 : Same F8 H10 := (W8.gr.top.trans s9).trans s10
      refine ⟨_, rfl, forD [rowFN a1 b1], forD [rowFN a1 b1], Dp.same g10.top _ _ d10, Dp.same top10 _ _ dRow, hRowNice.shaped (by decide), hRowNice.shaped (by decide), _, rfl, ?_⟩
      have eqRow : PyData.eqv (forD [rowFN a1 b1]) (forD [rowFN a1 b1]) = true := PySem.SeqAt.eqv_refl _ hRowNice.1
      refine ite_f (by rw [eqRow]; rfl) ?_
      obtain ⟨rr, rxs, err, hrr, _⟩ := Dp.tupI dRow
      cases err
      refine ⟨_, rfl, rfl, F8, _, rfl, top10, .inl ⟨tyx_tup (same_seqT top10 hrr), false, false, rfl, rfl, _, rfl, ?_⟩⟩
      refine ite_f (by rfl) ?_
      have W9 := W8.keep s9 ((Gr.refl W8.gr.top).same s9)
      have W10 := W9.keep s10 g10
      have hl10 : H10 l = some (.lst [.int c2, .int b]) := s10 _ _ (s9 _ _ hl8)
      -- own, given
      refine ⟨_, rfl, F10, l, c2, b, rfl, W10.gr.top, W10.fl, hl10, fun H11 F11 t d L z hL hz hm W11' ht hG => ?_⟩
      have W11 := W10.trans W11'
      refine ⟨t, _, rfl, SqT.of (W11.gr.top _ _ ht), rfl, _, _, rfl, _, _, rfl, rfl, ?_⟩
      obtain ⟨ps, np, fs, hT⟩ : ∃ ps np fs, TplOk L ps np z fs := by
        rcases hL with rfl | rfl
        · exact ⟨_, _, _, tpl1 hm hz⟩
        · exact ⟨_, _, _, tpl2 hm hz⟩
      obtain ⟨c, hD, hC⟩ := given_all (K := K) hm hz hG
      have hFill : Fill K F11 ps d (r0 z c) z [[55], z] := ⟨hT.dep, hT.wf, hT.len, hD.1, taOk hm hz c, hC⟩
      -- is_template, holes_of
      refine ⟨_, rfl, rfl, F11, _, rfl, W11.gr.top, .inr ⟨L, _, rfl, hT.read, fun H12 s12 => ⟨true, true, rfl, rfl, _, rfl, ite_f (by rfl) ?_⟩⟩⟩
      have W12 := W11.keep s12 ((Gr.refl W11.gr.top).same s12)
      refine ⟨_, rfl, rfl, F11, L, ps, rfl, W12.gr.top, hT.read, hT.dep, hT.holes, fun H13 F13 v13 s13 g13 d13 => ?_⟩
      have W13 := W12.keep s13 g13
      refine ⟨_, rfl, F13, L, ps, rfl, W13.gr.top, hT.read, hT.dep, hT.holes, fun H14 F14 v14 s14 g14 d14 => ?_⟩
      have W14 := W13.keep s14 g14
      have lay : PyData.canLay0 (.tuple (holePs ps)) = true := by
        have := hT.nice
        unfold SeqAt.shaped at this
        exact (Bool.and_eq_true_iff.mp this).1
      refine ⟨_, _, Dp.same (g14.frz.trans g14.top) _ _ d13, Dp.same g14.top _ _ d14, hT.nice, hT.nice, _, rfl, ?_⟩
      refine ite_f (by rw [PySem.SeqAt.eqv_refl _ lay]; rfl) ?_
      have f14 : Same F11 F14 := g13.frz.trans g14.frz
      -- filled_tree
      refine ⟨_, rfl, _, rfl, rfl, F14, L, ps, d, r0 z c, z, [[55], z], rfl, W14.gr.top, hT.read, hD.mono f14, hFill.mono f14, fun H15 F15 v15 s15 g15 d15 => ?_⟩
      have W15 := W14.keep s15 g15
      have f15 := f14.trans g15.frz
      refine ⟨_, rfl, _, rfl, F15, L, ps, d, r0 z c, z, [[55], z], rfl, W15.gr.top, hT.read, hD.mono f15, hFill.mono f15, fun H16 F16 v16 s16 g16 d16 => ?_⟩
      have W16 := W15.keep s16 g16
      have f16 := f15.trans g16.frz
      have hNice := forest_nice hT.nsok
      rw [hT.mg] at d15 d16
      refine ⟨_, _, Dp.same (g16.frz.trans g16.top) _ _ d15, Dp.same g16.top _ _ d16, hNice.shaped (by decide), hNice.shaped (by decide), _, rfl, ?_⟩
      refine ite_f (by rw [PySem.SeqAt.eqv_refl _ hNice.1]; rfl) ?_
      -- filled
      refine ⟨_, rfl, _, rfl, rfl, F16, L, ps, d, r0 z c, z, [[55], z], fs, rfl, W16.gr.top, hT.read, hD.mono f16, hFill.mono f16, hT.mg, hT.nsl, hT.nsok, fun H17 s17 => ?_⟩
      have W17 := W16.keep s17 ((Gr.refl W16.gr.top).same s17)
      refine ⟨_, rfl, _, rfl, F16, L, ps, d, r0 z c, z, [[55], z], fs, rfl, W17.gr.top, hT.read, hD.mono f16, hFill.mono f16, hT.mg, hT.nsl, hT.nsok, fun H18 s18 => ?_⟩
      have W18 := W17.keep s18 ((Gr.refl W17.gr.top).same s18)
      refine ⟨rfl, _, rfl, ?_⟩
      refine ite_f (by simp) ?_
      -- pasted
      refine ⟨_, rfl, _, rfl, rfl, F16, L, _, np, d, r0 z c, z, [[55], z], rfl, W18.gr.top, hT.read, hT.cut, hD.mono f16, taOk hm hz c, hC.mono f16, fun H19 s19 => ?_⟩
      have W19 := W18.keep s19 ((Gr.refl W18.gr.top).same s19)
      refine ⟨_, rfl, _, rfl, F16, L, _, np, d, r0 z c, z, [[55], z], rfl, W19.gr.top, hT.read, hT.cut, hD.mono f16, taOk hm hz c, hC.mono f16, fun H20 s20 => ?_⟩
      have W20 := W19.keep s20 ((Gr.refl W19.gr.top).same s20)
      refine ⟨rfl, _, rfl, ?_⟩
      refine ite_f (by simp) ?_
      -- breaks
      obtain ⟨rest, ep⟩ := hT.way
      have hread := hT.read
      rw [ep] at hread
      refine ⟨_, rfl, rfl, F16, L, aL, [112], [], [], rest, rfl, W20.gr.top, hread, fun H21 e1 s21 he1 => ?_⟩
      have W21 := W20.keep s21 ((Gr.refl W20.gr.top).same s21)
      refine ⟨_, rfl, F16, L, aL, [112], [], [], rest, rfl, W21.gr.top, hread, fun H22 e2 s22 he2 => ?_⟩
      have W22 := W21.keep s22 ((Gr.refl W21.gr.top).same s22)
      refine ⟨e1, e2, _, rfl, rfl, s22 _ _ he1, he2, by simp, by simp [flatB], _, rfl, ?_⟩
      refine iteF ?_
      exact ⟨_, _, _, _, _, rfl, (W22.same hl0).seq has⟩
    · rintro σ H1 ⟨v1, v2, v3, v4, v5, rfl, _⟩
      exact q H1
end
end Dh
namespace Dh
open PySem PySem.Spec PyProof.Rows L2
theorem walk {l : PySem.W.OpenLaw} {q : Program} {loose : List Str} {XP : (Str → Option Value) → Heap → Prop} {YP : World → Heap → Prop} {d : DefRec} {K : Params → PySem.W.Frag} (hn : l.most = some 63) (hdf : d.params.defaults = [])
    (hY : ∀ (w : World) (h : Heap), YP w h → (K w.params).In h)
    (F : ∀ (w : World) (mg : Str → Option Value) (fa : Addr) (h : Heap), (K w.params).In h → h.Ns mainGlobals mg → mg d.name = some (.ref fa) →
      ∃ fd : FuncData, (∀ (s : Shared) (u : Value), BindsTo s fd ⟨[u], []⟩ [("_law_script", u)]) ∧ ∀ base : Heap, (K w.params).In base → base.Ns mainGlobals mg → FnOk l.prog w (K w.params) mg base CX0 kLaw fa fd ["_law_script"] (spLaw (K w.params))) :
    PySem.W.WalkO q loose XP YP l.row.toRowW d [] (fun f vs => PySem.call f vs) :=
  L2.walk_of (n := 63) (k := kLaw) (x := "_law_script") (CX := fun _ => CX0) (sp := fun w => spLaw (K w.params)) hn (by decide) hdf ⟨rfl, by decide, by decide⟩ hY F (fun _ _ a ns hl ho hS => ⟨a, ns, rfl, hS, hl, ho, fun _ => rfl⟩) fun _ _ _ _ _ z => z
end Dh
section
open PySem PySem.W PyProof.Rows
set_option maxHeartbeats 0
open_top Dh.hd for PySem.Challenge.rw_doorhouse_k27_whole_marks_by_names
theorem PySem.Challenge.cw_doorhouse_k27_whole_marks_by_names_holds : PySem.Challenge.rw_doorhouse_k27_whole_marks_by_names.Holds := by
  refine Dh.hd ?_
  k_fill
  refine Dh.walk (l := PySem.Challenge.rw_doorhouse_k27_whole_marks_by_names) rfl rfl (fun w h Y => PySem.W.kIn_of Y) ?F
  case F =>
    intro w mg fa h KX G hmg
    refine' Dh.tx_mk KX G hmg ?gLETTERS ?gMOST_SIGNS ?gMOST_VALUE ?gMOST_TEXT ?gSIGNS ?gEND ?gLINK ?gPLAIN ?gBREAK ?b_len ?b_isinstance ?b_all ?b_any ?b_max ?b_min ?b_str ?b_int ?b_bool ?b_tuple ?b_dict ?b_set ?b_range ?gWORDS ?gTURNED ?gBLOCKS ?lWORDS ?sWORDS ?kWORDS ?eWORDS ?lTURNED ?sTURNED ?kTURNED ?eTURNED ?lBLOCKS ?cBLOCKS ?dBLOCKS ?vBLOCKS ?aC ?pg ?hd ?po ?sa ?mk ?kc ?n_text ?n_at ?n_has_holes ?n_stack ?a0 ?l0 ?c0 ?k0 ?a1 ?l1 ?c1 ?k1 ?a2 ?l2 ?c2 ?k2 ?a3 ?l3 ?c3 ?k3 ?a4 ?l4 ?c4 ?k4 ?a5 ?l5 ?c5 ?k5 ?a6 ?l6 ?c6 ?k6 ?a7 ?l7 ?c7 ?k7 ?a8 ?l8 ?c8 ?k8 ?a9 ?l9 ?c9 ?k9 ?a10 ?l10 ?c10 ?k10 ?a11 ?i11 ?l11 ?c11 ?k11 ?a12 ?i12 ?l12 ?c12 ?k12 ?a13 ?i13 ?l13 ?c13 ?k13 ?a14 ?i14 ?l14 ?c14 ?k14 ?a15 ?i15 ?l15 ?c15 ?k15 ?a16 ?i16 ?l16 ?c16 ?k16 ?a17 ?i17 ?l17 ?c17 ?k17 ?a18 ?i18 ?l18 ?c18 ?k18 ?a19 ?i19 ?l19 ?c19 ?k19 ?a20 ?i20 ?l20 ?c20 ?k20 ?a21 ?i21 ?l21 ?c21 ?k21 ?a22 ?i22 ?l22 ?c22 ?k22 ?a23 ?i23 ?l23 ?c23 ?k23 ?a24 ?l24 ?c24 ?k24 ?a25 ?l25 ?c25 ?k25 ?a26 ?l26 ?c26 ?k26 ?a27 ?l27 ?c27 ?k27 ?a28 ?l28 ?c28 ?k28 ?a29 ?l29 ?c29 ?k29 ?a30 ?l30 ?c30 ?k30 ?a31 ?l31 ?c31 ?k31 ?a32 ?l32 ?c32 ?k32 ?a33 ?l33 ?c33 ?k33 ?a34 ?l34 ?c34 ?k34 ?a35 ?l35 ?c35 ?k35 ?a36 ?l36 ?c36 ?k36 ?a37 ?l37 ?c37 ?k37 ?a38 ?l38 ?c38 ?k38 ?a39 ?l39 ?c39 ?k39 ?a40 ?l40 ?c40 ?k40 ?a41 ?l41 ?c41 ?k41 ?a42 ?l42 ?c42 ?k42 ?a43 ?l43 ?c43 ?k43 ?a44 ?l44 ?c44 ?k44 ?a45 ?l45 ?c45 ?k45 ?a46 ?l46 ?c46 ?k46 ?a47 ?l47 ?c47 ?k47 ?a48 ?l48 ?c48 ?k48 ?a49 ?l49 ?c49 ?k49 ?a50 ?l50 ?c50 ?k50 ?a51 ?l51 ?c51 ?k51 ?a52 ?l52 ?c52 ?k52 ?a53 ?l53 ?c53 ?k53 ?a54 ?l54 ?c54 ?k54 ?a55 ?l55 ?c55 ?k55 ?a56 ?l56 ?c56 ?k56 ?a57 ?l57 ?c57 ?k57 ?a58 ?l58 ?c58 ?k58 ?ok
    (case gLETTERS => k_is)
    (case gMOST_SIGNS => k_is)
    (case gMOST_VALUE => k_is)
    (case gMOST_TEXT => k_is)
    (case gSIGNS => k_is)
    (case gEND => k_is)
    (case gLINK => k_is)
    (case gPLAIN => k_is)
    (case gBREAK => k_is)
    (case b_len => k_is)
    (case b_isinstance => k_is)
    (case b_all => k_is)
    (case b_any => k_is)
    (case b_max => k_is)
    (case b_min => k_is)
    (case b_str => k_is)
    (case b_int => k_is)
    (case b_bool => k_is)
    (case b_tuple => k_is)
    (case b_dict => k_is)
    (case b_set => k_is)
    (case b_range => k_is)
    (case gWORDS => k_is)
    (case gTURNED => k_is)
    (case gBLOCKS => k_is)
    (case lWORDS => k_is)
    (case sWORDS => rfl)
    (case kWORDS => exact ⟨⟨_, _, rfl, rfl⟩, ⟨_, _, rfl, rfl⟩, ⟨_, _, rfl, rfl⟩, ⟨_, _, rfl, rfl⟩, trivial⟩)
    (case eWORDS => rfl)
    (case lTURNED => k_is)
    (case sTURNED => rfl)
    (case kTURNED => exact ⟨⟨_, _, rfl, rfl⟩, ⟨_, _, rfl, rfl⟩, ⟨_, _, rfl, rfl⟩, ⟨_, _, rfl, rfl⟩, trivial⟩)
    (case eTURNED => rfl)
    (case lBLOCKS => k_is)
    (case cBLOCKS => rfl)
    (case dBLOCKS => rfl)
    (case vBLOCKS => rfl)
    (case aC => k_is)
    (case pg => k_is)
    (case hd => k_is)
    (case po => k_is)
    (case sa => k_is)
    (case mk => k_is)
    (case kc => k_is)
    (case n_text => k_is)
    (case n_at => k_is)
    (case n_has_holes => k_is)
    (case n_stack => k_is)
    (case a0 => k_is)
    (case l0 => k_is)
    (case c0 => k_is)
    (case k0 => k_is)
    (case a1 => k_is)
    (case l1 => k_is)
    (case c1 => k_is)
    (case k1 => k_is)
    (case a2 => k_is)
    (case l2 => k_is)
    (case c2 => k_is)
    (case k2 => k_is)
    (case a3 => k_is)
    (case l3 => k_is)
    (case c3 => k_is)
    (case k3 => k_is)
    (case a4 => k_is)
    (case l4 => k_is)
    (case c4 => k_is)
    (case k4 => k_is)
    (case a5 => k_is)
    (case l5 => k_is)
    (case c5 => k_is)
    (case k5 => k_is)
    (case a6 => k_is)
    (case l6 => k_is)
    (case c6 => k_is)
    (case k6 => k_is)
    (case a7 => k_is)
    (case l7 => k_is)
    (case c7 => k_is)
    (case k7 => k_is)
    (case a8 => k_is)
    (case l8 => k_is)
    (case c8 => k_is)
    (case k8 => k_is)
    (case a9 => k_is)
    (case l9 => k_is)
    (case c9 => k_is)
    (case k9 => k_is)
    (case a10 => k_is)
    (case l10 => k_is)
    (case c10 => k_is)
    (case k10 => k_is)
    (case a11 => k_is)
    (case i11 => k_is)
    (case l11 => k_is)
    (case c11 => k_is)
    (case k11 => k_is)
    (case a12 => k_is)
    (case i12 => k_is)
    (case l12 => k_is)
    (case c12 => k_is)
    (case k12 => k_is)
    (case a13 => k_is)
    (case i13 => k_is)
    (case l13 => k_is)
    (case c13 => k_is)
    (case k13 => k_is)
    (case a14 => k_is)
    (case i14 => k_is)
    (case l14 => k_is)
    (case c14 => k_is)
    (case k14 => k_is)
    (case a15 => k_is)
    (case i15 => k_is)
    (case l15 => k_is)
    (case c15 => k_is)
    (case k15 => k_is)
    (case a16 => k_is)
    (case i16 => k_is)
    (case l16 => k_is)
    (case c16 => k_is)
    (case k16 => k_is)
    (case a17 => k_is)
    (case i17 => k_is)
    (case l17 => k_is)
    (case c17 => k_is)
    (case k17 => k_is)
    (case a18 => k_is)
    (case i18 => k_is)
    (case l18 => k_is)
    (case c18 => k_is)
    (case k18 => k_is)
    (case a19 => k_is)
    (case i19 => k_is)
    (case l19 => k_is)
    (case c19 => k_is)
    (case k19 => k_is)
    (case a20 => k_is)
    (case i20 => k_is)
    (case l20 => k_is)
    (case c20 => k_is)
    (case k20 => k_is)
    (case a21 => k_is)
    (case i21 => k_is)
    (case l21 => k_is)
    (case c21 => k_is)
    (case k21 => k_is)
    (case a22 => k_is)
    (case i22 => k_is)
    (case l22 => k_is)
    (case c22 => k_is)
    (case k22 => k_is)
    (case a23 => k_is)
    (case i23 => k_is)
    (case l23 => k_is)
    (case c23 => k_is)
    (case k23 => k_is)
    (case a24 => k_is)
    (case l24 => k_is)
    (case c24 => k_is)
    (case k24 => k_is)
    (case a25 => k_is)
    (case l25 => k_is)
    (case c25 => k_is)
    (case k25 => k_is)
    (case a26 => k_is)
    (case l26 => k_is)
    (case c26 => k_is)
    (case k26 => k_is)
    (case a27 => k_is)
    (case l27 => k_is)
    (case c27 => k_is)
    (case k27 => k_is)
    (case a28 => k_is)
    (case l28 => k_is)
    (case c28 => k_is)
    (case k28 => k_is)
    (case a29 => k_is)
    (case l29 => k_is)
    (case c29 => k_is)
    (case k29 => k_is)
    (case a30 => k_is)
    (case l30 => k_is)
    (case c30 => k_is)
    (case k30 => k_is)
    (case a31 => k_is)
    (case l31 => k_is)
    (case c31 => k_is)
    (case k31 => k_is)
    (case a32 => k_is)
    (case l32 => k_is)
    (case c32 => k_is)
    (case k32 => k_is)
    (case a33 => k_is)
    (case l33 => k_is)
    (case c33 => k_is)
    (case k33 => k_is)
    (case a34 => k_is)
    (case l34 => k_is)
    (case c34 => k_is)
    (case k34 => k_is)
    (case a35 => k_is)
    (case l35 => k_is)
    (case c35 => k_is)
    (case k35 => k_is)
    (case a36 => k_is)
    (case l36 => k_is)
    (case c36 => k_is)
    (case k36 => k_is)
    (case a37 => k_is)
    (case l37 => k_is)
    (case c37 => k_is)
    (case k37 => k_is)
    (case a38 => k_is)
    (case l38 => k_is)
    (case c38 => k_is)
    (case k38 => k_is)
    (case a39 => k_is)
    (case l39 => k_is)
    (case c39 => k_is)
    (case k39 => k_is)
    (case a40 => k_is)
    (case l40 => k_is)
    (case c40 => k_is)
    (case k40 => k_is)
    (case a41 => k_is)
    (case l41 => k_is)
    (case c41 => k_is)
    (case k41 => k_is)
    (case a42 => k_is)
    (case l42 => k_is)
    (case c42 => k_is)
    (case k42 => k_is)
    (case a43 => k_is)
    (case l43 => k_is)
    (case c43 => k_is)
    (case k43 => k_is)
    (case a44 => k_is)
    (case l44 => k_is)
    (case c44 => k_is)
    (case k44 => k_is)
    (case a45 => k_is)
    (case l45 => k_is)
    (case c45 => k_is)
    (case k45 => k_is)
    (case a46 => k_is)
    (case l46 => k_is)
    (case c46 => k_is)
    (case k46 => k_is)
    (case a47 => k_is)
    (case l47 => k_is)
    (case c47 => k_is)
    (case k47 => k_is)
    (case a48 => k_is)
    (case l48 => k_is)
    (case c48 => k_is)
    (case k48 => k_is)
    (case a49 => k_is)
    (case l49 => k_is)
    (case c49 => k_is)
    (case k49 => k_is)
    (case a50 => k_is)
    (case l50 => k_is)
    (case c50 => k_is)
    (case k50 => k_is)
    (case a51 => k_is)
    (case l51 => k_is)
    (case c51 => k_is)
    (case k51 => k_is)
    (case a52 => k_is)
    (case l52 => k_is)
    (case c52 => k_is)
    (case k52 => k_is)
    (case a53 => k_is)
    (case l53 => k_is)
    (case c53 => k_is)
    (case k53 => k_is)
    (case a54 => k_is)
    (case l54 => k_is)
    (case c54 => k_is)
    (case k54 => k_is)
    (case a55 => k_is)
    (case l55 => k_is)
    (case c55 => k_is)
    (case k55 => k_is)
    (case a56 => k_is)
    (case l56 => k_is)
    (case c56 => k_is)
    (case k56 => k_is)
    (case a57 => k_is)
    (case l57 => k_is)
    (case c57 => k_is)
    (case k57 => k_is)
    (case a58 => k_is)
    (case l58 => k_is)
    (case c58 => k_is)
    (case k58 => k_is)
    (case ok =>
      intro base C fI aW aT aB fdI fd kb nb T FL
      exact (Dh.law_ok T FL).mono (by show 13 ≤ 60; decide))
end

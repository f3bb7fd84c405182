import PyProof.Rows.All
import Wide.All
import OpenK.AllK
import Wide.FinOn
import HandS.Base
import HandS.Call
import HandS.CallSlots
import HandS.CallLocal
import HandS.Defaults
import HandS.MakeKwOnly
import HandS.Ends
import HandS.HeadEnd
import HandS.Words
import HandS.ForExc
import HandS.Comp
import HandS.Iter
import HandS.Text
import HandS.Zip
import HandS.Wide
import HandS.WideBits
import HandS.IsInst
import HandS.Conv
import HandS.RevRange
import HandS.TupAny
import HandS.HeadHook2
import HandS.Head0
import HandS.Head1
import HandS.Head2
import HandS.HeadHook1
import HandS.Style
import KE.IntBitsLaws
import KE.DataEq
import KE.KBits
import KE.BitLaws
import HandS.Flow
import HandS.More
import HandS.MakeKw
import HandS.NoneIn
import HandS.Dict
import HandS.Deep
import PyProof.ZipIter
import KE.KUnpackStar
import HandS.TupLe
import HandS.FStr
import HandS.HeadHook3
import HandS.Flt
import HandS.StrMore
import HandS.ExcInit
import HandS.ExcIs
import HandS.ExcField
import KE.KExcInit
import KE.KTryMore
import KE.KExcIs
import KE.GoesZip
import KE.GoesMore
import KE.GoesEnumKw
import HandS.Codes
import HandS.WrittenGet
import PyProof.StrOps2
import KE.KRevSl
import PyProof.Rows.ReprR
import PySem.Challenge.RW_guessedzeros_k46_all_cases_of_some_input
set_option Elab.async false
set_option linter.all false
set_option maxRecDepth 100000
set_option autoImplicit false
/-! What a def keeps where nothing is being shown around: the kit's promise, with that one thing more known. -/
namespace G
open PySem PySem.Spec PyProof.Rows L2
/-- room for a call, no repr being under way -/
structure Room (k : Nat) (A : Around) : Prop extends L2.Room k A where
  gs : A.guards = some []
theorem Room.mono {j k : Nat} {A : Around} (r : Room k A) (h : j ≤ k) : Room j A := ⟨r.toRoom.mono h, r.gs⟩
theorem Room.deeper {k : Nat} {A : Around} (r : Room (k + 1) A) (env : PySem.Env) : Room k (A.deeper env) := ⟨r.toRoom.deeper env, r.gs⟩
theorem Room.make {k : Nat} {A : Around} (r : Room (k + 1) A) (C : Addr) (us : List Value) (kw : List (Str × Value)) : Room k (A.under (.builtin "type.__call__" ⟨.ref C :: us, kw⟩)) := ⟨r.toRoom.make C us kw, by
  first | exact r.gs | (simp [Around.under, r.gs, pushGuards, Code.guards, Code.isGuard, guardIds])⟩
structure FnOk (P : Program) (w : World) (K : PySem.W.Frag) (mg : Str → Option Value) (base : Heap) (CX : CXT) (k : Nat) (f : Addr) (fd : FuncData) (ps : List Str) (sp : Sp) : Prop where
  len : ∀ vs H Q E, sp vs H Q E → vs.length = ps.length
  run : ∀ (A : Around) (outer : List PySem.Env) (s : Shared) (H : Hp) (args : Args) (us : List Value) (vs : List V) (Q : VK) (E : XK), Room k A → Env0 P w K mg base A outer s H → BindsTo s fd args (ps.zip us) → Vals vs us → sp vs H Q E → codeAny (model P w) A (.call (.ref f) args) (CR CX outer P w H s Q E) s
theorem FnOk.imp {P : Program} {w : World} {K : PySem.W.Frag} {mg : Str → Option Value} {base : Heap} {CX : CXT} {k : Nat} {f : Addr} {fd : FuncData} {ps : List Str} {sp sp' : Sp} (F : FnOk P w K mg base CX k f fd ps sp) (h : ∀ vs H Q E, sp' vs H Q E → sp vs H Q E) : FnOk P w K mg base CX k f fd ps sp' where
  len vs H Q E q := F.len vs H Q E (h _ _ _ _ q)
  run A outer s H args us vs Q E hr he hb hv hs := F.run A outer s H args us vs Q E hr he hb hv (h _ _ _ _ hs)
section
variable {X : Cx} {CX : CXT} {k n : Nat} {f C : Addr} {fd : FuncData} {ps ks : List Str} {sp : Sp} {dvs : List V} {ds : List Value} {E : XK} {x m : Str} {p pos apos : Pos} {e o : Expr} {es : List Expr} {kws : List Keyword} {ta : TE} {t tk : TA} {g : List Value → List Value → List Value} {gV : List V → List V → List V}
/-- a def runs, whatever is handed in -/
theorem run_any {pins : List (Addr × Obj)} {σ : L2.St} {H : Hp} {s : Shared} {Q : VK} {us : List Value} {kw : List (Str × Value)} {zs : List Value} {vs : List V} (F : FnOk X.prog X.w X.K X.mg X.base CX k f fd ps sp) (hr : Room k X.A) (I : Inv X pins σ H s) (b : BindsTo s fd ⟨us, kw⟩ (ps.zip zs)) (r : Vals vs zs) (h : sp vs H Q E)
    (hx : ∀ er s', CX X.stack H s E er s' → X.xe er s') : wpAny (model X.prog X.w) X.A (call (.ref f) us kw) (EP X pins σ Q) X.xe s := by
  refine wpAny_call (codeAny_mono (F.run X.A X.stack s H ⟨us, kw⟩ zs vs Q E hr I.env0 b r h) fun res s' hq => ?_)
  rcases res with er | (_ | _ | _ | u)
  · exact hx er s' hq
  · exact hq.elim
  · exact hq.elim
  · exact hq.elim
  · exact I.after hq
theorem run_fn {pins : List (Addr × Obj)} {σ : L2.St} {H : Hp} {s : Shared} {Q : VK} {us : List Value} {vs : List V} (F : FnOk X.prog X.w X.K X.mg X.base CX k f fd ps sp) (hr : Room k X.A) (hb : Binds X.K fd ps ds) (hd : Vals dvs ds) (hx : Passes CX X E) (I : Inv X pins σ H s) (r : Vals vs us) (h : sp (vs ++ dvs) H Q E) : wpAny (model X.prog X.w) X.A (call (.ref f) us) (EP X pins σ Q) X.xe s := by
  have r2 := r.append hd
  have hl := F.len _ _ _ _ h
  rw [r2.length] at hl
  exact run_any F hr I (hb s us I.kIn hl) r2 h fun er s' q => hx pins σ H s er s' I q
theorem run_fnN {pins : List (Addr × Obj)} {σ : L2.St} {H : Hp} {s : Shared} {Q : VK} {us ws : List Value} {vs zs : List V} (F : FnOk X.prog X.w X.K X.mg X.base CX k f fd ps sp) (hr : Room k X.A) (hb : KBn X.K fd ps n ks g gV) (hx : Passes CX X E) (I : Inv X pins σ H s) (r : Vals vs us) (rz : Vals zs ws) (l1 : vs.length = n) (l2 : zs.length = ks.length) (h : sp (gV vs zs) H Q E) : wpAny (model X.prog X.w) X.A (call (.ref f) us (ks.zip ws)) (EP X pins σ Q) X.xe s := by
  have b := hb.to s us ws I.kIn (r.length.symm.trans l1) (rz.length.symm.trans l2)
  exact run_any F hr I b (hb.rel r rz) h fun er s' q => hx pins σ H s er s' I q
theorem run_fnSD {pins : List (Addr × Obj)} {σ : L2.St} {H : Hp} {s : Shared} {Q : VK} {us : List Value} {vs : List V} {E : L2.St → XK} (F : FnOk X.prog X.w X.K X.mg X.base CX k f fd ps sp) (hr : Room k X.A) (hb : Binds X.K fd ps ds) (hd : Vals dvs ds) (hx : PassesAt CX X σ (E σ)) (I : Inv X pins σ H s) (r : Vals vs us) (h : sp (vs ++ dvs) H Q (E σ)) : wpAny (model X.prog X.w) X.A (call (.ref f) us) (EP X pins σ Q) X.xe s := by
  have r2 := r.append hd
  have hl := F.len _ _ _ _ h
  rw [r2.length] at hl
  exact run_any F hr I (hb s us I.kIn hl) r2 h fun er s' q => hx pins H s er s' I q
/-! the calls -/
theorem pe_call (F : FnOk X.prog X.w X.K X.mg X.base CX k f fd ps sp) (hr : Room k X.A) (hg : Gl X x) (hm : X.mg x = some (.ref f)) (hk : PySem.W.keepIn X.K (.ref f) = true) (hb : Binds X.K fd ps ds) (hd : Vals dvs ds) (hx : Passes CX X E) (ha : PA X (e :: es) t) (hdb : (x == ("__debug__" : Str)) = false := by decide)
    (he : starEach (e :: es) X.env = (false, eval e X.env) :: starEach es X.env := by rfl) (hpl : (backTo pos (starEach es X.env)).any (·.1) = false := by rfl) : PE X (.Call (.Name x p) (e :: es) [] pos) (tCall sp dvs E t) :=
  ⟨fun pins s σ H Q I h => wpAny_Call_Name_kw (ld_glob I hg hm (PySem.W.callWith_K (h₀ := X.base) I.ok.mod.kin hk (thn (ha.run pos pins s σ H _ I h) fun us s1 z => by
    obtain ⟨vs, H1, I1, r, q⟩ := z
    exact ⟨I1.kIn, run_fn F hr hb hd hx I1 r q⟩) he hpl) hdb)⟩
theorem pe_call0 (F : FnOk X.prog X.w X.K X.mg X.base CX k f fd ps sp) (hr : Room k X.A) (hg : Gl X x) (hm : X.mg x = some (.ref f)) (hk : PySem.W.keepIn X.K (.ref f) = true) (hb : Binds X.K fd ps ds) (hd : Vals dvs ds) (hx : Passes CX X E) (hdb : (x == ("__debug__" : Str)) = false := by decide) : PE X (.Call (.Name x p) [] [] pos) (tCall sp dvs E tNil) :=
  ⟨fun pins s σ H Q I h => wpAny_Call_Name_kw (ld_glob I hg hm (PySem.W.callWith_K0 I.kIn hk (run_fn (us := []) F hr hb hd hx I .nil h)) hdb)⟩
theorem pe_meth {pl : Sem Bool} (he : PE X o ta) (c : Cls X.K C) (hm : Meth X.K C m f) (F : FnOk X.prog X.w X.K X.mg X.base CX k f fd ps sp) (hr : Room k X.A) (hb : Binds X.K fd ps ds) (hd : Vals dvs ds) (hx : Passes CX X E) (ha : PA X (e :: es) t) (hst : starEach (e :: es) X.env = (false, eval e X.env) :: starEach es X.env := by rfl)
    (hpl : (backTo pos (starEach es X.env)).any (·.1) = false := by rfl) (ht : eval (.Call (.Attribute o m apos) (e :: es) [] pos) X.env = (do
      let ov ← eval o X.env
      standAt apos.atName
      let (f, first) ← holding [ov] (getMethod ov m pl)
      callWith pos f first (backTo pos (starEach (e :: es) X.env)) (backToKw pos (keywordEach [] X.env))) := by rfl) :
    PE X (.Call (.Attribute o m apos) (e :: es) [] pos) (tMeth C m sp dvs E ta t) := by
  constructor
  intro pins s σ H Q I h
  refine PySem.W.methodCall_KW (pl := pl) (thn (he.run pins s σ H _ I h) fun u s1 z => ?_) ht
  obtain ⟨_, H1, I1, rx, a, dx, fs, rfl, ea, l, q⟩ := z
  cases (show u = Value.ref a from rx)
  refine getmeth_ok I1 ea c hm l (PySem.W.callWith_K (first := [.ref a]) (h₀ := X.base) I.ok.mod.kin hm.kp (thn (ha.run pos pins s1 σ H1 _ I1 q) fun us s2 z => ?_) hst hpl)
  obtain ⟨vs, H2, I2, r, q2⟩ := z
  exact ⟨I2.kIn, run_fn (us := .ref a :: us) (vs := .ref a :: vs) F hr hb hd hx I2 (.cons rfl r) q2⟩
theorem pe_meth0 {pl : Sem Bool} (he : PE X o ta) (c : Cls X.K C) (hm : Meth X.K C m f) (F : FnOk X.prog X.w X.K X.mg X.base CX k f fd ps sp) (hr : Room k X.A) (hb : Binds X.K fd ps ds) (hd : Vals dvs ds) (hx : Passes CX X E)
    (ht : eval (.Call (.Attribute o m apos) [] [] pos) X.env = (do
      let ov ← eval o X.env
      standAt apos.atName
      let (f, first) ← holding [ov] (getMethod ov m pl)
      callWith pos f first (backTo pos (starEach [] X.env)) (backToKw pos (keywordEach [] X.env))) := by rfl) :
    PE X (.Call (.Attribute o m apos) [] [] pos) (tMeth C m sp dvs E ta tNil) := by
  constructor
  intro pins s σ H Q I h
  refine PySem.W.methodCall_KW (pl := pl) (thn (he.run pins s σ H _ I h) fun u s1 z => ?_) ht
  obtain ⟨_, H1, I1, rx, a, dx, fs, rfl, ea, l, q⟩ := z
  cases (show u = Value.ref a from rx)
  exact getmeth_ok I1 ea c hm l (PySem.W.callWith_K0 (first := [.ref a]) I1.kIn hm.kp (run_fn (us := [.ref a]) (vs := [.ref a]) F hr hb hd hx I1 (.cons rfl .nil) q))
theorem pe_callN (F : FnOk X.prog X.w X.K X.mg X.base CX k f fd ps sp) (hr : Room k X.A) (hg : Gl X x) (hm : X.mg x = some (.ref f)) (hk : PySem.W.keepIn X.K (.ref f) = true) (hb : KBn X.K fd ps n ks g gV) (hx : Passes CX X E) (ha : PA X (e :: es) t) (hkw : PK X kws tk)
    (hall : (backToKw pos (keywordEach kws X.env)).all (·.1.isSome) = true := by rfl) (hks : (backToKw pos (keywordEach kws X.env)).filterMap (·.1) = ks := by rfl) (hdb : (x == ("__debug__" : Str)) = false := by decide) (he : starEach (e :: es) X.env = (false, eval e X.env) :: starEach es X.env := by rfl)
    (hpl : ((backTo pos (starEach (e :: es) X.env)).any (·.1) || (backToKw pos (keywordEach kws X.env)).any (·.1.isNone)) = false := by rfl) : PE X (.Call (.Name x p) (e :: es) kws pos) (tCallN n ks.length sp gV E t tk) := by
  constructor
  intro pins s σ H Q I h
  refine wpAny_Call_Name_kw (ld_glob I hg hm (PySem.W.callWith_KW (h₀ := X.base) I.ok.mod.kin hk hall (thn (ha.run pos pins s σ H _ I h) fun us s1 z => ?_) hpl he) hdb)
  obtain ⟨vs, H1, I1, r, q⟩ := z
  refine thn (hkw.run pos pins s1 σ H1 _ I1 q) fun ws s2 z => ?_
  obtain ⟨zs, H2, I2, rz, l1, l2, q2⟩ := z
  rw [hks]
  exact ⟨I2.kIn, run_fnN F hr hb hx I2 r rz l1 l2 q2⟩
theorem pe_callSD {E : L2.St → XK} (F : FnOk X.prog X.w X.K X.mg X.base CX k f fd ps sp) (hr : Room k X.A) (hg : Gl X x) (hm : X.mg x = some (.ref f)) (hk : PySem.W.keepIn X.K (.ref f) = true) (hb : Binds X.K fd ps ds) (hd : Vals dvs ds) (hx : ∀ σ, PassesAt CX X σ (E σ)) (ha : PA X (e :: es) t)
    (hdb : (x == ("__debug__" : Str)) = false := by decide) (he : starEach (e :: es) X.env = (false, eval e X.env) :: starEach es X.env := by rfl) (hpl : (backTo pos (starEach es X.env)).any (·.1) = false := by rfl) : PE X (.Call (.Name x p) (e :: es) [] pos) (tCallSD sp dvs E t) :=
  ⟨fun pins s σ H Q I h => wpAny_Call_Name_kw (ld_glob I hg hm (PySem.W.callWith_K (h₀ := X.base) I.ok.mod.kin hk (thn (ha.run pos pins s σ H _ I h) fun us s1 z => by
    obtain ⟨vs, H1, I1, r, q⟩ := z
    exact ⟨I1.kIn, run_fnSD F hr hb hd (hx σ) I1 r q⟩) he hpl) hdb)⟩
/-- an instance is made -/
theorem run_mk {pins : List (Addr × Obj)} {σ : L2.St} {H : Hp} {s : Shared} {Q : VK} {us : List Value} {kw : List (Str × Value)} {zs : List Value} {ws : List V} (M : Mk X.K C f) (F : FnOk X.prog X.w X.K X.mg X.base CX k f fd ps sp) (hr : Room (k + 1) X.A) (hx : Passes CX X E) (I : Inv X pins σ H s)
    (hb : ∀ s', X.K.In s'.heap → BindsTo s' fd ⟨.ref (s.heap.objs.size + 1) :: us, kw⟩ (ps.zip zs)) (r : Vals ws zs) (hq : sp ws (upd (upd H s.heap.objs.size (.own (s.heap.objs.size + 1))) (s.heap.objs.size + 1) (.ins C s.heap.objs.size [])) (fun v H2 => v = .non ∧ Q (.ref (s.heap.objs.size + 1)) H2) E) :
    wpAny (model X.prog X.w) X.A (call (.ref C) us kw) (EP X pins σ Q) X.xe s := by
  have I2 := Inv.made (C := C) I
  refine wpAny_call (make_map (f := f) I.kIn M.makes M.init (beq_iff_eq.mp M.fn) (codeAny_mono (F.run _ X.stack _ _ ⟨.ref (s.heap.objs.size + 1) :: us, kw⟩ zs ws _ E (hr.make C us kw) (I2.env0.make C us kw) (hb _ I2.kIn) r hq) fun res s' z => ?_))
  rcases res with er | (_ | _ | _ | u)
  · exact hx pins σ _ _ er s' I2 z
  · exact z.elim
  · exact z.elim
  · exact z.elim
  · obtain ⟨v, H', I3, rv, rfl, q3⟩ := I2.after z
    exact ⟨rv, ⟨V.ref (s.heap.objs.size + 1), H', I3, rfl, q3⟩⟩
theorem mk_ne {pins : List (Addr × Obj)} {σ : L2.St} {H : Hp} {s : Shared} (I : Inv X pins σ H s) : H (s.heap.objs.size + 1) = none ∧ H s.heap.objs.size = none ∧ s.heap.objs.size ≠ s.heap.objs.size + 1 := ⟨I.hok.fresh (by omega), I.hok.fresh (by omega), by omega⟩
theorem pe_make (M : Mk X.K C f) (F : FnOk X.prog X.w X.K X.mg X.base CX k f fd ps sp) (hr : Room (k + 1) X.A) (hg : Gl X x) (hm : X.mg x = some (.ref C)) (hb : Binds X.K fd ps ds) (hd : Vals dvs ds) (hx : Passes CX X E) (ha : PA X (e :: es) t) (hdb : (x == ("__debug__" : Str)) = false := by decide)
    (he : starEach (e :: es) X.env = (false, eval e X.env) :: starEach es X.env := by rfl) (hpl : (backTo pos (starEach es X.env)).any (·.1) = false := by rfl) : PE X (.Call (.Name x p) (e :: es) [] pos) (tMake C sp dvs E t) := by
  constructor
  intro pins s σ H Q I h
  refine wpAny_Call_Name_kw (ld_glob I hg hm (PySem.W.callWith_K (h₀ := X.base) I.ok.mod.kin M.kp (thn (ha.run pos pins s σ H _ I h) fun us s1 z => ?_) he hpl) hdb)
  obtain ⟨vs, H1, I1, r, q⟩ := z
  obtain ⟨n1, n2, n3⟩ := mk_ne I1
  have q1 := q _ _ n1 n2 n3
  have r2 : Vals (V.ref (s1.heap.objs.size + 1) :: (vs ++ dvs)) (Value.ref (s1.heap.objs.size + 1) :: (us ++ ds)) := .cons rfl (r.append hd)
  have hl := F.len _ _ _ _ q1
  rw [r2.length] at hl
  exact ⟨I1.kIn, run_mk (us := us) (zs := Value.ref (s1.heap.objs.size + 1) :: (us ++ ds)) M F hr hx I1 (fun s' z => hb s' (.ref (s1.heap.objs.size + 1) :: us) z hl) r2 q1⟩
theorem pe_makeK (M : Mk X.K C f) (F : FnOk X.prog X.w X.K X.mg X.base CX k f fd ps sp) (hr : Room (k + 1) X.A) (hg : Gl X x) (hm : X.mg x = some (.ref C)) (hb : KBn X.K fd ps (n + 1) ks g gV) (hx : Passes CX X E) (ha : PA X (e :: es) t) (hkw : PK X kws tk)
    (hall : (backToKw pos (keywordEach kws X.env)).all (·.1.isSome) = true := by rfl) (hks : (backToKw pos (keywordEach kws X.env)).filterMap (·.1) = ks := by rfl) (hdb : (x == ("__debug__" : Str)) = false := by decide) (he : starEach (e :: es) X.env = (false, eval e X.env) :: starEach es X.env := by rfl)
    (hpl : ((backTo pos (starEach (e :: es) X.env)).any (·.1) || (backToKw pos (keywordEach kws X.env)).any (·.1.isNone)) = false := by rfl) : PE X (.Call (.Name x p) (e :: es) kws pos) (tMakeK C n ks.length sp gV E t tk) := by
  constructor
  intro pins s σ H Q I h
  refine wpAny_Call_Name_kw (ld_glob I hg hm (PySem.W.callWith_KW (h₀ := X.base) I.ok.mod.kin M.kp hall (thn (ha.run pos pins s σ H _ I h) fun us s1 z => ?_) hpl he) hdb)
  obtain ⟨vs, H1, I1, r, q⟩ := z
  refine thn (hkw.run pos pins s1 σ H1 _ I1 q) fun ws s2 z => ?_
  obtain ⟨zs, H2, I2, rz, l1, l2, q2⟩ := z
  rw [hks]
  obtain ⟨n1, n2, n3⟩ := mk_ne I2
  have q1 := q2 _ _ n1 n2 n3
  have r1 : Vals (V.ref (s2.heap.objs.size + 1) :: vs) (Value.ref (s2.heap.objs.size + 1) :: us) := .cons rfl r
  have e1 : (Value.ref (s2.heap.objs.size + 1) :: us).length = n + 1 := by rw [← r1.length, List.length_cons, l1]
  exact ⟨I2.kIn, run_mk (us := us) (kw := ks.zip ws) (zs := g (Value.ref (s2.heap.objs.size + 1) :: us) ws) M F hr hx I2 (fun s' z => hb.to s' (.ref (s2.heap.objs.size + 1) :: us) ws z e1 (rz.length.symm.trans l2)) (hb.rel r1 rz) q1⟩
end
structure Held (P : Program) (w : World) (K : PySem.W.Frag) (mg : Str → Option Value) (base : Heap) (k : Nat) (f : Addr) (sp : Sp) : Prop where
  ex : ∃ (fd : FuncData) (ps : List Str), FnOk P w K mg base CX0 k f fd ps sp ∧ PySem.W.keepIn K (.ref f) = true ∧ Binds K fd ps []
section
variable {P : Program} {w : World} {K : PySem.W.Frag} {mg : Str → Option Value} {base : Heap} {x qual : Str} {params : Arguments} {body : List Stmt} {scope : Scope} {dvs : List V} {kws : List (Str × V)} {f : Addr} {fd : FuncData}
/-- a def by its body -/
theorem fnd_ok {CX : CXT} {N ps : List Str} {k : Nat} {sp : Sp} (F : FunD K x qual params body scope dvs kws f fd) (S : FnScope N ps scope) (len : ∀ vs H Q E, sp vs H Q E → vs.length = ps.length)
    (hbody : ∀ (cdv : Value) (A : Around) (outer : List PySem.Env) (s : Shared) (H : Hp) (vs : List V) (Q : VK) (E : XK), Room k (A.deeper (envOfC qual scope s.heap.objs.size f cdv)) → sp vs H Q E → ∃ t, PSs (cxOf CX P w K mg base N qual scope f cdv A outer s H E) body t ∧ t { nx := fun _ H' => Q .non H', rt := Q } (start N vs) H) : FnOk P w K mg base CX (k + 1) f fd ps sp := by
  obtain ⟨oc, od, dV, kV, doc, pm, an, cdv, ct, osl, rfl, lk, hcd, _, _⟩ := F.ex
  constructor
  · exact len
  intro A outer s H args us vs Q E hr e0 hb r hsp
  have hl := len _ _ _ _ hsp
  have kp : ∀ b o, base.get? b = some o → s.heap.get? b = some o := fun b o e => (e0.bs b o e).1
  have KX : K.In s.heap := e0.mod.kin.keeps kp
  have hkind : ∀ y ∈ ps.zip us, scope.names.lookup y.1 = some .local ∨ (scope.names.lookup y.1 = some .cell ∧ ((cellsFrom (s.heap.objs.size + 1) scope.names []).lookup y.1).isSome = true) := by
    rintro ⟨n, v⟩ hy
    rcases S.par n (List.of_mem_zip hy).1 with q | q
    · exact Or.inl q
    · exact Or.inr ⟨q, PySem.W.cellsFrom_some _ _ _ (.inl q)⟩
  refine codeAny_call_function hr.toRoom.depth (KX _ _ lk) rfl S.co S.gen rfl (PySem.W.codeRec_of KX hcd) (hb _ _ _ _ (wpAny_newFunctionEnv_cells S.kind hkind fun env he s1 x => ?_))
  subst he
  refine ⟨(e0.mod.nolimit.keeps kp).keeps x.toInCall.keep, codeAny_func ?_⟩
  obtain ⟨t, ht, hq⟩ := hbody cdv A outer s H vs Q E (hr.deeper _) hsp
  have I : Inv (cxOf CX P w K mg base N qual scope f cdv A outer s H E) [] (start N vs) H s1 := inv_start S hr.hd e0 hl r x
  refine wpAny_mono (ht.run [] s1 (start N vs) H _ I hq) (fun fl s' hs => ?_) fun _ _ hs => hs
  rcases fl with _ | _ | _ | u
  · obtain ⟨σ', H', J, q⟩ := hs
    exact ⟨V.non, H', J.os, J.bare, J.base, J.hok, rfl, q⟩
  · obtain ⟨_, _, _, q⟩ := hs
    exact q.elim
  · obtain ⟨_, _, _, q⟩ := hs
    exact q.elim
  · obtain ⟨v, σ', H', J, rv, q⟩ := hs
    exact ⟨v, H', J.os, J.bare, J.base, J.hok, rv, q⟩
end
/-! ### the law's end -/
section
variable {P : Program} {w : World} {K : PySem.W.Frag} {mg mb : Str → Option Value} {CX : CXT} {k : Nat} {fa a : Addr} {fd : FuncData} {x : Str} {sp : Sp} {s₁ : Shared} {vs : List Value} {ns : List Int}
theorem law_from (KX : K.In s₁.heap) (hns : s₁.heap.Ns mainGlobals mg) (hb : s₁.heap.Ns builtinsNs mb) (hbb : ∀ x : Str, x ≠ "__name__" → mb x = bootBuiltins x) (hlim : s₁.heap.NoLimit) (hg : s₁.gens = #[]) (ha : s₁.heap.get? a = some { cls := .type "list", data := .seq vs.toArray }) (hr : Room k callerA)
    (F : ∀ base : Heap, K.In base → base.Ns mainGlobals mg → FnOk P w K mg base CX k fa fd [x] sp) (hbind : ∀ (s : Shared) (u : Value), BindsTo s fd ⟨[u], []⟩ [(x, u)]) (hCX : ∀ H e s', CX [] H s₁ (fun _ _ _ => False) e s' → False) (H : Hp) (hO : Only H) (q : sp [.ref a] H (fun v _ => v = .bl true) fun _ _ _ => False)
    (hok : HOk P w H s₁.heap) (hA : ∀ b, H b ≠ none → b = a ∧ K.lookup a = none) : codeAny (model P w) callerA (.call (.ref fa) ⟨[.ref a], []⟩) (fun r s' => r = .ok (.ret (.bool true)) ∧ OldK s₁.heap s'.heap ∧ s'.os = s₁.os ∧ AllBare s'.gens) s₁ := by
  have hid : ∀ {b : Addr} {o : Obj}, s₁.heap.get? b = some o → (b = a → K.lookup a = none → False) → (hidT s₁.heap H).get? b = some o := fun {b o} e n => hidT_get e (by
    cases z : H b with
    | none => rfl
    | some u => exact (n (hA b (by rw [z]; simp)).1 (hA b (by rw [z]; simp)).2).elim)
  have nsK : ∀ {b : Addr} {m : Str → Option Value}, s₁.heap.Ns b m → (hidT s₁.heap H).Ns b m := by
    rintro b m ⟨o, es, ep, e, d, r⟩
    refine ⟨o, es, ep, hid e fun z _ => ?_, d, r⟩
    rw [z, ha] at e
    cases e
    have d' : Data.seq vs.toArray _ = Data.dict es ep := d
    cases d'
  have hKb : K.In (hidT s₁.heap H) := fun b o e => hid (KX b o e) fun z n => by rw [z, n] at e; cases e
  have e0 : Env0 P w K mg (hidT s₁.heap H) callerA [] s₁ H := by
    refine ⟨rfl, ⟨hKb, nsK hns, ⟨mb, nsK hb, hbb⟩, ?_⟩, fun b o e => of_hidT e, by rw [hidT_size]; exact Nat.le_refl _, trivial, fun b hb => (List.not_mem_nil hb).elim, hok, .of_eq hg⟩
    obtain ⟨mc, h1, h2⟩ := hlim
    exact ⟨mc, nsK h1, h2⟩
  refine codeAny_mono ((F _ hKb (nsK hns)).run callerA [] s₁ H ⟨[.ref a], []⟩ [.ref a] [.ref a] _ _ hr e0 (hbind s₁ (.ref a)) (.cons rfl .nil) q) fun res s' z => ?_
  rcases res with er | (_ | _ | _ | u)
  · exact (hCX H er s' z).elim
  · exact z.elim
  · exact z.elim
  · exact z.elim
  · obtain ⟨v, H', os, bare, un, hok', r', q⟩ := z
    cases (show v = .bl true from q)
    cases (show u = Value.bool true from r')
    refine ⟨rfl, OldK.of_keep fun b o e => ?_, os, bare⟩
    cases z : H b with
    | none => exact un.keep b o e z (List.not_mem_nil) (by simp)
    | some u =>
      rcases hO b with y | ⟨oo, xs, y⟩
      · rw [z] at y; cases y
      · have e1 := (hok b _ y).1
        have e2 := un.frzs b oo _ y
        rw [e] at e1
        cases e1
        exact (hok' b _ e2).1
theorem law_runs (KX : K.In s₁.heap) (hns : s₁.heap.Ns mainGlobals mg) (hb : s₁.heap.Ns builtinsNs mb) (hbb : ∀ x : Str, x ≠ "__name__" → mb x = bootBuiltins x) (hlim : s₁.heap.NoLimit) (hg : s₁.gens = #[]) (ha : s₁.heap.get? a = some { cls := .type "list", data := .seq vs.toArray }) (hi : IntsAre vs ns) (hl : ns.length ≤ sizeLine) (hr : Room k callerA)
    (F : ∀ base : Heap, K.In base → base.Ns mainGlobals mg → FnOk P w K mg base CX k fa fd [x] sp) (hbind : ∀ (s : Shared) (u : Value), BindsTo s fd ⟨[u], []⟩ [(x, u)]) (hsp : ∀ H : Hp, Only H → SqL K H a (ns.map V.int) → sp [.ref a] H (fun v _ => v = .bl true) fun _ _ _ => False)
    (hCX : ∀ H e s', CX [] H s₁ (fun _ _ _ => False) e s' → False) : codeAny (model P w) callerA (.call (.ref fa) ⟨[.ref a], []⟩) (fun r s' => r = .ok (.ret (.bool true)) ∧ OldK s₁.heap s'.heap ∧ s'.os = s₁.os ∧ AllBare s'.gens) s₁ := by
  have rv := vals_ints hi
  have lenV := hi.length
  have core := law_from (P := P) (w := w) KX hns hb hbb hlim hg ha hr F hbind hCX
  cases hk : K.lookup a with
  | some o =>
    have e := KX a o hk
    rw [ha] at e
    cases e
    have hO : Only (fun _ => none) := fun _ => Or.inl rfl
    refine core _ hO (hsp _ hO (.inr ⟨_, vs.toArray, _, hk, rfl, rfl, rfl, by rw [List.size_toArray, lenV]; exact hl, by simpa using rv⟩)) (fun b u z => ?_) fun b z => absurd rfl z
    exact absurd (show (none : Option HO) = some u from z) (by simp)
  | none =>
    obtain ⟨H, hH⟩ : ∃ H : Hp, H = fun b => if b = a then some (.frz { cls := .type "list", data := .seq vs.toArray } (.lst (ns.map V.int))) else none := ⟨_, rfl⟩
    have h1 : H a = some (.frz { cls := .type "list", data := .seq vs.toArray } (.lst (ns.map V.int))) := by rw [hH]; exact if_pos rfl
    have h2 : ∀ b, b ≠ a → H b = none := fun b hb => by rw [hH]; exact if_neg hb
    have hO : Only H := fun b => by
      by_cases z : b = a
      · rw [z]; exact Or.inr ⟨_, _, h1⟩
      · exact Or.inl (h2 b z)
    refine core H hO (hsp H hO (.inl (.inr ⟨{ cls := .type "list", data := .seq vs.toArray }, h1⟩))) (fun b u z => ?_) fun b z => ?_
    · by_cases y : b = a
      · rw [y, h1] at z
        cases z
        rw [y]
        exact ⟨ha, by rw [List.length_map]; exact hl, vs, _, rv, ha⟩
      · rw [h2 b y] at z; cases z
    · by_cases y : b = a
      · exact ⟨y, hk⟩
      · exact absurd (h2 b y) z
end
theorem walk_law {l : PySem.W.OpenLaw} {n k : Nat} {q : Program} {loose : List Str} {XP : (Str → Option Value) → Heap → Prop} {YP : World → Heap → Prop} {d : DefRec} {CX : CXT} {x : Str} (hn : l.most = some n) (hn2 : n ≤ sizeLine) (hdf : d.params.defaults = []) (hr : Room k callerA)
    (F : ∀ (w : World) (mg : Str → Option Value) (fa : Addr) (h : Heap), YP w h → h.Ns mainGlobals mg → mg d.name = some (.ref fa) → ∃ (K : PySem.W.Frag) (fd : FuncData) (sp : Sp), K.In h ∧ (∀ (s : Shared) (u : Value), BindsTo s fd ⟨[u], []⟩ [(x, u)]) ∧
      (∀ (H : Hp) (a : Addr) (ns : List Int), ns.length ≤ n → Only H → SqL K H a (ns.map V.int) → sp [.ref a] H (fun v _ => v = .bl true) fun _ _ _ => False) ∧ ∀ base : Heap, K.In base → base.Ns mainGlobals mg → FnOk l.prog w K mg base CX k fa fd [x] sp)
    (hCX : ∀ (H : Hp) (s : Shared) (e : Value) (s' : Shared), CX [] H s (fun _ _ _ => False) e s' → False) : PySem.W.WalkO q loose XP YP l.row.toRowW d [] (fun f vs => PySem.call f vs) := by
  refine Att.attach_call hn hdf fun w s₀ s₁ mg mb fa o pm cd doc a vs ns G Y ho hd hcd hmg hobj hints hlen hg => ?_
  obtain ⟨K, fd, sp, KX, hb, hsp, hF⟩ := F w mg fa _ Y G.T.g hmg
  exact law_runs KX G.T.g G.T.b G.T.builtins G.T.nolimit hg hobj hints (Nat.le_trans hlen hn2) hr hF hb (fun H hO hS => hsp H a ns hlen hO hS) fun H e s' => hCX H s₁ e s'
end G

set_option Elab.async false
set_option linter.all false
set_option maxRecDepth 100000
/-! A layer over the hand layer: values as plain data, objects that change as numbered cells. -/
namespace G
open PySem PySem.Spec PyProof.Rows L2

/-- a value as plain data -/
inductive D where
  | non | bl (b : Bool) | int (i : Int) | str (s : Str)
  | tup (l : List D) | lst (l : List D) | scr (l : List Int)
  | obj (C : Addr) (fs : List (Str × D)) | vl (v : V)
  | exc (C : Addr) (fs : List (Str × D))
  | dic (kvs : List (Key × D))
/-- a caught exception at p: its class at C, its dict at d -/
def excV (C d p : Addr) : HO := .ext fun h => ∃ (oe : Obj) (vs : Array Value), h.get? p = some oe ∧ Zc (.ref C) (some d) oe ∧ oe.data = .fields vs
/-- a value: plain data, or the k-th cell -/
inductive A where
  | d (x : D) | cell (k : Nat)
/-- what a cell holds -/
inductive Cell where
  | lst (l : List D) | obj (C : Addr) (fs : List (Str × A)) | dic (kvs : List (Key × A)) | did (kvs : List (Key × D)) | lsa (l : List A) | tpa (l : List A) | gone

abbrev Env := List (Option A)
abbrev Mem := List Cell

mutual
inductive Rep (K : PySem.W.Frag) (I : Hp) : D → V → Prop
  | non : Rep K I .non .non
  | bl (b : Bool) : Rep K I (.bl b) (.bl b)
  | int (i : Int) : Rep K I (.int i) (.int i)
  | str (s : Str) : Rep K I (.str s) (.str s)
  | vl (v : V) : Rep K I (.vl v) v
  | tup {p : Addr} {ds : List D} {vs : List V} : SqT K I p vs → Reps K I ds vs → Rep K I (.tup ds) (.ref p)
  | lst {p : Addr} {ds : List D} {vs : List V} : I p = some (.lst vs) → Reps K I ds vs → Rep K I (.lst ds) (.ref p)
  | scr {p : Addr} {ns : List Int} : SqL K I p (ns.map V.int) → Rep K I (.scr ns) (.ref p)
  | obj {p C dx : Addr} {fs : List (Str × D)} {gs : List (Str × V)} : I p = some (.ins C dx gs) → RepF K I fs gs → Rep K I (.obj C fs) (.ref p)
  | exc {p C d : Addr} {fs : List (Str × D)} {gs : List (Str × V)} : I p = some (excV C d p) → I d = some (.xd gs) → RepF K I fs gs → Rep K I (.exc C fs) (.ref p)
  | dic {p : Addr} {kvs : List (Key × D)} {gs : List (Key × V)} : I p = some (.dK gs) → RepK K I kvs gs → Rep K I (.dic kvs) (.ref p)
inductive Reps (K : PySem.W.Frag) (I : Hp) : List D → List V → Prop
  | nil : Reps K I [] []
  | cons {d : D} {v : V} {ds : List D} {vs : List V} : Rep K I d v → Reps K I ds vs → Reps K I (d :: ds) (v :: vs)
inductive RepF (K : PySem.W.Frag) (I : Hp) : List (Str × D) → List (Str × V) → Prop
  | nil : RepF K I [] []
  | cons {x : Str} {d : D} {v : V} {ds : List (Str × D)} {vs : List (Str × V)} : Rep K I d v → RepF K I ds vs → RepF K I ((x, d) :: ds) ((x, v) :: vs)
inductive RepK (K : PySem.W.Frag) (I : Hp) : List (Key × D) → List (Key × V) → Prop
  | nil : RepK K I [] []
  | cons {x : Key} {d : D} {v : V} {ds : List (Key × D)} {vs : List (Key × V)} : Rep K I d v → RepK K I ds vs → RepK K I ((x, d) :: ds) ((x, v) :: vs)
end

section
variable {K : PySem.W.Frag} {I J H : Hp}
theorem same_new {p : Addr} {o : HO} (h : I p = none) : Same I (upd I p o) := fun a u e => by
  rw [upd_ne (ne_of_none e h)]; exact e
theorem same_rd {a : Addr} {u : HO} (e : Same I J) (h : Rd I a u) : Rd J a u := by
  rcases h with h | ⟨o, h⟩
  · exact .inl (e a _ h)
  · exact .inr ⟨o, e a _ h⟩
theorem same_l {a : Addr} {xs : List V} (e : Same I J) (h : SqL K I a xs) : SqL K J a xs := by
  rcases h with h | h
  · exact .inl (same_rd e h)
  · exact .inr h
theorem same_t {a : Addr} {xs : List V} (e : Same I J) (h : SqT K I a xs) : SqT K J a xs := by
  rcases h with h | h
  · exact .inl (same_rd e h)
  · exact .inr h
mutual
theorem Rep.mono (e : Same I J) : ∀ {d : D} {v : V}, Rep K I d v → Rep K J d v
  | _, _, .non => .non
  | _, _, .bl b => .bl b
  | _, _, .int i => .int i
  | _, _, .str s => .str s
  | _, _, .vl v => .vl v
  | _, _, .tup h r => .tup (same_t e h) (Reps.mono e r)
  | _, _, .lst h r => .lst (e _ _ h) (Reps.mono e r)
  | _, _, .scr h => .scr (same_l e h)
  | _, _, .obj h r => .obj (e _ _ h) (RepF.mono e r)
  | _, _, .exc h g r => .exc (e _ _ h) (e _ _ g) (RepF.mono e r)
  | _, _, .dic h r => .dic (e _ _ h) (RepK.mono e r)
theorem Reps.mono (e : Same I J) : ∀ {d : List D} {v : List V}, Reps K I d v → Reps K J d v
  | _, _, .nil => .nil
  | _, _, .cons h r => .cons (Rep.mono e h) (Reps.mono e r)
theorem RepF.mono (e : Same I J) : ∀ {d : List (Str × D)} {v : List (Str × V)}, RepF K I d v → RepF K J d v
  | _, _, .nil => .nil
  | _, _, .cons h r => .cons (Rep.mono e h) (RepF.mono e r)
theorem RepK.mono (e : Same I J) : ∀ {d : List (Key × D)} {v : List (Key × V)}, RepK K I d v → RepK K J d v
  | _, _, .nil => .nil
  | _, _, .cons h r => .cons (Rep.mono e h) (RepK.mono e r)
end
theorem Reps.length : ∀ {ds : List D} {vs : List V}, Reps K I ds vs → ds.length = vs.length
  | _, _, .nil => rfl
  | _, _, .cons _ r => by rw [List.length_cons, List.length_cons, Reps.length r]
theorem Reps.get : ∀ {ds : List D} {vs : List V} {i : Nat} {d : D}, Reps K I ds vs → ds[i]? = some d → ∃ v, vs[i]? = some v ∧ Rep K I d v
  | _, _, _, _, .nil, e => by simp at e
  | _, _, 0, _, .cons h _, e => by simp at e; subst e; exact ⟨_, rfl, h⟩
  | _, _, i + 1, _, .cons _ r, e => by
    obtain ⟨v, h1, h2⟩ := Reps.get (i := i) r (by simpa using e)
    exact ⟨v, by simpa using h1, h2⟩
theorem Reps.getV : ∀ {ds : List D} {vs : List V} {i : Nat} {v : V}, Reps K I ds vs → vs[i]? = some v → ∃ d, ds[i]? = some d ∧ Rep K I d v
  | _, _, _, _, .nil, e => by simp at e
  | _, _, 0, _, .cons h _, e => by simp at e; subst e; exact ⟨_, rfl, h⟩
  | _, _, i + 1, _, .cons _ r, e => by
    obtain ⟨v, h1, h2⟩ := Reps.getV (i := i) r (by simpa using e)
    exact ⟨v, by simpa using h1, h2⟩
theorem Reps.app : ∀ {ds es : List D} {vs us : List V}, Reps K I ds vs → Reps K I es us → Reps K I (ds ++ es) (vs ++ us)
  | _, _, _, _, .nil, s => s
  | _, _, _, _, .cons h r, s => .cons h (Reps.app r s)
theorem Reps.rev : ∀ {ds : List D} {vs : List V}, Reps K I ds vs → Reps K I ds.reverse vs.reverse
  | _, _, .nil => .nil
  | _, _, .cons h r => by rw [List.reverse_cons, List.reverse_cons]; exact Reps.app (Reps.rev r) (.cons h .nil)
theorem Reps.take : ∀ {ds : List D} {vs : List V} (n : Nat), Reps K I ds vs → Reps K I (ds.take n) (vs.take n)
  | _, _, 0, _ => by simp; exact .nil
  | _, _, n + 1, .nil => by simp; exact .nil
  | _, _, n + 1, .cons h r => by rw [List.take_succ_cons, List.take_succ_cons]; exact .cons h (Reps.take n r)
theorem Reps.drop : ∀ {ds : List D} {vs : List V} (n : Nat), Reps K I ds vs → Reps K I (ds.drop n) (vs.drop n)
  | _, _, 0, h => by simpa using h
  | _, _, n + 1, .nil => by simp; exact .nil
  | _, _, n + 1, .cons h r => by rw [List.drop_succ_cons, List.drop_succ_cons]; exact Reps.drop n r
theorem Reps.set {d : D} {v : V} (h : Rep K I d v) : ∀ {ds : List D} {vs : List V} (n : Nat), Reps K I ds vs → Reps K I (ds.set n d) (vs.set n v)
  | _, _, _, .nil => by simp; exact .nil
  | _, _, 0, .cons _ r => by simp; exact .cons h r
  | _, _, n + 1, .cons h' r => by rw [List.set_cons_succ, List.set_cons_succ]; exact .cons h' (Reps.set h n r)
theorem Reps.dropLast : ∀ {ds : List D} {vs : List V}, Reps K I ds vs → Reps K I ds.dropLast vs.dropLast := fun {ds vs} h => by
  rw [List.dropLast_eq_take, List.dropLast_eq_take, h.length]; exact h.take _
theorem Reps.ints : ∀ {ns : List Int} {vs : List V}, Reps K I (ns.map D.int) vs → vs = ns.map V.int
  | [], _, .nil => rfl
  | n :: ns, _, .cons h r => by cases h; rw [Reps.ints r]; rfl
theorem Reps.bls : ∀ {ns : List Bool} {vs : List V}, Reps K I (ns.map D.bl) vs → vs = ns.map V.bl
  | [], _, .nil => rfl
  | n :: ns, _, .cons h r => by cases h; rw [Reps.bls r]; rfl
theorem Reps.strs : ∀ {ns : List Str} {vs : List V}, Reps K I (ns.map D.str) vs → vs = ns.map V.str
  | [], _, .nil => rfl
  | n :: ns, _, .cons h r => by cases h; rw [Reps.strs r]; rfl
theorem reps_ints : ∀ (ns : List Int), Reps K I (ns.map D.int) (ns.map V.int)
  | [] => .nil
  | n :: ns => .cons (.int n) (reps_ints ns)
end

/-- a value, cells by their addresses -/
inductive RepA (K : PySem.W.Frag) (al : List Addr) (I : Hp) : A → V → Prop
  | d {x : D} {v : V} : Rep K I x v → RepA K al I (.d x) v
  | cell {k : Nat} {a : Addr} : al[k]? = some a → RepA K al I (.cell k) (.ref a)
inductive RepAs (K : PySem.W.Frag) (al : List Addr) (I : Hp) : List A → List V → Prop
  | nil : RepAs K al I [] []
  | cons {d : A} {v : V} {ds : List A} {vs : List V} : RepA K al I d v → RepAs K al I ds vs → RepAs K al I (d :: ds) (v :: vs)
inductive RepAF (K : PySem.W.Frag) (al : List Addr) (I : Hp) : List (Str × A) → List (Str × V) → Prop
  | nil : RepAF K al I [] []
  | cons {x : Str} {d : A} {v : V} {ds : List (Str × A)} {vs : List (Str × V)} : RepA K al I d v → RepAF K al I ds vs → RepAF K al I ((x, d) :: ds) ((x, v) :: vs)
inductive RepAK (K : PySem.W.Frag) (al : List Addr) (I : Hp) : List (Key × A) → List (Key × V) → Prop
  | nil : RepAK K al I [] []
  | cons {x : Key} {d : A} {v : V} {ds : List (Key × A)} {vs : List (Key × V)} : RepA K al I d v → RepAK K al I ds vs → RepAK K al I ((x, d) :: ds) ((x, v) :: vs)

/-- what stands at the address of a cell -/
def HasC (K : PySem.W.Frag) (al : List Addr) (I H : Hp) (a : Addr) : Cell → Prop
  | .lst ds => I a = none ∧ ∃ vs, H a = some (.lst vs) ∧ Reps K I ds vs
  | .obj C fs => I a = none ∧ ∃ dx gs, H a = some (.ins C dx gs) ∧ RepAF K al I fs gs
  | .dic kvs => I a = none ∧ ∃ gs, H a = some (.dK gs) ∧ RepAK K al I kvs gs
  | .did kvs => I a = none ∧ ∃ gs, H a = some (.dK gs) ∧ RepK K I kvs gs
  | .lsa xs => I a = none ∧ ∃ vs, H a = some (.lst vs) ∧ RepAs K al I xs vs
  | .tpa xs => I a = none ∧ ∃ vs, H a = some (.tup vs) ∧ RepAs K al I xs vs
  | .gone => True

/-- al grows at its end -/
def Pre (al be : List Addr) : Prop := ∃ t, be = al ++ t
theorem Pre.refl (al : List Addr) : Pre al al := ⟨[], by simp⟩
theorem Pre.trans {a b c : List Addr} (h : Pre a b) (g : Pre b c) : Pre a c := by
  obtain ⟨t, rfl⟩ := h; obtain ⟨u, rfl⟩ := g; exact ⟨t ++ u, by simp⟩
theorem Pre.get {a b : List Addr} {k : Nat} {x : Addr} (h : Pre a b) (e : a[k]? = some x) : b[k]? = some x := by
  obtain ⟨t, rfl⟩ := h
  rw [List.getElem?_append_left (List.getElem?_eq_some_iff.mp e).1]; exact e
theorem Pre.snoc (a : List Addr) (x : Addr) : Pre a (a ++ [x]) := ⟨[x], rfl⟩

section
variable {K : PySem.W.Frag} {I J H H' : Hp} {al be : List Addr}
theorem RepA.mono (e : Same I J) (p : Pre al be) {x : A} {v : V} : RepA K al I x v → RepA K be J x v
  | .d h => .d (h.mono e)
  | .cell h => .cell (p.get h)
theorem RepAs.mono (e : Same I J) (p : Pre al be) : ∀ {x : List A} {v : List V}, RepAs K al I x v → RepAs K be J x v
  | _, _, .nil => .nil
  | _, _, .cons h r => .cons (h.mono e p) (RepAs.mono e p r)
theorem RepAF.mono (e : Same I J) (p : Pre al be) : ∀ {x : List (Str × A)} {v : List (Str × V)}, RepAF K al I x v → RepAF K be J x v
  | _, _, .nil => .nil
  | _, _, .cons h r => .cons (h.mono e p) (RepAF.mono e p r)
theorem RepAK.mono (e : Same I J) (p : Pre al be) : ∀ {x : List (Key × A)} {v : List (Key × V)}, RepAK K al I x v → RepAK K be J x v
  | _, _, .nil => .nil
  | _, _, .cons h r => .cons (h.mono e p) (RepAK.mono e p r)
theorem RepAs.length : ∀ {x : List A} {v : List V}, RepAs K al I x v → x.length = v.length
  | _, _, .nil => rfl
  | _, _, .cons _ r => by rw [List.length_cons, List.length_cons, RepAs.length r]
theorem HasC.mono {a : Addr} {c : Cell} (e : Same I J) (p : Pre al be) (n : J a = none) (h : H' a = H a) (x : HasC K al I H a c) : HasC K be J H' a c := by
  cases c with
  | lst ds => obtain ⟨_, vs, h1, h2⟩ := x; exact ⟨n, vs, h.trans h1, h2.mono e⟩
  | obj C fs => obtain ⟨_, dx, gs, h1, h2⟩ := x; exact ⟨n, dx, gs, h.trans h1, h2.mono e p⟩
  | dic kvs => obtain ⟨_, gs, h1, h2⟩ := x; exact ⟨n, gs, h.trans h1, h2.mono e p⟩
  | did kvs => obtain ⟨_, gs, h1, h2⟩ := x; exact ⟨n, gs, h.trans h1, RepK.mono e h2⟩
  | lsa xs => obtain ⟨_, gs, h1, h2⟩ := x; exact ⟨n, gs, h.trans h1, h2.mono e p⟩
  | tpa xs => obtain ⟨_, gs, h1, h2⟩ := x; exact ⟨n, gs, h.trans h1, h2.mono e p⟩
  | gone => trivial
end

/-- a world: what stands still, the cells' addresses, the heap -/
structure Wd where
  I : Hp
  al : List Addr
  H : Hp
/-- from the world at a def's entry to a later one -/
structure To (a b : Wd) : Prop where
  same : Same a.I b.I
  fr : ∀ x o, a.H x = some o → x ∉ a.al → b.H x = some o
  fresh : ∀ x, a.I x = none → b.I x ≠ none → a.H x = none
  dom : ∀ x, b.H x = none → a.H x = none
  pre : Pre a.al b.al
  new : ∀ x, x ∈ b.al → x ∈ a.al ∨ a.H x = none
theorem To.refl (a : Wd) : To a a := ⟨Same.refl _, fun _ _ h _ => h, fun _ h g => absurd h g, fun _ h => h, Pre.refl _, fun _ h => .inl h⟩
theorem To.trans {a b c : Wd} (h : To a b) (g : To b c) : To a c where
  same := h.same.trans g.same
  fr := fun x o e n => g.fr x o (h.fr x o e n) fun z => by
    rcases h.new x z with z | z
    · exact n z
    · rw [z] at e; cases e
  fresh := fun x e n => by
    by_cases z : b.I x = none
    · exact h.dom x (g.fresh x z n)
    · exact h.fresh x e z
  dom := fun x e => h.dom x (g.dom x e)
  pre := h.pre.trans g.pre
  new := fun x e => by
    rcases g.new x e with z | z
    · exact h.new x z
    · exact .inr (h.dom x z)

/-- the slots -/
def Slots (K : PySem.W.Frag) (al : List Addr) (I : Hp) (E : Env) (σ : L2.St) : Prop :=
  E.length = σ.length ∧ ∀ (i : Nat) (x : A), E[i]? = some (some x) → ∃ v, σ[i]? = some (some v) ∧ RepA K al I x v
/-- the state -/
structure Ok (K : PySem.W.Frag) (b : Wd) (M : Mem) : Prop where
  ih : Same b.I b.H
  len : b.al.length = M.length
  nd : b.al.Nodup
  dom : ∀ (k : Nat) (a : Addr), b.al[k]? = some a → b.H a ≠ none
  at_ : ∀ (k : Nat) (a : Addr) (c : Cell), b.al[k]? = some a → M[k]? = some c → HasC K b.al b.I b.H a c

section
variable {K : PySem.W.Frag} {I J H : Hp} {al be : List Addr} {E : Env} {σ : L2.St} {M : Mem} {b : Wd}
theorem Slots.mono (e : Same I J) (p : Pre al be) (s : Slots K al I E σ) : Slots K be J E σ :=
  ⟨s.1, fun i x h => by obtain ⟨v, h1, h2⟩ := s.2 i x h; exact ⟨v, h1, h2.mono e p⟩⟩
theorem Slots.set {i : Nat} {x : A} {v : V} (s : Slots K al I E σ) (r : RepA K al I x v) : Slots K al I (E.set i (some x)) (σ.set i (some v)) := by
  refine ⟨by rw [List.length_set, List.length_set]; exact s.1, fun j y h => ?_⟩
  by_cases hij : i = j
  · subst hij
    by_cases hl : i < E.length
    · rw [List.getElem?_set_self hl] at h
      have e : x = y := by injection h with h; injection h
      subst e
      exact ⟨v, by rw [List.getElem?_set_self (by rw [← s.1]; exact hl)], r⟩
    · rw [List.getElem?_eq_none (by rw [List.length_set]; omega)] at h
      cases h
  · rw [List.getElem?_set_ne hij] at h
    obtain ⟨u, h1, h2⟩ := s.2 j y h
    exact ⟨u, by rw [List.getElem?_set_ne hij]; exact h1, h2⟩
theorem Slots.clr {i : Nat} (s : Slots K al I E σ) : Slots K al I (E.set i none) (σ.set i none) := by
  refine ⟨by rw [List.length_set, List.length_set]; exact s.1, fun j y h => ?_⟩
  by_cases hij : i = j
  · subst hij
    by_cases hl : i < E.length
    · rw [List.getElem?_set_self hl] at h; cases h
    · rw [List.getElem?_eq_none (by rw [List.length_set]; omega)] at h; cases h
  · rw [List.getElem?_set_ne hij] at h
    obtain ⟨u, h1, h2⟩ := s.2 j y h
    exact ⟨u, by rw [List.getElem?_set_ne hij]; exact h1, h2⟩
theorem Ok.iNone {b : Wd} {M : Mem} (o : Ok K b M) {p : Addr} (h : b.H p = none) : b.I p = none := Same.free o.ih h
theorem Ok.nin {b : Wd} {M : Mem} (o : Ok K b M) {p : Addr} (h : b.H p = none) : p ∉ b.al := fun z => by
  obtain ⟨k, hk⟩ := List.getElem?_of_mem z
  exact o.dom k p hk h
/-- a new object that stands still -/
theorem Ok.laid {b : Wd} {M : Mem} (o : Ok K b M) {p : Addr} {u : HO} (h : b.H p = none) : Ok K ⟨upd b.I p u, b.al, upd b.H p u⟩ M where
  ih := fun a w (e : upd b.I p u a = some w) => show upd b.H p u a = some w by
    by_cases z : a = p
    · subst z; rw [upd_same] at e ⊢; exact e
    · rw [upd_ne z] at e ⊢; exact o.ih a w e
  len := o.len
  nd := o.nd
  dom := fun k a e (z : upd b.H p u a = none) => by
    by_cases y : a = p
    · subst y; rw [upd_same] at z; cases z
    · rw [upd_ne y] at z; exact o.dom k a e z
  at_ := fun k a c (e1 : b.al[k]? = some a) e2 => show HasC K b.al (upd b.I p u) (upd b.H p u) a c by
    have ne : a ≠ p := fun z => o.nin h (z ▸ List.mem_of_getElem? e1)
    have q := o.at_ k a c e1 e2
    by_cases hn : b.I a = none
    · exact q.mono (same_new (o.iNone h)) (Pre.refl _) (by rw [upd_ne ne]; exact hn) (by rw [upd_ne ne])
    · cases c with
      | gone => trivial
      | lst _ => exact absurd q.1 hn
      | obj _ _ => exact absurd q.1 hn
      | dic _ => exact absurd q.1 hn
      | did _ => exact absurd q.1 hn
      | lsa _ => exact absurd q.1 hn
      | tpa _ => exact absurd q.1 hn
theorem To.laid {a b : Wd} {M : Mem} (t : To a b) (o : Ok K b M) {p : Addr} {u : HO} (h : b.H p = none) : To a ⟨upd b.I p u, b.al, upd b.H p u⟩ where
  same := t.same.trans (same_new (o.iNone h))
  fr := fun x w e n => by
    have z := t.fr x w e n
    show upd b.H p u x = some w
    rw [upd_ne (ne_of_none z h)]; exact z
  fresh := fun x e n => by
    by_cases z : x = p
    · subst z; exact t.dom x h
    · have n2 : upd b.I p u x ≠ none := n
      rw [upd_ne z] at n2; exact t.fresh x e n2
  dom := fun x e => by
    have e2 : upd b.H p u x = none := e
    by_cases z : x = p
    · subst z; rw [upd_same] at e2; cases e2
    · rw [upd_ne z] at e2; exact t.dom x e2
  pre := t.pre
  new := t.new
end
end G

set_option Elab.async false
set_option linter.all false
set_option maxRecDepth 100000
namespace G
open PySem PySem.Spec PyProof.Rows L2

abbrev Ae := Env → Mem → (A → Mem → Prop) → Prop
abbrev At := Env → Mem → (Bool → Mem → Prop) → Prop
abbrev Aa := Env → Mem → (List A → Mem → Prop) → Prop
abbrev A2 := A → A → Mem → (A → Mem → Prop) → Prop
abbrev A1 := A → Mem → (A → Mem → Prop) → Prop
abbrev Ac := List A → Mem → (A → Mem → Prop) → Prop
/-- a condition that is to be shown -/
structure Side (p q : Prop) : Prop where
  s : p
  q : q
/-- two ways -/
structure Fork (c : Bool) (p q : Prop) : Prop where
  t : c = true → p
  f : c = false → q

/-- a later state within an expression -/
abbrev Step (b c : Wd) : Prop := To b c
theorem Step.refl (b : Wd) : Step b b := To.refl b
theorem Step.trans {a b c : Wd} (h : Step a b) (g : Step b c) : Step a c := To.trans h g
section
variable (K : PySem.W.Frag) (W : Wd)
def SE (t : TE) (a : Ae) : Prop := ∀ (b : Wd) (M : Mem) (E : Env) (σ : L2.St) (QA : A → Mem → Prop) (Q : VK), To W b → Ok K b M → Slots K b.al b.I E σ → a E M QA →
  (∀ b' M' x v, To W b' → Ok K b' M' → Step b b' → RepA K b'.al b'.I x v → QA x M' → Q v b'.H) → t σ b.H Q
def ST (t : TT) (a : At) : Prop := ∀ (b : Wd) (M : Mem) (E : Env) (σ : L2.St) (QA : Bool → Mem → Prop) (Q : Bool → Hp → Prop), To W b → Ok K b M → Slots K b.al b.I E σ → a E M QA →
  (∀ b' M' x, To W b' → Ok K b' M' → Step b b' → QA x M' → Q x b'.H) → t σ b.H Q
def SA (t : TA) (a : Aa) : Prop := ∀ (b : Wd) (M : Mem) (E : Env) (σ : L2.St) (QA : List A → Mem → Prop) (Q : List V → Hp → Prop), To W b → Ok K b M → Slots K b.al b.I E σ → a E M QA →
  (∀ b' M' xs vs, To W b' → Ok K b' M' → Step b b' → RepAs K b'.al b'.I xs vs → QA xs M' → Q vs b'.H) → t σ b.H Q
def S2 (r : R2) (rA : A2) : Prop := ∀ (b : Wd) (M : Mem) (x y : A) (v u : V) (QA : A → Mem → Prop) (Q : VK), To W b → Ok K b M → RepA K b.al b.I x v → RepA K b.al b.I y u → rA x y M QA →
  (∀ b' M' z w, To W b' → Ok K b' M' → Step b b' → RepA K b'.al b'.I z w → QA z M' → Q w b'.H) → r v u b.H Q
def S1 (r : V → Hp → VK → Prop) (rA : A1) : Prop := ∀ (b : Wd) (M : Mem) (x : A) (v : V) (QA : A → Mem → Prop) (Q : VK), To W b → Ok K b M → RepA K b.al b.I x v → rA x M QA →
  (∀ b' M' z w, To W b' → Ok K b' M' → Step b b' → RepA K b'.al b'.I z w → QA z M' → Q w b'.H) → r v b.H Q
def SC (r : List V → Hp → VK → Prop) (rA : Ac) : Prop := ∀ (b : Wd) (M : Mem) (xs : List A) (vs : List V) (QA : A → Mem → Prop) (Q : VK), To W b → Ok K b M → RepAs K b.al b.I xs vs → rA xs M QA →
  (∀ b' M' z w, To W b' → Ok K b' M' → Step b b' → RepA K b'.al b'.I z w → QA z M' → Q w b'.H) → r vs b.H Q
end
section
variable {K : PySem.W.Frag} {W : Wd}
/-- a new object that stands still, as a value -/
theorem new_d {b : Wd} {M : Mem} {o : HO} {x : D} {Q : VK} {QA : A → Mem → Prop} (t : To W b) (ok : Ok K b M) (hx : ∀ p, b.H p = none → Rep K (upd b.I p o) x (.ref p)) (q : QA (.d x) M)
    (k : ∀ b' M' z w, To W b' → Ok K b' M' → Step b b' → RepA K b'.al b'.I z w → QA z M' → Q w b'.H) : ∀ p, b.H p = none → Q (.ref p) (upd b.H p o) := fun p hp =>
  k ⟨upd b.I p o, b.al, upd b.H p o⟩ M (.d x) (.ref p) (t.laid ok hp) (ok.laid hp) ((To.refl b).laid ok hp) (.d (hx p hp)) q
/-! ### names, constants -/
def aVar (i : Nat) : Ae := fun E M Q => match E[i]? with
  | some (some x) => Q x M
  | _ => False
def aC (x : D) : Ae := fun _ M Q => Q (.d x) M
theorem se_var {i : Nat} : SE K W (tVar i) (aVar i) := by
  intro b M E σ QA Q t ok sl h k
  unfold aVar at h
  cases e : E[i]? with
  | none => rw [e] at h; exact h.elim
  | some o =>
    cases o with
    | none => rw [e] at h; exact h.elim
    | some x =>
      rw [e] at h
      obtain ⟨v, h1, h2⟩ := sl.2 i x e
      exact ⟨v, h1, k b M x v t ok (Step.refl _) h2 h⟩
theorem se_c {x : D} {v : V} (r : ∀ I, Rep K I x v) : SE K W (tC v) (aC x) := fun b M E σ QA Q t ok sl h k => k b M _ v t ok (Step.refl _) (.d (r _)) h
/-! ### operators -/
def aOp (r : A2) (a c : Ae) : Ae := fun E M Q => a E M fun x M1 => c E M1 fun y M2 => r x y M2 Q
theorem se_op {ta tb : TE} {a c : Ae} {r : R2} {rA : A2} (ha : SE K W ta a) (hb : SE K W tb c) (hr : S2 K W r rA) : SE K W (tOp r ta tb) (aOp rA a c) := by
  intro b M E σ QA Q t ok sl h k
  refine ha b M E σ _ _ t ok sl h fun b1 M1 x v t1 ok1 s1 r1 h1 => ?_
  refine hb b1 M1 E σ _ _ t1 ok1 (sl.mono s1.same s1.pre) h1 fun b2 M2 y u t2 ok2 s2 r2 h2 => ?_
  refine hr b2 M2 x y v u _ _ t2 ok2 (r1.mono s2.same s2.pre) r2 h2 fun b3 M3 z w t3 ok3 s3 r3 h3 => ?_
  exact k b3 M3 z w t3 ok3 ((s1.trans s2).trans s3) r3 h3
def aUn (r : A1) (a : Ae) : Ae := fun E M Q => a E M fun x M1 => r x M1 Q
theorem se_un {ta : TE} {a : Ae} {r : V → Hp → VK → Prop} {rA : A1} (ha : SE K W ta a) (hr : S1 K W r rA) : SE K W (tUn r ta) (aUn rA a) := by
  intro b M E σ QA Q t ok sl h k
  refine ha b M E σ _ _ t ok sl h fun b1 M1 x v t1 ok1 s1 r1 h1 => ?_
  exact hr b1 M1 x v _ _ t1 ok1 r1 h1 fun b3 M3 z w t3 ok3 s3 r3 h3 => k b3 M3 z w t3 ok3 (s1.trans s3) r3 h3
def i2 (g : Int → Int → D) : A2 := fun x y M Q => match x, y with
  | .d (.int i), .d (.int j) => Q (.d (g i j)) M
  | _, _ => False
def i2c (C : Int → Int → Prop) (g : Int → Int → D) : A2 := fun x y M Q => match x, y with
  | .d (.int i), .d (.int j) => Side (C i j) (Q (.d (g i j)) M)
  | _, _ => False
theorem rep_int_inv {I : Hp} {i : Int} {v : V} : Rep K I (.int i) v → v = .int i
  | .int _ => rfl
theorem rep_bl_inv {I : Hp} {i : Bool} {v : V} : Rep K I (.bl i) v → v = .bl i
  | .bl _ => rfl
theorem rep_str_inv {I : Hp} {i : Str} {v : V} : Rep K I (.str i) v → v = .str i
  | .str _ => rfl
theorem rep_non_inv {I : Hp} {v : V} : Rep K I .non v → v = .non
  | .non => rfl
theorem i2_inv {g : Int → Int → D} {x y : A} {M : Mem} {Q : A → Mem → Prop} (h : i2 g x y M Q) : ∃ i j, x = .d (.int i) ∧ y = .d (.int j) ∧ Q (.d (g i j)) M := by
  unfold i2 at h
  split at h
  · exact ⟨_, _, rfl, rfl, h⟩
  · exact h.elim
theorem i2c_inv {C : Int → Int → Prop} {g : Int → Int → D} {x y : A} {M : Mem} {Q : A → Mem → Prop} (h : i2c C g x y M Q) : ∃ i j, x = .d (.int i) ∧ y = .d (.int j) ∧ C i j ∧ Q (.d (g i j)) M := by
  unfold i2c at h
  split at h
  · exact ⟨_, _, rfl, rfl, h.s, h.q⟩
  · exact h.elim
theorem repA_d {al : List Addr} {I : Hp} {x : D} {v : V} : RepA K al I (.d x) v → Rep K I x v
  | .d h => h
theorem s2_i {g : Int → Int → D} {gV : Int → Int → V} (r : ∀ I i j, Rep K I (g i j) (gV i j)) : S2 K W (rI0 gV) (i2 g) := by
  intro b M x y v u QA Q t ok r1 r2 h k
  obtain ⟨i, j, rfl, rfl, h⟩ := i2_inv h
  cases rep_int_inv (repA_d r1)
  cases rep_int_inv (repA_d r2)
  exact ⟨i, j, rfl, rfl, k b M _ _ t ok (Step.refl _) (.d (r _ i j)) h⟩
theorem s2_ic {C : Int → Int → Prop} {g : Int → Int → D} {gV : Int → Int → V} (r : ∀ I i j, Rep K I (g i j) (gV i j)) : S2 K W (rI C gV) (i2c C g) := by
  intro b M x y v u QA Q t ok r1 r2 h k
  obtain ⟨i, j, rfl, rfl, c, h⟩ := i2c_inv h
  cases rep_int_inv (repA_d r1)
  cases rep_int_inv (repA_d r2)
  exact ⟨i, j, rfl, rfl, c, k b M _ _ t ok (Step.refl _) (.d (r _ i j)) h⟩
end

def CPos (_ j : Int) : Prop := 0 < j
def CNn (_ j : Int) : Prop := 0 ≤ j
/-- one factor is small -/
theorem mulL {i j : Int} (h : -18446744073709551616 < i) (h' : i < 18446744073709551616) : IntMulOk i j := IntMulOk.of_left (intBits_le_64 h h')
theorem mulR {i j : Int} (h : -18446744073709551616 < j) (h' : j < 18446744073709551616) : IntMulOk i j := IntMulOk.of_right (intBits_le_64 h h')
/-- an expression, its reading, what it is as plain data -/
structure AE (X : Cx) (W : Wd) (e : Expr) (t : TE) (a : Ae) : Prop where
  pe : PE X e t
  se : SE X.K W t a
structure AT (X : Cx) (W : Wd) (e : Expr) (t : TT) (a : At) : Prop where
  pt : PT X e t
  st : ST X.K W t a
structure AW (X : Cx) (W : Wd) (e : Expr) (t : TT) (a : At) : Prop where
  pw : PW X e t
  st : ST X.K W t a
structure AA (X : Cx) (W : Wd) (es : List Expr) (t : TA) (a : Aa) : Prop where
  pa : PA X es t
  sa : SA X.K W t a
structure AO (X : Cx) (W : Wd) (f : Value → Value → Sem Value) (r : R2) (a : A2) : Prop where
  o : OpR X f r
  s : S2 X.K W r a
structure AU (X : Cx) (W : Wd) (f : Value → Sem Value) (r : V → Hp → VK → Prop) (a : A1) : Prop where
  o : UnR X f r
  s : S1 X.K W r a
/-- a built-in's call -/
structure AC (X : Cx) (W : Wd) (f : Value) (r : List V → Hp → VK → Prop) (a : Ac) : Prop where
  o : CallR X f r
  s : SC X.K W r a

section
variable {X : Cx} {W : Wd} {pos : Pos} {e e2 c o : Expr} {es rest : List Expr} {t t2 : TE} {a a2 : Ae} {tc tc2 : TT} {ac ac2 : At} {ts : TA} {as : Aa}
theorem ae_v (i : Nat) {x : Str} (hN : X.N[i]? = some x := by rfl) (hv : Vis X.env.scope x := by first | exact Or.inl rfl | exact Or.inr (Or.inl rfl) | exact Or.inr (Or.inr rfl)) (hd : (x == ("__debug__" : Str)) = false := by decide)
    (hcd : (x == ("__classdict__" : Str)) = false := by decide) : AE X W (.Name x pos) (tVar i) (aVar i) := ⟨pe_var hN hv hd hcd, se_var⟩
theorem ae_int {i : Int} {j} : AE X W (.Constant (.int i) j pos) (tC (.int i)) (aC (.int i)) := ⟨pe_int, se_c fun _ => .int i⟩
theorem ae_bl {i : Bool} {j} : AE X W (.Constant (.bool i) j pos) (tC (.bl i)) (aC (.bl i)) := ⟨pe_bl, se_c fun _ => .bl i⟩
theorem ae_str {i : Str} {j} : AE X W (.Constant (.str i) j pos) (tC (.str i)) (aC (.str i)) := ⟨pe_str, se_c fun _ => .str i⟩
theorem ae_non {j} : AE X W (.Constant .none j pos) (tC .non) (aC .non) := ⟨pe_non, se_c fun _ => .non⟩
/-- a name of the module's that holds plain data -/
theorem ae_glob {x : Str} {v : V} {u : Value} (d : D) (hr : ∀ I, Rep X.K I d v) (hg : Gl X x) (hm : X.mg x = some u) (r : RelV v u) (hd : (x == ("__debug__" : Str)) = false := by decide) : AE X W (.Name x pos) (tC v) (aC d) := ⟨pe_glob hg hm r hd, se_c hr⟩
theorem ae_op {op : Operator} {r : R2} {rA : A2} (ho : AO X W (binaryOp op) r rA) (h1 : AE X W e t a) (h2 : AE X W e2 t2 a2) : AE X W (.BinOp e op e2 pos) (tOp r t t2) (aOp rA a a2) := ⟨pe_op ho.o h1.pe h2.pe, se_op h1.se h2.se ho.s⟩
theorem ae_un {op : UnaryOp} {r : V → Hp → VK → Prop} {rA : A1} (ho : AU X W (unaryOp op) r rA) (h1 : AE X W e t a) : AE X W (.UnaryOp op e pos) (tUn r t) (aUn rA a) := ⟨pe_un ho.o h1.pe, se_un h1.se ho.s⟩
theorem ae_cmp {op : CmpOp} {r : R2} {rA : A2} (ho : AO X W (compareOp op) r rA) (h1 : AE X W e t a) (h2 : AE X W e2 t2 a2) (hm : behindInMarks op e2 = false) : AE X W (.Compare e [op] [e2] pos) (tOp r t t2) (aOp rA a a2) := ⟨pe_cmpR ho.o h1.pe h2.pe hm, se_op h1.se h2.se ho.s⟩
/-! operators of ints -/
theorem o_add : AO X W (binaryOp .Add) (rI0 (fun i j => .int (i + j))) (i2 (fun i j => .int (i + j))) := ⟨op_add, s2_i fun _ _ _ => .int _⟩
theorem o_sub : AO X W (binaryOp .Sub) (rI0 (fun i j => .int (i - j))) (i2 (fun i j => .int (i - j))) := ⟨op_sub, s2_i fun _ _ _ => .int _⟩
theorem op_mulA : OpR X (binaryOp .Mult) (rI IntMulOk fun i j => .int (i * j)) := opI fun _ _ _ _ _ _ _ hc q => mul_int q hc
theorem o_mul : AO X W (binaryOp .Mult) (rI IntMulOk (fun i j => .int (i * j))) (i2c IntMulOk (fun i j => .int (i * j))) := ⟨op_mulA, s2_ic fun _ _ _ => .int _⟩
theorem o_mulS : AO X W (binaryOp .Mult) (rI CMul (fun i j => .int (i * j))) (i2c CMul (fun i j => .int (i * j))) := ⟨op_mul, s2_ic fun _ _ _ => .int _⟩
theorem o_div : AO X W (binaryOp .FloorDiv) (rI CDivW (fun i j => .int (i / j))) (i2c CDivW (fun i j => .int (i / j))) := ⟨op_fdivW, s2_ic fun _ _ _ => .int _⟩
theorem o_mod : AO X W (binaryOp .Mod) (rI CPos (fun i j => .int (i % j))) (i2c CPos (fun i j => .int (i % j))) := ⟨op_mod, s2_ic fun _ _ _ => .int _⟩
theorem o_shl : AO X W (binaryOp .LShift) (rI CShl (fun i j => .int (i * 2 ^ j.toNat))) (i2c CShl (fun i j => .int (i * 2 ^ j.toNat))) := ⟨op_shlW, s2_ic fun _ _ _ => .int _⟩
theorem o_shr : AO X W (binaryOp .RShift) (rI CNn (fun i j => .int (i / 2 ^ j.toNat))) (i2c CNn (fun i j => .int (i / 2 ^ j.toNat))) := ⟨op_shr, s2_ic fun _ _ _ => .int _⟩
theorem o_pow : AO X W (binaryOp .Pow) (rI CPow (fun i j => .int (i ^ j.toNat))) (i2c CPow (fun i j => .int (i ^ j.toNat))) := ⟨op_pow, s2_ic fun _ _ _ => .int _⟩
theorem o_and : AO X W (binaryOp .BitAnd) (rI0 (fun i j => .int (Builtin.bitAnd i j))) (i2 (fun i j => .int (Builtin.bitAnd i j))) := ⟨op_and, s2_i fun _ _ _ => .int _⟩
theorem o_or : AO X W (binaryOp .BitOr) (rI0 (fun i j => .int (Builtin.bitOr i j))) (i2 (fun i j => .int (Builtin.bitOr i j))) := ⟨op_or, s2_i fun _ _ _ => .int _⟩
theorem o_xor : AO X W (binaryOp .BitXor) (rI0 (fun i j => .int (Builtin.bitXor i j))) (i2 (fun i j => .int (Builtin.bitXor i j))) := ⟨op_xor, s2_i fun _ _ _ => .int _⟩
theorem o_lt : AO X W (compareOp .Lt) (rI0 (fun i j => .bl (decide (i < j)))) (i2 (fun i j => .bl (decide (i < j)))) := ⟨op_lt, s2_i fun _ _ _ => .bl _⟩
theorem o_le : AO X W (compareOp .LtE) (rI0 (fun i j => .bl (decide (i ≤ j)))) (i2 (fun i j => .bl (decide (i ≤ j)))) := ⟨op_le, s2_i fun _ _ _ => .bl _⟩
theorem o_gt : AO X W (compareOp .Gt) (rI0 (fun i j => .bl (decide (j < i)))) (i2 (fun i j => .bl (decide (j < i)))) := ⟨op_gt, s2_i fun _ _ _ => .bl _⟩
theorem o_ge : AO X W (compareOp .GtE) (rI0 (fun i j => .bl (decide (j ≤ i)))) (i2 (fun i j => .bl (decide (j ≤ i)))) := ⟨op_ge, s2_i fun _ _ _ => .bl _⟩
theorem o_neg : AU X W (unaryOp .USub) (rU fun i => .int (-i)) (fun x M Q => match x with | .d (.int i) => Q (.d (.int (-i))) M | _ => False) := ⟨un_neg, by
  intro b M x v QA Q t ok r1 h k
  split at h
  · cases rep_int_inv (repA_d r1)
    exact ⟨_, rfl, k b M _ _ t ok (Step.refl _) (.d (.int _)) h⟩
  · exact h.elim⟩
end
end G

set_option Elab.async false
set_option linter.all false
set_option maxRecDepth 100000
namespace G
open PySem PySem.Spec PyProof.Rows L2

section
variable {K : PySem.W.Frag} {W : Wd}
/-! ### tests -/
def aTest (a : Ae) : At := fun E M Q => a E M fun x M1 => match x with
  | .d (.bl c) => Q c M1
  | _ => False
theorem aTest_inv {x : A} {M : Mem} {Q : Bool → Mem → Prop} (h : match x with | .d (.bl c) => Q c M | _ => False) : ∃ c, x = .d (.bl c) ∧ Q c M := by
  split at h
  · exact ⟨_, rfl, h⟩
  · exact h.elim
theorem st_test {t : TE} {a : Ae} (h : SE K W t a) : ST K W (tTest t) (aTest a) := by
  intro b M E σ QA Q t ok sl h1 k
  refine h b M E σ _ _ t ok sl h1 fun b1 M1 x v t1 ok1 s1 r1 h2 => ?_
  obtain ⟨c, rfl, h2⟩ := aTest_inv h2
  cases rep_bl_inv (repA_d r1)
  exact ⟨c, rfl, k b1 M1 c t1 ok1 s1 h2⟩
theorem st_B {t : TE} {a : Ae} (h : SE K W t a) : ST K W (tB t) (aTest a) := st_test h
def aAnd (a c : At) : At := fun E M Q => a E M fun x M1 => Fork x (c E M1 Q) (Q false M1)
def aOr (a c : At) : At := fun E M Q => a E M fun x M1 => Fork x (Q true M1) (c E M1 Q)
def aNot (a : At) : At := fun E M Q => a E M fun x M1 => Q (!x) M1
theorem st_and {t u : TT} {a c : At} (h : ST K W t a) (g : ST K W u c) : ST K W (tAnd t u) (aAnd a c) := by
  intro b M E σ QA Q t ok sl h1 k
  refine h b M E σ _ _ t ok sl h1 fun b1 M1 x t1 ok1 s1 h2 => ?_
  cases x with
  | true =>
    show u σ b1.H Q
    exact g b1 M1 E σ _ _ t1 ok1 (sl.mono s1.same s1.pre) (h2.t rfl) fun b2 M2 y t2 ok2 s2 h3 => k b2 M2 y t2 ok2 (s1.trans s2) h3
  | false => exact k b1 M1 false t1 ok1 s1 (h2.f rfl)
theorem st_or {t u : TT} {a c : At} (h : ST K W t a) (g : ST K W u c) : ST K W (tOr t u) (aOr a c) := by
  intro b M E σ QA Q t ok sl h1 k
  refine h b M E σ _ _ t ok sl h1 fun b1 M1 x t1 ok1 s1 h2 => ?_
  cases x with
  | false =>
    show u σ b1.H Q
    exact g b1 M1 E σ _ _ t1 ok1 (sl.mono s1.same s1.pre) (h2.f rfl) fun b2 M2 y t2 ok2 s2 h3 => k b2 M2 y t2 ok2 (s1.trans s2) h3
  | true => exact k b1 M1 true t1 ok1 s1 (h2.t rfl)
theorem st_not {t : TT} {a : At} (h : ST K W t a) : ST K W (tNot t) (aNot a) := by
  intro b M E σ QA Q t ok sl h1 k
  exact h b M E σ _ _ t ok sl h1 fun b1 M1 x t1 ok1 s1 h2 => k b1 M1 (!x) t1 ok1 s1 h2
/-! truth of ints, texts, lists, tuples -/
def truD : D → Option Bool
  | .non => some false
  | .bl c => some c
  | .int i => some (i != 0)
  | .lst l => some (!l.isEmpty)
  | .tup l => some (!l.isEmpty)
  | _ => none
def aTru (a : Ae) : At := fun E M Q => a E M fun x M1 => match x with
  | .d (.non) => Q false M1
  | .d (.bl c) => Q c M1
  | .d (.int i) => Q (i != 0) M1
  | .d (.str s) => Side (s.length ≤ sizeLine) (Q ((s.length : Int) != 0) M1)
  | .d (.lst l) => Q (!l.isEmpty) M1
  | .d (.tup l) => Q (!l.isEmpty) M1
  | .cell k => match M1[k]? with
    | some (.lst l) => Q (!l.isEmpty) M1
    | some (.lsa l) => Q (!l.isEmpty) M1
    | _ => False
  | _ => False
theorem repAs_empty {al : List Addr} {I : Hp} {l : List A} {vs : List V} (r : RepAs K al I l vs) : (!l.isEmpty) = !vs.isEmpty := by cases r <;> rfl
theorem reps_empty {I : Hp} {l : List D} {vs : List V} (r : Reps K I l vs) : (!l.isEmpty) = !vs.isEmpty := by cases r <;> rfl
theorem cell_addr {al : List Addr} {I : Hp} {k : Nat} {v : V} : RepA K al I (.cell k) v → ∃ a, al[k]? = some a ∧ v = .ref a
  | .cell h => ⟨_, h, rfl⟩
theorem st_tru {t : TE} {a : Ae} (h : SE K W t a) : ST K W (fun σ H Q => t σ H fun x H' => ∃ k, TruV K x H' k ∧ Q k H') (aTru a) := by
  intro b M E σ QA Q t ok sl h1 k
  refine h b M E σ _ _ t ok sl h1 fun b1 M1 x v t1 ok1 s1 r1 h2 => ?_
  split at h2
  · cases rep_non_inv (repA_d r1); exact ⟨false, rfl, k b1 M1 _ t1 ok1 s1 h2⟩
  · cases rep_bl_inv (repA_d r1); exact ⟨_, rfl, k b1 M1 _ t1 ok1 s1 h2⟩
  · cases rep_int_inv (repA_d r1); exact ⟨_, rfl, k b1 M1 _ t1 ok1 s1 h2⟩
  · cases rep_str_inv (repA_d r1); exact ⟨_, ⟨h2.s, rfl⟩, k b1 M1 _ t1 ok1 s1 h2.q⟩
  · cases repA_d r1 with
    | lst hp rs => exact ⟨_, .inl ⟨_, SqL.of (ok1.ih _ _ hp), reps_empty rs⟩, k b1 M1 _ t1 ok1 s1 h2⟩
  · cases repA_d r1 with
    | tup hp rs => exact ⟨_, .inr (.inl ⟨_, same_t ok1.ih hp, reps_empty rs⟩), k b1 M1 _ t1 ok1 s1 h2⟩
  · split at h2
    · obtain ⟨a, ha, rfl⟩ := cell_addr r1
      rename_i e
      obtain ⟨_, vs, hv, rs⟩ := ok1.at_ _ _ _ ha e
      exact ⟨_, .inl ⟨_, SqL.of hv, reps_empty rs⟩, k b1 M1 _ t1 ok1 s1 h2⟩
    · obtain ⟨a, ha, rfl⟩ := cell_addr r1
      rename_i e
      obtain ⟨_, vs, hv, rs⟩ := ok1.at_ _ _ _ ha e
      exact ⟨_, .inl ⟨_, SqL.of hv, repAs_empty rs⟩, k b1 M1 _ t1 ok1 s1 h2⟩
    · exact h2.elim
  · exact h2.elim
/-! ### values by tests -/
def aAndV (a c : Ae) : Ae := fun E M Q => a E M fun x M1 => match x with
  | .d (.bl y) => Fork y (c E M1 Q) (Q (.d (.bl false)) M1)
  | _ => False
def aOrV (a c : Ae) : Ae := fun E M Q => a E M fun x M1 => match x with
  | .d (.bl y) => Fork y (Q (.d (.bl true)) M1) (c E M1 Q)
  | _ => False
def aNotV (a : Ae) : Ae := fun E M Q => a E M fun x M1 => match x with
  | .d (.bl y) => Q (.d (.bl (!y))) M1
  | _ => False
def aIf (c : At) (a a2 : Ae) : Ae := fun E M Q => c E M fun x M1 => Fork x (a E M1 Q) (a2 E M1 Q)
theorem se_andV {t u : TE} {a c : Ae} (h : SE K W t a) (g : SE K W u c) : SE K W (tAndV t u) (aAndV a c) := by
  intro b M E σ QA Q t ok sl h1 k
  refine h b M E σ _ _ t ok sl h1 fun b1 M1 x v t1 ok1 s1 r1 h2 => ?_
  split at h2
  · cases rep_bl_inv (repA_d r1)
    rename_i y
    refine ⟨y, rfl, ?_⟩
    cases y with
    | true =>
      show u σ b1.H Q
      exact g b1 M1 E σ _ _ t1 ok1 (sl.mono s1.same s1.pre) (h2.t rfl) fun b2 M2 y w t2 ok2 s2 r2 h3 => k b2 M2 y w t2 ok2 (s1.trans s2) r2 h3
    | false => exact k b1 M1 _ _ t1 ok1 s1 (.d (.bl false)) (h2.f rfl)
  · exact h2.elim
theorem se_orV {t u : TE} {a c : Ae} (h : SE K W t a) (g : SE K W u c) : SE K W (tOrV t u) (aOrV a c) := by
  intro b M E σ QA Q t ok sl h1 k
  refine h b M E σ _ _ t ok sl h1 fun b1 M1 x v t1 ok1 s1 r1 h2 => ?_
  split at h2
  · cases rep_bl_inv (repA_d r1)
    rename_i y
    refine ⟨y, rfl, ?_⟩
    cases y with
    | false =>
      show u σ b1.H Q
      exact g b1 M1 E σ _ _ t1 ok1 (sl.mono s1.same s1.pre) (h2.f rfl) fun b2 M2 y w t2 ok2 s2 r2 h3 => k b2 M2 y w t2 ok2 (s1.trans s2) r2 h3
    | true => exact k b1 M1 _ _ t1 ok1 s1 (.d (.bl true)) (h2.t rfl)
  · exact h2.elim
theorem se_notV {t : TE} {a : Ae} (h : SE K W t a) : SE K W (tNotV t) (aNotV a) := by
  intro b M E σ QA Q t ok sl h1 k
  refine h b M E σ _ _ t ok sl h1 fun b1 M1 x v t1 ok1 s1 r1 h2 => ?_
  split at h2
  · cases rep_bl_inv (repA_d r1)
    exact ⟨_, rfl, k b1 M1 _ _ t1 ok1 s1 (.d (.bl _)) h2⟩
  · exact h2.elim
theorem se_if {tc : TT} {t u : TE} {c : At} {a a2 : Ae} (hc : ST K W tc c) (h : SE K W t a) (g : SE K W u a2) : SE K W (tIf tc t u) (aIf c a a2) := by
  intro b M E σ QA Q t ok sl h1 k
  refine hc b M E σ _ _ t ok sl h1 fun b1 M1 x t1 ok1 s1 h2 => ?_
  cases x with
  | true => exact h b1 M1 E σ _ _ t1 ok1 (sl.mono s1.same s1.pre) (h2.t rfl) fun b2 M2 y w t2 ok2 s2 r2 h3 => k b2 M2 y w t2 ok2 (s1.trans s2) r2 h3
  | false => exact g b1 M1 E σ _ _ t1 ok1 (sl.mono s1.same s1.pre) (h2.f rfl) fun b2 M2 y w t2 ok2 s2 r2 h3 => k b2 M2 y w t2 ok2 (s1.trans s2) r2 h3
/-- a < b < c -/
def aChain (r r' : A2) (a c d : Ae) : Ae := fun E M Q => a E M fun x M1 => c E M1 fun y M2 => r x y M2 fun z M3 => match z with
  | .d (.bl k) => Fork k (d E M3 fun w M4 => r' y w M4 Q) (Q (.d (.bl false)) M3)
  | _ => False
theorem se_chain {r r' : R2} {ta tb tc : TE} {a c d : Ae} {rA rA' : A2} (hr : S2 K W r rA) (hr' : S2 K W r' rA') (ha : SE K W ta a) (hb : SE K W tb c) (hc : SE K W tc d) : SE K W (tChain r r' ta tb tc) (aChain rA rA' a c d) := by
  intro b M E σ QA Q t ok sl h k
  refine ha b M E σ _ _ t ok sl h fun b1 M1 x v t1 ok1 s1 r1 h1 => ?_
  refine hb b1 M1 E σ _ _ t1 ok1 (sl.mono s1.same s1.pre) h1 fun b2 M2 y u t2 ok2 s2 r2 h2 => ?_
  refine hr b2 M2 x y v u _ _ t2 ok2 (r1.mono s2.same s2.pre) r2 h2 fun b3 M3 z w t3 ok3 s3 r3 h3 => ?_
  split at h3
  · cases rep_bl_inv (repA_d r3)
    rename_i kk
    refine ⟨kk, rfl, ?_⟩
    cases kk with
    | true =>
      have s13 := (s1.trans s2).trans s3
      exact hc b3 M3 E σ _ _ t3 ok3 (sl.mono s13.same s13.pre) (h3.t rfl) fun b4 M4 w' u' t4 ok4 s4 r4 h4 =>
        hr' b4 M4 y w' u u' _ _ t4 ok4 (r2.mono (s3.trans s4).same (s3.trans s4).pre) r4 h4 fun b5 M5 z5 w5 t5 ok5 s5 r5 h5 => k b5 M5 z5 w5 t5 ok5 ((s13.trans s4).trans s5) r5 h5
    | false => exact k b3 M3 _ _ t3 ok3 ((s1.trans s2).trans s3) (.d (.bl false)) (h3.f rfl)
  · exact h3.elim
/-! ### argument lists, displays -/
def aNil : Aa := fun _ M Q => Q [] M
def aCons (a : Ae) (r : Aa) : Aa := fun E M Q => a E M fun x M1 => r E M1 fun xs M2 => Q (x :: xs) M2
theorem sa_nil : SA K W tNil aNil := fun b M E σ QA Q t ok sl h k => k b M _ _ t ok (Step.refl _) .nil h
theorem sa_cons {t : TE} {u : TA} {a : Ae} {r : Aa} (h : SE K W t a) (g : SA K W u r) : SA K W (tCons t u) (aCons a r) := by
  intro b M E σ QA Q t ok sl h1 k
  refine h b M E σ _ _ t ok sl h1 fun b1 M1 x v t1 ok1 s1 r1 h2 => ?_
  refine g b1 M1 E σ _ _ t1 ok1 (sl.mono s1.same s1.pre) h2 fun b2 M2 xs vs t2 ok2 s2 r2 h3 => ?_
  exact k b2 M2 _ _ t2 ok2 (s1.trans s2) (.cons (r1.mono s2.same s2.pre) r2) h3
def allD : List A → Option (List D)
  | [] => some []
  | .d x :: r => match allD r with
    | some l => some (x :: l)
    | none => none
  | .cell _ :: _ => none
theorem allD_reps {al : List Addr} {I : Hp} : ∀ {xs : List A} {ds : List D} {vs : List V}, allD xs = some ds → RepAs K al I xs vs → Reps K I ds vs
  | [], ds, vs, e, r => by cases e; cases r; exact .nil
  | .d x :: xs, ds, vs, e, r => by
    unfold allD at e
    split at e
    · rename_i l el
      cases e
      cases r with
      | cons r1 r2 => exact .cons (repA_d r1) (allD_reps el r2)
    · cases e
  | .cell k :: xs, ds, vs, e, r => by cases e
theorem line4096 {n : Nat} (h : n ≤ 4096) : n ≤ sizeLine := Nat.le_trans h (by decide)
/-! ### a new cell -/
theorem Ok.cell {b : Wd} {M : Mem} (o : Ok K b M) {p : Addr} {u : HO} {c : Cell} (h : b.H p = none) (hc : HasC K (b.al ++ [p]) b.I (upd b.H p u) p c) : Ok K ⟨b.I, b.al ++ [p], upd b.H p u⟩ (M ++ [c]) where
  ih := fun a w (e : b.I a = some w) => show upd b.H p u a = some w by
    have z := o.ih a w e
    rw [upd_ne (ne_of_none z h)]; exact z
  len := by show (b.al ++ [p]).length = _; rw [List.length_append, List.length_append, o.len] <;> rfl
  nd := by
    show (b.al ++ [p]).Nodup
    rw [List.nodup_append]
    exact ⟨o.nd, by simp, fun a ha c hc z => by simp at hc; subst hc; subst z; exact o.nin h ha⟩
  dom := fun k a (e : (b.al ++ [p])[k]? = some a) (z : upd b.H p u a = none) => by
    by_cases y : a = p
    · subst y; rw [upd_same] at z; cases z
    · rw [upd_ne y] at z
      by_cases hk : k < b.al.length
      · rw [List.getElem?_append_left hk] at e; exact o.dom k a e z
      · rw [List.getElem?_append_right (by omega)] at e
        have : a ∈ [p] := List.mem_of_getElem? e
        simp at this; exact y this
  at_ := fun k a c' (e1 : (b.al ++ [p])[k]? = some a) e2 => show HasC K (b.al ++ [p]) b.I (upd b.H p u) a c' by
    by_cases hk : k < b.al.length
    · rw [List.getElem?_append_left hk] at e1
      rw [List.getElem?_append_left (by rw [← o.len]; exact hk)] at e2
      have ne : a ≠ p := fun z => o.nin h (z ▸ List.mem_of_getElem? e1)
      have q := o.at_ k a c' e1 e2
      cases c' with
      | gone => trivial
      | lst _ => exact q.mono (Same.refl _) (Pre.snoc _ _) q.1 (by rw [upd_ne ne])
      | obj _ _ => exact q.mono (Same.refl _) (Pre.snoc _ _) q.1 (by rw [upd_ne ne])
      | dic _ => exact q.mono (Same.refl _) (Pre.snoc _ _) q.1 (by rw [upd_ne ne])
      | did _ => exact q.mono (Same.refl _) (Pre.snoc _ _) q.1 (by rw [upd_ne ne])
      | lsa _ => exact q.mono (Same.refl _) (Pre.snoc _ _) q.1 (by rw [upd_ne ne])
      | tpa _ => exact q.mono (Same.refl _) (Pre.snoc _ _) q.1 (by rw [upd_ne ne])
    · have hlen := o.len
      rw [List.getElem?_append_right (by omega)] at e1 e2
      have hk1 : k - b.al.length = 0 := by
        have := (List.getElem?_eq_some_iff.mp e1).1
        simp at this; omega
      have hk2 : k - M.length = 0 := by omega
      rw [hk1] at e1; rw [hk2] at e2
      simp at e1 e2
      subst e1; subst e2
      exact hc
theorem To.cell {a b : Wd} {M : Mem} (t : To a b) (o : Ok K b M) {p : Addr} {u : HO} (h : b.H p = none) : To a ⟨b.I, b.al ++ [p], upd b.H p u⟩ where
  same := t.same
  fr := fun x w e n => by
    have z := t.fr x w e n
    show upd b.H p u x = some w
    rw [upd_ne (ne_of_none z h)]; exact z
  fresh := t.fresh
  dom := fun x (e : upd b.H p u x = none) => by
    by_cases z : x = p
    · subst z; rw [upd_same] at e; cases e
    · rw [upd_ne z] at e; exact t.dom x e
  pre := t.pre.trans (Pre.snoc _ _)
  new := fun x (e : x ∈ b.al ++ [p]) => by
    rcases List.mem_append.mp e with e | e
    · exact t.new x e
    · simp at e; subst e; exact .inr (t.dom x h)
theorem step_cell {b : Wd} {M : Mem} (ok : Ok K b M) {p : Addr} {u : HO} (h : b.H p = none) : Step b ⟨b.I, b.al ++ [p], upd b.H p u⟩ := (To.refl b).cell ok h
theorem len_get {al : List Addr} {p : Addr} : (al ++ [p])[al.length]? = some p := by simp
theorem new_cell {b : Wd} {M : Mem} {ds : List D} {vs : List V} {Q : VK} {QA : A → Mem → Prop} (t : To W b) (ok : Ok K b M) (r : Reps K b.I ds vs) (q : QA (.cell M.length) (M ++ [.lst ds]))
    (k : ∀ b' M' z w, To W b' → Ok K b' M' → Step b b' → RepA K b'.al b'.I z w → QA z M' → Q w b'.H) : ∀ p, b.H p = none → Q (.ref p) (upd b.H p (.lst vs)) := fun p hp =>
  k ⟨b.I, b.al ++ [p], upd b.H p (.lst vs)⟩ _ (.cell M.length) (.ref p) (t.cell ok hp) (ok.cell (c := .lst ds) hp ⟨ok.iNone hp, vs, upd_same, r⟩) (step_cell ok hp) (.cell (by rw [← ok.len]; exact len_get)) q
/-- any new cell -/
theorem new_cellC {b : Wd} {M : Mem} {c : Cell} {o : HO} {Q : VK} {QA : A → Mem → Prop} (t : To W b) (ok : Ok K b M) (r : ∀ p, b.H p = none → HasC K (b.al ++ [p]) b.I (upd b.H p o) p c) (q : QA (.cell M.length) (M ++ [c]))
    (k : ∀ b' M' z w, To W b' → Ok K b' M' → Step b b' → RepA K b'.al b'.I z w → QA z M' → Q w b'.H) : ∀ p, b.H p = none → Q (.ref p) (upd b.H p o) := fun p hp =>
  k ⟨b.I, b.al ++ [p], upd b.H p o⟩ _ (.cell M.length) (.ref p) (t.cell ok hp) (ok.cell (c := c) hp (r p hp)) (step_cell ok hp) (.cell (by rw [← ok.len]; exact len_get)) q
/-- a new list of plain data and cells -/
def mkA (c : Bool) (xs : List A) (M : Mem) (Q : A → Mem → Prop) : Prop := match allD xs with
  | some ds => (match c with
    | true => Q (.cell M.length) (M ++ [.lst ds])
    | false => Q (.d (.lst ds)) M)
  | none => Q (.cell M.length) (M ++ [.lsa xs])
theorem new_A {cel : Bool} {b : Wd} {M : Mem} {xs : List A} {vs : List V} {Q : VK} {QA : A → Mem → Prop} (t : To W b) (ok : Ok K b M) (r : RepAs K b.al b.I xs vs) (q : mkA cel xs M QA)
    (k : ∀ b' M' z w, To W b' → Ok K b' M' → Step b b' → RepA K b'.al b'.I z w → QA z M' → Q w b'.H) : ∀ p, b.H p = none → Q (.ref p) (upd b.H p (.lst vs)) := by
  unfold mkA at q
  split at q
  · rename_i ds e
    cases cel with
    | true => exact new_cell t ok (allD_reps e r) q k
    | false => exact new_d t ok (fun p hp => .lst upd_same ((allD_reps e r).mono (same_new (ok.iNone hp)))) q k
  · exact new_cellC t ok (c := .lsa xs) (fun p hp => ⟨ok.iNone hp, vs, upd_same, r.mono (Same.refl _) (Pre.snoc _ _)⟩) q k
def aTup (as : Aa) : Ae := fun E M Q => as E M fun xs M1 => match Nat.ble xs.length 4096 with
  | true => (match allD xs with
    | some ds => Q (.d (.tup ds)) M1
    | none => Q (.cell M1.length) (M1 ++ [.tpa xs]))
  | false => False
def aLsC (c : Bool) (as : Aa) : Ae := fun E M Q => as E M fun xs M1 => match Nat.ble xs.length 4096 with
  | true => mkA c xs M1 Q
  | false => False
def aLst (as : Aa) : Ae := aLsC false as
def aCell (as : Aa) : Ae := aLsC true as
theorem ble_inv {xs : List A} {p : Prop} (h : match Nat.ble xs.length 4096 with | true => p | false => False) : xs.length ≤ 4096 ∧ p := by
  cases e : Nat.ble xs.length 4096 with
  | true => rw [e] at h; exact ⟨Nat.le_of_ble_eq_true e, h⟩
  | false => rw [e] at h; exact h.elim
theorem se_tup {t : TA} {as : Aa} (h : SA K W t as) : SE K W (tTup t) (aTup as) := by
  intro b M E σ QA Q t ok sl h1 k
  refine h b M E σ _ _ t ok sl h1 fun b1 M1 xs vs t1 ok1 s1 r1 h2 => ?_
  obtain ⟨hl, h2⟩ := ble_inv h2
  refine ⟨by rw [← r1.length]; exact line4096 hl, ?_⟩
  split at h2
  · rename_i ds hd
    refine new_d t1 ok1 (fun p hp => .tup (SqT.of upd_same) ((allD_reps hd r1).mono (same_new (ok1.iNone hp)))) h2 fun b2 M2 z w t2 ok2 s2 r2 h3 => ?_
    exact k b2 M2 z w t2 ok2 (s1.trans s2) r2 h3
  · refine new_cellC t1 ok1 (c := .tpa xs) (fun p hp => ⟨ok1.iNone hp, vs, upd_same, r1.mono (Same.refl _) (Pre.snoc _ _)⟩) h2 fun b2 M2 z w t2 ok2 s2 r2 h3 => ?_
    exact k b2 M2 z w t2 ok2 (s1.trans s2) r2 h3
theorem se_lsC {c : Bool} {t : TA} {as : Aa} (h : SA K W t as) : SE K W (tLst t) (aLsC c as) := by
  intro b M E σ QA Q t ok sl h1 k
  refine h b M E σ _ _ t ok sl h1 fun b1 M1 xs vs t1 ok1 s1 r1 h2 => ?_
  obtain ⟨hl, h2⟩ := ble_inv h2
  refine ⟨by rw [← r1.length]; exact line4096 hl, ?_⟩
  exact new_A t1 ok1 r1 h2 fun b2 M2 z w t2 ok2 s2 r2 h3 => k b2 M2 z w t2 ok2 (s1.trans s2) r2 h3
theorem se_lst {t : TA} {as : Aa} (h : SA K W t as) : SE K W (tLst t) (aLst as) := se_lsC h
theorem se_cell {t : TA} {as : Aa} (h : SA K W t as) : SE K W (tLst t) (aCell as) := se_lsC h
/-- the items of a list, a tuple that holds cells -/
def lsaOf (x : A) (M : Mem) : Option (List A) := match x with
  | .cell k => match M[k]? with
    | some (.lsa l) => some l
    | _ => none
  | _ => none
def tpaOf (x : A) (M : Mem) : Option (List A) := match x with
  | .cell k => match M[k]? with
    | some (.tpa l) => some l
    | _ => none
  | _ => none
theorem lsaOf_ok {b : Wd} {M : Mem} {x : A} {v : V} {l : List A} (ok : Ok K b M) (r : RepA K b.al b.I x v) (h : lsaOf x M = some l) : ∃ k p vs, x = .cell k ∧ M[k]? = some (.lsa l) ∧ v = .ref p ∧ b.al[k]? = some p ∧ b.I p = none ∧ b.H p = some (.lst vs) ∧ RepAs K b.al b.I l vs := by
  unfold lsaOf at h
  split at h
  · split at h
    · rename_i e
      cases h
      obtain ⟨p, ha, rfl⟩ := cell_addr r
      obtain ⟨hn, vs, hv, rs⟩ := ok.at_ _ _ _ ha e
      exact ⟨_, p, vs, rfl, e, rfl, ha, hn, hv, rs⟩
    · cases h
  · cases h
theorem tpaOf_ok {b : Wd} {M : Mem} {x : A} {v : V} {l : List A} (ok : Ok K b M) (r : RepA K b.al b.I x v) (h : tpaOf x M = some l) : ∃ k p vs, x = .cell k ∧ M[k]? = some (.tpa l) ∧ v = .ref p ∧ b.al[k]? = some p ∧ b.I p = none ∧ b.H p = some (.tup vs) ∧ RepAs K b.al b.I l vs := by
  unfold tpaOf at h
  split at h
  · split at h
    · rename_i e
      cases h
      obtain ⟨p, ha, rfl⟩ := cell_addr r
      obtain ⟨hn, vs, hv, rs⟩ := ok.at_ _ _ _ ha e
      exact ⟨_, p, vs, rfl, e, rfl, ha, hn, hv, rs⟩
    · cases h
  · cases h
end
section
variable {X : Cx} {W : Wd} {pos : Pos} {e e2 e3 c o : Expr} {es rest : List Expr} {t t2 t3 : TE} {a a2 a3 : Ae} {tc tc2 : TT} {ac ac2 : At} {ts : TA} {as : Aa}
theorem at_cmp {op : CmpOp} {r : R2} {rA : A2} (ho : AO X W (compareOp op) r rA) (h1 : AE X W e t a) (h2 : AE X W e2 t2 a2) (hm : behindInMarks op e2 = false) : AT X W (.Compare e [op] [e2] pos) (tTest (tOp r t t2)) (aTest (aOp rA a a2)) :=
  ⟨pt_cmpR ho.o h1.pe h2.pe hm, st_test (se_op h1.se h2.se ho.s)⟩
theorem at_val (h : AE X W e t a) (he : ∀ whole, isTrue e X.env whole = (do let v ← whole; standAt e.pos; holding [v] (truthy v)) := by intro _; rfl) : AT X W e (tB t) (aTest a) := ⟨pt_val h.pe he, st_B h.se⟩
theorem at_tru (h : AE X W e t a) (he : ∀ whole, isTrue e X.env whole = (do let v ← whole; standAt e.pos; holding [v] (truthy v)) := by intro _; rfl) : AT X W e (fun σ H Q => t σ H fun x H' => ∃ k, TruV X.K x H' k ∧ Q k H') (aTru a) := ⟨pt_truth h.pe he, st_tru h.se⟩
theorem aw_and1 (h : AT X W e tc ac) : AW X W (.BoolOp .And [e] pos) tc ac := ⟨pw_and1 h.pt, h.st⟩
theorem aw_or1 (h : AT X W e tc ac) : AW X W (.BoolOp .Or [e] pos) tc ac := ⟨pw_or1 h.pt, h.st⟩
theorem aw_and (h : AT X W e tc ac) (g : AW X W (.BoolOp .And (e2 :: rest) pos) tc2 ac2) : AW X W (.BoolOp .And (e :: e2 :: rest) pos) (tAnd tc tc2) (aAnd ac ac2) := ⟨pw_and h.pt g.pw, st_and h.st g.st⟩
theorem aw_or (h : AT X W e tc ac) (g : AW X W (.BoolOp .Or (e2 :: rest) pos) tc2 ac2) : AW X W (.BoolOp .Or (e :: e2 :: rest) pos) (tOr tc tc2) (aOr ac ac2) := ⟨pw_or h.pt g.pw, st_or h.st g.st⟩
theorem at_w (h : AW X W e tc ac) : AT X W e tc ac := ⟨h.pw.pt, h.st⟩
theorem at_not (h : AT X W e tc ac) : AT X W (.UnaryOp .Not e pos) (tNot tc) (aNot ac) := ⟨pt_not h.pt, st_not h.st⟩
theorem ae_one {op} (h : AE X W e t a) : AE X W (.BoolOp op [e] pos) t a := ⟨pe_one h.pe, h.se⟩
theorem ae_and (h : AE X W e t a) (g : AE X W (.BoolOp .And (e2 :: rest) pos) t2 a2) : AE X W (.BoolOp .And (e :: e2 :: rest) pos) (tAndV t t2) (aAndV a a2) := ⟨pe_and h.pe g.pe, se_andV h.se g.se⟩
theorem ae_or (h : AE X W e t a) (g : AE X W (.BoolOp .Or (e2 :: rest) pos) t2 a2) : AE X W (.BoolOp .Or (e :: e2 :: rest) pos) (tOrV t t2) (aOrV a a2) := ⟨pe_or h.pe g.pe, se_orV h.se g.se⟩
theorem ae_not (h : AE X W e t a) : AE X W (.UnaryOp .Not e pos) (tNotV t) (aNotV a) := ⟨pe_not h.pe, se_notV h.se⟩
theorem ae_if (hc : AT X W c tc ac) (h : AE X W e t a) (g : AE X W e2 t2 a2) : AE X W (.IfExp c e e2 pos) (tIf tc t t2) (aIf ac a a2) := ⟨pe_ifExp hc.pt h.pe g.pe, se_if hc.st h.se g.se⟩
theorem ae_chain {op op' : CmpOp} {r r' : R2} {rA rA' : A2} (ho : AO X W (compareOp op) r rA) (ho' : AO X W (compareOp op') r' rA') (h : AE X W e t a) (h2 : AE X W e2 t2 a2) (h3 : AE X W e3 t3 a3) (hm : lastMarks [op, op'] [e2, e3] = false := by rfl) :
    AE X W (.Compare e [op, op'] [e2, e3] pos) (tChain r r' t t2 t3) (aChain rA rA' a a2 a3) := ⟨pe_chain ho.o ho'.o h.pe h2.pe h3.pe hm, se_chain ho.s ho'.s h.se h2.se h3.se⟩
theorem at_chain {op op' : CmpOp} {r r' : R2} {rA rA' : A2} (ho : AO X W (compareOp op) r rA) (ho' : AO X W (compareOp op') r' rA') (h : AE X W e t a) (h2 : AE X W e2 t2 a2) (h3 : AE X W e3 t3 a3) (hm : lastMarks [op, op'] [e2, e3] = false := by rfl) :
    AT X W (.Compare e [op, op'] [e2, e3] pos) (tTest (tChain r r' t t2 t3)) (aTest (aChain rA rA' a a2 a3)) := ⟨pt_chain ho.o ho'.o h.pe h2.pe h3.pe hm, st_test (se_chain ho.s ho'.s h.se h2.se h3.se)⟩
theorem aa_nil : AA X W [] tNil aNil := ⟨pa_nil, sa_nil⟩
theorem aa_cons (h : AE X W e t a) (g : AA X W es ts as) (hs : starEach (e :: es) X.env = (false, eval e X.env) :: starEach es X.env := by rfl) : AA X W (e :: es) (tCons t ts) (aCons a as) := ⟨pa_cons h.pe g.pa hs, sa_cons h.se g.sa⟩
theorem ae_tup {x1} (h : AA X W es ts as) : AE X W (.Tuple es x1 pos) (tTup ts) (aTup as) := ⟨pe_tup h.pa, se_tup h.sa⟩
theorem ae_lst {x1} (h : AA X W es ts as) : AE X W (.List es x1) (tLst ts) (aLst as) := ⟨pe_lst h.pa, se_lst h.sa⟩
theorem ae_cell {x1} (h : AA X W es ts as) : AE X W (.List es x1) (tLst ts) (aCell as) := ⟨pe_lst h.pa, se_cell h.sa⟩
end
end G

set_option Elab.async false
set_option linter.all false
set_option maxRecDepth 100000
namespace G
open PySem PySem.Spec PyProof.Rows L2

/-- a list written out -/
def fL {α : Type} : List α → (List α → Prop) → Prop
  | [], k => k []
  | x :: r, k => fL r fun r' => k (x :: r')
theorem fL_eq {α : Type} : ∀ {l : List α} {k : List α → Prop}, fL l k ↔ k l
  | [], k => Iff.rfl
  | x :: r, k => by unfold fL; exact fL_eq (l := r)
/-! numbers, cells written out -/
def nN : Nat → (Nat → Prop) → Prop
  | 0, k => k 0
  | 1, k => k 1
  | 2, k => k 2
  | 3, k => k 3
  | 4, k => k 4
  | 5, k => k 5
  | 6, k => k 6
  | 7, k => k 7
  | 8, k => k 8
  | 9, k => k 9
  | 10, k => k 10
  | 11, k => k 11
  | 12, k => k 12
  | 13, k => k 13
  | 14, k => k 14
  | 15, k => k 15
  | 16, k => k 16
  | 17, k => k 17
  | 18, k => k 18
  | 19, k => k 19
  | 20, k => k 20
  | 21, k => k 21
  | 22, k => k 22
  | 23, k => k 23
  | 24, k => k 24
  | 25, k => k 25
  | 26, k => k 26
  | 27, k => k 27
  | 28, k => k 28
  | 29, k => k 29
  | 30, k => k 30
  | 31, k => k 31
  | 32, k => k 32
  | 33, k => k 33
  | 34, k => k 34
  | 35, k => k 35
  | 36, k => k 36
  | 37, k => k 37
  | 38, k => k 38
  | 39, k => k 39
  | 40, k => k 40
  | 41, k => k 41
  | 42, k => k 42
  | 43, k => k 43
  | 44, k => k 44
  | 45, k => k 45
  | 46, k => k 46
  | 47, k => k 47
  | n + 48, k => k (n + 48)
theorem nN_eq {n : Nat} {k : Nat → Prop} : nN n k ↔ k n := by
  unfold nN
  split <;> exact Iff.rfl
def nA : A → (A → Prop) → Prop
  | .d x, k => k (.d x)
  | .cell j, k => nN j fun i => k (.cell i)
theorem nA_eq {x : A} {k : A → Prop} : nA x k ↔ k x := by
  cases x with
  | d x => exact Iff.rfl
  | cell j => exact nN_eq
def nL {α : Type} (f : α → (α → Prop) → Prop) : List α → (List α → Prop) → Prop
  | [], k => k []
  | x :: r, k => f x fun y => nL f r fun s => k (y :: s)
theorem nL_eq {α : Type} {f : α → (α → Prop) → Prop} (hf : ∀ x k, f x k ↔ k x) : ∀ {l : List α} {k : List α → Prop}, nL f l k ↔ k l
  | [], k => Iff.rfl
  | x :: r, k => by
    unfold nL
    rw [hf]
    exact nL_eq hf
def nP {β : Type} : β × A → (β × A → Prop) → Prop
  | (x, a), k => nA a fun b => k (x, b)
theorem nP_eq {β : Type} (p : β × A) (k : β × A → Prop) : nP p k ↔ k p := nA_eq
def nC : Cell → (Cell → Prop) → Prop
  | .lst l, k => k (.lst l)
  | .obj C fs, k => nL nP fs fun r => k (.obj C r)
  | .dic kvs, k => nL nP kvs fun r => k (.dic r)
  | .did kvs, k => k (.did kvs)
  | .lsa xs, k => nL nA xs fun r => k (.lsa r)
  | .tpa xs, k => nL nA xs fun r => k (.tpa r)
  | .gone, k => k .gone
theorem nC_eq (c : Cell) (k : Cell → Prop) : nC c k ↔ k c := by
  cases c with
  | lst l => exact Iff.rfl
  | obj C fs => exact nL_eq nP_eq
  | dic kvs => exact nL_eq nP_eq
  | did kvs => exact Iff.rfl
  | lsa xs => exact nL_eq fun _ _ => nA_eq
  | tpa xs => exact nL_eq fun _ _ => nA_eq
  | gone => exact Iff.rfl
def nM : Mem → (Mem → Prop) → Prop := nL nC
theorem nM_eq {M : Mem} {k : Mem → Prop} : nM M k ↔ k M := nL_eq nC_eq
/-! ### ends of statements -/
structure AEnds where
  nx : Env → Mem → Prop
  rt : A → Mem → Prop
  bk : Env → Mem → Prop := fun _ _ => False
  ct : Env → Mem → Prop := fun _ _ => False
abbrev As := AEnds → Env → Mem → Prop
abbrev Ag := A → Env → Mem → (Env → Mem → Prop) → Prop
abbrev Ags := List A → Env → Mem → (Env → Mem → Prop) → Prop
section
variable (K : PySem.W.Frag) (W : Wd)
structure EndsOk (I0 : Hp) (DA : AEnds) (Dd : Ends) : Prop where
  nx : ∀ (b : Wd) (M : Mem) (E : Env) (σ : L2.St), Same I0 b.I → To W b → Ok K b M → Slots K b.al b.I E σ → DA.nx E M → Dd.nx σ b.H
  rt : ∀ (b : Wd) (M : Mem) (x : A) (v : V), Same I0 b.I → To W b → Ok K b M → RepA K b.al b.I x v → DA.rt x M → Dd.rt v b.H
  bk : ∀ (b : Wd) (M : Mem) (E : Env) (σ : L2.St), Same I0 b.I → To W b → Ok K b M → Slots K b.al b.I E σ → DA.bk E M → Dd.bk σ b.H
  ct : ∀ (b : Wd) (M : Mem) (E : Env) (σ : L2.St), Same I0 b.I → To W b → Ok K b M → Slots K b.al b.I E σ → DA.ct E M → Dd.ct σ b.H
def SS (t : TS) (a : As) : Prop := ∀ (b : Wd) (M : Mem) (E : Env) (σ : L2.St) (DA : AEnds) (Dd : Ends), To W b → Ok K b M → Slots K b.al b.I E σ → a DA E M → EndsOk K W b.I DA Dd → t Dd σ b.H
/-- the slots at js alone have changed -/
def Tch (js : List Nat) (σ σ' : L2.St) : Prop := ∀ vs : List Nat, (∀ j ∈ js, j ∈ vs) → wipe σ' vs = wipe σ vs
/-- a target; js: the slots that it stores to -/
def SG (js : List Nat) (g : TG) (ag : Ag) : Prop := ∀ (b : Wd) (M : Mem) (E : Env) (σ : L2.St) (x : A) (v : V) (QA : Env → Mem → Prop) (Q : L2.St → Hp → Prop), To W b → Ok K b M → Slots K b.al b.I E σ → RepA K b.al b.I x v → ag x E M QA →
  (∀ b' M' E' σ', To W b' → Ok K b' M' → Step b b' → Slots K b'.al b'.I E' σ' → Tch js σ σ' → QA E' M' → Q σ' b'.H) → g v σ b.H Q
def SGs (js : List Nat) (g : TGs) (ag : Ags) : Prop := ∀ (b : Wd) (M : Mem) (E : Env) (σ : L2.St) (xs : List A) (vs : List V) (QA : Env → Mem → Prop) (Q : L2.St → Hp → Prop), To W b → Ok K b M → Slots K b.al b.I E σ → RepAs K b.al b.I xs vs → ag xs E M QA →
  (∀ b' M' E' σ', To W b' → Ok K b' M' → Step b b' → Slots K b'.al b'.I E' σ' → Tch js σ σ' → QA E' M' → Q σ' b'.H) → g vs σ b.H Q
end
section
variable {K : PySem.W.Frag} {W : Wd}
theorem Tch.nil (σ : L2.St) : Tch [] σ σ := fun _ _ => rfl
theorem Tch.trans {js ks : List Nat} {σ τ υ : L2.St} (h : Tch js σ τ) (g : Tch ks τ υ) : Tch (js ++ ks) σ υ := fun vs hv =>
  (g vs fun j hj => hv j (List.mem_append_right _ hj)).trans (h vs fun j hj => hv j (List.mem_append_left _ hj))
theorem set_none_comm {σ : L2.St} {i j : Nat} {x : Option V} : (σ.set i x).set j none = if i = j then σ.set j none else (σ.set j none).set i x := by
  split
  · rename_i e; subst e; rw [List.set_set]
  · rename_i e; rw [List.set_comm _ _ e]
theorem wipe_set_in {i : Nat} {x : Option V} {σ : L2.St} : ∀ {vs : List Nat}, i ∈ vs → wipe (σ.set i x) vs = wipe σ vs
  | [], h => by cases h
  | v :: vs, h => by
    have out : ∀ (vs : List Nat), wipe (σ.set i x) vs = wipe σ vs ∨ wipe (σ.set i x) vs = (wipe σ vs).set i x := by
      intro vs
      induction vs with
      | nil => exact .inr rfl
      | cons w ws ih =>
        unfold wipe
        rcases ih with e | e
        · rw [e]; exact .inl rfl
        · rw [e, set_none_comm]
          split
          · exact .inl rfl
          · exact .inr rfl
    unfold wipe
    rcases List.mem_cons.mp h with e | e
    · subst e
      rcases out vs with e | e
      · rw [e]
      · rw [e, List.set_set]
    · rw [wipe_set_in e]
def aName (i : Nat) : Ag := fun x E M Q => Q (E.set i (some x)) M
theorem sg_name {i : Nat} : SG K W [i] (gName i) (aName i) := fun b M E σ x v QA Q t ok sl r h k => k b M _ _ t ok (Step.refl _) (sl.set r) (fun vs hv => wipe_set_in (hv i List.mem_cons_self)) h
def agNil : Ags := fun xs E M Q => match xs with
  | [] => Q E M
  | _ => False
def agCons (g : Ag) (r : Ags) : Ags := fun xs E M Q => match xs with
  | x :: l => g x E M fun E1 M1 => r l E1 M1 Q
  | [] => False
theorem sgs_nil : SGs K W [] gNil agNil := by
  intro b M E σ xs vs QA Q t ok sl r h k
  cases r with
  | nil => exact ⟨rfl, k b M E σ t ok (Step.refl _) sl (Tch.nil σ) h⟩
  | cons _ _ => exact h.elim
theorem sgs_cons {js ks : List Nat} {g : TG} {gs : TGs} {ag : Ag} {ags : Ags} (h : SG K W js g ag) (hs : SGs K W ks gs ags) : SGs K W (js ++ ks) (gCons g gs) (agCons ag ags) := by
  intro b M E σ xs vs QA Q t ok sl r h1 k
  cases r with
  | nil => exact h1.elim
  | cons r1 r2 =>
    refine ⟨_, _, rfl, h b M E σ _ _ _ _ t ok sl r1 h1 fun b1 M1 E1 σ1 t1 ok1 s1 sl1 w1 h2 => ?_⟩
    exact hs b1 M1 E1 σ1 _ _ _ _ t1 ok1 sl1 (r2.mono s1.same s1.pre) h2 fun b2 M2 E2 σ2 t2 ok2 s2 sl2 w2 h3 => k b2 M2 E2 σ2 t2 ok2 (s1.trans s2) sl2 (w1.trans w2) h3
theorem repsA {al : List Addr} {I : Hp} : ∀ {xs : List D} {vs : List V}, Reps K I xs vs → RepAs K al I (xs.map A.d) vs
  | _, _, .nil => .nil
  | _, _, .cons r t => .cons (.d r) (repsA t)
def aGtup (n : Nat) (g : Ags) : Ag := fun x E M Q => match x with
  | .d (.tup l) => Side (l.length = n) (g (l.map A.d) E M Q)
  | .cell k => match M[k]? with
    | some (.tpa l) => Side (l.length = n) (g l E M Q)
    | _ => False
  | _ => False
theorem sg_tup {js : List Nat} {n : Nat} {g : TGs} {ag : Ags} (h : SGs K W js g ag) : SG K W js (gTup K n g) (aGtup n ag) := by
  intro b M E σ x v QA Q t ok sl r h1 k
  unfold aGtup at h1
  split at h1
  · cases repA_d r with
    | tup hp rs => exact ⟨_, _, rfl, same_t ok.ih hp, by rw [← rs.length]; exact h1.s, h b M E σ _ _ _ _ t ok sl (repsA rs) h1.q k⟩
  · split at h1
    · rename_i e
      obtain ⟨a, ha, rfl⟩ := cell_addr r
      obtain ⟨_, vs, hv, rs⟩ := ok.at_ _ _ _ ha e
      exact ⟨_, _, rfl, SqT.of hv, by rw [← rs.length]; exact h1.s, h b M E σ _ _ _ _ t ok sl rs h1.q k⟩
    · exact h1.elim
  · exact h1.elim
/-! ### statements -/
theorem EndsOk.mono {I I2 : Hp} {DA : AEnds} {Dd : Ends} (s : Same I I2) (e : EndsOk K W I DA Dd) : EndsOk K W I2 DA Dd :=
  ⟨fun b M E σ h => e.nx b M E σ (s.trans h), fun b M x v h => e.rt b M x v (s.trans h), fun b M E σ h => e.bk b M E σ (s.trans h), fun b M E σ h => e.ct b M E σ (s.trans h)⟩
theorem EndsOk.nx_to {I : Hp} {DA : AEnds} {Dd : Ends} (e : EndsOk K W I DA Dd) {n : Env → Mem → Prop} {N : L2.St → Hp → Prop} (h : ∀ (b : Wd) (M : Mem) (E : Env) (σ : L2.St), Same I b.I → To W b → Ok K b M → Slots K b.al b.I E σ → n E M → N σ b.H) :
    EndsOk K W I { DA with nx := n } { Dd with nx := N } := ⟨h, e.rt, e.bk, e.ct⟩
def aNext : As := fun Q E M => Q.nx E M
def aSeq (a c : As) : As := fun Q E M => a { Q with nx := fun E2 M2 => fL E2 fun E3 => nM M2 fun M3 => c Q E3 M3 } E M
theorem ss_next : SS K W tNext aNext := fun b M E σ DA Dd t ok sl h e => e.nx b M E σ (Same.refl _) t ok sl h
theorem ss_seq {t u : TS} {a c : As} (h : SS K W t a) (g : SS K W u c) : SS K W (tSeq t u) (aSeq a c) := fun b M E σ DA Dd t ok sl h1 e =>
  h b M E σ _ _ t ok sl h1 (e.nx_to fun b1 M1 E1 σ1 s1 t1 ok1 sl1 h2 => g b1 M1 E1 σ1 DA Dd t1 ok1 sl1 (nM_eq.mp (fL_eq.mp h2)) (e.mono s1))
def aBreak : As := fun Q E M => Q.bk E M
def aCont : As := fun Q E M => Q.ct E M
theorem ss_break : SS K W tBreak aBreak := fun b M E σ DA Dd t ok sl h e => e.bk b M E σ (Same.refl _) t ok sl h
theorem ss_cont : SS K W tCont aCont := fun b M E σ DA Dd t ok sl h e => e.ct b M E σ (Same.refl _) t ok sl h
def aDrop (a : Ae) : As := fun Q E M => a E M fun _ M1 => Q.nx E M1
theorem ss_drop {t : TE} {a : Ae} (h : SE K W t a) : SS K W (tDrop t) (aDrop a) := fun b M E σ DA Dd t ok sl h1 e =>
  h b M E σ _ _ t ok sl h1 fun b1 M1 x v t1 ok1 s1 r1 h2 => e.nx b1 M1 E σ s1.same t1 ok1 (sl.mono s1.same s1.pre) h2
def aRet (a : Ae) : As := fun Q E M => a E M Q.rt
theorem ss_ret {t : TE} {a : Ae} (h : SE K W t a) : SS K W (tRet t) (aRet a) := fun b M E σ DA Dd t ok sl h1 e =>
  h b M E σ _ _ t ok sl h1 fun b1 M1 x v t1 ok1 s1 r1 h2 => e.rt b1 M1 x v s1.same t1 ok1 r1 h2
def aRetN : As := fun Q _ M => Q.rt (.d .non) M
theorem ss_retN : SS K W tRetN aRetN := fun b M E σ DA Dd t ok sl h1 e => e.rt b M _ _ (Same.refl _) t ok (.d .non) h1
def aIfS (c : At) (a a2 : As) : As := fun Q E M => c E M fun x M1 => Fork x (a Q E M1) (a2 Q E M1)
theorem ss_if {tc : TT} {t u : TS} {c : At} {a a2 : As} (hc : ST K W tc c) (h : SS K W t a) (g : SS K W u a2) : SS K W (tIfS tc t u) (aIfS c a a2) := fun b M E σ DA Dd t ok sl h1 e => by
  refine hc b M E σ _ _ t ok sl h1 fun b1 M1 x t1 ok1 s1 h2 => ?_
  cases x with
  | true => exact h b1 M1 E σ DA Dd t1 ok1 (sl.mono s1.same s1.pre) (h2.t rfl) (e.mono s1.same)
  | false => exact g b1 M1 E σ DA Dd t1 ok1 (sl.mono s1.same s1.pre) (h2.f rfl) (e.mono s1.same)
def aNever : As := fun _ _ _ => False
theorem ss_never : SS K W tNever aNever := fun _ _ _ _ _ _ _ _ _ h _ => h
def aAsg (a : Ae) (g : Ag) : As := fun Q E M => a E M fun x M1 => g x E M1 Q.nx
theorem ss_asg {js : List Nat} {t : TE} {g : TG} {a : Ae} {ag : Ag} (h : SE K W t a) (hg : SG K W js g ag) : SS K W (tAsg t g) (aAsg a ag) := fun b M E σ DA Dd t ok sl h1 e =>
  h b M E σ _ _ t ok sl h1 fun b1 M1 x v t1 ok1 s1 r1 h2 => hg b1 M1 E σ x v _ _ t1 ok1 (sl.mono s1.same s1.pre) r1 h2 fun b2 M2 E2 σ2 t2 ok2 s2 sl2 _ h3 => e.nx b2 M2 E2 σ2 (s1.trans s2).same t2 ok2 sl2 h3
/-- x, y = e1, e2 -/
def aPar (i j : Nat) (as : Aa) : As := fun Q E M => as E M fun xs M1 => match xs with
  | [x, y] => Q.nx ((E.set i (some x)).set j (some y)) M1
  | _ => False
theorem ss_par {i j : Nat} {t : TA} {as : Aa} (h : SA K W t as) : SS K W (tPar i j t) (aPar i j as) := fun b M E σ DA Dd t ok sl h1 e => by
  refine h b M E σ _ _ t ok sl h1 fun b1 M1 xs vs t1 ok1 s1 r1 h2 => ?_
  split at h2
  · cases r1 with
    | cons r1 r2 => cases r2 with
      | cons r2 r3 => cases r3; exact ⟨_, _, rfl, e.nx b1 M1 _ _ s1.same t1 ok1 (((sl.mono s1.same s1.pre).set r1).set r2) h2⟩
  · exact h2.elim
/-- x op= e -/
def aAug (i : Nat) (a : Ae) (r : A2) : As := fun Q E M => match E[i]? with
  | some (some x) => a E M fun y M1 => r x y M1 fun z M2 => Q.nx (E.set i (some z)) M2
  | _ => False
theorem ss_aug {i : Nat} {t : TE} {a : Ae} {ti : TIp} {r : A2} (h : SE K W t a) (hr : S2 K W ti r) : SS K W (tAug i t ti) (aAug i a r) := fun b M E σ DA Dd t ok sl h1 e => by
  unfold aAug at h1
  split at h1
  · rename_i x hx
    obtain ⟨v, hv, rv⟩ := sl.2 i x hx
    refine ⟨v, hv, h b M E σ _ _ t ok sl h1 fun b1 M1 y u t1 ok1 s1 r1 h2 => ?_⟩
    exact hr b1 M1 x y v u _ _ t1 ok1 (rv.mono s1.same s1.pre) r1 h2 fun b2 M2 z w t2 ok2 s2 r2 h3 =>
      e.nx b2 M2 _ _ (s1.trans s2).same t2 ok2 ((sl.mono (s1.trans s2).same (s1.trans s2).pre).set r2) h3
  · exact h1.elim
/-- while: Pv by a number that falls -/
structure WhileS (c : At) (a : As) (Q : AEnds) (E : Env) (M : Mem) : Prop where
  inv : ∃ Pv : Nat → Env → Mem → Prop, (∃ n, Pv n E M) ∧ ∀ n E M, Pv n E M → c E M fun k M1 => Fork k (a { Q with nx := fun E2 M2 => ∃ m, m < n ∧ Pv m E2 M2, ct := fun E2 M2 => ∃ m, m < n ∧ Pv m E2 M2, bk := Q.nx } E M1) (Q.nx E M1)
def aWhile (c : At) (a : As) : As := fun Q E M => WhileS c a Q E M
theorem ss_while {tc : TT} {t : TS} {c : At} {a : As} (hc : ST K W tc c) (h : SS K W t a) : SS K W (tWhile tc t) (aWhile c a) := fun b M E σ DA Dd t ok sl h1 e => by
  obtain ⟨Pv, ⟨n0, p0⟩, turn⟩ := h1.inv
  refine ⟨fun n σ H => ∃ (b1 : Wd) (M : Mem) (E : Env), b1.H = H ∧ Same b.I b1.I ∧ To W b1 ∧ Ok K b1 M ∧ Slots K b1.al b1.I E σ ∧ Pv n E M, ⟨n0, b, M, E, rfl, Same.refl _, t, ok, sl, p0⟩, ?_⟩
  rintro n σ1 _ ⟨b1, M1, E1, rfl, s1, t1, ok1, sl1, p1⟩
  refine hc b1 M1 E1 σ1 _ _ t1 ok1 sl1 (turn n E1 M1 p1) fun b2 M2 k t2 ok2 s2 h2 => ?_
  have sl2 := sl1.mono s2.same s2.pre
  have s12 := s1.trans s2.same
  cases k with
  | true =>
    refine ⟨fun σ H => ∃ (b1 : Wd) (M : Mem) (E : Env), b1.H = H ∧ Same b.I b1.I ∧ To W b1 ∧ Ok K b1 M ∧ Slots K b1.al b1.I E σ ∧ ∃ m, m < n ∧ Pv m E M, fun σ H ⟨b, M, E, e1, e0, e2, e3, e4, m, hm, e5⟩ => ⟨m, hm, b, M, E, e1, e0, e2, e3, e4, e5⟩, ?_⟩
    have e2 := e.mono s12
    refine h b2 M2 E1 σ1 _ _ t2 ok2 sl2 (h2.t rfl) ⟨fun b M E σ s t ok sl q => ⟨b, M, E, rfl, s12.trans s, t, ok, sl, q⟩, e2.rt, e2.nx, fun b M E σ s t ok sl q => ⟨b, M, E, rfl, s12.trans s, t, ok, sl, q⟩⟩
  | false => exact e.nx b2 M2 E1 σ1 s12 t2 ok2 sl2 (h2.f rfl)
end
/-! ### what a loop walks -/
/-- J walks items, each standing still -/
structure ItS (K : PySem.W.Frag) (I : Hp) (J : It) (items : List D) : Prop where
  stop : ∀ I2 H2, Same I I2 → Same I2 H2 → J.stop items.length H2
  go : ∀ I2 H2 (i : Nat) (d : D), Same I I2 → Same I2 H2 → items[i]? = some d → J.go i H2 ∧ ∀ x H3, J.yld i H2 x H3 → (H3 = H2 ∧ Rep K I2 d x) ∨ ∃ p o, H2 p = none ∧ H3 = upd H2 p o ∧ Rep K (upd I2 p o) d x
abbrev Ai := Env → Mem → (List D → Mem → Prop) → Prop
def SI (K : PySem.W.Frag) (W : Wd) (w : TI) (a : Ai) : Prop := ∀ (b : Wd) (M : Mem) (E : Env) (σ : L2.St) (QA : List D → Mem → Prop) (R : It → Hp → Prop), To W b → Ok K b M → Slots K b.al b.I E σ → a E M QA →
  (∀ b' M' J items, To W b' → Ok K b' M' → Step b b' → ItS K b'.I J items → QA items M' → R J b'.H) → w σ b.H R
theorem ItS.mono {K : PySem.W.Frag} {I I2 : Hp} {J : It} {items : List D} (h : Same I I2) (x : ItS K I J items) : ItS K I2 J items := ⟨fun a b c d => x.stop a b (h.trans c) d, fun a b i d c => x.go a b i d (h.trans c)⟩
section
variable {K : PySem.W.Frag} {W : Wd}
/-- a turn's item -/
theorem its_yld {b : Wd} {M : Mem} {I0 : Hp} {J : It} {items : List D} {i : Nat} {d : D} {x : V} {H3 : Hp} (t : To W b) (ok : Ok K b M) (T : ItS K I0 J items) (hs : Same I0 b.I) (hd : items[i]? = some d) (y : J.yld i b.H x H3) :
    ∃ b2 : Wd, b2.H = H3 ∧ To W b2 ∧ Ok K b2 M ∧ Step b b2 ∧ Rep K b2.I d x := by
  rcases (T.go b.I b.H i d hs ok.ih hd).2 x H3 y with ⟨rfl, r⟩ | ⟨p, o, hp, rfl, r⟩
  · exact ⟨b, rfl, t, ok, Step.refl _, r⟩
  · exact ⟨⟨upd b.I p o, b.al, upd b.H p o⟩, rfl, t.laid ok hp, ok.laid hp, (To.refl b).laid ok hp, r⟩
/-- for: Pv by the number of turns -/
structure ForS (items : List D) (g : Ag) (a : As) (Q : AEnds) (E : Env) (M : Mem) : Prop where
  inv : ∃ Pv : Nat → Env → Mem → Prop, Pv 0 E M ∧ (∀ i d E M, items[i]? = some d → Pv i E M → g (.d d) E M fun E1 M1 => a { Q with nx := Pv (i + 1), ct := Pv (i + 1), bk := Q.nx } E1 M1) ∧ ∀ E M, Pv items.length E M → Q.nx E M
def aFor (w : Ai) (g : Ag) (a : As) : As := fun Q E M => w E M fun items M1 => ForS items g a Q E M1
theorem ss_for {js : List Nat} {wi : TI} {g : TG} {t : TS} {w : Ai} {ag : Ag} {a : As} (hi : SI K W wi w) (hg : SG K W js g ag) (h : SS K W t a) : SS K W (tFor wi g t) (aFor w ag a) := fun b M E σ DA Dd t ok sl h1 e => by
  refine hi b M E σ _ _ t ok sl h1 fun b1 M1 J items t1 ok1 s1 T h2 => ?_
  obtain ⟨Pv, p0, turn, fin⟩ := h2.inv
  refine ⟨fun i m σ H => m = items.length - i ∧ i ≤ items.length ∧ ∃ (b : Wd) (M : Mem) (E : Env), b.H = H ∧ To W b ∧ Ok K b M ∧ Same b1.I b.I ∧ Slots K b.al b.I E σ ∧ Pv i E M, ⟨items.length, by simp, Nat.zero_le _, b1, M1, E, rfl, t1, ok1, Same.refl _, sl.mono s1.same s1.pre, p0⟩, ?_⟩
  rintro i m σ1 _ ⟨rfl, hi', b2, M2, E2, rfl, t2, ok2, s2, sl2, p2⟩
  by_cases hlt : i < items.length
  · have hd : items[i]? = some items[i] := by simp [hlt]
    refine .inr ⟨(T.go b2.I b2.H i _ s2 ok2.ih hd).1, fun σ H => ∃ (b : Wd) (M : Mem) (E : Env), b.H = H ∧ To W b ∧ Ok K b M ∧ Same b1.I b.I ∧ Slots K b.al b.I E σ ∧ Pv (i + 1) E M, fun σ H ⟨b, M, E, q⟩ => ⟨items.length - (i + 1), by omega, rfl, hlt, b, M, E, q⟩, fun x H3 y => ?_⟩
    obtain ⟨b3, rfl, t3, ok3, s3, r3⟩ := its_yld t2 ok2 T s2 hd y
    refine hg b3 M2 E2 σ1 _ _ _ _ t3 ok3 (sl2.mono s3.same s3.pre) (.d r3) (turn i _ E2 M2 hd p2) fun b4 M4 E4 σ4 t4 ok4 s4 sl4 _ h4 => ?_
    have s24 : Same b1.I b4.I := (s2.trans s3.same).trans s4.same
    have e4 := e.mono (s1.same.trans s24)
    exact h b4 M4 E4 σ4 _ _ t4 ok4 sl4 h4 ⟨fun b M E σ s t ok sl q => ⟨b, M, E, rfl, t, ok, s24.trans s, sl, q⟩, e4.rt, e4.nx, fun b M E σ s t ok sl q => ⟨b, M, E, rfl, t, ok, s24.trans s, sl, q⟩⟩
  · have e1 : i = items.length := by omega
    subst e1
    exact .inl ⟨T.stop b2.I b2.H s2 ok2.ih, e.nx b2 M2 E2 σ1 (s1.same.trans s2) t2 ok2 sl2 (fin E2 M2 p2)⟩
end
end G

set_option Elab.async false
set_option linter.all false
set_option maxRecDepth 100000
namespace G
open PySem PySem.Spec PyProof.Rows L2

structure AS (X : Cx) (W : Wd) (s : Stmt) (t : TS) (a : As) : Prop where
  ps : PS X s t
  ss : SS X.K W t a
structure ASs (X : Cx) (W : Wd) (s : List Stmt) (t : TS) (a : As) : Prop where
  ps : PSs X s t
  ss : SS X.K W t a
structure AG (X : Cx) (W : Wd) (e : Expr) (js : List Nat) (g : TG) (a : Ag) : Prop where
  pg : PG X e g
  sg : SG X.K W js g a
structure AGs (X : Cx) (W : Wd) (e : List Expr) (js : List Nat) (g : TGs) (a : Ags) : Prop where
  pg : PGs X e g
  sg : SGs X.K W js g a
structure AI (X : Cx) (W : Wd) (tg e : Expr) (w : TI) (a : Ai) : Prop where
  pi : PI X tg e w
  si : SI X.K W w a
section
variable {X : Cx} {W : Wd} {pos : Pos} {e e2 e3 c o tg : Expr} {es rest : List Expr} {st : Stmt} {sts : List Stmt} {t t2 t3 : TE} {a a2 a3 : Ae} {tc tc2 : TT} {ac ac2 : At} {ts : TA} {as : Aa} {u u2 : TS} {b b2 : As} {g : TG} {ag : Ag} {gs : TGs} {ags : Ags} {wi : TI} {w : Ai} {js ks : List Nat}
theorem ass_nil : ASs X W [] tNext aNext := ⟨pss_nil, ss_next⟩
theorem ass_one (h : AS X W st u b) : ASs X W [st] u b := ⟨pss_one h.ps, h.ss⟩
theorem ass_cons (h : AS X W st u b) (k : ASs X W sts u2 b2) : ASs X W (st :: sts) (tSeq u u2) (aSeq b b2) := ⟨pss_cons h.ps k.ps, ss_seq h.ss k.ss⟩
theorem as_pass : AS X W (.Pass pos) tNext aNext := ⟨ps_pass, ss_next⟩
theorem as_break : AS X W (.Break pos) tBreak aBreak := ⟨ps_break, ss_break⟩
theorem as_cont : AS X W (.Continue pos) tCont aCont := ⟨ps_continue, ss_cont⟩
theorem as_expr (h : AE X W e t a) (hs : swapsWith e none pos.line X.env = pure false := by rfl) : AS X W (.Expr e pos) (tDrop t) (aDrop a) := ⟨ps_expr h.pe hs, ss_drop h.se⟩
theorem as_ret (h : AE X W e t a) : AS X W (.Return (some e) pos) (tRet t) (aRet a) := ⟨ps_ret h.pe, ss_ret h.se⟩
theorem as_retN : AS X W (.Return none pos) tRetN aRetN := ⟨ps_retN, ss_retN⟩
theorem as_if (hc : AT X W c tc ac) (h : ASs X W sts u b) {sts2 : List Stmt} (k : ASs X W sts2 u2 b2) : AS X W (.If c sts sts2 pos) (tIfS tc u u2) (aIfS ac b b2) := ⟨ps_if hc.pt h.ps k.ps, ss_if hc.st h.ss k.ss⟩
theorem as_never : AS X W st tNever aNever := ⟨ps_never, ss_never⟩
theorem ass_never : ASs X W sts tNever aNever := ⟨pss_never, ss_never⟩
theorem ag_name (i : Nat) {x : Str} (hN : X.N.Nodup) (hi : X.N[i]? = some x := by rfl) (hx : Loc X.env.scope x := by first | exact Or.inl rfl | exact Or.inr rfl) (hf : X.fn x = true ∨ X.env.scope.names.lookup x = some .local := by first | exact .inl rfl | exact .inr rfl | assumption) :
    AG X W (.Name x pos) [i] (gName i) (aName i) := ⟨pg_name hN hi hx hf, sg_name⟩
theorem ags_nil : AGs X W [] [] gNil agNil := ⟨pgs_nil, sgs_nil⟩
theorem ags_cons (h : AG X W e js g ag) (k : AGs X W es ks gs ags) (hs : (assignEach (e :: es) X.env).map (·.2) = assign e X.env :: (assignEach es X.env).map (·.2) := by rfl) : AGs X W (e :: es) (js ++ ks) (gCons g gs) (agCons ag ags) := ⟨pgs_cons h.pg k.pg hs, sgs_cons h.sg k.sg⟩
theorem ag_tup {k n : Nat} (hc : X.calm = true) (h : AGs X W es js gs ags) (hn : (assignEach es X.env).length = n := by rfl) (hst : (assignEach es X.env).findIdx? (·.1) = none := by rfl) : AG X W (.Tuple es k pos) js (gTup X.K n gs) (aGtup n ags) := ⟨pg_tup hc h.pg hn hst, sg_tup h.sg⟩
theorem as_asg (h : AE X W e t a) (k : AG X W tg js g ag) (hs : swapsWithSole [tg] e pos.line X.env = pure false := by rfl) (hw : swappedStores [tg] e X.env = pure none := by rfl) (h1 : (assignEach [tg] X.env).map (·.2) = [assign tg X.env] := by rfl) : AS X W (.Assign [tg] e pos) (tAsg t g) (aAsg a ag) := ⟨ps_asg h.pe k.pg hs hw h1, ss_asg h.se k.sg⟩
theorem as_set (i : Nat) {x : Str} {pos' : Pos} (hN : X.N.Nodup) (h : AE X W e t a) (hi : X.N[i]? = some x := by rfl) (hx : Loc X.env.scope x := by first | exact Or.inl rfl | exact Or.inr rfl) (hs : swapsWith e (some (.Name x pos')) pos.line X.env = pure false := by rfl)
    (hf : X.fn x = true ∨ X.env.scope.names.lookup x = some .local := by first | exact .inl rfl | exact .inr rfl | assumption) : AS X W (.Assign [.Name x pos'] e pos) (tAsg t (gName i)) (aAsg a (aName i)) := ⟨ps_set hN hi hx h.pe hs, ss_asg h.se sg_name⟩
theorem as_while {body : List Stmt} (hp : PassesOwn (model X.prog X.w) X.A X.env X.xe) (hc : AT X W c tc ac) (h : ASs X W body u b) : AS X W (.While c body [] pos) (tWhile tc u) (aWhile ac b) := ⟨ps_while hp hc.pt h.ps, ss_while hc.st h.ss⟩
theorem as_for {body : List Stmt} (hp : PassesOwn (model X.prog X.w) X.A X.env X.xe) (hc : X.calm = true) (hi : AI X W tg e wi w) (hg : AG X W tg js g ag) (h : ASs X W body u b) (hs : ∀ x, foldedSetIterable e X.env x = pure x := by intro _; rfl) :
    AS X W (.For tg e body [] pos) (tFor wi g u) (aFor w ag b) := ⟨ps_for hp hc hi.pi hg.pg h.ps hs, ss_for hi.si hg.sg h.ss⟩
/-- x op= e, by an operator that works in place -/
theorem as_aug (i : Nat) {x : Str} {op : Operator} {r : R2} {rA : A2} {pos' : Pos} (hN : X.N.Nodup) (ho : AO X W (inplaceOp op) r rA) (h : AE X W e t a) (hi : X.N[i]? = some x := by rfl) (hx : Loc X.env.scope x := by first | exact Or.inl rfl | exact Or.inr rfl)
    (hf : X.fn x = true ∨ X.env.scope.names.lookup x = some .local := by first | exact .inl rfl | exact .inr rfl | assumption) : AS X W (.AugAssign (.Name x pos') op e pos) (tAug i t r) (aAug i a rA) :=
  ⟨ps_aug hN hi hx h.pe (fun pins s σ H x y v u Q I r1 r2 h => ho.o pins s σ H x y v u Q I r1 r2 h) hf, ss_aug h.se ho.s⟩
theorem io_add : AO X W (inplaceOp .Add) (rI0 (fun i j => .int (i + j))) (i2 (fun i j => .int (i + j))) := ⟨iop_add, s2_i fun _ _ _ => .int _⟩
theorem io_sub : AO X W (inplaceOp .Sub) (rI0 (fun i j => .int (i - j))) (i2 (fun i j => .int (i - j))) := ⟨iop_sub, s2_i fun _ _ _ => .int _⟩
theorem io_shl : AO X W (inplaceOp .LShift) (rI CShl (fun i j => .int (i * 2 ^ j.toNat))) (i2c CShl (fun i j => .int (i * 2 ^ j.toNat))) := ⟨iop_shlW, s2_ic fun _ _ _ => .int _⟩
theorem io_shr : AO X W (inplaceOp .RShift) (rI CNn (fun i j => .int (i / 2 ^ j.toNat))) (i2c CNn (fun i j => .int (i / 2 ^ j.toNat))) := ⟨iop_shr, s2_ic fun _ _ _ => .int _⟩
theorem io_or : AO X W (inplaceOp .BitOr) (rI0 (fun i j => .int (Builtin.bitOr i j))) (i2 (fun i j => .int (Builtin.bitOr i j))) := ⟨iop_or, s2_i fun _ _ _ => .int _⟩
end

/-! ### what is walked -/
section
variable {K : PySem.W.Frag} {W : Wd}
theorem its_list {I : Hp} {a : Addr} {ds : List D} {vs : List V} (h : I a = some (.lst vs)) (r : Reps K I ds vs) (inj : ∀ (H2 : Hp) xs, Same I H2 → SqL K H2 a xs → xs = vs) : ItS K I (Itl K a) ds where
  stop := fun I2 H2 s1 s2 => ⟨vs, SqL.of (s2 _ _ (s1 _ _ h)), by rw [r.length]; exact Nat.le_refl _⟩
  go := fun I2 H2 i d s1 s2 hd => by
    obtain ⟨v, hv, rv⟩ := r.get hd
    refine ⟨⟨vs, v, SqL.of (s2 _ _ (s1 _ _ h)), hv⟩, fun x H3 y => .inl ⟨y.1, ?_⟩⟩
    have e := y.2 vs (SqL.of (s2 _ _ (s1 _ _ h)))
    rw [hv] at e
    cases e
    exact rv.mono s1
theorem its_listL {I : Hp} {a : Addr} {ds : List D} {vs : List V} (h : SqL K I a vs) (r : Reps K I ds vs) : ItS K I (Itl K a) ds where
  stop := fun I2 H2 s1 s2 => ⟨vs, same_l s2 (same_l s1 h), by rw [r.length]; exact Nat.le_refl _⟩
  go := fun I2 H2 i d s1 s2 hd => by
    obtain ⟨v, hv, rv⟩ := r.get hd
    refine ⟨⟨vs, v, same_l s2 (same_l s1 h), hv⟩, fun x H3 y => .inl ⟨y.1, ?_⟩⟩
    have e := y.2 vs (same_l s2 (same_l s1 h))
    rw [hv] at e
    cases e
    exact rv.mono s1
theorem its_tup {I : Hp} {a : Addr} {ds : List D} {vs : List V} (h : SqT K I a vs) (r : Reps K I ds vs) : ItS K I (Itt K a) ds where
  stop := fun I2 H2 s1 s2 => ⟨vs, same_t s2 (same_t s1 h), by rw [r.length]; exact Nat.le_refl _⟩
  go := fun I2 H2 i d s1 s2 hd => by
    obtain ⟨v, hv, rv⟩ := r.get hd
    refine ⟨⟨vs, v, same_t s2 (same_t s1 h), hv⟩, fun x H3 y => .inl ⟨y.1, ?_⟩⟩
    have e := y.2 vs (same_t s2 (same_t s1 h))
    rw [hv] at e
    cases e
    exact rv.mono s1
/-- over a list that stands still -/
def aiList (a : Ae) : Ai := fun E M Q => a E M fun x M1 => match x with
  | .d (.lst l) => Q l M1
  | .d (.scr l) => Q (l.map D.int) M1
  | _ => False
def aiTup (a : Ae) : Ai := fun E M Q => a E M fun x M1 => match x with
  | .d (.tup l) => Q l M1
  | _ => False
theorem si_list {t : TE} {a : Ae} (h : SE K W t a) : SI K W (iList K t) (aiList a) := by
  intro b M E σ QA R t0 ok sl h1 k
  refine h b M E σ _ _ t0 ok sl h1 fun b1 M1 x v t1 ok1 s1 r1 h2 => ?_
  split at h2
  · cases repA_d r1 with
    | lst hp rs => exact ⟨_, rfl, ⟨_, SqL.of (ok1.ih _ _ hp)⟩, k b1 M1 _ _ t1 ok1 s1 (its_listL (SqL.of hp) rs) h2⟩
  · cases repA_d r1 with
    | scr hp => exact ⟨_, rfl, ⟨_, same_l ok1.ih hp⟩, k b1 M1 _ _ t1 ok1 s1 (its_listL hp (reps_ints _)) h2⟩
  · exact h2.elim
theorem si_tup {t : TE} {a : Ae} (h : SE K W t a) : SI K W (iTup K t) (aiTup a) := by
  intro b M E σ QA R t0 ok sl h1 k
  refine h b M E σ _ _ t0 ok sl h1 fun b1 M1 x v t1 ok1 s1 r1 h2 => ?_
  split at h2
  · cases repA_d r1 with
    | tup hp rs => exact ⟨_, rfl, ⟨_, same_t ok1.ih hp⟩, k b1 M1 _ _ t1 ok1 s1 (its_tup hp rs) h2⟩
  · exact h2.elim
/-- lo, lo + c, .., n of them -/
def rngD (lo c : Int) (n : Nat) : List D := (List.range n).map fun (i : Nat) => D.int (lo + (i : Int) * c)
theorem rngD_len (lo c : Int) (n : Nat) : (rngD lo c n).length = n := by unfold rngD; simp
theorem rngD_get {lo c : Int} {n i : Nat} {d : D} (h : (rngD lo c n)[i]? = some d) : i < n ∧ d = .int (lo + (i : Int) * c) := by
  unfold rngD at h
  rw [List.getElem?_map] at h
  cases e : (List.range n)[i]? with
  | none => rw [e] at h; cases h
  | some j =>
    rw [e] at h
    have hi := (List.getElem?_eq_some_iff.mp e).1
    rw [List.length_range] at hi
    rw [List.getElem?_range hi] at e
    cases e
    cases h
    exact ⟨hi, rfl⟩
theorem its_rng {I : Hp} {lo : Int} {n : Nat} : ItS K I (Itr lo n) (rngD lo 1 n) where
  stop := fun I2 H2 s1 s2 => by rw [rngD_len]; exact Nat.le_refl n
  go := fun I2 H2 i d s1 s2 hd => by
    obtain ⟨hi, rfl⟩ := rngD_get hd
    refine ⟨hi, fun x H3 y => .inl ⟨y.1, ?_⟩⟩
    rw [y.2, Int.mul_one]
    exact .int _
theorem its_rngC {I : Hp} {lo c : Int} {n : Nat} : ItS K I (Itc lo c n) (rngD lo c n) where
  stop := fun I2 H2 s1 s2 => by rw [rngD_len]; exact Nat.le_refl n
  go := fun I2 H2 i d s1 s2 hd => by
    obtain ⟨hi, rfl⟩ := rngD_get hd
    refine ⟨hi, fun x H3 y => .inl ⟨y.1, ?_⟩⟩
    rw [y.2]
    exact .int _
def aiRng1 (as : Aa) : Ai := fun E M Q => as E M fun xs M1 => match xs with
  | [.d (.int n)] => Side (-(2 ^ 62) ≤ n ∧ n < 2 ^ 62) (Q (rngD 0 1 n.toNat) M1)
  | _ => False
def aiRng2 (as : Aa) : Ai := fun E M Q => as E M fun xs M1 => match xs with
  | [.d (.int i), .d (.int j)] => Side (-(2 ^ 62) ≤ i ∧ i < 2 ^ 62 ∧ -(2 ^ 62) ≤ j ∧ j < 2 ^ 62) (Q (rngD i 1 (j - i).toNat) M1)
  | _ => False
/-- range(i, j, -1) -/
def aiRngD (as : Aa) : Ai := fun E M Q => as E M fun xs M1 => match xs with
  | [.d (.int i), .d (.int j), .d (.int k)] => Side (k = -1 ∧ -(2 ^ 62) ≤ i ∧ i < 2 ^ 62 ∧ -(2 ^ 62) ≤ j ∧ j < 2 ^ 62) (Q (rngD i (-1) (i - j).toNat) M1)
  | _ => False
theorem repAs_1 {al : List Addr} {I : Hp} {x : A} {vs : List V} : RepAs K al I [x] vs → ∃ v, vs = [v] ∧ RepA K al I x v
  | .cons h .nil => ⟨_, rfl, h⟩
theorem repAs_2 {al : List Addr} {I : Hp} {x y : A} {vs : List V} : RepAs K al I [x, y] vs → ∃ v u, vs = [v, u] ∧ RepA K al I x v ∧ RepA K al I y u
  | .cons h (.cons g .nil) => ⟨_, _, rfl, h, g⟩
theorem repAs_3 {al : List Addr} {I : Hp} {x y z : A} {vs : List V} : RepAs K al I [x, y, z] vs → ∃ v u w, vs = [v, u, w] ∧ RepA K al I x v ∧ RepA K al I y u ∧ RepA K al I z w
  | .cons h (.cons g (.cons k .nil)) => ⟨_, _, _, rfl, h, g, k⟩
theorem si_rng1 {t : TA} {as : Aa} (h : SA K W t as) : SI K W (iRng1 t) (aiRng1 as) := by
  intro b M E σ QA R t0 ok sl h1 k
  refine h b M E σ _ _ t0 ok sl h1 fun b1 M1 xs vs t1 ok1 s1 r1 h2 => ?_
  split at h2
  · obtain ⟨v, rfl, r⟩ := repAs_1 r1
    cases rep_int_inv (repA_d r)
    exact ⟨_, rfl, h2.s.1, h2.s.2, k b1 M1 _ _ t1 ok1 s1 its_rng h2.q⟩
  · exact h2.elim
theorem si_rng2 {t : TA} {as : Aa} (h : SA K W t as) : SI K W (iRng2 t) (aiRng2 as) := by
  intro b M E σ QA R t0 ok sl h1 k
  refine h b M E σ _ _ t0 ok sl h1 fun b1 M1 xs vs t1 ok1 s1 r1 h2 => ?_
  split at h2
  · obtain ⟨v, u, rfl, r, r'⟩ := repAs_2 r1
    cases rep_int_inv (repA_d r)
    cases rep_int_inv (repA_d r')
    exact ⟨_, _, rfl, h2.s, k b1 M1 _ _ t1 ok1 s1 its_rng h2.q⟩
  · exact h2.elim
theorem si_rngD {t : TA} {as : Aa} (h : SA K W t as) : SI K W (iRng3 t) (aiRngD as) := by
  intro b M E σ QA R t0 ok sl h1 k
  refine h b M E σ _ _ t0 ok sl h1 fun b1 M1 xs vs t1 ok1 s1 r1 h2 => ?_
  split at h2
  · obtain ⟨v, u, z, rfl, r, r', r''⟩ := repAs_3 r1
    cases rep_int_inv (repA_d r)
    cases rep_int_inv (repA_d r')
    cases rep_int_inv (repA_d r'')
    obtain ⟨⟨rfl, c1, c2, c3, c4⟩, q⟩ := h2
    exact ⟨_, _, _, _, rfl, RgC.neg c1 c2 c3 c4, k b1 M1 _ _ t1 ok1 s1 its_rngC q⟩
  · exact h2.elim
/-! enumerate, zip: new pairs -/
def enumD (ds : List D) : List D := (List.range ds.length).map fun (i : Nat) => D.tup [.int (i : Int), ds.getD i .non]
theorem enumD_get {ds : List D} {i : Nat} {d : D} (h : (enumD ds)[i]? = some d) : ∃ x, ds[i]? = some x ∧ d = .tup [.int (i : Int), x] := by
  unfold enumD at h
  rw [List.getElem?_map] at h
  cases e : (List.range ds.length)[i]? with
  | none => rw [e] at h; cases h
  | some j =>
    rw [e] at h
    have hi := (List.getElem?_eq_some_iff.mp e).1
    rw [List.length_range] at hi
    rw [List.getElem?_range hi] at e
    cases e
    cases h
    exact ⟨ds[i], by simp [hi], by simp [List.getD, hi]⟩
theorem enumD_len (ds : List D) : (enumD ds).length = ds.length := by unfold enumD; simp
theorem its_enum {I : Hp} {a : Addr} {ds : List D} {vs : List V} (h : SqL K I a vs) (r : Reps K I ds vs) : ItS K I (Ite K a) (enumD ds) where
  stop := fun I2 H2 s1 s2 => ⟨vs, same_l s2 (same_l s1 h), by rw [enumD_len, r.length]; exact Nat.le_refl _⟩
  go := fun I2 H2 i d s1 s2 hd => by
    obtain ⟨x0, hx, rfl⟩ := enumD_get hd
    obtain ⟨v, hv, rv⟩ := r.get hx
    refine ⟨⟨vs, v, same_l s2 (same_l s1 h), hv⟩, fun x H3 y => ?_⟩
    obtain ⟨T, z, rfl, hT, rfl, hz⟩ := y
    have e := hz vs (same_l s2 (same_l s1 h))
    rw [hv] at e
    cases e
    exact .inr ⟨T, _, hT, rfl, .tup (SqT.of upd_same) (.cons (.int _) (.cons ((rv.mono s1).mono (same_new (Same.free s2 hT))) .nil))⟩
def zipD : List D → List D → List D
  | x :: xs, y :: ys => .tup [x, y] :: zipD xs ys
  | _, _ => []
theorem zipD_get : ∀ {xs ys : List D} {i : Nat} {d : D}, (zipD xs ys)[i]? = some d → ∃ x y, xs[i]? = some x ∧ ys[i]? = some y ∧ d = .tup [x, y]
  | [], ys, i, d, h => by unfold zipD at h; simp at h
  | x :: xs, [], i, d, h => by unfold zipD at h; simp at h
  | x :: xs, y :: ys, 0, d, h => by unfold zipD at h; simp at h; exact ⟨x, y, rfl, rfl, h.symm⟩
  | x :: xs, y :: ys, i + 1, d, h => by
    unfold zipD at h
    rw [List.getElem?_cons_succ] at h
    obtain ⟨a, b, h1, h2, h3⟩ := zipD_get h
    exact ⟨a, b, by simpa using h1, by simpa using h2, h3⟩
theorem zipD_len : ∀ xs ys : List D, xs.length ≤ (zipD xs ys).length ∨ ys.length ≤ (zipD xs ys).length
  | [], ys => .inl (by simp)
  | x :: xs, [] => .inr (by simp)
  | x :: xs, y :: ys => by
    unfold zipD
    rw [List.length_cons, List.length_cons, List.length_cons]
    rcases zipD_len xs ys with h | h
    · exact .inl (by omega)
    · exact .inr (by omega)
theorem its_zip {I : Hp} {a c : Addr} {ds es : List D} {vs us : List V} (h : SqL K I a vs) (r : Reps K I ds vs) (h' : SqL K I c us) (r' : Reps K I es us) : ItS K I (Itz K a c) (zipD ds es) where
  stop := fun I2 H2 s1 s2 => ⟨vs, us, same_l s2 (same_l s1 h), same_l s2 (same_l s1 h'), by rw [← r.length, ← r'.length]; exact zipD_len ds es⟩
  go := fun I2 H2 i d s1 s2 hd => by
    obtain ⟨x0, y0, hx, hy, rfl⟩ := zipD_get hd
    obtain ⟨v, hv, rv⟩ := r.get hx
    obtain ⟨u, hu, ru⟩ := r'.get hy
    refine ⟨⟨vs, us, v, u, same_l s2 (same_l s1 h), same_l s2 (same_l s1 h'), hv, hu⟩, fun x H3 y => ?_⟩
    obtain ⟨T, z, z', rfl, hT, rfl, hz, hz'⟩ := y
    have e := hz vs (same_l s2 (same_l s1 h))
    rw [hv] at e
    cases e
    have e' := hz' us (same_l s2 (same_l s1 h'))
    rw [hu] at e'
    cases e'
    exact .inr ⟨T, _, hT, rfl, .tup (SqT.of upd_same) (.cons ((rv.mono s1).mono (same_new (Same.free s2 hT))) (.cons ((ru.mono s1).mono (same_new (Same.free s2 hT))) .nil))⟩
theorem its_zipT {I : Hp} {a c : Addr} {ds es : List D} {vs us : List V} (h : SqT K I a vs) (r : Reps K I ds vs) (h' : SqT K I c us) (r' : Reps K I es us) : ItS K I (RZ.ItzT K a c) (zipD ds es) where
  stop := fun I2 H2 s1 s2 => ⟨vs, us, same_t s2 (same_t s1 h), same_t s2 (same_t s1 h'), by rw [← r.length, ← r'.length]; exact zipD_len ds es⟩
  go := fun I2 H2 i d s1 s2 hd => by
    obtain ⟨x0, y0, hx, hy, rfl⟩ := zipD_get hd
    obtain ⟨v, hv, rv⟩ := r.get hx
    obtain ⟨u, hu, ru⟩ := r'.get hy
    refine ⟨⟨vs, us, v, u, same_t s2 (same_t s1 h), same_t s2 (same_t s1 h'), hv, hu⟩, fun x H3 y => ?_⟩
    obtain ⟨T, z, z', rfl, hT, rfl, hz, hz'⟩ := y
    have e := hz vs (same_t s2 (same_t s1 h))
    rw [hv] at e
    cases e
    have e' := hz' us (same_t s2 (same_t s1 h'))
    rw [hu] at e'
    cases e'
    exact .inr ⟨T, _, hT, rfl, .tup (SqT.of upd_same) (.cons ((rv.mono s1).mono (same_new (Same.free s2 hT))) (.cons ((ru.mono s1).mono (same_new (Same.free s2 hT))) .nil))⟩
def aiEnum (as : Aa) : Ai := fun E M Q => as E M fun xs M1 => match xs with
  | [.d (.lst l)] => Q (enumD l) M1
  | [.d (.scr l)] => Q (enumD (l.map D.int)) M1
  | _ => False
theorem si_enum {t : TA} {as : Aa} (h : SA K W t as) : SI K W (iEnum K t) (aiEnum as) := by
  intro b M E σ QA R t0 ok sl h1 k
  refine h b M E σ _ _ t0 ok sl h1 fun b1 M1 xs vs t1 ok1 s1 r1 h2 => ?_
  split at h2
  · obtain ⟨v, rfl, r⟩ := repAs_1 r1
    cases repA_d r with
    | lst hp rs => exact ⟨_, _, rfl, SqL.of (ok1.ih _ _ hp), k b1 M1 _ _ t1 ok1 s1 (its_enum (SqL.of hp) rs) h2⟩
  · obtain ⟨v, rfl, r⟩ := repAs_1 r1
    cases repA_d r with
    | scr hp => exact ⟨_, _, rfl, same_l ok1.ih hp, k b1 M1 _ _ t1 ok1 s1 (its_enum hp (reps_ints _)) h2⟩
  · exact h2.elim
def aiZip (as : Aa) : Ai := fun E M Q => as E M fun xs M1 => match xs with
  | [.d (.lst l), .d (.lst m)] => Q (zipD l m) M1
  | [.d (.tup l), .d (.tup m)] => Q (zipD l m) M1
  | _ => False
theorem si_zip {t : TA} {as : Aa} (h : SA K W t as) : SI K W (RZ.iZipA K t) (aiZip as) := by
  intro b M E σ QA R t0 ok sl h1 k
  refine h b M E σ _ _ t0 ok sl h1 fun b1 M1 xs vs t1 ok1 s1 r1 h2 => ?_
  split at h2
  · obtain ⟨v, u, rfl, r, r'⟩ := repAs_2 r1
    cases repA_d r with
    | lst hp rs =>
      cases repA_d r' with
      | lst hp' rs' => exact ⟨_, _, _, _, rfl, .inl ⟨SqL.of (ok1.ih _ _ hp), SqL.of (ok1.ih _ _ hp'), k b1 M1 _ _ t1 ok1 s1 (its_zip (SqL.of hp) rs (SqL.of hp') rs') h2⟩⟩
  · obtain ⟨v, u, rfl, r, r'⟩ := repAs_2 r1
    cases repA_d r with
    | tup hp rs =>
      cases repA_d r' with
      | tup hp' rs' => exact ⟨_, _, _, _, rfl, .inr ⟨same_t ok1.ih hp, same_t ok1.ih hp', k b1 M1 _ _ t1 ok1 s1 (its_zipT hp rs hp' rs') h2⟩⟩
  · exact h2.elim
end
section
variable {X : Cx} {W : Wd} {tg e e2 e3 : Expr} {t : TE} {a : Ae} {ts : TA} {as : Aa} {p pos tpos : Pos}
theorem ai_list (h : AE X W e t a) : AI X W tg e (iList X.K t) (aiList a) := ⟨pi_list h.pe, si_list h.se⟩
theorem ai_tup (h : AE X W e t a) : AI X W tg e (iTup X.K t) (aiTup a) := ⟨pi_tup h.pe, si_tup h.se⟩
theorem ai_rng1 (hm : X.mg "range" = none) (ha : AA X W [e] ts as) (hg : Gl X "range" := by rfl) (hs : starEach [e] X.env = [(false, eval e X.env)] := by rfl) : AI X W tg (.Call (.Name "range" p) [e] [] pos) (iRng1 ts) (aiRng1 as) := ⟨pi_range1 hg hm ha.pa hs, si_rng1 ha.sa⟩
theorem ai_rng2 (hm : X.mg "range" = none) (ha : AA X W [e, e2] ts as) (hg : Gl X "range" := by rfl) (hs : starEach [e, e2] X.env = [(false, eval e X.env), (false, eval e2 X.env)] := by rfl) (hs2 : starEach [e2] X.env = [(false, eval e2 X.env)] := by rfl) :
    AI X W tg (.Call (.Name "range" p) [e, e2] [] pos) (iRng2 ts) (aiRng2 as) := ⟨pi_range2 hg hm ha.pa hs hs2, si_rng2 ha.sa⟩
theorem ai_rngD (hm : X.mg "range" = none) (ha : AA X W [e, e2, e3] ts as) (hg : Gl X "range" := by rfl)
    (hs : starEach [e, e2, e3] X.env = (false, eval e X.env) :: starEach [e2, e3] X.env := by rfl) (hpl : (backTo pos (starEach [e2, e3] X.env)).any (·.1) = false := by rfl) :
    AI X W tg (.Call (.Name "range" p) [e, e2, e3] [] pos) (iRng3 ts) (aiRngD as) := ⟨pi_range3 hg hm ha.pa hs hpl, si_rngD ha.sa⟩
theorem ai_enum {elts : List Expr} {kk : Nat} (hm : X.mg "enumerate" = none) (ha : AA X W [e] ts as) (hg : Gl X "enumerate" := by rfl) (hs : starEach [e] X.env = [(false, eval e X.env)] := by rfl) :
    AI X W (.Tuple elts kk tpos) (.Call (.Name "enumerate" p) [e] [] pos) (iEnum X.K ts) (aiEnum as) := ⟨pi_enum hg hm ha.pa hs, si_enum ha.sa⟩
theorem ai_zip {elts : List Expr} {kk : Nat} (hm : X.mg "zip" = none) (ha : AA X W [e, e2] ts as) (hg : Gl X "zip" := by rfl)
    (hs : starEach [e, e2] X.env = (false, eval e X.env) :: starEach [e2] X.env := by rfl) (hpl : (backTo pos (starEach [e2] X.env)).any (·.1) = false := by rfl) :
    AI X W (.Tuple elts kk tpos) (.Call (.Name "zip" p) [e, e2] [] pos) (RZ.iZipA X.K ts) (aiZip as) := ⟨RZ.pi_zipA hg hm ha.pa hs hpl, si_zip ha.sa⟩
end
end G

set_option Elab.async false
set_option linter.all false
set_option maxRecDepth 100000
namespace G
open PySem PySem.Spec PyProof.Rows L2

/-! ### what a def promises -/
abbrev AXn := Addr → List (Str × D) → Mem → Prop
abbrev ASp := List A → Mem → (A → Mem → Prop) → AXn → Prop
def conc (K : PySem.W.Frag) (sp : ASp) : Sp := fun vs H Q E => ∃ (b : Wd) (M : Mem) (xs : List A) (QA : A → Mem → Prop) (EA : AXn), b.H = H ∧ Ok K b M ∧ RepAs K b.al b.I xs vs ∧ sp xs M QA EA ∧
  (∀ (b' : Wd) (M' : Mem) (x : A) (v : V), To b b' → Ok K b' M' → RepA K b'.al b'.I x v → QA x M' → Q v b'.H) ∧
  (∀ (b' : Wd) (M' : Mem) (C : Addr) (fs : List (Str × D)) (d : Addr) (gs : List (Str × V)), To b b' → Ok K b' M' → b'.I d = some (.xd gs) → RepF K b'.I fs gs → EA C fs M' → E (.ref C) (some d) b'.H)
/-- the slots at the entry -/
def startA (n : Nat) (xs : List A) : Env := xs.map some ++ List.replicate (n - xs.length) none
theorem startA_slots {K : PySem.W.Frag} {al : List Addr} {I : Hp} {N : List Str} {xs : List A} {vs : List V} (r : RepAs K al I xs vs) : Slots K al I (startA N.length xs) (L2.start N vs) := by
  have key : ∀ (k : Nat) {xs : List A} {vs : List V}, RepAs K al I xs vs → Slots K al I (xs.map some ++ List.replicate k none) (vs.map some ++ List.replicate k none) := by
    intro k xs vs r
    induction r with
    | nil =>
      refine ⟨by simp, fun i x h => ?_⟩
      have h2 : (List.replicate k (none : Option A))[i]? = some (some x) := by simpa using h
      have := List.mem_of_getElem? h2
      rw [List.mem_replicate] at this
      exact nomatch this.2
    | cons h1 h2 ih =>
      refine ⟨by simp only [List.map_cons, List.cons_append, List.length_cons]; rw [ih.1], fun i x h => ?_⟩
      cases i with
      | zero =>
        simp only [List.map_cons, List.cons_append, List.getElem?_cons_zero, Option.some.injEq] at h
        subst h
        exact ⟨_, rfl, h1⟩
      | succ i =>
        simp only [List.map_cons, List.cons_append, List.getElem?_cons_succ] at h ⊢
        exact ih.2 i x h
  unfold startA L2.start
  rw [r.length]
  exact key _ r

/-! ### a def's body -/

/-! ### calls: the cells that are handed in, numbered anew -/
def ixOf (ks : List Nat) (k : Nat) : Nat := match ks with
  | [] => 0
  | j :: r => if j = k then 0 else ixOf r k + 1
def okA (ks : List Nat) : A → Bool
  | .d _ => true
  | .cell k => ks.contains k
def okC (ks : List Nat) : Cell → Bool
  | .lst _ => true
  | .obj _ fs => fs.all fun p => okA ks p.2
  | .dic kvs => kvs.all fun p => okA ks p.2
  | .did _ => true
  | .lsa xs => xs.all (okA ks)
  | .tpa xs => xs.all (okA ks)
  | .gone => true
def fwdA (ks : List Nat) : A → A
  | .d x => .d x
  | .cell k => .cell (ixOf ks k)
def fwdC (ks : List Nat) : Cell → Cell
  | .lst l => .lst l
  | .obj C fs => .obj C (fs.map fun (x, a) => (x, fwdA ks a))
  | .dic kvs => .dic (kvs.map fun (x, a) => (x, fwdA ks a))
  | .did kvs => .did kvs
  | .lsa xs => .lsa (xs.map (fwdA ks))
  | .tpa xs => .tpa (xs.map (fwdA ks))
  | .gone => .gone
/-- back: n cells stand in the caller -/
def bkN (ks : List Nat) (n j : Nat) : Nat := match ks[j]? with
  | some k => k
  | none => n + (j - ks.length)
def bkA (ks : List Nat) (n : Nat) : A → A
  | .d x => .d x
  | .cell j => .cell (bkN ks n j)
def bkC (ks : List Nat) (n : Nat) : Cell → Cell
  | .lst l => .lst l
  | .obj C fs => .obj C (fs.map fun (x, a) => (x, bkA ks n a))
  | .dic kvs => .dic (kvs.map fun (x, a) => (x, bkA ks n a))
  | .did kvs => .did kvs
  | .lsa xs => .lsa (xs.map (bkA ks n))
  | .tpa xs => .tpa (xs.map (bkA ks n))
  | .gone => .gone
def nodupB : List Nat → Bool
  | [] => true
  | k :: r => !(r.contains k) && nodupB r
def okCall (ks : List Nat) (xs : List A) (M : Mem) : Bool := nodupB ks && (xs.all (okA ks) && ks.all fun k => match M[k]? with
  | some c => okC ks c
  | none => false)
def pick (ks : List Nat) (M : Mem) : Mem := ks.map fun k => match M[k]? with
  | some c => fwdC ks c
  | none => .gone
def putAll : Mem → List Nat → Mem → Mem
  | M, k :: ks, c :: cs => putAll (M.set k c) ks cs
  | M, _, _ => M
/-- the caller's cells behind the call -/
def putBk (ks : List Nat) (M M1 : Mem) : Mem := putAll M ks ((M1.take ks.length).map (bkC ks M.length)) ++ (M1.drop ks.length).map (bkC ks M.length)
theorem nodupB_ok : ∀ {ks : List Nat}, nodupB ks = true → ks.Nodup
  | [], _ => List.nodup_nil
  | k :: r, h => by
    unfold nodupB at h
    rw [Bool.and_eq_true, Bool.not_eq_true'] at h
    refine List.nodup_cons.mpr ⟨fun z => ?_, nodupB_ok h.2⟩
    have : r.contains k = true := List.contains_iff_mem.mpr z
    rw [h.1] at this; cases this
theorem ixOf_get : ∀ {ks : List Nat} {k : Nat}, k ∈ ks → ks[ixOf ks k]? = some k
  | [], _, h => by cases h
  | j :: r, k, h => by
    unfold ixOf
    split
    · rename_i e; subst e; rfl
    · rename_i e
      rcases List.mem_cons.mp h with h | h
      · exact absurd h.symm e
      · rw [List.getElem?_cons_succ]; exact ixOf_get h
theorem putAll_len : ∀ {M : Mem} {ks : List Nat} {cs : Mem}, (putAll M ks cs).length = M.length
  | M, [], cs => by unfold putAll; rfl
  | M, k :: ks, [] => by unfold putAll; rfl
  | M, k :: ks, c :: cs => by unfold putAll; rw [putAll_len, List.length_set]
theorem putAll_out : ∀ {M : Mem} {ks : List Nat} {cs : Mem} {k : Nat}, k ∉ ks → (putAll M ks cs)[k]? = M[k]?
  | M, [], cs, k, h => by unfold putAll; rfl
  | M, j :: ks, [], k, h => by unfold putAll; rfl
  | M, j :: ks, c :: cs, k, h => by
    unfold putAll
    rw [putAll_out (fun z => h (List.mem_cons_of_mem _ z)), List.getElem?_set_ne (fun e => h (by rw [e]; exact List.mem_cons_self))]
theorem putAll_in : ∀ {M : Mem} {ks : List Nat} {cs : Mem} {j k : Nat}, ks.Nodup → ks[j]? = some k → k < M.length → j < cs.length → (putAll M ks cs)[k]? = cs[j]?
  | M, [], cs, j, k, _, h, _, _ => by simp at h
  | M, i :: ks, [], j, k, _, h, _, hc => by simp at hc
  | M, i :: ks, c :: cs, 0, k, nd, h, hk, hc => by
    simp at h; subst h
    unfold putAll
    rw [putAll_out (List.nodup_cons.mp nd).1, List.getElem?_set_self hk]; rfl
  | M, i :: ks, c :: cs, j + 1, k, nd, h, hk, hc => by
    unfold putAll
    rw [putAll_in (j := j) (List.nodup_cons.mp nd).2 (by simpa using h) (by rw [List.length_set]; exact hk) (by simpa using hc)]; rfl
section
variable {K : PySem.W.Frag}
theorem fwdA_rep {ks : List Nat} {al : List Addr} {I : Hp} {x : A} {v : V} (hb : ∀ k ∈ ks, k < al.length) (h : okA ks x = true) (r : RepA K al I x v) : RepA K (ks.map fun k => al.getD k 0) I (fwdA ks x) v := by
  cases r with
  | d r => exact .d r
  | @cell k a e =>
    have hk : k ∈ ks := List.contains_iff_mem.mp h
    refine .cell ?_
    rw [List.getElem?_map, ixOf_get hk]
    simp [List.getD, e]
theorem fwdAs_rep {ks : List Nat} {al : List Addr} {I : Hp} (hb : ∀ k ∈ ks, k < al.length) : ∀ {xs : List A} {vs : List V}, xs.all (okA ks) = true → RepAs K al I xs vs → RepAs K (ks.map fun k => al.getD k 0) I (xs.map (fwdA ks)) vs
  | _, _, _, .nil => .nil
  | x :: xs, _, h, .cons r1 r2 => by
    rw [List.all_cons, Bool.and_eq_true] at h
    exact .cons (fwdA_rep hb h.1 r1) (fwdAs_rep hb h.2 r2)
theorem fwdAF_rep {ks : List Nat} {al : List Addr} {I : Hp} (hb : ∀ k ∈ ks, k < al.length) : ∀ {xs : List (Str × A)} {vs : List (Str × V)}, (xs.all fun p => okA ks p.2) = true → RepAF K al I xs vs → RepAF K (ks.map fun k => al.getD k 0) I (xs.map fun p => (p.1, fwdA ks p.2)) vs
  | _, _, _, .nil => .nil
  | x :: xs, _, h, .cons r1 r2 => by
    rw [List.all_cons, Bool.and_eq_true] at h
    exact .cons (fwdA_rep hb h.1 r1) (fwdAF_rep hb h.2 r2)
theorem fwdAK_rep {ks : List Nat} {al : List Addr} {I : Hp} (hb : ∀ k ∈ ks, k < al.length) : ∀ {xs : List (Key × A)} {vs : List (Key × V)}, (xs.all fun p => okA ks p.2) = true → RepAK K al I xs vs → RepAK K (ks.map fun k => al.getD k 0) I (xs.map fun p => (p.1, fwdA ks p.2)) vs
  | _, _, _, .nil => .nil
  | x :: xs, _, h, .cons r1 r2 => by
    rw [List.all_cons, Bool.and_eq_true] at h
    exact .cons (fwdA_rep hb h.1 r1) (fwdAK_rep hb h.2 r2)
/-- from the callee's cells to the caller's -/
structure BkOk (ks : List Nat) (al al1 al2 : List Addr) (n : Nat) : Prop where
  get : ∀ (j : Nat) (a : Addr), al1[j]? = some a → al2[bkN ks n j]? = some a
theorem bkA_rep {ks : List Nat} {al al1 al2 : List Addr} {n : Nat} {I : Hp} {x : A} {v : V} (B : BkOk ks al al1 al2 n) (r : RepA K al1 I x v) : RepA K al2 I (bkA ks n x) v := by
  cases r with
  | d r => exact .d r
  | cell e => exact .cell (B.get _ _ e)
theorem bkAF_rep {ks : List Nat} {al al1 al2 : List Addr} {n : Nat} {I : Hp} (B : BkOk ks al al1 al2 n) : ∀ {xs : List (Str × A)} {vs : List (Str × V)}, RepAF K al1 I xs vs → RepAF K al2 I (xs.map fun p => (p.1, bkA ks n p.2)) vs
  | _, _, .nil => .nil
  | x :: xs, _, .cons r1 r2 => .cons (bkA_rep B r1) (bkAF_rep B r2)
theorem bkAK_rep {ks : List Nat} {al al1 al2 : List Addr} {n : Nat} {I : Hp} (B : BkOk ks al al1 al2 n) : ∀ {xs : List (Key × A)} {vs : List (Key × V)}, RepAK K al1 I xs vs → RepAK K al2 I (xs.map fun p => (p.1, bkA ks n p.2)) vs
  | _, _, .nil => .nil
  | x :: xs, _, .cons r1 r2 => .cons (bkA_rep B r1) (bkAK_rep B r2)
theorem bkAs_rep {ks : List Nat} {al al1 al2 : List Addr} {n : Nat} {I : Hp} (B : BkOk ks al al1 al2 n) : ∀ {xs : List A} {vs : List V}, RepAs K al1 I xs vs → RepAs K al2 I (xs.map (bkA ks n)) vs
  | _, _, .nil => .nil
  | x :: xs, _, .cons r1 r2 => .cons (bkA_rep B r1) (bkAs_rep B r2)
theorem bkC_has {ks : List Nat} {al al1 al2 : List Addr} {n : Nat} {I H : Hp} {a : Addr} {c : Cell} (B : BkOk ks al al1 al2 n) (h : HasC K al1 I H a c) : HasC K al2 I H a (bkC ks n c) := by
  cases c with
  | lst l => exact h
  | obj C fs => obtain ⟨h0, dx, gs, h1, h2⟩ := h; exact ⟨h0, dx, gs, h1, bkAF_rep B h2⟩
  | dic kvs => obtain ⟨h0, gs, h1, h2⟩ := h; exact ⟨h0, gs, h1, bkAK_rep B h2⟩
  | did kvs => exact h
  | lsa xs => obtain ⟨h0, gs, h1, h2⟩ := h; exact ⟨h0, gs, h1, bkAs_rep B h2⟩
  | tpa xs => obtain ⟨h0, gs, h1, h2⟩ := h; exact ⟨h0, gs, h1, bkAs_rep B h2⟩
  | gone => trivial
theorem fwdC_has {ks : List Nat} {al : List Addr} {I H : Hp} {a : Addr} {c : Cell} (hb : ∀ k ∈ ks, k < al.length) (hc : okC ks c = true) (h : HasC K al I H a c) : HasC K (ks.map fun k => al.getD k 0) I H a (fwdC ks c) := by
  cases c with
  | lst l => exact h
  | obj C fs => obtain ⟨h0, dx, gs, h1, h2⟩ := h; exact ⟨h0, dx, gs, h1, fwdAF_rep hb hc h2⟩
  | dic kvs => obtain ⟨h0, gs, h1, h2⟩ := h; exact ⟨h0, gs, h1, fwdAK_rep hb hc h2⟩
  | did kvs => exact h
  | lsa xs => obtain ⟨h0, gs, h1, h2⟩ := h; exact ⟨h0, gs, h1, fwdAs_rep hb hc h2⟩
  | tpa xs => obtain ⟨h0, gs, h1, h2⟩ := h; exact ⟨h0, gs, h1, fwdAs_rep hb hc h2⟩
  | gone => trivial
theorem nodup_map_inj {α β : Type} {f : α → β} : ∀ {l : List α}, l.Nodup → (∀ x ∈ l, ∀ y ∈ l, f x = f y → x = y) → (l.map f).Nodup
  | [], _, _ => List.nodup_nil
  | x :: l, nd, hf => by
    rw [List.map_cons, List.nodup_cons]
    refine ⟨fun z => ?_, nodup_map_inj (List.nodup_cons.mp nd).2 fun a ha c hc e => hf a (List.mem_cons_of_mem _ ha) c (List.mem_cons_of_mem _ hc) e⟩
    obtain ⟨y, hy, e⟩ := List.mem_map.mp z
    have := hf y (List.mem_cons_of_mem _ hy) x List.mem_cons_self e
    subst this
    exact (List.nodup_cons.mp nd).1 hy
theorem nd_get {al : List Addr} (nd : al.Nodup) {i j : Nat} {a : Addr} (h : al[i]? = some a) (g : al[j]? = some a) : i = j := by
  obtain ⟨h1, e1⟩ := List.getElem?_eq_some_iff.mp h
  obtain ⟨h2, e2⟩ := List.getElem?_eq_some_iff.mp g
  exact (List.getElem_inj nd).mp (e1.trans e2.symm)
/-- THE CALL: what the callee wants of the caller's state -/
theorem call_in {b : Wd} {M : Mem} {xs : List A} {vs : List V} {ks : List Nat} (ok : Ok K b M) (r : RepAs K b.al b.I xs vs) (hc : okCall ks xs M = true) :
    (∀ k ∈ ks, k < b.al.length) ∧ Ok K ⟨b.I, ks.map fun k => b.al.getD k 0, b.H⟩ (pick ks M) ∧ RepAs K (ks.map fun k => b.al.getD k 0) b.I (xs.map (fwdA ks)) vs := by
  unfold okCall at hc
  rw [Bool.and_eq_true, Bool.and_eq_true] at hc
  obtain ⟨h1, h2, h3⟩ := hc
  have nd := nodupB_ok h1
  have h4 : ∀ k ∈ ks, ∃ c, M[k]? = some c ∧ okC ks c = true := fun k hk => by
    have h5 := List.all_eq_true.mp h3 k hk
    cases e : M[k]? with
    | none => rw [e] at h5; cases h5
    | some c => rw [e] at h5; exact ⟨c, rfl, h5⟩
  have hb : ∀ k ∈ ks, k < b.al.length := fun k hk => by
    obtain ⟨c, e, _⟩ := h4 k hk
    rw [ok.len]; exact (List.getElem?_eq_some_iff.mp e).1
  have hget : ∀ k, k < b.al.length → b.al[k]? = some (b.al.getD k 0) := fun k hk => by simp [List.getD, hk]
  refine ⟨hb, ⟨ok.ih, by unfold pick; simp, ?_, ?_, ?_⟩, fwdAs_rep hb h2 r⟩
  · exact nodup_map_inj nd fun x hx y hy e => nd_get ok.nd (hget x (hb x hx)) (by rw [e]; exact hget y (hb y hy))
  · intro j a e
    rw [List.getElem?_map] at e
    cases ej : ks[j]? with
    | none => rw [ej] at e; cases e
    | some k =>
      rw [ej] at e
      cases e
      exact ok.dom k _ (hget k (hb k (List.mem_of_getElem? ej)))
  · intro j a c e e2
    rw [List.getElem?_map] at e
    unfold pick at e2
    rw [List.getElem?_map] at e2
    cases ej : ks[j]? with
    | none => rw [ej] at e; cases e
    | some k =>
      rw [ej] at e e2
      cases e
      have hk := List.mem_of_getElem? ej
      obtain ⟨c0, e0, o0⟩ := h4 k hk
      have e3 : c = fwdC ks c0 := by
        simp only [Option.map_some, e0, Option.some.injEq] at e2
        exact e2.symm
      subst e3
      exact fwdC_has hb o0 (ok.at_ k _ c0 (hget k (hb k hk)) e0)
/-- .. and how the caller's state is behind it -/
theorem call_out {b b1 : Wd} {M M1 : Mem} {ks : List Nat} (ok : Ok K b M) (nd : ks.Nodup) (hb : ∀ k ∈ ks, k < b.al.length) (t : To ⟨b.I, ks.map fun k => b.al.getD k 0, b.H⟩ b1) (ok1 : Ok K b1 M1) :
    ∃ b2 : Wd, b2.H = b1.H ∧ b2.I = b1.I ∧ To b b2 ∧ Ok K b2 (putBk ks M M1) ∧ BkOk ks b.al b1.al b2.al M.length := by
  obtain ⟨tl, htl⟩ := t.pre
  have htl' : b1.al = (ks.map fun k => b.al.getD k 0) ++ tl := htl
  have hget : ∀ k, k < b.al.length → b.al[k]? = some (b.al.getD k 0) := fun k hk => by simp [List.getD, hk]
  have sub : ∀ x, x ∈ (ks.map fun k => b.al.getD k 0) → x ∈ b.al := fun x hx => by
    obtain ⟨k, hk, rfl⟩ := List.mem_map.mp hx
    exact List.mem_of_getElem? (hget k (hb k hk))
  have nd1 := ok1.nd
  rw [htl', List.nodup_append] at nd1
  obtain ⟨nda, ndt, ndx⟩ := nd1
  have hnew : ∀ x ∈ tl, b.H x = none := fun x hx => by
    have hm : x ∈ b1.al := by rw [htl']; exact List.mem_append_right _ hx
    rcases t.new x hm with z | z
    · exact absurd rfl (ndx x z x hx)
    · exact z
  have l1 : b1.al.length = M1.length := ok1.len
  have l2 : b1.al.length = ks.length + tl.length := by rw [htl']; simp
  have B : BkOk ks b.al b1.al (b.al ++ tl) M.length := ⟨fun j a e => by
    rw [htl'] at e
    unfold bkN
    cases ej : ks[j]? with
    | some k =>
      have hj := (List.getElem?_eq_some_iff.mp ej).1
      rw [List.getElem?_append_left (by simpa using hj), List.getElem?_map, ej] at e
      cases e
      have hk := hb k (List.mem_of_getElem? ej)
      show (b.al ++ tl)[k]? = _
      rw [List.getElem?_append_left hk]; exact hget k hk
    | none =>
      have hj := List.getElem?_eq_none_iff.mp ej
      rw [List.getElem?_append_right (by simpa using hj)] at e
      show (b.al ++ tl)[M.length + (j - ks.length)]? = _
      rw [List.getElem?_append_right (by rw [ok.len]; omega)]
      have : M.length + (j - ks.length) - b.al.length = j - (ks.map fun k => b.al.getD k 0).length := by rw [ok.len]; simp
      rw [this]; exact e⟩
  refine ⟨⟨b1.I, b.al ++ tl, b1.H⟩, rfl, rfl, ⟨t.same, fun x o e n => t.fr x o e fun z => n (sub x z), t.fresh, t.dom, ⟨tl, rfl⟩, fun x (e : x ∈ b.al ++ tl) => ?_⟩, ⟨ok1.ih, ?_, ?_, ?_, ?_⟩, B⟩
  · rcases List.mem_append.mp e with e | e
    · exact .inl e
    · exact .inr (hnew x e)
  · show (b.al ++ tl).length = (putBk ks M M1).length
    unfold putBk
    rw [List.length_append, List.length_append, putAll_len, List.length_map, List.length_drop, ok.len]
    omega
  · show (b.al ++ tl).Nodup
    rw [List.nodup_append]
    exact ⟨ok.nd, ndt, fun x hx y hy e => by subst e; exact ok.nin (hnew x hy) hx⟩
  · intro k a (e : (b.al ++ tl)[k]? = some a) z
    rcases List.mem_append.mp (List.mem_of_getElem? e) with m | m
    · obtain ⟨i, hi⟩ := List.getElem?_of_mem m
      exact ok.dom i a hi (t.dom a z)
    · have hm : a ∈ b1.al := by rw [htl']; exact List.mem_append_right _ m
      obtain ⟨i, hi⟩ := List.getElem?_of_mem hm
      exact ok1.dom i a hi z
  · intro k a c (e : (b.al ++ tl)[k]? = some a) e2
    show HasC K (b.al ++ tl) b1.I b1.H a c
    unfold putBk at e2
    by_cases hk : k < M.length
    · rw [List.getElem?_append_left (by rw [putAll_len]; exact hk)] at e2
      rw [List.getElem?_append_left (by rw [ok.len]; exact hk)] at e
      by_cases hm : k ∈ ks
      · obtain ⟨j, hj⟩ := List.getElem?_of_mem hm
        have hjl := (List.getElem?_eq_some_iff.mp hj).1
        have hjl' : ¬ List.length ks ≤ j := by omega
        rw [putAll_in nd hj hk (by rw [List.length_map, List.length_take]; omega), List.getElem?_map, List.getElem?_take, if_pos hjl] at e2
        have ea : b1.al[j]? = some a := by
          rw [htl', List.getElem?_append_left (by simpa using hjl), List.getElem?_map, hj]
          have := hget k (hb k hm)
          rw [e] at this
          exact this.symm
        cases ec : M1[j]? with
        | none => rw [ec] at e2; cases e2
        | some c1 =>
          rw [ec] at e2
          cases e2
          exact bkC_has B (ok1.at_ j a c1 ea ec)
      · rw [putAll_out hm] at e2
        have q := ok.at_ k a c e e2
        have na : a ∉ (ks.map fun k => b.al.getD k 0) := fun z => by
          obtain ⟨i, hi, ei⟩ := List.mem_map.mp z
          have := nd_get ok.nd e (by rw [← ei]; exact hget i (hb i hi))
          subst this
          exact hm hi
        have hH : b1.H a = b.H a := by
          cases eh : b.H a with
          | none => exact absurd eh (ok.dom k a e)
          | some o => exact t.fr a o eh na
        cases c with
        | gone => trivial
        | lst _ =>
          refine q.mono t.same ⟨tl, rfl⟩ ?_ hH
          cases ei : b1.I a with
          | none => rfl
          | some o => exact absurd (t.fresh a q.1 (by rw [ei]; exact fun z => nomatch z)) (ok.dom k a e)
        | obj _ _ =>
          refine q.mono t.same ⟨tl, rfl⟩ ?_ hH
          cases ei : b1.I a with
          | none => rfl
          | some o => exact absurd (t.fresh a q.1 (by rw [ei]; exact fun z => nomatch z)) (ok.dom k a e)
        | dic _ =>
          refine q.mono t.same ⟨tl, rfl⟩ ?_ hH
          cases ei : b1.I a with
          | none => rfl
          | some o => exact absurd (t.fresh a q.1 (by rw [ei]; exact fun z => nomatch z)) (ok.dom k a e)
        | did _ =>
          refine q.mono t.same ⟨tl, rfl⟩ ?_ hH
          cases ei : b1.I a with
          | none => rfl
          | some o => exact absurd (t.fresh a q.1 (by rw [ei]; exact fun z => nomatch z)) (ok.dom k a e)
        | lsa _ =>
          refine q.mono t.same ⟨tl, rfl⟩ ?_ hH
          cases ei : b1.I a with
          | none => rfl
          | some o => exact absurd (t.fresh a q.1 (by rw [ei]; exact fun z => nomatch z)) (ok.dom k a e)
        | tpa _ =>
          refine q.mono t.same ⟨tl, rfl⟩ ?_ hH
          cases ei : b1.I a with
          | none => rfl
          | some o => exact absurd (t.fresh a q.1 (by rw [ei]; exact fun z => nomatch z)) (ok.dom k a e)
    · rw [List.getElem?_append_right (by rw [putAll_len]; omega), List.getElem?_map, List.getElem?_drop, putAll_len] at e2
      rw [List.getElem?_append_right (by rw [ok.len]; omega), ok.len] at e
      have ea : b1.al[ks.length + (k - M.length)]? = some a := by
        rw [htl', List.getElem?_append_right (by simp)]
        simp only [List.length_map, Nat.add_sub_cancel_left]
        exact e
      cases ec : M1[ks.length + (k - M.length)]? with
      | none => rw [ec] at e2; cases e2
      | some c1 =>
        rw [ec] at e2
        cases e2
        exact bkC_has B (ok1.at_ _ a c1 ea ec)
/-- a call of a def that raises nothing -/
def Acall (sp : ASp) (ks : List Nat) (xs : List A) (M : Mem) (Q : A → Mem → Prop) : Prop := match okCall ks xs M with
  | true => sp (xs.map (fwdA ks)) (pick ks M) (fun z M1 => Q (bkA ks M.length z) (putBk ks M M1)) (fun _ _ _ => False)
  | false => False
theorem conc_call {W b : Wd} {M : Mem} {xs : List A} {vs : List V} {ks : List Nat} {sp : ASp} {QA : A → Mem → Prop} {Q : VK} (t : To W b) (ok : Ok K b M) (r : RepAs K b.al b.I xs vs) (h : Acall sp ks xs M QA)
    (k : ∀ b' M' z w, To W b' → Ok K b' M' → Step b b' → RepA K b'.al b'.I z w → QA z M' → Q w b'.H) : conc K sp vs b.H Q E0 := by
  unfold Acall at h
  cases hc : okCall ks xs M with
  | false => rw [hc] at h; exact h.elim
  | true =>
    rw [hc] at h
    obtain ⟨hb, ok0, r0⟩ := call_in ok r hc
    have nd : ks.Nodup := by
      unfold okCall at hc
      rw [Bool.and_eq_true] at hc
      exact nodupB_ok hc.1
    refine ⟨⟨b.I, ks.map fun k => b.al.getD k 0, b.H⟩, _, _, _, _, rfl, ok0, r0, h, fun b1 M1 x v t1 ok1 r1 q => ?_, fun _ _ _ _ _ _ _ _ _ _ q => q.elim⟩
    obtain ⟨b2, e2, eI, t2, ok2, B⟩ := call_out ok nd hb t1 ok1
    rw [← e2]
    rw [← eI] at r1
    exact k b2 _ _ v (t.trans t2) ok2 t2 (bkA_rep B r1) q
end
end G

set_option Elab.async false
set_option linter.all false
set_option maxRecDepth 100000
namespace G
open PySem PySem.Spec PyProof.Rows L2

section
variable {K : PySem.W.Frag} {W : Wd}
/-! ### calls -/
def aCall (sp : ASp) (dv : List D) (ks : List Nat) (as : Aa) : Ae := fun E M Q => as E M fun xs M1 => Acall sp ks (xs ++ dv.map A.d) M1 Q
theorem RepAs.app {al : List Addr} {I : Hp} : ∀ {xs ys : List A} {vs us : List V}, RepAs K al I xs vs → RepAs K al I ys us → RepAs K al I (xs ++ ys) (vs ++ us)
  | _, _, _, _, .nil, s => s
  | _, _, _, _, .cons r t, s => .cons r (RepAs.app t s)
theorem reps_d {al : List Addr} {I : Hp} : ∀ {xs : List D} {vs : List V}, Reps K I xs vs → RepAs K al I (xs.map A.d) vs
  | _, _, .nil => .nil
  | _, _, .cons r t => .cons (.d r) (reps_d t)
theorem se_call {sp : ASp} {dv : List D} {dvs : List V} {ks : List Nat} {t : TA} {as : Aa} (hd : ∀ I, Reps K I dv dvs) (h : SA K W t as) : SE K W (tCall (conc K sp) dvs E0 t) (aCall sp dv ks as) := by
  intro b M E σ QA Q t0 ok sl h1 k
  refine h b M E σ _ _ t0 ok sl h1 fun b1 M1 xs vs t1 ok1 s1 r1 h2 => ?_
  exact conc_call t1 ok1 (r1.app (reps_d (hd _))) h2 fun b2 M2 z w t2 ok2 s2 r2 q => k b2 M2 z w t2 ok2 (s1.trans s2) r2 q
/-- f(e, .., k = v, ..): g puts the positional values and the keywords' in the parameters' order -/
def aCallK (sp : ASp) (n m : Nat) (g : List A → List A → List A) (ks : List Nat) (as ak : Aa) : Ae := fun E M Q => as E M fun xs M1 => ak E M1 fun ys M2 => match decide (xs.length = n), decide (ys.length = m) with
  | true, true => Acall sp ks (g xs ys) M2 Q
  | _, _ => False
theorem se_callN {sp : ASp} {n m : Nat} {g : List A → List A → List A} {gV : List V → List V → List V} {ks : List Nat} {t tk : TA} {as ak : Aa} (hg : ∀ {al I xs ys vs us}, RepAs K al I xs vs → RepAs K al I ys us → RepAs K al I (g xs ys) (gV vs us)) (h : SA K W t as) (hk : SA K W tk ak) :
    SE K W (tCallN n m (conc K sp) gV E0 t tk) (aCallK sp n m g ks as ak) := by
  intro b M E σ QA Q t0 ok sl h1 k
  refine h b M E σ _ _ t0 ok sl h1 fun b1 M1 xs vs t1 ok1 s1 r1 h2 => ?_
  refine hk b1 M1 E σ _ _ t1 ok1 (sl.mono s1.same s1.pre) h2 fun b2 M2 ys us t2 ok2 s2 r2 h3 => ?_
  split at h3
  · rename_i e1 e2
    refine ⟨by rw [← r1.length]; exact of_decide_eq_true e1, by rw [← r2.length]; exact of_decide_eq_true e2, ?_⟩
    exact conc_call t2 ok2 (hg (r1.mono s2.same s2.pre) r2) h3 fun b3 M3 z w t3 ok3 s3 r3 q => k b3 M3 z w t3 ok3 ((s1.trans s2).trans s3) r3 q
  · exact h3.elim
/-- the class of an object, its fields' names -/
def objOf (x : A) (M : Mem) : Option (Addr × List Str) := match x with
  | .d (.obj C fs) => some (C, fs.map (·.1))
  | .cell k => match M[k]? with
    | some (.obj C fs) => some (C, fs.map (·.1))
    | _ => none
  | _ => none
def aMeth (C : Addr) (m : Str) (sp : ASp) (dv : List D) (ks : List Nat) (a : Ae) (as : Aa) : Ae := fun E M Q => a E M fun x M1 => match objOf x M1 with
  | some (C', ns) => Side (C' = C ∧ m ∉ ns) (as E M1 fun xs M2 => Acall sp ks (x :: (xs ++ dv.map A.d)) M2 Q)
  | none => False
theorem repF_names {I : Hp} : ∀ {fs : List (Str × D)} {gs : List (Str × V)}, RepF K I fs gs → gs.map (·.1) = fs.map (·.1)
  | _, _, .nil => rfl
  | _, _, .cons _ r => by rw [List.map_cons, List.map_cons, repF_names r]
theorem repAF_names {al : List Addr} {I : Hp} : ∀ {fs : List (Str × A)} {gs : List (Str × V)}, RepAF K al I fs gs → gs.map (·.1) = fs.map (·.1)
  | _, _, .nil => rfl
  | _, _, .cons _ r => by rw [List.map_cons, List.map_cons, repAF_names r]
theorem lookup_no {m : Str} : ∀ {gs : List (Str × V)}, m ∉ gs.map (·.1) → gs.lookup m = none
  | [], _ => rfl
  | (y, v) :: r, h => by
    rw [List.map_cons, List.mem_cons, not_or] at h
    have e : (m == y) = false := by simpa using h.1
    show (match m == y with | true => some v | false => r.lookup m) = none
    rw [e]
    exact lookup_no h.2
theorem objOf_at {b : Wd} {M : Mem} {x : A} {v : V} {C : Addr} {ns : List Str} (ok : Ok K b M) (r : RepA K b.al b.I x v) (h : objOf x M = some (C, ns)) : ∃ a dx gs, v = .ref a ∧ b.H a = some (.ins C dx gs) ∧ gs.map (·.1) = ns := by
  unfold objOf at h
  split at h
  · cases h
    cases repA_d r with
    | obj hp rf => exact ⟨_, _, _, rfl, ok.ih _ _ hp, repF_names rf⟩
  · split at h
    · cases h
      rename_i k C fs e
      obtain ⟨a, ha, rfl⟩ := cell_addr r
      obtain ⟨_, dx, gs, h1, h2⟩ := ok.at_ _ _ _ ha e
      exact ⟨a, dx, gs, rfl, h1, repAF_names h2⟩
    · cases h
  · cases h
theorem se_meth {C : Addr} {m : Str} {sp : ASp} {dv : List D} {dvs : List V} {ks : List Nat} {t : TE} {ts : TA} {a : Ae} {as : Aa} (hd : ∀ I, Reps K I dv dvs) (h : SE K W t a) (hs : SA K W ts as) : SE K W (tMeth C m (conc K sp) dvs E0 t ts) (aMeth C m sp dv ks a as) := by
  intro b M E σ QA Q t0 ok sl h1 k
  refine h b M E σ _ _ t0 ok sl h1 fun b1 M1 x v t1 ok1 s1 r1 h2 => ?_
  split at h2
  · rename_i C' ns e
    obtain ⟨⟨rfl, hn⟩, h2⟩ := h2
    obtain ⟨p, dx, gs, rfl, hp, en⟩ := objOf_at ok1 r1 e
    refine ⟨p, dx, gs, rfl, hp, lookup_no (by rw [en]; exact hn), hs b1 M1 E σ _ _ t1 ok1 (sl.mono s1.same s1.pre) h2 fun b2 M2 xs vs t2 ok2 s2 r2 h3 => ?_⟩
    exact conc_call t2 ok2 (.cons (r1.mono s2.same s2.pre) (r2.app (reps_d (hd _)))) h3 fun b3 M3 z w t3 ok3 s3 r3 q => k b3 M3 z w t3 ok3 ((s1.trans s2).trans s3) r3 q
  · exact h2.elim
/-- o.f -/
def lkD : List (Str × D) → Str → Option D
  | [], _ => none
  | (y, d) :: r, f => match decide (f = y) with
    | true => some d
    | false => lkD r f
def lkA : List (Str × A) → Str → Option A
  | [], _ => none
  | (y, d) :: r, f => match decide (f = y) with
    | true => some d
    | false => lkA r f
theorem lkD_rep {I : Hp} {f : Str} : ∀ {fs : List (Str × D)} {gs : List (Str × V)} {d : D}, RepF K I fs gs → lkD fs f = some d → ∃ v, gs.lookup f = some v ∧ Rep K I d v
  | _, _, _, .nil, e => by cases e
  | _, _, d, @RepF.cons _ _ x d' v ds vs r rs, e => by
    unfold lkD at e
    show ∃ w, (match f == x with | true => some v | false => List.lookup f vs) = some w ∧ Rep K I d w
    by_cases h : f = x
    · rw [decide_eq_true h] at e
      cases e
      have : (f == x) = true := by simpa using h
      rw [this]
      exact ⟨v, rfl, r⟩
    · rw [decide_eq_false h] at e
      have : (f == x) = false := by simpa using h
      rw [this]
      exact lkD_rep rs e
theorem lkA_rep {al : List Addr} {I : Hp} {f : Str} : ∀ {fs : List (Str × A)} {gs : List (Str × V)} {d : A}, RepAF K al I fs gs → lkA fs f = some d → ∃ v, gs.lookup f = some v ∧ RepA K al I d v
  | _, _, _, .nil, e => by cases e
  | _, _, d, @RepAF.cons _ _ _ x d' v ds vs r rs, e => by
    unfold lkA at e
    show ∃ w, (match f == x with | true => some v | false => List.lookup f vs) = some w ∧ RepA K al I d w
    by_cases h : f = x
    · rw [decide_eq_true h] at e
      cases e
      have : (f == x) = true := by simpa using h
      rw [this]
      exact ⟨v, rfl, r⟩
    · rw [decide_eq_false h] at e
      have : (f == x) = false := by simpa using h
      rw [this]
      exact lkA_rep rs e
/-- P: the classes that have this attribute as a field alone -/
def aFld (C : Addr) (f : Str) (a : Ae) : Ae := fun E M Q => a E M fun x M1 => match x with
  | .d (.obj C' fs) => match lkD fs f with
    | some d => Side (C' = C) (Q (.d d) M1)
    | none => False
  | .cell k => match M1[k]? with
    | some (.obj C' fs) => match lkA fs f with
      | some d => Side (C' = C) (Q d M1)
      | none => False
    | _ => False
  | _ => False
theorem se_fld {C : Addr} {f : Str} {t : TE} {a : Ae} (c : Cls K C) (n : NoAttr K C f) (h : SE K W t a) : SE K W (tFld K t f) (aFld C f a) := by
  intro b M E σ QA Q t0 ok sl h1 k
  refine h b M E σ _ _ t0 ok sl h1 fun b1 M1 x v t1 ok1 s1 r1 h2 => ?_
  split at h2
  · split at h2
    · rename_i e
      obtain ⟨rfl, h2⟩ := h2
      cases repA_d r1 with
      | obj hp rf =>
        obtain ⟨w, hw, rw_⟩ := lkD_rep rf e
        exact ⟨_, _, _, _, w, rfl, ok1.ih _ _ hp, c, n, hw, k b1 M1 _ _ t1 ok1 s1 (.d rw_) h2⟩
    · exact h2.elim
  · split at h2
    · rename_i e
      split at h2
      · rename_i e2
        obtain ⟨rfl, h2⟩ := h2
        obtain ⟨p, ha, rfl⟩ := cell_addr r1
        obtain ⟨_, dx, gs, h3, h4⟩ := ok1.at_ _ _ _ ha e
        obtain ⟨w, hw, rw_⟩ := lkA_rep h4 e2
        exact ⟨_, _, _, _, w, rfl, h3, c, n, hw, k b1 M1 _ _ t1 ok1 s1 rw_ h2⟩
      · exact h2.elim
    · exact h2.elim
  · exact h2.elim
/-! ### a cell is changed -/
theorem Ok.put {b : Wd} {M : Mem} {k : Nat} {a : Addr} {o : HO} {c : Cell} (ok : Ok K b M) (ha : b.al[k]? = some a) (hn : b.I a = none) (hc : HasC K b.al b.I (upd b.H a o) a c) : Ok K ⟨b.I, b.al, upd b.H a o⟩ (M.set k c) where
  ih := fun x w (e : b.I x = some w) => show upd b.H a o x = some w by
    have ne : x ≠ a := fun z => by subst z; rw [hn] at e; cases e
    rw [upd_ne ne]; exact ok.ih x w e
  len := by rw [List.length_set]; exact ok.len
  nd := ok.nd
  dom := fun j x e (z : upd b.H a o x = none) => by
    by_cases y : x = a
    · subst y; rw [upd_same] at z; cases z
    · rw [upd_ne y] at z; exact ok.dom j x e z
  at_ := fun j x c' (e1 : b.al[j]? = some x) e2 => show HasC K b.al b.I (upd b.H a o) x c' by
    by_cases hj : k = j
    · subst hj
      have hk : k < M.length := by rw [← ok.len]; exact (List.getElem?_eq_some_iff.mp ha).1
      rw [List.getElem?_set_self hk] at e2
      cases e2
      rw [ha] at e1
      cases e1
      exact hc
    · rw [List.getElem?_set_ne hj] at e2
      have ne : x ≠ a := fun z => hj (nd_get ok.nd ha (by rw [← z]; exact e1))
      have q := ok.at_ j x c' e1 e2
      cases c' with
      | gone => trivial
      | lst _ => exact q.mono (Same.refl _) (Pre.refl _) q.1 (by rw [upd_ne ne])
      | obj _ _ => exact q.mono (Same.refl _) (Pre.refl _) q.1 (by rw [upd_ne ne])
      | dic _ => exact q.mono (Same.refl _) (Pre.refl _) q.1 (by rw [upd_ne ne])
      | did _ => exact q.mono (Same.refl _) (Pre.refl _) q.1 (by rw [upd_ne ne])
      | lsa _ => exact q.mono (Same.refl _) (Pre.refl _) q.1 (by rw [upd_ne ne])
      | tpa _ => exact q.mono (Same.refl _) (Pre.refl _) q.1 (by rw [upd_ne ne])
theorem To.put {a0 b : Wd} {k : Nat} {a : Addr} {o : HO} (t : To a0 b) (ha : b.al[k]? = some a) : To a0 ⟨b.I, b.al, upd b.H a o⟩ where
  same := t.same
  fr := fun x w e n => by
    have z := t.fr x w e n
    have ne : x ≠ a := fun y => by
      subst y
      rcases t.new x (List.mem_of_getElem? ha) with m | m
      · exact n m
      · rw [m] at e; cases e
    show upd b.H a o x = some w
    rw [upd_ne ne]; exact z
  fresh := t.fresh
  dom := fun x (e : upd b.H a o x = none) => by
    by_cases z : x = a
    · subst z; rw [upd_same] at e; cases e
    · rw [upd_ne z] at e; exact t.dom x e
  pre := t.pre
  new := t.new
theorem step_put {b : Wd} {k : Nat} {a : Addr} {o : HO} (ha : b.al[k]? = some a) : Step b ⟨b.I, b.al, upd b.H a o⟩ := (To.refl b).put ha
/-- a cell stands still from now on -/
theorem Ok.freeze {b : Wd} {M : Mem} {k : Nat} {a : Addr} {vs : List V} {ds : List D} (ok : Ok K b M) (ha : b.al[k]? = some a) (hc : M[k]? = some (.lst ds)) (hv : b.H a = some (.lst vs)) (r : Reps K b.I ds vs) (hn : b.I a = none) : Ok K ⟨upd b.I a (.lst vs), b.al, b.H⟩ (M.set k .gone) where
  ih := fun x w (e : upd b.I a (.lst vs) x = some w) => show b.H x = some w by
    by_cases z : x = a
    · subst z; rw [upd_same] at e; rw [← e]; exact hv
    · rw [upd_ne z] at e; exact ok.ih x w e
  len := by rw [List.length_set]; exact ok.len
  nd := ok.nd
  dom := ok.dom
  at_ := fun j x c' (e1 : b.al[j]? = some x) e2 => show HasC K b.al (upd b.I a (.lst vs)) b.H x c' by
    by_cases hj : k = j
    · subst hj
      have hk : k < M.length := by rw [← ok.len]; exact (List.getElem?_eq_some_iff.mp ha).1
      rw [List.getElem?_set_self hk] at e2
      cases e2
      trivial
    · rw [List.getElem?_set_ne hj] at e2
      have ne : x ≠ a := fun z => hj (nd_get ok.nd ha (by rw [← z]; exact e1))
      have q := ok.at_ j x c' e1 e2
      cases c' with
      | gone => trivial
      | lst _ => exact q.mono (same_new hn) (Pre.refl _) (by rw [upd_ne ne]; exact q.1) rfl
      | obj _ _ => exact q.mono (same_new hn) (Pre.refl _) (by rw [upd_ne ne]; exact q.1) rfl
      | dic _ => exact q.mono (same_new hn) (Pre.refl _) (by rw [upd_ne ne]; exact q.1) rfl
      | did _ => exact q.mono (same_new hn) (Pre.refl _) (by rw [upd_ne ne]; exact q.1) rfl
      | lsa _ => exact q.mono (same_new hn) (Pre.refl _) (by rw [upd_ne ne]; exact q.1) rfl
      | tpa _ => exact q.mono (same_new hn) (Pre.refl _) (by rw [upd_ne ne]; exact q.1) rfl
theorem To.freeze {a0 b : Wd} {k : Nat} {a : Addr} {o : HO} (t : To a0 b) (ha : b.al[k]? = some a) (hk : a0.al.length ≤ k) (nd : b.al.Nodup) (hn : b.I a = none) : To a0 ⟨upd b.I a o, b.al, b.H⟩ where
  same := t.same.trans (same_new hn)
  fr := t.fr
  fresh := fun x e (n : upd b.I a o x ≠ none) => by
    by_cases z : x = a
    · subst z
      rcases t.new x (List.mem_of_getElem? ha) with m | m
      · exfalso
        obtain ⟨j, hj⟩ := List.getElem?_of_mem m
        have hj2 := t.pre.get hj
        have e := nd_get nd ha hj2
        have := (List.getElem?_eq_some_iff.mp hj).1
        omega
      · exact m
    · rw [upd_ne z] at n; exact t.fresh x e n
  dom := t.dom
  pre := t.pre
  new := t.new
end
end G

set_option Elab.async false
set_option linter.all false
set_option maxRecDepth 100000
namespace G
open PySem PySem.Spec PyProof.Rows L2

/-! ### == of plain data -/
mutual
def toPy : D → PyData
  | .non => .none
  | .bl b => .bool b
  | .int i => .int i
  | .str s => .str s
  | .tup l => .tuple (toPys l)
  | .lst l => .list (toPys l)
  | .scr l => .list (l.map .int)
  | .obj _ _ => .dict []
  | .vl _ => .dict []
  | .exc _ _ => .dict []
  | .dic _ => .dict []
def toPys : List D → List PyData
  | [] => []
  | x :: l => toPy x :: toPys l
end
mutual
/-- what == may be asked of -/
def okE : D → Bool
  | .non => true
  | .bl _ => true
  | .int _ => true
  | .str _ => true
  | .tup l => okEs l
  | .lst l => okEs l
  | .scr _ => true
  | .obj _ _ => false
  | .vl _ => false
  | .exc _ _ => false
  | .dic _ => false
def okEs : List D → Bool
  | [] => true
  | x :: l => okE x && okEs l
end
def eqD (a b : D) : Bool := PyData.eqv (toPy a) (toPy b)
def shE (a : D) : Bool := okE a && SeqAt.shaped (toPy a)
def ng (neg b : Bool) : Bool := match neg with
  | true => !b
  | false => b
section
variable {K : PySem.W.Frag} {W : Wd} {I H : Hp}
theorem dp_ints : ∀ (ns : List Int), DpAll K H (ns.map V.int) (ns.map .int)
  | [] => .nil
  | n :: ns => .cons (.int n) (dp_ints ns)
mutual
theorem rep_dp (s : Same I H) : ∀ {d : D} {v : V}, okE d = true → Rep K I d v → Dp K H v (toPy d)
  | _, _, _, .non => by unfold toPy; exact .non
  | _, _, _, .bl b => by unfold toPy; exact .bl b
  | _, _, _, .int i => by unfold toPy; exact .int i
  | _, _, _, .str x => by unfold toPy; exact .str x
  | _, _, h, .tup hp r => by unfold toPy; unfold okE at h; exact .tup (same_t s hp) (reps_dp s h r)
  | _, _, h, .lst hp r => by unfold toPy; unfold okE at h; exact .lst (SqL.of (s _ _ hp)) (reps_dp s h r)
  | _, _, _, .scr hp => by unfold toPy; exact .lst (same_l s hp) (dp_ints _)
  | _, _, h, .obj _ _ => by unfold okE at h; cases h
  | _, _, h, .vl _ => by unfold okE at h; cases h
  | _, _, h, .exc _ _ _ => by unfold okE at h; cases h
  | _, _, h, .dic _ _ => by unfold okE at h; cases h
theorem reps_dp (s : Same I H) : ∀ {d : List D} {v : List V}, okEs d = true → Reps K I d v → DpAll K H v (toPys d)
  | _, _, _, .nil => by unfold toPys; exact .nil
  | _, _, h, .cons r rs => by
    unfold okEs at h
    rw [Bool.and_eq_true] at h
    unfold toPys
    exact .cons (rep_dp s h.1 r) (reps_dp s h.2 rs)
end
/-- neg: != -/
def aEq (neg : Bool) : A2 := fun x y M Q => match x, y with
  | .d (.int i), .d (.int j) => Q (.d (.bl (ng neg (decide (i = j))))) M
  | .d (.str i), .d (.str j) => Q (.d (.bl (ng neg (decide (i = j))))) M
  | .d (.bl i), .d (.bl j) => Q (.d (.bl (ng neg (decide (i = j))))) M
  | .d .non, .d .non => Q (.d (.bl (!neg))) M
  | .d a, .d b => Side (shE a = true ∧ shE b = true) (Q (.d (.bl (ng neg (eqD a b)))) M)
  | _, _ => False
def rEqA (K : PySem.W.Frag) (neg : Bool) : R2 := match neg with
  | true => fun x y H Q => rNe x y H Q ∨ rNeD K x y H Q
  | false => fun x y H Q => rEq x y H Q ∨ rEqD K x y H Q
theorem opR_or {X : Cx} {f : Value → Value → Sem Value} {r r' : R2} (h : OpR X f r) (h' : OpR X f r') : OpR X f (fun x y H Q => r x y H Q ∨ r' x y H Q) := by
  intro pins s σ H x y v u Q I rx ry q
  rcases q with q | q
  · exact h pins s σ H x y v u Q I rx ry q
  · exact h' pins s σ H x y v u Q I rx ry q
theorem dec_v {α : Type} [DecidableEq α] {f : α → V} (inj : ∀ a b, f a = f b → a = b) (i j : α) : decide (f i = f j) = decide (i = j) := by
  by_cases e : i = j
  · subst e; simp
  · rw [decide_eq_false e, decide_eq_false fun z => e (inj _ _ z)]
theorem s2_eq {neg : Bool} : S2 K W (rEqA K neg) (aEq neg) := by
  intro b M x y v u QA Q t ok r1 r2 h k
  have scalars : ∀ (x y : D) (v u : V) (c : Bool), Rep K b.I x v → Rep K b.I y u → scal v u = true → decide (v = u) = c → QA (.d (.bl (ng neg (c)))) M → rEqA K neg v u b.H Q := by
    intro x y v u c _ _ hs hc q
    cases neg with
    | true => exact .inl ⟨hs, by rw [hc]; exact k b M _ _ t ok (Step.refl _) (.d (.bl _)) q⟩
    | false => exact .inl ⟨hs, by rw [hc]; exact k b M _ _ t ok (Step.refl _) (.d (.bl _)) q⟩
  unfold aEq at h
  split at h
  · cases rep_int_inv (repA_d r1); cases rep_int_inv (repA_d r2)
    exact scalars _ _ _ _ _ (repA_d r1) (repA_d r2) rfl (dec_v (fun _ _ z => by injection z) _ _) h
  · cases rep_str_inv (repA_d r1); cases rep_str_inv (repA_d r2)
    exact scalars _ _ _ _ _ (repA_d r1) (repA_d r2) rfl (dec_v (fun _ _ z => by injection z) _ _) h
  · cases rep_bl_inv (repA_d r1); cases rep_bl_inv (repA_d r2)
    exact scalars _ _ _ _ _ (repA_d r1) (repA_d r2) rfl (dec_v (fun _ _ z => by injection z) _ _) h
  · cases rep_non_inv (repA_d r1); cases rep_non_inv (repA_d r2)
    refine scalars _ _ _ _ true (repA_d r1) (repA_d r2) rfl rfl ?_
    cases neg <;> exact h
  · obtain ⟨⟨h1, h2⟩, q⟩ := h
    unfold shE at h1 h2
    rw [Bool.and_eq_true] at h1 h2
    have d1 := rep_dp ok.ih h1.1 (repA_d r1)
    have d2 := rep_dp ok.ih h2.1 (repA_d r2)
    cases neg with
    | true => exact .inr ⟨_, _, d1, d2, h1.2, h2.2, k b M _ _ t ok (Step.refl _) (.d (.bl _)) q⟩
    | false => exact .inr ⟨_, _, d1, d2, h1.2, h2.2, k b M _ _ t ok (Step.refl _) (.d (.bl _)) q⟩
  · exact h.elim
/-! ### is None -/
def isNon : A → Bool
  | .d .non => true
  | .d (.vl v) => decide (v = .non)
  | _ => false
def aIsN (neg : Bool) : A2 := fun x y M Q => match y with
  | .d .non => Q (.d (.bl (ng neg (isNon x)))) M
  | _ => False
theorem isNon_ok {al : List Addr} {x : A} {v : V} (r : RepA K al I x v) : decide (v = .non) = isNon x := by
  cases r with
  | d r =>
    cases r <;> first | rfl | exact decide_eq_false (fun z => nomatch z)
  | cell _ => exact decide_eq_false (fun z => nomatch z)
theorem s2_isN : S2 K W (fun x y H Q => y = .non ∧ Q (.bl (decide (x = .non))) H) (aIsN false) := by
  intro b M x y v u QA Q t ok r1 r2 h k
  unfold aIsN at h
  split at h
  · cases rep_non_inv (repA_d r2)
    refine ⟨rfl, ?_⟩
    rw [isNon_ok r1]
    exact k b M _ _ t ok (Step.refl _) (.d (.bl _)) h
  · exact h.elim
theorem s2_notN : S2 K W (fun x y H Q => y = .non ∧ Q (.bl (!decide (x = .non))) H) (aIsN true) := by
  intro b M x y v u QA Q t ok r1 r2 h k
  unfold aIsN at h
  split at h
  · cases rep_non_inv (repA_d r2)
    refine ⟨rfl, ?_⟩
    rw [isNon_ok r1]
    exact k b M _ _ t ok (Step.refl _) (.d (.bl _)) h
  · exact h.elim
/-! ### in -/
def flatD : D → Option V
  | .non => some .non
  | .bl b => some (.bl b)
  | .int i => some (.int i)
  | .str s => some (.str s)
  | _ => none
def flatDs : List D → Option (List V)
  | [] => some []
  | x :: l => match flatD x, flatDs l with
    | some v, some vs => some (v :: vs)
    | _, _ => none
/-- what an option holds -/
structure Opt {α : Type} (o : Option α) (k : α → Prop) : Prop where
  h : ∃ x, o = some x ∧ k x
theorem flat_rep {x : D} {v u : V} (h : flatD x = some u) (r : Rep K I x v) : v = u ∧ flatV u = true := by
  cases r <;> (first | (cases h; exact ⟨rfl, rfl⟩) | cases h)
theorem flats_rep : ∀ {xs : List D} {vs us : List V}, flatDs xs = some us → Reps K I xs vs → vs = us ∧ us.all flatV = true
  | [], _, _, h, r => by cases h; cases r; exact ⟨rfl, rfl⟩
  | x :: xs, _, _, h, .cons r rs => by
    unfold flatDs at h
    split at h
    · rename_i v vs h1 h2
      cases h
      obtain ⟨rfl, f1⟩ := flat_rep h1 r
      obtain ⟨rfl, f2⟩ := flats_rep h2 rs
      exact ⟨rfl, by rw [List.all_cons, f1, f2]; rfl⟩
    · cases h
def strIn (a b : Str) : Bool := !(Builtin.Str.occurrences b a 0 b.length 1).isEmpty
/-- neg: not in -/
def aIn (neg : Bool) : A2 := fun x y M Q => match x, y with
  | .d (.str a), .d (.str b) => Q (.d (.bl (ng neg (strIn a b)))) M
  | .d a, .d (.lst l) => Opt (flatD a) fun v => Opt (flatDs l) fun vs => Q (.d (.bl (ng neg (inV v vs)))) M
  | .d a, .d (.tup l) => Opt (flatD a) fun v => Opt (flatDs l) fun vs => Q (.d (.bl (ng neg (inV v vs)))) M
  | .d a, .cell k => match M[k]? with
    | some (.lst l) => Opt (flatD a) fun v => Opt (flatDs l) fun vs => Q (.d (.bl (ng neg (inV v vs)))) M
    | _ => False
  | _, _ => False
def rInA (K : PySem.W.Frag) (neg : Bool) : R2 := fun x y H Q => rIn K neg x y H Q ∨ ∃ i j, x = .str i ∧ y = .str j ∧ Q (.bl (if neg then !strIn i j else strIn i j)) H
theorem s2_in {neg : Bool} : S2 K W (rInA K neg) (aIn neg) := by
  intro b M x y v u QA Q t ok r1 r2 h k
  have seqs : ∀ (a : D) (l : List D) (v : V) (p : Addr) (us : List V), Rep K b.I a v → Reps K b.I l us → (SqL K b.H p us ∨ SqT K b.H p us) →
      (Opt (flatD a) fun v => Opt (flatDs l) fun vs => QA (.d (.bl (ng neg (inV v vs)))) M) → rInA K neg v (.ref p) b.H Q := by
    intro a l v p us ra rl hs ⟨v', e1, vs', e2, q⟩
    obtain ⟨rfl, f1⟩ := flat_rep e1 ra
    obtain ⟨rfl, f2⟩ := flats_rep e2 rl
    refine .inl ⟨p, us, rfl, hs, f1, f2, k b M _ _ t ok (Step.refl _) (.d ?_) q⟩
    cases neg <;> exact .bl _
  unfold aIn at h
  split at h
  · cases rep_str_inv (repA_d r1); cases rep_str_inv (repA_d r2)
    refine .inr ⟨_, _, rfl, rfl, k b M _ _ t ok (Step.refl _) (.d ?_) h⟩
    cases neg <;> exact .bl _
  · cases repA_d r2 with
    | lst hp rs => exact seqs _ _ _ _ _ (repA_d r1) rs (.inl (SqL.of (ok.ih _ _ hp))) h
  · cases repA_d r2 with
    | tup hp rs => exact seqs _ _ _ _ _ (repA_d r1) rs (.inr (same_t ok.ih hp)) h
  · split at h
    · rename_i e
      obtain ⟨a, ha, rfl⟩ := cell_addr r2
      obtain ⟨_, vs, hv, rs⟩ := ok.at_ _ _ _ ha e
      exact seqs _ _ _ _ _ (repA_d r1) rs (.inl (SqL.of hv)) h
    · exact h.elim
  · exact h.elim
/-! ### x[i] -/
def aIx : A2 := fun x y M Q => match x, y with
  | .d (.lst l), .d (.int i) => Opt (atI l i) fun d => Q (.d d) M
  | .d (.tup l), .d (.int i) => Opt (atI l i) fun d => Q (.d d) M
  | .d (.scr l), .d (.int i) => Opt (atI l i) fun d => Q (.d (.int d)) M
  | .d (.str s), .d (.int i) => Side (s.length ≤ sizeLine) (Opt (atI s.cps.toList i) fun c => Q (.d (.str ⟨#[c]⟩)) M)
  | .cell k, .d (.int i) => match M[k]? with
    | some (.lst l) => Opt (atI l i) fun d => Q (.d d) M
    | some (.lsa l) => Opt (atI l i) fun d => Q d M
    | some (.tpa l) => Opt (atI l i) fun d => Q d M
    | _ => False
  | _, _ => False
theorem RepAs.getA {al : List Addr} {I : Hp} : ∀ {xs : List A} {vs : List V} {i : Nat} {x : A}, RepAs K al I xs vs → xs[i]? = some x → ∃ v, vs[i]? = some v ∧ RepA K al I x v
  | _, _, _, _, .nil, e => by simp at e
  | _, _, 0, _, .cons h _, e => by simp at e; subst e; exact ⟨_, rfl, h⟩
  | _, _, i + 1, _, .cons _ r, e => by
    obtain ⟨v, h1, h2⟩ := RepAs.getA (i := i) r (by simpa using e)
    exact ⟨v, by simpa using h1, h2⟩
theorem repAs_at {al : List Addr} {I : Hp} {ds : List A} {vs : List V} {i : Int} {d : A} (r : RepAs K al I ds vs) (h : atI ds i = some d) : ∃ v, atI vs i = some v ∧ RepA K al I d v := by
  unfold atI at h ⊢
  rw [← r.length]
  cases e : ixN ds.length i with
  | none => rw [e] at h; cases h
  | some j => rw [e] at h; exact r.getA h
theorem reps_at {ds : List D} {vs : List V} {i : Int} {d : D} (r : Reps K I ds vs) (h : atI ds i = some d) : ∃ v, atI vs i = some v ∧ Rep K I d v := by
  unfold atI at h ⊢
  rw [← r.length]
  cases e : ixN ds.length i with
  | none => rw [e] at h; cases h
  | some j => rw [e] at h; exact r.get h
theorem s2_ix : S2 K W (rIx K) aIx := by
  intro b M x y v u QA Q t ok r1 r2 h k
  unfold aIx at h
  split at h
  · obtain ⟨d, e, q⟩ := h
    cases rep_int_inv (repA_d r2)
    cases repA_d r1 with
    | lst hp rs =>
      obtain ⟨v, hv, rv⟩ := reps_at rs e
      exact .inl ⟨_, _, _, v, rfl, rfl, SqL.of (ok.ih _ _ hp), hv, k b M _ _ t ok (Step.refl _) (.d rv) q⟩
  · obtain ⟨d, e, q⟩ := h
    cases rep_int_inv (repA_d r2)
    cases repA_d r1 with
    | tup hp rs =>
      obtain ⟨v, hv, rv⟩ := reps_at rs e
      exact .inr (.inl ⟨_, _, _, v, rfl, rfl, same_t ok.ih hp, hv, k b M _ _ t ok (Step.refl _) (.d rv) q⟩)
  · obtain ⟨d, e, q⟩ := h
    cases rep_int_inv (repA_d r2)
    cases repA_d r1 with
    | scr hp =>
      refine .inl ⟨_, _, _, .int d, rfl, rfl, same_l ok.ih hp, ?_, k b M _ _ t ok (Step.refl _) (.d (.int _)) q⟩
      unfold atI at e ⊢
      rw [List.length_map]
      cases e2 : ixN (List.length _) _ with
      | none => rw [e2] at e; cases e
      | some j =>
        rw [e2] at e
        rw [Option.bind_some] at e ⊢
        rw [List.getElem?_map, e]; rfl
  · obtain ⟨hl, c, e, q⟩ := h
    cases rep_int_inv (repA_d r2)
    cases rep_str_inv (repA_d r1)
    exact .inr (.inr ⟨_, _, c, rfl, rfl, hl, e, k b M _ _ t ok (Step.refl _) (.d (.str _)) q⟩)
  · split at h
    · rename_i e
      obtain ⟨d, e1, q⟩ := h
      cases rep_int_inv (repA_d r2)
      obtain ⟨a, ha, rfl⟩ := cell_addr r1
      obtain ⟨_, vs, hv, rs⟩ := ok.at_ _ _ _ ha e
      obtain ⟨w, hw, rw_⟩ := reps_at rs e1
      exact .inl ⟨_, _, _, w, rfl, rfl, SqL.of hv, hw, k b M _ _ t ok (Step.refl _) (.d rw_) q⟩
    · rename_i e
      obtain ⟨d, e1, q⟩ := h
      cases rep_int_inv (repA_d r2)
      obtain ⟨a, ha, rfl⟩ := cell_addr r1
      obtain ⟨_, vs, hv, rs⟩ := ok.at_ _ _ _ ha e
      obtain ⟨w, hw, rw_⟩ := repAs_at rs e1
      exact .inl ⟨_, _, _, w, rfl, rfl, SqL.of hv, hw, k b M _ _ t ok (Step.refl _) rw_ q⟩
    · rename_i e
      obtain ⟨d, e1, q⟩ := h
      cases rep_int_inv (repA_d r2)
      obtain ⟨a, ha, rfl⟩ := cell_addr r1
      obtain ⟨_, vs, hv, rs⟩ := ok.at_ _ _ _ ha e
      obtain ⟨w, hw, rw_⟩ := repAs_at rs e1
      exact .inr (.inl ⟨_, _, _, w, rfl, rfl, SqT.of hv, hw, k b M _ _ t ok (Step.refl _) rw_ q⟩)
    · exact h.elim
  · exact h.elim
/-! ### x[a:b] -/
abbrev Ao := Env → Mem → (Option Int → Mem → Prop) → Prop
def SOp (K : PySem.W.Frag) (W : Wd) (t : TO) (a : Ao) : Prop := ∀ (b : Wd) (M : Mem) (E : Env) (σ : L2.St) (QA : Option Int → Mem → Prop) (Q : Option Int → Hp → Prop), To W b → Ok K b M → Slots K b.al b.I E σ → a E M QA →
  (∀ b' M' x, To W b' → Ok K b' M' → Step b b' → QA x M' → Q x b'.H) → t σ b.H Q
def aoNone : Ao := fun _ M Q => Q none M
def aoSome (a : Ae) : Ao := fun E M Q => a E M fun x M1 => match x with
  | .d (.int i) => Q (some i) M1
  | _ => False
theorem so_none : SOp K W tNoPart aoNone := fun b M E σ QA Q t ok sl h k => k b M none t ok (Step.refl _) h
theorem so_some {t : TE} {a : Ae} (h : SE K W t a) : SOp K W (tPart t) (aoSome a) := by
  intro b M E σ QA Q t0 ok sl h1 k
  refine h b M E σ _ _ t0 ok sl h1 fun b1 M1 x v t1 ok1 s1 r1 h2 => ?_
  split at h2
  · cases rep_int_inv (repA_d r1)
    exact ⟨_, rfl, k b1 M1 _ t1 ok1 s1 h2⟩
  · exact h2.elim
def cutD {α : Type} (xs : List α) (lo hi : Option Int) : List α := (xs.drop (HT.sIx xs.length 0 lo)).take (HT.sIx xs.length xs.length hi - HT.sIx xs.length 0 lo)
theorem cutD_rep {ds : List D} {vs : List V} {lo hi : Option Int} (r : Reps K I ds vs) : Reps K I (cutD ds lo hi) (cutV vs lo hi) := by
  unfold cutD cutV
  rw [r.length]
  exact (r.drop _).take _
/-- a new list, standing still or as a cell -/
def mkL (cel : Bool) (xs : List D) (M : Mem) (Q : A → Mem → Prop) : Prop := match cel with
  | true => Q (.cell M.length) (M ++ [.lst xs])
  | false => Q (.d (.lst xs)) M
/-- a list's items -/
def listOf (x : A) (M : Mem) : Option (List D) := match x with
  | .d (.lst l) => some l
  | .d (.scr l) => some (l.map D.int)
  | .cell k => match M[k]? with
    | some (.lst l) => some l
    | _ => none
  | _ => none
def tupOf (x : A) : Option (List D) := match x with
  | .d (.tup l) => some l
  | _ => none
theorem listOf_ok {b : Wd} {M : Mem} {x : A} {v : V} {l : List D} (ok : Ok K b M) (r : RepA K b.al b.I x v) (h : listOf x M = some l) : ∃ p vs, v = .ref p ∧ SqL K b.H p vs ∧ Reps K b.I l vs := by
  unfold listOf at h
  split at h
  · cases h
    cases repA_d r with
    | lst hp rs => exact ⟨_, _, rfl, SqL.of (ok.ih _ _ hp), rs⟩
  · cases h
    cases repA_d r with
    | scr hp => exact ⟨_, _, rfl, same_l ok.ih hp, reps_ints _⟩
  · split at h
    · rename_i e
      cases h
      obtain ⟨p, ha, rfl⟩ := cell_addr r
      obtain ⟨_, vs, hv, rs⟩ := ok.at_ _ _ _ ha e
      exact ⟨_, _, rfl, SqL.of hv, rs⟩
    · cases h
  · cases h
theorem tupOf_ok {b : Wd} {M : Mem} {x : A} {v : V} {l : List D} (ok : Ok K b M) (r : RepA K b.al b.I x v) (h : tupOf x = some l) : ∃ p vs, v = .ref p ∧ SqT K b.H p vs ∧ Reps K b.I l vs := by
  unfold tupOf at h
  split at h
  · cases h
    cases repA_d r with
    | tup hp rs => exact ⟨_, _, rfl, same_t ok.ih hp, rs⟩
  · cases h
theorem new_L {cel : Bool} {b : Wd} {M : Mem} {ds : List D} {vs : List V} {Q : VK} {QA : A → Mem → Prop} (t : To W b) (ok : Ok K b M) (r : Reps K b.I ds vs) (q : mkL cel ds M QA)
    (k : ∀ b' M' z w, To W b' → Ok K b' M' → Step b b' → RepA K b'.al b'.I z w → QA z M' → Q w b'.H) : ∀ p, b.H p = none → Q (.ref p) (upd b.H p (.lst vs)) := by
  cases cel with
  | true => exact new_cell t ok r q k
  | false => exact new_d t ok (fun p hp => .lst upd_same (r.mono (same_new (ok.iNone hp)))) q k
def aSl (cel : Bool) (a : Ae) (lo hi : Ao) : Ae := fun E M Q => a E M fun x M1 => lo E M1 fun l M2 => hi E M2 fun h M3 => match listOf x M3 with
  | some xs => mkL cel (cutD xs l h) M3 Q
  | none => match lsaOf x M3 with
    | some xs => mkA cel (cutD xs l h) M3 Q
    | none => False
theorem RepAs.take {al : List Addr} {I : Hp} : ∀ {ds : List A} {vs : List V} (n : Nat), RepAs K al I ds vs → RepAs K al I (ds.take n) (vs.take n)
  | _, _, 0, _ => by simp; exact .nil
  | _, _, n + 1, .nil => by simp; exact .nil
  | _, _, n + 1, .cons h r => by rw [List.take_succ_cons, List.take_succ_cons]; exact .cons h (RepAs.take n r)
theorem RepAs.drop {al : List Addr} {I : Hp} : ∀ {ds : List A} {vs : List V} (n : Nat), RepAs K al I ds vs → RepAs K al I (ds.drop n) (vs.drop n)
  | _, _, 0, h => by simpa using h
  | _, _, n + 1, .nil => by simp; exact .nil
  | _, _, n + 1, .cons h r => by rw [List.drop_succ_cons, List.drop_succ_cons]; exact RepAs.drop n r
theorem RepAs.setA {al : List Addr} {I : Hp} {d : A} {v : V} (h : RepA K al I d v) : ∀ {ds : List A} {vs : List V} (n : Nat), RepAs K al I ds vs → RepAs K al I (ds.set n d) (vs.set n v)
  | _, _, _, .nil => by simp; exact .nil
  | _, _, 0, .cons _ r => by simp; exact .cons h r
  | _, _, n + 1, .cons h' r => by rw [List.set_cons_succ, List.set_cons_succ]; exact .cons h' (RepAs.setA h n r)
theorem cutA_rep {al : List Addr} {I : Hp} {ds : List A} {vs : List V} {lo hi : Option Int} (r : RepAs K al I ds vs) : RepAs K al I (cutD ds lo hi) (cutV vs lo hi) := by
  unfold cutD cutV
  rw [r.length]
  exact (r.drop _).take _
theorem se_sl {cel : Bool} {t : TE} {tl th : TO} {a : Ae} {lo hi : Ao} (h : SE K W t a) (h1 : SOp K W tl lo) (h2 : SOp K W th hi) : SE K W (tSl (rSlL K) t tl th) (aSl cel a lo hi) := by
  intro b M E σ QA Q t0 ok sl q k
  refine h b M E σ _ _ t0 ok sl q fun b1 M1 x v t1 ok1 s1 r1 q1 => ?_
  refine h1 b1 M1 E σ _ _ t1 ok1 (sl.mono s1.same s1.pre) q1 fun b2 M2 l t2 ok2 s2 q2 => ?_
  have s12 := s1.trans s2
  refine h2 b2 M2 E σ _ _ t2 ok2 (sl.mono s12.same s12.pre) q2 fun b3 M3 hh t3 ok3 s3 q3 => ?_
  have s13 := s12.trans s3
  have r3 := r1.mono (s2.trans s3).same (s2.trans s3).pre
  split at q3
  · rename_i xs e
    obtain ⟨p, vs, rfl, hs, rs⟩ := listOf_ok ok3 r3 e
    exact ⟨p, vs, rfl, hs, new_L t3 ok3 (cutD_rep rs) q3 fun b4 M4 z w t4 ok4 s4 r4 q4 => k b4 M4 z w t4 ok4 (s13.trans s4) r4 q4⟩
  · split at q3
    · rename_i xs e
      obtain ⟨_, p, vs, rfl, _, rfl, _, _, hv, rs⟩ := lsaOf_ok ok3 r3 e
      exact ⟨p, vs, rfl, SqL.of hv, new_A t3 ok3 (cutA_rep rs) q3 fun b4 M4 z w t4 ok4 s4 r4 q4 => k b4 M4 z w t4 ok4 (s13.trans s4) r4 q4⟩
    · exact q3.elim
/-! ### o[i] = e of a cell -/
def aSub (a ai : Ae) : Ag := fun x E M Q => a E M fun o M1 => ai E M1 fun i M2 => match o, i, x with
  | .cell k, .d (.int i), .d d => match M2[k]? with
    | some (.lst l) => Opt (ixN l.length i) fun j => Q E (M2.set k (.lst (l.set j d)))
    | some (.lsa l) => Opt (ixN l.length i) fun j => Q E (M2.set k (.lsa (l.set j (.d d))))
    | _ => False
  | .cell k, .d (.int i), .cell c => match M2[k]? with
    | some (.lst l) => Opt (ixN l.length i) fun j => Q E (M2.set k (.lsa ((l.map A.d).set j (.cell c))))
    | some (.lsa l) => Opt (ixN l.length i) fun j => Q E (M2.set k (.lsa (l.set j (.cell c))))
    | _ => False
  | _, _, _ => False
theorem sg_sub {to ti : TE} {a ai : Ae} (h : SE K W to a) (hi : SE K W ti ai) : SG K W [] (gSub to ti rSetL) (aSub a ai) := by
  intro b M E σ x v QA Q t ok sl r h1 k
  refine h b M E σ _ _ t ok sl h1 fun b1 M1 o vo t1 ok1 s1 r1 h2 => ?_
  refine hi b1 M1 E σ _ _ t1 ok1 (sl.mono s1.same s1.pre) h2 fun b2 M2 i vi t2 ok2 s2 r2 h3 => ?_
  have s12 := s1.trans s2
  split at h3
  · rename_i kk i d
    split at h3
    · rename_i l e
      obtain ⟨j, ej, q⟩ := h3
      cases rep_int_inv (repA_d r2)
      obtain ⟨p, ha, rfl⟩ := cell_addr (r1.mono s2.same s2.pre)
      obtain ⟨hn, vs, hv, rs⟩ := ok2.at_ _ _ _ ha e
      refine ⟨p, vs, i, j, rfl, rfl, hv, by rw [← rs.length]; exact ej, ?_⟩
      have rd := (repA_d r).mono s12.same
      refine k ⟨b2.I, b2.al, upd b2.H p _⟩ _ E σ (t2.put ha) (ok2.put (c := .lst (l.set j d)) ha hn ⟨hn, _, upd_same, rs.set rd j⟩) (s12.trans (step_put ha)) (sl.mono s12.same s12.pre) (Tch.nil σ) q
    · rename_i l e
      obtain ⟨j, ej, q⟩ := h3
      cases rep_int_inv (repA_d r2)
      obtain ⟨p, ha, rfl⟩ := cell_addr (r1.mono s2.same s2.pre)
      obtain ⟨hn, vs, hv, rs⟩ := ok2.at_ _ _ _ ha e
      refine ⟨p, vs, i, j, rfl, rfl, hv, by rw [← rs.length]; exact ej, ?_⟩
      have rd := r.mono s12.same s12.pre
      refine k ⟨b2.I, b2.al, upd b2.H p _⟩ _ E σ (t2.put ha) (ok2.put (c := .lsa (l.set j (.d d))) ha hn ⟨hn, _, upd_same, rs.setA rd j⟩) (s12.trans (step_put ha)) (sl.mono s12.same s12.pre) (Tch.nil σ) q
    · exact h3.elim
  · rename_i kk i cc
    split at h3
    · rename_i l e
      obtain ⟨j, ej, q⟩ := h3
      cases rep_int_inv (repA_d r2)
      obtain ⟨p, ha, rfl⟩ := cell_addr (r1.mono s2.same s2.pre)
      obtain ⟨hn, vs, hv, rs⟩ := ok2.at_ _ _ _ ha e
      refine ⟨p, vs, i, j, rfl, rfl, hv, by rw [← rs.length]; exact ej, ?_⟩
      have rd := r.mono s12.same s12.pre
      refine k ⟨b2.I, b2.al, upd b2.H p _⟩ _ E σ (t2.put ha) (ok2.put (c := .lsa ((l.map A.d).set j (.cell cc))) ha hn ⟨hn, _, upd_same, (repsA rs).setA rd j⟩) (s12.trans (step_put ha)) (sl.mono s12.same s12.pre) (Tch.nil σ) q
    · rename_i l e
      obtain ⟨j, ej, q⟩ := h3
      cases rep_int_inv (repA_d r2)
      obtain ⟨p, ha, rfl⟩ := cell_addr (r1.mono s2.same s2.pre)
      obtain ⟨hn, vs, hv, rs⟩ := ok2.at_ _ _ _ ha e
      refine ⟨p, vs, i, j, rfl, rfl, hv, by rw [← rs.length]; exact ej, ?_⟩
      have rd := r.mono s12.same s12.pre
      refine k ⟨b2.I, b2.al, upd b2.H p _⟩ _ E σ (t2.put ha) (ok2.put (c := .lsa (l.set j (.cell cc))) ha hn ⟨hn, _, upd_same, rs.setA rd j⟩) (s12.trans (step_put ha)) (sl.mono s12.same s12.pre) (Tch.nil σ) q
    · exact h3.elim
  · exact h3.elim
end
section
variable {X : Cx} {W : Wd} {pos : Pos} {e e2 e3 : Expr} {t t2 : TE} {a a2 : Ae}
theorem o_eq (hu : X.A.units + 64 < cLine) : AO X W (compareOp .Eq) (rEqA X.K false) (aEq false) := ⟨opR_or op_eq (op_eqD hu), s2_eq⟩
theorem o_ne (hu : X.A.units + 64 < cLine) : AO X W (compareOp .NotEq) (rEqA X.K true) (aEq true) := ⟨opR_or op_ne (op_neD hu), s2_eq⟩
theorem o_is : AO X W (compareOp .Is) (fun x y H Q => y = .non ∧ Q (.bl (decide (x = .non))) H) (aIsN false) := ⟨op_isN, s2_isN⟩
theorem o_isnot : AO X W (compareOp .IsNot) (fun x y H Q => y = .non ∧ Q (.bl (!decide (x = .non))) H) (aIsN true) := ⟨op_notN, s2_notN⟩
theorem op_strIn : OpR X (compareOp .In) (fun x y H Q => ∃ i j, x = .str i ∧ y = .str j ∧ Q (.bl (if false then !strIn i j else strIn i j)) H) := by
  intro pins s σ H x y v u Q I rx ry ⟨i, j, h1, h2, q⟩
  exact op_in_str pins s σ H x y v u Q I rx ry ⟨i, j, h1, h2, q⟩
theorem op_strNotIn : OpR X (compareOp .NotIn) (fun x y H Q => ∃ i j, x = .str i ∧ y = .str j ∧ Q (.bl (if true then !strIn i j else strIn i j)) H) := by
  intro pins s σ H x y v u Q I rx ry ⟨i, j, h1, h2, q⟩
  exact op_notIn_str pins s σ H x y v u Q I rx ry ⟨i, j, h1, h2, q⟩
theorem o_in : AO X W (compareOp .In) (rInA X.K false) (aIn false) := ⟨opR_or op_in_seq op_strIn, s2_in⟩
theorem o_notin : AO X W (compareOp .NotIn) (rInA X.K true) (aIn true) := ⟨opR_or op_notIn_seq op_strNotIn, s2_in⟩
theorem ae_ix (h : AE X W e t a) (g : AE X W e2 t2 a2) (hs : PlainIx e2 := by intro _ _; rfl) : AE X W (.Subscript e e2 pos) (tOp (rIx X.K) t t2) (aOp aIx a a2) := ⟨pe_ix ix_seq h.pe g.pe hs, se_op h.se g.se s2_ix⟩
structure AOp (X : Cx) (W : Wd) (e : Option Expr) (t : TO) (a : Ao) : Prop where
  po : PO X e t
  so : SOp X.K W t a
theorem ao_none : AOp X W none tNoPart aoNone := ⟨po_none, so_none⟩
theorem ao_some (h : AE X W e t a) : AOp X W (some e) (tPart t) (aoSome a) := ⟨po_some h.pe, so_some h.se⟩
theorem ae_sl {lo hi : Option Expr} {tl th : TO} {al ah : Ao} {p2 : Pos} (cel : Bool) (h : AE X W e t a) (h1 : AOp X W lo tl al) (h2 : AOp X W hi th ah) : AE X W (.Subscript e (.Slice lo hi none p2) pos) (tSl (rSlL X.K) t tl th) (aSl cel a al ah) :=
  ⟨pe_slice sl_list h.pe h1.po h2.po, se_sl h.se h1.so h2.so⟩
theorem ag_sub (h : AE X W e t a) (g : AE X W e2 t2 a2) (ha : ∀ v, assign (.Subscript e e2 pos) X.env v = (do let ov ← holding [v] (eval e X.env); let iv ← holding [v, ov] (eval e2 X.env); standAt pos; holding [v, ov, iv] (setItem ov iv v); release [v, ov, iv] []) := by intro _; rfl) :
    AG X W (.Subscript e e2 pos) [] (gSub t t2 rSetL) (aSub a a2) := ⟨pg_sub h.pe g.pe set_list ha, sg_sub h.se g.se⟩
end
end G

set_option Elab.async false
set_option linter.all false
set_option maxRecDepth 100000
namespace G
open PySem PySem.Spec PyProof.Rows L2

section
variable {K : PySem.W.Frag} {W : Wd}
/-! ### built-ins by name -/
def aCB (rA : Ac) (as : Aa) : Ae := fun E M Q => as E M fun xs M1 => rA xs M1 Q
theorem se_CB {r : List V → Hp → VK → Prop} {rA : Ac} {t : TA} {as : Aa} (h : SA K W t as) (hr : SC K W r rA) : SE K W (tCB r t) (aCB rA as) := by
  intro b M E σ QA Q t0 ok sl h1 k
  refine h b M E σ _ _ t0 ok sl h1 fun b1 M1 xs vs t1 ok1 s1 r1 h2 => ?_
  exact hr b1 M1 xs vs _ _ t1 ok1 r1 h2 fun b2 M2 z w t2 ok2 s2 r2 q => k b2 M2 z w t2 ok2 (s1.trans s2) r2 q
def cAbs : Ac := fun xs M Q => match xs with
  | [.d (.int i)] => Q (.d (.int ((i.natAbs : Nat) : Int))) M
  | _ => False
theorem sc_abs : SC K W (fun xs H Q => ∃ i, xs = [.int i] ∧ Q (.int (if i < 0 then -i else i)) H) cAbs := by
  intro b M xs vs QA Q t ok r h k
  unfold cAbs at h
  split at h
  · obtain ⟨v, rfl, r1⟩ := repAs_1 r
    cases rep_int_inv (repA_d r1)
    rename_i i
    refine ⟨i, rfl, ?_⟩
    have e : (if i < 0 then -i else i) = ((i.natAbs : Nat) : Int) := by split <;> omega
    rw [e]
    exact k b M _ _ t ok (Step.refl _) (.d (.int _)) h
  · exact h.elim
def cMax2 : Ac := fun xs M Q => match xs with
  | [.d (.int i), .d (.int j)] => Q (.d (.int (max i j))) M
  | _ => False
def cMin2 : Ac := fun xs M Q => match xs with
  | [.d (.int i), .d (.int j)] => Q (.d (.int (min i j))) M
  | _ => False
theorem sc_max2 : SC K W (fun xs H Q => ∃ i j, xs = [.int i, .int j] ∧ Q (.int (if j > i then j else i)) H) cMax2 := by
  intro b M xs vs QA Q t ok r h k
  unfold cMax2 at h
  split at h
  · obtain ⟨v, u, rfl, r1, r2⟩ := repAs_2 r
    cases rep_int_inv (repA_d r1); cases rep_int_inv (repA_d r2)
    rename_i i j
    refine ⟨i, j, rfl, ?_⟩
    have e : (if j > i then j else i) = max i j := by split <;> omega
    rw [e]
    exact k b M _ _ t ok (Step.refl _) (.d (.int _)) h
  · exact h.elim
theorem sc_min2 : SC K W (fun xs H Q => ∃ i j, xs = [.int i, .int j] ∧ Q (.int (if j < i then j else i)) H) cMin2 := by
  intro b M xs vs QA Q t ok r h k
  unfold cMin2 at h
  split at h
  · obtain ⟨v, u, rfl, r1, r2⟩ := repAs_2 r
    cases rep_int_inv (repA_d r1); cases rep_int_inv (repA_d r2)
    rename_i i j
    refine ⟨i, j, rfl, ?_⟩
    have e : (if j < i then j else i) = min i j := by split <;> omega
    rw [e]
    exact k b M _ _ t ok (Step.refl _) (.d (.int _)) h
  · exact h.elim
def cInt : Ac := fun xs M Q => match xs with
  | [.d (.int i)] => Q (.d (.int i)) M
  | [.d (.bl c)] => Q (.d (.int (if c then 1 else 0))) M
  | _ => False
theorem sc_int : SC K W (fun xs H Q => (∃ i, xs = [.int i] ∧ Q (.int i) H) ∨ ∃ k, xs = [.bl k] ∧ Q (.int (if k then 1 else 0)) H) cInt := by
  intro b M xs vs QA Q t ok r h k
  unfold cInt at h
  split at h
  · obtain ⟨v, rfl, r1⟩ := repAs_1 r
    cases rep_int_inv (repA_d r1)
    exact .inl ⟨_, rfl, k b M _ _ t ok (Step.refl _) (.d (.int _)) h⟩
  · obtain ⟨v, rfl, r1⟩ := repAs_1 r
    cases rep_bl_inv (repA_d r1)
    exact .inr ⟨_, rfl, k b M _ _ t ok (Step.refl _) (.d (.int _)) h⟩
  · exact h.elim
def cBool : Ac := fun xs M Q => match xs with
  | [.d (.int i)] => Q (.d (.bl (i != 0))) M
  | [.d (.bl c)] => Q (.d (.bl c)) M
  | _ => False
theorem sc_bool : SC K W (fun xs H Q => (∃ i, xs = [.int i] ∧ Q (.bl (i != 0)) H) ∨ ∃ k, xs = [.bl k] ∧ Q (.bl k) H) cBool := by
  intro b M xs vs QA Q t ok r h k
  unfold cBool at h
  split at h
  · obtain ⟨v, rfl, r1⟩ := repAs_1 r
    cases rep_int_inv (repA_d r1)
    exact .inl ⟨_, rfl, k b M _ _ t ok (Step.refl _) (.d (.bl _)) h⟩
  · obtain ⟨v, rfl, r1⟩ := repAs_1 r
    cases rep_bl_inv (repA_d r1)
    exact .inr ⟨_, rfl, k b M _ _ t ok (Step.refl _) (.d (.bl _)) h⟩
  · exact h.elim
/-- str of a whole number -/
def cStr : Ac := fun xs M Q => match xs with
  | [.d (.int i)] => Side (i.natAbs.log2 < 1920) (Q (.d (.str (toString i))) M)
  | _ => False
theorem sc_str : SC K W (fun xs H Q => ∃ i, xs = [.int i] ∧ i.natAbs.log2 < 1920 ∧ Q (.str (toString i)) H) cStr := by
  intro b M xs vs QA Q t ok r h k
  unfold cStr at h
  split at h
  · obtain ⟨v, rfl, r1⟩ := repAs_1 r
    cases rep_int_inv (repA_d r1)
    exact ⟨_, rfl, h.s, k b M _ _ t ok (Step.refl _) (.d (.str _)) h.q⟩
  · exact h.elim
def cLen : Ac := fun xs M Q => match xs with
  | [.d (.str s)] => Side (s.length ≤ sizeLine) (Q (.d (.int (s.length : Int))) M)
  | [x] => match tupOf x with
    | some l => Q (.d (.int (l.length : Int))) M
    | none => match listOf x M with
      | some l => Q (.d (.int (l.length : Int))) M
      | none => match lsaOf x M with
        | some l => Q (.d (.int (l.length : Int))) M
        | none => match tpaOf x M with
          | some l => Q (.d (.int (l.length : Int))) M
          | none => False
  | _ => False
theorem sc_len : SC K W (fun xs H Q => ∃ x n, xs = [x] ∧ LenV K x H n ∧ Q (.int n) H) cLen := by
  intro b M xs vs QA Q t ok r h k
  unfold cLen at h
  split at h
  · obtain ⟨v, rfl, r1⟩ := repAs_1 r
    cases rep_str_inv (repA_d r1)
    exact ⟨_, _, rfl, ⟨h.s, rfl⟩, k b M _ _ t ok (Step.refl _) (.d (.int _)) h.q⟩
  · obtain ⟨v, rfl, r1⟩ := repAs_1 r
    split at h
    · rename_i l e
      obtain ⟨p, vs, rfl, hs, rs⟩ := tupOf_ok ok r1 e
      exact ⟨_, _, rfl, .inr ⟨vs, hs, rs.length⟩, k b M _ _ t ok (Step.refl _) (.d (.int _)) h⟩
    · split at h
      · rename_i l e
        obtain ⟨p, vs, rfl, hs, rs⟩ := listOf_ok ok r1 e
        exact ⟨_, _, rfl, .inl ⟨vs, hs, rs.length⟩, k b M _ _ t ok (Step.refl _) (.d (.int _)) h⟩
      · split at h
        · rename_i l e
          obtain ⟨_, p, vs, rfl, _, rfl, _, _, hv, rs⟩ := lsaOf_ok ok r1 e
          exact ⟨_, _, rfl, .inl ⟨vs, SqL.of hv, rs.length⟩, k b M _ _ t ok (Step.refl _) (.d (.int _)) h⟩
        · split at h
          · rename_i l e
            obtain ⟨_, p, vs, rfl, _, rfl, _, _, hv, rs⟩ := tpaOf_ok ok r1 e
            exact ⟨_, _, rfl, .inr ⟨vs, SqT.of hv, rs.length⟩, k b M _ _ t ok (Step.refl _) (.d (.int _)) h⟩
          · exact h.elim
  · exact h.elim
def cDivmod : Ac := fun xs M Q => match xs with
  | [.d (.int i), .d (.int j)] => Side (CDivP i j) (Q (.d (.tup [.int (i / j), .int (i % j)])) M)
  | _ => False
theorem sc_divmod : SC K W (fun xs H Q => ∃ i j, xs = [.int i, .int j] ∧ CDivP i j ∧ ∀ p, H p = none → Q (.ref p) (upd H p (.tup [.int (i / j), .int (i % j)]))) cDivmod := by
  intro b M xs vs QA Q t ok r h k
  unfold cDivmod at h
  split at h
  · obtain ⟨v, u, rfl, r1, r2⟩ := repAs_2 r
    cases rep_int_inv (repA_d r1); cases rep_int_inv (repA_d r2)
    exact ⟨_, _, rfl, h.s, new_d t ok (fun p hp => .tup (SqT.of upd_same) (.cons (.int _) (.cons (.int _) .nil))) h.q k⟩
  · exact h.elim
def intsOf : List D → Option (List Int)
  | [] => some []
  | .int i :: l => match intsOf l with
    | some ns => some (i :: ns)
    | none => none
  | _ => none
def blsOf : List D → Option (List Bool)
  | [] => some []
  | .bl i :: l => match blsOf l with
    | some ns => some (i :: ns)
    | none => none
  | _ => none
theorem intsOf_map : ∀ ns : List Int, intsOf (ns.map D.int) = some ns
  | [] => rfl
  | n :: ns => by rw [List.map_cons]; unfold intsOf; rw [intsOf_map ns]
theorem blsOf_map : ∀ ns : List Bool, blsOf (ns.map D.bl) = some ns
  | [] => rfl
  | n :: ns => by rw [List.map_cons]; unfold blsOf; rw [blsOf_map ns]
theorem intsOf_inv : ∀ {l : List D} {ns : List Int}, intsOf l = some ns → l = ns.map D.int
  | [], _, h => by cases h; rfl
  | .int i :: l, _, h => by
    unfold intsOf at h
    split at h
    · rename_i ns e; cases h; rw [List.map_cons, ← intsOf_inv e]
    · cases h
  | .non :: _, _, h => by cases h
  | .bl _ :: _, _, h => by cases h
  | .str _ :: _, _, h => by cases h
  | .tup _ :: _, _, h => by cases h
  | .lst _ :: _, _, h => by cases h
  | .scr _ :: _, _, h => by cases h
  | .obj _ _ :: _, _, h => by cases h
  | .vl _ :: _, _, h => by cases h
theorem blsOf_inv : ∀ {l : List D} {ns : List Bool}, blsOf l = some ns → l = ns.map D.bl
  | [], _, h => by cases h; rfl
  | .bl i :: l, _, h => by
    unfold blsOf at h
    split at h
    · rename_i ns e; cases h; rw [List.map_cons, ← blsOf_inv e]
    · cases h
  | .non :: _, _, h => by cases h
  | .int _ :: _, _, h => by cases h
  | .str _ :: _, _, h => by cases h
  | .tup _ :: _, _, h => by cases h
  | .lst _ :: _, _, h => by cases h
  | .scr _ :: _, _, h => by cases h
  | .obj _ _ :: _, _, h => by cases h
  | .vl _ :: _, _, h => by cases h
def cSum : Ac := fun xs M Q => match xs with
  | [x] => match listOf x M with
    | some l => Opt (intsOf l) fun ns => Q (.d (.int ns.sum)) M
    | none => False
  | _ => False
theorem sc_sum : SC K W (rSum K) cSum := by
  intro b M xs vs QA Q t ok r h k
  unfold cSum at h
  split at h
  · obtain ⟨v, rfl, r1⟩ := repAs_1 r
    split at h
    · rename_i l e
      obtain ⟨ns, e2, q⟩ := h
      obtain ⟨p, vs, rfl, hs, rs⟩ := listOf_ok ok r1 e
      rw [intsOf_inv e2] at rs
      rw [rs.ints] at hs
      exact ⟨p, ns, rfl, hs, k b M _ _ t ok (Step.refl _) (.d (.int _)) q⟩
    · exact h.elim
  · exact h.elim
/-- all: true; any: false -/
def cAll (al : Bool) : Ac := fun xs M Q => match xs with
  | [x] => match listOf x M with
    | some l => Opt (blsOf l) fun ns => Q (.d (.bl (match al with | true => ns.all id | false => ns.any id))) M
    | none => False
  | _ => False
theorem sc_all : SC K W (rAll K) (cAll true) := by
  intro b M xs vs QA Q t ok r h k
  unfold cAll at h
  split at h
  · obtain ⟨v, rfl, r1⟩ := repAs_1 r
    split at h
    · rename_i l e
      obtain ⟨ns, e2, q⟩ := h
      obtain ⟨p, vs, rfl, hs, rs⟩ := listOf_ok ok r1 e
      rw [blsOf_inv e2] at rs
      rw [rs.bls] at hs
      exact ⟨p, ns, rfl, hs, k b M _ _ t ok (Step.refl _) (.d (.bl _)) q⟩
    · exact h.elim
  · exact h.elim
theorem sc_any : SC K W (rAny K) (cAll false) := by
  intro b M xs vs QA Q t ok r h k
  unfold cAll at h
  split at h
  · obtain ⟨v, rfl, r1⟩ := repAs_1 r
    split at h
    · rename_i l e
      obtain ⟨ns, e2, q⟩ := h
      obtain ⟨p, vs, rfl, hs, rs⟩ := listOf_ok ok r1 e
      rw [blsOf_inv e2] at rs
      rw [rs.bls] at hs
      exact ⟨p, ns, rfl, hs, k b M _ _ t ok (Step.refl _) (.d (.bl _)) q⟩
    · exact h.elim
  · exact h.elim
/-- list(x): cel as a cell -/
def cList (cel : Bool) : Ac := fun xs M Q => match xs with
  | [x] => match tupOf x with
    | some l => mkL cel l M Q
    | none => match listOf x M with
      | some l => mkL cel l M Q
      | none => False
  | _ => False
theorem sc_list {cel : Bool} : SC K W (fun xs H Q => ∃ p ys, xs = [.ref p] ∧ (SqL K H p ys ∨ SqT K H p ys) ∧ ∀ l, H l = none → Q (.ref l) (upd H l (.lst ys))) (cList cel) := by
  intro b M xs vs QA Q t ok r h k
  unfold cList at h
  split at h
  · obtain ⟨v, rfl, r1⟩ := repAs_1 r
    split at h
    · rename_i l e
      obtain ⟨p, vs, rfl, hs, rs⟩ := tupOf_ok ok r1 e
      exact ⟨p, vs, rfl, .inr hs, new_L t ok rs h k⟩
    · split at h
      · rename_i l e
        obtain ⟨p, vs, rfl, hs, rs⟩ := listOf_ok ok r1 e
        exact ⟨p, vs, rfl, .inl hs, new_L t ok rs h k⟩
      · exact h.elim
  · exact h.elim
def cTuple : Ac := fun xs M Q => match xs with
  | [x] => match tupOf x with
    | some l => Q (.d (.tup l)) M
    | none => match listOf x M with
      | some l => Q (.d (.tup l)) M
      | none => False
  | _ => False
theorem sc_tuple : SC K W (fun xs H Q => ∃ a ys, xs = [.ref a] ∧ ((SqL K H a ys ∧ ∀ l, H l = none → Q (.ref l) (upd H l (.tup ys))) ∨ (SqT K H a ys ∧ Q (.ref a) H))) cTuple := by
  intro b M xs vs QA Q t ok r h k
  unfold cTuple at h
  split at h
  · obtain ⟨v, rfl, r1⟩ := repAs_1 r
    split at h
    · rename_i l e
      have h' : tupOf _ = some l := e
      obtain ⟨p, vs, rfl, hs, rs⟩ := tupOf_ok ok r1 e
      unfold tupOf at e
      split at e
      · cases e
        exact ⟨p, vs, rfl, .inr ⟨hs, k b M _ _ t ok (Step.refl _) r1 h⟩⟩
      · cases e
    · split at h
      · rename_i l e
        obtain ⟨p, vs, rfl, hs, rs⟩ := listOf_ok ok r1 e
        exact ⟨p, vs, rfl, .inl ⟨hs, new_d t ok (fun p hp => .tup (SqT.of upd_same) (rs.mono (same_new (ok.iNone hp)))) h k⟩⟩
      · exact h.elim
  · exact h.elim
/-! isinstance -/
def tyD (x : A) (M : Mem) : Option String := match x with
  | .d .non => some "NoneType"
  | .d (.bl _) => some "bool"
  | .d (.int _) => some "int"
  | .d (.str _) => some "str"
  | .d (.tup _) => some "tuple"
  | .d (.lst _) => some "list"
  | .d (.scr _) => some "list"
  | .cell k => match M[k]? with
    | some (.lst _) => some "list"
    | _ => none
  | _ => none
theorem tyx_t {H : Hp} {a : Addr} {xs : List V} (h : SqT K H a xs) : TyX K H (.ref a) (.type "tuple") := by
  rcases h with (h | ⟨o, h⟩) | ⟨o, its, n, h1, h2, _⟩
  · exact .base (.tup h)
  · exact .fTuple h
  · exact .kTuple h1 h2
theorem tyx_l {H : Hp} {a : Addr} {xs : List V} (h : SqL K H a xs) : TyX K H (.ref a) (.type "list") := by
  rcases h with (h | ⟨o, h⟩) | ⟨o, its, n, h1, h2, _⟩
  · exact .base (.lst h)
  · exact .base (.frz h)
  · exact .kList h1 h2
theorem tyD_ok {b : Wd} {M : Mem} {x : A} {v : V} {T : String} (ok : Ok K b M) (r : RepA K b.al b.I x v) (h : tyD x M = some T) : TyX K b.H v (.type T) := by
  unfold tyD at h
  split at h
  · cases h; cases rep_non_inv (repA_d r); exact .base .non
  · cases h; cases rep_bl_inv (repA_d r); exact .base (.bl _)
  · cases h; cases rep_int_inv (repA_d r); exact .base (.int _)
  · cases h; cases rep_str_inv (repA_d r); exact .base (.str _)
  · cases h
    cases repA_d r with
    | tup hp rs => exact tyx_t (same_t ok.ih hp)
  · cases h
    cases repA_d r with
    | lst hp rs => exact tyx_l (SqL.of (ok.ih _ _ hp))
  · cases h
    cases repA_d r with
    | scr hp => exact tyx_l (same_l ok.ih hp)
  · split at h
    · rename_i e
      cases h
      obtain ⟨p, ha, rfl⟩ := cell_addr r
      obtain ⟨_, vs, hv, rs⟩ := ok.at_ _ _ _ ha e
      exact tyx_l (SqL.of hv)
    · cases h
  · cases h
/-- T stands under c -/
def subT (T c : String) : Bool := T == c || (T == "bool" && c == "int")
def knownT (c : String) : Bool := c == "int" || c == "bool" || c == "str" || c == "tuple" || c == "list"
theorem subT_ok {T c : String} (hT : T = "NoneType" ∨ T = "bool" ∨ T = "int" ∨ T = "str" ∨ T = "tuple" ∨ T = "list") (hc : knownT c = true) : kitB T c = some (subT T c) := by
  have h : c = "int" ∨ c = "bool" ∨ c = "str" ∨ c = "tuple" ∨ c = "list" := by
    unfold knownT at hc
    simp only [Bool.or_eq_true, beq_iff_eq] at hc
    rcases hc with (((h | h) | h) | h) | h
    · exact .inl h
    · exact .inr (.inl h)
    · exact .inr (.inr (.inl h))
    · exact .inr (.inr (.inr (.inl h)))
    · exact .inr (.inr (.inr (.inr h)))
  rcases hT with rfl | rfl | rfl | rfl | rfl | rfl <;> rcases h with rfl | rfl | rfl | rfl | rfl <;> decide +kernel
theorem tyD_in {x : A} {M : Mem} {T : String} (h : tyD x M = some T) : T = "NoneType" ∨ T = "bool" ∨ T = "int" ∨ T = "str" ∨ T = "tuple" ∨ T = "list" := by
  unfold tyD at h
  split at h <;> (try split at h) <;> cases h <;> simp
def cIsi : Ac := fun xs M Q => match xs with
  | [x, .d (.vl (.ty c))] => match tyD x M, knownT c with
    | some T, true => Q (.d (.bl (subT T c))) M
    | _, _ => False
  | _ => False
theorem rep_vl_inv {I : Hp} {u v : V} : Rep K I (.vl u) v → v = u
  | .vl _ => rfl
theorem sc_isi : SC K W (rIsi K) cIsi := by
  intro b M xs vs QA Q t ok r h k
  unfold cIsi at h
  split at h
  · obtain ⟨v, u, rfl, r1, r2⟩ := repAs_2 r
    cases rep_vl_inv (repA_d r2)
    split at h
    · rename_i T e1 e2
      exact ⟨v, _, _, _, _, rfl, .ty _, tyD_ok ok r1 e1, kit_ty (subT_ok (tyD_in e1) e2), k b M _ _ t ok (Step.refl _) (.d (.bl _)) h⟩
    · exact h.elim
  · exact h.elim
/-- isinstance(x, (c, c')) -/
def cIsi2 : Ac := fun xs M Q => match xs with
  | [x, .d (.tup [.vl (.ty c), .vl (.ty c')])] => match tyD x M, knownT c, knownT c' with
    | some T, true, true => Q (.d (.bl (subT T c || subT T c'))) M
    | _, _, _ => False
  | _ => False
/-- isinstance(e, (c, c')) as it's written -/
def aIsi2 (c c' : String) (a : Ae) : Ae := fun E M Q => a E M fun x M1 => match tyD x M1, knownT c, knownT c' with
  | some T, true, true => Q (.d (.bl (subT T c || subT T c'))) M1
  | _, _, _ => False
theorem se_isi2 {c c' : String} {t : TE} {a : Ae} (h : SE K W t a) : SE K W (tCB (rIsiT K) (tCons t (tCons (tTup (tCons (tC (.ty c)) (tCons (tC (.ty c')) tNil))) tNil))) (aIsi2 c c' a) := by
  intro b M E σ QA Q t0 ok sl h1 k
  refine h b M E σ _ _ t0 ok sl h1 fun b1 M1 x v t1 ok1 s1 r1 h2 => ?_
  split at h2
  · rename_i T e1 e2 e3
    refine ⟨by show 2 ≤ sizeLine; decide, fun p hp => ?_⟩
    have ok2 := ok1.laid (u := .tup [.ty c, .ty c']) hp
    have t2 := t1.laid (u := .tup [.ty c, .ty c']) ok1 hp
    have s2 : Step b1 ⟨upd b1.I p (.tup [.ty c, .ty c']), b1.al, upd b1.H p (.tup [.ty c, .ty c'])⟩ := (To.refl b1).laid ok1 hp
    have ty := tyD_ok ok2 (r1.mono s2.same s2.pre) e1
    have k1 := subT_ok (tyD_in e1) e2
    have k2 := subT_ok (tyD_in e1) e3
    refine ⟨v, p, _, _, _, _, rfl, upd_same, .cons (.ty c) (.cons (.ty c') .nil), ty, kitAny_cons (kit_ty k1) (r := subT T c || subT T c') ?_ ?_, k _ M1 _ _ t2 ok2 (s1.trans s2) (.d (.bl _)) h2⟩
    · intro z
      rw [z, Bool.false_or]
      refine kitAny_cons (kit_ty k2) ?_ ?_
      · intro z2
        rw [z2]
        rfl
      · intro z2; exact z2
    · intro z; rw [z]; rfl
  · exact h2.elim
/-! ### methods of lists -/
abbrev Am := A → List A → Mem → (A → Mem → Prop) → Prop
def SM (K : PySem.W.Frag) (W : Wd) (r : V → List V → Hp → VK → Prop) (rA : Am) : Prop := ∀ (b : Wd) (M : Mem) (x : A) (v : V) (xs : List A) (vs : List V) (QA : A → Mem → Prop) (Q : VK), To W b → Ok K b M → RepA K b.al b.I x v → RepAs K b.al b.I xs vs → rA x xs M QA →
  (∀ b' M' z w, To W b' → Ok K b' M' → Step b b' → RepA K b'.al b'.I z w → QA z M' → Q w b'.H) → r v vs b.H Q
/-- x.m(..), x a list -/
def aLM (rA : Am) (a : Ae) (as : Aa) : Ae := fun E M Q => a E M fun x M1 => match listOf x M1 with
  | some _ => as E M1 fun xs M2 => rA x xs M2 Q
  | none => match lsaOf x M1 with
    | some _ => as E M1 fun xs M2 => rA x xs M2 Q
    | none => False
theorem se_LM {r : V → List V → Hp → VK → Prop} {rA : Am} {t : TE} {ts : TA} {a : Ae} {as : Aa} (h : SE K W t a) (hs : SA K W ts as) (hr : SM K W r rA) : SE K W (tBM K "list" r t ts) (aLM rA a as) := by
  intro b M E σ QA Q t0 ok sl h1 k
  refine h b M E σ _ _ t0 ok sl h1 fun b1 M1 x v t1 ok1 s1 r1 h2 => ?_
  split at h2
  · rename_i l e
    obtain ⟨p, us, rfl, hq, _⟩ := listOf_ok ok1 r1 e
    refine ⟨.inl ⟨rfl, _, hq⟩, hs b1 M1 E σ _ _ t1 ok1 (sl.mono s1.same s1.pre) h2 fun b2 M2 xs vs t2 ok2 s2 r2 h3 => ?_⟩
    exact hr b2 M2 x _ xs vs _ _ t2 ok2 (r1.mono s2.same s2.pre) r2 h3 fun b3 M3 z w t3 ok3 s3 r3 q => k b3 M3 z w t3 ok3 ((s1.trans s2).trans s3) r3 q
  · split at h2
    · rename_i l e
      obtain ⟨_, p, us, rfl, _, rfl, _, _, hv, _⟩ := lsaOf_ok ok1 r1 e
      refine ⟨.inl ⟨rfl, _, SqL.of hv⟩, hs b1 M1 E σ _ _ t1 ok1 (sl.mono s1.same s1.pre) h2 fun b2 M2 xs vs t2 ok2 s2 r2 h3 => ?_⟩
      exact hr b2 M2 _ _ xs vs _ _ t2 ok2 (r1.mono s2.same s2.pre) r2 h3 fun b3 M3 z w t3 ok3 s3 r3 q => k b3 M3 z w t3 ok3 ((s1.trans s2).trans s3) r3 q
    · exact h2.elim
theorem se_LM0 {r : V → List V → Hp → VK → Prop} {rA : Am} {t : TE} {a : Ae} (h : SE K W t a) (hr : SM K W r rA) : SE K W (tBM0 K "list" r t) (aLM rA a aNil) := by
  intro b M E σ QA Q t0 ok sl h1 k
  refine h b M E σ _ _ t0 ok sl h1 fun b1 M1 x v t1 ok1 s1 r1 h2 => ?_
  split at h2
  · rename_i l e
    obtain ⟨p, us, rfl, hq, _⟩ := listOf_ok ok1 r1 e
    exact ⟨.inl ⟨rfl, _, hq⟩, hr b1 M1 x _ [] [] _ _ t1 ok1 r1 .nil h2 fun b3 M3 z w t3 ok3 s3 r3 q => k b3 M3 z w t3 ok3 (s1.trans s3) r3 q⟩
  · split at h2
    · rename_i l e
      obtain ⟨_, p, us, rfl, _, rfl, _, _, hv, _⟩ := lsaOf_ok ok1 r1 e
      exact ⟨.inl ⟨rfl, _, SqL.of hv⟩, hr b1 M1 _ _ [] [] _ _ t1 ok1 r1 .nil h2 fun b3 M3 z w t3 ok3 s3 r3 q => k b3 M3 z w t3 ok3 (s1.trans s3) r3 q⟩
    · exact h2.elim
theorem put_lst {b : Wd} {M : Mem} {k : Nat} {l l' : List D} {vs' : List V} {v : V} {Q : VK} {QA : A → Mem → Prop} {z : A} {w : V} (t : To W b) (ok : Ok K b M) (r : RepA K b.al b.I (.cell k) v) (e : M[k]? = some (.lst l)) (rz : RepA K b.al b.I z w) (r' : Reps K b.I l' vs') (q : QA z (M.set k (.lst l')))
    (kk : ∀ b' M' z w, To W b' → Ok K b' M' → Step b b' → RepA K b'.al b'.I z w → QA z M' → Q w b'.H) : ∃ p vs, v = .ref p ∧ b.H p = some (.lst vs) ∧ Reps K b.I l vs ∧ Q w (upd b.H p (.lst vs')) := by
  obtain ⟨p, ha, rfl⟩ := cell_addr r
  obtain ⟨hn, vs, hv, rs⟩ := ok.at_ _ _ _ ha e
  exact ⟨p, vs, rfl, hv, rs, kk ⟨b.I, b.al, upd b.H p (.lst vs')⟩ _ z w (t.put ha) (ok.put (c := .lst l') ha hn ⟨hn, _, upd_same, r'⟩) (step_put ha) rz q⟩
theorem cell_lst {b : Wd} {M : Mem} {k : Nat} {l : List D} {v : V} (ok : Ok K b M) (r : RepA K b.al b.I (.cell k) v) (e : M[k]? = some (.lst l)) : ∃ p vs, v = .ref p ∧ b.al[k]? = some p ∧ b.I p = none ∧ b.H p = some (.lst vs) ∧ Reps K b.I l vs := by
  obtain ⟨p, ha, rfl⟩ := cell_addr r
  obtain ⟨hn, vs, hv, rs⟩ := ok.at_ _ _ _ ha e
  exact ⟨p, vs, rfl, ha, hn, hv, rs⟩
def mAppend : Am := fun x xs M Q => match x, xs with
  | .cell k, [.d y] => match M[k]? with
    | some (.lst l) => Side (l.length < sizeLine) (Q (.d .non) (M.set k (.lst (l ++ [y]))))
    | some (.lsa l) => Side (l.length < sizeLine) (Q (.d .non) (M.set k (.lsa (l ++ [.d y]))))
    | _ => False
  | .cell k, [.cell c] => match M[k]? with
    | some (.lst l) => Side (l.length < sizeLine) (Q (.d .non) (M.set k (.lsa (l.map A.d ++ [.cell c]))))
    | some (.lsa l) => Side (l.length < sizeLine) (Q (.d .non) (M.set k (.lsa (l ++ [.cell c]))))
    | _ => False
  | _, _ => False
theorem RepAs.appA {al : List Addr} {I : Hp} : ∀ {xs ys : List A} {vs us : List V}, RepAs K al I xs vs → RepAs K al I ys us → RepAs K al I (xs ++ ys) (vs ++ us)
  | _, _, _, _, .nil, s => s
  | _, _, _, _, .cons r t, s => .cons r (RepAs.appA t s)
theorem RepAs.revA {al : List Addr} {I : Hp} : ∀ {xs : List A} {vs : List V}, RepAs K al I xs vs → RepAs K al I xs.reverse vs.reverse
  | _, _, .nil => .nil
  | _, _, .cons r t => by rw [List.reverse_cons, List.reverse_cons]; exact RepAs.appA (RepAs.revA t) (.cons r .nil)
theorem RepAs.dropLastA {al : List Addr} {I : Hp} {xs : List A} {vs : List V} (r : RepAs K al I xs vs) : RepAs K al I xs.dropLast vs.dropLast := by
  rw [List.dropLast_eq_take, List.dropLast_eq_take, r.length]; exact r.take _
theorem cell_lsa {b : Wd} {M : Mem} {k : Nat} {l : List A} {v : V} (ok : Ok K b M) (r : RepA K b.al b.I (.cell k) v) (e : M[k]? = some (.lsa l)) : ∃ p vs, v = .ref p ∧ b.al[k]? = some p ∧ b.I p = none ∧ b.H p = some (.lst vs) ∧ RepAs K b.al b.I l vs := by
  obtain ⟨p, ha, rfl⟩ := cell_addr r
  obtain ⟨hn, vs, hv, rs⟩ := ok.at_ _ _ _ ha e
  exact ⟨p, vs, rfl, ha, hn, hv, rs⟩
theorem sm_append : SM K W rAppend mAppend := by
  intro b M x v xs vs QA Q t ok r rs h k
  unfold mAppend at h
  split at h
  · split at h
    · rename_i l e
      obtain ⟨hl, q⟩ := h
      obtain ⟨u, rfl, ru⟩ := repAs_1 rs
      obtain ⟨p, us, rfl, ha, hn, hv, rr⟩ := cell_lst ok r e
      exact ⟨p, us, u, rfl, rfl, hv, by rw [← rr.length]; exact hl, k ⟨b.I, b.al, upd b.H p _⟩ _ _ _ (t.put ha) (ok.put (c := .lst (l ++ [_])) ha hn ⟨hn, _, upd_same, rr.app (.cons (repA_d ru) .nil)⟩) (step_put ha) (.d .non) q⟩
    · rename_i l e
      obtain ⟨hl, q⟩ := h
      obtain ⟨u, rfl, ru⟩ := repAs_1 rs
      obtain ⟨p, us, rfl, ha, hn, hv, rr⟩ := cell_lsa ok r e
      exact ⟨p, us, u, rfl, rfl, hv, by rw [← rr.length]; exact hl, k ⟨b.I, b.al, upd b.H p _⟩ _ _ _ (t.put ha) (ok.put (c := .lsa (l ++ [_])) ha hn ⟨hn, _, upd_same, rr.appA (.cons ru .nil)⟩) (step_put ha) (.d .non) q⟩
    · exact h.elim
  · split at h
    · rename_i l e
      obtain ⟨hl, q⟩ := h
      obtain ⟨u, rfl, ru⟩ := repAs_1 rs
      obtain ⟨p, us, rfl, ha, hn, hv, rr⟩ := cell_lst ok r e
      exact ⟨p, us, u, rfl, rfl, hv, by rw [← rr.length]; exact hl, k ⟨b.I, b.al, upd b.H p _⟩ _ _ _ (t.put ha) (ok.put (c := .lsa (l.map A.d ++ [_])) ha hn ⟨hn, _, upd_same, (repsA rr).appA (.cons ru .nil)⟩) (step_put ha) (.d .non) q⟩
    · rename_i l e
      obtain ⟨hl, q⟩ := h
      obtain ⟨u, rfl, ru⟩ := repAs_1 rs
      obtain ⟨p, us, rfl, ha, hn, hv, rr⟩ := cell_lsa ok r e
      exact ⟨p, us, u, rfl, rfl, hv, by rw [← rr.length]; exact hl, k ⟨b.I, b.al, upd b.H p _⟩ _ _ _ (t.put ha) (ok.put (c := .lsa (l ++ [_])) ha hn ⟨hn, _, upd_same, rr.appA (.cons ru .nil)⟩) (step_put ha) (.d .non) q⟩
    · exact h.elim
  · exact h.elim
def mReverse : Am := fun x xs M Q => match x, xs with
  | .cell k, [] => match M[k]? with
    | some (.lst l) => Q (.d .non) (M.set k (.lst l.reverse))
    | some (.lsa l) => Q (.d .non) (M.set k (.lsa l.reverse))
    | _ => False
  | _, _ => False
theorem sm_reverse : SM K W rReverse mReverse := by
  intro b M x v xs vs QA Q t ok r rs h k
  unfold mReverse at h
  split at h
  · split at h
    · rename_i l e
      cases rs
      obtain ⟨p, us, rfl, ha, hn, hv, rr⟩ := cell_lst ok r e
      exact ⟨p, us, rfl, rfl, hv, k ⟨b.I, b.al, upd b.H p _⟩ _ _ _ (t.put ha) (ok.put (c := .lst l.reverse) ha hn ⟨hn, _, upd_same, rr.rev⟩) (step_put ha) (.d .non) h⟩
    · rename_i l e
      cases rs
      obtain ⟨p, us, rfl, ha, hn, hv, rr⟩ := cell_lsa ok r e
      exact ⟨p, us, rfl, rfl, hv, k ⟨b.I, b.al, upd b.H p _⟩ _ _ _ (t.put ha) (ok.put (c := .lsa l.reverse) ha hn ⟨hn, _, upd_same, rr.revA⟩) (step_put ha) (.d .non) h⟩
    · exact h.elim
  · exact h.elim
def mClear : Am := fun x xs M Q => match x, xs with
  | .cell k, [] => match M[k]? with
    | some (.lst _) => Q (.d .non) (M.set k (.lst []))
    | _ => False
  | _, _ => False
theorem sm_clear : SM K W rClear mClear := by
  intro b M x v xs vs QA Q t ok r rs h k
  unfold mClear at h
  split at h
  · split at h
    · rename_i l e
      cases rs
      obtain ⟨p, us, rfl, ha, hn, hv, rr⟩ := cell_lst ok r e
      exact ⟨p, us, rfl, rfl, hv, k ⟨b.I, b.al, upd b.H p _⟩ _ _ _ (t.put ha) (ok.put (c := .lst []) ha hn ⟨hn, _, upd_same, .nil⟩) (step_put ha) (.d .non) h⟩
    · exact h.elim
  · exact h.elim
def mPop : Am := fun x xs M Q => match x, xs with
  | .cell k, [] => match M[k]? with
    | some (.lst l) => Opt l[l.length - 1]? fun y => Q (.d y) (M.set k (.lst l.dropLast))
    | some (.lsa l) => Opt l[l.length - 1]? fun y => Q y (M.set k (.lsa l.dropLast))
    | _ => False
  | _, _ => False
theorem sm_pop : SM K W rPop mPop := by
  intro b M x v xs vs QA Q t ok r rs h k
  unfold mPop at h
  split at h
  · split at h
    · rename_i l e
      obtain ⟨y, ey, q⟩ := h
      cases rs
      obtain ⟨p, us, rfl, ha, hn, hv, rr⟩ := cell_lst ok r e
      obtain ⟨u, hu, ru⟩ := rr.get ey
      rw [rr.length] at hu
      exact ⟨p, us, u, rfl, rfl, hv, hu, k ⟨b.I, b.al, upd b.H p _⟩ _ _ _ (t.put ha) (ok.put (c := .lst l.dropLast) ha hn ⟨hn, _, upd_same, rr.dropLast⟩) (step_put ha) (.d ru) q⟩
    · rename_i l e
      obtain ⟨y, ey, q⟩ := h
      cases rs
      obtain ⟨p, us, rfl, ha, hn, hv, rr⟩ := cell_lsa ok r e
      obtain ⟨u, hu, ru⟩ := rr.getA ey
      rw [rr.length] at hu
      exact ⟨p, us, u, rfl, rfl, hv, hu, k ⟨b.I, b.al, upd b.H p _⟩ _ _ _ (t.put ha) (ok.put (c := .lsa l.dropLast) ha hn ⟨hn, _, upd_same, rr.dropLastA⟩) (step_put ha) ru q⟩
    · exact h.elim
  · exact h.elim
/-- extend by a list that stands still, or another cell -/
def mExtend : Am := fun x xs M Q => match x, xs with
  | .cell k, [.d (.lst m)] => match M[k]? with
    | some (.lst l) => Side (l.length + m.length ≤ sizeLine) (Q (.d .non) (M.set k (.lst (l ++ m))))
    | some (.lsa l) => Side (l.length + m.length ≤ sizeLine) (Q (.d .non) (M.set k (.lsa (l ++ m.map A.d))))
    | _ => False
  | .cell k, [.cell j] => match M[k]?, M[j]? with
    | some (.lst l), some (.lst m) => Side (l.length + m.length ≤ sizeLine) (Q (.d .non) (M.set k (.lst (l ++ m))))
    | some (.lst l), some (.lsa m) => Side (l.length + m.length ≤ sizeLine) (Q (.d .non) (M.set k (.lsa (l.map A.d ++ m))))
    | some (.lsa l), some (.lsa m) => Side (l.length + m.length ≤ sizeLine) (Q (.d .non) (M.set k (.lsa (l ++ m))))
    | _, _ => False
  | _, _ => False
theorem sm_extend : SM K W rExtend mExtend := by
  intro b M x v xs vs QA Q t ok r rs h k
  unfold mExtend at h
  split at h
  · split at h
    · rename_i l e
      obtain ⟨hl, q⟩ := h
      obtain ⟨u, rfl, ru⟩ := repAs_1 rs
      obtain ⟨p, us, rfl, ha, hn, hv, rr⟩ := cell_lst ok r e
      cases repA_d ru with
      | lst hp rm =>
        exact ⟨p, _, us, _, rfl, rfl, hv, ok.ih _ _ hp, by rw [← rr.length, ← rm.length]; exact hl, k ⟨b.I, b.al, upd b.H p _⟩ _ _ _ (t.put ha) (ok.put (c := .lst (l ++ _)) ha hn ⟨hn, _, upd_same, rr.app rm⟩) (step_put ha) (.d .non) q⟩
    · rename_i l e
      obtain ⟨hl, q⟩ := h
      obtain ⟨u, rfl, ru⟩ := repAs_1 rs
      obtain ⟨p, us, rfl, ha, hn, hv, rr⟩ := cell_lsa ok r e
      cases repA_d ru with
      | lst hp rm =>
        exact ⟨p, _, us, _, rfl, rfl, hv, ok.ih _ _ hp, by rw [← rr.length, ← rm.length]; exact hl, k ⟨b.I, b.al, upd b.H p _⟩ _ _ _ (t.put ha) (ok.put (c := .lsa (l ++ _)) ha hn ⟨hn, _, upd_same, rr.appA (repsA rm)⟩) (step_put ha) (.d .non) q⟩
    · exact h.elim
  · split at h
    · rename_i l m e e2
      obtain ⟨hl, q⟩ := h
      obtain ⟨u, rfl, ru⟩ := repAs_1 rs
      obtain ⟨p, us, rfl, ha, hn, hv, rr⟩ := cell_lst ok r e
      obtain ⟨p2, us2, rfl, ha2, hn2, hv2, rr2⟩ := cell_lst ok ru e2
      exact ⟨p, p2, us, us2, rfl, rfl, hv, hv2, by rw [← rr.length, ← rr2.length]; exact hl, k ⟨b.I, b.al, upd b.H p _⟩ _ _ _ (t.put ha) (ok.put (c := .lst (l ++ m)) ha hn ⟨hn, _, upd_same, rr.app rr2⟩) (step_put ha) (.d .non) q⟩
    · rename_i l m e e2
      obtain ⟨hl, q⟩ := h
      obtain ⟨u, rfl, ru⟩ := repAs_1 rs
      obtain ⟨p, us, rfl, ha, hn, hv, rr⟩ := cell_lst ok r e
      obtain ⟨p2, us2, rfl, ha2, hn2, hv2, rr2⟩ := cell_lsa ok ru e2
      exact ⟨p, p2, us, us2, rfl, rfl, hv, hv2, by rw [← rr.length, ← rr2.length]; exact hl, k ⟨b.I, b.al, upd b.H p _⟩ _ _ _ (t.put ha) (ok.put (c := .lsa (l.map A.d ++ m)) ha hn ⟨hn, _, upd_same, (repsA rr).appA rr2⟩) (step_put ha) (.d .non) q⟩
    · rename_i l m e e2
      obtain ⟨hl, q⟩ := h
      obtain ⟨u, rfl, ru⟩ := repAs_1 rs
      obtain ⟨p, us, rfl, ha, hn, hv, rr⟩ := cell_lsa ok r e
      obtain ⟨p2, us2, rfl, ha2, hn2, hv2, rr2⟩ := cell_lsa ok ru e2
      exact ⟨p, p2, us, us2, rfl, rfl, hv, hv2, by rw [← rr.length, ← rr2.length]; exact hl, k ⟨b.I, b.al, upd b.H p _⟩ _ _ _ (t.put ha) (ok.put (c := .lsa (l ++ m)) ha hn ⟨hn, _, upd_same, rr.appA rr2⟩) (step_put ha) (.d .non) q⟩
    · exact h.elim
  · exact h.elim
/-! ### + and * of lists, + of tuples, of texts: one rule for each operator -/
def lstOf (x : A) (M : Mem) : Option (List D) := match x with
  | .d (.lst l) => some l
  | .cell k => match M[k]? with
    | some (.lst l) => some l
    | _ => none
  | _ => none
theorem lstOf_ok {b : Wd} {M : Mem} {x : A} {v : V} {l : List D} (ok : Ok K b M) (r : RepA K b.al b.I x v) (h : lstOf x M = some l) : ∃ p vs, v = .ref p ∧ b.H p = some (.lst vs) ∧ Reps K b.I l vs := by
  unfold lstOf at h
  split at h
  · cases h
    cases repA_d r with
    | lst hp rs => exact ⟨_, _, rfl, ok.ih _ _ hp, rs⟩
  · split at h
    · rename_i e
      cases h
      obtain ⟨p, vs, rfl, ha, hn, hv, rs⟩ := cell_lst ok r e
      exact ⟨_, _, rfl, hv, rs⟩
    · cases h
  · cases h
/-- the items of a list of either kind -/
def lsqOf (x : A) (M : Mem) : Option (List A) := match lstOf x M with
  | some l => some (l.map A.d)
  | none => lsaOf x M
theorem lsqOf_ok {b : Wd} {M : Mem} {x : A} {v : V} {l : List A} (ok : Ok K b M) (r : RepA K b.al b.I x v) (h : lsqOf x M = some l) : ∃ p vs, v = .ref p ∧ b.H p = some (.lst vs) ∧ RepAs K b.al b.I l vs := by
  unfold lsqOf at h
  split at h
  · rename_i e
    cases h
    obtain ⟨p, vs, rfl, hv, rs⟩ := lstOf_ok ok r e
    exact ⟨p, vs, rfl, hv, repsA rs⟩
  · obtain ⟨_, p, vs, rfl, _, rfl, _, _, hv, rs⟩ := lsaOf_ok ok r h
    exact ⟨p, vs, rfl, hv, rs⟩
def aAdd (cel : Bool) : A2 := fun x y M Q => match x, y with
  | .d (.int i), .d (.int j) => Q (.d (.int (i + j))) M
  | .d (.str i), .d (.str j) => Side (i.length + j.length ≤ sizeLine) (Q (.d (.str (i ++ j))) M)
  | .d (.tup l), .d (.tup m) => Side (l.length + m.length ≤ sizeLine) (Q (.d (.tup (l ++ m))) M)
  | _, _ => match lstOf x M, lstOf y M with
    | some l, some m => Side (l.length + m.length ≤ sizeLine) (mkL cel (l ++ m) M Q)
    | _, _ => match lsqOf x M, lsqOf y M with
      | some l, some m => Side (l.length + m.length ≤ sizeLine) (mkA cel (l ++ m) M Q)
      | _, _ => False
def rAddA (K : PySem.W.Frag) : R2 := fun x y H Q => rI0 (fun i j => .int (i + j)) x y H Q ∨ (fun x y H Q => (∃ i j, x = .str i ∧ y = .str j ∧ i.length + j.length ≤ sizeLine ∧ Q (.str (i ++ j)) H) ∨ (fun x y H Q => rCatA K x y H Q ∨ rCat x y H Q) x y H Q) x y H Q
theorem s2_add {cel : Bool} : S2 K W (rAddA K) (aAdd cel) := by
  intro b M x y v u QA Q t ok r1 r2 h k
  unfold aAdd at h
  split at h
  · cases rep_int_inv (repA_d r1); cases rep_int_inv (repA_d r2)
    exact .inl ⟨_, _, rfl, rfl, k b M _ _ t ok (Step.refl _) (.d (.int _)) h⟩
  · cases rep_str_inv (repA_d r1); cases rep_str_inv (repA_d r2)
    exact .inr (.inl ⟨_, _, rfl, rfl, h.s, k b M _ _ t ok (Step.refl _) (.d (.str _)) h.q⟩)
  · obtain ⟨hl, q⟩ := h
    rename_i l m
    cases repA_d r1 with
    | tup hp rs =>
      cases repA_d r2 with
      | tup hp2 rs2 =>
        refine .inr (.inr (.inl ⟨_, _, _, _, rfl, rfl, same_t ok.ih hp, same_t ok.ih hp2, by rw [← rs.length, ← rs2.length]; exact hl, fun e => ?_, fun _ e => ?_, fun _ _ => ?_⟩))
        · subst e
          cases rs
          exact k b M _ _ t ok (Step.refl _) (.d (.tup hp2 rs2)) q
        · subst e
          cases rs2
          rw [List.append_nil] at q
          exact k b M _ _ t ok (Step.refl _) (.d (.tup hp rs)) q
        · exact new_d t ok (fun p hp => .tup (SqT.of upd_same) ((rs.app rs2).mono (same_new (ok.iNone hp)))) q k
  · split at h
    · rename_i l m e1 e2
      obtain ⟨hl, q⟩ := h
      obtain ⟨p, vs, rfl, hv, rs⟩ := lstOf_ok ok r1 e1
      obtain ⟨p2, vs2, rfl, hv2, rs2⟩ := lstOf_ok ok r2 e2
      exact .inr (.inr (.inr ⟨_, _, _, _, rfl, rfl, hv, hv2, by rw [← rs.length, ← rs2.length]; exact hl, new_L t ok (rs.app rs2) q k⟩))
    · split at h
      · rename_i l m e1 e2
        obtain ⟨hl, q⟩ := h
        obtain ⟨p, vs, rfl, hv, rs⟩ := lsqOf_ok ok r1 e1
        obtain ⟨p2, vs2, rfl, hv2, rs2⟩ := lsqOf_ok ok r2 e2
        exact .inr (.inr (.inr ⟨_, _, _, _, rfl, rfl, hv, hv2, by rw [← rs.length, ← rs2.length]; exact hl, new_A t ok (rs.appA rs2) q k⟩))
      · exact h.elim
/-- xs * n, n * xs isn't carried -/
def repD (l : List D) : Nat → List D
  | 0 => []
  | n + 1 => repD l n ++ l
/-! ### comprehensions -/
def wipeE (E : Env) : List Nat → Env
  | [] => E
  | v :: vs => (wipeE E vs).set v none
theorem slots_wipe {al : List Addr} {I : Hp} {E : Env} {σ : L2.St} (s : Slots K al I E σ) : ∀ vs : List Nat, Slots K al I (wipeE E vs) (wipe σ vs)
  | [] => s
  | v :: vs => (slots_wipe s vs).clr
theorem wipe_idem (σ : L2.St) : ∀ vs ws : List Nat, (∀ v ∈ vs, v ∈ ws) → wipe (wipe σ vs) ws = wipe σ ws
  | [], ws, _ => rfl
  | v :: vs, ws, h => by
    show wipe ((wipe σ vs).set v none) ws = _
    rw [wipe_set_in (h v List.mem_cons_self), wipe_idem σ vs ws fun x hx => h x (List.mem_cons_of_mem _ hx)]
/-- [elt for target in items if ..]: Pv by the turns, what is made so far, the cells -/
structure LcS (items : List D) (g : Ag) (tt : At) (a : Ae) (E : Env) (M : Mem) (Q : List D → Mem → Prop) : Prop where
  inv : ∃ Pv : Nat → List D → Mem → Prop, Pv 0 [] M ∧ (∀ i d acc M, items[i]? = some d → Pv i acc M → g (.d d) E M fun E1 M1 => tt E1 M1 fun c M2 => Fork c (a E1 M2 fun y M3 => match y with
    | .d z => Side (acc.length < sizeLine) (Pv (i + 1) (acc ++ [z]) M3)
    | .cell _ => False) (Pv (i + 1) acc M2)) ∧ ∀ acc M, Pv items.length acc M → Q acc M
def aLc (cel : Bool) (w : Ai) (g : Ag) (tt : At) (a : Ae) (vs : List Nat) : Ae := fun E M Q => w E M fun items M1 => LcS items g tt a (wipeE E vs) M1 fun acc M2 => mkL cel acc M2 Q
theorem se_lc {cel : Bool} {js : List Nat} {wi : TI} {g : TG} {tt : TT} {te : TE} {w : Ai} {ag : Ag} {at_ : At} {a : Ae} {vs : List Nat} (hj : ∀ j ∈ js, j ∈ vs) (hi : SI K W wi w) (hg : SG K W js g ag) (ht : ST K W tt at_) (he : SE K W te a) :
    SE K W (tLc wi g tt te vs) (aLc cel w ag at_ a vs) := by
  intro b M E σ QA Q t ok sl h k
  refine hi b M E σ _ _ t ok sl h fun b1 M1 J items t1 ok1 s1 T h2 => ?_
  obtain ⟨Pv, p0, turn, fin⟩ := h2.inv
  intro Dd hD
  -- the list at D is tracked: neither among what stands still nor among the cells
  have putD : ∀ {b2 : Wd} {M2 : Mem} {o : HO}, Ok K b2 M2 → Dd ∉ b2.al → b2.I Dd = none → Ok K ⟨b2.I, b2.al, upd b2.H Dd o⟩ M2 := fun {b2 M2 o} ok2 nD nI =>
    ⟨fun x w (e : b2.I x = some w) => show upd b2.H Dd o x = some w by rw [upd_ne (ne_of_none e nI)]; exact ok2.ih x w e, ok2.len, ok2.nd, fun j x e (z : upd b2.H Dd o x = none) => by
      by_cases y : x = Dd
      · subst y; exact nD (List.mem_of_getElem? e)
      · rw [upd_ne y] at z; exact ok2.dom j x e z, fun j x c (e1 : b2.al[j]? = some x) e2 => show HasC K b2.al b2.I (upd b2.H Dd o) x c by
      have ne : x ≠ Dd := fun z => nD (z ▸ List.mem_of_getElem? e1)
      have q := ok2.at_ j x c e1 e2
      cases c with
      | gone => trivial
      | lst _ => exact q.mono (Same.refl _) (Pre.refl _) q.1 (by rw [upd_ne ne])
      | obj _ _ => exact q.mono (Same.refl _) (Pre.refl _) q.1 (by rw [upd_ne ne])
      | dic _ => exact q.mono (Same.refl _) (Pre.refl _) q.1 (by rw [upd_ne ne])
      | did _ => exact q.mono (Same.refl _) (Pre.refl _) q.1 (by rw [upd_ne ne])
      | lsa _ => exact q.mono (Same.refl _) (Pre.refl _) q.1 (by rw [upd_ne ne])
      | tpa _ => exact q.mono (Same.refl _) (Pre.refl _) q.1 (by rw [upd_ne ne])⟩
  have toD : ∀ {a b2 : Wd} {o : HO}, To a b2 → a.H Dd = none → To a ⟨b2.I, b2.al, upd b2.H Dd o⟩ := fun {a b2 o} t n =>
    ⟨t.same, fun x w e m => by
      have z := t.fr x w e m
      show upd b2.H Dd o x = some w
      rw [upd_ne (ne_of_none e n)]; exact z, t.fresh, fun x (e : upd b2.H Dd o x = none) => by
      by_cases z : x = Dd
      · subst z; rw [upd_same] at e; cases e
      · rw [upd_ne z] at e; exact t.dom x e, t.pre, t.new⟩
  have hDW : W.H Dd = none := t1.dom Dd hD
  refine ⟨fun i m H => m = items.length - i ∧ i ≤ items.length ∧ ∃ (b2 : Wd) (M2 : Mem) (acc : List D) (us : List V), b2.H = H ∧ To W b2 ∧ Ok K b2 M2 ∧ To b1 b2 ∧ Dd ∉ b2.al ∧ b2.I Dd = none ∧ b2.H Dd = some (.lst us) ∧ Reps K b2.I acc us ∧ Pv i acc M2,
    ⟨items.length, by simp, Nat.zero_le _, ⟨b1.I, b1.al, upd b1.H Dd (.lst [])⟩, M1, [], [], rfl, toD t1 hDW, putD ok1 (ok1.nin hD) (ok1.iNone hD), toD (To.refl b1) hD, ok1.nin hD, ok1.iNone hD, upd_same, .nil, p0⟩, ?_⟩
  rintro i m _ ⟨rfl, hil, b2, M2, acc, us, rfl, t2, ok2, s2, nD, nI, eD, ra, p2⟩
  by_cases hlt : i < items.length
  · have hd : items[i]? = some items[i] := by simp [hlt]
    refine .inr ⟨(T.go b2.I b2.H i _ s2.same ok2.ih hd).1, fun H => ∃ (b2 : Wd) (M2 : Mem) (acc : List D) (us : List V), b2.H = H ∧ To W b2 ∧ Ok K b2 M2 ∧ To b1 b2 ∧ Dd ∉ b2.al ∧ b2.I Dd = none ∧ b2.H Dd = some (.lst us) ∧ Reps K b2.I acc us ∧ Pv (i + 1) acc M2, fun H q => ⟨items.length - (i + 1), by omega, rfl, hlt, q⟩, fun x H3 y => ?_⟩
    obtain ⟨b3, rfl, t3, ok3, s3, r3⟩ := its_yld t2 ok2 T s2.same hd y
    have sl0 : Slots K b3.al b3.I (wipeE E vs) (wipe σ vs) := slots_wipe (sl.mono ((s1.trans s2).trans s3).same ((s1.trans s2).trans s3).pre) vs
    -- D through a step from b2
    have keepD : ∀ {c : Wd} {N : Mem}, To b2 c → Ok K c N → Dd ∉ c.al ∧ c.I Dd = none ∧ c.H Dd = some (.lst us) := fun {c N} tc okc => by
      have n1 : Dd ∉ c.al := fun z => by
        rcases tc.new Dd z with z | z
        · exact nD z
        · rw [eD] at z; cases z
      refine ⟨n1, ?_, tc.fr Dd _ eD nD⟩
      cases e : c.I Dd with
      | none => rfl
      | some o =>
        have := tc.fresh Dd nI (by rw [e]; exact fun z => nomatch z)
        rw [eD] at this; cases this
    refine hg b3 M2 _ _ _ _ _ _ t3 ok3 sl0 (.d r3) (turn i _ acc M2 hd p2) fun b4 M4 E4 σ4 t4 ok4 s4 sl4 w4 h4 => ?_
    refine ⟨(w4 vs hj).trans (wipe_idem σ vs vs fun v h => h), ?_⟩
    refine ht b4 M4 E4 σ4 _ _ t4 ok4 sl4 h4 fun b5 M5 c t5 ok5 s5 h5 => ?_
    have s25 : To b2 b5 := (s3.trans s4).trans s5
    cases c with
    | false =>
      obtain ⟨n1, n2, n3⟩ := keepD s25 ok5
      exact ⟨b5, M5, acc, us, rfl, t5, ok5, s2.trans s25, n1, n2, n3, ra.mono s25.same, h5.f rfl⟩
    | true =>
      refine he b5 M5 E4 σ4 _ _ t5 ok5 (sl4.mono s5.same s5.pre) (h5.t rfl) fun b6 M6 z v t6 ok6 s6 r6 h6 => ?_
      have s26 : To b2 b6 := s25.trans s6
      obtain ⟨n1, n2, n3⟩ := keepD s26 ok6
      split at h6
      · obtain ⟨hl, q⟩ := h6
        have ra6 := ra.mono s26.same
        refine ⟨us, n3, by rw [← ra.length]; exact hl, ⟨b6.I, b6.al, upd b6.H Dd (.lst (us ++ [v]))⟩, M6, _, _, rfl, toD t6 hDW, putD ok6 n1 n2, toD (s2.trans s26) hD, n1, n2, upd_same, ra6.app (.cons (repA_d r6) .nil), q⟩
      · exact h6.elim
  · have e1 : i = items.length := by omega
    subst e1
    refine .inl ⟨T.stop b2.I b2.H s2.same ok2.ih, ?_⟩
    have q := fin acc M2 p2
    have s02 := s1.trans s2
    cases cel with
    | true =>
      -- the list becomes a cell
      refine k ⟨b2.I, b2.al ++ [Dd], b2.H⟩ _ (.cell M2.length) (.ref Dd) ?_ ?_ ?_ (.cell (by rw [← ok2.len]; exact len_get)) q
      · exact ⟨t2.same, t2.fr, t2.fresh, t2.dom, t2.pre.trans (Pre.snoc _ _), fun x (e : x ∈ b2.al ++ [Dd]) => by
          rcases List.mem_append.mp e with e | e
          · exact t2.new x e
          · simp at e; subst e; exact .inr hDW⟩
      · refine ⟨ok2.ih, by show (b2.al ++ [Dd]).length = _; rw [List.length_append, List.length_append, ok2.len] <;> rfl, ?_, ?_, ?_⟩
        · show (b2.al ++ [Dd]).Nodup
          rw [List.nodup_append]
          exact ⟨ok2.nd, by simp, fun a ha c hc z => by simp at hc; subst hc; subst z; exact nD ha⟩
        · intro kk a (e : (b2.al ++ [Dd])[kk]? = some a) z
          rcases List.mem_append.mp (List.mem_of_getElem? e) with e | e
          · obtain ⟨j, hj2⟩ := List.getElem?_of_mem e
            exact ok2.dom j a hj2 z
          · simp at e; subst e; rw [eD] at z; cases z
        · intro kk a c' (e1 : (b2.al ++ [Dd])[kk]? = some a) e2
          show HasC K (b2.al ++ [Dd]) b2.I b2.H a c'
          by_cases hk : kk < b2.al.length
          · rw [List.getElem?_append_left hk] at e1
            rw [List.getElem?_append_left (by rw [← ok2.len]; exact hk)] at e2
            have q2 := ok2.at_ kk a c' e1 e2
            cases c' with
            | gone => trivial
            | lst _ => exact q2.mono (Same.refl _) (Pre.snoc _ _) q2.1 rfl
            | obj _ _ => exact q2.mono (Same.refl _) (Pre.snoc _ _) q2.1 rfl
            | dic _ => exact q2.mono (Same.refl _) (Pre.snoc _ _) q2.1 rfl
            | did _ => exact q2.mono (Same.refl _) (Pre.snoc _ _) q2.1 rfl
            | lsa _ => exact q2.mono (Same.refl _) (Pre.snoc _ _) q2.1 rfl
            | tpa _ => exact q2.mono (Same.refl _) (Pre.snoc _ _) q2.1 rfl
          · have hlen := ok2.len
            rw [List.getElem?_append_right (by omega)] at e1 e2
            have hk1 : kk - b2.al.length = 0 := by
              have := (List.getElem?_eq_some_iff.mp e1).1
              simp at this; omega
            have hk2 : kk - M2.length = 0 := by omega
            rw [hk1] at e1; rw [hk2] at e2
            simp at e1 e2
            subst e1; subst e2
            exact ⟨nI, us, eD, ra⟩
      · exact ⟨s02.same, s02.fr, s02.fresh, s02.dom, s02.pre.trans (Pre.snoc _ _), fun x (e : x ∈ b2.al ++ [Dd]) => by
          rcases List.mem_append.mp e with e | e
          · exact s02.new x e
          · simp at e; subst e; exact .inr (s1.dom _ hD)⟩
    | false =>
      -- the list stands still from now on
      have same2 : Same b2.I (upd b2.I Dd (.lst us)) := same_new nI
      have toF : ∀ {a : Wd}, To a b2 → a.H Dd = none → To a ⟨upd b2.I Dd (.lst us), b2.al, b2.H⟩ := fun {a} t n =>
        ⟨t.same.trans same2, t.fr, fun x e (m : upd b2.I Dd (.lst us) x ≠ none) => by
          by_cases z : x = Dd
          · subst z; exact n
          · rw [upd_ne z] at m; exact t.fresh x e m, t.dom, t.pre, t.new⟩
      refine k ⟨upd b2.I Dd (.lst us), b2.al, b2.H⟩ M2 (.d (.lst acc)) (.ref Dd) (toF t2 hDW) ?_ (toF s02 (s1.dom _ hD)) (.d (.lst upd_same (ra.mono same2))) q
      refine ⟨fun x w (e : upd b2.I Dd (.lst us) x = some w) => show b2.H x = some w by
        by_cases z : x = Dd
        · subst z; rw [upd_same] at e; rw [← e]; exact eD
        · rw [upd_ne z] at e; exact ok2.ih x w e, ok2.len, ok2.nd, ok2.dom, fun j x c (e1 : b2.al[j]? = some x) e2 => show HasC K b2.al (upd b2.I Dd (.lst us)) b2.H x c by
        have ne : x ≠ Dd := fun z => nD (z ▸ List.mem_of_getElem? e1)
        have q2 := ok2.at_ j x c e1 e2
        cases c with
        | gone => trivial
        | lst _ => exact q2.mono same2 (Pre.refl _) (by rw [upd_ne ne]; exact q2.1) rfl
        | obj _ _ => exact q2.mono same2 (Pre.refl _) (by rw [upd_ne ne]; exact q2.1) rfl
        | dic _ => exact q2.mono same2 (Pre.refl _) (by rw [upd_ne ne]; exact q2.1) rfl
        | did _ => exact q2.mono same2 (Pre.refl _) (by rw [upd_ne ne]; exact q2.1) rfl
        | lsa _ => exact q2.mono same2 (Pre.refl _) (by rw [upd_ne ne]; exact q2.1) rfl
        | tpa _ => exact q2.mono same2 (Pre.refl _) (by rw [upd_ne ne]; exact q2.1) rfl⟩
end
end G

set_option Elab.async false
set_option linter.all false
set_option maxRecDepth 100000
namespace G
open PySem PySem.Spec PyProof.Rows L2

section
variable {X : Cx} {W : Wd} {pos p apos : Pos} {e e2 e3 o tg elt iter : Expr} {es : List Expr} {t t2 : TE} {a a2 : Ae} {ts : TA} {as : Aa} {x : Str}
/-- f(e, ..), f a built-in by its name -/
theorem ae_cb {id : String} {r : List V → Hp → VK → Prop} {rA : Ac} (hc : CallR X (.builtin id) r) (hs : SC X.K W r rA) (hm : X.mg x = none) (ha : AA X W (e :: es) ts as) (hv : bootBuiltins x = some (.builtin id) := by decide +kernel) (hg : Gl X x := by rfl) (hn : x ≠ "__name__" := by decide) (hdb : (x == ("__debug__" : Str)) = false := by decide)
    (he : starEach (e :: es) X.env = (false, eval e X.env) :: starEach es X.env := by rfl) (hpl : (backTo pos (starEach es X.env)).any (·.1) = false := by rfl) : AE X W (.Call (.Name x p) (e :: es) [] pos) (tCB r ts) (aCB rA as) :=
  ⟨pe_callB hc hg hm hv ha.pa hn hdb he hpl, se_CB ha.sa hs⟩
theorem ae_ct {T : String} {r : List V → Hp → VK → Prop} {rA : Ac} (hc : CallR X (.type T) r) (hs : SC X.K W r rA) (hm : X.mg x = none) (ha : AA X W (e :: es) ts as) (hv : bootBuiltins x = some (.type T) := by decide +kernel) (hg : Gl X x := by rfl) (hn : x ≠ "__name__" := by decide) (hdb : (x == ("__debug__" : Str)) = false := by decide)
    (he : starEach (e :: es) X.env = (false, eval e X.env) :: starEach es X.env := by rfl) (hpl : (backTo pos (starEach es X.env)).any (·.1) = false := by rfl) : AE X W (.Call (.Name x p) (e :: es) [] pos) (tCB r ts) (aCB rA as) :=
  ⟨pe_callTy hc hg hm hv ha.pa hn hdb he hpl, se_CB ha.sa hs⟩
/-- a built-in class as a value -/
theorem ae_ty {T : String} (hm : X.mg x = none) (hv : bootBuiltins x = some (.type T) := by decide +kernel) (hg : Gl X x := by rfl) (hn : x ≠ "__name__" := by decide) (hdb : (x == ("__debug__" : Str)) = false := by decide) : AE X W (.Name x pos) (tC (.ty T)) (aC (.vl (.ty T))) :=
  ⟨pe_bltn hg hm hv rfl hn hdb, se_c fun _ => .vl _⟩
/-- f(e, ..), f a def of the text: ks the cells that are handed in -/
theorem ae_call {f : Addr} {fd : FuncData} {ps : List Str} {sp : ASp} {k : Nat} {ds : List Value} {dvs : List V} {dv : List D} (ks : List Nat) (F : FnOk X.prog X.w X.K X.mg X.base CX0 k f fd ps (conc X.K sp)) (hr : Room k X.A) (hm : X.mg x = some (.ref f)) (hk : PySem.W.keepIn X.K (.ref f) = true) (hb : Binds X.K fd ps ds)
    (hd : Vals dvs ds) (hdv : ∀ I, Reps X.K I dv dvs) (ha : AA X W (e :: es) ts as) (hg : Gl X x := by rfl) (hdb : (x == ("__debug__" : Str)) = false := by decide)
    (he : starEach (e :: es) X.env = (false, eval e X.env) :: starEach es X.env := by rfl) (hpl : (backTo pos (starEach es X.env)).any (·.1) = false := by rfl) : AE X W (.Call (.Name x p) (e :: es) [] pos) (tCall (conc X.K sp) dvs E0 ts) (aCall sp dv ks as) :=
  ⟨pe_call F hr hg hm hk hb hd pass0 ha.pa hdb he hpl, se_call hdv ha.sa⟩
theorem ae_call0 {f : Addr} {fd : FuncData} {ps : List Str} {sp : ASp} {k : Nat} {ds : List Value} {dvs : List V} {dv : List D} (ks : List Nat) (F : FnOk X.prog X.w X.K X.mg X.base CX0 k f fd ps (conc X.K sp)) (hr : Room k X.A) (hm : X.mg x = some (.ref f)) (hk : PySem.W.keepIn X.K (.ref f) = true) (hb : Binds X.K fd ps ds)
    (hd : Vals dvs ds) (hdv : ∀ I, Reps X.K I dv dvs) (hg : Gl X x := by rfl) (hdb : (x == ("__debug__" : Str)) = false := by decide) : AE X W (.Call (.Name x p) [] [] pos) (tCall (conc X.K sp) dvs E0 tNil) (aCall sp dv ks aNil) :=
  ⟨pe_call0 F hr hg hm hk hb hd pass0 hdb, se_call hdv sa_nil⟩
/-- o.m(e, ..) -/
theorem ae_meth {pl : Sem Bool} {C : Addr} {m : Str} {f : Addr} {fd : FuncData} {ps : List Str} {sp : ASp} {k : Nat} {ds : List Value} {dvs : List V} {dv : List D} (ks : List Nat) (F : FnOk X.prog X.w X.K X.mg X.base CX0 k f fd ps (conc X.K sp)) (hr : Room k X.A) (c : Cls X.K C) (hm : Meth X.K C m f) (hb : Binds X.K fd ps ds)
    (hd : Vals dvs ds) (hdv : ∀ I, Reps X.K I dv dvs) (ho : AE X W o t a) (ha : AA X W (e :: es) ts as)
    (hst : starEach (e :: es) X.env = (false, eval e X.env) :: starEach es X.env := by rfl) (hpl : (backTo pos (starEach es X.env)).any (·.1) = false := by rfl)
    (ht : eval (.Call (.Attribute o m apos) (e :: es) [] pos) X.env = (do
      let ov ← eval o X.env
      standAt apos.atName
      let (f, first) ← holding [ov] (getMethod ov m pl)
      callWith pos f first (backTo pos (starEach (e :: es) X.env)) (backToKw pos (keywordEach [] X.env))) := by rfl) : AE X W (.Call (.Attribute o m apos) (e :: es) [] pos) (tMeth C m (conc X.K sp) dvs E0 t ts) (aMeth C m sp dv ks a as) :=
  ⟨pe_meth ho.pe c hm F hr hb hd pass0 ha.pa hst hpl ht, se_meth hdv ho.se ha.sa⟩
theorem ae_meth0 {pl : Sem Bool} {C : Addr} {m : Str} {f : Addr} {fd : FuncData} {ps : List Str} {sp : ASp} {k : Nat} {ds : List Value} {dvs : List V} {dv : List D} (ks : List Nat) (F : FnOk X.prog X.w X.K X.mg X.base CX0 k f fd ps (conc X.K sp)) (hr : Room k X.A) (c : Cls X.K C) (hm : Meth X.K C m f) (hb : Binds X.K fd ps ds)
    (hd : Vals dvs ds) (hdv : ∀ I, Reps X.K I dv dvs) (ho : AE X W o t a)
    (ht : eval (.Call (.Attribute o m apos) [] [] pos) X.env = (do
      let ov ← eval o X.env
      standAt apos.atName
      let (f, first) ← holding [ov] (getMethod ov m pl)
      callWith pos f first (backTo pos (starEach [] X.env)) (backToKw pos (keywordEach [] X.env))) := by rfl) : AE X W (.Call (.Attribute o m apos) [] [] pos) (tMeth C m (conc X.K sp) dvs E0 t tNil) (aMeth C m sp dv ks a aNil) :=
  ⟨pe_meth0 ho.pe c hm F hr hb hd pass0 ht, se_meth hdv ho.se sa_nil⟩
theorem ae_fld {C : Addr} {f : Str} (c : Cls X.K C) (n : NoAttr X.K C f) (h : AE X W e t a) (hb : attributeBase e f X.env (eval e X.env) = eval e X.env := by rfl) : AE X W (.Attribute e f pos) (tFld X.K t f) (aFld C f a) := ⟨pe_fld h.pe hb, se_fld c n h.se⟩
/-- methods of lists -/
theorem ae_lm {name : Str} {id : String} {r : V → List V → Hp → VK → Prop} {rA : Am} (slot : Slot "list" name id) (hty : typeOf (.builtin id) = pure (.type "method_descriptor")) (hm : MtR X id r) (hs : SM X.K W r rA) (ho : AE X W o t a) (ha : AA X W (e :: es) ts as)
    (hbase : attributeBase o name X.env (eval o X.env) = eval o X.env := by rfl)
    (hfew : ((backTo pos (starEach (e :: es) X.env)).all (fun x => !x.1) && (backToKw pos (keywordEach [] X.env)).all (fun x => x.1.isSome)
      && decide ((e :: es).length + ([] : List Keyword).length + (if ([] : List Keyword).isEmpty then 0 else 1) < 30)) = true := by rfl)
    (hline : (apos.endLine == pos.line) = true := by rfl) (hst : starEach (e :: es) X.env = (false, eval e X.env) :: starEach es X.env := by rfl) (hplain : (backTo pos (starEach es X.env)).any (·.1) = false := by rfl) :
    AE X W (.Call (.Attribute o name apos) (e :: es) [] pos) (tBM X.K "list" r t ts) (aLM rA a as) := ⟨pe_bm PySem.F.plainAttrs_list slot hty hm ho.pe ha.pa hbase hfew hline hst hplain, se_LM ho.se ha.sa hs⟩
theorem ae_lm0 {name : Str} {id : String} {r : V → List V → Hp → VK → Prop} {rA : Am} (slot : Slot "list" name id) (hty : typeOf (.builtin id) = pure (.type "method_descriptor")) (hm : MtR X id r) (hs : SM X.K W r rA) (ho : AE X W o t a)
    (hbase : attributeBase o name X.env (eval o X.env) = eval o X.env := by rfl) (hline : (apos.endLine == pos.line) = true := by rfl) :
    AE X W (.Call (.Attribute o name apos) [] [] pos) (tBM0 X.K "list" r t) (aLM rA a aNil) := ⟨pe_bm0 PySem.F.plainAttrs_list slot hty hm ho.pe hbase hline, se_LM0 ho.se hs⟩
theorem o_plus (cel : Bool) : AO X W (binaryOp .Add) (rAddA X.K) (aAdd cel) := ⟨opR_or op_add (opR_or op_add_str (opR_or op_catA op_cat)), s2_add⟩
/-- a comprehension's tests -/
structure ATs (X : Cx) (W : Wd) (es : List Expr) (t : TT) (a : At) : Prop where
  pt : PTs X es t
  st : ST X.K W t a
def aYes : At := fun _ M Q => Q true M
theorem ats_nil : ATs X W [] tYes aYes := ⟨pts_nil, fun b M E σ QA Q t ok sl h k => k b M true t ok (Step.refl _) h⟩
theorem ats_one {tc : TT} {ac : At} (h : AT X W e tc ac) : ATs X W [e] tc ac := ⟨pts_one h.pt, h.st⟩
theorem ae_lc {ifs : List Expr} {scope : Scope} {js : List Nat} {wi : TI} {w : Ai} {g : TG} {ag : Ag} {tt : TT} {at_ : At} (cel : Bool) (own : List (Str × Nat)) (hc : X.calm = true) (hN : X.N.Nodup) (hi : AI X W tg iter wi w) (ok : BlkOk X.N X.env.scope scope own)
    (hg : ∀ (s : Shared) (H : Hp) (C : Addr) (cl : List (Str × Addr)) (fp : List Addr), AG (X.blk s H scope (compEnvC scope cl C X.env) fp) W tg js g ag)
    (ht : ∀ (s : Shared) (H : Hp) (C : Addr) (cl : List (Str × Addr)) (fp : List Addr), ATs (X.blk s H scope (compEnvC scope cl C X.env) fp) W ifs tt at_)
    (he : ∀ (s : Shared) (H : Hp) (C : Addr) (cl : List (Str × Addr)) (fp : List Addr), AE (X.blk s H scope (compEnvC scope cl C X.env) fp) W elt t a) (hj : ∀ j ∈ js, j ∈ own.map (·.2) := by decide) (hs : ∀ x, foldedSetIterable iter X.env x = pure x := by intro _; rfl) :
    AE X W (.ListComp elt [⟨tg, iter, ifs, 0⟩] scope pos) (tLc wi g tt t (own.map (·.2))) (aLc cel w ag at_ a (own.map (·.2))) :=
  ⟨pe_lc hc hN hi.pi ok (fun s H C cl fp => (hg s H C cl fp).pg) (fun s H C cl fp => (ht s H C cl fp).pt) (fun s H C cl fp => (he s H C cl fp).pe) hs,
    se_lc hj hi.si (hg X.s_0 (fun _ => none) 0 [] []).sg (ht X.s_0 (fun _ => none) 0 [] []).st (he X.s_0 (fun _ => none) 0 [] []).se⟩
/-- y = [..], y a local name -/
theorem as_setLc {y : Str} {py spos : Pos} {ifs : List Expr} {scope : Scope} {js : List Nat} {wi : TI} {w : Ai} {g : TG} {ag : Ag} {tt : TT} {at_ : At} (i : Nat) (cel : Bool) (own : List (Str × Nat)) (hc : X.calm = true) (hN : X.N.Nodup) (hy : X.N[i]? = some y) (hyl : X.env.scope.names.lookup y = some .local)
    (hsw : swapsWith (.ListComp elt [⟨tg, iter, ifs, 0⟩] scope pos) (some (.Name y py)) spos.line X.env = pure true) (hi : AI X W tg iter wi w) (ok : BlkOk X.N X.env.scope scope own)
    (hg : ∀ (s : Shared) (H : Hp) (C : Addr) (cl : List (Str × Addr)) (fp : List Addr), AG (X.blk s H scope (compEnvC scope cl C X.env) fp) W tg js g ag)
    (ht : ∀ (s : Shared) (H : Hp) (C : Addr) (cl : List (Str × Addr)) (fp : List Addr), ATs (X.blk s H scope (compEnvC scope cl C X.env) fp) W ifs tt at_)
    (he : ∀ (s : Shared) (H : Hp) (C : Addr) (cl : List (Str × Addr)) (fp : List Addr), AE (X.blk s H scope (compEnvC scope cl C X.env) fp) W elt t a) (hj : ∀ j ∈ js, j ∈ own.map (·.2) := by decide) (hs : ∀ x, foldedSetIterable iter X.env x = pure x := by intro _; rfl) :
    AS X W (.Assign [.Name y py] (.ListComp elt [⟨tg, iter, ifs, 0⟩] scope pos) spos) (tAsg (tLc wi g tt t (own.map (·.2))) (gName i)) (aAsg (aLc cel w ag at_ a (own.map (·.2))) (aName i)) :=
  ⟨ps_setLc hc hN hy hyl hsw hi.pi ok (fun s H C cl fp => (hg s H C cl fp).pg) (fun s H C cl fp => (ht s H C cl fp).pt) (fun s H C cl fp => (he s H C cl fp).pe) hs,
    ss_asg (se_lc hj hi.si (hg X.s_0 (fun _ => none) 0 [] []).sg (ht X.s_0 (fun _ => none) 0 [] []).st (he X.s_0 (fun _ => none) 0 [] []).se) sg_name⟩
end
end G

set_option Elab.async false
set_option linter.all false
set_option maxRecDepth 100000
namespace G
open PySem PySem.Spec PyProof.Rows L2

/-! ### cells that are no longer needed -/
/-- all cells that a value, a cell names stand below n -/
def lowA (n : Nat) : A → Bool
  | .d _ => true
  | .cell k => Nat.blt k n
def lowC (n : Nat) : Cell → Bool
  | .lst _ => true
  | .obj _ fs => fs.all fun p => lowA n p.2
  | .dic kvs => kvs.all fun p => lowA n p.2
  | .did _ => true
  | .lsa xs => xs.all (lowA n)
  | .tpa xs => xs.all (lowA n)
  | .gone => true
def clrO (n : Nat) : Option A → Option A
  | none => none
  | some x => match lowA n x with
    | true => some x
    | false => none
def clrE (n : Nat) : Env → Env
  | [] => []
  | o :: r => clrO n o :: clrE n r
section
variable {K : PySem.W.Frag} {W : Wd}
theorem take_get {al : List Addr} {n k : Nat} {a : Addr} (h : al[k]? = some a) (hk : k < n) : (al.take n)[k]? = some a := by
  rw [List.getElem?_take, if_pos hk]; exact h
theorem lowA_rep {al : List Addr} {I : Hp} {n : Nat} {x : A} {v : V} (h : lowA n x = true) (r : RepA K al I x v) : RepA K (al.take n) I x v := by
  cases r with
  | d r => exact .d r
  | cell e => exact .cell (take_get e (Nat.blt_eq.mp h))
theorem lowAF_rep {al : List Addr} {I : Hp} {n : Nat} : ∀ {xs : List (Str × A)} {vs : List (Str × V)}, (xs.all fun p => lowA n p.2) = true → RepAF K al I xs vs → RepAF K (al.take n) I xs vs
  | _, _, _, .nil => .nil
  | x :: xs, _, h, .cons r1 r2 => by
    rw [List.all_cons, Bool.and_eq_true] at h
    exact .cons (lowA_rep h.1 r1) (lowAF_rep h.2 r2)
theorem lowAK_rep {al : List Addr} {I : Hp} {n : Nat} : ∀ {xs : List (Key × A)} {vs : List (Key × V)}, (xs.all fun p => lowA n p.2) = true → RepAK K al I xs vs → RepAK K (al.take n) I xs vs
  | _, _, _, .nil => .nil
  | x :: xs, _, h, .cons r1 r2 => by
    rw [List.all_cons, Bool.and_eq_true] at h
    exact .cons (lowA_rep h.1 r1) (lowAK_rep h.2 r2)
theorem lowAs_rep {al : List Addr} {I : Hp} {n : Nat} : ∀ {xs : List A} {vs : List V}, xs.all (lowA n) = true → RepAs K al I xs vs → RepAs K (al.take n) I xs vs
  | _, _, _, .nil => .nil
  | x :: xs, _, h, .cons r1 r2 => by
    rw [List.all_cons, Bool.and_eq_true] at h
    exact .cons (lowA_rep h.1 r1) (lowAs_rep h.2 r2)
theorem lowC_has {al : List Addr} {I H : Hp} {n : Nat} {a : Addr} {c : Cell} (hc : lowC n c = true) (h : HasC K al I H a c) : HasC K (al.take n) I H a c := by
  cases c with
  | lst l => exact h
  | obj C fs => obtain ⟨h0, dx, gs, h1, h2⟩ := h; exact ⟨h0, dx, gs, h1, lowAF_rep hc h2⟩
  | dic kvs => obtain ⟨h0, gs, h1, h2⟩ := h; exact ⟨h0, gs, h1, lowAK_rep hc h2⟩
  | did kvs => exact h
  | lsa xs => obtain ⟨h0, gs, h1, h2⟩ := h; exact ⟨h0, gs, h1, lowAs_rep hc h2⟩
  | tpa xs => obtain ⟨h0, gs, h1, h2⟩ := h; exact ⟨h0, gs, h1, lowAs_rep hc h2⟩
  | gone => trivial
theorem Ok.trim {b : Wd} {M : Mem} (ok : Ok K b M) (n : Nat) (h : (M.take n).all (lowC n) = true) : Ok K ⟨b.I, b.al.take n, b.H⟩ (M.take n) where
  ih := ok.ih
  len := by show (b.al.take n).length = _; rw [List.length_take, List.length_take, ok.len]
  nd := ok.nd.sublist (List.take_sublist _ _)
  dom := fun k a (e : (b.al.take n)[k]? = some a) => by
    rw [List.getElem?_take] at e
    split at e
    · exact ok.dom k a e
    · cases e
  at_ := fun k a c (e : (b.al.take n)[k]? = some a) e2 => by
    have hm : c ∈ M.take n := List.mem_of_getElem? e2
    rw [List.getElem?_take] at e e2
    split at e
    · rename_i hk
      rw [if_pos hk] at e2
      exact lowC_has (List.all_eq_true.mp h c hm) (ok.at_ k a c e e2)
    · cases e
theorem To.trim {a b : Wd} (t : To a b) {n : Nat} (hn : a.al.length ≤ n) : To a ⟨b.I, b.al.take n, b.H⟩ where
  same := t.same
  fr := t.fr
  fresh := t.fresh
  dom := t.dom
  pre := by
    obtain ⟨u, e⟩ := t.pre
    refine ⟨u.take (n - a.al.length), ?_⟩
    show b.al.take n = _
    rw [e, List.take_append, List.take_of_length_le hn]
  new := fun x h => t.new x (List.mem_of_mem_take h)
theorem Slots.trim {al : List Addr} {I : Hp} {n : Nat} : ∀ {E : Env} {σ : L2.St}, Slots K al I E σ → Slots K (al.take n) I (clrE n E) σ := by
  intro E
  induction E with
  | nil => intro σ s; exact ⟨s.1, fun i x h => by unfold clrE at h; simp at h⟩
  | cons o E ih =>
    intro σ s
    obtain ⟨hl, hs⟩ := s
    cases σ with
    | nil => simp at hl
    | cons w σ =>
      have s2 : Slots K al I E σ := ⟨by simpa using hl, fun i x h => by
        have := hs (i + 1) x (by simpa using h)
        simpa using this⟩
      have q := ih s2
      cases o with
      | none =>
        show Slots K (al.take n) I (none :: clrE n E) (w :: σ)
        refine ⟨by rw [List.length_cons, List.length_cons, q.1], fun i x h => ?_⟩
        cases i with
        | zero => simp at h
        | succ i => simp only [List.getElem?_cons_succ] at h ⊢; exact q.2 i x h
      | some y =>
        show Slots K (al.take n) I ((match lowA n y with
          | true => some y
          | false => none) :: clrE n E) (w :: σ)
        refine ⟨by rw [List.length_cons, List.length_cons, q.1], fun i x h => ?_⟩
        cases i with
        | zero =>
          rw [List.getElem?_cons_zero] at h
          cases e : lowA n y with
          | false => rw [e] at h; cases h
          | true =>
            rw [e] at h
            cases h
            obtain ⟨v, h1, h2⟩ := hs 0 y rfl
            exact ⟨v, h1, lowA_rep e h2⟩
        | succ i => simp only [List.getElem?_cons_succ] at h ⊢; exact q.2 i x h
/-- behind a statement the cells from n on are forgotten -/
def aTrim (n : Nat) (a : As) : As := fun Q E M => a { Q with nx := fun E2 M2 => match (M2.take n).all (lowC n) with
  | true => Q.nx (clrE n E2) (M2.take n)
  | false => False } E M
theorem ss_trim {n : Nat} {t : TS} {a : As} (hn : W.al.length ≤ n) (h : SS K W t a) : SS K W t (aTrim n a) := fun b M E σ DA Dd t0 ok sl h1 e => by
  refine h b M E σ _ Dd t0 ok sl h1 ⟨fun b2 M2 E2 σ2 s2 t2 ok2 sl2 (q : match (M2.take n).all (lowC n) with | true => DA.nx (clrE n E2) (M2.take n) | false => False) => ?_, e.rt, e.bk, e.ct⟩
  split at q
  · rename_i hc
    exact e.nx ⟨b2.I, b2.al.take n, b2.H⟩ _ _ σ2 s2 (t2.trim hn) (ok2.trim n hc) sl2.trim q
  · exact q.elim
/-- a def's end: the cells that were handed in, and the told one -/
def Ret (m : Nat) (x : A) (M : Mem) (QA : A → Mem → Prop) : Prop := match (M.take m).all (lowC m) with
  | true => match x with
    | .d _ => QA x (M.take m)
    | .cell k => match Nat.blt k m with
      | true => QA x (M.take m)
      | false => match M[k]? with
        | some (.lst l) => QA (.cell m) (M.take m ++ [.lst l])
        | _ => QA x M
  | false => QA x M
theorem ret_ok {m : Nat} {b : Wd} {M : Mem} {x : A} {v : V} {QA : A → Mem → Prop} (hm : W.al.length = m) (t : To W b) (ok : Ok K b M) (r : RepA K b.al b.I x v) (h : Ret m x M QA) : ∃ b' M' y, b'.H = b.H ∧ To W b' ∧ Ok K b' M' ∧ RepA K b'.al b'.I y v ∧ QA y M' := by
  unfold Ret at h
  split at h
  · rename_i hc
    have okt := ok.trim m hc
    have tt := t.trim (n := m) (Nat.le_of_eq hm)
    cases x with
    | d x => exact ⟨⟨b.I, b.al.take m, b.H⟩, _, _, rfl, tt, okt, .d (repA_d r), h⟩
    | cell k =>
      dsimp only at h
      cases hb : Nat.blt k m with
      | true =>
        rw [hb] at h
        exact ⟨⟨b.I, b.al.take m, b.H⟩, _, _, rfl, tt, okt, lowA_rep (show lowA m (.cell k) = true from hb) r, h⟩
      | false =>
        rw [hb] at h
        dsimp only at h
        split at h
        · rename_i l e
          obtain ⟨p, vs, rfl, ha, hn, hv, rs⟩ := cell_lst ok r e
          have hk : m ≤ k := by
            refine Nat.le_of_not_lt fun z => ?_
            rw [Nat.blt_eq.mpr z] at hb; cases hb
          have lk : k < b.al.length := (List.getElem?_eq_some_iff.mp ha).1
          have lt : (b.al.take m).length = m := by rw [List.length_take]; omega
          have np : p ∉ b.al.take m := fun z => by
            obtain ⟨j, hj⟩ := List.getElem?_of_mem z
            have hjm : j < m := by
              have := (List.getElem?_eq_some_iff.mp hj).1
              omega
            rw [List.getElem?_take, if_pos hjm] at hj
            have := nd_get ok.nd hj ha
            omega
          refine ⟨⟨b.I, b.al.take m ++ [p], b.H⟩, _, _, rfl, ⟨t.same, t.fr, t.fresh, t.dom, tt.pre.trans (Pre.snoc _ _), fun y (hy : y ∈ b.al.take m ++ [p]) => ?_⟩, ?_, .cell (by have := len_get (al := b.al.take m) (p := p); rw [lt] at this; exact this), h⟩
          · rcases List.mem_append.mp hy with hy | hy
            · exact tt.new y hy
            · simp at hy; subst hy; exact t.new _ (List.mem_of_getElem? ha)
          · refine ⟨ok.ih, by show (b.al.take m ++ [p]).length = _; rw [List.length_append, List.length_append, okt.len] <;> rfl, ?_, ?_, ?_⟩
            · show (b.al.take m ++ [p]).Nodup
              rw [List.nodup_append]
              exact ⟨okt.nd, by simp, fun a ha2 c hc z => by simp at hc; subst hc; subst z; exact np ha2⟩
            · intro kk a (e1 : (b.al.take m ++ [p])[kk]? = some a) z
              rcases List.mem_append.mp (List.mem_of_getElem? e1) with e1 | e1
              · obtain ⟨j, hj2⟩ := List.getElem?_of_mem e1
                exact okt.dom j a hj2 z
              · simp at e1; subst e1; rw [hv] at z; cases z
            · intro kk a c' (e1 : (b.al.take m ++ [p])[kk]? = some a) e2
              show HasC K (b.al.take m ++ [p]) b.I b.H a c'
              by_cases hk2 : kk < (b.al.take m).length
              · rw [List.getElem?_append_left hk2] at e1
                have hl2 : (b.al.take m).length = (M.take m).length := okt.len
                rw [List.getElem?_append_left (by rw [← hl2]; exact hk2)] at e2
                have q2 := okt.at_ kk a c' e1 e2
                cases c' with
                | gone => trivial
                | lst _ => exact q2.mono (Same.refl _) (Pre.snoc _ _) q2.1 rfl
                | obj _ _ => exact q2.mono (Same.refl _) (Pre.snoc _ _) q2.1 rfl
                | dic _ => exact q2.mono (Same.refl _) (Pre.snoc _ _) q2.1 rfl
                | did _ => exact q2.mono (Same.refl _) (Pre.snoc _ _) q2.1 rfl
                | lsa _ => exact q2.mono (Same.refl _) (Pre.snoc _ _) q2.1 rfl
                | tpa _ => exact q2.mono (Same.refl _) (Pre.snoc _ _) q2.1 rfl
              · have hl2 : (b.al.take m).length = (M.take m).length := okt.len
                rw [List.getElem?_append_right (by omega)] at e1 e2
                have hk1 : kk - (b.al.take m).length = 0 := by
                  have := (List.getElem?_eq_some_iff.mp e1).1
                  simp at this; omega
                have hk3 : kk - (M.take m).length = 0 := by omega
                rw [hk1] at e1; rw [hk3] at e2
                simp at e1 e2
                subst e1; subst e2
                exact ⟨hn, vs, hv, rs⟩
        · exact ⟨b, M, _, rfl, t, ok, r, h⟩
  · exact ⟨b, M, x, rfl, t, ok, r, h⟩
/-! ### which cells a call hands in -/
def addK (ks : List Nat) : List A → List Nat
  | [] => ks
  | .d _ :: r => addK ks r
  | .cell k :: r => match ks.contains k with
    | true => addK ks r
    | false => addK (ks ++ [k]) r
def refsC : Cell → List A
  | .obj _ fs => fs.map (·.2)
  | .dic kvs => kvs.map (·.2)
  | .lsa xs => xs
  | .tpa xs => xs
  | _ => []
/-- the cells behind the i-th one on, and what they name -/
def closeK (M : Mem) : Nat → List Nat → Nat → List Nat
  | 0, ks, _ => ks
  | n + 1, ks, i => match ks[i]? with
    | none => ks
    | some k => closeK M n (match M[k]? with
      | some c => addK ks (refsC c)
      | none => ks) (i + 1)
def autoKs (xs : List A) (M : Mem) : List Nat := closeK M M.length (addK [] xs) 0
/-- a call, what is handed in and told written out -/
def AcallN (sp : ASp) (ks : List Nat) (xs : List A) (M : Mem) (Q : A → Mem → Prop) : Prop := match okCall ks xs M with
  | true => nL nA (xs.map (fwdA ks)) fun ys => nM (pick ks M) fun N => sp ys N (fun z M1 => Q (bkA ks M.length z) (putBk ks M M1)) (fun _ _ _ => False)
  | false => False
theorem AcallN.ok {sp : ASp} {ks : List Nat} {xs : List A} {M : Mem} {Q : A → Mem → Prop} (h : AcallN sp ks xs M Q) : Acall sp ks xs M Q := by
  unfold AcallN at h
  unfold Acall
  revert h
  cases okCall ks xs M with
  | true => exact fun h => nM_eq.mp ((nL_eq fun _ _ => nA_eq).mp h)
  | false => exact fun h => h.elim
def nR (Q : A → Mem → Prop) (z : A) (M1 : Mem) : Prop := match z with
  | .d x => nM M1 fun M2 => Q (.d x) M2
  | .cell k => nN k fun j => nM M1 fun M2 => Q (.cell j) M2
theorem nR_eq {Q : A → Mem → Prop} : nR Q = Q := by
  funext z M1
  cases z with
  | d x => exact propext nM_eq
  | cell k => exact propext (nN_eq.trans nM_eq)
def BCall (sp : ASp) (xs : List A) (M : Mem) (Q : A → Mem → Prop) : Prop := nL nN (autoKs xs M) fun ks => AcallN sp ks xs M (nR Q)
theorem BCall.ok {sp : ASp} {xs : List A} {M : Mem} {Q : A → Mem → Prop} (h : BCall sp xs M Q) : Acall sp (autoKs xs M) xs M Q := by
  unfold BCall at h
  rw [nR_eq] at h
  exact ((nL_eq fun _ _ => nN_eq).mp h).ok
end

/-! ### the defs of the text -/
def vOf : D → V
  | .non => .non
  | .bl b => .bl b
  | .int i => .int i
  | .str s => .str s
  | _ => .non
def flatB : D → Bool
  | .non => true
  | .bl _ => true
  | .int _ => true
  | .str _ => true
  | _ => false
theorem flat_reps {K : PySem.W.Frag} {I : Hp} : ∀ {dv : List D}, dv.all flatB = true → Reps K I dv (dv.map vOf)
  | [], _ => .nil
  | x :: dv, h => by
    rw [List.all_cons, Bool.and_eq_true] at h
    refine .cons ?_ (flat_reps h.2)
    cases x <;> first | exact .non | exact .bl _ | exact .int _ | exact .str _ | cases h.1
/-- the def that the module's name x stands for keeps the promise sp at level k, dv filling up its arguments -/
def Def (P : Program) (w : World) (K : PySem.W.Frag) (mg : Str → Option Value) (base : Heap) (x : Str) (k : Nat) (sp : ASp) (dv : List D) : Prop :=
  ∃ (f : Addr) (fd : FuncData) (ps : List Str) (ds : List Value), FnOk P w K mg base CX0 k f fd ps (conc K sp) ∧ mg x = some (.ref f) ∧ PySem.W.keepIn K (.ref f) = true ∧ Binds K fd ps ds ∧ Vals (dv.map vOf) ds ∧ dv.all flatB = true
def DefM (P : Program) (w : World) (K : PySem.W.Frag) (mg : Str → Option Value) (base : Heap) (C : Addr) (m : Str) (k : Nat) (sp : ASp) (dv : List D) : Prop :=
  ∃ (f : Addr) (fd : FuncData) (ps : List Str) (ds : List Value), FnOk P w K mg base CX0 k f fd ps (conc K sp) ∧ Cls K C ∧ Meth K C m f ∧ Binds K fd ps ds ∧ Vals (dv.map vOf) ds ∧ dv.all flatB = true
section
variable {X : Cx} {W : Wd} {pos p apos : Pos} {e e2 e3 o tg elt iter : Expr} {es : List Expr} {t t2 : TE} {a a2 : Ae} {ts : TA} {as : Aa} {x : Str} {sp : ASp} {k j : Nat} {dv : List D}
def aDef (sp : ASp) (dv : List D) (as : Aa) : Ae := fun E M Q => as E M fun xs M1 => BCall sp (xs ++ dv.map A.d) M1 Q
def aDefM (C : Addr) (m : Str) (sp : ASp) (dv : List D) (a : Ae) (as : Aa) : Ae := fun E M Q => a E M fun x M1 => match objOf x M1 with
  | some (C', ns) => Side (C' = C ∧ m ∉ ns) (as E M1 fun xs M2 => BCall sp (x :: (xs ++ dv.map A.d)) M2 Q)
  | none => False
theorem se_def {K : PySem.W.Frag} {W : Wd} {t : TA} (hd : dv.all flatB = true) (h : SA K W t as) : SE K W (tCall (conc K sp) (dv.map vOf) E0 t) (aDef sp dv as) := by
  intro b M E σ QA Q t0 ok sl h1 k
  refine h b M E σ _ _ t0 ok sl h1 fun b1 M1 xs vs t1 ok1 s1 r1 h2 => ?_
  exact conc_call t1 ok1 (r1.app (reps_d (flat_reps hd))) h2.ok fun b2 M2 z w t2 ok2 s2 r2 q => k b2 M2 z w t2 ok2 (s1.trans s2) r2 q
theorem se_defM {K : PySem.W.Frag} {W : Wd} {C : Addr} {m : Str} {t : TE} {ts : TA} (hd : dv.all flatB = true) (h : SE K W t a) (hs : SA K W ts as) : SE K W (tMeth C m (conc K sp) (dv.map vOf) E0 t ts) (aDefM C m sp dv a as) := by
  intro b M E σ QA Q t0 ok sl h1 k
  refine h b M E σ _ _ t0 ok sl h1 fun b1 M1 x v t1 ok1 s1 r1 h2 => ?_
  split at h2
  · rename_i C' ns e
    obtain ⟨⟨rfl, hn⟩, h2⟩ := h2
    obtain ⟨p, dx, gs, rfl, hp, en⟩ := objOf_at ok1 r1 e
    refine ⟨p, dx, gs, rfl, hp, lookup_no (by rw [en]; exact hn), hs b1 M1 E σ _ _ t1 ok1 (sl.mono s1.same s1.pre) h2 fun b2 M2 xs vs t2 ok2 s2 r2 h3 => ?_⟩
    exact conc_call t2 ok2 (.cons (r1.mono s2.same s2.pre) (r2.app (reps_d (flat_reps hd)))) h3.ok fun b3 M3 z w t3 ok3 s3 r3 q => k b3 M3 z w t3 ok3 ((s1.trans s2).trans s3) r3 q
  · exact h2.elim
theorem ae_def (F : Def X.prog X.w X.K X.mg X.base x k sp dv) (hr : Room j X.A) (hkj : k ≤ j) (ha : AA X W (e :: es) ts as) (hg : Gl X x := by rfl) (hdb : (x == ("__debug__" : Str)) = false := by decide)
    (he : starEach (e :: es) X.env = (false, eval e X.env) :: starEach es X.env := by rfl) (hpl : (backTo pos (starEach es X.env)).any (·.1) = false := by rfl) : AE X W (.Call (.Name x p) (e :: es) [] pos) (tCall (conc X.K sp) (dv.map vOf) E0 ts) (aDef sp dv as) := by
  obtain ⟨f, fd, ps, ds, F, hm, hk, hb, hd, hf⟩ := F
  exact ⟨pe_call F (hr.mono hkj) hg hm hk hb hd pass0 ha.pa hdb he hpl, se_def hf ha.sa⟩
theorem ae_def0 (F : Def X.prog X.w X.K X.mg X.base x k sp dv) (hr : Room j X.A) (hkj : k ≤ j) (hg : Gl X x := by rfl) (hdb : (x == ("__debug__" : Str)) = false := by decide) : AE X W (.Call (.Name x p) [] [] pos) (tCall (conc X.K sp) (dv.map vOf) E0 tNil) (aDef sp dv aNil) := by
  obtain ⟨f, fd, ps, ds, F, hm, hk, hb, hd, hf⟩ := F
  exact ⟨pe_call0 F (hr.mono hkj) hg hm hk hb hd pass0 hdb, se_def hf sa_nil⟩
theorem ae_defM {pl : Sem Bool} {C : Addr} {m : Str} (F : DefM X.prog X.w X.K X.mg X.base C m k sp dv) (hr : Room j X.A) (hkj : k ≤ j) (ho : AE X W o t a) (ha : AA X W (e :: es) ts as)
    (hst : starEach (e :: es) X.env = (false, eval e X.env) :: starEach es X.env := by rfl) (hpl : (backTo pos (starEach es X.env)).any (·.1) = false := by rfl)
    (ht : eval (.Call (.Attribute o m apos) (e :: es) [] pos) X.env = (do
      let ov ← eval o X.env
      standAt apos.atName
      let (f, first) ← holding [ov] (getMethod ov m pl)
      callWith pos f first (backTo pos (starEach (e :: es) X.env)) (backToKw pos (keywordEach [] X.env))) := by rfl) : AE X W (.Call (.Attribute o m apos) (e :: es) [] pos) (tMeth C m (conc X.K sp) (dv.map vOf) E0 t ts) (aDefM C m sp dv a as) := by
  obtain ⟨f, fd, ps, ds, F, c, hm, hb, hd, hf⟩ := F
  exact ⟨pe_meth ho.pe c hm F (hr.mono hkj) hb hd pass0 ha.pa hst hpl ht, se_defM hf ho.se ha.sa⟩
theorem ae_defM0 {pl : Sem Bool} {C : Addr} {m : Str} (F : DefM X.prog X.w X.K X.mg X.base C m k sp dv) (hr : Room j X.A) (hkj : k ≤ j) (ho : AE X W o t a)
    (ht : eval (.Call (.Attribute o m apos) [] [] pos) X.env = (do
      let ov ← eval o X.env
      standAt apos.atName
      let (f, first) ← holding [ov] (getMethod ov m pl)
      callWith pos f first (backTo pos (starEach [] X.env)) (backToKw pos (keywordEach [] X.env))) := by rfl) : AE X W (.Call (.Attribute o m apos) [] [] pos) (tMeth C m (conc X.K sp) (dv.map vOf) E0 t tNil) (aDefM C m sp dv a aNil) := by
  obtain ⟨f, fd, ps, ds, F, c, hm, hb, hd, hf⟩ := F
  exact ⟨pe_meth0 ho.pe c hm F (hr.mono hkj) hb hd pass0 ht, se_defM hf ho.se sa_nil⟩
theorem as_trim {st : Stmt} {u : TS} {b : As} (n : Nat) (hn : W.al.length ≤ n) (h : AS X W st u b) : AS X W st u (aTrim n b) := ⟨h.ps, ss_trim hn h.ss⟩
end
/-! ### a def's body -/
theorem afn {P : Program} {w : World} {K : PySem.W.Frag} {mg : Str → Option Value} {base : Heap} {x qual : Str} {params : Arguments} {body : List Stmt} {scope : Scope} {dvs : List V} {kws : List (Str × V)} {f : Addr} {fd : FuncData} {N ps : List Str} {k : Nat} {sp : ASp} (m : Nat)
    (F : FunD K x qual params body scope dvs kws f fd) (S : FnScope N ps scope) (len : ∀ xs M Q E, sp xs M Q E → xs.length = ps.length ∧ M.length = m)
    (hbody : ∀ (W : Wd) (cdv : Value) (A : Around) (outer : List PySem.Env) (s : Shared) (H : Hp) (E : XK), Room k (A.deeper (envOfC qual scope s.heap.objs.size f cdv)) → W.al.length = m →
      ∃ t a, ASs (cxOf CX0 P w K mg base N qual scope f cdv A outer s H E).nox W body t a ∧ ∀ xs M QA EA, sp xs M QA EA → a ⟨fun _ M => Ret m (.d .non) M QA, fun x M => Ret m x M QA, fun _ _ => False, fun _ _ => False⟩ (startA N.length xs) M) :
    FnOk P w K mg base CX0 (k + 1) f fd ps (conc K sp) := by
  refine fnd_ok F S (fun vs H Q E h => ?_) (fun cdv A outer s H vs Q E hr h => ?_)
  · obtain ⟨b, M, xs, QA, EA, _, _, r, h, _⟩ := h
    rw [← r.length]; exact (len _ _ _ _ h).1
  · obtain ⟨b, M, xs, QA, EA, rfl, ok, r, h, kq, ke⟩ := h
    have hm : b.al.length = m := ok.len.trans (len _ _ _ _ h).2
    obtain ⟨t, a, hp, ha⟩ := hbody b cdv A outer s b.H E hr hm
    refine ⟨t, hp.ps.nox, ?_⟩
    refine hp.ss b M _ _ _ _ (To.refl b) ok (startA_slots r) (ha xs M QA EA h) ⟨fun b1 M1 E1 σ1 s1 t1 ok1 sl1 q => ?_, fun b1 M1 x v s1 t1 ok1 r1 q => ?_, fun _ _ _ _ _ _ _ _ q => q.elim, fun _ _ _ _ _ _ _ _ q => q.elim⟩
    · obtain ⟨b2, M2, y, e, t2, ok2, r2, q2⟩ := ret_ok hm t1 ok1 (.d .non) q
      have := kq b2 M2 y _ t2 ok2 r2 q2
      rw [e] at this
      exact this
    · obtain ⟨b2, M2, y, e, t2, ok2, r2, q2⟩ := ret_ok hm t1 ok1 r1 q
      have := kq b2 M2 y _ t2 ok2 r2 q2
      rw [e] at this
      exact this
end G
namespace G
open PySem PySem.Spec PyProof.Rows L2
/-! ### a told list that stands still from now on -/
def aFrz (a : Ae) : Ae := fun E M Q => a E M fun x M1 => match x with
  | .d y => Q (.d y) M1
  | .cell k => match Nat.ble M.length k, Nat.beq (k + 1) M1.length, M1[k]?, (M1.take k).all (lowC k) with
    | true, true, some (.lst l), true => Q (.d (.lst l)) (M1.take k)
    | _, _, _, _ => Q (.cell k) M1
theorem se_frz {K : PySem.W.Frag} {W : Wd} {t : TE} {a : Ae} (h : SE K W t a) : SE K W t (aFrz a) := by
  intro b M E σ QA Q t0 ok sl h1 k
  refine h b M E σ _ _ t0 ok sl h1 fun b1 M1 x v t1 ok1 s1 r1 h2 => ?_
  cases x with
  | d y => exact k b1 M1 _ v t1 ok1 s1 r1 h2
  | cell j =>
    dsimp only at h2
    split at h2
    · rename_i l e1 e2 e3 e4
      have hj := Nat.le_of_ble_eq_true e1
      have hj2 := Nat.eq_of_beq_eq_true e2
      obtain ⟨p, vs, rfl, ha, hn, hv, rs⟩ := cell_lst ok1 r1 e3
      have okt := ok1.trim j e4
      have hbl : b.al.length ≤ j := by rw [ok.len]; exact hj
      have hWl : W.al.length ≤ j := by
        obtain ⟨u, e⟩ := t0.pre
        have : b.al.length = W.al.length + u.length := by rw [e, List.length_append]
        omega
      have np : p ∉ b1.al.take j := fun z => by
        obtain ⟨i, hi⟩ := List.getElem?_of_mem z
        rw [List.getElem?_take] at hi
        split at hi
        · rename_i hlt
          have := nd_get ok1.nd hi ha
          omega
        · cases hi
      have new : ∀ {a0 : Wd}, To a0 b1 → a0.al.length ≤ j → a0.H p = none := fun {a0} t hl => by
        rcases t.new p (List.mem_of_getElem? ha) with m | m
        · exfalso
          obtain ⟨i, hi⟩ := List.getElem?_of_mem m
          have := nd_get ok1.nd ha (t.pre.get hi)
          have := (List.getElem?_eq_some_iff.mp hi).1
          omega
        · exact m
      have same2 : Same b1.I (upd b1.I p (.lst vs)) := same_new hn
      have toF : ∀ {a0 : Wd}, To a0 b1 → a0.al.length ≤ j → To a0 ⟨upd b1.I p (.lst vs), b1.al.take j, b1.H⟩ := fun {a0} t hl =>
        have tt := t.trim hl
        ⟨t.same.trans same2, t.fr, fun x e (m : upd b1.I p (.lst vs) x ≠ none) => by
          by_cases z : x = p
          · subst z; exact new t hl
          · rw [upd_ne z] at m; exact t.fresh x e m, t.dom, tt.pre, tt.new⟩
      refine k ⟨upd b1.I p (.lst vs), b1.al.take j, b1.H⟩ (M1.take j) (.d (.lst l)) (.ref p) (toF t1 hWl) ?_ (toF s1 hbl) (.d (.lst upd_same (rs.mono same2))) h2
      refine ⟨fun x w (e : upd b1.I p (.lst vs) x = some w) => show b1.H x = some w by
        by_cases z : x = p
        · subst z; rw [upd_same] at e; rw [← e]; exact hv
        · rw [upd_ne z] at e; exact ok1.ih x w e, okt.len, okt.nd, okt.dom, fun i x c (e1 : (b1.al.take j)[i]? = some x) e2 => show HasC K (b1.al.take j) (upd b1.I p (.lst vs)) b1.H x c by
        have ne : x ≠ p := fun z => np (z ▸ List.mem_of_getElem? e1)
        have q2 := okt.at_ i x c e1 e2
        cases c with
        | gone => trivial
        | lst _ => exact q2.mono same2 (Pre.refl _) (by rw [upd_ne ne]; exact q2.1) rfl
        | obj _ _ => exact q2.mono same2 (Pre.refl _) (by rw [upd_ne ne]; exact q2.1) rfl
        | dic _ => exact q2.mono same2 (Pre.refl _) (by rw [upd_ne ne]; exact q2.1) rfl
        | did _ => exact q2.mono same2 (Pre.refl _) (by rw [upd_ne ne]; exact q2.1) rfl
        | lsa _ => exact q2.mono same2 (Pre.refl _) (by rw [upd_ne ne]; exact q2.1) rfl
        | tpa _ => exact q2.mono same2 (Pre.refl _) (by rw [upd_ne ne]; exact q2.1) rfl⟩
    · exact k b1 M1 _ v t1 ok1 s1 r1 h2
theorem ae_frz {X : Cx} {W : Wd} {e : Expr} {t : TE} {a : Ae} (h : AE X W e t a) : AE X W e t (aFrz a) := ⟨h.pe, se_frz h.se⟩
end G

set_option Elab.async false
set_option linter.all false
set_option maxRecDepth 100000
namespace G
open PySem PySem.Spec PyProof.Rows L2

theorem fork_t {c : Bool} {p q : Prop} (h : c = true) (k : p) : Fork c p q := ⟨fun _ => k, fun z => by rw [h] at z; cases z⟩
theorem fork_f {c : Bool} {p q : Prop} (h : c = false) (k : q) : Fork c p q := ⟨fun z => (by rw [h] at z; cases z), fun _ => k⟩
theorem dec_t {p : Prop} [Decidable p] (h : decide p = true) : p := of_decide_eq_true h
theorem dec_f {p : Prop} [Decidable p] (h : decide p = false) : ¬p := of_decide_eq_false h
theorem cpos {i j : Int} (h : 0 < j) : CPos i j := h
theorem cnn {i j : Int} (h : 0 ≤ j) : CNn i j := h
theorem wdiv {i j : Int} (h : 0 < j) (h' : j < 18446744073709551616) : CDivW i j := wide_div (b := 64) h (by omega) (by decide) (by decide)
theorem divp_small {i j : Int} (h : 0 < j) (hb : j.natAbs < 2 ^ 9000) : CDivP i j := ⟨h, PyProof.noPylong_of_log2 (PySem.Flt.log2_lt_of (k := 9000) (by decide) hb)⟩
theorem e107 : (10:Int) ^ (Int.toNat 7) = 10000000 := rfl
theorem e1018 : (10:Int) ^ (Int.toNat 18) = 1000000000000000000 := rfl
theorem atI_get2 {α : Type} {xs : List α} {k : Int} {n : Nat} {v : α} (hk : k = (n : Int)) (h : xs[n]? = some v) : atI xs k = some v := by subst hk; exact atI_nat h
theorem at_ints {ns : List Int} {k : Int} (h0 : 0 ≤ k) (h : k < ns.length) : ∃ n, n ∈ ns ∧ ns[k.toNat]? = some n ∧ atI (ns.map D.int) k = some (.int n) := by
  have hk : k.toNat < ns.length := by omega
  refine ⟨ns[k.toNat], List.getElem_mem hk, List.getElem?_eq_getElem hk, atI_get2 (n := k.toNat) (by omega) ?_⟩
  rw [List.getElem?_map, List.getElem?_eq_getElem hk]; rfl
theorem cpow_ok {i j : Int} (h : 0 ≤ j) (h1 : j ≤ 1000000) (h2 : i.natAbs < 2 ^ 64) : CPow i j := ⟨h, h1, h2⟩
end G

set_option Elab.async false
set_option linter.all false
set_option maxRecDepth 100000
namespace G
open PySem PySem.Spec PyProof.Rows L2

/-! ### numbers drawn from a box -/
def BX (b : Int) (l : List D) : Prop := ∃ x y z : Int, l = [.int x, .int y, .int z] ∧ 0 ≤ x ∧ 0 ≤ y ∧ y < 2147483647 ∧ 0 ≤ z ∧ z ≤ b
theorem BX.mono {b c : Int} {l : List D} (h : BX b l) (hc : b ≤ c) : BX c l := by
  obtain ⟨x, y, z, e, h1, h2, h3, h4, h5⟩ := h
  exact ⟨x, y, z, e, h1, h2, h3, h4, Int.le_trans h5 hc⟩
/-- a draw below m; the box counts at most a hundred more -/
structure Drw (l : List D) (m : Int) (k : Int → List D → Prop) : Prop where
  h : ∃ b, BX b l ∧ b ≤ 1000000000 ∧ 1 ≤ m ∧ m ≤ 10 ^ 160 ∧ ∀ r l', 0 ≤ r → r < m → BX (b + 100) l' → k r l'
theorem Drw.go {b : Int} {l : List D} {m : Int} {k : Int → List D → Prop} (hb : BX b l) (h1 : b ≤ 1000000000) (h2 : 1 ≤ m) (h3 : m ≤ 10 ^ 160) (hk : ∀ r l', 0 ≤ r → r < m → BX (b + 100) l' → k r l') : Drw l m k := ⟨⟨b, hb, h1, h2, h3, hk⟩⟩
/-! ### comprehensions -/
section
variable {items : List D} {g : Ag} {tt : At} {a : Ae} {E : Env} {M : Mem} {Q : List D → Mem → Prop}
abbrev LcT (g : Ag) (tt : At) (a : Ae) (E : Env) (d : D) (M : Mem) (R : A → Mem → Prop) (S : Mem → Prop) : Prop := g (.d d) E M fun E1 M1 => tt E1 M1 fun c M2 => Fork c (a E1 M2 R) (S M2)
/-- each item is one of the new list -/
theorem lc_any (J : Nat → Mem → Prop) (P : Nat → D → D → Prop) (hl : items.length ≤ 1000000) (h0 : J 0 M) (turn : ∀ i d M, items[i]? = some d → J i M → ∀ R S, (∀ y M', P i d y → J (i + 1) M' → R (.d y) M') → LcT g tt a E d M R S)
    (fin : ∀ acc M', acc.length = items.length → (∀ i d y, items[i]? = some d → acc[i]? = some y → P i d y) → J items.length M' → Q acc M') : LcS items g tt a E M Q := by
  refine ⟨⟨fun i acc M => J i M ∧ acc.length = i ∧ ∀ j d y, items[j]? = some d → acc[j]? = some y → P j d y, ⟨h0, rfl, fun j d y _ h => by simp at h⟩, fun i d acc M hd hp => ?_, fun acc M hp => fin acc M hp.2.1 hp.2.2 hp.1⟩⟩
  obtain ⟨hj, hl2, hP⟩ := hp
  have hi : i < items.length := (List.getElem?_eq_some_iff.mp hd).1
  refine turn i d M hd hj _ _ fun y M' py j' => ?_
  refine ⟨by rw [sizeLine_eq]; omega, j', by rw [List.length_append, hl2]; rfl, fun j d' y' h1 h2 => ?_⟩
  by_cases hlt : j < acc.length
  · rw [List.getElem?_append_left hlt] at h2; exact hP j d' y' h1 h2
  · rw [List.getElem?_append_right (by omega)] at h2
    have hj2 : j - acc.length = 0 := by
      have := (List.getElem?_eq_some_iff.mp h2).1
      simp at this; omega
    rw [hj2] at h2
    simp at h2
    have : j = i := by omega
    subst this
    rw [hd] at h1; cases h1; subst h2; exact py
/-- no draws -/
theorem lc_filt (f : D → D) (p : D → Bool) (hl : items.length ≤ 1000000) (turn : ∀ d, d ∈ items → ∀ R S, (p d = true → R (.d (f d)) M) → (p d = false → S M) → LcT g tt a E d M R S) (fin : Q ((items.filter p).map f) M) : LcS items g tt a E M Q := by
  refine ⟨⟨fun i acc M' => M' = M ∧ i ≤ items.length ∧ acc = ((items.take i).filter p).map f, ⟨rfl, Nat.zero_le _, by simp⟩, fun i d acc M' hd hp => ?_, fun acc M' hp => ?_⟩⟩
  · obtain ⟨rfl, hi, rfl⟩ := hp
    have hi2 : i < items.length := (List.getElem?_eq_some_iff.mp hd).1
    have e : items.take (i + 1) = items.take i ++ [d] := by
      rw [List.take_succ, hd]; rfl
    refine turn d (List.mem_of_getElem? hd) _ _ (fun hp => ⟨?_, rfl, hi2, ?_⟩) (fun hp => ⟨rfl, hi2, ?_⟩)
    · rw [List.length_map, sizeLine_eq]
      have h1 := List.length_filter_le p (items.take i)
      rw [List.length_take] at h1
      omega
    · rw [e, List.filter_append, List.map_append]; simp [hp]
    · rw [e, List.filter_append, List.map_append]; simp [hp]
  · obtain ⟨rfl, _, rfl⟩ := hp
    rw [List.take_length]; exact fin
/-- no draws, no test -/
theorem lc_map (f : D → D) (hl : items.length ≤ 1000000) (turn : ∀ d, d ∈ items → ∀ R S, R (.d (f d)) M → LcT g tt a E d M R S) (fin : Q (items.map f) M) : LcS items g tt a E M Q :=
  lc_filt f (fun _ => true) hl (fun d hd R S h _ => turn d hd R S (h rfl)) (by
    have e : items.filter (fun _ => true) = items := List.filter_eq_self.mpr fun _ _ => rfl
    rw [e]; exact fin)
/-- some of the items, by draws -/
theorem lc_sub (J : Nat → Mem → Prop) (hl : items.length ≤ 1000000) (h0 : J 0 M) (turn : ∀ i d M, items[i]? = some d → J i M → ∀ R S, (∀ M', J (i + 1) M' → R (.d d) M') → (∀ M', J (i + 1) M' → S M') → LcT g tt a E d M R S)
    (fin : ∀ acc M', acc.Sublist items → J items.length M' → Q acc M') : LcS items g tt a E M Q := by
  refine ⟨⟨fun i acc M' => J i M' ∧ i ≤ items.length ∧ acc.Sublist (items.take i), ⟨h0, Nat.zero_le _, by simp⟩, fun i d acc M' hd hp => ?_, fun acc M' hp => ?_⟩⟩
  · obtain ⟨hj, hi, hs⟩ := hp
    have hi2 : i < items.length := (List.getElem?_eq_some_iff.mp hd).1
    have e : items.take (i + 1) = items.take i ++ [d] := by
      rw [List.take_succ, hd]; rfl
    refine turn i d M' hd hj _ _ (fun M2 j2 => ⟨?_, j2, hi2, ?_⟩) (fun M2 j2 => ⟨j2, hi2, ?_⟩)
    · have h1 := hs.length_le
      rw [List.length_take] at h1
      rw [sizeLine_eq]; omega
    · rw [e]; exact hs.append (List.Sublist.refl _)
    · rw [e]; exact hs.trans (List.sublist_append_left _ _)
  · obtain ⟨h1, _, h3⟩ := hp
    rw [List.take_length] at h3
    exact fin acc M' h3 h1
end
theorem bls_all_true : ∀ {l : List D}, (∀ y ∈ l, y = .bl true) → ∃ bs, blsOf l = some bs ∧ bs.all id = true
  | [], _ => ⟨[], rfl, rfl⟩
  | x :: l, h => by
    obtain ⟨bs, h1, h2⟩ := bls_all_true (l := l) fun y hy => h y (List.mem_cons_of_mem _ hy)
    have e := h x List.mem_cons_self
    subst e
    refine ⟨true :: bs, ?_, by rw [List.all_cons, h2]; rfl⟩
    unfold blsOf; rw [h1]
/-! ### statements, calls -/
section
variable {K : PySem.W.Frag} {W : Wd}
def aPar3 (i j l : Nat) (as : Aa) : As := fun Q E M => as E M fun xs M1 => match xs with
  | [x, y, z] => Q.nx (((E.set i (some x)).set j (some y)).set l (some z)) M1
  | _ => False
theorem ss_par3 {i j l : Nat} {t : TA} {as : Aa} (h : SA K W t as) : SS K W (tPar3 i j l t) (aPar3 i j l as) := fun b M E σ DA Dd t ok sl h1 e => by
  refine h b M E σ _ _ t ok sl h1 fun b1 M1 xs vs t1 ok1 s1 r1 h2 => ?_
  split at h2
  · obtain ⟨u, v, w, rfl, ru, rv, rw_⟩ := repAs_3 r1
    exact ⟨_, _, _, rfl, e.nx b1 M1 _ _ s1.same t1 ok1 ((((sl.mono s1.same s1.pre).set ru).set rv).set rw_) h2⟩
  · exact h2.elim
/-- how many bits -/
def aBits (a : Ae) : Ae := fun E M Q => a E M fun x M1 => match x with
  | .d (.int i) => Q (.d (.int (Builtin.Int.intBits i : Nat))) M1
  | _ => False
theorem se_bits {t : TE} {a : Ae} (h : SE K W t a) : SE K W (tBits t) (aBits a) := by
  intro b M E σ QA Q t0 ok sl h1 k
  refine h b M E σ _ _ t0 ok sl h1 fun b1 M1 x v t1 ok1 s1 r1 h2 => ?_
  split at h2
  · cases rep_int_inv (repA_d r1)
    exact ⟨_, rfl, k b1 M1 _ _ t1 ok1 s1 (.d (.int _)) h2⟩
  · exact h2.elim
/-- reversed(range(n)) -/
def aiRevR1 (a : Ae) : Ai := fun E M Q => a E M fun x M1 => match x with
  | .d (.int n) => Side (-(2 ^ 62) ≤ n ∧ n < 2 ^ 62) (Q (rngD (n.toNat - 1) (-1) n.toNat) M1)
  | _ => False
theorem si_revR1 {t : TE} {a : Ae} (h : SE K W t a) : SI K W (iRevR (tRg1 t)) (aiRevR1 a) := by
  intro b M E σ QA R t0 ok sl h1 k
  refine h b M E σ _ _ t0 ok sl h1 fun b1 M1 x v t1 ok1 s1 r1 h2 => ?_
  split at h2
  · cases rep_int_inv (repA_d r1)
    rename_i n
    refine ⟨n, rfl, by decide, by decide, h2.s.1, h2.s.2, k b1 M1 _ _ t1 ok1 s1 ?_ h2.q⟩
    have e : (0 : Int) + (((n - 0).toNat : Nat) : Int) - 1 = (n.toNat : Int) - 1 := by simp
    have e2 : (n - 0).toNat = n.toNat := by simp
    rw [e, e2]
    exact its_rngC
  · exact h2.elim
end
section
variable {X : Cx} {W : Wd} {tg e e2 e3 c o : Expr} {t t2 : TE} {a a2 : Ae} {ts : TA} {as : Aa} {p pos tpos apos : Pos}
theorem as_par (i j : Nat) {x y : Str} {px py pt : Pos} {kt k2 pt2} (hN : X.N.Nodup) (h : AA X W [e, e2] ts as) (hc : X.calm = true := by rfl) (hi : X.N[i]? = some x := by rfl) (hj : X.N[j]? = some y := by rfl) (hij : i ≠ j := by decide)
    (hx : X.env.scope.names.lookup x = some .local := by rfl) (hy : X.env.scope.names.lookup y = some .local := by rfl)
    (hw : swappedStores [.Tuple [.Name x px, .Name y py] kt pt] (.Tuple [e, e2] k2 pt2) X.env = pure (some [x, y]) := by rfl)
    (hs : swapsWithSole [.Tuple [.Name x px, .Name y py] kt pt] (.Tuple [e, e2] k2 pt2) pos.line X.env = pure false := by rfl) :
    AS X W (.Assign [.Tuple [.Name x px, .Name y py] kt pt] (.Tuple [e, e2] k2 pt2) pos) (tPar i j ts) (aPar i j as) := ⟨ps_par hc hN hi hj hij hx hy h.pa hw hs, ss_par h.sa⟩
theorem as_par3 (i j l : Nat) {x y z : Str} {px py pz pt : Pos} {kt k2 pt2} (hN : X.N.Nodup) (h : AA X W [e, e2, e3] ts as) (hc : X.calm = true := by rfl) (hi : X.N[i]? = some x := by rfl) (hj : X.N[j]? = some y := by rfl) (hl : X.N[l]? = some z := by rfl)
    (hij : i ≠ j := by decide) (hil : i ≠ l := by decide) (hjl : j ≠ l := by decide)
    (hx : X.env.scope.names.lookup x = some .local := by rfl) (hy : X.env.scope.names.lookup y = some .local := by rfl) (hz : X.env.scope.names.lookup z = some .local := by rfl)
    (hw : swappedStores [.Tuple [.Name x px, .Name y py, .Name z pz] kt pt] (.Tuple [e, e2, e3] k2 pt2) X.env = pure (some [x, y, z]) := by rfl)
    (hs : swapsWithSole [.Tuple [.Name x px, .Name y py, .Name z pz] kt pt] (.Tuple [e, e2, e3] k2 pt2) pos.line X.env = pure false := by rfl) :
    AS X W (.Assign [.Tuple [.Name x px, .Name y py, .Name z pz] kt pt] (.Tuple [e, e2, e3] k2 pt2) pos) (tPar3 i j l ts) (aPar3 i j l as) := ⟨ps_par3 hc hN hi hj hl hij hil hjl hx hy hz h.pa hw hs, ss_par3 h.sa⟩
theorem ae_bits (h : AE X W o t a) (hbase : attributeBase o "bit_length" X.env (eval o X.env) = eval o X.env := by rfl) (hline : (apos.endLine == pos.line) = true := by rfl) : AE X W (.Call (.Attribute o "bit_length" apos) [] [] pos) (tBits t) (aBits a) := ⟨pe_bits h.pe hbase hline, se_bits h.se⟩
theorem ai_revR1 {p2 pos2 : Pos} (hm : X.mg "reversed" = none) (hm2 : X.mg "range" = none) (h : AE X W e t a) (hg : Gl X "reversed" := by rfl) (hg2 : Gl X "range" := by rfl) (na : starEach [e] X.env = (false, eval e X.env) :: starEach [] X.env := by rfl)
    (hs : starEach [.Call (.Name "range" p2) [e] [] pos2] X.env = (false, eval (.Call (.Name "range" p2) [e] [] pos2) X.env) :: starEach [] X.env := by rfl) :
    AI X W tg (.Call (.Name "reversed" p) [.Call (.Name "range" p2) [e] [] pos2] [] pos) (iRevR (tRg1 t)) (aiRevR1 a) := ⟨pi_revR hg hm (prg_1 hg2 hm2 h.pe na) hs, si_revR1 h.se⟩
/-- isinstance(e, (list, tuple)) .. -/
theorem ae_isi2 (c c' : String) {x y : Str} {px py tp : Pos} {kt : Nat} (hi : X.mg "isinstance" = none) (hx : X.mg x = none) (hy : X.mg y = none) (h : AE X W e t a)
    (vx : bootBuiltins x = some (.type c) := by decide +kernel) (vy : bootBuiltins y = some (.type c') := by decide +kernel) (gi : Gl X "isinstance" := by rfl) (gx : Gl X x := by rfl) (gy : Gl X y := by rfl) (nx : x ≠ "__name__" := by decide) (ny : y ≠ "__name__" := by decide) (dx : (x == ("__debug__" : Str)) = false := by decide) (dy : (y == ("__debug__" : Str)) = false := by decide)
    (he : starEach [e, .Tuple [.Name x px, .Name y py] kt tp] X.env = (false, eval e X.env) :: starEach [.Tuple [.Name x px, .Name y py] kt tp] X.env := by rfl) (he2 : starEach [.Tuple [.Name x px, .Name y py] kt tp] X.env = (false, eval (.Tuple [.Name x px, .Name y py] kt tp) X.env) :: starEach [] X.env := by rfl)
    (he3 : starEach [.Name x px, .Name y py] X.env = (false, eval (.Name x px) X.env) :: starEach [.Name y py] X.env := by rfl) (he4 : starEach [.Name y py] X.env = (false, eval (.Name y py) X.env) :: starEach [] X.env := by rfl) (hpl : (backTo pos (starEach [.Tuple [.Name x px, .Name y py] kt tp] X.env)).any (·.1) = false := by rfl) :
    AE X W (.Call (.Name "isinstance" p) [e, .Tuple [.Name x px, .Name y py] kt tp] [] pos) (tCB (rIsiT X.K) (tCons t (tCons (tTup (tCons (tC (.ty c)) (tCons (tC (.ty c')) tNil))) tNil))) (aIsi2 c c' a) :=
  ⟨pe_callB call_isiT gi hi boot_isinstance (pa_cons h.pe (pa_cons (pe_tup (pa_cons (pe_bltn gx hx vx rfl nx dx) (pa_cons (pe_bltn gy hy vy rfl ny dy) pa_nil he4) he3)) pa_nil he2) he) (by decide) (by decide) he hpl, se_isi2 h.se⟩
/-- a name of the module's that holds a tuple of plain data -/
theorem ae_globT {x : Str} {f : Addr} (d : List D) {vs : List V} (hr : ∀ I, SqT X.K I f vs) (hv : ∀ I, Reps X.K I d vs) (hm : X.mg x = some (.ref f)) (hg : Gl X x := by rfl) (hd : (x == ("__debug__" : Str)) = false := by decide) : AE X W (.Name x pos) (tC (.ref f)) (aC (.tup d)) :=
  ae_glob (.tup d) (fun I => .tup (hr I) (hv I)) hg hm rfl hd
end
/-! ### a def's body, the reading chosen by what is handed in -/
theorem afn2 {P : Program} {w : World} {K : PySem.W.Frag} {mg : Str → Option Value} {base : Heap} {x qual : Str} {params : Arguments} {body : List Stmt} {scope : Scope} {dvs : List V} {kws : List (Str × V)} {f : Addr} {fd : FuncData} {N ps : List Str} {k : Nat} {sp : ASp} (m : Nat)
    (F : FunD K x qual params body scope dvs kws f fd) (S : FnScope N ps scope) (len : ∀ xs M Q E, sp xs M Q E → xs.length = ps.length ∧ M.length = m)
    (hbody : ∀ (W : Wd) (cdv : Value) (A : Around) (outer : List PySem.Env) (s : Shared) (H : Hp) (E : XK), Room k (A.deeper (envOfC qual scope s.heap.objs.size f cdv)) → W.al.length = m → ∀ xs M QA EA, sp xs M QA EA →
      ∃ t a, ASs (cxOf CX0 P w K mg base N qual scope f cdv A outer s H E).nox W body t a ∧ a ⟨fun _ M => Ret m (.d .non) M QA, fun x M => Ret m x M QA, fun _ _ => False, fun _ _ => False⟩ (startA N.length xs) M) :
    FnOk P w K mg base CX0 (k + 1) f fd ps (conc K sp) := by
  refine fnd_ok F S (fun vs H Q E h => ?_) (fun cdv A outer s H vs Q E hr h => ?_)
  · obtain ⟨b, M, xs, QA, EA, _, _, r, h, _⟩ := h
    rw [← r.length]; exact (len _ _ _ _ h).1
  · obtain ⟨b, M, xs, QA, EA, rfl, ok, r, h, kq, ke⟩ := h
    have hm : b.al.length = m := ok.len.trans (len _ _ _ _ h).2
    obtain ⟨t, a, hp, ha⟩ := hbody b cdv A outer s b.H E hr hm xs M QA EA h
    refine ⟨t, hp.ps.nox, ?_⟩
    refine hp.ss b M _ _ _ _ (To.refl b) ok (startA_slots r) ha ⟨fun b1 M1 E1 σ1 s1 t1 ok1 sl1 q => ?_, fun b1 M1 x v s1 t1 ok1 r1 q => ?_, fun _ _ _ _ _ _ _ _ q => q.elim, fun _ _ _ _ _ _ _ _ q => q.elim⟩
    · obtain ⟨b2, M2, y, e, t2, ok2, r2, q2⟩ := ret_ok hm t1 ok1 (.d .non) q
      have := kq b2 M2 y _ t2 ok2 r2 q2
      rw [e] at this
      exact this
    · obtain ⟨b2, M2, y, e, t2, ok2, r2, q2⟩ := ret_ok hm t1 ok1 r1 q
      have := kq b2 M2 y _ t2 ok2 r2 q2
      rw [e] at this
      exact this
/-! ### promises made weaker; slices -/
theorem conc_imp {K : PySem.W.Frag} {sp sp' : ASp} (h : ∀ xs M Q E, sp' xs M Q E → sp xs M Q E) : ∀ vs H Q E, conc K sp' vs H Q E → conc K sp vs H Q E := fun vs H Q E ⟨b, M, xs, QA, EA, e, ok, r, q, k1, k2⟩ => ⟨b, M, xs, QA, EA, e, ok, r, h _ _ _ _ q, k1, k2⟩
theorem Def.imp {P : Program} {w : World} {K : PySem.W.Frag} {mg : Str → Option Value} {base : Heap} {x : Str} {k : Nat} {sp sp' : ASp} {dv : List D} (F : Def P w K mg base x k sp dv) (h : ∀ xs M Q E, sp' xs M Q E → sp xs M Q E) : Def P w K mg base x k sp' dv := by
  obtain ⟨f, fd, ps, ds, F, r⟩ := F
  exact ⟨f, fd, ps, ds, F.imp (conc_imp h), r⟩
theorem cutD_map {α β : Type} (f : α → β) (l : List α) (lo hi : Option Int) : cutD (l.map f) lo hi = (cutD l lo hi).map f := by
  unfold cutD
  rw [List.length_map, List.map_take, List.map_drop]
theorem cut_len {α : Type} {l : List α} {n : Int} (h : 0 ≤ n) : (cutD l none (some n)).length = min n.toNat l.length := by
  unfold cutD
  have e : HT.sIx l.length l.length (some n) = min n.toNat l.length := by
    show (if n < 0 then _ else _) = _
    rw [if_neg (by omega)]
  rw [e, HT.sIx_none, List.drop_zero, Nat.sub_zero, List.length_take]
  omega
theorem cut_in {α : Type} {l : List α} {n m : Int} {i : Nat} (h : 0 ≤ n) (hm : 0 ≤ m) (hi : i < (cutD l (some n) (some m)).length) : i + n.toNat < l.length ∧ i + n.toNat < m.toNat := by
  unfold cutD at hi
  have e : HT.sIx l.length 0 (some n) = min n.toNat l.length := by
    show (if n < 0 then _ else _) = _
    rw [if_neg (by omega)]
  have e2 : HT.sIx l.length l.length (some m) = min m.toNat l.length := by
    show (if m < 0 then _ else _) = _
    rw [if_neg (by omega)]
  rw [e, e2, List.length_take, List.length_drop] at hi
  omega
/-! ### the head, with facts of one's own -/
abbrev AlE : Type := He.AlD × Bool
def obsE (fa : List He.Fa) (fn : List He.DefD) (xs : List (PySem.W.Frag → Bool)) (K : PySem.W.Frag) : AlE := (He.obsD fa fn K, xs.all fun f => f K)
def valE (fn : List He.DefD) : AlE := (He.valD fn, true)
def obsEG (n : Nat) (fa : List He.Fa) (fn : List He.DefD) (xs : List (PySem.W.Frag → Bool)) (g : Addr → Option Obj) : AlE := obsE fa fn xs (He.frG g (He.asD g n))
def SaysE (fa : List He.Fa) (fn : List He.DefD) (xs : List (PySem.W.Frag → Bool)) (K : PySem.W.Frag) : Prop := obsE fa fn xs K = valE fn
def hookE (n : Nat) (fa : List He.Fa) (fn : List He.DefD) (xs : List (PySem.W.Frag → Bool)) : PySem.W.Hook where
  α := AlE
  obs := fun s => obsEG n fa fn xs s.heap.get?
  val := fun _ => valE fn
  says := fun _ h => ∃ K : PySem.W.Frag, K.In h ∧ SaysE fa fn xs K
  of := fun _ _ e => ⟨_, He.frG_in, e⟩
  keeps := fun _ _ _ ⟨K, hK, c⟩ k => ⟨K, PySem.W.Frag.In.keeps hK k, c⟩
theorem obsEG_eq {n : Nat} {fa : List He.Fa} {fn : List He.DefD} {xs : List (PySem.W.Frag → Bool)} {g : Addr → Option Obj} {s : Shared} (h : ∀ a, g a = s.heap.get? a) : obsEG n fa fn xs g = (hookE n fa fn xs).obs s := by
  have e : g = s.heap.get? := funext h
  rw [e] <;> rfl
theorem SaysE.d {fa : List He.Fa} {fn : List He.DefD} {xs : List (PySem.W.Frag → Bool)} {K : PySem.W.Frag} (c : SaysE fa fn xs K) : He.SaysD fa fn K := congrArg (fun z : AlE => z.1) c
theorem SaysE.own {fa : List He.Fa} {fn : List He.DefD} {xs : List (PySem.W.Frag → Bool)} {K : PySem.W.Frag} (c : SaysE fa fn xs K) (i : Nat) {f : PySem.W.Frag → Bool} (h : xs[i]? = some f := by rfl) : f K = true := by
  have c1 : (xs.all fun f => f K) = true := congrArg (fun z : AlE => z.2) c
  exact List.all_eq_true.mp c1 f (List.mem_of_getElem? h)
end G

set_option Elab.async false
set_option linter.all false
set_option maxRecDepth 100000
namespace G
open PySem PySem.Spec PyProof.Rows L2
/-! the rules once more, the module's objects named: within a comprehension, too -/
section
variable {X : Cx} {W : Wd} {K : PySem.W.Frag} {pos p apos tpos : Pos} {e e2 e3 o tg elt iter : Expr} {es : List Expr} {t t2 : TE} {a a2 : Ae} {ts : TA} {as : Aa} {x : Str} {sp : ASp} {k j : Nat} {dv : List D}
theorem k_eq (hu : X.A.units + 64 < cLine) (hK : X.K = K := by rfl) : AO X W (compareOp .Eq) (rEqA K false) (aEq false) := by subst hK; exact o_eq hu
theorem k_ne (hu : X.A.units + 64 < cLine) (hK : X.K = K := by rfl) : AO X W (compareOp .NotEq) (rEqA K true) (aEq true) := by subst hK; exact o_ne hu
theorem k_in (hK : X.K = K := by rfl) : AO X W (compareOp .In) (rInA K false) (aIn false) := by subst hK; exact o_in
theorem k_notin (hK : X.K = K := by rfl) : AO X W (compareOp .NotIn) (rInA K true) (aIn true) := by subst hK; exact o_notin
theorem k_plus (cel : Bool) (hK : X.K = K := by rfl) : AO X W (binaryOp .Add) (rAddA K) (aAdd cel) := by subst hK; exact o_plus cel
theorem k_ix (h : AE X W e t a) (g : AE X W e2 t2 a2) (hs : PlainIx e2 := by intro _ _; rfl) (hK : X.K = K := by rfl) : AE X W (.Subscript e e2 pos) (tOp (rIx K) t t2) (aOp aIx a a2) := by subst hK; exact ae_ix h g hs
theorem k_sl {lo hi : Option Expr} {tl th : TO} {al ah : Ao} {p2 : Pos} (cel : Bool) (h : AE X W e t a) (h1 : AOp X W lo tl al) (h2 : AOp X W hi th ah) (hK : X.K = K := by rfl) : AE X W (.Subscript e (.Slice lo hi none p2) pos) (tSl (rSlL K) t tl th) (aSl cel a al ah) := by subst hK; exact ae_sl cel h h1 h2
theorem k_tru (h : AE X W e t a) (he : ∀ whole, isTrue e X.env whole = (do let v ← whole; standAt e.pos; holding [v] (truthy v)) := by intro _; rfl) (hK : X.K = K := by rfl) : AT X W e (fun σ H Q => t σ H fun x H' => ∃ k, TruV K x H' k ∧ Q k H') (aTru a) := by subst hK; exact at_tru h he
theorem k_list (h : AE X W e t a) (hK : X.K = K := by rfl) : AI X W tg e (iList K t) (aiList a) := by subst hK; exact ai_list h
theorem k_tup (h : AE X W e t a) (hK : X.K = K := by rfl) : AI X W tg e (iTup K t) (aiTup a) := by subst hK; exact ai_tup h
theorem k_enum {elts : List Expr} {kk : Nat} (hm : X.mg "enumerate" = none) (ha : AA X W [e] ts as) (hg : Gl X "enumerate" := by rfl) (hs : starEach [e] X.env = [(false, eval e X.env)] := by rfl) (hK : X.K = K := by rfl) :
    AI X W (.Tuple elts kk tpos) (.Call (.Name "enumerate" p) [e] [] pos) (iEnum K ts) (aiEnum as) := by subst hK; exact ai_enum hm ha hg hs
theorem k_zip {elts : List Expr} {kk : Nat} (hm : X.mg "zip" = none) (ha : AA X W [e, e2] ts as) (hg : Gl X "zip" := by rfl)
    (hs : starEach [e, e2] X.env = (false, eval e X.env) :: starEach [e2] X.env := by rfl) (hpl : (backTo pos (starEach [e2] X.env)).any (·.1) = false := by rfl) (hK : X.K = K := by rfl) :
    AI X W (.Tuple elts kk tpos) (.Call (.Name "zip" p) [e, e2] [] pos) (RZ.iZipA K ts) (aiZip as) := by subst hK; exact ai_zip hm ha hg hs hpl
theorem k_gtup {js : List Nat} {gs : TGs} {ags : Ags} {kk n : Nat} (hc : X.calm = true) (h : AGs X W es js gs ags) (hn : (assignEach es X.env).length = n := by rfl) (hst : (assignEach es X.env).findIdx? (·.1) = none := by rfl) (hK : X.K = K := by rfl) : AG X W (.Tuple es kk pos) js (gTup K n gs) (aGtup n ags) := by subst hK; exact ag_tup hc h hn hst
theorem k_def (F : Def X.prog X.w X.K X.mg X.base x k sp dv) (hr : Room j X.A) (hkj : k ≤ j) (ha : AA X W (e :: es) ts as) (hg : Gl X x := by rfl) (hdb : (x == ("__debug__" : Str)) = false := by decide)
    (he : starEach (e :: es) X.env = (false, eval e X.env) :: starEach es X.env := by rfl) (hpl : (backTo pos (starEach es X.env)).any (·.1) = false := by rfl) (hK : X.K = K := by rfl) : AE X W (.Call (.Name x p) (e :: es) [] pos) (tCall (conc K sp) (dv.map vOf) E0 ts) (aDef sp dv as) := by subst hK; exact ae_def F hr hkj ha hg hdb he hpl
theorem k_def0 (F : Def X.prog X.w X.K X.mg X.base x k sp dv) (hr : Room j X.A) (hkj : k ≤ j) (hg : Gl X x := by rfl) (hdb : (x == ("__debug__" : Str)) = false := by decide) (hK : X.K = K := by rfl) : AE X W (.Call (.Name x p) [] [] pos) (tCall (conc K sp) (dv.map vOf) E0 tNil) (aDef sp dv aNil) := by subst hK; exact ae_def0 F hr hkj hg hdb
theorem k_defM {pl : Sem Bool} {C : Addr} {m : Str} (F : DefM X.prog X.w X.K X.mg X.base C m k sp dv) (hr : Room j X.A) (hkj : k ≤ j) (ho : AE X W o t a) (ha : AA X W (e :: es) ts as)
    (hst : starEach (e :: es) X.env = (false, eval e X.env) :: starEach es X.env := by rfl) (hpl : (backTo pos (starEach es X.env)).any (·.1) = false := by rfl)
    (ht : eval (.Call (.Attribute o m apos) (e :: es) [] pos) X.env = (do
      let ov ← eval o X.env
      standAt apos.atName
      let (f, first) ← holding [ov] (getMethod ov m pl)
      callWith pos f first (backTo pos (starEach (e :: es) X.env)) (backToKw pos (keywordEach [] X.env))) := by rfl) (hK : X.K = K := by rfl) : AE X W (.Call (.Attribute o m apos) (e :: es) [] pos) (tMeth C m (conc K sp) (dv.map vOf) E0 t ts) (aDefM C m sp dv a as) := by subst hK; exact ae_defM F hr hkj ho ha hst hpl ht
theorem k_defM0 {pl : Sem Bool} {C : Addr} {m : Str} (F : DefM X.prog X.w X.K X.mg X.base C m k sp dv) (hr : Room j X.A) (hkj : k ≤ j) (ho : AE X W o t a)
    (ht : eval (.Call (.Attribute o m apos) [] [] pos) X.env = (do
      let ov ← eval o X.env
      standAt apos.atName
      let (f, first) ← holding [ov] (getMethod ov m pl)
      callWith pos f first (backTo pos (starEach [] X.env)) (backToKw pos (keywordEach [] X.env))) := by rfl) (hK : X.K = K := by rfl) : AE X W (.Call (.Attribute o m apos) [] [] pos) (tMeth C m (conc K sp) (dv.map vOf) E0 t tNil) (aDefM C m sp dv a aNil) := by subst hK; exact ae_defM0 F hr hkj ho ht
theorem k_fld {C : Addr} {f : Str} (c : Cls X.K C) (n : NoAttr X.K C f) (h : AE X W e t a) (hb : attributeBase e f X.env (eval e X.env) = eval e X.env := by rfl) (hK : X.K = K := by rfl) : AE X W (.Attribute e f pos) (tFld K t f) (aFld C f a) := by subst hK; exact ae_fld c n h hb
theorem k_lm {name : Str} {id : String} {r : V → List V → Hp → VK → Prop} {rA : Am} (slot : Slot "list" name id) (hty : typeOf (.builtin id) = pure (.type "method_descriptor")) (hm : MtR X id r) (hs : SM K W r rA) (ho : AE X W o t a) (ha : AA X W (e :: es) ts as)
    (hbase : attributeBase o name X.env (eval o X.env) = eval o X.env := by rfl)
    (hfew : ((backTo pos (starEach (e :: es) X.env)).all (fun x => !x.1) && (backToKw pos (keywordEach [] X.env)).all (fun x => x.1.isSome)
      && decide ((e :: es).length + ([] : List Keyword).length + (if ([] : List Keyword).isEmpty then 0 else 1) < 30)) = true := by rfl)
    (hline : (apos.endLine == pos.line) = true := by rfl) (hst : starEach (e :: es) X.env = (false, eval e X.env) :: starEach es X.env := by rfl) (hplain : (backTo pos (starEach es X.env)).any (·.1) = false := by rfl) (hK : X.K = K := by rfl) :
    AE X W (.Call (.Attribute o name apos) (e :: es) [] pos) (tBM K "list" r t ts) (aLM rA a as) := by subst hK; exact ae_lm slot hty hm hs ho ha hbase hfew hline hst hplain
theorem k_lm0 {name : Str} {id : String} {r : V → List V → Hp → VK → Prop} {rA : Am} (slot : Slot "list" name id) (hty : typeOf (.builtin id) = pure (.type "method_descriptor")) (hm : MtR X id r) (hs : SM K W r rA) (ho : AE X W o t a)
    (hbase : attributeBase o name X.env (eval o X.env) = eval o X.env := by rfl) (hline : (apos.endLine == pos.line) = true := by rfl) (hK : X.K = K := by rfl) :
    AE X W (.Call (.Attribute o name apos) [] [] pos) (tBM0 K "list" r t) (aLM rA a aNil) := by subst hK; exact ae_lm0 slot hty hm hs ho hbase hline
theorem k_cb {id : String} {r : PySem.W.Frag → List V → Hp → VK → Prop} {rA : Ac} (hc : CallR X (.builtin id) (r X.K)) (hs : SC X.K W (r X.K) rA) (hm : X.mg x = none) (ha : AA X W (e :: es) ts as) (hv : bootBuiltins x = some (.builtin id) := by decide +kernel) (hg : Gl X x := by rfl) (hn : x ≠ "__name__" := by decide) (hdb : (x == ("__debug__" : Str)) = false := by decide)
    (he : starEach (e :: es) X.env = (false, eval e X.env) :: starEach es X.env := by rfl) (hpl : (backTo pos (starEach es X.env)).any (·.1) = false := by rfl) (hK : X.K = K := by rfl) : AE X W (.Call (.Name x p) (e :: es) [] pos) (tCB (r K) ts) (aCB rA as) := by subst hK; exact ae_cb hc hs hm ha hv hg hn hdb he hpl
theorem k_ct {T : String} {r : PySem.W.Frag → List V → Hp → VK → Prop} {rA : Ac} (hc : CallR X (.type T) (r X.K)) (hs : SC X.K W (r X.K) rA) (hm : X.mg x = none) (ha : AA X W (e :: es) ts as) (hv : bootBuiltins x = some (.type T) := by decide +kernel) (hg : Gl X x := by rfl) (hn : x ≠ "__name__" := by decide) (hdb : (x == ("__debug__" : Str)) = false := by decide)
    (he : starEach (e :: es) X.env = (false, eval e X.env) :: starEach es X.env := by rfl) (hpl : (backTo pos (starEach es X.env)).any (·.1) = false := by rfl) (hK : X.K = K := by rfl) : AE X W (.Call (.Name x p) (e :: es) [] pos) (tCB (r K) ts) (aCB rA as) := by subst hK; exact ae_ct hc hs hm ha hv hg hn hdb he hpl
abbrev qLen (K : PySem.W.Frag) : List V → Hp → VK → Prop := fun xs H Q => ∃ x n, xs = [x] ∧ LenV K x H n ∧ Q (.int n) H
abbrev qList (K : PySem.W.Frag) : List V → Hp → VK → Prop := fun xs H Q => ∃ p ys, xs = [.ref p] ∧ (SqL K H p ys ∨ SqT K H p ys) ∧ ∀ l, H l = none → Q (.ref l) (upd H l (.lst ys))
abbrev qTuple (K : PySem.W.Frag) : List V → Hp → VK → Prop := fun xs H Q => ∃ a ys, xs = [.ref a] ∧ ((SqL K H a ys ∧ ∀ l, H l = none → Q (.ref l) (upd H l (.tup ys))) ∨ (SqT K H a ys ∧ Q (.ref a) H))
theorem k_isi2 (c c' : String) {x y : Str} {px py tp : Pos} {kt : Nat} (hi : X.mg "isinstance" = none) (hx : X.mg x = none) (hy : X.mg y = none) (h : AE X W e t a)
    (vx : bootBuiltins x = some (.type c) := by decide +kernel) (vy : bootBuiltins y = some (.type c') := by decide +kernel) (gi : Gl X "isinstance" := by rfl) (gx : Gl X x := by rfl) (gy : Gl X y := by rfl) (nx : x ≠ "__name__" := by decide) (ny : y ≠ "__name__" := by decide) (dx : (x == ("__debug__" : Str)) = false := by decide) (dy : (y == ("__debug__" : Str)) = false := by decide)
    (he : starEach [e, .Tuple [.Name x px, .Name y py] kt tp] X.env = (false, eval e X.env) :: starEach [.Tuple [.Name x px, .Name y py] kt tp] X.env := by rfl) (he2 : starEach [.Tuple [.Name x px, .Name y py] kt tp] X.env = (false, eval (.Tuple [.Name x px, .Name y py] kt tp) X.env) :: starEach [] X.env := by rfl)
    (he3 : starEach [.Name x px, .Name y py] X.env = (false, eval (.Name x px) X.env) :: starEach [.Name y py] X.env := by rfl) (he4 : starEach [.Name y py] X.env = (false, eval (.Name y py) X.env) :: starEach [] X.env := by rfl) (hpl : (backTo pos (starEach [.Tuple [.Name x px, .Name y py] kt tp] X.env)).any (·.1) = false := by rfl) (hK : X.K = K := by rfl) :
    AE X W (.Call (.Name "isinstance" p) [e, .Tuple [.Name x px, .Name y py] kt tp] [] pos) (tCB (rIsiT K) (tCons t (tCons (tTup (tCons (tC (.ty c)) (tCons (tC (.ty c')) tNil))) tNil))) (aIsi2 c c' a) := by
  subst hK; exact ae_isi2 c c' hi hx hy h vx vy gi gx gy nx ny dx dy he he2 he3 he4 hpl
end
end G

set_option Elab.async false
set_option linter.all false
set_option maxRecDepth 100000
namespace G
open PySem PySem.Spec PyProof.Rows L2
/-! ### sizes -/
/-- at most k bits -/
def sm (k : Nat) (n : Int) : Prop := n.natAbs < 2 ^ k
theorem sm.mono {j k : Nat} {n : Int} (h : sm j n) (hk : j ≤ k) : sm k n := Nat.lt_of_lt_of_le h (Nat.pow_le_pow_right (by decide) hk)
theorem sm.le {k : Nat} {n m : Int} (h : sm k n) (hm : m.natAbs ≤ n.natAbs) : sm k m := Nat.lt_of_le_of_lt hm h
theorem sm.of {k : Nat} {n : Int} (h0 : 0 ≤ n) (h : n < 2 ^ k) : sm k n := by
  unfold sm
  have e : ((2 ^ k : Nat) : Int) = (2:Int) ^ k := by rw [Int.natCast_pow]; rfl
  omega
theorem sm.lt {k : Nat} {n : Int} (h : sm k n) : n < 2 ^ k := by
  unfold sm at h
  have e : ((2 ^ k : Nat) : Int) = (2:Int) ^ k := by rw [Int.natCast_pow]; rfl
  omega
theorem sm.div {k : Nat} {n m : Int} (h : sm k n) (h0 : 0 ≤ n) (hm : 0 ≤ m) : sm k (n / m) := h.le (by
  have h1 := Int.ediv_le_self m h0
  have h2 := Int.ediv_nonneg h0 hm
  omega)
theorem sm.mul {j k : Nat} {n m : Int} (h : sm j n) (g : sm k m) : sm (j + k) (n * m) := by
  unfold sm at *
  rw [Int.natAbs_mul, Nat.pow_add]
  exact Nat.mul_lt_mul'' h g
theorem sm.pow (k : Nat) : sm (k + 1) (2 ^ k) := sm.of (Int.le_of_lt (Int.pow_pos (by decide))) (by
  rw [Int.pow_succ]
  have : (0:Int) < 2 ^ k := Int.pow_pos (by decide)
  omega)
theorem p2_pos (k : Nat) : (0:Int) < 2 ^ k := Int.pow_pos (by decide)
theorem p2_one (k : Nat) : (1:Int) ≤ 2 ^ k := p2_pos k
theorem p2_mono {j k : Nat} (h : j ≤ k) : (2:Int) ^ j ≤ 2 ^ k := by
  have h1 : (2:Nat) ^ j ≤ 2 ^ k := Nat.pow_le_pow_right (by decide) h
  have e : ((2 ^ k : Nat) : Int) = (2:Int) ^ k := by rw [Int.natCast_pow]; rfl
  have e2 : ((2 ^ j : Nat) : Int) = (2:Int) ^ j := by rw [Int.natCast_pow]; rfl
  omega
theorem cshl {k : Nat} {i j : Int} (h : sm k i) (h0 : 0 ≤ j) (hj : j ≤ 1000000) (hk : k ≤ 1000000) : CShl i j := by
  refine ⟨h0, ?_⟩
  have h1 : Builtin.Int.intBits i ≤ k := intBits_le_iff.mpr h
  omega
theorem cshl1 {j : Int} (h0 : 0 ≤ j) (hj : j ≤ 1000000) : CShl 1 j := cshl (k := 1) (by unfold sm; decide) h0 hj (by decide)
theorem sm_divp {k : Nat} {i j : Int} (h : 0 < j) (hb : sm k j) (hk : k ≤ 9000) : CDivP i j := divp_small h (hb.mono hk)
theorem sm_divw {k : Nat} {i j : Int} (h : 0 < j) (hb : sm k j) (hk : k ≤ 9000) : CDivW i j := wide_div (b := 9000) h (hb.mono hk) (by decide) (by decide)
theorem sm_mul {j k : Nat} {n m : Int} (h : sm j n) (g : sm k m) (hk : j + k ≤ 100000000) : IntMulOk n m := IntMulOk.of_le (intBits_le_iff.mpr h) (intBits_le_iff.mpr g) (by omega)
theorem sm_tk {k : Nat} {m : Int} (h : sm k m) (hk : k ≤ 500) : m ≤ 10 ^ 160 := by
  have h1 := (h.mono hk).lt
  exact Int.le_trans (Int.le_of_lt h1) (by decide)
/-! ### draws by a def -/
structure Drx {α : Type} (cost : Int) (l : List D) (pre : Prop) (P : α → Prop) (k : α → List D → Prop) : Prop where
  h : ∃ b, BX b l ∧ b + cost ≤ 1000000000 ∧ pre ∧ ∀ r l', P r → BX (b + cost) l' → k r l'
theorem Drx.go {α : Type} {cost b : Int} {l : List D} {pre : Prop} {P : α → Prop} {k : α → List D → Prop} (hb : BX b l) (h1 : b + cost ≤ 1000000000) (hp : pre) (hk : ∀ r l', P r → BX (b + cost) l' → k r l') : Drx cost l pre P k := ⟨⟨b, hb, h1, hp, hk⟩⟩
/-! ### items -/
theorem at_mem {xs : List D} {k : Int} (h0 : 0 ≤ k) (h : k < xs.length) : ∃ d, d ∈ xs ∧ atI xs k = some d := by
  have hk : k.toNat < xs.length := by omega
  exact ⟨xs[k.toNat], List.getElem_mem hk, atI_get2 (n := k.toNat) (by omega) (List.getElem?_eq_getElem hk)⟩
def strsOf : List D → Option (List Str)
  | [] => some []
  | .str s :: l => match strsOf l with
    | some ss => some (s :: ss)
    | none => none
  | _ => none
theorem strsOf_map : ∀ ss : List Str, strsOf (ss.map D.str) = some ss
  | [] => rfl
  | s :: ss => by rw [List.map_cons]; unfold strsOf; rw [strsOf_map ss]
theorem strsOf_eq : ∀ {l : List D} {ss : List Str}, strsOf l = some ss → l = ss.map D.str
  | [], _, h => by cases h; rfl
  | x :: l, ss, h => by
    unfold strsOf at h
    split at h
    · rename_i e; cases e
    · rename_i s l' e
      cases e
      split at h
      · rename_i ss' e2
        cases h
        rw [strsOf_eq e2]; rfl
      · cases h
    · cases h
theorem flat_strs : ∀ ss : List Str, flatDs (ss.map D.str) = some (ss.map V.str)
  | [] => rfl
  | s :: ss => by rw [List.map_cons]; unfold flatDs; rw [flat_strs ss]; rfl
theorem flat_ints : ∀ ss : List Int, flatDs (ss.map D.int) = some (ss.map V.int)
  | [] => rfl
  | s :: ss => by rw [List.map_cons]; unfold flatDs; rw [flat_ints ss]; rfl
theorem inV_strs (s : Str) : ∀ ss : List Str, inV (.str s) (ss.map V.str) = ss.contains s
  | [] => rfl
  | x :: ss => by
    have ih := inV_strs s ss
    unfold inV at ih ⊢
    rw [List.map_cons, List.any_cons, ih, List.contains_cons]
    congr 1
    show (x == s) = (s == x)
    by_cases h : x = s
    · subst h; rfl
    · rw [beq_eq_false_iff_ne.mpr h, beq_eq_false_iff_ne.mpr (Ne.symm h)]
theorem inV_ints (s : Int) : ∀ ss : List Int, inV (.int s) (ss.map V.int) = ss.contains s
  | [] => rfl
  | x :: ss => by
    have ih := inV_ints s ss
    unfold inV at ih ⊢
    rw [List.map_cons, List.any_cons, ih, List.contains_cons]
    congr 1
    show (x == s) = (s == x)
    by_cases h : x = s
    · subst h; rfl
    · rw [beq_eq_false_iff_ne.mpr h, beq_eq_false_iff_ne.mpr (Ne.symm h)]
theorem sub_strs {fl : List Str} {acc : List D} (h : acc.Sublist (fl.map D.str)) : ∃ ss : List Str, acc = ss.map D.str ∧ ss.Sublist fl := by
  obtain ⟨l, h1, h2⟩ := List.sublist_map_iff.mp h
  exact ⟨l, h2, h1⟩
theorem filter_sub {α : Type} [BEq α] [LawfulBEq α] : ∀ {l a : List α}, l.Nodup → a.Sublist l → l.filter (a.contains ·) = a := by
  intro l
  induction l with
  | nil => intro a _ h; cases h; rfl
  | cons x l ih =>
    intro a nd h
    obtain ⟨n1, n2⟩ := List.nodup_cons.mp nd
    cases h with
    | cons _ h =>
      have nx : a.contains x = false := by
        cases e : a.contains x with
        | false => rfl
        | true => exact absurd (h.subset (List.contains_iff_mem.mp e)) n1
      rw [List.filter_cons_of_neg (by rw [nx]; simp), ih n2 h]
    | cons_cons _ h =>
      rename_i a'
      rw [List.filter_cons_of_pos (by simp)]
      congr 1
      refine Eq.trans (List.filter_congr fun y hy => ?_) (ih n2 h)
      have hne : (y == x) = false := beq_eq_false_iff_ne.mpr fun e => n1 (e ▸ hy)
      rw [List.contains_cons, hne, Bool.false_or]
theorem emod_mul2 {n X Y : Int} (hX : 0 < X) (hY : 0 < Y) : n % (X * Y) = X * (n / X % Y) + n % X := by
  have h1 := Int.mul_ediv_add_emod n X
  have h2 := Int.mul_ediv_add_emod (n / X) Y
  have r1 := Int.emod_nonneg n (show X ≠ 0 by omega)
  have r2 := Int.emod_lt_of_pos n hX
  have s1 := Int.emod_nonneg (n / X) (show Y ≠ 0 by omega)
  have s2 := Int.emod_lt_of_pos (n / X) hY
  have e : n = X * (n / X % Y) + n % X + X * Y * (n / X / Y) := by
    have e2 : X * (Y * (n / X / Y) + n / X % Y) + n % X = n := by rw [h2]; exact h1
    rw [Int.mul_add, ← Int.mul_assoc] at e2
    omega
  have b1 : 0 ≤ X * (n / X % Y) := Int.mul_nonneg (by omega) s1
  have b2 : X * (n / X % Y + 1) ≤ X * Y := Int.mul_le_mul_of_nonneg_left (by omega) (by omega)
  rw [Int.mul_add, Int.mul_one] at b2
  have e3 : (X * (n / X % Y) + n % X + X * Y * (n / X / Y)) % (X * Y) = X * (n / X % Y) + n % X := by
    rw [Int.add_mul_emod_self_left]
    exact Int.emod_eq_of_lt (by omega) (by omega)
  exact (congrArg (· % (X * Y)) e).trans e3
/-- some of texts, by a test -/
theorem lc_strs {g : Ag} {tt : At} {a : Ae} {E : Env} {M : Mem} {Q : List D → Mem → Prop} (q : Str → Bool) (fl : List Str) (hl : fl.length ≤ 1000000) (turn : ∀ s, s ∈ fl → ∀ R S, (q s = true → R (.d (.str s)) M) → (q s = false → S M) → LcT g tt a E (.str s) M R S) (fin : Q ((fl.filter q).map D.str) M) : LcS (fl.map D.str) g tt a E M Q := by
  have filt : ∀ l : List Str, ((l.map D.str).filter fun d => match d with | .str s => q s | _ => false).map (fun d => d) = (l.filter q).map D.str := by
    intro l
    induction l with
    | nil => rfl
    | cons x l ih =>
      rw [List.map_cons, List.filter_cons, List.filter_cons]
      show (if q x = true then _ else _ : List D).map _ = _
      cases q x with
      | true => rw [if_pos rfl, if_pos rfl, List.map_cons, List.map_cons, ih]
      | false => rw [if_neg (by simp), if_neg (by simp), ih]
  refine lc_filt (fun d => d) (fun d => match d with | .str s => q s | _ => false) (by rw [List.length_map]; exact hl) (fun d hd R S hR hS => ?_) ?_
  · obtain ⟨s, hs, rfl⟩ := List.mem_map.mp hd
    exact turn s hs R S hR hS
  · rw [filt]; exact fin
/-- one for each of numbers -/
theorem lc_ints {g : Ag} {tt : At} {a : Ae} {E : Env} {M : Mem} {Q : List D → Mem → Prop} (f : Int → D) (ns : List Int) (hl : ns.length ≤ 1000000) (turn : ∀ s, s ∈ ns → ∀ R S, R (.d (f s)) M → LcT g tt a E (.int s) M R S) (fin : Q (ns.map f) M) : LcS (ns.map D.int) g tt a E M Q := by
  refine lc_map (fun d => match d with | .int i => f i | _ => .non) (by rw [List.length_map]; exact hl) (fun d hd R S hR => ?_) ?_
  · obtain ⟨s, hs, rfl⟩ := List.mem_map.mp hd
    exact turn s hs R S hR
  · rw [List.map_map]; exact fin
end G

set_option Elab.async false
set_option linter.all false
set_option maxRecDepth 100000
namespace G
open PySem PySem.Spec PyProof.Rows L2
section
variable {K : PySem.W.Frag} {W : Wd}
/-! ### [a, b, ..][i]: one of things, cells too -/
def aPick (as : Aa) (ai : Ae) : Ae := fun E M Q => as E M fun xs M1 => match Nat.ble xs.length 4096 with
  | true => ai E M1 fun i M2 => match i with
    | .d (.int n) => Opt (atI xs n) fun x => Q x M2
    | _ => False
  | false => False
theorem RepAs.get {al : List Addr} {I : Hp} : ∀ {xs : List A} {vs : List V} {i : Nat} {x : A}, RepAs K al I xs vs → xs[i]? = some x → ∃ v, vs[i]? = some v ∧ RepA K al I x v
  | _, _, _, _, .nil, e => by simp at e
  | _, _, 0, _, .cons h _, e => by simp at e; subst e; exact ⟨_, rfl, h⟩
  | _, _, i + 1, _, .cons _ r, e => by
    obtain ⟨v, h1, h2⟩ := RepAs.get (i := i) r (by simpa using e)
    exact ⟨v, by simpa using h1, h2⟩
theorem se_pick {t : TA} {ti : TE} {as : Aa} {ai : Ae} (h : SA K W t as) (hi : SE K W ti ai) : SE K W (tOp (rIx K) (tLst t) ti) (aPick as ai) := by
  intro b M E σ QA Q t0 ok sl h1 k
  refine h b M E σ _ _ t0 ok sl h1 fun b1 M1 xs vs t1 ok1 s1 r1 h2 => ?_
  cases hl : Nat.ble xs.length 4096 with
  | false => rw [hl] at h2; exact h2.elim
  | true =>
    rw [hl] at h2
    refine ⟨by rw [← r1.length]; exact line4096 (Nat.le_of_ble_eq_true hl), fun p hp => ?_⟩
    have ok2 := ok1.laid (u := .lst vs) hp
    have t2 := t1.laid ok1 (u := .lst vs) hp
    have s2 : Step b1 ⟨upd b1.I p (.lst vs), b1.al, upd b1.H p (.lst vs)⟩ := (To.refl b1).laid ok1 hp
    have s12 := s1.trans s2
    refine hi ⟨upd b1.I p (.lst vs), b1.al, upd b1.H p (.lst vs)⟩ M1 E σ _ _ t2 ok2 (sl.mono s12.same s12.pre) h2 fun b3 M3 y w t3 ok3 s3 r3 h3 => ?_
    split at h3
    · rename_i n
      cases rep_int_inv (repA_d r3)
      obtain ⟨x, hx, q⟩ := h3
      have s13 : Step b b3 := s12.trans s3
      have hx0 := hx
      unfold atI at hx
      cases e : ixN xs.length n with
      | none => rw [e] at hx; cases hx
      | some j =>
        rw [e] at hx
        obtain ⟨v, hv, rv⟩ := (r1.mono s2.same s2.pre).get (i := j) (x := x) hx
        have rv3 : RepA K b3.al b3.I x v := rv.mono s3.same s3.pre
        have hI : b3.I p = some (.lst vs) := s3.same p _ upd_same
        have e2 : atI vs n = some v := by unfold atI; rw [← r1.length, e]; exact hv
        exact .inl ⟨p, vs, n, v, rfl, rfl, SqL.of (ok3.ih _ _ hI), e2, k b3 M3 x v t3 ok3 s13 rv3 q⟩
    · exact h3.elim
/-! ### a list that is going to change, lent to a def that leaves it -/
def lend (M : Mem) : List A → Option (List A)
  | [] => some []
  | .d x :: r => match lend M r with
    | some l => some (.d x :: l)
    | none => none
  | .cell k :: r => match M[k]?, lend M r with
    | some (.lst l), some s => some (.d (.lst l) :: s)
    | _, _ => none
def flatQ (z : A) (M1 : Mem) (k : A → Prop) : Prop := match z, M1 with
  | .d .non, [] => k (.d .non)
  | .d (.bl c), [] => k (.d (.bl c))
  | .d (.int c), [] => k (.d (.int c))
  | .d (.str c), [] => k (.d (.str c))
  | _, _ => False
def LCall (sp : ASp) (xs : List A) (M : Mem) (Q : A → Mem → Prop) : Prop := match lend M xs with
  | some ys => sp ys [] (fun z M1 => flatQ z M1 fun w => Q w M) (fun _ _ _ => False)
  | none => False
theorem lend_rep {b : Wd} {M : Mem} (ok : Ok K b M) : ∀ {xs ys : List A} {vs : List V}, lend M xs = some ys → RepAs K b.al b.I xs vs → RepAs K [] b.H ys vs
  | [], ys, vs, h, r => by cases h; cases r; exact .nil
  | .d x :: xs, ys, vs, h, r => by
    unfold lend at h
    split at h
    · rename_i l e
      cases h
      cases r with
      | cons r1 r2 => exact .cons (.d ((repA_d r1).mono ok.ih)) (lend_rep ok e r2)
    · cases h
  | .cell k :: xs, ys, vs, h, r => by
    unfold lend at h
    split at h
    · rename_i l s e1 e2
      cases h
      cases r with
      | cons r1 r2 =>
        obtain ⟨a, ha, rfl⟩ := cell_addr r1
        obtain ⟨_, us, hv, rs⟩ := ok.at_ _ _ _ ha e1
        exact .cons (.d (.lst hv (rs.mono ok.ih))) (lend_rep ok e2 r2)
    · cases h
theorem lend_call {b : Wd} {M : Mem} {xs : List A} {vs : List V} {sp : ASp} {QA : A → Mem → Prop} {Q : VK} (t : To W b) (ok : Ok K b M) (r : RepAs K b.al b.I xs vs) (h : LCall sp xs M QA)
    (k : ∀ b' M' z w, To W b' → Ok K b' M' → Step b b' → RepA K b'.al b'.I z w → QA z M' → Q w b'.H) : conc K sp vs b.H Q E0 := by
  unfold LCall at h
  cases e : lend M xs with
  | none => rw [e] at h; exact h.elim
  | some ys =>
    rw [e] at h
    refine ⟨⟨b.H, [], b.H⟩, [], ys, _, _, rfl, ⟨Same.refl _, rfl, List.nodup_nil, fun k a h => by simp at h, fun k a c h => by simp at h⟩, lend_rep ok e r, h, fun b1 M1 z v t1 ok1 r1 q => ?_, fun _ _ _ _ _ _ _ _ _ _ q => q.elim⟩
    have hH : Same b.H b1.H := fun a o e => t1.fr a o e (by simp)
    have t2 : Step b ⟨b.I, b.al, b1.H⟩ := ⟨Same.refl _, fun x o e _ => hH x o e, fun x e n => absurd e n, fun x e => t1.dom x e, Pre.refl _, fun x e => .inl e⟩
    have hd2 : ∀ (k : Nat) (a : Addr), b.al[k]? = some a → b1.H a ≠ none := fun k a e z => by
      cases eh : b.H a with
      | none => exact ok.dom k a e eh
      | some o =>
        have := hH a o eh
        rw [z] at this; cases this
    have ha2 : ∀ (k : Nat) (a : Addr) (c : Cell), b.al[k]? = some a → M[k]? = some c → HasC K b.al b.I b1.H a c := fun k a c e1 e2 => by
      have q := ok.at_ k a c e1 e2
      cases eh : b.H a with
      | none => exact absurd eh (ok.dom k a e1)
      | some o =>
        have e3 : b1.H a = b.H a := by rw [hH a o eh, eh]
        cases c with
        | gone => trivial
        | lst _ => exact q.mono (Same.refl _) (Pre.refl _) q.1 e3
        | obj _ _ => exact q.mono (Same.refl _) (Pre.refl _) q.1 e3
        | dic _ => exact q.mono (Same.refl _) (Pre.refl _) q.1 e3
        | did _ => exact q.mono (Same.refl _) (Pre.refl _) q.1 e3
        | lsa _ => exact q.mono (Same.refl _) (Pre.refl _) q.1 e3
        | tpa _ => exact q.mono (Same.refl _) (Pre.refl _) q.1 e3
    have ok2 : Ok K ⟨b.I, b.al, b1.H⟩ M := ⟨fun a o e => hH a o (ok.ih a o e), ok.len, ok.nd, hd2, ha2⟩
    have fin : ∀ z : A, ∀ v, (∀ I, RepA K b.al I z v) → QA z M → Q v b1.H := fun z v hz q => k ⟨b.I, b.al, b1.H⟩ M z v (t.trans t2) ok2 t2 (hz _) q
    unfold flatQ at q
    split at q
    · cases rep_non_inv (repA_d r1); exact fin _ _ (fun _ => .d .non) q
    · cases rep_bl_inv (repA_d r1); exact fin _ _ (fun _ => .d (.bl _)) q
    · cases rep_int_inv (repA_d r1); exact fin _ _ (fun _ => .d (.int _)) q
    · cases rep_str_inv (repA_d r1); exact fin _ _ (fun _ => .d (.str _)) q
    · exact q.elim
def aLend (sp : ASp) (dv : List D) (as : Aa) : Ae := fun E M Q => as E M fun xs M1 => LCall sp (xs ++ dv.map A.d) M1 Q
theorem se_lend {sp : ASp} {dv : List D} {as : Aa} {t : TA} (hd : dv.all flatB = true) (h : SA K W t as) : SE K W (tCall (conc K sp) (dv.map vOf) E0 t) (aLend sp dv as) := by
  intro b M E σ QA Q t0 ok sl h1 k
  refine h b M E σ _ _ t0 ok sl h1 fun b1 M1 xs vs t1 ok1 s1 r1 h2 => ?_
  exact lend_call t1 ok1 (r1.app (reps_d (flat_reps hd))) h2 fun b2 M2 z w t2 ok2 s2 r2 q => k b2 M2 z w t2 ok2 (s1.trans s2) r2 q
end
section
variable {X : Cx} {W : Wd} {K : PySem.W.Frag} {pos p : Pos} {e e2 : Expr} {es : List Expr} {t t2 : TE} {a a2 : Ae} {ts : TA} {as : Aa} {x : Str} {sp : ASp} {k j : Nat} {dv : List D}
theorem k_lend (F : Def X.prog X.w X.K X.mg X.base x k sp dv) (hr : Room j X.A) (hkj : k ≤ j) (ha : AA X W (e :: es) ts as) (hg : Gl X x := by rfl) (hdb : (x == ("__debug__" : Str)) = false := by decide)
    (he : starEach (e :: es) X.env = (false, eval e X.env) :: starEach es X.env := by rfl) (hpl : (backTo pos (starEach es X.env)).any (·.1) = false := by rfl) (hK : X.K = K := by rfl) : AE X W (.Call (.Name x p) (e :: es) [] pos) (tCall (conc K sp) (dv.map vOf) E0 ts) (aLend sp dv as) := by
  subst hK
  obtain ⟨f, fd, ps, ds, F, hm, hk, hb, hd, hf⟩ := F
  exact ⟨pe_call F (hr.mono hkj) hg hm hk hb hd pass0 ha.pa hdb he hpl, se_lend hf ha.sa⟩
theorem k_pick {x1} (h : AA X W es ts as) (g : AE X W e2 t2 a2) (hs : PlainIx e2 := by intro _ _; rfl) (hK : X.K = K := by rfl) : AE X W (.Subscript (.List es x1) e2 pos) (tOp (rIx K) (tLst ts) t2) (aPick as a2) := by
  subst hK; exact ⟨pe_ix ix_seq (pe_lst h.pa) g.pe hs, se_pick h.sa g.se⟩
end
/-! ### lists of ints are alike -/
theorem okE_ints : ∀ ns : List Int, okEs (ns.map D.int) = true
  | [] => rfl
  | n :: ns => by rw [List.map_cons]; unfold okEs; rw [okE_ints ns]; rfl
theorem lay_ints : ∀ ns : List Int, PyData.canLayAll0 (toPys (ns.map D.int)) = true
  | [] => rfl
  | n :: ns => by
    rw [List.map_cons]
    show (PyData.canLay0 (toPy (D.int n)) && PyData.canLayAll0 (toPys (ns.map D.int))) = true
    rw [lay_ints ns]; rfl
theorem pys_ints : ∀ ns : List Int, toPys (ns.map D.int) = ns.map PyData.int
  | [] => rfl
  | n :: ns => by rw [List.map_cons, List.map_cons, ← pys_ints ns]; rfl
theorem depth_ints : ∀ ns : List Int, PyData.depthAll (ns.map PyData.int) ≤ 1
  | [] => by decide
  | n :: ns => by
    have h := depth_ints ns
    rw [List.map_cons]
    show max (PyData.depth (.int n)) (PyData.depthAll (ns.map PyData.int)) ≤ 1
    have h2 : PyData.depth (.int n) ≤ 1 := Nat.zero_le 1
    omega
theorem shE_ints (ns : List Int) : shE (.lst (ns.map D.int)) = true := by
  show (okEs _ && (PyData.canLayAll0 _ && decide (PyData.depth (.list (toPys (ns.map D.int))) ≤ 64))) = true
  rw [okE_ints, lay_ints, pys_ints]
  have h : PyData.depth (.list (ns.map PyData.int)) ≤ 64 := by
    show PyData.depthAll (ns.map PyData.int) + 1 ≤ 64
    have := depth_ints ns
    omega
  rw [decide_eq_true h]; rfl
theorem eqD_self {d : D} (h : shE d = true) : eqD d d = true := SeqAt.eqv_refl _ (SeqAt.canLay_of_shaped (Bool.and_eq_true_iff.mp h).2)
theorem ne_self {d : D} (h : shE d = true) : ng true (eqD d d) = false := by rw [eqD_self h]; rfl
/-- each item's own, by its place -/
theorem lc_fn {items : List D} {g : Ag} {tt : At} {a : Ae} {E : Env} {M : Mem} {Q : List D → Mem → Prop} (F : Nat → D) (n : Nat) (hn : items.length = n) (hl : n ≤ 1000000) (turn : ∀ i d, items[i]? = some d → ∀ R S, R (.d (F i)) M → LcT g tt a E d M R S) (fin : Q ((List.range n).map F) M) : LcS items g tt a E M Q := by
  refine lc_any (fun _ M' => M' = M) (fun i _ y => y = F i) (by omega) rfl (fun i d M' hd e R S hR => by subst e; exact turn i d hd R S (hR _ _ rfl rfl)) (fun acc M' ha hP e => ?_)
  subst e
  have e2 : acc = (List.range n).map F := by
    refine List.ext_getElem (by rw [ha, List.length_map, List.length_range, hn]) fun i h1 h2 => ?_
    rw [List.getElem_map, List.getElem_range]
    have hi : i < items.length := by omega
    exact hP i _ _ (List.getElem?_eq_getElem hi) (List.getElem?_eq_getElem h1)
  rw [e2] at *
  exact fin
theorem zipD_length : ∀ xs ys : List D, xs.length = ys.length → (zipD xs ys).length = xs.length
  | [], ys, _ => by unfold zipD; rfl
  | x :: xs, [], h => by simp at h
  | x :: xs, y :: ys, h => by
    unfold zipD
    rw [List.length_cons, List.length_cons, zipD_length xs ys (by simpa using h)]
theorem map_int_get {ns : List Int} {i : Nat} {d : D} (h : (ns.map D.int)[i]? = some d) : ∃ x, ns[i]? = some x ∧ d = .int x := by
  rw [List.getElem?_map] at h
  cases e : ns[i]? with
  | none => rw [e] at h; cases h
  | some x => rw [e] at h; cases h; exact ⟨x, rfl, rfl⟩
theorem ints_all_true {n : Nat} {acc : List D} {items : List D} (hl : acc.length = items.length) (hP : ∀ (i : Nat) (d y : D), items[i]? = some d → acc[i]? = some y → y = D.bl true) : ∃ bs, blsOf acc = some bs ∧ bs.all id = true :=
  bls_all_true fun y hy => by
    obtain ⟨j, hj⟩ := List.getElem?_of_mem hy
    have hj2 : j < items.length := by rw [← hl]; exact (List.getElem?_eq_some_iff.mp hj).1
    exact hP j _ y (List.getElem?_eq_getElem hj2) hj
/-- numbers, one an item, by draws -/
theorem lc_draws {items : List D} {g : Ag} {tt : At} {a : Ae} {E : Env} {M : Mem} {Q : List D → Mem → Prop} (J : Nat → Mem → Prop) (P : Int → Prop) (hl : items.length ≤ 1000000) (h0 : J 0 M) (turn : ∀ i d M, items[i]? = some d → J i M → ∀ R S, (∀ n M', P n → J (i + 1) M' → R (.d (.int n)) M') → LcT g tt a E d M R S)
    (fin : ∀ (ns : List Int) M', ns.length = items.length → (∀ n ∈ ns, P n) → J items.length M' → Q (ns.map D.int) M') : LcS items g tt a E M Q := by
  refine lc_any J (fun _ _ y => ∃ n, y = .int n ∧ P n) hl h0 (fun i d M hd hj R S hR => turn i d M hd hj R S fun n M' hn hj' => hR _ _ ⟨n, rfl, hn⟩ hj') (fun acc M' ha hP hj => ?_)
  have key : ∀ {l : List D}, (∀ y ∈ l, ∃ n, y = .int n ∧ P n) → ∃ ns : List Int, l = ns.map D.int ∧ ∀ n ∈ ns, P n := by
    intro l
    induction l with
    | nil => intro _; exact ⟨[], rfl, fun n h => by cases h⟩
    | cons x l ih =>
      intro h
      obtain ⟨n, rfl, hn⟩ := h x List.mem_cons_self
      obtain ⟨ns, rfl, h2⟩ := ih fun y hy => h y (List.mem_cons_of_mem _ hy)
      exact ⟨n :: ns, rfl, fun m hm => by
        rcases List.mem_cons.mp hm with rfl | hm
        · exact hn
        · exact h2 m hm⟩
  obtain ⟨ns, rfl, h2⟩ := key (l := acc) fun y hy => by
    obtain ⟨j, hj⟩ := List.getElem?_of_mem hy
    have hj2 : j < items.length := by rw [← ha]; exact (List.getElem?_eq_some_iff.mp hj).1
    exact hP j _ y (List.getElem?_eq_getElem hj2) hj
  exact fin ns M' (by rw [List.length_map] at ha; exact ha) h2 hj
end G

set_option Elab.async false
set_option linter.all false
set_option maxRecDepth 100000
namespace G
open PySem PySem.Spec PyProof.Rows L2
/-! ### o.f = e, o a cell -/
def putA (f : Str) (v : A) : List (Str × A) → List (Str × A)
  | [] => [(f, v)]
  | (g, x) :: r => match decide (g = f) with
    | true => (g, v) :: r
    | false => (g, x) :: putA f v r
def fewF : List (Str × A) → Bool := fun fs => Nat.ble fs.length 500
def aFldS (C : Addr) (f : Str) (a av : Ae) : As := fun Q E M => av E M fun y M1 => a E M1 fun o M2 => match o with
  | .cell k => match M2[k]? with
    | some (.obj C' fs) => match fewF fs with
      | true => Side (C' = C) (Q.nx E (M2.set k (.obj C' (putA f y fs))))
      | false => False
    | _ => False
  | _ => False
section
variable {K : PySem.W.Frag} {W : Wd}
theorem putA_rep {al : List Addr} {I : Hp} {f : Str} {y : A} {v : V} (h : RepA K al I y v) : ∀ {fs : List (Str × A)} {gs : List (Str × V)}, RepAF K al I fs gs → RepAF K al I (putA f y fs) (putF f v gs)
  | _, _, .nil => .cons h .nil
  | _, _, @RepAF.cons _ _ _ x d u ds vs r rs => by
    unfold putA putF
    by_cases e : x = f
    · rw [decide_eq_true e, if_pos e]
      exact .cons h rs
    · rw [decide_eq_false e, if_neg e]
      exact .cons r (putA_rep h rs)
theorem RepAF.length {al : List Addr} {I : Hp} : ∀ {fs : List (Str × A)} {gs : List (Str × V)}, RepAF K al I fs gs → fs.length = gs.length
  | _, _, .nil => rfl
  | _, _, .cons _ r => by rw [List.length_cons, List.length_cons, RepAF.length r]
theorem ss_fld {C : Addr} {f : Str} {t tv : TE} {a av : Ae} (c : Cls K C) (n : NoAttr K C f) (h : SE K W t a) (hv : SE K W tv av) : SS K W (sFld K t tv f) (aFldS C f a av) := fun b M E σ DA Dd t0 ok sl h1 e => by
  refine hv b M E σ _ _ t0 ok sl h1 fun b1 M1 y u t1 ok1 s1 r1 h2 => ?_
  refine h b1 M1 E σ _ _ t1 ok1 (sl.mono s1.same s1.pre) h2 fun b2 M2 o w t2 ok2 s2 r2 h3 => ?_
  split at h3
  · rename_i k
    split at h3
    · rename_i C' fs em
      split at h3
      · rename_i ef
        obtain ⟨rfl, h3⟩ := h3
        obtain ⟨p, ha, rfl⟩ := cell_addr r2
        obtain ⟨hn, dx, gs, hp, rf⟩ := ok2.at_ _ _ _ ha em
        have hl : gs.length < 1000 := by
          have := Nat.le_of_ble_eq_true (show Nat.ble fs.length 500 = true from ef)
          rw [← rf.length]; omega
        have r1' := r1.mono s2.same s2.pre
        refine ⟨p, _, dx, gs, rfl, hp, c, n, hl, ?_⟩
        refine e.nx ⟨b2.I, b2.al, upd b2.H p _⟩ _ E σ (s1.trans s2).same (t2.put ha) (ok2.put (c := .obj _ (putA f y fs)) ha hn ⟨hn, dx, _, upd_same, putA_rep r1' rf⟩) ?_ h3
        exact sl.mono (s1.trans s2).same (s1.trans s2).pre
      · exact h3.elim
    · exact h3.elim
  · exact h3.elim
/-! ### C(e, ..) -/
def aMake (C : Addr) (sp : ASp) (dv : List D) (as : Aa) : Ae := fun E M Q => as E M fun xs M1 => BCall sp (.cell M1.length :: (xs ++ dv.map A.d)) (M1 ++ [.obj C []]) fun z M2 => match z with
  | .d .non => Q (.cell M1.length) M2
  | _ => False
theorem se_make {C : Addr} {sp : ASp} {dv : List D} {t : TA} {as : Aa} (hd : dv.all flatB = true) (h : SA K W t as) : SE K W (tMake C (conc K sp) (dv.map vOf) E0 t) (aMake C sp dv as) := by
  intro b M E σ QA Q t0 ok sl h1 k
  refine h b M E σ _ _ t0 ok sl h1 fun b1 M1 xs vs t1 ok1 s1 r1 h2 => ?_
  intro x dx hx hdx ne
  have ok2 := ok1.laid (u := .own x) hdx
  have t2 := t1.laid ok1 (u := .own x) hdx
  have s2 : Step b1 ⟨upd b1.I dx (.own x), b1.al, upd b1.H dx (.own x)⟩ := (To.refl b1).laid ok1 hdx
  have hx2 : upd b1.H dx (.own x) x = none := by rw [upd_ne (fun z => ne z.symm)]; exact hx
  have ok3 := ok2.cell (u := .ins C dx []) (c := .obj C []) hx2 ⟨ok2.iNone hx2, dx, [], upd_same, .nil⟩
  have t3 := t2.cell ok2 (u := .ins C dx []) hx2
  have s3 := step_cell ok2 (u := .ins C dx []) hx2
  have s13 : Step b1 _ := s2.trans s3
  have lenc : (.cell M1.length : A) = .cell b1.al.length := by rw [ok1.len]
  have hc : RepA K (b1.al ++ [x]) (upd b1.I dx (.own x)) (.cell M1.length) (.ref x) := .cell (by rw [← ok1.len]; exact len_get)
  refine conc_call t3 ok3 (.cons hc ((r1.mono s13.same s13.pre).app (reps_d (flat_reps hd)))) h2.ok fun b4 M4 z w t4 ok4 s4 r4 q => ?_
  split at q
  · cases rep_non_inv (repA_d r4)
    exact ⟨rfl, k b4 M4 _ _ t4 ok4 ((s1.trans s13).trans s4) (hc.mono s4.same s4.pre) q⟩
  · exact q.elim
/-! ### a new object stands still from now on -/
def allF : List (Str × A) → Option (List (Str × D))
  | [] => some []
  | (f, .d x) :: r => match allF r with
    | some l => some ((f, x) :: l)
    | none => none
  | _ => none
theorem allF_rep {al : List Addr} {I : Hp} : ∀ {fs : List (Str × A)} {ds : List (Str × D)} {gs : List (Str × V)}, allF fs = some ds → RepAF K al I fs gs → RepF K I ds gs
  | [], ds, gs, e, r => by cases e; cases r; exact .nil
  | (f, .d x) :: fs, ds, gs, e, r => by
    unfold allF at e
    split at e
    · rename_i l el
      cases e
      cases r with
      | cons r1 r2 => exact .cons (repA_d r1) (allF_rep el r2)
    · cases e
  | (f, .cell k) :: fs, ds, gs, e, r => by cases e
def aFrzO (a : Ae) : Ae := fun E M Q => a E M fun x M1 => match x with
  | .d y => Q (.d y) M1
  | .cell k => match Nat.ble M.length k, Nat.beq (k + 1) M1.length, M1[k]?, (M1.take k).all (lowC k) with
    | true, true, some (.obj C fs), true => match allF fs with
      | some ds => fL (M1.take k) fun M2 => Q (.d (.obj C ds)) M2
      | none => False
    | _, _, _, _ => False
theorem se_frzO {t : TE} {a : Ae} (h : SE K W t a) : SE K W t (aFrzO a) := by
  intro b M E σ QA Q t0 ok sl h1 k
  refine h b M E σ _ _ t0 ok sl h1 fun b1 M1 x v t1 ok1 s1 r1 h2 => ?_
  cases x with
  | d y => exact k b1 M1 _ v t1 ok1 s1 r1 h2
  | cell j =>
    dsimp only at h2
    split at h2
    · rename_i C fs e1 e2 e3 e4
      split at h2
      · rename_i ds e5
        have h2 := fL_eq.mp h2
        have hj := Nat.le_of_ble_eq_true e1
        obtain ⟨p, ha, rfl⟩ := cell_addr r1
        obtain ⟨hn, dx, gs, hv, rf⟩ := ok1.at_ _ _ _ ha e3
        have rs := allF_rep e5 rf
        have okt := ok1.trim j e4
        have hbl : b.al.length ≤ j := by rw [ok.len]; exact hj
        have hWl : W.al.length ≤ j := by
          obtain ⟨u, e⟩ := t0.pre
          have : b.al.length = W.al.length + u.length := by rw [e, List.length_append]
          omega
        have np : p ∉ b1.al.take j := fun z => by
          obtain ⟨i, hi⟩ := List.getElem?_of_mem z
          rw [List.getElem?_take] at hi
          split at hi
          · have := nd_get ok1.nd hi ha
            omega
          · cases hi
        have new : ∀ {a0 : Wd}, To a0 b1 → a0.al.length ≤ j → a0.H p = none := fun {a0} t hl => by
          rcases t.new p (List.mem_of_getElem? ha) with m | m
          · exfalso
            obtain ⟨i, hi⟩ := List.getElem?_of_mem m
            have := nd_get ok1.nd ha (t.pre.get hi)
            have := (List.getElem?_eq_some_iff.mp hi).1
            omega
          · exact m
        have same2 : Same b1.I (upd b1.I p (.ins C dx gs)) := same_new hn
        have toF : ∀ {a0 : Wd}, To a0 b1 → a0.al.length ≤ j → To a0 ⟨upd b1.I p (.ins C dx gs), b1.al.take j, b1.H⟩ := fun {a0} t hl =>
          have tt := t.trim hl
          ⟨t.same.trans same2, t.fr, fun x e (m : upd b1.I p (.ins C dx gs) x ≠ none) => by
            by_cases z : x = p
            · subst z; exact new t hl
            · rw [upd_ne z] at m; exact t.fresh x e m, t.dom, tt.pre, tt.new⟩
        refine k ⟨upd b1.I p (.ins C dx gs), b1.al.take j, b1.H⟩ (M1.take j) (.d (.obj C ds)) (.ref p) (toF t1 hWl) ?_ (toF s1 hbl) (.d (.obj upd_same (RepF.mono same2 rs))) h2
        refine ⟨fun x w (e : upd b1.I p (.ins C dx gs) x = some w) => show b1.H x = some w by
          by_cases z : x = p
          · subst z; rw [upd_same] at e; rw [← e]; exact hv
          · rw [upd_ne z] at e; exact ok1.ih x w e, okt.len, okt.nd, okt.dom, fun i x c (e1 : (b1.al.take j)[i]? = some x) e2 => show HasC K (b1.al.take j) (upd b1.I p (.ins C dx gs)) b1.H x c by
          have ne : x ≠ p := fun z => np (z ▸ List.mem_of_getElem? e1)
          have q2 := okt.at_ i x c e1 e2
          cases c with
          | gone => trivial
          | lst _ => exact q2.mono same2 (Pre.refl _) (by rw [upd_ne ne]; exact q2.1) rfl
          | obj _ _ => exact q2.mono same2 (Pre.refl _) (by rw [upd_ne ne]; exact q2.1) rfl
          | dic _ => exact q2.mono same2 (Pre.refl _) (by rw [upd_ne ne]; exact q2.1) rfl
          | did _ => exact q2.mono same2 (Pre.refl _) (by rw [upd_ne ne]; exact q2.1) rfl
          | lsa _ => exact q2.mono same2 (Pre.refl _) (by rw [upd_ne ne]; exact q2.1) rfl
          | tpa _ => exact q2.mono same2 (Pre.refl _) (by rw [upd_ne ne]; exact q2.1) rfl⟩
      · exact h2.elim
    · exact h2.elim
end
/-- a class that is made by its name -/
def DefC (P : Program) (w : World) (K : PySem.W.Frag) (mg : Str → Option Value) (base : Heap) (x : Str) (C : Addr) (k : Nat) (sp : ASp) (dv : List D) : Prop :=
  ∃ (f : Addr) (fd : FuncData) (ps : List Str) (ds : List Value), FnOk P w K mg base CX0 k f fd ps (conc K sp) ∧ Mk K C f ∧ mg x = some (.ref C) ∧ Binds K fd ps ds ∧ Vals (dv.map vOf) ds ∧ dv.all flatB = true
section
variable {X : Cx} {W : Wd} {K : PySem.W.Frag} {pos p pos' : Pos} {e o value : Expr} {es : List Expr} {t tv : TE} {a av : Ae} {ts : TA} {as : Aa} {x f : Str} {sp : ASp} {k j : Nat} {dv : List D} {C : Addr}
theorem as_fld (c : Cls X.K C) (n : NoAttr X.K C f) (ha : AE X W o t a) (hv : AE X W value tv av) (hs : swapsWith value (some (.Attribute o f pos')) pos.line X.env = pure false := by rfl) (hK : X.K = K := by rfl) :
    AS X W (.Assign [.Attribute o f pos'] value pos) (sFld K t tv f) (aFldS C f a av) := by subst hK; exact ⟨ps_fld ha.pe hv.pe hs, ss_fld c n ha.se hv.se⟩
theorem k_make (F : DefC X.prog X.w X.K X.mg X.base x C k sp dv) (hr : Room j X.A) (hkj : k + 1 ≤ j) (ha : AA X W (e :: es) ts as) (hg : Gl X x := by rfl) (hdb : (x == ("__debug__" : Str)) = false := by decide)
    (he : starEach (e :: es) X.env = (false, eval e X.env) :: starEach es X.env := by rfl) (hpl : (backTo pos (starEach es X.env)).any (·.1) = false := by rfl) (hK : X.K = K := by rfl) :
    AE X W (.Call (.Name x p) (e :: es) [] pos) (tMake C (conc K sp) (dv.map vOf) E0 ts) (aMake C sp dv as) := by
  subst hK
  obtain ⟨f, fd, ps, ds, F, hM, hm, hb, hd, hf⟩ := F
  exact ⟨pe_make hM F (hr.mono hkj) hg hm hb hd pass0 ha.pa hdb he hpl, se_make hf ha.sa⟩
theorem ae_frzO (h : AE X W e t a) : AE X W e t (aFrzO a) := ⟨h.pe, se_frzO h.se⟩
end
end G

set_option Elab.async false
set_option linter.all false
set_option maxRecDepth 100000
namespace G
open PySem PySem.Spec PyProof.Rows L2
section
variable {K : PySem.W.Frag} {W : Wd}
/-! ### a or b, a a number -/
def aOrT (a c : Ae) : Ae := fun E M Q => a E M fun x M1 => match x with
  | .d (.int i) => Fork (i != 0) (Q (.d (.int i)) M1) (c E M1 Q)
  | .d (.bl i) => Fork i (Q (.d (.bl i)) M1) (c E M1 Q)
  | _ => False
theorem se_orT {t u : TE} {a c : Ae} (h : SE K W t a) (g : SE K W u c) : SE K W (tOrT K t u) (aOrT a c) := by
  intro b M E σ QA Q t0 ok sl h1 k
  refine h b M E σ _ _ t0 ok sl h1 fun b1 M1 x v t1 ok1 s1 r1 h2 => ?_
  have go : ∀ y : Bool, ∀ x : A, RepA K b1.al b1.I x v → Fork y (QA x M1) (c E M1 QA) → if y = true then Q v b1.H else u σ b1.H Q := fun y x r h2 => by
    cases y with
    | true => exact k b1 M1 _ _ t1 ok1 s1 r (h2.t rfl)
    | false =>
      show u σ b1.H Q
      exact g b1 M1 E σ _ _ t1 ok1 (sl.mono s1.same s1.pre) (h2.f rfl) fun b2 M2 y w t2 ok2 s2 r2 h3 => k b2 M2 y w t2 ok2 (s1.trans s2) r2 h3
  split at h2
  · have r1' := r1
    cases rep_int_inv (repA_d r1)
    exact ⟨_, rfl, go _ _ r1' h2⟩
  · have r1' := r1
    cases rep_bl_inv (repA_d r1)
    exact ⟨_, rfl, go _ _ r1' h2⟩
  · exact h2.elim
/-! ### x.insert(i, y) -/
def mInsert : Am := fun x xs M Q => match x, xs with
  | .cell k, [.d (.int i), .d y] => match M[k]? with
    | some (.lst l) => Side (l.length < sizeLine ∧ 0 ≤ i ∧ i < 2 ^ 63) (Q (.d .non) (M.set k (.lst (l.take i.toNat ++ [y] ++ l.drop i.toNat))))
    | _ => False
  | _, _ => False
abbrev rIns : V → List V → Hp → VK → Prop := fun x vs H Q => ∃ (l : Addr) (xs : List V) (i : Int) (y : V), x = .ref l ∧ vs = [.int i, y] ∧ H l = some (.lst xs) ∧ xs.length < sizeLine ∧ 0 ≤ i ∧ i < 2 ^ 63 ∧ Q .non (upd H l (.lst (xs.take i.toNat ++ [y] ++ xs.drop i.toNat)))
theorem sm_insert : SM K W rIns mInsert := by
  intro b M x v xs vs QA Q t ok r rs h k
  unfold mInsert at h
  split at h
  · split at h
    · rename_i kk i y o l e
      obtain ⟨⟨h1, h2, h3⟩, q⟩ := h
      obtain ⟨v1, v2, rfl, ri, ry⟩ := repAs_2 rs
      cases rep_int_inv (repA_d ri)
      obtain ⟨p, us, rfl, ha, hn, hv, rl⟩ := cell_lst ok r e
      have ry' := repA_d ry
      have rn : Reps K b.I (l.take i.toNat ++ [y] ++ l.drop i.toNat) (us.take i.toNat ++ [v2] ++ us.drop i.toNat) := ((rl.take _).app (.cons ry' .nil)).app (rl.drop _)
      exact ⟨p, us, i, v2, rfl, rfl, hv, by rw [← rl.length]; exact h1, h2, h3, k ⟨b.I, b.al, upd b.H p _⟩ _ (.d .non) .non (t.put ha) (ok.put (c := .lst _) ha hn ⟨hn, _, upd_same, rn⟩) (step_put ha) (.d .non) q⟩
    · exact h.elim
  · exact h.elim
/-! ### xs * n -/
def aRep (cel : Bool) : A2 := fun x y M Q => match x, y with
  | .d (.lst l), .d (.int k) => Side (-(2 ^ 63) ≤ k ∧ k < 2 ^ 63 ∧ l.length * k.toNat ≤ sizeLine) (mkL cel (List.replicate k.toNat l).flatten M Q)
  | _, _ => False
theorem Reps.rep {I : Hp} {l : List D} {vs : List V} (r : Reps K I l vs) : ∀ n : Nat, Reps K I (List.replicate n l).flatten (List.replicate n vs).flatten
  | 0 => .nil
  | n + 1 => by rw [List.replicate_succ, List.replicate_succ, List.flatten_cons, List.flatten_cons]; exact r.app (r.rep n)
theorem s2_rep {cel : Bool} : S2 K W rRep (aRep cel) := by
  intro b M x y v u QA Q t ok r1 r2 h k
  unfold aRep at h
  split at h
  · rename_i l n
    obtain ⟨⟨h1, h2, h3⟩, q⟩ := h
    cases rep_int_inv (repA_d r2)
    cases repA_d r1 with
    | lst hp rs =>
      refine ⟨_, n, _, rfl, rfl, ok.ih _ _ hp, h1, h2, by rw [← rs.length]; exact h3, fun p hp2 => ?_⟩
      cases cel with
      | true => exact new_cell t ok (rs.rep _) q k p hp2
      | false => exact new_d t ok (fun p hp => .lst upd_same ((rs.rep _).mono (same_new (ok.iNone hp)))) q k p hp2
  · exact h.elim
end
section
variable {X : Cx} {W : Wd} {K : PySem.W.Frag} {pos p apos : Pos} {e e2 : Expr} {rest : List Expr} {t t2 : TE} {a a2 : Ae}
theorem k_orT (h : AE X W e t a) (g : AE X W (.BoolOp .Or (e2 :: rest) pos) t2 a2) (hK : X.K = K := by rfl) : AE X W (.BoolOp .Or (e :: e2 :: rest) pos) (tOrT K t t2) (aOrT a a2) := by subst hK; exact ⟨pe_orT h.pe g.pe, se_orT h.se g.se⟩
theorem o_rep (cel : Bool) : AO X W (binaryOp .Mult) rRep (aRep cel) := ⟨op_rep, s2_rep⟩
end
end G

set_option Elab.async false
set_option linter.all false
set_option maxRecDepth 100000
namespace G
open PySem PySem.Spec PyProof.Rows L2
/-! ### cells made on the way to a value are forgotten -/
def aDropE (a : Ae) : Ae := fun E M Q => a E M fun x M1 => match x with
  | .d y => match (M1.take M.length).all (lowC M.length) with
    | true => fL (M1.take M.length) fun M2 => Q (.d y) M2
    | false => False
  | .cell _ => False
theorem se_dropE {K : PySem.W.Frag} {W : Wd} {t : TE} {a : Ae} (h : SE K W t a) : SE K W t (aDropE a) := by
  intro b M E σ QA Q t0 ok sl h1 k
  refine h b M E σ _ _ t0 ok sl h1 fun b1 M1 x v t1 ok1 s1 r1 h2 => ?_
  cases x with
  | cell j => exact h2.elim
  | d y =>
    dsimp only at h2
    split at h2
    · rename_i hc
      have h2 := fL_eq.mp h2
      have hb : b.al.length ≤ M.length := Nat.le_of_eq ok.len
      have hW : W.al.length ≤ M.length := by
        obtain ⟨u, e⟩ := t0.pre
        have : b.al.length = W.al.length + u.length := by rw [e, List.length_append]
        omega
      exact k ⟨b1.I, b1.al.take M.length, b1.H⟩ (M1.take M.length) (.d y) v (t1.trim hW) (ok1.trim _ hc) (s1.trim hb) (.d (repA_d r1)) h2
    · exact h2.elim
theorem ae_dropE {X : Cx} {W : Wd} {e : Expr} {t : TE} {a : Ae} (h : AE X W e t a) : AE X W e t (aDropE a) := ⟨h.pe, se_dropE h.se⟩
end G

set_option Elab.async false
set_option linter.all false
set_option maxRecDepth 100000
namespace G
open PySem PySem.Spec PyProof.Rows L2
/-! ### o.m(k = v): keywords alone -/
def tMethK (C : Addr) (m : Str) (n : Nat) (sp : Sp) (gV : List V → List V → List V) (E : XK) (ta : TE) (tk : TA) : TE := fun σ H Q => ta σ H fun x H1 => ∃ a dx fs, x = .ref a ∧ H1 a = some (.ins C dx fs) ∧ fs.lookup m = none ∧
  tk σ H1 fun zs H2 => zs.length = n ∧ sp (gV [.ref a] zs) H2 Q E
theorem pe_methK {X : Cx} {CX : CXT} {k : Nat} {f C : Addr} {fd : FuncData} {ps ks : List Str} {sp : Sp} {E : XK} {m : Str} {pos apos : Pos} {o : Expr} {kws : List Keyword} {ta : TE} {tk : TA} {pl : Sem Bool} {g : List Value → List Value → List Value} {gV : List V → List V → List V}
    (he : PE X o ta) (c : Cls X.K C) (hm : Meth X.K C m f) (F : FnOk X.prog X.w X.K X.mg X.base CX k f fd ps sp) (hr : Room k X.A) (hb : KBn X.K fd ps 1 ks g gV) (hx : Passes CX X E) (hkw : PK X kws tk)
    (hall : (backToKw pos (keywordEach kws X.env)).all (·.1.isSome) = true := by rfl) (hks : (backToKw pos (keywordEach kws X.env)).filterMap (·.1) = ks := by rfl)
    (hpl : ((backTo pos (starEach [] X.env)).any (·.1) || (backToKw pos (keywordEach kws X.env)).any (·.1.isNone)) = false := by rfl)
    (ht : eval (.Call (.Attribute o m apos) [] kws pos) X.env = (do
      let ov ← eval o X.env
      standAt apos.atName
      let (f, first) ← holding [ov] (getMethod ov m pl)
      callWith pos f first (backTo pos (starEach [] X.env)) (backToKw pos (keywordEach kws X.env))) := by rfl) :
    PE X (.Call (.Attribute o m apos) [] kws pos) (tMethK C m ks.length sp gV E ta tk) := by
  refine ⟨fun pins s σ H Q I h => ?_⟩
  refine PySem.W.methodCall_KW (pl := pl) (thn (he.run pins s σ H _ I h) fun u s1 hx1 => ?_) ht
  obtain ⟨x, H1, I1, rx, a, dx, fs, ex, ea, l, q⟩ := hx1
  subst ex
  have eu : u = Value.ref a := rx
  subst eu
  refine getmeth_ok I1 ea c hm l ?_
  refine PySem.W.callWith_KW0 (first := [.ref a]) I1.kIn hm.kp hall (thn (hkw.run pos pins s1 σ H1 _ I1 q) fun ws s2 hz => ?_) hpl
  obtain ⟨zs, H2, I2, rz, l2, q2⟩ := hz
  refine ⟨I2.kIn, ?_⟩
  rw [hks]
  exact run_fnN (us := [.ref a]) (vs := [.ref a]) F hr hb hx I2 (.cons rfl .nil) rz rfl l2 q2
def DefMK (P : Program) (w : World) (K : PySem.W.Frag) (mg : Str → Option Value) (base : Heap) (C : Addr) (m : Str) (k : Nat) (sp : ASp) (ks : List Str) : Prop :=
  ∃ (f : Addr) (fd : FuncData) (ps : List Str) (g : List Value → List Value → List Value), FnOk P w K mg base CX0 k f fd ps (conc K sp) ∧ Cls K C ∧ Meth K C m f ∧ KBn K fd ps 1 ks g (fun vs zs => vs ++ zs)
def aDefMK (C : Addr) (m : Str) (n : Nat) (sp : ASp) (a : Ae) (as : Aa) : Ae := fun E M Q => a E M fun x M1 => match objOf x M1 with
  | some (C', ns) => Side (C' = C ∧ m ∉ ns) (as E M1 fun xs M2 => match Nat.beq xs.length n with
    | true => BCall sp (x :: xs) M2 Q
    | false => False)
  | none => False
theorem se_defMK {K : PySem.W.Frag} {W : Wd} {C : Addr} {m : Str} {n : Nat} {sp : ASp} {t : TE} {ts : TA} {a : Ae} {as : Aa} (h : SE K W t a) (hs : SA K W ts as) : SE K W (tMethK C m n (conc K sp) (fun vs zs => vs ++ zs) E0 t ts) (aDefMK C m n sp a as) := by
  intro b M E σ QA Q t0 ok sl h1 k
  refine h b M E σ _ _ t0 ok sl h1 fun b1 M1 x v t1 ok1 s1 r1 h2 => ?_
  split at h2
  · rename_i C' ns e
    obtain ⟨⟨rfl, hn⟩, h2⟩ := h2
    obtain ⟨p, dx, gs, rfl, hp, en⟩ := objOf_at ok1 r1 e
    refine ⟨p, dx, gs, rfl, hp, lookup_no (by rw [en]; exact hn), hs b1 M1 E σ _ _ t1 ok1 (sl.mono s1.same s1.pre) h2 fun b2 M2 xs vs t2 ok2 s2 r2 h3 => ?_⟩
    split at h3
    · rename_i e3
      exact ⟨by rw [← r2.length]; exact Nat.eq_of_beq_eq_true e3, conc_call t2 ok2 (.cons (r1.mono s2.same s2.pre) r2) h3.ok fun b3 M3 z w t3 ok3 s3 r3 q => k b3 M3 z w t3 ok3 ((s1.trans s2).trans s3) r3 q⟩
    · exact h3.elim
  · exact h2.elim
/-- keywords' values -/
structure AK (X : Cx) (W : Wd) (kws : List Keyword) (t : TA) (a : Aa) : Prop where
  pk : PK X kws t
  sa : SA X.K W t a
section
variable {X : Cx} {W : Wd} {K : PySem.W.Frag} {pos kpos apos : Pos} {e o : Expr} {kws : List Keyword} {t : TE} {a : Ae} {ts : TA} {as : Aa} {nm : Option Str} {sp : ASp} {k j : Nat} {C : Addr} {m : Str} {ks : List Str}
theorem ak_nil : AK X W [] tNil aNil := ⟨pk_nil, sa_nil⟩
theorem ak_cons (h : AE X W e t a) (g : AK X W kws ts as) : AK X W (⟨nm, e, kpos⟩ :: kws) (tCons t ts) (aCons a as) := ⟨pk_cons h.pe g.pk, sa_cons h.se g.sa⟩
theorem k_defMK {pl : Sem Bool} (F : DefMK X.prog X.w X.K X.mg X.base C m k sp ks) (hr : Room j X.A) (hkj : k ≤ j) (ho : AE X W o t a) (hkw : AK X W kws ts as)
    (hall : (backToKw pos (keywordEach kws X.env)).all (·.1.isSome) = true := by rfl) (hks : (backToKw pos (keywordEach kws X.env)).filterMap (·.1) = ks := by rfl)
    (hpl : ((backTo pos (starEach [] X.env)).any (·.1) || (backToKw pos (keywordEach kws X.env)).any (·.1.isNone)) = false := by rfl)
    (ht : eval (.Call (.Attribute o m apos) [] kws pos) X.env = (do
      let ov ← eval o X.env
      standAt apos.atName
      let (f, first) ← holding [ov] (getMethod ov m pl)
      callWith pos f first (backTo pos (starEach [] X.env)) (backToKw pos (keywordEach kws X.env))) := by rfl) (hK : X.K = K := by rfl) :
    AE X W (.Call (.Attribute o m apos) [] kws pos) (tMethK C m ks.length (conc K sp) (fun vs zs => vs ++ zs) E0 t ts) (aDefMK C m ks.length sp a as) := by
  subst hK
  obtain ⟨f, fd, ps, g, F, c, hm, hb⟩ := F
  exact ⟨pe_methK ho.pe c hm F (hr.mono hkj) hb pass0 hkw.pk hall hks hpl ht, se_defMK ho.se hkw.sa⟩
end
end G

set_option Elab.async false
set_option linter.all false
set_option maxRecDepth 100000
namespace G
open PySem PySem.Spec PyProof.Rows L2
/-! ### dicts by texts -/
def kvV (cps : List (Str × D)) : List (Key × V) := cps.map fun p => (Sum.inr p.1, vOf p.2)
def kvA (cps : List (Str × D)) : List (Key × A) := cps.map fun p => (Sum.inr p.1, .d p.2)
def kvT (cps : List (Str × D)) : List (TE × TE) := cps.map fun p => (tC (.str p.1), tC (vOf p.2))
def lkK : List (Key × A) → Str → Option A
  | [], _ => none
  | (.inr y, a) :: r, s => match decide (y = s) with
    | true => some a
    | false => lkK r s
  | (.inl _, _) :: r, s => lkK r s
def aDisp (cps : List (Str × D)) : Ae := fun E M Q => Q (.cell M.length) (M ++ [.dic (kvA cps)])
def aDget (a c : Ae) : Ae := fun E M Q => a E M fun x M1 => c E M1 fun y M2 => match x, y with
  | .cell k, .d (.str s) => match M2[k]? with
    | some (.dic kvs) => Opt (lkK kvs s) fun v => Q v M2
    | _ => False
  | _, _ => False
section
variable {K : PySem.W.Frag} {W : Wd}
theorem pairs_consts {σ : L2.St} {H : Hp} : ∀ {cps : List (Str × D)} {F : List (V × V) → Hp → Prop}, F (cps.map fun p => (V.str p.1, vOf p.2)) H → tPairs (kvT cps) σ H F
  | [], _, h => h
  | p :: cps, F, h => pairs_consts (cps := cps) (F := fun ps H3 => F ((V.str p.1, vOf p.2) :: ps) H3) h
theorem kv_rep {al : List Addr} {I : Hp} : ∀ {cps : List (Str × D)}, (cps.all fun p => flatB p.2) = true → RepAK K al I (kvA cps) (kvV cps)
  | [], _ => .nil
  | p :: cps, h => by
    rw [List.all_cons, Bool.and_eq_true] at h
    have h1 : Rep K I p.2 (vOf p.2) := by
      have := flat_reps (K := K) (I := I) (dv := [p.2]) (by rw [List.all_cons, h.1]; rfl)
      cases this with
      | cons r _ => exact r
    exact .cons (.d h1) (kv_rep h.2)
theorem se_disp {cps : List (Str × D)} (hf : (cps.all fun p => flatB p.2) = true) (hm : mergeK [] (kvV cps) = kvV cps) (h15 : cps.length ≤ 15) : SE K W (tDisp (kvT cps)) (aDisp cps) := by
  intro b M E σ QA Q t ok sl h k
  intro p hp
  refine pairs_consts ⟨upd_same, kvV cps, ?_, ?_, ?_⟩
  · unfold kvV; rw [List.map_map]; rfl
  · unfold kvV; rw [List.length_map]; exact h15
  · rw [hm, upd_upd]
    exact k ⟨b.I, b.al ++ [p], upd b.H p (.dK (kvV cps))⟩ _ (.cell M.length) (.ref p) (t.cell ok hp) (ok.cell (c := .dic (kvA cps)) hp ⟨ok.iNone hp, _, upd_same, kv_rep hf⟩) (step_cell ok hp) (.cell (by rw [← ok.len]; exact len_get)) h
theorem lkK_rep {al : List Addr} {I : Hp} {s : Str} : ∀ {kvs : List (Key × A)} {gs : List (Key × V)} {a : A}, RepAK K al I kvs gs → lkK kvs s = some a → ∃ v, valV gs (Sum.inr s) = some v ∧ RepA K al I a v
  | _, _, _, .nil, e => by cases e
  | _, _, a, @RepAK.cons _ _ _ x d v ds vs r rs, e => by
    cases x with
    | inl i =>
      obtain ⟨u, h1, h2⟩ := lkK_rep rs (show lkK ds s = some a from e)
      exact ⟨u, by rw [valV_neg (by simp)]; exact h1, h2⟩
    | inr y =>
      by_cases hy : y = s
      · have e2 : some d = some a := by
          have e3 : (match decide (y = s) with | true => some d | false => lkK ds s) = some a := e
          rw [decide_eq_true hy] at e3; exact e3
        cases e2
        exact ⟨v, valV_pos (by rw [hy]), r⟩
      · have e2 : lkK ds s = some a := by
          have e3 : (match decide (y = s) with | true => some d | false => lkK ds s) = some a := e
          rw [decide_eq_false hy] at e3; exact e3
        obtain ⟨u, h1, h2⟩ := lkK_rep rs e2
        exact ⟨u, by rw [valV_neg (by simpa using hy)]; exact h1, h2⟩
theorem se_dget {t u : TE} {a c : Ae} (h : SE K W t a) (g : SE K W u c) : SE K W (tDGet t u) (aDget a c) := by
  intro b M E σ QA Q t0 ok sl h1 k
  refine h b M E σ _ _ t0 ok sl h1 fun b1 M1 x v t1 ok1 s1 r1 h2 => ?_
  refine g b1 M1 E σ _ _ t1 ok1 (sl.mono s1.same s1.pre) h2 fun b2 M2 y w t2 ok2 s2 r2 h3 => ?_
  have r1' := r1.mono s2.same s2.pre
  split at h3
  · split at h3
    · rename_i kk s o kvs e
      obtain ⟨av, e2, q⟩ := h3
      cases rep_str_inv (repA_d r2)
      obtain ⟨p, ha, rfl⟩ := cell_addr r1'
      obtain ⟨_, gs, hg, rk⟩ := ok2.at_ _ _ _ ha e
      obtain ⟨vv, e3, rv⟩ := lkK_rep rk e2
      refine ⟨p, vv, rfl, ?_, k b2 M2 av vv t2 ok2 (s1.trans s2) rv q⟩
      have := DGet.k (k := Sum.inr s) hg
      rw [e3] at this
      exact this
    · exact h3.elim
  · exact h3.elim
/-! ### a, b = a list -/
def aGunl (n : Nat) (g : Ags) : Ag := fun x E M Q => match x with
  | .d (.lst l) => Side (l.length = n) (g (l.map A.d) E M Q)
  | .cell k => match M[k]? with
    | some (.lst l) => Side (l.length = n) (g (l.map A.d) E M Q)
    | some (.lsa l) => Side (l.length = n) (g l E M Q)
    | _ => False
  | _ => False
theorem sg_unl {js : List Nat} {n : Nat} {g : TGs} {ag : Ags} (h : SGs K W js g ag) : SG K W js (gUnl K n g) (aGunl n ag) := by
  intro b M E σ x v QA Q t ok sl r h1 k
  unfold aGunl at h1
  split at h1
  · cases repA_d r with
    | lst hp rs => exact ⟨_, _, rfl, SqL.of (ok.ih _ _ hp), by rw [← rs.length]; exact h1.s, h b M E σ _ _ _ _ t ok sl (repsA rs) h1.q k⟩
  · split at h1
    · rename_i e
      obtain ⟨a, ha, rfl⟩ := cell_addr r
      obtain ⟨_, vs, hv, rs⟩ := ok.at_ _ _ _ ha e
      exact ⟨_, _, rfl, SqL.of hv, by rw [← rs.length]; exact h1.s, h b M E σ _ _ _ _ t ok sl (repsA rs) h1.q k⟩
    · rename_i e
      obtain ⟨a, ha, rfl⟩ := cell_addr r
      obtain ⟨_, vs, hv, rs⟩ := ok.at_ _ _ _ ha e
      exact ⟨_, _, rfl, SqL.of hv, by rw [← rs.length]; exact h1.s, h b M E σ _ _ _ _ t ok sl rs h1.q k⟩
    · exact h1.elim
  · exact h1.elim
end
section
variable {X : Cx} {W : Wd} {K : PySem.W.Frag} {pos : Pos} {e e2 : Expr} {es : List Expr} {t t2 : TE} {a a2 : Ae} {js : List Nat} {gs : TGs} {ags : Ags}
theorem k_disp (cps : List (Str × D)) {keys : List (Option Expr)} {values : List Expr} (hf : (cps.all fun p => flatB p.2) = true) (hm : mergeK [] (kvV cps) = kvV cps) (h15 : cps.length ≤ 15) (h : PPs X pos keys values (kvT cps)) (hall : keys.all (·.isSome) = true := by rfl) (hl : keys.length = values.length := by rfl) (h0 : keys ≠ [] := by exact List.cons_ne_nil _ _)
    (hk : keys.length ≤ 15 := by decide) : AE X W (.Dict keys values pos) (tDisp (kvT cps)) (aDisp cps) := ⟨pe_disp h hall hl h0 hk, se_disp hf hm h15⟩
theorem k_dget (hu : X.A.units + 64 < cLine) (h : AE X W e t a) (g : AE X W e2 t2 a2) (hs : NoSl e2 := by intro _ _; rfl) : AE X W (.Subscript e e2 pos) (tDGet t t2) (aDget a a2) := ⟨pe_dget (by omega) h.pe g.pe hs, se_dget h.se g.se⟩
theorem k_gunl {kk n : Nat} (hc : X.calm = true) (h : AGs X W es js gs ags) (hn : (assignEach es X.env).length = n := by rfl) (hst : (assignEach es X.env).findIdx? (·.1) = none := by rfl) (hK : X.K = K := by rfl) : AG X W (.Tuple es kk pos) js (gUnl K n gs) (aGunl n ags) := by
  subst hK; exact ⟨pg_unl hc h.pg hn hst, sg_unl h.sg⟩
end
end G

set_option Elab.async false
set_option linter.all false
set_option maxRecDepth 100000
namespace G
open PySem PySem.Spec PyProof.Rows L2
/-! ### a name's list stands still from now on -/
def aFrzV (n i : Nat) (a : As) : As := fun Q E M => match E[i]? with
  | some (some (.cell k)) => match Nat.ble n k, M[k]? with
    | true, some (.lst l) => a Q (E.set i (some (.d (.lst l)))) (M.set k .gone)
    | _, _ => False
  | _ => False
theorem ss_frzV {K : PySem.W.Frag} {W : Wd} {n i : Nat} {t : TS} {a : As} (hn : W.al.length ≤ n) (h : SS K W t a) : SS K W t (aFrzV n i a) := fun b M E σ DA Dd t0 ok sl h1 e => by
  unfold aFrzV at h1
  split at h1
  · rename_i k he
    split at h1
    · rename_i l e1 e2
      obtain ⟨v, hv, rv⟩ := sl.2 i _ he
      obtain ⟨p, vs, rfl, ha, hI, hH, rs⟩ := cell_lst ok rv e2
      have hk := Nat.le_of_ble_eq_true e1
      have same2 : Same b.I (upd b.I p (.lst vs)) := same_new hI
      have sl2 : Slots K b.al (upd b.I p (.lst vs)) (E.set i (some (.d (.lst l)))) σ := by
        have s3 := (sl.mono same2 (Pre.refl _)).set (i := i) (x := .d (.lst l)) (v := .ref p) (.d (.lst upd_same (rs.mono same2)))
        have e3 : σ.set i (some (.ref p)) = σ := by
          refine List.ext_getElem? fun j => ?_
          by_cases hj : i = j
          · subst hj
            rw [hv, List.getElem?_set_self (List.getElem?_eq_some_iff.mp hv).1]
          · rw [List.getElem?_set_ne hj]
        rw [e3] at s3
        exact s3
      exact h ⟨upd b.I p (.lst vs), b.al, b.H⟩ (M.set k .gone) _ σ DA Dd (t0.freeze ha (by omega) ok.nd hI) (ok.freeze ha e2 hH rs hI) sl2 h1 (e.mono same2)
    · exact h1.elim
  · exact h1.elim
theorem as_frzV {X : Cx} {W : Wd} {st : Stmt} {u : TS} {b : As} (n i : Nat) (hn : W.al.length ≤ n) (h : AS X W st u b) : AS X W st u (aFrzV n i b) := ⟨h.ps, ss_frzV hn h.ss⟩
end G

set_option Elab.async false
set_option linter.all false
set_option maxRecDepth 100000
namespace G
open PySem PySem.Spec PyProof.Rows L2
/-! ### f(e, .., k = v, ..): a def with parameters by name alone -/
def DefK (P : Program) (w : World) (K : PySem.W.Frag) (mg : Str → Option Value) (base : Heap) (x : Str) (k : Nat) (sp : ASp) (n : Nat) (ks : List Str) (ms : List D) (gp : {α : Type} → List α → List α → List α → List α) : Prop :=
  ∃ (f : Addr) (fd : FuncData) (ps : List Str) (g : List Value → List Value → List Value), FnOk P w K mg base CX0 k f fd ps (conc K sp) ∧ mg x = some (.ref f) ∧ PySem.W.keepIn K (.ref f) = true ∧ KBn K fd ps n ks g (fun vs zs => gp vs (ms.map vOf) zs) ∧ ms.all flatB = true ∧
    ∀ {al : List Addr} {I : Hp} {xs ds ys : List A} {vs es us : List V}, RepAs K al I xs vs → RepAs K al I ds es → RepAs K al I ys us → RepAs K al I (gp xs ds ys) (gp vs es us)
def aDefK (sp : ASp) (n m : Nat) (gA : List A → List A → List A) (as ak : Aa) : Ae := fun E M Q => as E M fun xs M1 => ak E M1 fun ys M2 => match Nat.beq xs.length n, Nat.beq ys.length m with
  | true, true => BCall sp (gA xs ys) M2 Q
  | _, _ => False
theorem se_defK {K : PySem.W.Frag} {W : Wd} {sp : ASp} {n m : Nat} {gA : List A → List A → List A} {gV : List V → List V → List V} {t tk : TA} {as ak : Aa} (hg : ∀ {al I xs ys vs us}, RepAs K al I xs vs → RepAs K al I ys us → RepAs K al I (gA xs ys) (gV vs us)) (h : SA K W t as) (hk : SA K W tk ak) :
    SE K W (tCallN n m (conc K sp) gV E0 t tk) (aDefK sp n m gA as ak) := by
  intro b M E σ QA Q t0 ok sl h1 k
  refine h b M E σ _ _ t0 ok sl h1 fun b1 M1 xs vs t1 ok1 s1 r1 h2 => ?_
  refine hk b1 M1 E σ _ _ t1 ok1 (sl.mono s1.same s1.pre) h2 fun b2 M2 ys us t2 ok2 s2 r2 h3 => ?_
  split at h3
  · rename_i e1 e2
    refine ⟨by rw [← r1.length]; exact Nat.eq_of_beq_eq_true e1, by rw [← r2.length]; exact Nat.eq_of_beq_eq_true e2, ?_⟩
    exact conc_call t2 ok2 (hg (r1.mono s2.same s2.pre) r2) h3.ok fun b3 M3 z w t3 ok3 s3 r3 q => k b3 M3 z w t3 ok3 ((s1.trans s2).trans s3) r3 q
  · exact h3.elim
section
variable {X : Cx} {W : Wd} {K : PySem.W.Frag} {pos p : Pos} {e : Expr} {es : List Expr} {kws : List Keyword} {ts tk : TA} {as ak : Aa} {sp : ASp} {k j n : Nat} {x : Str} {ks : List Str} {ms : List D} {gp : {α : Type} → List α → List α → List α → List α}
theorem k_defK (F : DefK X.prog X.w X.K X.mg X.base x k sp n ks ms gp) (hr : Room j X.A) (hkj : k ≤ j) (ha : AA X W (e :: es) ts as) (hkw : AK X W kws tk ak) (hg : Gl X x := by rfl)
    (hall : (backToKw pos (keywordEach kws X.env)).all (·.1.isSome) = true := by rfl) (hks : (backToKw pos (keywordEach kws X.env)).filterMap (·.1) = ks := by rfl) (hdb : (x == ("__debug__" : Str)) = false := by decide)
    (he : starEach (e :: es) X.env = (false, eval e X.env) :: starEach es X.env := by rfl)
    (hpl : ((backTo pos (starEach (e :: es) X.env)).any (·.1) || (backToKw pos (keywordEach kws X.env)).any (·.1.isNone)) = false := by rfl) (hK : X.K = K := by rfl) :
    AE X W (.Call (.Name x p) (e :: es) kws pos) (tCallN n ks.length (conc K sp) (fun vs zs => gp vs (ms.map vOf) zs) E0 ts tk) (aDefK sp n ks.length (fun xs ys => gp xs (ms.map A.d) ys) as ak) := by
  subst hK
  obtain ⟨f, fd, ps, g, F, hm, hk, hb, hms, hgp⟩ := F
  exact ⟨pe_callN F (hr.mono hkj) hg hm hk hb pass0 ha.pa hkw.pk hall hks hdb he hpl, se_defK (fun h1 h2 => hgp h1 (reps_d (flat_reps hms)) h2) ha.sa hkw.sa⟩
end
end G

set_option Elab.async false
set_option linter.all false
set_option maxRecDepth 100000
namespace G
open PySem PySem.Spec PyProof.Rows L2
/-! ### two parameters by name, handed in the other way about -/
def gSwap {α : Type} (us ms zs : List α) : List α := match zs with
  | [a, b] => us ++ [b, a] ++ ms
  | zs => us ++ zs ++ ms
theorem gSwap_vals {vs mz zs : List V} {us mv ws : List Value} (r1 : Vals vs us) (r2 : Vals mz mv) (r3 : Vals zs ws) : Vals (gSwap vs mz zs) (gSwap us mv ws) := by
  cases r3 with
  | nil => exact (r1.append .nil).append r2
  | cons a r3 => cases r3 with
    | nil => exact (r1.append (.cons a .nil)).append r2
    | cons b r3 => cases r3 with
      | nil => exact (r1.append (.cons b (.cons a .nil))).append r2
      | cons c r3 => exact (r1.append (.cons a (.cons b (.cons c r3)))).append r2
theorem gSwap_reps {K : PySem.W.Frag} {al : List Addr} {I : Hp} {xs ds ys : List A} {vs es us : List V} (r1 : RepAs K al I xs vs) (r2 : RepAs K al I ds es) (r3 : RepAs K al I ys us) : RepAs K al I (gSwap xs ds ys) (gSwap vs es us) := by
  cases r3 with
  | nil => exact (r1.app .nil).app r2
  | cons a r3 => cases r3 with
    | nil => exact (r1.app (.cons a .nil)).app r2
    | cons b r3 => cases r3 with
      | nil => exact (r1.app (.cons b (.cons a .nil))).app r2
      | cons c r3 => exact (r1.app (.cons a (.cons b (.cons c r3)))).app r2
end G

set_option Elab.async false
set_option linter.all false
set_option maxRecDepth 100000
namespace G
open PySem PySem.Spec PyProof.Rows L2
/-! ### list.index, flat items -/
def idxV : List V → V → Option Nat
  | [], _ => none
  | z :: zs, y => match eqV z y with
    | true => some 0
    | false => (idxV zs y).map (· + 1)
theorem idxV_spec : ∀ {ys : List V} {y : V} {j : Nat}, idxV ys y = some j → ∃ z, ys[j]? = some z ∧ eqV z y = true ∧ ∀ (m : Nat) (z' : V), m < j → ys[m]? = some z' → eqV z' y = false := by
  intro ys
  induction ys with
  | nil => intro y j h; cases h
  | cons x ys ih =>
    intro y j h
    unfold idxV at h
    split at h
    · rename_i e
      cases h
      exact ⟨x, rfl, e, fun m z' hm _ => absurd hm (Nat.not_lt_zero _)⟩
    · rename_i e
      cases e2 : idxV ys y with
      | none => rw [e2] at h; cases h
      | some i =>
        rw [e2] at h
        cases h
        obtain ⟨z, h1, h2, h3⟩ := ih e2
        refine ⟨z, h1, h2, fun m z' hm hz => ?_⟩
        cases m with
        | zero => cases hz; exact e
        | succ m => exact h3 m z' (Nat.lt_of_succ_lt_succ hm) hz
def mIndex : Am := fun x xs M Q => match x, xs with
  | .d (.lst l), [.d y] => Opt (flatDs l) fun vs => Opt (flatD y) fun u => Opt (idxV vs u) fun j => Q (.d (.int (j : Nat))) M
  | _, _ => False
theorem sm_index {K : PySem.W.Frag} {W : Wd} : SM K W (rIndex K) mIndex := by
  intro b M x v xs vs QA Q t ok r rs h k
  unfold mIndex at h
  split at h
  · rename_i l y
    obtain ⟨us, e1, u, e2, j, e3, q⟩ := h
    obtain ⟨w, rfl, rw_⟩ := repAs_1 rs
    obtain ⟨rfl, fu⟩ := flat_rep e2 (repA_d rw_)
    obtain ⟨p, ws, rfl, hq, rl⟩ := listOf_ok (l := l) ok r rfl
    obtain ⟨rfl, fl⟩ := flats_rep e1 rl
    obtain ⟨z, h1, h2, h3⟩ := idxV_spec e3
    exact ⟨p, ws, w, j, z, rfl, rfl, hq, fu, fl, h1, h2, h3, k b M _ _ t ok (.refl _) (.d (.int _)) q⟩
  · exact h.elim
end G

set_option Elab.async false
set_option linter.all false
set_option maxRecDepth 100000
namespace G
open PySem PySem.Spec PyProof.Rows L2
/-! ### x in l, x in t where the items are data of any depth -/
def rInT (K : PySem.W.Frag) (neg : Bool) : R2 := fun x y H Q => ∃ d ds, Dp K H x d ∧ (Dp K H y (.list ds) ∨ Dp K H y (.tuple ds)) ∧ SeqAt.shaped d = true ∧ PyData.canLayAll0 ds = true ∧ Q (.bl (ng neg (ds.any fun z => PyData.eqv z d))) H
section
variable {X : Cx}
theorem op_inT (hu : X.A.units + 65 < cLine) : OpR X (compareOp .In) (rInT X.K false) := by
  intro pins s σ H x y v u Q I rx ry h
  obtain ⟨d, ds, hd, he, sd, se, q⟩ := h
  obtain ⟨as, r1⟩ := Dp.reads I d x v hd rx
  rcases he with he | he
  · obtain ⟨bs, r2⟩ := Dp.reads I (.list ds) y u he ry
    exact SeqAt.in_list_reads r2 r1 se (SeqAt.canLay_of_shaped sd) (room_in_shaped sd hu) ⟨.bl _, H, I, rfl, q⟩
  · obtain ⟨bs, r2⟩ := Dp.reads I (.tuple ds) y u he ry
    exact SeqAt.in_tuple_reads r2 r1 se (SeqAt.canLay_of_shaped sd) (room_in_shaped sd hu) ⟨.bl _, H, I, rfl, q⟩
theorem op_notInT (hu : X.A.units + 65 < cLine) : OpR X (compareOp .NotIn) (rInT X.K true) := by
  intro pins s σ H x y v u Q I rx ry h
  obtain ⟨d, ds, hd, he, sd, se, q⟩ := h
  obtain ⟨as, r1⟩ := Dp.reads I d x v hd rx
  rcases he with he | he
  · obtain ⟨bs, r2⟩ := Dp.reads I (.list ds) y u he ry
    exact SeqAt.notIn_list_reads r2 r1 se (SeqAt.canLay_of_shaped sd) (room_in_shaped sd hu) ⟨.bl _, H, I, rfl, q⟩
  · obtain ⟨bs, r2⟩ := Dp.reads I (.tuple ds) y u he ry
    exact SeqAt.notIn_tuple_reads r2 r1 se (SeqAt.canLay_of_shaped sd) (room_in_shaped sd hu) ⟨.bl _, H, I, rfl, q⟩
end
theorem any_py (a : D) : ∀ l : List D, (toPys l).any (fun z => PyData.eqv z (toPy a)) = l.any (fun z => eqD z a)
  | [] => rfl
  | x :: l => by
    unfold toPys
    rw [List.any_cons, List.any_cons, any_py a l]
    rfl
def aInD (neg : Bool) : A2 := fun x y M Q => match x, y with
  | .d a, .d (.lst l) => Side (shE a = true ∧ okEs l = true ∧ PyData.canLayAll0 (toPys l) = true) (Q (.d (.bl (ng neg (l.any fun z => eqD z a)))) M)
  | .d a, .d (.tup l) => Side (shE a = true ∧ okEs l = true ∧ PyData.canLayAll0 (toPys l) = true) (Q (.d (.bl (ng neg (l.any fun z => eqD z a)))) M)
  | _, _ => False
theorem s2_inD {K : PySem.W.Frag} {W : Wd} {neg : Bool} : S2 K W (rInT K neg) (aInD neg) := by
  intro b M x y v u QA Q t ok r1 r2 h k
  unfold aInD at h
  split at h
  · obtain ⟨⟨h1, h2, h3⟩, q⟩ := h
    unfold shE at h1
    rw [Bool.and_eq_true] at h1
    have d1 := rep_dp ok.ih h1.1 (repA_d r1)
    have d2 := rep_dp ok.ih (d := .lst _) (by unfold okE; exact h2) (repA_d r2)
    unfold toPy at d2
    refine ⟨_, _, d1, .inl d2, h1.2, h3, ?_⟩
    rw [any_py]
    exact k b M _ _ t ok (Step.refl _) (.d (.bl _)) q
  · obtain ⟨⟨h1, h2, h3⟩, q⟩ := h
    unfold shE at h1
    rw [Bool.and_eq_true] at h1
    have d1 := rep_dp ok.ih h1.1 (repA_d r1)
    have d2 := rep_dp ok.ih (d := .tup _) (by unfold okE; exact h2) (repA_d r2)
    unfold toPy at d2
    refine ⟨_, _, d1, .inr d2, h1.2, h3, ?_⟩
    rw [any_py]
    exact k b M _ _ t ok (Step.refl _) (.d (.bl _)) q
  · exact h.elim
section
variable {X : Cx} {W : Wd} {K : PySem.W.Frag}
theorem k_inD (hu : X.A.units + 65 < cLine) (hK : X.K = K := by rfl) : AO X W (compareOp .In) (rInT K false) (aInD false) := by subst hK; exact ⟨op_inT hu, s2_inD⟩
theorem k_notinD (hu : X.A.units + 65 < cLine) (hK : X.K = K := by rfl) : AO X W (compareOp .NotIn) (rInT K true) (aInD true) := by subst hK; exact ⟨op_notInT hu, s2_inD⟩
end
theorem room65 {k : Nat} {A : Around} (r : Room k A) : A.units + 65 < cLine := by have := r.un; omega
end G

set_option Elab.async false
set_option linter.all false
set_option maxRecDepth 100000
namespace G
open PySem PySem.Spec PyProof.Rows L2
/-! ### a op b op c op d, as a test -/
def tChain4 (r r' r'' : R2) (ta tb tc td : TE) : TT := fun σ H Q => ta σ H fun x H1 => tb σ H1 fun y H2 => r x y H2 fun z H3 => ∃ k, z = .bl k ∧
  (if k = true then tc σ H3 fun w H4 => r' y w H4 fun z' H5 => ∃ k', z' = .bl k' ∧
    (if k' = true then td σ H5 fun u H6 => r'' w u H6 fun z'' H7 => ∃ k'', z'' = .bl k'' ∧ Q k'' H7 else Q false H5) else Q false H3)
def aChain4 (r r' r'' : A2) (a c d e : Ae) : At := fun E M Q => a E M fun x M1 => c E M1 fun y M2 => r x y M2 fun z M3 => match z with
  | .d (.bl k) => Fork k (d E M3 fun w M4 => r' y w M4 fun z' M5 => match z' with
    | .d (.bl k') => Fork k' (e E M5 fun u M6 => r'' w u M6 fun z'' M7 => match z'' with
      | .d (.bl k'') => Q k'' M7
      | _ => False) (Q false M5)
    | _ => False) (Q false M3)
  | _ => False
section
variable {X : Cx} {W : Wd} {K : PySem.W.Frag} {pos : Pos} {a b c d : Expr} {ta tb tc td : TE}
theorem pt_chain4 {op op' op'' : CmpOp} {r r' r'' : R2} (ho : OpR X (compareOp op) r) (ho' : OpR X (compareOp op') r') (ho'' : OpR X (compareOp op'') r'') (ha : PE X a ta) (hb : PE X b tb) (hc : PE X c tc) (hd : PE X d td)
    (hm : lastMarks [op, op', op''] [b, c, d] = false := by with_unfolding_all rfl) : PT X (.Compare a [op, op', op''] [b, c, d] pos) (tChain4 r r' r'' ta tb tc td) := by
  refine ⟨fun pins s σ H Q I h => ?_⟩
  refine isTrue_chain (thn (ha.run pins s σ H _ I h) fun v s1 ⟨x, H1, I1, r1, q1⟩ => test_link (thn (hb.run pins s1 σ H1 _ I1 q1) fun u s2 ⟨y, H2, I2, r2, q2⟩ =>
    thn (ho pins s2 σ H2 x y v u _ I2 r1 r2 q2) fun d s3 ⟨z, H3, I3, r3, k, e, q3⟩ => ?_)) hm
  subst e
  cases r3
  refine wpAny_truthy_bool ?_
  cases k with
  | false => exact ite_ff ⟨H3, I3, q3⟩
  | true =>
    refine ite_tt (test_link (thn (hc.run pins s3 σ H3 _ I3 q3) fun w' s4 ⟨z', H4, I4, r4, q4⟩ => thn (ho' pins s4 σ H4 y z' u w' _ I4 r2 r4 q4) fun d' s5 ⟨z2, H5, I5, r5, k2, e2, q5⟩ => ?_))
    subst e2
    cases r5
    refine wpAny_truthy_bool ?_
    cases k2 with
    | false => exact ite_ff ⟨H5, I5, q5⟩
    | true =>
      refine ite_tt (test_last (thn (hd.run pins s5 σ H5 _ I5 q5) fun w3 s6 ⟨z3, H6, I6, r6, q6⟩ => thn (ho'' pins s6 σ H6 z' z3 w' w3 _ I6 r4 r6 q6) fun d3 s7 ⟨z4, H7, I7, r7, k3, e3, q7⟩ => ?_))
      subst e3
      cases r7
      exact wpAny_truthy_bool ⟨H7, I7, q7⟩
theorem st_chain4 {r r' r'' : R2} {aa ab ac ad : Ae} {rA rA' rA'' : A2} (hr : S2 K W r rA) (hr' : S2 K W r' rA') (hr'' : S2 K W r'' rA'') (ha : SE K W ta aa) (hb : SE K W tb ab) (hc : SE K W tc ac) (hd : SE K W td ad) : ST K W (tChain4 r r' r'' ta tb tc td) (aChain4 rA rA' rA'' aa ab ac ad) := by
  intro b M E σ QA Q t ok sl h k
  refine ha b M E σ _ _ t ok sl h fun b1 M1 x v t1 ok1 s1 r1 h1 => ?_
  refine hb b1 M1 E σ _ _ t1 ok1 (sl.mono s1.same s1.pre) h1 fun b2 M2 y u t2 ok2 s2 r2 h2 => ?_
  refine hr b2 M2 x y v u _ _ t2 ok2 (r1.mono s2.same s2.pre) r2 h2 fun b3 M3 z w t3 ok3 s3 r3 h3 => ?_
  split at h3
  · cases rep_bl_inv (repA_d r3)
    rename_i kk
    refine ⟨kk, rfl, ?_⟩
    have s13 := (s1.trans s2).trans s3
    cases kk with
    | false => exact k b3 M3 _ t3 ok3 s13 (h3.f rfl)
    | true =>
      refine hc b3 M3 E σ _ _ t3 ok3 (sl.mono s13.same s13.pre) (h3.t rfl) fun b4 M4 w' u' t4 ok4 s4 r4 h4 => ?_
      refine hr' b4 M4 y w' u u' _ _ t4 ok4 (r2.mono (s3.trans s4).same (s3.trans s4).pre) r4 h4 fun b5 M5 z5 w5 t5 ok5 s5 r5 h5 => ?_
      split at h5
      · cases rep_bl_inv (repA_d r5)
        rename_i k5
        refine ⟨k5, rfl, ?_⟩
        have s15 := (s13.trans s4).trans s5
        cases k5 with
        | false => exact k b5 M5 _ t5 ok5 s15 (h5.f rfl)
        | true =>
          refine hd b5 M5 E σ _ _ t5 ok5 (sl.mono s15.same s15.pre) (h5.t rfl) fun b6 M6 w6 u6 t6 ok6 s6 r6 h6 => ?_
          refine hr'' b6 M6 w' w6 u' u6 _ _ t6 ok6 (r4.mono (s5.trans s6).same (s5.trans s6).pre) r6 h6 fun b7 M7 z7 w7 t7 ok7 s7 r7 h7 => ?_
          split at h7
          · cases rep_bl_inv (repA_d r7)
            exact ⟨_, rfl, k b7 M7 _ t7 ok7 ((s15.trans s6).trans s7) h7⟩
          · exact h7.elim
      · exact h5.elim
  · exact h3.elim
theorem at_chain4 {e e2 e3 e4 : Expr} {t t2 t3 t4 : TE} {a1 a2 a3 a4 : Ae} {op op' op'' : CmpOp} {r r' r'' : R2} {rA rA' rA'' : A2} (ho : AO X W (compareOp op) r rA) (ho' : AO X W (compareOp op') r' rA') (ho'' : AO X W (compareOp op'') r'' rA'') (h : AE X W e t a1) (h2 : AE X W e2 t2 a2) (h3 : AE X W e3 t3 a3) (h4 : AE X W e4 t4 a4) (hm : lastMarks [op, op', op''] [e2, e3, e4] = false := by rfl) :
    AT X W (.Compare e [op, op', op''] [e2, e3, e4] pos) (tChain4 r r' r'' t t2 t3 t4) (aChain4 rA rA' rA'' a1 a2 a3 a4) := ⟨pt_chain4 ho.o ho'.o ho''.o h.pe h2.pe h3.pe h4.pe hm, st_chain4 ho.s ho'.s ho''.s h.se h2.se h3.se h4.se⟩
end
end G

set_option Elab.async false
set_option linter.all false
set_option maxRecDepth 100000
set_option maxHeartbeats 2000000
/-! ### zip of three lists -/
namespace Z3
open PySem PySem.Spec PyProof.Rows L2
abbrev Tri (h : Heap) (T : Addr) (a b c : Value) : Prop := h.get? T = some { cls := .type "tuple", data := .seq #[a, b, c] }
structure Ap (z TI TO i j k : Addr) : Prop where
  a1 : TI ≠ z
  a2 : TO ≠ z
  a3 : i ≠ z
  a4 : j ≠ z
  a5 : k ≠ z
  b1 : TI ≠ TO
  b2 : TI ≠ i
  b3 : TI ≠ j
  b4 : TI ≠ k
  c1 : TO ≠ i
  c2 : TO ≠ j
  c3 : TO ≠ k
  d1 : i ≠ j
  d2 : i ≠ k
  d3 : j ≠ k
structure Off (z TO i j k l : Addr) : Prop where
  e1 : l ≠ z
  e2 : l ≠ TO
  e3 : l ≠ i
  e4 : l ≠ j
  e5 : l ≠ k
section
variable {prog : Program} {w : World} {A : Around} {E : Value → Shared → Prop} {s : Shared}
theorem tri_set {T : Addr} {a b c x : Value} {n : Nat} {Q : Unit → Shared → Prop} (hT : Tri s.heap T a b c)
    (h : ∀ g, g.get? T = some { cls := .type "tuple", data := .seq ((#[a, b, c] : Array Value).setIfInBounds n x) } → Heap.SameBut T s.heap g → Q () { s with heap := g }) :
    wpAny (model prog w) A (updateSeq T fun v => v.setIfInBounds n x) Q E s :=
  wpAny_updateSeq hT rfl (h _ (by rw [Heap.get?_update_self _ hT rfl]; simp [Obj.mapSeq]) (Heap.SameBut.update ..))
/-- the next three -/
theorem tri_next {z TI TO i j k l1 l2 l3 : Addr} {n : Nat} {xs ys zs : Array Value} {x y v a b c : Value} {Q : Value → Shared → Prop} (D : Ap z TI TO i j k) (D1 : Off z TO i j k l1) (D2 : Off z TO i j k l2) (D3 : Off z TO i j k l3)
    (hz : IsZip s.heap z TI TO .none) (hTI : Tri s.heap TI (.ref i) (.ref j) (.ref k)) (hTO : Tri s.heap TO a b c)
    (h1 : s.heap.IsListIter i l1 n) (h2 : s.heap.IsListIter j l2 n) (h3 : s.heap.IsListIter k l3 n) (hl1 : s.heap.IsList l1 xs) (hl2 : s.heap.IsList l2 ys) (hl3 : s.heap.IsList l3 zs)
    (hx : xs[n]? = some x) (hy : ys[n]? = some y) (hv : zs[n]? = some v)
    (hQ : ∀ g, IsZip g z TI TO (rawInt s.heap.objs.size) → Tri g TO x y v → g.IsListIter i l1 (n + 1) → g.IsListIter j l2 (n + 1) → g.IsListIter k l3 (n + 1) → Tri g s.heap.objs.size x y v → g.objs.size = s.heap.objs.size + 1 →
      (∀ c o, c ≠ z → c ≠ TO → c ≠ i → c ≠ j → c ≠ k → s.heap.get? c = some o → g.get? c = some o) → Q (.ref s.heap.objs.size) { s with heap := g }) :
    wpAny (model prog w) A (Builtin.«zip.__next__» ⟨[.ref z], []⟩) (fun fin s' => ∃ r, fin = .done (.ret r) ∧ Q r s') E s := by
  show wpAny _ _ (field (.ref z) 2 >>= _) _ _ _; refine wpAny_bind (wpAny_field hz rfl (x := .bool false) rfl ?_)
  show wpAny _ _ (field (.ref z) 3 >>= _) _ _ _; refine wpAny_bind (wpAny_field hz rfl (x := .ref TI) rfl ?_)
  refine wpAny_bind (wpAny_seqItems hTI rfl ?_); show wpAny _ _ (Builtin.SmallTypes.ownedTupleIsFree (.ref z) >>= _) _ _ _
  refine wpAny_bind ?_; unfold Builtin.SmallTypes.ownedTupleIsFree
  refine wpAny_bind (wpAny_field hz rfl (x := .none) rfl (wpAny_pure ?_)); simp only [if_true]
  refine wpAny_bind (wpAny_rule ?_); refine wpAny_bind (wpAny_field hz rfl (x := .ref TO) rfl ?_)
  refine wpAny_bind (wpAny_setField_rec hz (by simp) fun g1 z1 k1 => ?_); replace z1 : IsZip g1 z TI TO .ellipsis := z1
  refine wpAny_bind ?_; simp only [List.zipIdx_cons, List.zipIdx_nil, List.forIn_cons, List.forIn_nil]
  refine wpAny_bind (wpAny_bind (wpAny_onRaise ?_)); show wpAny _ _ (Builtin.SmallTypes.nextOf (.ref i) >>= _) _ _ _
  refine wpAny_bind (wpAny_nextOf_list_item (h1.extBut k1.extBut D.a3) (hl1.extBut k1.extBut D1.e1) hx fun g2 p1 k2 => wpAny_pure ?_)
  have t2 : Tri g2 TO a b c := k2.extBut _ _ D.c1 (k1.extBut _ _ D.a2 hTO)
  refine wpAny_bind (wpAny_seqItems t2 rfl ?_); refine wpAny_bind (tri_set t2 fun g3 t3 k3 => ?_)
  replace t3 : Tri g3 TO x b c := t3
  refine wpAny_bind (wpAny_letGo (wpAny_pure ?_))
  refine wpAny_bind (wpAny_bind (wpAny_onRaise ?_)); show wpAny _ _ (Builtin.SmallTypes.nextOf (.ref j) >>= _) _ _ _
  refine wpAny_bind (wpAny_nextOf_list_item (((h2.extBut k1.extBut D.a4).extBut k2.extBut D.d1.symm).extBut k3.extBut D.c2.symm) (((hl2.extBut k1.extBut D2.e1).extBut k2.extBut D2.e3).extBut k3.extBut D2.e2) hy fun g4 p2 k4 => wpAny_pure ?_)
  have t4 : Tri g4 TO x b c := k4.extBut _ _ D.c2 t3
  refine wpAny_bind (wpAny_seqItems t4 rfl ?_); refine wpAny_bind (tri_set t4 fun g5 t5 k5 => ?_)
  replace t5 : Tri g5 TO x y c := t5
  refine wpAny_bind (wpAny_letGo (wpAny_pure ?_))
  refine wpAny_bind (wpAny_bind (wpAny_onRaise ?_)); show wpAny _ _ (Builtin.SmallTypes.nextOf (.ref k) >>= _) _ _ _
  refine wpAny_bind (wpAny_nextOf_list_item (((((h3.extBut k1.extBut D.a5).extBut k2.extBut D.d2.symm).extBut k3.extBut D.c3.symm).extBut k4.extBut D.d3.symm).extBut k5.extBut D.c3.symm) (((((hl3.extBut k1.extBut D3.e1).extBut k2.extBut D3.e3).extBut k3.extBut D3.e2).extBut k4.extBut D3.e4).extBut k5.extBut D3.e2) hv fun g6 p3 k6 => wpAny_pure ?_)
  have t6 : Tri g6 TO x y c := k6.extBut _ _ D.c3 t5
  refine wpAny_bind (wpAny_seqItems t6 rfl ?_); refine wpAny_bind (tri_set t6 fun g7 t7 k7 => ?_)
  replace t7 : Tri g7 TO x y v := t7
  refine wpAny_bind (wpAny_letGo (wpAny_pure (wpAny_pure ?_)))
  refine wpAny_bind (wpAny_seqItems t7 rfl ?_); refine wpAny_bind (wpAny_newTuple ?_)
  have sz : g7.objs.size = s.heap.objs.size := by rw [k7.1, k6.1, k5.1, k4.1, k3.1, k2.1, k1.1]
  have z7 : IsZip g7 z TI TO .ellipsis := k7.extBut _ _ D.a2.symm (k6.extBut _ _ D.a5.symm (k5.extBut _ _ D.a2.symm (k4.extBut _ _ D.a4.symm (k3.extBut _ _ D.a2.symm (k2.extBut _ _ D.a3.symm z1)))))
  have kk : ∀ c o, c ≠ z → c ≠ TO → c ≠ i → c ≠ j → c ≠ k → s.heap.get? c = some o → g7.get? c = some o := fun c o x1 x2 x3 x4 x5 e => k7.extBut _ _ x2 (k6.extBut _ _ x5 (k5.extBut _ _ x2 (k4.extBut _ _ x4 (k3.extBut _ _ x2 (k2.extBut _ _ x3 (k1.extBut _ _ x1 e))))))
  have q1 : g7.IsListIter i l1 (n + 1) := ((((p1.extBut k3.extBut D.c1.symm).extBut k4.extBut D.d1).extBut k5.extBut D.c1.symm).extBut k6.extBut D.d2).extBut k7.extBut D.c1.symm
  have q2 : g7.IsListIter j l2 (n + 1) := ((p2.extBut k5.extBut D.c2.symm).extBut k6.extBut D.d3).extBut k7.extBut D.c2.symm
  have q3 : g7.IsListIter k l3 (n + 1) := p3.extBut k7.extBut D.c3.symm
  have zlt : z < g7.objs.size := Heap.lt_size z7
  show wpAny _ _ (Builtin.SmallTypes.ownedTupleHandOut (.ref z) (.ref g7.objs.size) >>= _) _ _ _
  refine wpAny_bind ?_; unfold Builtin.SmallTypes.ownedTupleHandOut
  have z8 : IsZip (g7.push { cls := .type "tuple", data := .seq #[x, y, v] }) z TI TO .ellipsis := Heap.get?_push_of_some _ z7
  refine wpAny_bind (wpAny_setField_rec z8 (by simp) fun g8 z9 k8 => ?_); replace z9 : IsZip g8 z TI TO (rawInt g7.objs.size) := z9
  refine wpAny_setField_rec z9 (by simp) fun g9 zA k9 => ?_; replace zA : IsZip g9 z TI TO (rawInt g7.objs.size) := zA
  have up : ∀ c o, c ≠ z → g7.get? c = some o → g9.get? c = some o := fun c o x1 e => k9.extBut _ _ x1 (k8.extBut _ _ x1 (Heap.get?_push_of_some _ e))
  have tA : Tri g9 g7.objs.size x y v := k9.extBut _ _ (Nat.ne_of_gt zlt) (k8.extBut _ _ (Nat.ne_of_gt zlt) (Heap.get?_push_size _ rfl))
  have sA : g9.objs.size = g7.objs.size + 1 := by rw [k9.1, k8.1, Heap.size_push]
  rw [sz] at zA tA sA
  refine wpAny_pure ⟨_, rfl, ?_⟩; show Q (.ref g7.objs.size) _; rw [sz]
  exact hQ g9 zA (up _ _ D.a2 t7) (q1.at fun o e => up _ o D.a3 e) (q2.at fun o e => up _ o D.a4 e) (q3.at fun o e => up _ o D.a5 e) tA sA fun c o x1 x2 x3 x4 x5 e => up c o x1 (kk c o x1 x2 x3 x4 x5 e)
/-- no three are left -/
theorem tri_end {z TI TO i j k l1 l2 l3 : Addr} {n : Nat} {xs ys zs : Array Value} {a b c : Value} {Q : Fin → Shared → Prop} (hh : A.handled = none) (D : Ap z TI TO i j k) (D1 : Off z TO i j k l1) (D2 : Off z TO i j k l2) (D3 : Off z TO i j k l3)
    (hz : IsZip s.heap z TI TO .none) (hTI : Tri s.heap TI (.ref i) (.ref j) (.ref k)) (hTO : Tri s.heap TO a b c)
    (h1 : s.heap.IsListIter i l1 n) (h2 : s.heap.IsListIter j l2 n) (h3 : s.heap.IsListIter k l3 n) (hl1 : s.heap.IsList l1 xs) (hl2 : s.heap.IsList l2 ys) (hl3 : s.heap.IsList l3 zs)
    (hend : xs[n]? = none ∨ ys[n]? = none ∨ zs[n]? = none)
    (hE : ∀ g e, (∀ c o, c ≠ z → c ≠ TO → c ≠ i → c ≠ j → c ≠ k → s.heap.get? c = some o → g.get? c = some o) → (∃ o, g.get? e = some o ∧ o.cls = .type "StopIteration") → E (.ref e) { s with heap := g }) :
    wpAny (model prog w) A (Builtin.«zip.__next__» ⟨[.ref z], []⟩) Q E s := by
  show wpAny _ _ (field (.ref z) 2 >>= _) _ _ _; refine wpAny_bind (wpAny_field hz rfl (x := .bool false) rfl ?_)
  show wpAny _ _ (field (.ref z) 3 >>= _) _ _ _; refine wpAny_bind (wpAny_field hz rfl (x := .ref TI) rfl ?_)
  refine wpAny_bind (wpAny_seqItems hTI rfl ?_); show wpAny _ _ (Builtin.SmallTypes.ownedTupleIsFree (.ref z) >>= _) _ _ _
  refine wpAny_bind ?_; unfold Builtin.SmallTypes.ownedTupleIsFree
  refine wpAny_bind (wpAny_field hz rfl (x := .none) rfl (wpAny_pure ?_)); simp only [if_true]
  refine wpAny_bind (wpAny_rule ?_); refine wpAny_bind (wpAny_field hz rfl (x := .ref TO) rfl ?_)
  refine wpAny_bind (wpAny_setField_rec hz (by simp) fun g1 z1 k1 => ?_); replace z1 : IsZip g1 z TI TO .ellipsis := z1
  refine wpAny_bind ?_; simp only [List.zipIdx_cons, List.zipIdx_nil, List.forIn_cons, List.forIn_nil]
  refine wpAny_bind (wpAny_bind (wpAny_onRaise ?_)); show wpAny _ _ (Builtin.SmallTypes.nextOf (.ref i) >>= _) _ _ _
  cases hx : xs[n]? with
  | none =>
    refine wpAny_bind (wpAny_nextOf_list_end hh (h1.extBut k1.extBut D.a3) (hl1.extBut k1.extBut D1.e1) hx fun g2 e k2 he => ?_)
    obtain ⟨oe, hoe, hce⟩ := he
    have z2 : IsZip g2 z TI TO .ellipsis := k2 _ _ D.a3.symm z1
    have hez : e ≠ z := fun x => by subst x; rw [z2] at hoe; cases hoe; simp at hce
    exact wpAny_setField_rec z2 (by simp) fun g3 _ k3 => hE g3 e (fun c o x1 _ x3 _ _ q => k3.extBut _ _ x1 (k2 _ _ x3 (k1.extBut _ _ x1 q))) ⟨oe, k3.extBut _ _ hez hoe, hce⟩
  | some x =>
    refine wpAny_bind (wpAny_nextOf_list_item (h1.extBut k1.extBut D.a3) (hl1.extBut k1.extBut D1.e1) hx fun g2 p1 k2 => wpAny_pure ?_)
    have t2 : Tri g2 TO a b c := k2.extBut _ _ D.c1 (k1.extBut _ _ D.a2 hTO)
    refine wpAny_bind (wpAny_seqItems t2 rfl ?_); refine wpAny_bind (tri_set t2 fun g3 t3 k3 => ?_)
    replace t3 : Tri g3 TO x b c := t3
    refine wpAny_bind (wpAny_letGo (wpAny_pure ?_))
    refine wpAny_bind (wpAny_bind (wpAny_onRaise ?_)); show wpAny _ _ (Builtin.SmallTypes.nextOf (.ref j) >>= _) _ _ _
    have i2 := ((h2.extBut k1.extBut D.a4).extBut k2.extBut D.d1.symm).extBut k3.extBut D.c2.symm
    have m2 := ((hl2.extBut k1.extBut D2.e1).extBut k2.extBut D2.e3).extBut k3.extBut D2.e2
    have z3 : IsZip g3 z TI TO .ellipsis := k3.extBut _ _ D.a2.symm (k2.extBut _ _ D.a3.symm z1)
    cases hy : ys[n]? with
    | none =>
      refine wpAny_bind (wpAny_nextOf_list_end hh i2 m2 hy fun g4 e k4 he => ?_)
      obtain ⟨oe, hoe, hce⟩ := he
      have z4 : IsZip g4 z TI TO .ellipsis := k4 _ _ D.a4.symm z3
      have hez : e ≠ z := fun x => by subst x; rw [z4] at hoe; cases hoe; simp at hce
      exact wpAny_setField_rec z4 (by simp) fun g5 _ k5 => hE g5 e (fun c o x1 x2 x3 x4 _ q => k5.extBut _ _ x1 (k4 _ _ x4 (k3.extBut _ _ x2 (k2.extBut _ _ x3 (k1.extBut _ _ x1 q))))) ⟨oe, k5.extBut _ _ hez hoe, hce⟩
    | some y =>
      have hv : zs[n]? = none := by
        rcases hend with q | q | q
        · rw [hx] at q; cases q
        · rw [hy] at q; cases q
        · exact q
      refine wpAny_bind (wpAny_nextOf_list_item i2 m2 hy fun g4 p2 k4 => wpAny_pure ?_)
      have t4 : Tri g4 TO x b c := k4.extBut _ _ D.c2 t3
      refine wpAny_bind (wpAny_seqItems t4 rfl ?_); refine wpAny_bind (tri_set t4 fun g5 t5 k5 => ?_)
      refine wpAny_bind (wpAny_letGo (wpAny_pure ?_))
      refine wpAny_bind (wpAny_bind (wpAny_onRaise ?_)); show wpAny _ _ (Builtin.SmallTypes.nextOf (.ref k) >>= _) _ _ _
      refine wpAny_bind (wpAny_nextOf_list_end hh (((((h3.extBut k1.extBut D.a5).extBut k2.extBut D.d2.symm).extBut k3.extBut D.c3.symm).extBut k4.extBut D.d3.symm).extBut k5.extBut D.c3.symm) (((((hl3.extBut k1.extBut D3.e1).extBut k2.extBut D3.e3).extBut k3.extBut D3.e2).extBut k4.extBut D3.e4).extBut k5.extBut D3.e2) hv fun g6 e k6 he => ?_)
      obtain ⟨oe, hoe, hce⟩ := he
      have z6 : IsZip g6 z TI TO .ellipsis := k6 _ _ D.a5.symm (k5.extBut _ _ D.a2.symm (k4.extBut _ _ D.a4.symm z3))
      have hez : e ≠ z := fun x => by subst x; rw [z6] at hoe; cases hoe; simp at hce
      exact wpAny_setField_rec z6 (by simp) fun g7 _ k7 => hE g7 e (fun c o x1 x2 x3 x4 x5 q => k7.extBut _ _ x1 (k6 _ _ x5 (k5.extBut _ _ x2 (k4.extBut _ _ x4 (k3.extBut _ _ x2 (k2.extBut _ _ x3 (k1.extBut _ _ x1 q))))))) ⟨oe, k7.extBut _ _ hez hoe, hce⟩
theorem tri_pyNext {z TI TO i j k l1 l2 l3 : Addr} {n : Nat} {xs ys zs : Array Value} {x y v a b c : Value} {Q : Option Value → Shared → Prop} (D : Ap z TI TO i j k) (D1 : Off z TO i j k l1) (D2 : Off z TO i j k l2) (D3 : Off z TO i j k l3)
    (hz : IsZip s.heap z TI TO .none) (hTI : Tri s.heap TI (.ref i) (.ref j) (.ref k)) (hTO : Tri s.heap TO a b c)
    (h1 : s.heap.IsListIter i l1 n) (h2 : s.heap.IsListIter j l2 n) (h3 : s.heap.IsListIter k l3 n) (hl1 : s.heap.IsList l1 xs) (hl2 : s.heap.IsList l2 ys) (hl3 : s.heap.IsList l3 zs)
    (hx : xs[n]? = some x) (hy : ys[n]? = some y) (hv : zs[n]? = some v)
    (hQ : ∀ g, IsZip g z TI TO (rawInt s.heap.objs.size) → Tri g TO x y v → g.IsListIter i l1 (n + 1) → g.IsListIter j l2 (n + 1) → g.IsListIter k l3 (n + 1) → Tri g s.heap.objs.size x y v → g.objs.size = s.heap.objs.size + 1 →
      (∀ c o, c ≠ z → c ≠ TO → c ≠ i → c ≠ j → c ≠ k → s.heap.get? c = some o → g.get? c = some o) → Q (some (.ref s.heap.objs.size)) { s with heap := g }) : wpAny (model prog w) A (pyNext (.ref z)) Q E s := by
  have hT : s.TypeIs (.ref z) "zip" := ⟨_, hz, rfl⟩
  unfold pyNext
  exact wpAny_bind (wpAny_attempt (wpAny_callSpecial?_slot (name := Str.ofString "__next__") hT F.slot_zip_next (wpAny_call_entry F.slot_zip_next hT F.entry_zip_next
    (tri_next D D1 D2 D3 hz hTI hTO h1 h2 h3 hl1 hl2 hl3 hx hy hv fun g b1 b2 b3 b4 b5 b6 b7 b8 => wpAny_pure (hQ g b1 b2 b3 b4 b5 b6 b7 b8)) (F.args_zip_next_1 _))))
theorem tri_pyNext_end {z TI TO i j k l1 l2 l3 : Addr} {n : Nat} {xs ys zs : Array Value} {a b c : Value} {Q : Option Value → Shared → Prop} (hh : A.handled = none) (D : Ap z TI TO i j k) (D1 : Off z TO i j k l1) (D2 : Off z TO i j k l2) (D3 : Off z TO i j k l3)
    (hz : IsZip s.heap z TI TO .none) (hTI : Tri s.heap TI (.ref i) (.ref j) (.ref k)) (hTO : Tri s.heap TO a b c)
    (h1 : s.heap.IsListIter i l1 n) (h2 : s.heap.IsListIter j l2 n) (h3 : s.heap.IsListIter k l3 n) (hl1 : s.heap.IsList l1 xs) (hl2 : s.heap.IsList l2 ys) (hl3 : s.heap.IsList l3 zs)
    (hend : xs[n]? = none ∨ ys[n]? = none ∨ zs[n]? = none)
    (hQ : ∀ g, (∀ c o, c ≠ z → c ≠ TO → c ≠ i → c ≠ j → c ≠ k → s.heap.get? c = some o → g.get? c = some o) → Q none { s with heap := g }) : wpAny (model prog w) A (pyNext (.ref z)) Q E s := by
  have hT : s.TypeIs (.ref z) "zip" := ⟨_, hz, rfl⟩
  unfold pyNext
  refine wpAny_bind (wpAny_attempt (wpAny_callSpecial?_slot (name := Str.ofString "__next__") hT F.slot_zip_next (wpAny_call_entry F.slot_zip_next hT F.entry_zip_next (tri_end hh D D1 D2 D3 hz hTI hTO h1 h2 h3 hl1 hl2 hl3 hend fun g e hk he => ?_) (F.args_zip_next_1 _))))
  obtain ⟨o, ho, hc⟩ := he
  exact wpAny_bind (wpAny_isInstance (T := "StopIteration") (b := true) ⟨o, ho, hc⟩ isSubtype_stop (wpAny_pure (hQ _ hk)))
end
/-! zip(a, b, c) itself -/
theorem typeCall_3 (a b c : Value) : checkTypeCall "zip" ⟨[a, b, c], []⟩ = pure () := by kernel_rfl
theorem newCall_3 (a b c : Value) : checkBuiltinCall "zip.__new__" ⟨[.type "zip", a, b, c], []⟩ = pure () := by kernel_rfl
theorem init_4 (a b c d : Value) : argsOk "object.__init__" ⟨[a, b, c, d], []⟩ := by
  unfold argsOk; rw [signature?_of (id := "object.__init__") (n := ['_', '_', 't', 'i', 'n', 'i', '_', '_']) (o := ['t', 'c', 'e', 'j', 'b', 'o']) (by kernel_rfl) F.owner_object]; kernel_rfl
abbrev H1 (h : Heap) (a : Addr) : Heap := h.push { cls := .type "list_iterator", data := .fields #[.ref a, .int 0 0] }
abbrev H2 (h : Heap) (a b : Addr) : Heap := (H1 h a).push { cls := .type "list_iterator", data := .fields #[.ref b, .int 0 0] }
abbrev H3 (h : Heap) (a b c : Addr) : Heap := (H2 h a b).push { cls := .type "list_iterator", data := .fields #[.ref c, .int 0 0] }
abbrev H4 (h : Heap) (a b c : Addr) : Heap := (H3 h a b c).push { cls := .type "tuple", data := .seq #[.ref h.objs.size, .ref (H1 h a).objs.size, .ref (H2 h a b).objs.size] }
abbrev H5 (h : Heap) (a b c : Addr) : Heap := (H4 h a b c).push { cls := .type "tuple", data := .seq #[.none, .none, .none] }
abbrev H6 (h : Heap) (a b c : Addr) : Heap := (H5 h a b c).push { cls := .type "zip", data := .fields #[.none, .bool false, .bool false, .ref (H3 h a b c).objs.size, .ref (H4 h a b c).objs.size] }
theorem tri_new (a b c : Addr) (xs ys zs : Array Value) :
    Meets (Builtin.«zip.__new__» ⟨[.type "zip", .ref a, .ref b, .ref c], []⟩) (fun _ R s => (s.heap.IsList a xs ∧ s.heap.IsList b ys ∧ s.heap.IsList c zs) ∧ R (.ok (.ret (.ref (H5 s.heap a b c).objs.size))) { s with heap := H6 s.heap a b c }) :=
  .of_wp fun prog w A R s h => by
    obtain ⟨hp, g, d, tk, os⟩ := s; obtain ⟨⟨ha, hb, hc⟩, h⟩ := h
    have sb := sub_zip
    have la : Heap.IsList (Shared.heap ⟨hp, g, d, tk, os⟩) a xs := ha
    have lb : Heap.IsList (Shared.heap ⟨H1 hp a, g, d, tk, os⟩) b ys := Heap.IsList.push hb _
    have lc : Heap.IsList (Shared.heap ⟨H2 hp a b, g, d, tk, os⟩) c zs := Heap.IsList.push (Heap.IsList.push hc _) _
    wp_walk using wpAny_pyIter_list la, wpAny_pyIter_list lb, wpAny_pyIter_list lc
    exact ⟨_, rfl, h⟩
section
variable {prog : Program} {w : World} {A : Around} {E : Value → Shared → Prop} {s : Shared}
theorem tri_call {a b c : Addr} {xs ys zs : Array Value} {Q : Value → Shared → Prop} (ha : s.heap.IsList a xs) (hb : s.heap.IsList b ys) (hc : s.heap.IsList c zs)
    (h : ∀ g, IsZip g (s.heap.objs.size + 5) (s.heap.objs.size + 3) (s.heap.objs.size + 4) .none → Tri g (s.heap.objs.size + 3) (.ref s.heap.objs.size) (.ref (s.heap.objs.size + 1)) (.ref (s.heap.objs.size + 2)) →
      Tri g (s.heap.objs.size + 4) .none .none .none → g.IsListIter s.heap.objs.size a 0 → g.IsListIter (s.heap.objs.size + 1) b 0 → g.IsListIter (s.heap.objs.size + 2) c 0 →
      (∀ d o, s.heap.get? d = some o → g.get? d = some o) → Q (.ref (s.heap.objs.size + 5)) { s with heap := g }) :
    wpAny (model prog w) A (call (.type "zip") [.ref a, .ref b, .ref c]) Q E s := by
  refine callType_new F.called_zip (by decide) (typeCall_3 _ _ _) (newCall_3 _ _ _) (fun obj => init_4 obj _ _ _) F.entry_zip_new (tri_new a b c xs ys zs) ⟨⟨ha, hb, hc⟩, ?_⟩
  have s1 : (H1 s.heap a).objs.size = s.heap.objs.size + 1 := Heap.size_push ..
  have s2 : (H2 s.heap a b).objs.size = s.heap.objs.size + 2 := by rw [Heap.size_push, s1]
  have s3 : (H3 s.heap a b c).objs.size = s.heap.objs.size + 3 := by rw [Heap.size_push, s2]
  have s4 : (H4 s.heap a b c).objs.size = s.heap.objs.size + 4 := by rw [Heap.size_push, s3]
  have s5 : (H5 s.heap a b c).objs.size = s.heap.objs.size + 5 := by rw [Heap.size_push, s4]
  have up : ∀ {h : Heap} {o : Obj} {d : Addr} {o' : Obj}, h.get? d = some o' → (h.push o).get? d = some o' := fun e => Heap.get?_push_of_some _ e
  have g6 : (H6 s.heap a b c).get? (H5 s.heap a b c).objs.size = some _ := Heap.get?_push_size _ rfl
  have g5 : (H6 s.heap a b c).get? (H4 s.heap a b c).objs.size = some _ := up (Heap.get?_push_size _ rfl)
  have g4 : (H6 s.heap a b c).get? (H3 s.heap a b c).objs.size = some _ := up (up (Heap.get?_push_size _ rfl))
  have g3 : (H6 s.heap a b c).get? (H2 s.heap a b).objs.size = some _ := up (up (up (Heap.get?_push_size _ rfl)))
  have g2 : (H6 s.heap a b c).get? (H1 s.heap a).objs.size = some _ := up (up (up (up (Heap.get?_push_size _ rfl))))
  have g1 : (H6 s.heap a b c).get? s.heap.objs.size = some _ := up (up (up (up (up (Heap.get?_push_size _ rfl)))))
  show _ ∧ _
  rw [s3, s4, s5] at g6
  rw [s4] at g5
  rw [s1, s2, s3] at g4
  rw [s2] at g3
  rw [s1] at g2
  rw [s5]
  exact ⟨⟨_, g6, rfl⟩, h _ g6 g4 g5 ⟨_, g1, rfl, rfl⟩ ⟨_, g2, rfl, rfl⟩ ⟨_, g3, rfl, rfl⟩ fun d o x => up (up (up (up (up (up x)))))⟩
end
/-- three lists as they stand at each turn -/
def It3 (K : PySem.W.Frag) (a b c : Addr) : It :=
  ⟨fun i H => ∃ (xs ys zs : List V) (x y z : V), SqL K H a xs ∧ SqL K H b ys ∧ SqL K H c zs ∧ xs[i]? = some x ∧ ys[i]? = some y ∧ zs[i]? = some z,
    fun i H v H' => ∃ T x y z, v = .ref T ∧ H T = none ∧ H' = upd H T (.tup [x, y, z]) ∧ (∀ xs, SqL K H a xs → xs[i]? = some x) ∧ (∀ ys, SqL K H b ys → ys[i]? = some y) ∧ ∀ zs, SqL K H c zs → zs[i]? = some z,
    fun i H => ∃ xs ys zs : List V, SqL K H a xs ∧ SqL K H b ys ∧ SqL K H c zs ∧ (xs.length ≤ i ∨ ys.length ≤ i ∨ zs.length ≤ i)⟩
theorem tri_turn {P : Program} {w : World} {K : PySem.W.Frag} {elts : List Expr} {kk : Nat} {tpos : Pos} {a b c z TI TO i j k : Addr} (D : Ap z TI TO i j k) (D1 : Off z TO i j k a) (D2 : Off z TO i j k b) (D3 : Off z TO i j k c) :
    Turn P w K (.Tuple elts kk tpos) (It3 K a b c) [z, TI, TO, i, j, k] z (fun n h => IsZip h z TI TO .none ∧ Tri h TI (.ref i) (.ref j) (.ref k) ∧ (∃ x y v, Tri h TO x y v) ∧ h.IsListIter i a n ∧ h.IsListIter j b n ∧ h.IsListIter k c n) where
  mem := by simp
  obj := fun n h st d hd => by
    obtain ⟨hz, hTI, ⟨x, y, v, hTO⟩, ⟨o1, e1, _, d1⟩, ⟨o2, e2, _, d2⟩, ⟨o3, e3, _, d3⟩⟩ := st
    have e' : d = z ∨ d = TI ∨ d = TO ∨ d = i ∨ d = j ∨ d = k := by simpa using hd
    rcases e' with q | q | q | q | q | q <;> rw [q]
    · exact ⟨_, hz, fun v q => nomatch q⟩
    · exact ⟨_, hTI, fun v q => nomatch q⟩
    · exact ⟨_, hTO, fun v q => nomatch q⟩
    · exact ⟨o1, e1, fun v q => by rw [d1] at q; cases q⟩
    · exact ⟨o2, e2, fun v q => by rw [d2] at q; cases q⟩
    · exact ⟨o3, e3, fun v q => by rw [d3] at q; cases q⟩
  keep := fun n h h' st kp => by
    obtain ⟨hz, hTI, ⟨x, y, v, hTO⟩, h1, h2, h3⟩ := st
    exact ⟨kp z (by simp) _ hz, kp TI (by simp) _ hTI, ⟨x, y, v, kp TO (by simp) _ hTO⟩, h1.at fun o q => kp i (by simp) o q, h2.at fun o q => kp j (by simp) o q, h3.at fun o q => kp k (by simp) o q⟩
  item := by
    intro X hP hw hK hc n pins s σ H E I hf st hg
    subst hP hw hK
    obtain ⟨hz, hTI, ⟨x0, y0, v0, hTO⟩, h1, h2, h3⟩ := st
    obtain ⟨xs, ys, zs, x, y, v, qx, qy, qv, hx, hy, hv⟩ := hg
    obtain ⟨its, rv, p1, _⟩ := I.list qx
    obtain ⟨its2, rv2, p2, _⟩ := I.list qy
    obtain ⟨its3, rv3, p3, _⟩ := I.list qv
    obtain ⟨u1, hu1, ru1⟩ := rv.get hx
    obtain ⟨u2, hu2, ru2⟩ := rv2.get hy
    obtain ⟨u3, hu3, ru3⟩ := rv3.get hv
    have zl : z < s.heap.objs.size := Heap.lt_size hz
    refine tri_pyNext D D1 D2 D3 hz hTI hTO h1 h2 h3 p1.isList p2.isList p3.isList (x := u1) (y := u2) (v := u3) (by simpa using hu1) (by simpa using hu2) (by simpa using hu3) fun g z' TO' h1' h2' h3' hT hsz hk => ?_
    refine ⟨_, rfl, wpAny_letOwnedTupleGo_zip (s := { s with heap := g }) z' fun g2 z2 sb => ?_⟩
    have hT2 : g2.get? s.heap.objs.size = some { cls := .type "tuple", data := .seq #[u1, u2, u3] } := (sb.2 _ (Nat.ne_of_gt zl)).trans hT
    have new : ObjOk X.prog X.w (upd H s.heap.objs.size (.tup [x, y, v])) g2 s.heap.objs.size (.tup [x, y, v]) :=
      ⟨by show 3 ≤ sizeLine; decide, [u1, u2, u3], .cons ru1 (.cons ru2 (.cons ru3 .nil)), ⟨_, hT2, rfl, _, rfl⟩⟩
    have I1 : Inv X pins σ (upd H s.heap.objs.size (.tup [x, y, v])) { s with heap := g2 } :=
      I.turnedNew (t' := s.toks) (ch := [z, TI, TO, i, j, k]) (fun d o hb q => (sb.2 d (fun q' => hb (by simp [q']))).trans (hk d o (fun q' => hb (by simp [q'])) (fun q' => hb (by simp [q'])) (fun q' => hb (by simp [q'])) (fun q' => hb (by simp [q'])) (fun q' => hb (by simp [q'])) q)) hf (Nat.le_refl _) new
    refine ⟨.ref s.heap.objs.size, _, I1, rfl, ⟨_, x, y, v, rfl, I.hok.fresh (Nat.le_refl _), rfl, fun l hl => by rw [I.list_inj hl qx]; exact hx, fun l hl => by rw [I.list_inj hl qy]; exact hy, fun l hl => by rw [I.list_inj hl qv]; exact hv⟩, ⟨z2, ?_, ⟨u1, u2, u3, ?_⟩, ?_, ?_, ?_⟩, fun d hdm => ?_⟩
    · exact (sb.2 _ D.a1).trans (hk _ _ D.a1 D.b1 D.b2 D.b3 D.b4 hTI)
    · exact (sb.2 _ D.a2).trans TO'
    · exact h1'.at fun o q => (sb.2 _ D.a3).trans q
    · exact h2'.at fun o q => (sb.2 _ D.a4).trans q
    · exact h3'.at fun o q => (sb.2 _ D.a5).trans q
    · have hlt : d < s.heap.objs.size := by
        have e' : d = z ∨ d = TI ∨ d = TO ∨ d = i ∨ d = j ∨ d = k := by simpa using hdm
        rcases e' with q | q | q | q | q | q <;> rw [q]
        · exact zl
        · exact Heap.lt_size hTI
        · exact Heap.lt_size hTO
        · obtain ⟨_, e1, _⟩ := h1; exact Heap.lt_size e1
        · obtain ⟨_, e2, _⟩ := h2; exact Heap.lt_size e2
        · obtain ⟨_, e3, _⟩ := h3; exact Heap.lt_size e3
      rw [upd_ne (Nat.ne_of_lt hlt)]
      exact (hf d hdm).1
  done := by
    intro X hP hw hK hc n pins s σ H E I hf st hg
    subst hP hw hK
    obtain ⟨hz, hTI, ⟨x0, y0, v0, hTO⟩, h1, h2, h3⟩ := st
    obtain ⟨xs, ys, zs, qx, qy, qv, hend⟩ := hg
    obtain ⟨its, rv, p1, _⟩ := I.list qx
    obtain ⟨its2, rv2, p2, _⟩ := I.list qy
    obtain ⟨its3, rv3, p3, _⟩ := I.list qv
    have l1 := rv.length
    have l2 := rv2.length
    have l3 := rv3.length
    have he : its.toArray[n]? = none ∨ its2.toArray[n]? = none ∨ its3.toArray[n]? = none := by
      rcases hend with q | q | q
      · exact .inl (by simp; omega)
      · exact .inr (.inl (by simp; omega))
      · exact .inr (.inr (by simp; omega))
    exact tri_pyNext_end (I.ok.hd hc) D D1 D2 D3 hz hTI hTO h1 h2 h3 p1.isList p2.isList p3.isList he fun g hk => ⟨rfl, I.turnedL (t' := s.toks) (ch := [z, TI, TO, i, j, k]) (fun d o hb q =>
      hk d o (fun q' => hb (by simp [q'])) (fun q' => hb (by simp [q'])) (fun q' => hb (by simp [q'])) (fun q' => hb (by simp [q'])) (fun q' => hb (by simp [q'])) q) hf⟩
  self := fun A n s Q E st h => wpAny_pyIter_zip st.1 h
theorem tri_ap (I a b c : Nat) (ha : a < I) (hb : b < I) (hc : c < I) : Ap (I + 5) (I + 3) (I + 4) I (I + 1) (I + 2) ∧ Off (I + 5) (I + 4) I (I + 1) (I + 2) a ∧ Off (I + 5) (I + 4) I (I + 1) (I + 2) b ∧ Off (I + 5) (I + 4) I (I + 1) (I + 2) c := by
  refine ⟨?_, ?_, ?_, ?_⟩ <;> constructor <;> (show (_ : Nat) ≠ _; omega)
def i3 (K : PySem.W.Frag) (ta : TA) : TI := fun σ H R => ta σ H fun vs H1 => ∃ a b c xs ys zs, vs = [.ref a, .ref b, .ref c] ∧ SqL K H1 a xs ∧ SqL K H1 b ys ∧ SqL K H1 c zs ∧ R (It3 K a b c) H1
theorem pi_3 {X : Cx} {e e2 e3 : Expr} {ta : TA} {p pos tpos : Pos} {elts : List Expr} {kk : Nat} (hg : Gl X "zip") (hm : X.mg "zip" = none) (ha : PA X [e, e2, e3] ta)
    (hs : starEach [e, e2, e3] X.env = (false, eval e X.env) :: starEach [e2, e3] X.env := by rfl) (hpl : (backTo pos (starEach [e2, e3] X.env)).any (·.1) = false := by rfl) :
    PI X (.Tuple elts kk tpos) (.Call (.Name "zip" p) [e, e2, e3] [] pos) (i3 X.K ta) := by
  refine ⟨fun pins s σ H R I h => ?_⟩
  refine Call_ (ld_blt I hg hm PyProof.Rows.boot_zip (PyProof.Rows.callWith_type1 (thn (ha.run pos pins s σ H _ I h) fun us s1 ⟨vs, H1, I1, r1, q1⟩ => ?_) hs hpl))
  obtain ⟨a, b, c, xs, ys, zs, ex, qx, qy, qv, q⟩ := q1
  subst ex
  cases r1 with
  | cons r rr => cases rr with
    | cons r' rr => cases rr with
      | cons r'' rr =>
        cases rr
        cases r
        cases r'
        cases r''
        obtain ⟨its, rv, p1, _⟩ := I1.list qx
        obtain ⟨its2, rv2, p2, _⟩ := I1.list qy
        obtain ⟨its3, rv3, p3, _⟩ := I1.list qv
        obtain ⟨D, D1, D2, D3⟩ := tri_ap s1.heap.objs.size a b c p1.lt p2.lt p3.lt
        refine tri_call p1.isList p2.isList p3.isList fun g hz hTI hTO h1 h2 h3 hk => wpAny_pyIter_zip hz ?_
        have I2 : Inv X pins σ H1 { s1 with heap := g } := I1.kept (t' := s1.toks) hk
        refine ⟨s1.heap.objs.size + 5, [s1.heap.objs.size + 5, s1.heap.objs.size + 3, s1.heap.objs.size + 4, s1.heap.objs.size, s1.heap.objs.size + 1, s1.heap.objs.size + 2], _, _, H1, rfl, I2, tri_turn D D1 D2 D3, ⟨hz, hTI, ⟨_, _, _, hTO⟩, h1, h2, h3⟩, fun d hdm => ?_, q⟩
        have e' : d = s1.heap.objs.size + 5 ∨ d = s1.heap.objs.size + 3 ∨ d = s1.heap.objs.size + 4 ∨ d = s1.heap.objs.size ∨ d = s1.heap.objs.size + 1 ∨ d = s1.heap.objs.size + 2 := by simpa using hdm
        have hle : s1.heap.objs.size ≤ d := by
          rcases e' with z | z | z | z | z | z <;> rw [z] <;> first | exact Nat.le_add_right _ _ | exact Nat.le_refl _
        exact I1.fpOk hle (I1.hok.fresh hle)
end Z3

set_option Elab.async false
set_option linter.all false
set_option maxRecDepth 100000
namespace G
open PySem PySem.Spec PyProof.Rows L2
/-! ### a walk over zip of three lists -/
def zip3D : List D → List D → List D → List D
  | x :: xs, y :: ys, z :: zs => .tup [x, y, z] :: zip3D xs ys zs
  | _, _, _ => []
theorem zip3D_get : ∀ {xs ys zs : List D} {i : Nat} {d : D}, (zip3D xs ys zs)[i]? = some d → ∃ x y z, xs[i]? = some x ∧ ys[i]? = some y ∧ zs[i]? = some z ∧ d = .tup [x, y, z]
  | [], ys, zs, i, d, h => by unfold zip3D at h; simp at h
  | x :: xs, [], zs, i, d, h => by unfold zip3D at h; simp at h
  | x :: xs, y :: ys, [], i, d, h => by unfold zip3D at h; simp at h
  | x :: xs, y :: ys, z :: zs, 0, d, h => by unfold zip3D at h; simp at h; exact ⟨x, y, z, rfl, rfl, rfl, h.symm⟩
  | x :: xs, y :: ys, z :: zs, i + 1, d, h => by
    unfold zip3D at h
    rw [List.getElem?_cons_succ] at h
    obtain ⟨a, b, c, h1, h2, h3, h4⟩ := zip3D_get h
    exact ⟨a, b, c, by simpa using h1, by simpa using h2, by simpa using h3, h4⟩
theorem zip3D_len : ∀ xs ys zs : List D, xs.length ≤ (zip3D xs ys zs).length ∨ ys.length ≤ (zip3D xs ys zs).length ∨ zs.length ≤ (zip3D xs ys zs).length
  | [], ys, zs => .inl (by simp)
  | x :: xs, [], zs => .inr (.inl (by simp))
  | x :: xs, y :: ys, [] => .inr (.inr (by simp))
  | x :: xs, y :: ys, z :: zs => by
    unfold zip3D
    rw [List.length_cons, List.length_cons, List.length_cons, List.length_cons]
    rcases zip3D_len xs ys zs with h | h | h
    · exact .inl (by omega)
    · exact .inr (.inl (by omega))
    · exact .inr (.inr (by omega))
section
variable {K : PySem.W.Frag} {W : Wd}
theorem its_zip3 {I : Hp} {a b c : Addr} {ds es fs : List D} {vs us ws : List V} (h : SqL K I a vs) (r : Reps K I ds vs) (h' : SqL K I b us) (r' : Reps K I es us) (h'' : SqL K I c ws) (r'' : Reps K I fs ws) : ItS K I (Z3.It3 K a b c) (zip3D ds es fs) where
  stop := fun I2 H2 s1 s2 => ⟨vs, us, ws, same_l s2 (same_l s1 h), same_l s2 (same_l s1 h'), same_l s2 (same_l s1 h''), by rw [← r.length, ← r'.length, ← r''.length]; exact zip3D_len ds es fs⟩
  go := fun I2 H2 i d s1 s2 hd => by
    obtain ⟨x0, y0, z0, hx, hy, hz, rfl⟩ := zip3D_get hd
    obtain ⟨v, hv, rv⟩ := r.get hx
    obtain ⟨u, hu, ru⟩ := r'.get hy
    obtain ⟨t, ht, rt⟩ := r''.get hz
    refine ⟨⟨vs, us, ws, v, u, t, same_l s2 (same_l s1 h), same_l s2 (same_l s1 h'), same_l s2 (same_l s1 h''), hv, hu, ht⟩, fun x H3 y => ?_⟩
    obtain ⟨T, p, p', p'', rfl, hT, rfl, q1, q2, q3⟩ := y
    have e1 := q1 vs (same_l s2 (same_l s1 h))
    have e2 := q2 us (same_l s2 (same_l s1 h'))
    have e3 := q3 ws (same_l s2 (same_l s1 h''))
    rw [hv] at e1
    rw [hu] at e2
    rw [ht] at e3
    cases e1
    cases e2
    cases e3
    exact .inr ⟨T, _, hT, rfl, .tup (SqT.of upd_same) (.cons ((rv.mono s1).mono (same_new (Same.free s2 hT))) (.cons ((ru.mono s1).mono (same_new (Same.free s2 hT))) (.cons ((rt.mono s1).mono (same_new (Same.free s2 hT))) .nil)))⟩
def aiZip3 (as : Aa) : Ai := fun E M Q => as E M fun xs M1 => match xs with
  | [.d (.lst l), .d (.lst m), .d (.lst n)] => Q (zip3D l m n) M1
  | _ => False
theorem si_zip3 {t : TA} {as : Aa} (h : SA K W t as) : SI K W (Z3.i3 K t) (aiZip3 as) := by
  intro b M E σ QA R t0 ok sl h1 k
  refine h b M E σ _ _ t0 ok sl h1 fun b1 M1 xs vs t1 ok1 s1 r1 h2 => ?_
  split at h2
  · obtain ⟨v, u, w, rfl, r, r', r''⟩ := repAs_3 r1
    cases repA_d r with
    | lst hp rs => cases repA_d r' with
      | lst hp' rs' => cases repA_d r'' with
        | lst hp'' rs'' => exact ⟨_, _, _, _, _, _, rfl, SqL.of (ok1.ih _ _ hp), SqL.of (ok1.ih _ _ hp'), SqL.of (ok1.ih _ _ hp''), k b1 M1 _ _ t1 ok1 s1 (its_zip3 (SqL.of hp) rs (SqL.of hp') rs' (SqL.of hp'') rs'') h2⟩
  · exact h2.elim
end
section
variable {X : Cx} {W : Wd} {K : PySem.W.Frag} {pos p tpos : Pos} {e e2 e3 : Expr} {ts : TA} {as : Aa}
theorem k_zip3 {elts : List Expr} {kk : Nat} (hm : X.mg "zip" = none) (ha : AA X W [e, e2, e3] ts as) (hg : Gl X "zip" := by rfl)
    (hs : starEach [e, e2, e3] X.env = (false, eval e X.env) :: starEach [e2, e3] X.env := by rfl) (hpl : (backTo pos (starEach [e2, e3] X.env)).any (·.1) = false := by rfl) (hK : X.K = K := by rfl) :
    AI X W (.Tuple elts kk tpos) (.Call (.Name "zip" p) [e, e2, e3] [] pos) (Z3.i3 K ts) (aiZip3 as) := by subst hK; exact ⟨Z3.pi_3 hg hm ha.pa hs hpl, si_zip3 ha.sa⟩
end
end G

set_option Elab.async false
set_option linter.all false
set_option maxRecDepth 100000
namespace G
open PySem PySem.Spec PyProof.Rows L2
/-! ### a, *rest = t -/
section
variable {prog : Program} {w : World} {A : Around} {E : Value → Shared → Prop} {s : Shared}
theorem star_items {l : Addr} {items : Array Value} {n i : Nat} {Q : List Value → Shared → Prop} (hl : IsTup s.heap l items) (hh : A.handled = none) (hi : i < n) (hn : n ≤ items.size + 1) (hz : items.size ≤ sizeLine)
    (h : ∀ (g : Heap) (tk : Nat), (∀ b o, b ≠ s.heap.objs.size → s.heap.get? b = some o → g.get? b = some o) → Q (items.toList.take i ++ [.ref g.objs.size] ++ (items.toList.drop i).drop (items.size + 1 - n)) { s with heap := g.push { cls := .type "list", data := .seq ((items.toList.drop i).take (items.size + 1 - n)).toArray }, toks := tk }) :
    wpAny (model prog w) A (unpackItems (.ref l) n (some i)) Q E s := by
  have ne : l ≠ s.heap.objs.size := by obtain ⟨o, ho, _⟩ := hl; exact Nat.ne_of_lt (Heap.lt_size ho)
  unfold unpackItems
  refine wpAny_bind ?_; unfold notIterableAtAll
  refine wpAny_bind (wpAny_specialOf hl.typeIs slot_tuple_iter.lookup (wpAny_pure ?_)); simp only [Bool.false_eq_true, if_false]
  refine wpAny_bind (wpAny_holding (iter_tuple hl ?_))
  refine wpAny_bind (wpAny_holding (draw_tuple ne i 0 _ _ ⟨_, Heap.get?_push_size _ rfl, rfl, rfl⟩ (hl.push _) (by omega) fun g1 it1 k1 => ?_))
  have t1 : IsTup g1 l items := (hl.push _).extBut k1.extBut ne
  rw [Nat.zero_add] at it1; rw [List.drop_zero]
  have e1 : (items.toList.take i).length = i := by rw [List.length_take, Array.length_toList]; omega
  have e2 : (items.toList.drop i).length = items.size - i := by rw [List.length_drop, Array.length_toList]
  have e3 : (items.toList.drop i).length - (n - 1 - i) = items.size + 1 - n := by rw [e2]; omega
  rw [if_neg (show ¬ ((items.toList.take i).length < i) by rw [e1]; omega)]
  obtain ⟨oi, hoi, _⟩ := id it1
  obtain ⟨ol, hol, _⟩ := id t1
  refine wpAny_bind (wpAny_holding (PySem.W.kun_collect (s := { s with heap := g1 }) (T := "tuple_iterator") (.inr (.inr (.inr rfl))) (Walks.tuple (A := A.in1) hh s.heap.objs.size l ne items) (fun j u st => st.1.typeIs) (k := i) (by omega) ⟨it1, t1⟩ (Heap.lt_size hoi) (Heap.lt_size hol) (fun g2 tk k2 => ?_) hz))
  show wpAny _ _ (if (items.toList.drop i).length < n - 1 - i then _ else _) _ _ _
  rw [if_neg (by rw [e2]; omega)]
  show wpAny _ _ (newList ((items.toList.drop i).take ((items.toList.drop i).length - (n - 1 - i))) >>= fun d => pure (items.toList.take i ++ [d] ++ (items.toList.drop i).drop ((items.toList.drop i).length - (n - 1 - i)))) _ _ _
  rw [e3]
  exact wpAny_bind (wpAny_newList (s := { s with heap := g2, toks := tk }) (wpAny_pure (h g2 tk fun b o hb q => k2 b o hb (k1.extBut b o hb (Heap.get?_push_of_some _ q)))) (by rw [List.length_take]; omega))
end
def gStar (K : PySem.W.Frag) (n i : Nat) (t : TGs) : TG := fun v σ H Q => ∃ a xs, v = .ref a ∧ SqT K H a xs ∧ i < n ∧ n ≤ xs.length + 1 ∧ ∀ D, H D = none → t (xs.take i ++ [.ref D] ++ (xs.drop i).drop (xs.length + 1 - n)) σ (upd H D (.lst ((xs.drop i).take (xs.length + 1 - n)))) Q
section
variable {X : Cx} {pos p : Pos} {es : List Expr} {e : Expr}
theorem Vals.take' {vs : List V} {us : List Value} (r : Vals vs us) (n : Nat) : Vals (vs.take n) (us.take n) := by
  induction r generalizing n with
  | nil => rw [List.take_nil, List.take_nil]; exact .nil
  | cons a r ih => cases n with
    | zero => exact .nil
    | succ n => exact .cons a (ih n)
theorem Vals.drop' {vs : List V} {us : List Value} (r : Vals vs us) (n : Nat) : Vals (vs.drop n) (us.drop n) := by
  induction r generalizing n with
  | nil => rw [List.drop_nil, List.drop_nil]; exact .nil
  | cons a r ih => cases n with
    | zero => exact .cons a r
    | succ n => exact ih n
theorem pg_star {k : Nat} {t : TGs} {n i : Nat} (hc : X.calm = true) (h : PGs X es t) (hn : (assignEach es X.env).length = n := by rfl) (hst : (assignEach es X.env).findIdx? (·.1) = some i := by rfl) : PG X (.Tuple es k pos) (gStar X.K n i t) := by
  refine ⟨fun pins s σ H v u Q I r hw => ?_⟩
  obtain ⟨a, xs, e1, hq, hi, hl, hw⟩ := hw
  subst e1
  cases r
  obtain ⟨its, rv, ht, hz⟩ := I.tuple hq
  have el : its.length = xs.length := rv.length.symm
  rw [assign_Tuple]
  refine wpAny_bind (wpAny_standAt ?_)
  unfold unpack
  rw [hn, hst]
  refine wpAny_bind (wpAny_holding (star_items ht (I.ok.hd hc) hi (by simpa [el] using hl) (by simpa [el] using hz) fun g tk hk => ?_))
  have I1 : Inv X pins σ H { s with heap := g, toks := tk } := I.kept (t' := tk) fun b o q => hk b o (Nat.ne_of_lt (Heap.lt_size q)) q
  have hf : H g.objs.size = none := I1.hok.fresh (Nat.le_refl _)
  have rm := Vals.take' (Vals.drop' rv i) (xs.length + 1 - n)
  have I2 : Inv X pins σ (upd H g.objs.size (.lst ((xs.drop i).take (xs.length + 1 - n)))) { s with heap := g.push { cls := .type "list", data := .seq ((its.drop i).take (xs.length + 1 - n)).toArray }, toks := tk } :=
    I1.laid (t' := tk) (fun b u q => Heap.get?_push_of_some _ q) (Nat.le_refl _) ⟨by rw [List.length_take, List.length_drop]; omega, _, 0, rm, Heap.get?_push_size _ rfl⟩
  have rr : Vals (xs.take i ++ [.ref g.objs.size] ++ (xs.drop i).drop (xs.length + 1 - n)) (its.take i ++ [.ref g.objs.size] ++ (its.drop i).drop (its.length + 1 - n)) := by
    rw [el]
    exact ((Vals.take' rv i).append (.cons (show RelV (.ref g.objs.size) (.ref g.objs.size) from rfl) .nil)).append (Vals.drop' (Vals.drop' rv i) _)
  have z := h.run pins _ σ _ _ _ Q I2 rr (hw _ hf)
  simpa [el] using z
theorem pgs_star {t : TG} {u : TGs} (h1 : PG X e t) (h2 : PGs X es u) (hs : (assignEach (.Starred e p :: es) X.env).map (·.2) = assign e X.env :: (assignEach es X.env).map (·.2) := by rfl) : PGs X (.Starred e p :: es) (gCons t u) := by
  refine ⟨fun pins s σ H vs us Q I r h => ?_⟩
  obtain ⟨v, vr, e1, h⟩ := h
  subst e1
  cases r with
  | cons r rr =>
    rw [hs]
    exact assignInOrder_cons (thn (h1.run pins s σ H _ _ _ I r h) fun _ s1 ⟨σ1, H1, I1, q1⟩ => h2.run pins s1 σ1 H1 _ _ Q I1 rr q1)
end
/-- what comes behind goes into a new list -/
def aGstar (n i : Nat) (g : Ags) : Ag := fun x E M Q => match x with
  | .d (.tup l) => Side (i < n ∧ n ≤ l.length + 1) (g ((l.take i ++ [D.lst ((l.drop i).take (l.length + 1 - n))] ++ (l.drop i).drop (l.length + 1 - n)).map A.d) E M Q)
  | _ => False
section
variable {K : PySem.W.Frag} {W : Wd}
theorem sg_star {js : List Nat} {n i : Nat} {g : TGs} {ag : Ags} (h : SGs K W js g ag) : SG K W js (gStar K n i g) (aGstar n i ag) := by
  intro b M E σ x v QA Q t ok sl r h1 k
  unfold aGstar at h1
  split at h1
  · rename_i l
    obtain ⟨⟨hi, hl⟩, q⟩ := h1
    cases repA_d r with
    | tup hp rs =>
      have el := rs.length
      rename_i p vs
      refine ⟨_, _, rfl, same_t ok.ih hp, hi, by rw [← el]; exact hl, fun D hD => ?_⟩
      rw [← el]
      have sm : Same b.I (upd b.I D (.lst ((vs.drop i).take (l.length + 1 - n)))) := same_new (ok.iNone hD)
      have st := (To.refl b).laid (u := .lst ((vs.drop i).take (l.length + 1 - n))) ok hD
      refine h ⟨upd b.I D _, b.al, upd b.H D _⟩ M E σ _ _ QA Q (t.laid ok hD) (ok.laid hD) (sl.mono st.same st.pre) ?_ q fun b' M' E' σ' t2 ok2 s2 sl2 tc q2 => k b' M' E' σ' t2 ok2 (st.trans s2) sl2 tc q2
      exact repsA (((((rs.take i).mono sm).app (.cons (.lst upd_same (((rs.drop i).take _).mono sm)) .nil))).app (((rs.drop i).drop _).mono sm))
  · exact h1.elim
end
section
variable {X : Cx} {W : Wd} {K : PySem.W.Frag} {pos p : Pos} {es : List Expr} {e : Expr} {js ks : List Nat} {g : TG} {gs : TGs} {ag : Ag} {ags : Ags}
theorem ags_star (h : AG X W e js g ag) (k : AGs X W es ks gs ags) (hs : (assignEach (.Starred e p :: es) X.env).map (·.2) = assign e X.env :: (assignEach es X.env).map (·.2) := by rfl) : AGs X W (.Starred e p :: es) (js ++ ks) (gCons g gs) (agCons ag ags) := ⟨pgs_star h.pg k.pg hs, sgs_cons h.sg k.sg⟩
theorem k_gstar {kk n i : Nat} (hc : X.calm = true) (h : AGs X W es js gs ags) (hn : (assignEach es X.env).length = n := by rfl) (hst : (assignEach es X.env).findIdx? (·.1) = some i := by rfl) (hK : X.K = K := by rfl) : AG X W (.Tuple es kk pos) js (gStar K n i gs) (aGstar n i ags) := by
  subst hK; exact ⟨pg_star hc h.pg hn hst, sg_star h.sg⟩
end
end G

set_option Elab.async false
set_option linter.all false
set_option maxRecDepth 100000
namespace G
open PySem PySem.Spec PyProof.Rows L2
/-! ### t >= u, tuples of ints -/
def geI : List Int → List Int → Bool
  | xs, [] => true
  | [], _ :: _ => false
  | x :: xs, y :: ys => if x = y then geI xs ys else decide (y ≤ x)
def lexG (ns ms : List Int) : Bool := Ob.lexAt (fun j => decide (ns.getD j 0 = ms.getD j 0)) (fun j => decide (ms.getD j 0 ≤ ns.getD j 0)) (decide (ms.length ≤ ns.length)) 0 (min ns.length ms.length)
theorem lex_shift (e r : Nat → Bool) (z : Bool) : ∀ (k i : Nat), Ob.lexAt (fun j => e (j + 1)) (fun j => r (j + 1)) z i k = Ob.lexAt e r z (i + 1) k
  | 0, i => rfl
  | k + 1, i => by rw [Ob.lexAt_succ, Ob.lexAt_succ, lex_shift e r z k (i + 1)]
theorem lexG_eq : ∀ ns ms : List Int, lexG ns ms = geI ns ms
  | [], [] => rfl
  | x :: xs, [] => by unfold lexG geI; simp [Ob.lexAt]
  | [], y :: ys => by unfold lexG geI; simp [Ob.lexAt]
  | x :: xs, y :: ys => by
    have ih := lexG_eq xs ys
    unfold lexG geI
    rw [show min (x :: xs).length (y :: ys).length = min xs.length ys.length + 1 by rw [List.length_cons, List.length_cons]; omega, Ob.lexAt_succ]
    have e1 : decide ((y :: ys).length ≤ (x :: xs).length) = decide (ys.length ≤ xs.length) := by
      rw [List.length_cons, List.length_cons, Bool.eq_iff_iff, decide_eq_true_iff, decide_eq_true_iff]; omega
    have e2 := lex_shift (fun j => decide ((x :: xs).getD j 0 = (y :: ys).getD j 0)) (fun j => decide ((y :: ys).getD j 0 ≤ (x :: xs).getD j 0)) (decide (ys.length ≤ xs.length)) (min xs.length ys.length) 0
    rw [e1, ← e2]
    show (if decide (x = y) = true then lexG xs ys else decide (y ≤ x)) = _
    rw [ih]
    by_cases c : x = y
    · rw [if_pos (decide_eq_true c), if_pos c]
    · rw [if_neg (by rw [decide_eq_false c]; decide), if_neg c]
def rGeT (K : PySem.W.Frag) : R2 := fun x y H Q => ∃ (a b : Addr) (ns ms : List Int), x = .ref a ∧ y = .ref b ∧ SqT K H a (ns.map V.int) ∧ SqT K H b (ms.map V.int) ∧ Q (.bl (lexG ns ms)) H
section
variable {X : Cx}
theorem op_geT (hu : X.A.units < cLine) : OpR X (compareOp .GtE) (rGeT X.K) := by
  intro pins s σ H x y v u Q I rx ry h
  obtain ⟨a, b, ns, ms, rfl, rfl, ha, hb, q⟩ := h
  cases rx
  cases ry
  obtain ⟨t1, r1, p1, _⟩ := I.tuple ha
  obtain ⟨t2, r2, p2, _⟩ := I.tuple hb
  have i1 : IntsAre t1 ns := Vals.ints r1
  have i2 : IntsAre t2 ms := Vals.ints r2
  have z1 : t1.toArray.size = ns.length := by rw [List.size_toArray]; exact i1.length
  have z2 : t2.toArray.size = ms.length := by rw [List.size_toArray]; exact i2.length
  have g1 : ∀ j (h : j < t1.toArray.size), ∃ t, t1.toArray[j] = .int (ns.getD j 0) t := fun j h => PyProof.Rows.IntsAre.int_at i1 _ _ (by simp at h; simp [h])
  have g2 : ∀ j (h : j < t2.toArray.size), ∃ t, t2.toArray[j] = .int (ms.getD j 0) t := fun j h => PyProof.Rows.IntsAre.int_at i2 _ _ (by simp at h; simp [h])
  have R := Ob.RcOp.tuples_ge (A := X.A) (s := s) (e := fun j => decide (ns.getD j 0 = ms.getD j 0)) (r := fun j => decide (ms.getD j 0 ≤ ns.getD j 0)) p1 p2 hu (fun j h1 h2 => by
    obtain ⟨t, et⟩ := g1 j h1; obtain ⟨t', et'⟩ := g2 j h2; rw [et, et']
    have z : (ns.getD j 0 == ms.getD j 0) = decide (ns.getD j 0 = ms.getD j 0) := by rw [Bool.eq_iff_iff, beq_iff_eq, decide_eq_true_iff]
    rw [← z]; exact SeqAt.EqAt.int_int _ _ _ _) (fun j h1 h2 _ => by
    obtain ⟨t, et⟩ := g1 j h1; obtain ⟨t', et'⟩ := g2 j h2; rw [et, et']
    exact Ob.RcOp.ge_int _ _ _ _)
  rw [z1, z2] at R
  have z : wpAny (model X.prog X.w) X.A (compareOp .GtE (.ref a) (.ref b)) (EP X pins σ Q) X.xe s := R X.prog X.w X.xe (EP X pins σ Q) ⟨.bl _, H, I, rfl, q⟩
  exact z
end
def aGeT : A2 := fun x y M Q => match x, y with
  | .d (.tup l), .d (.tup m) => Opt (intsOf l) fun ns => Opt (intsOf m) fun ms => Q (.d (.bl (geI ns ms))) M
  | _, _ => False
theorem intsOf_map' : ∀ {l : List D} {ns : List Int}, intsOf l = some ns → l = ns.map D.int
  | [], _, h => by cases h; rfl
  | x :: l, ns, h => by
    cases x <;> first | (exact absurd h (by intro z; cases z)) | skip
    rename_i i
    unfold intsOf at h
    cases e : intsOf l with
    | none => rw [e] at h; cases h
    | some ks => rw [e] at h; cases h; rw [intsOf_map' e]; rfl
theorem reps_ints_v {K : PySem.W.Frag} {I : Hp} : ∀ {ns : List Int} {vs : List V}, Reps K I (ns.map D.int) vs → vs = ns.map V.int
  | [], _, .nil => rfl
  | n :: ns, _, .cons r rs => by cases rep_int_inv r; rw [reps_ints_v rs]; rfl
theorem s2_geT {K : PySem.W.Frag} {W : Wd} : S2 K W (rGeT K) aGeT := by
  intro b M x y v u QA Q t ok r1 r2 h k
  unfold aGeT at h
  split at h
  · obtain ⟨ns, e1, ms, e2, q⟩ := h
    cases intsOf_map' e1
    cases intsOf_map' e2
    cases repA_d r1 with
    | tup hp rs => cases repA_d r2 with
      | tup hp' rs' =>
        cases reps_ints_v rs
        cases reps_ints_v rs'
        refine ⟨_, _, ns, ms, rfl, rfl, same_t ok.ih hp, same_t ok.ih hp', ?_⟩
        rw [lexG_eq]
        exact k b M _ _ t ok (Step.refl _) (.d (.bl _)) q
  · exact h.elim
theorem k_geT {X : Cx} {W : Wd} {K : PySem.W.Frag} (hu : X.A.units < cLine) (hK : X.K = K := by rfl) : AO X W (compareOp .GtE) (rGeT K) aGeT := by subst hK; exact ⟨op_geT hu, s2_geT⟩
end G

set_option Elab.async false
set_option linter.all false
set_option maxRecDepth 100000
namespace G
open PySem PySem.Spec PyProof.Rows L2
/-! ### t[lo:hi], t a tuple -/
def aSlT (a : Ae) (lo hi : Ao) : Ae := fun E M Q => a E M fun x M1 => lo E M1 fun l M2 => hi E M2 fun h M3 => match x with
  | .d (.tup xs) => Q (.d (.tup (cutD xs l h))) M3
  | _ => False
theorem cutD_whole {α : Type} {xs : List α} {l h : Option Int} (e : HT.sIx xs.length 0 l = 0 ∧ HT.sIx xs.length xs.length h = xs.length) : cutD xs l h = xs := by
  unfold cutD
  rw [e.1, e.2, List.drop_zero, Nat.sub_zero, List.take_length]
section
variable {K : PySem.W.Frag} {W : Wd}
theorem se_slT {t : TE} {tl th : TO} {a : Ae} {lo hi : Ao} (h : SE K W t a) (h1 : SOp K W tl lo) (h2 : SOp K W th hi) : SE K W (tSl (rSlA K) t tl th) (aSlT a lo hi) := by
  intro b M E σ QA Q t0 ok sl q k
  refine h b M E σ _ _ t0 ok sl q fun b1 M1 x v t1 ok1 s1 r1 q1 => ?_
  refine h1 b1 M1 E σ _ _ t1 ok1 (sl.mono s1.same s1.pre) q1 fun b2 M2 l t2 ok2 s2 q2 => ?_
  have s12 := s1.trans s2
  refine h2 b2 M2 E σ _ _ t2 ok2 (sl.mono s12.same s12.pre) q2 fun b3 M3 hh t3 ok3 s3 q3 => ?_
  have s13 := s12.trans s3
  have r3 := r1.mono (s2.trans s3).same (s2.trans s3).pre
  split at q3
  · rename_i xs
    obtain ⟨p, vs, rfl, hs, rs⟩ := tupOf_ok (x := .d (.tup xs)) ok3 r3 rfl
    refine ⟨p, vs, rfl, hs, fun e => ?_, fun _ => ?_⟩
    · rw [← rs.length] at e
      rw [cutD_whole e] at q3
      exact k b3 M3 _ _ t3 ok3 s13 r3 q3
    · exact new_d t3 ok3 (fun p hp => .tup (SqT.of upd_same) ((cutD_rep rs).mono (same_new (ok3.iNone hp)))) q3 fun b4 M4 z w t4 ok4 s4 r4 q4 => k b4 M4 z w t4 ok4 (s13.trans s4) r4 q4
  · exact q3.elim
end
section
variable {X : Cx} {W : Wd} {K : PySem.W.Frag} {pos : Pos} {e : Expr} {t : TE} {a : Ae}
theorem k_slT {lo hi : Option Expr} {tl th : TO} {al ah : Ao} {p2 : Pos} (h : AE X W e t a) (h1 : AOp X W lo tl al) (h2 : AOp X W hi th ah) (hK : X.K = K := by rfl) : AE X W (.Subscript e (.Slice lo hi none p2) pos) (tSl (rSlA K) t tl th) (aSlT a al ah) := by
  subst hK; exact ⟨pe_slice sl_tupA h.pe h1.po h2.po, se_slT h.se h1.so h2.so⟩
end
end G

set_option Elab.async false
set_option linter.all false
set_option maxRecDepth 100000
/-! The head's run in parts: all objects behind the top are looked at; each part's equation by its own, joined here. -/
namespace G
open PySem PySem.W PySem.Calls PyProof.Rows HandSHeadRun
def obsAt (fa : List He.Fa) (fn : List He.DefD) (xs : List (PySem.W.Frag → Bool)) (g : Addr → Option Obj) (n : Nat) : AlE := obsE fa fn xs (He.frG g (List.range n))
def hookR (fa : List He.Fa) (fn : List He.DefD) (xs : List (PySem.W.Frag → Bool)) : PySem.W.Hook where
  α := AlE
  obs := fun s => obsAt fa fn xs s.heap.get? s.heap.objs.size
  val := fun _ => valE fn
  says := fun _ h => ∃ K : PySem.W.Frag, K.In h ∧ SaysE fa fn xs K
  of := fun _ _ e => ⟨_, He.frG_in, e⟩
  keeps := fun _ _ _ ⟨K, hK, c⟩ k => ⟨K, PySem.W.Frag.In.keeps hK k, c⟩
def obsT (fa : List He.Fa) (fn : List He.DefD) (xs : List (PySem.W.Frag → Bool)) (s : SharedT) : AlE := obsAt fa fn xs (getT s) s.n
theorem obsT_eq {fa : List He.Fa} {fn : List He.DefD} {xs : List (PySem.W.Frag → Bool)} (s : SharedT) : obsT fa fn xs s = (hookR fa fn xs).obs s.abs := by
  have e : getT s = s.abs.heap.get? := funext (getT_eq s)
  have n : s.abs.heap.objs.size = s.n := absHeap_size s.tree s.n _
  show obsAt fa fn xs (getT s) s.n = obsAt fa fn xs s.abs.heap.get? s.abs.heap.objs.size
  rw [e, n]
def Part (r : OpenRow) (M : Nat) (fa : List He.Fa) (fn : List He.DefD) (xs : List (PySem.W.Frag → Bool)) (w : World) (os : OsState) : Prop :=
  (endF (stepQ (denQ tabQ) r.prog w) M r.prog w os).map (fun s => obsT fa fn xs s) = some (valE fn)
def Base (r : OpenRow) (q : Program) (M : Nat) (loose : List PySem.Str) (w : World) (os : OsState) : Prop :=
  (endF (stepQ (denQ tabQ) r.prog w) M r.prog w os).map (fun s => (looksF r.prog (boot_heap w.params) s.abs, seenQ q loose (importedModules r.prog.main.body) (fun s => xlAt q [] s && recOk r.toRowW.records s) s.abs)) = some (true, openGood q loose)
theorem part_at {r : OpenRow} {M : Nat} {fa : List He.Fa} {fn : List He.DefD} {xs : List (PySem.W.Frag → Bool)} {w : World} {os : OsState} {s : SharedT} (h : Part r M fa fn xs w os) (e : endF (stepQ (denQ tabQ) r.prog w) M r.prog w os = some s) : obsT fa fn xs s = valE fn := by
  unfold Part at h
  rw [e] at h
  exact Option.some.inj h
theorem part_app {r : OpenRow} {M : Nat} {fa fb : List He.Fa} {fn gn : List He.DefD} {xs ys : List (PySem.W.Frag → Bool)} {w : World} {os : OsState} (h : Part r M fa fn xs w os) (g : Part r M fb gn ys w os) : Part r M (fa ++ fb) (fn ++ gn) (xs ++ ys) w os := by
  unfold Part
  cases e : endF (stepQ (denQ tabQ) r.prog w) M r.prog w os with
  | none => unfold Part at h; rw [e] at h; cases h
  | some s =>
    have h1 := part_at h e
    have g1 := part_at g e
    show some (obsT (fa ++ fb) (fn ++ gn) (xs ++ ys) s) = some (valE (fn ++ gn))
    congr 1
    unfold obsT obsAt obsE He.obsD valE He.valD at *
    generalize He.frG (getT s) (List.range s.n) = K at *
    have h2 := congrArg (fun z : AlE => z.1.1) h1
    have h3 := congrArg (fun z : AlE => z.1.2) h1
    have h4 := congrArg (fun z : AlE => z.2) h1
    have g2 := congrArg (fun z : AlE => z.1.1) g1
    have g3 := congrArg (fun z : AlE => z.1.2) g1
    have g4 := congrArg (fun z : AlE => z.2) g1
    dsimp only at h2 h3 h4 g2 g3 g4
    rw [Bool.and_eq_true_iff] at h2 g2
    rw [List.all_append, List.all_append, List.all_append, List.map_append, List.map_append, h2.1, h2.2, g2.1, g2.2, h3, g3, h4, g4]
    rfl
theorem run_of {r : OpenRow} {q : Program} {M : Nat} {fa : List He.Fa} {fn : List He.DefD} {xs : List (PySem.W.Frag → Bool)} {loose : List PySem.Str} {w : World} (h : ∀ os, Base r q M loose w os) (g : ∀ os, Part r M fa fn xs w os) : RunEq r q (hookR fa fn xs) (obsT fa fn xs) M loose w := by
  intro os
  have h1 := h os
  have g1 := g os
  unfold Base at h1
  cases e : endF (stepQ (denQ tabQ) r.prog w) M r.prog w os with
  | none => rw [e] at h1; cases h1
  | some s =>
    have g2 := part_at g1 e
    rw [e] at h1
    have h2 := Option.some.inj h1
    show some (looksF r.prog (boot_heap w.params) s.abs, seenQ q loose (importedModules r.prog.main.body) (fun s => xlAt q [] s && recOk r.toRowW.records s) s.abs, obsT fa fn xs s) = some (true, openGood q loose, valE fn)
    rw [g2]
    have h3 := congrArg (fun z => z.1) h2
    have h4 := congrArg (fun z => z.2) h2
    dsimp only at h3 h4
    rw [h3, h4]
end G

set_option Elab.async false
set_option linter.all false
set_option maxRecDepth 100000
namespace G
open PySem PySem.Spec PyProof.Rows L2
section
variable {K : PySem.W.Frag} {W : Wd}
/-! ### a text's part -/
def aSlS (a : Ae) (lo hi : Ao) : Ae := fun E M Q => a E M fun x M1 => lo E M1 fun l M2 => hi E M2 fun h M3 => match x with
  | .d (.str z) => Side (z.length ≤ sizeLine) (Q (.d (.str (cutS z l h))) M3)
  | _ => False
theorem se_slS {t : TE} {tl th : TO} {a : Ae} {lo hi : Ao} (h : SE K W t a) (h1 : SOp K W tl lo) (h2 : SOp K W th hi) : SE K W (tSl rSlS t tl th) (aSlS a lo hi) := by
  intro b M E σ QA Q t0 ok sl q k
  refine h b M E σ _ _ t0 ok sl q fun b1 M1 x v t1 ok1 s1 r1 q1 => ?_
  refine h1 b1 M1 E σ _ _ t1 ok1 (sl.mono s1.same s1.pre) q1 fun b2 M2 l t2 ok2 s2 q2 => ?_
  have s12 := s1.trans s2
  refine h2 b2 M2 E σ _ _ t2 ok2 (sl.mono s12.same s12.pre) q2 fun b3 M3 hh t3 ok3 s3 q3 => ?_
  have s13 := s12.trans s3
  split at q3
  · rename_i z
    cases repA_d r1 with
    | str => exact ⟨z, rfl, q3.s, k b3 M3 _ _ t3 ok3 s13 (.d (.str _)) q3.q⟩
  · exact q3.elim
/-! ### f'..' -/
def aFmt (a : Ae) : Ae := fun E M Q => a E M fun x M1 => match x with
  | .d (.str y) => Side (y.length ≤ sizeLine) (Q (.d (.str y)) M1)
  | .d (.int i) => Side (i.natAbs.log2 < 1920) (Q (.d (.str (toString i))) M1)
  | _ => False
theorem se_fmt {t : TE} {a : Ae} (h : SE K W t a) : SE K W (tFmt t) (aFmt a) := by
  intro b M E σ QA Q t0 ok sl q k
  refine h b M E σ _ _ t0 ok sl q fun b1 M1 x v t1 ok1 s1 r1 q1 => ?_
  split at q1
  · rename_i y
    cases repA_d r1 with
    | str => exact .inl ⟨y, rfl, q1.s, k b1 M1 _ _ t1 ok1 s1 (.d (.str _)) q1.q⟩
  · rename_i i
    cases repA_d r1 with
    | int => exact .inr ⟨i, rfl, q1.s, k b1 M1 _ _ t1 ok1 s1 (.d (.str _)) q1.q⟩
  · exact q1.elim
def aJs : List Ae → Str → Env → Mem → (Str → Mem → Prop) → Prop
  | [], acc, _, M, Q => Q acc M
  | a :: as, acc, E, M, Q => a E M fun x M1 => match x with
    | .d (.str y) => Side ((acc ++ y).length ≤ sizeLine) (aJs as (acc ++ y) E M1 Q)
    | _ => False
inductive SJ (K : PySem.W.Frag) (W : Wd) : List TE → List Ae → Prop
  | nil : SJ K W [] []
  | cons {t : TE} {a : Ae} {ts : List TE} {as : List Ae} : SE K W t a → SJ K W ts as → SJ K W (t :: ts) (a :: as)
theorem sj_run {ts : List TE} {as : List Ae} (h : SJ K W ts as) : ∀ (acc : Str) (b : Wd) (M : Mem) (E : Env) (σ : L2.St) (QA : Str → Mem → Prop) (Q : Str → Hp → Prop), To W b → Ok K b M → Slots K b.al b.I E σ → aJs as acc E M QA →
    (∀ b' M' out, To W b' → Ok K b' M' → Step b b' → QA out M' → Q out b'.H) → tJs ts acc σ b.H Q := by
  induction h with
  | nil => intro acc b M E σ QA Q t ok sl q k; exact k b M acc t ok (Step.refl _) q
  | cons h1 h2 ih =>
    intro acc b M E σ QA Q t ok sl q k
    refine h1 b M E σ _ _ t ok sl q fun b1 M1 x v t1 ok1 s1 r1 q1 => ?_
    split at q1
    · rename_i y
      cases repA_d r1 with
      | str => exact ⟨y, rfl, q1.s, ih _ b1 M1 E σ _ _ t1 ok1 (sl.mono s1.same s1.pre) q1.q fun b2 M2 out t2 ok2 s2 q2 => k b2 M2 out t2 ok2 (s1.trans s2) q2⟩
    · exact q1.elim
def aJoined (as : List Ae) : Ae := fun E M Q => aJs as Str.empty E M fun out M1 => Q (.d (.str out)) M1
theorem se_joined {ts : List TE} {as : List Ae} (h : SJ K W ts as) : SE K W (fun σ H Q => tJs ts Str.empty σ H fun out H1 => Q (.str out) H1) (aJoined as) := by
  intro b M E σ QA Q t ok sl q k
  exact sj_run h Str.empty b M E σ _ _ t ok sl q fun b1 M1 out t1 ok1 s1 q1 => k b1 M1 _ _ t1 ok1 s1 (.d (.str _)) q1
/-! ### int(text) -/
def cIntS : Ac := fun xs M Q => match xs with
  | [.d (.str a)] => Opt (PySem.intText? a) fun n => Side (a.length ≤ 640) (Q (.d (.int n)) M)
  | _ => False
theorem sc_intS : SC K W (fun xs H Q => ∃ a n, xs = [.str a] ∧ PySem.intText? a = some n ∧ a.length ≤ 640 ∧ Q (.int n) H) cIntS := by
  intro b M xs vs QA Q t ok r h k
  unfold cIntS at h
  split at h
  · obtain ⟨v, rfl, r1⟩ := repAs_1 r
    obtain ⟨n, e, hl, q⟩ := h
    cases repA_d r1 with
    | str => exact ⟨_, n, rfl, e, hl, k b M _ _ t ok (Step.refl _) (.d (.int _)) q⟩
  · exact h.elim
/-! ### methods of texts -/
def aSM (rA : Am) (a : Ae) (as : Aa) : Ae := fun E M Q => a E M fun x M1 => match x with
  | .d (.str z) => as E M1 fun xs M2 => rA (.d (.str z)) xs M2 Q
  | _ => False
theorem se_SM {r : V → List V → Hp → VK → Prop} {rA : Am} {t : TE} {ts : TA} {a : Ae} {as : Aa} (h : SE K W t a) (hs : SA K W ts as) (hr : SM K W r rA) : SE K W (tBM K "str" r t ts) (aSM rA a as) := by
  intro b M E σ QA Q t0 ok sl h1 k
  refine h b M E σ _ _ t0 ok sl h1 fun b1 M1 x v t1 ok1 s1 r1 h2 => ?_
  split at h2
  · rename_i z
    have r1' := r1
    cases repA_d r1 with
    | str =>
      refine ⟨rfl, hs b1 M1 E σ _ _ t1 ok1 (sl.mono s1.same s1.pre) h2 fun b2 M2 xs vs t2 ok2 s2 r2 h3 => ?_⟩
      exact hr b2 M2 (.d (.str z)) _ xs vs _ _ t2 ok2 (r1'.mono s2.same s2.pre) r2 h3 fun b3 M3 z w t3 ok3 s3 r3 q => k b3 M3 z w t3 ok3 ((s1.trans s2).trans s3) r3 q
  · exact h2.elim
abbrev rJoin (K : PySem.W.Frag) : V → List V → Hp → VK → Prop := fun x xs H Q => ∃ a p, ∃ ys : List Str, x = .str a ∧ xs = [.ref p] ∧ (SqL K H p (ys.map V.str) ∨ SqT K H p (ys.map V.str)) ∧ (ys.map (·.length)).sum + ys.length * a.length ≤ 16777216 ∧ Q (.str (Txt.join a ys)) H
def mJoin : Am := fun x xs M Q => match x, xs with
  | .d (.str a), [.d (.lst l)] => Opt (strsOf l) fun ys => Side ((ys.map (·.length)).sum + ys.length * a.length ≤ 16777216) (Q (.d (.str (Txt.join a ys))) M)
  | .d (.str a), [.d (.tup l)] => Opt (strsOf l) fun ys => Side ((ys.map (·.length)).sum + ys.length * a.length ≤ 16777216) (Q (.d (.str (Txt.join a ys))) M)
  | _, _ => False
theorem sm_join : SM K W (rJoin K) mJoin := by
  intro b M x v xs vs QA Q t ok r1 rs h k
  unfold mJoin at h
  split at h
  · rename_i a l
    obtain ⟨ys, e, hl, q⟩ := h
    have e2 := strsOf_eq e
    subst e2
    obtain ⟨u, rfl, r2⟩ := repAs_1 rs
    cases repA_d r1 with
    | str =>
      cases repA_d r2 with
      | lst hp rr => exact ⟨_, _, ys, rfl, rfl, .inl (by rw [← rr.strs]; exact SqL.of (ok.ih _ _ hp)), hl, k b M _ _ t ok (Step.refl _) (.d (.str _)) q⟩
  · rename_i a l
    obtain ⟨ys, e, hl, q⟩ := h
    have e2 := strsOf_eq e
    subst e2
    obtain ⟨u, rfl, r2⟩ := repAs_1 rs
    cases repA_d r1 with
    | str =>
      cases repA_d r2 with
      | tup hp rr => exact ⟨_, _, ys, rfl, rfl, .inr (by rw [← rr.strs]; exact same_t ok.ih hp), hl, k b M _ _ t ok (Step.refl _) (.d (.str _)) q⟩
  · exact h.elim
/-! ### a walk over a text -/
def chars (s : Str) : List D := s.cps.toList.map fun c => D.str ⟨#[c]⟩
theorem its_str {I : Hp} {x : Str} : ItS K I (Its x) (chars x) where
  stop := fun I2 H2 s1 s2 => by show x.cps.size ≤ (chars x).length; unfold chars; simp
  go := fun I2 H2 i d s1 s2 hd => by
    unfold chars at hd
    rw [List.getElem?_map] at hd
    cases e : x.cps.toList[i]? with
    | none => rw [e] at hd; cases hd
    | some c =>
      rw [e] at hd
      cases hd
      have e2 : x.cps[i]? = some c := by rw [← Array.getElem?_toList]; exact e
      refine ⟨by show i < x.cps.size; exact (Array.getElem?_eq_some_iff.mp e2).1, fun v H3 y => .inl ⟨y.1, ?_⟩⟩
      obtain ⟨c', h1, rfl⟩ := y.2
      rw [e2] at h1
      cases h1
      exact .str _
def aiStr (a : Ae) : Ai := fun E M Q => a E M fun x M1 => match x with
  | .d (.str s) => Q (chars s) M1
  | _ => False
theorem si_str {t : TE} {a : Ae} (h : SE K W t a) : SI K W (iStr t) (aiStr a) := by
  intro b M E σ QA R t0 ok sl h1 k
  refine h b M E σ _ _ t0 ok sl h1 fun b1 M1 x v t1 ok1 s1 r1 h2 => ?_
  split at h2
  · cases repA_d r1 with
    | str => exact ⟨_, rfl, k b1 M1 _ _ t1 ok1 s1 its_str h2⟩
  · exact h2.elim
/-! ### a dict of texts, its values reckoned -/
def aPairs : List (Str × Ae) → Env → Mem → (List A → Mem → Prop) → Prop
  | [], _, M, Q => Q [] M
  | p :: r, E, M, Q => p.2 E M fun x M1 => aPairs r E M1 fun xs M2 => Q (x :: xs) M2
def zipK : List Str → List A → List (Key × A)
  | s :: ss, x :: xs => (Sum.inr s, x) :: zipK ss xs
  | _, _ => []
def zipV : List Str → List V → List (Key × V)
  | s :: ss, x :: xs => (Sum.inr s, x) :: zipV ss xs
  | _, _ => []
def aDispE (cps : List (Str × Ae)) : Ae := fun E M Q => aPairs cps E (M ++ [.dic []]) fun xs M2 => match M2[M.length]? with
  | some (.dic []) => Q (.cell M.length) (M2.set M.length (.dic (zipK (cps.map (·.1)) xs)))
  | _ => False
inductive SP (K : PySem.W.Frag) (W : Wd) : List (TE × TE) → List (Str × Ae) → Prop
  | nil : SP K W [] []
  | cons {s : Str} {t : TE} {a : Ae} {ts : List (TE × TE)} {as : List (Str × Ae)} : SE K W t a → SP K W ts as → SP K W ((tC (.str s), t) :: ts) ((s, a) :: as)
theorem sp_run {ts : List (TE × TE)} {cps : List (Str × Ae)} (h : SP K W ts cps) : ∀ (b : Wd) (M : Mem) (E : Env) (σ : L2.St) (QA : List A → Mem → Prop) (Q : List (V × V) → Hp → Prop), To W b → Ok K b M → Slots K b.al b.I E σ → aPairs cps E M QA →
    (∀ b' M' xs vs, To W b' → Ok K b' M' → Step b b' → RepAs K b'.al b'.I xs vs → vs.length = cps.length → QA xs M' → Q ((cps.map (·.1)).zipWith (fun s v => (V.str s, v)) vs) b'.H) → tPairs ts σ b.H Q := by
  induction h with
  | nil => intro b M E σ QA Q t ok sl q k; exact k b M [] [] t ok (Step.refl _) .nil rfl q
  | cons h1 h2 ih =>
    intro b M E σ QA Q t ok sl q k
    show (_ : Prop)
    refine h1 b M E σ _ _ t ok sl q fun b1 M1 x v t1 ok1 s1 r1 q1 => ?_
    refine ih b1 M1 E σ _ _ t1 ok1 (sl.mono s1.same s1.pre) q1 fun b2 M2 xs vs t2 ok2 s2 r2 hl q2 => ?_
    exact k b2 M2 (x :: xs) (v :: vs) t2 ok2 (s1.trans s2) (.cons (r1.mono s2.same s2.pre) r2) (by rw [List.length_cons, hl, List.length_cons]) q2
theorem zip_kv : ∀ {ss : List Str} {vs : List V}, ss.zipWith (fun s v => (V.str s, v)) vs = (zipV ss vs).map (fun kv => (kV kv.1, kv.2))
  | [], [] => rfl
  | [], _ :: _ => rfl
  | _ :: _, [] => rfl
  | s :: ss, v :: vs => by
    show (V.str s, v) :: ss.zipWith _ vs = _
    rw [zip_kv]; rfl
theorem zip_rep {al : List Addr} {I : Hp} : ∀ {ss : List Str} {xs : List A} {vs : List V}, RepAs K al I xs vs → RepAK K al I (zipK ss xs) (zipV ss vs)
  | [], _, _, .nil => .nil
  | [], _, _, .cons _ _ => .nil
  | _ :: _, _, _, .nil => .nil
  | s :: ss, _, _, .cons h r => .cons h (zip_rep r)
theorem zip_len : ∀ (ss : List Str) (vs : List V), (zipV ss vs).length ≤ ss.length
  | [], [] => Nat.le_refl _
  | [], _ :: _ => Nat.le_refl _
  | _ :: _, [] => Nat.zero_le _
  | s :: ss, v :: vs => by
    show (zipV ss vs).length + 1 ≤ ss.length + 1
    have := zip_len ss vs; omega
theorem zip_keys : ∀ (ss : List Str) (vs : List V) (p : Key × V), p ∈ zipV ss vs → ∃ s ∈ ss, p.1 = Sum.inr s
  | [], [], p, h => by cases h
  | [], _ :: _, p, h => by cases h
  | _ :: _, [], p, h => by cases h
  | s :: ss, v :: vs, p, h => by
    rcases List.mem_cons.mp h with h | h
    · exact ⟨s, List.mem_cons_self, by rw [h]⟩
    · obtain ⟨z, h1, h2⟩ := zip_keys ss vs p h
      exact ⟨z, List.mem_cons_of_mem _ h1, h2⟩
theorem merge_new : ∀ (ss : List Str) (vs : List V) (acc : List (Key × V)), ss.Nodup → (∀ s ∈ ss, ∀ p ∈ acc, p.1 ≠ Sum.inr s) → mergeK acc (zipV ss vs) = acc ++ zipV ss vs
  | [], [], acc, _, _ => by show acc = acc ++ []; simp
  | [], _ :: _, acc, _, _ => by show acc = acc ++ []; simp
  | _ :: _, [], acc, _, _ => by show acc = acc ++ []; simp
  | s :: ss, v :: vs, acc, nd, hd => by
    have hp : putK acc (Sum.inr s) v = acc ++ [(Sum.inr s, v)] := by
      unfold putK
      rw [if_neg]
      intro h
      obtain ⟨p, hp, e⟩ := List.any_eq_true.mp h
      exact hd s List.mem_cons_self p hp (of_decide_eq_true e)
    have ih := merge_new ss vs (acc ++ [(Sum.inr s, v)]) (List.nodup_cons.mp nd).2 (fun z hz p hp => by
      rcases List.mem_append.mp hp with h | h
      · exact hd z (List.mem_cons_of_mem _ hz) p h
      · simp only [List.mem_cons, List.not_mem_nil, or_false] at h
        subst h
        intro e
        injection e with e
        subst e
        exact (List.nodup_cons.mp nd).1 hz)
    show mergeK (putK acc (Sum.inr s) v) (zipV ss vs) = acc ++ ((Sum.inr s, v) :: zipV ss vs)
    rw [hp, ih, List.append_assoc]; rfl
theorem se_dispE {ts : List (TE × TE)} {cps : List (Str × Ae)} (h : SP K W ts cps) (nd : (cps.map (·.1)).Nodup) (h15 : cps.length ≤ 15) : SE K W (tDisp ts) (aDispE cps) := by
  intro b M E σ QA Q t ok sl q k
  intro p hp
  unfold aDispE at q
  have ok0 : Ok K ⟨b.I, b.al ++ [p], upd b.H p (.dK [])⟩ (M ++ [.dic []]) := ok.cell (c := .dic []) hp ⟨ok.iNone hp, _, upd_same, .nil⟩
  have t0 : To W ⟨b.I, b.al ++ [p], upd b.H p (.dK [])⟩ := t.cell ok hp
  have st0 : Step b ⟨b.I, b.al ++ [p], upd b.H p (.dK [])⟩ := step_cell ok hp
  refine sp_run h ⟨b.I, b.al ++ [p], upd b.H p (.dK [])⟩ (M ++ [.dic []]) E σ _ _ t0 ok0 (sl.mono st0.same st0.pre) q fun b2 M2 xs vs t2 ok2 s2 r2 hl q2 => ?_
  split at q2
  · rename_i e2
    have ha : b2.al[M.length]? = some p := s2.pre.get (by show (b.al ++ [p])[M.length]? = some p; rw [← ok.len]; exact len_get)
    obtain ⟨hI, gs, hH, hg⟩ := ok2.at_ _ _ _ ha e2
    cases hg
    refine ⟨hH, zipV (cps.map (·.1)) vs, zip_kv, Nat.le_trans (zip_len _ _) (by rw [List.length_map]; exact h15), ?_⟩
    rw [merge_new _ _ [] nd (fun _ _ p hp => by cases hp), List.nil_append]
    exact k ⟨b2.I, b2.al, upd b2.H p (.dK (zipV (cps.map (·.1)) vs))⟩ _ (.cell M.length) (.ref p) (t2.put ha) (ok2.put (c := .dic (zipK (cps.map (·.1)) xs)) ha hI ⟨hI, _, upd_same, zip_rep r2⟩) ((st0.trans s2).trans (step_put ha)) (.cell ha) q2
  · exact q2.elim
end
section
variable {X : Cx} {W : Wd} {K : PySem.W.Frag} {pos : Pos} {e : Expr} {es : List Expr} {t : TE} {a : Ae} {ts : List TE} {as : List Ae}
theorem ae_slS {lo hi : Option Expr} {tl th : TO} {al ah : Ao} {p2 : Pos} (h : AE X W e t a) (h1 : AOp X W lo tl al) (h2 : AOp X W hi th ah) (hK : X.K = K := by rfl) : AE X W (.Subscript e (.Slice lo hi none p2) pos) (tSl rSlS t tl th) (aSlS a al ah) :=
  ⟨pe_slice sl_str h.pe h1.po h2.po, hK ▸ se_slS (hK ▸ h.se) (hK ▸ h1.so) (hK ▸ h2.so)⟩
theorem k_sm {o : Expr} {es' : List Expr} {apos : Pos} {name : Str} {id : String} {r : V → List V → Hp → VK → Prop} {rA : Am} {to : TE} {ao : Ae} {tas : TA} {aas : Aa} (slot : Slot "str" name id) (hty : typeOf (.builtin id) = pure (.type "method_descriptor")) (hm : MtR X id r) (hs : SM K W r rA) (ho : AE X W o to ao) (ha : AA X W (e :: es') tas aas) (hK : X.K = K := by rfl)
    (hbase : attributeBase o name X.env (eval o X.env) = eval o X.env := by rfl)
    (hfew : ((backTo pos (starEach (e :: es') X.env)).all (fun x => !x.1) && (backToKw pos (keywordEach [] X.env)).all (fun x => x.1.isSome)
      && decide ((e :: es').length + ([] : List Keyword).length + (if ([] : List Keyword).isEmpty then 0 else 1) < 30)) = true := by rfl)
    (hline : (apos.endLine == pos.line) = true := by rfl) (hst : starEach (e :: es') X.env = (false, eval e X.env) :: starEach es' X.env := by rfl) (hplain : (backTo pos (starEach es' X.env)).any (·.1) = false := by rfl) :
    AE X W (.Call (.Attribute o name apos) (e :: es') [] pos) (tBM K "str" r to tas) (aSM rA ao aas) := by
  subst hK; exact ⟨pe_bm PySem.F.plainAttrs_str slot hty hm ho.pe ha.pa hbase hfew hline hst hplain, se_SM ho.se ha.sa hs⟩
theorem k_str {tg : Expr} (h : AE X W e t a) : AI X W tg e (iStr t) (aiStr a) := ⟨pi_str h.pe, si_str h.se⟩
theorem ae_fmt (h : AE X W e t a) : AE X W (.FormattedValue e (-1) none pos) (tFmt t) (aFmt a) := ⟨pe_fmt h.pe, se_fmt h.se⟩
structure AJ (X : Cx) (W : Wd) (es : List Expr) (ts : List TE) (as : List Ae) : Prop where
  pj : PJ X es ts
  sj : SJ X.K W ts as
theorem aj_nil : AJ X W [] [] [] := ⟨.nil, .nil⟩
theorem aj_cons (h : AE X W e t a) (g : AJ X W es ts as) : AJ X W (e :: es) (t :: ts) (a :: as) := ⟨.cons h.pe g.pj, .cons h.se g.sj⟩
theorem ae_joined {v1 v2 : Expr} {rest : List Expr} (h : AJ X W (v1 :: v2 :: rest) ts as) : AE X W (.JoinedStr (v1 :: v2 :: rest) pos) (fun σ H Q => tJs ts Str.empty σ H fun out H1 => Q (.str out) H1) (aJoined as) := ⟨pe_joined h.pj, se_joined h.sj⟩
structure AP (X : Cx) (W : Wd) (pos : Pos) (keys : List (Option Expr)) (values : List Expr) (trs : List (TE × TE)) (cps : List (Str × Ae)) : Prop where
  pps : PPs X pos keys values trs
  sp : SP X.K W trs cps
theorem ap_nil : AP X W pos [] [] [] [] := ⟨pps_nil, .nil⟩
theorem ap_cons {k v : Expr} {ks : List (Option Expr)} {vs : List Expr} {s : Str} {trs : List (TE × TE)} {cps : List (Str × Ae)} (hk : PE X k (tC (.str s))) (hv : AE X W v t a) (g : AP X W pos ks vs trs cps) : AP X W pos (some k :: ks) (v :: vs) ((tC (.str s), t) :: trs) ((s, a) :: cps) := ⟨pps_cons hk hv.pe g.pps, .cons hv.se g.sp⟩
theorem k_dispE {keys : List (Option Expr)} {values : List Expr} {trs : List (TE × TE)} {cps : List (Str × Ae)} (h : AP X W pos keys values trs cps) (nd : (cps.map (·.1)).Nodup := by decide) (h15 : cps.length ≤ 15 := by decide) (hall : keys.all (·.isSome) = true := by rfl) (hl : keys.length = values.length := by rfl) (h0 : keys ≠ [] := by exact List.cons_ne_nil _ _)
    (hk : keys.length ≤ 15 := by decide) : AE X W (.Dict keys values pos) (tDisp trs) (aDispE cps) := ⟨pe_disp h.pps hall hl h0 hk, se_dispE h.sp nd h15⟩
end
end G

set_option Elab.async false
set_option linter.all false
set_option maxRecDepth 100000
namespace G
open PySem PySem.Spec PyProof.Rows L2
section
variable {K : PySem.W.Frag} {W : Wd}
/-! ### range(i, j, k) -/
def aiRngS (as : Aa) : Ai := fun E M Q => as E M fun xs M1 => match xs with
  | [.d (.int i), .d (.int j), .d (.int k)] => ∃ n, RgC i j k n ∧ Q (rngD i k n) M1
  | _ => False
theorem si_rngS {t : TA} {as : Aa} (h : SA K W t as) : SI K W (iRng3 t) (aiRngS as) := by
  intro b M E σ QA R t0 ok sl h1 k
  refine h b M E σ _ _ t0 ok sl h1 fun b1 M1 xs vs t1 ok1 s1 r1 h2 => ?_
  split at h2
  · obtain ⟨v, u, z, rfl, r, r', r''⟩ := repAs_3 r1
    cases rep_int_inv (repA_d r)
    cases rep_int_inv (repA_d r')
    cases rep_int_inv (repA_d r'')
    obtain ⟨n, c, q⟩ := h2
    exact ⟨_, _, _, _, rfl, c, k b1 M1 _ _ t1 ok1 s1 its_rngC q⟩
  · exact h2.elim
end
section
variable {X : Cx} {W : Wd} {tg e e2 e3 : Expr} {ts : TA} {as : Aa} {p pos : Pos}
theorem ai_rngS (hm : X.mg "range" = none) (ha : AA X W [e, e2, e3] ts as) (hg : Gl X "range" := by rfl)
    (hs : starEach [e, e2, e3] X.env = (false, eval e X.env) :: starEach [e2, e3] X.env := by rfl) (hpl : (backTo pos (starEach [e2, e3] X.env)).any (·.1) = false := by rfl) :
    AI X W tg (.Call (.Name "range" p) [e, e2, e3] [] pos) (iRng3 ts) (aiRngS as) := ⟨pi_range3 hg hm ha.pa hs hpl, si_rngS ha.sa⟩
end
end G

set_option Elab.async false
set_option linter.all false
set_option maxRecDepth 100000
namespace G
open PySem PySem.Spec PyProof.Rows L2
/-! ### f(e, .., k = v, ..), f a local name that holds a def -/
def tCallNL (i : Nat) (f : Addr) (n m : Nat) (sp : Sp) (gV : List V → List V → List V) (E : XK) (t tk : TA) : TE := fun σ H Q => σ[i]? = some (some (.ref f)) ∧ tCallN n m sp gV E t tk σ H Q
section
variable {X : Cx} {CX : CXT} {k i n : Nat} {f : Addr} {fd : FuncData} {ps ks : List Str} {sp : Sp} {g : List Value → List Value → List Value} {gV : List V → List V → List V} {E : XK} {x : Str} {p pos : Pos} {e : Expr} {es : List Expr} {kws : List Keyword} {t tk : TA}
theorem pe_callNL (F : FnOk X.prog X.w X.K X.mg X.base CX k f fd ps sp) (hr : Room k X.A) (hN : X.N[i]? = some x) (hv : Vis X.env.scope x) (hk : PySem.W.keepIn X.K (.ref f) = true) (hb : KBn X.K fd ps n ks g gV) (hx : Passes CX X E)
    (ha : PA X (e :: es) t) (hkw : PK X kws tk) (hall : (backToKw pos (keywordEach kws X.env)).all (·.1.isSome) = true := by rfl) (hks : (backToKw pos (keywordEach kws X.env)).filterMap (·.1) = ks := by rfl)
    (hdb : (x == ("__debug__" : Str)) = false := by decide) (hcd : (x == ("__classdict__" : Str)) = false := by decide) (he : starEach (e :: es) X.env = (false, eval e X.env) :: starEach es X.env := by rfl)
    (hpl : ((backTo pos (starEach (e :: es) X.env)).any (·.1) || (backToKw pos (keywordEach kws X.env)).any (·.1.isNone)) = false := by rfl) :
    PE X (.Call (.Name x p) (e :: es) kws pos) (tCallNL i f n ks.length sp gV E t tk) := by
  refine ⟨fun pins s σ H Q I h => ?_⟩
  obtain ⟨hs, ht⟩ := h
  refine wpAny_Call_Name_kw (thn ((pe_var (pos := p) hN hv hdb hcd).run pins s σ H (fun v H1 => v = .ref f ∧ H1 = H) I ⟨.ref f, hs, rfl, rfl⟩) fun u s1 ⟨v, H1, I1, r1, q1⟩ => ?_)
  obtain ⟨rfl, rfl⟩ := q1
  cases r1
  refine PySem.W.callWith_KW (h₀ := X.base) I.ok.mod.kin hk hall (thn (ha.run pos pins s1 σ _ _ I1 ht) fun us s2 ⟨vs, H2, I2, r, q⟩ => ?_) hpl he
  refine thn (hkw.run pos pins s2 σ H2 _ I2 q) fun ws s3 ⟨zs, H3, I3, rz, l1, l2, q2⟩ => ⟨I3.kIn, ?_⟩
  rw [hks]
  exact run_fnN F hr hb hx I3 r rz l1 l2 q2
end
/-- the slot holds the def that stands under the name x -/
def aDefKL (mg : Str → Option Value) (x : Str) (i : Nat) (sp : ASp) (n m : Nat) (gA : List A → List A → List A) (as ak : Aa) : Ae := fun E M Q => match E[i]? with
  | some (some (.d (.vl (.ref f)))) => Side (mg x = some (.ref f)) (aDefK sp n m gA as ak E M Q)
  | _ => False
section
variable {X : Cx} {W : Wd} {K : PySem.W.Frag} {pos p : Pos} {e : Expr} {es : List Expr} {kws : List Keyword} {ts tk : TA} {as ak : Aa} {sp : ASp} {k j n : Nat} {x y : Str} {ks : List Str} {ms : List D} {gp : {α : Type} → List α → List α → List α → List α}
theorem k_defKL (F : DefK X.prog X.w X.K X.mg X.base x k sp n ks ms gp) (i : Nat) (hr : Room j X.A) (hkj : k ≤ j) (ha : AA X W (e :: es) ts as) (hkw : AK X W kws tk ak) (hN : X.N[i]? = some y := by rfl) (hv : Vis X.env.scope y := by first | exact Or.inl rfl | exact Or.inr (Or.inl rfl) | exact Or.inr (Or.inr rfl))
    (hall : (backToKw pos (keywordEach kws X.env)).all (·.1.isSome) = true := by rfl) (hks : (backToKw pos (keywordEach kws X.env)).filterMap (·.1) = ks := by rfl) (hdb : (y == ("__debug__" : Str)) = false := by decide) (hcd : (y == ("__classdict__" : Str)) = false := by decide)
    (he : starEach (e :: es) X.env = (false, eval e X.env) :: starEach es X.env := by rfl)
    (hpl : ((backTo pos (starEach (e :: es) X.env)).any (·.1) || (backToKw pos (keywordEach kws X.env)).any (·.1.isNone)) = false := by rfl) (hK : X.K = K := by rfl) :
    ∃ t : TE, AE X W (.Call (.Name y p) (e :: es) kws pos) t (aDefKL X.mg x i sp n ks.length (fun xs ys => gp xs (ms.map A.d) ys) as ak) := by
  subst hK
  obtain ⟨f, fd, ps, g, F, hm, hk, hb, hms, hgp⟩ := F
  refine ⟨tCallNL i f n ks.length (conc X.K sp) (fun vs zs => gp vs (ms.map vOf) zs) E0 ts tk, pe_callNL F (hr.mono hkj) hN hv hk hb pass0 ha.pa hkw.pk hall hks hdb hcd he hpl, ?_⟩
  intro b M E σ QA Q t0 ok sl h1 k
  unfold aDefKL at h1
  split at h1
  · rename_i f2 hE
    obtain ⟨hm2, h2⟩ := h1
    rw [hm] at hm2
    cases hm2
    obtain ⟨v, h3, h4⟩ := sl.2 i _ hE
    cases rep_vl_inv (repA_d h4)
    exact ⟨h3, se_defK (fun h1 h2 => hgp h1 (reps_d (flat_reps hms)) h2) ha.sa hkw.sa b M E σ QA Q t0 ok sl h2 k⟩
  · exact h1.elim
end
/-! ### a dict of the module's that holds defs -/
def lkS : List (Str × Addr) → Str → Option Addr
  | [], _ => none
  | (y, d) :: r, f => match decide (f = y) with
    | true => some d
    | false => lkS r f
theorem lkS_ok {P : Str → Addr → Prop} : ∀ {l : List (Str × Addr)} {z : Str} {f : Addr}, (∀ p ∈ l, P p.1 p.2) → lkS l z = some f → P z f
  | [], _, _, _, h => by cases h
  | (y, d) :: r, z, f, hp, h => by
    unfold lkS at h
    split at h
    · rename_i e
      cases h
      rw [of_decide_eq_true e]
      exact hp _ List.mem_cons_self
    · exact lkS_ok (fun p hm => hp p (List.mem_cons_of_mem _ hm)) h
def aDG (a : Addr) (l : List (Str × Addr)) : A2 := fun x y M Q => match x, y with
  | .d (.vl v), .d (.str z) => Side (v = .ref a) (Opt (lkS l z) fun f => Q (.d (.vl (.ref f))) M)
  | _, _ => False
theorem s2_dg {K : PySem.W.Frag} {w : World} {W : Wd} {a : Addr} {l : List (Str × Addr)} (hl : ∀ p ∈ l, KDct K w a p.1 (.ref p.2)) : S2 K W (rIxD K w) (aDG a l) := by
  intro b M x y v u QA Q t ok r1 r2 h k
  unfold aDG at h
  split at h
  · obtain ⟨rfl, f, e, q⟩ := h
    cases rep_vl_inv (repA_d r1)
    cases rep_str_inv (repA_d r2)
    exact ⟨a, _, .ref f, rfl, rfl, lkS_ok (P := fun z f => KDct K w a z (.ref f)) hl e, k b M _ _ t ok (Step.refl _) (.d (.vl _)) q⟩
  · exact h.elim
section
variable {X : Cx} {W : Wd} {pos p : Pos} {x : Str} {e2 : Expr} {t2 : TE} {a2 : Ae}
/-- x[e], x the name of such a dict -/
theorem k_dglob {a : Addr} {l : List (Str × Addr)} (hm : X.mg x = some (.ref a)) (hl : ∀ p ∈ l, KDct X.K X.w a p.1 (.ref p.2)) (g : AE X W e2 t2 a2) (hs : PlainIx e2 := by intro _ _; rfl) (hg : Gl X x := by rfl) (hd : (x == ("__debug__" : Str)) = false := by decide) :
    AE X W (.Subscript (.Name x p) e2 pos) (tOp (rIxD X.K X.w) (tC (.ref a)) t2) (aOp (aDG a l) (aC (.vl (.ref a))) a2) := ⟨pe_ix ix_kdict (pe_glob hg hm rfl hd) g.pe hs, se_op (se_c fun _ => .vl _) g.se (s2_dg hl)⟩
end
end G
/-! ### the head's run, dicts with text keys among its facts -/
namespace G
open PySem PySem.W PySem.Calls PyProof.Rows HandSHeadRun
abbrev AlX : Type := AlE × List (Option (List (Option (Str × Int))))
def tabsK (ts : List He.Tab) (K : PySem.W.Frag) : List (Option (List (Option (Str × Int)))) := ts.map fun t => He.dicW K (t.1 K)
def tabsV (ts : List He.Tab) (w : World) : List (Option (List (Option (Str × Int)))) := ts.map fun t => some (He.keysIn w.params t.2)
def obsXAt (fa : List He.Fa) (fn : List He.DefD) (xs : List (PySem.W.Frag → Bool)) (ts : List He.Tab) (g : Addr → Option Obj) (n : Nat) : AlX := (obsAt fa fn xs g n, tabsK ts (He.frG g (List.range n)))
def hookX (fa : List He.Fa) (fn : List He.DefD) (xs : List (PySem.W.Frag → Bool)) (ts : List He.Tab) : PySem.W.Hook where
  α := AlX
  obs := fun s => obsXAt fa fn xs ts s.heap.get? s.heap.objs.size
  val := fun w => (valE fn, tabsV ts w)
  says := fun w h => ∃ K : PySem.W.Frag, K.In h ∧ (SaysE fa fn xs K ∧ tabsK ts K = tabsV ts w)
  of := fun _ _ e => ⟨_, He.frG_in, congrArg (fun z : AlX => z.1) e, congrArg (fun z : AlX => z.2) e⟩
  keeps := fun _ _ _ ⟨K, hK, c⟩ k => ⟨K, PySem.W.Frag.In.keeps hK k, c⟩
def obsX (fa : List He.Fa) (fn : List He.DefD) (xs : List (PySem.W.Frag → Bool)) (ts : List He.Tab) (s : SharedT) : AlX := obsXAt fa fn xs ts (getT s) s.n
theorem obsX_eq {fa : List He.Fa} {fn : List He.DefD} {xs : List (PySem.W.Frag → Bool)} {ts : List He.Tab} (s : SharedT) : obsX fa fn xs ts s = (hookX fa fn xs ts).obs s.abs := by
  have e : getT s = s.abs.heap.get? := funext (getT_eq s)
  have n : s.abs.heap.objs.size = s.n := absHeap_size s.tree s.n _
  show obsXAt fa fn xs ts (getT s) s.n = obsXAt fa fn xs ts s.abs.heap.get? s.abs.heap.objs.size
  rw [e, n]
def PartT (r : OpenRow) (M : Nat) (ts : List He.Tab) (w : World) (os : OsState) : Prop :=
  (endF (stepQ (denQ tabQ) r.prog w) M r.prog w os).map (fun s => tabsK ts (He.frG (getT s) (List.range s.n))) = some (tabsV ts w)
theorem run_ofX {r : OpenRow} {q : Program} {M : Nat} {fa : List He.Fa} {fn : List He.DefD} {xs : List (PySem.W.Frag → Bool)} {ts : List He.Tab} {loose : List PySem.Str} {w : World} (h : ∀ os, Base r q M loose w os) (g : ∀ os, Part r M fa fn xs w os) (gt : ∀ os, PartT r M ts w os) : RunEq r q (hookX fa fn xs ts) (obsX fa fn xs ts) M loose w := by
  intro os
  have h1 := h os
  have g1 := g os
  have g3 := gt os
  unfold Base at h1
  unfold PartT at g3
  cases e : endF (stepQ (denQ tabQ) r.prog w) M r.prog w os with
  | none => rw [e] at h1; cases h1
  | some s =>
    have g2 := part_at g1 e
    rw [e] at h1 g3
    have h2 := Option.some.inj h1
    have g4 : tabsK ts (He.frG (getT s) (List.range s.n)) = tabsV ts w := Option.some.inj g3
    show some (looksF r.prog (boot_heap w.params) s.abs, seenQ q loose (importedModules r.prog.main.body) (fun s => xlAt q [] s && recOk r.toRowW.records s) s.abs, (obsT fa fn xs s, tabsK ts (He.frG (getT s) (List.range s.n)))) = some (true, openGood q loose, (valE fn, tabsV ts w))
    rw [g2, g4]
    have h3 := congrArg (fun z => z.1) h2
    have h4 := congrArg (fun z => z.2) h2
    dsimp only at h3 h4
    rw [h3, h4]
theorem part_nil {r : OpenRow} {M : Nat} {w : World} {os : OsState} {fa : List He.Fa} {fn : List He.DefD} {xs : List (PySem.W.Frag → Bool)} (h : Part r M fa fn xs w os) : PartT r M [] w os := by
  unfold Part at h
  unfold PartT
  cases e : endF (stepQ (denQ tabQ) r.prog w) M r.prog w os with
  | none => rw [e] at h; cases h
  | some s => rfl
theorem tab_at {ts : List He.Tab} {w : World} {K : PySem.W.Frag} (c : tabsK ts K = tabsV ts w) (i : Nat) {t : He.Tab} (h : ts[i]? = some t := by rfl) : ∃ es n, L2.KDict K w (t.1 K) es n := by
  have e2 : (tabsK ts K)[i]? = (tabsV ts w)[i]? := by rw [c]
  unfold tabsK tabsV at e2
  rw [List.getElem?_map, List.getElem?_map, h] at e2
  exact He.dicW_ok (Option.some.inj e2)
end G
namespace G
open PySem PySem.Spec PyProof.Rows L2
theorem kd_vals {K : PySem.W.Frag} {w : World} {a : Addr} {kvs : List (Str × He.Dv)} (h : He.valsB K a kvs = true) (D : ∃ es n, KDict K w a es n) (q : Str × He.Dv) (hq : q ∈ kvs) : KDct K w a q.1 (q.2.v K) := by
  obtain ⟨es, n, D⟩ := D
  obtain ⟨u, e, r⟩ := He.valsB_ok h hq
  exact ⟨es, n, u, D.at_, D.lit, e, r⟩
end G

set_option Elab.async false
set_option linter.all false
set_option maxRecDepth 100000
namespace G
open PySem PySem.Spec PyProof.Rows L2
/-! ### sum of a tuple, too; the greatest and the least of a list -/
section
variable {prog : Program} {w : World} {A : Around} {E : Value → Shared → Prop} {s : Shared} {l : Addr} {its : List Value} {ns : List Int} {Q : Value → Shared → Prop}
theorem sum_tup (hh : A.handled = none) (ht : s.heap.IsTuple l its.toArray) (hi : IntsAre its ns)
    (h : ∀ h' tk t', (∀ b o, s.heap.get? b = some o → h'.get? b = some o) → Q (.int ns.sum t') { s with heap := h', toks := tk }) : wpAny (model prog w) A (call (.builtin "sum") [.ref l]) Q E s := by
  obtain ⟨xs, e⟩ := hi.allInts.items
  have hn : numsOf (intItems xs).toList = ns := by rw [← e]; exact hi.numsOf
  rw [nums_intItems] at hn
  rw [e] at ht
  have hlt : l < s.heap.objs.size := by obtain ⟨_, e, _⟩ := ht; exact Heap.lt_size e
  refine call_sum_walkG (wpAny_pyIter_tuple ht ?_)
  refine ⟨_, [_, l], [_], _, _, _, numAt xs, rfl, Walks.tuple (A := A.in1) hh _ l (Nat.ne_of_lt hlt) (intItems xs), ⟨⟨_, Heap.get?_push_size _ rfl, rfl, rfl⟩, ht.push _⟩, fun c hc => ?_, (fun _ _ => intItems_at), fun h' tk t' hk => ?_⟩
  · show c < (s.heap.push _).objs.size
    rw [Heap.size_push]
    rcases List.mem_cons.mp hc with rfl | hc
    · exact Nat.lt_succ_self _
    · rcases List.mem_cons.mp hc with rfl | hc
      · exact Nat.lt_succ_of_lt hlt
      · cases hc
  · have h2 := h h' tk t' (fun c o e1 => hk c o (fun hm => by
      rw [List.mem_singleton] at hm
      have := Heap.lt_size e1
      rw [hm] at this
      exact Nat.lt_irrefl _ this) (Heap.get?_push_of_some _ e1))
    rw [← hn] at h2
    have e3 : preSum (numAt xs) (intItems xs).size = (xs.toList.map (·.1)).sum := by
      rw [preSum_eq, List.take_of_length_le (by simp [intItems])]
    rw [e3]
    exact h2
end
def rSumA (K : PySem.W.Frag) : List V → Hp → VK → Prop := fun vs H Q => ∃ (a : Addr) (ns : List Int), vs = [V.ref a] ∧ (SqL K H a (ns.map V.int) ∨ SqT K H a (ns.map V.int)) ∧ Q (.int ns.sum) H
theorem cr_sumA {X : Cx} (hc : X.calm = true) : CallR X (.builtin "sum") (rSumA X.K) := by
  intro pins s σ H vs us Q I r h
  obtain ⟨a, ns, rfl, hs | hs, q⟩ := h
  · exact cr_sum hc pins s σ H _ us Q I r ⟨a, ns, rfl, hs, q⟩
  · obtain ⟨its, rv, hl, _⟩ := I.tuple hs
    rw [Vals.ref1 r]
    exact sum_tup (I.ok.hd hc) (let ⟨o, ho, hc, n, hd⟩ := hl; ⟨o, ho, hc, n, hd⟩) rv.ints fun h' tk t' hk => ⟨.int _, H, I.kept hk, ⟨_, rfl⟩, q⟩
section
variable {K : PySem.W.Frag} {W : Wd}
def cSumA : Ac := fun xs M Q => match xs with
  | [x] => match tupOf x with
    | some l => Opt (intsOf l) fun ns => Q (.d (.int ns.sum)) M
    | none => match listOf x M with
      | some l => Opt (intsOf l) fun ns => Q (.d (.int ns.sum)) M
      | none => False
  | _ => False
theorem sc_sumA : SC K W (rSumA K) cSumA := by
  intro b M xs vs QA Q t ok r h k
  unfold cSumA at h
  split at h
  · obtain ⟨v, rfl, r1⟩ := repAs_1 r
    split at h
    · rename_i l e
      obtain ⟨ns, e2, q⟩ := h
      obtain ⟨p, vs, rfl, hs, rs⟩ := tupOf_ok ok r1 e
      cases intsOf_inv e2
      have e3 := Reps.ints rs
      subst e3
      exact ⟨p, ns, rfl, .inr hs, k b M _ _ t ok (Step.refl _) (.d (.int _)) q⟩
    · split at h
      · rename_i l e
        obtain ⟨ns, e2, q⟩ := h
        obtain ⟨p, vs, rfl, hs, rs⟩ := listOf_ok ok r1 e
        cases intsOf_inv e2
        have e3 := Reps.ints rs
        subst e3
        exact ⟨p, ns, rfl, .inl hs, k b M _ _ t ok (Step.refl _) (.d (.int _)) q⟩
      · exact h.elim
  · exact h.elim
/-- top: max; else min -/
def cExt (top : Bool) : Ac := fun xs M Q => match xs with
  | [x] => match listOf x M with
    | some l => Opt (intsOf l) fun ns => Side (0 < ns.length) (∀ m, m ∈ ns → (∀ y, y ∈ ns → match top with | true => y ≤ m | false => m ≤ y) → Q (.d (.int m)) M)
    | none => False
  | _ => False
theorem sc_max : SC K W (rMax K) (cExt true) := by
  intro b M xs vs QA Q t ok r h k
  unfold cExt at h
  split at h
  · obtain ⟨v, rfl, r1⟩ := repAs_1 r
    split at h
    · rename_i l e
      obtain ⟨ns, e2, h1, q⟩ := h
      obtain ⟨p, vs, rfl, hs, rs⟩ := listOf_ok ok r1 e
      cases intsOf_inv e2
      have e3 := Reps.ints rs
      subst e3
      exact ⟨p, ns, rfl, hs, h1, fun m hm hy => k b M _ _ t ok (Step.refl _) (.d (.int _)) (q m hm hy)⟩
    · exact h.elim
  · exact h.elim
theorem sc_min : SC K W (rMin K) (cExt false) := by
  intro b M xs vs QA Q t ok r h k
  unfold cExt at h
  split at h
  · obtain ⟨v, rfl, r1⟩ := repAs_1 r
    split at h
    · rename_i l e
      obtain ⟨ns, e2, h1, q⟩ := h
      obtain ⟨p, vs, rfl, hs, rs⟩ := listOf_ok ok r1 e
      cases intsOf_inv e2
      have e3 := Reps.ints rs
      subst e3
      exact ⟨p, ns, rfl, hs, h1, fun m hm hy => k b M _ _ t ok (Step.refl _) (.d (.int _)) (q m hm hy)⟩
    · exact h.elim
  · exact h.elim
/-! ### f(e, .., k = v, ..), a list that is going to change being lent -/
def aDefKLend (sp : ASp) (n m : Nat) (gA : List A → List A → List A) (as ak : Aa) : Ae := fun E M Q => as E M fun xs M1 => ak E M1 fun ys M2 => match Nat.beq xs.length n, Nat.beq ys.length m with
  | true, true => LCall sp (gA xs ys) M2 Q
  | _, _ => False
theorem se_defKLend {sp : ASp} {n m : Nat} {gA : List A → List A → List A} {gV : List V → List V → List V} {t tk : TA} {as ak : Aa} (hg : ∀ {al I xs ys vs us}, RepAs K al I xs vs → RepAs K al I ys us → RepAs K al I (gA xs ys) (gV vs us)) (h : SA K W t as) (hk : SA K W tk ak) :
    SE K W (tCallN n m (conc K sp) gV E0 t tk) (aDefKLend sp n m gA as ak) := by
  intro b M E σ QA Q t0 ok sl h1 k
  refine h b M E σ _ _ t0 ok sl h1 fun b1 M1 xs vs t1 ok1 s1 r1 h2 => ?_
  refine hk b1 M1 E σ _ _ t1 ok1 (sl.mono s1.same s1.pre) h2 fun b2 M2 ys us t2 ok2 s2 r2 h3 => ?_
  split at h3
  · rename_i e1 e2
    refine ⟨by rw [← r1.length]; exact Nat.eq_of_beq_eq_true e1, by rw [← r2.length]; exact Nat.eq_of_beq_eq_true e2, ?_⟩
    exact lend_call t2 ok2 (hg (r1.mono s2.same s2.pre) r2) h3 fun b3 M3 z w t3 ok3 s3 r3 q => k b3 M3 z w t3 ok3 ((s1.trans s2).trans s3) r3 q
  · exact h3.elim
end
section
variable {X : Cx} {W : Wd} {K : PySem.W.Frag} {pos p : Pos} {e : Expr} {es : List Expr} {kws : List Keyword} {ts tk : TA} {as ak : Aa} {sp : ASp} {k j n : Nat} {x : Str} {ks : List Str} {ms : List D} {gp : {α : Type} → List α → List α → List α → List α}
theorem k_defKLend (F : DefK X.prog X.w X.K X.mg X.base x k sp n ks ms gp) (hr : Room j X.A) (hkj : k ≤ j) (ha : AA X W (e :: es) ts as) (hkw : AK X W kws tk ak) (hg : Gl X x := by rfl)
    (hall : (backToKw pos (keywordEach kws X.env)).all (·.1.isSome) = true := by rfl) (hks : (backToKw pos (keywordEach kws X.env)).filterMap (·.1) = ks := by rfl) (hdb : (x == ("__debug__" : Str)) = false := by decide)
    (he : starEach (e :: es) X.env = (false, eval e X.env) :: starEach es X.env := by rfl)
    (hpl : ((backTo pos (starEach (e :: es) X.env)).any (·.1) || (backToKw pos (keywordEach kws X.env)).any (·.1.isNone)) = false := by rfl) (hK : X.K = K := by rfl) :
    AE X W (.Call (.Name x p) (e :: es) kws pos) (tCallN n ks.length (conc K sp) (fun vs zs => gp vs (ms.map vOf) zs) E0 ts tk) (aDefKLend sp n ks.length (fun xs ys => gp xs (ms.map A.d) ys) as ak) := by
  subst hK
  obtain ⟨f, fd, ps, g, F, hm, hk, hb, hms, hgp⟩ := F
  exact ⟨pe_callN F (hr.mono hkj) hg hm hk hb pass0 ha.pa hkw.pk hall hks hdb he hpl, se_defKLend (fun h1 h2 => hgp h1 (reps_d (flat_reps hms)) h2) ha.sa hkw.sa⟩
end
end G

set_option Elab.async false
set_option linter.all false
set_option maxRecDepth 100000
namespace G
open PySem PySem.Spec PyProof.Rows L2
/-! ### ways joined again: what is known of the value, of the state behind -/
structure Gen {α β : Type} (f : (α → β → Prop) → Prop) (Q : α → β → Prop) : Prop where
  p : ∃ P : α → β → Prop, f P ∧ ∀ z M, P z M → Q z M
def aGen (a : Ae) : Ae := fun E M Q => Gen (fun P => a E M P) Q
def aGenS (a : As) : As := fun Q E M => Gen (fun P => a { Q with nx := P } E M) (fun E2 M2 => fL E2 fun E3 => nM M2 fun M3 => Q.nx E3 M3)
section
variable {K : PySem.W.Frag} {W : Wd}
theorem se_gen {t : TE} {a : Ae} (h : SE K W t a) : SE K W t (aGen a) := fun b M E σ QA Q t0 ok sl h1 k => by
  obtain ⟨P, h2, h3⟩ := h1.p
  exact h b M E σ P Q t0 ok sl h2 fun b' M' x v t' ok' s' r' q => k b' M' x v t' ok' s' r' (h3 x M' q)
theorem ss_gen {t : TS} {a : As} (h : SS K W t a) : SS K W t (aGenS a) := fun b M E σ DA Dd t0 ok sl h1 e => by
  obtain ⟨P, h2, h3⟩ := h1.p
  exact h b M E σ { DA with nx := P } Dd t0 ok sl h2 ⟨fun b M E σ s t ok sl q => e.nx b M E σ s t ok sl (nM_eq.mp (fL_eq.mp (h3 E M q))), e.rt, e.bk, e.ct⟩
end
theorem genS_same {a : As} {Q : AEnds} {E : Env} {M : Mem} (h : a { Q with nx := fun E' M' => E' = E ∧ M' = M } E M) (k : fL E fun E3 => nM M fun M3 => Q.nx E3 M3) : aGenS a Q E M := ⟨⟨_, h, fun _ _ ⟨e1, e2⟩ => by subst e1; subst e2; exact k⟩⟩
section
variable {X : Cx} {W : Wd} {e : Expr} {st : Stmt} {t : TE} {u : TS} {a : Ae} {b : As}
theorem ae_gen (h : AE X W e t a) : AE X W e t (aGen a) := ⟨h.pe, se_gen h.se⟩
theorem as_gen (h : AS X W st u b) : AS X W st u (aGenS b) := ⟨h.ps, ss_gen h.ss⟩
end
/-! ### a def's body, by what is handed in, the cells' number too -/
theorem afn3 {P : Program} {w : World} {K : PySem.W.Frag} {mg : Str → Option Value} {base : Heap} {x qual : Str} {params : Arguments} {body : List Stmt} {scope : Scope} {dvs : List V} {kws : List (Str × V)} {f : Addr} {fd : FuncData} {N ps : List Str} {k : Nat} {sp : ASp}
    (F : FunD K x qual params body scope dvs kws f fd) (S : FnScope N ps scope) (len : ∀ xs M Q E, sp xs M Q E → xs.length = ps.length)
    (hbody : ∀ (W : Wd) (cdv : Value) (A : Around) (outer : List PySem.Env) (s : Shared) (H : Hp) (E : XK), Room k (A.deeper (envOfC qual scope s.heap.objs.size f cdv)) → ∀ xs M QA EA, W.al.length = M.length → sp xs M QA EA →
      ∃ t a, ASs (cxOf CX0 P w K mg base N qual scope f cdv A outer s H E).nox W body t a ∧ a ⟨fun _ M2 => Ret M.length (.d .non) M2 QA, fun x M2 => Ret M.length x M2 QA, fun _ _ => False, fun _ _ => False⟩ (startA N.length xs) M) :
    FnOk P w K mg base CX0 (k + 1) f fd ps (conc K sp) := by
  refine fnd_ok F S (fun vs H Q E h => ?_) (fun cdv A outer s H vs Q E hr h => ?_)
  · obtain ⟨b, M, xs, QA, EA, _, _, r, h, _⟩ := h
    rw [← r.length]; exact len _ _ _ _ h
  · obtain ⟨b, M, xs, QA, EA, rfl, ok, r, h, kq, ke⟩ := h
    have hm : b.al.length = M.length := ok.len
    obtain ⟨t, a, hp, ha⟩ := hbody b cdv A outer s b.H E hr xs M QA EA hm h
    refine ⟨t, hp.ps.nox, ?_⟩
    refine hp.ss b M _ _ _ _ (To.refl b) ok (startA_slots r) ha ⟨fun b1 M1 E1 σ1 s1 t1 ok1 sl1 q => ?_, fun b1 M1 x v s1 t1 ok1 r1 q => ?_, fun _ _ _ _ _ _ _ _ q => q.elim, fun _ _ _ _ _ _ _ _ q => q.elim⟩
    · obtain ⟨b2, M2, y, e, t2, ok2, r2, q2⟩ := ret_ok hm t1 ok1 (.d .non) q
      have := kq b2 M2 y _ t2 ok2 r2 q2
      rw [e] at this
      exact this
    · obtain ⟨b2, M2, y, e, t2, ok2, r2, q2⟩ := ret_ok hm t1 ok1 r1 q
      have := kq b2 M2 y _ t2 ok2 r2 q2
      rw [e] at this
      exact this
end G

set_option Elab.async false
set_option linter.all false
set_option maxRecDepth 100000
namespace G
open PySem PySem.Spec PyProof.Rows L2
/-! ### the least, the greatest of three -/
def cMin3 : Ac := fun xs M Q => match xs with
  | [.d (.int a), .d (.int b), .d (.int c)] => Q (.d (.int (min (min a b) c))) M
  | _ => False
def cMax3 : Ac := fun xs M Q => match xs with
  | [.d (.int a), .d (.int b), .d (.int c)] => Q (.d (.int (max (max a b) c))) M
  | _ => False
theorem nu_min3 (a b c : Int) : nuMin3 (.int a) (.int b) (.int c) = some (.int (min (min a b) c)) := by
  have e2 : ∀ a b : Int, nuMin2 (.int a) (.int b) = some (.int (min a b)) := fun a b => by
    show (nuLt (.int b) (.int a)).map _ = _
    rw [show nuLt (.int b) (.int a) = some (decide (b < a)) from rfl]
    by_cases h : b < a
    · rw [decide_eq_true h]; show some (V.int b) = _; congr 2; omega
    · rw [decide_eq_false h]; show some (V.int a) = _; congr 2; omega
  unfold nuMin3
  rw [e2, Option.bind_some, e2]
theorem nu_max3 (a b c : Int) : nuMax3 (.int a) (.int b) (.int c) = some (.int (max (max a b) c)) := by
  have e2 : ∀ a b : Int, nuMax2 (.int a) (.int b) = some (.int (max a b)) := fun a b => by
    show (nuLt (.int a) (.int b)).map _ = _
    rw [show nuLt (.int a) (.int b) = some (decide (a < b)) from rfl]
    by_cases h : a < b
    · rw [decide_eq_true h]; show some (V.int b) = _; congr 2; omega
    · rw [decide_eq_false h]; show some (V.int a) = _; congr 2; omega
  unfold nuMax3
  rw [e2, Option.bind_some, e2]
section
variable {K : PySem.W.Frag} {W : Wd}
theorem sc_min3 : SC K W (rNuC3 nuMin3) cMin3 := by
  intro b M xs vs QA Q t ok r h k
  unfold cMin3 at h
  split at h
  · obtain ⟨v, u, z, rfl, r1, r2, r3⟩ := repAs_3 r
    cases rep_int_inv (repA_d r1)
    cases rep_int_inv (repA_d r2)
    cases rep_int_inv (repA_d r3)
    exact ⟨_, _, _, _, rfl, nu_min3 _ _ _, k b M _ _ t ok (Step.refl _) (.d (.int _)) h⟩
  · exact h.elim
theorem sc_max3 : SC K W (rNuC3 nuMax3) cMax3 := by
  intro b M xs vs QA Q t ok r h k
  unfold cMax3 at h
  split at h
  · obtain ⟨v, u, z, rfl, r1, r2, r3⟩ := repAs_3 r
    cases rep_int_inv (repA_d r1)
    cases rep_int_inv (repA_d r2)
    cases rep_int_inv (repA_d r3)
    exact ⟨_, _, _, _, rfl, nu_max3 _ _ _, k b M _ _ t ok (Step.refl _) (.d (.int _)) h⟩
  · exact h.elim
end
end G
namespace G
open PySem
/-! ### a setting of the world, told -/
def setF (w : World) (row : String) (b : Bool) : World := { w with params := { w.params with followText := fun s => match decide (s = row) with | true => b | false => w.params.followText s } }
theorem setF_eq (w : World) (row : String) : setF w row (w.params.followText row) = w := by
  have e : (fun s => match decide (s = row) with | true => w.params.followText row | false => w.params.followText s) = w.params.followText := by
    funext s
    by_cases h : s = row
    · rw [decide_eq_true h, h]
    · rw [decide_eq_false h]
  unfold setF
  rw [e]
theorem by_row {P : World → Prop} (row : String) (ht : ∀ w, P (setF w row true)) (hf : ∀ w, P (setF w row false)) (w : World) : P w := by
  rw [← setF_eq w row]
  cases w.params.followText row
  · exact hf w
  · exact ht w
end G

set_option Elab.async false
set_option linter.all false
set_option maxRecDepth 100000
namespace G
open PySem PySem.Spec PyProof.Rows L2
/-! ### s.index(y), there -/
def rSIx : V → List V → Hp → VK → Prop := fun x xs H Q => ∃ (a b : Str) (k : Nat), x = .str a ∧ xs = [.str b] ∧ Txt.index0 a b = some k ∧ Q (.int (k : Nat)) H
theorem mt_sindex {X : Cx} : MtR X "str.index" rSIx := by
  intro pins s σ H x xs v us Q I rx rs h
  obtain ⟨a, b, k0, rfl, rfl, hy, w⟩ := h
  obtain ⟨t, rfl⟩ := rx
  cases rs with
  | cons r1 rs =>
    cases rs
    obtain ⟨u, rfl⟩ := r1
    cases q : Builtin.Str.occurrences a b 0 a.length 1 with
    | nil => exfalso; unfold Txt.index0 at hy; rw [q] at hy; cases hy
    | cons k rest =>
      have e : k = k0 := by unfold Txt.index0 at hy; rw [q] at hy; exact Option.some.inj hy
      subst e
      exact call_gives PySem.F.slot_str_index (typeIs_str _ _ _) PySem.F.entry_str_index (PySem.F.args_str_index_2 _ _) (gives_str_index a b t u k rest q) ⟨.int (k : Nat), H, I.tok _, ⟨_, rfl⟩, w⟩
section
variable {K : PySem.W.Frag} {W : Wd}
def mSIx : Am := fun x xs M Q => match x, xs with
  | .d (.str a), [.d (.str b)] => Opt (Txt.index0 a b) fun k => Q (.d (.int (k : Nat))) M
  | _, _ => False
theorem sm_sindex : SM K W rSIx mSIx := by
  intro b M x v xs vs QA Q t ok r1 rs h k
  unfold mSIx at h
  split at h
  · obtain ⟨j, e, q⟩ := h
    obtain ⟨u, rfl, r2⟩ := repAs_1 rs
    cases rep_str_inv (repA_d r1)
    cases rep_str_inv (repA_d r2)
    exact ⟨_, _, j, rfl, rfl, e, k b M _ _ t ok (Step.refl _) (.d (.int _)) q⟩
  · exact h.elim
end
end G

set_option Elab.async false
set_option linter.all false
set_option maxRecDepth 100000
namespace G
open PySem PySem.Spec PyProof.Rows L2
/-! ### o.f as a target -/
def gFld (K : PySem.W.Frag) (ta : TE) (f : Str) : TG := fun y σ H Q => ta σ H fun x H1 => ∃ a C dx fs, x = .ref a ∧ H1 a = some (.ins C dx fs) ∧ Cls K C ∧ NoAttr K C f ∧ fs.length < 1000 ∧ Q σ (upd H1 a (.ins C dx (putF f y fs)))
theorem pg_fld {X : Cx} {o : Expr} {f : Str} {pos : Pos} {ta : TE} (ho : PE X o ta) (ha : ∀ v, assign (.Attribute o f pos) X.env v = (do
      let ov ← holding [v] (eval o X.env)
      standAt pos.atName
      holding [v, ov] (setAttr ov f v)
      release [v, ov] []) := by intro _; rfl) : PG X (.Attribute o f pos) (gFld X.K ta f) := by
  refine ⟨fun pins s σ H y u Q I r h => ?_⟩
  rw [ha]
  refine wpAny_bind (wpAny_holding (thn (ho.run pins s σ H _ I h) fun ov s1 ⟨x, H1, I1, rx, a, C, dx, fs, ex, ea, c, n, l, q⟩ => ?_))
  subst ex
  obtain rfl : ov = Value.ref a := rx
  refine wpAny_bind (wpAny_standAt (wpAny_bind (wpAny_holding (setattr_ok I1 ea c n l r fun s3 I3 => ?_))))
  exact wpAny_release ⟨σ, _, I3, q⟩
def aGfld (C : Addr) (f : Str) (a : Ae) : Ag := fun y E M Q => a E M fun o M1 => match o with
  | .cell k => match M1[k]? with
    | some (.obj C' fs) => match fewF fs with
      | true => Side (C' = C) (Q E (M1.set k (.obj C' (putA f y fs))))
      | false => False
    | _ => False
  | _ => False
section
variable {K : PySem.W.Frag} {W : Wd}
theorem sg_fld {C : Addr} {f : Str} {t : TE} {a : Ae} (c : Cls K C) (n : NoAttr K C f) (h : SE K W t a) : SG K W [] (gFld K t f) (aGfld C f a) := by
  intro b M E σ y v QA Q t0 ok sl r h1 k
  refine h b M E σ _ _ t0 ok sl h1 fun b1 M1 o u t1 ok1 s1 r1 h2 => ?_
  split at h2
  · split at h2
    · rename_i kk C' fs em
      split at h2
      · rename_i hfew
        obtain ⟨rfl, q⟩ := h2
        obtain ⟨p, ha, rfl⟩ := cell_addr r1
        obtain ⟨hn, dx, gs, h3, h4⟩ := ok1.at_ _ _ _ ha em
        have hl : gs.length < 1000 := by rw [← h4.length]; have := Nat.le_of_ble_eq_true hfew; omega
        have r2 := r.mono s1.same s1.pre
        refine ⟨p, _, dx, gs, rfl, h3, c, n, hl, ?_⟩
        exact k ⟨b1.I, b1.al, upd b1.H p _⟩ _ E σ (t1.put ha) (ok1.put (c := .obj C' (putA f y fs)) ha hn ⟨hn, dx, _, upd_same, putA_rep r2 h4⟩) (s1.trans (step_put ha)) (sl.mono s1.same s1.pre) (Tch.nil σ) q
      · exact h2.elim
    · exact h2.elim
  · exact h2.elim
/-! ### t1 = t2 = e -/
def aAsg2 (a : Ae) (g1 g2 : Ag) : As := fun Q E M => a E M fun x M1 => g1 x E M1 fun E2 M2 => g2 x E2 M2 Q.nx
theorem ss_asg2 {js ks : List Nat} {t : TE} {g1 g2 : TG} {a : Ae} {a1 a2 : Ag} (h : SE K W t a) (h1 : SG K W js g1 a1) (h2 : SG K W ks g2 a2) : SS K W (tAsg2 t g1 g2) (aAsg2 a a1 a2) := fun b M E σ DA Dd t0 ok sl h0 e =>
  h b M E σ _ _ t0 ok sl h0 fun b1 M1 x v t1 ok1 s1 r1 q1 => h1 b1 M1 E σ x v _ _ t1 ok1 (sl.mono s1.same s1.pre) r1 q1 fun b2 M2 E2 σ2 t2 ok2 s2 sl2 _ q2 =>
    h2 b2 M2 E2 σ2 x v _ _ t2 ok2 sl2 (r1.mono s2.same s2.pre) q2 fun b3 M3 E3 σ3 t3 ok3 s3 sl3 _ q3 => e.nx b3 M3 E3 σ3 ((s1.trans s2).trans s3).same t3 ok3 sl3 q3
/-! ### o.f op= e -/
def aFldAug (C : Addr) (f : Str) (a av : Ae) (r : A2) : As := fun Q E M => a E M fun o M1 => match o with
  | .cell k => match M1[k]? with
    | some (.obj C' fs) => match lkA fs f with
      | some x => Side (C' = C) (av E M1 fun y M2 => r x y M2 fun z M3 => match M3[k]? with
        | some (.obj C2 fs2) => match fewF fs2 with
          | true => Side (C2 = C) (Q.nx E (M3.set k (.obj C2 (putA f z fs2))))
          | false => False
        | _ => False)
      | none => False
    | _ => False
  | _ => False
theorem ss_fldaug {C : Addr} {f : Str} {t tv : TE} {a av : Ae} {r : R2} {rA : A2} (c : Cls K C) (n : NoAttr K C f) (h : SE K W t a) (hv : SE K W tv av) (hr : S2 K W r rA) : SS K W (sFldAug K t tv r f) (aFldAug C f a av rA) := fun b M E σ DA Dd t0 ok sl h1 e => by
  refine h b M E σ _ _ t0 ok sl h1 fun b1 M1 o u t1 ok1 s1 r1 h2 => ?_
  split at h2
  · split at h2
    · rename_i kk C' fs em
      split at h2
      · rename_i x ex
        obtain ⟨rfl, h2⟩ := h2
        obtain ⟨p, ha, rfl⟩ := cell_addr r1
        obtain ⟨hn, dx, gs, h3, h4⟩ := ok1.at_ _ _ _ ha em
        obtain ⟨w, hw, rw_⟩ := lkA_rep h4 ex
        refine ⟨p, _, dx, gs, w, rfl, h3, c, n, hw, ?_⟩
        refine hv b1 M1 E σ _ _ t1 ok1 (sl.mono s1.same s1.pre) h2 fun b2 M2 y v2 t2 ok2 s2 r2 h5 => ?_
        refine hr b2 M2 x y w v2 _ _ t2 ok2 (rw_.mono s2.same s2.pre) r2 h5 fun b3 M3 z w3 t3 ok3 s3 r3 h6 => ?_
        split at h6
        · rename_i C2 fs2 em2
          split at h6
          · rename_i hfew
            obtain ⟨rfl, q⟩ := h6
            have ha3 := (s2.trans s3).pre.get ha
            obtain ⟨hn3, dx3, gs3, h7, h8⟩ := ok3.at_ _ _ _ ha3 em2
            have hl : gs3.length < 1000 := by rw [← h8.length]; have := Nat.le_of_ble_eq_true hfew; omega
            refine ⟨dx3, gs3, h7, hl, ?_⟩
            have s13 := (s1.trans s2).trans s3
            exact e.nx ⟨b3.I, b3.al, upd b3.H p _⟩ _ E σ s13.same (t3.put ha3) (ok3.put (c := .obj _ (putA f z fs2)) ha3 hn3 ⟨hn3, dx3, _, upd_same, putA_rep r3 h8⟩) (sl.mono s13.same s13.pre) q
          · exact h6.elim
        · exact h6.elim
      · exact h2.elim
    · exact h2.elim
  · exact h2.elim
/-! ### for over a list that is a cell, which the turns leave as it is -/
structure ForC (k : Nat) (items : List D) (g : Ag) (a : As) (Q : AEnds) (E : Env) (M : Mem) : Prop where
  inv : ∃ Pv : Nat → Env → Mem → Prop, Pv 0 E M ∧ (∀ i d E M, items[i]? = some d → Pv i E M → M[k]? = some (.lst items) ∧ g (.d d) E M fun E1 M1 => a { Q with nx := Pv (i + 1), ct := Pv (i + 1), bk := Q.nx } E1 M1) ∧ ∀ E M, Pv items.length E M → M[k]? = some (.lst items) ∧ Q.nx E M
def aForC (n : Nat) (w : Ae) (g : Ag) (a : As) : As := fun Q E M => w E M fun x M1 => match x with
  | .cell k => match Nat.blt k n, M1[k]? with
    | true, some (.lst items) => ForC k items g a Q E M1
    | _, _ => False
  | _ => False
theorem ss_forC {n : Nat} {js : List Nat} {te : TE} {g : TG} {t : TS} {w : Ae} {ag : Ag} {a : As} (hn : n ≤ W.al.length) (hi : SE K W te w) (hg : SG K W js g ag) (h : SS K W t a) : SS K W (tFor (iList K te) g t) (aForC n w ag a) := fun b M E σ DA Dd t0 ok sl h1 e => by
  refine hi b M E σ _ _ t0 ok sl h1 fun b1 M1 x v t1 ok1 s1 r1 h2 => ?_
  split at h2
  · split at h2
    · rename_i k _ _ items hkn em
      obtain ⟨p, ha, rfl⟩ := cell_addr r1
      obtain ⟨_, vs, hv, rs⟩ := ok1.at_ _ _ _ ha em
      have hkW : k < W.al.length := Nat.lt_of_lt_of_le (Nat.blt_eq.mp hkn) hn
      have hp : ∀ {b : Wd}, To W b → b.al[k]? = some p := fun {b} t => by
        have e1 : W.al[k]? = some W.al[k] := List.getElem?_eq_getElem hkW
        have e2 := t1.pre.get e1
        rw [ha] at e2
        have e3 := t.pre.get e1
        rw [← e2] at e3
        exact e3
      refine ⟨p, rfl, ⟨vs, SqL.of hv⟩, ?_⟩
      obtain ⟨Pv, p0, turn, fin⟩ := h2.inv
      have at2 : ∀ {N : Mem} {b2 : Wd}, Ok K b2 N → To W b2 → N[k]? = some (.lst items) → ∃ us, b2.H p = some (.lst us) ∧ Reps K b2.I items us := fun ok2 t2 e2 => by
        obtain ⟨_, us, hu, ru⟩ := ok2.at_ _ _ _ (hp t2) e2
        exact ⟨us, hu, ru⟩
      refine ⟨fun i m σ H => m = items.length - i ∧ i ≤ items.length ∧ ∃ (b : Wd) (M : Mem) (E : Env), b.H = H ∧ To W b ∧ Ok K b M ∧ Same b1.I b.I ∧ Slots K b.al b.I E σ ∧ Pv i E M, ⟨items.length, by simp, Nat.zero_le _, b1, M1, E, rfl, t1, ok1, Same.refl _, sl.mono s1.same s1.pre, p0⟩, ?_⟩
      rintro i m σ1 _ ⟨rfl, hi', b2, M2, E2, rfl, t2, ok2, s2, sl2, p2⟩
      by_cases hlt : i < items.length
      · have hd : items[i]? = some items[i] := by simp [hlt]
        obtain ⟨ek, hturn⟩ := turn i _ E2 M2 hd p2
        obtain ⟨us, hu, ru⟩ := at2 ok2 t2 ek
        obtain ⟨z, hz, rz⟩ := ru.get hd
        refine .inr ⟨⟨us, z, SqL.of hu, hz⟩, fun σ H => ∃ (b : Wd) (M : Mem) (E : Env), b.H = H ∧ To W b ∧ Ok K b M ∧ Same b1.I b.I ∧ Slots K b.al b.I E σ ∧ Pv (i + 1) E M, fun σ H ⟨b, M, E, q⟩ => ⟨items.length - (i + 1), by omega, rfl, hlt, b, M, E, q⟩, fun x H3 y => ?_⟩
        obtain ⟨rfl, y2⟩ := y
        have ez := y2 us (SqL.of hu)
        rw [hz] at ez
        cases ez
        refine hg b2 M2 E2 σ1 _ _ _ _ t2 ok2 sl2 (.d rz) hturn fun b4 M4 E4 σ4 t4 ok4 s4 sl4 _ h4 => ?_
        have s24 : Same b1.I b4.I := s2.trans s4.same
        have e4 := e.mono (s1.same.trans s24)
        exact h b4 M4 E4 σ4 _ _ t4 ok4 sl4 h4 ⟨fun b M E σ s t ok sl q => ⟨b, M, E, rfl, t, ok, s24.trans s, sl, q⟩, e4.rt, e4.nx, fun b M E σ s t ok sl q => ⟨b, M, E, rfl, t, ok, s24.trans s, sl, q⟩⟩
      · have e1 : i = items.length := by omega
        subst e1
        obtain ⟨ek, hnx⟩ := fin E2 M2 p2
        obtain ⟨us, hu, ru⟩ := at2 ok2 t2 ek
        exact .inl ⟨⟨us, SqL.of hu, by rw [ru.length]; exact Nat.le_refl _⟩, e.nx b2 M2 E2 σ1 (s1.same.trans s2) t2 ok2 sl2 hnx⟩
    · exact h2.elim
  · exact h2.elim
end
end G
namespace G
open PySem PySem.Spec PyProof.Rows L2
/-! ### C(e, .., k = v, ..) -/
def DefCK (P : Program) (w : World) (K : PySem.W.Frag) (mg : Str → Option Value) (base : Heap) (x : Str) (C : Addr) (k : Nat) (sp : ASp) (n : Nat) (ks : List Str) (ms : List D) (gp : {α : Type} → List α → List α → List α → List α) : Prop :=
  ∃ (f : Addr) (fd : FuncData) (ps : List Str) (g : List Value → List Value → List Value), FnOk P w K mg base CX0 k f fd ps (conc K sp) ∧ Mk K C f ∧ mg x = some (.ref C) ∧ KBn K fd ps (n + 1) ks g (fun vs zs => gp vs (ms.map vOf) zs) ∧ ms.all flatB = true ∧
    ∀ {al : List Addr} {I : Hp} {xs ds ys : List A} {vs es us : List V}, RepAs K al I xs vs → RepAs K al I ds es → RepAs K al I ys us → RepAs K al I (gp xs ds ys) (gp vs es us)
def aMakeK (C : Addr) (sp : ASp) (n m : Nat) (gA : List A → List A → List A) (as ak : Aa) : Ae := fun E M Q => as E M fun xs M1 => ak E M1 fun ys M2 => match Nat.beq xs.length n, Nat.beq ys.length m with
  | true, true => BCall sp (gA (.cell M2.length :: xs) ys) (M2 ++ [.obj C []]) fun z M3 => (match z with
    | .d .non => Q (.cell M2.length) M3
    | _ => False)
  | _, _ => False
theorem se_makeK {K : PySem.W.Frag} {W : Wd} {C : Addr} {sp : ASp} {n m : Nat} {gA : List A → List A → List A} {gV : List V → List V → List V} {t tk : TA} {as ak : Aa} (hg : ∀ {al I xs ys vs us}, RepAs K al I xs vs → RepAs K al I ys us → RepAs K al I (gA xs ys) (gV vs us)) (h : SA K W t as) (hk : SA K W tk ak) :
    SE K W (tMakeK C n m (conc K sp) gV E0 t tk) (aMakeK C sp n m gA as ak) := by
  intro b M E σ QA Q t0 ok sl h1 k
  refine h b M E σ _ _ t0 ok sl h1 fun b0 M0 xs vs t1 ok1 s1 r1 h2 => ?_
  refine hk b0 M0 E σ _ _ t1 ok1 (sl.mono s1.same s1.pre) h2 fun b1 M1 ys us t1 ok1 s2 r2 h2 => ?_
  split at h2
  · rename_i e1 e2
    refine ⟨by rw [← r1.length]; exact Nat.eq_of_beq_eq_true e1, by rw [← r2.length]; exact Nat.eq_of_beq_eq_true e2, ?_⟩
    intro x dx hx hdx ne
    have ok2 := ok1.laid (u := .own x) hdx
    have t2 := t1.laid ok1 (u := .own x) hdx
    have s2' : Step b1 ⟨upd b1.I dx (.own x), b1.al, upd b1.H dx (.own x)⟩ := (To.refl b1).laid ok1 hdx
    have hx2 : upd b1.H dx (.own x) x = none := by rw [upd_ne (fun z => ne z.symm)]; exact hx
    have ok3 := ok2.cell (u := .ins C dx []) (c := .obj C []) hx2 ⟨ok2.iNone hx2, dx, [], upd_same, .nil⟩
    have t3 := t2.cell ok2 (u := .ins C dx []) hx2
    have s3 := step_cell ok2 (u := .ins C dx []) hx2
    have s13 : Step b1 _ := s2'.trans s3
    have hc : RepA K (b1.al ++ [x]) (upd b1.I dx (.own x)) (.cell M1.length) (.ref x) := .cell (by rw [← ok1.len]; exact len_get)
    have r1' := (r1.mono s2.same s2.pre).mono s13.same s13.pre
    have r2' := r2.mono s13.same s13.pre
    refine conc_call t3 ok3 (hg (.cons hc r1') r2') h2.ok fun b4 M4 z w t4 ok4 s4 r4 q => ?_
    split at q
    · cases rep_non_inv (repA_d r4)
      exact ⟨rfl, k b4 M4 _ _ t4 ok4 (((s1.trans s2).trans s13).trans s4) (hc.mono s4.same s4.pre) q⟩
    · exact q.elim
  · exact h2.elim
section
variable {X : Cx} {W : Wd} {K : PySem.W.Frag} {pos p pos' tpos : Pos} {e o value tg1 tg2 : Expr} {es : List Expr} {kws : List Keyword} {t tv : TE} {a av : Ae} {ts tk : TA} {as ak : Aa} {x f : Str} {sp : ASp} {k j n : Nat} {C : Addr} {ks : List Str} {ms : List D} {gp : {α : Type} → List α → List α → List α → List α} {g1 g2 : TG} {a1 a2 : Ag} {js1 js2 : List Nat}
theorem k_makeK (F : DefCK X.prog X.w X.K X.mg X.base x C k sp n ks ms gp) (hr : Room j X.A) (hkj : k + 1 ≤ j) (ha : AA X W (e :: es) ts as) (hkw : AK X W kws tk ak) (hg : Gl X x := by rfl)
    (hall : (backToKw pos (keywordEach kws X.env)).all (·.1.isSome) = true := by rfl) (hks : (backToKw pos (keywordEach kws X.env)).filterMap (·.1) = ks := by rfl) (hdb : (x == ("__debug__" : Str)) = false := by decide)
    (he : starEach (e :: es) X.env = (false, eval e X.env) :: starEach es X.env := by rfl)
    (hpl : ((backTo pos (starEach (e :: es) X.env)).any (·.1) || (backToKw pos (keywordEach kws X.env)).any (·.1.isNone)) = false := by rfl) (hK : X.K = K := by rfl) :
    AE X W (.Call (.Name x p) (e :: es) kws pos) (tMakeK C n ks.length (conc K sp) (fun vs zs => gp vs (ms.map vOf) zs) E0 ts tk) (aMakeK C sp n ks.length (fun xs ys => gp xs (ms.map A.d) ys) as ak) := by
  subst hK
  obtain ⟨f, fd, ps, g, F, hM, hm, hb, hms, hgp⟩ := F
  exact ⟨pe_makeK hM F (hr.mono hkj) hg hm hb pass0 ha.pa hkw.pk hall hks hdb he hpl, se_makeK (fun h1 h2 => hgp h1 (reps_d (flat_reps hms)) h2) ha.sa hkw.sa⟩
theorem ag_fld (c : Cls X.K C) (n : NoAttr X.K C f) (h : AE X W o t a) (ha : ∀ v, assign (.Attribute o f pos) X.env v = (do
      let ov ← holding [v] (eval o X.env)
      standAt pos.atName
      holding [v, ov] (setAttr ov f v)
      release [v, ov] []) := by intro _; rfl) (hK : X.K = K := by rfl) : AG X W (.Attribute o f pos) [] (gFld K t f) (aGfld C f a) := by subst hK; exact ⟨pg_fld h.pe ha, sg_fld c n h.se⟩
theorem as_asg2 (he : AE X W e t a) (h1 : AG X W tg1 js1 g1 a1) (h2 : AG X W tg2 js2 g2 a2) (ha : (assignEach [tg1, tg2] X.env).map (·.2) = [assign tg1 X.env, assign tg2 X.env] := by rfl) (hw : swappedStores [tg1, tg2] e X.env = pure none := by rfl) :
    AS X W (.Assign [tg1, tg2] e pos) (tAsg2 t g1 g2) (aAsg2 a a1 a2) := ⟨ps_asg2 he.pe h1.pg h2.pg ha hw, ss_asg2 he.se h1.sg h2.sg⟩
theorem as_fldaug {op : Operator} {r : R2} {rA : A2} (c : Cls X.K C) (n : NoAttr X.K C f) (ho : AO X W (inplaceOp op) r rA) (h : AE X W o t a) (hv : AE X W value tv av) (hK : X.K = K := by rfl) :
    AS X W (.AugAssign (.Attribute o f tpos) op value pos) (sFldAug K t tv r f) (aFldAug C f a av rA) := by
  subst hK
  exact ⟨ps_fldaug h.pe hv.pe (fun pins s σ H x y u v Q I r1 r2 h => ho.o pins s σ H x y u v Q I r1 r2 h), ss_fldaug c n h.se hv.se ho.s⟩
theorem as_forC {body : List Stmt} {u : TS} {b : As} {js : List Nat} {gg : TG} {ag : Ag} {tg : Expr} (n : Nat) (hp : PassesOwn (model X.prog X.w) X.A X.env X.xe) (hc : X.calm = true) (hn : n ≤ W.al.length) (hi : AE X W e t a) (hg : AG X W tg js gg ag) (h : ASs X W body u b) (hs : ∀ x, foldedSetIterable e X.env x = pure x := by intro _; rfl) (hK : X.K = K := by rfl) :
    AS X W (.For tg e body [] pos) (tFor (iList K t) gg u) (aForC n a ag b) := by subst hK; exact ⟨ps_for hp hc (pi_list hi.pe) hg.pg h.ps hs, ss_forC hn hi.se hg.sg h.ss⟩
end
end G

set_option Elab.async false
set_option linter.all false
set_option maxRecDepth 100000
namespace G
open PySem PySem.Spec PyProof.Rows L2
/-! ### a def's body, all cells kept -/
theorem afnK {P : Program} {w : World} {K : PySem.W.Frag} {mg : Str → Option Value} {base : Heap} {x qual : Str} {params : Arguments} {body : List Stmt} {scope : Scope} {dvs : List V} {kws : List (Str × V)} {f : Addr} {fd : FuncData} {N ps : List Str} {k : Nat} {sp : ASp}
    (F : FunD K x qual params body scope dvs kws f fd) (S : FnScope N ps scope) (len : ∀ xs M Q E, sp xs M Q E → xs.length = ps.length)
    (hbody : ∀ (W : Wd) (cdv : Value) (A : Around) (outer : List PySem.Env) (s : Shared) (H : Hp) (E : XK), Room k (A.deeper (envOfC qual scope s.heap.objs.size f cdv)) → ∀ xs M QA EA, W.al.length = M.length → sp xs M QA EA →
      ∃ t a, ASs (cxOf CX0 P w K mg base N qual scope f cdv A outer s H E).nox W body t a ∧ a ⟨fun _ M2 => QA (.d .non) M2, fun x M2 => QA x M2, fun _ _ => False, fun _ _ => False⟩ (startA N.length xs) M) :
    FnOk P w K mg base CX0 (k + 1) f fd ps (conc K sp) := by
  refine fnd_ok F S (fun vs H Q E h => ?_) (fun cdv A outer s H vs Q E hr h => ?_)
  · obtain ⟨b, M, xs, QA, EA, _, _, r, h, _⟩ := h
    rw [← r.length]; exact len _ _ _ _ h
  · obtain ⟨b, M, xs, QA, EA, rfl, ok, r, h, kq, ke⟩ := h
    have hm : b.al.length = M.length := ok.len
    obtain ⟨t, a, hp, ha⟩ := hbody b cdv A outer s b.H E hr xs M QA EA hm h
    refine ⟨t, hp.ps.nox, ?_⟩
    exact hp.ss b M _ _ _ _ (To.refl b) ok (startA_slots r) ha ⟨fun b1 M1 E1 σ1 s1 t1 ok1 sl1 q => kq b1 M1 _ _ t1 ok1 (.d .non) q, fun b1 M1 x v s1 t1 ok1 r1 q => kq b1 M1 x v t1 ok1 r1 q, fun _ _ _ _ _ _ _ _ q => q.elim, fun _ _ _ _ _ _ _ _ q => q.elim⟩
/-- cells that a def leaves behind itself are forgotten -/
theorem take_all {M : Mem} : M.take M.length = M := List.take_length
end G

set_option Elab.async false
set_option linter.all false
set_option maxRecDepth 100000
namespace G
open PySem PySem.Spec PyProof.Rows L2
variable {K : PySem.W.Frag} {W : Wd}
theorem Reps.erase {I : Hp} : ∀ {ds : List D} {vs : List V} (i : Nat), Reps K I ds vs → Reps K I (ds.eraseIdx i) (vs.eraseIdx i)
  | _, _, _, .nil => .nil
  | _, _, 0, .cons _ r => r
  | _, _, i + 1, .cons h r => .cons h (Reps.erase i r)
/-- a list's pop at a place from the front -/
def mPopAt : Am := fun x xs M Q => match x, xs with
  | .cell k, [.d (.int i)] => match M[k]? with
    | some (.lst l) => Side (0 ≤ i ∧ i < 1000000) (Opt l[i.toNat]? fun y => Q (.d y) (M.set k (.lst (l.eraseIdx i.toNat))))
    | _ => False
  | _, _ => False
theorem sm_popAt : SM K W rPopAt mPopAt := by
  intro b M x v xs vs QA Q t ok r rs h k
  unfold mPopAt at h
  split at h
  · split at h
    · rename_i i _ l e
      obtain ⟨⟨i0, i1⟩, y, ey, q⟩ := h
      obtain ⟨u0, rfl, ru0⟩ := repAs_1 rs
      cases repA_d ru0
      obtain ⟨p, us, rfl, ha, hn, hv, rr⟩ := cell_lst ok r e
      obtain ⟨u, hu, ru⟩ := rr.get ey
      have hi : i.toNat < l.length := (List.getElem?_eq_some_iff.mp ey).1
      rw [rr.length] at hi
      exact ⟨p, us, i, i.toNat, u, rfl, rfl, hv, by omega, by omega, seqIndex_of i0 (by omega), hu, k ⟨b.I, b.al, upd b.H p _⟩ _ _ _ (t.put ha) (ok.put (c := .lst (l.eraseIdx i.toNat)) ha hn ⟨hn, _, upd_same, rr.erase _⟩) (step_put ha) (.d ru) q⟩
    · exact h.elim
  · exact h.elim
end G

set_option Elab.async false
set_option linter.all false
set_option maxRecDepth 100000
namespace G
open PySem PySem.Spec PyProof.Rows L2
/-! ### a dict's get with a second answer -/
def lkG (kvs : List (Key × A)) (s : Str) (z : A) : A := match lkK kvs s with
  | some v => v
  | none => z
def aDget2 (a c f : Ae) : Ae := fun E M Q => a E M fun x M1 => match x with
  | .cell k => (match M1[k]? with
    | some (.dic _) => c E M1 fun y M2 => f E M2 fun z M3 => (match y, M3[k]? with
      | .d (.str s), some (.dic kvs) => Q (lkG kvs s z) M3
      | _, _ => False)
    | _ => False)
  | _ => False
section
variable {K : PySem.W.Frag} {W : Wd}
theorem lkK_none {al : List Addr} {I : Hp} {s : Str} : ∀ {kvs : List (Key × A)} {gs : List (Key × V)}, RepAK K al I kvs gs → lkK kvs s = none → valV gs (Sum.inr s) = none
  | _, _, .nil, _ => rfl
  | _, _, @RepAK.cons _ _ _ x d v ds vs r rs, e => by
    cases x with
    | inl i =>
      rw [valV_neg (by simp)]
      exact lkK_none rs (show lkK ds s = none from e)
    | inr y =>
      by_cases hy : y = s
      · have e3 : (match decide (y = s) with | true => some d | false => lkK ds s) = none := e
        rw [decide_eq_true hy] at e3; cases e3
      · have e3 : (match decide (y = s) with | true => some d | false => lkK ds s) = none := e
        rw [decide_eq_false hy] at e3
        rw [valV_neg (by simpa using hy)]
        exact lkK_none rs e3
theorem se_dget2 {t u r : TE} {a c f : Ae} (h : SE K W t a) (g : SE K W u c) (hf : SE K W r f) : SE K W (tDGet2 t u r) (aDget2 a c f) := by
  intro b M E σ QA Q t0 ok sl h1 k
  refine h b M E σ _ _ t0 ok sl h1 fun b1 M1 x v t1 ok1 s1 r1 h2 => ?_
  split at h2
  · rename_i kk
    split at h2
    · rename_i kv0 e0
      obtain ⟨p, ha, rfl⟩ := cell_addr r1
      obtain ⟨_, gs0, hg0, _⟩ := ok1.at_ _ _ _ ha e0
      refine ⟨p, rfl, .inl ⟨gs0, .inl hg0⟩, ?_⟩
      refine g b1 M1 E σ _ _ t1 ok1 (sl.mono s1.same s1.pre) h2 fun b2 M2 y w t2 ok2 s2 r2 h3 => ?_
      refine hf b2 M2 E σ _ _ t2 ok2 (sl.mono (s1.trans s2).same (s1.trans s2).pre) h3 fun b3 M3 z w3 t3 ok3 s3 r3 h4 => ?_
      have r2' := r2.mono s3.same s3.pre
      have r1' := r1.mono (s2.trans s3).same (s2.trans s3).pre
      split at h4
      · rename_i o s kvs e
        cases rep_str_inv (repA_d r2')
        obtain ⟨p', ha', ep⟩ := cell_addr r1'
        cases ep
        obtain ⟨_, gs, hg, rk⟩ := ok3.at_ _ _ _ ha' e
        have dg := DGet.k (k := Sum.inr s) hg
        unfold lkG at h4
        cases el : lkK kvs s with
        | some av =>
          rw [el] at h4
          obtain ⟨vv, e3, rv⟩ := lkK_rep rk el
          rw [e3] at dg
          exact ⟨_, dg, k b3 M3 av vv t3 ok3 ((s1.trans s2).trans s3) rv h4⟩
        | none =>
          rw [el] at h4
          rw [lkK_none rk el] at dg
          exact ⟨_, dg, k b3 M3 z w3 t3 ok3 ((s1.trans s2).trans s3) r3 h4⟩
      · exact h4.elim
    · exact h2.elim
  · exact h2.elim
end
section
variable {X : Cx} {W : Wd} {K : PySem.W.Frag} {pos apos : Pos} {o e f : Expr} {t u r : TE} {a c d : Ae}
theorem k_dget2 (hu : X.A.units + 64 < cLine) (h : AE X W o t a) (g : AE X W e u c) (hf : AE X W f r d)
    (hbase : attributeBase o "get" X.env (eval o X.env) = eval o X.env := by rfl)
    (hfew : ((backTo pos (starEach [e, f] X.env)).all (fun x => !x.1) && (backToKw pos (keywordEach [] X.env)).all (fun x => x.1.isSome)
      && decide (([e, f] : List Expr).length + ([] : List Keyword).length + (if ([] : List Keyword).isEmpty then 0 else 1) < 30)) = true := by rfl)
    (hline : (apos.endLine == pos.line) = true := by rfl) (htr : backTo pos (starEach [e, f] X.env) = [(false, eval e X.env), (false, eval f X.env)] := by rfl) :
    AE X W (.Call (.Attribute o "get" apos) [e, f] [] pos) (tDGet2 t u r) (aDget2 a c d) := ⟨pe_dget2 (by omega) h.pe g.pe hf.pe ⟨hbase, hfew, hline, htr⟩, se_dget2 h.se g.se hf.se⟩
end
end G

set_option Elab.async false
set_option linter.all false
set_option maxRecDepth 100000
set_option maxHeartbeats 4000000
namespace G
open PySem PySem.Spec PyProof.Rows L2 Builtin.ObjectAttr
/-! ### own exception classes over any built-in one, their __init__ storing one field -/
/-- what the head must say of the class at C, over the built-in B -/
structure XMade (K : PySem.W.Frag) (C : Addr) (B newId initId : String) (bmB : List Value) : Prop where
  fb : ExcBaseFacts B newId initId bmB
  sf : StoreFacts B bmB "object.__setattr__" "object"
  inI : PySem.W.excInitIn K C bmB newId = true
  ov : PySem.W.excOver K C bmB = true
  hd : PySem.W.hasDictIn K C = true
  sa : PySem.W.findIn K (.ref C) "__setattr__" = some (some (.builtin "object.__setattr__"))
  exC : PySem.W.subIn K (.ref C) (.type "BaseException") = some true
  tyC : PySem.W.typeIn K (.ref C) = some (.type "type")
  kC : PySem.W.keepIn K (.ref C) = true
section
variable {X : Cx} {pins : List (Addr × Obj)} {σ : L2.St} {H : Hp} {s : Shared} {a C : Addr} {f : Str} {y : V} {u : Value} {Q : Unit → Shared → Prop} {E : Value → Shared → Prop} {A : Around} {B newId initId : String} {bmB : List Value}
/-- the first field's store -/
theorem xstore (T : XMade X.K C B newId initId bmB) (ht : PySem.W.takerIn X.K C f = some none) (I : Inv X pins σ H s) (e : H a = some (exo a C none)) (ry : RelV y u)
    (h : ∀ dx s', H dx = none → dx ≠ a → Inv X pins σ (upd (upd H dx (exd dx [(f, y)])) a (exo a C (some dx))) s' → Q () s') : wpAny (model X.prog X.w) A (setAttr (.ref a) f u) Q E s := by
  obtain ⟨t1, ho⟩ := exo_at I.hok e
  obtain ⟨cd, hc, hhd⟩ := PySem.W.any_some T.hd
  obtain ⟨hp, g, d, t, os⟩ := s
  have J0 : PySem.W.InstAt hp a ({ cls := .ref C, dict := none, data := .fields #[.ref t1, .none, .none, .none, .bool false, .none] } : Obj) C none := ⟨ho, rfl, rfl, trivial⟩
  have lt : a < hp.objs.size := Heap.lt_size ho
  refine PySem.W.set_plain (od := none) I.kIn J0 T.sa (PySem.W.osa_openX (s := ⟨hp, g, d, t + 1, os⟩) (od := none) T.sf I.kIn J0 T.ov ht fun b => ?_)
  refine wpAny_bind (wpAny_pure (wpAny_bind (PySem.W.instanceDict_exc (s := ⟨hp, g, d, t + 1, os⟩) ho (PySem.W.looks_clsIn I.kIn hc) hhd ?_)))
  show wpAny _ _ (storeInDict hp.objs.size _ f u) _ _ _
  generalize hh1 : (hp.push (PySem.W.dictOf [] 0)).update a (fun o => { o with dict := some hp.objs.size }) = h1
  have ga : h1.get? a = some ({ cls := .ref C, dict := some hp.objs.size, data := .fields #[.ref t1, .none, .none, .none, .bool false, .none] } : Obj) := by
    rw [← hh1, Heap.get?_update_self _ (Heap.get?_push_of_some _ ho) rfl]
  have gd : h1.get? hp.objs.size = some (PySem.W.dictOf [] 0) := by
    rw [← hh1, Heap.get?_update_other _ _ (Nat.ne_of_lt lt)]
    exact Heap.get?_push_size hp rfl
  have gk : ∀ b o, b ≠ a → hp.get? b = some o → h1.get? b = some o := fun b o hb e => by
    rw [← hh1, Heap.get?_update_other _ _ (Ne.symm hb)]
    exact Heap.get?_push_of_some _ e
  refine PySem.HandSPX.store_in_new (hp := h1) ⟨_, #[], _, gd, rfl, fun e he => absurd he (by simp), fun _ => rfl⟩ fun h2 tk hn sb => ?_
  have hnd : H hp.objs.size = none := I.hok.fresh (Nat.le_refl _)
  have nd : ∀ {b : Addr} {o : Obj}, hp.get? b = some o → b ≠ hp.objs.size := fun {b o} q => Nat.ne_of_lt (Heap.lt_size q)
  have na : ∀ {b : Addr}, H b = none → b ≠ a := fun {b} n z => by
    rw [z, e] at n
    cases n
  have g2 : ∀ b o, b ≠ a → hp.get? b = some o → h2.get? b = some o := fun b o hb e => (sb.2 b (nd e)).trans (gk b o hb e)
  have g2a : h2.get? a = some ({ cls := .ref C, dict := some hp.objs.size, data := .fields #[.ref t1, .none, .none, .none, .bool false, .none] } : Obj) := (sb.2 a (Nat.ne_of_lt lt)).trans ga
  have un : Un X.fs [] H (upd (upd H hp.objs.size (exd hp.objs.size [(f, y)])) a (exo a C (some hp.objs.size))) hp h2 := {
    keep := fun b o q n _ _ => g2 b o (na n) q
    slot := fun b o q n _ _ => ⟨o.slots, g2 b o (na n) q⟩
    free := fun b o q n _ => by
      rw [upd_ne (na n), upd_ne (nd q)]
      exact n
    there := fun b o q _ => by
      by_cases hb : b = a
      · exact ⟨_, by rw [hb]; exact g2a⟩
      · exact ⟨o, g2 b o hb q⟩
    tups := fun b xs q => by
      rw [upd_ne (at_ne e q exo_tup), upd_ne (ne_of_none q hnd)]
      exact q
    frzs := fun b o v q => by
      rw [upd_ne (at_ne e q exo_frz), upd_ne (ne_of_none q hnd)]
      exact q
    tbls := fun b ps q => ⟨#[], by
      rw [upd_ne (at_ne e q exo_tbl), upd_ne (ne_of_none q hnd), q]
      simp⟩ }
  refine h hp.objs.size _ hnd (Nat.ne_of_gt lt) (I.un (t' := tk) un fun b o q => ?_)
  by_cases hb : b = a
  · subst hb
    rw [upd_same] at q
    cases q
    exact exo_ok g2a
  · rw [upd_ne hb] at q
    by_cases hd : b = hp.objs.size
    · subst hd
      rw [upd_same] at q
      cases q
      exact exd_ok hn (relO_put (fs := []) ry fun g => True.intro)
    · rw [upd_ne hd] at q
      refine (I.hok b o q).stay (fun c v hcc z => g2 c v ?_ z) (fun c hcc => ?_) (fun c xs hcc => ?_)
      · rcases hcc with hcc | hcc
        · rw [hcc]; exact hb
        · exact at_ne e hcc exo_own
      · rw [upd_ne (at_ne e hcc exo_own), upd_ne (ne_of_none hcc hnd)]
        exact hcc
      · rw [upd_ne (at_ne e hcc exo_tup), upd_ne (ne_of_none hcc hnd)]
        exact hcc
/-- B.__init__(self, ..) -/
theorem xinit {us : List Value} {Q : Value → Shared → Prop} (T : XMade X.K C B newId initId bmB) (I : Inv X pins σ H s) (e : H a = some (exo a C none)) (hl : us.length ≤ sizeLine) (h : ∀ s', Inv X pins σ H s' → Q .none s') :
    wpAny (model X.prog X.w) A (call (.builtin initId) (.ref a :: us)) Q E s := by
  obtain ⟨nm, N, q, bs, bm, hdct, sn, sub, ab, col, dd, k0, k1, k2, k3, k5, hC, hT⟩ := PySem.W.excInit_of I.kIn T.inI
  obtain ⟨t1, ho⟩ := exo_at I.hok e
  obtain ⟨hp, g, d, t, os⟩ := s
  refine wpAny_call (PySem.HandSPX.init_base T.fb hT hC ho hl fun h' t2 k hx => ?_)
  have J := I.write (t' := t) (x := a) (e := a) (o := exo a C none) (by rw [e]; trivial) (.inl rfl) k ⟨_, hx⟩ (exo_ok hx)
  have same : upd H a (exo a C none) = H := funext fun b => by
    by_cases hb : b = a
    · rw [hb, upd_same, e]
    · rw [upd_ne hb]
  rw [same] at J
  exact h _ J
/-! readings -/
/-- B.__init__(self, ..) as a value -/
def tXI (K : PySem.W.Frag) (B newId initId : String) (bmB : List Value) (ta : TA) : TE := fun σ H Q => ta σ H fun vs H1 => ∃ (a C : Addr) (ws : List V), vs = .ref a :: ws ∧ ws.length ≤ 1000 ∧ XMade K C B newId initId bmB ∧ H1 a = some (exo a C none) ∧ Q .non H1
/-- self.f = e -/
def tXS (K : PySem.W.Frag) (f : Str) (to te : TE) : TS := fun D σ H => te σ H fun y H1 => to σ H1 fun x H2 => ∃ (a C : Addr) (B newId initId : String) (bmB : List Value), x = .ref a ∧ XMade K C B newId initId bmB ∧ PySem.W.takerIn K C f = some none ∧
  H2 a = some (exo a C none) ∧ ∀ dx, H2 dx = none → dx ≠ a → D.nx σ (upd (upd H2 dx (exd dx [(f, y)])) a (exo a C (some dx)))
theorem pe_xinit {pl : Sem Bool} {e : Expr} {es : List Expr} {ta : TA} {p1 p2 pos : Pos} (hg : Gl X B) (hm : X.mg B = none) (hB : bootBuiltins B = some (.type B)) (ty : typeOf (.type B) = pure (.type "type")) (hst : Manifest.isStub B = false) (hn : (B : Str) ≠ "__name__") (hdb : ((B : Str) == ("__debug__" : Str)) = false) (hh : PySem.W.handedIn (.builtin initId) = true)
    (vV : PySem.W.findCls X.K (.type B) (.type "type") "__init__" = some (.val (.builtin initId))) (ha : PA X (e :: es) ta)
    (hc : eval (.Call (.Attribute (.Name B p1) "__init__" p2) (e :: es) [] pos) X.env = (do
      let ov ← eval (.Name B p1) X.env
      standAt p2.atName
      let (f, first) ← holding [ov] (getMethod ov "__init__" pl)
      callWith pos f first (backTo pos (starEach (e :: es) X.env)) (backToKw pos (keywordEach [] X.env))) := by rfl)
    (he : starEach (e :: es) X.env = (false, eval e X.env) :: starEach es X.env := by rfl) (hpl : (backTo pos (starEach es X.env)).any (·.1) = false := by rfl) :
    PE X (.Call (.Attribute (.Name B p1) "__init__" p2) (e :: es) [] pos) (tXI X.K B newId initId bmB ta) := by
  refine ⟨fun pins s σ H Q I h => ?_⟩
  refine PySem.W.methodCall_KW (ld_blt I hg hm hB ?_ hn hdb) hc
  obtain ⟨m, fr⟩ := I.fr
  refine PySem.W.method_type fr I.ok.mod.kin ty hst vV hh ?_
  show wpAny _ _ (callWith pos (Value.builtin initId) [] (backTo pos (starEach (e :: es) X.env)) []) _ _ _
  refine PyProof.Rows.callWith_method1 (thn (ha.run pos pins _ σ H _ (I.tok _) h) fun us s1 ⟨vs, H1, I1, r1, a, C, ws, ev, hl, T, ea, q⟩ => ?_) he hpl
  subst ev
  cases r1 with
  | @cons _ u0 _ ur ra rw' =>
    obtain rfl : u0 = Value.ref a := ra
    exact xinit T I1 ea (by rw [← Paired.length rw', sizeLine_eq]; omega) fun s' J => ⟨.non, H1, J, rfl, q⟩
theorem ps_xstore {o e : Expr} {to te : TE} {p' pos : Pos} (ho : PE X o to) (he : PE X e te) (hs : swapsWith e (some (.Attribute o f p')) pos.line X.env = pure false := by rfl) : PS X (.Assign [.Attribute o f p'] e pos) (tXS X.K f to te) := by
  refine ⟨fun pins s σ H D I h => plainObj_wpAny_Assign_Attribute (thn (he.run pins s σ H _ I h) fun v s1 ⟨y, H1, I1, r1, q1⟩ => thn (ho.run pins s1 σ H1 _ I1 q1) fun u s2 ⟨x, H2, I2, r2, a, C, B, n1, n2, bm, ex, T, ht, ea, q⟩ => ?_) hs⟩
  subst ex
  obtain rfl : u = Value.ref a := r2
  exact xstore T ht I2 ea r1 fun dx s' n ne J => ⟨σ, _, J, q dx n ne⟩
/-- what the __init__ keeps: self's one field, new -/
def spXI (C : Addr) (f : Str) : Sp := fun vs H Q _ => ∃ (a : Addr) (v : V), vs = [.ref a, v] ∧ H a = some (exo a C none) ∧ ∀ d, H d = none → d ≠ a → Q .non (upd (upd H d (exd d [(f, v)])) a (exo a C (some d)))
/-- C(e), made to be raised -/
def tXM (C : Addr) (f : Str) (ta : TA) : L2.St → Hp → XK → Prop := fun σ H Q => ta σ H fun vs H1 => ∃ v, vs = [v] ∧ ∀ d, H1 d = none → Q (.ref C) (some d) (upd H1 d (.xd [(f, v)]))
theorem pmk_x {x : Str} {fI : Addr} {k : Nat} {fd : FuncData} {ps : List Str} {p pos : Pos} {e : Expr} {es : List Expr} {ta : TA} (T : XMade X.K C B newId initId bmB) (iC : PySem.W.findIn X.K (.ref C) "__init__" = some (some (.ref fI))) (tI : PySem.W.typeIn X.K (.ref fI) = some (.type "function"))
    (F1 : FnOk X.prog X.w X.K X.mg X.base CX0 k fI fd ps (spXI C f)) (hr : Room (k + 1) X.A) (hb : Binds X.K fd ps []) (hg : Gl X x) (hm : X.mg x = some (.ref C)) (ha : PA X (e :: es) ta)
    (hdb : (x == ("__debug__" : Str)) = false := by decide) (he : starEach (e :: es) X.env = (false, eval e X.env) :: starEach es X.env := by rfl) (hpl : (backTo pos (starEach es X.env)).any (·.1) = false := by rfl) :
    PMk X (.Call (.Name x p) (e :: es) [] pos) (tXM C f ta) := by
  intro pins s σ H Q I h
  refine wpAny_Call_Name_kw (ld_glob I hg hm ?_ hdb)
  refine PySem.W.callWith_K (h₀ := X.base) I.ok.mod.kin T.kC (thn (ha.run pos pins s σ H _ I h) fun us s1 ⟨vs, H1, I1, r1, v, ev, q1⟩ => ⟨I1.kIn, ?_⟩) he hpl
  subst ev
  show wpAny _ _ (call (.ref C) us) _ _ _
  obtain ⟨nm, N, qn, bs, bm, hdct, sn, sub, ab, col, dd, k0, k1, k2, k3, k5, hC, hT⟩ := PySem.W.excInit_of I1.kIn T.inI
  obtain ⟨hp, g, dr, tk, os⟩ := s1
  have hn : H1 (hp.objs.size + 1) = none := I1.hok.fresh (Nat.le_succ _)
  have kk : ∀ b o, hp.get? b = some o → ((hp.push (PySem.W.kdv_tup us)).push (PySem.HandSPX.excO C hp.objs.size)).get? b = some o := fun b o q => Heap.get?_push_of_some _ (Heap.get?_push_of_some _ q)
  have hget : ((hp.push (PySem.W.kdv_tup us)).push (PySem.HandSPX.excO C hp.objs.size)).get? (hp.objs.size + 1) = some (PySem.HandSPX.excO C hp.objs.size) := by heap_get
  generalize hh2 : (hp.push (PySem.W.kdv_tup us)).push (PySem.HandSPX.excO C hp.objs.size) = h2 at kk hget
  have I2 : Inv X pins σ (upd H1 (hp.objs.size + 1) (exo (hp.objs.size + 1) C none)) ⟨h2, g, dr, tk, os⟩ := I1.laid (t' := tk) kk (Nat.le_succ _) (exo_ok hget)
  have r2 : Vals [V.ref (hp.objs.size + 1), v] (Value.ref (hp.objs.size + 1) :: us) := .cons rfl r1
  have up : ∀ {d : Addr}, upd H1 (hp.objs.size + 1) (exo (hp.objs.size + 1) C none) d = none → d ≠ hp.objs.size + 1 → H1 d = none := fun {d} z ne => by
    rw [upd_ne ne] at z; exact z
  have hq : spXI C f [V.ref (hp.objs.size + 1), v] (upd H1 (hp.objs.size + 1) (exo (hp.objs.size + 1) C none)) (fun r H2 => r = .non ∧ ∃ d, H1 d = none ∧ d ≠ hp.objs.size + 1 ∧ H2 = upd (upd (upd H1 (hp.objs.size + 1) (exo (hp.objs.size + 1) C none)) d (exd d [(f, v)])) (hp.objs.size + 1) (exo (hp.objs.size + 1) C (some d))) (fun _ _ _ => False) :=
    ⟨_, v, rfl, upd_same, fun d hd ne => ⟨rfl, d, up hd ne, ne, rfl⟩⟩
  have hl : (Value.ref (hp.objs.size + 1) :: us).length = ps.length := by
    rw [← r2.length]; exact F1.len _ _ _ _ hq
  have hus : us.length ≤ sizeLine := by
    have : us.length = 1 := by
      have := r1.length
      simp at this; omega
    rw [this, sizeLine_eq]; omega
  have b1 := hb ⟨h2, g, dr, tk, os⟩ (Value.ref (hp.objs.size + 1) :: us) I2.kIn (by rw [List.append_nil]; exact hl)
  rw [List.append_nil] at b1
  refine wpAny_call (PySem.HandSPX.call_own T.fb hT hC (PySem.W.looks_findIn I1.kIn iC) (fun self => PySem.W.bind_fn I1.kIn self tI) hus ?_)
  show codeAny _ _ (.call (.ref fI) ⟨.ref (hp.objs.size + 1) :: us, []⟩) _ ⟨(hp.push (PySem.W.kdv_tup us)).push (PySem.HandSPX.excO C hp.objs.size), g, dr, tk, os⟩
  rw [hh2]
  refine codeAny_mono (F1.run _ X.stack _ _ ⟨Value.ref (hp.objs.size + 1) :: us, []⟩ (Value.ref (hp.objs.size + 1) :: us) _ _ (fun _ _ _ => False) (hr.make C us []) (I2.env0.make C us []) b1 r2 hq) fun r s' hq' => ?_
  cases r with
  | error er => exact absurd hq' (by intro z; exact z)
  | ok fl =>
    cases fl with
    | ret w =>
      obtain ⟨rv, H2, os2, bare2, un2, hok2, rw2, ev, d, hd1, hne, eH⟩ := hq'
      subst ev
      obtain ⟨h3, g2, d2, t2, os'⟩ := s'
      have ea : H2 (hp.objs.size + 1) = some (exo (hp.objs.size + 1) C (some d)) := by rw [eH, upd_same]
      have ed : H2 d = some (exd d [(f, v)]) := by rw [eH, upd_ne hne, upd_same]
      refine ⟨rw2, mk_end (raises_own T.exC T.tyC) I1 (Nat.le_succ _) kk un2 hok2 os2 bare2 ea ed hd1 ?_⟩
      have eq : upd (del H2 (hp.objs.size + 1)) d (.xd [(f, v)]) = upd H1 d (.xd [(f, v)]) := funext fun b => by
        by_cases hbd : b = d
        · rw [hbd, upd_same, upd_same]
        · rw [upd_ne hbd, upd_ne hbd]
          by_cases hba : b = hp.objs.size + 1
          · rw [hba, del_same, hn]
          · rw [del_ne hba, eH, upd_ne hba, upd_ne hbd, upd_ne hba]
      rw [eq]
      exact q1 d hd1
    | next => exact False.elim hq'
    | brk => exact False.elim hq'
    | cont => exact False.elim hq'
end
end G

set_option Elab.async false
set_option linter.all false
set_option maxRecDepth 100000
set_option maxHeartbeats 4000000
namespace G
section
open PySem PySem.Spec PySem.Calls PyProof.Rows PySem.W
section
variable {M : Model} {K : Frag} {A : Around} {E : Value → Shared → Prop} {s : Shared}
theorem loop_unit {f : Value → PUnit → Sem (ForInStep PUnit)} : ∀ {l : List Value} {Q : PUnit → Shared → Prop}, (∀ c ∈ l, ∀ Q : ForInStep PUnit → Shared → Prop, Q (.yield ⟨⟩) s → wpAny M A (f c ⟨⟩) Q E s) → Q ⟨⟩ s → wpAny M A (forIn l PUnit.unit f) Q E s
  | [], Q, _, q => by
    simp only [List.forIn_nil]
    exact wpAny_pure q
  | c :: l, Q, hf, q => by
    simp only [List.forIn_cons]
    exact wpAny_bind (hf c List.mem_cons_self _ (loop_unit (fun d hd => hf d (List.mem_cons_of_mem _ hd)) q))
theorem loop_any {cls : Value} {f : Value → Option Bool × Unit → Sem (ForInStep (Option Bool × Unit))} : ∀ {l : List Value} {b : Bool} {Q : Option Bool × Unit → Shared → Prop},
    (∀ c ∈ l, ∀ v, exmOne K cls c = some v → ∀ Q : ForInStep (Option Bool × Unit) → Shared → Prop, Q (if v = true then .done (some true, ()) else .yield (none, ())) s → wpAny M A (f c (none, ())) Q E s) → exmAny K cls l = some b → Q (if b = true then some true else none, ()) s → wpAny M A (forIn l (none, ()) f) Q E s
  | [], b, Q, _, e, q => by
    unfold exmAny at e
    cases e
    simp only [List.forIn_nil]
    exact wpAny_pure q
  | c :: l, b, Q, hf, e, q => by
    obtain ⟨b1, d1, e1, e2, rfl⟩ := exmAny_cons e
    simp only [List.forIn_cons]
    refine wpAny_bind (hf c List.mem_cons_self b1 e1 _ ?_)
    cases b1 with
    | true => exact wpAny_pure q
    | false => exact loop_any (fun d hd => hf d (List.mem_cons_of_mem _ hd)) e2 q
theorem exmAny_all {cls : Value} : ∀ {l : List Value} {b : Bool}, exmAny K cls l = some b → ∀ c ∈ l, ∃ v, exmOne K cls c = some v
  | c :: l, b, e, d, hd => by
    obtain ⟨b1, d1, e1, e2, rfl⟩ := exmAny_cons e
    rcases List.mem_cons.mp hd with rfl | hd
    · exact ⟨b1, e1⟩
    · exact exmAny_all e2 d hd
end
/-- an except clause with a tuple of any number of classes -/
theorem exm_many {M : Model} {K : Frag} {cs : List Value} {cls : Value} {tp e : Addr} {b : Bool} {h : Heap} {n : Nat} (X : K.In h) (LT : Looks M h (typeOf (.ref e)) cls) (hp : h.get? tp = some { cls := .type "tuple", data := .seq cs.toArray n }) (hx : exmAny K cls cs = some b) :
    Looks M h (excMatches (.ref e) (.ref tp)) b := by
  intro A Q E s k₀ q
  have LT0 : Looks M h (isInstance (.ref tp) (.type "tuple")) true := ((Looks.ld hp).andThen .now).andThen (Looks.of_pure isSubtype_tuple_tuple)
  obtain ⟨hh, g, d, tk, os⟩ := s
  have k : ∀ b o, h.get? b = some o → hh.get? b = some o := k₀
  have LT := LT.keeps k
  have LT0 := LT0.keeps k
  have hp' := k _ _ hp
  unfold excMatches
  refine wpAny_bind (LT0.at ?_)
  dsimp only
  rw [if_pos rfl]
  refine wpAny_bind (wpAny_bind (wpAny_load hp' (wpAny_pure (wpAny_bind (wpAny_pure ?_)))))
  dsimp only [Option.getD_some, Option.getD]
  refine wpAny_bind (loop_unit (fun c hc Q q => ?_) ?_)
  · obtain ⟨v, ev⟩ := exmAny_all hx c hc
    obtain ⟨e1, _⟩ := exm_cls (M := M) X ev
    refine wpAny_bind ((e1.keeps k).here ?_)
    exact wpAny_pure q
  refine wpAny_bind (LT.here ?_)
  refine wpAny_bind (loop_any (fun c hc v ev Q q => ?_) hx ?_)
  · obtain ⟨_, S1⟩ := exm_cls (M := M) X ev
    refine wpAny_bind ((S1.keeps k).here ?_)
    cases v <;> exact wpAny_pure q
  cases b <;> exact wpAny_pure q
end
open PySem PySem.Spec PyProof.Rows L2
/-! ### try: body, except (classes) as n: suite; the exception stands on as an object -/
/-- the clause's test says yes to an exception of the class at C -/
def XTest (X : Cx) (te : Expr) (C : Addr) : Prop := ∀ (a : Addr) (oe : Obj) (pn : List (Addr × Obj)) (σ : L2.St) (H : Hp) (s : Shared) (Q : Bool → Shared → Prop) (E : Value → Shared → Prop), Inv (X.suite a pn) [] σ H s → s.heap.get? a = some oe → oe.cls = .ref C →
  (∀ h', (∀ b o, s.heap.get? b = some o → h'.get? b = some o) → Q true { s with heap := h' }) →
  wpAny (model X.prog X.w) (X.A.mark (some (.ref a))) (eval te X.env) (fun c s1 => wpAny (model X.prog X.w) (X.A.mark (some (.ref a))) (excMatches (.ref a) c) Q E s1) E s
section
variable {X : Cx} {C : Addr}
theorem test_nm {x : Str} {c : Value} {np : Pos} {a : Addr} {pn : List (Addr × Obj)} {σ : L2.St} {H : Hp} {s : Shared} {Q E : Value → Shared → Prop} (hc : Names X x c) (I : Inv (X.suite a pn) [] σ H s) (q : Q c s) :
    wpAny (model X.prog X.w) (X.A.mark (some (.ref a))) (eval (.Name x np) X.env) Q E s := by
  obtain ⟨hg, hdb, hm | ⟨hm, hv, hn⟩⟩ := hc
  · exact ld_glob (X := X.suite a pn) I hg hm q hdb
  · exact ld_blt (X := X.suite a pn) I hg hm hv q hn hdb
theorem xtest_one {x : Str} {c : Value} {np : Pos} (hc : Names X x c) (e : PySem.W.exmOne X.K (.ref C) c = some true) : XTest X (.Name x np) C := fun a oe pn σ H s Q E I ha hcl q =>
  test_nm hc I ((PySem.W.exm_one I.kIn (fun A Q E s k z => wpAny_typeOf_ref (k _ _ ha) (by rw [hcl]; exact z)) e).here (q s.heap fun _ _ z => z))
inductive NamesL (X : Cx) : List Expr → List Value → Prop
  | nil : NamesL X [] []
  | cons {x : Str} {c : Value} {np : Pos} {es : List Expr} {cs : List Value} : Names X x c → NamesL X es cs → NamesL X (.Name x np :: es) (c :: cs)
theorem names_all {pos : Pos} {a : Addr} {pn : List (Addr × Obj)} {σ : L2.St} {H : Hp} {s : Shared} {E : Value → Shared → Prop} (I : Inv (X.suite a pn) [] σ H s) {es : List Expr} {cs : List Value} (hn : NamesL X es cs) : ∀ {Q : List Value → Shared → Prop}, Q cs s →
    wpAny (model X.prog X.w) (X.A.mark (some (.ref a))) (spliced (backTo pos (starEach es X.env))) Q E s := by
  induction hn with
  | nil => intro Q q; exact wpAny_items_nil q
  | cons h _ ih => intro Q q; exact wpAny_items_cons (test_nm h I (ih q))
theorem xtest_tup {es : List Expr} {cs : List Value} {k : Nat} {np : Pos} (hn : NamesL X es cs) (hl : cs.length ≤ 100) (e : PySem.W.exmAny X.K (.ref C) cs = some true) : XTest X (.Tuple es k np) C := fun a oe pn σ H s Q E I ha hcl q => by
  refine wpAny_Tuple (names_all I hn ⟨by rw [sizeLine_eq]; omega, ?_⟩)
  have kp : ∀ b o, s.heap.get? b = some o → (s.heap.push { cls := .type "tuple", data := .seq cs.toArray }).get? b = some o := fun _ _ z => Heap.get?_push_of_some _ z
  exact (exm_many (I.kIn.keeps kp) (fun A Q E s k z => wpAny_typeOf_ref (k _ _ (kp _ _ ha)) (by rw [hcl]; exact z)) (Heap.get?_push_size s.heap rfl) e).here (q _ kp)
/-- on the ground again, the exception's object beside all others -/
theorem landX {pins : List (Addr × Obj)} {σ : L2.St} {H : Hp} {sI s' : Shared} {B : Heap} {a d : Addr} (I : Inv X pins σ H sI) (nb : ∀ b o, sI.heap.get? b = some o → b ∉ frs X.stack → B.get? b = some o) (fl : HandSPX.FlyingZ B X.stack a (Zc (.ref C) (some d)) s'.heap) (up : sI.heap.UpToSlots s'.heap)
    (na : H a = none) (os : s'.os = sI.os) (ag : AllBare s'.gens) : Inv X pins σ (upd H a (excV C d a)) s' := by
  obtain ⟨st, hBa, ff, hex⟩ := id fl
  obtain ⟨oe, vs, he, hz, hd⟩ := fl.there
  have nfr : a ∉ frs X.stack := fun hm => by
    obtain ⟨_, o', e', hnf⟩ := ff.mem hm
    rw [he] at e'; cases e'
    exact hnf _ hd
  have nI : ∀ {b : Addr} {o : Obj}, sI.heap.get? b = some o → b ≠ a := fun {b o} q z => by
    subst z
    have := nb b o q nfr
    rw [hBa] at this; cases this
  have nf : ∀ b ∈ frs X.stack, ∀ o, sI.heap.get? b = some o → ∃ sl, s'.heap.get? b = some { o with slots := sl } := fun b hb o q => by
    obtain ⟨_, o2, q2, hdat⟩ := I.stack.mem hb
    rw [q] at q2; cases q2
    exact up b o q hdat
  have un : Un (frs X.stack) [] H (upd H a (excV C d a)) sI.heap s'.heap := {
    keep := fun b o q _ hb _ => st b o (nb b o q hb)
    slot := fun b o q _ hb _ => nf b hb o q
    free := fun b o q n _ => by rw [upd_ne (nI q)]; exact n
    there := fun b o q _ => by
      by_cases hb : b ∈ frs X.stack
      · obtain ⟨sl, z⟩ := nf b hb o q
        exact ⟨_, z⟩
      · exact ⟨o, st b o (nb b o q hb)⟩
    tups := fun b xs q => by rw [upd_ne (ne_of_none q na)]; exact q
    frzs := fun b o v q => by rw [upd_ne (ne_of_none q na)]; exact q
    tbls := fun b ps q => ⟨#[], by rw [upd_ne (ne_of_none q na), q]; simp⟩ }
  have g0 : HOk X.prog X.w H s'.heap := (I.inGround nb).kept st
  refine I.call' (ch := []) os un (fun b o q => ?_) ag (fun b z => nomatch z)
  by_cases hb : b = a
  · subst hb
    rw [upd_same] at q
    cases q
    exact ⟨⟨oe, vs, he, hz, hd⟩, ⟨oe, he⟩, fun h1 h2 ⟨o1, v1, z1, z2, z3⟩ k => ⟨o1, v1, k _ z1, z2, z3⟩⟩
  · rw [upd_ne hb] at q
    exact (g0 b o q).stay (fun _ _ _ z => z) (fun c z => by rw [upd_ne (ne_of_none z na)]; exact z) (fun c xs z => by rw [upd_ne (ne_of_none z na)]; exact z)
theorem suiteX {pins : List (Addr × Obj)} {σ : L2.St} {H : Hp} {s : Shared} (I : Inv X pins σ H s) (a : Addr) : Inv (X.suite a (X.pn ++ pins)) [] σ H s :=
  ⟨I.ok.suite _ _, I.os, I.bare, I.base, I.loc, I.cell, I.free, I.freeC, fun p hp => I.pin p (by rw [List.append_nil] at hp; exact hp), I.hok, I.len⟩
theorem unsuiteX {pins pn' : List (Addr × Obj)} {σ : L2.St} {H : Hp} {s : Shared} {a : Addr} (I : Inv (X.suite a (X.pn ++ pins)) pn' σ H s) (ok : X.Ok) : Inv X pins σ H s :=
  ⟨ok, I.os, I.bare, I.base, I.loc, I.cell, I.free, I.freeC, fun p hp => I.pin p (List.mem_append_left _ hp), I.hok, I.len⟩
theorem flying_keep {B h h' : Heap} {l : List PySem.Env} {a : Addr} {Z : Obj → Prop} (R : HandSPX.FlyingZ B l a Z h) (k : ∀ b o, h.get? b = some o → h'.get? b = some o) : HandSPX.FlyingZ B l a Z h' := by
  obtain ⟨f1, f2, f3, oe, ws, T, oT, ts, he, hz, hd, h1, hn, hne, hT, hdT, h3⟩ := R
  exact ⟨fun b o q => k b o (f1 b o q), f2, f3.of_keeps fun b o q _ => ⟨o, k b o q, rfl⟩, oe, ws, T, oT, ts, k _ _ he, hz, hd, h1, hn, hne, k _ _ hT, hdT, h3⟩
/-- what the clause wishes: it takes whatever comes -/
def wX (T : Addr → Prop) (i : Nat) (ts : TS) (D : Ends) : WX := fun cls d σ H => ∃ C dd, cls = .ref C ∧ d = some dd ∧ T C ∧ ∀ a, H a = none → ts { nx := fun σ' H' => D.nx (σ'.set i none) H', rt := D.rt, bk := fun σ' H' => D.bk (σ'.set i none) H', ct := fun σ' H' => D.ct (σ'.set i none) H' } (σ.set i (some (.ref a))) (upd H a (excV C dd a))
theorem ps_tryX {n : Str} {i : Nat} {te : Expr} {body suite : List Stmt} {b₀ : Stmt} {pos pos' : Pos} {tb : WX → TS} {ts : TS} {T : Addr → Prop} (hs : X.stack = X.env :: X.outer) (hf : X.env.frame = some X.env.locals) (hN : X.N.Nodup) (hi : X.N[i]? = some n) (hln : X.env.kindOf n = some .local) (hT : ∀ C, T C → XTest X te C)
    (hb : ∀ (W : WX) (pn : List (Addr × Obj)) (xe : Value → Shared → Prop), Takes (X.tr pn xe) W → PassesOwn (model X.prog X.w) X.A X.env xe → PSs (X.tr pn xe) body (tb W))
    (hsu : ∀ (a : Addr) (pn : List (Addr × Obj)), PSs (X.suite a pn) (b₀ :: suite) ts) :
    PS X (.Try body [.ExceptHandler (some te) (some n) (b₀ :: suite) pos'] [] [] pos) (fun D σ H => tb (wX T i ts D) D σ H) := by
  refine ⟨fun pins s σ H D I h => ?_⟩
  have ok := I.ok
  have hfr : X.A.frames = some (X.env :: X.outer) := by rw [ok.frames, hs]
  refine wpAny_Try_except (wpAny_mono ((hb (wX T i ts D) (X.pn ++ pins) (fun e s₁ => wpAny (model X.prog X.w) X.A (noteFrame e X.env) (fun _ s₂ => wpAny (model X.prog X.w) X.A (setFlight e none) (fun _ s₃ =>
    wpAny (model X.prog X.w) X.A (handleBy e X.env [.ExceptHandler (some te) (some n) (b₀ :: suite) pos']) (L2.SP X pins D) X.xe s₃) X.xe s₂) X.xe s₁) (fun u s' xx => ?_) PassesOwn.looking).run [] s σ H D (I.toTry _) h) (fun f s1 hsp => ?_) (fun e s1 he => he))
  · obtain ⟨a, B, sI, pins', σ', H', cls, d, rfl, J', nb, up, sky, na, os, ag, C, dd, rfl, rfl, hTC, hyes⟩ := xx
    have J : Inv X pins σ' H' sI := J'.ofTry ok
    have sky' : Sky B (X.env :: X.outer) a (Zc (.ref C) (some dd)) X.env.locals s'.heap := by rw [← hs]; exact sky
    show wpAny (model X.prog X.w) X.A (noteFrame (.ref a) X.env) _ _ _
    refine Sky.land Zc.steady hfr hf sky' fun h3 fl3 up3 => ?_
    rw [← hs] at fl3
    have J3 : Inv X pins σ' (upd H' a (excV C dd a)) { s' with heap := h3 } := landX J nb fl3 (up.trans up3) na os ag
    obtain ⟨oe3, vs3, he3, hz3, hd3⟩ := fl3.there
    refine wpAny_handleBy_cons (codeAny_handlers_test ?_) (by intro q; cases q)
    refine hT C hTC a oe3 _ _ _ { s' with heap := h3 } _ _ (suiteX J3 a) he3 hz3.1 fun h5 k5 => ?_
    refine codeAny_handlers_suite_as ?_
    refine HandSPX.lands_againZ (flying_keep fl3 k5) fun h4 fl4 up4 => ?_
    have J4 : Inv X pins σ' (upd H' a (excV C dd a)) { s' with heap := h4 } := landX J nb fl4 (((up.trans up3).trans (Heap.UpToSlots.of_keeps k5)).trans up4) na os ag
    refine store_ok (X := X.suite a (X.pn ++ pins)) (v := .ref a) (suiteX J4 a) hN hi (.inl hln) rfl (fun s5 S5 => ?_) (.inr hln)
    refine wpAny_mono ((hsu a (X.pn ++ pins)).run [] s5 _ _ _ S5 (hyes a na)) (fun f s6 hsp => ?_) (fun _ _ z => z.elim)
    have fin : ∀ {σ6 : L2.St} {H6 : Hp} {Q : Shared → Prop}, Inv (X.suite a (X.pn ++ pins)) [] σ6 H6 s6 → (∀ s7, Inv X pins (σ6.set i none) H6 s7 → Q s7) → wpAny (model X.prog X.w) X.A (do bindName X.env n .none; unbindBehindTheSuite X.env n pos') (fun _ s7 => Q s7) X.xe s6 :=
      fun {σ6 H6 Q} S6 hq => gone_ok (unsuiteX S6 ok) hN hi hln hq
    cases f with
    | next =>
      obtain ⟨σ6, H6, y6, q6⟩ := hsp
      exact fin y6 fun s7 J7 => ⟨_, _, J7, q6⟩
    | brk =>
      obtain ⟨σ6, H6, y6, q6⟩ := hsp
      exact fin y6 fun s7 J7 => ⟨_, _, J7, q6⟩
    | cont =>
      obtain ⟨σ6, H6, y6, q6⟩ := hsp
      exact fin y6 fun s7 J7 => ⟨_, _, J7, q6⟩
    | ret u =>
      obtain ⟨v6, σ6, H6, y6, r6, q6⟩ := hsp
      exact fin y6 fun s7 J7 => ⟨_, _, _, J7, r6, q6⟩
  · cases f with
    | next =>
      obtain ⟨σ2, H2, y2, q2⟩ := hsp
      exact wpAny_execs_nil ⟨σ2, H2, y2.ofTry ok, q2⟩
    | brk =>
      obtain ⟨σ2, H2, y2, q2⟩ := hsp
      exact ⟨σ2, H2, y2.ofTry ok, q2⟩
    | cont =>
      obtain ⟨σ2, H2, y2, q2⟩ := hsp
      exact ⟨σ2, H2, y2.ofTry ok, q2⟩
    | ret u =>
      obtain ⟨v, σ2, H2, y2, r2, q2⟩ := hsp
      exact ⟨v, σ2, H2, y2.ofTry ok, r2, q2⟩
end
/-! ### a caught exception: isinstance, its fields -/
structure XRead (K : PySem.W.Frag) (C : Addr) : Prop where
  cl : (PySem.W.clsIn K C).isSome = true
  ga : PySem.W.findIn K (.ref C) "__getattribute__" = some (some (.builtin "BaseException.__getattribute__"))
  gg : PySem.W.findIn K (.ref C) "__getattr__" = some none
  exC : PySem.W.subIn K (.ref C) (.type "BaseException") = some true
  hd : PySem.W.hasDictIn K C = true
  ha : PySem.W.findIn K (.ref C) "__class__" = some (some (.builtin "object.__class__"))
  hn : PySem.W.specialIn K (.builtin "object.__class__") "__get__" = some (some (.builtin "getset_descriptor.__get__"))
  ht : PySem.W.takesIn K (.builtin "object.__class__") = some true
  hm : PySem.W.mroIn K C (.type "object") = some true
section
variable {X : Cx} {pins : List (Addr × Obj)} {σ : L2.St} {H : Hp} {s : Shared} {C d a : Addr} {gs : List (Str × V)}
theorem exc_at (I : Inv X pins σ H s) (e : H a = some (excV C d a)) (ed : H d = some (.xd gs)) : ∃ oe od, PySem.W.InstAt s.heap a oe C (some od) ∧ ∀ f v, gs.lookup f = some v → ∃ u, PySem.W.lookIn f od = some (some u) ∧ L2.RelV v u := by
  have x : ObjOk X.prog X.w H s.heap a (excV C d a) := I.hok a _ e
  obtain ⟨⟨oe, vs, he, hz, hv⟩, _, _⟩ := x
  have y : ObjOk X.prog X.w H s.heap d (.xd gs) := I.hok d _ ed
  obtain ⟨mA, hns, hr⟩ := y
  obtain ⟨od, ho, hl⟩ := lookIn_ns hns
  refine ⟨oe, od, ⟨he, hz.1, by unfold PySem.W.notCls; rw [hv] <;> rfl, by rw [hz.2]; exact ho⟩, fun f v lv => ?_⟩
  have q := hr f
  rw [lv] at q
  cases hm : mA f with
  | none => rw [hm] at q; exact q.elim
  | some u =>
    rw [hm] at q
    exact ⟨u, by rw [hl, hm], q⟩
/-- isinstance(e, c) -/
def rIsX (K : PySem.W.Frag) : List V → Hp → VK → Prop := fun xs H Q => ∃ (a C d : Addr) (gs : List (Str × V)) (c : V) (u : Value) (b : Bool), xs = [.ref a, c] ∧ ClsV c u ∧ XRead K C ∧ H a = some (excV C d a) ∧ H d = some (.xd gs) ∧ PySem.W.kitOne K (.ref C) u = some b ∧ Q (.bl b) H
/-- isinstance(e, (c, ..)) -/
def rIsXT (K : PySem.W.Frag) : List V → Hp → VK → Prop := fun xs H Q => ∃ (a C d tp : Addr) (gs : List (Str × V)) (cs : List V) (us : List Value) (b : Bool), xs = [.ref a, .ref tp] ∧ H tp = some (.tup cs) ∧ Paired ClsV cs us ∧ XRead K C ∧ H a = some (excV C d a) ∧ H d = some (.xd gs) ∧ PySem.W.kitAny K (.ref C) us = some b ∧ Q (.bl b) H
theorem call_isX : CallR X (.builtin "isinstance") (rIsX X.K) := by
  intro pins s σ H xs us Q I r h
  obtain ⟨a, C, d, gs, c, u, b, rfl, k, T, ea, ed, e, q⟩ := h
  obtain ⟨u1, u2, rfl, r1, r2⟩ := vals2 r
  have e2 := k.eq r2
  subst e2
  obtain rfl : u1 = Value.ref a := r1
  obtain ⟨oe, od, J, _⟩ := exc_at I ea ed
  exact PySem.W.kia_one (PySem.W.kitx_exc T.cl T.ga T.gg T.exC T.ha T.hn T.ht T.hm) I.kIn J e (fun z => nomatch z) fun tk => ⟨.bl b, H, I.tok tk, rfl, q⟩
theorem call_isXT : CallR X (.builtin "isinstance") (rIsXT X.K) := by
  intro pins s σ H xs us Q I r h
  obtain ⟨a, C, d, tp, gs, cs, ws, b, rfl, hT, k, T, ea, ed, e, q⟩ := h
  obtain ⟨u1, u2, rfl, r1, r2⟩ := vals2 r
  obtain rfl : u1 = Value.ref a := r1
  obtain rfl : u2 = Value.ref tp := r2
  obtain ⟨oe, od, J, _⟩ := exc_at I ea ed
  obtain ⟨_, its, rv, o, h1, h2, n, h3⟩ := (show ObjOk X.prog X.w H s.heap tp (.tup cs) from I.hok tp _ hT)
  have e3 := ClsV.all k rv
  subst e3
  obtain ⟨oc, od', dt, sl⟩ := o
  simp only at h2 h3
  subst h2 h3
  exact PySem.W.kia_tup (PySem.W.kitx_exc T.cl T.ga T.gg T.exC T.ha T.hn T.ht T.hm) I.kIn J h1 e (fun z => nomatch z) fun tk => ⟨.bl b, H, I.tok tk, rfl, q⟩
/-- e.f -/
def tXF (K : PySem.W.Frag) (f : Str) (te : TE) : TE := fun σ H Q => te σ H fun x H1 => ∃ (a C d : Addr) (gs : List (Str × V)) (v : V), x = .ref a ∧ XRead K C ∧ PySem.W.findIn K (.ref C) f = some none ∧ H1 a = some (excV C d a) ∧ H1 d = some (.xd gs) ∧ gs.lookup f = some v ∧ Q v H1
theorem pe_xfld {e : Expr} {te : TE} {pos : Pos} {n : Str} (he : PE X e te) (hb : attributeBase e n X.env (eval e X.env) = eval e X.env := by rfl) : PE X (.Attribute e n pos) (tXF X.K n te) := by
  refine ⟨fun pins s σ H Q I h => attr_of hb (thn (he.run pins s σ H _ I h) fun u s1 hh => ?_)⟩
  obtain ⟨x, H1, I1, rx, a, C, d, gs, v, ex, T, hno, ea, ed, l, q⟩ := hh
  subst ex
  obtain rfl : u = Value.ref a := rx
  obtain ⟨oe, od, J, hl⟩ := exc_at I1 ea ed
  obtain ⟨w, hw, rw'⟩ := hl n v l
  exact HandSPX.exc_get I1.kIn J T.ga T.gg T.exC (PySem.W.findObj_own T.hd hno rfl hw) (handed_of rw') ⟨v, H1, I1.tok _, rw', q⟩
end
end G

set_option Elab.async false
set_option linter.all false
set_option maxRecDepth 100000
set_option maxHeartbeats 4000000
namespace G
open PySem PySem.Spec PyProof.Rows L2
/-! ### calls that may raise, what is raised being wished for at the caller's slots -/
def tMethSS (C : Addr) (m : Str) (sp : Sp) (dvs : List V) (E : L2.St → XK) (ta : TE) (t : TA) : TE := fun σ H Q => ta σ H fun x H1 => ∃ a dx fs, x = .ref a ∧ H1 a = some (.ins C dx fs) ∧ fs.lookup m = none ∧ t σ H1 fun ws H2 => sp (x :: (ws ++ dvs)) H2 Q (E σ)
def tMethKS (C : Addr) (m : Str) (n : Nat) (sp : Sp) (gV : List V → List V → List V) (E : L2.St → XK) (ta : TE) (tk : TA) : TE := fun σ H Q => ta σ H fun x H1 => ∃ a dx fs, x = .ref a ∧ H1 a = some (.ins C dx fs) ∧ fs.lookup m = none ∧ tk σ H1 fun zs H2 => zs.length = n ∧ sp (gV [.ref a] zs) H2 Q (E σ)
def tCallNS (n m : Nat) (sp : Sp) (gV : List V → List V → List V) (E : L2.St → XK) (t tk : TA) : TE := fun σ H Q => t σ H fun vs H1 => tk σ H1 fun zs H2 => vs.length = n ∧ zs.length = m ∧ sp (gV vs zs) H2 Q (E σ)
def tMakeS (C : Addr) (sp : Sp) (dvs : List V) (E : L2.St → XK) (t : TA) : TE := fun σ H Q => t σ H fun vs H1 => ∀ x dx, H1 x = none → H1 dx = none → dx ≠ x →
  sp (.ref x :: (vs ++ dvs)) (upd (upd H1 dx (.own x)) x (.ins C dx [])) (fun v H2 => v = .non ∧ Q (.ref x) H2) (E σ)
section
variable {X : Cx} {CX : CXT} {k n : Nat} {f C : Addr} {fd : FuncData} {ps ks : List Str} {sp : Sp} {dvs : List V} {ds : List Value} {E : L2.St → XK} {x m : Str} {p pos apos : Pos} {e o : Expr} {es : List Expr} {kws : List Keyword} {ta : TE} {t tk : TA} {g : List Value → List Value → List Value} {gV : List V → List V → List V} {pl : Sem Bool}
theorem run_fnNS {pins : List (Addr × Obj)} {σ : L2.St} {H : Hp} {s : Shared} {Q : VK} {us ws : List Value} {vs zs : List V} (F : FnOk X.prog X.w X.K X.mg X.base CX k f fd ps sp) (hr : Room k X.A) (hb : KBn X.K fd ps n ks g gV) (hx : PassesAt CX X σ (E σ))
    (I : Inv X pins σ H s) (r : Vals vs us) (rz : Vals zs ws) (l1 : vs.length = n) (l2 : zs.length = ks.length) (h : sp (gV vs zs) H Q (E σ)) : wpAny (model X.prog X.w) X.A (call (.ref f) us (ks.zip ws)) (EP X pins σ Q) X.xe s := by
  have b2 := hb.to s us ws I.kIn (r.length.symm.trans l1) (rz.length.symm.trans l2)
  refine wpAny_call (codeAny_mono (F.run X.A X.stack s H ⟨us, ks.zip ws⟩ (g us ws) (gV vs zs) Q (E σ) hr I.env0 b2 (hb.rel r rz) h) fun res s' hq => ?_)
  rcases res with er | (_ | _ | _ | u)
  · exact hx pins H s er s' I hq
  · exact False.elim hq
  · exact False.elim hq
  · exact False.elim hq
  · exact I.after hq
theorem pe_callNS (F : FnOk X.prog X.w X.K X.mg X.base CX k f fd ps sp) (hr : Room k X.A) (hg : Gl X x) (hm : X.mg x = some (.ref f)) (hk : PySem.W.keepIn X.K (.ref f) = true) (hb : KBn X.K fd ps n ks g gV) (hx : ∀ σ, PassesAt CX X σ (E σ))
    (ha : PA X (e :: es) t) (hkw : PK X kws tk) (hall : (backToKw pos (keywordEach kws X.env)).all (·.1.isSome) = true := by rfl) (hks : (backToKw pos (keywordEach kws X.env)).filterMap (·.1) = ks := by rfl)
    (hdb : (x == ("__debug__" : Str)) = false := by decide) (he : starEach (e :: es) X.env = (false, eval e X.env) :: starEach es X.env := by rfl)
    (hpl : ((backTo pos (starEach (e :: es) X.env)).any (·.1) || (backToKw pos (keywordEach kws X.env)).any (·.1.isNone)) = false := by rfl) :
    PE X (.Call (.Name x p) (e :: es) kws pos) (tCallNS n ks.length sp gV E t tk) := by
  refine ⟨fun pins s σ H Q I h => wpAny_Call_Name_kw (ld_glob I hg hm ?_ hdb)⟩
  refine PySem.W.callWith_KW (h₀ := X.base) I.ok.mod.kin hk hall (thn (ha.run pos pins s σ H _ I h) fun us s1 w1 => ?_) hpl he
  obtain ⟨vs, H1, I1, r, q⟩ := w1
  refine thn (hkw.run pos pins s1 σ H1 _ I1 q) fun ws s2 w2 => ?_
  obtain ⟨zs, H2, I2, rz, l1, l2, q2⟩ := w2
  rw [hks]
  exact ⟨I2.kIn, run_fnNS F hr hb (hx σ) I2 r rz l1 l2 q2⟩
theorem pe_methSS (he : PE X o ta) (c : Cls X.K C) (hm : Meth X.K C m f) (F : FnOk X.prog X.w X.K X.mg X.base CX k f fd ps sp) (hr : Room k X.A) (hb : Binds X.K fd ps ds) (hd : Vals dvs ds) (hx : ∀ σ, PassesAt CX X σ (E σ)) (ha : PA X (e :: es) t)
    (hst : starEach (e :: es) X.env = (false, eval e X.env) :: starEach es X.env := by rfl) (hpl : (backTo pos (starEach es X.env)).any (·.1) = false := by rfl)
    (ht : eval (.Call (.Attribute o m apos) (e :: es) [] pos) X.env = (do
      let ov ← eval o X.env
      standAt apos.atName
      let (f, first) ← holding [ov] (getMethod ov m pl)
      callWith pos f first (backTo pos (starEach (e :: es) X.env)) (backToKw pos (keywordEach [] X.env))) := by rfl) :
    PE X (.Call (.Attribute o m apos) (e :: es) [] pos) (tMethSS C m sp dvs E ta t) := by
  refine ⟨fun pins s σ H Q I h => PySem.W.methodCall_KW (pl := pl) (thn (he.run pins s σ H _ I h) fun u s1 w1 => ?_) ht⟩
  obtain ⟨x, H1, I1, rx, a, dx, fs, ex, ea, l, q⟩ := w1
  subst ex
  obtain rfl : u = Value.ref a := rx
  refine getmeth_ok I1 ea c hm l (PySem.W.callWith_K (first := [.ref a]) (h₀ := X.base) I.ok.mod.kin hm.kp (thn (ha.run pos pins s1 σ H1 _ I1 q) fun us s2 w2 => ?_) hst hpl)
  obtain ⟨vs, H2, I2, r, q2⟩ := w2
  exact ⟨I2.kIn, run_fnSD (us := .ref a :: us) (vs := .ref a :: vs) F hr hb hd (hx σ) I2 (.cons rfl r) q2⟩
theorem pe_methSS0 (he : PE X o ta) (c : Cls X.K C) (hm : Meth X.K C m f) (F : FnOk X.prog X.w X.K X.mg X.base CX k f fd ps sp) (hr : Room k X.A) (hb : Binds X.K fd ps ds) (hd : Vals dvs ds) (hx : ∀ σ, PassesAt CX X σ (E σ))
    (ht : eval (.Call (.Attribute o m apos) [] [] pos) X.env = (do
      let ov ← eval o X.env
      standAt apos.atName
      let (f, first) ← holding [ov] (getMethod ov m pl)
      callWith pos f first (backTo pos (starEach [] X.env)) (backToKw pos (keywordEach [] X.env))) := by rfl) :
    PE X (.Call (.Attribute o m apos) [] [] pos) (tMethSS C m sp dvs E ta tNil) := by
  refine ⟨fun pins s σ H Q I h => PySem.W.methodCall_KW (pl := pl) (thn (he.run pins s σ H _ I h) fun u s1 w1 => ?_) ht⟩
  obtain ⟨x, H1, I1, rx, a, dx, fs, ex, ea, l, q⟩ := w1
  subst ex
  obtain rfl : u = Value.ref a := rx
  exact getmeth_ok I1 ea c hm l (PySem.W.callWith_K0 (first := [.ref a]) I1.kIn hm.kp (run_fnSD (us := [.ref a]) (vs := [.ref a]) F hr hb hd (hx σ) I1 (.cons rfl .nil) q))
theorem pe_methKS (he : PE X o ta) (c : Cls X.K C) (hm : Meth X.K C m f) (F : FnOk X.prog X.w X.K X.mg X.base CX k f fd ps sp) (hr : Room k X.A) (hb : KBn X.K fd ps 1 ks g gV) (hx : ∀ σ, PassesAt CX X σ (E σ)) (hkw : PK X kws tk)
    (hall : (backToKw pos (keywordEach kws X.env)).all (·.1.isSome) = true := by rfl) (hks : (backToKw pos (keywordEach kws X.env)).filterMap (·.1) = ks := by rfl)
    (hpl : ((backTo pos (starEach [] X.env)).any (·.1) || (backToKw pos (keywordEach kws X.env)).any (·.1.isNone)) = false := by rfl)
    (ht : eval (.Call (.Attribute o m apos) [] kws pos) X.env = (do
      let ov ← eval o X.env
      standAt apos.atName
      let (f, first) ← holding [ov] (getMethod ov m pl)
      callWith pos f first (backTo pos (starEach [] X.env)) (backToKw pos (keywordEach kws X.env))) := by rfl) :
    PE X (.Call (.Attribute o m apos) [] kws pos) (tMethKS C m ks.length sp gV E ta tk) := by
  refine ⟨fun pins s σ H Q I h => PySem.W.methodCall_KW (pl := pl) (thn (he.run pins s σ H _ I h) fun u s1 w1 => ?_) ht⟩
  obtain ⟨x, H1, I1, rx, a, dx, fs, ex, ea, l, q⟩ := w1
  subst ex
  obtain rfl : u = Value.ref a := rx
  refine getmeth_ok I1 ea c hm l (PySem.W.callWith_KW0 (first := [.ref a]) I1.kIn hm.kp hall (thn (hkw.run pos pins s1 σ H1 _ I1 q) fun ws s2 w2 => ?_) hpl)
  obtain ⟨zs, H2, I2, rz, l2, q2⟩ := w2
  rw [hks]
  exact ⟨I2.kIn, run_fnNS (us := [.ref a]) (vs := [.ref a]) F hr hb (hx σ) I2 (.cons rfl .nil) rz rfl l2 q2⟩
theorem pe_makeS (Mm : Mk X.K C f) (F : FnOk X.prog X.w X.K X.mg X.base CX k f fd ps sp) (hr : Room (k + 1) X.A) (hg : Gl X x) (hm : X.mg x = some (.ref C)) (hb : Binds X.K fd ps ds) (hd : Vals dvs ds) (hx : ∀ σ, PassesAt CX X σ (E σ))
    (ha : PA X (e :: es) t) (hdb : (x == ("__debug__" : Str)) = false := by decide) (he : starEach (e :: es) X.env = (false, eval e X.env) :: starEach es X.env := by rfl) (hpl : (backTo pos (starEach es X.env)).any (·.1) = false := by rfl) :
    PE X (.Call (.Name x p) (e :: es) [] pos) (tMakeS C sp dvs E t) := by
  refine ⟨fun pins s σ H Q I h => wpAny_Call_Name_kw (ld_glob I hg hm ?_ hdb)⟩
  refine PySem.W.callWith_K (h₀ := X.base) I.ok.mod.kin Mm.kp (thn (ha.run pos pins s σ H _ I h) fun us s1 w1 => ?_) he hpl
  obtain ⟨vs, H1, I1, r, q⟩ := w1
  refine ⟨I1.kIn, ?_⟩
  show wpAny _ _ (call (.ref C) us) _ _ _
  have q1 := q (s1.heap.objs.size + 1) s1.heap.objs.size (I1.hok.fresh (Nat.le_succ _)) (I1.hok.fresh (Nat.le_refl _)) (Nat.ne_of_lt (Nat.lt_succ_self _))
  have I2 := Inv.made (C := C) I1
  have r2 : Vals (V.ref (s1.heap.objs.size + 1) :: (vs ++ dvs)) (Value.ref (s1.heap.objs.size + 1) :: (us ++ ds)) := .cons rfl (r.append hd)
  have hl : (Value.ref (s1.heap.objs.size + 1) :: us ++ ds).length = ps.length := by
    have z := F.len _ _ _ _ q1
    rw [r2.length] at z
    exact z
  refine wpAny_call (make_map (f := f) I1.kIn Mm.makes Mm.init (beq_iff_eq.mp Mm.fn) (codeAny_mono (F.run _ X.stack _ _ ⟨Value.ref (s1.heap.objs.size + 1) :: us, []⟩ (Value.ref (s1.heap.objs.size + 1) :: (us ++ ds)) _ _ (E σ) (hr.make C us [])
    (I2.env0.make C us []) (hb _ (Value.ref (s1.heap.objs.size + 1) :: us) I2.kIn hl) r2 q1) fun res s' hq => ?_))
  rcases res with er | (_ | _ | _ | u)
  · exact hx σ pins _ _ er s' I2 hq
  · exact False.elim hq
  · exact False.elim hq
  · exact False.elim hq
  · obtain ⟨v, H3, I3, rv, ev, q3⟩ := I2.after hq
    subst ev
    exact ⟨rv, ⟨V.ref (s1.heap.objs.size + 1), H3, I3, rfl, q3⟩⟩
end
/-! ### the abstract side -/
abbrev AeX := Env → Mem → (A → Mem → Prop) → AXn → Prop
abbrev AXE := Addr → List (Str × D) → Env → Mem → Prop
abbrev AsX := AEnds → AXE → Env → Mem → Prop
section
variable (K : PySem.W.Frag) (W : Wd) (Wx : WX)
def SEX (t : TE) (a : AeX) : Prop := ∀ (b : Wd) (M : Mem) (E : Env) (σ : L2.St) (QA : A → Mem → Prop) (XA : AXn) (Q : VK), To W b → Ok K b M → Slots K b.al b.I E σ → a E M QA XA →
  (∀ b' M' x v, To W b' → Ok K b' M' → Step b b' → RepA K b'.al b'.I x v → QA x M' → Q v b'.H) →
  (∀ b' M' C fs d gs, To W b' → Ok K b' M' → Step b b' → b'.I d = some (.xd gs) → RepF K b'.I fs gs → XA C fs M' → Wx (.ref C) (some d) σ b'.H) → t σ b.H Q
def XOk (I0 : Hp) (XA : AXE) : Prop := ∀ (b : Wd) (M : Mem) (E : Env) (σ : L2.St) (C : Addr) (fs : List (Str × D)) (d : Addr) (gs : List (Str × V)), Same I0 b.I → To W b → Ok K b M → Slots K b.al b.I E σ → b.I d = some (.xd gs) → RepF K b.I fs gs → XA C fs E M → Wx (.ref C) (some d) σ b.H
def SSX (t : TS) (a : AsX) : Prop := ∀ (b : Wd) (M : Mem) (E : Env) (σ : L2.St) (DA : AEnds) (XA : AXE) (Dd : Ends), To W b → Ok K b M → Slots K b.al b.I E σ → a DA XA E M → EndsOk K W b.I DA Dd → XOk K W Wx b.I XA → t Dd σ b.H
end
structure AEX (X : Cx) (W : Wd) (Wx : WX) (e : Expr) (t : TE) (a : AeX) : Prop where
  pe : Takes X Wx → PE X e t
  se : SEX X.K W Wx t a
structure ASX (X : Cx) (W : Wd) (Wx : WX) (s : Stmt) (t : TS) (a : AsX) : Prop where
  ps : Takes X Wx → PassesOwn (model X.prog X.w) X.A X.env X.xe → PS X s t
  ss : SSX X.K W Wx t a
structure ASXs (X : Cx) (W : Wd) (Wx : WX) (s : List Stmt) (t : TS) (a : AsX) : Prop where
  ps : Takes X Wx → PassesOwn (model X.prog X.w) X.A X.env X.xe → PSs X s t
  ss : SSX X.K W Wx t a
section
variable {K : PySem.W.Frag} {W : Wd} {Wx : WX}
theorem XOk.mono {I I2 : Hp} {XA : AXE} (s : Same I I2) (h : XOk K W Wx I XA) : XOk K W Wx I2 XA := fun b M E σ C fs d gs z => h b M E σ C fs d gs (s.trans z)
def aLift (a : Ae) : AeX := fun E M Q _ => a E M Q
theorem sex_of {t : TE} {a : Ae} (h : SE K W t a) : SEX K W Wx t (aLift a) := fun b M E σ QA XA Q t0 ok sl h1 k _ => h b M E σ QA Q t0 ok sl h1 k
def aIfX (c : At) (a a2 : AeX) : AeX := fun E M Q XA => c E M fun x M1 => Fork x (a E M1 Q XA) (a2 E M1 Q XA)
theorem sex_if {tc : TT} {t u : TE} {c : At} {a a2 : AeX} (hc : ST K W tc c) (h : SEX K W Wx t a) (g : SEX K W Wx u a2) : SEX K W Wx (tIf tc t u) (aIfX c a a2) := by
  intro b M E σ QA XA Q t ok sl h1 k kx
  refine hc b M E σ _ _ t ok sl h1 fun b1 M1 x t1 ok1 s1 h2 => ?_
  cases x with
  | true => exact h b1 M1 E σ _ XA _ t1 ok1 (sl.mono s1.same s1.pre) (h2.t rfl) (fun b2 M2 y w t2 ok2 s2 => k b2 M2 y w t2 ok2 (s1.trans s2)) fun b2 M2 C fs d gs t2 ok2 s2 => kx b2 M2 C fs d gs t2 ok2 (s1.trans s2)
  | false => exact g b1 M1 E σ _ XA _ t1 ok1 (sl.mono s1.same s1.pre) (h2.f rfl) (fun b2 M2 y w t2 ok2 s2 => k b2 M2 y w t2 ok2 (s1.trans s2)) fun b2 M2 C fs d gs t2 ok2 s2 => kx b2 M2 C fs d gs t2 ok2 (s1.trans s2)
/-- a call that may raise, the cells handed in numbered anew -/
def AcallX (sp : ASp) (ks : List Nat) (xs : List A) (M : Mem) (Q : A → Mem → Prop) (XA : AXn) : Prop := match okCall ks xs M with
  | true => sp (xs.map (fwdA ks)) (pick ks M) (fun z M1 => Q (bkA ks M.length z) (putBk ks M M1)) (fun C fs M1 => XA C fs (putBk ks M M1))
  | false => False
theorem conc_callX {W b : Wd} {M : Mem} {xs : List A} {vs : List V} {ks : List Nat} {sp : ASp} {QA : A → Mem → Prop} {XA : AXn} {Q : VK} {EX : XK} (t : To W b) (ok : Ok K b M) (r : RepAs K b.al b.I xs vs) (h : AcallX sp ks xs M QA XA)
    (k : ∀ b' M' z w, To W b' → Ok K b' M' → Step b b' → RepA K b'.al b'.I z w → QA z M' → Q w b'.H)
    (kx : ∀ b' M' C fs d gs, To W b' → Ok K b' M' → Step b b' → b'.I d = some (.xd gs) → RepF K b'.I fs gs → XA C fs M' → EX (.ref C) (some d) b'.H) : conc K sp vs b.H Q EX := by
  unfold AcallX at h
  cases hc : okCall ks xs M with
  | false => rw [hc] at h; exact h.elim
  | true =>
    rw [hc] at h
    obtain ⟨hb, ok0, r0⟩ := call_in ok r hc
    have nd : ks.Nodup := by
      unfold okCall at hc
      rw [Bool.and_eq_true] at hc
      exact nodupB_ok hc.1
    refine ⟨⟨b.I, ks.map fun k => b.al.getD k 0, b.H⟩, _, _, _, _, rfl, ok0, r0, h, fun b1 M1 x v t1 ok1 r1 q => ?_, fun b1 M1 C fs d gs t1 ok1 e1 r1 q => ?_⟩
    · obtain ⟨b2, e2, eI, t2, ok2, B⟩ := call_out ok nd hb t1 ok1
      rw [← e2]
      rw [← eI] at r1
      exact k b2 _ _ v (t.trans t2) ok2 t2 (bkA_rep B r1) q
    · obtain ⟨b2, e2, eI, t2, ok2, B⟩ := call_out ok nd hb t1 ok1
      rw [← e2]
      rw [← eI] at e1 r1
      exact kx b2 _ C fs d gs (t.trans t2) ok2 t2 e1 r1 q
def AcallNX (sp : ASp) (ks : List Nat) (xs : List A) (M : Mem) (Q : A → Mem → Prop) (XA : AXn) : Prop := match okCall ks xs M with
  | true => nL nA (xs.map (fwdA ks)) fun ys => nM (pick ks M) fun N => sp ys N (fun z M1 => Q (bkA ks M.length z) (putBk ks M M1)) (fun C fs M1 => XA C fs (putBk ks M M1))
  | false => False
theorem AcallNX.ok {sp : ASp} {ks : List Nat} {xs : List A} {M : Mem} {Q : A → Mem → Prop} {XA : AXn} (h : AcallNX sp ks xs M Q XA) : AcallX sp ks xs M Q XA := by
  unfold AcallNX at h
  unfold AcallX
  revert h
  cases okCall ks xs M with
  | true => exact fun h => (nM_eq (k := fun N => sp _ N _ _)).mp ((nL_eq (k := fun ys => nM _ fun N => sp ys N _ _) fun _ _ => nA_eq).mp h)
  | false => exact fun h => h.elim
def BCallX (sp : ASp) (xs : List A) (M : Mem) (Q : A → Mem → Prop) (XA : AXn) : Prop := nL nN (autoKs xs M) fun ks => AcallNX sp ks xs M (nR Q) (fun C fs M1 => nM M1 fun M2 => XA C fs M2)
theorem BCallX.ok {sp : ASp} {xs : List A} {M : Mem} {Q : A → Mem → Prop} {XA : AXn} (h : BCallX sp xs M Q XA) : AcallX sp (autoKs xs M) xs M Q XA := by
  have e2 : (fun C fs (M1 : Mem) => nM M1 fun M2 => XA C fs M2) = XA := by
    funext C fs M1
    exact propext nM_eq
  unfold BCallX at h
  rw [nR_eq, e2] at h
  exact ((nL_eq fun _ _ => nN_eq).mp h).ok
end
end G

set_option Elab.async false
set_option linter.all false
set_option maxRecDepth 100000
set_option maxHeartbeats 4000000
namespace G
open PySem PySem.Spec PyProof.Rows L2
/-! ### defs that may raise -/
section
variable (P : Program) (w : World) (K : PySem.W.Frag) (mg : Str → Option Value) (base : Heap)
def DefX (x : Str) (k : Nat) (sp : ASp) (dv : List D) : Prop :=
  ∃ (f : Addr) (fd : FuncData) (ps : List Str) (ds : List Value), FnOk P w K mg base (L2.CX P w) k f fd ps (conc K sp) ∧ mg x = some (.ref f) ∧ PySem.W.keepIn K (.ref f) = true ∧ Binds K fd ps ds ∧ Vals (dv.map vOf) ds ∧ dv.all flatB = true
def DefXM (C : Addr) (m : Str) (k : Nat) (sp : ASp) (dv : List D) : Prop :=
  ∃ (f : Addr) (fd : FuncData) (ps : List Str) (ds : List Value), FnOk P w K mg base (L2.CX P w) k f fd ps (conc K sp) ∧ Cls K C ∧ Meth K C m f ∧ Binds K fd ps ds ∧ Vals (dv.map vOf) ds ∧ dv.all flatB = true
def DefXMK (C : Addr) (m : Str) (k : Nat) (sp : ASp) (ks : List Str) : Prop :=
  ∃ (f : Addr) (fd : FuncData) (ps : List Str) (g : List Value → List Value → List Value), FnOk P w K mg base (L2.CX P w) k f fd ps (conc K sp) ∧ Cls K C ∧ Meth K C m f ∧ KBn K fd ps 1 ks g (fun vs zs => vs ++ zs)
def DefXK (x : Str) (k : Nat) (sp : ASp) (n : Nat) (ks : List Str) (ms : List D) (gp : {α : Type} → List α → List α → List α → List α) : Prop :=
  ∃ (f : Addr) (fd : FuncData) (ps : List Str) (g : List Value → List Value → List Value), FnOk P w K mg base (L2.CX P w) k f fd ps (conc K sp) ∧ mg x = some (.ref f) ∧ PySem.W.keepIn K (.ref f) = true ∧ KBn K fd ps n ks g (fun vs zs => gp vs (ms.map vOf) zs) ∧ ms.all flatB = true ∧
    ∀ {al : List Addr} {I : Hp} {xs ds ys : List A} {vs es us : List V}, RepAs K al I xs vs → RepAs K al I ds es → RepAs K al I ys us → RepAs K al I (gp xs ds ys) (gp vs es us)
def DefXC (x : Str) (C : Addr) (k : Nat) (sp : ASp) (dv : List D) : Prop :=
  ∃ (f : Addr) (fd : FuncData) (ps : List Str) (ds : List Value), FnOk P w K mg base (L2.CX P w) k f fd ps (conc K sp) ∧ Mk K C f ∧ mg x = some (.ref C) ∧ Binds K fd ps ds ∧ Vals (dv.map vOf) ds ∧ dv.all flatB = true
end
/-- a promise where nothing is raised -/
def quiet (sp : ASp) : ASp := fun xs M Q _ => sp xs M Q (fun _ _ _ => False)
theorem fn_quiet {P : Program} {w : World} {K : PySem.W.Frag} {mg : Str → Option Value} {base : Heap} {k : Nat} {f : Addr} {fd : FuncData} {ps : List Str} {sp : ASp} (F : FnOk P w K mg base (L2.CX P w) k f fd ps (conc K sp)) : FnOk P w K mg base CX0 k f fd ps (conc K (quiet sp)) := by
  have key : ∀ {vs H Q E}, conc K (quiet sp) vs H Q E → conc K sp vs H Q E0 := fun {vs H Q E} h => by
    obtain ⟨b, M, xs, QA, EA, e, ok, r, h, kq, _⟩ := h
    exact ⟨b, M, xs, QA, _, e, ok, r, h, kq, fun _ _ _ _ _ _ _ _ _ _ q => q.elim⟩
  refine ⟨fun vs H Q E h => F.len vs H Q E0 (key h), fun A outer s H args us vs Q E hr he hb hv hs => ?_⟩
  refine codeAny_mono (F.run A outer s H args us vs Q E0 hr he hb hv (key hs)) fun res s' hq => ?_
  rcases res with er | (_ | _ | _ | u)
  · obtain ⟨_, _, _, _, _, _, _, _, _, _, _, _, z⟩ := hq
    exact z.elim
  · exact hq
  · exact hq
  · exact hq
  · exact hq
section
variable {P : Program} {w : World} {K : PySem.W.Frag} {mg : Str → Option Value} {base : Heap} {x : Str} {k : Nat} {sp : ASp} {dv : List D} {C : Addr} {m : Str}
theorem DefX.quiet (F : DefX P w K mg base x k sp dv) : Def P w K mg base x k (quiet sp) dv := by
  obtain ⟨f, fd, ps, ds, F, r⟩ := F
  exact ⟨f, fd, ps, ds, fn_quiet F, r⟩
theorem DefXM.quiet (F : DefXM P w K mg base C m k sp dv) : DefM P w K mg base C m k (quiet sp) dv := by
  obtain ⟨f, fd, ps, ds, F, r⟩ := F
  exact ⟨f, fd, ps, ds, fn_quiet F, r⟩
theorem DefXMK.quiet {ks : List Str} (F : DefXMK P w K mg base C m k sp ks) : DefMK P w K mg base C m k (quiet sp) ks := by
  obtain ⟨f, fd, ps, ds, F, r⟩ := F
  exact ⟨f, fd, ps, ds, fn_quiet F, r⟩
theorem DefXK.quiet {n : Nat} {ks : List Str} {ms : List D} {gp : {α : Type} → List α → List α → List α → List α} (F : DefXK P w K mg base x k sp n ks ms gp) : DefK P w K mg base x k (quiet sp) n ks ms gp := by
  obtain ⟨f, fd, ps, ds, F, r⟩ := F
  exact ⟨f, fd, ps, ds, fn_quiet F, r⟩
theorem DefXC.quiet (F : DefXC P w K mg base x C k sp dv) : DefC P w K mg base x C k (quiet sp) dv := by
  obtain ⟨f, fd, ps, ds, F, r⟩ := F
  exact ⟨f, fd, ps, ds, fn_quiet F, r⟩
end
/-! ### calls -/
def aXDef (sp : ASp) (dv : List D) (as : Aa) : AeX := fun E M Q XA => as E M fun xs M1 => BCallX sp (xs ++ dv.map A.d) M1 Q XA
def aXDefK (sp : ASp) (n m : Nat) (gA : List A → List A → List A) (as ak : Aa) : AeX := fun E M Q XA => as E M fun xs M1 => ak E M1 fun ys M2 => match Nat.beq xs.length n, Nat.beq ys.length m with
  | true, true => BCallX sp (gA xs ys) M2 Q XA
  | _, _ => False
def aXDefM (C : Addr) (m : Str) (sp : ASp) (dv : List D) (a : Ae) (as : Aa) : AeX := fun E M Q XA => a E M fun x M1 => match objOf x M1 with
  | some (C', ns) => Side (C' = C ∧ m ∉ ns) (as E M1 fun xs M2 => BCallX sp (x :: (xs ++ dv.map A.d)) M2 Q XA)
  | none => False
def aXDefMK (C : Addr) (m : Str) (n : Nat) (sp : ASp) (a : Ae) (as : Aa) : AeX := fun E M Q XA => a E M fun x M1 => match objOf x M1 with
  | some (C', ns) => Side (C' = C ∧ m ∉ ns) (as E M1 fun xs M2 => match Nat.beq xs.length n with
    | true => BCallX sp (x :: xs) M2 Q XA
    | false => False)
  | none => False
def aXMake (C : Addr) (sp : ASp) (dv : List D) (as : Aa) : AeX := fun E M Q XA => as E M fun xs M1 => BCallX sp (.cell M1.length :: (xs ++ dv.map A.d)) (M1 ++ [.obj C []]) (fun z M2 => match z with
  | .d .non => Q (.cell M1.length) M2
  | _ => False) XA
section
variable {K : PySem.W.Frag} {W : Wd} {Wx : WX} {sp : ASp} {dv : List D} {n m : Nat} {C : Addr} {mm : Str} {t tk : TA} {as ak : Aa} {te : TE} {a : Ae}
theorem sex_def (hd : dv.all flatB = true) (h : SA K W t as) : SEX K W Wx (tCallSD (conc K sp) (dv.map vOf) (WE Wx) t) (aXDef sp dv as) := by
  intro b M E σ QA XA Q t0 ok sl h1 k kx
  refine h b M E σ _ _ t0 ok sl h1 fun b1 M1 xs vs t1 ok1 s1 r1 h2 => ?_
  exact conc_callX t1 ok1 (r1.app (reps_d (flat_reps hd))) h2.ok (fun b2 M2 z w t2 ok2 s2 r2 q => k b2 M2 z w t2 ok2 (s1.trans s2) r2 q) fun b2 M2 C fs d gs t2 ok2 s2 => kx b2 M2 C fs d gs t2 ok2 (s1.trans s2)
theorem sex_defK {gA : List A → List A → List A} {gV : List V → List V → List V} (hg : ∀ {al I xs ys vs us}, RepAs K al I xs vs → RepAs K al I ys us → RepAs K al I (gA xs ys) (gV vs us)) (h : SA K W t as) (hk : SA K W tk ak) :
    SEX K W Wx (tCallNS n m (conc K sp) gV (WE Wx) t tk) (aXDefK sp n m gA as ak) := by
  intro b M E σ QA XA Q t0 ok sl h1 k kx
  refine h b M E σ _ _ t0 ok sl h1 fun b1 M1 xs vs t1 ok1 s1 r1 h2 => ?_
  refine hk b1 M1 E σ _ _ t1 ok1 (sl.mono s1.same s1.pre) h2 fun b2 M2 ys us t2 ok2 s2 r2 h3 => ?_
  split at h3
  · rename_i e1 e2
    refine ⟨by rw [← r1.length]; exact Nat.eq_of_beq_eq_true e1, by rw [← r2.length]; exact Nat.eq_of_beq_eq_true e2, ?_⟩
    exact conc_callX t2 ok2 (hg (r1.mono s2.same s2.pre) r2) h3.ok (fun b3 M3 z w t3 ok3 s3 r3 q => k b3 M3 z w t3 ok3 ((s1.trans s2).trans s3) r3 q) fun b3 M3 C fs d gs t3 ok3 s3 => kx b3 M3 C fs d gs t3 ok3 ((s1.trans s2).trans s3)
  · exact h3.elim
theorem sex_defM (hd : dv.all flatB = true) (h : SE K W te a) (hs : SA K W t as) : SEX K W Wx (tMethSS C mm (conc K sp) (dv.map vOf) (WE Wx) te t) (aXDefM C mm sp dv a as) := by
  intro b M E σ QA XA Q t0 ok sl h1 k kx
  refine h b M E σ _ _ t0 ok sl h1 fun b1 M1 x v t1 ok1 s1 r1 h2 => ?_
  split at h2
  · rename_i C' ns e
    obtain ⟨⟨rfl, hn⟩, h2⟩ := h2
    obtain ⟨p, dx, gs, rfl, hp, en⟩ := objOf_at ok1 r1 e
    refine ⟨p, dx, gs, rfl, hp, lookup_no (by rw [en]; exact hn), hs b1 M1 E σ _ _ t1 ok1 (sl.mono s1.same s1.pre) h2 fun b2 M2 xs vs t2 ok2 s2 r2 h3 => ?_⟩
    exact conc_callX t2 ok2 (.cons (r1.mono s2.same s2.pre) (r2.app (reps_d (flat_reps hd)))) h3.ok (fun b3 M3 z w t3 ok3 s3 r3 q => k b3 M3 z w t3 ok3 ((s1.trans s2).trans s3) r3 q) fun b3 M3 C fs d gs t3 ok3 s3 => kx b3 M3 C fs d gs t3 ok3 ((s1.trans s2).trans s3)
  · exact h2.elim
theorem sex_defMK (h : SE K W te a) (hs : SA K W t as) : SEX K W Wx (tMethKS C mm n (conc K sp) (fun vs zs => vs ++ zs) (WE Wx) te t) (aXDefMK C mm n sp a as) := by
  intro b M E σ QA XA Q t0 ok sl h1 k kx
  refine h b M E σ _ _ t0 ok sl h1 fun b1 M1 x v t1 ok1 s1 r1 h2 => ?_
  split at h2
  · rename_i C' ns e
    obtain ⟨⟨rfl, hn⟩, h2⟩ := h2
    obtain ⟨p, dx, gs, rfl, hp, en⟩ := objOf_at ok1 r1 e
    refine ⟨p, dx, gs, rfl, hp, lookup_no (by rw [en]; exact hn), hs b1 M1 E σ _ _ t1 ok1 (sl.mono s1.same s1.pre) h2 fun b2 M2 xs vs t2 ok2 s2 r2 h3 => ?_⟩
    split at h3
    · rename_i e3
      refine ⟨by rw [← r2.length]; exact Nat.eq_of_beq_eq_true e3, ?_⟩
      exact conc_callX t2 ok2 (.cons (r1.mono s2.same s2.pre) r2) h3.ok (fun b3 M3 z w t3 ok3 s3 r3 q => k b3 M3 z w t3 ok3 ((s1.trans s2).trans s3) r3 q) fun b3 M3 C fs d gs t3 ok3 s3 => kx b3 M3 C fs d gs t3 ok3 ((s1.trans s2).trans s3)
    · exact h3.elim
  · exact h2.elim
theorem sex_make (hd : dv.all flatB = true) (h : SA K W t as) : SEX K W Wx (tMakeS C (conc K sp) (dv.map vOf) (WE Wx) t) (aXMake C sp dv as) := by
  intro b M E σ QA XA Q t0 ok sl h1 k kx
  refine h b M E σ _ _ t0 ok sl h1 fun b1 M1 xs vs t1 ok1 s1 r1 h2 => ?_
  intro x dx hx hdx ne
  have ok2 := ok1.laid (u := .own x) hdx
  have t2 := t1.laid ok1 (u := .own x) hdx
  have s2 : Step b1 ⟨upd b1.I dx (.own x), b1.al, upd b1.H dx (.own x)⟩ := (To.refl b1).laid ok1 hdx
  have hx2 : upd b1.H dx (.own x) x = none := by rw [upd_ne (fun z => ne z.symm)]; exact hx
  have ok3 := ok2.cell (u := .ins C dx []) (c := .obj C []) hx2 ⟨ok2.iNone hx2, dx, [], upd_same, .nil⟩
  have t3 := t2.cell ok2 (u := .ins C dx []) hx2
  have s3 := step_cell ok2 (u := .ins C dx []) hx2
  have s13 : Step b1 _ := s2.trans s3
  have hc : RepA K (b1.al ++ [x]) (upd b1.I dx (.own x)) (.cell M1.length) (.ref x) := .cell (by rw [← ok1.len]; exact len_get)
  refine conc_callX t3 ok3 (.cons hc ((r1.mono s13.same s13.pre).app (reps_d (flat_reps hd)))) h2.ok (fun b4 M4 z w t4 ok4 s4 r4 q => ?_) fun b4 M4 C fs d gs t4 ok4 s4 => kx b4 M4 C fs d gs t4 ok4 ((s1.trans s13).trans s4)
  split at q
  · cases rep_non_inv (repA_d r4)
    exact ⟨rfl, k b4 M4 _ _ t4 ok4 ((s1.trans s13).trans s4) (hc.mono s4.same s4.pre) q⟩
  · exact q.elim
end
section
variable {X : Cx} {W : Wd} {Wx : WX} {K : PySem.W.Frag} {pos p apos : Pos} {e e2 e3 o : Expr} {es : List Expr} {kws : List Keyword} {t : TE} {a : Ae} {ax ax2 : AeX} {ta tb : TE} {ts tk : TA} {as ak : Aa} {sp : ASp} {k j n : Nat} {x m : Str} {ks : List Str} {ms dv : List D} {gp : {α : Type} → List α → List α → List α → List α} {C : Addr} {tc : TT} {ac : At} {pl : Sem Bool}
theorem aex_of (h : AE X W e t a) : AEX X W Wx e t (aLift a) := ⟨fun _ => h.pe, sex_of h.se⟩
theorem aex_if (hc : AT X W e tc ac) (h : AEX X W Wx e2 ta ax) (g : AEX X W Wx e3 tb ax2) : AEX X W Wx (.IfExp e e2 e3 pos) (tIf tc ta tb) (aIfX ac ax ax2) := ⟨fun tk => pe_ifExp hc.pt (h.pe tk) (g.pe tk), sex_if hc.st h.se g.se⟩
theorem kx_def (F : DefX X.prog X.w X.K X.mg X.base x k sp dv) (hr : Room j X.A) (hkj : k ≤ j) (ha : AA X W (e :: es) ts as) (hg : Gl X x := by rfl) (hdb : (x == ("__debug__" : Str)) = false := by decide)
    (he : starEach (e :: es) X.env = (false, eval e X.env) :: starEach es X.env := by rfl) (hpl : (backTo pos (starEach es X.env)).any (·.1) = false := by rfl) (hK : X.K = K := by rfl) :
    AEX X W Wx (.Call (.Name x p) (e :: es) [] pos) (tCallSD (conc K sp) (dv.map vOf) (WE Wx) ts) (aXDef sp dv as) := by
  subst hK
  obtain ⟨f, fd, ps, ds, F, hm, hk, hb, hd, hf⟩ := F
  exact ⟨fun tkx => pe_callSD F (hr.mono hkj) hg hm hk hb hd (passAt tkx) ha.pa hdb he hpl, sex_def hf ha.sa⟩
theorem kx_defK (F : DefXK X.prog X.w X.K X.mg X.base x k sp n ks ms gp) (hr : Room j X.A) (hkj : k ≤ j) (ha : AA X W (e :: es) ts as) (hkw : AK X W kws tk ak) (hg : Gl X x := by rfl)
    (hall : (backToKw pos (keywordEach kws X.env)).all (·.1.isSome) = true := by rfl) (hks : (backToKw pos (keywordEach kws X.env)).filterMap (·.1) = ks := by rfl) (hdb : (x == ("__debug__" : Str)) = false := by decide)
    (he : starEach (e :: es) X.env = (false, eval e X.env) :: starEach es X.env := by rfl)
    (hpl : ((backTo pos (starEach (e :: es) X.env)).any (·.1) || (backToKw pos (keywordEach kws X.env)).any (·.1.isNone)) = false := by rfl) (hK : X.K = K := by rfl) :
    AEX X W Wx (.Call (.Name x p) (e :: es) kws pos) (tCallNS n ks.length (conc K sp) (fun vs zs => gp vs (ms.map vOf) zs) (WE Wx) ts tk) (aXDefK sp n ks.length (fun xs ys => gp xs (ms.map A.d) ys) as ak) := by
  subst hK
  obtain ⟨f, fd, ps, g, F, hm, hk, hb, hms, hgp⟩ := F
  exact ⟨fun tkx => pe_callNS F (hr.mono hkj) hg hm hk hb (passAt tkx) ha.pa hkw.pk hall hks hdb he hpl, sex_defK (fun h1 h2 => hgp h1 (reps_d (flat_reps hms)) h2) ha.sa hkw.sa⟩
theorem kx_defM (F : DefXM X.prog X.w X.K X.mg X.base C m k sp dv) (hr : Room j X.A) (hkj : k ≤ j) (ho : AE X W o t a) (ha : AA X W (e :: es) ts as)
    (hst : starEach (e :: es) X.env = (false, eval e X.env) :: starEach es X.env := by rfl) (hpl : (backTo pos (starEach es X.env)).any (·.1) = false := by rfl)
    (ht : eval (.Call (.Attribute o m apos) (e :: es) [] pos) X.env = (do
      let ov ← eval o X.env
      standAt apos.atName
      let (f, first) ← holding [ov] (getMethod ov m pl)
      callWith pos f first (backTo pos (starEach (e :: es) X.env)) (backToKw pos (keywordEach [] X.env))) := by rfl) (hK : X.K = K := by rfl) :
    AEX X W Wx (.Call (.Attribute o m apos) (e :: es) [] pos) (tMethSS C m (conc K sp) (dv.map vOf) (WE Wx) t ts) (aXDefM C m sp dv a as) := by
  subst hK
  obtain ⟨f, fd, ps, ds, F, c, hm, hb, hd, hf⟩ := F
  exact ⟨fun tkx => pe_methSS ho.pe c hm F (hr.mono hkj) hb hd (passAt tkx) ha.pa hst hpl ht, sex_defM hf ho.se ha.sa⟩
theorem kx_defM0 (F : DefXM X.prog X.w X.K X.mg X.base C m k sp dv) (hr : Room j X.A) (hkj : k ≤ j) (ho : AE X W o t a)
    (ht : eval (.Call (.Attribute o m apos) [] [] pos) X.env = (do
      let ov ← eval o X.env
      standAt apos.atName
      let (f, first) ← holding [ov] (getMethod ov m pl)
      callWith pos f first (backTo pos (starEach [] X.env)) (backToKw pos (keywordEach [] X.env))) := by rfl) (hK : X.K = K := by rfl) :
    AEX X W Wx (.Call (.Attribute o m apos) [] [] pos) (tMethSS C m (conc K sp) (dv.map vOf) (WE Wx) t tNil) (aXDefM C m sp dv a aNil) := by
  subst hK
  obtain ⟨f, fd, ps, ds, F, c, hm, hb, hd, hf⟩ := F
  exact ⟨fun tkx => pe_methSS0 ho.pe c hm F (hr.mono hkj) hb hd (passAt tkx) ht, sex_defM hf ho.se sa_nil⟩
theorem kx_defMK (F : DefXMK X.prog X.w X.K X.mg X.base C m k sp ks) (hr : Room j X.A) (hkj : k ≤ j) (ho : AE X W o t a) (hkw : AK X W kws ts as)
    (hall : (backToKw pos (keywordEach kws X.env)).all (·.1.isSome) = true := by rfl) (hks : (backToKw pos (keywordEach kws X.env)).filterMap (·.1) = ks := by rfl)
    (hpl : ((backTo pos (starEach [] X.env)).any (·.1) || (backToKw pos (keywordEach kws X.env)).any (·.1.isNone)) = false := by rfl)
    (ht : eval (.Call (.Attribute o m apos) [] kws pos) X.env = (do
      let ov ← eval o X.env
      standAt apos.atName
      let (f, first) ← holding [ov] (getMethod ov m pl)
      callWith pos f first (backTo pos (starEach [] X.env)) (backToKw pos (keywordEach kws X.env))) := by rfl) (hK : X.K = K := by rfl) :
    AEX X W Wx (.Call (.Attribute o m apos) [] kws pos) (tMethKS C m ks.length (conc K sp) (fun vs zs => vs ++ zs) (WE Wx) t ts) (aXDefMK C m ks.length sp a as) := by
  subst hK
  obtain ⟨f, fd, ps, g, F, c, hm, hb⟩ := F
  exact ⟨fun tkx => pe_methKS ho.pe c hm F (hr.mono hkj) hb (passAt tkx) hkw.pk hall hks hpl ht, sex_defMK ho.se hkw.sa⟩
theorem kx_make (F : DefXC X.prog X.w X.K X.mg X.base x C k sp dv) (hr : Room j X.A) (hkj : k + 1 ≤ j) (ha : AA X W (e :: es) ts as) (hg : Gl X x := by rfl) (hdb : (x == ("__debug__" : Str)) = false := by decide)
    (he : starEach (e :: es) X.env = (false, eval e X.env) :: starEach es X.env := by rfl) (hpl : (backTo pos (starEach es X.env)).any (·.1) = false := by rfl) (hK : X.K = K := by rfl) :
    AEX X W Wx (.Call (.Name x p) (e :: es) [] pos) (tMakeS C (conc K sp) (dv.map vOf) (WE Wx) ts) (aXMake C sp dv as) := by
  subst hK
  obtain ⟨f, fd, ps, ds, F, hM, hm, hb, hd, hf⟩ := F
  exact ⟨fun tkx => pe_makeS hM F (hr.mono hkj) hg hm hb hd (passAt tkx) ha.pa hdb he hpl, sex_make hf ha.sa⟩
end
end G

set_option Elab.async false
set_option linter.all false
set_option maxRecDepth 100000
set_option maxHeartbeats 4000000
namespace G
open PySem PySem.Spec PyProof.Rows L2
/-! ### statements that may raise -/
def asLift (a : As) : AsX := fun Q _ E M => a Q E M
def aSeqX (a c : AsX) : AsX := fun Q XA E M => a { Q with nx := fun E2 M2 => fL E2 fun E3 => nM M2 fun M3 => c Q XA E3 M3 } XA E M
def aIfSX (c : At) (a a2 : AsX) : AsX := fun Q XA E M => c E M fun x M1 => Fork x (a Q XA E M1) (a2 Q XA E M1)
def aDropX (a : AeX) : AsX := fun Q XA E M => a E M (fun _ M1 => Q.nx E M1) fun C fs M1 => XA C fs E M1
def aRetX (a : AeX) : AsX := fun Q XA E M => a E M Q.rt fun C fs M1 => XA C fs E M1
def aAsgX (a : AeX) (g : Ag) : AsX := fun Q XA E M => a E M (fun x M1 => g x E M1 Q.nx) fun C fs M1 => XA C fs E M1
/-- raise C(e) -/
def aRaise (C : Addr) (f : Str) (a : Ae) : AsX := fun _ XA E M => a E M fun x M1 => match x with
  | .d v => XA C [(f, v)] E M1
  | _ => False
structure ForSX (items : List D) (g : Ag) (a : AsX) (Q : AEnds) (XA : AXE) (E : Env) (M : Mem) : Prop where
  inv : ∃ Pv : Nat → Env → Mem → Prop, Pv 0 E M ∧ (∀ i d E M, items[i]? = some d → Pv i E M → g (.d d) E M fun E1 M1 => a { Q with nx := Pv (i + 1), ct := Pv (i + 1), bk := Q.nx } XA E1 M1) ∧ ∀ E M, Pv items.length E M → Q.nx E M
def aForX (w : Ai) (g : Ag) (a : AsX) : AsX := fun Q XA E M => w E M fun items M1 => ForSX items g a Q XA E M1
structure WhileSX (c : At) (a : AsX) (Q : AEnds) (XA : AXE) (E : Env) (M : Mem) : Prop where
  inv : ∃ Pv : Nat → Env → Mem → Prop, (∃ n, Pv n E M) ∧ ∀ n E M, Pv n E M → c E M fun k M1 => Fork k (a { Q with nx := fun E2 M2 => ∃ m, m < n ∧ Pv m E2 M2, ct := fun E2 M2 => ∃ m, m < n ∧ Pv m E2 M2, bk := Q.nx } XA E M1) (Q.nx E M1)
def aWhileX (c : At) (a : AsX) : AsX := fun Q XA E M => WhileSX c a Q XA E M
section
variable {K : PySem.W.Frag} {W : Wd} {Wx : WX}
theorem ssx_of {t : TS} {a : As} (h : SS K W t a) : SSX K W Wx t (asLift a) := fun b M E σ DA XA Dd t0 ok sl h1 e _ => h b M E σ DA Dd t0 ok sl h1 e
theorem ssx_seq {t u : TS} {a c : AsX} (h : SSX K W Wx t a) (g : SSX K W Wx u c) : SSX K W Wx (tSeq t u) (aSeqX a c) := fun b M E σ DA XA Dd t ok sl h1 e x =>
  h b M E σ _ XA _ t ok sl h1 (e.nx_to fun b1 M1 E1 σ1 s1 t1 ok1 sl1 h2 => g b1 M1 E1 σ1 DA XA Dd t1 ok1 sl1 (nM_eq.mp (fL_eq.mp h2)) (e.mono s1) (x.mono s1)) x
theorem ssx_if {tc : TT} {t u : TS} {c : At} {a a2 : AsX} (hc : ST K W tc c) (h : SSX K W Wx t a) (g : SSX K W Wx u a2) : SSX K W Wx (tIfS tc t u) (aIfSX c a a2) := fun b M E σ DA XA Dd t ok sl h1 e x => by
  refine hc b M E σ _ _ t ok sl h1 fun b1 M1 y t1 ok1 s1 h2 => ?_
  cases y with
  | true => exact h b1 M1 E σ DA XA Dd t1 ok1 (sl.mono s1.same s1.pre) (h2.t rfl) (e.mono s1.same) (x.mono s1.same)
  | false => exact g b1 M1 E σ DA XA Dd t1 ok1 (sl.mono s1.same s1.pre) (h2.f rfl) (e.mono s1.same) (x.mono s1.same)
theorem ssx_drop {t : TE} {a : AeX} (h : SEX K W Wx t a) : SSX K W Wx (tDrop t) (aDropX a) := fun b M E σ DA XA Dd t ok sl h1 e x =>
  h b M E σ _ _ _ t ok sl h1 (fun b1 M1 y v t1 ok1 s1 r1 h2 => e.nx b1 M1 E σ s1.same t1 ok1 (sl.mono s1.same s1.pre) h2) fun b1 M1 C fs d gs t1 ok1 s1 e1 r1 h2 => x b1 M1 E σ C fs d gs s1.same t1 ok1 (sl.mono s1.same s1.pre) e1 r1 h2
theorem ssx_ret {t : TE} {a : AeX} (h : SEX K W Wx t a) : SSX K W Wx (tRet t) (aRetX a) := fun b M E σ DA XA Dd t ok sl h1 e x =>
  h b M E σ _ _ _ t ok sl h1 (fun b1 M1 y v t1 ok1 s1 r1 h2 => e.rt b1 M1 y v s1.same t1 ok1 r1 h2) fun b1 M1 C fs d gs t1 ok1 s1 e1 r1 h2 => x b1 M1 E σ C fs d gs s1.same t1 ok1 (sl.mono s1.same s1.pre) e1 r1 h2
theorem ssx_asg {js : List Nat} {t : TE} {g : TG} {a : AeX} {ag : Ag} (h : SEX K W Wx t a) (hg : SG K W js g ag) : SSX K W Wx (tAsg t g) (aAsgX a ag) := fun b M E σ DA XA Dd t ok sl h1 e x =>
  h b M E σ _ _ _ t ok sl h1 (fun b1 M1 y v t1 ok1 s1 r1 h2 => hg b1 M1 E σ y v _ _ t1 ok1 (sl.mono s1.same s1.pre) r1 h2 fun b2 M2 E2 σ2 t2 ok2 s2 sl2 _ h3 => e.nx b2 M2 E2 σ2 (s1.trans s2).same t2 ok2 sl2 h3)
    fun b1 M1 C fs d gs t1 ok1 s1 e1 r1 h2 => x b1 M1 E σ C fs d gs s1.same t1 ok1 (sl.mono s1.same s1.pre) e1 r1 h2
theorem ssx_for {js : List Nat} {wi : TI} {g : TG} {t : TS} {w : Ai} {ag : Ag} {a : AsX} (hi : SI K W wi w) (hg : SG K W js g ag) (h : SSX K W Wx t a) : SSX K W Wx (tFor wi g t) (aForX w ag a) := fun b M E σ DA XA Dd t ok sl h1 e x => by
  refine hi b M E σ _ _ t ok sl h1 fun b1 M1 J items t1 ok1 s1 T h2 => ?_
  obtain ⟨Pv, p0, turn, fin⟩ := h2.inv
  refine ⟨fun i m σ H => m = items.length - i ∧ i ≤ items.length ∧ ∃ (b : Wd) (M : Mem) (E : Env), b.H = H ∧ To W b ∧ Ok K b M ∧ Same b1.I b.I ∧ Slots K b.al b.I E σ ∧ Pv i E M, ⟨items.length, by simp, Nat.zero_le _, b1, M1, E, rfl, t1, ok1, Same.refl _, sl.mono s1.same s1.pre, p0⟩, ?_⟩
  rintro i m σ1 _ ⟨rfl, hi', b2, M2, E2, rfl, t2, ok2, s2, sl2, p2⟩
  by_cases hlt : i < items.length
  · have hd : items[i]? = some items[i] := by simp [hlt]
    refine .inr ⟨(T.go b2.I b2.H i _ s2 ok2.ih hd).1, fun σ H => ∃ (b : Wd) (M : Mem) (E : Env), b.H = H ∧ To W b ∧ Ok K b M ∧ Same b1.I b.I ∧ Slots K b.al b.I E σ ∧ Pv (i + 1) E M, fun σ H ⟨b, M, E, q⟩ => ⟨items.length - (i + 1), by omega, rfl, hlt, b, M, E, q⟩, fun y H3 yy => ?_⟩
    obtain ⟨b3, rfl, t3, ok3, s3, r3⟩ := its_yld t2 ok2 T s2 hd yy
    refine hg b3 M2 E2 σ1 _ _ _ _ t3 ok3 (sl2.mono s3.same s3.pre) (.d r3) (turn i _ E2 M2 hd p2) fun b4 M4 E4 σ4 t4 ok4 s4 sl4 _ h4 => ?_
    have s24 : Same b1.I b4.I := (s2.trans s3.same).trans s4.same
    have e4 := e.mono (s1.same.trans s24)
    exact h b4 M4 E4 σ4 _ XA _ t4 ok4 sl4 h4 ⟨fun b M E σ s t ok sl q => ⟨b, M, E, rfl, t, ok, s24.trans s, sl, q⟩, e4.rt, e4.nx, fun b M E σ s t ok sl q => ⟨b, M, E, rfl, t, ok, s24.trans s, sl, q⟩⟩ (x.mono (s1.same.trans s24))
  · have e1 : i = items.length := by omega
    subst e1
    exact .inl ⟨T.stop b2.I b2.H s2 ok2.ih, e.nx b2 M2 E2 σ1 (s1.same.trans s2) t2 ok2 sl2 (fin E2 M2 p2)⟩
theorem ssx_while {tc : TT} {t : TS} {c : At} {a : AsX} (hc : ST K W tc c) (h : SSX K W Wx t a) : SSX K W Wx (tWhile tc t) (aWhileX c a) := fun b M E σ DA XA Dd t ok sl h1 e x => by
  obtain ⟨Pv, ⟨n0, p0⟩, turn⟩ := h1.inv
  refine ⟨fun n σ H => ∃ (b1 : Wd) (M : Mem) (E : Env), b1.H = H ∧ Same b.I b1.I ∧ To W b1 ∧ Ok K b1 M ∧ Slots K b1.al b1.I E σ ∧ Pv n E M, ⟨n0, b, M, E, rfl, Same.refl _, t, ok, sl, p0⟩, ?_⟩
  rintro n σ1 _ ⟨b1, M1, E1, rfl, s1, t1, ok1, sl1, p1⟩
  refine hc b1 M1 E1 σ1 _ _ t1 ok1 sl1 (turn n E1 M1 p1) fun b2 M2 k t2 ok2 s2 h2 => ?_
  have sl2 := sl1.mono s2.same s2.pre
  have s12 := s1.trans s2.same
  cases k with
  | true =>
    refine ⟨fun σ H => ∃ (b1 : Wd) (M : Mem) (E : Env), b1.H = H ∧ Same b.I b1.I ∧ To W b1 ∧ Ok K b1 M ∧ Slots K b1.al b1.I E σ ∧ ∃ m, m < n ∧ Pv m E M, fun σ H ⟨b, M, E, e1, e0, e2, e3, e4, m, hm, e5⟩ => ⟨m, hm, b, M, E, e1, e0, e2, e3, e4, e5⟩, ?_⟩
    have e2 := e.mono s12
    refine h b2 M2 E1 σ1 _ XA _ t2 ok2 sl2 (h2.t rfl) ⟨fun b M E σ s t ok sl q => ⟨b, M, E, rfl, s12.trans s, t, ok, sl, q⟩, e2.rt, e2.nx, fun b M E σ s t ok sl q => ⟨b, M, E, rfl, s12.trans s, t, ok, sl, q⟩⟩ (x.mono s12)
  | false => exact e.nx b2 M2 E1 σ1 s12 t2 ok2 sl2 (h2.f rfl)
theorem ssx_raise {C : Addr} {f : Str} {t : TE} {a : Ae} (h : SE K W t a) : SSX K W Wx (fun _ σ H => tXM C f (tCons t tNil) σ H fun cls d H' => Wx cls d σ H') (aRaise C f a) := fun b M E σ DA XA Dd t0 ok sl h1 e x => by
  refine h b M E σ _ _ t0 ok sl h1 fun b1 M1 y v t1 ok1 s1 r1 h2 => ?_
  split at h2
  · refine ⟨v, rfl, fun d hd => ?_⟩
    have rd := repA_d r1
    exact x ⟨upd b1.I d (.xd [(f, v)]), b1.al, upd b1.H d (.xd [(f, v)])⟩ M1 E σ C _ d _ (s1.same.trans (same_new (ok1.iNone hd))) (t1.laid ok1 hd) (ok1.laid hd) (sl.mono (s1.same.trans (same_new (ok1.iNone hd))) s1.pre) upd_same (.cons (rd.mono (same_new (ok1.iNone hd))) .nil) h2
  · exact h2.elim
/-- try: a, except (..) as the i-th slot: c -/
def aTry (T : Addr → Prop) (i : Nat) (a : AsX) (c : As) : As := fun Q E M => a Q (fun C fs E1 M1 => Side (T C) (c { nx := fun E2 M2 => Q.nx (E2.set i none) M2, rt := Q.rt, bk := fun E2 M2 => Q.bk (E2.set i none) M2, ct := fun E2 M2 => Q.ct (E2.set i none) M2 } (E1.set i (some (.d (.exc C fs)))) M1)) E M
theorem ss_try {T : Addr → Prop} {i : Nat} {tb : WX → TS} {ts : TS} {a : AsX} {c : As} (ha : ∀ Wx, SSX K W Wx (tb Wx) a) (hc : SS K W ts c) : SS K W (fun D σ H => tb (wX T i ts D) D σ H) (aTry T i a c) := fun b M E σ DA Dd t ok sl h1 e => by
  refine ha _ b M E σ DA _ Dd t ok sl h1 e fun b1 M1 E1 σ1 C fs d gs s1 t1 ok1 sl1 e1 r1 h2 => ?_
  refine ⟨C, d, rfl, rfl, h2.s, fun p hp => ?_⟩
  have nI := ok1.iNone hp
  have s2 : Same b1.I (upd b1.I p (excV C d p)) := same_new nI
  have hdp : d ≠ p := fun z => by rw [z, nI] at e1; cases e1
  have rx : Rep K (upd b1.I p (excV C d p)) (.exc C fs) (.ref p) := .exc upd_same (by rw [upd_ne hdp]; exact e1) (r1.mono s2)
  have e2 := e.mono (s1.trans s2)
  exact hc ⟨upd b1.I p (excV C d p), b1.al, upd b1.H p (excV C d p)⟩ M1 _ _ _ _ (t1.laid ok1 hp) (ok1.laid hp) ((sl1.mono s2 (Pre.refl _)).set (.d rx)) h2.q
    ⟨fun b M E σ s t ok sl q => e2.nx b M _ _ s t ok sl.clr q, e2.rt, fun b M E σ s t ok sl q => e2.bk b M _ _ s t ok sl.clr q, fun b M E σ s t ok sl q => e2.ct b M _ _ s t ok sl.clr q⟩
/-- isinstance(e, c), e a caught exception -/
def aIsX (K : PySem.W.Frag) (c : Value) (a : Ae) : Ae := fun E M Q => a E M fun x M1 => match x with
  | .d (.exc C _) => Side (XRead K C) (Opt (PySem.W.kitOne K (.ref C) c) fun b => Q (.d (.bl b)) M1)
  | _ => False
def aIsXT (K : PySem.W.Frag) (cs : List Value) (a : Ae) : Ae := fun E M Q => a E M fun x M1 => match x with
  | .d (.exc C _) => Side (XRead K C) (Opt (PySem.W.kitAny K (.ref C) cs) fun b => Q (.d (.bl b)) M1)
  | _ => False
theorem exc_inv {I : Hp} {C : Addr} {fs : List (Str × D)} {v : V} : Rep K I (.exc C fs) v → ∃ p d gs, v = .ref p ∧ I p = some (excV C d p) ∧ I d = some (.xd gs) ∧ RepF K I fs gs
  | .exc h g r => ⟨_, _, _, rfl, h, g, r⟩
theorem se_isX {c : V} {u : Value} {t : TE} {a : Ae} (k : ClsV c u) (h : SE K W t a) : SE K W (tCB (rIsX K) (tCons t (tCons (tC c) tNil))) (aIsX K u a) := by
  intro b M E σ QA Q t0 ok sl h1 kk
  refine h b M E σ _ _ t0 ok sl h1 fun b1 M1 x v t1 ok1 s1 r1 h2 => ?_
  split at h2
  · obtain ⟨p, d, gs, rfl, e1, e2, _⟩ := exc_inv (repA_d r1)
    obtain ⟨T, ⟨bb, eb, q⟩⟩ := h2
    exact ⟨p, _, d, gs, c, u, bb, rfl, k, T, ok1.ih _ _ e1, ok1.ih _ _ e2, eb, kk b1 M1 _ _ t1 ok1 s1 (.d (.bl bb)) q⟩
  · exact h2.elim
/-- the classes of a tuple, as names of the module's -/
inductive TCs : List V → TA → Prop
  | nil : TCs [] tNil
  | cons {c : V} {cs : List V} {t : TA} : TCs cs t → TCs (c :: cs) (tCons (tC c) t)
theorem TCs.run : ∀ {cs : List V} {t : TA}, TCs cs t → ∀ {σ : L2.St} {H : Hp} {Q : List V → Hp → Prop}, Q cs H → t σ H Q
  | _, _, .nil, _, _, _, q => q
  | _, _, .cons h, _, _, _, q => TCs.run h (σ := _) q
theorem se_isXT {cs : List V} {us : List Value} {t : TE} {tc : TA} {a : Ae} (hl : cs.length ≤ 1000) (k : Paired ClsV cs us) (ht : TCs cs tc) (h : SE K W t a) : SE K W (tCB (rIsXT K) (tCons t (tCons (tTup tc) tNil))) (aIsXT K us a) := by
  intro b M E σ QA Q t0 ok sl h1 kk
  refine h b M E σ _ _ t0 ok sl h1 fun b1 M1 x v t1 ok1 s1 r1 h2 => ?_
  split at h2
  · obtain ⟨p, d, gs, rfl, e1, e2, _⟩ := exc_inv (repA_d r1)
    obtain ⟨T, ⟨bb, eb, q⟩⟩ := h2
    refine ht.run ⟨by rw [sizeLine_eq]; omega, fun tp hp => ?_⟩
    have nI := ok1.iNone hp
    have s2 : Same b1.I (upd b1.I tp (.tup cs)) := same_new nI
    refine ⟨p, _, d, tp, gs, cs, us, bb, rfl, upd_same, k, T, ?_, ?_, eb, kk ⟨upd b1.I tp (.tup cs), b1.al, upd b1.H tp (.tup cs)⟩ M1 _ _ (t1.laid ok1 hp) (ok1.laid hp) (s1.trans ((To.refl b1).laid ok1 hp)) (.d (.bl bb)) q⟩
    · exact (ok1.laid (u := .tup cs) hp).ih _ _ (s2 _ _ e1)
    · exact (ok1.laid (u := .tup cs) hp).ih _ _ (s2 _ _ e2)
  · exact h2.elim
/-- e.f, e a caught exception -/
def aXF (K : PySem.W.Frag) (f : Str) (a : Ae) : Ae := fun E M Q => a E M fun x M1 => match x with
  | .d (.exc C fs) => Side (XRead K C ∧ PySem.W.findIn K (.ref C) f = some none) (match lkD fs f with
    | some y => Q (.d y) M1
    | none => False)
  | _ => False
theorem se_xF {f : Str} {t : TE} {a : Ae} (h : SE K W t a) : SE K W (tXF K f t) (aXF K f a) := by
  intro b M E σ QA Q t0 ok sl h1 kk
  refine h b M E σ _ _ t0 ok sl h1 fun b1 M1 x v t1 ok1 s1 r1 h2 => ?_
  split at h2
  · obtain ⟨p, d, gs, rfl, e1, e2, rf⟩ := exc_inv (repA_d r1)
    obtain ⟨⟨T, hno⟩, h2⟩ := h2
    split at h2
    · rename_i y ey
      obtain ⟨v, lv, rv⟩ := lkD_rep rf ey
      exact ⟨p, _, d, gs, v, rfl, T, hno, ok1.ih _ _ e1, ok1.ih _ _ e2, lv, kk b1 M1 _ _ t1 ok1 s1 (.d rv) h2⟩
    · exact h2.elim
  · exact h2.elim
end
end G

set_option Elab.async false
set_option linter.all false
set_option maxRecDepth 100000
set_option maxHeartbeats 4000000
namespace G
open PySem PySem.Spec PyProof.Rows L2
section
variable {X : Cx} {W : Wd} {Wx : WX} {K : PySem.W.Frag} {pos p : Pos} {e c tg : Expr} {es : List Expr} {st : Stmt} {sts sts2 : List Stmt} {t : TE} {a : Ae} {ax : AeX} {tc : TT} {ac : At} {u u2 : TS} {b : As} {bx bx2 : AsX} {g : TG} {ag : Ag} {wi : TI} {w : Ai} {js : List Nat}
theorem asx_of (h : AS X W st u b) : ASX X W Wx st u (asLift b) := ⟨fun _ _ => h.ps, ssx_of h.ss⟩
theorem assx_nil : ASXs X W Wx [] tNext (asLift aNext) := ⟨fun _ _ => pss_nil, ssx_of ss_next⟩
theorem assx_of (h : ASs X W sts u b) : ASXs X W Wx sts u (asLift b) := ⟨fun _ _ => h.ps, ssx_of h.ss⟩
theorem assx_one (h : ASX X W Wx st u bx) : ASXs X W Wx [st] u bx := ⟨fun tk po => pss_one (h.ps tk po), h.ss⟩
theorem assx_cons (h : ASX X W Wx st u bx) (k : ASXs X W Wx sts u2 bx2) : ASXs X W Wx (st :: sts) (tSeq u u2) (aSeqX bx bx2) := ⟨fun tk po => pss_cons (h.ps tk po) (k.ps tk po), ssx_seq h.ss k.ss⟩
theorem asx_if (hc : AT X W c tc ac) (h : ASXs X W Wx sts u bx) (k : ASXs X W Wx sts2 u2 bx2) : ASX X W Wx (.If c sts sts2 pos) (tIfS tc u u2) (aIfSX ac bx bx2) := ⟨fun tk po => ps_if hc.pt (h.ps tk po) (k.ps tk po), ssx_if hc.st h.ss k.ss⟩
theorem asx_while {body : List Stmt} (hc : AT X W c tc ac) (h : ASXs X W Wx body u bx) : ASX X W Wx (.While c body [] pos) (tWhile tc u) (aWhileX ac bx) := ⟨fun tk po => ps_while po hc.pt (h.ps tk po), ssx_while hc.st h.ss⟩
theorem asx_for {body : List Stmt} (hc : X.calm = true) (hi : AI X W tg e wi w) (hg : AG X W tg js g ag) (h : ASXs X W Wx body u bx) (hs : ∀ x, foldedSetIterable e X.env x = pure x := by intro _; rfl) :
    ASX X W Wx (.For tg e body [] pos) (tFor wi g u) (aForX w ag bx) := ⟨fun tk po => ps_for po hc hi.pi hg.pg (h.ps tk po) hs, ssx_for hi.si hg.sg h.ss⟩
theorem asx_expr (h : AEX X W Wx e t ax) (hs : swapsWith e none pos.line X.env = pure false := by rfl) : ASX X W Wx (.Expr e pos) (tDrop t) (aDropX ax) := ⟨fun tk _ => ps_expr (h.pe tk) hs, ssx_drop h.se⟩
theorem asx_ret (h : AEX X W Wx e t ax) : ASX X W Wx (.Return (some e) pos) (tRet t) (aRetX ax) := ⟨fun tk _ => ps_ret (h.pe tk), ssx_ret h.se⟩
theorem asx_set (i : Nat) {x : Str} {pos' : Pos} (hN : X.N.Nodup) (h : AEX X W Wx e t ax) (hi : X.N[i]? = some x := by rfl) (hx : Loc X.env.scope x := by first | exact Or.inl rfl | exact Or.inr rfl) (hs : swapsWith e (some (.Name x pos')) pos.line X.env = pure false := by rfl)
    (hf : X.fn x = true ∨ X.env.scope.names.lookup x = some .local := by first | exact .inl rfl | exact .inr rfl | assumption) : ASX X W Wx (.Assign [.Name x pos'] e pos) (tAsg t (gName i)) (aAsgX ax (aName i)) := ⟨fun tk _ => ps_set hN hi hx (h.pe tk) hs, ssx_asg h.se sg_name⟩
theorem asx_asg (h : AEX X W Wx e t ax) (k : AG X W tg js g ag) (hs : swapsWithSole [tg] e pos.line X.env = pure false := by rfl) (hw : swappedStores [tg] e X.env = pure none := by rfl) (h1 : (assignEach [tg] X.env).map (·.2) = [assign tg X.env] := by rfl) : ASX X W Wx (.Assign [tg] e pos) (tAsg t g) (aAsgX ax ag) := ⟨fun tk _ => ps_asg (h.pe tk) k.pg hs hw h1, ssx_asg h.se k.sg⟩
/-- try, all that is raised being taken -/
theorem as_try {n : Str} {te : Expr} {body suite : List Stmt} {b₀ : Stmt} {pos' : Pos} {tb : WX → TS} {ts : TS} {c : As} (T : Addr → Prop) (i : Nat) (hs : X.stack = X.env :: X.outer) (hf : X.env.frame = some X.env.locals) (hN : X.N.Nodup) (hT : ∀ C, T C → XTest X te C)
    (hb : ∀ (Wx : WX) (pn : List (Addr × Obj)) (xe : Value → Shared → Prop), ASXs (X.tr pn xe) W Wx body (tb Wx) bx)
    (hsu : ∀ (a : Addr) (pn : List (Addr × Obj)), ASs (X.suite a pn) W (b₀ :: suite) ts c) (hi : X.N[i]? = some n := by rfl) (hln : X.env.kindOf n = some .local := by rfl) :
    AS X W (.Try body [.ExceptHandler (some te) (some n) (b₀ :: suite) pos'] [] [] pos) (fun D σ H => tb (wX T i ts D) D σ H) (aTry T i bx c) :=
  ⟨ps_tryX hs hf hN hi hln hT (fun Wx pn xe tk po => (hb Wx pn xe).ps tk po) (fun a pn => (hsu a pn).ps), ss_try (fun Wx => (hb Wx [] fun _ _ => False).ss) (hsu 0 []).ss⟩
end
end G

set_option Elab.async false
set_option linter.all false
set_option maxRecDepth 100000
set_option maxHeartbeats 4000000
namespace G
open PySem PySem.Spec PyProof.Rows L2
/-! ### raise C(e); a def's body that may raise -/
/-- the exception class that the module's name x stands for: it may be made and raised, its __init__ at the level k -/
def RaiseX (P : Program) (w : World) (K : PySem.W.Frag) (mg : Str → Option Value) (base : Heap) (x : Str) (C : Addr) (f : Str) (k : Nat) : Prop :=
  ∃ (B newId initId : String) (bmB : List Value) (fI : Addr) (fd : FuncData) (ps : List Str), XMade K C B newId initId bmB ∧ PySem.W.findIn K (.ref C) "__init__" = some (some (.ref fI)) ∧ PySem.W.typeIn K (.ref fI) = some (.type "function") ∧
    FnOk P w K mg base CX0 k fI fd ps (spXI C f) ∧ Binds K fd ps [] ∧ mg x = some (.ref C)
section
variable {X : Cx} {W : Wd} {Wx : WX} {K : PySem.W.Frag} {pos p p2 pos' : Pos} {e o : Expr} {t : TE} {a : Ae} {x f : Str} {C : Addr} {k j : Nat}
theorem asx_raise (R : RaiseX X.prog X.w X.K X.mg X.base x C f k) (hr : Room j X.A) (hkj : k + 1 ≤ j) (hc : X.calm = true) (ha : AE X W e t a) (hg : Gl X x := by rfl) (hdb : (x == ("__debug__" : Str)) = false := by decide)
    (he : starEach [e] X.env = (false, eval e X.env) :: starEach [] X.env := by rfl) : ASX X W Wx (.Raise (some (.Call (.Name x p) [e] [] pos')) none pos) (fun _ σ H => tXM C f (tCons t tNil) σ H fun cls d H' => Wx cls d σ H') (aRaise C f a) := by
  obtain ⟨B, n1, n2, bm, fI, fd, ps, T, iC, tI, F, hb, hm⟩ := R
  exact ⟨fun tk _ => ps_raise hc tk (pmk_x T iC tI F (hr.mono hkj) hb hg hm (pa_cons ha.pe pa_nil he) hdb he rfl), ssx_raise ha.se⟩
/-- isinstance of a caught exception -/
theorem k_isX {c : V} {u : Value} (hi : X.mg "isinstance" = none) (hx : X.mg x = some u ∨ (X.mg x = none ∧ bootBuiltins x = some u ∧ x ≠ "__name__")) (kc : ClsV c u) (h : AE X W e t a) (gi : Gl X "isinstance" := by rfl) (gx : Gl X x := by rfl) (hv : L2.RelV c u := by rfl) (hdx : (x == ("__debug__" : Str)) = false := by decide)
    (he : starEach [e, .Name x p2] X.env = (false, eval e X.env) :: starEach [.Name x p2] X.env := by rfl) (he2 : starEach [.Name x p2] X.env = (false, eval (.Name x p2) X.env) :: starEach [] X.env := by rfl)
    (hpl : (backTo pos (starEach [.Name x p2] X.env)).any (·.1) = false := by rfl) (hK : X.K = K := by rfl) :
    AE X W (.Call (.Name "isinstance" p) [e, .Name x p2] [] pos) (tCB (rIsX K) (tCons t (tCons (tC c) tNil))) (aIsX K u a) := by
  subst hK
  have hp : PE X (.Name x p2) (tC c) := by
    rcases hx with hm | ⟨hm, hb, hn⟩
    · exact pe_glob gx hm hv hdx
    · exact pe_bltn gx hm hb hv hn hdx
  exact ⟨pe_callB call_isX gi hi boot_isinstance (pa_cons h.pe (pa_cons hp pa_nil he2) he) (by decide) (by decide) he hpl, se_isX kc h.se⟩
/-- names of classes as arguments -/
inductive PCs (X : Cx) : List Expr → List V → List Value → TA → Prop
  | nil : PCs X [] [] [] tNil
  | cons {x : Str} {np : Pos} {c : V} {u : Value} {es : List Expr} {cs : List V} {us : List Value} {ta : TA} (hx : X.mg x = some u ∨ (X.mg x = none ∧ bootBuiltins x = some u ∧ x ≠ "__name__")) (kc : ClsV c u) (r : PCs X es cs us ta) (gx : Gl X x := by rfl) (hv : L2.RelV c u := by rfl)
      (hd : (x == ("__debug__" : Str)) = false := by decide) (he : starEach (.Name x np :: es) X.env = (false, eval (.Name x np) X.env) :: starEach es X.env := by rfl) : PCs X (.Name x np :: es) (c :: cs) (u :: us) (tCons (tC c) ta)
theorem PCs.pa {es : List Expr} {cs : List V} {us : List Value} {ta : TA} (h : PCs X es cs us ta) : PA X es ta ∧ Paired ClsV cs us ∧ TCs cs ta := by
  induction h with
  | nil => exact ⟨pa_nil, .nil, .nil⟩
  | cons hx kc r gx hv hd he ih =>
    refine ⟨pa_cons ?_ ih.1 he, .cons kc ih.2.1, .cons ih.2.2⟩
    rcases hx with hm | ⟨hm, hb, hn⟩
    · exact pe_glob gx hm hv hd
    · exact pe_bltn gx hm hb hv hn hd
theorem k_isXT {es : List Expr} {cs : List V} {us : List Value} {tc : TA} {kt : Nat} (hi : X.mg "isinstance" = none) (hcs : PCs X es cs us tc) (hl : cs.length ≤ 1000) (h : AE X W e t a) (gi : Gl X "isinstance" := by rfl)
    (he : starEach [e, .Tuple es kt p2] X.env = (false, eval e X.env) :: starEach [.Tuple es kt p2] X.env := by rfl) (he2 : starEach [.Tuple es kt p2] X.env = (false, eval (.Tuple es kt p2) X.env) :: starEach [] X.env := by rfl)
    (hpl : (backTo pos (starEach [.Tuple es kt p2] X.env)).any (·.1) = false := by rfl) (hK : X.K = K := by rfl) :
    AE X W (.Call (.Name "isinstance" p) [e, .Tuple es kt p2] [] pos) (tCB (rIsXT K) (tCons t (tCons (tTup tc) tNil))) (aIsXT K us a) := by
  subst hK
  obtain ⟨h1, h2, h3⟩ := hcs.pa
  exact ⟨pe_callB call_isXT gi hi boot_isinstance (pa_cons h.pe (pa_cons (pe_tup h1) pa_nil he2) he) (by decide) (by decide) he hpl, se_isXT hl h2 h3 h.se⟩
theorem k_xfld (h : AE X W e t a) (hb : attributeBase e f X.env (eval e X.env) = eval e X.env := by rfl) (hK : X.K = K := by rfl) : AE X W (.Attribute e f pos) (tXF K f t) (aXF K f a) := by
  subst hK
  exact ⟨pe_xfld h.pe hb, se_xF h.se⟩
end
/-- the __init__ of such a class -/
theorem xinit_ok {P : Program} {w : World} {K : PySem.W.Frag} {mg : Str → Option Value} {base : Heap} {C f : Addr} {B newId initId : String} {bmB : List Value} {qual : Str} {params : Arguments} {scope : Scope} {fd : FuncData} {text : Str} {j : Nat} {p1 p2 p3 p4 p5 p6 p7 p8 p9 p10 : Pos}
    (T : XMade K C B newId initId bmB) (ht : PySem.W.takerIn K C "what" = some none)
    (F : FunD K "__init__" qual params [.Expr (.Call (.Attribute (.Name B p1) "__init__" p2) [.Name "self" p3, .Constant (.str text) j p4] [] p5) p6, .Assign [.Attribute (.Name "self" p7) "what" p8] (.Name "what" p9) p10] scope [] [] f fd)
    (S : FnScope ["self", "what"] ["self", "what"] scope) (mB : mg B = none) (hB : bootBuiltins B = some (.type B)) (ty : typeOf (.type B) = pure (.type "type")) (hst : Manifest.isStub B = false) (hn : (B : Str) ≠ "__name__") (hdb : ((B : Str) == ("__debug__" : Str)) = false)
    (hh : PySem.W.handedIn (.builtin initId) = true) (vV : PySem.W.findCls K (.type B) (.type "type") "__init__" = some (.val (.builtin initId)))
    (hG : ∀ cdv A outer s H E, Gl (cxOf CX0 P w K mg base ["self", "what"] qual scope f cdv A outer s H E) B) (hV : Vis scope "self" ∧ Vis scope "what")
    (hc : ∀ env : PySem.Env, env.scope = scope → ∃ pl : Sem Bool, eval (.Call (.Attribute (.Name B p1) "__init__" p2) [.Name "self" p3, .Constant (.str text) j p4] [] p5) env = (do
      let ov ← eval (.Name B p1) env
      standAt p2.atName
      let (f, first) ← holding [ov] (getMethod ov "__init__" pl)
      callWith p5 f first (backTo p5 (starEach [.Name "self" p3, .Constant (.str text) j p4] env)) (backToKw p5 (keywordEach [] env)))) : FnOk P w K mg base CX0 1 f fd ["self", "what"] (spXI C "what") := by
  refine fnd_ok F S (fun vs H Q E h => ?_) (fun cdv A outer s H vs Q E hr h => ?_)
  · obtain ⟨a, v, rfl, _⟩ := h; rfl
  · obtain ⟨a, v, rfl, ea, q⟩ := h
    refine ⟨tSeq (tDrop (tXI K B newId initId bmB (tCons (tVar 0) (tCons (tC (.str text)) tNil)))) (tXS K "what" (tVar 0) (tVar 1)), ?_, ?_⟩
    · have v0 : PE (cxOf CX0 P w K mg base ["self", "what"] qual scope f cdv A outer s H E) (.Name "self" p3) (tVar 0) := pe_var rfl hV.1
      have v1 : PE (cxOf CX0 P w K mg base ["self", "what"] qual scope f cdv A outer s H E) (.Name "self" p7) (tVar 0) := pe_var rfl hV.1
      have v2 : PE (cxOf CX0 P w K mg base ["self", "what"] qual scope f cdv A outer s H E) (.Name "what" p9) (tVar 1) := pe_var rfl hV.2
      obtain ⟨pl, hc⟩ := hc (cxOf CX0 P w K mg base ["self", "what"] qual scope f cdv A outer s H E).env rfl
      exact pss_cons (ps_expr (pe_xinit (pl := pl) (hG cdv A outer s H E) mB hB ty hst hn hdb hh vV (pa_cons v0 (pa_cons pe_str pa_nil rfl) rfl) hc) rfl) (pss_one (ps_xstore v1 v2))
    · exact ⟨_, rfl, ⟨a, C, [.str text], rfl, by show 1 ≤ 1000; decide, T, ea, ⟨_, rfl, _, rfl, a, C, B, newId, initId, bmB, rfl, T, ht, ea, fun dx hd hne => q dx hd hne⟩⟩⟩
end G

set_option Elab.async false
set_option linter.all false
set_option maxRecDepth 100000
set_option maxHeartbeats 4000000
namespace G
open PySem PySem.Spec PyProof.Rows L2
/-! ### the head's facts of exceptions -/
/-- what is so of a built-in exception class -/
structure XBase (B newId initId : String) (bmB : List Value) : Prop where
  fb : ExcBaseFacts B newId initId bmB
  sf : StoreFacts B bmB "object.__setattr__" "object"
  hB : bootBuiltins B = some (.type B)
  ty : typeOf (.type B) = pure (.type "type")
  hst : Manifest.isStub B = false
  hn : (B : Str) ≠ "__name__"
  hdb : ((B : Str) == ("__debug__" : Str)) = false
  hh : PySem.W.handedIn (.builtin initId) = true
  vV : ∀ K, PySem.W.findCls K (.type B) (.type "type") "__init__" = some (.val (.builtin initId))
theorem xb_ValueError : XBase "ValueError" "ValueError.__new__" "ValueError.__init__" [.type "ValueError", .type "Exception", .type "BaseException", .type "object"] :=
  ⟨PySem.F.excBase_ValueError, PySem.F.store_ValueError, by decide +kernel, by kernel_rfl, by decide +kernel, by decide, by decide, by decide +kernel, fun K => by kernel_rfl⟩
theorem xb_RuntimeError : XBase "RuntimeError" "RuntimeError.__new__" "RuntimeError.__init__" [.type "RuntimeError", .type "Exception", .type "BaseException", .type "object"] :=
  ⟨PySem.F.excBase_RuntimeError, PySem.F.store_RuntimeError, by decide +kernel, by kernel_rfl, by decide +kernel, by decide, by decide, by decide +kernel, fun K => by kernel_rfl⟩
theorem xb_ArithmeticError : XBase "ArithmeticError" "ArithmeticError.__new__" "ArithmeticError.__init__" [.type "ArithmeticError", .type "Exception", .type "BaseException", .type "object"] :=
  ⟨PySem.F.excBase_ArithmeticError, PySem.F.store_ArithmeticError, by decide +kernel, by kernel_rfl, by decide +kernel, by decide, by decide, by decide +kernel, fun K => by kernel_rfl⟩
theorem xb_LookupError : XBase "LookupError" "LookupError.__new__" "LookupError.__init__" [.type "LookupError", .type "Exception", .type "BaseException", .type "object"] :=
  ⟨PySem.F.excBase_LookupError, PySem.F.store_LookupError, by decide +kernel, by kernel_rfl, by decide +kernel, by decide, by decide, by decide +kernel, fun K => by kernel_rfl⟩
theorem xb_TypeError : XBase "TypeError" "TypeError.__new__" "TypeError.__init__" [.type "TypeError", .type "Exception", .type "BaseException", .type "object"] :=
  ⟨PySem.F.excBase_TypeError, PySem.F.store_TypeError, by decide +kernel, by kernel_rfl, by decide +kernel, by decide, by decide, by decide +kernel, fun K => by kernel_rfl⟩
theorem xb_IndexError : XBase "IndexError" "IndexError.__new__" "IndexError.__init__" [.type "IndexError", .type "LookupError", .type "Exception", .type "BaseException", .type "object"] :=
  ⟨PySem.F.excBase_IndexError, PySem.F.store_IndexError, by decide +kernel, by kernel_rfl, by decide +kernel, by decide, by decide, by decide +kernel, fun K => by kernel_rfl⟩
theorem xb_OverflowError : XBase "OverflowError" "OverflowError.__new__" "OverflowError.__init__" [.type "OverflowError", .type "ArithmeticError", .type "Exception", .type "BaseException", .type "object"] :=
  ⟨PySem.F.excBase_OverflowError, PySem.F.store_OverflowError, by decide +kernel, by kernel_rfl, by decide +kernel, by decide, by decide, by decide +kernel, fun K => by kernel_rfl⟩
def xmB (K : PySem.W.Frag) (x : Str) (newId : String) (bmB : List Value) : Bool :=
  PySem.W.excInitIn K (He.ga K x) bmB newId && (PySem.W.excOver K (He.ga K x) bmB && (PySem.W.hasDictIn K (He.ga K x) && (decide (PySem.W.findIn K (.ref (He.ga K x)) "__setattr__" = some (some (.builtin "object.__setattr__"))) && (decide (PySem.W.subIn K (.ref (He.ga K x)) (.type "BaseException") = some true) && (decide (PySem.W.typeIn K (.ref (He.ga K x)) = some (.type "type")) &&
    (PySem.W.keepIn K (.ref (He.ga K x)) && (decide (PySem.W.takerIn K (He.ga K x) "what" = some none) && (decide (PySem.W.typeIn K (.ref (He.ma K (He.ga K x) "__init__")) = some (.type "function")) && decide (PySem.W.findIn K (.ref (He.ga K x)) "__init__" = some (some (.ref (He.ma K (He.ga K x) "__init__"))))))))))))
theorem xmB_ok {K : PySem.W.Frag} {x : Str} {B newId initId : String} {bmB : List Value} (b : XBase B newId initId bmB) (h : xmB K x newId bmB = true) :
    XMade K (He.ga K x) B newId initId bmB ∧ PySem.W.takerIn K (He.ga K x) "what" = some none ∧ PySem.W.typeIn K (.ref (He.ma K (He.ga K x) "__init__")) = some (.type "function") ∧ PySem.W.findIn K (.ref (He.ga K x)) "__init__" = some (some (.ref (He.ma K (He.ga K x) "__init__"))) := by
  unfold xmB at h
  simp only [Bool.and_eq_true, decide_eq_true_eq] at h
  obtain ⟨h1, h2, h3, h4, h5, h6, h7, h8, h9, h10⟩ := h
  exact ⟨⟨b.fb, b.sf, h1, h2, h3, h4, h5, h6, h7⟩, h8, h9, h10⟩
def xrB (K : PySem.W.Frag) (x : Str) : Bool :=
  (PySem.W.clsIn K (He.ga K x)).isSome && (decide (PySem.W.findIn K (.ref (He.ga K x)) "__getattribute__" = some (some (.builtin "BaseException.__getattribute__"))) && (decide (PySem.W.findIn K (.ref (He.ga K x)) "__getattr__" = some none) && (decide (PySem.W.subIn K (.ref (He.ga K x)) (.type "BaseException") = some true) && (PySem.W.hasDictIn K (He.ga K x) &&
    (decide (PySem.W.findIn K (.ref (He.ga K x)) "__class__" = some (some (.builtin "object.__class__"))) && (decide (PySem.W.specialIn K (.builtin "object.__class__") "__get__" = some (some (.builtin "getset_descriptor.__get__"))) && (decide (PySem.W.takesIn K (.builtin "object.__class__") = some true) && (decide (PySem.W.mroIn K (He.ga K x) (.type "object") = some true) && decide (PySem.W.findIn K (.ref (He.ga K x)) "what" = some none)))))))))
theorem xrB_ok {K : PySem.W.Frag} {x : Str} (h : xrB K x = true) : XRead K (He.ga K x) ∧ PySem.W.findIn K (.ref (He.ga K x)) "what" = some none := by
  unfold xrB at h
  simp only [Bool.and_eq_true, decide_eq_true_eq] at h
  obtain ⟨h1, h2, h3, h4, h5, h6, h7, h8, h9, h10⟩ := h
  exact ⟨⟨h1, h2, h3, h4, h5, h6, h7, h8, h9⟩, h10⟩
/-- a class by its name: the module's, or a built-in one -/
def clV (K : PySem.W.Frag) (p : Bool × Str) : Value := match p.1 with
  | true => .ref (He.ga K p.2)
  | false => .none
def xiB (K : PySem.W.Frag) (x : Str) (c : PySem.W.Frag → Value) (b : Bool) : Bool := decide (PySem.W.kitOne K (.ref (He.ga K x)) (c K) = some b)
def xaB (K : PySem.W.Frag) (x : Str) (cs : PySem.W.Frag → List Value) (b : Bool) : Bool := decide (PySem.W.kitAny K (.ref (He.ga K x)) (cs K) = some b)
def xcB (K : PySem.W.Frag) (x : Str) (cs : PySem.W.Frag → List Value) : Bool := decide (PySem.W.exmAny K (.ref (He.ga K x)) (cs K) = some true)
def xoB (K : PySem.W.Frag) (x : Str) (c : PySem.W.Frag → Value) : Bool := decide (PySem.W.exmOne K (.ref (He.ga K x)) (c K) = some true)
/-! ### a def's body that may raise -/
def XRet (m : Nat) (C : Addr) (fs : List (Str × D)) (M : Mem) (EA : AXn) : Prop := match (M.take m).all (lowC m) with
  | true => EA C fs (M.take m)
  | false => EA C fs M
theorem afnX {P : Program} {w : World} {K : PySem.W.Frag} {mg : Str → Option Value} {base : Heap} {x qual : Str} {params : Arguments} {body : List Stmt} {scope : Scope} {dvs : List V} {kws : List (Str × V)} {f : Addr} {fd : FuncData} {N ps : List Str} {k : Nat} {sp : ASp} (m : Nat)
    (F : FunD K x qual params body scope dvs kws f fd) (S : FnScope N ps scope) (len : ∀ xs M Q E, sp xs M Q E → xs.length = ps.length ∧ M.length = m)
    (hbody : ∀ (W : Wd) (cdv : Value) (A : Around) (outer : List PySem.Env) (s : Shared) (H : Hp) (E : XK), Room k (A.deeper (envOfC qual scope s.heap.objs.size f cdv)) → W.al.length = m → ∀ xs M QA EA, sp xs M QA EA →
      ∃ t a, ASXs (cxOf (L2.CX P w) P w K mg base N qual scope f cdv A outer s H E) W (fun cls d _ H' => E cls d H') body t a ∧ a ⟨fun _ M => Ret m (.d .non) M QA, fun x M => Ret m x M QA, fun _ _ => False, fun _ _ => False⟩ (fun C fs _ M => XRet m C fs M EA) (startA N.length xs) M) :
    FnOk P w K mg base (L2.CX P w) (k + 1) f fd ps (conc K sp) := by
  refine fnd_ok F S (fun vs H Q E h => ?_) (fun cdv A outer s H vs Q E hr h => ?_)
  · obtain ⟨b, M, xs, QA, EA, _, _, r, h, _⟩ := h
    rw [← r.length]; exact (len _ _ _ _ h).1
  · obtain ⟨b, M, xs, QA, EA, rfl, ok, r, h, kq, ke⟩ := h
    have hm : b.al.length = m := ok.len.trans (len _ _ _ _ h).2
    obtain ⟨t, a, hp, ha⟩ := hbody b cdv A outer s b.H E hr hm xs M QA EA h
    refine ⟨t, hp.ps (takes_of rfl rfl rfl rfl) (passes_of rfl), ?_⟩
    refine hp.ss b M _ _ _ _ _ (To.refl b) ok (startA_slots r) ha ⟨fun b1 M1 E1 σ1 s1 t1 ok1 sl1 q => ?_, fun b1 M1 x v s1 t1 ok1 r1 q => ?_, fun _ _ _ _ _ _ _ _ q => q.elim, fun _ _ _ _ _ _ _ _ q => q.elim⟩ fun b1 M1 E1 σ1 C fs d gs s1 t1 ok1 sl1 e1 r1 q => ?_
    · obtain ⟨b2, M2, y, e, t2, ok2, r2, q2⟩ := ret_ok hm t1 ok1 (.d .non) q
      have := kq b2 M2 y _ t2 ok2 r2 q2
      rw [e] at this
      exact this
    · obtain ⟨b2, M2, y, e, t2, ok2, r2, q2⟩ := ret_ok hm t1 ok1 r1 q
      have := kq b2 M2 y _ t2 ok2 r2 q2
      rw [e] at this
      exact this
    · unfold XRet at q
      split at q
      · rename_i hc
        exact ke ⟨b1.I, b1.al.take m, b1.H⟩ _ C fs d gs (t1.trim (Nat.le_of_eq hm)) (ok1.trim m hc) e1 r1 q
      · exact ke b1 M1 C fs d gs t1 ok1 e1 r1 q
/-- all cells kept -/
theorem afnXK {P : Program} {w : World} {K : PySem.W.Frag} {mg : Str → Option Value} {base : Heap} {x qual : Str} {params : Arguments} {body : List Stmt} {scope : Scope} {dvs : List V} {kws : List (Str × V)} {f : Addr} {fd : FuncData} {N ps : List Str} {k : Nat} {sp : ASp}
    (F : FunD K x qual params body scope dvs kws f fd) (S : FnScope N ps scope) (len : ∀ xs M Q E, sp xs M Q E → xs.length = ps.length)
    (hbody : ∀ (W : Wd) (cdv : Value) (A : Around) (outer : List PySem.Env) (s : Shared) (H : Hp) (E : XK), Room k (A.deeper (envOfC qual scope s.heap.objs.size f cdv)) → ∀ xs M QA EA, W.al.length = M.length → sp xs M QA EA →
      ∃ t a, ASXs (cxOf (L2.CX P w) P w K mg base N qual scope f cdv A outer s H E) W (fun cls d _ H' => E cls d H') body t a ∧ a ⟨fun _ M2 => QA (.d .non) M2, fun x M2 => QA x M2, fun _ _ => False, fun _ _ => False⟩ (fun C fs _ M2 => EA C fs M2) (startA N.length xs) M) :
    FnOk P w K mg base (L2.CX P w) (k + 1) f fd ps (conc K sp) := by
  refine fnd_ok F S (fun vs H Q E h => ?_) (fun cdv A outer s H vs Q E hr h => ?_)
  · obtain ⟨b, M, xs, QA, EA, _, _, r, h, _⟩ := h
    rw [← r.length]; exact len _ _ _ _ h
  · obtain ⟨b, M, xs, QA, EA, rfl, ok, r, h, kq, ke⟩ := h
    obtain ⟨t, a, hp, ha⟩ := hbody b cdv A outer s b.H E hr xs M QA EA ok.len h
    refine ⟨t, hp.ps (takes_of rfl rfl rfl rfl) (passes_of rfl), ?_⟩
    exact hp.ss b M _ _ _ _ _ (To.refl b) ok (startA_slots r) ha ⟨fun b1 M1 E1 σ1 s1 t1 ok1 sl1 q => kq b1 M1 _ _ t1 ok1 (.d .non) q, fun b1 M1 x v s1 t1 ok1 r1 q => kq b1 M1 x v t1 ok1 r1 q, fun _ _ _ _ _ _ _ _ q => q.elim, fun _ _ _ _ _ _ _ _ q => q.elim⟩
      fun b1 M1 E1 σ1 C fs d gs s1 t1 ok1 sl1 e1 r1 q => ke b1 M1 C fs d gs t1 ok1 e1 r1 q
end G

set_option Elab.async false
set_option linter.all false
set_option maxRecDepth 100000
namespace G
open PySem PySem.Spec PyProof.Rows L2
/-! ### ways joined, cells forgotten, where a statement may raise -/
def aGenSX (a : AsX) : AsX := fun Q XA E M => Gen (fun P => a { Q with nx := P } XA E M) (fun E2 M2 => fL E2 fun E3 => nM M2 fun M3 => Q.nx E3 M3)
def aTrimX (n : Nat) (a : AsX) : AsX := fun Q XA E M => a { Q with nx := fun E2 M2 => match (M2.take n).all (lowC n) with
  | true => Q.nx (clrE n E2) (M2.take n)
  | false => False } XA E M
section
variable {K : PySem.W.Frag} {W : Wd} {Wx : WX}
theorem ssx_gen {t : TS} {a : AsX} (h : SSX K W Wx t a) : SSX K W Wx t (aGenSX a) := fun b M E σ DA XA Dd t0 ok sl h1 e x => by
  obtain ⟨P, h2, h3⟩ := h1.p
  exact h b M E σ { DA with nx := P } XA Dd t0 ok sl h2 ⟨fun b M E σ s t ok sl q => e.nx b M E σ s t ok sl (nM_eq.mp (fL_eq.mp (h3 E M q))), e.rt, e.bk, e.ct⟩ x
theorem ssx_trim {n : Nat} {t : TS} {a : AsX} (hn : W.al.length ≤ n) (h : SSX K W Wx t a) : SSX K W Wx t (aTrimX n a) := fun b M E σ DA XA Dd t0 ok sl h1 e x => by
  refine h b M E σ _ XA Dd t0 ok sl h1 ⟨fun b2 M2 E2 σ2 s2 t2 ok2 sl2 (q : match (M2.take n).all (lowC n) with | true => DA.nx (clrE n E2) (M2.take n) | false => False) => ?_, e.rt, e.bk, e.ct⟩ x
  split at q
  · rename_i hc
    exact e.nx ⟨b2.I, b2.al.take n, b2.H⟩ _ _ σ2 s2 (t2.trim hn) (ok2.trim n hc) sl2.trim q
  · exact q.elim
end
section
variable {X : Cx} {W : Wd} {Wx : WX} {st : Stmt} {u : TS} {b : AsX}
theorem asx_gen (h : ASX X W Wx st u b) : ASX X W Wx st u (aGenSX b) := ⟨h.ps, ssx_gen h.ss⟩
theorem asx_trim (n : Nat) (hn : W.al.length ≤ n) (h : ASX X W Wx st u b) : ASX X W Wx st u (aTrimX n b) := ⟨h.ps, ssx_trim hn h.ss⟩
end
end G

set_option Elab.async false
set_option linter.all false
set_option maxRecDepth 100000
set_option maxHeartbeats 1000000
namespace ZS
open PySem PySem.Spec PyProof.Rows L2
open Builtin
/-! ### zip over texts, lists and tuples, with strict=True too -/
abbrev IsZipB (b : Bool) (h : Heap) (z TI TO : Addr) (f0 : Value) : Prop :=
  h.get? z = some { cls := .type "zip", dict := none, data := .fields #[f0, .bool false, .bool b, .ref TI, .ref TO], slots := #[] }
section
variable {prog : Program} {w : World} {A : Around} {E : Value → Shared → Prop} {s : Shared} {it z TI TO i1 i2 : Addr} {fp fp1 fp2 : List Addr} {n n1 n2 i : Nat} {P P1 P2 : Nat → Value → Prop} {St St1 St2 : Nat → Heap → Prop} {a1 a2 : Value}
theorem noe_item {Q : Option Value → Shared → Prop} (D : Draws prog w A it fp n P St) (hi : i < n) (st : St i s.heap)
    (hQ : ∀ x h' tk, P i x → St (i + 1) h' → Heap.SameBut it s.heap h' → Q (some x) { s with heap := h', toks := tk }) : wpAny (model prog w) A (Builtin.SmallTypes.nextOrEnd (.ref it)) Q E s := by
  unfold Builtin.SmallTypes.nextOrEnd
  exact wpAny_bind (wpAny_attempt (D.item i s _ _ hi st fun x h' tk p st' sb => wpAny_pure (hQ x h' tk p st' sb)))
theorem noe_done {Q : Option Value → Shared → Prop} (D : Draws prog w A it fp n P St) (st : St n s.heap)
    (hQ : ∀ h', Heap.ExtBut it s.heap h' → Q none { s with heap := h' }) : wpAny (model prog w) A (Builtin.SmallTypes.nextOrEnd (.ref it)) Q E s := by
  unfold Builtin.SmallTypes.nextOrEnd
  refine wpAny_bind (wpAny_attempt (D.done s _ _ st fun h' e eb he => ?_))
  obtain ⟨o, ho, hc⟩ := he
  refine wpAny_bind (wpAny_isInstance (T := "StopIteration") (b := true) ⟨o, ho, hc⟩ isSubtype_stop ?_)
  exact wpAny_pure (hQ h' eb)
theorem next_item {Q : Value → Shared → Prop} (S : ZipSep2 z TI TO i1 i2 fp1 fp2) (D1 : Draws prog w A i1 fp1 n1 P1 St1) (D2 : Draws prog w A i2 fp2 n2 P2 St2)
    (hz : IsZipB true s.heap z TI TO .none) (hTI : IsTupOf2 s.heap TI (.ref i1) (.ref i2)) (hTO : IsTupOf2 s.heap TO a1 a2) (st1 : St1 i s.heap) (st2 : St2 i s.heap) (hlt1 : i < n1) (hlt2 : i < n2)
    (hQ : ∀ x1 x2 h' tk, P1 i x1 → P2 i x2 → IsZipB true h' z TI TO (rawInt s.heap.objs.size) → IsTupOf2 h' TO x1 x2 → St1 (i + 1) h' → St2 (i + 1) h' → IsTupOf2 h' s.heap.objs.size x1 x2 → h'.objs.size = s.heap.objs.size + 1 →
      (∀ c o, c ≠ z → c ≠ TO → c ≠ i1 → c ≠ i2 → s.heap.get? c = some o → h'.get? c = some o) → Q (.ref s.heap.objs.size) { s with heap := h', toks := tk }) :
    wpAny (model prog w) A (Builtin.«zip.__next__» ⟨[.ref z], []⟩) (fun fin s' => ∃ v, fin = .done (.ret v) ∧ Q v s') E s := by
  obtain ⟨hp, g, d, tk0, os⟩ := s
  show wpAny _ _ (field (.ref z) 2 >>= _) _ _ _
  refine wpAny_bind (wpAny_field hz rfl (x := .bool true) rfl ?_)
  show wpAny _ _ (field (.ref z) 3 >>= _) _ _ _
  refine wpAny_bind (wpAny_field hz rfl (x := .ref TI) rfl ?_)
  refine wpAny_bind (wpAny_seqItems hTI rfl ?_)
  show wpAny _ _ (Builtin.SmallTypes.ownedTupleIsFree (.ref z) >>= _) _ _ _
  refine wpAny_bind ?_
  unfold Builtin.SmallTypes.ownedTupleIsFree
  refine wpAny_bind (wpAny_field hz rfl (x := .none) rfl (wpAny_pure ?_))
  simp only [if_true]
  refine wpAny_bind (wpAny_rule ?_)
  refine wpAny_bind (wpAny_field hz rfl (x := .ref TO) rfl ?_)
  refine wpAny_bind (wpAny_setField_rec hz (by simp) fun g0 hz0 hs0 => ?_)
  replace hz0 : IsZipB true g0 z TI TO .ellipsis := hz0
  replace hs0 : Heap.SameBut z hp g0 := hs0
  refine wpAny_bind ?_
  simp only [List.zipIdx_cons, List.zipIdx_nil, List.forIn_cons, List.forIn_nil]
  refine wpAny_bind (wpAny_bind (wpAny_onRaise ?_))
  show wpAny _ _ (Builtin.SmallTypes.nextOrEnd (.ref i1)) _ _ ⟨g0, g, d, tk0, os⟩
  refine noe_item D1 hlt1 (D1.over st1 hs0 S.zf1) fun x1 p1 tk1 hx1 sn1 hp1 => ?_
  replace hp1 : Heap.SameBut i1 g0 p1 := hp1
  have hU1 : IsTupOf2 p1 TO a1 a2 := hp1.extBut _ _ S.Ti1 (hs0.extBut _ _ S.TOz hTO)
  refine wpAny_bind (wpAny_seqItems (s := ⟨p1, g, d, tk1, os⟩) hU1 rfl ?_)
  refine wpAny_bind (updateSeq_IsTupOf2 (s := ⟨p1, g, d, tk1, os⟩) hU1 fun g1 hT1 hs1 => ?_)
  replace hT1 : IsTupOf2 g1 TO x1 a2 := hT1
  replace hs1 : Heap.SameBut TO p1 g1 := hs1
  refine wpAny_bind (wpAny_letGo (wpAny_pure ?_))
  refine wpAny_bind (wpAny_bind (wpAny_onRaise ?_))
  show wpAny _ _ (Builtin.SmallTypes.nextOrEnd (.ref i2)) _ _ ⟨g1, g, d, tk1, os⟩
  refine noe_item D2 hlt2 (D2.over (D2.over (D2.over st2 hs0 S.zf2) hp1 S.sep1_2) hs1 S.Tf2) fun x2 p2 tk2 hx2 sn2 hp2 => ?_
  replace hp2 : Heap.SameBut i2 g1 p2 := hp2
  have hU2 : IsTupOf2 p2 TO x1 a2 := hp2.extBut _ _ S.Ti2 hT1
  refine wpAny_bind (wpAny_seqItems (s := ⟨p2, g, d, tk2, os⟩) hU2 rfl ?_)
  refine wpAny_bind (updateSeq_IsTupOf2 (s := ⟨p2, g, d, tk2, os⟩) hU2 fun g2 hT2 hs2 => ?_)
  replace hT2 : IsTupOf2 g2 TO x1 x2 := hT2
  replace hs2 : Heap.SameBut TO p2 g2 := hs2
  refine wpAny_bind (wpAny_letGo (wpAny_pure (wpAny_pure ?_)))
  refine wpAny_bind (wpAny_seqItems (s := ⟨g2, g, d, tk2, os⟩) hT2 rfl ?_)
  refine wpAny_bind (wpAny_newTuple ?_)
  have hsz : g2.objs.size = hp.objs.size := by rw [hs2.1, hp2.1, hs1.1, hp1.1, hs0.1]
  have hzz : IsZipB true g2 z TI TO .ellipsis := (hs2.extBut _ _ S.TOz.symm (hp2.extBut _ _ S.zi2 (hs1.extBut _ _ S.TOz.symm (hp1.extBut _ _ S.zi1 hz0))))
  have hkk : ∀ c o, c ≠ z → c ≠ TO → c ≠ i1 → c ≠ i2 → hp.get? c = some o → g2.get? c = some o := fun c o cz cT c1 c2 e =>
    (hs2.extBut _ _ cT (hp2.extBut _ _ c2 (hs1.extBut _ _ cT (hp1.extBut _ _ c1 (hs0.extBut _ _ cz e)))))
  have hj1 : St1 (i + 1) g2 := (D1.over (D1.over (D1.over sn1 hs1 S.Tf1) hp2 S.sep2_1) hs2 S.Tf1)
  have hj2 : St2 (i + 1) g2 := (D2.over sn2 hs2 S.Tf2)
  have hzlt : z < g2.objs.size := Heap.lt_size hzz
  show wpAny _ _ (Builtin.SmallTypes.ownedTupleHandOut (.ref z) (.ref g2.objs.size) >>= _) _ _ ⟨g2.push { cls := .type "tuple", data := .seq #[x1, x2] }, g, d, tk2, os⟩
  refine wpAny_bind ?_
  unfold Builtin.SmallTypes.ownedTupleHandOut
  have hz₆ : IsZipB true (g2.push { cls := .type "tuple", data := .seq #[x1, x2] }) z TI TO .ellipsis := Heap.get?_push_of_some _ hzz
  refine wpAny_bind (wpAny_setField_rec hz₆ (by simp) fun h₇ hz₇ hs₇ => ?_)
  replace hz₇ : IsZipB true h₇ z TI TO (rawInt g2.objs.size) := hz₇
  refine wpAny_setField_rec hz₇ (by simp) fun h₈ hz₈ hs₈ => ?_
  replace hz₈ : IsZipB true h₈ z TI TO (rawInt g2.objs.size) := hz₈
  replace hs₇ : Heap.SameBut z (g2.push { cls := .type "tuple", data := .seq #[x1, x2] }) h₇ := hs₇
  replace hs₈ : Heap.SameBut z h₇ h₈ := hs₈
  have up : ∀ c o, c ≠ z → g2.get? c = some o → h₈.get? c = some o := fun c o c1 e => hs₈.extBut _ _ c1 (hs₇.extBut _ _ c1 (Heap.get?_push_of_some _ e))
  have hT₈ : IsTupOf2 h₈ g2.objs.size x1 x2 := hs₈.extBut _ _ (Nat.ne_of_gt hzlt) (hs₇.extBut _ _ (Nat.ne_of_gt hzlt) (Heap.get?_push_size _ rfl))
  have hz8 : h₈.objs.size = g2.objs.size + 1 := by rw [hs₈.1, hs₇.1, Heap.size_push]
  rw [hsz] at hz₈ hT₈ hz8
  refine wpAny_pure ⟨_, rfl, ?_⟩
  show Q (.ref g2.objs.size) ⟨h₈, g, d, tk2, os⟩
  rw [hsz]
  exact hQ x1 x2 h₈ tk2 hx1 hx2 hz₈ (up _ _ S.TOz hT2) (D1.frame _ _ _ hj1 fun b hb o e => up b o (fun q => S.zf1 (q ▸ hb)) e) (D2.frame _ _ _ hj2 fun b hb o e => up b o (fun q => S.zf2 (q ▸ hb)) e) hT₈ hz8 fun c o cz cT c1 c2 e => up c o cz (hkk c o cz cT c1 c2 e)
theorem next_end {Q : Fin → Shared → Prop} (hh : A.handled = none) (S : ZipSep2 z TI TO i1 i2 fp1 fp2) (D1 : Draws prog w A i1 fp1 n P1 St1) (D2 : Draws prog w A i2 fp2 n P2 St2)
    (hz : IsZipB true s.heap z TI TO .none) (hTI : IsTupOf2 s.heap TI (.ref i1) (.ref i2)) (hTO : IsTupOf2 s.heap TO a1 a2) (st1 : St1 n s.heap) (st2 : St2 n s.heap)
    (hE : ∀ h' e, (∀ c o, c ≠ z → c ≠ TO → c ≠ i1 → c ≠ i2 → s.heap.get? c = some o → h'.get? c = some o) → (∃ o, h'.get? e = some o ∧ o.cls = .type "StopIteration") → E (.ref e) { s with heap := h' }) :
    wpAny (model prog w) A (Builtin.«zip.__next__» ⟨[.ref z], []⟩) Q E s := by
  obtain ⟨hp, g, d, tk0, os⟩ := s
  show wpAny _ _ (field (.ref z) 2 >>= _) _ _ _
  refine wpAny_bind (wpAny_field hz rfl (x := .bool true) rfl ?_)
  show wpAny _ _ (field (.ref z) 3 >>= _) _ _ _
  refine wpAny_bind (wpAny_field hz rfl (x := .ref TI) rfl ?_)
  refine wpAny_bind (wpAny_seqItems hTI rfl ?_)
  show wpAny _ _ (Builtin.SmallTypes.ownedTupleIsFree (.ref z) >>= _) _ _ _
  refine wpAny_bind ?_
  unfold Builtin.SmallTypes.ownedTupleIsFree
  refine wpAny_bind (wpAny_field hz rfl (x := .none) rfl (wpAny_pure ?_))
  simp only [if_true]
  refine wpAny_bind (wpAny_rule ?_)
  refine wpAny_bind (wpAny_field hz rfl (x := .ref TO) rfl ?_)
  refine wpAny_bind (wpAny_setField_rec hz (by simp) fun g0 hz0 hs0 => ?_)
  replace hz0 : IsZipB true g0 z TI TO .ellipsis := hz0
  replace hs0 : Heap.SameBut z hp g0 := hs0
  refine wpAny_bind ?_
  simp only [List.zipIdx_cons, List.zipIdx_nil, List.forIn_cons, List.forIn_nil]
  refine wpAny_bind (wpAny_bind (wpAny_onRaise ?_))
  show wpAny _ _ (Builtin.SmallTypes.nextOrEnd (.ref i1)) _ _ ⟨g0, g, d, tk0, os⟩
  refine noe_done D1 (D1.over st1 hs0 S.zf1) fun q hq => ?_
  replace hq : Heap.ExtBut i1 g0 q := hq
  have hzq : IsZipB true q z TI TO .ellipsis := hq _ _ S.zi1 hz0
  refine wpAny_bind (wpAny_setField_rec (s := ⟨q, g, d, tk0, os⟩) hzq (by simp) fun q' _ hq' => ?_)
  replace hq' : Heap.SameBut z q q' := hq'
  refine wpAny_bind (wpAny_bind ?_)
  simp only [List.drop_succ_cons, List.drop_zero, List.zipIdx_cons, List.zipIdx_nil, List.forIn_cons, List.forIn_nil]
  refine wpAny_bind (wpAny_bind ?_)
  refine noe_done D2 (D2.frame _ _ _ (D2.over st2 hs0 S.zf2) fun b hb o e => hq'.extBut _ _ (fun q2 => S.zf2 (q2 ▸ hb)) (hq _ _ (fun q2 => S.sep1_2 (q2 ▸ hb)) e)) fun q2 hq2 => ?_
  replace hq2 : Heap.ExtBut i2 q' q2 := hq2
  rw [if_neg (by decide)]
  refine wpAny_pure (wpAny_pure (wpAny_bind (wpAny_rule ?_)))
  unfold Builtin.SmallTypes.stopIteration
  show wpAny _ _ (newExc (.type "StopIteration") [] >>= _) _ _ _
  refine wpAny_bind ?_
  simp only [newExc, newTuple]
  refine wpAny_bind (wpAny_newObj_type ?_ (by size_fits))
  refine wpAny_bind (m := firstArgMember _ _) (wpAny_of_eq (a := Value.none) (by first | rfl | (simp only [firstArgMember]; rfl)) ?_)
  refine wpAny_newObj_type ?_ (by size_fits)
  simp only [raiseNew]
  refine wpAny_bind (wpAny_handled ?_)
  first | rw [show A.in1.handled = none from hh] | rw [hh]
  refine wpAny_bind (wpAny_pure (wpAny_throw ?_))
  refine hE _ _ (fun c o cz cT c1 c2 e => ?_) ⟨_, Heap.get?_push_size _ rfl, rfl⟩
  exact Heap.get?_push_of_some _ (Heap.get?_push_of_some _ (hq2 _ _ c2 (hq'.extBut _ _ cz (hq _ _ c1 (hs0.extBut _ _ cz e)))))
theorem pyNext_item {Q : Option Value → Shared → Prop} (S : ZipSep2 z TI TO i1 i2 fp1 fp2) (D1 : Draws prog w A.in1 i1 fp1 n1 P1 St1) (D2 : Draws prog w A.in1 i2 fp2 n2 P2 St2)
    (hz : IsZipB true s.heap z TI TO .none) (hTI : IsTupOf2 s.heap TI (.ref i1) (.ref i2)) (hTO : IsTupOf2 s.heap TO a1 a2) (st1 : St1 i s.heap) (st2 : St2 i s.heap) (hlt1 : i < n1) (hlt2 : i < n2)
    (hQ : ∀ x1 x2 h' tk, P1 i x1 → P2 i x2 → IsZipB true h' z TI TO (rawInt s.heap.objs.size) → IsTupOf2 h' TO x1 x2 → St1 (i + 1) h' → St2 (i + 1) h' → IsTupOf2 h' s.heap.objs.size x1 x2 → h'.objs.size = s.heap.objs.size + 1 →
      (∀ c o, c ≠ z → c ≠ TO → c ≠ i1 → c ≠ i2 → s.heap.get? c = some o → h'.get? c = some o) → Q (some (.ref s.heap.objs.size)) { s with heap := h', toks := tk }) :
    wpAny (model prog w) A (pyNext (.ref z)) Q E s := by
  have hT : s.TypeIs (.ref z) "zip" := ⟨_, hz, rfl⟩
  unfold pyNext
  exact wpAny_bind (wpAny_attempt (wpAny_callSpecial?_slot (name := Str.ofString "__next__") hT F.slot_zip_next
    (wpAny_call_entry F.slot_zip_next hT F.entry_zip_next
      (next_item S D1 D2 hz hTI hTO st1 st2 hlt1 hlt2 fun x1 x2 h' tk y1 y2 b1 b2 d1 d2 b5 b6 b7 => wpAny_pure (hQ x1 x2 h' tk y1 y2 b1 b2 d1 d2 b5 b6 b7)) (F.args_zip_next_1 _))))
theorem pyNext_end {Q : Option Value → Shared → Prop} (hh : A.handled = none) (S : ZipSep2 z TI TO i1 i2 fp1 fp2) (D1 : Draws prog w A.in1 i1 fp1 n P1 St1) (D2 : Draws prog w A.in1 i2 fp2 n P2 St2)
    (hz : IsZipB true s.heap z TI TO .none) (hTI : IsTupOf2 s.heap TI (.ref i1) (.ref i2)) (hTO : IsTupOf2 s.heap TO a1 a2) (st1 : St1 n s.heap) (st2 : St2 n s.heap)
    (hQ : ∀ h', (∀ c o, c ≠ z → c ≠ TO → c ≠ i1 → c ≠ i2 → s.heap.get? c = some o → h'.get? c = some o) → Q none { s with heap := h' }) : wpAny (model prog w) A (pyNext (.ref z)) Q E s := by
  have hT : s.TypeIs (.ref z) "zip" := ⟨_, hz, rfl⟩
  unfold pyNext
  refine wpAny_bind (wpAny_attempt (wpAny_callSpecial?_slot (name := Str.ofString "__next__") hT F.slot_zip_next
    (wpAny_call_entry F.slot_zip_next hT F.entry_zip_next (next_end hh S D1 D2 hz hTI hTO st1 st2 fun h' e hk he => ?_) (F.args_zip_next_1 _))))
  obtain ⟨o, ho, hc⟩ := he
  refine wpAny_bind (wpAny_isInstance (T := "StopIteration") (b := true) ⟨o, ho, hc⟩ isSubtype_stop ?_)
  exact wpAny_pure (hQ _ hk)
theorem letGo_zip {b : Bool} {elts : List Expr} {x1} {pos : Pos} {T : Addr} {Q : Unit → Shared → Prop} (hz : IsZipB b s.heap z TI TO (rawInt T))
    (hQ : ∀ h', IsZipB b h' z TI TO .none → Heap.SameBut z s.heap h' → Q () { s with heap := h' }) :
    wpAny (model prog w) A (letOwnedTupleGo (.Tuple elts x1 pos) (.ref z) (.ref T)) Q E s := by
  unfold letOwnedTupleGo
  refine wpAny_bind (wpAny_load hz ?_)
  show wpAny _ _ (if (["enumerate", "zip", "dict_itemiterator", "dict_reverseitemiterator", "odict_iterator", "itertools.zip_longest", "itertools.pairwise"].contains "zip" &&
      (#[rawInt T, .bool false, .bool b, .ref TI, .ref TO] : Array Value)[0]? == some (rawInt T)) = true then _ else _) Q E s
  rw [if_pos (by simp)]
  refine wpAny_bind (wpAny_rule ?_)
  show wpAny _ _ (setField (.ref z) 0 .none) Q E s
  exact wpAny_setField_rec hz (by simp) fun h' hz' hs' => hQ h' hz' hs'
theorem pyIter_zip {b : Bool} {f0 : Value} {Q : Value → Shared → Prop} (hz : IsZipB b s.heap z TI TO f0) (h : Q (.ref z) s) : wpAny (model prog w) A (pyIter (.ref z)) Q E s := by
  have hT : s.TypeIs (.ref z) "zip" := ⟨_, hz, rfl⟩
  refine wpAny_pyIter_slot hT F.slot_zip_iter (wpAny_call_entry F.slot_zip_iter hT F.entry_zip_iter ?_ (F.args_zip_iter_1 _))
  show wpAny _ _ (ret (.ref z)) _ _ s
  exact wpAny_pure ⟨_, rfl, "zip", _, hT, F.slot_zip_next.lookup, h⟩
end
theorem typeCall_s (a b c : Value) : checkTypeCall "zip" ⟨[a, b], [(Str.ofString "strict", c)]⟩ = pure () := by kernel_rfl
theorem newCall_s (a b c : Value) : checkBuiltinCall "zip.__new__" ⟨[.type "zip", a, b], [(Str.ofString "strict", c)]⟩ = pure () := by kernel_rfl
theorem init_s (obj a b c : Value) : argsOk "object.__init__" ⟨[obj, a, b], [(Str.ofString "strict", c)]⟩ := by unfold argsOk; kernel_rfl
abbrev gzS2 (h : Heap) (o1 o2 : Obj) : Heap := (gzO2 h o1 o2).push { cls := .type "zip", data := .fields #[.none, .bool false, .bool true, .ref ((h.push o1).push o2).objs.size, .ref (gzT2 h o1 o2).objs.size] }
theorem meets_new {v1 v2 : Value} {o1 o2 : Obj} {H1 H2 : Heap → Prop} (B1 : Begins v1 o1 H1) (B2 : Begins v2 o2 H2) :
    Meets (Builtin.«zip.__new__» ⟨[.type "zip", v1, v2], [(Str.ofString "strict", .bool true)]⟩) (fun _ R s => (H1 s.heap ∧ H2 s.heap) ∧
      R (.ok (.ret (.ref (gzO2 s.heap o1 o2).objs.size))) { s with heap := gzS2 s.heap o1 o2 }) :=
  .of_wp fun prog w A R s h => by
    obtain ⟨hp, g, d, tk, os⟩ := s; obtain ⟨⟨h1, h2⟩, h⟩ := h
    have hsub := sub_zip
    have q1 : ∀ {A' : Around} {E : Value → Shared → Prop} {Q : Value → Shared → Prop}, Q (.ref hp.objs.size) ⟨(hp.push o1), g, d, tk, os⟩ → wpAny (model prog w) A' (pyIter v1) Q E ⟨hp, g, d, tk, os⟩ :=
      fun q => B1.iter prog w _ _ ⟨hp, g, d, tk, os⟩ _ (B1.keeps _ _ h1 fun b o' e => e) q
    have q2 : ∀ {A' : Around} {E : Value → Shared → Prop} {Q : Value → Shared → Prop}, Q (.ref (hp.push o1).objs.size) ⟨((hp.push o1).push o2), g, d, tk, os⟩ → wpAny (model prog w) A' (pyIter v2) Q E ⟨(hp.push o1), g, d, tk, os⟩ :=
      fun q => B2.iter prog w _ _ ⟨(hp.push o1), g, d, tk, os⟩ _ (B2.keeps _ _ h2 fun b o' e => (Heap.get?_push_of_some _ e)) q
    have e1 : (Str.ofString "strict" == ("strict" : Str)) = true := by decide +kernel
    have e2 : (Str.ofString "strict" != ("strict" : Str)) = false := by decide +kernel
    wp_walk using q1, q2
    exact ⟨_, rfl, h⟩
section
variable {prog : Program} {w : World} {A : Around} {E : Value → Shared → Prop} {s : Shared}
theorem begins {v1 v2 : Value} {o1 o2 : Obj} {H1 H2 : Heap → Prop} {Q : Value → Shared → Prop} (B1 : Begins v1 o1 H1) (B2 : Begins v2 o2 H2) (h1 : H1 s.heap) (h2 : H2 s.heap)
    (h : ∀ h', IsZipB true h' (s.heap.objs.size + 4) (s.heap.objs.size + 2) (s.heap.objs.size + 3) .none → IsTupOf2 h' (s.heap.objs.size + 2) (.ref s.heap.objs.size) (.ref (s.heap.objs.size + 1)) →
      IsTupOf2 h' (s.heap.objs.size + 3) .none .none → h'.get? s.heap.objs.size = some o1 → h'.get? (s.heap.objs.size + 1) = some o2 → h'.objs.size = s.heap.objs.size + 5 →
      (∀ c o, s.heap.get? c = some o → h'.get? c = some o) → Q (.ref (s.heap.objs.size + 4)) { s with heap := h' }) :
    wpAny (model prog w) A (call (.type "zip") [v1, v2] [(Str.ofString "strict", .bool true)]) Q E s := by
  refine callType_newKw F.called_zip (by decide) (typeCall_s _ _ _) (newCall_s _ _ _) (fun obj => init_s obj _ _ _) F.entry_zip_new
    (meets_new B1 B2) ⟨⟨h1, h2⟩, ?_⟩
  have z1 : (s.heap.push o1).objs.size = s.heap.objs.size + 1 := by rw [Heap.size_push]
  have z2 : ((s.heap.push o1).push o2).objs.size = s.heap.objs.size + 2 := by rw [Heap.size_push, z1]
  have zT : (gzT2 s.heap o1 o2).objs.size = s.heap.objs.size + 3 := by rw [Heap.size_push, z2]
  have zO : (gzO2 s.heap o1 o2).objs.size = s.heap.objs.size + 4 := by rw [Heap.size_push, zT]
  have zZ : (gzS2 s.heap o1 o2).objs.size = s.heap.objs.size + 5 := by rw [Heap.size_push, zO]
  have gZ : (gzS2 s.heap o1 o2).get? (gzO2 s.heap o1 o2).objs.size = some { cls := .type "zip", data := .fields #[.none, .bool false, .bool true, .ref ((s.heap.push o1).push o2).objs.size, .ref (gzT2 s.heap o1 o2).objs.size] } := Heap.get?_push_size _ rfl
  have gO : (gzS2 s.heap o1 o2).get? (gzT2 s.heap o1 o2).objs.size = some { cls := .type "tuple", data := .seq #[.none, .none] } := Heap.get?_push_of_some _ (Heap.get?_push_size _ rfl)
  have gT : (gzS2 s.heap o1 o2).get? ((s.heap.push o1).push o2).objs.size = some { cls := .type "tuple", data := .seq #[.ref s.heap.objs.size, .ref (s.heap.push o1).objs.size] } := Heap.get?_push_of_some _ (Heap.get?_push_of_some _ (Heap.get?_push_size _ rfl))
  have g1 : (gzS2 s.heap o1 o2).get? s.heap.objs.size = some o1 := Heap.get?_push_of_some _ (Heap.get?_push_of_some _ (Heap.get?_push_of_some _ (Heap.get?_push_of_some _ (Heap.get?_push_size _ B1.free))))
  have g2 : (gzS2 s.heap o1 o2).get? (s.heap.push o1).objs.size = some o2 := Heap.get?_push_of_some _ (Heap.get?_push_of_some _ (Heap.get?_push_of_some _ (Heap.get?_push_size _ B2.free)))
  rw [zO, zT, z2] at gZ
  rw [zT] at gO
  rw [z2, z1] at gT
  rw [z1] at g2
  show _ ∧ _
  rw [zO]
  exact ⟨⟨_, gZ, rfl⟩, h _ gZ gT gO g1 g2 zZ fun c o e => Heap.get?_push_of_some _ (Heap.get?_push_of_some _ (Heap.get?_push_of_some _ (Heap.get?_push_of_some _ (Heap.get?_push_of_some _ e))))⟩
end
/-! ### the kinds of what is walked -/
inductive Zk | text (x : Str) | lst (a : Addr) | tup (a : Addr)
def Zk.v : Zk → V
  | .text x => .str x
  | .lst a => .ref a
  | .tup a => .ref a
/-- what stands at a place -/
def Zk.at (K : PySem.W.Frag) : Zk → Hp → Nat → V → Prop
  | .text x, _, i, v => ∃ c, x.cps[i]? = some c ∧ v = .str ⟨#[c]⟩
  | .lst a, H, i, v => ∃ xs, SqL K H a xs ∧ xs[i]? = some v
  | .tup a, H, i, v => ∃ xs, SqT K H a xs ∧ xs[i]? = some v
def Zk.len (K : PySem.W.Frag) : Zk → Hp → Nat → Prop
  | .text x, _, n => n = x.cps.size
  | .lst a, H, n => ∃ xs, SqL K H a xs ∧ n = xs.length
  | .tup a, H, n => ∃ xs, SqT K H a xs ∧ n = xs.length
/-- the iterator -/
def Zk.st : Zk → Addr → Nat → Heap → Prop
  | .text x, it, i, h => ∃ t, h.IsStrIter it (strIterType x) x t i
  | .lst a, it, i, h => h.IsListIter it a i
  | .tup a, it, i, h => h.IsTupleIter it a i
end ZS

set_option Elab.async false
set_option linter.all false
set_option maxRecDepth 100000
set_option maxHeartbeats 1000000
namespace ZS
open PySem PySem.Spec PyProof.Rows L2
/-! ### the walk over two of any kind -/
def Zk.is (K : PySem.W.Frag) : Zk → Hp → Nat → V → Prop
  | .text x, _, i, v => ∃ c, x.cps[i]? = some c ∧ v = .str ⟨#[c]⟩
  | .lst a, H, i, v => ∀ xs, SqL K H a xs → xs[i]? = some v
  | .tup a, H, i, v => ∀ xs, SqT K H a xs → xs[i]? = some v
def Zk.off : Zk → Addr → Prop
  | .text _, _ => True
  | .lst a, b => a ≠ b
  | .tup a, b => a ≠ b
def Zk.fp : Zk → Addr → List Addr
  | .text _, it => [it]
  | .lst a, it => [it, a]
  | .tup a, it => [it, a]
theorem Zk.fp_mem {z : Zk} {it : Addr} : it ∈ z.fp it := by cases z <;> simp [Zk.fp]
theorem Zk.fp_not {z : Zk} {it b : Addr} (h : z.off b) (h1 : b ≠ it) : b ∉ z.fp it := by
  cases z with
  | text x => simpa [Zk.fp] using h1
  | lst a => simpa [Zk.fp] using ⟨h1, fun e => h e.symm⟩
  | tup a => simpa [Zk.fp] using ⟨h1, fun e => h e.symm⟩
theorem Zk.st_keep {z : Zk} {it : Addr} {i : Nat} {h h' : Heap} (st : z.st it i h) (k : ∀ o, h.get? it = some o → h'.get? it = some o) : z.st it i h' := by
  cases z with
  | text x => obtain ⟨t, o, ho, r⟩ := st; exact ⟨t, o, k o ho, r⟩
  | lst a => exact Heap.IsListIter.at st k
  | tup a => exact Heap.IsTupleIter.at st k
theorem Zk.st_obj {z : Zk} {it : Addr} {i : Nat} {h : Heap} (st : z.st it i h) : ∃ o, h.get? it = some o ∧ ∀ v, o.data ≠ .cell v := by
  cases z with
  | text x => obtain ⟨t, o, ho, _, d⟩ := st; exact ⟨o, ho, fun v q => by rw [d] at q; cases q⟩
  | lst a => obtain ⟨o, ho, _, d⟩ := st; exact ⟨o, ho, fun v q => by rw [d] at q; cases q⟩
  | tup a => obtain ⟨o, ho, _, d⟩ := st; exact ⟨o, ho, fun v q => by rw [d] at q; cases q⟩
theorem vals_back : ∀ {xs : List V} {us : List Value} {i : Nat} {u : Value}, Vals xs us → us[i]? = some u → ∃ x, xs[i]? = some x ∧ RelV x u
  | _, _, _, _, .nil, e => by simp at e
  | _, _, 0, _, .cons r _, e => by simp at e; subst e; exact ⟨_, rfl, r⟩
  | _, _, i + 1, u, .cons _ t, e => by
    obtain ⟨x, h, r⟩ := vals_back t (by simpa using e)
    exact ⟨x, by simpa using h, r⟩
section
variable {X : Cx} {pins : List (Addr × Obj)} {σ : L2.St} {H : Hp} {s : Shared}
theorem Zk.draws {z : Zk} {it : Addr} {n i : Nat} (I : Inv X pins σ H s) (hc : X.calm = true) (hl : z.len X.K H n) (ho : z.off it) (st : z.st it i s.heap) :
    ∃ (P : Nat → Value → Prop) (St : Nat → Heap → Prop), Draws X.prog X.w X.A.in1 it (z.fp it) n P St ∧ St i s.heap ∧ (∀ j h, St j h → z.st it j h) ∧ ∀ j u, P j u → ∃ y, z.is X.K H j y ∧ RelV y u := by
  have hh : X.A.in1.handled = none := I.ok.hd hc
  cases z with
  | text x =>
    obtain ⟨t, st⟩ := st
    obtain rfl : n = x.cps.size := hl
    exact ⟨_, _, Draws.text hh it x t, st, fun j h q => ⟨t, q⟩, fun j u ⟨c, w, h1, h2⟩ => ⟨.str ⟨#[c]⟩, ⟨c, h1, rfl⟩, w, h2⟩⟩
  | lst a =>
    obtain ⟨xs, hq, e⟩ := hl
    obtain ⟨its, rv, p, _⟩ := I.list hq
    have l1 := rv.length
    have e2 : n = its.toArray.size := by simp only [List.size_toArray]; omega
    rw [e2]
    refine ⟨_, _, Draws.list hh it a ho its.toArray, ⟨st, p.isList⟩, fun j h q => q.1, fun j u q => ?_⟩
    obtain ⟨y, hy, r⟩ := vals_back rv (i := j) (u := u) (by simpa using q)
    exact ⟨y, fun ys hys => by rw [I.list_inj hys hq]; exact hy, r⟩
  | tup a =>
    obtain ⟨xs, hq, e⟩ := hl
    obtain ⟨its, rv, p, _⟩ := I.tuple hq
    have l1 := rv.length
    have e2 : n = its.toArray.size := by simp only [List.size_toArray]; omega
    rw [e2]
    refine ⟨_, _, Draws.tuple hh it a ho its.toArray, ⟨st, p⟩, fun j h q => q.1, fun j u q => ?_⟩
    obtain ⟨y, hy, r⟩ := vals_back rv (i := j) (u := u) (by simpa using q)
    exact ⟨y, fun ys hys => by rw [I.tuple_inj hys hq]; exact hy, r⟩
end
/-- two of any kind as they stand at each turn; with strict=True both end together -/
def ItB (K : PySem.W.Frag) (b : Bool) (z1 z2 : Zk) : It :=
  ⟨fun i H => (∃ n, z1.len K H n ∧ i < n) ∧ ∃ m, z2.len K H m ∧ i < m,
    fun i H v H' => ∃ T x y, v = .ref T ∧ H T = none ∧ H' = upd H T (.tup [x, y]) ∧ z1.is K H i x ∧ z2.is K H i y,
    fun i H => ∃ n m, z1.len K H n ∧ z2.len K H m ∧ i ≤ n ∧ i ≤ m ∧ (i = n ∨ i = m) ∧ (b = true → n = m)⟩
structure Ap (z TI TO i j : Addr) : Prop where
  a1 : TI ≠ z
  a2 : TO ≠ z
  a3 : TI ≠ TO
  a4 : TI ≠ i
  a5 : TI ≠ j
  a6 : z ≠ i
  a7 : z ≠ j
  a8 : TO ≠ i
  a9 : TO ≠ j
  b1 : i ≠ j
structure Off (k : Zk) (z TO i j : Addr) : Prop where
  a1 : k.off z
  a2 : k.off TO
  a3 : k.off i
  a4 : k.off j
theorem sep {z TI TO i j : Addr} {k1 k2 : Zk} (D : Ap z TI TO i j) (D1 : Off k1 z TO i j) (D2 : Off k2 z TO i j) : ZipSep2 z TI TO i j (k1.fp i) (k2.fp j) where
  TIz := D.a1
  TOz := D.a2
  TITO := D.a3
  TIi1 := D.a4
  mem1 := Zk.fp_mem
  zf1 := Zk.fp_not D1.a1 D.a6
  Tf1 := Zk.fp_not D1.a2 D.a8
  TIi2 := D.a5
  mem2 := Zk.fp_mem
  zf2 := Zk.fp_not D2.a1 D.a7
  Tf2 := Zk.fp_not D2.a2 D.a9
  sep1_2 := Zk.fp_not D2.a3 D.b1
  sep2_1 := Zk.fp_not D1.a4 D.b1.symm
def tn (b : Bool) (k1 k2 : Zk) (z TI TO i j : Addr) (n : Nat) (h : Heap) : Prop := IsZipB b h z TI TO .none ∧ IsTupOf2 h TI (.ref i) (.ref j) ∧ (∃ x y, IsTupOf2 h TO x y) ∧ k1.st i n h ∧ k2.st j n h
theorem turnB {P : Program} {w : World} {K : PySem.W.Frag} {b : Bool} {k1 k2 : Zk} {elts : List Expr} {kk : Nat} {tpos : Pos} {z TI TO i j : Addr} (D : Ap z TI TO i j) (D1 : Off k1 z TO i j) (D2 : Off k2 z TO i j) :
    Turn P w K (.Tuple elts kk tpos) (ItB K b k1 k2) [z, TI, TO, i, j] z (tn b k1 k2 z TI TO i j) where
  mem := by simp
  obj := fun n h st d hd => by
    obtain ⟨hz, hTI, ⟨x, y, hTO⟩, h1, h2⟩ := st
    have e' : d = z ∨ d = TI ∨ d = TO ∨ d = i ∨ d = j := by simpa using hd
    rcases e' with q | q | q | q | q <;> rw [q]
    · exact ⟨_, hz, fun v q => nomatch q⟩
    · exact ⟨_, hTI, fun v q => nomatch q⟩
    · exact ⟨_, hTO, fun v q => nomatch q⟩
    · exact Zk.st_obj h1
    · exact Zk.st_obj h2
  keep := fun n h h' st kp => by
    obtain ⟨hz, hTI, ⟨x, y, hTO⟩, h1, h2⟩ := st
    exact ⟨kp z (by simp) _ hz, kp TI (by simp) _ hTI, ⟨x, y, kp TO (by simp) _ hTO⟩, Zk.st_keep h1 fun o q => kp i (by simp) o q, Zk.st_keep h2 fun o q => kp j (by simp) o q⟩
  item := by
    intro X hP hw hK hc n pins s σ H E I hf st hg
    subst hP hw hK
    obtain ⟨hz, hTI, ⟨x0, y0, hTO⟩, h1, h2⟩ := st
    obtain ⟨⟨n1, l1, lt1⟩, n2, l2, lt2⟩ := hg
    obtain ⟨P1, St1, d1, s1, b1, q1⟩ := Zk.draws I hc l1 D1.a3 h1
    obtain ⟨P2, St2, d2, s2, b2, q2⟩ := Zk.draws I hc l2 D2.a4 h2
    have zl : z < s.heap.objs.size := Heap.lt_size hz
    have fin : ∀ x1 x2 h' tk, P1 n x1 → P2 n x2 → IsZipB b h' z TI TO (rawInt s.heap.objs.size) → IsTupOf2 h' TO x1 x2 → St1 (n + 1) h' → St2 (n + 1) h' → IsTupOf2 h' s.heap.objs.size x1 x2 → h'.objs.size = s.heap.objs.size + 1 →
        (∀ c o, c ≠ z → c ≠ TO → c ≠ i → c ≠ j → s.heap.get? c = some o → h'.get? c = some o) →
        ∃ u, some (Value.ref s.heap.objs.size) = some u ∧ wpAny (model X.prog X.w) X.A (letOwnedTupleGo (.Tuple elts kk tpos) (.ref z) u) (fun _ s2 => ∃ x H', Inv X pins σ H' s2 ∧ RelV x u ∧ (ItB X.K b k1 k2).yld n H x H' ∧ tn b k1 k2 z TI TO i j (n + 1) s2.heap ∧ ∀ b ∈ [z, TI, TO, i, j], H' b = none) E { s with heap := h', toks := tk } := by
      intro u1 u2 g tk p1 p2 z' TO' m1 m2 hT hsz hk
      obtain ⟨y1, e1, r1⟩ := q1 n u1 p1
      obtain ⟨y2, e2, r2⟩ := q2 n u2 p2
      refine ⟨_, rfl, letGo_zip (s := { s with heap := g, toks := tk }) z' fun g2 z2 sb => ?_⟩
      have hT2 : g2.get? s.heap.objs.size = some { cls := .type "tuple", data := .seq #[u1, u2] } := (sb.2 _ (Nat.ne_of_gt zl)).trans hT
      have new : ObjOk X.prog X.w (upd H s.heap.objs.size (.tup [y1, y2])) g2 s.heap.objs.size (.tup [y1, y2]) :=
        ⟨by show 2 ≤ sizeLine; decide, [u1, u2], .cons r1 (.cons r2 .nil), ⟨_, hT2, rfl, _, rfl⟩⟩
      have I1 : Inv X pins σ (upd H s.heap.objs.size (.tup [y1, y2])) { s with heap := g2, toks := tk } :=
        I.turnedNew (t' := tk) (ch := [z, TI, TO, i, j]) (fun d o hb q => (sb.2 d (fun q' => hb (by simp [q']))).trans (hk d o (fun q' => hb (by simp [q'])) (fun q' => hb (by simp [q'])) (fun q' => hb (by simp [q'])) (fun q' => hb (by simp [q'])) q)) hf (Nat.le_refl _) new
      refine ⟨.ref s.heap.objs.size, _, I1, rfl, ⟨_, y1, y2, rfl, I.hok.fresh (Nat.le_refl _), rfl, e1, e2⟩, ⟨z2, ?_, ⟨u1, u2, ?_⟩, ?_, ?_⟩, fun d hdm => ?_⟩
      · exact (sb.2 _ D.a1).trans (hk _ _ D.a1 D.a3 D.a4 D.a5 hTI)
      · exact (sb.2 _ D.a2).trans TO'
      · exact Zk.st_keep (b1 _ _ m1) fun o q => (sb.2 _ D.a6.symm).trans q
      · exact Zk.st_keep (b2 _ _ m2) fun o q => (sb.2 _ D.a7.symm).trans q
      · have hlt : d < s.heap.objs.size := by
          have e' : d = z ∨ d = TI ∨ d = TO ∨ d = i ∨ d = j := by simpa using hdm
          rcases e' with q | q | q | q | q <;> rw [q]
          · exact zl
          · exact Heap.lt_size hTI
          · exact Heap.lt_size hTO
          · obtain ⟨_, e1, _⟩ := Zk.st_obj h1; exact Heap.lt_size e1
          · obtain ⟨_, e1, _⟩ := Zk.st_obj h2; exact Heap.lt_size e1
        rw [upd_ne (Nat.ne_of_lt hlt)]
        exact (hf d hdm).1
    cases b with
    | false => exact wpAny_pyNext_zipD2_item (sep D D1 D2) d1 d2 hz hTI hTO s1 s2 lt1 lt2 fin
    | true => exact pyNext_item (sep D D1 D2) d1 d2 hz hTI hTO s1 s2 lt1 lt2 fin
  done := by
    intro X hP hw hK hc n pins s σ H E I hf st hg
    subst hP hw hK
    obtain ⟨hz, hTI, ⟨x0, y0, hTO⟩, h1, h2⟩ := st
    obtain ⟨n1, n2, l1, l2, le1, le2, he, hb⟩ := hg
    obtain ⟨P1, St1, d1, s1, b1, q1⟩ := Zk.draws I hc l1 D1.a3 h1
    obtain ⟨P2, St2, d2, s2, b2, q2⟩ := Zk.draws I hc l2 D2.a4 h2
    cases b with
    | false =>
      exact wpAny_pyNext_zipD2_end (sep D D1 D2) d1 d2 hz hTI hTO s1 s2 le1 le2 he fun g tk hk => ⟨rfl, I.turnedL (t' := tk) (ch := [z, TI, TO, i, j]) (fun d o hb q =>
        hk d o (fun q' => hb (by simp [q'])) (fun q' => hb (by simp [q'])) (fun q' => hb (by simp [q'])) (fun q' => hb (by simp [q'])) q) hf⟩
    | true =>
      obtain rfl := hb rfl
      obtain rfl : n = n1 := by omega
      exact pyNext_end (I.ok.hd hc) (sep D D1 D2) d1 d2 hz hTI hTO s1 s2 fun g hk => ⟨rfl, I.turnedL (t' := s.toks) (ch := [z, TI, TO, i, j]) (fun d o hb q =>
        hk d o (fun q' => hb (by simp [q'])) (fun q' => hb (by simp [q'])) (fun q' => hb (by simp [q'])) (fun q' => hb (by simp [q'])) q) hf⟩
  self := fun A n s Q E st h => pyIter_zip st.1 h
theorem ap_new (I : Nat) : Ap (I + 4) (I + 2) (I + 3) I (I + 1) := by constructor <;> (show (_ : Nat) ≠ _; omega)
def Zk.obj : Zk → Tok → Obj
  | .text x, t => { cls := .type (strIterType x), data := .fields #[.str x t, .int 0 0] }
  | .lst a, _ => { cls := .type "list_iterator", data := .fields #[.ref a, .int 0 0] }
  | .tup a, _ => { cls := .type "tuple_iterator", data := .fields #[.ref a, .int 0 0] }
theorem Zk.st_new {z : Zk} {t : Tok} {it : Addr} {h : Heap} (e : h.get? it = some (z.obj t)) : z.st it 0 h := by
  cases z with
  | text x => exact ⟨t, _, e, rfl, rfl⟩
  | lst a => exact ⟨_, e, rfl, rfl⟩
  | tup a => exact ⟨_, e, rfl, rfl⟩
theorem Zk.beg {X : Cx} {pins : List (Addr × Obj)} {σ : L2.St} {H : Hp} {s : Shared} {z : Zk} {u : Value} {n : Nat} (I : Inv X pins σ H s) (r : RelV z.v u) (hl : z.len X.K H n) :
    ∃ (t : Tok) (G : Heap → Prop), Begins u (z.obj t) G ∧ G s.heap ∧ ∀ b, s.heap.objs.size ≤ b → z.off b := by
  cases z with
  | text x =>
    obtain ⟨t, rfl⟩ := r
    exact ⟨t, _, begins_text x t, trivial, fun b _ => trivial⟩
  | lst a =>
    obtain ⟨xs, hq, e⟩ := hl
    obtain ⟨its, rv, p, _⟩ := I.list hq
    cases r
    exact ⟨0, _, begins_list a its.toArray, p.isList, fun b hb => Nat.ne_of_lt (Nat.lt_of_lt_of_le p.lt hb)⟩
  | tup a =>
    obtain ⟨xs, hq, e⟩ := hl
    obtain ⟨its, rv, p, _⟩ := I.tuple hq
    cases r
    obtain ⟨o1, ho1, _⟩ := id p
    exact ⟨0, _, begins_tuple a its.toArray, p, fun b hb => Nat.ne_of_lt (Nat.lt_of_lt_of_le (Heap.lt_size ho1) hb)⟩
theorem off_new {k : Zk} {n : Nat} (h : ∀ b, n ≤ b → k.off b) : Off k (n + 4) (n + 3) n (n + 1) := ⟨h _ (Nat.le_add_right _ _), h _ (Nat.le_add_right _ _), h _ (Nat.le_refl _), h _ (Nat.le_add_right _ _)⟩
theorem callWith_typeKw {M : Model} {A : Around} {E : Value → Shared → Prop} {s : Shared} {pos : Pos} {T : String} {first : List Value} {args : List (Bool × Sem Value)} {keywords : List (Option Str × Sem Value)} {Q : Value → Shared → Prop}
    (hplain : args.any (·.1) = false) (hkw : keywords.any (·.1.isNone) = false)
    (h : wpAny M A (evalArgs (.type T) true args keywords) (fun a s₁ => wpAny M A (call (.type T) (first ++ a.pos) a.kw) Q E s₁) E s) :
    wpAny M A (callWith pos (.type T) first args keywords) Q E s := by
  unfold callWith
  refine wpAny_bind (wpAny_holding (wpAny_mono h (fun a s₁ h₁ => wpAny_bind (wpAny_standAt ?_)) fun _ _ x => x))
  simp only [hplain, hkw, Bool.or_false]
  refine wpAny_bind (wpAny_pure ?_)
  exact wpAny_bind (wpAny_mono h₁ (fun r s₂ hr => wpAny_bind (wpAny_holding (wpAny_point (wpAny_pure hr)))) fun _ _ x => x)
def iB (K : PySem.W.Frag) (b : Bool) (ta : TA) : TI := fun σ H R => ta σ H fun vs H1 => ∃ z1 z2 n m, vs = [Zk.v z1, Zk.v z2] ∧ z1.len K H1 n ∧ z2.len K H1 m ∧ R (ItB K b z1 z2) H1
/-- the ends of what is asked with strict=True -/
def tStrict (ta tk : TA) : TA := fun σ H Q => ta σ H fun vs H1 => tk σ H1 fun zs H2 => zs = [V.bl true] ∧ Q vs H2
section
variable {X : Cx} {pins : List (Addr × Obj)} {σ : L2.St} {H : Hp} {s : Shared} {e e2 : Expr} {ta tk : TA} {p pos tpos : Pos} {elts : List Expr} {kk : Nat}
theorem fin (b : Bool) {R : It → Hp → Prop} {us : List Value} {z1 z2 : Zk} {n m : Nat} (I1 : Inv X pins σ H s) (r1 : Vals [z1.v, z2.v] us) (l1 : z1.len X.K H n) (l2 : z2.len X.K H m) (q : R (ItB X.K b z1 z2) H) :
    wpAny (model X.prog X.w) X.A (call (.type "zip") us (match b with | true => [(Str.ofString "strict", .bool true)] | false => [])) (fun v s1 => wpAny (model X.prog X.w) X.A (pyIter v) (PIE X pins σ (.Tuple elts kk tpos) R) X.xe s1) X.xe s := by
  cases r1 with
  | cons r rr => cases rr with
    | cons r' rr =>
      cases rr
      obtain ⟨t1, G1, B1, g1, o1⟩ := Zk.beg I1 r l1
      obtain ⟨t2, G2, B2, g2, o2⟩ := Zk.beg I1 r' l2
      have go : ∀ g, IsZipB b g (s.heap.objs.size + 4) (s.heap.objs.size + 2) (s.heap.objs.size + 3) .none → IsTupOf2 g (s.heap.objs.size + 2) (.ref s.heap.objs.size) (.ref (s.heap.objs.size + 1)) →
          IsTupOf2 g (s.heap.objs.size + 3) .none .none → g.get? s.heap.objs.size = some (z1.obj t1) → g.get? (s.heap.objs.size + 1) = some (z2.obj t2) → g.objs.size = s.heap.objs.size + 5 →
          (∀ c o, s.heap.get? c = some o → g.get? c = some o) → wpAny (model X.prog X.w) X.A (pyIter (.ref (s.heap.objs.size + 4))) (PIE X pins σ (.Tuple elts kk tpos) R) X.xe { s with heap := g } := by
        intro g hz hTI hTO h1 h2 hsz hk
        refine pyIter_zip hz ?_
        have I2 : Inv X pins σ H { s with heap := g } := I1.kept (t' := s.toks) hk
        refine ⟨s.heap.objs.size + 4, [s.heap.objs.size + 4, s.heap.objs.size + 2, s.heap.objs.size + 3, s.heap.objs.size, s.heap.objs.size + 1], _, _, H, rfl, I2, turnB (ap_new _) (off_new o1) (off_new o2), ⟨hz, hTI, ⟨_, _, hTO⟩, Zk.st_new h1, Zk.st_new h2⟩, fun d hdm => ?_, q⟩
        have e' : d = s.heap.objs.size + 4 ∨ d = s.heap.objs.size + 2 ∨ d = s.heap.objs.size + 3 ∨ d = s.heap.objs.size ∨ d = s.heap.objs.size + 1 := by simpa using hdm
        have hle : s.heap.objs.size ≤ d := by
          rcases e' with z | z | z | z | z <;> rw [z] <;> first | exact Nat.le_add_right _ _ | exact Nat.le_refl _
        exact I1.fpOk hle (I1.hok.fresh hle)
      cases b with
      | false => exact zip_begins2 B1 B2 g1 g2 go
      | true => exact begins B1 B2 g1 g2 go
theorem pi_B (hg : Gl X "zip") (hm : X.mg "zip" = none) (ha : PA X [e, e2] ta)
    (hs : starEach [e, e2] X.env = (false, eval e X.env) :: starEach [e2] X.env := by rfl) (hpl : (backTo pos (starEach [e2] X.env)).any (·.1) = false := by rfl) :
    PI X (.Tuple elts kk tpos) (.Call (.Name "zip" p) [e, e2] [] pos) (iB X.K false ta) := by
  refine ⟨fun pins s σ H R I h => ?_⟩
  refine Call_ (ld_blt I hg hm PyProof.Rows.boot_zip (PyProof.Rows.callWith_type1 (thn (ha.run pos pins s σ H _ I h) fun us s1 ⟨vs, H1, I1, r1, z1, z2, n, m, ex, l1, l2, q⟩ => ?_) hs hpl))
  subst ex
  exact fin false I1 r1 l1 l2 q
theorem pi_S {kws : List Keyword} (hg : Gl X "zip") (hm : X.mg "zip" = none) (ha : PA X [e, e2] ta) (hkw : PK X kws tk) (hall : (backToKw pos (keywordEach kws X.env)).all (·.1.isSome) = true := by rfl)
    (hks : (backToKw pos (keywordEach kws X.env)).filterMap (·.1) = [Str.ofString "strict"] := by rfl) (hkn : (backToKw pos (keywordEach kws X.env)).any (·.1.isNone) = false := by rfl)
    (hs : backTo pos (starEach [e, e2] X.env) = (false, eval e X.env) :: backTo pos (starEach [e2] X.env) := by rfl) (hpl : (backTo pos (starEach [e, e2] X.env)).any (·.1) = false := by rfl) :
    PI X (.Tuple elts kk tpos) (.Call (.Name "zip" p) [e, e2] kws pos) (iB X.K true (tStrict ta tk)) := by
  refine ⟨fun pins s σ H R I h => ?_⟩
  refine wpAny_Call_Name_kw (ld_blt I hg hm PyProof.Rows.boot_zip (callWith_typeKw hpl hkn ?_))
  have h0 := ha.run pos pins s σ H _ I h
  rw [hs] at h0 ⊢
  refine evalArgs_kwB hall (thn h0 fun us s1 ⟨vs, H1, I1, r1, q⟩ => ?_)
  refine thn (hkw.run pos pins s1 σ H1 _ I1 q) fun ws s2 ⟨zs, H2, I2, rz, ez, z1, z2, n, m, ex, l1, l2, q2⟩ => ?_
  subst ex ez
  rw [hks]
  cases rz with
  | cons r rr =>
    cases rr
    cases r
    exact fin true I2 r1 l1 l2 q2
end
end ZS

set_option Elab.async false
set_option linter.all false
set_option maxRecDepth 100000
namespace G
open PySem PySem.Spec PyProof.Rows L2
/-! ### zip over texts, lists and tuples; with strict=True -/
def zseq : D → Option (List D)
  | .str s => some (chars s)
  | .lst l => some l
  | .tup l => some l
  | _ => none
def aiZipB (b : Bool) (as : Aa) : Ai := fun E M Q => as E M fun xs M1 => match xs with
  | [.d x, .d y] => match zseq x, zseq y with
    | some l, some m => match b with
      | true => Side (l.length = m.length) (Q (zipD l m) M1)
      | false => Q (zipD l m) M1
    | _, _ => False
  | _ => False
def aStrict (as ak : Aa) : Aa := fun E M Q => as E M fun xs M1 => ak E M1 fun ys M2 => match ys with
  | [.d (.bl true)] => Q xs M2
  | _ => False
theorem zipD_min : ∀ xs ys : List D, (zipD xs ys).length = min xs.length ys.length
  | [], ys => by simp [zipD]
  | x :: xs, [] => by simp [zipD]
  | x :: xs, y :: ys => by
    unfold zipD
    rw [List.length_cons, List.length_cons, List.length_cons, zipD_min xs ys]
    omega
section
variable {K : PySem.W.Frag} {W : Wd} {I : Hp}
theorem zrep {d : D} {v : V} {l : List D} (r : Rep K I d v) (e : zseq d = some l) : ∃ z : ZS.Zk, v = z.v ∧ (∀ J, Same I J → z.len K J l.length) ∧ ∀ J, Same I J → ∀ (i : Nat) x, l[i]? = some x → ∀ y, z.is K J i y → Rep K I x y := by
  cases d with
  | str s =>
    cases r with
    | str =>
      cases e
      refine ⟨.text s, rfl, fun J _ => by show (chars s).length = s.cps.size; unfold chars; simp, fun J _ i x hx y hy => ?_⟩
      obtain ⟨c, h1, rfl⟩ := hy
      unfold chars at hx
      rw [List.getElem?_map] at hx
      have e2 : s.cps.toList[i]? = some c := by rw [Array.getElem?_toList]; exact h1
      rw [e2] at hx
      cases hx
      exact .str _
  | lst l2 =>
    cases r with
    | lst hp rs =>
      cases e
      refine ⟨.lst _, rfl, fun J s => ⟨_, SqL.of (s _ _ hp), rs.length⟩, fun J s i x hx y hy => ?_⟩
      obtain ⟨v, hv, rv⟩ := rs.get hx
      have e3 := hy _ (SqL.of (s _ _ hp))
      rw [hv] at e3
      cases e3
      exact rv
  | tup l2 =>
    cases r with
    | tup hp rs =>
      cases e
      refine ⟨.tup _, rfl, fun J s => ⟨_, same_t s hp, rs.length⟩, fun J s i x hx y hy => ?_⟩
      obtain ⟨v, hv, rv⟩ := rs.get hx
      have e3 := hy _ (same_t s hp)
      rw [hv] at e3
      cases e3
      exact rv
  | _ => cases e
theorem its_zipB {b : Bool} {z1 z2 : ZS.Zk} {l m : List D} (l1 : ∀ J, Same I J → z1.len K J l.length) (l2 : ∀ J, Same I J → z2.len K J m.length)
    (q1 : ∀ J, Same I J → ∀ (i : Nat) x, l[i]? = some x → ∀ y, z1.is K J i y → Rep K I x y) (q2 : ∀ J, Same I J → ∀ (i : Nat) x, m[i]? = some x → ∀ y, z2.is K J i y → Rep K I x y) (hb : b = true → l.length = m.length) : ItS K I (ZS.ItB K b z1 z2) (zipD l m) where
  stop := fun I2 H2 s1 s2 => ⟨_, _, l1 _ (s1.trans s2), l2 _ (s1.trans s2), by rw [zipD_min]; omega, by rw [zipD_min]; omega, by rw [zipD_min]; omega, hb⟩
  go := fun I2 H2 i d s1 s2 hd => by
    obtain ⟨x0, y0, hx, hy, rfl⟩ := zipD_get hd
    refine ⟨⟨⟨_, l1 _ (s1.trans s2), (List.getElem?_eq_some_iff.mp hx).1⟩, _, l2 _ (s1.trans s2), (List.getElem?_eq_some_iff.mp hy).1⟩, fun x H3 y => ?_⟩
    obtain ⟨T, v, u, rfl, hT, rfl, h1, h2⟩ := y
    have rv := q1 _ (s1.trans s2) i _ hx v h1
    have ru := q2 _ (s1.trans s2) i _ hy u h2
    exact .inr ⟨T, _, hT, rfl, .tup (SqT.of upd_same) (.cons ((rv.mono s1).mono (same_new (Same.free s2 hT))) (.cons ((ru.mono s1).mono (same_new (Same.free s2 hT))) .nil))⟩
theorem si_zipB {b : Bool} {t : TA} {as : Aa} (h : SA K W t as) : SI K W (ZS.iB K b t) (aiZipB b as) := by
  intro b0 M E σ QA R t0 ok sl h1 k
  refine h b0 M E σ _ _ t0 ok sl h1 fun b1 M1 xs vs t1 ok1 s1 r1 h2 => ?_
  split at h2
  · obtain ⟨v, u, rfl, r, r'⟩ := repAs_2 r1
    split at h2
    · rename_i e1 e2
      obtain ⟨z1, rfl, a1, a2⟩ := zrep (repA_d r) e1
      obtain ⟨z2, rfl, c1, c2⟩ := zrep (repA_d r') e2
      cases b with
      | true => exact ⟨z1, z2, _, _, rfl, a1 _ ok1.ih, c1 _ ok1.ih, k b1 M1 _ _ t1 ok1 s1 (its_zipB a1 c1 a2 c2 fun _ => h2.1) h2.2⟩
      | false => exact ⟨z1, z2, _, _, rfl, a1 _ ok1.ih, c1 _ ok1.ih, k b1 M1 _ _ t1 ok1 s1 (its_zipB a1 c1 a2 c2 fun q => by cases q) h2⟩
    · exact h2.elim
  · exact h2.elim
theorem sa_strict {t tk : TA} {as ak : Aa} (h : SA K W t as) (g : SA K W tk ak) : SA K W (ZS.tStrict t tk) (aStrict as ak) := by
  intro b0 M E σ QA R t0 ok sl h1 k
  refine h b0 M E σ _ _ t0 ok sl h1 fun b1 M1 xs vs t1 ok1 s1 r1 h2 => ?_
  refine g b1 M1 E σ _ _ t1 ok1 (sl.mono s1.same s1.pre) h2 fun b2 M2 ys us t2 ok2 s2 r2 h3 => ?_
  split at h3
  · obtain ⟨v, rfl, r⟩ := repAs_1 r2
    cases repA_d r with
    | bl => exact ⟨rfl, k b2 M2 _ _ t2 ok2 (s1.trans s2) (r1.mono s2.same s2.pre) h3⟩
  · exact h3.elim
end
section
variable {X : Cx} {W : Wd} {K : PySem.W.Frag} {pos p tpos : Pos} {e e2 : Expr} {ts tk : TA} {as ak : Aa}
theorem k_zipB {elts : List Expr} {kk : Nat} (hm : X.mg "zip" = none) (ha : AA X W [e, e2] ts as) (hg : Gl X "zip" := by rfl)
    (hs : starEach [e, e2] X.env = (false, eval e X.env) :: starEach [e2] X.env := by rfl) (hpl : (backTo pos (starEach [e2] X.env)).any (·.1) = false := by rfl) (hK : X.K = K := by rfl) :
    AI X W (.Tuple elts kk tpos) (.Call (.Name "zip" p) [e, e2] [] pos) (ZS.iB K false ts) (aiZipB false as) := by subst hK; exact ⟨ZS.pi_B hg hm ha.pa hs hpl, si_zipB ha.sa⟩
theorem k_zipS {elts : List Expr} {kk : Nat} {kws : List Keyword} (hm : X.mg "zip" = none) (ha : AA X W [e, e2] ts as) (hkw : AK X W kws tk ak) (hg : Gl X "zip" := by rfl)
    (hall : (backToKw pos (keywordEach kws X.env)).all (·.1.isSome) = true := by rfl)
    (hks : (backToKw pos (keywordEach kws X.env)).filterMap (·.1) = [Str.ofString "strict"] := by rfl) (hkn : (backToKw pos (keywordEach kws X.env)).any (·.1.isNone) = false := by rfl)
    (hs : backTo pos (starEach [e, e2] X.env) = (false, eval e X.env) :: backTo pos (starEach [e2] X.env) := by rfl) (hpl : (backTo pos (starEach [e, e2] X.env)).any (·.1) = false := by rfl) (hK : X.K = K := by rfl) :
    AI X W (.Tuple elts kk tpos) (.Call (.Name "zip" p) [e, e2] kws pos) (ZS.iB K true (ZS.tStrict ts tk)) (aiZipB true (aStrict as ak)) := by subst hK; exact ⟨ZS.pi_S hg hm ha.pa hkw.pk hall hks hkn hs hpl, si_zipB (sa_strict ha.sa hkw.sa)⟩
end
end G

set_option Elab.async false
set_option linter.all false
set_option maxRecDepth 100000
namespace G
open PySem PySem.Spec PyProof.Rows L2
open SX (S)
/-! ### texts by their letters -/
abbrev tS (l : List Nat) : Str := ⟨l.toArray⟩
def lt (c : Nat) : D := .str (S [c])
theorem chars_S (l : List Nat) : chars (S l) = l.map lt := rfl
theorem join_lt (l : List Nat) : Txt.join (S []) (l.map fun c => S [c]) = S l := by
  rw [show (l.map fun c => S [c]) = (l.map fun c => [c]).map S by rw [List.map_map]; rfl, SX.join_S]
  congr 1
  induction l with
  | nil => rfl
  | cons c l ih => cases l with
    | nil => rfl
    | cons d l => exact congrArg (c :: ·) ih
theorem strs_lt (l : List Nat) : strsOf (l.map lt) = some (l.map fun c => S [c]) := by
  have := strsOf_map (l.map fun c => S [c])
  rw [List.map_map] at this
  exact this
theorem sum_lt : ∀ l : List Nat, ((l.map fun c => S [c]).map (·.length)).sum + (l.map fun c => S [c]).length * (S []).length = l.length
  | [] => rfl
  | c :: l => by
    have ih := sum_lt l
    have e : (S []).length = 0 := rfl
    rw [e, Nat.mul_zero, Nat.add_zero] at ih ⊢
    rw [List.map_cons, List.map_cons, List.sum_cons, ih, List.length_cons]
    show 1 + l.length = l.length + 1
    omega
/-- a list of letters by what is known of each -/
theorem lts_of {P : Nat → Nat → Prop} : ∀ (acc : List D) (k : Nat), (∀ i y, acc[i]? = some y → ∃ c, y = lt c ∧ P (k + i) c) → ∃ l : List Nat, acc = l.map lt ∧ ∀ i c, l[i]? = some c → P (k + i) c
  | [], _, _ => ⟨[], rfl, fun i c h => by simp at h⟩
  | y :: acc, k, h => by
    obtain ⟨c, rfl, hc⟩ := h 0 y rfl
    obtain ⟨l, rfl, hl⟩ := lts_of (P := P) acc (k + 1) fun i z hz => by
      obtain ⟨d, e, hd⟩ := h (i + 1) z (by rw [List.getElem?_cons_succ]; exact hz)
      exact ⟨d, e, by rw [show k + 1 + i = k + (i + 1) by omega]; exact hd⟩
    refine ⟨c :: l, rfl, fun i d hd => ?_⟩
    cases i with
    | zero => cases hd; exact hc
    | succ i => rw [show k + (i + 1) = k + 1 + i by omega]; exact hl i d (by simpa using hd)
theorem zipD_lt : ∀ a b : List Nat, zipD (a.map lt) (b.map lt) = (a.zip b).map fun p => D.tup [lt p.1, lt p.2]
  | [], _ => rfl
  | _ :: _, [] => rfl
  | x :: a, y :: b => by
    rw [List.map_cons, List.map_cons, List.zip_cons_cons, List.map_cons]
    unfold zipD
    rw [zipD_lt a b]
theorem beq_lt (x c : Nat) : (tS [x] == tS [c]) = decide (x = c) := by
  have := SX.S_beq_eq (a := [x]) (b := [c])
  refine Eq.trans this ?_
  by_cases h : x = c
  · rw [decide_eq_true h, decide_eq_true (by rw [h])]
  · rw [decide_eq_false h, decide_eq_false (by intro e; injection e with e1; exact h e1)]
theorem lt_eq {x c : Nat} : tS [x] = tS [c] ↔ x = c := ⟨fun h => by injection SX.S_inj h, fun h => by rw [h]⟩
theorem deq_lt (x c : Nat) : decide (tS [x] = tS [c]) = decide (x = c) := decide_eq_decide.mpr lt_eq
theorem in_lt (c : Nat) : ∀ l : List Nat, inV (V.str (tS [c])) (l.map fun x => V.str (tS [x])) = l.any fun x => decide (x = c)
  | [] => rfl
  | x :: l => by
    have ih := in_lt c l
    unfold inV at ih ⊢
    rw [List.map_cons, List.any_cons, List.any_cons, ih]
    show ((tS [x] == tS [c]) || _) = _
    rw [beq_lt]
/-! t += another text -/
def aAddT : A2 := fun x y M Q => match x, y with
  | .d (.str a), .d (.str b) => Side (a.length + b.length ≤ sizeLine) (Q (.d (.str (a ++ b))) M)
  | _, _ => False
abbrev rAddT : R2 := fun x y H Q => ∃ i j, x = .str i ∧ y = .str j ∧ i.length + j.length ≤ sizeLine ∧ Q (.str (i ++ j)) H
theorem s2_addT {K : PySem.W.Frag} {W : Wd} : S2 K W rAddT aAddT := by
  intro b M x y v u QA Q t ok r1 r2 h k
  unfold aAddT at h
  split at h
  · cases rep_str_inv (repA_d r1); cases rep_str_inv (repA_d r2)
    exact ⟨_, _, rfl, rfl, h.1, k b M _ _ t ok (Step.refl _) (.d (.str _)) h.2⟩
  · exact h.elim
theorem io_addT {X : Cx} {W : Wd} : AO X W (inplaceOp .Add) rAddT aAddT := ⟨iop_add_str, s2_addT⟩
section
variable {g : Ag} {tt : At} {a : Ae} {E : Env} {M : Mem} {Q : List D → Mem → Prop} {α : Type} {mk : α → D}
theorem lc_off (F : α → D) (p : α → Bool) (xs : List α) (hl : xs.length ≤ 1000000) (turn : ∀ x, x ∈ xs → ∀ R S, (p x = true → R (.d (F x)) M) → (p x = false → S M) → LcT g tt a E (mk x) M R S) (fin : Q ((xs.filter p).map F) M) : LcS (xs.map mk) g tt a E M Q := by
  refine ⟨⟨fun i acc M' => M' = M ∧ i ≤ xs.length ∧ acc = ((xs.take i).filter p).map F, ⟨rfl, Nat.zero_le _, by simp⟩, fun i d acc M' hd hp => ?_, fun acc M' hp => ?_⟩⟩
  · obtain ⟨rfl, hi, rfl⟩ := hp
    rw [List.getElem?_map] at hd
    cases e : xs[i]? with
    | none => rw [e] at hd; cases hd
    | some x =>
      rw [e] at hd
      cases hd
      have hi2 : i < xs.length := (List.getElem?_eq_some_iff.mp e).1
      have e2 : xs.take (i + 1) = xs.take i ++ [x] := by
        rw [List.take_succ, e]; rfl
      refine turn x (List.mem_of_getElem? e) _ _ (fun hp => ⟨?_, rfl, hi2, ?_⟩) (fun hp => ⟨rfl, hi2, ?_⟩)
      · rw [List.length_map, sizeLine_eq]
        have h1 := List.length_filter_le p (xs.take i)
        rw [List.length_take] at h1
        omega
      · rw [e2, List.filter_append, List.map_append]; simp [hp]
      · rw [e2, List.filter_append, List.map_append]; simp [hp]
  · obtain ⟨rfl, _, rfl⟩ := hp
    rw [List.length_map, List.take_length]; exact fin
theorem lc_eq {items items2 : List D} (e : items = items2) (h : LcS items2 g tt a E M Q) : LcS items g tt a E M Q := e ▸ h
theorem lc_of (F : α → D) (xs : List α) (hl : xs.length ≤ 1000000) (turn : ∀ x, x ∈ xs → ∀ R S, R (.d (F x)) M → LcT g tt a E (mk x) M R S) (fin : Q (xs.map F) M) : LcS (xs.map mk) g tt a E M Q :=
  lc_off F (fun _ => true) xs hl (fun x hx R S h _ => turn x hx R S (h rfl)) (by rw [List.filter_eq_self.mpr fun _ _ => rfl]; exact fin)
end
end G

set_option Elab.async false
set_option linter.all false
set_option maxRecDepth 100000
namespace ZS
open PySem PySem.Spec PyProof.Rows L2
/-! ### enumerate of a text -/
def ItES (x : Str) : It :=
  ⟨fun i _ => i < x.cps.size, fun i H v H' => ∃ T c, v = .ref T ∧ H T = none ∧ H' = upd H T (.tup [.int (i : Nat), .str ⟨#[c]⟩]) ∧ x.cps[i]? = some c, fun i _ => i = x.cps.size⟩
theorem turn_enumS {P : Program} {w : World} {K : PySem.W.Frag} {elts : List Expr} {kk : Nat} {tpos : Pos} (x : Str) (e it : Addr) :
    Turn P w K (.Tuple elts kk tpos) (ItES x) [e, it] e (fun i h => (∃ old, IsEnum h e it ((i : Nat) : Int) old) ∧ (∃ t, h.IsStrIter it (strIterType x) x t i) ∧ e ≠ it) where
  mem := by simp
  obj := fun i h st b hb => by
    obtain ⟨⟨old, he⟩, ⟨t, o, ho, hc, hd⟩, _⟩ := st
    have e' : b = e ∨ b = it := by simpa using hb
    rcases e' with z | z
    · rw [z]; exact ⟨_, he, fun v q => nomatch q⟩
    · rw [z]; exact ⟨o, ho, fun v q => by rw [hd] at q; cases q⟩
  keep := fun i h h' st k => by
    obtain ⟨⟨old, he⟩, ⟨t, o, ho, hd⟩, hne⟩ := st
    exact ⟨⟨old, k e (by simp) _ he⟩, ⟨t, o, k it (by simp) o ho, hd⟩, hne⟩
  item := by
    intro X hP hw hK hc i pins s σ H E I hf st hg
    subst hP hw hK
    obtain ⟨⟨old, he⟩, ⟨t, hit⟩, hne⟩ := st
    have hel : e < s.heap.objs.size := Heap.lt_size he
    have hil : it < s.heap.objs.size := by obtain ⟨_, q, _⟩ := hit; exact Heap.lt_size q
    have D : Draws X.prog X.w X.A.in1 it [it] x.cps.size _ _ := Draws.text (show X.A.in1.handled = none from I.ok.hd hc) it x t
    refine wpAny_pyNext_enum_itemD D he hit hg hne (by simpa using hne) fun u h' tk hu ho hit' hT hsz hk => ?_
    obtain ⟨c, t2, hcx, rfl⟩ := hu
    refine ⟨_, rfl, wpAny_letOwnedTupleGo_enum (s := { s with heap := h', toks := tk + 1 }) ho fun h'' he' sb => ?_⟩
    have hT2 : h''.get? s.heap.objs.size = some { cls := .type "tuple", data := .seq #[.int i tk, .str ⟨#[c]⟩ t2] } := (sb.2 _ (Nat.ne_of_gt hel)).trans hT
    have new : ObjOk X.prog X.w (upd H s.heap.objs.size (.tup [.int (i : Nat), .str ⟨#[c]⟩])) h'' s.heap.objs.size (.tup [.int (i : Nat), .str ⟨#[c]⟩]) :=
      ⟨by show 2 ≤ sizeLine; decide, [.int i tk, .str ⟨#[c]⟩ t2], .cons ⟨_, rfl⟩ (.cons ⟨_, rfl⟩ .nil), ⟨_, hT2, rfl, _, rfl⟩⟩
    have I1 : Inv X pins σ (upd H s.heap.objs.size (.tup [.int (i : Nat), .str ⟨#[c]⟩])) { s with heap := h'', toks := tk + 1 } :=
      I.turnedNew (ch := [e, it]) (fun b ob hb q => (sb.2 b (fun z => hb (by simp [z]))).trans (hk b ob (fun z => hb (by simp [z])) (fun z => hb (by simp [z])) q)) hf (Nat.le_refl _) new
    obtain ⟨oi, ei, ri⟩ := id hit'
    refine ⟨.ref s.heap.objs.size, _, I1, rfl, ⟨_, c, rfl, I.hok.fresh (Nat.le_refl _), rfl, hcx⟩, ⟨⟨.str ⟨#[c]⟩ t2, ?_⟩, ⟨t, oi, (sb.2 it (Ne.symm hne)).trans ei, ri⟩, hne⟩, fun b hb => ?_⟩
    · have e1 : ((i + 1 : Nat) : Int) = (i : Int) + 1 := by omega
      rw [e1]; exact he'
    · have hb' : b < s.heap.objs.size := by
        have e' : b = e ∨ b = it := by simpa using hb
        rcases e' with z | z
        · rw [z]; exact hel
        · rw [z]; exact hil
      rw [upd_ne (Nat.ne_of_lt hb')]
      exact (hf b hb).1
  done := by
    intro X hP hw hK hc i pins s σ H E I hf st hg
    subst hP hw hK
    obtain ⟨⟨old, he⟩, ⟨t, hit⟩, hne⟩ := st
    obtain rfl : i = x.cps.size := hg
    obtain ⟨f0, f1, f2, f3, f4, f5⟩ := hf it (by simp)
    have D : Draws X.prog X.w X.A.in1 it [it] x.cps.size _ _ := Draws.text (show X.A.in1.handled = none from I.ok.hd hc) it x t
    exact wpAny_pyNext_enum_endD D he hit fun h' eb => ⟨rfl, I.turned (t' := s.toks) (fun b o hb q => eb b o hb q) f0 f1 f3 f4 f5⟩
  self := fun A i s Q E st h => let ⟨⟨_, he⟩, _⟩ := st; wpAny_pyIter_enum he h
def iEnumS (ta : TA) : TI := fun σ H R => ta σ H fun vs H1 => ∃ x, vs = [.str x] ∧ R (ItES x) H1
theorem pi_enumS {X : Cx} {e : Expr} {ta : TA} {p pos tpos : Pos} {elts : List Expr} {kk : Nat} (hg : Gl X "enumerate") (hm : X.mg "enumerate" = none) (ha : PA X [e] ta) (hs : starEach [e] X.env = [(false, eval e X.env)] := by rfl) :
    PI X (.Tuple elts kk tpos) (.Call (.Name "enumerate" p) [e] [] pos) (iEnumS ta) := by
  refine ⟨fun pins s σ H R I h => ?_⟩
  refine Call_ (ld_blt I hg hm boot_enumerate (PyProof.Rows.callWith_type1 (thn (ha.run pos pins s σ H _ I h) fun us s1 ⟨vs, H1, I1, r1, q1⟩ => ?_) hs rfl))
  obtain ⟨x, ex, q⟩ := q1
  subst ex
  cases r1 with
  | cons r rr =>
    cases rr
    obtain ⟨t, rfl⟩ := r
    refine call_enumerate_str fun h' he hit hsz hk => wpAny_pyIter_enum he ?_
    have I2 : Inv X pins σ H1 { s1 with heap := h' } := I1.kept (t' := s1.toks) hk
    refine ⟨s1.heap.objs.size + 1, [s1.heap.objs.size + 1, s1.heap.objs.size], _, _, H1, rfl, I2, turn_enumS x (s1.heap.objs.size + 1) s1.heap.objs.size, ⟨⟨.none, he⟩, ⟨t, hit⟩, Nat.succ_ne_self _⟩, fun b hb => ?_, q⟩
    have e' : b = s1.heap.objs.size + 1 ∨ b = s1.heap.objs.size := by simpa using hb
    have hle : s1.heap.objs.size ≤ b := by
      rcases e' with z | z
      · rw [z]; exact Nat.le_add_right _ _
      · rw [z]; exact Nat.le_refl _
    exact I1.fpOk hle (I1.hok.fresh hle)
/-! ### list.count, flat items -/
theorem count_eqU {x : V} : ∀ {xs : List V} {us : List Value}, Vals xs us → xs.all flatV = true → us.countP (eqU x) = xs.countP fun y => eqV y x
  | _, _, .nil, _ => rfl
  | y :: xs, u :: us, .cons r t, f => by
    rw [List.all_cons, Bool.and_eq_true] at f
    rw [List.countP_cons, List.countP_cons, eqU_of r f.1, count_eqU t f.2]
def rCntV (K : PySem.W.Frag) : V → List V → Hp → VK → Prop := fun x xs H Q => ∃ (p : Addr) (ys : List V) (y : V), x = .ref p ∧ xs = [y] ∧ SqL K H p ys ∧ flatV y = true ∧ ys.all flatV = true ∧ Q (.int (ys.countP fun z => eqV z y : Nat)) H
theorem mt_count {X : Cx} : MtR X "list.count" (rCntV X.K) := by
  intro pins s σ H x xs v us Q I rx rxs h
  obtain ⟨p, ys, y, rfl, rfl, hs, fy, fs, q⟩ := h
  cases rx
  obtain ⟨u, rfl, ru⟩ := rxs.one
  obtain ⟨its, rv, ⟨⟨cls, dd, data, sl⟩, n, ho, hc, hdn, hd⟩, hlen⟩ := I.list hs
  simp only at hc hd
  subst hc hd
  refine call_meets PySem.F.slot_list_count ⟨_, ho, rfl⟩ PySem.F.entry_list_count (PySem.F.args_list_count_2 _ _)
    (SeqAt.list_countAt p its.toArray n dd sl u (eqU y)) ⟨ho, fun z hz => mem_eqAt ru fy rv fs z (by simpa using hz), ?_⟩
  have ec : its.toArray.toList.countP (eqU y) = ys.countP fun z => eqV z y := count_eqU rv fs
  refine ⟨.int (ys.countP fun z => eqV z y : Nat), H, I.tok _, ⟨s.toks, ?_⟩, q⟩
  show Value.int ((its.toArray.toList.countP (eqU y) : Nat) : Int) s.toks = _
  rw [ec]
end ZS
namespace G
open PySem PySem.Spec PyProof.Rows L2
section
variable {K : PySem.W.Frag} {W : Wd}
theorem its_enumS {I : Hp} {x : Str} : ItS K I (ZS.ItES x) (enumD (chars x)) where
  stop := fun I2 H2 s1 s2 => by show (enumD (chars x)).length = x.cps.size; rw [enumD_len]; unfold chars; simp
  go := fun I2 H2 i d s1 s2 hd => by
    obtain ⟨x0, hx, rfl⟩ := enumD_get hd
    unfold chars at hx
    rw [List.getElem?_map] at hx
    cases e : x.cps.toList[i]? with
    | none => rw [e] at hx; cases hx
    | some c =>
      rw [e] at hx
      cases hx
      have e2 : x.cps[i]? = some c := by rw [← Array.getElem?_toList]; exact e
      refine ⟨by show i < x.cps.size; exact (Array.getElem?_eq_some_iff.mp e2).1, fun v H3 y => ?_⟩
      obtain ⟨T, c', rfl, hT, rfl, h1⟩ := y
      rw [e2] at h1
      cases h1
      exact .inr ⟨T, _, hT, rfl, .tup (SqT.of upd_same) (.cons (.int _) (.cons (.str _) .nil))⟩
def aiEnumS (as : Aa) : Ai := fun E M Q => as E M fun xs M1 => match xs with
  | [.d (.str x)] => Q (enumD (chars x)) M1
  | _ => False
theorem si_enumS {t : TA} {as : Aa} (h : SA K W t as) : SI K W (ZS.iEnumS t) (aiEnumS as) := by
  intro b M E σ QA R t0 ok sl h1 k
  refine h b M E σ _ _ t0 ok sl h1 fun b1 M1 xs vs t1 ok1 s1 r1 h2 => ?_
  split at h2
  · obtain ⟨v, rfl, r⟩ := repAs_1 r1
    cases repA_d r with
    | str => exact ⟨_, rfl, k b1 M1 _ _ t1 ok1 s1 its_enumS h2⟩
  · exact h2.elim
def mCount : Am := fun x xs M Q => match xs with
  | [.d y] => match listOf x M with
    | some l => Opt (flatDs l) fun vs => Opt (flatD y) fun u => Q (.d (.int (vs.countP fun z => eqV z u : Nat))) M
    | none => False
  | _ => False
theorem sm_count : SM K W (ZS.rCntV K) mCount := by
  intro b M x v xs vs QA Q t ok r rs h k
  unfold mCount at h
  split at h
  · split at h
    · rename_i l e
      obtain ⟨us, e1, u, e2, q⟩ := h
      obtain ⟨w, rfl, rw_⟩ := repAs_1 rs
      obtain ⟨rfl, fu⟩ := flat_rep e2 (repA_d rw_)
      obtain ⟨p, ws, rfl, hq, rl⟩ := listOf_ok ok r e
      obtain ⟨rfl, fl⟩ := flats_rep e1 rl
      exact ⟨p, ws, w, rfl, rfl, hq, fu, fl, k b M _ _ t ok (.refl _) (.d (.int _)) q⟩
    · exact h.elim
  · exact h.elim
/-! ### list(range(n)) -/
def aLstRg (cel : Bool) (a : Ae) : Ae := fun E M Q => a E M fun x M1 => match x with
  | .d (.int n) => Side (RgOk 0 n) (mkL cel (rngD 0 1 n.toNat) M1 Q)
  | _ => False
theorem reps_rg {I : Hp} (n : Int) : Reps K I (rngD 0 1 n.toNat) (rgV 0 n) := by
  have key : ∀ l : List Nat, Reps K I (l.map fun i : Nat => D.int (0 + (i : Int) * 1)) (l.map fun i => V.int (0 + (i : Nat))) := by
    intro l
    induction l with
    | nil => exact .nil
    | cons x l ih =>
      rw [List.map_cons, List.map_cons]
      refine .cons ?_ ih
      rw [Int.mul_one]
      exact .int _
  have := key (List.range n.toNat)
  unfold rngD rgV
  rw [show (n - 0).toNat = n.toNat by omega]
  exact this
end
section
variable {X : Cx} {W : Wd} {K : PySem.W.Frag} {pos p apos tpos : Pos} {e e2 : Expr} {ts : TA} {as : Aa} {t t2 : TE} {a a2 : Ae}
theorem k_enumS {elts : List Expr} {kk : Nat} (hm : X.mg "enumerate" = none) (ha : AA X W [e] ts as) (hg : Gl X "enumerate" := by rfl) (hs : starEach [e] X.env = [(false, eval e X.env)] := by rfl) :
    AI X W (.Tuple elts kk tpos) (.Call (.Name "enumerate" p) [e] [] pos) (ZS.iEnumS ts) (aiEnumS as) := ⟨ZS.pi_enumS hg hm ha.pa hs, si_enumS ha.sa⟩
theorem k_lrg1 (cel : Bool) {p2 pos2 : Pos} (hc : X.calm = true) (hm : X.mg "list" = none) (hm2 : X.mg "range" = none) (h : AE X W e t a) (hg : Gl X "list" := by rfl) (hg2 : Gl X "range" := by rfl)
    (na : starEach [e] X.env = (false, eval e X.env) :: starEach [] X.env := by rfl) (nb : starEach [.Call (.Name "range" p2) [e] [] pos2] X.env = (false, eval (.Call (.Name "range" p2) [e] [] pos2) X.env) :: starEach [] X.env := by rfl) :
    AE X W (.Call (.Name "list" p) [.Call (.Name "range" p2) [e] [] pos2] [] pos) (tLstRg (tRg1 t)) (aLstRg cel a) := by
  refine ⟨pe_listRg hc hg hm (prg_1 hg2 hm2 h.pe na) nb, ?_⟩
  intro b M E σ QA Q t0 ok sl h1 k
  refine h.se b M E σ _ _ t0 ok sl h1 fun b1 M1 x v t1 ok1 s1 r1 h2 => ?_
  split at h2
  · cases rep_int_inv (repA_d r1)
    refine ⟨_, rfl, h2.1, ?_⟩
    exact new_L t1 ok1 (reps_rg (K := X.K) (I := b1.I) _) h2.2 fun b2 M2 z w t2 ok2 s2 => k b2 M2 z w t2 ok2 (s1.trans s2)
  · exact h2.elim
end
end G

set_option Elab.async false
set_option linter.all false
set_option maxRecDepth 100000
namespace G
open PySem PySem.Spec PyProof.Rows L2
/-! ### a dict of the module's, texts to flat values: d[k], d.get(k, x) -/
def lkM : List (Str × D) → Str → Option D
  | [], _ => none
  | (y, d) :: r, f => match decide (f = y) with
    | true => some d
    | false => lkM r f
def KGet (K : PySem.W.Frag) (w : World) (a : Addr) (x : Str) : Option V → Prop
  | some v => KDct K w a x v
  | none => KMiss K w a x
/-- the dict has these keys and no more -/
structure MDct (K : PySem.W.Frag) (w : World) (a : Addr) (kvs : List (Str × D)) : Prop where
  has : ∀ x d, lkM kvs x = some d → KDct K w a x (vOf d)
  no : ∀ x, lkM kvs x = none → KMiss K w a x
  flat : ∀ p ∈ kvs, flatB p.2 = true
theorem MDct.get {K : PySem.W.Frag} {w : World} {a : Addr} {kvs : List (Str × D)} (h : MDct K w a kvs) (x : Str) : KGet K w a x ((lkM kvs x).map vOf) := by
  cases e : lkM kvs x with
  | none => exact h.no x e
  | some d => exact h.has x d e
theorem lk_flat : ∀ {kvs : List (Str × D)} {x : Str} {d : D}, (∀ p ∈ kvs, flatB p.2 = true) → lkM kvs x = some d → flatB d = true
  | [], _, _, _, h => by cases h
  | (y, d0) :: r, x, d, hp, h => by
    unfold lkM at h
    split at h
    · cases h; exact hp _ List.mem_cons_self
    · exact lk_flat (fun p hm => hp p (List.mem_cons_of_mem _ hm)) h
/-- the dict that stands under a name, at a key -/
def tMIx (K : PySem.W.Frag) (w : World) (a : Addr) (ty : TE) : TE := fun σ H Q => ty σ H fun y H1 => ∃ (z : Str) (v : V), y = .str z ∧ KDct K w a z v ∧ Q v H1
def tMGet (K : PySem.W.Frag) (w : World) (a : Addr) (ty tx : TE) : TE := fun σ H Q => ty σ H fun y H1 => tx σ H1 fun u H2 => ∃ (z : Str) (r : Option V), y = .str z ∧ KGet K w a z r ∧ Q (r.getD u) H2
section
variable {X : Cx} {e f : Expr} {p pos apos cpos : Pos} {ty tx : TE} {x : Str} {a : Addr}
theorem kd_type {pins : List (Addr × Obj)} {σ : L2.St} {H : Hp} {s : Shared} {z : Str} {r : Option V} (I : Inv X pins σ H s) (h : KGet X.K X.w a z r) (low : (a == sysModules) = false) :
    ∃ es n, X.K.lookup a = some ⟨.type "dict", none, .dict es n, #[]⟩ ∧ PySem.W.KeysLit X.w.params es.toList ∧ ∃ o : Option Value, PySem.W.nsIn X.K a z = some o ∧ ∀ u v, RelV u v → RelV (r.getD u) (o.getD v) := by
  cases r with
  | some v =>
    obtain ⟨es, n, u, h1, h2, h3, h4⟩ := h
    exact ⟨es, n, h1, h2, some u, h3, fun _ _ _ => h4⟩
  | none =>
    obtain ⟨es, n, h1, h2, _, h3⟩ := h
    exact ⟨es, n, h1, h2, none, h3, fun _ _ h => h⟩
theorem pe_mget (hm : X.mg x = some (.ref a)) (low : (a == sysModules) = false) (hd : ∃ es n, X.K.lookup a = some ⟨.type "dict", none, .dict es n, #[]⟩ ∧ PySem.W.KeysLit X.w.params es.toList) (he : PE X e ty) (hf : PE X f tx) (m : M2 X (.Name x p) "get" apos e f cpos) (hg : Gl X x := by rfl) (hdb : (x == ("__debug__" : Str)) = false := by decide) :
    PE X (.Call (.Attribute (.Name x p) "get" apos) [e, f] [] cpos) (tMGet X.K X.w a ty tx) := by
  refine ⟨fun pins s σ H Q I h => ?_⟩
  obtain ⟨es, n, h1, h2⟩ := hd
  refine wpAny_Call_method m.base m.few m.line PySem.F.plainAttrs_dict PySem.F.slot_dict_get PySem.F.type_dict_get (ld_glob I hg hm ?_ hdb)
  have hm0 := PySem.W.mapOf_K (prog := X.prog) (w := X.w) I.kIn h1 h2
  refine ⟨hm0.typeIs, hm0.noDict, ?_⟩
  rw [m.trees]
  refine Calls.callWith_builtin rfl (Calls.evalArgs_plain (Calls.spliced_cons (thn (he.run pins s σ H _ I h) fun iv s2 ⟨y, H2, I2, ry, q2⟩ =>
    Calls.spliced_cons (thn (hf.run pins s2 σ H2 _ I2 q2) fun fv s3 ⟨u, H3, I3, ru, z, r, ez, g, q3⟩ => Calls.spliced_nil ?_))))
  subst ez
  obtain ⟨t, rfl⟩ := (show ∃ t, iv = Value.str z t from ry)
  obtain ⟨es', n', l1, l2, o, e1, e2⟩ := kd_type I3 g low
  have hm' := PySem.W.mapOf_K (prog := X.prog) (w := X.w) I3.kIn l1 l2
  refine call_meetsIn PySem.F.slot_dict_get hm'.typeIs PySem.F.entry_dict_get (PySem.F.args_dict_get_3 _ _ _) (meets_dict_get_default (strKind X.prog X.w) a (strKind_is X.prog X.w z t) low fv) ⟨_, hm', ?_⟩
  rw [PySem.W.find_K l1 e1]
  exact ⟨r.getD u, H3, I3.tok _, e2 _ _ ru, q3⟩
end
theorem flat_rep1 {K : PySem.W.Frag} {I : Hp} {d : D} (h : flatB d = true) : Rep K I d (vOf d) := by
  cases d <;> first | exact .non | exact .bl _ | exact .int _ | exact .str _ | cases h
/-! the same by plain data -/
def aMD (a : Addr) (kvs : List (Str × D)) : A2 := fun x y M Q => match x, y with
  | .d (.vl v), .d (.str z) => Side (v = .ref a) (Opt (lkM kvs z) fun d => Q (.d d) M)
  | _, _ => False
theorem s2_md {K : PySem.W.Frag} {w : World} {W : Wd} {a : Addr} {kvs : List (Str × D)} (hM : MDct K w a kvs) : S2 K W (rIxD K w) (aMD a kvs) := by
  intro b M x y v u QA Q t ok r1 r2 h k
  unfold aMD at h
  split at h
  · obtain ⟨rfl, d, e, q⟩ := h
    cases rep_vl_inv (repA_d r1)
    cases rep_str_inv (repA_d r2)
    exact ⟨a, _, vOf d, rfl, rfl, hM.has _ _ e, k b M _ _ t ok (Step.refl _) (.d (flat_rep1 (lk_flat hM.flat e))) q⟩
  · exact h.elim
section
variable {X : Cx} {W : Wd} {K : PySem.W.Frag} {w : World} {pos p : Pos} {x : Str} {e2 : Expr} {t2 : TE} {a2 : Ae}
theorem k_mix {a : Addr} {kvs : List (Str × D)} (hm : X.mg x = some (.ref a)) (hM : MDct K w a kvs) (g : AE X W e2 t2 a2) (hs : PlainIx e2 := by intro _ _; rfl) (hg : Gl X x := by rfl) (hd : (x == ("__debug__" : Str)) = false := by decide) (hK : X.K = K := by rfl) (hw : X.w = w := by rfl) :
    AE X W (.Subscript (.Name x p) e2 pos) (tOp (rIxD K w) (tC (.ref a)) t2) (aOp (aMD a kvs) (aC (.vl (.ref a))) a2) := by subst hK hw; exact ⟨pe_ix ix_kdict (pe_glob hg hm rfl hd) g.pe hs, se_op (se_c fun _ => .vl _) g.se (s2_md hM)⟩
end
def aMIx (kvs : List (Str × D)) (a : Ae) : Ae := fun E M Q => a E M fun x M1 => match x with
  | .d (.str z) => Opt (lkM kvs z) fun d => Q (.d d) M1
  | _ => False
def aMGet (kvs : List (Str × D)) (a b : Ae) : Ae := fun E M Q => a E M fun x M1 => b E M1 fun y M2 => match x with
  | .d (.str z) => match lkM kvs z with
    | some d => Q (.d d) M2
    | none => Q y M2
  | _ => False
section
variable {X : Cx} {W : Wd} {K : PySem.W.Frag} {w : World} {e f : Expr} {p pos apos cpos : Pos} {ty tx : TE} {ae af : Ae} {x : Str} {a : Addr} {kvs : List (Str × D)}
theorem k_mget (hm : X.mg x = some (.ref a)) (low : (a == sysModules) = false) (hd : ∃ es n, K.lookup a = some ⟨.type "dict", none, .dict es n, #[]⟩ ∧ PySem.W.KeysLit w.params es.toList) (hM : MDct K w a kvs) (he : AE X W e ty ae) (hf : AE X W f tx af)
    (hg : Gl X x := by rfl) (hdb : (x == ("__debug__" : Str)) = false := by decide)
    (hbase : attributeBase (.Name x p) "get" X.env (eval (.Name x p) X.env) = eval (.Name x p) X.env := by rfl)
    (hfew : ((backTo cpos (starEach [e, f] X.env)).all (fun x => !x.1) && (backToKw cpos (keywordEach [] X.env)).all (fun x => x.1.isSome)
      && decide (([e, f] : List Expr).length + ([] : List Keyword).length + (if ([] : List Keyword).isEmpty then 0 else 1) < 30)) = true := by rfl)
    (hline : (apos.endLine == cpos.line) = true := by rfl) (htr : backTo cpos (starEach [e, f] X.env) = [(false, eval e X.env), (false, eval f X.env)] := by rfl) (hK : X.K = K := by rfl) (hw : X.w = w := by rfl) :
    AE X W (.Call (.Attribute (.Name x p) "get" apos) [e, f] [] cpos) (tMGet K w a ty tx) (aMGet kvs ae af) := by
  subst hK hw
  refine ⟨pe_mget hm low hd he.pe hf.pe ⟨hbase, hfew, hline, htr⟩ hg hdb, ?_⟩
  intro b M E σ QA Q t0 ok sl h1 k
  refine he.se b M E σ _ _ t0 ok sl h1 fun b1 M1 x1 v1 t1 ok1 s1 r1 h2 => ?_
  refine hf.se b1 M1 E σ _ _ t1 ok1 (sl.mono s1.same s1.pre) h2 fun b2 M2 x2 v2 t2 ok2 s2 r2 h3 => ?_
  split at h3
  · rename_i z
    cases rep_str_inv (repA_d r1)
    refine ⟨z, (lkM kvs z).map vOf, rfl, hM.get z, ?_⟩
    split at h3
    · rename_i d e1
      rw [e1]
      exact k b2 M2 _ _ t2 ok2 (s1.trans s2) (.d (flat_rep1 (lk_flat hM.flat e1))) h3
    · rename_i e1
      rw [e1]
      exact k b2 M2 _ _ t2 ok2 (s1.trans s2) r2 h3
  · exact h3.elim
end
end G

set_option Elab.async false
set_option linter.all false
set_option maxRecDepth 100000
namespace G
open PySem PySem.Spec PyProof.Rows L2
/-! ### what the head tells of such a dict -/
theorem lkM_mem : ∀ {kvs : List (Str × D)} {x : Str} {d : D}, lkM kvs x = some d → (x, d) ∈ kvs
  | [], _, _, h => by cases h
  | (y, d0) :: r, x, d, h => by
    unfold lkM at h
    split at h
    · rename_i e
      cases h
      rw [of_decide_eq_true e]
      exact List.mem_cons_self
    · exact List.mem_cons_of_mem _ (lkM_mem h)
theorem lkM_none : ∀ {kvs : List (Str × D)} {x : Str}, lkM kvs x = none → ∀ p ∈ kvs, p.1 ≠ x
  | [], _, _, p, hp => by cases hp
  | (y, d0) :: r, x, h, p, hp => by
    unfold lkM at h
    split at h
    · cases h
    · rename_i e
      rcases List.mem_cons.mp hp with rfl | hp
      · exact fun z => of_decide_eq_false e z.symm
      · exact lkM_none h p hp
theorem tab_eq {ts : List He.Tab} {w : World} {K : PySem.W.Frag} (c : tabsK ts K = tabsV ts w) (i : Nat) {t : He.Tab} (h : ts[i]? = some t := by rfl) : He.dicW K (t.1 K) = some (He.keysIn w.params t.2) := by
  have e2 : (tabsK ts K)[i]? = (tabsV ts w)[i]? := by rw [c]
  unfold tabsK tabsV at e2
  rw [List.getElem?_map, List.getElem?_map, h] at e2
  exact Option.some.inj e2
theorem dicW_keys {K : PySem.W.Frag} {w : World} {a : Addr} {ks : List Str} (h : He.dicW K a = some (He.keysIn w.params ks)) {es : Array DictEntry} {n : Nat} (D : KDict K w a es n) : es.toList.map He.keyOf = He.keysIn w.params ks := by
  unfold He.dicW at h
  rw [D.at_] at h
  dsimp only at h
  split at h
  · exact Option.some.inj h
  · cases h
theorem keys_of {P : Params} : ∀ {l : List DictEntry} {ks : List Str}, l.map He.keyOf = He.keysIn P ks → ∀ e ∈ l, ∃ x t, e.key = .str x t ∧ x ∈ ks
  | [], _, _, e, he => by cases he
  | e0 :: r, [], h, _, _ => by cases h
  | e0 :: r, k :: ks, h, e, he => by
    have h1 : He.keyOf e0 :: r.map He.keyOf = some (k, PyData.keyHash P k) :: He.keysIn P ks := h
    injection h1 with h2 h3
    rcases List.mem_cons.mp he with rfl | he
    · unfold He.keyOf at h2
      split at h2
      · rename_i x t q
        obtain ⟨h5, _⟩ := Prod.mk.inj (Option.some.inj h2)
        exact ⟨x, t, q, by rw [h5]; exact List.mem_cons_self⟩
      · cases h2
    · obtain ⟨x, t, q, hx⟩ := keys_of h3 e he
      exact ⟨x, t, q, List.mem_cons_of_mem _ hx⟩
theorem ns_none {K : PySem.W.Frag} {w : World} {a : Addr} {ks : List Str} {x : Str} {es : Array DictEntry} {n : Nat} (D : KDict K w a es n) (h : es.toList.map He.keyOf = He.keysIn w.params ks) (hx : x ∉ ks) : PySem.W.nsIn K a x = some none := by
  unfold PySem.W.nsIn
  rw [D.at_]
  dsimp only
  have h1 : es.toList.find? (·.key.isStr x) = none := by
    rw [List.find?_eq_none]
    intro e he
    obtain ⟨y, t, q, hy⟩ := keys_of h e he
    rw [q]
    intro z
    have z2 : (y == x) = true := z
    have : y = x := eq_of_beq z2
    exact hx (this ▸ hy)
  have h2 : es.toList.any (·.refKey) = false := by
    rw [List.any_eq_false]
    intro e he
    obtain ⟨y, t, q, hy⟩ := keys_of h e he
    unfold DictEntry.refKey
    rw [q]
    exact Bool.false_ne_true
  rw [h1, h2]
  rfl
theorem mdct_of {K : PySem.W.Frag} {w : World} {a : Addr} {kvs : List (Str × D)} {dvs : List (Str × He.Dv)} (hk : He.dicW K a = some (He.keysIn w.params (kvs.map (·.1)))) (hv : He.valsB K a dvs = true)
    (hd : (kvs.map fun p => (p.1, vOf p.2)) = dvs.map fun q => (q.1, q.2.v K)) (hf : kvs.all (fun p => flatB p.2) = true) : MDct K w a kvs := by
  obtain ⟨es, n, D⟩ := He.dicW_ok hk
  refine ⟨fun x d hx => ?_, fun x hx => ?_, fun p hp => List.all_eq_true.mp hf p hp⟩
  · have h1 : (x, vOf d) ∈ dvs.map fun q => (q.1, q.2.v K) := by rw [← hd]; exact List.mem_map.mpr ⟨_, lkM_mem hx, rfl⟩
    obtain ⟨q, hq, e⟩ := List.mem_map.mp h1
    have h2 := kd_vals hv ⟨es, n, D⟩ q hq
    obtain ⟨e1, e2⟩ := Prod.mk.inj e
    rw [e1, e2] at h2
    exact h2
  · refine ⟨es, n, D.at_, D.lit, D.low, ns_none D (dicW_keys hk D) fun hm => ?_⟩
    obtain ⟨p, hp, e⟩ := List.mem_map.mp hm
    exact lkM_none hx p hp e
end G

set_option Elab.async false
set_option linter.all false
set_option maxRecDepth 100000
namespace G
open PySem PySem.Spec PyProof.Rows L2
/-! ### cells that an expression made and left behind are forgotten -/
def aTrimE (a : Ae) : Ae := fun E M Q => a E M fun x M2 => match x with
  | .d d => match (M2.take M.length).all (lowC M.length) with
    | true => Q (.d d) (M2.take M.length)
    | false => False
  | _ => False
theorem se_trimE {K : PySem.W.Frag} {W : Wd} {t : TE} {a : Ae} (h : SE K W t a) : SE K W t (aTrimE a) := by
  intro b M E σ QA Q t0 ok sl h1 k
  have hl : b.al.length = M.length := ok.len
  have hw : W.al.length ≤ M.length := by
    obtain ⟨u, e⟩ := t0.pre
    rw [← hl, e, List.length_append]
    exact Nat.le_add_right _ _
  refine h b M E σ _ _ t0 ok sl h1 fun b2 M2 x v t2 ok2 s2 r2 h2 => ?_
  split at h2
  · split at h2
    · rename_i hc
      exact k ⟨b2.I, b2.al.take M.length, b2.H⟩ _ _ v (t2.trim hw) (ok2.trim _ hc) (s2.trim (by rw [hl]; exact Nat.le_refl _)) (.d (repA_d r2)) h2
    · exact h2.elim
  · exact h2.elim
theorem ae_trimE {X : Cx} {W : Wd} {e : Expr} {t : TE} {a : Ae} (h : AE X W e t a) : AE X W e t (aTrimE a) := ⟨h.pe, se_trimE h.se⟩
/-! x is True -/
def aIsB : A2 := fun x y M Q => match x, y with
  | .d (.bl a), .d (.bl b) => Q (.d (.bl (decide (a = b)))) M
  | _, _ => False
theorem s2_isB {K : PySem.W.Frag} {W : Wd} : S2 K W (fun x y H Q => ∃ a b, x = .bl a ∧ y = .bl b ∧ Q (.bl (decide (a = b))) H) aIsB := by
  intro b M x y v u QA Q t ok r1 r2 h k
  unfold aIsB at h
  split at h
  · cases repA_d r1 with
    | bl => cases repA_d r2 with
      | bl => exact ⟨_, _, rfl, rfl, k b M _ _ t ok (Step.refl _) (.d (.bl _)) h⟩
  · exact h.elim
theorem o_isB {X : Cx} {W : Wd} : AO X W (compareOp .Is) (fun x y H Q => ∃ a b, x = .bl a ∧ y = .bl b ∧ Q (.bl (decide (a = b))) H) aIsB := ⟨op_is_bl, s2_isB⟩
end G

set_option Elab.async false
set_option linter.all false
set_option maxRecDepth 100000
namespace G
open PySem PySem.Spec PyProof.Rows L2
/-! ### k in a module's dict of texts -/
abbrev rInM (K : PySem.W.Frag) (a : Addr) : R2 := fun x y H Q => ∃ (z : Str) (r : Option Value), x = .str z ∧ y = .ref a ∧ PySem.W.nsIn K a z = some r ∧ Q (.bl r.isSome) H
def aInM (a : Addr) (kvs : List (Str × D)) : A2 := fun x y M Q => match x, y with
  | .d (.str z), .d (.vl v) => Side (v = .ref a) (Q (.d (.bl (lkM kvs z).isSome)) M)
  | _, _ => False
theorem s2_inM {K : PySem.W.Frag} {w : World} {W : Wd} {a : Addr} {kvs : List (Str × D)} (hM : MDct K w a kvs) : S2 K W (rInM K a) (aInM a kvs) := by
  intro b M x y v u QA Q t ok r1 r2 h k
  unfold aInM at h
  split at h
  · rename_i z v0
    obtain ⟨rfl, q⟩ := h
    cases rep_str_inv (repA_d r1)
    cases rep_vl_inv (repA_d r2)
    have g := hM.get z
    cases e : lkM kvs z with
    | some d =>
      rw [e] at g q
      obtain ⟨es, n, u0, _, _, h3, _⟩ := g
      exact ⟨z, some u0, rfl, rfl, h3, k b M _ _ t ok (Step.refl _) (.d (.bl _)) q⟩
    | none =>
      rw [e] at g q
      obtain ⟨es, n, _, _, _, h3⟩ := g
      exact ⟨z, none, rfl, rfl, h3, k b M _ _ t ok (Step.refl _) (.d (.bl _)) q⟩
  · exact h.elim
section
variable {X : Cx} {W : Wd} {K : PySem.W.Frag} {w : World} {a : Addr} {kvs : List (Str × D)} {p : Pos} {x : Str}
theorem k_inM (low : (a == sysModules) = false) (hd : ∃ es n, K.lookup a = some ⟨.type "dict", none, .dict es n, #[]⟩ ∧ PySem.W.KeysLit w.params es.toList) (hM : MDct K w a kvs) (hK : X.K = K := by rfl) (hw : X.w = w := by rfl) : AO X W (compareOp .In) (rInM K a) (aInM a kvs) := by
  subst hK hw
  obtain ⟨es, n, h1, h2⟩ := hd
  exact ⟨op_in_kd ⟨h1, h2, low⟩, s2_inM hM⟩
theorem k_glv (hm : X.mg x = some (.ref a)) (hg : Gl X x := by rfl) (hd : (x == ("__debug__" : Str)) = false := by decide) : AE X W (.Name x p) (tC (.ref a)) (aC (.vl (.ref a))) := ⟨pe_glob hg hm rfl hd, se_c fun _ => .vl _⟩
end
/-! d.get(k) -/
def tMGet1 (K : PySem.W.Frag) (w : World) (a : Addr) (ty : TE) : TE := fun σ H Q => ty σ H fun y H1 => ∃ (z : Str) (r : Option V), y = .str z ∧ KGet K w a z r ∧ Q (r.getD .non) H1
def aMGet1 (kvs : List (Str × D)) (a : Ae) : Ae := fun E M Q => a E M fun x M1 => match x with
  | .d (.str z) => match lkM kvs z with
    | some d => Q (.d d) M1
    | none => Q (.d .non) M1
  | _ => False
section
variable {X : Cx} {W : Wd} {K : PySem.W.Frag} {w : World} {e : Expr} {p pos apos cpos : Pos} {ty : TE} {ae : Ae} {x : Str} {a : Addr} {kvs : List (Str × D)}
theorem pe_mget1 (hm : X.mg x = some (.ref a)) (low : (a == sysModules) = false) (hd : ∃ es n, X.K.lookup a = some ⟨.type "dict", none, .dict es n, #[]⟩ ∧ PySem.W.KeysLit X.w.params es.toList) (he : PE X e ty) (m : M1 X (.Name x p) "get" apos e cpos) (hg : Gl X x := by rfl) (hdb : (x == ("__debug__" : Str)) = false := by decide) :
    PE X (.Call (.Attribute (.Name x p) "get" apos) [e] [] cpos) (tMGet1 X.K X.w a ty) := by
  refine ⟨fun pins s σ H Q I h => ?_⟩
  obtain ⟨es, n, h1, h2⟩ := hd
  refine wpAny_Call_method m.base m.few m.line PySem.F.plainAttrs_dict PySem.F.slot_dict_get PySem.F.type_dict_get (ld_glob I hg hm ?_ hdb)
  have hm0 := PySem.W.mapOf_K (prog := X.prog) (w := X.w) I.kIn h1 h2
  refine ⟨hm0.typeIs, hm0.noDict, ?_⟩
  rw [m.trees]
  refine Calls.callWith_builtin rfl (Calls.evalArgs_plain (Calls.spliced_cons (thn (he.run pins s σ H _ I h) fun iv s2 ⟨y, H2, I2, ry, z, r, ez, g, q3⟩ => Calls.spliced_nil ?_)))
  subst ez
  obtain ⟨t, rfl⟩ := (show ∃ t, iv = Value.str z t from ry)
  obtain ⟨es', n', l1, l2, o, e1, e2⟩ := kd_type I2 g low
  have hm' := PySem.W.mapOf_K (prog := X.prog) (w := X.w) I2.kIn l1 l2
  refine call_meetsIn PySem.F.slot_dict_get hm'.typeIs PySem.F.entry_dict_get (PySem.F.args_dict_get_2 _ _) (meets_dict_get (strKind X.prog X.w) a (strKind_is X.prog X.w z t) low) ⟨_, hm', ?_⟩
  rw [PySem.W.find_K l1 e1]
  exact ⟨r.getD .non, H2, I2.tok _, e2 _ _ rfl, q3⟩
theorem k_mget1 (hm : X.mg x = some (.ref a)) (low : (a == sysModules) = false) (hd : ∃ es n, K.lookup a = some ⟨.type "dict", none, .dict es n, #[]⟩ ∧ PySem.W.KeysLit w.params es.toList) (hM : MDct K w a kvs) (he : AE X W e ty ae)
    (hg : Gl X x := by rfl) (hdb : (x == ("__debug__" : Str)) = false := by decide)
    (hbase : attributeBase (.Name x p) "get" X.env (eval (.Name x p) X.env) = eval (.Name x p) X.env := by rfl)
    (hfew : ((backTo cpos (starEach [e] X.env)).all (fun x => !x.1) && (backToKw cpos (keywordEach [] X.env)).all (fun x => x.1.isSome)
      && decide (([e] : List Expr).length + ([] : List Keyword).length + (if ([] : List Keyword).isEmpty then 0 else 1) < 30)) = true := by rfl)
    (hline : (apos.endLine == cpos.line) = true := by rfl) (htr : backTo cpos (starEach [e] X.env) = [(false, eval e X.env)] := by rfl) (hK : X.K = K := by rfl) (hw : X.w = w := by rfl) :
    AE X W (.Call (.Attribute (.Name x p) "get" apos) [e] [] cpos) (tMGet1 K w a ty) (aMGet1 kvs ae) := by
  subst hK hw
  refine ⟨pe_mget1 hm low hd he.pe ⟨hbase, hfew, hline, htr⟩ hg hdb, ?_⟩
  intro b M E σ QA Q t0 ok sl h1 k
  refine he.se b M E σ _ _ t0 ok sl h1 fun b1 M1 x1 v1 t1 ok1 s1 r1 h2 => ?_
  split at h2
  · rename_i z
    cases rep_str_inv (repA_d r1)
    refine ⟨z, (lkM kvs z).map vOf, rfl, hM.get z, ?_⟩
    split at h2
    · rename_i d e1
      rw [e1]
      exact k b1 M1 _ _ t1 ok1 s1 (.d (flat_rep1 (lk_flat hM.flat e1))) h2
    · rename_i e1
      rw [e1]
      exact k b1 M1 _ _ t1 ok1 s1 (.d .non) h2
  · exact h2.elim
end
end G

set_option Elab.async false
set_option linter.all false
set_option maxRecDepth 100000
namespace G
open PySem PySem.Spec PyProof.Rows L2
/-! ### cells as plain data -/
def mapD (f : A → Option D) : List A → Option (List D)
  | [] => some []
  | x :: r => match f x with
    | some d => (match mapD f r with
      | some l => some (d :: l)
      | none => none)
    | none => none
def mapP {α : Type} (f : A → Option D) : List (α × A) → Option (List (α × D))
  | [] => some []
  | (s, x) :: r => match f x with
    | some d => (match mapP f r with
      | some l => some ((s, d) :: l)
      | none => none)
    | none => none
/-- a value with all that it holds, as the cells stand now -/
def deepA (M : Mem) : Nat → A → Option D
  | _, .d x => some x
  | 0, .cell _ => none
  | n + 1, .cell k => match M[k]? with
    | some (.lst l) => some (.lst l)
    | some (.lsa xs) => (match mapD (deepA M n) xs with
      | some l => some (.lst l)
      | none => none)
    | some (.tpa xs) => (match mapD (deepA M n) xs with
      | some l => some (.tup l)
      | none => none)
    | some (.obj C fs) => (match mapP (deepA M n) fs with
      | some l => some (.obj C l)
      | none => none)
    | some (.dic kvs) => (match mapP (deepA M n) kvs with
      | some l => some (.dic l)
      | none => none)
    | some (.did kvs) => some (.dic kvs)
    | _ => none
/-- the slots at vs as plain data, the others empty -/
def nonE : Env → Env
  | [] => []
  | _ :: r => none :: nonE r
def snapV (M : Mem) (E : Env) : List Nat → Env → (Env → Prop) → Prop
  | [], E2, k => fL E2 k
  | i :: r, E2, k => match E[i]? with
    | some (some x) => (match deepA M 6 x with
      | some d => snapV M E r (E2.set i (some (.d d))) k
      | none => snapV M E r E2 k)
    | _ => snapV M E r E2 k
def snapE (M : Mem) (vs : List Nat) (E : Env) (k : Env → Prop) : Prop := snapV M E vs (nonE E) k
section
variable {K : PySem.W.Frag} {W : Wd}
theorem mapD_rep {al : List Addr} {I J : Hp} {f : A → Option D} (hf : ∀ x v d, RepA K al I x v → f x = some d → Rep K J d v) : ∀ {xs : List A} {vs : List V} {ds : List D}, RepAs K al I xs vs → mapD f xs = some ds → Reps K J ds vs
  | [], _, ds, r, e => by cases r; cases e; exact .nil
  | x :: xs, _, ds, .cons r1 r2, e => by
    unfold mapD at e
    split at e
    · rename_i d e1
      split at e
      · rename_i l e2
        cases e
        exact .cons (hf _ _ _ r1 e1) (mapD_rep hf r2 e2)
      · cases e
    · cases e
theorem mapP_repF {al : List Addr} {I J : Hp} {f : A → Option D} (hf : ∀ x v d, RepA K al I x v → f x = some d → Rep K J d v) : ∀ {xs : List (Str × A)} {vs : List (Str × V)} {ds : List (Str × D)}, RepAF K al I xs vs → mapP f xs = some ds → RepF K J ds vs
  | [], _, ds, r, e => by cases r; cases e; exact .nil
  | (s, x) :: xs, _, ds, .cons r1 r2, e => by
    unfold mapP at e
    split at e
    · rename_i d e1
      split at e
      · rename_i l e2
        cases e
        exact .cons (hf _ _ _ r1 e1) (mapP_repF hf r2 e2)
      · cases e
    · cases e
theorem mapP_repK {al : List Addr} {I J : Hp} {f : A → Option D} (hf : ∀ x v d, RepA K al I x v → f x = some d → Rep K J d v) : ∀ {xs : List (Key × A)} {vs : List (Key × V)} {ds : List (Key × D)}, RepAK K al I xs vs → mapP f xs = some ds → RepK K J ds vs
  | [], _, ds, r, e => by cases r; cases e; exact .nil
  | (s, x) :: xs, _, ds, .cons r1 r2, e => by
    unfold mapP at e
    split at e
    · rename_i d e1
      split at e
      · rename_i l e2
        cases e
        exact .cons (hf _ _ _ r1 e1) (mapP_repK hf r2 e2)
      · cases e
    · cases e
theorem deepA_rep {b : Wd} {M : Mem} (ok : Ok K b M) : ∀ (n : Nat) {x : A} {v : V} {d : D}, RepA K b.al b.I x v → deepA M n x = some d → Rep K b.H d v
  | 0, .d x, v, d, r, e => by unfold deepA at e; cases e; exact (repA_d r).mono ok.ih
  | n + 1, .d x, v, d, r, e => by unfold deepA at e; cases e; exact (repA_d r).mono ok.ih
  | 0, .cell k, v, d, r, e => by unfold deepA at e; cases e
  | n + 1, .cell k, v, d, r, e => by
    obtain ⟨a, ha, rfl⟩ := cell_addr r
    have hf : ∀ x v d, RepA K b.al b.I x v → deepA M n x = some d → Rep K b.H d v := fun x v d r e => deepA_rep ok n r e
    unfold deepA at e
    split at e
    · rename_i e1
      cases e
      obtain ⟨_, us, hv, rs⟩ := ok.at_ _ _ _ ha e1
      exact .lst hv (rs.mono ok.ih)
    · rename_i e1
      obtain ⟨_, us, hv, rs⟩ := ok.at_ _ _ _ ha e1
      split at e
      · rename_i e2
        cases e
        exact .lst hv (mapD_rep hf rs e2)
      · cases e
    · rename_i e1
      obtain ⟨_, us, hv, rs⟩ := ok.at_ _ _ _ ha e1
      split at e
      · rename_i e2
        cases e
        exact .tup (SqT.of hv) (mapD_rep hf rs e2)
      · cases e
    · rename_i e1
      obtain ⟨_, dx, gs, hv, rs⟩ := ok.at_ _ _ _ ha e1
      split at e
      · rename_i e2
        cases e
        exact .obj hv (mapP_repF hf rs e2)
      · cases e
    · rename_i e1
      obtain ⟨_, gs, hv, rs⟩ := ok.at_ _ _ _ ha e1
      split at e
      · rename_i e2
        cases e
        exact .dic hv (mapP_repK hf rs e2)
      · cases e
    · rename_i e1
      cases e
      obtain ⟨_, gs, hv, rs⟩ := ok.at_ _ _ _ ha e1
      exact .dic hv (RepK.mono ok.ih rs)
    · cases e
theorem nonE_slots {al : List Addr} {I : Hp} : ∀ {E : Env} {σ : L2.St}, E.length = σ.length → Slots K al I (nonE E) σ := by
  intro E σ h
  have l : ∀ E : Env, (nonE E).length = E.length := by
    intro E; induction E with
    | nil => rfl
    | cons _ _ ih => show (nonE _).length + 1 = _; rw [ih]; rfl
  have n : ∀ (E : Env) (i : Nat) (x : A), (nonE E)[i]? ≠ some (some x) := by
    intro E; induction E with
    | nil => intro i x z; simp [nonE] at z
    | cons _ r ih => intro i x z; cases i with
      | zero => simp [nonE] at z
      | succ i => exact ih i x (by simpa [nonE] using z)
  exact ⟨(l E).trans h, fun i x e => absurd e (n E i x)⟩
theorem slots_setV {al : List Addr} {I : Hp} {E : Env} {σ : L2.St} {i : Nat} {x : A} {v : V} (s : Slots K al I E σ) (hv : σ[i]? = some (some v)) (r : RepA K al I x v) : Slots K al I (E.set i (some x)) σ := by
  refine ⟨by rw [List.length_set]; exact s.1, fun j y h => ?_⟩
  by_cases hij : i = j
  · subst hij
    by_cases hl : i < E.length
    · rw [List.getElem?_set_self hl] at h
      cases h
      exact ⟨v, hv, r⟩
    · rw [List.getElem?_eq_none (by rw [List.length_set]; omega)] at h
      cases h
  · rw [List.getElem?_set_ne hij] at h
    exact s.2 j y h
theorem snapV_ok {b : Wd} {M : Mem} (ok : Ok K b M) {E : Env} {σ : L2.St} {k : Env → Prop} (s : Slots K b.al b.I E σ) : ∀ {vs : List Nat} {E2 : Env}, Slots K [] b.H E2 σ → snapV M E vs E2 k → ∃ E3, k E3 ∧ Slots K [] b.H E3 σ
  | [], E2, s2, h => by unfold snapV at h; exact ⟨E2, fL_eq.mp h, s2⟩
  | i :: r, E2, s2, h => by
    unfold snapV at h
    split at h
    · rename_i x e
      split at h
      · rename_i d e2
        obtain ⟨v, hv, rv⟩ := s.2 i x e
        exact snapV_ok ok s (slots_setV s2 hv (.d (deepA_rep ok 6 rv e2))) h
      · exact snapV_ok ok s s2 h
    · exact snapV_ok ok s s2 h
theorem snapE_ok {b : Wd} {M : Mem} (ok : Ok K b M) {vs : List Nat} {E : Env} {σ : L2.St} {k : Env → Prop} (s : Slots K b.al b.I E σ) (h : snapE M vs E k) : ∃ E2, k E2 ∧ Slots K [] b.H E2 σ := snapV_ok ok s (nonE_slots s.1) h
/-! ### an expression that leaves all as it is and tells a flat value -/
def flatR (z : A) (k : A → Prop) : Prop := match z with
  | .d .non => k (.d .non)
  | .d (.bl c) => k (.d (.bl c))
  | .d (.int c) => k (.d (.int c))
  | .d (.str c) => k (.d (.str c))
  | _ => False
theorem bor_back {b b1 : Wd} {M : Mem} (ok : Ok K b M) (t1 : To ⟨b.H, [], b.H⟩ b1) : Step b ⟨b.I, b.al, b1.H⟩ ∧ Ok K ⟨b.I, b.al, b1.H⟩ M := by
  have hH : Same b.H b1.H := fun a o e => t1.fr a o e (by simp)
  refine ⟨⟨Same.refl _, fun x o e _ => hH x o e, fun x e n => absurd e n, fun x e => t1.dom x e, Pre.refl _, fun x e => .inl e⟩, ⟨fun a o e => hH a o (ok.ih a o e), ok.len, ok.nd, fun k a e z => ?_, fun k a c e1 e2 => ?_⟩⟩
  · cases eh : b.H a with
    | none => exact ok.dom k a e eh
    | some o =>
      have := hH a o eh
      rw [z] at this; cases this
  · have q := ok.at_ k a c e1 e2
    cases eh : b.H a with
    | none => exact absurd eh (ok.dom k a e1)
    | some o =>
      have e3 : b1.H a = b.H a := by rw [hH a o eh, eh]
      cases c with
      | gone => trivial
      | lst _ => exact q.mono (Same.refl _) (Pre.refl _) q.1 e3
      | obj _ _ => exact q.mono (Same.refl _) (Pre.refl _) q.1 e3
      | dic _ => exact q.mono (Same.refl _) (Pre.refl _) q.1 e3
      | did _ => exact q.mono (Same.refl _) (Pre.refl _) q.1 e3
      | lsa _ => exact q.mono (Same.refl _) (Pre.refl _) q.1 e3
      | tpa _ => exact q.mono (Same.refl _) (Pre.refl _) q.1 e3
theorem bor_in {b : Wd} {M : Mem} (ok : Ok K b M) : Ok K ⟨b.H, [], b.H⟩ [] := ⟨Same.refl _, rfl, List.nodup_nil, fun k a h => by simp at h, fun k a c h => by simp at h⟩
def aBor (vs : List Nat) (a : Ae) : Ae := fun E M Q => snapE M vs E fun E2 => a E2 [] fun z _ => flatR z fun w => Q w M
def aBorT (vs : List Nat) (a : At) : At := fun E M Q => snapE M vs E fun E2 => a E2 [] fun z _ => Q z M
theorem se_bor {vs : List Nat} {t : TE} {a : Ae} (h : ∀ W', SE K W' t a) : SE K W t (aBor vs a) := by
  intro b M E σ QA Q t0 ok sl h1 k
  obtain ⟨E2, h2, s2⟩ := snapE_ok ok sl h1
  refine h ⟨b.H, [], b.H⟩ ⟨b.H, [], b.H⟩ [] E2 σ _ _ (To.refl _) (bor_in ok) s2 h2 fun b1 M1 z v t1 ok1 st1 r1 q => ?_
  obtain ⟨st, ok2⟩ := bor_back ok t1
  have fin : ∀ z : A, ∀ v, (∀ I, RepA K b.al I z v) → QA z M → Q v b1.H := fun z v hz q => k ⟨b.I, b.al, b1.H⟩ M z v (t0.trans st) ok2 st (hz _) q
  unfold flatR at q
  split at q
  · cases rep_non_inv (repA_d r1); exact fin _ _ (fun _ => .d .non) q
  · cases rep_bl_inv (repA_d r1); exact fin _ _ (fun _ => .d (.bl _)) q
  · cases rep_int_inv (repA_d r1); exact fin _ _ (fun _ => .d (.int _)) q
  · cases rep_str_inv (repA_d r1); exact fin _ _ (fun _ => .d (.str _)) q
  · exact q.elim
theorem st_bor {vs : List Nat} {t : TT} {a : At} (h : ∀ W', ST K W' t a) : ST K W t (aBorT vs a) := by
  intro b M E σ QA Q t0 ok sl h1 k
  obtain ⟨E2, h2, s2⟩ := snapE_ok ok sl h1
  refine h ⟨b.H, [], b.H⟩ ⟨b.H, [], b.H⟩ [] E2 σ _ _ (To.refl _) (bor_in ok) s2 h2 fun b1 M1 z t1 ok1 st1 q => ?_
  obtain ⟨st, ok2⟩ := bor_back ok t1
  exact k ⟨b.I, b.al, b1.H⟩ M z (t0.trans st) ok2 st q
end
section
variable {X : Cx} {W : Wd} {e : Expr} {t : TE} {a : Ae} {tc : TT} {ac : At}
theorem ae_bor (vs : List Nat) (h : ∀ W', AE X W' e t a) : AE X W e t (aBor vs a) := ⟨(h W).pe, se_bor fun W' => (h W').se⟩
theorem at_bor (vs : List Nat) (h : ∀ W', AT X W' e tc ac) : AT X W e tc (aBorT vs ac) := ⟨(h W).pt, st_bor fun W' => (h W').st⟩
end
end G

set_option Elab.async false
set_option linter.all false
set_option maxRecDepth 100000
namespace G
open PySem PySem.Spec PyProof.Rows L2
/-! ### x[::-1] -/
/-- what x[::-1] is: the slice object stands at sl -/
def SlRv (X : Cx) (r : V → Hp → VK → Prop) : Prop :=
  ∀ (pins : List (Addr × Obj)) (s : Shared) (σ : L2.St) (H : Hp) (x : V) (v vk : Value) (sl : Addr) (Q : VK), Inv X pins σ H s → RelV x v → s.heap.IsSliceOf sl .none .none vk → IsPart vk (some (-1)) → r x H Q →
    ∃ T id, typeLookup (.type T) "__getitem__" = pure (some (.builtin id)) ∧ s.TypeIs v T ∧ wpAny (model X.prog X.w) X.A (getItem v (.ref sl)) (EP X pins σ Q) X.xe s
theorem SlRv.or {X : Cx} {r r' : V → Hp → VK → Prop} (h : SlRv X r) (h' : SlRv X r') : SlRv X (fun x H Q => r x H Q ∨ r' x H Q) := by
  intro pins s σ H x v vk sl Q I rx hs pk q
  rcases q with q | q
  · exact h pins s σ H x v vk sl Q I rx hs pk q
  · exact h' pins s σ H x v vk sl Q I rx hs pk q
section
variable {X : Cx} {e : Expr} {te : TE} {pos p2 p3 p4 : Pos} {j : Nat}
theorem pe_sliceR {r : V → Hp → VK → Prop} (hr : SlRv X r) (he : PE X e te) : PE X (.Subscript e (.Slice none none (some (.UnaryOp .USub (.Constant (.int 1) j p3) p4)) p2) pos) (tUn r te) := by
  refine ⟨fun pins s σ H Q I h => ?_⟩
  refine Subscript_ (thn (he.run pins s σ H _ I h) fun v s1 ⟨x, H1, I1, r1, q1⟩ => ?_)
  refine wpAny_Slice ?_
  rw [evalPart_none]
  refine wpAny_pure ?_
  refine wpAny_pure ?_
  rw [evalPart_some]
  have hm : PE X (.UnaryOp .USub (.Constant (.int 1) j p3) p4) (tUn (rU fun i => .int (-i)) (tC (.int 1))) := pe_un un_neg pe_int
  refine thn (hm.run pins s1 σ H1 (fun y H2 => y = .int (-1) ∧ H2 = H1) I1 ⟨_, rfl, rfl, rfl⟩) fun vk s3 ⟨y, H3, I3, ry, ey, eH⟩ => ?_
  subst ey; subst eH
  obtain ⟨tk, rfl⟩ := ry
  have I4 : Inv X pins σ H3 { s3 with heap := s3.heap.push { cls := .type "slice", data := .fields #[.none, .none, .int (-1) tk] } } := I3.kept (t' := s3.toks) fun b ob q => Heap.get?_push_of_some _ q
  obtain ⟨T, id, hT, ht, hg⟩ := hr pins { s3 with heap := s3.heap.push { cls := .type "slice", data := .fields #[.none, .none, .int (-1) tk] } } σ H3 x v _ s3.heap.objs.size Q I4 r1 (Heap.IsSliceOf.new ..) (.int _ tk) q1
  exact tail_any (ops := [v, .ref s3.heap.objs.size]) ht hT hg (by with_unfolding_all rfl)
/-- a list -/
def rSlRvL (K : PySem.W.Frag) : V → Hp → VK → Prop := fun x H Q => ∃ a xs, x = .ref a ∧ SqL K H a xs ∧ ∀ p, H p = none → Q (.ref p) (upd H p (.lst xs.reverse))
theorem Vals.rev' {xs : List V} {its : List Value} (r : Vals xs its) : Vals xs.reverse its.reverse := by
  induction r with
  | nil => exact .nil
  | cons h _ ih => rw [List.reverse_cons, List.reverse_cons]; exact ih.append (.cons h .nil)
theorem slrv_list : SlRv X (rSlRvL X.K) := by
  intro pins s σ H x v vk sl Q I rx hs pk h
  obtain ⟨a, xs, rfl, hx, q⟩ := h
  cases rx
  obtain ⟨its, r, ht, hz⟩ := I.list hx
  have hlen := r.length
  refine ⟨"list", _, slot_list_getitem.lookup, ht.isList.typeIs, ?_⟩
  refine wpAny_getItem_list_slice ht.isList hs .none .none pk (by simp) ?_ (by rw [List.size_toArray] <;> omega)
  rw [PySem.W.krv_pick]
  refine ⟨.ref s.heap.objs.size, _, I.laid (t' := s.toks) (o := .lst xs.reverse) (fun b ob q => Heap.get?_push_of_some _ q) (Nat.le_refl _) ?_, rfl, q _ (I.hok.fresh (Nat.le_refl _))⟩
  exact ⟨by rw [List.length_reverse]; exact hz, _, 0, Vals.rev' r, Heap.get?_push_size _ rfl⟩
/-- a text -/
def revS (z : Str) : Str := ⟨z.cps.toList.reverse.toArray⟩
def rSlRvS : V → Hp → VK → Prop := fun x H Q => ∃ z, x = .str z ∧ z.length ≤ sizeLine ∧ Q (.str (revS z)) H
end
/-! ### the readings -/
def aSlRv (cel : Bool) (a : Ae) : Ae := fun E M Q => a E M fun x M1 => match listOf x M1 with
  | some xs => mkL cel xs.reverse M1 Q
  | none => match lsaOf x M1 with
    | some xs => mkA cel xs.reverse M1 Q
    | none => False
section
variable {K : PySem.W.Frag} {W : Wd}
theorem se_slRv {cel : Bool} {t : TE} {a : Ae} (h : SE K W t a) : SE K W (tUn (rSlRvL K) t) (aSlRv cel a) := by
  intro b M E σ QA Q t0 ok sl q k
  refine h b M E σ _ _ t0 ok sl q fun b1 M1 x v t1 ok1 s1 r1 q1 => ?_
  split at q1
  · rename_i xs e
    obtain ⟨p, vs, rfl, hs, rs⟩ := listOf_ok ok1 r1 e
    exact ⟨p, vs, rfl, hs, new_L t1 ok1 rs.rev q1 fun b4 M4 z w t4 ok4 s4 r4 q4 => k b4 M4 z w t4 ok4 (s1.trans s4) r4 q4⟩
  · split at q1
    · rename_i xs e
      obtain ⟨_, p, vs, rfl, _, rfl, _, _, hv, rs⟩ := lsaOf_ok ok1 r1 e
      exact ⟨p, vs, rfl, SqL.of hv, new_A t1 ok1 rs.revA q1 fun b4 M4 z w t4 ok4 s4 r4 q4 => k b4 M4 z w t4 ok4 (s1.trans s4) r4 q4⟩
    · exact q1.elim
end
section
variable {X : Cx} {W : Wd} {K : PySem.W.Frag} {e : Expr} {t : TE} {a : Ae} {pos p2 p3 p4 : Pos} {j : Nat}
theorem k_slRv (cel : Bool) (h : AE X W e t a) (hK : X.K = K := by rfl) : AE X W (.Subscript e (.Slice none none (some (.UnaryOp .USub (.Constant (.int 1) j p3) p4)) p2) pos) (tUn (rSlRvL K) t) (aSlRv cel a) := by
  subst hK; exact ⟨pe_sliceR slrv_list h.pe, se_slRv h.se⟩
end
/-! ### a text times a number -/
def repS (z : Str) (n : Nat) : Str := ⟨(List.replicate n z.cps.toList).flatten.toArray⟩
def rMulS : R2 := fun x y H Q => ∃ z k, x = .str z ∧ y = .int k ∧ -(2 ^ 63) ≤ k ∧ k < 2 ^ 63 ∧ z.length * k.toNat ≤ sizeLine ∧ z.length ≤ sizeLine ∧ Q (.str (repS z k.toNat)) H
theorem foldl_cps (z : List Nat) : ∀ (m : Nat) (acc : Array Nat), (List.replicate m z.toArray).foldl (· ++ ·) acc = (acc.toList ++ (List.replicate m z).flatten).toArray
  | 0, acc => by simp
  | m + 1, acc => by
    rw [List.replicate_succ, List.foldl_cons, foldl_cps z m, List.replicate_succ, List.flatten_cons]
    simp [List.append_assoc]
theorem repS_length (z : Str) (n : Nat) : (repS z n).length = z.length * n := by
  show ((List.replicate n z.cps.toList).flatten.toArray).size = z.cps.size * n
  rw [List.size_toArray, List.length_flatten, List.map_replicate, List.sum_replicate_nat, Array.length_toList, Nat.mul_comm]
theorem op_mulStr {X : Cx} : OpR X (binaryOp .Mult) rMulS := by
  intro pins s σ H x y v u Q I rx ry h
  obtain ⟨z, k, rfl, rfl, h1, h2, h3, h4, q⟩ := h
  obtain ⟨t, rfl⟩ := rx
  obtain ⟨t2, rfl⟩ := ry
  have hc : (decide (k < -(2 ^ 63 : Int)) || decide (k ≥ 2 ^ 63)) = false := by
    rw [decide_eq_false (by omega), decide_eq_false (by omega)]; rfl
  refine PySem.P.mul_str hc (fun a b c => ?_) (fun a b => ?_) ?_
  · have hk : 1 ≤ k := by omega
    have h5 : (z.length : Int) * k ≤ sizeLine := by
      have : (k.toNat : Int) = k := Int.toNat_of_nonneg (by omega)
      rw [← this, ← Int.natCast_mul]; exact Int.ofNat_le.mpr h3
    have h6 : (sizeLine : Int) ≤ 2 ^ 63 - 1 := by decide
    have h7 : (z.length : Int) ≤ (2 ^ 63 - 1) / k := (Int.le_ediv_iff_mul_le (by omega)).mpr (by omega)
    omega
  · exact decide_eq_false (Nat.not_lt.mpr h3)
  · by_cases a : k < 1
    · rw [if_pos a]
      have e : repS z k.toNat = Str.empty := by
        have : k.toNat = 0 := by omega
        rw [this]; rfl
      rw [e] at q
      exact ⟨by decide, .str Str.empty, H, I.kept (t' := s.toks + 1) fun b o q => q, ⟨_, rfl⟩, q⟩
    · rw [if_neg a]
      by_cases c : (k == 1 || z.length == 0) = true
      · rw [if_pos c]
        have e : repS z k.toNat = z := by
          rw [Bool.or_eq_true] at c
          rcases c with c | c
          · have : k = 1 := by simpa using c
            subst this
            show (⟨((List.replicate 1 z.cps.toList).flatten).toArray⟩ : Str) = z
            simp [List.replicate]
          · have c2 : z.length = 0 := by simpa using c
            have c3 : z.cps = #[] := Array.eq_empty_of_size_eq_zero c2
            show (⟨((List.replicate k.toNat z.cps.toList).flatten).toArray⟩ : Str) = z
            have : (List.replicate k.toNat z.cps.toList).flatten = [] := by
              rw [c3]; simp [List.flatten_eq_nil_iff]
            rw [this]
            cases z; simp_all
        rw [e] at q
        exact ⟨.str z, H, I, ⟨t, rfl⟩, q⟩
      · rw [if_neg c]
        have e : (⟨(List.replicate k.toNat z.cps).foldl (· ++ ·) #[]⟩ : Str) = repS z k.toNat := by
          have := foldl_cps z.cps.toList k.toNat #[]
          simp only [Array.toArray_toList] at this
          show (⟨_⟩ : Str) = ⟨_⟩
          rw [this]; rfl
        rw [e]
        exact ⟨by rw [repS_length]; exact h3, .str (repS z k.toNat), H, I.kept (t' := s.toks + 1) fun b o q => q, ⟨_, rfl⟩, q⟩
def aMulS : A2 := fun x y M Q => match x, y with
  | .d (.str z), .d (.int k) => Side (-(2 ^ 63) ≤ k ∧ k < 2 ^ 63 ∧ z.length * k.toNat ≤ sizeLine ∧ z.length ≤ sizeLine) (Q (.d (.str (repS z k.toNat))) M)
  | _, _ => False
theorem s2_mulS {K : PySem.W.Frag} {W : Wd} : S2 K W rMulS aMulS := by
  intro b M x y v u QA Q t ok r1 r2 h k
  unfold aMulS at h
  split at h
  · obtain ⟨⟨h1, h2, h3, h4⟩, q⟩ := h
    cases rep_str_inv (repA_d r1); cases rep_int_inv (repA_d r2)
    exact ⟨_, _, rfl, rfl, h1, h2, h3, h4, k b M _ _ t ok (Step.refl _) (.d (.str _)) q⟩
  · exact h.elim
theorem o_mulStr {X : Cx} {W : Wd} : AO X W (binaryOp .Mult) rMulS aMulS := ⟨op_mulStr, s2_mulS⟩
/-! ### text[::-1] -/
theorem strIdx_rev (n : Nat) : Builtin.Str.strSliceIndices none none (-1) n = (List.range n).reverse := by
  show sliceRange ((n : Int) - 1) (-1) (-1) = _
  rw [PySem.W.krv_sliceRange, PySem.W.krv_range]
theorem slrv_str {X : Cx} : SlRv X rSlRvS := by
  intro pins s σ H x v vk sl Q I rx hs pk h
  obtain ⟨z, rfl, hz, q⟩ := h
  obtain ⟨t, rfl⟩ := rx
  obtain ⟨os, hos, hcs, hds⟩ := hs
  obtain ⟨st, rfl, est⟩ := IsPart.raw pk
  refine ⟨"str", _, PySem.F.slot_str_getitem.lookup, typeIs_str _ _ _, ?_⟩
  cases st with
  | none => cases est
  | some p =>
    obtain ⟨i, tk⟩ := p
    have ei : i = -1 := (by simpa using est.symm : -1 = i).symm
    subst ei
    refine wpAny_getItem_str_slice (l := none) (u := none) (st := some (-1, tk)) ⟨os, hos, hcs, hds⟩ rfl ?_
    have e : ((List.range z.length).reverse.filterMap (z.cps[·]?)).toArray = z.cps.toList.reverse.toArray := by
      rw [List.filterMap_reverse]
      have := PySem.W.krv_all z.cps
      show (List.filterMap (z.cps[·]?) (List.range z.cps.size)).reverse.toArray = _
      rw [this]
    have e2 : (sliceMade z t none none (some (-1, tk))) = Made.str (revS z) := by
      show (if (((-1 : Int) == 1) && _) = true then _ else Made.str ⟨((Builtin.Str.strSliceIndices none none (-1) z.length).filterMap (z.cps[·]?)).toArray⟩) = _
      rw [strIdx_rev, e]
      rfl
    rw [e2]
    have hl : (revS z).length ≤ sizeLine := by
      show (z.cps.toList.reverse.toArray).size ≤ sizeLine
      rw [List.size_toArray, List.length_reverse, Array.length_toList]; exact hz
    exact ⟨hl, .str (revS z), H, I.kept (t' := s.toks + 1) fun b o q => q, ⟨_, rfl⟩, q⟩
def aSlRvS (a : Ae) : Ae := fun E M Q => a E M fun x M1 => match x with
  | .d (.str z) => Side (z.length ≤ sizeLine) (Q (.d (.str (revS z))) M1)
  | _ => False
theorem se_slRvS {K : PySem.W.Frag} {W : Wd} {t : TE} {a : Ae} (h : SE K W t a) : SE K W (tUn rSlRvS t) (aSlRvS a) := by
  intro b M E σ QA Q t0 ok sl q k
  refine h b M E σ _ _ t0 ok sl q fun b1 M1 x v t1 ok1 s1 r1 q1 => ?_
  split at q1
  · cases rep_str_inv (repA_d r1)
    exact ⟨_, rfl, q1.s, k b1 M1 _ _ t1 ok1 s1 (.d (.str _)) q1.q⟩
  · exact q1.elim
theorem ae_slRvS {X : Cx} {W : Wd} {e : Expr} {t : TE} {a : Ae} {pos p2 p3 p4 : Pos} {j : Nat} (h : AE X W e t a) : AE X W (.Subscript e (.Slice none none (some (.UnaryOp .USub (.Constant (.int 1) j p3) p4)) p2) pos) (tUn rSlRvS t) (aSlRvS a) :=
  ⟨pe_sliceR slrv_str h.pe, se_slRvS h.se⟩
end G

set_option Elab.async false
set_option linter.all false
set_option maxRecDepth 100000
namespace G
open PySem PySem.Spec PyProof.Rows L2
/-! ### walking a list of cells -/
/-- J walks items as long as st holds of the cells -/
structure ItA (K : PySem.W.Frag) (b1 : Wd) (J : It) (items : List A) (st : Mem → Prop) : Prop where
  stop : ∀ b2 M2, To b1 b2 → Ok K b2 M2 → st M2 → J.stop items.length b2.H
  go : ∀ b2 M2 (i : Nat) (x : A), To b1 b2 → Ok K b2 M2 → st M2 → items[i]? = some x → J.go i b2.H ∧ ∀ v H3, J.yld i b2.H v H3 → ∃ b3 : Wd, b3.H = H3 ∧ Ok K b3 M2 ∧ Step b2 b3 ∧ RepA K b3.al b3.I x v
abbrev Aia := Env → Mem → (List A → (Mem → Prop) → Mem → Prop) → Prop
def SIa (K : PySem.W.Frag) (W : Wd) (w : TI) (a : Aia) : Prop := ∀ (b : Wd) (M : Mem) (E : Env) (σ : L2.St) (QA : List A → (Mem → Prop) → Mem → Prop) (R : It → Hp → Prop), To W b → Ok K b M → Slots K b.al b.I E σ → a E M QA →
  (∀ b' M' J items st, To W b' → Ok K b' M' → Step b b' → ItA K b' J items st → QA items st M' → R J b'.H) → w σ b.H R
def AlwaysM : Mem → Prop := fun _ => True
section
variable {K : PySem.W.Frag} {W : Wd}
theorem ItS.toA {b : Wd} {J : It} {items : List D} (T : ItS K b.I J items) : ItA K b J (items.map A.d) AlwaysM where
  stop := fun b2 M2 t ok _ => by rw [List.length_map]; exact T.stop b2.I b2.H t.same ok.ih
  go := fun b2 M2 i x t ok _ h => by
    rw [List.getElem?_map] at h
    cases e : items[i]? with
    | none => rw [e] at h; cases h
    | some d =>
      rw [e] at h; cases h
      refine ⟨(T.go b2.I b2.H i d t.same ok.ih e).1, fun v H3 y => ?_⟩
      obtain ⟨b3, h1, _, h3, h4, h5⟩ := its_yld (To.refl b2) ok T t.same e y
      exact ⟨b3, h1, h3, h4, .d h5⟩
/-- over frozen things as before -/
def aiaOf (w : Ai) : Aia := fun E M Q => w E M fun items M1 => Q (items.map A.d) AlwaysM M1
theorem sia_of {w : TI} {a : Ai} (h : SI K W w a) : SIa K W w (aiaOf a) := by
  intro b M E σ QA R t ok sl h1 k
  exact h b M E σ _ _ t ok sl h1 fun b1 M1 J items t1 ok1 s1 T q => k b1 M1 J _ _ t1 ok1 s1 T.toA q
def StayM (k : Nat) (c : Cell) : Mem → Prop := fun M => M[k]? = some c
/-- over a list, a tuple that is a cell -/
def aiaL (a : Ae) : Aia := fun E M Q => a E M fun x M1 => match x with
  | .d (.lst l) => Q (l.map A.d) AlwaysM M1
  | .d (.scr l) => Q ((l.map D.int).map A.d) AlwaysM M1
  | .cell k => match M1[k]? with
    | some (.lst l) => Q (l.map A.d) (StayM k (.lst l)) M1
    | some (.lsa l) => Q l (StayM k (.lsa l)) M1
    | _ => False
  | _ => False
def aiaT (a : Ae) : Aia := fun E M Q => a E M fun x M1 => match x with
  | .d (.tup l) => Q (l.map A.d) AlwaysM M1
  | .cell k => match M1[k]? with
    | some (.tpa l) => Q l (StayM k (.tpa l)) M1
    | _ => False
  | _ => False
theorem sia_L {t : TE} {a : Ae} (h : SE K W t a) : SIa K W (iList K t) (aiaL a) := by
  intro b M E σ QA R t0 ok sl h1 k
  refine h b M E σ _ _ t0 ok sl h1 fun b1 M1 x v t1 ok1 s1 r1 h2 => ?_
  split at h2
  · cases repA_d r1 with
    | lst hp rs => exact ⟨_, rfl, ⟨_, SqL.of (ok1.ih _ _ hp)⟩, k b1 M1 _ _ _ t1 ok1 s1 (its_listL (SqL.of hp) rs).toA h2⟩
  · cases repA_d r1 with
    | scr hp => exact ⟨_, rfl, ⟨_, same_l ok1.ih hp⟩, k b1 M1 _ _ _ t1 ok1 s1 (its_listL hp (reps_ints _)).toA h2⟩
  · rename_i kk
    obtain ⟨p, ha, rfl⟩ := cell_addr r1
    split at h2
    · rename_i l e
      obtain ⟨_, vs, hv, rs⟩ := ok1.at_ _ _ _ ha e
      refine ⟨p, rfl, ⟨_, SqL.of hv⟩, k b1 M1 _ _ _ t1 ok1 s1 ⟨fun b2 M2 t ok st => ?_, fun b2 M2 i x t ok st hx => ?_⟩ h2⟩
      · obtain ⟨_, us, hu, ru⟩ := ok.at_ _ _ _ (t.pre.get ha) st
        exact ⟨us, SqL.of hu, by rw [List.length_map, ru.length]; exact Nat.le_refl _⟩
      · obtain ⟨_, us, hu, ru⟩ := ok.at_ _ _ _ (t.pre.get ha) st
        obtain ⟨z, hz, rz⟩ := (repsA (al := b2.al) ru).getA hx
        refine ⟨⟨us, z, SqL.of hu, hz⟩, fun v H3 y => ?_⟩
        obtain ⟨rfl, y2⟩ := y
        have ez := y2 us (SqL.of hu)
        rw [hz] at ez
        cases ez
        exact ⟨b2, rfl, ok, Step.refl _, rz⟩
    · rename_i l e
      obtain ⟨_, vs, hv, rs⟩ := ok1.at_ _ _ _ ha e
      refine ⟨p, rfl, ⟨_, SqL.of hv⟩, k b1 M1 _ _ _ t1 ok1 s1 ⟨fun b2 M2 t ok st => ?_, fun b2 M2 i x t ok st hx => ?_⟩ h2⟩
      · obtain ⟨_, us, hu, ru⟩ := ok.at_ _ _ _ (t.pre.get ha) st
        exact ⟨us, SqL.of hu, by rw [ru.length]; exact Nat.le_refl _⟩
      · obtain ⟨_, us, hu, ru⟩ := ok.at_ _ _ _ (t.pre.get ha) st
        obtain ⟨z, hz, rz⟩ := ru.getA hx
        refine ⟨⟨us, z, SqL.of hu, hz⟩, fun v H3 y => ?_⟩
        obtain ⟨rfl, y2⟩ := y
        have ez := y2 us (SqL.of hu)
        rw [hz] at ez
        cases ez
        exact ⟨b2, rfl, ok, Step.refl _, rz⟩
    · exact h2.elim
  · exact h2.elim
theorem sia_T {t : TE} {a : Ae} (h : SE K W t a) : SIa K W (iTup K t) (aiaT a) := by
  intro b M E σ QA R t0 ok sl h1 k
  refine h b M E σ _ _ t0 ok sl h1 fun b1 M1 x v t1 ok1 s1 r1 h2 => ?_
  split at h2
  · cases repA_d r1 with
    | tup hp rs => exact ⟨_, rfl, ⟨_, same_t ok1.ih hp⟩, k b1 M1 _ _ _ t1 ok1 s1 (its_tup hp rs).toA h2⟩
  · rename_i kk
    obtain ⟨p, ha, rfl⟩ := cell_addr r1
    split at h2
    · rename_i l e
      obtain ⟨_, vs, hv, rs⟩ := ok1.at_ _ _ _ ha e
      refine ⟨p, rfl, ⟨_, SqT.of hv⟩, k b1 M1 _ _ _ t1 ok1 s1 ⟨fun b2 M2 t ok st => ?_, fun b2 M2 i x t ok st hx => ?_⟩ h2⟩
      · obtain ⟨_, us, hu, ru⟩ := ok.at_ _ _ _ (t.pre.get ha) st
        exact ⟨us, SqT.of hu, by rw [ru.length]; exact Nat.le_refl _⟩
      · obtain ⟨_, us, hu, ru⟩ := ok.at_ _ _ _ (t.pre.get ha) st
        obtain ⟨z, hz, rz⟩ := ru.getA hx
        refine ⟨⟨us, z, SqT.of hu, hz⟩, fun v H3 y => ?_⟩
        obtain ⟨rfl, y2⟩ := y
        have ez := y2 us (SqT.of hu)
        rw [hz] at ez
        cases ez
        exact ⟨b2, rfl, ok, Step.refl _, rz⟩
    · exact h2.elim
  · exact h2.elim
/-! ### for over these: the turns are walked over the world at the loop's start -/
structure ForA (items : List A) (st : Mem → Prop) (g : Ag) (a : As) (Q : AEnds) (E : Env) (M : Mem) : Prop where
  inv : ∃ Pv : Nat → Env → Mem → Prop, Pv 0 E M ∧ (∀ i x E M, items[i]? = some x → Pv i E M → st M ∧ g x E M fun E1 M1 => a { Q with nx := Pv (i + 1), ct := Pv (i + 1), bk := Q.nx } E1 M1) ∧ ∀ E M, Pv items.length E M → st M ∧ Q.nx E M
def aForA (n : Nat) (w : Aia) (g : Ag) (a : As) : As := fun Q E M => w E M fun items st M1 => Side (M1.length = n) (ForA items st g a Q E M1)
theorem EndsOk.toW {W W' : Wd} {I : Hp} {DA : AEnds} {Dd : Ends} (e : EndsOk K W I DA Dd) (t : To W W') : EndsOk K W' I DA Dd :=
  ⟨fun b M E σ h t' => e.nx b M E σ h (t.trans t'), fun b M x v h t' => e.rt b M x v h (t.trans t'), fun b M E σ h t' => e.bk b M E σ h (t.trans t'), fun b M E σ h t' => e.ct b M E σ h (t.trans t')⟩
theorem ss_forA {n : Nat} {js : List Nat} {wi : TI} {g : TG} {t : TS} {w : Aia} {ag : Ag} {a : As} (hi : SIa K W wi w) (hg : ∀ W' : Wd, W'.al.length = n → SG K W' js g ag) (h : ∀ W' : Wd, W'.al.length = n → SS K W' t a) : SS K W (tFor wi g t) (aForA n w ag a) := fun b M E σ DA Dd t0 ok sl h1 e => by
  refine hi b M E σ _ _ t0 ok sl h1 fun b1 M1 J items st t1 ok1 s1 T h2 => ?_
  obtain ⟨hlen, ⟨Pv, p0, turn, fin⟩⟩ := h2
  have hn : b1.al.length = n := by rw [ok1.len]; exact hlen
  have e1 : EndsOk K b1 b.I DA Dd := e.toW t1
  refine ⟨fun i m σ H => m = items.length - i ∧ i ≤ items.length ∧ ∃ (b : Wd) (M : Mem) (E : Env), b.H = H ∧ To b1 b ∧ Ok K b M ∧ Slots K b.al b.I E σ ∧ Pv i E M, ⟨items.length, by simp, Nat.zero_le _, b1, M1, E, rfl, To.refl _, ok1, sl.mono s1.same s1.pre, p0⟩, ?_⟩
  rintro i m σ1 _ ⟨rfl, hi', b2, M2, E2, rfl, t2, ok2, sl2, p2⟩
  by_cases hlt : i < items.length
  · have hd : items[i]? = some items[i] := by simp [hlt]
    obtain ⟨hst, hturn⟩ := turn i _ E2 M2 hd p2
    obtain ⟨hgo, hy⟩ := T.go b2 M2 i _ t2 ok2 hst hd
    refine .inr ⟨hgo, fun σ H => ∃ (b : Wd) (M : Mem) (E : Env), b.H = H ∧ To b1 b ∧ Ok K b M ∧ Slots K b.al b.I E σ ∧ Pv (i + 1) E M, fun σ H ⟨b, M, E, q⟩ => ⟨items.length - (i + 1), by omega, rfl, hlt, b, M, E, q⟩, fun x H3 y => ?_⟩
    obtain ⟨b3, rfl, ok3, s3, r3⟩ := hy x H3 y
    refine hg b1 hn b3 M2 E2 σ1 _ _ _ _ (t2.trans s3) ok3 (sl2.mono s3.same s3.pre) r3 hturn fun b4 M4 E4 σ4 t4 ok4 s4 sl4 _ h4 => ?_
    have e4 : EndsOk K b1 b4.I DA Dd := e1.mono (s1.same.trans t4.same)
    exact h b1 hn b4 M4 E4 σ4 _ _ t4 ok4 sl4 h4 ⟨fun b M E σ s t ok sl q => ⟨b, M, E, rfl, t, ok, sl, q⟩, e4.rt, e4.nx, fun b M E σ s t ok sl q => ⟨b, M, E, rfl, t, ok, sl, q⟩⟩
  · have e0 : i = items.length := by omega
    subst e0
    obtain ⟨hst, hnx⟩ := fin E2 M2 p2
    exact .inl ⟨T.stop b2 M2 t2 ok2 hst, e1.nx b2 M2 E2 σ1 (s1.same.trans t2.same) t2 ok2 sl2 hnx⟩
/-! ### comprehensions over and of these -/
structure LcA (items : List A) (st : Mem → Prop) (g : Ag) (tt : At) (a : Ae) (E : Env) (M : Mem) (Q : List A → Mem → Prop) : Prop where
  inv : ∃ Pv : Nat → List A → Mem → Prop, Pv 0 [] M ∧ (∀ i x acc M, items[i]? = some x → Pv i acc M → st M ∧ g x E M fun E1 M1 => tt E1 M1 fun c M2 => Fork c (a E1 M2 fun y M3 => Side (acc.length < sizeLine) (Pv (i + 1) (acc ++ [y]) M3)) (Pv (i + 1) acc M2)) ∧ ∀ acc M, Pv items.length acc M → st M ∧ Q acc M
def aLcA (cel : Bool) (w : Aia) (g : Ag) (tt : At) (a : Ae) (vs : List Nat) : Ae := fun E M Q => w E M fun items st M1 => LcA items st g tt a (wipeE E vs) M1 fun acc M2 => mkA cel acc M2 Q
theorem se_lcA {cel : Bool} {js : List Nat} {wi : TI} {g : TG} {tt : TT} {te : TE} {w : Aia} {ag : Ag} {at_ : At} {a : Ae} {vs : List Nat} (hj : ∀ j ∈ js, j ∈ vs) (hi : SIa K W wi w) (hg : SG K W js g ag) (ht : ST K W tt at_) (he : SE K W te a) :
    SE K W (tLc wi g tt te vs) (aLcA cel w ag at_ a vs) := by
  intro b M E σ QA Q t ok sl h k
  refine hi b M E σ _ _ t ok sl h fun b1 M1 J items st t1 ok1 s1 T h2 => ?_
  obtain ⟨Pv, p0, turn, fin⟩ := h2.inv
  intro Dd hD
  have putD : ∀ {b2 : Wd} {M2 : Mem} {o : HO}, Ok K b2 M2 → Dd ∉ b2.al → b2.I Dd = none → Ok K ⟨b2.I, b2.al, upd b2.H Dd o⟩ M2 := fun {b2 M2 o} ok2 nD nI =>
    ⟨fun x w (e : b2.I x = some w) => show upd b2.H Dd o x = some w by rw [upd_ne (ne_of_none e nI)]; exact ok2.ih x w e, ok2.len, ok2.nd, fun j x e (z : upd b2.H Dd o x = none) => by
      by_cases y : x = Dd
      · subst y; exact nD (List.mem_of_getElem? e)
      · rw [upd_ne y] at z; exact ok2.dom j x e z, fun j x c (e1 : b2.al[j]? = some x) e2 => show HasC K b2.al b2.I (upd b2.H Dd o) x c by
      have ne : x ≠ Dd := fun z => nD (z ▸ List.mem_of_getElem? e1)
      have q := ok2.at_ j x c e1 e2
      cases c with
      | gone => trivial
      | lst _ => exact q.mono (Same.refl _) (Pre.refl _) q.1 (by rw [upd_ne ne])
      | obj _ _ => exact q.mono (Same.refl _) (Pre.refl _) q.1 (by rw [upd_ne ne])
      | dic _ => exact q.mono (Same.refl _) (Pre.refl _) q.1 (by rw [upd_ne ne])
      | did _ => exact q.mono (Same.refl _) (Pre.refl _) q.1 (by rw [upd_ne ne])
      | lsa _ => exact q.mono (Same.refl _) (Pre.refl _) q.1 (by rw [upd_ne ne])
      | tpa _ => exact q.mono (Same.refl _) (Pre.refl _) q.1 (by rw [upd_ne ne])⟩
  have toD : ∀ {a b2 : Wd} {o : HO}, To a b2 → a.H Dd = none → To a ⟨b2.I, b2.al, upd b2.H Dd o⟩ := fun {a b2 o} t n =>
    ⟨t.same, fun x w e m => by
      have z := t.fr x w e m
      show upd b2.H Dd o x = some w
      rw [upd_ne (ne_of_none e n)]; exact z, t.fresh, fun x (e : upd b2.H Dd o x = none) => by
      by_cases z : x = Dd
      · subst z; rw [upd_same] at e; cases e
      · rw [upd_ne z] at e; exact t.dom x e, t.pre, t.new⟩
  have hDW : W.H Dd = none := t1.dom Dd hD
  refine ⟨fun i m H => m = items.length - i ∧ i ≤ items.length ∧ ∃ (b2 : Wd) (M2 : Mem) (acc : List A) (us : List V), b2.H = H ∧ To W b2 ∧ Ok K b2 M2 ∧ To b1 b2 ∧ Dd ∉ b2.al ∧ b2.I Dd = none ∧ b2.H Dd = some (.lst us) ∧ RepAs K b2.al b2.I acc us ∧ Pv i acc M2,
    ⟨items.length, by simp, Nat.zero_le _, ⟨b1.I, b1.al, upd b1.H Dd (.lst [])⟩, M1, [], [], rfl, toD t1 hDW, putD ok1 (ok1.nin hD) (ok1.iNone hD), toD (To.refl b1) hD, ok1.nin hD, ok1.iNone hD, upd_same, .nil, p0⟩, ?_⟩
  rintro i m _ ⟨rfl, hil, b2, M2, acc, us, rfl, t2, ok2, s2, nD, nI, eD, ra, p2⟩
  by_cases hlt : i < items.length
  · have hd : items[i]? = some items[i] := by simp [hlt]
    obtain ⟨hst, hturn⟩ := turn i _ acc M2 hd p2
    obtain ⟨hgo, hy⟩ := T.go b2 M2 i _ s2 ok2 hst hd
    refine .inr ⟨hgo, fun H => ∃ (b2 : Wd) (M2 : Mem) (acc : List A) (us : List V), b2.H = H ∧ To W b2 ∧ Ok K b2 M2 ∧ To b1 b2 ∧ Dd ∉ b2.al ∧ b2.I Dd = none ∧ b2.H Dd = some (.lst us) ∧ RepAs K b2.al b2.I acc us ∧ Pv (i + 1) acc M2, fun H q => ⟨items.length - (i + 1), by omega, rfl, hlt, q⟩, fun x H3 y => ?_⟩
    obtain ⟨b3, rfl, ok3, s3, r3⟩ := hy x H3 y
    have t3 : To W b3 := t2.trans s3
    have sl0 : Slots K b3.al b3.I (wipeE E vs) (wipe σ vs) := slots_wipe (sl.mono ((s1.trans s2).trans s3).same ((s1.trans s2).trans s3).pre) vs
    have keepD : ∀ {c : Wd} {N : Mem}, To b2 c → Ok K c N → Dd ∉ c.al ∧ c.I Dd = none ∧ c.H Dd = some (.lst us) := fun {c N} tc okc => by
      have n1 : Dd ∉ c.al := fun z => by
        rcases tc.new Dd z with z | z
        · exact nD z
        · rw [eD] at z; cases z
      refine ⟨n1, ?_, tc.fr Dd _ eD nD⟩
      cases e : c.I Dd with
      | none => rfl
      | some o =>
        have := tc.fresh Dd nI (by rw [e]; exact fun z => nomatch z)
        rw [eD] at this; cases this
    refine hg b3 M2 _ _ _ _ _ _ t3 ok3 sl0 r3 hturn fun b4 M4 E4 σ4 t4 ok4 s4 sl4 w4 h4 => ?_
    refine ⟨(w4 vs hj).trans (wipe_idem σ vs vs fun v h => h), ?_⟩
    refine ht b4 M4 E4 σ4 _ _ t4 ok4 sl4 h4 fun b5 M5 c t5 ok5 s5 h5 => ?_
    have s25 : To b2 b5 := (s3.trans s4).trans s5
    cases c with
    | false =>
      obtain ⟨n1, n2, n3⟩ := keepD s25 ok5
      exact ⟨b5, M5, acc, us, rfl, t5, ok5, s2.trans s25, n1, n2, n3, ra.mono s25.same s25.pre, h5.f rfl⟩
    | true =>
      refine he b5 M5 E4 σ4 _ _ t5 ok5 (sl4.mono s5.same s5.pre) (h5.t rfl) fun b6 M6 z v t6 ok6 s6 r6 h6 => ?_
      have s26 : To b2 b6 := s25.trans s6
      obtain ⟨n1, n2, n3⟩ := keepD s26 ok6
      obtain ⟨hl, q⟩ := h6
      have ra6 := ra.mono s26.same s26.pre
      exact ⟨us, n3, by rw [← ra.length]; exact hl, ⟨b6.I, b6.al, upd b6.H Dd (.lst (us ++ [v]))⟩, M6, _, _, rfl, toD t6 hDW, putD ok6 n1 n2, toD (s2.trans s26) hD, n1, n2, upd_same, ra6.appA (.cons r6 .nil), q⟩
  · have e1 : i = items.length := by omega
    subst e1
    obtain ⟨hst, q⟩ := fin acc M2 p2
    refine .inl ⟨T.stop b2 M2 s2 ok2 hst, ?_⟩
    have s02 := s1.trans s2
    have asCell : ∀ c : Cell, HasC K (b2.al ++ [Dd]) b2.I b2.H Dd c → QA (.cell M2.length) (M2 ++ [c]) → Q (.ref Dd) b2.H := fun c hc q => by
      refine k ⟨b2.I, b2.al ++ [Dd], b2.H⟩ _ (.cell M2.length) (.ref Dd) ?_ ?_ ?_ (.cell (by rw [← ok2.len]; exact len_get)) q
      · exact ⟨t2.same, t2.fr, t2.fresh, t2.dom, t2.pre.trans (Pre.snoc _ _), fun x (e : x ∈ b2.al ++ [Dd]) => by
          rcases List.mem_append.mp e with e | e
          · exact t2.new x e
          · simp at e; subst e; exact .inr hDW⟩
      · refine ⟨ok2.ih, by show (b2.al ++ [Dd]).length = _; rw [List.length_append, List.length_append, ok2.len] <;> rfl, ?_, ?_, ?_⟩
        · show (b2.al ++ [Dd]).Nodup
          rw [List.nodup_append]
          exact ⟨ok2.nd, by simp, fun a ha c hc z => by simp at hc; subst hc; subst z; exact nD ha⟩
        · intro kk a (e : (b2.al ++ [Dd])[kk]? = some a) z
          rcases List.mem_append.mp (List.mem_of_getElem? e) with e | e
          · obtain ⟨j, hj2⟩ := List.getElem?_of_mem e
            exact ok2.dom j a hj2 z
          · simp at e; subst e; rw [eD] at z; cases z
        · intro kk a c' (e1 : (b2.al ++ [Dd])[kk]? = some a) e2
          show HasC K (b2.al ++ [Dd]) b2.I b2.H a c'
          by_cases hk : kk < b2.al.length
          · rw [List.getElem?_append_left hk] at e1
            rw [List.getElem?_append_left (by rw [← ok2.len]; exact hk)] at e2
            have q2 := ok2.at_ kk a c' e1 e2
            cases c' with
            | gone => trivial
            | lst _ => exact q2.mono (Same.refl _) (Pre.snoc _ _) q2.1 rfl
            | obj _ _ => exact q2.mono (Same.refl _) (Pre.snoc _ _) q2.1 rfl
            | dic _ => exact q2.mono (Same.refl _) (Pre.snoc _ _) q2.1 rfl
            | did _ => exact q2.mono (Same.refl _) (Pre.snoc _ _) q2.1 rfl
            | lsa _ => exact q2.mono (Same.refl _) (Pre.snoc _ _) q2.1 rfl
            | tpa _ => exact q2.mono (Same.refl _) (Pre.snoc _ _) q2.1 rfl
          · have hlen := ok2.len
            rw [List.getElem?_append_right (by omega)] at e1 e2
            have hk1 : kk - b2.al.length = 0 := by
              have := (List.getElem?_eq_some_iff.mp e1).1
              simp at this; omega
            have hk2 : kk - M2.length = 0 := by omega
            rw [hk1] at e1; rw [hk2] at e2
            simp at e1 e2
            subst e1; subst e2
            exact hc
      · exact ⟨s02.same, s02.fr, s02.fresh, s02.dom, s02.pre.trans (Pre.snoc _ _), fun x (e : x ∈ b2.al ++ [Dd]) => by
          rcases List.mem_append.mp e with e | e
          · exact s02.new x e
          · simp at e; subst e; exact .inr (s1.dom _ hD)⟩
    unfold mkA at q
    split at q
    · rename_i ds hds
      have rd := allD_reps hds ra
      cases cel with
      | true => exact asCell (.lst ds) ⟨nI, us, eD, rd⟩ q
      | false =>
        have same2 : Same b2.I (upd b2.I Dd (.lst us)) := same_new nI
        have toF : ∀ {a : Wd}, To a b2 → a.H Dd = none → To a ⟨upd b2.I Dd (.lst us), b2.al, b2.H⟩ := fun {a} t n =>
          ⟨t.same.trans same2, t.fr, fun x e (m : upd b2.I Dd (.lst us) x ≠ none) => by
            by_cases z : x = Dd
            · subst z; exact n
            · rw [upd_ne z] at m; exact t.fresh x e m, t.dom, t.pre, t.new⟩
        refine k ⟨upd b2.I Dd (.lst us), b2.al, b2.H⟩ M2 (.d (.lst ds)) (.ref Dd) (toF t2 hDW) ?_ (toF s02 (s1.dom _ hD)) (.d (.lst upd_same (rd.mono same2))) q
        refine ⟨fun x w (e : upd b2.I Dd (.lst us) x = some w) => show b2.H x = some w by
          by_cases z : x = Dd
          · subst z; rw [upd_same] at e; rw [← e]; exact eD
          · rw [upd_ne z] at e; exact ok2.ih x w e, ok2.len, ok2.nd, ok2.dom, fun j x c (e1 : b2.al[j]? = some x) e2 => show HasC K b2.al (upd b2.I Dd (.lst us)) b2.H x c by
          have ne : x ≠ Dd := fun z => nD (z ▸ List.mem_of_getElem? e1)
          have q2 := ok2.at_ j x c e1 e2
          cases c with
          | gone => trivial
          | lst _ => exact q2.mono same2 (Pre.refl _) (by rw [upd_ne ne]; exact q2.1) rfl
          | obj _ _ => exact q2.mono same2 (Pre.refl _) (by rw [upd_ne ne]; exact q2.1) rfl
          | dic _ => exact q2.mono same2 (Pre.refl _) (by rw [upd_ne ne]; exact q2.1) rfl
          | did _ => exact q2.mono same2 (Pre.refl _) (by rw [upd_ne ne]; exact q2.1) rfl
          | lsa _ => exact q2.mono same2 (Pre.refl _) (by rw [upd_ne ne]; exact q2.1) rfl
          | tpa _ => exact q2.mono same2 (Pre.refl _) (by rw [upd_ne ne]; exact q2.1) rfl⟩
    · exact asCell (.lsa acc) ⟨nI, us, eD, ra.mono (Same.refl _) (Pre.snoc _ _)⟩ q
end
structure AIa (X : Cx) (W : Wd) (tg e : Expr) (w : TI) (a : Aia) : Prop where
  pi : PI X tg e w
  si : SIa X.K W w a
section
variable {X : Cx} {W : Wd} {K : PySem.W.Frag} {pos : Pos} {e tg elt iter : Expr} {t : TE} {a : Ae} {js : List Nat}
theorem k_listA (h : AE X W e t a) (hK : X.K = K := by rfl) : AIa X W tg e (iList K t) (aiaL a) := by subst hK; exact ⟨pi_list h.pe, sia_L h.se⟩
theorem k_tupA (h : AE X W e t a) (hK : X.K = K := by rfl) : AIa X W tg e (iTup K t) (aiaT a) := by subst hK; exact ⟨pi_tup h.pe, sia_T h.se⟩
theorem k_itA {w : TI} {ai : Ai} (h : AI X W tg e w ai) : AIa X W tg e w (aiaOf ai) := ⟨h.pi, sia_of h.si⟩
theorem as_forA {body : List Stmt} {u : TS} {b : As} {gg : TG} {ag : Ag} {wi : TI} {w : Aia} (n : Nat) (hp : PassesOwn (model X.prog X.w) X.A X.env X.xe) (hc : X.calm = true) (hi : AIa X W tg e wi w) (hg : ∀ W' : Wd, W'.al.length = n → AG X W' tg js gg ag) (h : ∀ W' : Wd, W'.al.length = n → ASs X W' body u b)
    (hW : ∃ W' : Wd, W'.al.length = n := by exact ⟨⟨fun _ => none, List.replicate _ 0, fun _ => none⟩, List.length_replicate⟩) (hs : ∀ x, foldedSetIterable e X.env x = pure x := by intro _; rfl) :
    AS X W (.For tg e body [] pos) (tFor wi gg u) (aForA n w ag b) := by
  obtain ⟨W', hW'⟩ := hW
  exact ⟨ps_for hp hc hi.pi (hg W' hW').pg (h W' hW').ps hs, ss_forA hi.si (fun W' hl => (hg W' hl).sg) (fun W' hl => (h W' hl).ss)⟩
theorem ae_lcA {ifs : List Expr} {scope : Scope} {wi : TI} {w : Aia} {g : TG} {ag : Ag} {tt : TT} {at_ : At} (cel : Bool) (own : List (Str × Nat)) (hc : X.calm = true) (hN : X.N.Nodup) (hi : AIa X W tg iter wi w) (ok : BlkOk X.N X.env.scope scope own)
    (hg : ∀ (s : Shared) (H : Hp) (C : Addr) (cl : List (Str × Addr)) (fp : List Addr), AG (X.blk s H scope (compEnvC scope cl C X.env) fp) W tg js g ag)
    (ht : ∀ (s : Shared) (H : Hp) (C : Addr) (cl : List (Str × Addr)) (fp : List Addr), ATs (X.blk s H scope (compEnvC scope cl C X.env) fp) W ifs tt at_)
    (he : ∀ (s : Shared) (H : Hp) (C : Addr) (cl : List (Str × Addr)) (fp : List Addr), AE (X.blk s H scope (compEnvC scope cl C X.env) fp) W elt t a) (hj : ∀ j ∈ js, j ∈ own.map (·.2) := by decide) (hs : ∀ x, foldedSetIterable iter X.env x = pure x := by intro _; rfl) :
    AE X W (.ListComp elt [⟨tg, iter, ifs, 0⟩] scope pos) (tLc wi g tt t (own.map (·.2))) (aLcA cel w ag at_ a (own.map (·.2))) :=
  ⟨pe_lc hc hN hi.pi ok (fun s H C cl fp => (hg s H C cl fp).pg) (fun s H C cl fp => (ht s H C cl fp).pt) (fun s H C cl fp => (he s H C cl fp).pe) hs,
    se_lcA hj hi.si (hg X.s_0 (fun _ => none) 0 [] []).sg (ht X.s_0 (fun _ => none) 0 [] []).st (he X.s_0 (fun _ => none) 0 [] []).se⟩
theorem as_setLcA {y : Str} {py spos : Pos} {ifs : List Expr} {scope : Scope} {wi : TI} {w : Aia} {g : TG} {ag : Ag} {tt : TT} {at_ : At} (i : Nat) (cel : Bool) (own : List (Str × Nat)) (hc : X.calm = true) (hN : X.N.Nodup) (hy : X.N[i]? = some y) (hyl : X.env.scope.names.lookup y = some .local)
    (hsw : swapsWith (.ListComp elt [⟨tg, iter, ifs, 0⟩] scope pos) (some (.Name y py)) spos.line X.env = pure true) (hi : AIa X W tg iter wi w) (ok : BlkOk X.N X.env.scope scope own)
    (hg : ∀ (s : Shared) (H : Hp) (C : Addr) (cl : List (Str × Addr)) (fp : List Addr), AG (X.blk s H scope (compEnvC scope cl C X.env) fp) W tg js g ag)
    (ht : ∀ (s : Shared) (H : Hp) (C : Addr) (cl : List (Str × Addr)) (fp : List Addr), ATs (X.blk s H scope (compEnvC scope cl C X.env) fp) W ifs tt at_)
    (he : ∀ (s : Shared) (H : Hp) (C : Addr) (cl : List (Str × Addr)) (fp : List Addr), AE (X.blk s H scope (compEnvC scope cl C X.env) fp) W elt t a) (hj : ∀ j ∈ js, j ∈ own.map (·.2) := by decide) (hs : ∀ x, foldedSetIterable iter X.env x = pure x := by intro _; rfl) :
    AS X W (.Assign [.Name y py] (.ListComp elt [⟨tg, iter, ifs, 0⟩] scope pos) spos) (tAsg (tLc wi g tt t (own.map (·.2))) (gName i)) (aAsg (aLcA cel w ag at_ a (own.map (·.2))) (aName i)) :=
  ⟨ps_setLc hc hN hy hyl hsw hi.pi ok (fun s H C cl fp => (hg s H C cl fp).pg) (fun s H C cl fp => (ht s H C cl fp).pt) (fun s H C cl fp => (he s H C cl fp).pe) hs,
    ss_asg (se_lcA hj hi.si (hg X.s_0 (fun _ => none) 0 [] []).sg (ht X.s_0 (fun _ => none) 0 [] []).st (he X.s_0 (fun _ => none) 0 [] []).se) sg_name⟩
end
end G

set_option Elab.async false
set_option linter.all false
set_option maxRecDepth 100000
namespace G
open PySem PySem.Spec PyProof.Rows L2
/-! ### a call that is lent what its cells hold, deep -/
def LCallA (sp : ASp) (xs : List A) (M : Mem) (Q : A → Mem → Prop) : Prop := match mapD (deepA M 6) xs with
  | some ds => sp (ds.map A.d) [] (fun z _ => flatR z fun w => Q w M) (fun _ _ _ => False)
  | none => False
section
variable {K : PySem.W.Frag} {W : Wd}
theorem lendA_call {b : Wd} {M : Mem} {xs : List A} {vs : List V} {sp : ASp} {QA : A → Mem → Prop} {Q : VK} (t : To W b) (ok : Ok K b M) (r : RepAs K b.al b.I xs vs) (h : LCallA sp xs M QA)
    (k : ∀ b' M' z w, To W b' → Ok K b' M' → Step b b' → RepA K b'.al b'.I z w → QA z M' → Q w b'.H) : conc K sp vs b.H Q E0 := by
  unfold LCallA at h
  split at h
  · rename_i ds e
    have rd : Reps K b.H ds vs := mapD_rep (fun x v d r e => deepA_rep ok 6 r e) r e
    refine ⟨⟨b.H, [], b.H⟩, [], ds.map A.d, _, _, rfl, bor_in ok, repsA rd, h, fun b1 M1 z v t1 ok1 r1 q => ?_, fun _ _ _ _ _ _ _ _ _ _ q => q.elim⟩
    obtain ⟨st, ok2⟩ := bor_back ok t1
    have fin : ∀ z : A, ∀ v, (∀ I, RepA K b.al I z v) → QA z M → Q v b1.H := fun z v hz q => k ⟨b.I, b.al, b1.H⟩ M z v (t.trans st) ok2 st (hz _) q
    unfold flatR at q
    split at q
    · cases rep_non_inv (repA_d r1); exact fin _ _ (fun _ => .d .non) q
    · cases rep_bl_inv (repA_d r1); exact fin _ _ (fun _ => .d (.bl _)) q
    · cases rep_int_inv (repA_d r1); exact fin _ _ (fun _ => .d (.int _)) q
    · cases rep_str_inv (repA_d r1); exact fin _ _ (fun _ => .d (.str _)) q
    · exact q.elim
  · exact h.elim
def aLendA (sp : ASp) (dv : List D) (as : Aa) : Ae := fun E M Q => as E M fun xs M1 => LCallA sp (xs ++ dv.map A.d) M1 Q
theorem se_lendA {sp : ASp} {dv : List D} {as : Aa} {t : TA} (hd : dv.all flatB = true) (h : SA K W t as) : SE K W (tCall (conc K sp) (dv.map vOf) E0 t) (aLendA sp dv as) := by
  intro b M E σ QA Q t0 ok sl h1 k
  refine h b M E σ _ _ t0 ok sl h1 fun b1 M1 xs vs t1 ok1 s1 r1 h2 => ?_
  exact lendA_call t1 ok1 (r1.app (reps_d (flat_reps hd))) h2 fun b2 M2 z w t2 ok2 s2 r2 q => k b2 M2 z w t2 ok2 (s1.trans s2) r2 q
end
section
variable {X : Cx} {W : Wd} {K : PySem.W.Frag} {pos p : Pos} {e : Expr} {es : List Expr} {ts : TA} {as : Aa} {x : Str} {sp : ASp} {k j : Nat} {dv : List D}
theorem k_lendA (F : Def X.prog X.w X.K X.mg X.base x k sp dv) (hr : Room j X.A) (hkj : k ≤ j) (ha : AA X W (e :: es) ts as) (hg : Gl X x := by rfl) (hdb : (x == ("__debug__" : Str)) = false := by decide)
    (he : starEach (e :: es) X.env = (false, eval e X.env) :: starEach es X.env := by rfl) (hpl : (backTo pos (starEach es X.env)).any (·.1) = false := by rfl) (hK : X.K = K := by rfl) : AE X W (.Call (.Name x p) (e :: es) [] pos) (tCall (conc K sp) (dv.map vOf) E0 ts) (aLendA sp dv as) := by
  subst hK
  obtain ⟨f, fd, ps, ds, F, hm, hk, hb, hd, hf⟩ := F
  exact ⟨pe_call F (hr.mono hkj) hg hm hk hb hd pass0 ha.pa hdb he hpl, se_lendA hf ha.sa⟩
end
end G

set_option Elab.async false
set_option linter.all false
set_option maxRecDepth 100000
namespace G
open PySem PySem.Spec PyProof.Rows L2
/-! ### dicts that change, dicts that stand still -/
def keyOf : D → Option Key
  | .str s => some (.inr s)
  | .int i => some (.inl i)
  | _ => none
def keyD : Key → D
  | .inl i => .int i
  | .inr s => .str s
/-- what a dict holds at a key -/
def getK {α : Type} (k : Key) : List (Key × α) → Option α
  | [] => none
  | (x, a) :: r => match decide (x = k) with
    | true => some a
    | false => getK k r
/-- in its place, or at the end -/
def setK {α : Type} (k : Key) (v : α) : List (Key × α) → List (Key × α)
  | [] => [(k, v)]
  | (x, a) :: r => match decide (x = k) with
    | true => (x, v) :: r
    | false => (x, a) :: setK k v r
/-- the entries of a dict of either kind -/
def dicOf (x : A) (M : Mem) : Option (List (Key × A)) := match x with
  | .d (.dic kvs) => some (kvs.map fun p => (p.1, A.d p.2))
  | .cell k => match M[k]? with
    | some (.dic kvs) => some kvs
    | some (.did kvs) => some (kvs.map fun p => (p.1, A.d p.2))
    | _ => none
  | _ => none
section
variable {K : PySem.W.Frag} {W : Wd}
theorem keyOf_rep {I : Hp} {d : D} {k : Key} {v : V} (h : keyOf d = some k) (r : Rep K I d v) : v = kV k := by
  cases d <;> first | (cases h; done) | skip
  · cases h; cases rep_int_inv r; rfl
  · cases h; cases rep_str_inv r; rfl
theorem repK_A {al : List Addr} {I : Hp} : ∀ {kvs : List (Key × D)} {gs : List (Key × V)}, RepK K I kvs gs → RepAK K al I (kvs.map fun p => (p.1, A.d p.2)) gs
  | _, _, .nil => .nil
  | _, _, .cons r t => .cons (.d r) (repK_A t)
theorem repAK_len {al : List Addr} {I : Hp} : ∀ {kvs : List (Key × A)} {gs : List (Key × V)}, RepAK K al I kvs gs → kvs.length = gs.length
  | _, _, .nil => rfl
  | _, _, .cons _ t => by rw [List.length_cons, List.length_cons, repAK_len t]
theorem repAK_keys {al : List Addr} {I : Hp} : ∀ {kvs : List (Key × A)} {gs : List (Key × V)}, RepAK K al I kvs gs → gs.map (·.1) = kvs.map (·.1)
  | _, _, .nil => rfl
  | _, _, .cons _ t => by rw [List.map_cons, List.map_cons, repAK_keys t]
theorem getK_rep {al : List Addr} {I : Hp} {k : Key} : ∀ {kvs : List (Key × A)} {gs : List (Key × V)}, RepAK K al I kvs gs →
    (getK k kvs = none ∧ valV gs k = none) ∨ ∃ a v, getK k kvs = some a ∧ valV gs k = some v ∧ RepA K al I a v
  | _, _, .nil => .inl ⟨rfl, rfl⟩
  | _, _, @RepAK.cons _ _ _ x d v ds vs r t => by
    by_cases e : x = k
    · refine .inr ⟨d, v, ?_, valV_pos e, r⟩
      show (match decide (x = k) with | true => some d | false => getK k ds) = some d
      rw [decide_eq_true e]
    · have h1 : getK k ((x, d) :: ds) = getK k ds := by
        show (match decide (x = k) with | true => some d | false => getK k ds) = _
        rw [decide_eq_false e]
      have h2 : valV ((x, v) :: vs) k = valV vs k := valV_neg e
      rw [h1, h2]
      exact getK_rep t
theorem setK_rep {al : List Addr} {I : Hp} {k : Key} {a : A} {u : V} (ra : RepA K al I a u) : ∀ {kvs : List (Key × A)} {gs : List (Key × V)}, RepAK K al I kvs gs → (gs.map (·.1)).Nodup → RepAK K al I (setK k a kvs) (putK gs k u)
  | _, _, .nil, _ => .cons ra .nil
  | _, _, @RepAK.cons _ _ _ x d v ds vs r t, nd => by
    rw [List.map_cons, List.nodup_cons] at nd
    by_cases e : x = k
    · subst e
      have h1 : setK x a ((x, d) :: ds) = (x, a) :: ds := by
        show (match decide (x = x) with | true => (x, a) :: ds | false => (x, d) :: setK x a ds) = _
        rw [decide_eq_true rfl]
      have hm : vs.map (fun kv => if kv.1 = x then (kv.1, u) else kv) = vs := by
        have : ∀ l : List (Key × V), x ∉ l.map (·.1) → l.map (fun kv => if kv.1 = x then (kv.1, u) else kv) = l := by
          intro l
          induction l with
          | nil => intro _; rfl
          | cons p l ih =>
            intro h
            rw [List.map_cons, List.mem_cons, not_or] at h
            rw [List.map_cons, ih h.2, if_neg (fun z => h.1 z.symm)]
        exact this vs nd.1
      have h2 : putK ((x, v) :: vs) x u = (x, u) :: vs := by
        unfold putK
        rw [List.any_cons, decide_eq_true rfl, Bool.true_or, if_pos rfl, List.map_cons, if_pos rfl, hm]
      rw [h1, h2]
      exact .cons ra t
    · have h1 : setK k a ((x, d) :: ds) = (x, d) :: setK k a ds := by
        show (match decide (x = k) with | true => (x, a) :: ds | false => (x, d) :: setK k a ds) = _
        rw [decide_eq_false e]
      have h2 : putK ((x, v) :: vs) k u = (x, v) :: putK vs k u := by
        unfold putK
        rw [List.any_cons, decide_eq_false e, Bool.false_or]
        split
        · rw [List.map_cons, if_neg e]
        · rw [List.cons_append]
      rw [h1, h2]
      exact .cons r (setK_rep ra t nd.2)
theorem setK_repD {I : Hp} {k : Key} {a : D} {u : V} (ra : Rep K I a u) : ∀ {kvs : List (Key × D)} {gs : List (Key × V)}, RepK K I kvs gs → (gs.map (·.1)).Nodup → RepK K I (setK k a kvs) (putK gs k u) := by
  intro kvs gs r nd
  have h := setK_rep (al := []) (.d ra) (repK_A (al := []) r) nd (k := k)
  have e : setK k (A.d a) (kvs.map fun p => (p.1, A.d p.2)) = (setK k a kvs).map fun p => (p.1, A.d p.2) := by
    clear r nd h
    induction kvs with
    | nil => rfl
    | cons p r ih =>
      obtain ⟨x, b⟩ := p
      show (match decide (x = k) with | true => (x, A.d a) :: r.map (fun p => (p.1, A.d p.2)) | false => (x, A.d b) :: setK k (A.d a) (r.map fun p => (p.1, A.d p.2))) = List.map _ (match decide (x = k) with | true => (x, a) :: r | false => (x, b) :: setK k a r)
      cases decide (x = k) with
      | true => rfl
      | false => show _ :: _ = _ :: _; rw [ih]
  rw [e] at h
  generalize setK k a kvs = l at h
  generalize putK gs k u = us at h
  clear e r nd
  induction l generalizing us with
  | nil => cases h; exact .nil
  | cons p l ih =>
    cases h with
    | cons r1 r2 => exact .cons (repA_d r1) (ih _ r2)
theorem dicOf_ok {b : Wd} {M : Mem} {x : A} {v : V} {l : List (Key × A)} (ok : Ok K b M) (r : RepA K b.al b.I x v) (h : dicOf x M = some l) : ∃ p gs, v = .ref p ∧ b.H p = some (.dK gs) ∧ RepAK K b.al b.I l gs := by
  unfold dicOf at h
  split at h
  · cases h
    cases repA_d r with
    | dic hp rs => exact ⟨_, _, rfl, ok.ih _ _ hp, repK_A rs⟩
  · split at h
    · rename_i e
      cases h
      obtain ⟨p, ha, rfl⟩ := cell_addr r
      obtain ⟨_, gs, hv, rs⟩ := ok.at_ _ _ _ ha e
      exact ⟨_, _, rfl, hv, rs⟩
    · rename_i e
      cases h
      obtain ⟨p, ha, rfl⟩ := cell_addr r
      obtain ⟨_, gs, hv, rs⟩ := ok.at_ _ _ _ ha e
      exact ⟨_, _, rfl, hv, repK_A rs⟩
    · cases h
  · cases h
/-- {} -/
def aDnew : Ae := fun _ M Q => Q (.cell M.length) (M ++ [.did []])
theorem se_dnew : SE K W tDNewK aDnew := fun b M E σ QA Q t ok sl h k => new_cellC t ok (c := .did []) (fun p hp => ⟨ok.iNone hp, [], upd_same, .nil⟩) h k
/-- d[k] -/
def aDgetK (a c : Ae) : Ae := fun E M Q => a E M fun x M1 => c E M1 fun y M2 => match dicOf x M2, y with
  | some kvs, .d y => Opt (keyOf y) fun k => Opt (getK k kvs) fun v => Q v M2
  | _, _ => False
theorem se_dgetK {t u : TE} {a c : Ae} (h : SE K W t a) (g : SE K W u c) : SE K W (tDGet t u) (aDgetK a c) := by
  intro b M E σ QA Q t0 ok sl h1 k
  refine h b M E σ _ _ t0 ok sl h1 fun b1 M1 x v t1 ok1 s1 r1 h2 => ?_
  refine g b1 M1 E σ _ _ t1 ok1 (sl.mono s1.same s1.pre) h2 fun b2 M2 y w t2 ok2 s2 r2 h3 => ?_
  have r1' := r1.mono s2.same s2.pre
  split at h3
  · rename_i kvs y e
    obtain ⟨kk, ek, z, ez, q⟩ := h3
    obtain ⟨p, gs, rfl, hv, rs⟩ := dicOf_ok ok2 r1' e
    have ew := keyOf_rep ek (repA_d r2)
    subst ew
    rcases getK_rep (k := kk) rs with ⟨n1, _⟩ | ⟨z', v', e1, e2, rv⟩
    · rw [n1] at ez; cases ez
    · rw [e1] at ez; cases ez
      refine ⟨p, v', rfl, ?_, k b2 M2 z v' t2 ok2 (s1.trans s2) rv q⟩
      rw [← e2]; exact DGet.k hv
  · exact h3.elim
/-- k in d, k not in d -/
def aDinK (neg : Bool) (c a : Ae) : Ae := fun E M Q => c E M fun y M1 => a E M1 fun x M2 => match dicOf x M2, y with
  | some kvs, .d y => Opt (keyOf y) fun k => Q (.d (.bl (ng neg (getK k kvs).isSome))) M2
  | _, _ => False
theorem din_go {b : Wd} {M : Mem} {x : A} {y : D} {v w : V} {kvs : List (Key × A)} {kk : Key} (ok : Ok K b M) (r1 : RepA K b.al b.I x v) (e : dicOf x M = some kvs) (ek : keyOf y = some kk) (r2 : Rep K b.I y w) : ∃ p o, v = .ref p ∧ DGet b.H p w o ∧ o.isSome = (getK kk kvs).isSome := by
  obtain ⟨p, gs, rfl, hv, rs⟩ := dicOf_ok ok r1 e
  have ew := keyOf_rep ek r2
  subst ew
  refine ⟨p, valV gs kk, rfl, DGet.k hv, ?_⟩
  rcases getK_rep (k := kk) rs with ⟨n1, n2⟩ | ⟨z', v', e1, e2, _⟩
  · rw [n1, n2]; rfl
  · rw [e1, e2]; rfl
theorem se_dinK {t u : TE} {a c : Ae} (g : SE K W u c) (h : SE K W t a) : SE K W (tDIn u t) (aDinK false c a) := by
  intro b M E σ QA Q t0 ok sl h1 k
  refine g b M E σ _ _ t0 ok sl h1 fun b1 M1 y w t1 ok1 s1 r1 h2 => ?_
  refine h b1 M1 E σ _ _ t1 ok1 (sl.mono s1.same s1.pre) h2 fun b2 M2 x v t2 ok2 s2 r2 h3 => ?_
  split at h3
  · rename_i kvs y e
    obtain ⟨kk, ek, q⟩ := h3
    obtain ⟨p, o, rfl, hd, ho⟩ := din_go ok2 r2 e ek ((repA_d r1).mono s2.same)
    refine ⟨p, o, rfl, hd, k b2 M2 _ _ t2 ok2 (s1.trans s2) (.d ?_) q⟩
    show Rep K b2.I (.bl (getK kk kvs).isSome) (.bl o.isSome)
    rw [ho]; exact .bl _
  · exact h3.elim
theorem se_dnotinK {t u : TE} {a c : Ae} (g : SE K W u c) (h : SE K W t a) : SE K W (tDNotIn u t) (aDinK true c a) := by
  intro b M E σ QA Q t0 ok sl h1 k
  refine g b M E σ _ _ t0 ok sl h1 fun b1 M1 y w t1 ok1 s1 r1 h2 => ?_
  refine h b1 M1 E σ _ _ t1 ok1 (sl.mono s1.same s1.pre) h2 fun b2 M2 x v t2 ok2 s2 r2 h3 => ?_
  split at h3
  · rename_i kvs y e
    obtain ⟨kk, ek, q⟩ := h3
    obtain ⟨p, o, rfl, hd, ho⟩ := din_go ok2 r2 e ek ((repA_d r1).mono s2.same)
    refine ⟨p, o, rfl, hd, k b2 M2 _ _ t2 ok2 (s1.trans s2) (.d ?_) q⟩
    show Rep K b2.I (.bl (!(getK kk kvs).isSome)) (.bl (!o.isSome))
    rw [ho]; exact .bl _
  · exact h3.elim
/-- d[k] = v -/
def aDput (a c v : Ae) : As := fun Q E M => v E M fun z M1 => a E M1 fun x M2 => c E M2 fun y M3 => match x, y with
  | .cell j, .d y => match M3[j]? with
    | some (.dic kvs) => Opt (keyOf y) fun k => Side ((kvs.map (·.1)).Nodup ∧ kvs.length < sizeLine) (Q.nx E (M3.set j (.dic (setK k z kvs))))
    | some (.did kvs) => (match z with
      | .d d => Opt (keyOf y) fun k => Side ((kvs.map (·.1)).Nodup ∧ kvs.length < sizeLine) (Q.nx E (M3.set j (.did (setK k d kvs))))
      | .cell _ => False)
    | _ => False
  | _, _ => False
theorem ss_dput {t u tv : TE} {a c v : Ae} (h : SE K W t a) (g : SE K W u c) (hv : SE K W tv v) : SS K W (sDPut t u tv) (aDput a c v) := fun b M E σ DA Dd t0 ok sl h1 e => by
  refine hv b M E σ _ _ t0 ok sl h1 fun b1 M1 z vz t1 ok1 s1 r1 h2 => ?_
  refine h b1 M1 E σ _ _ t1 ok1 (sl.mono s1.same s1.pre) h2 fun b2 M2 x vx t2 ok2 s2 r2 h3 => ?_
  have s12 := s1.trans s2
  refine g b2 M2 E σ _ _ t2 ok2 (sl.mono s12.same s12.pre) h3 fun b3 M3 y vy t3 ok3 s3 r3 h4 => ?_
  have s13 := s12.trans s3
  split at h4
  · split at h4
    · rename_i j y kvs em
      obtain ⟨kk, ek, ⟨nd, hl⟩, q⟩ := h4
      obtain ⟨p, ha, rfl⟩ := cell_addr (r2.mono s3.same s3.pre)
      obtain ⟨hn, gs, hg, rs⟩ := ok3.at_ _ _ _ ha em
      have ew := keyOf_rep ek (repA_d r3)
      subst ew
      have rz := r1.mono (s2.trans s3).same (s2.trans s3).pre
      have hk := repAK_keys rs
      refine ⟨p, _, rfl, DPut.k hg (by rw [← repAK_len rs]; exact hl), ?_⟩
      exact e.nx ⟨b3.I, b3.al, upd b3.H p _⟩ _ E σ s13.same (t3.put ha) (ok3.put (c := .dic (setK kk z kvs)) ha hn ⟨hn, _, upd_same, setK_rep rz rs (by rw [hk]; exact nd)⟩) (sl.mono s13.same s13.pre) q
    · rename_i j y kvs em
      split at h4
      · rename_i d
        obtain ⟨kk, ek, ⟨nd, hl⟩, q⟩ := h4
        obtain ⟨p, ha, rfl⟩ := cell_addr (r2.mono s3.same s3.pre)
        obtain ⟨hn, gs, hg, rs⟩ := ok3.at_ _ _ _ ha em
        have ew := keyOf_rep ek (repA_d r3)
        subst ew
        have rz := repA_d (r1.mono (s2.trans s3).same (s2.trans s3).pre)
        have rsA : RepAK K b3.al b3.I (kvs.map fun p => (p.1, A.d p.2)) gs := repK_A rs
        have hk := repAK_keys rsA
        have ln := repAK_len rsA
        rw [List.map_map] at hk
        rw [List.length_map] at ln
        refine ⟨p, _, rfl, DPut.k hg (by rw [← ln]; exact hl), ?_⟩
        exact e.nx ⟨b3.I, b3.al, upd b3.H p _⟩ _ E σ s13.same (t3.put ha) (ok3.put (c := .did (setK kk d kvs)) ha hn ⟨hn, _, upd_same, setK_repD rz rs (by rw [hk]; exact nd)⟩) (sl.mono s13.same s13.pre) q
      · exact h4.elim
    · exact h4.elim
  · exact h4.elim
/-- sorted(d), d's keys being texts -/
def strKs {α : Type} : List (Key × α) → Option (List Str)
  | [] => some []
  | (.inr s, _) :: r => match strKs r with
    | some l => some (s :: l)
    | none => none
  | (.inl _, _) :: _ => none
theorem strKs_ok {α : Type} : ∀ {kvs : List (Key × α)} {ks : List Str}, strKs kvs = some ks → kvs.map (·.1) = ks.map Sum.inr
  | [], ks, h => by cases h; rfl
  | (.inr s, _) :: r, ks, h => by
    unfold strKs at h
    split at h
    · rename_i l e
      cases h
      rw [List.map_cons, List.map_cons, strKs_ok e]
    · cases h
  | (.inl _, _) :: _, ks, h => by cases h
def cSortD (cel : Bool) : Ac := fun xs M Q => match xs with
  | [x] => match dicOf x M with
    | some kvs => Opt (strKs kvs) fun ks => Side (ks.length < 64) (∀ ys : List Str, ys.Perm ks → sortedS ys = true → mkL cel (ys.map D.str) M Q)
    | none => False
  | _ => False
theorem reps_strs {I : Hp} : ∀ ys : List Str, Reps K I (ys.map D.str) (ys.map V.str)
  | [] => .nil
  | y :: ys => .cons (.str y) (reps_strs ys)
def rSortD : List V → Hp → VK → Prop := fun xs H Q => ∃ (a : Addr) (kvs : List (Key × V)) (ks : List Str), xs = [.ref a] ∧ Rd H a (.dK kvs) ∧ kvs.map (·.1) = ks.map Sum.inr ∧ ks.length < 64 ∧
    ∀ ys p, ys.Perm ks → sortedS ys = true → H p = none → Q (.ref p) (upd H p (.lst (ys.map V.str)))
theorem sc_sortD {cel : Bool} : SC K W rSortD (cSortD cel) := by
  intro b M xs vs QA Q t ok r h k
  unfold cSortD at h
  split at h
  · obtain ⟨v, rfl, r1⟩ := repAs_1 r
    split at h
    · rename_i kvs e
      obtain ⟨ks, ek, hl, q⟩ := h
      obtain ⟨p, gs, rfl, hv, rs⟩ := dicOf_ok ok r1 e
      exact ⟨p, gs, ks, rfl, .inl hv, by rw [repAK_keys rs]; exact strKs_ok ek, hl, fun ys p2 h1 h2 h3 => new_L t ok (reps_strs ys) (q ys h1 h2) k p2 h3⟩
    · exact h.elim
  · exact h.elim
end
section
variable {X : Cx} {W : Wd} {K : PySem.W.Frag} {pos p pos' : Pos} {e e2 o i value : Expr} {es : List Expr} {t t2 tv : TE} {a a2 av : Ae} {ts : TA} {as : Aa}
theorem ae_dnew : AE X W (.Dict [] [] pos) tDNewK aDnew := ⟨pe_dnewK, se_dnew⟩
theorem k_dgetK (hu : X.A.units + 64 < cLine) (h : AE X W e t a) (g : AE X W e2 t2 a2) (hs : NoSl e2 := by intro _ _; rfl) : AE X W (.Subscript e e2 pos) (tDGet t t2) (aDgetK a a2) := ⟨pe_dget (by omega) h.pe g.pe hs, se_dgetK h.se g.se⟩
theorem at_din (hu : X.A.units + 64 < cLine) (g : AE X W e t a) (h : AE X W e2 t2 a2) (hm : behindInMarks .In e2 = false := by rfl) : AT X W (.Compare e [.In] [e2] pos) (tB (tDIn t t2)) (aTest (aDinK false a a2)) := ⟨pt_cmp (pc_din (by omega) g.pe h.pe) hm, st_B (se_dinK g.se h.se)⟩
theorem at_dnotin (hu : X.A.units + 64 < cLine) (g : AE X W e t a) (h : AE X W e2 t2 a2) (hm : behindInMarks .NotIn e2 = false := by rfl) : AT X W (.Compare e [.NotIn] [e2] pos) (tB (tDNotIn t t2)) (aTest (aDinK true a a2)) := ⟨pt_cmp (pc_dnotin (by omega) g.pe h.pe) hm, st_B (se_dnotinK g.se h.se)⟩
theorem ae_din (hu : X.A.units + 64 < cLine) (g : AE X W e t a) (h : AE X W e2 t2 a2) (hm : behindInMarks .In e2 = false := by rfl) : AE X W (.Compare e [.In] [e2] pos) (tDIn t t2) (aDinK false a a2) := ⟨pe_cmp (pc_din (by omega) g.pe h.pe) hm, se_dinK g.se h.se⟩
theorem as_dput (hu : X.A.units + 64 < cLine) (ho : AE X W o t a) (hi : AE X W i t2 a2) (hv : AE X W value tv av) (hs : swapsWith value (some (.Subscript o i pos')) pos.line X.env = pure false := by rfl) : AS X W (.Assign [.Subscript o i pos'] value pos) (sDPut t t2 tv) (aDput a a2 av) :=
  ⟨ps_dput (by omega) ho.pe hi.pe hv.pe hs, ss_dput ho.se hi.se hv.se⟩
theorem call_sortedD2 (hc : X.calm = true) : CallR X (.builtin "sorted") rSortD := call_sortedD hc
end
end G

set_option Elab.async false
set_option linter.all false
set_option maxRecDepth 100000
namespace G
open PySem PySem.Spec PyProof.Rows L2
/-! ### a, b = a text -/
/-- what was drawn from a place on -/
def Sgs (x : Str) : Nat → List Value → Prop
  | _, [] => True
  | i, v :: r => SignAt x i v ∧ Sgs x (i + 1) r
section
variable {prog : Program} {w : World} {A : Around} {E : Value → Shared → Prop}
theorem draw_txt {it : Addr} {x : Str} {St : Nat → Heap → Prop} (W : Walks prog w A it [it] [it] x.cps.size (SignAt x) St) : ∀ (n i : Nat) (s : Shared) (Q : List Value → Shared → Prop), i + n ≤ x.cps.size → St i s.heap →
    (∀ vs h' tk, Sgs x i vs → vs.length = n → St (i + n) h' → (∀ b o, b ∉ [it] → s.heap.get? b = some o → h'.get? b = some o) → Q vs { s with heap := h', toks := tk }) → wpAny (model prog w) A (draw (.ref it) n) Q E s
  | 0, i, s, Q, _, st, hQ => wpAny_pure (hQ [] s.heap s.toks trivial rfl st fun _ _ _ e => e)
  | n + 1, i, s, Q, hl, st, hQ => by
    show wpAny _ _ (pyNext (.ref it) >>= _) Q E s
    refine wpAny_bind (W.item i s _ E (by omega) st fun v h1 tk1 hv st1 k1 => ?_)
    refine wpAny_bind (wpAny_holding (draw_txt W n (i + 1) _ _ (by omega) st1 fun vs h2 tk2 hs hn st2 k2 => wpAny_pure ?_))
    exact hQ (v :: vs) h2 tk2 ⟨hv, hs⟩ (by rw [List.length_cons, hn]) (by rw [show i + (n + 1) = i + 1 + n by omega]; exact st2) fun b o hb e => k2 b o hb (k1 b o hb e)
end
section
variable {X : Cx} {pos : Pos}
def signV (x : Str) : List V := x.cps.toList.map fun c => V.str ⟨#[c]⟩
def gUnS (n : Nat) (t : TGs) : TG := fun v σ H Q => ∃ x : Str, v = .str x ∧ x.cps.size = n ∧ t (signV x) σ H Q
theorem sgs_vals {x : Str} : ∀ (vs : List Value) (i : Nat), Sgs x i vs → i + vs.length = x.cps.size → Vals ((x.cps.toList.drop i).map fun c => V.str ⟨#[c]⟩) vs
  | [], i, _, hl => by
    rw [List.drop_of_length_le (by simp at hl ⊢; omega)]
    exact .nil
  | v :: r, i, ⟨⟨c, u, hc, hv⟩, hs⟩, hl => by
    rw [List.length_cons] at hl
    have hi : i < x.cps.toList.length := by simp; omega
    rw [List.drop_eq_getElem_cons hi, List.map_cons]
    have e : x.cps.toList[i] = c := by
      have := Array.getElem?_eq_some_iff.mp hc
      obtain ⟨h1, h2⟩ := this
      simpa using h2
    rw [e, hv]
    exact .cons ⟨u, rfl⟩ (sgs_vals r (i + 1) hs (by omega))
theorem pg_unS {es : List Expr} {k : Nat} {t : TGs} {n : Nat} (hc : X.calm = true) (h : PGs X es t)
    (hn : (assignEach es X.env).length = n := by rfl) (hst : (assignEach es X.env).findIdx? (·.1) = none := by rfl) : PG X (.Tuple es k pos) (gUnS n t) := by
  refine ⟨fun pins s σ H v u Q I r hw => ?_⟩
  obtain ⟨x, e1, hl, hw⟩ := hw
  subst e1
  obtain ⟨tk, rfl⟩ := r
  rw [PyProof.Rows.assign_Tuple]
  refine wpAny_bind (wpAny_standAt ?_)
  unfold unpack
  rw [hn, hst]
  refine wpAny_bind (wpAny_holding ?_)
  unfold unpackItems
  refine wpAny_bind ?_
  unfold notIterableAtAll
  refine wpAny_bind (wpAny_specialOf (typeIs_str s x tk) PySem.F.slot_str_iter.lookup ?_)
  refine wpAny_pure ?_
  simp only [Bool.false_eq_true, if_false]
  refine wpAny_bind (wpAny_holding (wpAny_pyIter_str fun o St hW st0 => ?_))
  have W := hW X.A (I.ok.hd hc)
  refine wpAny_bind (wpAny_holding (draw_txt W n 0 _ _ (by omega) st0 fun vs h1 tk1 hs hv st1 k1 => ?_))
  rw [if_neg (by omega)]
  refine wpAny_bind (wpAny_holding (W.done _ _ _ (by rw [Nat.zero_add, ← hl] at st1; exact st1) fun h2 tk2 k2 => ?_))
  simp only [Option.isSome_none, Bool.false_eq_true, if_false]
  refine wpAny_pure ?_
  have I1 : Inv X pins σ H { s with heap := h2, toks := tk2 } := I.kept (t' := tk2) fun b o e => by
    have nb : b ∉ [s.heap.objs.size] := by
      simp only [List.mem_cons, List.not_mem_nil, or_false]
      exact Nat.ne_of_lt (Heap.lt_size e)
    exact k2 b o nb (k1 b o nb (Heap.get?_push_of_some _ e))
  have hvs := sgs_vals vs 0 hs (by omega)
  rw [List.drop_zero] at hvs
  exact h.run pins _ σ H _ _ Q I1 hvs hw
end
section
variable {K : PySem.W.Frag} {W : Wd}
def aGunS (n : Nat) (g : Ags) : Ag := fun x E M Q => match x with
  | .d (.str s) => Side (s.cps.size = n) (g ((s.cps.toList.map fun c => D.str ⟨#[c]⟩).map A.d) E M Q)
  | _ => False
theorem sg_unS {js : List Nat} {n : Nat} {g : TGs} {ag : Ags} (h : SGs K W js g ag) : SG K W js (gUnS n g) (aGunS n ag) := by
  intro b M E σ x v QA Q t ok sl r h1 k
  unfold aGunS at h1
  split at h1
  · rename_i s
    cases rep_str_inv (repA_d r)
    refine ⟨s, rfl, h1.s, ?_⟩
    have rs : Reps K b.I (s.cps.toList.map fun c => D.str ⟨#[c]⟩) (signV s) := by
      unfold signV
      generalize s.cps.toList = l
      induction l with
      | nil => exact .nil
      | cons c l ih => exact .cons (.str _) ih
    exact h b M E σ _ _ _ _ t ok sl (repsA rs) h1.q k
  · exact h1.elim
end
section
variable {X : Cx} {W : Wd} {K : PySem.W.Frag} {pos : Pos} {es : List Expr} {js : List Nat} {gs : TGs} {ags : Ags}
theorem k_gunS {kk n : Nat} (hc : X.calm = true) (h : AGs X W es js gs ags) (hn : (assignEach es X.env).length = n := by rfl) (hst : (assignEach es X.env).findIdx? (·.1) = none := by rfl) (hK : X.K = K := by rfl) : AG X W (.Tuple es kk pos) js (gUnS n gs) (aGunS n ags) := by
  subst hK; exact ⟨pg_unS hc h.pg hn hst, sg_unS h.sg⟩
end
end G

set_option Elab.async false
set_option linter.all false
set_option maxRecDepth 100000
namespace G
open PySem PySem.Spec PyProof.Rows L2
/-! ### a call that is lent what its cells hold, and hands back a new list of flat things -/
def LCallL (sp : ASp) (xs : List A) (M : Mem) (Q : A → Mem → Prop) : Prop := match mapD (deepA M 6) xs with
  | some ds => sp (ds.map A.d) [] (fun z M1 => match z, M1 with
    | .cell 0, [.lst l] => Side (l.all flatB = true) (Q (.cell M.length) (M ++ [.lst l]))
    | _, _ => False) (fun _ _ _ => False)
  | none => False
section
variable {K : PySem.W.Frag} {W : Wd}
theorem flat_vals {I : Hp} : ∀ {l : List D} {us : List V}, l.all flatB = true → Reps K I l us → us = l.map vOf
  | [], _, _, .nil => rfl
  | x :: l, _, hl, .cons rx rr => by
    rw [List.all_cons, Bool.and_eq_true] at hl
    rw [List.map_cons, flat_vals hl.2 rr]
    congr 1
    cases x <;> first | (cases hl.1; done) | skip
    · cases rep_non_inv rx; rfl
    · cases rep_bl_inv rx; rfl
    · cases rep_int_inv rx; rfl
    · cases rep_str_inv rx; rfl
theorem lendL_call {b : Wd} {M : Mem} {xs : List A} {vs : List V} {sp : ASp} {QA : A → Mem → Prop} {Q : VK} (t : To W b) (ok : Ok K b M) (r : RepAs K b.al b.I xs vs) (h : LCallL sp xs M QA)
    (k : ∀ b' M' z w, To W b' → Ok K b' M' → Step b b' → RepA K b'.al b'.I z w → QA z M' → Q w b'.H) : conc K sp vs b.H Q E0 := by
  unfold LCallL at h
  split at h
  · rename_i ds e
    have rd : Reps K b.H ds vs := mapD_rep (fun x v d r e => deepA_rep ok 6 r e) r e
    refine ⟨⟨b.H, [], b.H⟩, [], ds.map A.d, _, _, rfl, bor_in ok, repsA rd, h, fun b1 M1 z v t1 ok1 r1 q => ?_, fun _ _ _ _ _ _ _ _ _ _ q => q.elim⟩
    obtain ⟨st, ok2⟩ := bor_back ok t1
    split at q
    · rename_i l
      obtain ⟨hl, q⟩ := q
      obtain ⟨p, hp, rfl⟩ := cell_addr r1
      obtain ⟨hn, us, hu, ru⟩ := ok1.at_ _ _ _ hp rfl
      have hb : b.H p = none := by
        cases eb : b.H p with
        | none => rfl
        | some o =>
          have := t1.same p o eb
          rw [hn] at this; cases this
      have hI : b.I p = none := by
        cases eb : b.I p with
        | none => rfl
        | some o =>
          have := ok.ih p o eb
          rw [hb] at this; cases this
      have hm : p ∉ b.al := fun hm => by
        obtain ⟨j, hj⟩ := List.mem_iff_getElem?.mp hm
        exact ok.dom j p hj hb
      have eu : us = l.map vOf := flat_vals hl ru
      subst eu
      have rl : Reps K b.I l (l.map vOf) := flat_reps hl
      have s2 : Step b ⟨b.I, b.al ++ [p], b1.H⟩ := ⟨Same.refl _, st.fr, fun x e n => absurd e n, st.dom, Pre.snoc _ _, fun x e => by
        rcases List.mem_append.mp e with e | e
        · exact .inl e
        · rw [List.mem_singleton] at e; subst e; exact .inr hb⟩
      have ok3 : Ok K ⟨b.I, b.al ++ [p], b1.H⟩ (M ++ [.lst l]) := by
        refine ⟨ok2.ih, ?_, ?_, fun j a e z => ?_, fun j a c e1 e2 => ?_⟩
        · show (b.al ++ [p]).length = _
          rw [List.length_append, List.length_append, ok.len]; rfl
        · show (b.al ++ [p]).Nodup
          rw [List.nodup_append]
          refine ⟨ok.nd, by simp, fun x hx y hy => ?_⟩
          rw [List.mem_singleton] at hy
          subst hy
          exact fun z => hm (z ▸ hx)
        · show False
          have e : (b.al ++ [p])[j]? = some a := e
          by_cases hj : j < b.al.length
          · rw [List.getElem?_append_left hj] at e
            exact ok2.dom j a e z
          · rw [List.getElem?_append_right (by omega)] at e
            cases hjj : j - b.al.length with
            | zero =>
              rw [hjj] at e
              cases e
              have z : b1.H p = none := z
              rw [hu] at z; cases z
            | succ n => rw [hjj] at e; cases e
        · show HasC K (b.al ++ [p]) b.I b1.H a c
          have e1 : (b.al ++ [p])[j]? = some a := e1
          by_cases hj : j < b.al.length
          · rw [List.getElem?_append_left hj] at e1
            rw [List.getElem?_append_left (by rw [← ok.len]; exact hj)] at e2
            have q2 := ok2.at_ j a c e1 e2
            cases c with
            | gone => trivial
            | lst _ => exact q2.mono (Same.refl _) (Pre.snoc _ _) q2.1 rfl
            | obj _ _ => exact q2.mono (Same.refl _) (Pre.snoc _ _) q2.1 rfl
            | dic _ => exact q2.mono (Same.refl _) (Pre.snoc _ _) q2.1 rfl
            | did _ => exact q2.mono (Same.refl _) (Pre.snoc _ _) q2.1 rfl
            | lsa _ => exact q2.mono (Same.refl _) (Pre.snoc _ _) q2.1 rfl
            | tpa _ => exact q2.mono (Same.refl _) (Pre.snoc _ _) q2.1 rfl
          · rw [List.getElem?_append_right (by omega)] at e1
            rw [List.getElem?_append_right (by rw [← ok.len]; omega)] at e2
            rw [← ok.len] at e2
            cases hjj : j - b.al.length with
            | zero =>
              rw [hjj] at e1 e2
              cases e1; cases e2
              exact ⟨hI, _, hu, rl⟩
            | succ n => rw [hjj] at e1; cases e1
      exact k ⟨b.I, b.al ++ [p], b1.H⟩ _ (.cell M.length) (.ref p) (t.trans s2) ok3 s2 (.cell (by rw [← ok.len]; exact len_get)) q
    · exact q.elim
  · exact h.elim
def aLendL (sp : ASp) (dv : List D) (as : Aa) : Ae := fun E M Q => as E M fun xs M1 => LCallL sp (xs ++ dv.map A.d) M1 Q
theorem se_lendL {sp : ASp} {dv : List D} {as : Aa} {t : TA} (hd : dv.all flatB = true) (h : SA K W t as) : SE K W (tCall (conc K sp) (dv.map vOf) E0 t) (aLendL sp dv as) := by
  intro b M E σ QA Q t0 ok sl h1 k
  refine h b M E σ _ _ t0 ok sl h1 fun b1 M1 xs vs t1 ok1 s1 r1 h2 => ?_
  exact lendL_call t1 ok1 (r1.app (reps_d (flat_reps hd))) h2 fun b2 M2 z w t2 ok2 s2 r2 q => k b2 M2 z w t2 ok2 (s1.trans s2) r2 q
end
section
variable {X : Cx} {W : Wd} {K : PySem.W.Frag} {pos p : Pos} {e : Expr} {es : List Expr} {ts : TA} {as : Aa} {x : Str} {sp : ASp} {k j : Nat} {dv : List D}
theorem k_lendL (F : Def X.prog X.w X.K X.mg X.base x k sp dv) (hr : Room j X.A) (hkj : k ≤ j) (ha : AA X W (e :: es) ts as) (hg : Gl X x := by rfl) (hdb : (x == ("__debug__" : Str)) = false := by decide)
    (he : starEach (e :: es) X.env = (false, eval e X.env) :: starEach es X.env := by rfl) (hpl : (backTo pos (starEach es X.env)).any (·.1) = false := by rfl) (hK : X.K = K := by rfl) : AE X W (.Call (.Name x p) (e :: es) [] pos) (tCall (conc K sp) (dv.map vOf) E0 ts) (aLendL sp dv as) := by
  subst hK
  obtain ⟨f, fd, ps, ds, F, hm, hk, hb, hd, hf⟩ := F
  exact ⟨pe_call F (hr.mono hkj) hg hm hk hb hd pass0 ha.pa hdb he hpl, se_lendL hf ha.sa⟩
end
end G

set_option Elab.async false
set_option linter.all false
set_option maxRecDepth 100000
namespace G
open PySem PySem.Spec PyProof.Rows L2
/-! ### a reading that waits: over memory that isn't written out -/
structure Hold (p : Prop) : Prop where
  go : p
def aHold (a : Ae) : Ae := fun E M Q => Hold (a E M Q)
def aHoldT (a : At) : At := fun E M Q => Hold (a E M Q)
def aHoldS (a : As) : As := fun Q E M => Hold (a Q E M)
section
variable {X : Cx} {W : Wd} {e : Expr} {st : Stmt} {t : TE} {a : Ae} {tc : TT} {ac : At} {u : TS} {b : As}
theorem ae_hold (h : AE X W e t a) : AE X W e t (aHold a) := ⟨h.pe, fun b M E σ QA Q t0 ok sl h1 k => h.se b M E σ QA Q t0 ok sl h1.go k⟩
theorem at_hold (h : AT X W e tc ac) : AT X W e tc (aHoldT ac) := ⟨h.pt, fun b M E σ QA Q t0 ok sl h1 k => h.st b M E σ QA Q t0 ok sl h1.go k⟩
theorem as_hold (h : AS X W st u b) : AS X W st u (aHoldS b) := ⟨h.ps, fun b M E σ DA Dd t0 ok sl h1 e => h.ss b M E σ DA Dd t0 ok sl h1.go e⟩
end
/-! ### what such readings come to -/
theorem snapV_put {M : Mem} {E E2 : Env} {i : Nat} {x : A} {d : D} {r : List Nat} {k : Env → Prop} (e : E[i]? = some (some x)) (e2 : deepA M 6 x = some d) (h : snapV M E r (E2.set i (some (.d d))) k) : snapV M E (i :: r) E2 k := by
  unfold snapV
  rw [e]
  dsimp only
  rw [e2]
  exact h
theorem snapV_end {M : Mem} {E E2 : Env} {k : Env → Prop} (h : k E2) : snapV M E [] E2 k := fL_eq.mpr h
theorem borT_1 {a : At} {E : Env} {M : Mem} {Q : Bool → Mem → Prop} {i : Nat} {x : A} {d : D} (e1 : E[i]? = some (some x)) (e2 : deepA M 6 x = some d) (h : a ((nonE E).set i (some (.d d))) [] fun z _ => Q z M) : aBorT [i] a E M Q :=
  snapV_put e1 e2 (snapV_end h)
theorem borT_2 {a : At} {E : Env} {M : Mem} {Q : Bool → Mem → Prop} {i j : Nat} {x y : A} {d c : D} (e1 : E[i]? = some (some x)) (e2 : deepA M 6 x = some d) (f1 : E[j]? = some (some y)) (f2 : deepA M 6 y = some c) (h : a (((nonE E).set i (some (.d d))).set j (some (.d c))) [] fun z _ => Q z M) : aBorT [i, j] a E M Q :=
  snapV_put e1 e2 (snapV_put f1 f2 (snapV_end h))
theorem bor_1 {a : Ae} {E : Env} {M : Mem} {Q : A → Mem → Prop} {i : Nat} {x : A} {d : D} (e1 : E[i]? = some (some x)) (e2 : deepA M 6 x = some d) (h : a ((nonE E).set i (some (.d d))) [] fun z _ => flatR z fun w => Q w M) : aBor [i] a E M Q :=
  snapV_put e1 e2 (snapV_end h)
theorem bor_2 {a : Ae} {E : Env} {M : Mem} {Q : A → Mem → Prop} {i j : Nat} {x y : A} {d c : D} (e1 : E[i]? = some (some x)) (e2 : deepA M 6 x = some d) (f1 : E[j]? = some (some y)) (f2 : deepA M 6 y = some c) (h : a (((nonE E).set i (some (.d d))).set j (some (.d c))) [] fun z _ => flatR z fun w => Q w M) : aBor [i, j] a E M Q :=
  snapV_put e1 e2 (snapV_put f1 f2 (snapV_end h))
end G

set_option Elab.async false
set_option linter.all false
set_option maxRecDepth 100000
namespace G
open PySem PySem.Spec PyProof.Rows L2
/-! ### get with a second answer, of a dict whose keys are texts or numbers -/
def getKD (kvs : List (Key × A)) (k : Key) (z : A) : A := match getK k kvs with
  | some v => v
  | none => z
def aDget2K (a c f : Ae) : Ae := fun E M Q => a E M fun x M1 => match dicOf x M1 with
  | some _ => c E M1 fun y M2 => f E M2 fun z M3 => (match dicOf x M3, y with
    | some kvs, .d y => Opt (keyOf y) fun k => Q (getKD kvs k z) M3
    | _, _ => False)
  | none => False
section
variable {K : PySem.W.Frag} {W : Wd}
theorem se_dget2K {t u r : TE} {a c f : Ae} (h : SE K W t a) (g : SE K W u c) (hf : SE K W r f) : SE K W (tDGet2 t u r) (aDget2K a c f) := by
  intro b M E σ QA Q t0 ok sl h1 k
  refine h b M E σ _ _ t0 ok sl h1 fun b1 M1 x v t1 ok1 s1 r1 h2 => ?_
  split at h2
  · rename_i kv0 e0
    obtain ⟨p, gs0, rfl, hg0, _⟩ := dicOf_ok ok1 r1 e0
    refine ⟨p, rfl, .inl ⟨gs0, .inl hg0⟩, ?_⟩
    refine g b1 M1 E σ _ _ t1 ok1 (sl.mono s1.same s1.pre) h2 fun b2 M2 y w t2 ok2 s2 r2 h3 => ?_
    refine hf b2 M2 E σ _ _ t2 ok2 (sl.mono (s1.trans s2).same (s1.trans s2).pre) h3 fun b3 M3 z w3 t3 ok3 s3 r3 h4 => ?_
    have r2' := r2.mono s3.same s3.pre
    have r1' := r1.mono (s2.trans s3).same (s2.trans s3).pre
    split at h4
    · rename_i kvs y e
      obtain ⟨kk, ek, q⟩ := h4
      obtain ⟨p', gs, ep, hg, rk⟩ := dicOf_ok ok3 r1' e
      cases ep
      have ew := keyOf_rep ek (repA_d r2')
      subst ew
      have dg := DGet.k (k := kk) hg
      unfold getKD at q
      rcases getK_rep (k := kk) rk with ⟨n1, n2⟩ | ⟨z', v', e1, e2, rv⟩
      · rw [n1] at q
        rw [n2] at dg
        exact ⟨_, dg, k b3 M3 z w3 t3 ok3 ((s1.trans s2).trans s3) r3 q⟩
      · rw [e1] at q
        rw [e2] at dg
        exact ⟨_, dg, k b3 M3 z' v' t3 ok3 ((s1.trans s2).trans s3) rv q⟩
    · exact h4.elim
  · exact h2.elim
end
section
variable {X : Cx} {W : Wd} {K : PySem.W.Frag} {pos apos : Pos} {o e f : Expr} {t u r : TE} {a c d : Ae}
theorem k_dget2K (hu : X.A.units + 64 < cLine) (h : AE X W o t a) (g : AE X W e u c) (hf : AE X W f r d)
    (hbase : attributeBase o "get" X.env (eval o X.env) = eval o X.env := by rfl)
    (hfew : ((backTo pos (starEach [e, f] X.env)).all (fun x => !x.1) && (backToKw pos (keywordEach [] X.env)).all (fun x => x.1.isSome)
      && decide (([e, f] : List Expr).length + ([] : List Keyword).length + (if ([] : List Keyword).isEmpty then 0 else 1) < 30)) = true := by rfl)
    (hline : (apos.endLine == pos.line) = true := by rfl) (htr : backTo pos (starEach [e, f] X.env) = [(false, eval e X.env), (false, eval f X.env)] := by rfl) :
    AE X W (.Call (.Attribute o "get" apos) [e, f] [] pos) (tDGet2 t u r) (aDget2K a c d) := ⟨pe_dget2 (by omega) h.pe g.pe hf.pe ⟨hbase, hfew, hline, htr⟩, se_dget2K h.se g.se hf.se⟩
end
end G

set_option Elab.async false
set_option linter.all false
set_option maxRecDepth 100000
namespace G
open PySem PySem.Spec PyProof.Rows L2
/-! ### a new dict stands still from now on -/
def allK : List (Key × A) → Option (List (Key × D))
  | [] => some []
  | (f, .d x) :: r => match allK r with
    | some l => some ((f, x) :: l)
    | none => none
  | _ => none
section
variable {K : PySem.W.Frag} {W : Wd}
theorem allK_rep {al : List Addr} {I : Hp} : ∀ {fs : List (Key × A)} {ds : List (Key × D)} {gs : List (Key × V)}, allK fs = some ds → RepAK K al I fs gs → RepK K I ds gs
  | [], ds, gs, e, r => by cases e; cases r; exact .nil
  | (f, .d x) :: fs, ds, gs, e, r => by
    unfold allK at e
    split at e
    · rename_i l el
      cases e
      cases r with
      | cons r1 r2 => exact .cons (repA_d r1) (allK_rep el r2)
    · cases e
  | (f, .cell k) :: fs, ds, gs, e, r => by cases e
def aFrzK (a : Ae) : Ae := fun E M Q => a E M fun x M1 => match x with
  | .d y => Q (.d y) M1
  | .cell k => match Nat.ble M.length k, Nat.beq (k + 1) M1.length, M1[k]?, (M1.take k).all (lowC k) with
    | true, true, some (.did ds), true => fL (M1.take k) fun M2 => Q (.d (.dic ds)) M2
    | _, _, _, _ => False
theorem se_frzK {t : TE} {a : Ae} (h : SE K W t a) : SE K W t (aFrzK a) := by
  intro b M E σ QA Q t0 ok sl h1 k
  refine h b M E σ _ _ t0 ok sl h1 fun b1 M1 x v t1 ok1 s1 r1 h2 => ?_
  cases x with
  | d y => exact k b1 M1 _ v t1 ok1 s1 r1 h2
  | cell j =>
    dsimp only at h2
    split at h2
    · rename_i ds e1 e2 e3 e4
      · have h2 := fL_eq.mp h2
        have hj := Nat.le_of_ble_eq_true e1
        obtain ⟨p, ha, rfl⟩ := cell_addr r1
        obtain ⟨hn, gs, hv, rf⟩ := ok1.at_ _ _ _ ha e3
        have rs := rf
        have okt := ok1.trim j e4
        have hbl : b.al.length ≤ j := by rw [ok.len]; exact hj
        have hWl : W.al.length ≤ j := by
          obtain ⟨u, e⟩ := t0.pre
          have : b.al.length = W.al.length + u.length := by rw [e, List.length_append]
          omega
        have np : p ∉ b1.al.take j := fun z => by
          obtain ⟨i, hi⟩ := List.getElem?_of_mem z
          rw [List.getElem?_take] at hi
          split at hi
          · have := nd_get ok1.nd hi ha
            omega
          · cases hi
        have new : ∀ {a0 : Wd}, To a0 b1 → a0.al.length ≤ j → a0.H p = none := fun {a0} t hl => by
          rcases t.new p (List.mem_of_getElem? ha) with m | m
          · exfalso
            obtain ⟨i, hi⟩ := List.getElem?_of_mem m
            have := nd_get ok1.nd ha (t.pre.get hi)
            have := (List.getElem?_eq_some_iff.mp hi).1
            omega
          · exact m
        have same2 : Same b1.I (upd b1.I p (.dK gs)) := same_new hn
        have toF : ∀ {a0 : Wd}, To a0 b1 → a0.al.length ≤ j → To a0 ⟨upd b1.I p (.dK gs), b1.al.take j, b1.H⟩ := fun {a0} t hl =>
          have tt := t.trim hl
          ⟨t.same.trans same2, t.fr, fun x e (m : upd b1.I p (.dK gs) x ≠ none) => by
            by_cases z : x = p
            · subst z; exact new t hl
            · rw [upd_ne z] at m; exact t.fresh x e m, t.dom, tt.pre, tt.new⟩
        refine k ⟨upd b1.I p (.dK gs), b1.al.take j, b1.H⟩ (M1.take j) (.d (.dic ds)) (.ref p) (toF t1 hWl) ?_ (toF s1 hbl) (.d (.dic upd_same (RepK.mono same2 rs))) h2
        refine ⟨fun x w (e : upd b1.I p (.dK gs) x = some w) => show b1.H x = some w by
          by_cases z : x = p
          · subst z; rw [upd_same] at e; rw [← e]; exact hv
          · rw [upd_ne z] at e; exact ok1.ih x w e, okt.len, okt.nd, okt.dom, fun i x c (e1 : (b1.al.take j)[i]? = some x) e2 => show HasC K (b1.al.take j) (upd b1.I p (.dK gs)) b1.H x c by
          have ne : x ≠ p := fun z => np (z ▸ List.mem_of_getElem? e1)
          have q2 := okt.at_ i x c e1 e2
          cases c with
          | gone => trivial
          | lst _ => exact q2.mono same2 (Pre.refl _) (by rw [upd_ne ne]; exact q2.1) rfl
          | obj _ _ => exact q2.mono same2 (Pre.refl _) (by rw [upd_ne ne]; exact q2.1) rfl
          | dic _ => exact q2.mono same2 (Pre.refl _) (by rw [upd_ne ne]; exact q2.1) rfl
          | did _ => exact q2.mono same2 (Pre.refl _) (by rw [upd_ne ne]; exact q2.1) rfl
          | lsa _ => exact q2.mono same2 (Pre.refl _) (by rw [upd_ne ne]; exact q2.1) rfl
          | tpa _ => exact q2.mono same2 (Pre.refl _) (by rw [upd_ne ne]; exact q2.1) rfl⟩
    · exact h2.elim
end
section
variable {X : Cx} {W : Wd} {e : Expr} {t : TE} {a : Ae}
theorem ae_frzK (h : AE X W e t a) : AE X W e t (aFrzK a) := ⟨h.pe, se_frzK h.se⟩
end
end G

set_option Elab.async false
set_option linter.all false
set_option maxRecDepth 100000
namespace G
open PySem PySem.Spec PyProof.Rows L2
/-! ### f(e, ..), f a local name that holds one of several defs -/
def tCallE (i : Nat) (P : Addr → Sp → Prop) (t : TA) : TE := fun σ H Q => ∃ f sp, P f sp ∧ σ[i]? = some (some (.ref f)) ∧ t σ H fun vs H1 => sp vs H1 Q E0
section
variable {X : Cx} {i j : Nat} {x : Str} {p pos : Pos} {e : Expr} {es : List Expr} {t : TA}
theorem pe_callE {P : Addr → Sp → Prop} (A : ∀ f sp, P f sp → ∃ k, k ≤ j ∧ Held X.prog X.w X.K X.mg X.base k f sp) (hr : Room j X.A) (hN : X.N[i]? = some x) (hv : Vis X.env.scope x) (ha : PA X (e :: es) t)
    (hdb : (x == ("__debug__" : Str)) = false) (hcd : (x == ("__classdict__" : Str)) = false)
    (he : starEach (e :: es) X.env = (false, eval e X.env) :: starEach es X.env) (hpl : (backTo pos (starEach es X.env)).any (·.1) = false) : PE X (.Call (.Name x p) (e :: es) [] pos) (tCallE i P t) := by
  constructor
  intro pins s σ H Q I h
  obtain ⟨f, sp, hP, hs, ht⟩ := h
  obtain ⟨k, hk, hd⟩ := A f sp hP
  obtain ⟨fd, ps, F, hkp, hb⟩ := hd.ex
  refine wpAny_Call_Name_kw (thn ((pe_var (pos := p) hN hv hdb hcd).run pins s σ H (fun v H1 => v = .ref f ∧ H1 = H) I ⟨.ref f, hs, rfl, rfl⟩) fun u s1 z => ?_)
  obtain ⟨_, _, I1, r1, rfl, rfl⟩ := z
  cases (show u = Value.ref f from r1)
  refine PySem.W.callWith_K (h₀ := X.base) I.ok.mod.kin hkp (thn (ha.run pos pins s1 σ _ _ I1 ht) fun us s2 z => ?_) he hpl
  obtain ⟨vs, H2, I2, r, q⟩ := z
  exact ⟨I2.kIn, run_fn F (hr.mono hk) hb .nil pass0 I2 r (by rw [List.append_nil]; exact q)⟩
end
def CandsOk (P : Program) (w : World) (K : PySem.W.Frag) (mg : Str → Option Value) (base : Heap) (j : Nat) : List (Str × ASp) → Prop
  | [] => True
  | c :: r => (∃ k, k ≤ j ∧ Def P w K mg base c.1 k c.2 []) ∧ CandsOk P w K mg base j r
theorem CandsOk.at {P : Program} {w : World} {K : PySem.W.Frag} {mg : Str → Option Value} {base : Heap} {j : Nat} : ∀ {l : List (Str × ASp)}, CandsOk P w K mg base j l → ∀ c ∈ l, ∃ k, k ≤ j ∧ Def P w K mg base c.1 k c.2 []
  | _ :: _, h, c, hc => by
    rcases List.mem_cons.mp hc with rfl | hc
    · exact h.1
    · exact h.2.at c hc
def aDefLs (mg : Str → Option Value) (cs : List (Str × ASp)) (i : Nat) (as : Aa) : Ae := fun E M Q => match E[i]? with
  | some (some (.d (.vl (.ref f)))) => ∃ c, c ∈ cs ∧ mg c.1 = some (.ref f) ∧ aDef c.2 [] as E M Q
  | _ => False
section
variable {X : Cx} {W : Wd} {K : PySem.W.Frag} {pos p : Pos} {e : Expr} {es : List Expr} {ts : TA} {as : Aa} {j : Nat} {y : Str}
theorem k_defLs (cs : List (Str × ASp)) (i : Nat) (hc : CandsOk X.prog X.w X.K X.mg X.base j cs) (hr : Room j X.A) (ha : AA X W (e :: es) ts as) (hN : X.N[i]? = some y := by rfl) (hv : Vis X.env.scope y := by first | exact Or.inl rfl | exact Or.inr (Or.inl rfl) | exact Or.inr (Or.inr rfl))
    (hdb : (y == ("__debug__" : Str)) = false := by decide) (hcd : (y == ("__classdict__" : Str)) = false := by decide)
    (he : starEach (e :: es) X.env = (false, eval e X.env) :: starEach es X.env := by rfl) (hpl : (backTo pos (starEach es X.env)).any (·.1) = false := by rfl) (hK : X.K = K := by rfl) :
    ∃ t : TE, AE X W (.Call (.Name y p) (e :: es) [] pos) t (aDefLs X.mg cs i as) := by
  subst hK
  refine ⟨tCallE i (fun f sp => ∃ c, c ∈ cs ∧ X.mg c.1 = some (.ref f) ∧ sp = conc X.K c.2) ts, pe_callE (j := j) (fun f sp h => ?_) hr hN hv ha.pa hdb hcd he hpl, ?_⟩
  · obtain ⟨c, hm, hf, rfl⟩ := h
    obtain ⟨k, hk, f2, fd, ps, ds, F, hf2, hkp, hb, hd, _⟩ := hc.at c hm
    rw [hf] at hf2
    cases hf2
    cases hd
    exact ⟨k, hk, ⟨fd, ps, F, hkp, hb⟩⟩
  · intro b M E σ QA Q t0 ok sl h1 k
    unfold aDefLs at h1
    split at h1
    · rename_i f hE
      obtain ⟨c, hm, hf, h2⟩ := h1
      obtain ⟨v, h3, h4⟩ := sl.2 i _ hE
      cases rep_vl_inv (repA_d h4)
      refine ⟨f, conc X.K c.2, ⟨c, hm, hf, rfl⟩, h3, ?_⟩
      have := se_def (sp := c.2) (dv := []) rfl ha.sa b M E σ QA Q t0 ok sl h2 k
      have e0 : (fun (vs : List V) (H1 : Hp) => conc X.K c.2 (vs ++ []) H1 Q E0) = fun vs H1 => conc X.K c.2 vs H1 Q E0 := by
        funext vs H1
        rw [List.append_nil]
      have this : ts σ b.H (fun vs H1 => conc X.K c.2 (vs ++ []) H1 Q E0) := this
      rw [e0] at this
      exact this
    · exact h1.elim
end
end G

set_option Elab.async false
set_option linter.all false
set_option maxRecDepth 100000
namespace G
open PySem PySem.Spec PyProof.Rows L2
/-! ### o.m(e, .., k = v, ..) -/
def tMethKN (C : Addr) (m : Str) (n j : Nat) (sp : Sp) (gV : List V → List V → List V) (E : XK) (ta : TE) (t tk : TA) : TE := fun σ H Q => ta σ H fun x H1 => ∃ a dx fs, x = .ref a ∧ H1 a = some (.ins C dx fs) ∧ fs.lookup m = none ∧
  t σ H1 fun vs H2 => tk σ H2 fun zs H3 => vs.length + 1 = n ∧ zs.length = j ∧ sp (gV (.ref a :: vs) zs) H3 Q E
theorem pe_methKN {X : Cx} {CX : CXT} {k n : Nat} {f C : Addr} {fd : FuncData} {ps ks : List Str} {sp : Sp} {E : XK} {m : Str} {pos apos : Pos} {o e : Expr} {es : List Expr} {kws : List Keyword} {ta : TE} {t tk : TA} {pl : Sem Bool} {g : List Value → List Value → List Value} {gV : List V → List V → List V}
    (ho : PE X o ta) (c : Cls X.K C) (hm : Meth X.K C m f) (F : FnOk X.prog X.w X.K X.mg X.base CX k f fd ps sp) (hr : Room k X.A) (hb : KBn X.K fd ps n ks g gV) (hx : Passes CX X E) (ha : PA X (e :: es) t) (hkw : PK X kws tk)
    (hall : (backToKw pos (keywordEach kws X.env)).all (·.1.isSome) = true) (hks : (backToKw pos (keywordEach kws X.env)).filterMap (·.1) = ks)
    (hse : starEach (e :: es) X.env = (false, eval e X.env) :: starEach es X.env)
    (hpl : ((backTo pos (starEach (e :: es) X.env)).any (·.1) || (backToKw pos (keywordEach kws X.env)).any (·.1.isNone)) = false)
    (ht : eval (.Call (.Attribute o m apos) (e :: es) kws pos) X.env = (do
      let ov ← eval o X.env
      standAt apos.atName
      let (f, first) ← holding [ov] (getMethod ov m pl)
      callWith pos f first (backTo pos (starEach (e :: es) X.env)) (backToKw pos (keywordEach kws X.env)))) :
    PE X (.Call (.Attribute o m apos) (e :: es) kws pos) (tMethKN C m n ks.length sp gV E ta t tk) := by
  constructor
  intro pins s σ H Q I h
  refine PySem.W.methodCall_KW (pl := pl) (thn (ho.run pins s σ H _ I h) fun u s1 hu => ?_) ht
  obtain ⟨x, H1, I1, rx, a, dx, fs, rfl, hp, hl, q⟩ := hu
  obtain rfl : u = Value.ref a := rx
  refine getmeth_ok I1 hp c hm hl ?_
  refine PySem.W.callWith_KW (first := [.ref a]) I1.kIn hm.kp hall (thn (ha.run pos pins s1 σ H1 _ I1 q) fun us s2 hv => ?_) hpl hse
  obtain ⟨vs, H2, I2, rv, q2⟩ := hv
  refine thn (hkw.run pos pins s2 σ H2 _ I2 q2) fun ws s3 hz => ?_
  obtain ⟨zs, H3, I3, rz, l1, l2, q3⟩ := hz
  refine ⟨I3.kIn, ?_⟩
  rw [hks]
  exact run_fnN (us := .ref a :: us) (vs := .ref a :: vs) F hr hb hx I3 (.cons rfl rv) rz (by rw [List.length_cons]; exact l1) l2 q3
def DefMKN (P : Program) (w : World) (K : PySem.W.Frag) (mg : Str → Option Value) (base : Heap) (C : Addr) (m : Str) (k : Nat) (sp : ASp) (n : Nat) (ks : List Str) : Prop :=
  ∃ (f : Addr) (fd : FuncData) (ps : List Str) (g : List Value → List Value → List Value), FnOk P w K mg base CX0 k f fd ps (conc K sp) ∧ Cls K C ∧ Meth K C m f ∧ KBn K fd ps n ks g (fun vs zs => vs ++ zs)
def aDefMKN (C : Addr) (m : Str) (n j : Nat) (sp : ASp) (a : Ae) (as ak : Aa) : Ae := fun E M Q => a E M fun x M1 => match objOf x M1 with
  | some (C', ns) => Side (C' = C ∧ m ∉ ns) (as E M1 fun xs M2 => ak E M2 fun ys M3 => match Nat.beq (xs.length + 1) n, Nat.beq ys.length j with
    | true, true => BCall sp ((x :: xs) ++ ys) M3 Q
    | _, _ => False)
  | none => False
theorem se_defMKN {K : PySem.W.Frag} {W : Wd} {C : Addr} {m : Str} {n j : Nat} {sp : ASp} {t : TE} {ts tk : TA} {a : Ae} {as ak : Aa} (h : SE K W t a) (hs : SA K W ts as) (hk : SA K W tk ak) : SE K W (tMethKN C m n j (conc K sp) (fun vs zs => vs ++ zs) E0 t ts tk) (aDefMKN C m n j sp a as ak) := by
  intro b M E σ QA Q t0 ok sl h1 k
  refine h b M E σ _ _ t0 ok sl h1 fun b1 M1 x v t1 ok1 s1 r1 h2 => ?_
  split at h2
  · rename_i C' ns e
    obtain ⟨⟨rfl, hn⟩, h2⟩ := h2
    obtain ⟨p, dx, gs, rfl, hp, en⟩ := objOf_at ok1 r1 e
    refine ⟨p, dx, gs, rfl, hp, lookup_no (by rw [en]; exact hn), hs b1 M1 E σ _ _ t1 ok1 (sl.mono s1.same s1.pre) h2 fun b2 M2 xs vs t2 ok2 s2 r2 h3 => ?_⟩
    have s12 := s1.trans s2
    refine hk b2 M2 E σ _ _ t2 ok2 (sl.mono s12.same s12.pre) h3 fun b3 M3 ys us t3 ok3 s3 r3 h4 => ?_
    have s23 := s2.trans s3
    split at h4
    · rename_i e3 e4
      refine ⟨by rw [← r2.length]; exact Nat.eq_of_beq_eq_true e3, by rw [← r3.length]; exact Nat.eq_of_beq_eq_true e4, ?_⟩
      exact conc_call t3 ok3 (RepAs.app (.cons (r1.mono s23.same s23.pre) (r2.mono s3.same s3.pre)) r3) h4.ok fun b4 M4 z w t4 ok4 s4 r4 q => k b4 M4 z w t4 ok4 ((s12.trans s3).trans s4) r4 q
    · exact h4.elim
  · exact h2.elim
section
variable {X : Cx} {W : Wd} {K : PySem.W.Frag} {pos apos : Pos} {e o : Expr} {es : List Expr} {kws : List Keyword} {t : TE} {a : Ae} {ts tk : TA} {as ak : Aa} {sp : ASp} {k j n : Nat} {C : Addr} {m : Str} {ks : List Str}
theorem k_defMKN {pl : Sem Bool} (F : DefMKN X.prog X.w X.K X.mg X.base C m k sp n ks) (hr : Room j X.A) (hkj : k ≤ j) (ho : AE X W o t a) (ha : AA X W (e :: es) ts as) (hkw : AK X W kws tk ak)
    (hall : (backToKw pos (keywordEach kws X.env)).all (·.1.isSome) = true := by rfl) (hks : (backToKw pos (keywordEach kws X.env)).filterMap (·.1) = ks := by rfl)
    (hse : starEach (e :: es) X.env = (false, eval e X.env) :: starEach es X.env := by rfl)
    (hpl : ((backTo pos (starEach (e :: es) X.env)).any (·.1) || (backToKw pos (keywordEach kws X.env)).any (·.1.isNone)) = false := by rfl)
    (ht : eval (.Call (.Attribute o m apos) (e :: es) kws pos) X.env = (do
      let ov ← eval o X.env
      standAt apos.atName
      let (f, first) ← holding [ov] (getMethod ov m pl)
      callWith pos f first (backTo pos (starEach (e :: es) X.env)) (backToKw pos (keywordEach kws X.env))) := by rfl) (hK : X.K = K := by rfl) :
    AE X W (.Call (.Attribute o m apos) (e :: es) kws pos) (tMethKN C m n ks.length (conc K sp) (fun vs zs => vs ++ zs) E0 t ts tk) (aDefMKN C m n ks.length sp a as ak) := by
  subst hK
  obtain ⟨f, fd, ps, g, F, c, hm, hb⟩ := F
  exact ⟨pe_methKN ho.pe c hm F (hr.mono hkj) hb pass0 ha.pa hkw.pk hall hks hse hpl ht, se_defMKN ho.se ha.sa hkw.sa⟩
end
end G

set_option Elab.async false
set_option linter.all false
set_option maxRecDepth 100000
namespace G
open PySem PySem.Spec PyProof.Rows L2
/-! ### str, repr of lists and tuples -/
def shwD (d : D) : Str := (toPy d).shown
def seqB : D → Bool
  | .tup _ => true
  | .lst _ => true
  | .scr _ => true
  | _ => false
mutual
/-- what may be shown: numbers not too great, n deep at most -/
def shO : Nat → D → Bool
  | _, .non => true
  | _, .bl _ => true
  | _, .int i => decide (i.natAbs.log2 < 1920)
  | _, .str _ => true
  | n + 1, .tup l => shOs n l
  | n + 1, .lst l => shOs n l
  | n + 1, .scr l => l.all fun i => decide (i.natAbs.log2 < 1920)
  | _, _ => false
def shOs : Nat → List D → Bool
  | _, [] => true
  | n, x :: l => shO n x && shOs n l
end
mutual
/-- how long the text is at most -/
def shC : D → Nat
  | .non => 4
  | .bl _ => 5
  | .int i => i.natAbs.log2 + 2
  | .str s => (reprText s).length
  | .tup l => shCs l + 3
  | .lst l => shCs l + 2
  | .scr l => (l.map fun i => i.natAbs.log2 + 4).sum + 2
  | _ => 0
def shCs : List D → Nat
  | [] => 0
  | x :: l => shC x + 2 + shCs l
end
theorem shO_scr {n : Nat} {l : List Int} (h : (l.all fun i => decide (i.natAbs.log2 < 1920)) = true) : PyData.showableAll (l.map .int) = true :=
  PyData.showableAll_ints l fun i hi => of_decide_eq_true (List.all_eq_true.mp h i hi)
mutual
theorem shO_ok : ∀ {n : Nat} {d : D}, shO n d = true → okE d = true ∧ (toPy d).showable = true ∧ (toPy d).hasDict = false ∧ (toPy d).depth ≤ n
  | n, .non, _ => by unfold okE toPy; simp [PyData.showable, PyData.hasDict, PyData.depth]
  | n, .bl _, _ => by unfold okE toPy; simp [PyData.showable, PyData.hasDict, PyData.depth]
  | n, .int i, h => by
    unfold shO at h
    unfold okE toPy; simp [PyData.showable, PyData.hasDict, PyData.depth]
    exact of_decide_eq_true h
  | n, .str _, _ => by unfold okE toPy; simp [PyData.showable, PyData.hasDict, PyData.depth]
  | 0, .tup _, h => by unfold shO at h; cases h
  | 0, .lst _, h => by unfold shO at h; cases h
  | 0, .scr _, h => by unfold shO at h; cases h
  | n + 1, .tup l, h => by
    unfold shO at h
    obtain ⟨h1, h2, h3, h4⟩ := shOs_ok h
    unfold okE toPy
    refine ⟨h1, by unfold PyData.showable; exact h2, by unfold PyData.hasDict; exact h3, by unfold PyData.depth; omega⟩
  | n + 1, .lst l, h => by
    unfold shO at h
    obtain ⟨h1, h2, h3, h4⟩ := shOs_ok h
    unfold okE toPy
    refine ⟨h1, by unfold PyData.showable; exact h2, by unfold PyData.hasDict; exact h3, by unfold PyData.depth; omega⟩
  | n + 1, .scr l, h => by
    unfold shO at h
    have hd : ∀ l : List Int, PyData.hasDictAll (l.map .int) = false ∧ PyData.depthAll (l.map .int) = 0 := fun l => by
      induction l with
      | nil => exact ⟨by simp [PyData.hasDictAll], by simp [PyData.depthAll]⟩
      | cons x l ih => exact ⟨by simp [PyData.hasDictAll, PyData.hasDict, ih.1], by simp [PyData.depthAll, PyData.depth, ih.2]⟩
    unfold okE toPy
    refine ⟨rfl, by unfold PyData.showable; exact shO_scr (n := n) h, by unfold PyData.hasDict; exact (hd l).1, by unfold PyData.depth; rw [(hd l).2]; omega⟩
  | 0, .obj _ _, h => by unfold shO at h; cases h
  | n + 1, .obj _ _, h => by unfold shO at h; cases h
  | 0, .vl _, h => by unfold shO at h; cases h
  | n + 1, .vl _, h => by unfold shO at h; cases h
  | 0, .exc _ _, h => by unfold shO at h; cases h
  | n + 1, .exc _ _, h => by unfold shO at h; cases h
  | 0, .dic _, h => by unfold shO at h; cases h
  | n + 1, .dic _, h => by unfold shO at h; cases h
theorem shOs_ok : ∀ {n : Nat} {l : List D}, shOs n l = true → okEs l = true ∧ PyData.showableAll (toPys l) = true ∧ PyData.hasDictAll (toPys l) = false ∧ PyData.depthAll (toPys l) ≤ n
  | n, [], _ => by unfold okEs toPys; simp [PyData.showableAll, PyData.hasDictAll, PyData.depthAll]
  | n, x :: l, h => by
    unfold shOs at h
    rw [Bool.and_eq_true] at h
    obtain ⟨a1, a2, a3, a4⟩ := shO_ok h.1
    obtain ⟨b1, b2, b3, b4⟩ := shOs_ok h.2
    unfold okEs toPys
    refine ⟨by rw [a1, b1]; rfl, by unfold PyData.showableAll; rw [a2, b2]; rfl, by unfold PyData.hasDictAll; rw [a3, b3]; rfl, by unfold PyData.depthAll; omega⟩
end
theorem int_cost (i : Int) : ((toString i : String) : Str).length ≤ i.natAbs.log2 + 2 := by
  have e := int_text_length_le (a := i) (k := i.natAbs.log2 + 1) (by omega) (by omega)
  rw [PySem.ofString_length]; omega
theorem join_cost (ts : List Str) : (Str.join ", " ts).length ≤ piled ts := by
  cases ts with
  | nil => exact Nat.zero_le _
  | cons t ts =>
    have := join_length_add (t :: ts) (by simp)
    omega
mutual
theorem shown_cost : ∀ d : D, okE d = true → (toPy d).shown.length ≤ shC d
  | .non, _ => by unfold toPy shC; rw [PyData.shown_none]; decide
  | .bl b, _ => by unfold toPy shC; rw [PyData.shown_bool]; cases b <;> decide
  | .int i, _ => by unfold toPy shC; rw [PyData.shown_int]; exact int_cost i
  | .str s, _ => by unfold toPy shC; rw [PyData.shown_str]; exact Nat.le_refl _
  | .tup l, h => by
    unfold okE at h
    have := shown_costs l h
    have j := join_cost (PyData.shownAll (toPys l))
    unfold toPy shC
    rw [PyData.shown_tuple, strLen_append, strLen_append]
    have e1 : (("(" : Str)).length = 1 := rfl
    have e2 : (((if (toPys l).length == 1 then ",)" else ")" : String)) : Str).length ≤ 2 := by split <;> decide
    rw [e1]; omega
  | .lst l, h => by
    unfold okE at h
    have := shown_costs l h
    have j := join_cost (PyData.shownAll (toPys l))
    unfold toPy shC
    rw [PyData.shown_list, strLen_append, strLen_append]
    have e1 : (("[" : Str)).length = 1 := rfl
    have e2 : (("]" : Str)).length = 1 := rfl
    rw [e1, e2]; omega
  | .scr l, _ => by
    have : ∀ l : List Int, piled (PyData.shownAll (l.map .int)) ≤ (l.map fun i => i.natAbs.log2 + 4).sum := fun l => by
      induction l with
      | nil => simp [PyData.shownAll, piled_nil]
      | cons x l ih =>
        have := int_cost x
        rw [List.map_cons, List.map_cons, PyData.shownAll_cons, piled_cons, PyData.shown_int, List.sum_cons]
        omega
    have := this l
    have j := join_cost (PyData.shownAll (l.map .int))
    unfold toPy shC
    rw [PyData.shown_list, strLen_append, strLen_append]
    have e1 : (("[" : Str)).length = 1 := rfl
    have e2 : (("]" : Str)).length = 1 := rfl
    rw [e1, e2]; omega
  | .obj _ _, h => by unfold okE at h; cases h
  | .vl _, h => by unfold okE at h; cases h
  | .exc _ _, h => by unfold okE at h; cases h
  | .dic _, h => by unfold okE at h; cases h
theorem shown_costs : ∀ l : List D, okEs l = true → piled (PyData.shownAll (toPys l)) ≤ shCs l
  | [], _ => by unfold toPys shCs; rw [PyData.shownAll_nil, piled_nil]; exact Nat.le_refl _
  | x :: l, h => by
    unfold okEs at h
    rw [Bool.and_eq_true] at h
    have := shown_cost x h.1
    have := shown_costs l h.2
    unfold toPys shCs
    rw [PyData.shownAll_cons, piled_cons]
    omega
end
/-- at V's: shown by what stands there -/
abbrev rShw (K : PySem.W.Frag) : List V → Hp → VK → Prop := fun xs H Q => ∃ p d, xs = [.ref p] ∧ Dp K H (.ref p) d ∧ d.showable = true ∧ d.hasDict = false ∧ d.depth ≤ 100 ∧ d.shown.length ≤ sizeLine ∧ Q (.str d.shown) H
section
variable {X : Cx}
theorem call_shwS (hg : X.A.guards = some []) (hu : X.A.units + 200 < cLine) : CallR X (.type "str") (rShw X.K) := by
  intro pins s σ H xs us Q I r h
  obtain ⟨p, d, rfl, hd, hs, hn, hdp, hz, q⟩ := h
  obtain ⟨u, rfl, ru⟩ := vals1 r
  cases (show u = Value.ref p from ru)
  obtain ⟨as, rd⟩ := Dp.reads I d _ _ hd ru
  exact str_of_reads rd hs (PyData.noDict_hsm hn) hg (by omega) (fun _ _ e => e) (fun h' t tk hk => ⟨.str _, H, I.turnedL (ch := []) (fun b o _ e => hk b o e) (fun _ z => nomatch z), ⟨_, rfl⟩, q⟩) hz
theorem call_shwR (hg : X.A.guards = some []) (hu : X.A.units + 200 < cLine) : CallR X (.builtin "repr") (rShw X.K) := by
  intro pins s σ H xs us Q I r h
  obtain ⟨p, d, rfl, hd, hs, hn, hdp, hz, q⟩ := h
  obtain ⟨u, rfl, ru⟩ := vals1 r
  cases (show u = Value.ref p from ru)
  obtain ⟨as, rd⟩ := Dp.reads I d _ _ hd ru
  exact repr_of_reads' rd hs (PyData.noDict_hsm hn) hg (by omega) (fun _ _ e => e) (fun h' t tk hk => ⟨.str _, H, I.turnedL (ch := []) (fun b o _ e => hk b o e) (fun _ z => nomatch z), ⟨_, rfl⟩, q⟩) hz
end
structure ShwOk (d : D) : Prop where
  seq : seqB d = true
  ok : shO 90 d = true
  len : shC d ≤ 16777216
def cShw : Ac := fun xs M Q => match xs with
  | [x] => Opt (deepA M 6 x) fun d => Side (ShwOk d) (Q (.d (.str (shwD d))) M)
  | _ => False
theorem sc_shw {K : PySem.W.Frag} {W : Wd} : SC K W (rShw K) cShw := by
  intro b M xs vs QA Q t ok r h k
  unfold cShw at h
  split at h
  · rename_i x
    obtain ⟨d, e, hd, q⟩ := h
    obtain ⟨v, rfl, r1⟩ := repAs_1 r
    have rd := deepA_rep ok 6 r1 e
    obtain ⟨h1, h2, h3, h4⟩ := shO_ok hd.ok
    have dp := rep_dp (Same.refl _) h1 rd
    have hl := shown_cost d h1
    have hp : ∃ p, v = .ref p := by
      have hs := hd.seq
      cases rd with
      | tup _ _ => exact ⟨_, rfl⟩
      | lst _ _ => exact ⟨_, rfl⟩
      | scr _ => exact ⟨_, rfl⟩
      | non => cases hs
      | bl _ => cases hs
      | int _ => cases hs
      | str _ => cases hs
      | vl _ => cases hs
      | obj _ _ => cases hs
      | exc _ _ _ => cases hs
      | dic _ _ => cases hs
    obtain ⟨p, rfl⟩ := hp
    refine ⟨p, _, rfl, dp, h2, h3, by omega, by have := hd.len; rw [sizeLine_eq]; omega, ?_⟩
    exact k b M _ _ t ok (.refl _) (.d (.str _)) q
  · exact h.elim
section
variable {X : Cx} {W : Wd} {K : PySem.W.Frag} {pos p : Pos} {e : Expr} {es : List Expr} {ts : TA} {as : Aa} {j : Nat}
theorem k_shwS (hr : Room j X.A) (hm : X.mg "str" = none) (ha : AA X W (e :: es) ts as) (hg : Gl X "str" := by rfl) (he : starEach (e :: es) X.env = (false, eval e X.env) :: starEach es X.env := by rfl) (hpl : (backTo pos (starEach es X.env)).any (·.1) = false := by rfl) (hK : X.K = K := by rfl) :
    AE X W (.Call (.Name "str" p) (e :: es) [] pos) (tCB (rShw K) ts) (aCB cShw as) := by
  subst hK
  exact ae_ct (call_shwS hr.gs (by have := hr.un; omega)) sc_shw hm ha (by decide +kernel) hg (by decide) (by decide) he hpl
theorem k_shwR (hr : Room j X.A) (hm : X.mg "repr" = none) (ha : AA X W (e :: es) ts as) (hg : Gl X "repr" := by rfl) (he : starEach (e :: es) X.env = (false, eval e X.env) :: starEach es X.env := by rfl) (hpl : (backTo pos (starEach es X.env)).any (·.1) = false := by rfl) (hK : X.K = K := by rfl) :
    AE X W (.Call (.Name "repr" p) (e :: es) [] pos) (tCB (rShw K) ts) (aCB cShw as) := by
  subst hK
  exact ae_cb (call_shwR hr.gs (by have := hr.un; omega)) sc_shw hm ha (by decide +kernel) hg (by decide) (by decide) he hpl
end
end G
namespace G
open PySem
theorem shOs_ints {n : Nat} : ∀ {ds : List Int}, (∀ x ∈ ds, x.natAbs.log2 < 1920) → shOs n (ds.map D.int) = true
  | [], _ => by rw [List.map_nil]; unfold shOs; rfl
  | x :: ds, h => by
    rw [List.map_cons]
    unfold shOs
    rw [Bool.and_eq_true]
    refine ⟨?_, shOs_ints fun y hy => h y (List.mem_cons_of_mem _ hy)⟩
    unfold shO
    exact decide_eq_true (h x List.mem_cons_self)
theorem shCs_ints {b : Nat} : ∀ {ds : List Int}, (∀ x ∈ ds, x.natAbs.log2 ≤ b) → shCs (ds.map D.int) ≤ ds.length * (b + 4)
  | [], _ => by rw [List.map_nil]; unfold shCs; exact Nat.zero_le _
  | x :: ds, h => by
    have ih := shCs_ints (ds := ds) fun y hy => h y (List.mem_cons_of_mem _ hy)
    have hx := h x List.mem_cons_self
    have e : (x :: ds).length * (b + 4) = ds.length * (b + 4) + (b + 4) := by rw [List.length_cons, Nat.add_mul, Nat.one_mul]
    rw [List.map_cons, e]
    unfold shCs shC
    omega
theorem log2_lt {x : Int} {k : Nat} (h : x.natAbs < 2 ^ k) (hk : 0 < k) : x.natAbs.log2 < k := by
  by_cases z : x.natAbs = 0
  · rw [z]; exact hk
  · exact (Nat.log2_lt z).mpr h
end G

set_option Elab.async false
set_option linter.all false
set_option maxRecDepth 100000
namespace G
open PySem PySem.Spec PyProof.Rows L2
/-! ### what a comprehension has gathered -/
theorem acc_all {items acc : List D} {P : D → Prop} (hl : acc.length = items.length) (hP : ∀ (i : Nat) (d y : D), items[i]? = some d → acc[i]? = some y → P y) : ∀ y ∈ acc, P y := fun y hy => by
  obtain ⟨j, hj⟩ := List.getElem?_of_mem hy
  have hj2 : j < items.length := by rw [← hl]; exact (List.getElem?_eq_some_iff.mp hj).1
  exact hP j _ y (List.getElem?_eq_getElem hj2) hj
theorem acc_of {α : Type} {mk : α → D} {P : α → Prop} : ∀ {acc : List D}, (∀ y ∈ acc, ∃ w, y = mk w ∧ P w) → ∃ ws : List α, acc = ws.map mk ∧ ∀ w ∈ ws, P w
  | [], _ => ⟨[], rfl, fun n h => by cases h⟩
  | y :: acc, h => by
    obtain ⟨n, rfl, hn⟩ := h y List.mem_cons_self
    obtain ⟨ns, rfl, hs⟩ := acc_of fun z hz => h z (List.mem_cons_of_mem _ hz)
    exact ⟨n :: ns, rfl, fun m hm => by
      rcases List.mem_cons.mp hm with rfl | hm
      · exact hn
      · exact hs m hm⟩
/-- items are told by a map -/
theorem get_map {α : Type} {mk : α → D} {l : List α} {i : Nat} {d : D} (h : (l.map mk)[i]? = some d) : ∃ x, x ∈ l ∧ l[i]? = some x ∧ d = mk x := by
  rw [List.getElem?_map] at h
  cases e : l[i]? with
  | none => rw [e] at h; cases h
  | some x => rw [e] at h; cases h; exact ⟨x, List.mem_of_getElem? e, rfl, rfl⟩
end G

set_option Elab.async false
set_option linter.all false
set_option maxRecDepth 100000
namespace G
open PySem PySem.Spec PyProof.Rows L2
/-- keywords only fill up what has no default: every parameter is written -/
theorem kbindsR {K : PySem.W.Frag} {x qual : Str} {params : Arguments} {body : List Stmt} {scope : Scope} {kws : List (Str × V)} {f : Addr} {fd : FuncData} {ps : List Str} (F : FunD K x qual params body scope [] kws f fd) (n : Nat) (ks : List Str)
    (h : ∀ (kV doc pm : Value) (an : Option Addr) (cdv ct : Value) (us ws : List Value), us.length = n → ws.length = ks.length → bindArgs (PySem.W.fnOf x qual params body scope .none kV doc pm an cdv ct) ⟨us, ks.zip ws⟩ = pure (ps.zip (us ++ ws))) : KBn K fd ps n ks (fun us ws => us ++ ws) (fun vs zs => vs ++ zs) := by
  obtain ⟨oc, od, dV, kV, doc, pm, an, cdv, ct, osl, rfl, lk, hcd, hD, hK⟩ := F.ex
  rcases hD with ⟨_, rfl⟩ | ⟨e, _⟩
  · exact ⟨fun s us ws X l1 l2 => .of_eq (h kV doc pm an cdv ct us ws l1 l2), fun r1 r2 => r1.append r2⟩
  · exact absurd rfl e
end G

set_option Elab.async false
set_option linter.all false
set_option maxRecDepth 100000
set_option maxHeartbeats 400000
set_option autoImplicit false
namespace Law
open PySem PySem.Spec PyProof.Rows L2 G
def top (i : Nat) : Stmt := PySem.Challenge.pw_guessedzeros_k46_all_cases_of_some_input.main.body.getD i (.Pass ⟨0, 0, 0, 0⟩)
def mth (i j : Nat) : Stmt := match top i with
  | .ClassDef _ _ _ b _ _ _ _ _ _ _ => b.getD j (.Pass ⟨0, 0, 0, 0⟩)
  | _ => .Pass ⟨0, 0, 0, 0⟩
abbrev s_law_box : Stmt := top 21
abbrev s_law_take : Stmt := top 22
abbrev s_law_gates : Stmt := top 23
abbrev s_Net__init_ : Stmt := mth 19 0
abbrev s_Net_look_at : Stmt := mth 19 2
abbrev s_Net_laid : Stmt := mth 19 3
abbrev s_Net_both : Stmt := mth 19 4
abbrev s_Net_either : Stmt := mth 19 5
abbrev s_Net_unlike : Stmt := mth 19 6
abbrev s_Net_other : Stmt := mth 19 7
abbrev s_Net_fixed : Stmt := mth 19 8
abbrev s_law_made : Stmt := top 24
abbrev s_Net_give : Stmt := mth 19 9
abbrev s_all_cases : Stmt := top 10
abbrev s_law_cases_right : Stmt := top 25
abbrev s_Net_gates : Stmt := mth 19 13
abbrev s_both_bits : Stmt := top 2
abbrev s_either_bits : Stmt := top 3
abbrev s_unlike_bits : Stmt := top 4
abbrev s_other_bits : Stmt := top 5
abbrev s_fixed_bits : Stmt := top 6
abbrev s_all_bits : Stmt := top 8
abbrev s_Net_names : Stmt := mth 19 11
abbrev s_Net_given : Stmt := mth 19 10
abbrev s_ran : Stmt := top 9
abbrev s_bits_of : Stmt := top 12
abbrev s_Net_inputs : Stmt := mth 19 12
abbrev s_number_of : Stmt := top 11
abbrev s_one_case : Stmt := top 13
abbrev s_law : Stmt := top 26
/-! ### the head -/
def dd_law_box : He.DefD := ⟨("_law_box", none), "_law_box", "_law_box", defArgs s_law_box, defBody s_law_box, defScope s_law_box, [], []⟩
def dd_law_take : He.DefD := ⟨("_law_take", none), "_law_take", "_law_take", defArgs s_law_take, defBody s_law_take, defScope s_law_take, [], []⟩
def dd_law_gates : He.DefD := ⟨("_law_gates", none), "_law_gates", "_law_gates", defArgs s_law_gates, defBody s_law_gates, defScope s_law_gates, [], []⟩
def dd_Net__init_ : He.DefD := ⟨("Net", some "__init__"), "__init__", "Net.__init__", defArgs s_Net__init_, defBody s_Net__init_, defScope s_Net__init_, [], []⟩
def dd_Net_look_at : He.DefD := ⟨("Net", some "look_at"), "look_at", "Net.look_at", defArgs s_Net_look_at, defBody s_Net_look_at, defScope s_Net_look_at, [], []⟩
def dd_Net_laid : He.DefD := ⟨("Net", some "laid"), "laid", "Net.laid", defArgs s_Net_laid, defBody s_Net_laid, defScope s_Net_laid, [], []⟩
def dd_Net_both : He.DefD := ⟨("Net", some "both"), "both", "Net.both", defArgs s_Net_both, defBody s_Net_both, defScope s_Net_both, [], []⟩
def dd_Net_either : He.DefD := ⟨("Net", some "either"), "either", "Net.either", defArgs s_Net_either, defBody s_Net_either, defScope s_Net_either, [], []⟩
def dd_Net_unlike : He.DefD := ⟨("Net", some "unlike"), "unlike", "Net.unlike", defArgs s_Net_unlike, defBody s_Net_unlike, defScope s_Net_unlike, [], []⟩
def dd_Net_other : He.DefD := ⟨("Net", some "other"), "other", "Net.other", defArgs s_Net_other, defBody s_Net_other, defScope s_Net_other, [], []⟩
def dd_Net_fixed : He.DefD := ⟨("Net", some "fixed"), "fixed", "Net.fixed", defArgs s_Net_fixed, defBody s_Net_fixed, defScope s_Net_fixed, [], []⟩
def dd_law_made : He.DefD := ⟨("_law_made", none), "_law_made", "_law_made", defArgs s_law_made, defBody s_law_made, defScope s_law_made, [], []⟩
def dd_Net_give : He.DefD := ⟨("Net", some "give"), "give", "Net.give", defArgs s_Net_give, defBody s_Net_give, defScope s_Net_give, [], []⟩
def dd_all_cases : He.DefD := ⟨("all_cases", none), "all_cases", "all_cases", defArgs s_all_cases, defBody s_all_cases, defScope s_all_cases, [], []⟩
def dd_law_cases_right : He.DefD := ⟨("_law_cases_right", none), "_law_cases_right", "_law_cases_right", defArgs s_law_cases_right, defBody s_law_cases_right, defScope s_law_cases_right, [], []⟩
def dd_Net_gates : He.DefD := ⟨("Net", some "gates"), "gates", "Net.gates", defArgs s_Net_gates, defBody s_Net_gates, defScope s_Net_gates, [], []⟩
def dd_both_bits : He.DefD := ⟨("both_bits", none), "both_bits", "both_bits", defArgs s_both_bits, defBody s_both_bits, defScope s_both_bits, [], []⟩
def dd_either_bits : He.DefD := ⟨("either_bits", none), "either_bits", "either_bits", defArgs s_either_bits, defBody s_either_bits, defScope s_either_bits, [], []⟩
def dd_unlike_bits : He.DefD := ⟨("unlike_bits", none), "unlike_bits", "unlike_bits", defArgs s_unlike_bits, defBody s_unlike_bits, defScope s_unlike_bits, [], []⟩
def dd_other_bits : He.DefD := ⟨("other_bits", none), "other_bits", "other_bits", defArgs s_other_bits, defBody s_other_bits, defScope s_other_bits, [], []⟩
def dd_fixed_bits : He.DefD := ⟨("fixed_bits", none), "fixed_bits", "fixed_bits", defArgs s_fixed_bits, defBody s_fixed_bits, defScope s_fixed_bits, [], []⟩
def dd_all_bits : He.DefD := ⟨("all_bits", none), "all_bits", "all_bits", defArgs s_all_bits, defBody s_all_bits, defScope s_all_bits, [], []⟩
def dd_Net_names : He.DefD := ⟨("Net", some "names"), "names", "Net.names", defArgs s_Net_names, defBody s_Net_names, defScope s_Net_names, [], []⟩
def dd_Net_given : He.DefD := ⟨("Net", some "given"), "given", "Net.given", defArgs s_Net_given, defBody s_Net_given, defScope s_Net_given, [], []⟩
def dd_ran : He.DefD := ⟨("ran", none), "ran", "ran", defArgs s_ran, defBody s_ran, defScope s_ran, [], [("many", .int 1)]⟩
def dd_bits_of : He.DefD := ⟨("bits_of", none), "bits_of", "bits_of", defArgs s_bits_of, defBody s_bits_of, defScope s_bits_of, [], []⟩
def dd_Net_inputs : He.DefD := ⟨("Net", some "inputs"), "inputs", "Net.inputs", defArgs s_Net_inputs, defBody s_Net_inputs, defScope s_Net_inputs, [], []⟩
def dd_number_of : He.DefD := ⟨("number_of", none), "number_of", "number_of", defArgs s_number_of, defBody s_number_of, defScope s_number_of, [], []⟩
def dd_one_case : He.DefD := ⟨("one_case", none), "one_case", "one_case", defArgs s_one_case, defBody s_one_case, defScope s_one_case, [], []⟩
def dd_law : He.DefD := ⟨("law", none), "law", "law", defArgs s_law, defBody s_law, defScope s_law, [], []⟩

def fn_0 : List He.DefD := [dd_law_box, dd_law_take, dd_law_gates, dd_Net__init_, dd_Net_look_at, dd_Net_laid, dd_Net_both, dd_Net_either, dd_Net_unlike, dd_Net_other, dd_Net_fixed, dd_law_made, dd_Net_give, dd_all_cases, dd_law_cases_right, dd_Net_gates, dd_both_bits, dd_either_bits, dd_unlike_bits, dd_other_bits, dd_fixed_bits, dd_all_bits, dd_Net_names, dd_Net_given, dd_ran, dd_bits_of, dd_Net_inputs, dd_number_of, dd_one_case, dd_law]
def fa_0 : List He.Fa := [.glo "_law_box", .glo "_law_take", .glo "_law_gates", .meth "Net" "__init__", .meth "Net" "look_at", .meth "Net" "laid", .meth "Net" "both", .meth "Net" "either", .meth "Net" "unlike", .meth "Net" "other", .meth "Net" "fixed", .glo "_law_made", .meth "Net" "give", .glo "all_cases", .glo "_law_cases_right", .meth "Net" "gates", .glo "both_bits", .glo "either_bits", .glo "unlike_bits", .glo "other_bits", .glo "fixed_bits", .glo "all_bits", .meth "Net" "names", .meth "Net" "given", .glo "ran", .glo "bits_of", .meth "Net" "inputs", .glo "number_of", .glo "one_case", .glo "law", .free "len", .free "abs", .free "int", .free "divmod", .free "range", .free "min", .free "max", .free "list", .free "isinstance", .free "all", .free "sorted", .glo "GATE_RULES", .glo "Net", .cls "Net", .mkr "Net", .noat "Net" "many_first", .noat "Net" "gate_rows", .noat "Net" "wire_depths", .noat "Net" "told_wires"]
def ow_0 : List (PySem.W.Frag → Bool) := [fun K => He.valsB K (He.ga K "GATE_RULES") [("both", .glo "both_bits"), ("either", .glo "either_bits"), ("unlike", .glo "unlike_bits"), ("other", .glo "other_bits"), ("fixed", .glo "fixed_bits")]]
def dfn : List He.DefD := fn_0
def dfa : List He.Fa := fa_0
def dow : List (PySem.W.Frag → Bool) := ow_0
abbrev R : PySem.W.OpenRow := PySem.W.OpenLaw.row PySem.Challenge.rw_guessedzeros_k46_all_cases_of_some_input
def dts : List He.Tab := [(fun K => He.ga K "GATE_RULES", ["both", "either", "unlike", "other", "fixed"])]
abbrev hk : PySem.W.Hook := hookX dfa dfn dow dts
abbrev ob : PySem.W.SharedT → AlX := obsX dfa dfn dow dts
theorem ob_eq (s : PySem.W.SharedT) : ob s = hk.obs s.abs := obsX_eq s
theorem run0 (w : World) (os : OsState) : Base R (PySem.W.view R.prog [26]) 6000 [("GATE_RULES" : PySem.Str), ("_wall" : PySem.Str), ("both_bits" : PySem.Str), ("either_bits" : PySem.Str), ("unlike_bits" : PySem.Str), ("other_bits" : PySem.Str), ("fixed_bits" : PySem.Str), ("all_bits" : PySem.Str), ("ran" : PySem.Str), ("all_cases" : PySem.Str), ("number_of" : PySem.Str), ("bits_of" : PySem.Str), ("one_case" : PySem.Str), ("_law_box" : PySem.Str), ("_law_take" : PySem.Str), ("_law_gates" : PySem.Str), ("_law_made" : PySem.Str), ("_law_cases_right" : PySem.Str), ("NoWire" : PySem.Str), ("NoName" : PySem.Str), ("Taken" : PySem.Str), ("Net" : PySem.Str)] w os := by_row (P := fun w => Base R (PySem.W.view R.prog [26]) 6000 [("GATE_RULES" : PySem.Str), ("_wall" : PySem.Str), ("both_bits" : PySem.Str), ("either_bits" : PySem.Str), ("unlike_bits" : PySem.Str), ("other_bits" : PySem.Str), ("fixed_bits" : PySem.Str), ("all_bits" : PySem.Str), ("ran" : PySem.Str), ("all_cases" : PySem.Str), ("number_of" : PySem.Str), ("bits_of" : PySem.Str), ("one_case" : PySem.Str), ("_law_box" : PySem.Str), ("_law_take" : PySem.Str), ("_law_gates" : PySem.Str), ("_law_made" : PySem.Str), ("_law_cases_right" : PySem.Str), ("NoWire" : PySem.Str), ("NoName" : PySem.Str), ("Taken" : PySem.Str), ("Net" : PySem.Str)] w os) "special-get-raises" (fun w => by
  unfold Base
  kernel_rfl) (fun w => by
  unfold Base
  kernel_rfl) w
theorem run_0 (w : World) (os : OsState) : Part R 6000 fa_0 fn_0 ow_0 w os := by_row (P := fun w => Part R 6000 fa_0 fn_0 ow_0 w os) "special-get-raises" (fun w => by
  unfold Part
  kernel_rfl) (fun w => by
  unfold Part
  kernel_rfl) w
theorem run_t (w : World) (os : OsState) : PartT R 6000 dts w os := by_row (P := fun w => PartT R 6000 dts w os) "special-get-raises" (fun w => by
  unfold PartT
  kernel_rfl) (fun w => by
  unfold PartT
  kernel_rfl) w
theorem run (w : World) : HandSHeadRun.RunEq R (PySem.W.view R.prog [26]) hk ob 6000 [("GATE_RULES" : PySem.Str), ("_wall" : PySem.Str), ("both_bits" : PySem.Str), ("either_bits" : PySem.Str), ("unlike_bits" : PySem.Str), ("other_bits" : PySem.Str), ("fixed_bits" : PySem.Str), ("all_bits" : PySem.Str), ("ran" : PySem.Str), ("all_cases" : PySem.Str), ("number_of" : PySem.Str), ("bits_of" : PySem.Str), ("one_case" : PySem.Str), ("_law_box" : PySem.Str), ("_law_take" : PySem.Str), ("_law_gates" : PySem.Str), ("_law_made" : PySem.Str), ("_law_cases_right" : PySem.Str), ("NoWire" : PySem.Str), ("NoName" : PySem.Str), ("Taken" : PySem.Str), ("Net" : PySem.Str)] w := run_ofX (run0 w) (fun os => run_0 w os) (fun os => run_t w os)
/-! @@ base -/

local macro_rules | `(tactic| walk_at "gs") => `(tactic| first
  | omega | exact mulB | exact cpos (by omega) | exact cnn (by omega) | exact wdiv (by omega) (by omega) | exact mulL (by omega) (by omega) | exact mulR (by omega) (by omega) | exact cpow_ok (by omega) (by omega) (by omega) | exact ⟨rfl, rfl⟩ | rfl | decide)
local macro_rules | `(tactic| walk_at "gb") => `(tactic| first | omega | decide)
local macro_rules | `(tactic| walk_at "g") => `(tactic| repeat first | refine Side.mk (by walk_at "gs") ?_ | refine Opt.mk ⟨_, rfl, ?_⟩)
theorem mulB {i : Int} {c : Bool} : IntMulOk i (if c then 1 else 0) := mulR (by cases c <;> decide) (by cases c <;> decide)
/-! a draw's size, by the depth -/
def tk (n : Nat) (m : Int) : Prop := m ≤ 10 ^ (7 * n)
theorem tk_zero {m : Int} (h : tk 0 m) : m ≤ 1 := h
theorem tk_pow (n : Nat) : (10:Int) ^ (7 * (n + 1)) = 10 ^ (7 * n) * 10000000 := by
  rw [show 7 * (n + 1) = 7 * n + 7 by omega, Int.pow_add]; rfl
theorem tk_step {n : Nat} {m : Int} (h : tk (n + 1) m) (hm : 10000000 < m) : tk n ((m - 1) / 10000000 + 1) := by
  unfold tk at *
  rw [tk_pow] at h
  have : (m - 1) / 10000000 < 10 ^ (7 * n) := Int.ediv_lt_of_lt_mul (by decide) (by omega)
  omega
theorem tk_one {n : Nat} {m : Int} (h : tk (n + 1) m) (hm : 10000000 < m) : tk n 10000000 := by
  cases n with
  | zero =>
    exfalso
    have h' : m ≤ 10 ^ (7 * 1) := h
    have e : (10:Int) ^ (7 * 1) = 10000000 := by decide
    omega
  | succ n =>
    unfold tk
    have h1 : (1:Int) ≤ 10 ^ (7 * n) := Int.pow_pos (by decide)
    rw [tk_pow]; omega
theorem tk_size {n : Nat} {m : Int} (h : tk n m) (hm : 1 ≤ m) (hn : n ≤ 24) : m.natAbs < 2 ^ 9000 := by
  unfold tk at h
  have e : (((10:Nat) ^ (7 * n) : Nat) : Int) = (10:Int) ^ (7 * n) := by rw [Int.natCast_pow]; rfl
  have h2 : m.natAbs ≤ 10 ^ (7 * n) := by omega
  have h3 : (10:Nat) ^ (7 * n) ≤ 16 ^ (7 * n) := Nat.pow_le_pow_left (by decide) _
  have h4 : (16:Nat) ^ (7 * n) ≤ 16 ^ 200 := Nat.pow_le_pow_right (by decide) (by omega)
  have h5 : (16:Nat) ^ 200 < 2 ^ 9000 := by
    rw [show (16:Nat) = 2 ^ 4 by rfl, ← Nat.pow_mul]
    exact Nat.pow_lt_pow_right (by decide) (by decide)
  exact Nat.lt_of_le_of_lt (Nat.le_trans h2 (Nat.le_trans h3 h4)) h5

local macro_rules | `(tactic| walk_at "gf") => `(tactic| repeat first | refine Side.mk (by walk_at "gs") ?_ | refine Opt.mk ⟨_, rfl, ?_⟩ | refine fork_t (by first | decide | rfl | exact decide_eq_true rfl) ?_ | refine fork_f (by first | decide | rfl) ?_)
def okS : Nat → D → Bool
  | _, .non => true
  | _, .bl _ => true
  | _, .int _ => true
  | _, .str _ => true
  | n + 1, .lst l => decide (l.length ≤ 1000000) && l.all (okS n)
  | n + 1, .tup l => decide (l.length ≤ 1000000) && l.all (okS n)
  | _, _ => false
theorem okS_ints {n : Nat} : ∀ ns : List Int, (ns.map D.int).all (okS n) = true
  | [] => rfl
  | x :: ns => by rw [List.map_cons, List.all_cons, okS_ints ns]; cases n <;> rfl
theorem fork_r {c : Bool} {p q : Prop} (h : p) (h' : c = true) : Fork c p q := fork_t h' h

/-! @@ p_znet -/

/-! nets of gates -/
inductive Gt where
  | pr (k : Nat) (a b : Nat)
  | ot (a : Nat)
  | fx (b : Nat)
def gW : Nat → Str
  | 0 => "both"
  | 1 => "either"
  | _ => "unlike"
def gD : Gt → D
  | .pr k a b => .tup [.str (gW k), .int (a : Int), .int (b : Int)]
  | .ot a => .tup [.str "other", .int (a : Int)]
  | .fx b => .tup [.str "fixed", .int (b : Int)]
/-- how deep a gate's wire lies -/
def dpG (ds : List Int) : Gt → Int
  | .pr _ a b => 1 + max (ds.getD a 0) (ds.getD b 0)
  | .ot a => 1 + ds.getD a 0
  | .fx _ => 0
def dpsF (n : Nat) (gs : List Gt) : List Int := gs.foldl (fun ds g => ds ++ [dpG ds g]) (List.replicate n 0)
theorem dps_snoc (n : Nat) (gs : List Gt) (g : Gt) : dpsF n (gs ++ [g]) = dpsF n gs ++ [dpG (dpsF n gs) g] := by
  unfold dpsF
  rw [List.foldl_append]; rfl
theorem dps_len0 : ∀ (gs : List Gt) (ds : List Int), (gs.foldl (fun ds g => ds ++ [dpG ds g]) ds).length = ds.length + gs.length
  | [], ds => rfl
  | g :: gs, ds => by
    rw [List.foldl_cons, dps_len0 gs, List.length_append, List.length_cons (as := gs)]
    show ds.length + 1 + gs.length = _
    omega
theorem dps_len (n : Nat) (gs : List Gt) : (dpsF n gs).length = n + gs.length := by
  unfold dpsF
  rw [dps_len0, List.length_replicate]
theorem getK_mapA (k : Key) : ∀ kvs : List (Key × D), getK k (kvs.map fun p => (p.1, A.d p.2)) = (getK k kvs).map A.d
  | [] => rfl
  | (x, a) :: r => by
    show (match decide (x = k) with | true => some (A.d a) | false => getK k (r.map fun p => (p.1, A.d p.2))) = Option.map A.d (match decide (x = k) with | true => some a | false => getK k r)
    cases decide (x = k) with
    | true => rfl
    | false => exact getK_mapA k r
def netF (n : Nat) : List (Str × A) := [("many_first", .d (.int (n : Int))), ("gate_rows", .cell 1), ("wire_depths", .cell 2), ("told_wires", .cell 3)]
def netN : List Str := ["many_first", "gate_rows", "wire_depths", "told_wires"]
theorem nmN {n : Nat} {x : Str} (h : netN.contains x = false) : ¬ x ∈ List.map (fun y => y.1) (netF n) := by
  have e : List.map (fun y => y.1) (netF n) = netN := rfl
  rw [e]; intro hm; rw [List.contains_iff_mem.mpr hm] at h; cases h
def netM (C : Addr) (n : Nat) (gs : List Gt) (tw : List (Key × D)) : Mem := [.obj C (netF n), .lst (gs.map gD), .lst ((dpsF n gs).map D.int), .did tw]
theorem dp_at {n : Nat} {gs : List Gt} {a : Nat} (h : a < n + gs.length) : atI ((dpsF n gs).map D.int) (a : Int) = some (.int ((dpsF n gs).getD a 0)) := by
  have hl := dps_len n gs
  refine atI_get2 (n := a) rfl ?_
  rw [List.getElem?_map, List.getD_eq_getElem?_getD, List.getElem?_eq_getElem (by omega)]; rfl
/-- wires that are there -/
def wiresL : List D → Option (List Nat)
  | [] => some []
  | .int (.ofNat a) :: r => match wiresL r with
    | some l => some (a :: l)
    | none => none
  | _ => none
theorem wires_eq : ∀ {l : List D} {ws : List Nat}, wiresL l = some ws → l = ws.map fun a : Nat => D.int (a : Int)
  | [], ws, h => by cases h; rfl
  | d :: r, ws, h => by
    unfold wiresL at h
    split at h
    · rename_i e; cases e
    · rename_i a r' e
      cases e
      split at h
      · rename_i l e2
        cases h
        rw [wires_eq e2]; rfl
      · cases h
    · cases h
theorem wires_map : ∀ ws : List Nat, wiresL (ws.map fun a : Nat => D.int (a : Int)) = some ws
  | [] => rfl
  | a :: r => by
    show (match wiresL (r.map fun a : Nat => D.int (a : Int)) with | some l => some (a :: l) | none => none) = _
    rw [wires_map r]
/-- the bits of a gate, by those of the wires ahead of it -/
def btG (w : Int) (bs : List Int) : Gt → Int
  | .pr k a b => (match k with
    | 0 => Builtin.bitAnd (bs.getD a 0) (bs.getD b 0)
    | 1 => Builtin.bitOr (bs.getD a 0) (bs.getD b 0)
    | _ => Builtin.bitXor (bs.getD a 0) (bs.getD b 0))
  | .ot a => Builtin.bitXor (bs.getD a 0) w
  | .fx b => w * (b : Int)
def btsF (w : Int) (vs : List Int) (gs : List Gt) : List Int := gs.foldl (fun bs g => bs ++ [btG w bs g]) (vs.map fun v => Builtin.bitAnd v w)
theorem bts_snoc (w : Int) (vs : List Int) (gs : List Gt) (g : Gt) : btsF w vs (gs ++ [g]) = btsF w vs gs ++ [btG w (btsF w vs gs) g] := by
  unfold btsF
  rw [List.foldl_append]; rfl
theorem bts_len0 (w : Int) : ∀ (gs : List Gt) (bs : List Int), (gs.foldl (fun bs g => bs ++ [btG w bs g]) bs).length = bs.length + gs.length
  | [], bs => rfl
  | g :: gs, bs => by
    rw [List.foldl_cons, bts_len0 w gs, List.length_append, List.length_cons (as := gs)]
    show bs.length + 1 + gs.length = _
    omega
theorem bts_len (w : Int) (vs : List Int) (gs : List Gt) : (btsF w vs gs).length = vs.length + gs.length := by
  unfold btsF
  rw [bts_len0, List.length_map]
/-- each gate's wires are there -/
def gOk (n i : Nat) : Gt → Prop
  | .pr k a b => k ≤ 2 ∧ a < n + i ∧ b < n + i
  | .ot a => a < n + i
  | .fx b => b ≤ 1
def gsOk (n : Nat) (gs : List Gt) : Prop := ∀ i g, gs[i]? = some g → gOk n i g

/-! @@ p_znetr -/

/-! a net is run -/
theorem andB_mod (x y : Int) : Builtin.bitAnd x y % 2 = (if x % 2 = 1 ∧ y % 2 = 1 then 1 else 0) := by
  have h := PySem.W.kbt_halves x y
  split at h <;> rename_i c
  · rw [if_pos c]; omega
  · rw [if_neg c]; omega
theorem andB_div (x y : Int) : Builtin.bitAnd x y / 2 = Builtin.bitAnd (x / 2) (y / 2) := by
  have h := PySem.W.kbt_halves x y
  split at h <;> omega
theorem xorB_mod (x y : Int) : Builtin.bitXor x y % 2 = (x % 2 + y % 2) % 2 := by
  have h := bitXor_and x y
  omega
theorem xorB_div (x y : Int) : Builtin.bitXor x y / 2 = Builtin.bitXor (x / 2) (y / 2) := by
  have h := bitXor_and x y
  have g := bitXor_and (x / 2) (y / 2)
  have h2 := PySem.W.kbt_halves x y
  split at h2 <;> omega
theorem orB_mod (x y : Int) : Builtin.bitOr x y % 2 = (if x % 2 = 1 ∨ y % 2 = 1 then 1 else 0) := by
  have h := bitOr_and x y
  have g := andB_mod x y
  split at g <;> split <;> omega
theorem orB_div (x y : Int) : Builtin.bitOr x y / 2 = Builtin.bitOr (x / 2) (y / 2) := by
  have h := bitOr_and x y
  have g := bitOr_and (x / 2) (y / 2)
  have h2 := PySem.W.kbt_halves x y
  split at h2 <;> omega
/-- the bit of x in the place j -/
def bAt (x : Int) (j : Nat) : Int := x / 2 ^ j % 2
theorem bAt_rng (x : Int) (j : Nat) : 0 ≤ bAt x j ∧ bAt x j < 2 := ⟨Int.emod_nonneg _ (by decide), Int.emod_lt_of_pos _ (by decide)⟩
theorem div_suc (x : Int) (j : Nat) : x / 2 ^ (j + 1) = x / 2 / 2 ^ j := by
  rw [Int.pow_succ, Int.mul_comm, ← Int.ediv_ediv_of_nonneg (by decide)]
theorem bAt_zero (x : Int) : bAt x 0 = x % 2 := by unfold bAt; rw [Int.pow_zero, Int.ediv_one]
theorem bAt_suc (x : Int) (j : Nat) : bAt x (j + 1) = bAt (x / 2) j := by unfold bAt; rw [div_suc]
theorem bAt_and (j : Nat) : ∀ x y : Int, bAt (Builtin.bitAnd x y) j = if bAt x j = 1 ∧ bAt y j = 1 then 1 else 0 := by
  induction j with
  | zero => intro x y; rw [bAt_zero, bAt_zero, bAt_zero]; exact andB_mod x y
  | succ j ih => intro x y; rw [bAt_suc, bAt_suc, bAt_suc, andB_div]; exact ih _ _
theorem bAt_or (j : Nat) : ∀ x y : Int, bAt (Builtin.bitOr x y) j = if bAt x j = 1 ∨ bAt y j = 1 then 1 else 0 := by
  induction j with
  | zero => intro x y; rw [bAt_zero, bAt_zero, bAt_zero]; exact orB_mod x y
  | succ j ih => intro x y; rw [bAt_suc, bAt_suc, bAt_suc, orB_div]; exact ih _ _
theorem bAt_xor (j : Nat) : ∀ x y : Int, bAt (Builtin.bitXor x y) j = (bAt x j + bAt y j) % 2 := by
  induction j with
  | zero => intro x y; rw [bAt_zero, bAt_zero, bAt_zero]; exact xorB_mod x y
  | succ j ih => intro x y; rw [bAt_suc, bAt_suc, bAt_suc, xorB_div]; exact ih _ _
theorem and_one (m : Int) : Builtin.bitAnd m 1 = m % 2 := PySem.W.kbt_mask m 1
theorem bAt_one {x : Int} (h0 : 0 ≤ x) (h1 : x < 2) : bAt x 0 = x := by rw [bAt_zero]; omega
/-- all ones -/
theorem bAt_ones {N j : Nat} (h : j < N) : bAt (1 * 2 ^ N - 1) j = 1 := by
  unfold bAt
  rw [Int.one_mul, show N = (N - 1 - j) + 1 + j by omega, Int.pow_add]
  have p := Int.pow_pos (n := (2:Int)) (m := j) (by decide)
  have e : (2 ^ (N - 1 - j + 1) * 2 ^ j - 1 : Int) / 2 ^ j = 2 ^ (N - 1 - j + 1) - 1 := by
    rw [show (2 ^ (N - 1 - j + 1) * 2 ^ j - 1 : Int) = (2 ^ j - 1) + (2 ^ (N - 1 - j + 1) - 1) * 2 ^ j by rw [Int.sub_mul, Int.one_mul]; omega, Int.add_mul_ediv_right _ _ (by omega), Int.ediv_eq_zero_of_lt (by omega) (by omega), Int.zero_add]
  rw [e, Int.pow_succ]
  omega
theorem btG_bit {N w : Nat} (hw : w < N) (bs : List Int) (g : Gt) (hb : ∀ b, g = .fx b → b ≤ 1) (hk : ∀ k a b, g = .pr k a b → k ≤ 2) : bAt (btG (1 * 2 ^ N - 1) bs g) w = btG 1 (bs.map fun x => bAt x w) g := by
  have gd : ∀ a : Nat, (bs.map fun x => bAt x w).getD a 0 = bAt (bs.getD a 0) w := fun a => by
    rw [List.getD_eq_getElem?_getD, List.getD_eq_getElem?_getD, List.getElem?_map]
    cases bs[a]? with
    | none =>
      show (0:Int) = bAt 0 w
      unfold bAt; rw [Int.zero_ediv]; rfl
    | some x => rfl
  have sm2 : ∀ x y : Int, 0 ≤ x → x < 2 → 0 ≤ y → y < 2 → (x = 0 ∨ x = 1) ∧ (y = 0 ∨ y = 1) := fun x y h1 h2 h3 h4 => ⟨by omega, by omega⟩
  cases g with
  | pr k a b =>
    have hk2 := hk k a b rfl
    obtain ⟨u0, u1⟩ := bAt_rng (bs.getD a 0) w
    obtain ⟨v0, v1⟩ := bAt_rng (bs.getD b 0) w
    rcases (show k = 0 ∨ k = 1 ∨ k = 2 by omega) with rfl | rfl | rfl
    · show bAt (Builtin.bitAnd _ _) w = Builtin.bitAnd _ _
      rw [gd, gd, bAt_and]
      obtain ⟨h1 | h1, h2 | h2⟩ := sm2 _ _ u0 u1 v0 v1 <;> rw [h1, h2] <;> decide
    · show bAt (Builtin.bitOr _ _) w = Builtin.bitOr _ _
      rw [gd, gd, bAt_or]
      obtain ⟨h1 | h1, h2 | h2⟩ := sm2 _ _ u0 u1 v0 v1 <;> rw [h1, h2] <;> decide
    · show bAt (Builtin.bitXor _ _) w = Builtin.bitXor _ _
      rw [gd, gd, bAt_xor]
      obtain ⟨h1 | h1, h2 | h2⟩ := sm2 _ _ u0 u1 v0 v1 <;> rw [h1, h2] <;> decide
  | ot a =>
    obtain ⟨u0, u1⟩ := bAt_rng (bs.getD a 0) w
    show bAt (Builtin.bitXor _ _) w = Builtin.bitXor _ _
    rw [gd, bAt_xor, bAt_ones hw]
    rcases (show bAt (bs.getD a 0) w = 0 ∨ bAt (bs.getD a 0) w = 1 by omega) with h | h <;> rw [h] <;> decide
  | fx b =>
    have := hb b rfl
    rcases (show b = 0 ∨ b = 1 by omega) with rfl | rfl
    · show bAt (_ * (0:Int)) w = 1 * 0
      rw [Int.mul_zero]
      unfold bAt; rw [Int.zero_ediv]; rfl
    · show bAt (_ * (1:Int)) w = 1 * 1
      rw [Int.mul_one, bAt_ones hw]; rfl
/-- each case by itself -/
theorem bts_bit {N w n : Nat} (hw : w < N) (vs : List Int) : ∀ (m : Nat) (gs : List Gt), gs.length = m → gsOk n gs → (btsF (1 * 2 ^ N - 1) vs gs).map (fun x => bAt x w) = btsF 1 (vs.map fun v => bAt v w) gs
  | 0, gs, hm, _ => by
    obtain rfl := List.length_eq_zero_iff.mp hm
    unfold btsF
    rw [List.foldl_nil, List.foldl_nil, List.map_map, List.map_map]
    refine List.map_congr_left fun v _ => ?_
    show bAt (Builtin.bitAnd v _) w = Builtin.bitAnd (bAt v w) 1
    obtain ⟨u0, u1⟩ := bAt_rng v w
    rw [bAt_and, bAt_ones hw, and_one]
    split <;> omega
  | m + 1, gs, hm, ho => by
    obtain ⟨g, hg⟩ : ∃ g, gs[m]? = some g := ⟨_, List.getElem?_eq_getElem (by omega)⟩
    have e : gs = gs.take m ++ [g] := by
      have := List.take_succ (l := gs) (i := m)
      rw [hg, List.take_of_length_le (by omega)] at this
      exact this
    have ih := bts_bit hw vs m (gs.take m) (by rw [List.length_take]; omega) (fun i g' h => ho i g' (by
      rw [List.getElem?_take] at h
      split at h
      · exact h
      · cases h))
    have hok := ho m g hg
    rw [e, bts_snoc, bts_snoc, List.map_append, ih]
    rw [List.map_cons, List.map_nil, btG_bit hw _ _ (fun b hb => by subst hb; exact hok) (fun k a b hb => by subst hb; exact hok.1), ih]
/-! all cases -/
/-- the numbers below n that have a bit in the place p, as a row of bits -/
def patF (p : Nat) : Nat → Int
  | 0 => 0
  | n + 1 => patF p n + ((n / 2 ^ p % 2 : Nat) : Int) * 2 ^ n
def acF (n : Nat) : List Int := (List.range n).map fun i => patF (n - 1 - i) (2 ^ n)
theorem p2m {a b : Nat} (h : a ≤ b) : (2:Int) ^ a ≤ 2 ^ b := by
  obtain ⟨c, rfl⟩ := Nat.exists_eq_add_of_le h
  have pa := Int.pow_pos (n := (2:Int)) (m := a) (by decide)
  have pc := Int.pow_pos (n := (2:Int)) (m := c) (by decide)
  rw [Int.pow_add]
  have := Int.mul_le_mul_of_nonneg_left (show (1:Int) ≤ 2 ^ c by omega) (Int.le_of_lt pa)
  rw [Int.mul_one] at this
  exact this
theorem sm_of_small {n : Int} (h : -1000000000000 < n) (h1 : n < 1000000000000) : sm 60 n := by
  unfold sm
  have : (2:Nat) ^ 60 = 1152921504606846976 := rfl
  omega
theorem patF_rng (p : Nat) : ∀ n, 0 ≤ patF p n ∧ patF p n < 2 ^ n
  | 0 => ⟨Int.le_refl _, by show (0:Int) < 1; decide⟩
  | n + 1 => by
    obtain ⟨h0, h1⟩ := patF_rng p n
    have pn := Int.pow_pos (n := (2:Int)) (m := n) (by decide)
    unfold patF
    rw [Int.pow_succ]
    rcases (show n / 2 ^ p % 2 = 0 ∨ n / 2 ^ p % 2 = 1 by omega) with e | e <;> rw [e]
    · show 0 ≤ patF p n + 0 * 2 ^ n ∧ patF p n + 0 * 2 ^ n < _
      rw [Int.zero_mul]; omega
    · show 0 ≤ patF p n + 1 * 2 ^ n ∧ patF p n + 1 * 2 ^ n < _
      rw [Int.one_mul]; omega
theorem patF_bit (p : Nat) : ∀ n j, bAt (patF p n) j = if j < n then ((j / 2 ^ p % 2 : Nat) : Int) else 0
  | 0, j => by
    rw [if_neg (Nat.not_lt_zero _)]
    unfold bAt patF; rw [Int.zero_ediv]; rfl
  | n + 1, j => by
    obtain ⟨h0, h1⟩ := patF_rng p n
    have ih := patF_bit p n j
    have pn := Int.pow_pos (n := (2:Int)) (m := n) (by decide)
    have pj := Int.pow_pos (n := (2:Int)) (m := j) (by decide)
    unfold patF
    rcases Nat.lt_trichotomy j n with h | h | h
    · rw [if_pos (by omega)]
      rw [if_pos h] at ih
      rw [← ih]
      unfold bAt
      have e : (2:Int) ^ n = 2 ^ (n - j - 1) * 2 * 2 ^ j := by rw [← Int.pow_succ, ← Int.pow_add, show n - j - 1 + 1 + j = n by omega]
      rw [e, ← Int.mul_assoc, Int.add_mul_ediv_right _ _ (by omega), ← Int.mul_assoc, Int.add_mul_emod_self_right]
    · subst h
      rw [if_pos (by omega)]
      unfold bAt
      rw [Int.add_mul_ediv_right _ _ (by omega), Int.ediv_eq_zero_of_lt h0 h1]
      omega
    · rw [if_neg (by omega)]
      unfold bAt
      have hl : patF p n + ((n / 2 ^ p % 2 : Nat) : Int) * 2 ^ n < 2 ^ j := by
        have := (patF_rng p (n + 1)).2
        unfold patF at this
        exact Int.lt_of_lt_of_le this (p2m (by omega))
      have hg := (patF_rng p (n + 1)).1
      unfold patF at hg
      rw [Int.ediv_eq_zero_of_lt hg hl]; rfl
theorem patF_add {p m : Nat} (hm : m % (2 ^ p * 2) = 0) : ∀ n, patF p (m + n) = patF p m + patF p n * 2 ^ m
  | 0 => by unfold patF; rw [Nat.add_zero, Int.zero_mul, Int.add_zero]
  | n + 1 => by
    rw [← Nat.add_assoc]
    show patF p (m + n) + (((m + n) / 2 ^ p % 2 : Nat) : Int) * 2 ^ (m + n) = patF p m + (patF p n + ((n / 2 ^ p % 2 : Nat) : Int) * 2 ^ n) * 2 ^ m
    rw [patF_add hm n]
    obtain ⟨c, hc⟩ : ∃ c, m = 2 ^ p * (2 * c) := ⟨m / (2 ^ p * 2), by
      have := Nat.div_add_mod m (2 ^ p * 2)
      rw [hm, Nat.add_zero, Nat.mul_assoc] at this
      exact this.symm⟩
    have e : (m + n) / 2 ^ p % 2 = n / 2 ^ p % 2 := by
      rw [hc, Nat.add_comm, Nat.add_mul_div_left _ _ (Nat.two_pow_pos p)]
      omega
    rw [e, Int.add_mul, Int.mul_assoc, ← Int.pow_add, Nat.add_comm n m, Int.add_assoc]
theorem patF_low (p : Nat) : ∀ n, n ≤ 2 ^ p → patF p n = 0
  | 0, _ => rfl
  | n + 1, h => by
    unfold patF
    rw [patF_low p n (by omega), Nat.div_eq_of_lt (by omega)]
    show (0:Int) + 0 * 2 ^ n = 0
    rw [Int.zero_mul, Int.add_zero]
theorem patF_one (p : Nat) : ∀ k, k ≤ 2 ^ p → patF p (2 ^ p + k) = (2 ^ k - 1) * 2 ^ (2 ^ p)
  | 0, _ => by
    rw [Nat.add_zero, patF_low p _ (Nat.le_refl _), Int.pow_zero, Int.sub_self, Int.zero_mul]
  | k + 1, h => by
    rw [← Nat.add_assoc]
    show patF p (2 ^ p + k) + (((2 ^ p + k) / 2 ^ p % 2 : Nat) : Int) * 2 ^ (2 ^ p + k) = _
    have pp := Nat.two_pow_pos p
    have e : (2 ^ p + k) / 2 ^ p % 2 = 1 := by
      rw [Nat.add_comm, Nat.add_div_right _ pp, Nat.div_eq_of_lt (by omega)]
    rw [patF_one p k (by omega), e, Int.pow_add, Int.pow_succ]
    show (2 ^ k - 1) * 2 ^ (2 ^ p) + 1 * (2 ^ (2 ^ p) * 2 ^ k) = (2 ^ k * 2 - 1) * 2 ^ (2 ^ p)
    generalize (2:Int) ^ (2 ^ p) = a
    generalize (2:Int) ^ k = b
    rw [Int.sub_mul, Int.sub_mul, Int.one_mul, Int.one_mul, Int.mul_comm a b, Int.mul_assoc b 2 a, Int.mul_comm 2 a, ← Int.mul_assoc]
    omega
/-- ored to what lies below -/
theorem or_above {x y : Int} {k : Nat} (h0 : 0 ≤ x) (h1 : x < 2 ^ k) (y0 : 0 ≤ y) : Builtin.bitOr x (y * 2 ^ k) = x + y * 2 ^ k := by
  have h : ∀ (k : Nat) (x : Int), 0 ≤ x → x < 2 ^ k → Builtin.bitAnd x (y * 2 ^ k) = 0 := by
    intro k
    induction k with
    | zero =>
      intro x h0 h1
      have : x = 0 := by rw [Int.pow_zero] at h1; omega
      subst this
      have e := PySem.W.kbt_halves 0 (y * 2 ^ 0)
      unfold Builtin.bitAnd
      rw [decide_eq_true (show (0:Int) ≤ 0 by decide), Int.pow_zero, Int.mul_one, decide_eq_true y0]
      show ((0 &&& y.toNat : Nat) : Int) = 0
      rw [Nat.zero_and]; rfl
    | succ k ih =>
      intro x h0 h1
      rw [Int.pow_succ] at h1 ⊢
      have e1 := andB_div x (y * (2 ^ k * 2))
      have e2 := andB_mod x (y * (2 ^ k * 2))
      have e3 : y * (2 ^ k * 2) / 2 = y * 2 ^ k := by rw [← Int.mul_assoc, Int.mul_ediv_cancel _ (by decide)]
      have e4 : y * (2 ^ k * 2) % 2 = 0 := by rw [← Int.mul_assoc, Int.mul_emod_left]
      rw [e3, ih (x / 2) (by omega) (by omega)] at e1
      rw [e4] at e2
      have e5 : ¬ (x % 2 = 1 ∧ (0:Int) = 1) := fun z => by have := z.2; omega
      rw [if_neg e5] at e2
      omega
  have := bitOr_and x (y * 2 ^ k)
  rw [h k x h0 h1] at this
  omega
theorem gsOk_snoc {n : Nat} {gs : List Gt} {g : Gt} (h : gsOk n gs) (hg : gOk n gs.length g) : gsOk n (gs ++ [g]) := by
  intro i x hx
  rcases Nat.lt_or_ge i gs.length with hi | hi
  · rw [List.getElem?_append_left hi] at hx
    exact h i x hx
  · rw [List.getElem?_append_right hi] at hx
    have : i - gs.length = 0 := by
      cases e : i - gs.length with
      | zero => rfl
      | succ j => rw [e] at hx; cases hx
    rw [this] at hx
    cases hx
    rw [show i = gs.length by omega]
    exact hg
theorem gsOk_take {n : Nat} {gs : List Gt} (h : gsOk n gs) (m : Nat) : gsOk n (gs.take m) := fun i g hg => h i g (by
  rw [List.getElem?_take] at hg
  split at hg
  · exact hg
  · cases hg)
/-! what is told by names -/
def twD (nw : List (Str × List Nat)) : List (Key × D) := nw.map fun p => (Sum.inr p.1, D.lst (p.2.map fun a : Nat => D.int (a : Int)))
def lkW : List (Str × List Nat) → Str → List Nat
  | [], _ => []
  | (x, ws) :: r, y => match decide (x = y) with
    | true => ws
    | false => lkW r y
theorem getK_tw {y : Str} : ∀ {nw : List (Str × List Nat)}, y ∈ nw.map (·.1) → getK (.inr y) (twD nw) = some (.lst ((lkW nw y).map fun a : Nat => D.int (a : Int)))
  | [], h => by cases h
  | (x, ws) :: r, h => by
    by_cases e : x = y
    · subst e
      show (match decide ((Sum.inr x : Key) = Sum.inr x) with | true => some (D.lst (ws.map fun a : Nat => D.int (a : Int))) | false => getK (.inr x) (twD r)) = some (.lst ((match decide (x = x) with | true => ws | false => lkW r x).map fun a : Nat => D.int (a : Int)))
      rw [decide_eq_true rfl, decide_eq_true rfl]
    · have h2 : y ∈ r.map (·.1) := by
        rcases List.mem_cons.mp h with h | h
        · exact absurd h.symm e
        · exact h
      have e2 : ¬ (Sum.inr x : Key) = Sum.inr y := fun z => e (Sum.inr.inj z)
      show (match decide ((Sum.inr x : Key) = Sum.inr y) with | true => some (D.lst (ws.map fun a : Nat => D.int (a : Int))) | false => getK (.inr y) (twD r)) = some (.lst ((match decide (x = y) with | true => ws | false => lkW r y).map fun a : Nat => D.int (a : Int)))
      rw [decide_eq_false e2, decide_eq_false e]
      exact getK_tw h2
theorem strKs_tw : ∀ nw : List (Str × List Nat), strKs (twD nw) = some (nw.map (·.1))
  | [] => rfl
  | p :: r => by
    show (match strKs (twD r) with | some l => some (p.1 :: l) | none => none) = _
    rw [strKs_tw r]; rfl
theorem lkW_mem {y : Str} {a : Nat} : ∀ {nw : List (Str × List Nat)}, a ∈ lkW nw y → ∃ p ∈ nw, a ∈ p.2
  | [], h => by cases h
  | (x, ws) :: r, h => by
    unfold lkW at h
    split at h
    · exact ⟨_, List.mem_cons_self, h⟩
    · obtain ⟨p, hp, ha⟩ := lkW_mem h
      exact ⟨p, List.mem_cons_of_mem _ hp, ha⟩
theorem lkW_short {y : Str} {m : Nat} : ∀ {nw : List (Str × List Nat)}, (∀ p ∈ nw, p.2.length ≤ m) → (lkW nw y).length ≤ m
  | [], _ => Nat.zero_le _
  | (x, ws) :: r, h => by
    unfold lkW
    split
    · exact h _ List.mem_cons_self
    · exact lkW_short fun p hp => h p (List.mem_cons_of_mem _ hp)
def ranD (w : Int) (vs : List Int) (gs : List Gt) (nw : List (Str × List Nat)) (ys : List Str) : D := .lst (ys.map fun y => .tup [.str y, .lst ((lkW nw y).map fun a : Nat => D.int ((btsF w vs gs).getD a 0))])
/-- names and wires that a net tells -/
structure NwOk (n : Nat) (gs : List Gt) (nw : List (Str × List Nat)) : Prop where
  few : nw.length < 64
  wires : ∀ p ∈ nw, ∀ a ∈ p.2, a < n + gs.length
  short : ∀ p ∈ nw, p.2.length ≤ 100000

/-! @@ p_zscr -/

theorem at_scr {ns : List Int} {k : Int} (h0 : 0 ≤ k) (h : k < ns.length) : ∃ n, atI ns k = some n :=
  ⟨ns[k.toNat]'(by omega), atI_get2 (n := k.toNat) (by omega) (List.getElem?_eq_getElem (by omega))⟩

/-! @@ k46 -/

theorem shE_told (x : Int) : shE (.lst [.tup [.str "told", .int x]]) = true := by
  have h : PyData.canLay0 (.str "told") = true := by decide +kernel
  show (okE _ && (((PyData.canLay0 (.str "told") && (true && true)) && true) && decide (PyData.depth (.list [.tuple [.str "told", .int x]]) ≤ 64))) = true
  rw [h]; rfl
theorem shE_told1 : shE (.str "told") = true := by decide +kernel
/-- a net's object behind k cells -/
def netG (k n : Nat) : List (Str × G.A) := [("many_first", .d (.int (n : Int))), ("gate_rows", .cell (k + 1)), ("wire_depths", .cell (k + 2)), ("told_wires", .cell (k + 3))]
theorem nmG {k n : Nat} {x : Str} (h : netN.contains x = false) : ¬ x ∈ List.map (fun y => y.1) (netG k n) := by
  have e : List.map (fun y => y.1) (netG k n) = netN := rfl
  rw [e]; intro hm; rw [List.contains_iff_mem.mpr hm] at h; cases h
def netN1 (C : Addr) (k n : Nat) (gs : List Gt) (tw : List (Key × D)) : Mem := [.obj C (netG k n), .lst (gs.map gD), .lst ((dpsF n gs).map D.int), .did tw]

/-! ### the text -/
section
variable {P : Program} {w : World} {K : PySem.W.Frag} {mg : Str → Option Value} {base : Heap} {C C_NoWire C_NoName C_Taken : Addr}
def CT_GATE_RULES (w : World) (K : PySem.W.Frag) (mg : Str → Option Value) : Prop := ∃ a f_both_bits f_either_bits f_unlike_bits f_other_bits f_fixed_bits : Addr, mg "GATE_RULES" = some (.ref a) ∧ mg "both_bits" = some (.ref f_both_bits) ∧ mg "either_bits" = some (.ref f_either_bits) ∧ mg "unlike_bits" = some (.ref f_unlike_bits) ∧ mg "other_bits" = some (.ref f_other_bits) ∧ mg "fixed_bits" = some (.ref f_fixed_bits) ∧ ∀ p ∈ ([("both", f_both_bits), ("either", f_either_bits), ("unlike", f_unlike_bits), ("other", f_other_bits), ("fixed", f_fixed_bits)] : List (Str × Addr)), KDct K w a p.1 (.ref p.2)

/-! #### _law_box -/
theorem sc_law_box : FnScope ["_law_script", "_law_k", "_law_cell"] ["_law_script", "_law_k"] (defScope s_law_box) := ⟨rfl, rfl, rfl, by decide +kernel, rfl, by decide +kernel, by decide +kernel⟩

def sp_law_box : ASp := fun xs M Q _ => match xs, M with
  | [.d (.scr ns), .d (.int k)], [] => Side (0 ≤ k ∧ k ≤ 64) (∀ l, BX 0 l → Q (.cell 0) [.lst l])
  | _, _ => False

theorem ok_law_box {f : Addr} {fd : FuncData} (F : FunD K "_law_box" "_law_box" (defArgs s_law_box) (defBody s_law_box) (defScope s_law_box) [] [] f fd) (m_len : mg "len" = none) (m_abs : mg "abs" = none) (m_int : mg "int" = none) : G.FnOk P w K mg base CX0 1 f fd ["_law_script", "_law_k"] (conc K sp_law_box) := by
  refine afn 0 F sc_law_box (fun xs M Q E h => by unfold sp_law_box at h; split at h <;> first | exact ⟨rfl, rfl⟩ | exact h.elim) fun W cdv Ar ou sh HH EX hr hW => ⟨_, _, (ass_cons (as_set 2 sc_law_box.nd (ae_if (at_cmp o_lt (ae_v 1) (k_cb (K := K) (r := qLen) call_len sc_len m_len (aa_cons (ae_v 0) aa_nil)) rfl) (k_ix (K := K) (ae_v 0) (ae_v 1)) ae_int)) (ass_one (as_ret (ae_cell (aa_cons (ae_op o_mul (ae_cb call_abs sc_abs m_abs (aa_cons (ae_v 2) aa_nil)) (ae_ct call_int1 sc_int m_int (aa_cons (ae_cmp o_ge (ae_cb call_abs sc_abs m_abs (aa_cons (ae_v 2) aa_nil)) (ae_op o_pow ae_int ae_int) rfl) aa_nil))) (aa_cons (ae_op o_mod (ae_op o_mul (ae_op (k_plus (K := K) false) (ae_op (k_plus (K := K) false) (ae_op o_mod (ae_v 2) ae_int) (ae_op o_mul ae_int (ae_v 1))) ae_int) ae_int) ae_int) (aa_cons ae_int aa_nil))))))), fun xs M QA EA h => ?_⟩
  unfold sp_law_box at h
  split at h
  · rename_i ns k
    obtain ⟨⟨h0, h1⟩, q⟩ := h
    refine Fork.mk (fun c => ?_) (fun c => ?_)
    · have c2 : k < (ns.map D.int).length := dec_t c
      rw [List.length_map] at c2
      obtain ⟨n, e⟩ := at_scr h0 c2
      refine Opt.mk ⟨_, e, ?_⟩
      walk_at "g"
      refine q _ ⟨_, _, _, rfl, Int.mul_nonneg (by omega) (by split <;> decide), Int.emod_nonneg _ (by decide), Int.emod_lt_of_pos _ (by decide), by decide, by decide⟩
    · walk_at "g"
      refine q _ ⟨_, _, _, rfl, Int.mul_nonneg (by omega) (by split <;> decide), Int.emod_nonneg _ (by decide), Int.emod_lt_of_pos _ (by decide), by decide, by decide⟩
  · exact h.elim
/-! #### _law_take -/
theorem sc_law_take : FnScope ["_law_box_here", "_law_size", "_law_found", "_law_step", "_law_once", "_law_twice"] ["_law_box_here", "_law_size"] (defScope s_law_take) := ⟨rfl, rfl, rfl, by decide +kernel, rfl, by decide +kernel, by decide +kernel⟩

def sp_take (n : Nat) : ASp := fun xs M Q _ => match xs, M with
  | [.cell 0, .d (.int m)], [.lst [.int x, .int y, .int z]] => Side (1 ≤ m ∧ tk n m ∧ n ≤ 24 ∧ 0 ≤ x ∧ 0 ≤ y ∧ y < 2147483647 ∧ 0 ≤ z ∧ z + n ≤ 2000000000) (∀ r x' y' z', 0 ≤ r → r < m → 0 ≤ x' → 0 ≤ y' → y' < 2147483647 → z ≤ z' → z' ≤ z + n + 1 → (m ≤ 10000000 → z' ≤ z + 1) → Q (.d (.int r)) [.lst [.int x', .int y', .int z']])
  | _, _ => False
def sp_draw : ASp := fun xs M Q _ => match xs, M with
  | [.cell 0, .d (.int m)], [.lst l] => Drw l m (fun r l' => Q (.d (.int r)) [.lst l'])
  | _, _ => False

theorem ok_law_take {f : Addr} {fd : FuncData} (F : FunD K "_law_take" "_law_take" (defArgs s_law_take) (defBody s_law_take) (defScope s_law_take) [] [] f fd) (m_divmod : mg "divmod" = none) (bd : Binds K fd ["_law_box_here", "_law_size"] []) (gf : mg "_law_take" = some (.ref f)) : ∀ n : Nat, G.FnOk P w K mg base CX0 (n + 1) f fd ["_law_box_here", "_law_size"] (conc K (sp_take n)) := by
  intro n
  induction n with
  | zero =>
    refine afn 1 F sc_law_take (fun xs M Q E h => by unfold sp_take at h; split at h <;> first | exact ⟨rfl, rfl⟩ | exact h.elim) fun W cdv Ar ou sh HH EX hr hW => ⟨_, _, (ass_cons (as_if (at_cmp o_gt (k_ix (K := K) (ae_v 0) ae_int) ae_int rfl) (ass_cons (as_asg (ae_cb call_divmodW sc_divmod m_divmod (aa_cons (k_ix (K := K) (ae_v 0) ae_int) (aa_cons (ae_v 1) aa_nil))) (k_gtup (K := K) (n := 2) rfl (ags_cons (ag_sub (ae_v 0) ae_int) (ags_cons (ag_name 2 sc_law_take.nd) ags_nil)))) (ass_one (as_ret (ae_v 2)))) ass_nil) (ass_cons (as_if (at_cmp o_gt (ae_v 1) (ae_op o_pow ae_int ae_int) rfl) (ass_one as_never) ass_nil) (ass_cons (as_asg (ae_op (k_plus (K := K) false) (k_ix (K := K) (ae_v 0) ae_int) ae_int) (ag_sub (ae_v 0) ae_int)) (ass_cons (as_set 3 sc_law_take.nd (ae_op (k_plus (K := K) false) ae_int (ae_op o_mul (k_ix (K := K) (ae_v 0) ae_int) (k_ix (K := K) (ae_v 0) ae_int)))) (ass_cons (as_set 4 sc_law_take.nd (ae_op o_mod (ae_op o_mul (ae_op (k_plus (K := K) false) (k_ix (K := K) (ae_v 0) ae_int) (ae_op o_mul ae_int (k_ix (K := K) (ae_v 0) ae_int))) (ae_v 3)) ae_int)) (ass_cons (as_set 5 sc_law_take.nd (ae_op o_mod (ae_op (k_plus (K := K) false) (ae_op o_mul (ae_v 4) (ae_op (k_plus (K := K) false) (ae_op o_mod (ae_v 4) ae_int) ae_int)) (k_ix (K := K) (ae_v 0) ae_int)) ae_int)) (ass_one (as_ret (ae_op o_mod (ae_op o_div (ae_op o_mod (ae_op o_mul (ae_v 5) (ae_op (k_plus (K := K) false) (ae_op o_mod (ae_v 5) ae_int) ae_int)) ae_int) ae_int) (ae_v 1)))))))))), fun xs M QA EA h => ?_⟩
    unfold sp_take at h
    split at h
    · rename_i m x y z
      obtain ⟨⟨h1, h2, h3, h4, h5, h6, h7, h8⟩, q⟩ := h
      have hm := tk_zero h2
      walk_at "g"
      refine Fork.mk (fun c => ?_) (fun c => ?_)
      · have c2 : 0 < x := dec_t c
        walk_at "g"
        refine Side.mk (divp_small (by omega) (tk_size h2 h1 h3)) ?_
        walk_at "g"
        exact q _ _ _ _ (Int.emod_nonneg _ (by omega)) (Int.emod_lt_of_pos _ (by omega)) (Int.ediv_nonneg (by omega) (by omega)) h5 h6 (by omega) (by omega) (by omega)
      · walk_at "g"
        refine Fork.mk (fun c3 => ?_) (fun c3 => ?_)
        · exfalso
          have c4 : (10000000 : Int) < m := dec_t c3
          omega
        · walk_at "g"
          exact q _ _ _ _ (Int.emod_nonneg _ (by omega)) (Int.emod_lt_of_pos _ (by omega)) h4 h5 h6 (by omega) (by omega) (by omega)
    · exact h.elim
  | succ n ih =>
    have D_law_take : Def P w K mg base "_law_take" (n + 1) (sp_take n) [] := ⟨f, fd, _, _, ih, gf, F.kp, bd, .nil, rfl⟩
    refine afn 1 F sc_law_take (fun xs M Q E h => by unfold sp_take at h; split at h <;> first | exact ⟨rfl, rfl⟩ | exact h.elim) fun W cdv Ar ou sh HH EX hr hW => ⟨_, _, (ass_cons (as_if (at_cmp o_gt (k_ix (K := K) (ae_v 0) ae_int) ae_int rfl) (ass_cons (as_asg (ae_cb call_divmodW sc_divmod m_divmod (aa_cons (k_ix (K := K) (ae_v 0) ae_int) (aa_cons (ae_v 1) aa_nil))) (k_gtup (K := K) (n := 2) rfl (ags_cons (ag_sub (ae_v 0) ae_int) (ags_cons (ag_name 2 sc_law_take.nd) ags_nil)))) (ass_one (as_ret (ae_v 2)))) ass_nil) (ass_cons (as_if (at_cmp o_gt (ae_v 1) (ae_op o_pow ae_int ae_int) rfl) (ass_one (as_ret (ae_op o_mod (ae_op (k_plus (K := K) false) (k_def (K := K) D_law_take hr (by omega) (aa_cons (ae_v 0) (aa_cons (ae_op o_pow ae_int ae_int) aa_nil))) (ae_op o_mul (ae_op o_pow ae_int ae_int) (k_def (K := K) D_law_take hr (by omega) (aa_cons (ae_v 0) (aa_cons (ae_op (k_plus (K := K) false) (ae_op o_div (ae_op o_sub (ae_v 1) ae_int) (ae_op o_pow ae_int ae_int)) ae_int) aa_nil))))) (ae_v 1)))) ass_nil) (ass_cons (as_asg (ae_op (k_plus (K := K) false) (k_ix (K := K) (ae_v 0) ae_int) ae_int) (ag_sub (ae_v 0) ae_int)) (ass_cons (as_set 3 sc_law_take.nd (ae_op (k_plus (K := K) false) ae_int (ae_op o_mul (k_ix (K := K) (ae_v 0) ae_int) (k_ix (K := K) (ae_v 0) ae_int)))) (ass_cons (as_set 4 sc_law_take.nd (ae_op o_mod (ae_op o_mul (ae_op (k_plus (K := K) false) (k_ix (K := K) (ae_v 0) ae_int) (ae_op o_mul ae_int (k_ix (K := K) (ae_v 0) ae_int))) (ae_v 3)) ae_int)) (ass_cons (as_set 5 sc_law_take.nd (ae_op o_mod (ae_op (k_plus (K := K) false) (ae_op o_mul (ae_v 4) (ae_op (k_plus (K := K) false) (ae_op o_mod (ae_v 4) ae_int) ae_int)) (k_ix (K := K) (ae_v 0) ae_int)) ae_int)) (ass_one (as_ret (ae_op o_mod (ae_op o_div (ae_op o_mod (ae_op o_mul (ae_v 5) (ae_op (k_plus (K := K) false) (ae_op o_mod (ae_v 5) ae_int) ae_int)) ae_int) ae_int) (ae_v 1)))))))))), fun xs M QA EA h => ?_⟩
    unfold sp_take at h
    split at h
    · rename_i m x y z
      obtain ⟨⟨h1, h2, h3, h4, h5, h6, h7, h8⟩, q⟩ := h
      walk_at "g"
      refine Fork.mk (fun c => ?_) (fun c => ?_)
      · have c2 : 0 < x := dec_t c
        walk_at "g"
        refine Side.mk (divp_small (by omega) (tk_size h2 h1 h3)) ?_
        walk_at "g"
        exact q _ _ _ _ (Int.emod_nonneg _ (by omega)) (Int.emod_lt_of_pos _ (by omega)) (Int.ediv_nonneg (by omega) (by omega)) h5 h6 (by omega) (by omega) (by omega)
      · walk_at "g"
        refine Fork.mk (fun c3 => ?_) (fun c3 => ?_)
        · have c4 : (10000000 : Int) < m := dec_t c3
          refine Side.mk (cpow_ok (by decide) (by decide) (by decide)) ?_
          refine Side.mk ⟨by decide, tk_one h2 c4, by omega, h4, h5, h6, h7, by omega⟩ fun r1 x1 y1 z1 a1 a2 a3 a4 a5 a6 a7 a8 => ?_
          have a9 := a8 (by decide)
          clear a2 a8
          refine Side.mk (cpow_ok (by decide) (by decide) (by decide)) ?_
          refine Side.mk (cpow_ok (by decide) (by decide) (by decide)) ?_
          refine Side.mk (show CDivW _ (10000000:Int) from wdiv (by decide) (by decide)) ?_
          refine Side.mk ⟨?_, tk_step h2 c4, by omega, a3, a4, a5, by omega, by omega⟩ fun r2 x2 y2 z2 b1 b2 b3 b4 b5 b6 b7 b8 => ?_
          · have : 0 ≤ (m - 1) / 10000000 := Int.ediv_nonneg (by omega) (by decide)
            show 1 ≤ (m - 1) / 10000000 + 1
            omega
          clear b2 b8
          refine Side.mk (mulL (by decide) (by decide)) ?_
          refine Side.mk (cpos (by omega)) ?_
          exact q ((r1 + 10 ^ Int.toNat 7 * r2) % m) x2 y2 z2 (Int.emod_nonneg _ (by omega)) (Int.emod_lt_of_pos _ (by omega)) b3 b4 b5 (by omega) (by omega) (by omega)
        · walk_at "g"
          refine q _ _ _ _ (Int.emod_nonneg _ ?_) (Int.emod_lt_of_pos _ ?_) h4 h5 h6 ?_ ?_ ?_
          all_goals (clear c c3 q; clear h2; omega)
    · exact h.elim

theorem draw_take (xs : List A) (M : Mem) (Q : A → Mem → Prop) (E : AXn) (h : sp_draw xs M Q E) : sp_take 24 xs M Q E := by
  unfold sp_draw at h
  split at h
  · rename_i m l
    obtain ⟨b, ⟨x, y, z, rfl, h1, h2, h3, h4, h5⟩, hb, hm, hM, k⟩ := h.h
    refine Side.mk ⟨hm, Int.le_trans hM (by decide), by decide, h1, h2, h3, h4, by omega⟩ fun r x' y' z' a1 a2 a3 a4 a5 a6 a7 a8 => ?_
    exact k r _ a1 a2 ⟨x', y', z', rfl, a3, a4, a5, by omega, by omega⟩
  · exact h.elim

/-! #### _law_gates -/
theorem sc_law_gates : FnScope ["_law_box_here", "_law_wide", "_law_size", "_law_rows", "_law_k", "_law_here", "_law_sort", "_law_a", "_law_b"] ["_law_box_here", "_law_wide", "_law_size"] (defScope s_law_gates) := ⟨rfl, rfl, rfl, by decide +kernel, rfl, by decide +kernel, by decide +kernel⟩

def sp_law_gates : ASp := fun xs M Q _ => match xs, M with
  | [.cell 0, .d (.int wide), .d (.int size)], [.lst l] => ∃ (n k : Nat), wide = (n : Int) ∧ size = (k : Int) ∧ Drx (400 * (k : Int)) l (1 ≤ n ∧ n ≤ 10000 ∧ k ≤ 10000) (fun gs : List Gt => gs.length = k ∧ gsOk n gs) (fun gs l' => Q (.cell 1) [.lst l', .lst (gs.map gD)])
  | _, _ => False

theorem ok_law_gates {f : Addr} {fd : FuncData} (F : FunD K "_law_gates" "_law_gates" (defArgs s_law_gates) (defBody s_law_gates) (defScope s_law_gates) [] [] f fd) (D_law_take : Def P w K mg base "_law_take" 25 sp_draw []) (m_range : mg "range" = none) (m_min : mg "min" = none) : G.FnOk P w K mg base CX0 26 f fd ["_law_box_here", "_law_wide", "_law_size"] (conc K sp_law_gates) := by
  refine afn 1 F sc_law_gates (fun xs M Q E h => by unfold sp_law_gates at h; split at h <;> first | exact ⟨rfl, rfl⟩ | exact h.elim) fun W cdv Ar ou sh HH EX hr hW => ⟨_, _, (ass_cons (as_set 3 sc_law_gates.nd (ae_cell aa_nil)) (ass_cons (as_for PassesOwn.never rfl (ai_rng1 m_range (aa_cons (ae_v 2) aa_nil)) (ag_name 4 sc_law_gates.nd) (ass_cons (as_par 5 6 sc_law_gates.nd (aa_cons (ae_op (k_plus (K := K) false) (ae_v 1) (ae_v 4)) (aa_cons (k_def (K := K) D_law_take hr (by decide) (aa_cons (ae_v 0) (aa_cons ae_int aa_nil))) aa_nil))) (ass_cons (as_par 7 8 sc_law_gates.nd (aa_cons (k_def (K := K) D_law_take hr (by decide) (aa_cons (ae_v 0) (aa_cons (ae_v 5) aa_nil))) (aa_cons (ae_op o_sub (ae_op o_sub (ae_v 5) ae_int) (k_def (K := K) D_law_take hr (by decide) (aa_cons (ae_v 0) (aa_cons (ae_cb (call_min2 rfl) sc_min2 m_min (aa_cons (ae_v 5) (aa_cons ae_int aa_nil))) aa_nil)))) aa_nil))) (ass_one (as_if (at_cmp o_lt (ae_v 6) ae_int rfl) (ass_one (as_expr (k_lm (K := K) PySem.F.slot_list_append PySem.F.type_list_append mt_append sm_append (ae_v 3) (aa_cons (ae_gen (ae_op (k_plus (K := K) false) (ae_tup (aa_cons (k_ix (K := K) (ae_lst (aa_cons ae_str (aa_cons ae_str (aa_cons ae_str aa_nil)))) (ae_op o_mod (ae_v 6) ae_int)) aa_nil)) (ae_if (at_cmp o_lt (ae_v 6) ae_int rfl) (ae_tup (aa_cons (ae_v 7) (aa_cons (ae_v 8) aa_nil))) (ae_tup (aa_cons (ae_v 8) (aa_cons (ae_v 7) aa_nil)))))) aa_nil)))) (ass_one (as_expr (k_lm (K := K) PySem.F.slot_list_append PySem.F.type_list_append mt_append sm_append (ae_v 3) (aa_cons (ae_gen (k_ix (K := K) (ae_lst (aa_cons (ae_tup (aa_cons ae_str (aa_cons (ae_v 8) aa_nil))) (aa_cons (ae_tup (aa_cons ae_str (aa_cons (ae_op o_mod (ae_v 7) ae_int) aa_nil))) (aa_cons (ae_tup (aa_cons ae_str (aa_cons (ae_v 8) (aa_cons (ae_v 8) aa_nil)))) aa_nil)))) (ae_op o_sub (ae_v 6) ae_int))) aa_nil))))))))) (ass_one (as_ret (ae_v 3))))), fun xs M QA EA h => ?_⟩
  unfold sp_law_gates at h
  split at h
  · rename_i wide size l
    obtain ⟨n, k, rfl, rfl, h⟩ := h
    obtain ⟨B0, hb, hb1, ⟨n0, n1, k1⟩, q⟩ := h.h
    refine Side.mk ⟨by omega, by omega⟩ ?_
    refine ForS.mk ⟨fun i E M => ∃ (gs : List Gt) (l : List D) (x4 x5 x6 x7 x8 : Option G.A), E = [some (.cell 0), some (.d (.int (n : Int))), some (.d (.int (k : Int))), some (.cell 1), x4, x5, x6, x7, x8] ∧ M = [.lst l, .lst (gs.map gD)] ∧ gs.length = i ∧ gsOk n gs ∧ BX (B0 + 400 * i) l, ⟨[], l, none, none, none, none, none, rfl, rfl, rfl, (fun i g h => by simp at h), hb.mono (by omega)⟩, ?_, ?_⟩
    · rintro i d _ _ hd ⟨gs, l2, x4, x5, x6, x7, x8, rfl, rfl, hgl, ho, hb2⟩
      obtain ⟨hi, rfl⟩ := rngD_get hd
      have hi : i < k := hi
      have eh : (n : Int) + (0 + (i : Int) * 1) = ((n + i : Nat) : Int) := by omega
      refine Drw.mk ?_; refine ⟨_, by assumption, (by first | omega | walk_at "gb"), (by first | omega | walk_at "gb"), (by first | omega | walk_at "gb"), fun sr l3 hl_sr hu_sr hb_l3 => ?_⟩
      refine Drw.mk ?_; refine ⟨_, by assumption, (by first | omega | walk_at "gb"), (by first | omega | walk_at "gb"), (by first | omega | walk_at "gb"), fun a l4 hl_a hu_a hb_l4 => ?_⟩
      refine Drw.mk ?_; refine ⟨_, by assumption, (by first | omega | walk_at "gb"), (by first | omega | walk_at "gb"), (by first | omega | walk_at "gb"), fun r l5 hl_r hu_r hb_l5 => ?_⟩
      have eb : ((n : Int) + (0 + (i : Int) * 1)) - 1 - r = (((n + i) - 1 - r.toNat : Nat) : Int) := by omega
      obtain ⟨a, rfl⟩ : ∃ a' : Nat, a = (a' : Int) := ⟨a.toNat, by omega⟩
      rw [eh] at hu_a
      obtain ⟨b, hb'⟩ : ∃ b : Nat, b = (n + i) - 1 - r.toNat := ⟨_, rfl⟩
      have hbl : b < n + i := by omega
      have hal : a < n + i := by omega
      have fin : ∀ (g : Gt) (y : G.A), gOk n i g → ∃ (gs' : List Gt) (l : List D) (x4 x5 x6 x7 x8 : Option G.A), [some (.cell 0), some (.d (.int (n : Int))), some (.d (.int (k : Int))), some (.cell 1), some (.d (.int (0 + (i : Int) * 1))), some (.d (.int ((n : Int) + (0 + (i : Int) * 1)))), some (.d (.int sr)), some (.d (.int (a : Int))), some (.d (.int ((n : Int) + (0 + (i : Int) * 1) - 1 - r)))] = [some (.cell 0), some (.d (.int (n : Int))), some (.d (.int (k : Int))), some (.cell 1), x4, x5, x6, x7, x8] ∧ [Cell.lst l5, .lst (gs.map gD ++ [gD g])] = [.lst l, .lst (gs'.map gD)] ∧ gs'.length = i + 1 ∧ gsOk n gs' ∧ BX (B0 + 400 * ((i + 1 : Nat) : Int)) l := fun g y hg =>
        ⟨gs ++ [g], l5, _, _, _, _, _, rfl, by rw [List.map_append]; rfl, by rw [List.length_append, hgl]; rfl, gsOk_snoc ho (by rw [hgl]; exact hg), hb_l5.mono (by omega)⟩
      refine Fork.mk (fun c => ?_) (fun c => ?_)
      · refine Gen.mk ⟨fun z M' => ∃ g : Gt, z = .d (gD g) ∧ gOk n i g ∧ M' = [.lst l5, .lst (gs.map gD)], ?_, ?_⟩
        · refine Side.mk (cpos (by decide)) ?_
          have hk : ∃ kk : Nat, kk ≤ 2 ∧ atI [D.str "both", .str "either", .str "unlike"] (sr % 3) = some (.str (gW kk)) := by
            rcases (show sr % 3 = 0 ∨ sr % 3 = 1 ∨ sr % 3 = 2 by omega) with e | e | e <;> rw [e]
            · exact ⟨0, by decide, rfl⟩
            · exact ⟨1, by decide, rfl⟩
            · exact ⟨2, by decide, rfl⟩
          obtain ⟨kk, hk2, ek⟩ := hk
          refine Opt.mk ⟨_, ek, ?_⟩
          refine Fork.mk (fun c2 => ?_) (fun c2 => ?_)
          · refine Side.mk (by rw [sizeLine_eq]; show 1 + 2 ≤ _; decide) ?_
            exact ⟨.pr kk a b, by show G.A.d (.tup [.str (gW kk), .int (a : Int), .int ((n : Int) + (0 + (i : Int) * 1) - 1 - r)]) = _; rw [eb, ← hb']; rfl, ⟨hk2, hal, hbl⟩, rfl⟩
          · refine Side.mk (by rw [sizeLine_eq]; show 1 + 2 ≤ _; decide) ?_
            exact ⟨.pr kk b a, by show G.A.d (.tup [.str (gW kk), .int ((n : Int) + (0 + (i : Int) * 1) - 1 - r), .int (a : Int)]) = _; rw [eb, ← hb']; rfl, ⟨hk2, hbl, hal⟩, rfl⟩
        rintro _ _ ⟨g, rfl, hg, rfl⟩
        refine Side.mk (by rw [List.length_map, hgl, sizeLine_eq]; omega) ?_
        exact fin g (.d .non) hg
      · refine Gen.mk ⟨fun z M' => ∃ g : Gt, z = .d (gD g) ∧ gOk n i g ∧ M' = [.lst l5, .lst (gs.map gD)], ?_, ?_⟩
        · refine Side.mk (cpos (by decide)) ?_
          have c2 := of_decide_eq_false (show decide (sr < 6) = false from c)
          rcases (show sr = 6 ∨ sr = 7 ∨ sr = 8 by omega) with rfl | rfl | rfl
          · refine Opt.mk ⟨_, rfl, ?_⟩
            exact ⟨.ot b, by show G.A.d (.tup [.str "other", .int ((n : Int) + (0 + (i : Int) * 1) - 1 - r)]) = _; rw [eb, ← hb']; rfl, hbl, rfl⟩
          · refine Opt.mk ⟨_, rfl, ?_⟩
            exact ⟨.fx (a % 2), rfl, Nat.le_of_lt_succ (Nat.mod_lt _ (by decide)), rfl⟩
          · refine Opt.mk ⟨_, rfl, ?_⟩
            exact ⟨.pr 2 b b, by show G.A.d (.tup [.str "unlike", .int ((n : Int) + (0 + (i : Int) * 1) - 1 - r), .int ((n : Int) + (0 + (i : Int) * 1) - 1 - r)]) = _; rw [eb, ← hb']; rfl, ⟨by decide, hbl, hbl⟩, rfl⟩
        rintro _ _ ⟨g, rfl, hg, rfl⟩
        refine Side.mk (by rw [List.length_map, hgl, sizeLine_eq]; omega) ?_
        exact fin g (.d .non) hg
    rintro _ _ ⟨gs, l2, x4, x5, x6, x7, x8, rfl, rfl, hgl, ho, hb2⟩
    rw [rngD_len] at hgl hb2
    exact q gs l2 ⟨hgl, ho⟩ hb2
  · exact h.elim
/-! #### Net.__init__ -/
theorem sc_Net__init_ : FnScope ["self", "many"] ["self", "many"] (defScope s_Net__init_) := ⟨rfl, rfl, rfl, by decide +kernel, rfl, by decide +kernel, by decide +kernel⟩

def sp_Net__init_ (C_Net : Addr) : ASp := fun xs M Q _ => match xs, M with
  | [.cell 0, .d (.int n)], [.obj C' []] => ∃ k : Nat, n = (k : Int) ∧ k ≤ 10000 ∧ C' = C_Net ∧ Q (.d .non) (netM C' k [] [])
  | _, _ => False

theorem ok_Net__init_ {f : Addr} {fd : FuncData} (F : FunD K "__init__" "Net.__init__" (defArgs s_Net__init_) (defBody s_Net__init_) (defScope s_Net__init_) [] [] f fd) (c_cls : Cls K C) (n_many_first : NoAttr K C "many_first") (n_gate_rows : NoAttr K C "gate_rows") (n_wire_depths : NoAttr K C "wire_depths") (n_told_wires : NoAttr K C "told_wires") : G.FnOk P w K mg base CX0 1 f fd ["self", "many"] (conc K (sp_Net__init_ C)) := by
  refine afnK F sc_Net__init_ (fun xs M Q E h => by unfold sp_Net__init_ at h; split at h <;> first | exact rfl | exact h.elim) fun W cdv Ar ou sh HH EX hr xs M QA EA hW h => ?_
  unfold sp_Net__init_ at h
  split at h
  · rename_i n C'
    obtain ⟨k, rfl, hk, rfl, q⟩ := h
    refine ⟨_, _, (ass_cons (as_fld (K := K) c_cls n_many_first (ae_v 0) (ae_v 1)) (ass_cons (as_fld (K := K) c_cls n_gate_rows (ae_v 0) (ae_cell aa_nil)) (ass_cons (as_fld (K := K) c_cls n_wire_depths (ae_v 0) (ae_op (o_rep true) (ae_lst (aa_cons ae_int aa_nil)) (ae_v 1))) (ass_one (as_fld (K := K) c_cls n_told_wires (ae_v 0) ae_dnew))))), ?_⟩
    refine Side.mk rfl ?_
    refine Side.mk rfl ?_
    refine Side.mk ⟨by omega, by omega, by rw [sizeLine_eq]; show 1 * (k : Int).toNat ≤ _; omega⟩ ?_
    refine Side.mk rfl ?_
    refine Side.mk rfl ?_
    have e1 : netM C' k [] [] = [.obj C' (netF k), .lst [], .lst (List.replicate (k : Int).toNat [D.int 0]).flatten, .did []] := by
      unfold netM dpsF
      have : ∀ k : Nat, (List.replicate k (0 : Int)).map D.int = (List.replicate k [D.int 0]).flatten := fun k => by
        induction k with
        | zero => rfl
        | succ k ih => rw [List.replicate_succ, List.replicate_succ, List.map_cons, List.flatten_cons, ih]; rfl
      rw [List.foldl_nil, this]; rfl
    rw [e1] at q
    exact q
  · exact h.elim
/-! #### Net.look_at -/
theorem sc_Net_look_at : FnScope ["self", "wires", "wire"] ["self", "wires"] (defScope s_Net_look_at) := ⟨rfl, rfl, rfl, by decide +kernel, rfl, by decide +kernel, by decide +kernel⟩

def sp_Net_look_at (C_Net : Addr) : ASp := fun xs M Q _ => match xs, M with
  | [.cell 0, .d x], [.obj C' fs, .lst rows, .lst dps, .did tw] => ∃ (n : Nat) (gs : List Gt) (ws : List Nat), C' = C_Net ∧ fs = netF n ∧ rows = gs.map gD ∧ dps = (dpsF n gs).map D.int ∧ n ≤ 10000 ∧ gs.length ≤ 100000 ∧ (x = .lst (ws.map fun a : Nat => D.int (a : Int)) ∨ x = .tup (ws.map fun a : Nat => D.int (a : Int))) ∧ (∀ a ∈ ws, a < n + gs.length) ∧ Q (.d .non) M
  | _, _ => False

theorem ok_Net_look_at {f : Addr} {fd : FuncData} (F : FunD K "look_at" "Net.look_at" (defArgs s_Net_look_at) (defBody s_Net_look_at) (defScope s_Net_look_at) [] [] f fd) (m_len : mg "len" = none) (c_cls : Cls K C) (n_wire_depths : NoAttr K C "wire_depths") : G.FnOk P w K mg base CX0 1 f fd ["self", "wires"] (conc K (sp_Net_look_at C)) := by
  refine afn2 4 F sc_Net_look_at (fun xs M Q E h => by unfold sp_Net_look_at at h; split at h <;> first | exact ⟨rfl, rfl⟩ | exact h.elim) fun W cdv Ar ou sh HH EX hr hW xs M QA EA h => ?_
  unfold sp_Net_look_at at h
  split at h
  · rename_i x C' fs rows dps tw
    obtain ⟨n, gs, ws, rfl, rfl, rfl, rfl, hn, hg, hx, hw, q⟩ := h
    have ld : ((dpsF n gs).map D.int).length = n + gs.length := (List.length_map _).trans (dps_len n gs)
    rcases hx with rfl | rfl
    · refine ⟨_, _, (ass_one (as_for PassesOwn.never rfl (k_list (K := K) (ae_v 1)) (ag_name 2 sc_Net_look_at.nd) (ass_one (as_if (at_not (at_chain o_le o_lt ae_int (ae_v 2) (k_cb (K := K) (r := qLen) call_len sc_len m_len (aa_cons (k_fld (K := K) c_cls n_wire_depths (ae_v 0)) aa_nil)))) (ass_one as_never) ass_nil)))), ?_⟩
      refine ForS.mk ⟨fun i E M => ∃ (x2 : Option G.A), E = [some (.cell 0), some (.d (.lst (ws.map fun a : Nat => D.int (a : Int)))), x2] ∧ M = [.obj C' (netF n), .lst (gs.map gD), .lst ((dpsF n gs).map D.int), .did tw], ⟨none, rfl, rfl⟩, ?_, ?_⟩
      · rintro i d _ _ hd ⟨x2, rfl, rfl⟩
        rw [List.getElem?_map] at hd
        cases ea : ws[i]? with
        | none => rw [ea] at hd; cases hd
        | some a =>
          rw [ea] at hd
          cases hd
          have ha := hw a (List.mem_of_getElem? ea)
          refine fork_t (decide_eq_true (show (0:Int) ≤ (a : Int) by omega)) ?_
          refine Side.mk rfl ?_
          refine fork_f (by show (!decide ((a : Int) < (((dpsF n gs).map D.int).length : Nat))) = false; rw [decide_eq_true (by omega)]; rfl) ?_
          exact ⟨_, rfl, rfl⟩
      · rintro _ _ ⟨x2, rfl, rfl⟩
        exact q
    · refine ⟨_, _, (ass_one (as_for PassesOwn.never rfl (k_tup (K := K) (ae_v 1)) (ag_name 2 sc_Net_look_at.nd) (ass_one (as_if (at_not (at_chain o_le o_lt ae_int (ae_v 2) (k_cb (K := K) (r := qLen) call_len sc_len m_len (aa_cons (k_fld (K := K) c_cls n_wire_depths (ae_v 0)) aa_nil)))) (ass_one as_never) ass_nil)))), ?_⟩
      refine ForS.mk ⟨fun i E M => ∃ (x2 : Option G.A), E = [some (.cell 0), some (.d (.tup (ws.map fun a : Nat => D.int (a : Int)))), x2] ∧ M = [.obj C' (netF n), .lst (gs.map gD), .lst ((dpsF n gs).map D.int), .did tw], ⟨none, rfl, rfl⟩, ?_, ?_⟩
      · rintro i d _ _ hd ⟨x2, rfl, rfl⟩
        rw [List.getElem?_map] at hd
        cases ea : ws[i]? with
        | none => rw [ea] at hd; cases hd
        | some a =>
          rw [ea] at hd
          cases hd
          have ha := hw a (List.mem_of_getElem? ea)
          refine fork_t (decide_eq_true (show (0:Int) ≤ (a : Int) by omega)) ?_
          refine Side.mk rfl ?_
          refine fork_f (by show (!decide ((a : Int) < (((dpsF n gs).map D.int).length : Nat))) = false; rw [decide_eq_true (by omega)]; rfl) ?_
          exact ⟨_, rfl, rfl⟩
      · rintro _ _ ⟨x2, rfl, rfl⟩
        exact q
  · exact h.elim
/-! #### Net.laid -/
theorem sc_Net_laid : FnScope ["self", "word", "wires", "wire"] ["self", "word", "wires"] (defScope s_Net_laid) := ⟨rfl, rfl, rfl, by decide +kernel, rfl, by decide +kernel, by decide +kernel⟩

def gOf : Str → List Nat → Option Gt
  | w, [a, b] => match decide (w = "both"), decide (w = "either"), decide (w = "unlike") with
    | true, _, _ => some (.pr 0 a b)
    | _, true, _ => some (.pr 1 a b)
    | _, _, true => some (.pr 2 a b)
    | _, _, _ => none
  | w, [a] => match decide (w = "other") with
    | true => some (.ot a)
    | false => none
  | _, _ => none
def sp_Net_laid (C_Net : Addr) : ASp := fun xs M Q _ => match xs, M with
  | [.cell 0, .d (.str w), .d (.tup x)], [.obj C' fs, .lst rows, .lst dps, .did tw] => ∃ (n : Nat) (gs : List Gt) (ws : List Nat) (g : Gt), C' = C_Net ∧ fs = netF n ∧ rows = gs.map gD ∧ dps = (dpsF n gs).map D.int ∧ n ≤ 10000 ∧ gs.length < 100000 ∧ x = (ws.map fun a : Nat => D.int (a : Int)) ∧ gOf w ws = some g ∧ (∀ a ∈ ws, a < n + gs.length) ∧ Q (.d (.int ((n + gs.length : Nat) : Int))) (netM C' n (gs ++ [g]) tw)
  | _, _ => False

set_option maxHeartbeats 4000000 in
theorem ok_Net_laid {f : Addr} {fd : FuncData} (F : FunD K "laid" "Net.laid" (defArgs s_Net_laid) (defBody s_Net_laid) (defScope s_Net_laid) [] [] f fd) (M_look_at : DefM P w K mg base C "look_at" 1 (sp_Net_look_at C) []) (m_max : mg "max" = none) (m_len : mg "len" = none) (c_cls : Cls K C) (n_gate_rows : NoAttr K C "gate_rows") (n_wire_depths : NoAttr K C "wire_depths") : G.FnOk P w K mg base CX0 2 f fd ["self", "word", "wires"] (conc K (sp_Net_laid C)) := by
  refine afn 4 F sc_Net_laid (fun xs M Q E h => by unfold sp_Net_laid at h; split at h <;> first | exact ⟨rfl, rfl⟩ | exact h.elim) fun W cdv Ar ou sh HH EX hr hW => ⟨_, _, (ass_cons (as_expr (ae_gen (k_defM (K := K) M_look_at hr (by decide) (ae_v 0) (aa_cons (ae_v 2) aa_nil)))) (ass_cons (as_expr (k_lm (K := K) PySem.F.slot_list_append PySem.F.type_list_append mt_append sm_append (k_fld (K := K) c_cls n_gate_rows (ae_v 0)) (aa_cons (ae_op (k_plus (K := K) false) (ae_tup (aa_cons (ae_v 1) aa_nil)) (ae_v 2)) aa_nil))) (ass_cons (as_expr (k_lm (K := K) PySem.F.slot_list_append PySem.F.type_list_append mt_append sm_append (k_fld (K := K) c_cls n_wire_depths (ae_v 0)) (aa_cons (ae_op (k_plus (K := K) false) ae_int (k_cb (K := K) (r := rMax) (cr_max rfl) sc_max m_max (aa_cons (ae_lc false [("wire", 3)] rfl sc_Net_laid.nd (k_tup (K := K) (ae_v 2)) (blkOk_by (by rfl)) (fun _ _ _ _ _ => (ag_name 3 sc_Net_laid.nd)) (fun _ _ _ _ _ => ats_nil) (fun _ _ _ _ _ => (k_ix (K := K) (k_fld (K := K) c_cls n_wire_depths (ae_v 0)) (ae_v 3)))) aa_nil))) aa_nil))) (ass_one (as_ret (ae_op o_sub (k_cb (K := K) (r := qLen) call_len sc_len m_len (aa_cons (k_fld (K := K) c_cls n_wire_depths (ae_v 0)) aa_nil)) ae_int)))))), fun xs M QA EA h => ?_⟩
  unfold sp_Net_laid at h
  split at h
  · rename_i w x C' fs rows dps tw
    obtain ⟨n, gs, ws, g, rfl, rfl, rfl, rfl, hn, hg, rfl, eg, hw, q⟩ := h
    have lr : (gs.map gD).length = gs.length := List.length_map _
    have ld : ((dpsF n gs).map D.int).length = n + gs.length := (List.length_map _).trans (dps_len n gs)
    refine Gen.mk ⟨fun z M' => z = .d .non ∧ M' = [.obj C' (netF n), .lst (gs.map gD), .lst ((dpsF n gs).map D.int), .did tw], ?_, ?_⟩
    · refine Side.mk ⟨rfl, nmN rfl⟩ ?_
      refine ⟨n, gs, ws, rfl, rfl, rfl, rfl, hn, by omega, .inr rfl, hw, ?_⟩
      exact ⟨rfl, rfl⟩
    rintro _ _ ⟨rfl, rfl⟩
    have hl : ws.length ≤ 2 ∧ gD g = .tup (.str w :: ws.map fun a : Nat => D.int (a : Int)) ∧ ws ≠ [] ∧ ∀ m : Int, m ∈ (ws.map fun a : Nat => (dpsF n gs).getD a 0) → (∀ y ∈ (ws.map fun a : Nat => (dpsF n gs).getD a 0), y ≤ m) → 1 + m = dpG (dpsF n gs) g := by
      unfold gOf at eg
      split at eg
      · rename_i a b
        have hm : ∀ m : Int, m ∈ ([a, b].map fun a : Nat => (dpsF n gs).getD a 0) → (∀ y ∈ ([a, b].map fun a : Nat => (dpsF n gs).getD a 0), y ≤ m) → m = max ((dpsF n gs).getD a 0) ((dpsF n gs).getD b 0) := fun m h1 h2 => by
          have h3 := h2 ((dpsF n gs).getD a 0) (by simp)
          have h4 := h2 ((dpsF n gs).getD b 0) (by simp)
          simp only [List.map_cons, List.map_nil, List.mem_cons, List.not_mem_nil, or_false] at h1
          omega
        refine ⟨by show 2 ≤ 2; decide, ?_, by simp, ?_⟩
        · split at eg
          · first | (rename_i e; cases eg; rw [of_decide_eq_true e]; rfl) | (rename_i e _; cases eg; rw [of_decide_eq_true e]; rfl) | (rename_i e _ _; cases eg; rw [of_decide_eq_true e]; rfl) | (rename_i e _ _ _; cases eg; rw [of_decide_eq_true e]; rfl) | (rename_i e _ _ _ _; cases eg; rw [of_decide_eq_true e]; rfl) | (rename_i e _ _ _ _ _; cases eg; rw [of_decide_eq_true e]; rfl)
          · first | (rename_i e; cases eg; rw [of_decide_eq_true e]; rfl) | (rename_i e _; cases eg; rw [of_decide_eq_true e]; rfl) | (rename_i e _ _; cases eg; rw [of_decide_eq_true e]; rfl) | (rename_i e _ _ _; cases eg; rw [of_decide_eq_true e]; rfl) | (rename_i e _ _ _ _; cases eg; rw [of_decide_eq_true e]; rfl) | (rename_i e _ _ _ _ _; cases eg; rw [of_decide_eq_true e]; rfl)
          · first | (rename_i e; cases eg; rw [of_decide_eq_true e]; rfl) | (rename_i e _; cases eg; rw [of_decide_eq_true e]; rfl) | (rename_i e _ _; cases eg; rw [of_decide_eq_true e]; rfl) | (rename_i e _ _ _; cases eg; rw [of_decide_eq_true e]; rfl) | (rename_i e _ _ _ _; cases eg; rw [of_decide_eq_true e]; rfl) | (rename_i e _ _ _ _ _; cases eg; rw [of_decide_eq_true e]; rfl)
          · cases eg
        · intro m h1 h2
          rw [hm m h1 h2]
          split at eg <;> first | (cases eg; rfl) | cases eg
      · rename_i a
        refine ⟨by show 1 ≤ 2; decide, ?_, by simp, ?_⟩
        · split at eg
          · rename_i e; cases eg; rw [of_decide_eq_true e]; rfl
          · cases eg
        · intro m h1 _
          simp only [List.map_cons, List.map_nil, List.mem_cons, List.not_mem_nil, or_false] at h1
          rw [h1]
          split at eg
          · cases eg; rfl
          · cases eg
      · cases eg
    obtain ⟨hl, hgD, hne, hdp⟩ := hl
    refine Side.mk rfl ?_
    refine Side.mk (by rw [List.length_map, sizeLine_eq]; show 1 + ws.length ≤ _; omega) ?_
    refine Side.mk (by rw [lr, sizeLine_eq]; omega) ?_
    refine Side.mk rfl ?_
    refine lc_of (mk := fun a : Nat => D.int (a : Int)) (fun a => D.int ((dpsF n gs).getD a 0)) ws (by omega) (fun a ha R S hR => ?_) ?_
    · refine fork_t rfl ?_
      refine Side.mk rfl ?_
      refine Opt.mk ⟨_, dp_at (hw a ha), ?_⟩
      exact hR
    have em : (ws.map fun a => D.int ((dpsF n gs).getD a 0)) = (ws.map fun a : Nat => (dpsF n gs).getD a 0).map D.int := by rw [List.map_map]; rfl
    rw [em]
    refine Opt.mk ⟨_, intsOf_map _, ?_⟩
    refine Side.mk (by rw [List.length_map]; exact List.length_pos_iff.mpr hne) ?_
    intro m h1 h2
    have hd := hdp m h1 h2
    refine Side.mk (by rw [ld, sizeLine_eq]; omega) ?_
    refine Side.mk rfl ?_
    have e1 : netM C' n (gs ++ [g]) tw = [.obj C' (netF n), .lst (gs.map gD ++ [.tup ([.str w] ++ ws.map fun a : Nat => D.int (a : Int))]), .lst ((dpsF n gs).map D.int ++ [.int (1 + m)]), .did tw] := by
      unfold netM
      rw [List.map_append, dps_snoc, List.map_append, hd]
      show [_, Cell.lst (gs.map gD ++ [gD g]), _, _] = _
      rw [hgD]; rfl
    have e2 : (((((dpsF n gs).map D.int) ++ [D.int (1 + m)]).length : Nat) : Int) - 1 = ((n + gs.length : Nat) : Int) := by
      rw [List.length_append, ld]
      show ((n + gs.length + 1 : Nat) : Int) - 1 = _
      omega
    rw [e1, ← e2] at q
    exact q
  · exact h.elim
/-! #### Net.both -/
theorem sc_Net_both : FnScope ["self", "a", "b"] ["self", "a", "b"] (defScope s_Net_both) := ⟨rfl, rfl, rfl, by decide +kernel, rfl, by decide +kernel, by decide +kernel⟩

def sp_Net_both (C_Net : Addr) : ASp := fun xs M Q _ => match xs, M with
  | [.cell 0, .d (.int a), .d (.int b)], [.obj C' fs, .lst rows, .lst dps, .did tw] => ∃ (n : Nat) (gs : List Gt), C' = C_Net ∧ fs = netF n ∧ rows = gs.map gD ∧ dps = (dpsF n gs).map D.int ∧ n ≤ 10000 ∧ gs.length ≤ 100000 ∧ ∃ i j : Nat, a = (i : Int) ∧ b = (j : Int) ∧ i < n + gs.length ∧ j < n + gs.length ∧ gs.length < 100000 ∧ Q (.d (.int ((n + gs.length : Nat) : Int))) (netM C' n (gs ++ [.pr 0 i j]) tw)
  | _, _ => False

theorem ok_Net_both {f : Addr} {fd : FuncData} (F : FunD K "both" "Net.both" (defArgs s_Net_both) (defBody s_Net_both) (defScope s_Net_both) [] [] f fd) (MKN_laid : DefMKN P w K mg base C "laid" 2 (sp_Net_laid C) 2 ["wires"]) : G.FnOk P w K mg base CX0 3 f fd ["self", "a", "b"] (conc K (sp_Net_both C)) := by
  refine afn 4 F sc_Net_both (fun xs M Q E h => by unfold sp_Net_both at h; split at h <;> first | exact ⟨rfl, rfl⟩ | exact h.elim) fun W cdv Ar ou sh HH EX hr hW => ⟨_, _, (ass_one (as_ret (k_defMKN (K := K) MKN_laid hr (by decide) (ae_v 0) (aa_cons ae_str aa_nil) (ak_cons (ae_tup (aa_cons (ae_v 1) (aa_cons (ae_v 2) aa_nil))) ak_nil)))), fun xs M QA EA h => ?_⟩
  unfold sp_Net_both at h
  split at h
  · rename_i a b C' fs rows dps tw
    obtain ⟨n, gs, rfl, rfl, rfl, rfl, hn, hg, h⟩ := h
    have lr : (gs.map gD).length = gs.length := List.length_map _
    have ld : ((dpsF n gs).map D.int).length = n + gs.length := (List.length_map _).trans (dps_len n gs)
    obtain ⟨i, j, rfl, rfl, hi, hj, hl, q⟩ := h
    refine Side.mk ⟨rfl, nmN rfl⟩ ?_
    refine ⟨n, gs, [i, j], _, rfl, rfl, rfl, rfl, hn, hl, rfl, rfl, fun a ha => ?_, ?_⟩
    · simp only [List.mem_cons, List.not_mem_nil, or_false] at ha
      rcases ha with rfl | rfl
      · exact hi
      · exact hj
    exact q
  · exact h.elim
/-! #### Net.either -/
theorem sc_Net_either : FnScope ["self", "a", "b"] ["self", "a", "b"] (defScope s_Net_either) := ⟨rfl, rfl, rfl, by decide +kernel, rfl, by decide +kernel, by decide +kernel⟩

def sp_Net_either (C_Net : Addr) : ASp := fun xs M Q _ => match xs, M with
  | [.cell 0, .d (.int a), .d (.int b)], [.obj C' fs, .lst rows, .lst dps, .did tw] => ∃ (n : Nat) (gs : List Gt), C' = C_Net ∧ fs = netF n ∧ rows = gs.map gD ∧ dps = (dpsF n gs).map D.int ∧ n ≤ 10000 ∧ gs.length ≤ 100000 ∧ ∃ i j : Nat, a = (i : Int) ∧ b = (j : Int) ∧ i < n + gs.length ∧ j < n + gs.length ∧ gs.length < 100000 ∧ Q (.d (.int ((n + gs.length : Nat) : Int))) (netM C' n (gs ++ [.pr 1 i j]) tw)
  | _, _ => False

theorem ok_Net_either {f : Addr} {fd : FuncData} (F : FunD K "either" "Net.either" (defArgs s_Net_either) (defBody s_Net_either) (defScope s_Net_either) [] [] f fd) (MKN_laid : DefMKN P w K mg base C "laid" 2 (sp_Net_laid C) 2 ["wires"]) : G.FnOk P w K mg base CX0 3 f fd ["self", "a", "b"] (conc K (sp_Net_either C)) := by
  refine afn 4 F sc_Net_either (fun xs M Q E h => by unfold sp_Net_either at h; split at h <;> first | exact ⟨rfl, rfl⟩ | exact h.elim) fun W cdv Ar ou sh HH EX hr hW => ⟨_, _, (ass_one (as_ret (k_defMKN (K := K) MKN_laid hr (by decide) (ae_v 0) (aa_cons ae_str aa_nil) (ak_cons (ae_tup (aa_cons (ae_v 1) (aa_cons (ae_v 2) aa_nil))) ak_nil)))), fun xs M QA EA h => ?_⟩
  unfold sp_Net_either at h
  split at h
  · rename_i a b C' fs rows dps tw
    obtain ⟨n, gs, rfl, rfl, rfl, rfl, hn, hg, h⟩ := h
    have lr : (gs.map gD).length = gs.length := List.length_map _
    have ld : ((dpsF n gs).map D.int).length = n + gs.length := (List.length_map _).trans (dps_len n gs)
    obtain ⟨i, j, rfl, rfl, hi, hj, hl, q⟩ := h
    refine Side.mk ⟨rfl, nmN rfl⟩ ?_
    refine ⟨n, gs, [i, j], _, rfl, rfl, rfl, rfl, hn, hl, rfl, rfl, fun a ha => ?_, ?_⟩
    · simp only [List.mem_cons, List.not_mem_nil, or_false] at ha
      rcases ha with rfl | rfl
      · exact hi
      · exact hj
    exact q
  · exact h.elim
/-! #### Net.unlike -/
theorem sc_Net_unlike : FnScope ["self", "a", "b"] ["self", "a", "b"] (defScope s_Net_unlike) := ⟨rfl, rfl, rfl, by decide +kernel, rfl, by decide +kernel, by decide +kernel⟩

def sp_Net_unlike (C_Net : Addr) : ASp := fun xs M Q _ => match xs, M with
  | [.cell 0, .d (.int a), .d (.int b)], [.obj C' fs, .lst rows, .lst dps, .did tw] => ∃ (n : Nat) (gs : List Gt), C' = C_Net ∧ fs = netF n ∧ rows = gs.map gD ∧ dps = (dpsF n gs).map D.int ∧ n ≤ 10000 ∧ gs.length ≤ 100000 ∧ ∃ i j : Nat, a = (i : Int) ∧ b = (j : Int) ∧ i < n + gs.length ∧ j < n + gs.length ∧ gs.length < 100000 ∧ Q (.d (.int ((n + gs.length : Nat) : Int))) (netM C' n (gs ++ [.pr 2 i j]) tw)
  | _, _ => False

theorem ok_Net_unlike {f : Addr} {fd : FuncData} (F : FunD K "unlike" "Net.unlike" (defArgs s_Net_unlike) (defBody s_Net_unlike) (defScope s_Net_unlike) [] [] f fd) (MKN_laid : DefMKN P w K mg base C "laid" 2 (sp_Net_laid C) 2 ["wires"]) : G.FnOk P w K mg base CX0 3 f fd ["self", "a", "b"] (conc K (sp_Net_unlike C)) := by
  refine afn 4 F sc_Net_unlike (fun xs M Q E h => by unfold sp_Net_unlike at h; split at h <;> first | exact ⟨rfl, rfl⟩ | exact h.elim) fun W cdv Ar ou sh HH EX hr hW => ⟨_, _, (ass_one (as_ret (k_defMKN (K := K) MKN_laid hr (by decide) (ae_v 0) (aa_cons ae_str aa_nil) (ak_cons (ae_tup (aa_cons (ae_v 1) (aa_cons (ae_v 2) aa_nil))) ak_nil)))), fun xs M QA EA h => ?_⟩
  unfold sp_Net_unlike at h
  split at h
  · rename_i a b C' fs rows dps tw
    obtain ⟨n, gs, rfl, rfl, rfl, rfl, hn, hg, h⟩ := h
    have lr : (gs.map gD).length = gs.length := List.length_map _
    have ld : ((dpsF n gs).map D.int).length = n + gs.length := (List.length_map _).trans (dps_len n gs)
    obtain ⟨i, j, rfl, rfl, hi, hj, hl, q⟩ := h
    refine Side.mk ⟨rfl, nmN rfl⟩ ?_
    refine ⟨n, gs, [i, j], _, rfl, rfl, rfl, rfl, hn, hl, rfl, rfl, fun a ha => ?_, ?_⟩
    · simp only [List.mem_cons, List.not_mem_nil, or_false] at ha
      rcases ha with rfl | rfl
      · exact hi
      · exact hj
    exact q
  · exact h.elim
/-! #### Net.other -/
theorem sc_Net_other : FnScope ["self", "a"] ["self", "a"] (defScope s_Net_other) := ⟨rfl, rfl, rfl, by decide +kernel, rfl, by decide +kernel, by decide +kernel⟩

def sp_Net_other (C_Net : Addr) : ASp := fun xs M Q _ => match xs, M with
  | [.cell 0, .d (.int a)], [.obj C' fs, .lst rows, .lst dps, .did tw] => ∃ (n : Nat) (gs : List Gt), C' = C_Net ∧ fs = netF n ∧ rows = gs.map gD ∧ dps = (dpsF n gs).map D.int ∧ n ≤ 10000 ∧ gs.length ≤ 100000 ∧ ∃ i : Nat, a = (i : Int) ∧ i < n + gs.length ∧ gs.length < 100000 ∧ Q (.d (.int ((n + gs.length : Nat) : Int))) (netM C' n (gs ++ [.ot i]) tw)
  | _, _ => False

theorem ok_Net_other {f : Addr} {fd : FuncData} (F : FunD K "other" "Net.other" (defArgs s_Net_other) (defBody s_Net_other) (defScope s_Net_other) [] [] f fd) (MKN_laid : DefMKN P w K mg base C "laid" 2 (sp_Net_laid C) 2 ["wires"]) : G.FnOk P w K mg base CX0 3 f fd ["self", "a"] (conc K (sp_Net_other C)) := by
  refine afn 4 F sc_Net_other (fun xs M Q E h => by unfold sp_Net_other at h; split at h <;> first | exact ⟨rfl, rfl⟩ | exact h.elim) fun W cdv Ar ou sh HH EX hr hW => ⟨_, _, (ass_one (as_ret (k_defMKN (K := K) MKN_laid hr (by decide) (ae_v 0) (aa_cons ae_str aa_nil) (ak_cons (ae_tup (aa_cons (ae_v 1) aa_nil)) ak_nil)))), fun xs M QA EA h => ?_⟩
  unfold sp_Net_other at h
  split at h
  · rename_i a C' fs rows dps tw
    obtain ⟨n, gs, rfl, rfl, rfl, rfl, hn, hg, h⟩ := h
    have lr : (gs.map gD).length = gs.length := List.length_map _
    have ld : ((dpsF n gs).map D.int).length = n + gs.length := (List.length_map _).trans (dps_len n gs)
    obtain ⟨i, rfl, hi, hl, q⟩ := h
    refine Side.mk ⟨rfl, nmN rfl⟩ ?_
    refine ⟨n, gs, [i], _, rfl, rfl, rfl, rfl, hn, hl, rfl, rfl, fun a ha => ?_, ?_⟩
    · rw [List.mem_singleton] at ha
      rw [ha]; exact hi
    exact q
  · exact h.elim
/-! #### Net.fixed -/
theorem sc_Net_fixed : FnScope ["self", "bit"] ["self", "bit"] (defScope s_Net_fixed) := ⟨rfl, rfl, rfl, by decide +kernel, rfl, by decide +kernel, by decide +kernel⟩

def sp_Net_fixed (C_Net : Addr) : ASp := fun xs M Q _ => match xs, M with
  | [.cell 0, .d (.int b)], [.obj C' fs, .lst rows, .lst dps, .did tw] => ∃ (n : Nat) (gs : List Gt), C' = C_Net ∧ fs = netF n ∧ rows = gs.map gD ∧ dps = (dpsF n gs).map D.int ∧ n ≤ 10000 ∧ gs.length ≤ 100000 ∧ ∃ k : Nat, b = (k : Int) ∧ gs.length < 100000 ∧ Q (.d (.int ((n + gs.length : Nat) : Int))) (netM C' n (gs ++ [.fx k]) tw)
  | _, _ => False

theorem ok_Net_fixed {f : Addr} {fd : FuncData} (F : FunD K "fixed" "Net.fixed" (defArgs s_Net_fixed) (defBody s_Net_fixed) (defScope s_Net_fixed) [] [] f fd) (m_len : mg "len" = none) (c_cls : Cls K C) (n_gate_rows : NoAttr K C "gate_rows") (n_wire_depths : NoAttr K C "wire_depths") : G.FnOk P w K mg base CX0 1 f fd ["self", "bit"] (conc K (sp_Net_fixed C)) := by
  refine afn 4 F sc_Net_fixed (fun xs M Q E h => by unfold sp_Net_fixed at h; split at h <;> first | exact ⟨rfl, rfl⟩ | exact h.elim) fun W cdv Ar ou sh HH EX hr hW => ⟨_, _, (ass_cons (as_expr (k_lm (K := K) PySem.F.slot_list_append PySem.F.type_list_append mt_append sm_append (k_fld (K := K) c_cls n_gate_rows (ae_v 0)) (aa_cons (ae_tup (aa_cons ae_str (aa_cons (ae_v 1) aa_nil))) aa_nil))) (ass_cons (as_expr (k_lm (K := K) PySem.F.slot_list_append PySem.F.type_list_append mt_append sm_append (k_fld (K := K) c_cls n_wire_depths (ae_v 0)) (aa_cons ae_int aa_nil))) (ass_one (as_ret (ae_op o_sub (k_cb (K := K) (r := qLen) call_len sc_len m_len (aa_cons (k_fld (K := K) c_cls n_wire_depths (ae_v 0)) aa_nil)) ae_int))))), fun xs M QA EA h => ?_⟩
  unfold sp_Net_fixed at h
  split at h
  · rename_i b C' fs rows dps tw
    obtain ⟨n, gs, rfl, rfl, rfl, rfl, hn, hg, h⟩ := h
    have lr : (gs.map gD).length = gs.length := List.length_map _
    have ld : ((dpsF n gs).map D.int).length = n + gs.length := (List.length_map _).trans (dps_len n gs)
    obtain ⟨k, rfl, hl, q⟩ := h
    refine Side.mk rfl ?_
    refine Side.mk (by rw [lr, sizeLine_eq]; omega) ?_
    refine Side.mk rfl ?_
    refine Side.mk (by rw [ld, sizeLine_eq]; omega) ?_
    refine Side.mk rfl ?_
    have e1 : netM C' n (gs ++ [.fx k]) tw = [.obj C' (netF n), .lst (gs.map gD ++ [.tup [.str "fixed", .int (k : Int)]]), .lst ((dpsF n gs).map D.int ++ [.int 0]), .did tw] := by
      unfold netM
      rw [List.map_append, dps_snoc, List.map_append]; rfl
    have e2 : (((((dpsF n gs).map D.int) ++ [D.int 0]).length : Nat) : Int) - 1 = ((n + gs.length : Nat) : Int) := by
      rw [List.length_append, ld]
      show ((n + gs.length + 1 : Nat) : Int) - 1 = _
      omega
    rw [e1, ← e2] at q
    exact q
  · exact h.elim
/-! #### _law_made -/
theorem sc_law_made : FnScope ["_law_rows", "_law_wide", "_law_net", "_law_row"] ["_law_rows", "_law_wide"] (defScope s_law_made) := ⟨rfl, rfl, rfl, by decide +kernel, rfl, by decide +kernel, by decide +kernel⟩

def sp_law_made (C_Net : Addr) : ASp := fun xs M Q _ => match xs, M with
  | [.d (.lst rows), .d (.int wide)], [] => ∃ (n : Nat) (gs : List Gt), wide = (n : Int) ∧ rows = gs.map gD ∧ n ≤ 10000 ∧ gs.length ≤ 10000 ∧ gsOk n gs ∧ Q (.cell 0) (netM C_Net n gs [])
  | _, _ => False

theorem ok_law_made {f : Addr} {fd : FuncData} (F : FunD K "_law_made" "_law_made" (defArgs s_law_made) (defBody s_law_made) (defScope s_law_made) [] [] f fd) (N_Net : DefC P w K mg base "Net" C 1 (sp_Net__init_ C) []) (M_both : DefM P w K mg base C "both" 3 (sp_Net_both C) []) (M_either : DefM P w K mg base C "either" 3 (sp_Net_either C) []) (M_unlike : DefM P w K mg base C "unlike" 3 (sp_Net_unlike C) []) (M_other : DefM P w K mg base C "other" 3 (sp_Net_other C) []) (M_fixed : DefM P w K mg base C "fixed" 1 (sp_Net_fixed C) []) : G.FnOk P w K mg base CX0 4 f fd ["_law_rows", "_law_wide"] (conc K (sp_law_made C)) := by
  refine afn 0 F sc_law_made (fun xs M Q E h => by unfold sp_law_made at h; split at h <;> first | exact ⟨rfl, rfl⟩ | exact h.elim) fun W cdv Ar ou sh HH EX hr hW => ⟨_, _, (ass_cons (as_set 2 sc_law_made.nd (k_make (K := K) N_Net hr (by decide) (aa_cons (ae_v 1) aa_nil))) (ass_cons (as_for PassesOwn.never rfl (k_list (K := K) (ae_v 0)) (ag_name 3 sc_law_made.nd) (ass_one (as_if (at_cmp (k_eq (K := K) hr.units) (k_ix (K := K) (ae_v 3) ae_int) ae_str rfl) (ass_one (as_expr (k_defM (K := K) M_both hr (by decide) (ae_v 2) (aa_cons (k_ix (K := K) (ae_v 3) ae_int) (aa_cons (k_ix (K := K) (ae_v 3) ae_int) aa_nil))))) (ass_one (as_if (at_cmp (k_eq (K := K) hr.units) (k_ix (K := K) (ae_v 3) ae_int) ae_str rfl) (ass_one (as_expr (k_defM (K := K) M_either hr (by decide) (ae_v 2) (aa_cons (k_ix (K := K) (ae_v 3) ae_int) (aa_cons (k_ix (K := K) (ae_v 3) ae_int) aa_nil))))) (ass_one (as_if (at_cmp (k_eq (K := K) hr.units) (k_ix (K := K) (ae_v 3) ae_int) ae_str rfl) (ass_one (as_expr (k_defM (K := K) M_unlike hr (by decide) (ae_v 2) (aa_cons (k_ix (K := K) (ae_v 3) ae_int) (aa_cons (k_ix (K := K) (ae_v 3) ae_int) aa_nil))))) (ass_one (as_if (at_cmp (k_eq (K := K) hr.units) (k_ix (K := K) (ae_v 3) ae_int) ae_str rfl) (ass_one (as_expr (k_defM (K := K) M_other hr (by decide) (ae_v 2) (aa_cons (k_ix (K := K) (ae_v 3) ae_int) aa_nil)))) (ass_one (as_expr (k_defM (K := K) M_fixed hr (by decide) (ae_v 2) (aa_cons (k_ix (K := K) (ae_v 3) ae_int) aa_nil))))))))))))) (ass_one (as_ret (ae_v 2))))), fun xs M QA EA h => ?_⟩
  unfold sp_law_made at h
  split at h
  · rename_i rows wide
    obtain ⟨n, gs, rfl, rfl, hn, hg, ho, q⟩ := h
    refine ⟨n, rfl, hn, rfl, ?_⟩
    refine ForS.mk ⟨fun i E M => ∃ x3 : Option G.A, E = [some (.d (.lst (gs.map gD))), some (.d (.int (n : Int))), some (.cell 0), x3] ∧ M = netM C n (gs.take i) [], ⟨none, rfl, rfl⟩, ?_, ?_⟩
    · rintro i d _ _ hd ⟨x3, rfl, rfl⟩
      rw [List.getElem?_map] at hd
      cases eg : gs[i]? with
      | none => rw [eg] at hd; cases hd
      | some g =>
        rw [eg] at hd
        cases hd
        have hi := (List.getElem?_eq_some_iff.mp eg).1
        have hok := ho i g eg
        have tk : gs.take (i + 1) = gs.take i ++ [g] := by rw [List.take_succ, eg]; rfl
        have tl : (gs.take i).length = i := by rw [List.length_take]; omega
        cases g with
        | pr k a b =>
          obtain ⟨k2, ha, hb⟩ := hok
          rcases (show k = 0 ∨ k = 1 ∨ k = 2 by omega) with rfl | rfl | rfl
          · refine Opt.mk ⟨_, rfl, ?_⟩
            refine fork_t rfl ?_
            refine Side.mk ⟨rfl, nmN rfl⟩ ?_
            refine Opt.mk ⟨_, rfl, ?_⟩
            refine Opt.mk ⟨_, rfl, ?_⟩
            refine ⟨n, gs.take i, rfl, rfl, rfl, rfl, hn, by omega, a, b, rfl, rfl, by omega, by omega, by omega, ?_⟩
            exact ⟨_, rfl, by rw [tk]; rfl⟩
          · refine Opt.mk ⟨_, rfl, ?_⟩
            refine fork_f rfl ?_
            refine Opt.mk ⟨_, rfl, ?_⟩
            refine fork_t rfl ?_
            refine Side.mk ⟨rfl, nmN rfl⟩ ?_
            refine Opt.mk ⟨_, rfl, ?_⟩
            refine Opt.mk ⟨_, rfl, ?_⟩
            refine ⟨n, gs.take i, rfl, rfl, rfl, rfl, hn, by omega, a, b, rfl, rfl, by omega, by omega, by omega, ?_⟩
            exact ⟨_, rfl, by rw [tk]; rfl⟩
          · refine Opt.mk ⟨_, rfl, ?_⟩
            refine fork_f rfl ?_
            refine Opt.mk ⟨_, rfl, ?_⟩
            refine fork_f rfl ?_
            refine Opt.mk ⟨_, rfl, ?_⟩
            refine fork_t rfl ?_
            refine Side.mk ⟨rfl, nmN rfl⟩ ?_
            refine Opt.mk ⟨_, rfl, ?_⟩
            refine Opt.mk ⟨_, rfl, ?_⟩
            refine ⟨n, gs.take i, rfl, rfl, rfl, rfl, hn, by omega, a, b, rfl, rfl, by omega, by omega, by omega, ?_⟩
            exact ⟨_, rfl, by rw [tk]; rfl⟩
        | ot a =>
          have ha : a < n + i := hok
          refine Opt.mk ⟨_, rfl, ?_⟩
          refine fork_f rfl ?_
          refine Opt.mk ⟨_, rfl, ?_⟩
          refine fork_f rfl ?_
          refine Opt.mk ⟨_, rfl, ?_⟩
          refine fork_f rfl ?_
          refine Opt.mk ⟨_, rfl, ?_⟩
          refine fork_t rfl ?_
          refine Side.mk ⟨rfl, nmN rfl⟩ ?_
          refine Opt.mk ⟨_, rfl, ?_⟩
          refine ⟨n, gs.take i, rfl, rfl, rfl, rfl, hn, by omega, a, rfl, by omega, by omega, ?_⟩
          exact ⟨_, rfl, by rw [tk]; rfl⟩
        | fx b =>
          refine Opt.mk ⟨_, rfl, ?_⟩
          refine fork_f rfl ?_
          refine Opt.mk ⟨_, rfl, ?_⟩
          refine fork_f rfl ?_
          refine Opt.mk ⟨_, rfl, ?_⟩
          refine fork_f rfl ?_
          refine Opt.mk ⟨_, rfl, ?_⟩
          refine fork_f rfl ?_
          refine Side.mk ⟨rfl, nmN rfl⟩ ?_
          refine Opt.mk ⟨_, rfl, ?_⟩
          refine ⟨n, gs.take i, rfl, rfl, rfl, rfl, hn, by omega, b, rfl, by omega, ?_⟩
          exact ⟨_, rfl, by rw [tk]; rfl⟩
    · rintro _ _ ⟨x3, rfl, rfl⟩
      rw [List.length_map, List.take_length]
      exact q
  · exact h.elim
/-! #### Net.give -/
theorem sc_Net_give : FnScope ["self", "name", "wires"] ["self", "name", "wires"] (defScope s_Net_give) := ⟨rfl, rfl, rfl, by decide +kernel, rfl, by decide +kernel, by decide +kernel⟩

def sp_Net_give (C_Net : Addr) : ASp := fun xs M Q _ => match xs, M with
  | [.cell 0, .d (.str nm), .d (.lst x)], [.obj C' fs, .lst rows, .lst dps, .did tw] => ∃ (n : Nat) (gs : List Gt), C' = C_Net ∧ fs = netF n ∧ rows = gs.map gD ∧ dps = (dpsF n gs).map D.int ∧ n ≤ 10000 ∧ gs.length ≤ 100000 ∧ ∃ ws : List Nat, x = (ws.map fun a : Nat => D.int (a : Int)) ∧ (∀ a ∈ ws, a < n + gs.length) ∧ getK (.inr nm) tw = none ∧ (tw.map (·.1)).Nodup ∧ tw.length ≤ 1000 ∧ Q (.d .non) (netM C' n gs (setK (.inr nm) (.lst x) tw))
  | _, _ => False

theorem ok_Net_give {f : Addr} {fd : FuncData} (F : FunD K "give" "Net.give" (defArgs s_Net_give) (defBody s_Net_give) (defScope s_Net_give) [] [] f fd) (M_look_at : DefM P w K mg base C "look_at" 1 (sp_Net_look_at C) []) (m_list : mg "list" = none) (c_cls : Cls K C) (n_told_wires : NoAttr K C "told_wires") : G.FnOk P w K mg base CX0 2 f fd ["self", "name", "wires"] (conc K (sp_Net_give C)) := by
  refine afn 4 F sc_Net_give (fun xs M Q E h => by unfold sp_Net_give at h; split at h <;> first | exact ⟨rfl, rfl⟩ | exact h.elim) fun W cdv Ar ou sh HH EX hr hW => ⟨_, _, (ass_cons (as_if (at_din hr.units (ae_v 1) (k_fld (K := K) c_cls n_told_wires (ae_v 0))) (ass_one as_never) ass_nil) (ass_cons (as_expr (ae_gen (k_defM (K := K) M_look_at hr (by decide) (ae_v 0) (aa_cons (ae_v 2) aa_nil)))) (ass_one (as_dput hr.units (k_fld (K := K) c_cls n_told_wires (ae_v 0)) (ae_v 1) (k_ct (K := K) (r := qList) call_list_of (sc_list (cel := false)) m_list (aa_cons (ae_v 2) aa_nil)))))), fun xs M QA EA h => ?_⟩
  unfold sp_Net_give at h
  split at h
  · rename_i nm x C' fs rows dps tw
    obtain ⟨n, gs, rfl, rfl, rfl, rfl, hn, hg, h⟩ := h
    have lr : (gs.map gD).length = gs.length := List.length_map _
    have ld : ((dpsF n gs).map D.int).length = n + gs.length := (List.length_map _).trans (dps_len n gs)
    obtain ⟨ws, rfl, hw, hk, hnd, htl, q⟩ := h
    refine Side.mk rfl ?_
    refine Opt.mk ⟨_, rfl, ?_⟩
    refine fork_f (by show (getK (.inr nm) (tw.map fun p => (p.1, A.d p.2))).isSome = false; rw [getK_mapA, hk]; rfl) ?_
    refine Gen.mk ⟨fun z M' => z = .d .non ∧ M' = [.obj C' (netF n), .lst (gs.map gD), .lst ((dpsF n gs).map D.int), .did tw], ?_, ?_⟩
    · refine Side.mk ⟨rfl, nmN rfl⟩ ?_
      refine ⟨n, gs, ws, rfl, rfl, rfl, rfl, hn, by omega, .inl rfl, hw, ?_⟩
      exact ⟨rfl, rfl⟩
    rintro _ _ ⟨rfl, rfl⟩
    refine Side.mk rfl ?_
    refine Opt.mk ⟨_, rfl, ?_⟩
    refine Side.mk ⟨hnd, by rw [sizeLine_eq]; omega⟩ ?_
    exact q
  · exact h.elim
/-! #### all_cases -/
theorem sc_all_cases : FnScope ["many", "found", "place", "step", "bits", "size"] ["many"] (defScope s_all_cases) := ⟨rfl, rfl, rfl, by decide +kernel, rfl, by decide +kernel, by decide +kernel⟩

def sp_all_cases : ASp := fun xs M Q _ => match xs, M with
  | [.d (.int many)], [] => ∃ n : Nat, many = (n : Int) ∧ n ≤ 12 ∧ Q (.cell 0) [.lst ((acF n).map D.int)]
  | _, _ => False

theorem ok_all_cases {f : Addr} {fd : FuncData} (F : FunD K "all_cases" "all_cases" (defArgs s_all_cases) (defBody s_all_cases) (defScope s_all_cases) [] [] f fd) (m_range : mg "range" = none) : G.FnOk P w K mg base CX0 1 f fd ["many"] (conc K sp_all_cases) := by
  refine afn 0 F sc_all_cases (fun xs M Q E h => by unfold sp_all_cases at h; split at h <;> first | exact ⟨rfl, rfl⟩ | exact h.elim) fun W cdv Ar ou sh HH EX hr hW => ⟨_, _, (ass_cons (as_set 1 sc_all_cases.nd (ae_cell aa_nil)) (ass_cons (as_for PassesOwn.never rfl (ai_rngD m_range (aa_cons (ae_op o_sub (ae_v 0) ae_int) (aa_cons (ae_un o_neg ae_int) (aa_cons (ae_un o_neg ae_int) aa_nil)))) (ag_name 2 sc_all_cases.nd) (ass_cons (as_gen (as_set 3 sc_all_cases.nd (ae_op o_shl ae_int (ae_v 2)))) (ass_cons (as_gen (as_par 4 5 sc_all_cases.nd (aa_cons (ae_op o_shl (ae_op o_sub (ae_op o_shl ae_int (ae_v 3)) ae_int) (ae_v 3)) (aa_cons (ae_op o_mul ae_int (ae_v 3)) aa_nil)))) (ass_cons (as_gen (as_while PassesOwn.never (at_cmp o_lt (ae_v 5) (ae_op o_shl ae_int (ae_v 0)) rfl) (ass_cons (as_aug 4 sc_all_cases.nd io_or (ae_op o_shl (ae_v 4) (ae_v 5))) (ass_one (as_aug 5 sc_all_cases.nd io_shl ae_int))))) (ass_one (as_expr (k_lm (K := K) PySem.F.slot_list_append PySem.F.type_list_append mt_append sm_append (ae_v 1) (aa_cons (ae_v 4) aa_nil)))))))) (ass_one (as_ret (ae_v 1))))), fun xs M QA EA h => ?_⟩
  unfold sp_all_cases at h
  split at h
  · rename_i many
    obtain ⟨n, rfl, hn, q⟩ := h
    have p12 : (2:Nat) ^ n ≤ 2 ^ 12 := Nat.pow_le_pow_right (by decide) hn
    have e12 : (2:Nat) ^ 12 = 4096 := rfl
    refine Side.mk ⟨rfl, by omega, by omega, by decide, by decide⟩ ?_
    refine ForS.mk ⟨fun i E M => ∃ x2 x3 x4 x5 : Option G.A, E = [some (.d (.int (n : Int))), some (.cell 0), x2, x3, x4, x5] ∧ M = [.lst (((List.range i).map fun i => patF (n - 1 - i) (2 ^ n)).map D.int)], ⟨none, none, none, none, rfl, rfl⟩, ?_, ?_⟩
    · rintro i d _ _ hd ⟨x2, x3, x4, x5, rfl, rfl⟩
      obtain ⟨hi, rfl⟩ := rngD_get hd
      have hi : i < n := by omega
      have ep : ((n : Int) - 1 + (i : Int) * -1).toNat = n - 1 - i := by omega
      obtain ⟨p, hp⟩ : ∃ p, n - 1 - i = p := ⟨_, rfl⟩
      have hpn : p < n := by omega
      have pp : (2:Nat) ^ p ≤ 2 ^ n := Nat.pow_le_pow_right (by decide) (by omega)
      have tp : (0:Int) < ((2 ^ p : Nat) : Int) := by have := Nat.two_pow_pos p; omega
      have es : ((2 ^ p : Nat) : Int) = (1:Int) * 2 ^ ((n : Int) - 1 + (i : Int) * -1).toNat := by rw [ep, hp, Int.one_mul, Int.natCast_pow]; rfl
      refine Gen.mk ⟨fun E' M' => E' = [some (.d (.int (n : Int))), some (.cell 0), some (.d (.int ((n : Int) - 1 + (i : Int) * -1))), some (.d (.int ((2 ^ p : Nat) : Int))), x4, x5] ∧ M' = [.lst (((List.range i).map fun i => patF (n - 1 - i) (2 ^ n)).map D.int)], ?_, ?_⟩
      · refine Side.mk (cshl1 (by omega) (by omega)) ?_
        rw [es]
        exact ⟨rfl, rfl⟩
      rintro _ _ ⟨rfl, rfl⟩
      refine Gen.mk ⟨fun E' M' => E' = [some (.d (.int (n : Int))), some (.cell 0), some (.d (.int ((n : Int) - 1 + (i : Int) * -1))), some (.d (.int ((2 ^ p : Nat) : Int))), some (.d (.int (patF p (2 ^ (p + 1))))), some (.d (.int ((2 ^ (p + 1) : Nat) : Int)))] ∧ M' = [.lst (((List.range i).map fun i => patF (n - 1 - i) (2 ^ n)).map D.int)], ?_, ?_⟩
      · refine Side.mk (cshl1 (by omega) (by omega)) ?_
        refine Side.mk (cshl (k := 4096) (sm.of (by have := Int.pow_pos (n := (2:Int)) (m := (((2 ^ p : Nat) : Int)).toNat) (by decide); omega) (by
          have : (2:Int) ^ (((2 ^ p : Nat) : Int)).toNat ≤ 2 ^ 4096 := p2m (by omega)
          omega)) (by omega) (by omega) (by decide)) ?_
        refine Side.mk (mulL (by decide) (by decide)) ?_
        have e1 : patF p (2 ^ (p + 1)) = (1 * 2 ^ (((2 ^ p : Nat) : Int)).toNat - 1) * 2 ^ (((2 ^ p : Nat) : Int)).toNat := by
          rw [Nat.pow_succ, Nat.mul_two, patF_one p _ (Nat.le_refl _), Int.one_mul, Int.toNat_natCast]
        have e2 : ((2 ^ (p + 1) : Nat) : Int) = 2 * ((2 ^ p : Nat) : Int) := by rw [Nat.pow_succ]; omega
        rw [e1, e2]
        exact ⟨rfl, rfl⟩
      rintro _ _ ⟨rfl, rfl⟩
      refine Gen.mk ⟨fun E' M' => E' = [some (.d (.int (n : Int))), some (.cell 0), some (.d (.int ((n : Int) - 1 + (i : Int) * -1))), some (.d (.int ((2 ^ p : Nat) : Int))), some (.d (.int (patF p (2 ^ n)))), some (.d (.int ((2 ^ n : Nat) : Int)))] ∧ M' = [.lst (((List.range i).map fun i => patF (n - 1 - i) (2 ^ n)).map D.int)], ?_, ?_⟩
      · refine WhileS.mk ⟨fun k E M => ∃ e : Nat, k = n - e ∧ p + 1 ≤ e ∧ e ≤ n ∧ E = [some (.d (.int (n : Int))), some (.cell 0), some (.d (.int ((n : Int) - 1 + (i : Int) * -1))), some (.d (.int ((2 ^ p : Nat) : Int))), some (.d (.int (patF p (2 ^ e)))), some (.d (.int ((2 ^ e : Nat) : Int)))] ∧ M = [.lst (((List.range i).map fun i => patF (n - 1 - i) (2 ^ n)).map D.int)], ⟨_, p + 1, rfl, Nat.le_refl _, by omega, rfl, rfl⟩, ?_⟩
        rintro k _ _ ⟨e, rfl, he1, he2, rfl, rfl⟩
        have pe : (2:Nat) ^ e ≤ 2 ^ n := Nat.pow_le_pow_right (by decide) he2
        have te : (0:Int) < ((2 ^ e : Nat) : Int) := by have := Nat.two_pow_pos e; omega
        have en : ((2 ^ n : Nat) : Int) = 1 * 2 ^ ((n : Int)).toNat := by rw [Int.one_mul, Int.toNat_natCast, Int.natCast_pow]; rfl
        refine Side.mk (cshl1 (by omega) (by omega)) ?_
        refine Fork.mk (fun c => ?_) (fun c => ?_)
        · have c2 := of_decide_eq_true (show decide (((2 ^ e : Nat) : Int) < 1 * 2 ^ ((n : Int)).toNat) = true from c)
          rw [← en] at c2
          have c3 : e < n := by
            apply Nat.lt_of_not_le
            intro z
            have : (2:Nat) ^ n ≤ 2 ^ e := Nat.pow_le_pow_right (by decide) z
            omega
          obtain ⟨f0, f1⟩ := patF_rng p (2 ^ e)
          refine Side.mk (cshl (k := 2 ^ e) (sm.of f0 f1) (by omega) (by omega) (by omega)) ?_
          refine Side.mk (cshl (k := 60) (sm_of_small (by omega) (by omega)) (by decide) (by decide) (by decide)) ?_
          have hm : 2 ^ e % (2 ^ p * 2) = 0 := by
            rw [← Nat.pow_succ, show e = (e - (p + 1)) + (p + 1) by omega, Nat.pow_add]
            exact Nat.mul_mod_left _ _
          have e3 : patF p (2 ^ (e + 1)) = Builtin.bitOr (patF p (2 ^ e)) (patF p (2 ^ e) * 2 ^ (((2 ^ e : Nat) : Int)).toNat) := by
            rw [Int.toNat_natCast, or_above f0 f1 f0, Nat.pow_succ, Nat.mul_two, patF_add hm]
          have e4 : ((2 ^ (e + 1) : Nat) : Int) = ((2 ^ e : Nat) : Int) * 2 ^ Int.toNat 1 := by
            rw [Nat.pow_succ]
            show _ = _ * (2:Int)
            omega
          refine ⟨n - (e + 1), by omega, e + 1, rfl, by omega, by omega, ?_, rfl⟩
          rw [e3, e4]
          rfl
        · have c2 := of_decide_eq_false (show decide (((2 ^ e : Nat) : Int) < 1 * 2 ^ ((n : Int)).toNat) = false from c)
          rw [← en] at c2
          have c3 : e = n := by
            apply Nat.le_antisymm he2
            apply Nat.le_of_not_lt
            intro z
            have : (2:Nat) ^ e < 2 ^ n := Nat.pow_lt_pow_right (by decide) z
            omega
          subst c3
          exact ⟨rfl, rfl⟩
      rintro _ _ ⟨rfl, rfl⟩
      refine Side.mk (by rw [List.length_map, List.length_map, List.length_range, sizeLine_eq]; omega) ?_
      refine ⟨_, _, _, _, rfl, ?_⟩
      rw [List.range_succ, List.map_append, List.map_append, hp.symm]
      rfl
    · rintro _ _ ⟨x2, x3, x4, x5, rfl, rfl⟩
      rw [rngD_len, show ((n : Int) - 1 - -1).toNat = n by omega]
      exact q
  · exact h.elim
/-! #### _law_cases_right -/
theorem sc_law_cases_right : FnScope ["_law_box_here", "_law_inputs", "_law_told", "_law_words", "_law_one", "_law_word", "_law_turn", "_law_at", "_law_kept"] ["_law_box_here", "_law_inputs"] (defScope s_law_cases_right) := ⟨rfl, rfl, rfl, by decide +kernel, rfl, by decide +kernel, by decide +kernel⟩

def sp_law_cases_right : ASp := fun xs M Q _ => match xs, M with
  | [.cell 0, .d (.int wide)], [.lst l] => ∃ n : Nat, wide = (n : Int) ∧ Drx 5000 l (1 ≤ n ∧ n ≤ 12) (fun _ : Unit => True) (fun _ l' => Q (.d (.bl true)) [.lst l'])
  | _, _ => False

theorem ok_law_cases_right {f : Addr} {fd : FuncData} (F : FunD K "_law_cases_right" "_law_cases_right" (defArgs s_law_cases_right) (defBody s_law_cases_right) (defScope s_law_cases_right) [] [] f fd) (D_all_cases : Def P w K mg base "all_cases" 1 sp_all_cases []) (D_law_take : Def P w K mg base "_law_take" 25 sp_draw []) (m_isinstance : mg "isinstance" = none) (m_list : mg "list" = none) (m_len : mg "len" = none) (m_all : mg "all" = none) (m_int : mg "int" = none) (m_range : mg "range" = none) : G.FnOk P w K mg base CX0 26 f fd ["_law_box_here", "_law_inputs"] (conc K sp_law_cases_right) := by
  refine afn 1 F sc_law_cases_right (fun xs M Q E h => by unfold sp_law_cases_right at h; split at h <;> first | exact ⟨rfl, rfl⟩ | exact h.elim) fun W cdv Ar ou sh HH EX hr hW => ⟨_, _, (ass_cons (as_gen (as_trim 2 (by omega) (as_asg (ae_tup (aa_cons (k_def (K := K) D_all_cases hr (by decide) (aa_cons (ae_v 1) aa_nil)) (aa_cons (ae_op o_shl ae_int (ae_v 1)) aa_nil))) (k_gtup (K := K) (n := 2) rfl (ags_cons (ag_name 2 sc_law_cases_right.nd) (ags_cons (ag_name 3 sc_law_cases_right.nd) ags_nil)))))) (ass_cons (as_if (at_w (aw_or (at_not (k_tru (K := K) (k_cb (K := K) (r := rIsi) call_isi sc_isi m_isinstance (aa_cons (ae_v 2) (aa_cons (ae_ty (T := "list") m_list) aa_nil))))) (aw_or1 (at_cmp (k_ne (K := K) hr.units) (k_cb (K := K) (r := qLen) call_len sc_len m_len (aa_cons (ae_v 2) aa_nil)) (ae_v 1) rfl)))) (ass_one (as_ret ae_bl)) ass_nil) (ass_cons (as_if (at_not (at_bor [2, 3] (fun W' => (k_tru (K := K) (k_cb (K := K) (r := rAll) (cr_all rfl) sc_all m_all (aa_cons (ae_lc false [("_law_one", 4)] rfl sc_law_cases_right.nd (k_list (K := K) (ae_v 2)) (blkOk_by (by rfl)) (fun _ _ _ _ _ => (ag_name 4 sc_law_cases_right.nd)) (fun _ _ _ _ _ => ats_nil) (fun _ _ _ _ _ => (ae_and (k_cb (K := K) (r := rIsi) call_isi sc_isi m_isinstance (aa_cons (ae_v 4) (aa_cons (ae_ty (T := "int") m_int) aa_nil))) (ae_one (ae_chain o_le o_lt ae_int (ae_v 4) (ae_op o_shl ae_int (ae_v 3))))))) aa_nil)))))) (ass_one (as_ret ae_bl)) ass_nil) (ass_cons (as_for PassesOwn.never rfl (k_list (K := K) (ae_op (k_plus (K := K) false) (ae_lst (aa_cons ae_int (aa_cons (ae_op o_sub (ae_v 3) ae_int) aa_nil))) (ae_lc false [("_law_turn", 6)] rfl sc_law_cases_right.nd (ai_rng1 m_range (aa_cons ae_int aa_nil)) (blkOk_by (by rfl)) (fun _ _ _ _ _ => (ag_name 6 sc_law_cases_right.nd)) (fun _ _ _ _ _ => ats_nil) (fun _ _ _ _ _ => (k_def (K := K) D_law_take hr (by decide) (aa_cons (ae_v 0) (aa_cons (ae_v 3) aa_nil))))))) (ag_name 5 sc_law_cases_right.nd) (ass_one (as_if (at_bor [1, 2, 5] (fun W' => (at_cmp (k_ne (K := K) hr.units) (ae_lc false [("_law_one", 4)] rfl sc_law_cases_right.nd (k_list (K := K) (ae_v 2)) (blkOk_by (by rfl)) (fun _ _ _ _ _ => (ag_name 4 sc_law_cases_right.nd)) (fun _ _ _ _ _ => ats_nil) (fun _ _ _ _ _ => (ae_op o_and (ae_op o_shr (ae_v 4) (ae_v 5)) ae_int))) (ae_lc false [("_law_at", 7)] rfl sc_law_cases_right.nd (ai_rng1 m_range (aa_cons (ae_v 1) aa_nil)) (blkOk_by (by rfl)) (fun _ _ _ _ _ => (ag_name 7 sc_law_cases_right.nd)) (fun _ _ _ _ _ => ats_nil) (fun _ _ _ _ _ => (ae_op o_and (ae_op o_shr (ae_v 5) (ae_op o_sub (ae_op o_sub (ae_v 1) ae_int) (ae_v 7))) ae_int))) rfl))) (ass_one (as_ret ae_bl)) ass_nil))) (ass_cons (as_set 8 sc_law_cases_right.nd (k_ct (K := K) (r := qList) call_list_of (sc_list (cel := false)) m_list (aa_cons (ae_v 2) aa_nil))) (ass_cons (as_expr (k_lm (K := K) PySem.F.slot_list_append PySem.F.type_list_append mt_append sm_append (ae_v 2) (aa_cons ae_int aa_nil))) (ass_cons (as_asg ae_int (ag_sub (ae_v 2) ae_int)) (ass_one (as_ret (ae_cmp (k_eq (K := K) hr.units) (ae_frz (k_def (K := K) D_all_cases hr (by decide) (aa_cons (ae_v 1) aa_nil))) (ae_v 8) rfl)))))))))), fun xs M QA EA h => ?_⟩
  unfold sp_law_cases_right at h
  split at h
  · rename_i wide l
    obtain ⟨n, rfl, h⟩ := h
    obtain ⟨B0, hb, hb1, ⟨n0, n1⟩, q⟩ := h.h
    have p12 : (2:Nat) ^ n ≤ 2 ^ 12 := Nat.pow_le_pow_right (by decide) n1
    have e12 : (2:Nat) ^ 12 = 4096 := rfl
    have tn := Nat.two_pow_pos n
    have en : ((2 ^ n : Nat) : Int) = 1 * 2 ^ ((n : Int)).toNat := by rw [Int.one_mul, Int.toNat_natCast, Int.natCast_pow]; rfl
    have hal : (acF n).length = n := by unfold acF; rw [List.length_map, List.length_range]
    refine Gen.mk ⟨fun E' M' => E' = [some (.cell 0), some (.d (.int (n : Int))), some (.cell 1), some (.d (.int ((2 ^ n : Nat) : Int))), none, none, none, none, none] ∧ M' = [.lst l, .lst ((acF n).map D.int)], ?_, ?_⟩
    · refine ⟨n, rfl, n1, ?_⟩
      refine Side.mk (cshl1 (by omega) (by omega)) ?_
      rw [en]
      refine Side.mk rfl ?_
      exact ⟨rfl, rfl⟩
    rintro _ _ ⟨rfl, rfl⟩
    refine fork_f rfl ?_
    refine fork_f (by show (!decide (((((acF n).map D.int).length : Nat) : Int) = (n : Int))) = false; rw [List.length_map, hal, decide_eq_true rfl]; rfl) ?_
    refine lc_ints (fun _ => D.bl true) (acF n) (by omega) (fun v hv R S hR => ?_) ?_
    · have hv2 : 0 ≤ v ∧ v < 2 ^ (2 ^ n) := by
        obtain ⟨i, _, rfl⟩ := List.mem_map.mp hv
        exact patF_rng _ _
      refine fork_t rfl ?_
      refine fork_t rfl ?_
      refine fork_t (decide_eq_true hv2.1) ?_
      refine Side.mk (cshl1 (by omega) (by omega)) ?_
      have hR2 : ∀ z : Bool, z = true → R (.d (.bl z)) [] := fun z hz => by rw [hz]; exact hR
      exact hR2 _ (decide_eq_true (by rw [Int.one_mul, Int.toNat_natCast]; exact hv2.2))
    obtain ⟨bs, e1, e2⟩ := bls_all_true (l := (acF n).map fun _ => D.bl true) (fun y hy => by obtain ⟨_, _, rfl⟩ := List.mem_map.mp hy; rfl)
    refine Opt.mk ⟨_, e1, ?_⟩
    refine fork_f (by show (!(bs.all id)) = false; rw [e2]; rfl) ?_
    refine Side.mk ⟨by decide, by decide⟩ ?_
    refine lc_any (fun i M => ∃ l, M = [.lst l, .lst ((acF n).map D.int)] ∧ BX (B0 + 100 * i) l) (fun _ _ y => ∃ w : Nat, y = .int (w : Int) ∧ w < 2 ^ n) (by rw [rngD_len]; decide) ⟨l, rfl, hb.mono (by omega)⟩ ?_ ?_
    · rintro i d _ hd ⟨l4, rfl, hb4⟩ R S hR
      have hi : i < (40:Int).toNat := (rngD_get hd).1
      have hi : i < 40 := hi
      refine fork_t rfl ?_
      refine Drw.mk ?_; refine ⟨_, by assumption, (by first | omega | walk_at "gb"), (by first | omega | walk_at "gb"), (by first | omega | walk_at "gb"), fun w l5 hl_w hu_w hb_l5 => ?_⟩
      exact hR _ _ ⟨w.toNat, by rw [Int.toNat_of_nonneg hl_w], by omega⟩ ⟨l5, rfl, hb_l5.mono (by omega)⟩
    rintro acc _ hl hP ⟨l4, rfl, hb4⟩
    have hacc : ∃ ws : List Nat, acc = ws.map (fun w : Nat => D.int (w : Int)) ∧ ∀ w ∈ ws, w < 2 ^ n := by
      exact acc_of (mk := fun w : Nat => D.int (w : Int)) (acc_all hl hP)
    obtain ⟨ws, rfl, hws⟩ := hacc
    have hwl : ws.length = 40 := by rw [List.length_map, rngD_len] at hl; exact hl
    refine Side.mk (by rw [List.length_map, hwl, sizeLine_eq]; show 2 + 40 ≤ _; decide) ?_
    have eI : [D.int 0, D.int (((2 ^ n : Nat) : Int) - 1)] ++ ws.map (fun w : Nat => D.int (w : Int)) = (0 :: (2 ^ n - 1) :: ws).map (fun w : Nat => D.int (w : Int)) := by
      rw [List.map_cons, List.map_cons, show ((2 ^ n - 1 : Nat) : Int) = ((2 ^ n : Nat) : Int) - 1 by omega]; rfl
    have hus : ∀ w ∈ (0 :: (2 ^ n - 1) :: ws), w < 2 ^ n := fun w hw => by
      rcases List.mem_cons.mp hw with rfl | hw
      · exact tn
      · rcases List.mem_cons.mp hw with rfl | hw
        · omega
        · exact hws w hw
    refine ForS.mk ⟨fun i E M => ∃ x5 : Option G.A, E = [some (.cell 0), some (.d (.int (n : Int))), some (.cell 1), some (.d (.int ((2 ^ n : Nat) : Int))), none, x5, none, none, none] ∧ M = [.lst l4, .lst ((acF n).map D.int)], ⟨none, rfl, rfl⟩, ?_, ?_⟩
    · rintro i d _ _ hd ⟨x5, rfl, rfl⟩
      have hd2 : ((0 :: (2 ^ n - 1) :: ws).map (fun w : Nat => D.int (w : Int)))[i]? = some d := by rw [← eI]; exact hd
      obtain ⟨w, hw, _, rfl⟩ := get_map hd2
      have hw := hus w hw
      refine lc_ints (fun v => D.int (Builtin.bitAnd (v / 2 ^ w) 1)) (acF n) (by omega) (fun v hv R S hR => ?_) ?_
      · refine fork_t rfl ?_
        refine Side.mk (cnn (by omega)) ?_
        exact hR
      refine Side.mk ⟨by omega, by omega⟩ ?_
      refine lc_fn (fun (i : Nat) => D.int (Builtin.bitAnd ((w : Int) / 2 ^ (n - 1 - i)) 1)) n (by rw [rngD_len]; omega) (by omega) (fun i d hd R S hR => ?_) ?_
      · obtain ⟨hi, rfl⟩ := rngD_get hd
        refine fork_t rfl ?_
        refine Side.mk (cnn (by omega)) ?_
        rw [← show ((n : Int) - 1 - (0 + (i : Int) * 1)).toNat = n - 1 - i by omega] at hR
        exact hR
      have eL : (acF n).map (fun v => D.int (Builtin.bitAnd (v / 2 ^ w) 1)) = (List.range n).map (fun (i : Nat) => D.int (Builtin.bitAnd ((w : Int) / 2 ^ (n - 1 - i)) 1)) := by
        unfold acF
        rw [List.map_map]
        refine List.map_congr_left fun i hi => ?_
        show D.int (Builtin.bitAnd (patF (n - 1 - i) (2 ^ n) / 2 ^ w) 1) = D.int (Builtin.bitAnd ((w : Int) / 2 ^ (n - 1 - i)) 1)
        rw [and_one, and_one]
        have := patF_bit (n - 1 - i) (2 ^ n) w
        rw [if_pos hw] at this
        unfold bAt at this
        rw [this]
        rfl
      have hsh : shE (.lst ((List.range n).map (fun (i : Nat) => D.int (Builtin.bitAnd ((w : Int) / 2 ^ (n - 1 - i)) 1)))) = true := by
        have := shE_ints ((List.range n).map (fun (i : Nat) => Builtin.bitAnd ((w : Int) / 2 ^ (n - 1 - i)) 1))
        rw [List.map_map] at this
        exact this
      refine Side.mk ⟨by rw [eL]; exact hsh, hsh⟩ ?_
      refine fork_f (by rw [eL]; exact ne_self hsh) ?_
      exact ⟨_, rfl, rfl⟩
    rintro _ _ ⟨x5, rfl, rfl⟩
    refine Side.mk (by rw [List.length_map, hal, sizeLine_eq]; omega) ?_
    refine Opt.mk ⟨0, by unfold ixN; rw [if_pos (by decide), if_pos (by rw [List.length_append, List.length_map, hal]; show (0:Int) < ((n + 1 : Nat) : Int); omega)]; rfl, ?_⟩
    refine ⟨n, rfl, n1, ?_⟩
    have hsh : shE (.lst ((acF n).map D.int)) = true := shE_ints _
    refine Side.mk ⟨hsh, hsh⟩ ?_
    have q1 := q () l4 trivial (hb4.mono (by rw [rngD_len]; show B0 + 100 * 40 ≤ _; omega))
    have q2 : ∀ z : Bool, z = true → QA (.d (.bl z)) [.lst l4] := fun z hz => by rw [hz]; exact q1
    exact q2 _ (by rw [eqD_self hsh]; rfl)
  · exact h.elim
/-! #### Net.gates -/
theorem sc_Net_gates : FnScope ["self"] ["self"] (defScope s_Net_gates) := ⟨rfl, rfl, rfl, by decide +kernel, rfl, by decide +kernel, by decide +kernel⟩

def sp_Net_gates (C_Net : Addr) : ASp := fun xs M Q _ => match xs, M with
  | [.cell 0], [.obj C' fs, .lst rows, .lst dps, .did tw] => ∃ (n : Nat) (gs : List Gt), C' = C_Net ∧ fs = netF n ∧ rows = gs.map gD ∧ dps = (dpsF n gs).map D.int ∧ n ≤ 10000 ∧ gs.length ≤ 100000 ∧ Q (.cell 4) (M ++ [.lst (gs.map gD)])
  | _, _ => False

theorem ok_Net_gates {f : Addr} {fd : FuncData} (F : FunD K "gates" "Net.gates" (defArgs s_Net_gates) (defBody s_Net_gates) (defScope s_Net_gates) [] [] f fd) (m_list : mg "list" = none) (c_cls : Cls K C) (n_gate_rows : NoAttr K C "gate_rows") : G.FnOk P w K mg base CX0 1 f fd ["self"] (conc K (sp_Net_gates C)) := by
  refine afn 4 F sc_Net_gates (fun xs M Q E h => by unfold sp_Net_gates at h; split at h <;> first | exact ⟨rfl, rfl⟩ | exact h.elim) fun W cdv Ar ou sh HH EX hr hW => ⟨_, _, (ass_one (as_ret (k_ct (K := K) (r := qList) call_list_of (sc_list (cel := true)) m_list (aa_cons (k_fld (K := K) c_cls n_gate_rows (ae_v 0)) aa_nil)))), fun xs M QA EA h => ?_⟩
  unfold sp_Net_gates at h
  split at h
  · rename_i C' fs rows dps tw
    obtain ⟨n, gs, rfl, rfl, rfl, rfl, hn, hg, h⟩ := h
    have lr : (gs.map gD).length = gs.length := List.length_map _
    have ld : ((dpsF n gs).map D.int).length = n + gs.length := (List.length_map _).trans (dps_len n gs)
    refine Side.mk rfl ?_
    exact h
  · exact h.elim
/-! #### both_bits -/
theorem sc_both_bits : FnScope ["bits", "wires", "whole"] ["bits", "wires", "whole"] (defScope s_both_bits) := ⟨rfl, rfl, rfl, by decide +kernel, rfl, by decide +kernel, by decide +kernel⟩

def sp_both_bits : ASp := fun xs M Q _ => match xs, M with
  | [.cell 0, .d (.lst [.int a, .int b]), .d (.int _)], [.lst l] => ∃ x y : Int, atI l a = some (.int x) ∧ atI l b = some (.int y) ∧ Q (.d (.int (Builtin.bitAnd x y))) [.lst l]
  | _, _ => False

theorem ok_both_bits {f : Addr} {fd : FuncData} (F : FunD K "both_bits" "both_bits" (defArgs s_both_bits) (defBody s_both_bits) (defScope s_both_bits) [] [] f fd)  : G.FnOk P w K mg base CX0 1 f fd ["bits", "wires", "whole"] (conc K sp_both_bits) := by
  refine afn 1 F sc_both_bits (fun xs M Q E h => by unfold sp_both_bits at h; split at h <;> first | exact ⟨rfl, rfl⟩ | exact h.elim) fun W cdv Ar ou sh HH EX hr hW => ⟨_, _, (ass_one (as_ret (ae_op o_and (k_ix (K := K) (ae_v 0) (k_ix (K := K) (ae_v 1) ae_int)) (k_ix (K := K) (ae_v 0) (k_ix (K := K) (ae_v 1) ae_int))))), fun xs M QA EA h => ?_⟩
  unfold sp_both_bits at h
  split at h
  · rename_i a b c l
    obtain ⟨x, y, h1, h2, q⟩ := h
    refine Opt.mk ⟨_, rfl, ?_⟩
    refine Opt.mk ⟨_, h1, ?_⟩
    refine Opt.mk ⟨_, rfl, ?_⟩
    refine Opt.mk ⟨_, h2, ?_⟩
    exact q
  · exact h.elim
/-! #### either_bits -/
theorem sc_either_bits : FnScope ["bits", "wires", "whole"] ["bits", "wires", "whole"] (defScope s_either_bits) := ⟨rfl, rfl, rfl, by decide +kernel, rfl, by decide +kernel, by decide +kernel⟩

def sp_either_bits : ASp := fun xs M Q _ => match xs, M with
  | [.cell 0, .d (.lst [.int a, .int b]), .d (.int _)], [.lst l] => ∃ x y : Int, atI l a = some (.int x) ∧ atI l b = some (.int y) ∧ Q (.d (.int (Builtin.bitOr x y))) [.lst l]
  | _, _ => False

theorem ok_either_bits {f : Addr} {fd : FuncData} (F : FunD K "either_bits" "either_bits" (defArgs s_either_bits) (defBody s_either_bits) (defScope s_either_bits) [] [] f fd)  : G.FnOk P w K mg base CX0 1 f fd ["bits", "wires", "whole"] (conc K sp_either_bits) := by
  refine afn 1 F sc_either_bits (fun xs M Q E h => by unfold sp_either_bits at h; split at h <;> first | exact ⟨rfl, rfl⟩ | exact h.elim) fun W cdv Ar ou sh HH EX hr hW => ⟨_, _, (ass_one (as_ret (ae_op o_or (k_ix (K := K) (ae_v 0) (k_ix (K := K) (ae_v 1) ae_int)) (k_ix (K := K) (ae_v 0) (k_ix (K := K) (ae_v 1) ae_int))))), fun xs M QA EA h => ?_⟩
  unfold sp_either_bits at h
  split at h
  · rename_i a b c l
    obtain ⟨x, y, h1, h2, q⟩ := h
    refine Opt.mk ⟨_, rfl, ?_⟩
    refine Opt.mk ⟨_, h1, ?_⟩
    refine Opt.mk ⟨_, rfl, ?_⟩
    refine Opt.mk ⟨_, h2, ?_⟩
    exact q
  · exact h.elim
/-! #### unlike_bits -/
theorem sc_unlike_bits : FnScope ["bits", "wires", "whole"] ["bits", "wires", "whole"] (defScope s_unlike_bits) := ⟨rfl, rfl, rfl, by decide +kernel, rfl, by decide +kernel, by decide +kernel⟩

def sp_unlike_bits : ASp := fun xs M Q _ => match xs, M with
  | [.cell 0, .d (.lst [.int a, .int b]), .d (.int _)], [.lst l] => ∃ x y : Int, atI l a = some (.int x) ∧ atI l b = some (.int y) ∧ Q (.d (.int (Builtin.bitXor x y))) [.lst l]
  | _, _ => False

theorem ok_unlike_bits {f : Addr} {fd : FuncData} (F : FunD K "unlike_bits" "unlike_bits" (defArgs s_unlike_bits) (defBody s_unlike_bits) (defScope s_unlike_bits) [] [] f fd)  : G.FnOk P w K mg base CX0 1 f fd ["bits", "wires", "whole"] (conc K sp_unlike_bits) := by
  refine afn 1 F sc_unlike_bits (fun xs M Q E h => by unfold sp_unlike_bits at h; split at h <;> first | exact ⟨rfl, rfl⟩ | exact h.elim) fun W cdv Ar ou sh HH EX hr hW => ⟨_, _, (ass_one (as_ret (ae_op o_xor (k_ix (K := K) (ae_v 0) (k_ix (K := K) (ae_v 1) ae_int)) (k_ix (K := K) (ae_v 0) (k_ix (K := K) (ae_v 1) ae_int))))), fun xs M QA EA h => ?_⟩
  unfold sp_unlike_bits at h
  split at h
  · rename_i a b c l
    obtain ⟨x, y, h1, h2, q⟩ := h
    refine Opt.mk ⟨_, rfl, ?_⟩
    refine Opt.mk ⟨_, h1, ?_⟩
    refine Opt.mk ⟨_, rfl, ?_⟩
    refine Opt.mk ⟨_, h2, ?_⟩
    exact q
  · exact h.elim
/-! #### other_bits -/
theorem sc_other_bits : FnScope ["bits", "wires", "whole"] ["bits", "wires", "whole"] (defScope s_other_bits) := ⟨rfl, rfl, rfl, by decide +kernel, rfl, by decide +kernel, by decide +kernel⟩

def sp_other_bits : ASp := fun xs M Q _ => match xs, M with
  | [.cell 0, .d (.lst [.int a]), .d (.int w)], [.lst l] => ∃ x : Int, atI l a = some (.int x) ∧ Q (.d (.int (Builtin.bitXor x w))) [.lst l]
  | _, _ => False

theorem ok_other_bits {f : Addr} {fd : FuncData} (F : FunD K "other_bits" "other_bits" (defArgs s_other_bits) (defBody s_other_bits) (defScope s_other_bits) [] [] f fd)  : G.FnOk P w K mg base CX0 1 f fd ["bits", "wires", "whole"] (conc K sp_other_bits) := by
  refine afn 1 F sc_other_bits (fun xs M Q E h => by unfold sp_other_bits at h; split at h <;> first | exact ⟨rfl, rfl⟩ | exact h.elim) fun W cdv Ar ou sh HH EX hr hW => ⟨_, _, (ass_one (as_ret (ae_op o_xor (k_ix (K := K) (ae_v 0) (k_ix (K := K) (ae_v 1) ae_int)) (ae_v 2)))), fun xs M QA EA h => ?_⟩
  unfold sp_other_bits at h
  split at h
  · rename_i a w l
    obtain ⟨x, h1, q⟩ := h
    refine Opt.mk ⟨_, rfl, ?_⟩
    refine Opt.mk ⟨_, h1, ?_⟩
    exact q
  · exact h.elim
/-! #### fixed_bits -/
theorem sc_fixed_bits : FnScope ["bits", "wires", "whole"] ["bits", "wires", "whole"] (defScope s_fixed_bits) := ⟨rfl, rfl, rfl, by decide +kernel, rfl, by decide +kernel, by decide +kernel⟩

def sp_fixed_bits : ASp := fun xs M Q _ => match xs, M with
  | [.cell 0, .d (.lst [.int a]), .d (.int w)], [.lst l] => Side (0 ≤ a ∧ a ≤ 1) (Q (.d (.int (w * a))) [.lst l])
  | _, _ => False

theorem ok_fixed_bits {f : Addr} {fd : FuncData} (F : FunD K "fixed_bits" "fixed_bits" (defArgs s_fixed_bits) (defBody s_fixed_bits) (defScope s_fixed_bits) [] [] f fd)  : G.FnOk P w K mg base CX0 1 f fd ["bits", "wires", "whole"] (conc K sp_fixed_bits) := by
  refine afn 1 F sc_fixed_bits (fun xs M Q E h => by unfold sp_fixed_bits at h; split at h <;> first | exact ⟨rfl, rfl⟩ | exact h.elim) fun W cdv Ar ou sh HH EX hr hW => ⟨_, _, (ass_one (as_ret (ae_op o_mul (ae_v 2) (k_ix (K := K) (ae_v 1) ae_int)))), fun xs M QA EA h => ?_⟩
  unfold sp_fixed_bits at h
  split at h
  · rename_i a w l
    obtain ⟨⟨h0, h1⟩, q⟩ := h
    refine Opt.mk ⟨_, rfl, ?_⟩
    refine Side.mk (mulR (by omega) (by omega)) ?_
    exact q
  · exact h.elim
/-! #### all_bits -/
theorem sc_all_bits : FnScope ["net", "values", "many", "whole", "bits", "value", "word", "wires", "rule"] ["net", "values", "many"] (defScope s_all_bits) := ⟨rfl, rfl, rfl, by decide +kernel, rfl, by decide +kernel, by decide +kernel⟩

def sp_all_bits (C_Net : Addr) : ASp := fun xs M Q _ => match xs, M with
  | [.cell 0, .d (.lst x), .d (.int many)], [.obj C' fs, .lst rows, .lst dps, .did tw] => ∃ (n : Nat) (gs : List Gt) (vs : List Int), C' = C_Net ∧ fs = netF n ∧ rows = gs.map gD ∧ dps = (dpsF n gs).map D.int ∧ n ≤ 10000 ∧ gs.length ≤ 100000 ∧ x = vs.map D.int ∧ vs.length = n ∧ gsOk n gs ∧ 0 ≤ many ∧ many ≤ 100000 ∧ Q (.cell 4) (M ++ [.lst ((btsF (1 * 2 ^ many.toNat - 1) vs gs).map D.int)])
  | _, _ => False

theorem ok_all_bits {f : Addr} {fd : FuncData} (F : FunD K "all_bits" "all_bits" (defArgs s_all_bits) (defBody s_all_bits) (defScope s_all_bits) [] [] f fd) (M_gates : DefM P w K mg base C "gates" 1 (sp_Net_gates C) []) (D_both_bits : Def P w K mg base "both_bits" 1 sp_both_bits []) (D_either_bits : Def P w K mg base "either_bits" 1 sp_either_bits []) (D_unlike_bits : Def P w K mg base "unlike_bits" 1 sp_unlike_bits []) (D_other_bits : Def P w K mg base "other_bits" 1 sp_other_bits []) (D_fixed_bits : Def P w K mg base "fixed_bits" 1 sp_fixed_bits []) (C_GATE_RULES : CT_GATE_RULES w K mg) : G.FnOk P w K mg base CX0 2 f fd ["net", "values", "many"] (conc K (sp_all_bits C)) := by
  obtain ⟨a_GATE_RULES, f_both_bits, f_either_bits, f_unlike_bits, f_other_bits, f_fixed_bits, hm_GATE_RULES, g_both_bits, g_either_bits, g_unlike_bits, g_other_bits, g_fixed_bits, hl_GATE_RULES⟩ := C_GATE_RULES
  refine afn 4 F sc_all_bits (fun xs M Q E h => by unfold sp_all_bits at h; split at h <;> first | exact ⟨rfl, rfl⟩ | exact h.elim) fun W cdv Ar ou sh HH EX hr hW => ⟨_, _, (ass_cons (as_set 3 sc_all_bits.nd (ae_op o_sub (ae_op o_shl ae_int (ae_v 2)) ae_int)) (ass_cons (as_setLc 4 true [("value", 5)] rfl sc_all_bits.nd rfl rfl (sw_true rfl rfl rfl (by decide +kernel)) (k_list (K := K) (ae_v 1)) (blkOk_by (by rfl)) (fun _ _ _ _ _ => (ag_name 5 sc_all_bits.nd)) (fun _ _ _ _ _ => ats_nil) (fun _ _ _ _ _ => (ae_op o_and (ae_v 5) (ae_v 3)))) (ass_cons (as_for PassesOwn.never rfl (k_list (K := K) (ae_frz (k_defM0 (K := K) M_gates hr (by decide) (ae_v 0)))) (k_gstar (K := K) (n := 2) (i := 1) rfl (ags_cons (ag_name 6 sc_all_bits.nd) (ags_star (ag_name 7 sc_all_bits.nd) ags_nil))) (ass_cons (as_set 8 sc_all_bits.nd (k_dglob hm_GATE_RULES hl_GATE_RULES (ae_v 6))) (ass_one (as_expr (k_lm (K := K) PySem.F.slot_list_append PySem.F.type_list_append mt_append sm_append (ae_v 4) (aa_cons (k_defLs (K := K) [("both_bits", sp_both_bits), ("either_bits", sp_either_bits), ("unlike_bits", sp_unlike_bits), ("other_bits", sp_other_bits), ("fixed_bits", sp_fixed_bits)] 8 ⟨⟨_, by decide, D_both_bits⟩, ⟨_, by decide, D_either_bits⟩, ⟨_, by decide, D_unlike_bits⟩, ⟨_, by decide, D_other_bits⟩, ⟨_, by decide, D_fixed_bits⟩, trivial⟩ hr (aa_cons (ae_v 4) (aa_cons (ae_v 7) (aa_cons (ae_v 3) aa_nil)))).choose_spec aa_nil)))))) (ass_one (as_ret (ae_v 4)))))), fun xs M QA EA h => ?_⟩
  unfold sp_all_bits at h
  split at h
  · rename_i x many C' fs rows dps tw
    obtain ⟨n, gs, vs, rfl, rfl, rfl, rfl, hn, hg, rfl, hv, ho, hm0, hm1, q⟩ := h
    refine Side.mk (cshl1 hm0 (by omega)) ?_
    refine lc_ints (fun v => .int (Builtin.bitAnd v (1 * 2 ^ many.toNat - 1))) vs (by omega) (fun v _ R S hR => ?_) ?_
    · refine fork_t rfl ?_
      exact hR
    refine Side.mk ⟨rfl, nmN rfl⟩ ?_
    refine ⟨n, gs, rfl, rfl, rfl, rfl, hn, hg, ?_⟩
    refine ForS.mk ⟨fun i E M => ∃ (x5 x6 x7 x8 : Option G.A), E = [some (.cell 0), some (.d (.lst (vs.map D.int))), some (.d (.int many)), some (.d (.int (1 * 2 ^ many.toNat - 1))), some (.cell 4), x5, x6, x7, x8] ∧ M = [.obj C' (netF n), .lst (gs.map gD), .lst ((dpsF n gs).map D.int), .did tw, .lst ((btsF (1 * 2 ^ many.toNat - 1) vs (gs.take i)).map D.int)], ⟨none, none, none, none, rfl, ?_⟩, ?_, ?_⟩
    · have e : (List.map (fun v => D.int (Builtin.bitAnd v (1 * 2 ^ many.toNat - 1))) vs) = (btsF (1 * 2 ^ many.toNat - 1) vs (gs.take 0)).map D.int := by
        unfold btsF
        rw [List.take_zero, List.foldl_nil, List.map_map]; rfl
      rw [← e]; rfl
    · rintro i d _ _ hd ⟨x5, x6, x7, x8, rfl, rfl⟩
      rw [List.getElem?_map] at hd
      cases eg : gs[i]? with
      | none => rw [eg] at hd; cases hd
      | some g =>
        rw [eg] at hd
        cases hd
        have hi := (List.getElem?_eq_some_iff.mp eg).1
        have hok := ho i g eg
        obtain ⟨w, ew⟩ : ∃ w : Int, 1 * 2 ^ many.toNat - 1 = w := ⟨_, rfl⟩
        rw [ew]
        have tk : gs.take (i + 1) = gs.take i ++ [g] := by rw [List.take_succ, eg]; rfl
        have bl : (btsF w vs (gs.take i)).length = n + i := by rw [bts_len, hv, List.length_take]; omega
        have at_ : ∀ a : Nat, a < n + i → atI ((btsF w vs (gs.take i)).map D.int) (a : Int) = some (.int ((btsF w vs (gs.take i)).getD a 0)) := fun a ha => by
          refine atI_get2 (n := a) rfl ?_
          rw [List.getElem?_map, List.getD_eq_getElem?_getD, List.getElem?_eq_getElem (by omega)]; rfl
        have fin : (btsF w vs (gs.take (i + 1))).map D.int = (btsF w vs (gs.take i)).map D.int ++ [.int (btG w (btsF w vs (gs.take i)) g)] := by
          rw [tk, bts_snoc, List.map_append]; rfl
        generalize btsF w vs (gs.take i) = bs at *
        cases g with
        | pr k a b =>
          obtain ⟨k2, ha, hb⟩ := hok
          rcases (show k = 0 ∨ k = 1 ∨ k = 2 by omega) with rfl | rfl | rfl
          · refine Side.mk ⟨by decide, by show 2 ≤ 4; decide⟩ ?_
            refine Side.mk rfl ?_
            refine Opt.mk ⟨_, rfl, ?_⟩
            refine ⟨("both_bits", sp_both_bits), by simp, g_both_bits, ?_⟩
            refine ⟨_, _, at_ a ha, at_ b hb, ?_⟩
            refine Side.mk (by rw [List.length_map, bl, sizeLine_eq]; omega) ?_
            exact ⟨_, _, _, _, rfl, by rw [fin]; rfl⟩
          · refine Side.mk ⟨by decide, by show 2 ≤ 4; decide⟩ ?_
            refine Side.mk rfl ?_
            refine Opt.mk ⟨_, rfl, ?_⟩
            refine ⟨("either_bits", sp_either_bits), by simp, g_either_bits, ?_⟩
            refine ⟨_, _, at_ a ha, at_ b hb, ?_⟩
            refine Side.mk (by rw [List.length_map, bl, sizeLine_eq]; omega) ?_
            exact ⟨_, _, _, _, rfl, by rw [fin]; rfl⟩
          · refine Side.mk ⟨by decide, by show 2 ≤ 4; decide⟩ ?_
            refine Side.mk rfl ?_
            refine Opt.mk ⟨_, rfl, ?_⟩
            refine ⟨("unlike_bits", sp_unlike_bits), by simp, g_unlike_bits, ?_⟩
            refine ⟨_, _, at_ a ha, at_ b hb, ?_⟩
            refine Side.mk (by rw [List.length_map, bl, sizeLine_eq]; omega) ?_
            exact ⟨_, _, _, _, rfl, by rw [fin]; rfl⟩
        | ot a =>
          refine Side.mk ⟨by decide, by show 2 ≤ 3; decide⟩ ?_
          refine Side.mk rfl ?_
          refine Opt.mk ⟨_, rfl, ?_⟩
          refine ⟨("other_bits", sp_other_bits), by simp, g_other_bits, ?_⟩
          refine ⟨_, at_ a hok, ?_⟩
          refine Side.mk (by rw [List.length_map, bl, sizeLine_eq]; omega) ?_
          exact ⟨_, _, _, _, rfl, by rw [fin]; rfl⟩
        | fx b =>
          have hb : b ≤ 1 := hok
          refine Side.mk ⟨by decide, by show 2 ≤ 3; decide⟩ ?_
          refine Side.mk rfl ?_
          refine Opt.mk ⟨_, rfl, ?_⟩
          refine ⟨("fixed_bits", sp_fixed_bits), by simp, g_fixed_bits, ?_⟩
          refine Side.mk ⟨by omega, by omega⟩ ?_
          refine Side.mk (by rw [List.length_map, bl, sizeLine_eq]; omega) ?_
          exact ⟨_, _, _, _, rfl, by rw [fin]; rfl⟩
    · rintro _ _ ⟨x5, x6, x7, x8, rfl, rfl⟩
      rw [List.length_map, List.take_length]
      exact q
  · exact h.elim
/-! #### Net.names -/
theorem sc_Net_names : FnScope ["self"] ["self"] (defScope s_Net_names) := ⟨rfl, rfl, rfl, by decide +kernel, rfl, by decide +kernel, by decide +kernel⟩

def sp_Net_names (C_Net : Addr) : ASp := fun xs M Q _ => match xs, M with
  | [.cell 0], [.obj C' fs, .lst rows, .lst dps, .did tw] => ∃ (n : Nat) (gs : List Gt), C' = C_Net ∧ fs = netF n ∧ rows = gs.map gD ∧ dps = (dpsF n gs).map D.int ∧ n ≤ 10000 ∧ gs.length ≤ 100000 ∧ ∃ ks : List Str, strKs tw = some ks ∧ ks.length < 64 ∧ ∀ ys : List Str, ys.Perm ks → sortedS ys = true → Q (.cell 4) (M ++ [.lst (ys.map D.str)])
  | _, _ => False

theorem ok_Net_names {f : Addr} {fd : FuncData} (F : FunD K "names" "Net.names" (defArgs s_Net_names) (defBody s_Net_names) (defScope s_Net_names) [] [] f fd) (m_sorted : mg "sorted" = none) (c_cls : Cls K C) (n_told_wires : NoAttr K C "told_wires") : G.FnOk P w K mg base CX0 1 f fd ["self"] (conc K (sp_Net_names C)) := by
  refine afn 4 F sc_Net_names (fun xs M Q E h => by unfold sp_Net_names at h; split at h <;> first | exact ⟨rfl, rfl⟩ | exact h.elim) fun W cdv Ar ou sh HH EX hr hW => ⟨_, _, (ass_one (as_ret (ae_cb (call_sortedD2 rfl) (sc_sortD (cel := true)) m_sorted (aa_cons (k_fld (K := K) c_cls n_told_wires (ae_v 0)) aa_nil)))), fun xs M QA EA h => ?_⟩
  unfold sp_Net_names at h
  split at h
  · rename_i C' fs rows dps tw
    obtain ⟨n, gs, rfl, rfl, rfl, rfl, hn, hg, h⟩ := h
    have lr : (gs.map gD).length = gs.length := List.length_map _
    have ld : ((dpsF n gs).map D.int).length = n + gs.length := (List.length_map _).trans (dps_len n gs)
    obtain ⟨ks, hk, hl, q⟩ := h
    have hk2 : strKs (tw.map fun p => (p.1, A.d p.2)) = some ks := by
      have : ∀ l : List (Key × D), strKs (l.map fun p => (p.1, A.d p.2)) = strKs l := fun l => by
        induction l with
        | nil => rfl
        | cons p r ih =>
          obtain ⟨k, v⟩ := p
          cases k with
          | inl i => rfl
          | inr y =>
            show (match strKs (r.map fun p => (p.1, A.d p.2)) with | some l => some (y :: l) | none => none) = (match strKs r with | some l => some (y :: l) | none => none)
            rw [ih]
      rw [this]; exact hk
    refine Side.mk rfl ?_
    refine Opt.mk ⟨_, hk2, ?_⟩
    refine Side.mk hl ?_
    intro ys h1 h2
    exact q ys h1 h2
  · exact h.elim
/-! #### Net.given -/
theorem sc_Net_given : FnScope ["self", "name"] ["self", "name"] (defScope s_Net_given) := ⟨rfl, rfl, rfl, by decide +kernel, rfl, by decide +kernel, by decide +kernel⟩

def sp_Net_given (C_Net : Addr) : ASp := fun xs M Q _ => match xs, M with
  | [.cell 0, .d (.str nm)], [.obj C' fs, .lst rows, .lst dps, .did tw] => ∃ (n : Nat) (gs : List Gt), C' = C_Net ∧ fs = netF n ∧ rows = gs.map gD ∧ dps = (dpsF n gs).map D.int ∧ n ≤ 10000 ∧ gs.length ≤ 100000 ∧ ∃ x : List D, getK (.inr nm) tw = some (.lst x) ∧ Q (.cell 4) (M ++ [.lst x])
  | _, _ => False

theorem ok_Net_given {f : Addr} {fd : FuncData} (F : FunD K "given" "Net.given" (defArgs s_Net_given) (defBody s_Net_given) (defScope s_Net_given) [] [] f fd) (m_list : mg "list" = none) (c_cls : Cls K C) (n_told_wires : NoAttr K C "told_wires") : G.FnOk P w K mg base CX0 1 f fd ["self", "name"] (conc K (sp_Net_given C)) := by
  refine afn 4 F sc_Net_given (fun xs M Q E h => by unfold sp_Net_given at h; split at h <;> first | exact ⟨rfl, rfl⟩ | exact h.elim) fun W cdv Ar ou sh HH EX hr hW => ⟨_, _, (ass_cons (as_if (at_dnotin hr.units (ae_v 1) (k_fld (K := K) c_cls n_told_wires (ae_v 0))) (ass_one as_never) ass_nil) (ass_one (as_ret (k_ct (K := K) (r := qList) call_list_of (sc_list (cel := true)) m_list (aa_cons (k_dgetK hr.units (k_fld (K := K) c_cls n_told_wires (ae_v 0)) (ae_v 1)) aa_nil))))), fun xs M QA EA h => ?_⟩
  unfold sp_Net_given at h
  split at h
  · rename_i nm C' fs rows dps tw
    obtain ⟨n, gs, rfl, rfl, rfl, rfl, hn, hg, h⟩ := h
    have lr : (gs.map gD).length = gs.length := List.length_map _
    have ld : ((dpsF n gs).map D.int).length = n + gs.length := (List.length_map _).trans (dps_len n gs)
    obtain ⟨x, hk, q⟩ := h
    have hk2 : getK (.inr nm) (tw.map fun p => (p.1, A.d p.2)) = some (.d (.lst x)) := by rw [getK_mapA, hk]; rfl
    refine Side.mk rfl ?_
    refine Opt.mk ⟨_, rfl, ?_⟩
    refine fork_f (by show (!(getK (.inr nm) (tw.map fun p => (p.1, A.d p.2))).isSome) = false; rw [hk2]; rfl) ?_
    refine Side.mk rfl ?_
    refine Opt.mk ⟨_, rfl, ?_⟩
    refine Opt.mk ⟨_, hk2, ?_⟩
    exact q
  · exact h.elim
/-! #### ran -/
theorem sc_ran : FnScope ["net", "values", "many", "bits", "name", "wire"] ["net", "values", "many"] (defScope s_ran) := ⟨rfl, rfl, rfl, by decide +kernel, rfl, by decide +kernel, by decide +kernel⟩

def sp_ran (C_Net : Addr) : ASp := fun xs M Q _ => match xs, M with
  | [.cell 0, .d (.lst x), .d (.int many)], [.obj C' fs, .lst rows, .lst dps, .did tw] => ∃ (n : Nat) (gs : List Gt) (vs : List Int) (nw : List (Str × List Nat)), C' = C_Net ∧ fs = netF n ∧ rows = gs.map gD ∧ dps = (dpsF n gs).map D.int ∧ n ≤ 10000 ∧ gs.length ≤ 100000 ∧ x = vs.map D.int ∧ vs.length = n ∧ gsOk n gs ∧ 0 ≤ many ∧ many ≤ 100000 ∧ tw = twD nw ∧ NwOk n gs nw ∧
     ∀ ys : List Str, ys.Perm (nw.map (·.1)) → sortedS ys = true → Q (.d (ranD (1 * 2 ^ many.toNat - 1) vs gs nw ys)) M
  | _, _ => False

set_option maxHeartbeats 8000000 in
theorem ok_ran {f : Addr} {fd : FuncData} (F : FunD K "ran" "ran" (defArgs s_ran) (defBody s_ran) (defScope s_ran) [] [("many", V.int 1)] f fd) (D_all_bits : Def P w K mg base "all_bits" 2 (sp_all_bits C) []) (M_names : DefM P w K mg base C "names" 1 (sp_Net_names C) []) (M_given : DefM P w K mg base C "given" 1 (sp_Net_given C) []) : G.FnOk P w K mg base CX0 3 f fd ["net", "values", "many"] (conc K (sp_ran C)) := by
  refine afn 4 F sc_ran (fun xs M Q E h => by unfold sp_ran at h; split at h <;> first | exact ⟨rfl, rfl⟩ | exact h.elim) fun W cdv Ar ou sh HH EX hr hW => ⟨_, _, (ass_cons (as_gen (as_set 3 sc_ran.nd (ae_gen (ae_frz (k_def (K := K) D_all_bits hr (by decide) (aa_cons (ae_v 0) (aa_cons (ae_v 1) (aa_cons (ae_v 2) aa_nil)))))))) (ass_one (as_ret (ae_lc false [("name", 4)] rfl sc_ran.nd (k_list (K := K) (ae_gen (ae_frz (k_defM0 (K := K) M_names hr (by decide) (ae_v 0))))) (blkOk_by (by rfl)) (fun _ _ _ _ _ => (ag_name 4 sc_ran.nd)) (fun _ _ _ _ _ => ats_nil) (fun _ _ _ _ _ => (ae_tup (aa_cons (ae_v 4) (aa_cons (ae_lc false [("wire", 5)] rfl sc_ran.nd (k_list (K := K) (ae_gen (ae_frz (k_defM (K := K) M_given hr (by decide) (ae_v 0) (aa_cons (ae_v 4) aa_nil))))) (blkOk_by (by rfl)) (fun _ _ _ _ _ => (ag_name 5 sc_ran.nd)) (fun _ _ _ _ _ => ats_nil) (fun _ _ _ _ _ => (k_ix (K := K) (ae_v 3) (ae_v 5)))) aa_nil)))))))), fun xs M QA EA h => ?_⟩
  unfold sp_ran at h
  split at h
  · rename_i x many C' fs rows dps tw
    obtain ⟨n, gs, vs, nw, rfl, rfl, rfl, rfl, hn, hg, rfl, hv, ho, hm0, hm1, rfl, hnw, q⟩ := h
    refine Gen.mk ⟨fun E' M' => E' = [some (.cell 0), some (.d (.lst (vs.map D.int))), some (.d (.int many)), some (.d (.lst ((btsF (1 * 2 ^ many.toNat - 1) vs gs).map D.int))), none, none] ∧ M' = [.obj C' (netF n), .lst (gs.map gD), .lst ((dpsF n gs).map D.int), .did (twD nw)], ?_, ?_⟩
    · refine Gen.mk ⟨fun z M' => z = .d (.lst ((btsF (1 * 2 ^ many.toNat - 1) vs gs).map D.int)) ∧ M' = [.obj C' (netF n), .lst (gs.map gD), .lst ((dpsF n gs).map D.int), .did (twD nw)], ?_, ?_⟩
      · refine ⟨n, gs, vs, rfl, rfl, rfl, rfl, hn, hg, rfl, hv, ho, hm0, hm1, ?_⟩
        exact ⟨rfl, rfl⟩
      rintro _ _ ⟨rfl, rfl⟩
      exact ⟨rfl, rfl⟩
    rintro _ _ ⟨rfl, rfl⟩
    have bl : (btsF (1 * 2 ^ many.toNat - 1) vs gs).length = n + gs.length := by rw [bts_len, hv]
    unfold ranD at q
    generalize btsF (1 * 2 ^ many.toNat - 1) vs gs = bs at *
    refine Gen.mk ⟨fun z M' => ∃ ys : List Str, z = .d (.lst (ys.map D.str)) ∧ ys.Perm (nw.map (·.1)) ∧ sortedS ys = true ∧ M' = [.obj C' (netF n), .lst (gs.map gD), .lst ((dpsF n gs).map D.int), .did (twD nw)], ?_, ?_⟩
    · refine Side.mk ⟨rfl, nmN rfl⟩ ?_
      refine ⟨n, gs, rfl, rfl, rfl, rfl, hn, hg, nw.map (·.1), strKs_tw nw, by rw [List.length_map]; exact hnw.few, fun ys h1 h2 => ?_⟩
      exact ⟨ys, rfl, h1, h2, rfl⟩
    rintro _ _ ⟨ys, rfl, hp, hs, rfl⟩
    have hyl : ys.length < 64 := by rw [hp.length_eq, List.length_map]; exact hnw.few
    refine lc_of (mk := D.str) (fun y => .tup [.str y, .lst ((lkW nw y).map fun a : Nat => D.int (bs.getD a 0))]) ys (by omega) (fun y hy R S hR => ?_) ?_
    · refine fork_t rfl ?_
      refine Gen.mk ⟨fun z M' => z = .d (.lst ((lkW nw y).map fun a : Nat => D.int (a : Int))) ∧ M' = [.obj C' (netF n), .lst (gs.map gD), .lst ((dpsF n gs).map D.int), .did (twD nw)], ?_, ?_⟩
      · refine Side.mk ⟨rfl, nmN rfl⟩ ?_
        refine ⟨n, gs, rfl, rfl, rfl, rfl, hn, hg, _, getK_tw (hp.mem_iff.mp hy), ?_⟩
        exact ⟨rfl, rfl⟩
      rintro _ _ ⟨rfl, rfl⟩
      refine lc_of (mk := fun a : Nat => D.int (a : Int)) (fun a => D.int (bs.getD a 0)) (lkW nw y) ?_ (fun a ha R S hR => ?_) ?_
      · exact Nat.le_trans (lkW_short hnw.short) (by decide)
      · obtain ⟨p, hp2, ha2⟩ := lkW_mem ha
        have hlt := hnw.wires p hp2 a ha2
        refine fork_t rfl ?_
        refine Opt.mk ⟨D.int (bs.getD a 0), atI_get2 (n := a) rfl (by rw [List.getElem?_map, List.getD_eq_getElem?_getD, List.getElem?_eq_getElem (by omega)]; rfl), ?_⟩
        exact hR
      · exact hR
    · exact q ys hp hs
  · exact h.elim
/-! #### bits_of -/
theorem sc_bits_of : FnScope ["number", "many", "place"] ["number", "many"] (defScope s_bits_of) := ⟨rfl, rfl, rfl, by decide +kernel, rfl, by decide +kernel, by decide +kernel⟩

def bitsW (w : Int) (k : Nat) : List Int := (List.range k).map fun (i : Nat) => Builtin.bitAnd (w / 2 ^ (k - 1 - i)) 1
def sp_bits_of : ASp := fun xs M Q _ => match xs, M with
  | [.d (.int w), .d (.int m)], [] => ∃ k : Nat, m = (k : Int) ∧ k ≤ 100000 ∧ Q (.d (.lst ((bitsW w k).map D.int))) []
  | _, _ => False

theorem ok_bits_of {f : Addr} {fd : FuncData} (F : FunD K "bits_of" "bits_of" (defArgs s_bits_of) (defBody s_bits_of) (defScope s_bits_of) [] [] f fd) (m_range : mg "range" = none) : G.FnOk P w K mg base CX0 1 f fd ["number", "many"] (conc K sp_bits_of) := by
  refine afn 0 F sc_bits_of (fun xs M Q E h => by unfold sp_bits_of at h; split at h <;> first | exact ⟨rfl, rfl⟩ | exact h.elim) fun W cdv Ar ou sh HH EX hr hW => ⟨_, _, (ass_one (as_ret (ae_lc false [("place", 2)] rfl sc_bits_of.nd (ai_rngD m_range (aa_cons (ae_op o_sub (ae_v 1) ae_int) (aa_cons (ae_un o_neg ae_int) (aa_cons (ae_un o_neg ae_int) aa_nil)))) (blkOk_by (by rfl)) (fun _ _ _ _ _ => (ag_name 2 sc_bits_of.nd)) (fun _ _ _ _ _ => ats_nil) (fun _ _ _ _ _ => (ae_op o_and (ae_op o_shr (ae_v 0) (ae_v 2)) ae_int))))), fun xs M QA EA h => ?_⟩
  unfold sp_bits_of at h
  split at h
  · rename_i w m
    obtain ⟨k, rfl, hk, q⟩ := h
    refine Side.mk ⟨rfl, by omega, by omega, by decide, by decide⟩ ?_
    have ek : ((k : Int) - 1 - -1).toNat = k := by omega
    refine lc_fn (fun (i : Nat) => D.int (Builtin.bitAnd (w / 2 ^ (k - 1 - i)) 1)) k (by rw [rngD_len, ek]) (by omega) (fun i d hd R S hR => ?_) ?_
    · obtain ⟨hi, rfl⟩ := rngD_get hd
      have hi : i < ((k : Int) - 1 - -1).toNat := hi
      refine fork_t rfl ?_
      refine Side.mk (cnn (by omega)) ?_
      rw [← show ((k : Int) - 1 + (i : Int) * -1).toNat = k - 1 - i by omega] at hR
      exact hR
    · have e : (List.range k).map (fun (i : Nat) => D.int (Builtin.bitAnd (w / 2 ^ (k - 1 - i)) 1)) = (bitsW w k).map D.int := by
        unfold bitsW
        rw [List.map_map]; rfl
      rw [e]
      exact q
  · exact h.elim
/-! #### Net.inputs -/
theorem sc_Net_inputs : FnScope ["self"] ["self"] (defScope s_Net_inputs) := ⟨rfl, rfl, rfl, by decide +kernel, rfl, by decide +kernel, by decide +kernel⟩

def sp_Net_inputs (C_Net : Addr) : ASp := fun xs M Q _ => match xs, M with
  | [.cell 0], [.obj C' fs, .lst rows, .lst dps, .did tw] => ∃ (n : Nat) (gs : List Gt), C' = C_Net ∧ fs = netF n ∧ rows = gs.map gD ∧ dps = (dpsF n gs).map D.int ∧ n ≤ 10000 ∧ gs.length ≤ 100000 ∧ Q (.d (.int (n : Int))) M
  | _, _ => False

theorem ok_Net_inputs {f : Addr} {fd : FuncData} (F : FunD K "inputs" "Net.inputs" (defArgs s_Net_inputs) (defBody s_Net_inputs) (defScope s_Net_inputs) [] [] f fd) (c_cls : Cls K C) (n_many_first : NoAttr K C "many_first") : G.FnOk P w K mg base CX0 1 f fd ["self"] (conc K (sp_Net_inputs C)) := by
  refine afn 4 F sc_Net_inputs (fun xs M Q E h => by unfold sp_Net_inputs at h; split at h <;> first | exact ⟨rfl, rfl⟩ | exact h.elim) fun W cdv Ar ou sh HH EX hr hW => ⟨_, _, (ass_one (as_ret (k_fld (K := K) c_cls n_many_first (ae_v 0)))), fun xs M QA EA h => ?_⟩
  unfold sp_Net_inputs at h
  split at h
  · rename_i C' fs rows dps tw
    obtain ⟨n, gs, rfl, rfl, rfl, rfl, hn, hg, h⟩ := h
    have lr : (gs.map gD).length = gs.length := List.length_map _
    have ld : ((dpsF n gs).map D.int).length = n + gs.length := (List.length_map _).trans (dps_len n gs)
    refine Side.mk rfl ?_
    exact h
  · exact h.elim
/-! #### number_of -/
theorem sc_number_of : FnScope ["bits", "found", "bit"] ["bits"] (defScope s_number_of) := ⟨rfl, rfl, rfl, by decide +kernel, rfl, by decide +kernel, by decide +kernel⟩

def numB (ns : List Int) : Int := ns.foldl (fun a d => 2 * a + d) 0
theorem numB_take {ns : List Int} {i : Nat} {x : Int} (h : ns[i]? = some x) : numB (ns.take (i + 1)) = 2 * numB (ns.take i) + x := by
  unfold numB
  rw [List.take_succ, h, List.foldl_append]; rfl
def sp_number_of : ASp := fun xs M Q _ => match xs, M with
  | [.d (.lst l)], [] => ∃ ns : List Int, l = ns.map D.int ∧ Q (.d (.int (numB ns))) []
  | _, _ => False

theorem ok_number_of {f : Addr} {fd : FuncData} (F : FunD K "number_of" "number_of" (defArgs s_number_of) (defBody s_number_of) (defScope s_number_of) [] [] f fd)  : G.FnOk P w K mg base CX0 1 f fd ["bits"] (conc K sp_number_of) := by
  refine afn 0 F sc_number_of (fun xs M Q E h => by unfold sp_number_of at h; split at h <;> first | exact ⟨rfl, rfl⟩ | exact h.elim) fun W cdv Ar ou sh HH EX hr hW => ⟨_, _, (ass_cons (as_set 1 sc_number_of.nd ae_int) (ass_cons (as_for PassesOwn.never rfl (k_list (K := K) (ae_v 0)) (ag_name 2 sc_number_of.nd) (ass_one (as_set 1 sc_number_of.nd (ae_op (k_plus (K := K) false) (ae_op o_mul ae_int (ae_v 1)) (ae_v 2))))) (ass_one (as_ret (ae_v 1))))), fun xs M QA EA h => ?_⟩
  unfold sp_number_of at h
  split at h
  · rename_i l
    obtain ⟨ns, rfl, q⟩ := h
    refine ForS.mk ⟨fun i E M => ∃ x, E = [some (.d (.lst (ns.map D.int))), some (.d (.int (numB (ns.take i)))), x] ∧ M = [], ⟨none, rfl, rfl⟩, ?_, ?_⟩
    · rintro i d _ _ hd ⟨x, rfl, rfl⟩
      rw [List.getElem?_map] at hd
      cases ec : ns[i]? with
      | none => rw [ec] at hd; cases hd
      | some c =>
        rw [ec] at hd
        cases hd
        refine Side.mk (mulL (by decide) (by decide)) ?_
        exact ⟨_, by rw [numB_take ec]; rfl, rfl⟩
    · rintro _ _ ⟨x, rfl, rfl⟩
      rw [List.length_map, List.take_length]
      exact q
  · exact h.elim
/-! #### one_case -/
theorem sc_one_case : FnScope ["net", "word", "name", "bits"] ["net", "word"] (defScope s_one_case) := ⟨rfl, rfl, rfl, by decide +kernel, rfl, by decide +kernel, by decide +kernel⟩

def sp_one_case (C_Net : Addr) : ASp := fun xs M Q _ => match xs, M with
  | [.cell 0, .d (.int w)], [.obj C' fs, .lst rows, .lst dps, .did tw] => ∃ (n : Nat) (gs : List Gt) (nw : List (Str × List Nat)), C' = C_Net ∧ fs = netF n ∧ rows = gs.map gD ∧ dps = (dpsF n gs).map D.int ∧ n ≤ 10000 ∧ gs.length ≤ 100000 ∧ gsOk n gs ∧ tw = twD nw ∧ NwOk n gs nw ∧
     ∀ ys : List Str, ys.Perm (nw.map (·.1)) → sortedS ys = true → Q (.d (.lst (ys.map fun y => .tup [.str y, .int (numB ((lkW nw y).map fun a : Nat => (btsF 1 (bitsW w n) gs).getD a 0))]))) M
  | _, _ => False

theorem ok_one_case {f : Addr} {fd : FuncData} (F : FunD K "one_case" "one_case" (defArgs s_one_case) (defBody s_one_case) (defScope s_one_case) [] [] f fd) (DK_ran_ : DefK P w K mg base "ran" 3 (sp_ran C) 2 [] [.int 1] (fun us ms zs => us ++ zs ++ ms)) (D_bits_of : Def P w K mg base "bits_of" 1 sp_bits_of []) (M_inputs : DefM P w K mg base C "inputs" 1 (sp_Net_inputs C) []) (D_number_of : Def P w K mg base "number_of" 1 sp_number_of []) : G.FnOk P w K mg base CX0 4 f fd ["net", "word"] (conc K (sp_one_case C)) := by
  refine afn 4 F sc_one_case (fun xs M Q E h => by unfold sp_one_case at h; split at h <;> first | exact ⟨rfl, rfl⟩ | exact h.elim) fun W cdv Ar ou sh HH EX hr hW => ⟨_, _, (ass_one (as_ret (ae_lc false [("name", 2), ("bits", 3)] rfl sc_one_case.nd (k_list (K := K) (ae_gen (k_defK (K := K) DK_ran_ hr (by decide) (aa_cons (ae_v 0) (aa_cons (k_def (K := K) D_bits_of hr (by decide) (aa_cons (ae_v 1) (aa_cons (ae_gen (k_defM0 (K := K) M_inputs hr (by decide) (ae_v 0))) aa_nil))) aa_nil)) ak_nil))) (blkOk_by (by rfl)) (fun _ _ _ _ _ => (k_gtup (K := K) (n := 2) rfl (ags_cons (ag_name 2 sc_one_case.nd) (ags_cons (ag_name 3 sc_one_case.nd) ags_nil)))) (fun _ _ _ _ _ => ats_nil) (fun _ _ _ _ _ => (ae_tup (aa_cons (ae_v 2) (aa_cons (k_def (K := K) D_number_of hr (by decide) (aa_cons (ae_v 3) aa_nil)) aa_nil))))))), fun xs M QA EA h => ?_⟩
  unfold sp_one_case at h
  split at h
  · rename_i w C' fs rows dps tw
    obtain ⟨n, gs, nw, rfl, rfl, rfl, rfl, hn, hg, ho, rfl, hnw, q⟩ := h
    have hbw : (bitsW w n).length = n := by unfold bitsW; rw [List.length_map, List.length_range]
    refine Gen.mk ⟨fun z M' => ∃ ys : List Str, z = .d (ranD 1 (bitsW w n) gs nw ys) ∧ ys.Perm (nw.map (·.1)) ∧ sortedS ys = true ∧ M' = [.obj C' (netF n), .lst (gs.map gD), .lst ((dpsF n gs).map D.int), .did (twD nw)], ?_, ?_⟩
    · refine Gen.mk ⟨fun z M' => z = .d (.int (n : Int)) ∧ M' = [.obj C' (netF n), .lst (gs.map gD), .lst ((dpsF n gs).map D.int), .did (twD nw)], ?_, ?_⟩
      · refine Side.mk ⟨rfl, nmN rfl⟩ ?_
        exact ⟨n, gs, rfl, rfl, rfl, rfl, hn, hg, rfl, rfl⟩
      rintro _ _ ⟨rfl, rfl⟩
      refine ⟨n, rfl, by omega, ?_⟩
      refine ⟨n, gs, bitsW w n, nw, rfl, rfl, rfl, rfl, hn, hg, rfl, hbw, ho, by decide, by decide, rfl, hnw, fun ys h1 h2 => ?_⟩
      exact ⟨ys, rfl, h1, h2, rfl⟩
    rintro _ _ ⟨ys, rfl, hp, hs, rfl⟩
    have hyl : ys.length < 64 := by rw [hp.length_eq, List.length_map]; exact hnw.few
    refine lc_of (mk := fun y => D.tup [.str y, .lst ((lkW nw y).map fun a : Nat => D.int ((btsF 1 (bitsW w n) gs).getD a 0))]) (fun y => .tup [.str y, .int (numB ((lkW nw y).map fun a : Nat => (btsF 1 (bitsW w n) gs).getD a 0))]) ys (by omega) (fun y hy R S hR => ?_) ?_
    · refine Side.mk rfl ?_
      refine fork_t rfl ?_
      refine ⟨(lkW nw y).map fun a : Nat => (btsF 1 (bitsW w n) gs).getD a 0, by rw [List.map_map]; rfl, ?_⟩
      exact hR
    · exact q ys hp hs
  · exact h.elim
/-! #### law -/
theorem sc_law : FnScope ["_law_script", "_law_k", "_law_box_here", "_law_inputs", "_law_rows", "_law_net", "_law_wires", "_law_turn", "_law_name", "_law_numbers", "_law_word", "_law_due", "_law_one"] ["_law_script"] (defScope s_law) := ⟨rfl, rfl, rfl, by decide +kernel, rfl, by decide +kernel, by decide +kernel⟩

def sp_law : ASp := fun xs M Q _ => match xs, M with
  | [.d (.scr _)], [] => Q (.d (.bl true)) []
  | _, _ => False

set_option maxHeartbeats 4000000 in
theorem ok_law {f : Addr} {fd : FuncData} (F : FunD K "law" "law" (defArgs s_law) (defBody s_law) (defScope s_law) [] [] f fd) (D_law_box : Def P w K mg base "_law_box" 1 sp_law_box []) (D_law_take : Def P w K mg base "_law_take" 25 sp_draw []) (D_law_gates : Def P w K mg base "_law_gates" 26 sp_law_gates []) (D_law_made : Def P w K mg base "_law_made" 4 (sp_law_made C) []) (M_give : DefM P w K mg base C "give" 2 (sp_Net_give C) []) (D_law_cases_right : Def P w K mg base "_law_cases_right" 26 sp_law_cases_right []) (DK_ran_many : DefK P w K mg base "ran" 3 (sp_ran C) 2 ["many"] [] (fun us ms zs => us ++ zs ++ ms)) (D_all_cases : Def P w K mg base "all_cases" 1 sp_all_cases []) (D_one_case : Def P w K mg base "one_case" 4 (sp_one_case C) []) (m_range : mg "range" = none) (m_max : mg "max" = none) (m_min : mg "min" = none) (m_len : mg "len" = none) (m_int : mg "int" = none) : G.FnOk P w K mg base CX0 27 f fd ["_law_script"] (conc K sp_law) := by
  refine afn 0 F sc_law (fun xs M Q E h => by unfold sp_law at h; split at h <;> first | exact ⟨rfl, rfl⟩ | exact h.elim) fun W cdv Ar ou sh HH EX hr hW => ⟨_, _, (ass_cons (as_for PassesOwn.never rfl (ai_rng1 m_range (aa_cons (ae_cb (call_max2 rfl) sc_max2 m_max (aa_cons ae_int (aa_cons (ae_cb (call_min2 rfl) sc_min2 m_min (aa_cons (k_cb (K := K) (r := qLen) call_len sc_len m_len (aa_cons (ae_v 0) aa_nil)) (aa_cons ae_int aa_nil))) aa_nil))) aa_nil)) (ag_name 1 sc_law.nd) (ass_cons (as_set 2 sc_law.nd (k_def (K := K) D_law_box hr (by decide) (aa_cons (ae_v 0) (aa_cons (ae_v 1) aa_nil)))) (ass_cons (as_gen (as_set 3 sc_law.nd (k_ix (K := K) (ae_lst (aa_cons (ae_op (k_plus (K := K) false) ae_int (k_def (K := K) D_law_take hr (by decide) (aa_cons (ae_v 2) (aa_cons ae_int aa_nil)))) (aa_cons ae_int aa_nil))) (ae_ct call_int1 sc_int m_int (aa_cons (ae_cmp (k_eq (K := K) hr.units) (k_def (K := K) D_law_take hr (by decide) (aa_cons (ae_v 2) (aa_cons ae_int aa_nil))) ae_int rfl) aa_nil))))) (ass_cons (as_gen (as_set 4 sc_law.nd (ae_frz (k_def (K := K) D_law_gates hr (by decide) (aa_cons (ae_v 2) (aa_cons (ae_v 3) (aa_cons (ae_op (k_plus (K := K) false) ae_int (k_def (K := K) D_law_take hr (by decide) (aa_cons (ae_v 2) (aa_cons ae_int aa_nil)))) aa_nil))))))) (ass_cons (as_gen (as_set 5 sc_law.nd (ae_gen (k_def (K := K) D_law_made hr (by decide) (aa_cons (ae_v 4) (aa_cons (ae_v 3) aa_nil)))))) (ass_cons (as_gen (as_setLc 6 false [("_law_turn", 7)] rfl sc_law.nd rfl rfl (sw_true rfl rfl rfl (by decide +kernel)) (ai_rng1 m_range (aa_cons (ae_op (k_plus (K := K) false) ae_int (k_def (K := K) D_law_take hr (by decide) (aa_cons (ae_v 2) (aa_cons ae_int aa_nil)))) aa_nil)) (blkOk_by (by rfl)) (fun _ _ _ _ _ => (ag_name 7 sc_law.nd)) (fun _ _ _ _ _ => ats_nil) (fun _ _ _ _ _ => (k_def (K := K) D_law_take hr (by decide) (aa_cons (ae_v 2) (aa_cons (ae_op (k_plus (K := K) false) (ae_v 3) (k_cb (K := K) (r := qLen) call_len sc_len m_len (aa_cons (ae_v 4) aa_nil))) aa_nil)))))) (ass_cons (as_gen (as_expr (ae_gen (k_defM (K := K) M_give hr (by decide) (ae_v 5) (aa_cons ae_str (aa_cons (ae_v 6) aa_nil)))))) (ass_cons (as_if (at_not (k_tru (K := K) (k_def (K := K) D_law_cases_right hr (by decide) (aa_cons (ae_v 2) (aa_cons (ae_v 3) aa_nil))))) (ass_one (as_ret ae_bl)) ass_nil) (ass_cons (as_gen (as_asg (k_ix (K := K) (ae_gen (k_defK (K := K) DK_ran_many hr (by decide) (aa_cons (ae_v 5) (aa_cons (ae_frz (k_def (K := K) D_all_cases hr (by decide) (aa_cons (ae_v 3) aa_nil))) aa_nil)) (ak_cons (ae_op o_shl ae_int (ae_v 3)) ak_nil))) ae_int) (k_gtup (K := K) (n := 2) rfl (ags_cons (ag_name 8 sc_law.nd) (ags_cons (ag_name 9 sc_law.nd) ags_nil))))) (ass_one (as_trim 0 (by omega) (as_for PassesOwn.never rfl (k_list (K := K) (ae_op (k_plus (K := K) false) (ae_lst (aa_cons ae_int (aa_cons (ae_op o_sub (ae_op o_shl ae_int (ae_v 3)) ae_int) aa_nil))) (ae_lc false [("_law_turn", 7)] rfl sc_law.nd (ai_rng1 m_range (aa_cons ae_int aa_nil)) (blkOk_by (by rfl)) (fun _ _ _ _ _ => (ag_name 7 sc_law.nd)) (fun _ _ _ _ _ => ats_nil) (fun _ _ _ _ _ => (k_def (K := K) D_law_take hr (by decide) (aa_cons (ae_v 2) (aa_cons (ae_op o_shl ae_int (ae_v 3)) aa_nil))))))) (ag_name 10 sc_law.nd) (ass_cons (as_set 11 sc_law.nd ae_int) (ass_cons (as_gen (as_for PassesOwn.never rfl (k_list (K := K) (ae_v 9)) (ag_name 12 sc_law.nd) (ass_one (as_set 11 sc_law.nd (ae_op (k_plus (K := K) false) (ae_op o_mul ae_int (ae_v 11)) (ae_op o_and (ae_op o_shr (ae_v 12) (ae_v 10)) ae_int)))))) (ass_one (as_if (at_w (aw_or (at_cmp (k_ne (K := K) hr.units) (ae_gen (k_def (K := K) D_one_case hr (by decide) (aa_cons (ae_v 5) (aa_cons (ae_v 10) aa_nil)))) (ae_lst (aa_cons (ae_tup (aa_cons ae_str (aa_cons (ae_v 11) aa_nil))) aa_nil)) rfl) (aw_or1 (at_cmp (k_ne (K := K) hr.units) (ae_v 8) ae_str rfl)))) (ass_one (as_ret ae_bl)) ass_nil)))))))))))))))) (ass_one (as_ret ae_bl))), fun xs M QA EA h => ?_⟩
  unfold sp_law at h
  split at h
  · rename_i ns
    refine Side.mk ⟨by omega, by omega⟩ ?_
    refine ForS.mk ⟨fun i E M => ∃ x1 x2 x3 x4 x5 x6 x7 x8 x9 x10 x11 x12 : Option G.A, E = [some (.d (.scr ns)), x1, x2, x3, x4, x5, x6, x7, x8, x9, x10, x11, x12] ∧ M = [], ⟨none, none, none, none, none, none, none, none, none, none, none, none, rfl, rfl⟩, ?_, ?_⟩
    · rintro i d _ _ hd ⟨x1, x2, x3, x4, x5, x6, x7, x8, x9, x10, x11, x12, rfl, rfl⟩
      obtain ⟨hi, rfl⟩ := rngD_get hd
      have hi2 : (i : Int) < 3 := by omega
      refine Side.mk ⟨by omega, by omega⟩ ?_
      intro l hb
      refine Gen.mk ⟨fun E' M' => ∃ (n : Nat) (l2 : List D), E' = [some (.d (.scr ns)), some (.d (.int (0 + (i : Int) * 1))), some (.cell 0), some (.d (.int (n : Int))), x4, x5, x6, x7, x8, x9, x10, x11, x12] ∧ M' = [.lst l2] ∧ 1 ≤ n ∧ n ≤ 12 ∧ BX 1000 l2, ?_, ?_⟩
      · refine Drw.mk ?_; refine ⟨_, by assumption, (by first | omega | walk_at "gb"), (by first | omega | walk_at "gb"), (by first | omega | walk_at "gb"), fun u l3 hl_u hu_u hb_l3 => ?_⟩
        refine Drw.mk ?_; refine ⟨_, by assumption, (by first | omega | walk_at "gb"), (by first | omega | walk_at "gb"), (by first | omega | walk_at "gb"), fun v l4 hl_v hu_v hb_l4 => ?_⟩
        by_cases c : v = 0
        · subst c
          refine Opt.mk ⟨_, rfl, ?_⟩
          exact ⟨12, l4, rfl, rfl, by decide, by decide, hb_l4.mono (by decide)⟩
        · refine Opt.mk ⟨.int (1 + u), ?_, ?_⟩
          · rw [decide_eq_false c]; rfl
          · exact ⟨(1 + u).toNat, l4, by rw [Int.toNat_of_nonneg (by omega)]; rfl, rfl, by omega, by omega, hb_l4.mono (by decide)⟩
      rintro _ _ ⟨n, l2, rfl, rfl, n0, n1, hb2⟩
      refine fL_eq.mpr (nM_eq.mpr ?_)
      have pn : (2:Nat) ^ n ≤ 2 ^ 12 := Nat.pow_le_pow_right (by decide) n1
      have e12 : (2:Nat) ^ 12 = 4096 := rfl
      have tn := Nat.two_pow_pos n
      refine Gen.mk ⟨fun E' M' => ∃ (gs : List Gt) (l2 : List D), E' = [some (.d (.scr ns)), some (.d (.int (0 + (i : Int) * 1))), some (.cell 0), some (.d (.int (n : Int))), some (.d (.lst (gs.map gD))), x5, x6, x7, x8, x9, x10, x11, x12] ∧ M' = [.lst l2] ∧ gs.length ≤ 30 ∧ 1 ≤ gs.length ∧ gsOk n gs ∧ BX 20000 l2, ?_, ?_⟩
      · refine Drw.mk ?_; refine ⟨_, by assumption, (by first | omega | walk_at "gb"), (by first | omega | walk_at "gb"), (by first | omega | walk_at "gb"), fun u l3 hl_u hu_u hb_l3 => ?_⟩
        refine ⟨n, (1 + u).toNat, rfl, by rw [Int.toNat_of_nonneg (by omega)], ?_⟩
        refine Drx.mk ?_; refine ⟨_, by assumption, by omega, ⟨n0, by omega, by omega⟩, fun gs l4 h_gs hb_l4 => ?_⟩
        exact ⟨gs, l4, rfl, rfl, by omega, by omega, h_gs.2, hb_l4.mono (by omega)⟩
      rintro _ _ ⟨gs, l3, rfl, rfl, g0, g1, ho, hb3⟩
      refine fL_eq.mpr (nM_eq.mpr ?_)
      refine Gen.mk ⟨fun E' M' => E' = [some (.d (.scr ns)), some (.d (.int (0 + (i : Int) * 1))), some (.cell 0), some (.d (.int (n : Int))), some (.d (.lst (gs.map gD))), some (.cell 1), x6, x7, x8, x9, x10, x11, x12] ∧ M' = .lst l3 :: netN1 C 1 n gs [], ?_, ?_⟩
      · refine Gen.mk ⟨fun z M' => z = .cell 1 ∧ M' = .lst l3 :: netN1 C 1 n gs [], ?_, ?_⟩
        · exact ⟨n, gs, rfl, rfl, by omega, by omega, ho, rfl, rfl⟩
        rintro _ _ ⟨rfl, rfl⟩
        exact ⟨rfl, rfl⟩
      rintro _ _ ⟨rfl, rfl⟩
      unfold netN1
      refine fL_eq.mpr (nM_eq.mpr ?_)
      refine Gen.mk ⟨fun E' M' => ∃ (ws : List Nat) (l2 : List D), E' = [some (.d (.scr ns)), some (.d (.int (0 + (i : Int) * 1))), some (.cell 0), some (.d (.int (n : Int))), some (.d (.lst (gs.map gD))), some (.cell 1), some (.d (.lst (ws.map fun a : Nat => D.int (a : Int)))), x7, x8, x9, x10, x11, x12] ∧ M' = .lst l2 :: netN1 C 1 n gs [] ∧ ws.length ≤ 5 ∧ (∀ a ∈ ws, a < n + gs.length) ∧ BX 30000 l2, ?_, ?_⟩
      · refine Drw.mk ?_; refine ⟨_, by assumption, (by first | omega | walk_at "gb"), (by first | omega | walk_at "gb"), (by first | omega | walk_at "gb"), fun u l4 hl_u hu_u hb_l4 => ?_⟩
        refine Side.mk ⟨by omega, by omega⟩ ?_
        refine lc_any (fun i M => ∃ l, M = .lst l :: netN1 C 1 n gs [] ∧ BX (21000 + 100 * i) l) (fun _ _ y => ∃ a : Nat, y = .int (a : Int) ∧ a < n + gs.length) ?_ ⟨l4, rfl, hb_l4.mono (by omega)⟩ ?_ ?_
        · rw [rngD_len]; omega
        · rintro j d _ hd ⟨l5, rfl, hb5⟩ R S hR
          obtain ⟨hj, rfl⟩ := rngD_get hd
          refine fork_t rfl ?_
          have gl : (gs.map gD).length = gs.length := List.length_map _
          refine Drw.mk ?_; refine ⟨_, by assumption, (by first | omega | walk_at "gb"), (by first | omega | walk_at "gb"), (by first | omega | walk_at "gb"), fun a l6 hl_a hu_a hb_l6 => ?_⟩
          exact hR _ _ ⟨a.toNat, by rw [Int.toNat_of_nonneg hl_a], by omega⟩ ⟨l6, rfl, hb_l6.mono (by omega)⟩
        rintro acc _ hl hP ⟨l5, rfl, hb5⟩
        obtain ⟨ws, rfl, hws⟩ := acc_of (mk := fun w : Nat => D.int (w : Int)) (acc_all hl hP)
        rw [List.length_map, rngD_len] at hl
        rw [rngD_len] at hb5
        exact ⟨ws, l5, rfl, rfl, by omega, hws, hb5.mono (by omega)⟩
      rintro _ _ ⟨ws, l4, rfl, rfl, w0, hws, hb4⟩
      unfold netN1
      refine fL_eq.mpr (nM_eq.mpr ?_)
      refine Gen.mk ⟨fun E' M' => E' = [some (.d (.scr ns)), some (.d (.int (0 + (i : Int) * 1))), some (.cell 0), some (.d (.int (n : Int))), some (.d (.lst (gs.map gD))), some (.cell 1), some (.d (.lst (ws.map fun a : Nat => D.int (a : Int)))), x7, x8, x9, x10, x11, x12] ∧ M' = .lst l4 :: netN1 C 1 n gs (twD [("told", ws)]), ?_, ?_⟩
      · refine Gen.mk ⟨fun z M' => M' = .lst l4 :: netN1 C 1 n gs (twD [("told", ws)]), ?_, ?_⟩
        · refine Side.mk ⟨rfl, nmG rfl⟩ ?_
          exact ⟨n, gs, rfl, rfl, rfl, rfl, by omega, by omega, ws, rfl, hws, rfl, List.nodup_nil, by decide, rfl⟩
        rintro _ _ rfl
        exact ⟨rfl, rfl⟩
      rintro _ _ ⟨rfl, rfl⟩
      unfold netN1
      refine fL_eq.mpr (nM_eq.mpr ?_)
      refine ⟨n, rfl, ?_⟩
      refine Drx.mk ?_; refine ⟨_, by assumption, by omega, ⟨n0, n1⟩, fun u0 l5 h_u0 hb_l5 => ?_⟩
      refine fork_f rfl ?_
      refine fL_eq.mpr (nM_eq.mpr ?_)
      have en : ((2 ^ n : Nat) : Int) = 1 * 2 ^ ((n : Int)).toNat := by rw [Int.one_mul, Int.toNat_natCast, Int.natCast_pow]; rfl
      have hal : (acF n).length = n := by unfold acF; rw [List.length_map, List.length_range]
      have hnw : NwOk n gs [("told", ws)] := ⟨by show 1 < 64; decide, fun p hp a ha => by
        rw [List.mem_singleton] at hp; subst hp; exact hws a ha, fun p hp => by
        rw [List.mem_singleton] at hp; subst hp; show ws.length ≤ _; omega⟩
      have lk : lkW [("told", ws)] "told" = ws := rfl
      obtain ⟨BS, hBS⟩ : ∃ BS, BS = btsF (1 * 2 ^ (((2 ^ n : Nat) : Int)).toNat - 1) (acF n) gs := ⟨_, rfl⟩
      refine Gen.mk ⟨fun E' M' => E' = [some (.d (.scr ns)), some (.d (.int (0 + (i : Int) * 1))), some (.cell 0), some (.d (.int (n : Int))), some (.d (.lst (gs.map gD))), some (.cell 1), some (.d (.lst (ws.map fun a : Nat => D.int (a : Int)))), x7, some (.d (.str "told")), some (.d (.lst (ws.map fun a : Nat => D.int (BS.getD a 0)))), x10, x11, x12] ∧ M' = .lst l5 :: netN1 C 1 n gs (twD [("told", ws)]), ?_, ?_⟩
      · refine Gen.mk ⟨fun z M' => z = .d (.lst [.tup [.str "told", .lst (ws.map fun a : Nat => D.int (BS.getD a 0))]]) ∧ M' = .lst l5 :: netN1 C 1 n gs (twD [("told", ws)]), ?_, ?_⟩
        · refine ⟨n, rfl, n1, ?_⟩
          refine Side.mk (cshl1 (by omega) (by omega)) ?_
          refine ⟨n, gs, acF n, [("told", ws)], rfl, rfl, rfl, rfl, by omega, by omega, rfl, hal, ho, by show (0:Int) ≤ 1 * 2 ^ ((n : Int)).toNat; omega, by show 1 * 2 ^ ((n : Int)).toNat ≤ (100000 : Int); omega, rfl, hnw, fun ys h1 h2 => ?_⟩
          have hy : ys = [("told" : Str)] := List.perm_singleton.mp h1
          subst hy
          have er : ranD (1 * 2 ^ ((1:Int) * 2 ^ ((n : Int)).toNat).toNat - 1) (acF n) gs [("told", ws)] ["told"] = .lst [.tup [.str "told", .lst (ws.map fun a : Nat => D.int (BS.getD a 0))]] := by
            unfold ranD
            rw [List.map_cons, List.map_nil, lk, ← en, ← hBS]
          rw [er]
          exact ⟨rfl, rfl⟩
        rintro _ _ ⟨rfl, rfl⟩
        refine Opt.mk ⟨_, rfl, ?_⟩
        refine Side.mk rfl ?_
        exact ⟨rfl, rfl⟩
      rintro _ _ ⟨rfl, rfl⟩
      unfold netN1
      refine fL_eq.mpr (nM_eq.mpr ?_)
      refine Side.mk (cshl1 (by omega) (by omega)) ?_
      refine Side.mk ⟨by decide, by decide⟩ ?_
      refine lc_any (fun i M => ∃ l, M = .lst l :: netN1 C 1 n gs (twD [("told", ws)]) ∧ BX (35000 + 100 * i) l) (fun _ _ y => ∃ w : Nat, y = .int (w : Int) ∧ w < 2 ^ n) (by rw [rngD_len]; decide) ⟨l5, rfl, hb_l5.mono (by omega)⟩ ?_ ?_
      · rintro i d _ hd ⟨l6, rfl, hb6⟩ R S hR
        have hi : i < (16:Int).toNat := (rngD_get hd).1
        have hi : i < 16 := hi
        refine fork_t rfl ?_
        refine Side.mk (cshl1 (by omega) (by omega)) ?_
        refine Drw.mk ?_; refine ⟨_, by assumption, (by first | omega | walk_at "gb"), (by first | omega | walk_at "gb"), (by first | omega | walk_at "gb"), fun w l7 hl_w hu_w hb_l7 => ?_⟩
        exact hR _ _ ⟨w.toNat, by rw [Int.toNat_of_nonneg hl_w], by omega⟩ ⟨l7, rfl, hb_l7.mono (by omega)⟩
      rintro acc _ hl hP ⟨l6, rfl, hb6⟩
      obtain ⟨us, rfl, hus⟩ := acc_of (mk := fun w : Nat => D.int (w : Int)) (acc_all hl hP)
      have hul : us.length = 16 := by rw [List.length_map, rngD_len] at hl; exact hl
      refine Side.mk (by rw [List.length_map, hul, sizeLine_eq]; show 2 + 16 ≤ _; decide) ?_
      have eI : [D.int 0, D.int (1 * 2 ^ ((n : Int)).toNat - 1)] ++ us.map (fun w : Nat => D.int (w : Int)) = (0 :: (2 ^ n - 1) :: us).map (fun w : Nat => D.int (w : Int)) := by
        rw [← en, List.map_cons, List.map_cons, show ((2 ^ n - 1 : Nat) : Int) = ((2 ^ n : Nat) : Int) - 1 by omega]; rfl
      have huu : ∀ w ∈ (0 :: (2 ^ n - 1) :: us), w < 2 ^ n := fun w hw => by
        rcases List.mem_cons.mp hw with rfl | hw
        · exact tn
        · rcases List.mem_cons.mp hw with rfl | hw
          · omega
          · exact hus w hw
      refine ForS.mk ⟨fun j E M => ∃ x7 x10 x11 x12 : Option G.A, E = [some (.d (.scr ns)), some (.d (.int (0 + (i : Int) * 1))), some (.cell 0), some (.d (.int (n : Int))), some (.d (.lst (gs.map gD))), some (.cell 1), some (.d (.lst (ws.map fun a : Nat => D.int (a : Int)))), x7, some (.d (.str "told")), some (.d (.lst (ws.map fun a : Nat => D.int (BS.getD a 0)))), x10, x11, x12] ∧ M = .lst l6 :: netN1 C 1 n gs (twD [("told", ws)]), ⟨_, _, _, _, rfl, rfl⟩, ?_, ?_⟩
      · rintro j d _ _ hd ⟨y7, y10, y11, y12, rfl, rfl⟩
        have hd2 : ((0 :: (2 ^ n - 1) :: us).map (fun w : Nat => D.int (w : Int)))[j]? = some d := by rw [← eI]; exact hd
        obtain ⟨w, hw, _, rfl⟩ := get_map hd2
        have hw := huu w hw
        clear hd hd2
        obtain ⟨due, hdue⟩ : ∃ due : Nat → Int, due = fun k => numB ((ws.map fun a => Builtin.bitAnd (BS.getD a 0 / 2 ^ w) 1).take k) := ⟨_, rfl⟩
        refine Gen.mk ⟨fun E' M' => ∃ x12 : Option G.A, E' = [some (.d (.scr ns)), some (.d (.int (0 + (i : Int) * 1))), some (.cell 0), some (.d (.int (n : Int))), some (.d (.lst (gs.map gD))), some (.cell 1), some (.d (.lst (ws.map fun a : Nat => D.int (a : Int)))), y7, some (.d (.str "told")), some (.d (.lst (ws.map fun a : Nat => D.int (BS.getD a 0)))), some (.d (.int (w : Int))), some (.d (.int (due ws.length))), x12] ∧ M' = .lst l6 :: netN1 C 1 n gs (twD [("told", ws)]), ?_, ?_⟩
        · refine ForS.mk ⟨fun k E M => ∃ x12 : Option G.A, E = [some (.d (.scr ns)), some (.d (.int (0 + (i : Int) * 1))), some (.cell 0), some (.d (.int (n : Int))), some (.d (.lst (gs.map gD))), some (.cell 1), some (.d (.lst (ws.map fun a : Nat => D.int (a : Int)))), y7, some (.d (.str "told")), some (.d (.lst (ws.map fun a : Nat => D.int (BS.getD a 0)))), some (.d (.int (w : Int))), some (.d (.int (due k))), x12] ∧ M = .lst l6 :: netN1 C 1 n gs (twD [("told", ws)]), ⟨_, by rw [hdue]; rfl, rfl⟩, ?_, ?_⟩
          · rintro k d _ _ hd ⟨z12, rfl, rfl⟩
            obtain ⟨a, ha, hka, rfl⟩ := get_map hd
            refine Side.mk (mulL (by decide) (by decide)) ?_
            refine Side.mk (cnn (by omega)) ?_
            have e : due (k + 1) = 2 * due k + Builtin.bitAnd (BS.getD a 0 / 2 ^ w) 1 := by
              rw [hdue]
              exact numB_take (by rw [List.getElem?_map, hka]; rfl)
            exact ⟨_, by rw [e]; rfl, rfl⟩
          · rintro _ _ ⟨z12, rfl, rfl⟩
            rw [List.length_map]
            exact ⟨_, rfl, rfl⟩
        rintro _ _ ⟨z12, rfl, rfl⟩
        unfold netN1
        refine fL_eq.mpr (nM_eq.mpr ?_)
        have hw8 : (w : Int) < 4096 := by omega
        have ec : (acF n).map (fun v => bAt v w) = bitsW (w : Int) n := by
          unfold acF bitsW
          rw [List.map_map]
          refine List.map_congr_left fun i hi => ?_
          show bAt (patF (n - 1 - i) (2 ^ n)) w = _
          rw [patF_bit, if_pos hw, and_one]
          rfl
        have eb : ∀ a, (btsF 1 (bitsW (w : Int) n) gs).getD a 0 = Builtin.bitAnd (BS.getD a 0 / 2 ^ w) 1 := fun a => by
          have hb := bts_bit (N := 2 ^ n) (n := n) hw (acF n) gs.length gs rfl ho
          rw [ec] at hb
          rw [← hb, hBS, Int.toNat_natCast, and_one, List.getD_eq_getElem?_getD, List.getD_eq_getElem?_getD, List.getElem?_map]
          cases (btsF (1 * 2 ^ (2 ^ n) - 1) (acF n) gs)[a]? with
          | none =>
            show (0:Int) = 0 / 2 ^ w % 2
            rw [Int.zero_ediv]; rfl
          | some x => rfl
        have hsh : shE (.lst [.tup [.str "told", .int (due ws.length)]]) = true := shE_told _
        refine Gen.mk ⟨fun z M' => z = .d (.lst [.tup [.str "told", .int (due ws.length)]]) ∧ M' = .lst l6 :: netN1 C 1 n gs (twD [("told", ws)]), ?_, ?_⟩
        · refine ⟨n, gs, [("told", ws)], rfl, rfl, rfl, rfl, by omega, by omega, ho, rfl, hnw, fun ys h1 h2 => ?_⟩
          have hy : ys = [("told" : Str)] := List.perm_singleton.mp h1
          subst hy
          have er : numB (ws.map fun a : Nat => (btsF 1 (bitsW (w : Int) n) gs).getD a 0) = due ws.length := by
            subst hdue
            show _ = numB (List.take ws.length (ws.map fun a => Builtin.bitAnd (BS.getD a 0 / 2 ^ w) 1))
            rw [List.take_of_length_le (by rw [List.length_map]; exact Nat.le_refl _)]
            exact congrArg numB (List.map_congr_left fun a _ => eb a)
          rw [List.map_cons, List.map_nil, lk, er]
          exact ⟨rfl, rfl⟩
        rintro _ _ ⟨rfl, rfl⟩
        refine Side.mk ⟨hsh, hsh⟩ ?_
        refine fork_f (ne_self hsh) ?_
        refine fork_f rfl ?_
        exact ⟨_, _, _, _, rfl, rfl⟩
      · rintro _ _ ⟨y7, y10, y11, y12, rfl, rfl⟩
        exact ⟨_, _, _, _, _, _, _, _, _, _, _, _, rfl, rfl⟩
    · rintro _ _ ⟨x1, x2, x3, x4, x5, x6, x7, x8, x9, x10, x11, x12, rfl, rfl⟩
      exact h
  · exact h.elim
end
set_option maxHeartbeats 8000000 in
theorem facts {P : Program} {w : World} {K : PySem.W.Frag} {h : Heap} {mg : Str → Option Value} {f : Addr} (X : K.In h) (G : h.Ns mainGlobals mg) (hfa : mg ("law" : Str) = some (.ref f)) (c : SaysE dfa dfn dow K) (ct : tabsK dts K = tabsV dts w) :
    ∃ fd : FuncData, (∀ (s : Shared) (v : Value), BindsTo s fd ⟨[v], []⟩ [("_law_script", v)]) ∧ ∀ base : Heap, K.In base → base.Ns mainGlobals mg → _root_.G.FnOk P w K mg base CX0 27 f fd ["_law_script"] (conc K sp_law) := by
  have cd := c.d
  obtain ⟨fd_law_box, F_law_box⟩ := cd.def_ 0 (d := dd_law_box) rfl
  have g_law_box := He.glo_ok X G (cd.fact 0 (f := .glo "_law_box") rfl)
  obtain ⟨fd_law_take, F_law_take⟩ := cd.def_ 1 (d := dd_law_take) rfl
  have g_law_take := He.glo_ok X G (cd.fact 1 (f := .glo "_law_take") rfl)
  obtain ⟨fd_law_gates, F_law_gates⟩ := cd.def_ 2 (d := dd_law_gates) rfl
  have g_law_gates := He.glo_ok X G (cd.fact 2 (f := .glo "_law_gates") rfl)
  obtain ⟨fd_Net__init_, F_Net__init_⟩ := cd.def_ 3 (d := dd_Net__init_) rfl
  have g_Net__init_ := He.meth_ok (cd.fact 3 (f := .meth "Net" "__init__") rfl)
  obtain ⟨fd_Net_look_at, F_Net_look_at⟩ := cd.def_ 4 (d := dd_Net_look_at) rfl
  have g_Net_look_at := He.meth_ok (cd.fact 4 (f := .meth "Net" "look_at") rfl)
  obtain ⟨fd_Net_laid, F_Net_laid⟩ := cd.def_ 5 (d := dd_Net_laid) rfl
  have g_Net_laid := He.meth_ok (cd.fact 5 (f := .meth "Net" "laid") rfl)
  obtain ⟨fd_Net_both, F_Net_both⟩ := cd.def_ 6 (d := dd_Net_both) rfl
  have g_Net_both := He.meth_ok (cd.fact 6 (f := .meth "Net" "both") rfl)
  obtain ⟨fd_Net_either, F_Net_either⟩ := cd.def_ 7 (d := dd_Net_either) rfl
  have g_Net_either := He.meth_ok (cd.fact 7 (f := .meth "Net" "either") rfl)
  obtain ⟨fd_Net_unlike, F_Net_unlike⟩ := cd.def_ 8 (d := dd_Net_unlike) rfl
  have g_Net_unlike := He.meth_ok (cd.fact 8 (f := .meth "Net" "unlike") rfl)
  obtain ⟨fd_Net_other, F_Net_other⟩ := cd.def_ 9 (d := dd_Net_other) rfl
  have g_Net_other := He.meth_ok (cd.fact 9 (f := .meth "Net" "other") rfl)
  obtain ⟨fd_Net_fixed, F_Net_fixed⟩ := cd.def_ 10 (d := dd_Net_fixed) rfl
  have g_Net_fixed := He.meth_ok (cd.fact 10 (f := .meth "Net" "fixed") rfl)
  obtain ⟨fd_law_made, F_law_made⟩ := cd.def_ 11 (d := dd_law_made) rfl
  have g_law_made := He.glo_ok X G (cd.fact 11 (f := .glo "_law_made") rfl)
  obtain ⟨fd_Net_give, F_Net_give⟩ := cd.def_ 12 (d := dd_Net_give) rfl
  have g_Net_give := He.meth_ok (cd.fact 12 (f := .meth "Net" "give") rfl)
  obtain ⟨fd_all_cases, F_all_cases⟩ := cd.def_ 13 (d := dd_all_cases) rfl
  have g_all_cases := He.glo_ok X G (cd.fact 13 (f := .glo "all_cases") rfl)
  obtain ⟨fd_law_cases_right, F_law_cases_right⟩ := cd.def_ 14 (d := dd_law_cases_right) rfl
  have g_law_cases_right := He.glo_ok X G (cd.fact 14 (f := .glo "_law_cases_right") rfl)
  obtain ⟨fd_Net_gates, F_Net_gates⟩ := cd.def_ 15 (d := dd_Net_gates) rfl
  have g_Net_gates := He.meth_ok (cd.fact 15 (f := .meth "Net" "gates") rfl)
  obtain ⟨fd_both_bits, F_both_bits⟩ := cd.def_ 16 (d := dd_both_bits) rfl
  have g_both_bits := He.glo_ok X G (cd.fact 16 (f := .glo "both_bits") rfl)
  obtain ⟨fd_either_bits, F_either_bits⟩ := cd.def_ 17 (d := dd_either_bits) rfl
  have g_either_bits := He.glo_ok X G (cd.fact 17 (f := .glo "either_bits") rfl)
  obtain ⟨fd_unlike_bits, F_unlike_bits⟩ := cd.def_ 18 (d := dd_unlike_bits) rfl
  have g_unlike_bits := He.glo_ok X G (cd.fact 18 (f := .glo "unlike_bits") rfl)
  obtain ⟨fd_other_bits, F_other_bits⟩ := cd.def_ 19 (d := dd_other_bits) rfl
  have g_other_bits := He.glo_ok X G (cd.fact 19 (f := .glo "other_bits") rfl)
  obtain ⟨fd_fixed_bits, F_fixed_bits⟩ := cd.def_ 20 (d := dd_fixed_bits) rfl
  have g_fixed_bits := He.glo_ok X G (cd.fact 20 (f := .glo "fixed_bits") rfl)
  obtain ⟨fd_all_bits, F_all_bits⟩ := cd.def_ 21 (d := dd_all_bits) rfl
  have g_all_bits := He.glo_ok X G (cd.fact 21 (f := .glo "all_bits") rfl)
  obtain ⟨fd_Net_names, F_Net_names⟩ := cd.def_ 22 (d := dd_Net_names) rfl
  have g_Net_names := He.meth_ok (cd.fact 22 (f := .meth "Net" "names") rfl)
  obtain ⟨fd_Net_given, F_Net_given⟩ := cd.def_ 23 (d := dd_Net_given) rfl
  have g_Net_given := He.meth_ok (cd.fact 23 (f := .meth "Net" "given") rfl)
  obtain ⟨fd_ran, F_ran⟩ := cd.def_ 24 (d := dd_ran) rfl
  have g_ran := He.glo_ok X G (cd.fact 24 (f := .glo "ran") rfl)
  obtain ⟨fd_bits_of, F_bits_of⟩ := cd.def_ 25 (d := dd_bits_of) rfl
  have g_bits_of := He.glo_ok X G (cd.fact 25 (f := .glo "bits_of") rfl)
  obtain ⟨fd_Net_inputs, F_Net_inputs⟩ := cd.def_ 26 (d := dd_Net_inputs) rfl
  have g_Net_inputs := He.meth_ok (cd.fact 26 (f := .meth "Net" "inputs") rfl)
  obtain ⟨fd_number_of, F_number_of⟩ := cd.def_ 27 (d := dd_number_of) rfl
  have g_number_of := He.glo_ok X G (cd.fact 27 (f := .glo "number_of") rfl)
  obtain ⟨fd_one_case, F_one_case⟩ := cd.def_ 28 (d := dd_one_case) rfl
  have g_one_case := He.glo_ok X G (cd.fact 28 (f := .glo "one_case") rfl)
  obtain ⟨fd_law, F_law⟩ := cd.def_ 29 (d := dd_law) rfl
  have g_law := He.glo_ok X G (cd.fact 29 (f := .glo "law") rfl)
  have g_C_Net := He.glo_ok X G (cd.fact 42 (f := .glo "Net") rfl)
  have c_cls := He.cls_ok (cd.fact 43 (f := .cls "Net") rfl)
  have mk_C_Net := He.mkr_ok (cd.fact 44 (f := .mkr "Net") rfl)
  have n_many_first := He.noat_ok (cd.fact 45 (f := .noat "Net" "many_first") rfl)
  have n_gate_rows := He.noat_ok (cd.fact 46 (f := .noat "Net" "gate_rows") rfl)
  have n_wire_depths := He.noat_ok (cd.fact 47 (f := .noat "Net" "wire_depths") rfl)
  have n_told_wires := He.noat_ok (cd.fact 48 (f := .noat "Net" "told_wires") rfl)
  have m_len := He.free_ok X G (cd.fact 30 (f := .free "len") rfl)
  have m_abs := He.free_ok X G (cd.fact 31 (f := .free "abs") rfl)
  have m_int := He.free_ok X G (cd.fact 32 (f := .free "int") rfl)
  have m_divmod := He.free_ok X G (cd.fact 33 (f := .free "divmod") rfl)
  have m_range := He.free_ok X G (cd.fact 34 (f := .free "range") rfl)
  have m_min := He.free_ok X G (cd.fact 35 (f := .free "min") rfl)
  have m_max := He.free_ok X G (cd.fact 36 (f := .free "max") rfl)
  have m_list := He.free_ok X G (cd.fact 37 (f := .free "list") rfl)
  have m_isinstance := He.free_ok X G (cd.fact 38 (f := .free "isinstance") rfl)
  have m_all := He.free_ok X G (cd.fact 39 (f := .free "all") rfl)
  have m_sorted := He.free_ok X G (cd.fact 40 (f := .free "sorted") rfl)
  have C_GATE_RULES : CT_GATE_RULES w K mg := ⟨_, _, _, _, _, _, He.glo_ok X G (cd.fact 41 (f := .glo "GATE_RULES") rfl), g_both_bits, g_either_bits, g_unlike_bits, g_other_bits, g_fixed_bits, fun p hp => by
    simp only [List.mem_cons, List.not_mem_nil, or_false] at hp
    rcases hp with rfl | rfl | rfl | rfl | rfl
    · exact kd_vals (c.own 0) (tab_at ct 0) ("both", .glo "both_bits") List.mem_cons_self
    · exact kd_vals (c.own 0) (tab_at ct 0) ("either", .glo "either_bits") (List.mem_cons_of_mem _ List.mem_cons_self)
    · exact kd_vals (c.own 0) (tab_at ct 0) ("unlike", .glo "unlike_bits") (List.mem_cons_of_mem _ (List.mem_cons_of_mem _ List.mem_cons_self))
    · exact kd_vals (c.own 0) (tab_at ct 0) ("other", .glo "other_bits") (List.mem_cons_of_mem _ (List.mem_cons_of_mem _ (List.mem_cons_of_mem _ List.mem_cons_self)))
    · exact kd_vals (c.own 0) (tab_at ct 0) ("fixed", .glo "fixed_bits") (List.mem_cons_of_mem _ (List.mem_cons_of_mem _ (List.mem_cons_of_mem _ (List.mem_cons_of_mem _ List.mem_cons_self))))⟩
  have e := hfa.symm.trans g_law
  cases e
  have b := FunD.bindsA (ps := ["_law_script"]) F_law fun _ _ _ _ _ _ us hl => match us, hl with | [_], _ => rfl
  refine ⟨fd_law, fun s v => b s [v] rfl, fun base _ _ => ?_⟩
  have D_law_box : Def P w K mg base "_law_box" 1 sp_law_box [] := ⟨_, fd_law_box, _, [], ok_law_box F_law_box m_len m_abs m_int, g_law_box, F_law_box.kp, (F_law_box.bindsN (fun _ _ _ _ _ _ us hl => match us, hl with | [_, _], _ => rfl)), .nil, rfl⟩
  have D0_law_take : Def P w K mg base "_law_take" 25 (sp_take 24) [] := ⟨_, fd_law_take, _, [], ok_law_take F_law_take m_divmod (F_law_take.bindsN (fun _ _ _ _ _ _ us hl => match us, hl with | [_, _], _ => rfl)) g_law_take 24, g_law_take, F_law_take.kp, (F_law_take.bindsN (fun _ _ _ _ _ _ us hl => match us, hl with | [_, _], _ => rfl)), .nil, rfl⟩
  have D_law_take : Def P w K mg base "_law_take" 25 sp_draw [] := D0_law_take.imp draw_take
  have D_law_gates : Def P w K mg base "_law_gates" 26 sp_law_gates [] := ⟨_, fd_law_gates, _, [], ok_law_gates F_law_gates D_law_take m_range m_min, g_law_gates, F_law_gates.kp, (F_law_gates.bindsN (fun _ _ _ _ _ _ us hl => match us, hl with | [_, _, _], _ => rfl)), .nil, rfl⟩
  have N_Net : DefC P w K mg base "Net" (He.ga K "Net") 1 (sp_Net__init_ (He.ga K "Net")) [] := ⟨_, fd_Net__init_, _, [], ok_Net__init_ F_Net__init_ c_cls n_many_first n_gate_rows n_wire_depths n_told_wires, mk_C_Net, g_C_Net, (F_Net__init_.bindsN (fun _ _ _ _ _ _ us hl => match us, hl with | [_, _], _ => rfl)), .nil, rfl⟩
  have ok_m_Net_look_at := ok_Net_look_at (P := P) (w := w) (base := base) (mg := mg) (C := He.ga K "Net") F_Net_look_at m_len c_cls n_wire_depths
  have M_look_at : DefM P w K mg base (He.ga K "Net") "look_at" 1 (sp_Net_look_at (He.ga K "Net")) [] := ⟨_, fd_Net_look_at, _, [], ok_m_Net_look_at, c_cls, g_Net_look_at, (F_Net_look_at.bindsN (fun _ _ _ _ _ _ us hl => match us, hl with | [_, _], _ => rfl)), .nil, rfl⟩
  have ok_m_Net_laid := ok_Net_laid (P := P) (w := w) (base := base) (mg := mg) (C := He.ga K "Net") F_Net_laid M_look_at m_max m_len c_cls n_gate_rows n_wire_depths
  have MKN_laid : DefMKN P w K mg base (He.ga K "Net") "laid" 2 (sp_Net_laid (He.ga K "Net")) 2 ["wires"] := ⟨_, fd_Net_laid, ["self", "word", "wires"], _, ok_m_Net_laid, c_cls, g_Net_laid, kbindsR F_Net_laid 2 ["wires"] fun _ _ _ _ _ _ us ws h1 h2 => match us, ws, h1, h2 with | [_, _], [_], _, _ => rfl⟩
  have ok_m_Net_both := ok_Net_both (P := P) (w := w) (base := base) (mg := mg) (C := He.ga K "Net") F_Net_both MKN_laid
  have M_both : DefM P w K mg base (He.ga K "Net") "both" 3 (sp_Net_both (He.ga K "Net")) [] := ⟨_, fd_Net_both, _, [], ok_m_Net_both, c_cls, g_Net_both, (F_Net_both.bindsN (fun _ _ _ _ _ _ us hl => match us, hl with | [_, _, _], _ => rfl)), .nil, rfl⟩
  have ok_m_Net_either := ok_Net_either (P := P) (w := w) (base := base) (mg := mg) (C := He.ga K "Net") F_Net_either MKN_laid
  have M_either : DefM P w K mg base (He.ga K "Net") "either" 3 (sp_Net_either (He.ga K "Net")) [] := ⟨_, fd_Net_either, _, [], ok_m_Net_either, c_cls, g_Net_either, (F_Net_either.bindsN (fun _ _ _ _ _ _ us hl => match us, hl with | [_, _, _], _ => rfl)), .nil, rfl⟩
  have ok_m_Net_unlike := ok_Net_unlike (P := P) (w := w) (base := base) (mg := mg) (C := He.ga K "Net") F_Net_unlike MKN_laid
  have M_unlike : DefM P w K mg base (He.ga K "Net") "unlike" 3 (sp_Net_unlike (He.ga K "Net")) [] := ⟨_, fd_Net_unlike, _, [], ok_m_Net_unlike, c_cls, g_Net_unlike, (F_Net_unlike.bindsN (fun _ _ _ _ _ _ us hl => match us, hl with | [_, _, _], _ => rfl)), .nil, rfl⟩
  have ok_m_Net_other := ok_Net_other (P := P) (w := w) (base := base) (mg := mg) (C := He.ga K "Net") F_Net_other MKN_laid
  have M_other : DefM P w K mg base (He.ga K "Net") "other" 3 (sp_Net_other (He.ga K "Net")) [] := ⟨_, fd_Net_other, _, [], ok_m_Net_other, c_cls, g_Net_other, (F_Net_other.bindsN (fun _ _ _ _ _ _ us hl => match us, hl with | [_, _], _ => rfl)), .nil, rfl⟩
  have ok_m_Net_fixed := ok_Net_fixed (P := P) (w := w) (base := base) (mg := mg) (C := He.ga K "Net") F_Net_fixed m_len c_cls n_gate_rows n_wire_depths
  have M_fixed : DefM P w K mg base (He.ga K "Net") "fixed" 1 (sp_Net_fixed (He.ga K "Net")) [] := ⟨_, fd_Net_fixed, _, [], ok_m_Net_fixed, c_cls, g_Net_fixed, (F_Net_fixed.bindsN (fun _ _ _ _ _ _ us hl => match us, hl with | [_, _], _ => rfl)), .nil, rfl⟩
  have D_law_made : Def P w K mg base "_law_made" 4 (sp_law_made (He.ga K "Net")) [] := ⟨_, fd_law_made, _, [], ok_law_made F_law_made N_Net M_both M_either M_unlike M_other M_fixed, g_law_made, F_law_made.kp, (F_law_made.bindsN (fun _ _ _ _ _ _ us hl => match us, hl with | [_, _], _ => rfl)), .nil, rfl⟩
  have ok_m_Net_give := ok_Net_give (P := P) (w := w) (base := base) (mg := mg) (C := He.ga K "Net") F_Net_give M_look_at m_list c_cls n_told_wires
  have M_give : DefM P w K mg base (He.ga K "Net") "give" 2 (sp_Net_give (He.ga K "Net")) [] := ⟨_, fd_Net_give, _, [], ok_m_Net_give, c_cls, g_Net_give, (F_Net_give.bindsN (fun _ _ _ _ _ _ us hl => match us, hl with | [_, _, _], _ => rfl)), .nil, rfl⟩
  have D_all_cases : Def P w K mg base "all_cases" 1 sp_all_cases [] := ⟨_, fd_all_cases, _, [], ok_all_cases F_all_cases m_range, g_all_cases, F_all_cases.kp, (F_all_cases.bindsN (fun _ _ _ _ _ _ us hl => match us, hl with | [_], _ => rfl)), .nil, rfl⟩
  have D_law_cases_right : Def P w K mg base "_law_cases_right" 26 sp_law_cases_right [] := ⟨_, fd_law_cases_right, _, [], ok_law_cases_right F_law_cases_right D_all_cases D_law_take m_isinstance m_list m_len m_all m_int m_range, g_law_cases_right, F_law_cases_right.kp, (F_law_cases_right.bindsN (fun _ _ _ _ _ _ us hl => match us, hl with | [_, _], _ => rfl)), .nil, rfl⟩
  have ok_m_Net_gates := ok_Net_gates (P := P) (w := w) (base := base) (mg := mg) (C := He.ga K "Net") F_Net_gates m_list c_cls n_gate_rows
  have M_gates : DefM P w K mg base (He.ga K "Net") "gates" 1 (sp_Net_gates (He.ga K "Net")) [] := ⟨_, fd_Net_gates, _, [], ok_m_Net_gates, c_cls, g_Net_gates, (F_Net_gates.bindsN (fun _ _ _ _ _ _ us hl => match us, hl with | [_], _ => rfl)), .nil, rfl⟩
  have D_both_bits : Def P w K mg base "both_bits" 1 sp_both_bits [] := ⟨_, fd_both_bits, _, [], ok_both_bits F_both_bits , g_both_bits, F_both_bits.kp, (F_both_bits.bindsN (fun _ _ _ _ _ _ us hl => match us, hl with | [_, _, _], _ => rfl)), .nil, rfl⟩
  have D_either_bits : Def P w K mg base "either_bits" 1 sp_either_bits [] := ⟨_, fd_either_bits, _, [], ok_either_bits F_either_bits , g_either_bits, F_either_bits.kp, (F_either_bits.bindsN (fun _ _ _ _ _ _ us hl => match us, hl with | [_, _, _], _ => rfl)), .nil, rfl⟩
  have D_unlike_bits : Def P w K mg base "unlike_bits" 1 sp_unlike_bits [] := ⟨_, fd_unlike_bits, _, [], ok_unlike_bits F_unlike_bits , g_unlike_bits, F_unlike_bits.kp, (F_unlike_bits.bindsN (fun _ _ _ _ _ _ us hl => match us, hl with | [_, _, _], _ => rfl)), .nil, rfl⟩
  have D_other_bits : Def P w K mg base "other_bits" 1 sp_other_bits [] := ⟨_, fd_other_bits, _, [], ok_other_bits F_other_bits , g_other_bits, F_other_bits.kp, (F_other_bits.bindsN (fun _ _ _ _ _ _ us hl => match us, hl with | [_, _, _], _ => rfl)), .nil, rfl⟩
  have D_fixed_bits : Def P w K mg base "fixed_bits" 1 sp_fixed_bits [] := ⟨_, fd_fixed_bits, _, [], ok_fixed_bits F_fixed_bits , g_fixed_bits, F_fixed_bits.kp, (F_fixed_bits.bindsN (fun _ _ _ _ _ _ us hl => match us, hl with | [_, _, _], _ => rfl)), .nil, rfl⟩
  have D_all_bits : Def P w K mg base "all_bits" 2 (sp_all_bits (He.ga K "Net")) [] := ⟨_, fd_all_bits, _, [], ok_all_bits F_all_bits M_gates D_both_bits D_either_bits D_unlike_bits D_other_bits D_fixed_bits C_GATE_RULES, g_all_bits, F_all_bits.kp, (F_all_bits.bindsN (fun _ _ _ _ _ _ us hl => match us, hl with | [_, _, _], _ => rfl)), .nil, rfl⟩
  have ok_m_Net_names := ok_Net_names (P := P) (w := w) (base := base) (mg := mg) (C := He.ga K "Net") F_Net_names m_sorted c_cls n_told_wires
  have M_names : DefM P w K mg base (He.ga K "Net") "names" 1 (sp_Net_names (He.ga K "Net")) [] := ⟨_, fd_Net_names, _, [], ok_m_Net_names, c_cls, g_Net_names, (F_Net_names.bindsN (fun _ _ _ _ _ _ us hl => match us, hl with | [_], _ => rfl)), .nil, rfl⟩
  have ok_m_Net_given := ok_Net_given (P := P) (w := w) (base := base) (mg := mg) (C := He.ga K "Net") F_Net_given m_list c_cls n_told_wires
  have M_given : DefM P w K mg base (He.ga K "Net") "given" 1 (sp_Net_given (He.ga K "Net")) [] := ⟨_, fd_Net_given, _, [], ok_m_Net_given, c_cls, g_Net_given, (F_Net_given.bindsN (fun _ _ _ _ _ _ us hl => match us, hl with | [_, _], _ => rfl)), .nil, rfl⟩
  have ok_m_ran := ok_ran (P := P) (w := w) (base := base) (mg := mg) (C := He.ga K "Net") F_ran D_all_bits M_names M_given
  obtain ⟨mv_DK_ran_, kb_DK_ran_⟩ := F_ran.kbinds0 (ps := ["net", "values", "many"]) 2 [] [("many", V.int 1)] (fun us ms zs => us ++ zs ++ ms) (List.cons_ne_nil _ _) (show ∀ q ∈ ([("many", V.int 1)] : List (Str × V)), q ∈ ([("many", V.int 1)] : List (Str × V)) by simp) (fun r1 r2 r3 => (r1.append r3).append r2) fun _ _ _ _ _ _ us ms zs h1 h2 h3 => match us, ms, zs, h1, h2, h3 with | [_, _], [_], [], _, _, _ => ⟨_, _, _, _, _, _, rfl, rfl, rfl⟩
  have DK_ran_ : DefK P w K mg base "ran" 3 (sp_ran (He.ga K "Net")) 2 [] [.int 1] (fun us ms zs => us ++ zs ++ ms) := ⟨_, fd_ran, _, _, ok_m_ran, g_ran, F_ran.kp, kb_DK_ran_, rfl, fun r1 r2 r3 => (r1.app r3).app r2⟩
  obtain ⟨mv_DK_ran_many, kb_DK_ran_many⟩ := F_ran.kbinds0 (ps := ["net", "values", "many"]) 2 ["many"] [] (fun us ms zs => us ++ zs ++ ms) (List.cons_ne_nil _ _) (show ∀ q ∈ ([] : List (Str × V)), q ∈ ([("many", V.int 1)] : List (Str × V)) by simp) (fun r1 r2 r3 => (r1.append r3).append r2) fun _ _ _ _ _ _ us ms zs h1 h2 h3 => match us, ms, zs, h1, h2, h3 with | [_, _], [], [_], _, _, _ => rfl
  have DK_ran_many : DefK P w K mg base "ran" 3 (sp_ran (He.ga K "Net")) 2 ["many"] [] (fun us ms zs => us ++ zs ++ ms) := ⟨_, fd_ran, _, _, ok_m_ran, g_ran, F_ran.kp, kb_DK_ran_many, rfl, fun r1 r2 r3 => (r1.app r3).app r2⟩
  have D_bits_of : Def P w K mg base "bits_of" 1 sp_bits_of [] := ⟨_, fd_bits_of, _, [], ok_bits_of F_bits_of m_range, g_bits_of, F_bits_of.kp, (F_bits_of.bindsN (fun _ _ _ _ _ _ us hl => match us, hl with | [_, _], _ => rfl)), .nil, rfl⟩
  have ok_m_Net_inputs := ok_Net_inputs (P := P) (w := w) (base := base) (mg := mg) (C := He.ga K "Net") F_Net_inputs c_cls n_many_first
  have M_inputs : DefM P w K mg base (He.ga K "Net") "inputs" 1 (sp_Net_inputs (He.ga K "Net")) [] := ⟨_, fd_Net_inputs, _, [], ok_m_Net_inputs, c_cls, g_Net_inputs, (F_Net_inputs.bindsN (fun _ _ _ _ _ _ us hl => match us, hl with | [_], _ => rfl)), .nil, rfl⟩
  have D_number_of : Def P w K mg base "number_of" 1 sp_number_of [] := ⟨_, fd_number_of, _, [], ok_number_of F_number_of , g_number_of, F_number_of.kp, (F_number_of.bindsN (fun _ _ _ _ _ _ us hl => match us, hl with | [_], _ => rfl)), .nil, rfl⟩
  have D_one_case : Def P w K mg base "one_case" 4 (sp_one_case (He.ga K "Net")) [] := ⟨_, fd_one_case, _, [], ok_one_case F_one_case DK_ran_ D_bits_of M_inputs D_number_of, g_one_case, F_one_case.kp, (F_one_case.bindsN (fun _ _ _ _ _ _ us hl => match us, hl with | [_, _], _ => rfl)), .nil, rfl⟩
  exact ok_law F_law D_law_box D_law_take D_law_gates D_law_made M_give D_law_cases_right DK_ran_many D_all_cases D_one_case m_range m_max m_min m_len m_int
theorem law_at {K : PySem.W.Frag} {H : Hp} {a : Addr} {ns : List Int} {Q : VK} {E : XK} (hS : SqL K H a (ns.map V.int)) (hQ : ∀ H', Q (.bl true) H') : conc K sp_law [.ref a] H Q E :=
  ⟨⟨H, [], H⟩, [], [.d (.scr ns)], fun x _ => x = .d (.bl true), fun _ _ _ => False, rfl, ⟨Same.refl _, rfl, List.nodup_nil, fun k a h => by simp at h, fun k a c h => by simp at h⟩, .cons (.d (.scr hS)) .nil, rfl,
    fun b' M' x v _ _ r q => by subst q; cases rep_bl_inv (repA_d r); exact hQ _, fun _ _ _ _ _ _ _ _ _ _ q => q.elim⟩
end Law
open PySem PySem.W PySem.Calls PyProof.Rows
theorem PySem.Challenge.cw_guessedzeros_k46_all_cases_of_some_input_holds : PySem.Challenge.rw_guessedzeros_k46_all_cases_of_some_input.Holds := by
  w_on; o_law
  refine HandSHeadRun.head_any (r := OpenLaw.row PySem.Challenge.rw_guessedzeros_k46_all_cases_of_some_input) (q := view (OpenLaw.row PySem.Challenge.rw_guessedzeros_k46_all_cases_of_some_input).prog [26]) (H := Law.hk) (ob := Law.ob) (M := 6000) (loose := [("GATE_RULES" : PySem.Str), ("_wall" : PySem.Str), ("both_bits" : PySem.Str), ("either_bits" : PySem.Str), ("unlike_bits" : PySem.Str), ("other_bits" : PySem.Str), ("fixed_bits" : PySem.Str), ("all_bits" : PySem.Str), ("ran" : PySem.Str), ("all_cases" : PySem.Str), ("number_of" : PySem.Str), ("bits_of" : PySem.Str), ("one_case" : PySem.Str), ("_law_box" : PySem.Str), ("_law_take" : PySem.Str), ("_law_gates" : PySem.Str), ("_law_made" : PySem.Str), ("_law_cases_right" : PySem.Str), ("NoWire" : PySem.Str), ("NoName" : PySem.Str), ("Taken" : PySem.Str), ("Net" : PySem.Str)]) (d := HandSHeadRun.topDef (OpenLaw.row PySem.Challenge.rw_guessedzeros_k46_all_cases_of_some_input).prog 26) (kwd := []) Law.ob_eq
    (by kernel_rfl) (fun s => by kernel_rfl) Law.run (by kernel_rfl) (by kernel_rfl) (by kernel_rfl) (by rfl) (by first | assumption | decide +kernel) (by decide +kernel) ⟨rfl, rfl, rfl, rfl, rfl, by decide +kernel⟩ ?hw ?hc
  case hw => w_witness2
  case hc =>
    refine G.walk_law (l := PySem.Challenge.rw_guessedzeros_k46_all_cases_of_some_input) (n := 63) (k := 27) (x := "_law_script") (CX := L2.CX0) rfl (by decide) (by kernel_rfl) ⟨⟨rfl, by decide, by decide⟩, rfl⟩ ?F (fun _ _ _ _ z => z)
    intro w mg fa h Y Gh hmg0
    obtain ⟨K, KX, c⟩ := Y
    have hmg : mg ("law" : PySem.Str) = some (.ref fa) := by
      have e : (HandSHeadRun.topDef (OpenLaw.row PySem.Challenge.rw_guessedzeros_k46_all_cases_of_some_input).prog 26).name = ("law" : PySem.Str) := by kernel_rfl
      rw [← e]
      exact hmg0
    obtain ⟨fd, hb, hF⟩ := Law.facts (P := (PySem.Challenge.rw_guessedzeros_k46_all_cases_of_some_input).prog) (w := w) KX Gh hmg c.1 c.2
    exact ⟨K, fd, G.conc K Law.sp_law, KX, hb, fun H a ns hl _ hS => Law.law_at hS (fun _ => rfl), hF⟩

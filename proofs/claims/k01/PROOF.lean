import PyProof.Rows.All
import HandS.Lambda
import HandS.Nested
import HandS.CallLocal
import HandS.ExcOwn
import HandS.ForMost
import HandS.TupAny
import HandS.Deep
import HandS.Zip
import HandS.Walk
import HandS.IsInst
import HandS.NoneIn
import HandS.Flow
import HandS.Wide
import HandS.SortInts
import HandS.CallSlots
import HandS.TupMul
import HandS.TupLe
import HandS.Style
import KE.GoesEnum
import KE.GoesNew
import HandS.WordsExc
import HandS.ExcCtx
import HandS.HotCalls
import HandS.Hot
import PyProof.Draws
import HandS.ExcIs
import HandS.Text
import PySem.Challenge.RW_betweenties_k01_webs_and_choices_known
import HandS.EndTab
import KE.KNestM
import KE.KLam
set_option Elab.async false
set_option linter.all false
set_option maxRecDepth 100000
set_option maxHeartbeats 1000000
/-! DLLam: lambdas with parameters, handed to defs among other arguments; the callee runs over a base that holds the lambda and its cells -/
namespace DL
open PySem PySem.Spec PyProof.Rows L2 LamX NdefX

/-! ### a base with more in it -/
theorem sub_base (h : Heap) (p : Addr → Bool) : ∃ G : Heap, G.objs.size = h.objs.size ∧ (∀ b, p b = true → G.get? b = h.get? b) ∧ ∀ b, p b = false → G.get? b = none := by
  let l : List Addr := (List.range h.objs.size).filter fun b => !p b
  have hl : ∀ b, b ∈ l ↔ b < h.objs.size ∧ p b = false := fun b => by simp [l]
  refine ⟨PySem.W.hideAll h l, PySem.W.hideAll_size l h, fun b hb => ?_, fun b hb => ?_⟩
  · have nl : b ∉ l := fun z => by have := ((hl b).mp z).2; rw [hb] at this; cases this
    cases e : h.get? b with
    | some o => exact PySem.W.hideAll_get l e nl
    | none =>
      match q : (PySem.W.hideAll h l).get? b with
      | none => rfl
      | some o => have := PySem.W.of_hideAll l q; rw [e] at this; cases this
  · match q : (PySem.W.hideAll h l).get? b with
    | none => rfl
    | some o =>
      have w := Heap.lt_size (PySem.W.of_hideAll l q)
      rw [PySem.W.hideAll_none l ((hl b).mpr ⟨w, hb⟩)] at q; cases q
/-- base ⊆ base' -/
def Sub (b b' : Heap) : Prop := ∀ a o, b.get? a = some o → b'.get? a = some o
theorem Sub.refl (b : Heap) : Sub b b := fun _ _ h => h
theorem Sub.trans {a b c : Heap} (h : Sub a b) (k : Sub b c) : Sub a c := fun x o e => k x o (h x o e)
theorem mod_sub {K : PySem.W.Frag} {mg : Str → Option Value} {b b' : Heap} (m : Mod K mg b) (h : Sub b b') : Mod K mg b' where
  kin := m.kin.keeps h
  glob := m.glob.keeps h
  blt := let ⟨mb, h1, h2⟩ := m.blt; ⟨mb, h1.keeps h, h2⟩
  nolimit := m.nolimit.keeps h
section
variable {X : Cx} {pins : List (Addr × Obj)} {σ : L2.St} {H : Hp} {s : Shared}
theorem env_more (I : Inv X pins σ H s) (L : List Addr) (hL : ∀ b, b ∈ L → H b = none ∧ b ∉ frs X.stack) :
    ∃ base', Sub X.base base' ∧ (∀ b, b ∈ L → base'.get? b = s.heap.get? b) ∧ Env0 X.prog X.w X.K X.mg base' X.A X.stack s H := by
  obtain ⟨G, g1, g2, g3⟩ := sub_base s.heap fun b => (X.base.get? b).isSome || decide (b ∈ L)
  have sb : Sub X.base G := fun a o e => by
    rw [g2 a (by rw [e]; rfl)]
    exact I.bk a o e
  have e0 := I.env0
  refine ⟨G, sb, fun b hb => g2 b (by simp [hb]), ⟨e0.frames, mod_sub e0.mod sb, fun b o e => ?_, Nat.le_of_eq g1, funFrames_none e0.funs fun a ha => ?_, e0.frf, e0.hok, e0.bare⟩⟩
  · cases hp : ((X.base.get? b).isSome || decide (b ∈ L)) with
    | false => rw [g3 b hp] at e; cases e
    | true =>
      rw [g2 b hp] at e
      refine ⟨e, ?_⟩
      rcases Bool.or_eq_true_iff.mp hp with z | z
      · obtain ⟨o', e'⟩ := Option.isSome_iff_exists.mp z
        exact (I.bs b o' e').2
      · exact (hL b (by simpa using z)).1
  · refine g3 a ?_
    have z := (e0.funs.mem ha).1
    rw [z]
    simp only [Option.isSome_none, Bool.false_or, decide_eq_false_iff_not]
    exact fun m => (hL a m).2 ha
end

/-! ### the lambda among the arguments -/
/-- the object of a lambda that the frame X makes -/
def LamAt (X : Cx) (params : Arguments) (body : Expr) (scope : Scope) (f c' : Addr) (fo : Obj) : Prop :=
  f ∉ frs X.stack ∧ ∃ pm ctv : Value, fo = PySem.W.kla_obj "<lambda>" (X.env.qual ++ "<lambda>") params body scope (cloFrom X.env.cells scope.names []) pm c' ctv
abbrev TX := L2.St → Hp → (Addr → Addr → List V → Hp → Prop) → Prop
structure PX (X : Cx) (params : Arguments) (body : Expr) (scope : Scope) (es : List Expr) (t : TX) : Prop where
  run : ∀ (pos : Pos) (pins : List (Addr × Obj)) (s : Shared) (σ : L2.St) (H : Hp) (Q : Addr → Addr → List V → Hp → Prop), Inv X pins σ H s → t σ H Q →
    wpAny (model X.prog X.w) X.A (spliced (backTo pos (starEach es X.env))) (fun us s' => ∃ f c' fo vs H', Inv X ((f, fo) :: pins) σ H' s' ∧ LamAt X params body scope f c' fo ∧ Vals vs us ∧ Q f c' vs H') X.xe s
section
variable {X : Cx} {params : Arguments} {body : Expr} {scope : Scope} {e : Expr} {es : List Expr}
def tXcons (te : TE) (t : TX) : TX := fun σ H Q => te σ H fun x H1 => t σ H1 fun f c' vs H2 => Q f c' (x :: vs) H2
theorem px_cons {te : TE} {t : TX} (ha : PE X e te) (hr : PX X params body scope es t) (hs : starEach (e :: es) X.env = (false, eval e X.env) :: starEach es X.env := by rfl) : PX X params body scope (e :: es) (tXcons te t) := by
  refine ⟨fun pos pins s σ H Q I h => ?_⟩
  rw [hs]
  change wpAny _ _ (spliced ((false, eval e X.env) :: backTo pos (starEach es X.env))) _ _ s
  refine Calls.spliced_cons (thn (ha.run pins s σ H _ I h) fun u s1 ⟨x, H1, I1, r1, q1⟩ => thn (hr.run pos pins s1 σ H1 _ I1 q1) ?_)
  rintro us s2 ⟨f, c', fo, xs, H2, I2, la, r2, q2⟩
  exact ⟨f, c', fo, x :: xs, H2, I2, la, .cons r1 r2, q2⟩
def tXlam (T : List (Addr × Str)) (q : Str) (t : TA) : TX := fun σ H Q => Tabs T H ∧ ∀ f c' H1, ExtN H H1 → Tabs T H1 → H1 f = none → H1 c' = some (CodeO c' q) → t σ H1 fun vs H2 => Q f c' (.ref f :: vs) H2
theorem px_lam {T : List (Addr × Str)} {c P : Addr} {t : TA} {lpos : Pos} (TB : TabB X.base X.mg c P) (hcode : X.env.code = .ref c) (hmT : (P, X.env.qual ++ "<lambda>") ∈ T) (hu : ∀ p ∈ T, p.1 = P → p.2 = X.env.qual ++ "<lambda>")
    (hfree : ∀ y ∈ scope.names, y.2 = .free → X.env.scope.names.lookup y.1 = some .cell ∨ X.env.scope.names.lookup y.1 = some .free) (hdef : defaultsOf params X.env = ([], []))
    (hr : PA X es t) (hs : starEach (.Lambda params body scope lpos :: es) X.env = (false, eval (.Lambda params body scope lpos) X.env) :: starEach es X.env := by rfl) :
    PX X params body scope (.Lambda params body scope lpos :: es) (tXlam T (X.env.qual ++ "<lambda>") t) := by
  refine ⟨fun pos pins s σ H Q I h => ?_⟩
  obtain ⟨hT, h⟩ := h
  rw [hs]
  change wpAny _ _ (spliced ((false, eval (.Lambda params body scope lpos) X.env) :: backTo pos (starEach es X.env))) _ _ s
  have hf : ∀ y ∈ scope.names, y.2 = .free → ∃ c, X.env.cells.lookup y.1 = some c := fun y hy e =>
    (hfree y hy e).elim (fun z => I.ok.has _ (.inl z)) fun z => I.ok.has _ (.inr z)
  refine Calls.spliced_cons (lam_make2 I TB hcode hmT hu hT hdef hf fun f c' pm ctv H1 s1 I1 eN T1 of fn nf hco => ?_)
  have I2 : Inv X ((f, PySem.W.kla_obj "<lambda>" (X.env.qual ++ "<lambda>") params body scope (cloFrom X.env.cells scope.names []) pm c' ctv) :: pins) σ H1 s1 := by
    refine I1.pins_of fun p hp => ?_
    rcases List.mem_cons.mp hp with rfl | hp
    · refine ⟨of, fn, fun z => ?_, fun z => nf ?_, fun v z => by cases z⟩
      · obtain ⟨m, ⟨o', es, ep, ho, hd, _⟩, _⟩ := I1.loc
        rw [← z, of] at ho
        cases ho
        cases hd
      · rcases I1.ok.stk with e | ⟨e, hfr⟩
        · rw [e]; exact z
        · rw [e]
          unfold frs
          rw [List.filterMap_cons, hfr]
          exact List.mem_cons_of_mem _ z
    · exact I1.pin p (List.mem_append_right _ hp)
  refine thn (hr.run pos _ s1 σ H1 _ I2 (h f c' H1 eN T1 fn hco)) ?_
  rintro us s2 ⟨vs, H2, I3, r, q⟩
  exact ⟨f, c', _, .ref f :: vs, H2, I3, ⟨nf, pm, ctv, rfl⟩, .cons rfl r, q⟩
end

/-! ### the call -/
/-- what the base holds of a lambda -/
structure CloB (base : Heap) (params : Arguments) (body : Expr) (F : NF) (fr : List Str) (f : Addr) (ws : List (Option V)) : Prop where
  obj : ∃ pm ctv : Value, base.get? f = some (PySem.W.kla_obj "<lambda>" F.qual params body F.scope F.cl pm F.c ctv)
  cells : CellsAt F.cl fr ws base fun _ => none
theorem CellsAt.sub {cl : List (Str × Addr)} {fr : List Str} {ws : List (Option V)} {b b' : Heap} {H H' : Hp} (C : CellsAt cl fr ws b H) (h : Sub b b') (hn : ∀ a o, b.get? a = some o → H' a = none) : CellsAt cl fr ws b' H' := by
  have kp : ∀ {c : Addr} {v : Option Value}, b.IsCell c v → b'.IsCell c v := fun {c v} ⟨o, ho, hd⟩ => ⟨o, h _ _ ho, hd⟩
  refine ⟨C.len, fun y c e => ?_, C.inj, fun i y e => ?_⟩
  · obtain ⟨_, v, z⟩ := C.all y c e
    refine ⟨?_, v, kp z⟩
    obtain ⟨o, ho, _⟩ := z
    exact hn _ _ ho
  · obtain ⟨c, hc, hv⟩ := C.has i y e
    refine ⟨c, hc, fun v ev => ?_⟩
    obtain ⟨u, r, z⟩ := hv v ev
    exact ⟨u, r, kp z⟩
theorem CloB.sub {b b' : Heap} {params : Arguments} {body : Expr} {F : NF} {fr : List Str} {f : Addr} {ws : List (Option V)} (C : CloB b params body F fr f ws) (h : Sub b b') : CloB b' params body F fr f ws :=
  ⟨let ⟨pm, ctv, e⟩ := C.obj; ⟨pm, ctv, h _ _ e⟩, CellsAt.sub C.cells h fun _ _ _ => rfl⟩
/-- the words of a lambda that the frame X makes -/
abbrev lamF (X : Cx) (params : Arguments) (scope : Scope) (c' : Addr) : NF := ⟨"<lambda>", X.env.qual ++ "<lambda>", params, [], scope, cloFrom X.env.cells scope.names [], c'⟩
section
variable {X : Cx} {pins : List (Addr × Obj)} {σ : L2.St} {H : Hp} {s : Shared}
theorem env_clo {params : Arguments} {body : Expr} {scope : Scope} {f c' : Addr} {fo : Obj} {fr : List Str} {js : List Nat} (I : Inv X ((f, fo) :: pins) σ H s) (la : LamAt X params body scope f c' fo)
    (cp : Caps X (cloFrom X.env.cells scope.names []) fr js) (hnf : ∀ y c, (cloFrom X.env.cells scope.names []).lookup y = some c → c ∉ frs X.stack) :
    ∃ base', Sub X.base base' ∧ CloB base' params body (lamF X params scope c') fr f (js.map (slotAt σ)) ∧ Env0 X.prog X.w X.K X.mg base' X.A X.stack s H := by
  obtain ⟨nf, pm, ctv, rfl⟩ := la
  obtain ⟨p1, p2, _, _, _⟩ := I.pin (f, _) (List.mem_append_right _ List.mem_cons_self)
  have C := cells_of I cp
  have hm : ∀ y c, (cloFrom X.env.cells scope.names []).lookup y = some c → c ∈ (cloFrom X.env.cells scope.names []).map (·.2) := fun y c e => List.mem_map.mpr ⟨(y, c), PySem.mem_of_lookup e, rfl⟩
  have hm' : ∀ c, c ∈ ((cloFrom X.env.cells scope.names []).map (·.2)).filter (fun c => (cloFrom X.env.cells scope.names []).any fun q => decide ((cloFrom X.env.cells scope.names []).lookup q.1 = some c)) → ∃ y, (cloFrom X.env.cells scope.names []).lookup y = some c := fun c hc => by
    obtain ⟨_, h2⟩ := List.mem_filter.mp hc
    obtain ⟨q, _, hq⟩ := List.any_eq_true.mp h2
    exact ⟨q.1, of_decide_eq_true hq⟩
  obtain ⟨base', sb, hL, e0⟩ := env_more I (f :: ((cloFrom X.env.cells scope.names []).map (·.2)).filter (fun c => (cloFrom X.env.cells scope.names []).any fun q => decide ((cloFrom X.env.cells scope.names []).lookup q.1 = some c))) (fun b hb => by
    rcases List.mem_cons.mp hb with rfl | hb
    · exact ⟨p2, nf⟩
    · obtain ⟨y, hy⟩ := hm' b hb
      exact ⟨(C.all y b hy).1, hnf y b hy⟩)
  have mem : ∀ y c, (cloFrom X.env.cells scope.names []).lookup y = some c → base'.get? c = s.heap.get? c := fun y c e => hL c (List.mem_cons_of_mem _ (List.mem_filter.mpr ⟨hm y c e, List.any_eq_true.mpr ⟨(y, c), PySem.mem_of_lookup e, decide_eq_true e⟩⟩))
  have kp : ∀ y c, (cloFrom X.env.cells scope.names []).lookup y = some c → ∀ v, s.heap.IsCell c v → base'.IsCell c v := fun y c e v ⟨o, ho, hd⟩ => ⟨o, (mem y c e).trans ho, hd⟩
  refine ⟨base', sb, ⟨⟨pm, ctv, (hL f List.mem_cons_self).trans p1⟩, C.len, fun y c e => ⟨rfl, ?_⟩, C.inj, fun i y e => ?_⟩, e0⟩
  · obtain ⟨_, v, z⟩ := C.all y c e
    exact ⟨v, kp y c e v z⟩
  · obtain ⟨c, hc, hv⟩ := C.has i y e
    refine ⟨c, hc, fun v ev => ?_⟩
    obtain ⟨u, r, z⟩ := hv v ev
    exact ⟨u, r, kp y c hc _ z⟩
/-- cells are no frames -/
def CellNf (X : Cx) : Prop := ∀ (pins : List (Addr × Obj)) (σ : L2.St) (H : Hp) (s : Shared), Inv X pins σ H s → ∀ y c, X.env.cells.lookup y = some c → c ∉ frs X.stack
theorem cellNf_of (hfn : ∀ y, X.fn y = true) : CellNf X := fun pins σ H s I y c e hb => by
  rcases List.mem_cons.mp (I.stkSub c hb) with z | z
  · exact I.cne y c e z
  · obtain ⟨_, o, ho, _⟩ := I.ok.funs.mem z
    exact Nat.lt_irrefl _ (Nat.lt_of_lt_of_le (Heap.lt_size ho) (I.ok.cab y c (hfn y) e))
end

/-- x(.., lambda: .., ..) -/
def tCallX (js : List Nat) (sp : Addr → Addr → List (Option V) → Sp) (E : L2.St → XK) (t : TX) : TE := fun σ H Q => t σ H fun f c' vs H1 => sp f c' (js.map (slotAt σ)) vs H1 Q (E σ)
section
variable {X : Cx} {CX : CXT} {k : Nat} {g : Addr} {fd : FuncData} {ps fr : List Str} {js : List Nat} {params : Arguments} {body : Expr} {scope : Scope} {sp : Addr → Addr → List (Option V) → Sp} {E : L2.St → XK} {x : Str} {p pos : Pos} {e : Expr} {es : List Expr} {t : TX}
theorem pe_callX (F : ∀ f c' ws base', Sub X.base base' → Mod X.K X.mg base' → CloB base' params body (lamF X params scope c') fr f ws → FnOk X.prog X.w X.K X.mg base' CX k g fd ps (sp f c' ws)) (hr : Room k X.A) (nf : CellNf X)
    (cp : X.Ok → Caps X (cloFrom X.env.cells scope.names []) fr js) (hg : Gl X x) (hm : X.mg x = some (.ref g)) (hk : PySem.W.keepIn X.K (.ref g) = true) (hb : Binds X.K fd ps []) (hx : ∀ σ, PassesAt CX X σ (E σ))
    (ha : PX X params body scope (e :: es) t) (hdb : (x == ("__debug__" : Str)) = false := by decide) (he : starEach (e :: es) X.env = (false, eval e X.env) :: starEach es X.env := by rfl) (hpl : (backTo pos (starEach es X.env)).any (·.1) = false := by rfl) :
    PE X (.Call (.Name x p) (e :: es) [] pos) (tCallX js sp E t) := by
  refine ⟨fun pins s σ H Q I h => ?_⟩
  refine wpAny_Call_Name_kw (ld_glob I hg hm ?_ hdb)
  refine PySem.W.callWith_K (h₀ := X.base) I.ok.mod.kin hk (thn (ha.run pos pins s σ H _ I h) ?_) he hpl
  rintro us s1 ⟨f, c', fo, vs, H1, I1, la, r, q⟩
  refine ⟨I1.kIn, ?_⟩
  obtain ⟨base', sb, cb, e0⟩ := env_clo I1 la (cp I1.ok) fun y c e => nf _ _ _ _ I1 y c ((cp I1.ok).sub y c e)
  have hF := F f c' _ base' sb e0.mod cb
  have hl : us.length = ps.length := by rw [← r.length]; exact hF.len _ _ _ _ q
  have I0 : Inv X pins σ H1 s1 := I1.pins_of fun p hp => I1.pin p (List.mem_append_right _ (List.mem_cons_of_mem _ hp))
  refine wpAny_call (codeAny_mono (hF.run X.A X.stack s1 H1 ⟨us, []⟩ us vs Q (E σ) hr e0 (by have := hb s1 us I1.kIn (by simpa using hl); simpa using this) r q) fun r2 s' hq => ?_)
  match r2, hq with
  | .error u, hq => exact hx σ pins H1 s1 u s' I0 hq
  | .ok (.ret u), hq => exact I0.after hq
  | .ok .next, hq => exact False.elim hq
  | .ok .brk, hq => exact False.elim hq
  | .ok .cont, hq => exact False.elim hq
end

/-! ### the lambda as a function over a base -/
theorem lam_ok {CX : CXT} {P : Program} {w : World} {K : PySem.W.Frag} {mg : Str → Option Value} {base : Heap} {k : Nat} {params : Arguments} {body : Expr} {F : NF} {N ps fr : List Str} {f : Addr} {ws : List (Option V)} {pm ctv : Value} {sp : Sp}
    (S : NScope N ps fr F.scope) (ob : base.get? f = some (PySem.W.kla_obj "<lambda>" F.qual params body F.scope F.cl pm F.c ctv)) (C : CellsAt F.cl fr ws base fun _ => none) (len : ∀ vs H Q E, sp vs H Q E → vs.length = ps.length)
    (hcode : ∀ vs H Q E, sp vs H Q E → H F.c = some (CodeO F.c F.qual))
    (hbody : ∀ (A : Around) (outer : List Env) (s : Shared) (H : Hp) (vs : List V) (Q : VK) (E : XK), Room k (A.deeper (envF F f s.heap.objs.size)) → sp vs H Q E →
      ∃ t, PE (ncx CX P w K mg base N F f A outer s H E) body t ∧ t (startF N vs ws) H Q) :
    FnOk P w K mg base CX (k + 1) f (PySem.W.kla_fn "<lambda>" F.qual params body F.scope F.cl pm (.ref F.c) ctv) ps sp := by
  refine ⟨len, fun A outer s H args us vs Q E hr e0 hb r hsp => ?_⟩
  have hl := len _ _ _ _ hsp
  have lim : s.heap.NoLimit := e0.mod.nolimit.keeps fun b o e => (e0.bs b o e).1
  have of := (e0.bs _ _ ob).1
  refine PySem.W.kla_callFunE hr.depth of rfl S.co S.gen rfl (codeO_at e0.hok (hcode _ _ _ _ hsp)) ?_
  refine hb _ _ _ _ ?_
  refine wpAny_newFunctionEnv S.nocell (fun y hy => S.par y.1 (List.of_mem_zip hy).1) (fun h₁ hns hsb => ⟨lim.fresh _ hsb, ?_⟩) S.kind
  change codeAny _ _ (.expr body (envF F f s.heap.objs.size)) _ _
  have kp : ∀ b o, s.heap.get? b = some o → h₁.get? b = some o := fun b o e => hsb.extBut b o (Nat.ne_of_lt (Heap.lt_size e)) (Heap.get?_push_of_some _ e)
  obtain ⟨t, ht, hq⟩ := hbody A outer s H vs Q E (hr.deeper _) hsp
  have I : Inv (ncx CX P w K mg base N F f A outer s H E) [] (startF N vs ws) H { s with heap := h₁, toks := s.toks + (ps.zip us).length } :=
    inv_startN S hr.hd e0 hl r (CellsAt.sub C (fun b o e => (e0.bs b o e).1) fun b o e => (e0.bs b o e).2) hns kp
  refine PySem.W.kla_codeExpr (wpAny_mono (ht.run [] _ _ H _ I hq) ?_ fun _ _ hs => hs)
  rintro u s' ⟨v, H', J, rv, q⟩
  exact ⟨v, H', J.os, J.bare, J.base, J.hok, rv, q⟩
/-! ### a name that holds a function of the base, called -/
def tCallB (i : Nat) (f : Addr) (sp : Sp) (E : L2.St → XK) (t : TA) : TE := fun σ H Q => σ[i]? = some (some (.ref f)) ∧ t σ H fun vs H1 => sp vs H1 Q (E σ)
section
variable {X : Cx} {CX : CXT} {k i : Nat} {f : Addr} {fd : FuncData} {oc : Value} {od : Option Addr} {sl : Array (Option Value)} {ps : List Str} {sp : Sp} {E : L2.St → XK} {x : Str} {p pos : Pos} {e : Expr} {es : List Expr} {t : TA}
theorem run_B {pins : List (Addr × Obj)} {σ : L2.St} {H : Hp} {s : Shared} {Q : VK} {us : List Value} {vs : List V} (F : FnOk X.prog X.w X.K X.mg X.base CX k f fd ps sp) (hr : Room k X.A) (hb : ∀ (s : Shared) (us : List Value), X.K.In s.heap → us.length = ps.length → BindsTo s fd ⟨us, []⟩ (ps.zip us)) (hx : ∀ σ, PassesAt CX X σ (E σ))
    (I : Inv X pins σ H s) (r : Vals vs us) (h : sp vs H Q (E σ)) : wpAny (model X.prog X.w) X.A (call (.ref f) us) (EP X pins σ Q) X.xe s := by
  have hl : us.length = ps.length := by rw [← r.length]; exact F.len _ _ _ _ h
  refine wpAny_call (codeAny_mono (F.run X.A X.stack s H ⟨us, []⟩ us vs Q (E σ) hr I.env0 (hb s us I.kIn hl) r h) fun r2 s' hq => ?_)
  match r2, hq with
  | .error u, hq => exact hx σ pins H s u s' I hq
  | .ok (.ret u), hq => exact I.after hq
  | .ok .next, hq => exact False.elim hq
  | .ok .brk, hq => exact False.elim hq
  | .ok .cont, hq => exact False.elim hq
theorem pe_callB1 (F : FnOk X.prog X.w X.K X.mg X.base CX k f fd ps sp) (ob : X.base.get? f = some ⟨oc, od, .func fd, sl⟩) (hr : Room k X.A) (hb : ∀ (s : Shared) (us : List Value), X.K.In s.heap → us.length = ps.length → BindsTo s fd ⟨us, []⟩ (ps.zip us)) (hx : ∀ σ, PassesAt CX X σ (E σ)) (hN : X.N[i]? = some x) (hv : Vis X.env.scope x)
    (ha : PA X (e :: es) t) (hd : (x == ("__debug__" : Str)) = false := by decide) (hcd : (x == ("__classdict__" : Str)) = false := by decide)
    (he : starEach (e :: es) X.env = (false, eval e X.env) :: starEach es X.env := by rfl) (hpl : (backTo pos (starEach es X.env)).any (·.1) = false := by rfl) :
    PE X (.Call (.Name x p) (e :: es) [] pos) (tCallB i f sp E t) := by
  refine ⟨fun pins s σ H Q I h => ?_⟩
  obtain ⟨hs, ht⟩ := h
  refine wpAny_Call_Name_kw (thn ((pe_var (pos := p) hN hv hd hcd).run pins s σ H (fun v H1 => v = .ref f ∧ H1 = H) I ⟨.ref f, hs, rfl, rfl⟩) ?_)
  rintro u s1 ⟨v, H1, I1, r1, rfl, rfl⟩
  cases r1
  refine PySem.W.callWith_F (first := []) ⟨_, _, _, _, I1.bk _ _ ob⟩ (thn (ha.run pos pins s1 σ _ _ I1 ht) ?_) he hpl
  rintro us s2 ⟨vs, H2, I2, r, q⟩
  exact ⟨⟨_, _, _, _, I2.bk _ _ ob⟩, run_B F hr hb hx I2 r q⟩
theorem pe_callB0 (F : FnOk X.prog X.w X.K X.mg X.base CX k f fd ps sp) (ob : X.base.get? f = some ⟨oc, od, .func fd, sl⟩) (hr : Room k X.A) (hb : ∀ (s : Shared) (us : List Value), X.K.In s.heap → us.length = ps.length → BindsTo s fd ⟨us, []⟩ (ps.zip us)) (hx : ∀ σ, PassesAt CX X σ (E σ)) (hN : X.N[i]? = some x) (hv : Vis X.env.scope x)
    (hd : (x == ("__debug__" : Str)) = false := by decide) (hcd : (x == ("__classdict__" : Str)) = false := by decide) :
    PE X (.Call (.Name x p) [] [] pos) (tCallB i f sp E tNil) := by
  refine ⟨fun pins s σ H Q I h => ?_⟩
  obtain ⟨hs, ht⟩ := h
  refine wpAny_Call_Name_kw (thn ((pe_var (pos := p) hN hv hd hcd).run pins s σ H (fun v H1 => v = .ref f ∧ H1 = H) I ⟨.ref f, hs, rfl, rfl⟩) ?_)
  rintro u s1 ⟨v, H1, I1, r1, rfl, rfl⟩
  cases r1
  exact PySem.W.callWith_F0 (first := []) ⟨_, _, _, _, I1.bk _ _ ob⟩ (run_B F hr hb hx I1 .nil ht)
end
end DL

set_option Elab.async false
set_option linter.all false
set_option maxRecDepth 100000
set_option maxHeartbeats 1000000
/-! DLCore: data without addresses, stores of mutable objects, what a value stands for; readings by plain functions -/
namespace DL
open PySem PySem.Spec PyProof.Rows L2

/-- data: fn x a def or class of the module; scr the law's own script -/
inductive D where
  | non | bl (b : Bool) | int (i : Int) | str (s : Str) | tup (ds : List D) | lst (ds : List D) | fn (x : Str) | scr (ns : List Int)
instance : Inhabited D := ⟨.non⟩
/-- a function that was handed on: its address; what was known where it was made -/
structure CTok where
  f : Addr
  G : Hp
  θ : List Addr
/-- what a name holds: data, the n-th mutable object of the store, or a function that was handed on -/
inductive Sl where
  | d (x : D) | ob (n : Nat) | clo (t : CTok)
/-- a mutable object -/
inductive MO where
  | lst (ds : List D) | ins (c : Str) (fs : List (Str × D))
abbrev Store := List MO
abbrev Rho := List (Option Sl)
/-- the tables of code objects: where they stand, the name that they tell -/
class TabCtx where
  T : List (Addr × Str)
variable [TabCtx]

/-- all but the tables of code objects stays -/
def Ext (G G' : Hp) : Prop := ∀ p o, G p = some o → (∀ ps, o ≠ .tbl ps) → G' p = some o
theorem Ext.refl (G : Hp) : Ext G G := fun _ _ h _ => h
theorem Ext.trans {G G1 G2 : Hp} (a : Ext G G1) (b : Ext G1 G2) : Ext G G2 := fun p o h n => b p o (a p o h n) n
theorem Ext.of {G G' : Hp} (h : ∀ p o, G p = some o → G' p = some o) : Ext G G' := fun p o e _ => h p o e
/-- the known places stay -/
def Pre (θ θ' : List Addr) : Prop := ∀ (n : Nat) (a : Addr), θ[n]? = some a → θ'[n]? = some a
theorem Pre.refl (θ : List Addr) : Pre θ θ := fun _ _ h => h
theorem Pre.trans {a b c : List Addr} (h : Pre a b) (k : Pre b c) : Pre a c := fun n x e => k n x (h n x e)
theorem Pre.app (θ t : List Addr) : Pre θ (θ ++ t) := fun n a e => by
  rw [List.getElem?_append_left (List.getElem?_eq_some_iff.mp e).1]; exact e
theorem Pre.nil (θ : List Addr) : Pre [] θ := fun n a e => by simp at e

mutual
inductive Rep (mg : Str → Option Value) (K : PySem.W.Frag) (G : Hp) : D → V → Prop
  | non : Rep mg K G .non .non
  | bl {b} : Rep mg K G (.bl b) (.bl b)
  | int {i} : Rep mg K G (.int i) (.int i)
  | str {s} : Rep mg K G (.str s) (.str s)
  | tup {a xs ds} : G a = some (.tup xs) → RepL mg K G ds xs → Rep mg K G (.tup ds) (.ref a)
  | lst {a xs ds} : G a = some (.lst xs) → RepL mg K G ds xs → Rep mg K G (.lst ds) (.ref a)
  | fn {x a} : mg x = some (.ref a) → Rep mg K G (.fn x) (.ref a)
  | scr {a ns} : SqL K G a (ns.map V.int) → Rep mg K G (.scr ns) (.ref a)
inductive RepL (mg : Str → Option Value) (K : PySem.W.Frag) (G : Hp) : List D → List V → Prop
  | nil : RepL mg K G [] []
  | cons {d v ds vs} : Rep mg K G d v → RepL mg K G ds vs → RepL mg K G (d :: ds) (v :: vs)
end
inductive RepSl (mg : Str → Option Value) (K : PySem.W.Frag) (G : Hp) (θ : List Addr) : Sl → V → Prop
  | d {x v} : Rep mg K G x v → RepSl mg K G θ (.d x) v
  | ob {n a} : θ[n]? = some a → RepSl mg K G θ (.ob n) (.ref a)
  | clo {t : CTok} : Ext t.G G → Pre t.θ θ → RepSl mg K G θ (.clo t) (.ref t.f)
inductive RepA (mg : Str → Option Value) (K : PySem.W.Frag) (G : Hp) (θ : List Addr) : List Sl → List V → Prop
  | nil : RepA mg K G θ [] []
  | cons {d v ds vs} : RepSl mg K G θ d v → RepA mg K G θ ds vs → RepA mg K G θ (d :: ds) (v :: vs)

section
variable {mg : Str → Option Value} {K : PySem.W.Frag} {G G' : Hp} {θ θ' : List Addr}
theorem SqL.ext {a : Addr} {xs : List V} (e : Ext G G') (h : SqL K G a xs) : SqL K G' a xs := by
  rcases h with (h | ⟨o, h⟩) | h
  · exact .inl (.inl (e _ _ h fun ps z => by cases z))
  · exact .inl (.inr ⟨o, e _ _ h fun ps z => by cases z⟩)
  · exact .inr h
mutual
theorem Rep.ext (e : Ext G G') : ∀ {d v}, Rep mg K G d v → Rep mg K G' d v
  | _, _, .non => .non
  | _, _, .bl => .bl
  | _, _, .int => .int
  | _, _, .str => .str
  | _, _, .tup h l => .tup (e _ _ h fun ps z => by cases z) (RepL.ext e l)
  | _, _, .lst h l => .lst (e _ _ h fun ps z => by cases z) (RepL.ext e l)
  | _, _, .fn h => .fn h
  | _, _, .scr h => .scr (SqL.ext e h)
theorem RepL.ext (e : Ext G G') : ∀ {ds vs}, RepL mg K G ds vs → RepL mg K G' ds vs
  | _, _, .nil => .nil
  | _, _, .cons h l => .cons (Rep.ext e h) (RepL.ext e l)
end
theorem RepSl.ext (e : Ext G G') (p : Pre θ θ') : ∀ {s v}, RepSl mg K G θ s v → RepSl mg K G' θ' s v
  | _, _, .d h => .d (h.ext e)
  | _, _, .ob h => .ob (p _ _ h)
  | _, _, .clo h k => .clo (h.trans e) (k.trans p)
theorem RepA.ext (e : Ext G G') (p : Pre θ θ') : ∀ {s v}, RepA mg K G θ s v → RepA mg K G' θ' s v
  | _, _, .nil => .nil
  | _, _, .cons h l => .cons (h.ext e p) (RepA.ext e p l)
theorem RepA.length : ∀ {ds vs}, RepA mg K G θ ds vs → ds.length = vs.length
  | _, _, .nil => rfl
  | _, _, .cons _ l => by simp [RepA.length l]
theorem RepA.get : ∀ {ds vs} (i : Nat) {d}, RepA mg K G θ ds vs → ds[i]? = some d → ∃ v, vs[i]? = some v ∧ RepSl mg K G θ d v
  | _, _, i, d, .nil, e => by simp at e
  | _, _, 0, d, .cons h _, e => by simp at e; subst e; exact ⟨_, by simp, h⟩
  | _, _, i + 1, d, .cons _ l, e => by
    obtain ⟨v, h1, h2⟩ := RepA.get i (d := d) l (by simpa using e)
    exact ⟨v, by simpa using h1, h2⟩
theorem RepL.toA : ∀ {ds vs}, RepL mg K G ds vs → RepA mg K G θ (ds.map Sl.d) vs
  | _, _, .nil => .nil
  | _, _, .cons h l => .cons (.d h) (RepL.toA l)
theorem RepA.toL : ∀ {ds : List D} {vs}, RepA mg K G θ (ds.map Sl.d) vs → RepL mg K G ds vs
  | [], _, .nil => .nil
  | _ :: _, _, .cons (.d h) l => .cons h (RepA.toL l)
theorem RepL.length : ∀ {ds vs}, RepL mg K G ds vs → ds.length = vs.length
  | _, _, .nil => rfl
  | _, _, .cons _ l => by simp [RepL.length l]
theorem RepL.get : ∀ {ds vs} (i : Nat) {d}, RepL mg K G ds vs → ds[i]? = some d → ∃ v, vs[i]? = some v ∧ Rep mg K G d v
  | _, _, i, d, .nil, e => by simp at e
  | _, _, 0, d, .cons h _, e => by simp at e; subst e; exact ⟨_, by simp, h⟩
  | _, _, i + 1, d, .cons _ l, e => by
    obtain ⟨v, h1, h2⟩ := RepL.get i (d := d) l (by simpa using e)
    exact ⟨v, by simpa using h1, h2⟩
theorem RepL.getV : ∀ {ds vs} (i : Nat) {v}, RepL mg K G ds vs → vs[i]? = some v → ∃ d, ds[i]? = some d ∧ Rep mg K G d v
  | _, _, i, d, .nil, e => by simp at e
  | _, _, 0, d, .cons h _, e => by simp at e; subst e; exact ⟨_, by simp, h⟩
  | _, _, i + 1, d, .cons _ l, e => by
    obtain ⟨v, h1, h2⟩ := RepL.getV i (v := d) l (by simpa using e)
    exact ⟨v, by simpa using h1, h2⟩
theorem RepL.append : ∀ {ds vs es ws}, RepL mg K G ds vs → RepL mg K G es ws → RepL mg K G (ds ++ es) (vs ++ ws)
  | _, _, _, _, .nil, h => h
  | _, _, _, _, .cons h l, k => .cons h (RepL.append l k)
theorem RepL.take : ∀ {ds vs} (n : Nat), RepL mg K G ds vs → RepL mg K G (ds.take n) (vs.take n)
  | _, _, 0, _ => .nil
  | _, _, n + 1, .nil => .nil
  | _, _, n + 1, .cons h l => .cons h (RepL.take n l)
theorem RepL.drop : ∀ {ds vs} (n : Nat), RepL mg K G ds vs → RepL mg K G (ds.drop n) (vs.drop n)
  | _, _, 0, h => h
  | _, _, n + 1, .nil => .nil
  | _, _, n + 1, .cons h l => RepL.drop n l
theorem RepL.set {d v} (r : Rep mg K G d v) : ∀ {ds vs} (n : Nat), RepL mg K G ds vs → RepL mg K G (ds.set n d) (vs.set n v)
  | _, _, _, .nil => .nil
  | _, _, 0, .cons h l => .cons r l
  | _, _, n + 1, .cons h l => .cons h (RepL.set r n l)
theorem RepL.eraseIdx : ∀ {ds vs} (n : Nat), RepL mg K G ds vs → RepL mg K G (ds.eraseIdx n) (vs.eraseIdx n)
  | _, _, _, .nil => .nil
  | _, _, 0, .cons h l => l
  | _, _, n + 1, .cons h l => .cons h (RepL.eraseIdx n l)
theorem RepL.rev : ∀ {ds vs}, RepL mg K G ds vs → RepL mg K G ds.reverse vs.reverse
  | _, _, .nil => .nil
  | _, _, .cons h l => by rw [List.reverse_cons, List.reverse_cons]; exact (RepL.rev l).append (.cons h .nil)
theorem RepL.ints : ∀ (ns : List Int), RepL mg K G (ns.map D.int) (ns.map V.int)
  | [] => .nil
  | n :: r => .cons .int (RepL.ints r)
theorem RepL.ints_inv : ∀ {ns : List Int} {vs}, RepL mg K G (ns.map D.int) vs → vs = ns.map V.int
  | [], _, .nil => rfl
  | n :: r, _, .cons .int l => by rw [RepL.ints_inv l]; rfl
end

/-- the heap without the mutable and hidden -/
def hid (H : Hp) (S : List Addr) : Hp := fun p => if p ∈ S then none else H p
theorem hid_in {H : Hp} {S : List Addr} {p : Addr} (h : p ∈ S) : hid H S p = none := by unfold hid; rw [if_pos h]
theorem hid_out {H : Hp} {S : List Addr} {p : Addr} (h : p ∉ S) : hid H S p = H p := by unfold hid; rw [if_neg h]
theorem hid_some {H : Hp} {S : List Addr} {p : Addr} {o : HO} (h : hid H S p = some o) : p ∉ S ∧ H p = some o := by
  unfold hid at h; split at h
  · cases h
  · exact ⟨by assumption, h⟩

/-- an instance's attributes -/
inductive RepF (mg : Str → Option Value) (K : PySem.W.Frag) (G : Hp) : List (Str × D) → List (Str × V) → Prop
  | nil : RepF mg K G [] []
  | cons {f d v fs vs} : Rep mg K G d v → RepF mg K G fs vs → RepF mg K G ((f, d) :: fs) ((f, v) :: vs)
theorem RepF.ext {mg : Str → Option Value} {K : PySem.W.Frag} {G G' : Hp} (e : Ext G G') : ∀ {fs vs}, RepF mg K G fs vs → RepF mg K G' fs vs
  | _, _, .nil => .nil
  | _, _, .cons h l => .cons (h.ext e) (RepF.ext e l)
def MOk (mg : Str → Option Value) (K : PySem.W.Frag) (H G : Hp) (a : Addr) : MO → Prop
  | .lst ds => ∃ xs, H a = some (.lst xs) ∧ RepL mg K G ds xs
  | .ins c fs => ∃ C dx fvs, mg c = some (.ref C) ∧ H a = some (.ins C dx fvs) ∧ RepF mg K G fs fvs
/-- no table, no other thing -/
def Plain (o : HO) : Prop := (∀ ps, o ≠ .tbl ps) ∧ ∀ φ, o ≠ .ext φ
theorem plain_lst {xs : List V} : Plain (.lst xs) := ⟨(fun _ z => by cases z), (fun _ z => by cases z)⟩
theorem plain_tup {xs : List V} : Plain (.tup xs) := ⟨(fun _ z => by cases z), (fun _ z => by cases z)⟩
theorem plain_ins {C dx : Addr} {fs : List (Str × V)} : Plain (.ins C dx fs) := ⟨(fun _ z => by cases z), (fun _ z => by cases z)⟩
theorem tabs_at {T : List (Addr × Str)} {H H' : Hp} {a : Addr} (t : LamX.Tabs T H) (h : ∀ u, H a = some u → Plain u) (e : ∀ b, b ≠ a → H' b = H b) : LamX.Tabs T H' := fun p hp => by
  obtain ⟨ps, h1, h2, h3⟩ := t p hp
  have n1 : p.1 ≠ a := fun z => (h _ (by rw [← z]; exact h1)).1 ps rfl
  refine ⟨ps, by rw [e _ n1]; exact h1, h2, fun pos cv hc => ?_⟩
  obtain ⟨c, e1, e2⟩ := h3 pos cv hc
  exact ⟨c, e1, by rw [e _ fun z => (h _ (by rw [← z]; exact e2)).2 _ rfl]; exact e2⟩
theorem tabs_set {T : List (Addr × Str)} {H : Hp} {a : Addr} {o : HO} (t : LamX.Tabs T H) (h : ∀ u, H a = some u → Plain u) : LamX.Tabs T (upd H a o) := tabs_at t h fun b hb => upd_ne hb
theorem tabs_new {T : List (Addr × Str)} {H : Hp} {a : Addr} {o : HO} (t : LamX.Tabs T H) (h : H a = none) : LamX.Tabs T (upd H a o) := tabs_set t fun u e => by rw [h] at e; cases e
structure StOk (mg : Str → Option Value) (K : PySem.W.Frag) (η : List Addr) (H : Hp) (θ : List Addr) (μ : Store) : Prop where
  dom : ∀ p ∈ η, H p ≠ none
  len : θ.length = μ.length
  nd : θ.Nodup
  dj : ∀ p ∈ θ, p ∉ η
  at_ : ∀ (n : Nat) (a : Addr) (o : MO), θ[n]? = some a → μ[n]? = some o → MOk mg K H (hid H (θ ++ η)) a o
  tab : LamX.Tabs TabCtx.T H
  pl : ∀ p ∈ η, ∀ o, H p = some o → Plain o
section
variable {mg : Str → Option Value} {K : PySem.W.Frag} {η : List Addr} {H H1 H2 H' : Hp} {θ θ1 θ2 θ' : List Addr} {μ μ1 μ2 μ' : Store}
theorem MOk.ne {G : Hp} {a : Addr} {o : MO} (h : MOk mg K H G a o) : H a ≠ none := by
  cases o with
  | lst ds => obtain ⟨xs, e, _⟩ := h; rw [e]; simp
  | ins c fs => obtain ⟨C, dx, fvs, _, e, _⟩ := h; rw [e]; simp
theorem MOk.pl {G : Hp} {a : Addr} {o : MO} (h : MOk mg K H G a o) : ∀ u, H a = some u → Plain u := fun u e => by
  cases o with
  | lst ds => obtain ⟨xs, e1, _⟩ := h; rw [e] at e1; cases e1; exact plain_lst
  | ins c fs => obtain ⟨C, dx, fvs, _, e1, _⟩ := h; rw [e] at e1; cases e1; exact plain_ins
theorem MOk.ext {G G' : Hp} {a : Addr} {o : MO} (h : MOk mg K H G a o) (e : Ext G G') (k : H' a = H a) : MOk mg K H' G' a o := by
  cases o with
  | lst ds => obtain ⟨xs, e1, r⟩ := h; exact ⟨xs, by rw [k]; exact e1, r.ext e⟩
  | ins c fs => obtain ⟨C, dx, fvs, m, e1, r⟩ := h; exact ⟨C, dx, fvs, m, by rw [k]; exact e1, r.ext e⟩
theorem StOk.tracked (s : StOk mg K η H θ μ) {a : Addr} (h : a ∈ θ) : H a ≠ none := by
  obtain ⟨n, hn, e⟩ := List.getElem_of_mem h
  have h1 : θ[n]? = some a := by rw [List.getElem?_eq_getElem hn, e]
  have hl : n < μ.length := by rw [← s.len]; exact hn
  exact (s.at_ n a _ h1 (List.getElem?_eq_getElem hl)).ne
theorem StOk.plain (s : StOk mg K η H θ μ) {a : Addr} (h : a ∈ θ ++ η) : ∀ u, H a = some u → Plain u := by
  rcases List.mem_append.mp h with h | h
  · obtain ⟨n, hn, e⟩ := List.getElem_of_mem h
    have h1 : θ[n]? = some a := by rw [List.getElem?_eq_getElem hn, e]
    have hl : n < μ.length := by rw [← s.len]; exact hn
    exact (s.at_ n a _ h1 (List.getElem?_eq_getElem hl)).pl
  · exact s.pl a h
theorem StOk.fresh (s : StOk mg K η H θ μ) {p : Addr} (h : H p = none) : p ∉ θ ++ η := fun m => by
  rcases List.mem_append.mp m with m | m
  · exact s.tracked m h
  · exact s.dom p m h
theorem StOk.fresh1 (s : StOk mg K η H θ μ) {p : Addr} (h : H p = none) : p ∉ θ := fun m => s.fresh h (List.mem_append_left _ m)
theorem StOk.fresh2 (s : StOk mg K η H θ μ) {p : Addr} (h : H p = none) : p ∉ η := fun m => s.fresh h (List.mem_append_right _ m)
theorem StOk.lookup (s : StOk mg K η H θ μ) {n : Nat} {a : Addr} (h : θ[n]? = some a) : ∃ o, μ[n]? = some o ∧ MOk mg K H (hid H (θ ++ η)) a o := by
  have hl : n < μ.length := by rw [← s.len]; exact (List.getElem?_eq_some_iff.mp h).1
  exact ⟨_, List.getElem?_eq_getElem hl, s.at_ n a _ h (List.getElem?_eq_getElem hl)⟩

structure Step (mg : Str → Option Value) (K : PySem.W.Frag) (η : List Addr) (H : Hp) (θ : List Addr) (H' : Hp) (θ' : List Addr) (μ' : Store) : Prop where
  ext : Ext (hid H (θ ++ η)) (hid H' (θ' ++ η))
  pre : Pre θ θ'
  fix : ∀ p ∈ η, H' p = H p
  ok : StOk mg K η H' θ' μ'
theorem Step.refl (s : StOk mg K η H θ μ) : Step mg K η H θ H θ μ := ⟨Ext.refl _, Pre.refl _, fun _ _ => rfl, s⟩
theorem Step.trans (a : Step mg K η H θ H1 θ1 μ1) (b : Step mg K η H1 θ1 H2 θ2 μ2) : Step mg K η H θ H2 θ2 μ2 :=
  ⟨a.ext.trans b.ext, a.pre.trans b.pre, fun p h => (b.fix p h).trans (a.fix p h), b.ok⟩
/-- a new object that is not the store's -/
theorem StOk.new (s : StOk mg K η H θ μ) {p : Addr} {o : HO} (h : H p = none) : Step mg K η H θ (upd H p o) θ μ := by
  have e : Ext (hid H (θ ++ η)) (hid (upd H p o) (θ ++ η)) := Ext.of fun b u q => by
    obtain ⟨q1, q2⟩ := hid_some q
    rw [hid_out q1, upd_ne (ne_of_none q2 h)]; exact q2
  have ne : ∀ b, H b ≠ none → b ≠ p := fun b q z => by rw [z] at q; exact q h
  refine ⟨e, Pre.refl _, fun b q => upd_ne (ne b (s.dom b q)), ⟨fun b q => by rw [upd_ne (ne b (s.dom b q))]; exact s.dom b q, s.len, s.nd, s.dj, fun n a o' h1 h2 => ?_, ?_, ?_⟩⟩
  · exact (s.at_ n a o' h1 h2).ext e (upd_ne (ne a (s.tracked (List.mem_of_getElem? h1))))
  · exact tabs_new s.tab h
  · exact fun b q u e1 => s.pl b q u (by rw [← e1, upd_ne (ne b (s.dom b q))])
/-- a new object of the store -/
theorem StOk.newOb (s : StOk mg K η H θ μ) {p : Addr} {o : HO} {m : MO} (h : H p = none) (hm : ∀ G', Ext (hid H (θ ++ η)) G' → MOk mg K (upd H p o) G' p m) : Step mg K η H θ (upd H p o) (θ ++ [p]) (μ ++ [m]) := by
  have ne : ∀ b, H b ≠ none → b ≠ p := fun b q z => by rw [z] at q; exact q h
  have e : Ext (hid H (θ ++ η)) (hid (upd H p o) ((θ ++ [p]) ++ η)) := Ext.of fun b u q => by
    obtain ⟨q1, q2⟩ := hid_some q
    have nb := ne_of_none q2 h
    rw [hid_out (fun z => ?_), upd_ne nb]
    · exact q2
    · rcases List.mem_append.mp z with z | z
      · rcases List.mem_append.mp z with z | z
        · exact q1 (List.mem_append_left _ z)
        · exact nb (by simpa using z)
      · exact q1 (List.mem_append_right _ z)
  refine ⟨e, Pre.app _ _, fun b q => upd_ne (ne b (s.dom b q)), ⟨fun b q => by rw [upd_ne (ne b (s.dom b q))]; exact s.dom b q, by simp [s.len], ?_, ?_, fun n a o' h1 h2 => ?_, tabs_new s.tab h, fun b q u e1 => s.pl b q u (by rw [← e1, upd_ne (ne b (s.dom b q))])⟩⟩
  · refine List.nodup_append.mpr ⟨s.nd, by simp, fun a ha b hb => ?_⟩
    have : b = p := by simpa using hb
    subst this
    exact ne a (s.tracked ha)
  · intro b hb
    rcases List.mem_append.mp hb with hb | hb
    · exact s.dj b hb
    · have : b = p := by simpa using hb
      subst this
      exact s.fresh2 h
  · by_cases hn : n < θ.length
    · rw [List.getElem?_append_left hn] at h1
      rw [List.getElem?_append_left (by rw [← s.len]; exact hn)] at h2
      exact (s.at_ n a o' h1 h2).ext e (upd_ne (ne a (s.tracked (List.mem_of_getElem? h1))))
    · have hn' : n = θ.length := by
        have := (List.getElem?_eq_some_iff.mp h1).1
        simp at this; omega
      subst hn'
      have h1' : p = a := by simpa using h1
      have h2' : m = o' := by
        rw [s.len] at h2
        simpa using h2
      subst h1' h2'
      exact hm _ e
/-- an object of the store changes -/
theorem StOk.setOb (s : StOk mg K η H θ μ) {n : Nat} {a : Addr} {o : HO} {m : MO} (h : θ[n]? = some a) (hm : MOk mg K (upd H a o) (hid H (θ ++ η)) a m) : Step mg K η H θ (upd H a o) θ (μ.set n m) := by
  have ha : a ∈ θ := List.mem_of_getElem? h
  have e : hid (upd H a o) (θ ++ η) = hid H (θ ++ η) := by
    funext b
    by_cases hb : b ∈ θ ++ η
    · rw [hid_in hb, hid_in hb]
    · rw [hid_out hb, hid_out hb, upd_ne (fun z => hb (by rw [z]; exact List.mem_append_left _ ha))]
  have neη : ∀ b ∈ η, b ≠ a := fun b q z => s.dj a ha (by rw [← z]; exact q)
  refine ⟨by rw [e]; exact Ext.refl _, Pre.refl _, fun b q => upd_ne (neη b q), ⟨fun b q => by rw [upd_ne (neη b q)]; exact s.dom b q, by simp [s.len], s.nd, s.dj, fun k b o' h1 h2 => ?_, tabs_set s.tab (s.plain (List.mem_append_left _ ha)), fun b q u e1 => s.pl b q u (by rw [← e1, upd_ne (neη b q)])⟩⟩
  rw [e]
  by_cases hk : k = n
  · subst hk
    rw [h] at h1; cases h1
    have hl : k < μ.length := by rw [← s.len]; exact (List.getElem?_eq_some_iff.mp h).1
    rw [List.getElem?_set_self hl] at h2
    cases h2
    exact hm
  · rw [List.getElem?_set_ne (Ne.symm hk)] at h2
    have hba : b ≠ a := fun z => by
      subst z
      obtain ⟨i1, e1⟩ := List.getElem?_eq_some_iff.mp h1
      obtain ⟨i2, e2⟩ := List.getElem?_eq_some_iff.mp h
      exact hk ((List.getElem_inj s.nd).mp (e1.trans e2.symm))
    exact (s.at_ k b o' h1 h2).ext (Ext.refl _) (upd_ne hba)
end

/-! ### what a piece of code does, as a plain function -/
/-- an exception: its class, its attributes (none: no dict of its own) -/
structure Exn where
  cls : Str
  fs : Option (List (Str × D))
inductive Res (α : Type) where
  | ok (a : α) (μ : Store) | ex (x : Exn) (μ : Store) | no
def Res.bind {α β : Type} : Res α → (α → Store → Res β) → Res β
  | .ok a μ, g => g a μ
  | .ex x μ, _ => .ex x μ
  | .no, _ => .no
inductive Out where
  | nx (ρ : Rho) (μ : Store) | rt (d : Sl) (μ : Store) | bk (ρ : Rho) (μ : Store) | ct (ρ : Rho) (μ : Store) | ex (x : Exn) (ρ : Rho) (μ : Store) | no
abbrev EF := Rho → Store → Res Sl
abbrev BF := Rho → Store → Res Bool
abbrev AF := Rho → Store → Res (List Sl)
abbrev SF := Rho → Store → Out
def ofO {α : Type} (o : Option α) (μ : Store) : Res α := match o with
  | some a => .ok a μ
  | none => .no
/-- an expression's result goes on into a statement's -/
def Res.toOut {α : Type} (ρ : Rho) : Res α → (α → Store → Out) → Out
  | .ok a μ, g => g a μ
  | .ex x μ, _ => .ex x ρ μ
  | .no, _ => .no

section
variable (mg : Str → Option Value) (K : PySem.W.Frag)
structure RepS (G : Hp) (θ : List Addr) (ρ : Rho) (σ : L2.St) : Prop where
  len : ρ.length = σ.length
  at_ : ∀ (i : Nat) (d : Sl), ρ[i]? = some (some d) → ∃ v, σ[i]? = some (some v) ∧ RepSl mg K G θ d v
def XRep (H G : Hp) (x : Exn) (cv : Value) (dd : Option Addr) : Prop := ∃ C, mg x.cls = some (.ref C) ∧ cv = .ref C ∧
  match x.fs with
  | none => dd = none
  | some fs => ∃ d fvs, dd = some d ∧ H d = some (.xd fvs) ∧ RepF mg K G fs fvs
abbrev WXD := Value → Option Addr → L2.St → Hp → Prop
def Fin {α β : Type} (E : XK) (η : List Addr) (H : Hp) (θ : List Addr) (R : Hp → List Addr → α → β → Prop) (r : Res α) (Q : β → Hp → Prop) : Prop :=
  match r with
  | .ok a μ' => ∀ v H' θ', Step mg K η H θ H' θ' μ' → R (hid H' (θ' ++ η)) θ' a v → Q v H'
  | .ex x μ' => ∀ cv dd H' θ', Step mg K η H θ H' θ' μ' → XRep mg K H' (hid H' (θ' ++ η)) x cv dd → E cv dd H'
  | .no => False
def FinS (W : WXD) (η : List Addr) (H : Hp) (θ : List Addr) (r : Out) (Dn : Ends) : Prop :=
  match r with
  | .nx ρ' μ' => ∀ σ' H' θ', Step mg K η H θ H' θ' μ' → RepS mg K (hid H' (θ' ++ η)) θ' ρ' σ' → Dn.nx σ' H'
  | .rt d μ' => ∀ v H' θ', Step mg K η H θ H' θ' μ' → RepSl mg K (hid H' (θ' ++ η)) θ' d v → Dn.rt v H'
  | .bk ρ' μ' => ∀ σ' H' θ', Step mg K η H θ H' θ' μ' → RepS mg K (hid H' (θ' ++ η)) θ' ρ' σ' → Dn.bk σ' H'
  | .ct ρ' μ' => ∀ σ' H' θ', Step mg K η H θ H' θ' μ' → RepS mg K (hid H' (θ' ++ η)) θ' ρ' σ' → Dn.ct σ' H'
  | .ex x ρ' μ' => ∀ cv dd σ' H' θ', Step mg K η H θ H' θ' μ' → RepS mg K (hid H' (θ' ++ η)) θ' ρ' σ' → XRep mg K H' (hid H' (θ' ++ η)) x cv dd → W cv dd σ' H'
  | .no => False
def tD (W : WXD) (f : EF) : TE := fun σ H Q => ∃ η θ μ ρ, StOk mg K η H θ μ ∧ RepS mg K (hid H (θ ++ η)) θ ρ σ ∧ Fin mg K (fun c d => W c d σ) η H θ (RepSl mg K) (f ρ μ) Q
def tBD (W : WXD) (f : BF) : TT := fun σ H Q => ∃ η θ μ ρ, StOk mg K η H θ μ ∧ RepS mg K (hid H (θ ++ η)) θ ρ σ ∧ Fin mg K (fun c d => W c d σ) η H θ (fun _ _ a b => a = b) (f ρ μ) Q
def tAD (W : WXD) (f : AF) : TA := fun σ H Q => ∃ η θ μ ρ, StOk mg K η H θ μ ∧ RepS mg K (hid H (θ ++ η)) θ ρ σ ∧ Fin mg K (fun c d => W c d σ) η H θ (RepA mg K) (f ρ μ) Q
def tSD (W : WXD) (f : SF) : TS := fun Dn σ H => ∃ η θ μ ρ, StOk mg K η H θ μ ∧ RepS mg K (hid H (θ ++ η)) θ ρ σ ∧ FinS mg K W η H θ (f ρ μ) Dn
end
section
variable {mg : Str → Option Value} {K : PySem.W.Frag} {η : List Addr} {H H1 H2 H' : Hp} {θ θ1 θ2 θ' : List Addr} {μ μ1 μ2 μ' : Store} {E : XK} {W : WXD} {α β γ δ : Type}
theorem RepS.ext {G G' : Hp} {ρ : Rho} {σ : L2.St} (h : RepS mg K G θ ρ σ) (e : Ext G G') (p : Pre θ θ') : RepS mg K G' θ' ρ σ :=
  ⟨h.len, fun i d q => let ⟨v, h1, h2⟩ := h.at_ i d q; ⟨v, h1, h2.ext e p⟩⟩
theorem RepS.step {ρ : Rho} {σ : L2.St} (h : RepS mg K (hid H (θ ++ η)) θ ρ σ) (st : Step mg K η H θ H1 θ1 μ1) : RepS mg K (hid H1 (θ1 ++ η)) θ1 ρ σ := h.ext st.ext st.pre
theorem Rep.step {d : D} {v : V} (h : Rep mg K (hid H (θ ++ η)) d v) (st : Step mg K η H θ H1 θ1 μ1) : Rep mg K (hid H1 (θ1 ++ η)) d v := h.ext st.ext
theorem RepL.step {d : List D} {v : List V} (h : RepL mg K (hid H (θ ++ η)) d v) (st : Step mg K η H θ H1 θ1 μ1) : RepL mg K (hid H1 (θ1 ++ η)) d v := h.ext st.ext
theorem RepSl.step {d : Sl} {v : V} (h : RepSl mg K (hid H (θ ++ η)) θ d v) (st : Step mg K η H θ H1 θ1 μ1) : RepSl mg K (hid H1 (θ1 ++ η)) θ1 d v := h.ext st.ext st.pre
theorem RepA.step {d : List Sl} {v : List V} (h : RepA mg K (hid H (θ ++ η)) θ d v) (st : Step mg K η H θ H1 θ1 μ1) : RepA mg K (hid H1 (θ1 ++ η)) θ1 d v := h.ext st.ext st.pre
theorem RepS.set {G : Hp} {ρ : Rho} {σ : L2.St} {i : Nat} {d : Sl} {v : V} (h : RepS mg K G θ ρ σ) (r : RepSl mg K G θ d v) : RepS mg K G θ (ρ.set i (some d)) (σ.set i (some v)) := by
  refine ⟨by simp [h.len], fun j e q => ?_⟩
  by_cases hj : j = i
  · subst hj
    have hl : j < ρ.length := by
      have := (List.getElem?_eq_some_iff.mp q).1
      simpa using this
    rw [List.getElem?_set_self hl] at q
    cases q
    exact ⟨v, by rw [List.getElem?_set_self (by rw [← h.len]; exact hl)], r⟩
  · rw [List.getElem?_set_ne (Ne.symm hj)] at q ⊢
    exact h.at_ j e q
theorem Fin.rebase {R : Hp → List Addr → α → β → Prop} {r : Res α} {Q : β → Hp → Prop} (st : Step mg K η H θ H1 θ1 μ1) (h : Fin mg K E η H θ R r Q) : Fin mg K E η H1 θ1 R r Q := by
  cases r with
  | ok a μ' => exact fun v H' θ' s2 rr => h v H' θ' (st.trans s2) rr
  | ex x μ' => exact fun cv dd H' θ' s2 rr => h cv dd H' θ' (st.trans s2) rr
  | no => exact h
theorem FinS.rebase {r : Out} {Dn : Ends} (st : Step mg K η H θ H1 θ1 μ1) (h : FinS mg K W η H θ r Dn) : FinS mg K W η H1 θ1 r Dn := by
  cases r with
  | nx a μ' => exact fun v H' θ' s2 rr => h v H' θ' (st.trans s2) rr
  | rt a μ' => exact fun v H' θ' s2 rr => h v H' θ' (st.trans s2) rr
  | bk a μ' => exact fun v H' θ' s2 rr => h v H' θ' (st.trans s2) rr
  | ct a μ' => exact fun v H' θ' s2 rr => h v H' θ' (st.trans s2) rr
  | ex x ρ' μ' => exact fun cv dd σ' H' θ' s2 rr => h cv dd σ' H' θ' (st.trans s2) rr
  | no => exact h
/-- an answer now -/
theorem Fin.done {R : Hp → List Addr → α → β → Prop} {a : α} {v : β} {Q : β → Hp → Prop} (h : Fin mg K E η H θ R (.ok a μ') Q) (st : Step mg K η H θ H' θ' μ') (r : R (hid H' (θ' ++ η)) θ' a v) : Q v H' := h v H' θ' st r
/-- one thing, and then another -/
theorem Fin.andThen {R : Hp → List Addr → α → β → Prop} {R' : Hp → List Addr → γ → δ → Prop} {r : Res α} {g : α → Store → Res γ} {Q : δ → Hp → Prop} {Q' : β → Hp → Prop}
    (h : Fin mg K E η H θ R' (r.bind g) Q)
    (k : ∀ a μ1 v H1 θ1, r = .ok a μ1 → Step mg K η H θ H1 θ1 μ1 → R (hid H1 (θ1 ++ η)) θ1 a v → Fin mg K E η H1 θ1 R' (g a μ1) Q → Q' v H1) : Fin mg K E η H θ R r Q' := by
  cases r with
  | ok a μ' => exact fun v H' θ' st rr => k a μ' v H' θ' rfl st rr (Fin.rebase st h)
  | ex x μ' => exact h
  | no => exact h
theorem Fin.andThenS {R : Hp → List Addr → α → β → Prop} {r : Res α} {ρ : Rho} {σ : L2.St} {g : α → Store → Out} {Dn : Ends} {Q' : β → Hp → Prop}
    (h : FinS mg K W η H θ (r.toOut ρ g) Dn) (rs : RepS mg K (hid H (θ ++ η)) θ ρ σ)
    (k : ∀ a μ1 v H1 θ1, r = .ok a μ1 → Step mg K η H θ H1 θ1 μ1 → R (hid H1 (θ1 ++ η)) θ1 a v → FinS mg K W η H1 θ1 (g a μ1) Dn → Q' v H1) : Fin mg K (fun c d => W c d σ) η H θ R r Q' := by
  cases r with
  | ok a μ' => exact fun v H' θ' st rr => k a μ' v H' θ' rfl st rr (FinS.rebase st h)
  | ex x μ' => exact fun cv dd H' θ' st rr => h cv dd σ H' θ' st (rs.step st) rr
  | no => exact h
theorem Fin.mono {R : Hp → List Addr → α → β → Prop} {r : Res α} {Q Q' : β → Hp → Prop} (h : Fin mg K E η H θ R r Q) (k : ∀ v H', Q v H' → Q' v H') : Fin mg K E η H θ R r Q' := by
  cases r with
  | ok a μ' => exact fun v H' θ' st rr => k v H' (h v H' θ' st rr)
  | ex x μ' => exact h
  | no => exact h
end

/-! ### the judgements -/
section
variable (X : Cx) (W : WXD)
def PEd (e : Expr) (f : EF) : Prop := PE X e (tD X.mg X.K W f)
def PBd (e : Expr) (f : BF) : Prop := PT X e (tBD X.mg X.K W f)
def PWd (e : Expr) (f : BF) : Prop := PW X e (tBD X.mg X.K W f)
def PAd (es : List Expr) (f : AF) : Prop := PA X es (tAD X.mg X.K W f)
def PSd (st : Stmt) (f : SF) : Prop := PS X st (tSD X.mg X.K W f)
def PSsd (st : List Stmt) (f : SF) : Prop := PSs X st (tSD X.mg X.K W f)
end
section
variable {X : Cx}
theorem PE.imp {e : Expr} {t t' : TE} (h : PE X e t) (k : ∀ σ H Q, t' σ H Q → t σ H Q) : PE X e t' := ⟨fun pins s σ H Q I q => h.run pins s σ H Q I (k σ H Q q)⟩
theorem PT.imp {e : Expr} {t t' : TT} (h : PT X e t) (k : ∀ σ H Q, t' σ H Q → t σ H Q) : PT X e t' := ⟨fun pins s σ H Q I q => h.run pins s σ H Q I (k σ H Q q)⟩
theorem PW.imp {e : Expr} {t t' : TT} (h : PW X e t) (k : ∀ σ H Q, t' σ H Q → t σ H Q) : PW X e t' := ⟨fun whole pins s σ H Q I q => h.run whole pins s σ H Q I (k σ H Q q)⟩
theorem PA.imp {es : List Expr} {t t' : TA} (h : PA X es t) (k : ∀ σ H Q, t' σ H Q → t σ H Q) : PA X es t' := ⟨fun pos pins s σ H Q I q => h.run pos pins s σ H Q I (k σ H Q q)⟩
theorem PS.imp {st : Stmt} {t t' : TS} (h : PS X st t) (k : ∀ Dn σ H, t' Dn σ H → t Dn σ H) : PS X st t' := ⟨fun pins s σ H Dn I q => h.run pins s σ H Dn I (k Dn σ H q)⟩
theorem PSs.imp {st : List Stmt} {t t' : TS} (h : PSs X st t) (k : ∀ Dn σ H, t' Dn σ H → t Dn σ H) : PSs X st t' := ⟨fun pins s σ H Dn I q => h.run pins s σ H Dn I (k Dn σ H q)⟩
end
end DL

set_option Elab.async false
set_option linter.all false
set_option maxRecDepth 100000
set_option maxHeartbeats 1000000
/-! DLOps: operators and built-in calls on data -/
namespace DL
open PySem PySem.Spec PyProof.Rows L2
variable [TabCtx]

/-! ### data compared -/
mutual
def D.beq : D → D → Bool
  | .non, .non => true
  | .bl a, .bl b => a == b
  | .bl a, .int j => (if a then 1 else 0) == j
  | .int i, .bl b => i == (if b then 1 else 0)
  | .int i, .int j => i == j
  | .str x, .str y => x == y
  | .tup xs, .tup ys => beqL xs ys
  | .lst xs, .lst ys => beqL xs ys
  | _, _ => false
def beqL : List D → List D → Bool
  | [], [] => true
  | x :: xs, y :: ys => D.beq x y && beqL xs ys
  | _, _ => false
end
mutual
def D.toPy : D → PyData
  | .non => .none
  | .bl b => .bool b
  | .int i => .int i
  | .str s => .str s
  | .tup ds => .tuple (toPyL ds)
  | .lst ds => .list (toPyL ds)
  | .fn _ => .none
  | .scr _ => .none
def toPyL : List D → List PyData
  | [] => []
  | d :: r => d.toPy :: toPyL r
end
mutual
/-- may be compared: texts of true signs; no defs, at most so deep -/
def D.cmpOk : D → Bool
  | .str s => PySem.PyData.strOk s
  | .tup ds => cmpOkL ds
  | .lst ds => cmpOkL ds
  | .fn _ => false
  | .scr _ => false
  | _ => true
def cmpOkL : List D → Bool
  | [] => true
  | d :: r => d.cmpOk && cmpOkL r
end
mutual
def D.deep : D → Nat
  | .tup ds => deepL ds + 1
  | .lst ds => deepL ds + 1
  | _ => 0
def deepL : List D → Nat
  | [] => 0
  | d :: r => max d.deep (deepL r)
end
def D.flat : D → Bool
  | .non => true | .bl _ => true | .int _ => true | .str _ => true | _ => false
mutual
theorem toPy_deep : ∀ d : D, d.toPy.depth = d.deep
  | .non => by simp [D.toPy, D.deep, PyData.depth]
  | .bl _ => by simp [D.toPy, D.deep, PyData.depth]
  | .int _ => by simp [D.toPy, D.deep, PyData.depth]
  | .str _ => by simp [D.toPy, D.deep, PyData.depth]
  | .tup ds => by simp [D.toPy, D.deep, PyData.depth, toPyL_deep ds]
  | .lst ds => by simp [D.toPy, D.deep, PyData.depth, toPyL_deep ds]
  | .fn _ => by simp [D.toPy, D.deep, PyData.depth]
  | .scr _ => by simp [D.toPy, D.deep, PyData.depth]
theorem toPyL_deep : ∀ ds : List D, PyData.depthAll (toPyL ds) = deepL ds
  | [] => by simp [toPyL, deepL, PyData.depthAll]
  | d :: r => by simp [toPyL, deepL, PyData.depthAll, toPy_deep d, toPyL_deep r]
end
mutual
theorem toPy_lay : ∀ d : D, d.cmpOk = true → d.toPy.canLay0 = true
  | .non, _ => by simp [D.toPy, PyData.canLay0]
  | .bl _, _ => by simp [D.toPy, PyData.canLay0]
  | .int _, _ => by simp [D.toPy, PyData.canLay0]
  | .str s, h => by simpa [D.toPy, PyData.canLay0, D.cmpOk] using h
  | .tup ds, h => by simp only [D.toPy, PyData.canLay0]; exact toPyL_lay ds (by simpa [D.cmpOk] using h)
  | .lst ds, h => by simp only [D.toPy, PyData.canLay0]; exact toPyL_lay ds (by simpa [D.cmpOk] using h)
  | .fn _, h => by simp [D.cmpOk] at h
  | .scr _, h => by simp [D.cmpOk] at h
theorem toPyL_lay : ∀ ds : List D, cmpOkL ds = true → PyData.canLayAll0 (toPyL ds) = true
  | [], _ => by simp [toPyL, PyData.canLayAll0]
  | d :: r, h => by
    simp only [cmpOkL, Bool.and_eq_true] at h
    simp [toPyL, PyData.canLayAll0, toPy_lay d h.1, toPyL_lay r h.2]
end
mutual
theorem toPy_eqv : ∀ a b : D, a.cmpOk = true → b.cmpOk = true → PyData.eqv a.toPy b.toPy = D.beq a b
  | .tup xs, .tup ys, h, k => by simp only [D.toPy, PyData.eqv, D.beq]; exact toPyL_eqv xs ys (by simpa [D.cmpOk] using h) (by simpa [D.cmpOk] using k)
  | .lst xs, .lst ys, h, k => by simp only [D.toPy, PyData.eqv, D.beq]; exact toPyL_eqv xs ys (by simpa [D.cmpOk] using h) (by simpa [D.cmpOk] using k)
  | .fn _, _, h, _ => by simp [D.cmpOk] at h
  | .scr _, _, h, _ => by simp [D.cmpOk] at h
  | a, .fn _, _, k => by simp [D.cmpOk] at k
  | a, .scr _, _, k => by simp [D.cmpOk] at k
  | .non, b, _, k => by cases b <;> simp_all [D.toPy, PyData.eqv, D.beq, D.cmpOk]
  | .bl _, b, _, k => by cases b <;> simp_all [D.toPy, PyData.eqv, D.beq, D.cmpOk]
  | .int _, b, _, k => by cases b <;> simp_all [D.toPy, PyData.eqv, D.beq, D.cmpOk]
  | .str _, b, _, k => by cases b <;> simp_all [D.toPy, PyData.eqv, D.beq, D.cmpOk]
  | .tup _, .non, _, _ => by simp [D.toPy, PyData.eqv, D.beq]
  | .tup _, .bl _, _, _ => by simp [D.toPy, PyData.eqv, D.beq]
  | .tup _, .int _, _, _ => by simp [D.toPy, PyData.eqv, D.beq]
  | .tup _, .str _, _, _ => by simp [D.toPy, PyData.eqv, D.beq]
  | .tup _, .lst _, _, _ => by simp [D.toPy, PyData.eqv, D.beq]
  | .lst _, .non, _, _ => by simp [D.toPy, PyData.eqv, D.beq]
  | .lst _, .bl _, _, _ => by simp [D.toPy, PyData.eqv, D.beq]
  | .lst _, .int _, _, _ => by simp [D.toPy, PyData.eqv, D.beq]
  | .lst _, .str _, _, _ => by simp [D.toPy, PyData.eqv, D.beq]
  | .lst _, .tup _, _, _ => by simp [D.toPy, PyData.eqv, D.beq]
theorem toPyL_eqv : ∀ xs ys : List D, cmpOkL xs = true → cmpOkL ys = true → PyData.eqvAll (toPyL xs) (toPyL ys) = beqL xs ys
  | [], [], _, _ => by simp [toPyL, PyData.eqvAll, beqL]
  | [], _ :: _, _, _ => by simp [toPyL, PyData.eqvAll, beqL]
  | _ :: _, [], _, _ => by simp [toPyL, PyData.eqvAll, beqL]
  | x :: xs, y :: ys, h, k => by
    simp only [cmpOkL, Bool.and_eq_true] at h k
    simp only [toPyL, PyData.eqvAll, beqL, toPy_eqv x y h.1 k.1, toPyL_eqv xs ys h.2 k.2]
end
theorem toPyL_map : ∀ ds : List D, toPyL ds = ds.map D.toPy
  | [] => rfl
  | d :: r => by simp [toPyL, toPyL_map r]
theorem cmpOkL_all : ∀ ds : List D, cmpOkL ds = ds.all D.cmpOk
  | [] => rfl
  | d :: r => by simp [cmpOkL, cmpOkL_all r]
def D.shaped (d : D) : Bool := d.cmpOk && decide (d.deep ≤ 64)
theorem shaped_py {d : D} (h : d.shaped = true) : SeqAt.shaped d.toPy = true := by
  simp only [D.shaped, Bool.and_eq_true, decide_eq_true_eq] at h
  simp [SeqAt.shaped, toPy_lay d h.1, toPy_deep, h.2]

/-! ### what stands where -/
section
variable {mg : Str → Option Value} {K : PySem.W.Frag} {H H' : Hp} {S : List Addr}
/-- a datum, the mutable read as they are -/
def DRep (mg : Str → Option Value) (K : PySem.W.Frag) (H : Hp) (S : List Addr) (d : D) (v : V) : Prop :=
  Rep mg K (hid H S) d v ∨ ∃ ds a xs, d = .lst ds ∧ v = .ref a ∧ H a = some (.lst xs) ∧ RepL mg K (hid H S) ds xs
theorem DRep.non {v : V} (h : DRep mg K H S .non v) : v = .non := by
  rcases h with h | ⟨_, _, _, h, _⟩
  · cases h; rfl
  · cases h
theorem DRep.bl {b : Bool} {v : V} (h : DRep mg K H S (.bl b) v) : v = .bl b := by
  rcases h with h | ⟨_, _, _, h, _⟩
  · cases h; rfl
  · cases h
theorem DRep.int {i : Int} {v : V} (h : DRep mg K H S (.int i) v) : v = .int i := by
  rcases h with h | ⟨_, _, _, h, _⟩
  · cases h; rfl
  · cases h
theorem DRep.str {s : Str} {v : V} (h : DRep mg K H S (.str s) v) : v = .str s := by
  rcases h with h | ⟨_, _, _, h, _⟩
  · cases h; rfl
  · cases h
theorem DRep.tup {ds : List D} {v : V} (h : DRep mg K H S (.tup ds) v) : ∃ a xs, v = .ref a ∧ H a = some (.tup xs) ∧ RepL mg K (hid H S) ds xs := by
  rcases h with h | ⟨_, _, _, h, _⟩
  · cases h with
    | tup e l => exact ⟨_, _, rfl, (hid_some e).2, l⟩
  · cases h
theorem DRep.lst {ds : List D} {v : V} (h : DRep mg K H S (.lst ds) v) : ∃ a xs, v = .ref a ∧ H a = some (.lst xs) ∧ RepL mg K (hid H S) ds xs := by
  rcases h with h | ⟨ds', a, xs, h, e, e2, l⟩
  · cases h with
    | lst e l => exact ⟨_, _, rfl, (hid_some e).2, l⟩
  · cases h; exact ⟨a, xs, e, e2, l⟩
theorem unhid {b : Addr} {xs : List V} (q : SqL K (hid H S) b xs) : SqL K H b xs := by
  rcases q with (q | ⟨o, q⟩) | q
  · exact .inl (.inl (hid_some q).2)
  · exact .inl (.inr ⟨o, (hid_some q).2⟩)
  · exact .inr q
theorem DRep.scr {ns : List Int} {v : V} (h : DRep mg K H S (.scr ns) v) : ∃ a, v = .ref a ∧ SqL K H a (ns.map V.int) := by
  rcases h with h | ⟨_, _, _, h, _⟩
  · cases h with
    | scr q => exact ⟨_, rfl, unhid q⟩
  · cases h
/-- lists read -/
def D.seq : D → Option (List D)
  | .lst ds => some ds
  | .scr ns => some (ns.map D.int)
  | _ => none
theorem DRep.seq {d : D} {ds : List D} {v : V} (h : DRep mg K H S d v) (e : d.seq = some ds) : ∃ a xs, v = .ref a ∧ SqL K H a xs ∧ RepL mg K (hid H S) ds xs := by
  cases d with
  | lst ds' =>
    cases e
    obtain ⟨a, xs, e1, e2, l⟩ := h.lst
    exact ⟨a, xs, e1, SqL.of e2, l⟩
  | scr ns =>
    cases e
    obtain ⟨a, e1, q⟩ := h.scr
    exact ⟨a, _, e1, q, RepL.ints ns⟩
  | _ => cases e
mutual
theorem Rep.dp : ∀ {d v}, Rep mg K (hid H S) d v → d.cmpOk = true → Dp K H v d.toPy
  | _, _, .non, _ => by simp only [D.toPy]; exact .non
  | _, _, .bl, _ => by simp only [D.toPy]; exact .bl _
  | _, _, .int, _ => by simp only [D.toPy]; exact .int _
  | _, _, .str, _ => by simp only [D.toPy]; exact .str _
  | _, _, .tup e l, h => by simp only [D.toPy]; exact .tup (SqT.of (hid_some e).2) (RepL.dp l (by simpa [D.cmpOk] using h))
  | _, _, .lst e l, h => by simp only [D.toPy]; exact .lst (SqL.of (hid_some e).2) (RepL.dp l (by simpa [D.cmpOk] using h))
  | _, _, .fn _, h => by simp [D.cmpOk] at h
  | _, _, .scr _, h => by simp [D.cmpOk] at h
theorem RepL.dp : ∀ {ds vs}, RepL mg K (hid H S) ds vs → cmpOkL ds = true → DpAll K H vs (toPyL ds)
  | _, _, .nil, _ => by simp only [toPyL]; exact .nil
  | _, _, .cons h l, k => by
    simp only [cmpOkL, Bool.and_eq_true] at k
    simp only [toPyL]
    exact .cons (Rep.dp h k.1) (RepL.dp l k.2)
end
theorem DRep.dp {d : D} {v : V} (h : DRep mg K H S d v) (k : d.cmpOk = true) : Dp K H v d.toPy := by
  rcases h with h | ⟨ds, a, xs, rfl, rfl, e, l⟩
  · exact h.dp k
  · simp only [D.toPy]; exact .lst (SqL.of e) (l.dp (by simpa [D.cmpOk] using k))
theorem Rep.flatV {d : D} {v : V} (h : Rep mg K (hid H S) d v) (k : d.flat = true) : L2.flatV v = true := by
  cases h <;> simp_all [D.flat, L2.flatV]
theorem RepL.flatV : ∀ {ds vs}, RepL mg K (hid H S) ds vs → ds.all D.flat = true → vs.all L2.flatV = true
  | _, _, .nil, _ => rfl
  | _, _, .cons h l, k => by
    simp only [List.all_cons, Bool.and_eq_true] at k ⊢
    exact ⟨h.flatV k.1, l.flatV k.2⟩
theorem Rep.eqV {a b : D} {x y : V} (h : Rep mg K (hid H S) a x) (k : Rep mg K (hid H S) b y) (ha : a.flat = true) (hb : b.flat = true) : L2.eqV x y = D.beq a b := by
  cases h <;> cases k <;> simp_all [D.flat, L2.eqV, D.beq]
theorem RepL.inV {a : D} {x : V} (h : Rep mg K (hid H S) a x) (ha : a.flat = true) : ∀ {ds vs}, RepL mg K (hid H S) ds vs → ds.all D.flat = true → L2.inV x vs = ds.any fun z => D.beq z a
  | _, _, .nil, _ => rfl
  | _, _, .cons k l, q => by
    simp only [List.all_cons, Bool.and_eq_true] at q
    have ih := RepL.inV h ha l q.2
    unfold L2.inV at ih ⊢
    rw [List.any_cons, List.any_cons, ih, Rep.eqV k h q.1 ha]

/-- an answer: the datum c, nothing that stood changed -/
def Ans (mg : Str → Option Value) (K : PySem.W.Frag) (H : Hp) (S : List Addr) (c : D) (Q : VK) : Prop := ∀ v H', Same H H' → Rep mg K (hid H' S) c v → Q v H'
theorem Ans.here {c : D} {Q : VK} {v : V} (h : Ans mg K H S c Q) (r : Rep mg K (hid H S) c v) : Q v H := h v H (Same.refl H) r
theorem upd_Same {p : Addr} {o : HO} (h : H p = none) : Same H (upd H p o) := fun b x e => by rw [upd_ne (ne_of_none e h)]; exact e
theorem hid_same (h : Same H H') : Ext (hid H S) (hid H' S) := Ext.of fun b o q => by
  obtain ⟨q1, q2⟩ := hid_some q
  rw [hid_out q1]; exact h _ _ q2
theorem fresh_out (f : ∀ p ∈ S, H p ≠ none) {p : Addr} (h : H p = none) : p ∉ S := fun m => f p m h
theorem Ans.tup {ds : List D} {xs : List V} {Q : VK} {p : Addr} (h : Ans mg K H S (.tup ds) Q) (f : ∀ p ∈ S, H p ≠ none) (l : RepL mg K (hid H S) ds xs) (hp : H p = none) : Q (.ref p) (upd H p (.tup xs)) :=
  h _ _ (upd_Same hp) (.tup (by rw [hid_out (fresh_out f hp), upd_same]) (l.ext (hid_same (upd_Same hp))))
theorem Ans.lst {ds : List D} {xs : List V} {Q : VK} {p : Addr} (h : Ans mg K H S (.lst ds) Q) (f : ∀ p ∈ S, H p ≠ none) (l : RepL mg K (hid H S) ds xs) (hp : H p = none) : Q (.ref p) (upd H p (.lst xs)) :=
  h _ _ (upd_Same hp) (.lst (by rw [hid_out (fresh_out f hp), upd_same]) (l.ext (hid_same (upd_Same hp))))
end

/-! ### from readings by values to plain functions -/
def dr (μ : Store) : Sl → Option D
  | .d x => some x
  | .ob n => match μ[n]? with
    | some (.lst ds) => some (.lst ds)
    | _ => none
  | .clo _ => none
def drL (μ : Store) : List Sl → Option (List D)
  | [] => some []
  | s :: r => match dr μ s, drL μ r with
    | some d, some ds => some (d :: ds)
    | _, _ => none
def o1 (g : D → Option D) (x : Sl) (μ : Store) : Res Sl := match dr μ x with
  | some a => ofO ((g a).map Sl.d) μ
  | none => .no
def o2 (g : D → D → Option D) (x y : Sl) (μ : Store) : Res Sl := match dr μ x, dr μ y with
  | some a, some b => ofO ((g a b).map Sl.d) μ
  | _, _ => .no
def oN (g : List D → Option D) (xs : List Sl) (μ : Store) : Res Sl := match drL μ xs with
  | some ds => ofO ((g ds).map Sl.d) μ
  | none => .no
section
variable {mg : Str → Option Value} {K : PySem.W.Frag} {η : List Addr} {H H1 H2 H' : Hp} {θ θ1 θ2 θ' : List Addr} {μ μ1 μ2 μ' : Store} {E : XK} {S : List Addr}
theorem StOk.trk (s : StOk mg K η H θ μ) : ∀ p ∈ θ ++ η, H p ≠ none := fun p h => by
  rcases List.mem_append.mp h with h | h
  · exact s.tracked h
  · exact s.dom p h
theorem StOk.same (s : StOk mg K η H θ μ) (h : Same H H') : Step mg K η H θ H' θ μ := by
  have k : ∀ p, H p ≠ none → H' p = H p := fun p q => by
    cases e : H p with
    | none => exact absurd e q
    | some o => exact h p o e
  refine ⟨hid_same h, Pre.refl _, fun p q => k p (s.dom p q), ⟨fun p q => by rw [k p (s.dom p q)]; exact s.dom p q, s.len, s.nd, s.dj, fun n a o h1 h2 => ?_, s.tab.ext h, fun p q u e => s.pl p q u (by rw [← e, k p (s.dom p q)])⟩⟩
  exact (s.at_ n a o h1 h2).ext (hid_same h) (k a (s.tracked (List.mem_of_getElem? h1)))
theorem fin_ans {c : D} {Q : VK} (s : StOk mg K η H θ μ) (h : Fin mg K E η H θ (RepSl mg K) (.ok (.d c) μ) Q) : Ans mg K H (θ ++ η) c Q := fun v H' sm r => h v H' θ (s.same sm) (.d r)
theorem dr_rep (s : StOk mg K η H θ μ) {x : Sl} {v : V} {d : D} (r : RepSl mg K (hid H (θ ++ η)) θ x v) (e : dr μ x = some d) : DRep mg K H (θ ++ η) d v := by
  cases r with
  | d r => cases e; exact .inl r
  | ob h =>
    obtain ⟨o, h1, h2⟩ := s.lookup h
    simp only [dr, h1] at e
    cases o with
    | lst ds =>
      cases e
      obtain ⟨xs, e1, l⟩ := h2
      exact .inr ⟨ds, _, xs, rfl, rfl, e1, l⟩
    | ins c fs => cases e
  | clo _ _ => cases e
inductive DRepL (mg : Str → Option Value) (K : PySem.W.Frag) (H : Hp) (S : List Addr) : List D → List V → Prop
  | nil : DRepL mg K H S [] []
  | cons {d v ds vs} : DRep mg K H S d v → DRepL mg K H S ds vs → DRepL mg K H S (d :: ds) (v :: vs)
theorem drL_rep (s : StOk mg K η H θ μ) : ∀ {xs : List Sl} {vs : List V} {ds : List D}, RepA mg K (hid H (θ ++ η)) θ xs vs → drL μ xs = some ds → DRepL mg K H (θ ++ η) ds vs
  | _, _, _, .nil, e => by cases e; exact .nil
  | _, _, ds, .cons (ds := r) (d := x) h l, e => by
    simp only [drL] at e
    split at e
    · rename_i d' ds' e1 e2
      cases e
      exact .cons (dr_rep s h e1) (drL_rep s l e2)
    · cases e

def Lift1 (mg : Str → Option Value) (K : PySem.W.Frag) (r : V → Hp → VK → Prop) (g : D → Option D) : Prop :=
  ∀ (H : Hp) (S : List Addr) (x : V) (a c : D) (Q : VK), (∀ p ∈ S, H p ≠ none) → DRep mg K H S a x → g a = some c → Ans mg K H S c Q → r x H Q
def Lift2 (mg : Str → Option Value) (K : PySem.W.Frag) (r : R2) (g : D → D → Option D) : Prop :=
  ∀ (H : Hp) (S : List Addr) (x y : V) (a b c : D) (Q : VK), (∀ p ∈ S, H p ≠ none) → DRep mg K H S a x → DRep mg K H S b y → g a b = some c → Ans mg K H S c Q → r x y H Q
def LiftN (mg : Str → Option Value) (K : PySem.W.Frag) (r : List V → Hp → VK → Prop) (g : List D → Option D) : Prop :=
  ∀ (H : Hp) (S : List Addr) (xs : List V) (ds : List D) (c : D) (Q : VK), (∀ p ∈ S, H p ≠ none) → DRepL mg K H S ds xs → g ds = some c → Ans mg K H S c Q → r xs H Q
theorem Lift1.fin {r : V → Hp → VK → Prop} {g : D → Option D} (l : Lift1 mg K r g) (s : StOk mg K η H θ μ) {x : V} {dx : Sl} {Q : VK} (rx : RepSl mg K (hid H (θ ++ η)) θ dx x)
    (h : Fin mg K E η H θ (RepSl mg K) (o1 g dx μ) Q) : r x H Q := by
  unfold o1 at h
  split at h
  · rename_i a ea
    cases e : g a with
    | none => rw [e] at h; exact h.elim
    | some c => rw [e] at h; exact l H _ x a c Q s.trk (dr_rep s rx ea) e (fin_ans s h)
  · exact h.elim
theorem Lift2.fin {r : R2} {g : D → D → Option D} (l : Lift2 mg K r g) (s : StOk mg K η H θ μ) {x y : V} {dx dy : Sl} {Q : VK} (rx : RepSl mg K (hid H (θ ++ η)) θ dx x) (ry : RepSl mg K (hid H (θ ++ η)) θ dy y)
    (h : Fin mg K E η H θ (RepSl mg K) (o2 g dx dy μ) Q) : r x y H Q := by
  unfold o2 at h
  split at h
  · rename_i a b ea eb
    cases e : g a b with
    | none => rw [e] at h; exact h.elim
    | some c => rw [e] at h; exact l H _ x y a b c Q s.trk (dr_rep s rx ea) (dr_rep s ry eb) e (fin_ans s h)
  · exact h.elim
theorem LiftN.fin {r : List V → Hp → VK → Prop} {g : List D → Option D} (l : LiftN mg K r g) (s : StOk mg K η H θ μ) {xs : List V} {ds : List Sl} {Q : VK} (rx : RepA mg K (hid H (θ ++ η)) θ ds xs)
    (h : Fin mg K E η H θ (RepSl mg K) (oN g ds μ) Q) : r xs H Q := by
  unfold oN at h
  split at h
  · rename_i a ea
    cases e : g a with
    | none => rw [e] at h; exact h.elim
    | some c => rw [e] at h; exact l H _ xs a c Q s.trk (drL_rep s rx ea) e (fin_ans s h)
  · exact h.elim
theorem Lift2.or {r r' : R2} {g g' g2 : D → D → Option D} (l : Lift2 mg K r g) (l' : Lift2 mg K r' g') (h : ∀ a b c, g2 a b = some c → g a b = some c ∨ g' a b = some c) : Lift2 mg K (fun x y H Q => r x y H Q ∨ r' x y H Q) g2 :=
  fun H S x y a b c Q f ra rb e q => (h a b c e).elim (fun z => .inl (l H S x y a b c Q f ra rb z q)) (fun z => .inr (l' H S x y a b c Q f ra rb z q))
end
end DL

set_option Elab.async false
set_option linter.all false
set_option maxRecDepth 100000
set_option maxHeartbeats 1000000
/-! DLTup: t * k for any small k -/
namespace L2
open PySem PySem.Spec PyProof.Rows
theorem tuple_mul1 (l : Addr) (items : Array Value) (n : Nat) (dd : Option Addr) (sl : Array (Option Value)) (u : Tok) :
    Meets (Builtin.«tuple.__mul__» ⟨[.ref l, .int 1 u], []⟩) (fun _ R s => s.heap.get? l = some { cls := .type "tuple", dict := dd, data := .seq items n, slots := sl } ∧ R (.ok (.ret (Value.ref l))) s) :=
  .of_wp fun prog w A R s h => by
    obtain ⟨hp, g, d, tk, os⟩ := s
    obtain ⟨hl, h⟩ := h
    have f1 := AutoSeq1.idx_int
    wp_walk using wpAny_loadPart' hl
    repeat (first
      | (refine wpAny_ite_false (decide_eq_false (by decide)) ?_; wp_walk using wpAny_loadPart' hl)
      | (refine wpAny_ite_true (decide_eq_true (by simp)) ?_; wp_walk using wpAny_loadPart' hl))
    exact ⟨_, rfl, h⟩
theorem tuple_mul0 (l : Addr) (items : Array Value) (n : Nat) (dd : Option Addr) (sl : Array (Option Value)) (u : Tok) (hi : items.isEmpty = false) :
    Meets (Builtin.«tuple.__mul__» ⟨[.ref l, .int 0 u], []⟩) (fun _ R s => s.heap.get? l = some { cls := .type "tuple", dict := dd, data := .seq items n, slots := sl } ∧ R (.ok (.ret (Value.ref s.heap.objs.size))) { s with heap := s.heap.push { cls := Value.type "tuple", data := Data.seq #[] }, toks := s.toks }) :=
  .of_wp fun prog w A R s h => by
    obtain ⟨hp, g, d, tk, os⟩ := s
    obtain ⟨hl, h⟩ := h
    have f1 := AutoSeq1.idx_int
    wp_walk using wpAny_loadPart' hl
    repeat (first
      | (refine wpAny_ite_false (decide_eq_false (by simp [hi])) ?_; wp_walk using wpAny_loadPart' hl)
      | (refine wpAny_ite_true (decide_eq_true (by simp)) ?_; wp_walk using wpAny_loadPart' hl))
    exact ⟨_, rfl, h⟩
def rRepA (K : PySem.W.Frag) : R2 := fun x y H Q => ∃ l k xs, x = .ref l ∧ y = .int k ∧ SqT K H l xs ∧ xs ≠ [] ∧ 0 ≤ k ∧ k ≤ 1000 ∧ xs.length ≤ 1000 ∧ (k = 1 → Q (.ref l) H) ∧ (k ≠ 1 → ∀ p, H p = none → Q (.ref p) (upd H p (.tup (List.replicate k.toNat xs).flatten)))
section
variable {X : Cx}
theorem op_repA : OpR X (binaryOp .Mult) (rRepA X.K) := by
  intro pins s σ H x y v u Q I rx ry h
  obtain ⟨l, k, xs, rfl, rfl, hT, hne, h1, h2, hz, q1, q2⟩ := h
  by_cases hk : 2 ≤ k
  · exact op_repT pins s σ H _ _ v u Q I rx ry ⟨l, k, xs, rfl, rfl, hT, hne, hk, h2, hz, q2 (by omega)⟩
  · cases rx
    obtain ⟨t, rfl⟩ := ry
    obtain ⟨its, r, ⟨⟨cls, dd, data, sl⟩, ho, hc, n, hd⟩, hs⟩ := I.tuple hT
    simp only at hc hd
    subst hc hd
    have hi : its.toArray.isEmpty = false := by
      cases its with
      | nil => cases r; exact absurd rfl hne
      | cons a b => rfl
    have k01 : k = 1 ∨ k = 0 := by omega
    rcases k01 with rfl | rfl
    · refine wpAny_binaryOp_repeat_ref (T := "tuple") (U := "int") (by decide) ⟨_, ho, rfl⟩ (fun s' => typeIs_int s' 1 t) noFill_tuple_mul F.fills_int_mul F.slot_int_rmul repeat_tuple F.slot_int_index.lookup
        (call_meets F.slot_int_rmul (typeIs_int s 1 t) F.entry_int_rmul (F.args_int_rmul_2 _ _) (int_rmul_tuple 1 t l its.toArray n dd sl)
          ⟨ho, rfl, ⟨_, ho, rfl⟩, call_meets F.slot_tuple_mul ⟨_, ho, rfl⟩ F.entry_tuple_mul (F.args_tuple_mul_2 _ _) (tuple_mul1 l its.toArray n dd sl t) ⟨ho, ?_⟩⟩)
      exact ⟨.ref l, H, I, rfl, q1 rfl⟩
    · refine wpAny_binaryOp_repeat_ref (T := "tuple") (U := "int") (by decide) ⟨_, ho, rfl⟩ (fun s' => typeIs_int s' 0 t) noFill_tuple_mul F.fills_int_mul F.slot_int_rmul repeat_tuple F.slot_int_index.lookup
        (call_meets F.slot_int_rmul (typeIs_int s 0 t) F.entry_int_rmul (F.args_int_rmul_2 _ _) (int_rmul_tuple 0 t l its.toArray n dd sl)
          ⟨ho, rfl, ⟨_, ho, rfl⟩, call_meets F.slot_tuple_mul ⟨_, ho, rfl⟩ F.entry_tuple_mul (F.args_tuple_mul_2 _ _) (tuple_mul0 l its.toArray n dd sl t hi) ⟨ho, ?_⟩⟩)
      refine ⟨.ref s.heap.objs.size, _, I.laid (t' := s.toks) (o := .tup []) (fun b ob q => Heap.get?_push_of_some _ q) (Nat.le_refl _) ⟨Nat.zero_le _, [], .nil, IsTup.new _ _⟩, rfl, q2 (by decide) _ (I.hok.fresh (Nat.le_refl _))⟩
end
end L2

set_option Elab.async false
set_option linter.all false
set_option maxRecDepth 100000
set_option maxHeartbeats 1000000
/-! DLExpr: the operators on data, and expressions by plain functions -/
namespace DL
open PySem PySem.Spec PyProof.Rows L2
variable [TabCtx]

/-! ### operators on data -/
def addD : D → D → Option D
  | .int i, .int j => some (.int (i + j))
  | .str x, .str y => if x.length + y.length ≤ 16777216 then some (.str (x ++ y)) else none
  | .tup a, .tup b => if a.length + b.length ≤ 16777216 then some (.tup (a ++ b)) else none
  | .lst a, .lst b => if a.length + b.length ≤ 16777216 then some (.lst (a ++ b)) else none
  | _, _ => none
def subD : D → D → Option D
  | .int i, .int j => some (.int (i - j))
  | _, _ => none
def mulD : D → D → Option D
  | .int i, .int j => if i.natAbs < 18446744073709551616 ∨ j.natAbs < 18446744073709551616 then some (.int (i * j)) else none
  | .lst a, .int k => if 0 ≤ k ∧ k ≤ 1000 ∧ a.length ≤ 1000 then some (.lst (List.replicate k.toNat a).flatten) else none
  | .tup a, .int k => if 0 ≤ k ∧ k ≤ 1000 ∧ a.length ≤ 1000 ∧ a.length ≠ 0 then some (.tup (List.replicate k.toNat a).flatten) else none
  | _, _ => none
def modD : D → D → Option D
  | .int i, .int j => if 0 < j then some (.int (i % j)) else none
  | _, _ => none
def fdivD : D → D → Option D
  | .int i, .int j => if 0 < j ∧ j.natAbs < 1073741824 then some (.int (i / j)) else none
  | _, _ => none
def powD : D → D → Option D
  | .int i, .int j => if 0 ≤ j ∧ j ≤ 1000000 ∧ i.natAbs < 18446744073709551616 then some (.int (i ^ j.toNat)) else none
  | _, _ => none
def negD : D → Option D
  | .int i => some (.int (-i))
  | _ => none
def eqD (a b : D) : Option D := if a.shaped = true ∧ b.shaped = true then some (.bl (D.beq a b)) else none
def neD (a b : D) : Option D := if a.shaped = true ∧ b.shaped = true then some (.bl (!D.beq a b)) else none
def intsOf : List D → Option (List Int)
  | [] => some []
  | .int i :: r => (intsOf r).map (i :: ·)
  | _ :: _ => none
def blsOf : List D → Option (List Bool)
  | [] => some []
  | .bl i :: r => (blsOf r).map (i :: ·)
  | _ :: _ => none
def ltD : D → D → Option D
  | .int i, .int j => some (.bl (decide (i < j)))
  | .tup a, .tup b => match intsOf a, intsOf b with
    | some x, some y => some (.bl (HT.lexLt x y))
    | _, _ => none
  | _, _ => none
/-- x ≤ y, as Python has it of tuples -/
def lexLe (x y : List Int) : Bool := Ob.lexAt (fun j => decide (x.getD j 0 = y.getD j 0)) (fun j => decide (x.getD j 0 ≤ y.getD j 0)) (decide (x.length ≤ y.length)) 0 (min x.length y.length)
def leD : D → D → Option D
  | .int i, .int j => some (.bl (decide (i ≤ j)))
  | .tup a, .tup b => match intsOf a, intsOf b with
    | some x, some y => some (.bl (lexLe x y))
    | _, _ => none
  | _, _ => none
/-- ≤ in a chain: of ints alone -/
def leI : D → D → Option D
  | .int i, .int j => some (.bl (decide (i ≤ j)))
  | _, _ => none
def gtD : D → D → Option D
  | .int i, .int j => some (.bl (decide (i > j)))
  | _, _ => none
def geD : D → D → Option D
  | .int i, .int j => some (.bl (decide (i ≥ j)))
  | _, _ => none
def isD : D → D → Option D
  | .bl a, .bl b => some (.bl (decide (a = b)))
  | .non, .non => some (.bl true)
  | _, .non => some (.bl false)
  | _, _ => none
def isnD : D → D → Option D
  | .bl a, .bl b => some (.bl (!decide (a = b)))
  | .non, .non => some (.bl false)
  | _, .non => some (.bl true)
  | _, _ => none
def memD (a : D) : D → Option Bool
  | .tup ds => if a.flat = true ∧ ds.all D.flat = true then some (ds.any fun z => D.beq z a) else none
  | .lst ds => if a.shaped = true ∧ (D.lst ds).shaped = true then some (ds.any fun z => D.beq z a) else none
  | _ => none
def inD (a b : D) : Option D := (memD a b).map .bl
def ninD (a b : D) : Option D := (memD a b).map fun k => .bl (!k)
def ixD : D → D → Option D
  | .tup ds, .int i => atI ds i
  | .lst ds, .int i => atI ds i
  | .scr ns, .int i => (atI ns i).map .int
  | .str z, .int i => if z.length ≤ 16777216 then (atI z.cps.toList i).map fun c => .str ⟨#[c]⟩ else none
  | _, _ => none
def cutD (ds : List D) (lo hi : Option Int) : List D := (ds.drop (HT.sIx ds.length 0 lo)).take (HT.sIx ds.length ds.length hi - HT.sIx ds.length 0 lo)
def slD : D → Option Int → Option Int → Option D
  | .tup ds, lo, hi => some (.tup (cutD ds lo hi))
  | .lst ds, lo, hi => some (.lst (cutD ds lo hi))
  | .str z, lo, hi => if z.length ≤ 16777216 then some (.str (cutS z lo hi)) else none
  | _, _, _ => none
def lenD : List D → Option D
  | [.tup ds] => some (.int ds.length)
  | [.lst ds] => some (.int ds.length)
  | [.scr ns] => some (.int ns.length)
  | [.str z] => if z.length ≤ 16777216 then some (.int z.length) else none
  | _ => none
def tupleD : List D → Option D
  | [.tup ds] => some (.tup ds)
  | [.lst ds] => some (.tup ds)
  | _ => none
def listD : List D → Option D
  | [.tup ds] => some (.lst ds)
  | [.lst ds] => some (.lst ds)
  | _ => none
def intD : List D → Option D
  | [.int i] => some (.int i)
  | [.bl b] => some (.int (if b = true then 1 else 0))
  | _ => none
def strD : List D → Option D
  | [.int i] => if i.natAbs.log2 < 1920 then some (.str (toString i)) else none
  | _ => none
def boolD : List D → Option D
  | [.int i] => some (.bl (i != 0))
  | [.bl b] => some (.bl b)
  | _ => none
def sumD : List D → Option D
  | [.lst ds] => (intsOf ds).map fun ns => .int ns.sum
  | _ => none
def maxL (ns : List Int) : Option Int := match ns with
  | [] => none
  | n :: r => some (r.foldl max n)
def minL (ns : List Int) : Option Int := match ns with
  | [] => none
  | n :: r => some (r.foldl min n)
def maxD : List D → Option D
  | [.int i, .int j] => some (.int (max i j))
  | [.int i, .int j, .int k] => some (.int (max (max i j) k))
  | [.lst ds] => (intsOf ds).bind fun ns => (maxL ns).map .int
  | _ => none
def minD : List D → Option D
  | [.int i, .int j] => some (.int (min i j))
  | [.lst ds] => (intsOf ds).bind fun ns => (minL ns).map .int
  | _ => none
def allD : List D → Option D
  | [.lst ds] => (blsOf ds).map fun bs => .bl (bs.all id)
  | _ => none
def anyD : List D → Option D
  | [.lst ds] => (blsOf ds).map fun bs => .bl (bs.any id)
  | _ => none
def insertI (x : Int) : List Int → List Int
  | [] => [x]
  | y :: r => if x ≤ y then x :: y :: r else y :: insertI x r
def sortI : List Int → List Int
  | [] => []
  | x :: r => insertI x (sortI r)
def sortedD : List D → Option D
  | [.lst ds] => (intsOf ds).bind fun ns => if ns.length < 64 then some (.lst ((sortI ns).map .int)) else none
  | _ => none
def tyD : D → Option String
  | .non => some "NoneType" | .bl _ => some "bool" | .int _ => some "int" | .str _ => some "str" | .tup _ => some "tuple" | .lst _ => some "list" | .fn _ => none | .scr _ => none
def isiD (T : String) (d : D) : Option D := (tyD d).bind fun t => (kitB t T).map .bl

theorem intsOf_map : ∀ ns : List Int, intsOf (ns.map D.int) = some ns
  | [] => rfl
  | n :: r => by simp [intsOf, intsOf_map r]
theorem intsOf_inv : ∀ {ds : List D} {ns : List Int}, intsOf ds = some ns → ds = ns.map D.int
  | [], _, h => by cases h; rfl
  | .int i :: r, _, h => by
    simp only [intsOf, Option.map_eq_some_iff] at h
    obtain ⟨a, h1, rfl⟩ := h
    rw [intsOf_inv h1]; rfl
  | .non :: _, _, h => by cases h
  | .bl _ :: _, _, h => by cases h
  | .str _ :: _, _, h => by cases h
  | .tup _ :: _, _, h => by cases h
  | .lst _ :: _, _, h => by cases h
  | .fn _ :: _, _, h => by cases h
  | .scr _ :: _, _, h => by cases h
theorem blsOf_map : ∀ ns : List Bool, blsOf (ns.map D.bl) = some ns
  | [] => rfl
  | n :: r => by simp [blsOf, blsOf_map r]
theorem blsOf_inv : ∀ {ds : List D} {ns : List Bool}, blsOf ds = some ns → ds = ns.map D.bl
  | [], _, h => by cases h; rfl
  | .bl i :: r, _, h => by
    simp only [blsOf, Option.map_eq_some_iff] at h
    obtain ⟨a, h1, rfl⟩ := h
    rw [blsOf_inv h1]; rfl
  | .non :: _, _, h => by cases h
  | .int _ :: _, _, h => by cases h
  | .str _ :: _, _, h => by cases h
  | .tup _ :: _, _, h => by cases h
  | .lst _ :: _, _, h => by cases h
  | .fn _ :: _, _, h => by cases h
  | .scr _ :: _, _, h => by cases h
theorem insertI_perm (x : Int) : ∀ l, (insertI x l).Perm (x :: l)
  | [] => .refl _
  | y :: r => by
    unfold insertI; split
    · exact .refl _
    · exact (List.Perm.cons y (insertI_perm x r)).trans (List.Perm.swap x y r)
theorem sortI_perm : ∀ l, (sortI l).Perm l
  | [] => .refl _
  | x :: r => (insertI_perm x _).trans ((sortI_perm r).cons x)
theorem insertI_sorted (x : Int) : ∀ {l : List Int}, l.Pairwise (· ≤ ·) → (insertI x l).Pairwise (· ≤ ·)
  | [], _ => by simp [insertI]
  | y :: r, h => by
    unfold insertI; split
    · rename_i hx
      refine List.Pairwise.cons (fun z hz => ?_) h
      rcases List.mem_cons.mp hz with rfl | hz
      · exact hx
      · exact Int.le_trans hx (List.rel_of_pairwise_cons h hz)
    · rename_i hx
      refine List.Pairwise.cons (fun z hz => ?_) (insertI_sorted x h.of_cons)
      rcases List.mem_cons.mp ((insertI_perm x r).mem_iff.mp hz) with rfl | hz
      · omega
      · exact List.rel_of_pairwise_cons h hz
theorem sortI_sorted : ∀ l : List Int, (sortI l).Pairwise (· ≤ ·)
  | [] => .nil
  | x :: r => insertI_sorted x (sortI_sorted r)
theorem sortI_uniq {a l : List Int} (h : a.Perm l) (hs : a.Pairwise (· ≤ ·)) : a = sortI l :=
  List.Perm.eq_of_pairwise (le := (· ≤ ·)) (fun a b _ _ h1 h2 => Int.le_antisymm h1 h2) hs (sortI_sorted l) (h.trans (sortI_perm l).symm)
theorem foldl_max_le : ∀ (l : List Int) (n : Int), n ≤ l.foldl max n ∧ ∀ y ∈ l, y ≤ l.foldl max n
  | [], n => ⟨Int.le_refl _, by simp⟩
  | x :: r, n => by
    obtain ⟨h1, h2⟩ := foldl_max_le r (max n x)
    refine ⟨Int.le_trans (Int.le_max_left n x) h1, fun y hy => ?_⟩
    rcases List.mem_cons.mp hy with rfl | hy
    · exact Int.le_trans (Int.le_max_right n y) h1
    · exact h2 y hy
theorem foldl_max_mem : ∀ (l : List Int) (n : Int), l.foldl max n = n ∨ l.foldl max n ∈ l
  | [], n => .inl rfl
  | x :: r, n => by
    rw [List.foldl_cons]
    rcases foldl_max_mem r (max n x) with h | h
    · rw [h]
      by_cases q : x ≤ n
      · exact .inl (Int.max_eq_left q)
      · exact .inr (by rw [Int.max_eq_right (by omega)]; exact List.mem_cons_self)
    · exact .inr (List.mem_cons_of_mem _ h)
theorem foldl_min_le : ∀ (l : List Int) (n : Int), l.foldl min n ≤ n ∧ ∀ y ∈ l, l.foldl min n ≤ y
  | [], n => ⟨Int.le_refl _, by simp⟩
  | x :: r, n => by
    obtain ⟨h1, h2⟩ := foldl_min_le r (min n x)
    refine ⟨Int.le_trans h1 (Int.min_le_left n x), fun y hy => ?_⟩
    rcases List.mem_cons.mp hy with rfl | hy
    · exact Int.le_trans h1 (Int.min_le_right n y)
    · exact h2 y hy
theorem foldl_min_mem : ∀ (l : List Int) (n : Int), l.foldl min n = n ∨ l.foldl min n ∈ l
  | [], n => .inl rfl
  | x :: r, n => by
    rw [List.foldl_cons]
    rcases foldl_min_mem r (min n x) with h | h
    · rw [h]
      by_cases q : n ≤ x
      · exact .inl (Int.min_eq_left q)
      · exact .inr (by rw [Int.min_eq_right (by omega)]; exact List.mem_cons_self)
    · exact .inr (List.mem_cons_of_mem _ h)

/-! ### their rules -/
section
variable {mg : Str → Option Value} {K : PySem.W.Frag}
theorem l_add : Lift2 mg K (fun x y H Q => rI0 (fun i j => .int (i + j)) x y H Q ∨ (fun x y H Q => ∃ (i j : Str), x = .str i ∧ y = .str j ∧ i.length + j.length ≤ sizeLine ∧ Q (.str (i ++ j)) H) x y H Q ∨ rCatA K x y H Q ∨ rCat x y H Q) addD := by
  intro H S x y a b c Q f ra rb e q
  unfold addD at e
  split at e
  · cases ra.int; cases rb.int; cases e
    exact .inl ⟨_, _, rfl, rfl, q.here .int⟩
  · cases ra.str; cases rb.str
    split at e
    · cases e; exact .inr (.inl ⟨_, _, rfl, rfl, by rw [sizeLine_eq]; assumption, q.here .str⟩)
    · cases e
  · obtain ⟨p, xs, rfl, hp, lx⟩ := ra.tup
    obtain ⟨p', ys, rfl, hp', ly⟩ := rb.tup
    split at e
    · rename_i hz
      cases e
      refine .inr (.inr (.inl ⟨p, p', xs, ys, rfl, rfl, SqT.of hp, SqT.of hp', by rw [sizeLine_eq, ← lx.length, ← ly.length]; exact hz, fun e0 => ?_, fun _ e0 => ?_, fun _ _ r hr => ?_⟩))
      · subst e0; cases lx
        rcases rb with rb | ⟨_, _, _, z, _⟩
        · exact q.here rb
        · cases z
      · subst e0; cases ly
        rcases ra with ra | ⟨_, _, _, z, _⟩
        · exact q.here (by rw [List.append_nil]; exact ra)
        · cases z
      · exact q.tup f (lx.append ly) hr
    · cases e
  · obtain ⟨p, xs, rfl, hp, lx⟩ := ra.lst
    obtain ⟨p', ys, rfl, hp', ly⟩ := rb.lst
    split at e
    · rename_i hz
      cases e
      exact .inr (.inr (.inr ⟨p, p', xs, ys, rfl, rfl, hp, hp', by rw [sizeLine_eq, ← lx.length, ← ly.length]; exact hz, fun r hr => q.lst f (lx.append ly) hr⟩))
    · cases e
  · cases e
theorem l_sub : Lift2 mg K (rI0 fun i j => .int (i - j)) subD := by
  intro H S x y a b c Q f ra rb e q
  unfold subD at e
  split at e
  · cases ra.int; cases rb.int; cases e; exact ⟨_, _, rfl, rfl, q.here .int⟩
  · cases e
theorem RepL.flat {G : Hp} {ds : List D} {xs : List V} (l : RepL mg K G ds xs) : ∀ k : Nat, RepL mg K G (List.replicate k ds).flatten (List.replicate k xs).flatten
  | 0 => .nil
  | k + 1 => by rw [List.replicate_succ, List.replicate_succ, List.flatten_cons, List.flatten_cons]; exact l.append (RepL.flat l k)
theorem l_mul : Lift2 mg K (fun x y H Q => rI CMul (fun i j => .int (i * j)) x y H Q ∨ rRep x y H Q ∨ rRepA K x y H Q) mulD := by
  intro H S x y a b c Q f ra rb e q
  unfold mulD at e
  split at e
  · cases ra.int; cases rb.int
    split at e
    · cases e; exact .inl ⟨_, _, rfl, rfl, by unfold CMul; omega, q.here .int⟩
    · cases e
  · obtain ⟨p, xs, rfl, hp, lx⟩ := ra.lst
    cases rb.int
    split at e
    · rename_i k hk
      cases e
      have hm : xs.length * k.toNat ≤ 1000 * 1000 := Nat.mul_le_mul (by rw [← lx.length]; exact hk.2.2) (by omega)
      exact .inr (.inl ⟨p, _, xs, rfl, rfl, hp, by omega, by omega, by rw [sizeLine_eq]; omega, fun r hr => q.lst f (lx.flat _) hr⟩)
    · cases e
  · obtain ⟨p, xs, rfl, hp, lx⟩ := ra.tup
    cases rb.int
    split at e
    · rename_i ds k hk
      cases e
      refine .inr (.inr ⟨p, _, xs, rfl, rfl, SqT.of hp, fun z => hk.2.2.2 (by rw [lx.length, z]; rfl), hk.1, hk.2.1, by rw [← lx.length]; exact hk.2.2.1, fun h1 => ?_, fun _ r hr => q.tup f (lx.flat _) hr⟩)
      subst h1
      rw [show (List.replicate (1 : Int).toNat ds).flatten = ds by simp] at q
      rcases ra with ra | ⟨_, _, _, z, _⟩
      · exact q.here ra
      · cases z
    · cases e
  · cases e
theorem l_mod : Lift2 mg K (rI (fun _ j => 0 < j) fun i j => .int (i % j)) modD := by
  intro H S x y a b c Q f ra rb e q
  unfold modD at e
  split at e
  · cases ra.int; cases rb.int
    split at e
    · cases e; exact ⟨_, _, rfl, rfl, by assumption, q.here .int⟩
    · cases e
  · cases e
theorem l_fdiv : Lift2 mg K (rI CDiv fun i j => .int (i / j)) fdivD := by
  intro H S x y a b c Q f ra rb e q
  unfold fdivD at e
  split at e
  · cases ra.int; cases rb.int
    split at e
    · cases e; exact ⟨_, _, rfl, rfl, by unfold CDiv; omega, q.here .int⟩
    · cases e
  · cases e
theorem l_pow : Lift2 mg K (rI CPow fun i j => .int (i ^ j.toNat)) powD := by
  intro H S x y a b c Q f ra rb e q
  unfold powD at e
  split at e
  · cases ra.int; cases rb.int
    split at e
    · cases e; exact ⟨_, _, rfl, rfl, by unfold CPow; omega, q.here .int⟩
    · cases e
  · cases e
theorem l_neg : Lift1 mg K (rU fun i => .int (-i)) negD := by
  intro H S x a c Q f ra e q
  unfold negD at e
  split at e
  · cases ra.int; cases e; exact ⟨_, rfl, q.here .int⟩
  · cases e
theorem l_eq : Lift2 mg K (rEqD K) eqD := by
  intro H S x y a b c Q f ra rb e q
  unfold eqD at e
  split at e
  · rename_i h
    cases e
    obtain ⟨h1, h2⟩ := h
    have k1 : a.cmpOk = true := (Bool.and_eq_true_iff.mp h1).1
    have k2 : b.cmpOk = true := (Bool.and_eq_true_iff.mp h2).1
    refine ⟨_, _, ra.dp k1, rb.dp k2, shaped_py h1, shaped_py h2, ?_⟩
    rw [toPy_eqv a b k1 k2]
    exact q.here .bl
  · cases e
theorem l_ne : Lift2 mg K (rNeD K) neD := by
  intro H S x y a b c Q f ra rb e q
  unfold neD at e
  split at e
  · rename_i h
    cases e
    obtain ⟨h1, h2⟩ := h
    have k1 : a.cmpOk = true := (Bool.and_eq_true_iff.mp h1).1
    have k2 : b.cmpOk = true := (Bool.and_eq_true_iff.mp h2).1
    refine ⟨_, _, ra.dp k1, rb.dp k2, shaped_py h1, shaped_py h2, ?_⟩
    rw [toPy_eqv a b k1 k2]
    exact q.here .bl
  · cases e
theorem l_lt : Lift2 mg K (fun x y H Q => rI0 (fun i j => .bl (decide (i < j))) x y H Q ∨ rLtT K x y H Q) ltD := by
  intro H S x y a b c Q f ra rb e q
  unfold ltD at e
  split at e
  · cases ra.int; cases rb.int; cases e; exact .inl ⟨_, _, rfl, rfl, q.here .bl⟩
  · obtain ⟨p, xs, rfl, hp, lx⟩ := ra.tup
    obtain ⟨p', ys, rfl, hp', ly⟩ := rb.tup
    split at e
    · rename_i e1 e2
      cases e
      rw [intsOf_inv e1] at lx
      rw [intsOf_inv e2] at ly
      cases lx.ints_inv; cases ly.ints_inv
      exact .inr ⟨p, p', _, _, rfl, rfl, SqT.of hp, SqT.of hp', q.here .bl⟩
    · cases e
  · cases e
theorem l_leI : Lift2 mg K (rI0 fun i j => .bl (decide (i ≤ j))) leI := by
  intro H S x y a b c Q f ra rb e q
  unfold leI at e
  split at e
  · cases ra.int; cases rb.int; cases e; exact ⟨_, _, rfl, rfl, q.here .bl⟩
  · cases e
theorem l_le : Lift2 mg K (fun x y H Q => rI0 (fun i j => .bl (decide (i ≤ j))) x y H Q ∨ rLeT K x y H Q) leD := by
  intro H S x y a b c Q f ra rb e q
  unfold leD at e
  split at e
  · cases ra.int; cases rb.int; cases e; exact .inl ⟨_, _, rfl, rfl, q.here .bl⟩
  · obtain ⟨p, xs, rfl, hp, lx⟩ := ra.tup
    obtain ⟨p', ys, rfl, hp', ly⟩ := rb.tup
    split at e
    · rename_i e1 e2
      cases e
      rw [intsOf_inv e1] at lx
      rw [intsOf_inv e2] at ly
      cases lx.ints_inv; cases ly.ints_inv
      exact .inr ⟨p, p', _, _, rfl, rfl, SqT.of hp, SqT.of hp', q.here .bl⟩
    · cases e
  · cases e
theorem l_gt : Lift2 mg K (rI0 fun i j => .bl (decide (i > j))) gtD := by
  intro H S x y a b c Q f ra rb e q
  unfold gtD at e
  split at e
  · cases ra.int; cases rb.int; cases e; exact ⟨_, _, rfl, rfl, q.here .bl⟩
  · cases e
theorem l_ge : Lift2 mg K (rI0 fun i j => .bl (decide (i ≥ j))) geD := by
  intro H S x y a b c Q f ra rb e q
  unfold geD at e
  split at e
  · cases ra.int; cases rb.int; cases e; exact ⟨_, _, rfl, rfl, q.here .bl⟩
  · cases e
theorem DRep.isN {H : Hp} {S : List Addr} {d : D} {v : V} (h : DRep mg K H S d v) : decide (v = .non) = match d with | .non => true | _ => false := by
  rcases h with h | ⟨ds, a, xs, rfl, rfl, _⟩
  · cases h <;> simp
  · simp
theorem l_is : Lift2 mg K (fun x y H Q => rIsB x y H Q ∨ (fun x y H Q => y = .non ∧ Q (.bl (decide (x = .non))) H) x y H Q) isD := by
  intro H S x y a b c Q f ra rb e q
  unfold isD at e
  split at e
  · cases ra.bl; cases rb.bl; cases e; exact .inl ⟨_, _, rfl, rfl, q.here .bl⟩
  · cases ra.non; cases rb.non; cases e; exact .inr ⟨rfl, q.here (by simpa using Rep.bl)⟩
  · rename_i hne
    cases rb.non; cases e
    refine .inr ⟨rfl, q.here ?_⟩
    rw [ra.isN]
    cases a <;> first | exact .bl | exact (hne rfl).elim
  · cases e
theorem l_isn : Lift2 mg K (fun x y H Q => rNotB x y H Q ∨ (fun x y H Q => y = .non ∧ Q (.bl (!decide (x = .non))) H) x y H Q) isnD := by
  intro H S x y a b c Q f ra rb e q
  unfold isnD at e
  split at e
  · cases ra.bl; cases rb.bl; cases e; exact .inl ⟨_, _, rfl, rfl, q.here .bl⟩
  · cases ra.non; cases rb.non; cases e; exact .inr ⟨rfl, q.here (by simpa using Rep.bl)⟩
  · rename_i hne
    cases rb.non; cases e
    refine .inr ⟨rfl, q.here ?_⟩
    rw [ra.isN]
    cases a <;> first | exact .bl | exact (hne rfl).elim
  · cases e
theorem DRep.flatR {H : Hp} {S : List Addr} {d : D} {v : V} (h : DRep mg K H S d v) (k : d.flat = true) : Rep mg K (hid H S) d v := by
  rcases h with h | ⟨ds, a, xs, rfl, rfl, _⟩
  · exact h
  · simp [D.flat] at k
theorem any_py {a : D} (ha : a.cmpOk = true) : ∀ {ds : List D}, cmpOkL ds = true → ((toPyL ds).any fun z => PyData.eqv z a.toPy) = ds.any fun z => D.beq z a
  | [], _ => rfl
  | d :: r, h => by
    simp only [cmpOkL, Bool.and_eq_true] at h
    simp only [toPyL, List.any_cons, toPy_eqv d a h.1 ha, any_py ha h.2]
theorem l_in : Lift2 mg K (fun x y H Q => rIn K false x y H Q ∨ rInD K x y H Q) inD := by
  intro H S x y a b c Q f ra rb e q
  obtain ⟨k, e1, rfl⟩ := Option.map_eq_some_iff.mp e
  clear e
  unfold memD at e1
  split at e1
  · obtain ⟨p, xs, rfl, hp, lx⟩ := rb.tup
    split at e1
    · rename_i h
      cases e1
      have ra' := ra.flatR h.1
      refine .inl ⟨p, xs, rfl, .inr (SqT.of hp), ra'.flatV h.1, lx.flatV h.2, ?_⟩
      rw [if_neg (by decide), RepL.inV ra' h.1 lx h.2]
      exact q.here .bl
    · cases e1
  · split at e1
    · rename_i h
      cases e1
      have k1 : a.cmpOk = true := (Bool.and_eq_true_iff.mp h.1).1
      have k2 := (Bool.and_eq_true_iff.mp h.2).1
      have d2 := rb.dp k2
      have s2 := shaped_py h.2
      simp only [D.toPy] at d2 s2
      refine .inr ⟨_, _, ra.dp k1, d2, shaped_py h.1, s2, ?_⟩
      rw [any_py k1 (by simpa [D.cmpOk] using k2)]
      exact q.here .bl
    · cases e1
  · cases e1
theorem l_nin : Lift2 mg K (fun x y H Q => rIn K true x y H Q ∨ rNotInD K x y H Q) ninD := by
  intro H S x y a b c Q f ra rb e q
  obtain ⟨k, e1, rfl⟩ := Option.map_eq_some_iff.mp e
  clear e
  unfold memD at e1
  split at e1
  · obtain ⟨p, xs, rfl, hp, lx⟩ := rb.tup
    split at e1
    · rename_i h
      cases e1
      have ra' := ra.flatR h.1
      refine .inl ⟨p, xs, rfl, .inr (SqT.of hp), ra'.flatV h.1, lx.flatV h.2, ?_⟩
      rw [if_pos rfl, RepL.inV ra' h.1 lx h.2]
      exact q.here .bl
    · cases e1
  · split at e1
    · rename_i h
      cases e1
      have k1 : a.cmpOk = true := (Bool.and_eq_true_iff.mp h.1).1
      have k2 := (Bool.and_eq_true_iff.mp h.2).1
      have d2 := rb.dp k2
      have s2 := shaped_py h.2
      simp only [D.toPy] at d2 s2
      refine .inr ⟨_, _, ra.dp k1, d2, shaped_py h.1, s2, ?_⟩
      rw [any_py k1 (by simpa [D.cmpOk] using k2)]
      exact q.here .bl
    · cases e1
  · cases e1
theorem RepL.atI {G : Hp} {ds : List D} {vs : List V} {i : Int} {d : D} (l : RepL mg K G ds vs) (h : L2.atI ds i = some d) : ∃ v, L2.atI vs i = some v ∧ Rep mg K G d v := by
  unfold L2.atI at h ⊢
  rw [← l.length]
  obtain ⟨j, h1, h2⟩ := Option.bind_eq_some_iff.mp h
  obtain ⟨v, h3, h4⟩ := l.get j h2
  exact ⟨v, by rw [h1]; exact h3, h4⟩
theorem atI_map {α β : Type} (g : α → β) (xs : List α) (i : Int) : L2.atI (xs.map g) i = (L2.atI xs i).map g := by
  unfold L2.atI
  rw [List.length_map]
  cases ixN xs.length i with
  | none => rfl
  | some j => simp
theorem l_ix : Lift2 mg K (fun x y H Q => rIxL K x y H Q ∨ rIxT K x y H Q ∨ rIxS x y H Q) ixD := by
  intro H S x y a b c Q f ra rb e q
  unfold ixD at e
  split at e
  · obtain ⟨p, xs, rfl, hp, lx⟩ := ra.tup
    cases rb.int
    obtain ⟨v, h1, h2⟩ := lx.atI e
    exact .inr (.inl ⟨p, xs, _, v, rfl, rfl, SqT.of hp, h1, q.here h2⟩)
  · obtain ⟨p, xs, rfl, hp, lx⟩ := ra.lst
    cases rb.int
    obtain ⟨v, h1, h2⟩ := lx.atI e
    exact .inl ⟨p, xs, _, v, rfl, rfl, SqL.of hp, h1, q.here h2⟩
  · obtain ⟨p, rfl, hp⟩ := ra.scr
    cases rb.int
    obtain ⟨k, h1, rfl⟩ := Option.map_eq_some_iff.mp e
    exact .inl ⟨p, _, _, .int k, rfl, rfl, hp, by rw [atI_map, h1]; rfl, q.here .int⟩
  · cases ra.str; cases rb.int
    split at e
    · obtain ⟨k, h1, rfl⟩ := Option.map_eq_some_iff.mp e
      exact .inr (.inr ⟨_, _, k, rfl, rfl, by rw [sizeLine_eq]; assumption, h1, q.here .str⟩)
    · cases e
  · cases e
def LiftS (mg : Str → Option Value) (K : PySem.W.Frag) (r : V → Option Int → Option Int → Hp → VK → Prop) : Prop :=
  ∀ (H : Hp) (S : List Addr) (x : V) (a c : D) (lo hi : Option Int) (Q : VK), (∀ p ∈ S, H p ≠ none) → DRep mg K H S a x → slD a lo hi = some c → Ans mg K H S c Q → r x lo hi H Q
theorem RepL.cut {G : Hp} {ds : List D} {vs : List V} (l : RepL mg K G ds vs) (lo hi : Option Int) : RepL mg K G (cutD ds lo hi) (cutV vs lo hi) := by
  unfold cutD cutV
  rw [← l.length]
  exact (l.drop _).take _
theorem cut_whole {ds : List D} {lo hi : Option Int} (h : HT.sIx ds.length 0 lo = 0 ∧ HT.sIx ds.length ds.length hi = ds.length) : cutD ds lo hi = ds := by
  unfold cutD
  rw [h.1, h.2, List.drop_zero, Nat.sub_zero, List.take_length]
theorem l_sl : LiftS mg K (fun x lo hi H Q => rSlA K x lo hi H Q ∨ rSlL K x lo hi H Q ∨ rSlS x lo hi H Q) := by
  intro H S x a c lo hi Q f ra e q
  unfold slD at e
  split at e
  · obtain ⟨p, xs, rfl, hp, lx⟩ := ra.tup
    cases e
    refine .inl ⟨p, xs, rfl, SqT.of hp, fun h => ?_, fun h r hr => q.tup f (lx.cut _ _) hr⟩
    rw [← lx.length] at h
    rw [cut_whole h] at q
    rcases ra with ra | ⟨_, _, _, z, _⟩
    · exact q.here ra
    · cases z
  · obtain ⟨p, xs, rfl, hp, lx⟩ := ra.lst
    cases e
    exact .inr (.inl ⟨p, xs, rfl, SqL.of hp, fun r hr => q.lst f (lx.cut _ _) hr⟩)
  · cases ra.str
    split at e
    · cases e; exact .inr (.inr ⟨_, rfl, by rw [sizeLine_eq]; assumption, q.here .str⟩)
    · cases e
  · cases e
theorem DRepL.one {H : Hp} {S : List Addr} {d : D} {vs : List V} (h : DRepL mg K H S [d] vs) : ∃ v, vs = [v] ∧ DRep mg K H S d v := by
  cases h with
  | cons h l => cases l; exact ⟨_, rfl, h⟩
theorem DRepL.two {H : Hp} {S : List Addr} {d e : D} {vs : List V} (h : DRepL mg K H S [d, e] vs) : ∃ v u, vs = [v, u] ∧ DRep mg K H S d v ∧ DRep mg K H S e u := by
  cases h with
  | cons h l => obtain ⟨u, rfl, k⟩ := l.one; exact ⟨_, u, rfl, h, k⟩
theorem DRepL.three {H : Hp} {S : List Addr} {d e g : D} {vs : List V} (h : DRepL mg K H S [d, e, g] vs) : ∃ v u w, vs = [v, u, w] ∧ DRep mg K H S d v ∧ DRep mg K H S e u ∧ DRep mg K H S g w := by
  cases h with
  | cons h l => obtain ⟨u, w, rfl, k, m⟩ := l.two; exact ⟨_, u, w, rfl, h, k, m⟩
theorem l_len : LiftN mg K (fun xs H Q => ∃ x n, xs = [x] ∧ LenV K x H n ∧ Q (.int (n : Nat)) H) lenD := by
  intro H S xs ds c Q f ra e q
  unfold lenD at e
  split at e
  · obtain ⟨v, rfl, h⟩ := ra.one
    obtain ⟨p, ys, rfl, hp, lx⟩ := h.tup
    cases e
    exact ⟨_, _, rfl, .inr ⟨ys, SqT.of hp, rfl⟩, by rw [← lx.length]; exact q.here .int⟩
  · obtain ⟨v, rfl, h⟩ := ra.one
    obtain ⟨p, ys, rfl, hp, lx⟩ := h.lst
    cases e
    exact ⟨_, _, rfl, .inl ⟨ys, SqL.of hp, rfl⟩, by rw [← lx.length]; exact q.here .int⟩
  · obtain ⟨v, rfl, h⟩ := ra.one
    obtain ⟨p, rfl, hp⟩ := h.scr
    cases e
    exact ⟨_, _, rfl, .inl ⟨_, hp, rfl⟩, by rw [List.length_map]; exact q.here .int⟩
  · obtain ⟨v, rfl, h⟩ := ra.one
    cases h.str
    split at e
    · cases e; exact ⟨_, _, rfl, ⟨by rw [sizeLine_eq]; assumption, rfl⟩, q.here .int⟩
    · cases e
  · cases e
theorem l_tuple : LiftN mg K (fun xs H Q => ∃ p ys, xs = [.ref p] ∧ ((SqL K H p ys ∧ ∀ l, H l = none → Q (.ref l) (upd H l (.tup ys))) ∨ (SqT K H p ys ∧ Q (.ref p) H))) tupleD := by
  intro H S xs ds c Q f ra e q
  unfold tupleD at e
  split at e
  · obtain ⟨v, rfl, h⟩ := ra.one
    obtain ⟨p, ys, rfl, hp, lx⟩ := h.tup
    cases e
    refine ⟨p, ys, rfl, .inr ⟨SqT.of hp, ?_⟩⟩
    rcases h with h | ⟨_, _, _, z, _⟩
    · exact q.here h
    · cases z
  · obtain ⟨v, rfl, h⟩ := ra.one
    obtain ⟨p, ys, rfl, hp, lx⟩ := h.lst
    cases e
    exact ⟨p, ys, rfl, .inl ⟨SqL.of hp, fun r hr => q.tup f lx hr⟩⟩
  · cases e
theorem l_list : LiftN mg K (fun xs H Q => ∃ p ys, xs = [.ref p] ∧ (SqL K H p ys ∨ SqT K H p ys) ∧ ∀ l, H l = none → Q (.ref l) (upd H l (.lst ys))) listD := by
  intro H S xs ds c Q f ra e q
  unfold listD at e
  split at e
  · obtain ⟨v, rfl, h⟩ := ra.one
    obtain ⟨p, ys, rfl, hp, lx⟩ := h.tup
    cases e
    exact ⟨p, ys, rfl, .inr (SqT.of hp), fun r hr => q.lst f lx hr⟩
  · obtain ⟨v, rfl, h⟩ := ra.one
    obtain ⟨p, ys, rfl, hp, lx⟩ := h.lst
    cases e
    exact ⟨p, ys, rfl, .inl (SqL.of hp), fun r hr => q.lst f lx hr⟩
  · cases e
theorem l_int : LiftN mg K (fun xs H Q => (∃ i, xs = [.int i] ∧ Q (.int i) H) ∨ ∃ k : Bool, xs = [.bl k] ∧ Q (.int (if k = true then 1 else 0)) H) intD := by
  intro H S xs ds c Q f ra e q
  unfold intD at e
  split at e
  · obtain ⟨v, rfl, h⟩ := ra.one
    cases h.int; cases e; exact .inl ⟨_, rfl, q.here .int⟩
  · obtain ⟨v, rfl, h⟩ := ra.one
    cases h.bl; cases e; exact .inr ⟨_, rfl, q.here .int⟩
  · cases e
theorem l_str : LiftN mg K (fun xs H Q => ∃ i : Int, xs = [.int i] ∧ i.natAbs.log2 < 1920 ∧ Q (.str (toString i)) H) strD := by
  intro H S xs ds c Q f ra e q
  unfold strD at e
  split at e
  · obtain ⟨v, rfl, h⟩ := ra.one
    cases h.int
    split at e
    · cases e; exact ⟨_, rfl, by assumption, q.here .str⟩
    · cases e
  · cases e
theorem l_bool : LiftN mg K (fun xs H Q => (∃ i, xs = [.int i] ∧ Q (.bl (i != 0)) H) ∨ ∃ k : Bool, xs = [.bl k] ∧ Q (.bl k) H) boolD := by
  intro H S xs ds c Q f ra e q
  unfold boolD at e
  split at e
  · obtain ⟨v, rfl, h⟩ := ra.one
    cases h.int; cases e; exact .inl ⟨_, rfl, q.here .bl⟩
  · obtain ⟨v, rfl, h⟩ := ra.one
    cases h.bl; cases e; exact .inr ⟨_, rfl, q.here .bl⟩
  · cases e
theorem DRep.ints {H : Hp} {S : List Addr} {ds : List D} {ns : List Int} {v : V} (h : DRep mg K H S (.lst ds) v) (e : intsOf ds = some ns) : ∃ p, v = .ref p ∧ SqL K H p (ns.map V.int) := by
  obtain ⟨p, ys, rfl, hp, lx⟩ := h.lst
  rw [intsOf_inv e] at lx
  rw [lx.ints_inv] at hp
  exact ⟨p, rfl, SqL.of hp⟩
theorem l_sum : LiftN mg K (rSum K) sumD := by
  intro H S xs ds c Q f ra e q
  unfold sumD at e
  split at e
  · obtain ⟨v, rfl, h⟩ := ra.one
    obtain ⟨ns, e1, rfl⟩ := Option.map_eq_some_iff.mp e
    obtain ⟨p, rfl, hp⟩ := h.ints e1
    exact ⟨p, ns, rfl, hp, q.here .int⟩
  · cases e
theorem l_all : LiftN mg K (rAll K) allD := by
  intro H S xs ds c Q f ra e q
  unfold allD at e
  split at e
  · obtain ⟨v, rfl, h⟩ := ra.one
    obtain ⟨ns, e1, rfl⟩ := Option.map_eq_some_iff.mp e
    obtain ⟨p, ys, rfl, hp, lx⟩ := h.lst
    rw [blsOf_inv e1] at lx
    have : ys = ns.map V.bl := by
      clear hp e e1 h ra q
      induction ns generalizing ys with
      | nil => cases lx; rfl
      | cons n r ih => cases lx with | cons h l => cases h; rw [ih _ l]; rfl
    subst this
    exact ⟨p, ns, rfl, SqL.of hp, q.here .bl⟩
  · cases e
theorem l_any : LiftN mg K (rAny K) anyD := by
  intro H S xs ds c Q f ra e q
  unfold anyD at e
  split at e
  · obtain ⟨v, rfl, h⟩ := ra.one
    obtain ⟨ns, e1, rfl⟩ := Option.map_eq_some_iff.mp e
    obtain ⟨p, ys, rfl, hp, lx⟩ := h.lst
    rw [blsOf_inv e1] at lx
    have : ys = ns.map V.bl := by
      clear hp e e1 h ra q
      induction ns generalizing ys with
      | nil => cases lx; rfl
      | cons n r ih => cases lx with | cons h l => cases h; rw [ih _ l]; rfl
    subst this
    exact ⟨p, ns, rfl, SqL.of hp, q.here .bl⟩
  · cases e
theorem l_sorted : LiftN mg K (rSorted K) sortedD := by
  intro H S xs ds c Q f ra e q
  unfold sortedD at e
  split at e
  · obtain ⟨v, rfl, h⟩ := ra.one
    obtain ⟨ns, e1, e2⟩ := Option.bind_eq_some_iff.mp e
    obtain ⟨p, rfl, hp⟩ := h.ints e1
    split at e2
    · cases e2
      refine ⟨p, ns, rfl, hp, by assumption, fun ns' r hperm hsort hr => ?_⟩
      rw [sortI_uniq hperm hsort]
      exact q.lst f (RepL.ints _) hr
    · cases e2
  · cases e
def rMx (K : PySem.W.Frag) : List V → Hp → VK → Prop := fun vs H Q => (∃ i j, vs = [.int i, .int j] ∧ Q (.int (if j > i then j else i)) H) ∨ rMax K vs H Q ∨
  ∃ i j k, vs = [.int i, .int j, .int k] ∧ Q (.int (if j > i then (if k > j then k else j) else if k > i then k else i)) H
def rMn (K : PySem.W.Frag) : List V → Hp → VK → Prop := fun vs H Q => (∃ i j, vs = [.int i, .int j] ∧ Q (.int (if j < i then j else i)) H) ∨ rMin K vs H Q
theorem l_max : LiftN mg K (rMx K) maxD := by
  intro H S xs ds c Q f ra e q
  unfold maxD at e
  split at e
  · obtain ⟨v, u, rfl, h, k⟩ := ra.two
    cases h.int; cases k.int; cases e
    refine .inl ⟨_, _, rfl, ?_⟩
    rename_i i j
    rw [show (if j > i then j else i) = max i j by split <;> omega]
    exact q.here .int
  · obtain ⟨v, u, w, rfl, h, h2, h3⟩ := ra.three
    cases h.int; cases h2.int; cases h3.int; cases e
    refine .inr (.inr ⟨_, _, _, rfl, ?_⟩)
    rename_i i j k
    rw [show (if j > i then (if k > j then k else j) else if k > i then k else i) = max (max i j) k by split <;> split <;> omega]
    exact q.here .int
  · obtain ⟨v, rfl, h⟩ := ra.one
    obtain ⟨ns, e1, e2⟩ := Option.bind_eq_some_iff.mp e
    obtain ⟨p, rfl, hp⟩ := h.ints e1
    obtain ⟨n, e3, rfl⟩ := Option.map_eq_some_iff.mp e2
    cases ns with
    | nil => cases e3
    | cons x r =>
      cases e3
      refine .inr (.inl ⟨p, x :: r, rfl, hp, by simp, fun m hm hall => ?_⟩)
      have e : m = r.foldl max x := by
        have h1 : m ≤ r.foldl max x := by
          rcases List.mem_cons.mp hm with rfl | hm
          · exact (foldl_max_le r _).1
          · exact (foldl_max_le r _).2 m hm
        have h2 : r.foldl max x ≤ m := by
          apply hall
          rcases foldl_max_mem r x with z | z
          · rw [z]; exact List.mem_cons_self
          · exact List.mem_cons_of_mem _ z
        omega
      rw [e]
      exact q.here .int
  · cases e
theorem l_min : LiftN mg K (rMn K) minD := by
  intro H S xs ds c Q f ra e q
  unfold minD at e
  split at e
  · obtain ⟨v, u, rfl, h, k⟩ := ra.two
    cases h.int; cases k.int; cases e
    refine .inl ⟨_, _, rfl, ?_⟩
    rename_i i j
    rw [show (if j < i then j else i) = min i j by split <;> omega]
    exact q.here .int
  · obtain ⟨v, rfl, h⟩ := ra.one
    obtain ⟨ns, e1, e2⟩ := Option.bind_eq_some_iff.mp e
    obtain ⟨p, rfl, hp⟩ := h.ints e1
    obtain ⟨n, e3, rfl⟩ := Option.map_eq_some_iff.mp e2
    cases ns with
    | nil => cases e3
    | cons x r =>
      cases e3
      refine .inr ⟨p, x :: r, rfl, hp, by simp, fun m hm hall => ?_⟩
      have e : m = r.foldl min x := by
        have h1 : r.foldl min x ≤ m := by
          rcases List.mem_cons.mp hm with rfl | hm
          · exact (foldl_min_le r _).1
          · exact (foldl_min_le r _).2 m hm
        have h2 : m ≤ r.foldl min x := by
          apply hall
          rcases foldl_min_mem r x with z | z
          · rw [z]; exact List.mem_cons_self
          · exact List.mem_cons_of_mem _ z
        omega
      rw [e]
      exact q.here .int
  · cases e
end
end DL

set_option Elab.async false
set_option linter.all false
set_option maxRecDepth 100000
set_option maxHeartbeats 1000000
/-! DLRules: expressions, tests, targets, statements, loops, comprehensions, defs and their calls by plain functions -/
namespace DL
open PySem PySem.Spec PyProof.Rows L2
variable [TabCtx]

/-! ### the surroundings -/
/-- what is asked of a running frame or block -/
structure Cxb (X : Cx) (CX : CXT) (W : WXD) (k : Nat) : Prop where
  calm : X.calm = true
  nd : X.N.Nodup
  pas : ∀ σ, PassesAt CX X σ (fun c d H => W c d σ H)
  room : Room k X.A
  sil : ∀ (Y : Cx) (σ : L2.St), Y.prog = X.prog → Y.w = X.w → PassesAt CX Y σ (fun _ _ _ => False)
abbrev W0 : WXD := fun _ _ _ _ => False
structure Cxt (X : Cx) (CX : CXT) (W : WXD) (k : Nat) : Prop extends Cxb X CX W k where
  own : PassesOwn (model X.prog X.w) X.A X.env X.xe
theorem Cxb.hu {X : Cx} {CX : CXT} {W : WXD} {k : Nat} (C : Cxb X CX W k) : X.A.units + 64 < cLine := Nat.lt_of_le_of_lt (Nat.le_refl _) C.room.units

/-! ### expressions -/
def eV (i : Nat) : EF := fun ρ μ => match ρ[i]? with
  | some (some s) => .ok s μ
  | _ => .no
def eC (d : D) : EF := fun _ μ => .ok (.d d) μ
def e1 (g : D → Option D) (fa : EF) : EF := fun ρ μ => (fa ρ μ).bind fun x μ1 => o1 g x μ1
def e2 (g : D → D → Option D) (fa fb : EF) : EF := fun ρ μ => (fa ρ μ).bind fun x μ1 => (fb ρ μ1).bind fun y μ2 => o2 g x y μ2
def aNil : AF := fun _ μ => .ok [] μ
def aCons (fa : EF) (fr : AF) : AF := fun ρ μ => (fa ρ μ).bind fun x μ1 => (fr ρ μ1).bind fun xs μ2 => .ok (x :: xs) μ2
def eN (g : List D → Option D) (fa : AF) : EF := fun ρ μ => (fa ρ μ).bind fun xs μ1 => oN g xs μ1
/-- data only -/
def dsOf : List Sl → Option (List D)
  | [] => some []
  | .d x :: r => (dsOf r).map (x :: ·)
  | .ob _ :: _ => none
  | .clo _ :: _ => none
def eTup (fa : AF) : EF := fun ρ μ => (fa ρ μ).bind fun xs μ1 => match dsOf xs with
  | some ds => if ds.length ≤ 16777216 then .ok (.d (.tup ds)) μ1 else .no
  | none => .no
/-- what makes a new list -/
abbrev LF := Rho → Store → Res (List D)
def lLst (fa : AF) : LF := fun ρ μ => (fa ρ μ).bind fun xs μ1 => match dsOf xs with
  | some ds => if ds.length ≤ 16777216 then .ok ds μ1 else .no
  | none => .no
def eFrz (f : LF) : EF := fun ρ μ => (f ρ μ).bind fun ds μ1 => .ok (.d (.lst ds)) μ1
def eNew (f : LF) : EF := fun ρ μ => (f ρ μ).bind fun ds μ1 => .ok (.ob μ1.length) (μ1 ++ [.lst ds])
def lCat (fa fb : EF) : LF := fun ρ μ => (fa ρ μ).bind fun x μ1 => (fb ρ μ1).bind fun y μ2 => match dr μ2 x, dr μ2 y with
  | some (.lst a), some (.lst b) => if a.length + b.length ≤ 16777216 then .ok (a ++ b) μ2 else .no
  | _, _ => .no
def bV (f : EF) : BF := fun ρ μ => (f ρ μ).bind fun x μ1 => match x with
  | .d (.bl b) => .ok b μ1
  | _ => .no
def bAnd (f g : BF) : BF := fun ρ μ => (f ρ μ).bind fun c μ1 => if c = true then g ρ μ1 else .ok false μ1
def bOr (f g : BF) : BF := fun ρ μ => (f ρ μ).bind fun c μ1 => if c = true then .ok true μ1 else g ρ μ1
def bNot (f : BF) : BF := fun ρ μ => (f ρ μ).bind fun c μ1 => .ok (!c) μ1
def eAnd (f g : EF) : EF := fun ρ μ => (f ρ μ).bind fun x μ1 => match x with
  | .d (.bl true) => g ρ μ1
  | .d (.bl false) => .ok (.d (.bl false)) μ1
  | _ => .no
def eOr (f g : EF) : EF := fun ρ μ => (f ρ μ).bind fun x μ1 => match x with
  | .d (.bl true) => .ok (.d (.bl true)) μ1
  | .d (.bl false) => g ρ μ1
  | _ => .no
def eNot (f : EF) : EF := fun ρ μ => (f ρ μ).bind fun x μ1 => match x with
  | .d (.bl b) => .ok (.d (.bl (!b))) μ1
  | _ => .no
def eIf (c : BF) (f g : EF) : EF := fun ρ μ => (c ρ μ).bind fun b μ1 => if b = true then f ρ μ1 else g ρ μ1
/-- a < b < c -/
def eChn (g h : D → D → Option D) (fa fb fc : EF) : EF := fun ρ μ => (fa ρ μ).bind fun x μ1 => (fb ρ μ1).bind fun y μ2 => (o2 g x y μ2).bind fun r μ3 => match r with
  | .d (.bl true) => (fc ρ μ3).bind fun z μ4 => o2 h y z μ4
  | .d (.bl false) => .ok (.d (.bl false)) μ3
  | _ => .no
abbrev OF := Rho → Store → Res (Option Int)
def pNone : OF := fun _ μ => .ok none μ
def pSome (f : EF) : OF := fun ρ μ => (f ρ μ).bind fun x μ1 => match x with
  | .d (.int i) => .ok (some i) μ1
  | _ => .no
def eSl (fa : EF) (lo hi : OF) : EF := fun ρ μ => (fa ρ μ).bind fun x μ1 => (lo ρ μ1).bind fun l μ2 => (hi ρ μ2).bind fun h μ3 => o1 (fun a => slD a l h) x μ3
def eIsI (T : String) (f : EF) : EF := fun ρ μ => (f ρ μ).bind fun x μ1 => o1 (isiD T) x μ1
def eApp (fo fe : EF) : EF := fun ρ μ => (fo ρ μ).bind fun o μ1 => match o with
  | .ob n => match μ1[n]? with
    | some (.lst _) => (fe ρ μ1).bind fun e μ2 => match e, μ2[n]? with
      | .d x, some (.lst ds) => if ds.length < 16777216 then .ok (.d .non) (μ2.set n (.lst (ds ++ [x]))) else .no
      | _, _ => .no
    | _ => .no
  | _ => .no
def ePop (fo : EF) : EF := fun ρ μ => (fo ρ μ).bind fun o μ1 => match o with
  | .ob n => match μ1[n]? with
    | some (.lst ds) => match ds[ds.length - 1]? with
      | some x => .ok (.d x) (μ1.set n (.lst ds.dropLast))
      | none => .no
    | _ => .no
  | _ => .no
def ePop0 (fo : EF) : EF := fun ρ μ => (fo ρ μ).bind fun o μ1 => match o with
  | .ob n => match μ1[n]? with
    | some (.lst (x :: r)) => .ok (.d x) (μ1.set n (.lst r))
    | _ => .no
  | _ => .no

section
variable {X : Cx} {W : WXD} {CX : CXT} {k : Nat}
theorem pd_v (i : Nat) {x : Str} {pos : Pos} (hN : X.N[i]? = some x := by rfl) (hv : Vis X.env.scope x := by first | exact Or.inl rfl | exact Or.inr (Or.inl rfl) | exact Or.inr (Or.inr rfl)) (hd : (x == ("__debug__" : Str)) = false := by decide)
    (hcd : (x == ("__classdict__" : Str)) = false := by decide) : PEd X W (.Name x pos) (eV i) := by
  refine PE.imp (pe_var hN hv hd hcd) fun σ H Q h => ?_
  obtain ⟨η, θ, μ, ρ, ok, rs, fin⟩ := h
  unfold eV at fin
  split at fin
  · rename_i s e
    obtain ⟨v, h1, h2⟩ := rs.at_ i s e
    exact ⟨v, h1, fin.done (Step.refl ok) h2⟩
  · exact fin.elim
theorem pd_c {e : Expr} {d : D} {v : V} (h : PE X e (tC v)) (r : ∀ G, Rep X.mg X.K G d v) : PEd X W e (eC d) := by
  refine PE.imp h fun σ H Q h => ?_
  obtain ⟨η, θ, μ, ρ, ok, rs, fin⟩ := h
  exact fin.done (Step.refl ok) (.d (r _))
theorem pd_int {i j pos} : PEd X W (.Constant (.int i) j pos) (eC (.int i)) := pd_c pe_int fun _ => .int
theorem pd_bl {b j pos} : PEd X W (.Constant (.bool b) j pos) (eC (.bl b)) := pd_c pe_bl fun _ => .bl
theorem pd_non {j pos} : PEd X W (.Constant .none j pos) (eC .non) := pd_c pe_non fun _ => .non
theorem pd_str {x j pos} : PEd X W (.Constant (.str x) j pos) (eC (.str x)) := pd_c pe_str fun _ => .str
theorem pd_gint {x : Str} {i : Int} {t : Tok} {pos : Pos} (hg : Gl X x) (hm : X.mg x = some (.int i t)) (hd : (x == ("__debug__" : Str)) = false := by decide) : PEd X W (.Name x pos) (eC (.int i)) := pd_c (v := .int i) (pe_glob hg hm ⟨_, rfl⟩ hd) fun _ => .int
theorem pd_gstr {x : Str} {i : Str} {t : Tok} {pos : Pos} (hg : Gl X x) (hm : X.mg x = some (.str i t)) (hd : (x == ("__debug__" : Str)) = false := by decide) : PEd X W (.Name x pos) (eC (.str i)) := pd_c (v := .str i) (pe_glob hg hm ⟨_, rfl⟩ hd) fun _ => .str
theorem pd_gintE {x : Str} {i : Int} {pos : Pos} (hg : Gl X x) (hm : ∃ t, X.mg x = some (.int i t)) (hd : (x == ("__debug__" : Str)) = false := by decide) : PEd X W (.Name x pos) (eC (.int i)) := let ⟨_, h⟩ := hm; pd_gint hg h hd
theorem pd_gstrE {x : Str} {i : Str} {pos : Pos} (hg : Gl X x) (hm : ∃ t, X.mg x = some (.str i t)) (hd : (x == ("__debug__" : Str)) = false := by decide) : PEd X W (.Name x pos) (eC (.str i)) := let ⟨_, h⟩ := hm; pd_gstr hg h hd
theorem pd_gfn {x : Str} {a : Addr} {pos : Pos} (hg : Gl X x) (hm : X.mg x = some (.ref a)) (hd : (x == ("__debug__" : Str)) = false := by decide) : PEd X W (.Name x pos) (eC (.fn x)) := pd_c (v := .ref a) (pe_glob hg hm rfl hd) fun _ => .fn hm

/-- two operands, whatever is made of them -/
theorem two_ok {ta tb : TE} {fa fb : EF} {g : Sl → Sl → Store → Res Sl} {r : R2} (ea : ta = tD X.mg X.K W fa) (eb : tb = tD X.mg X.K W fb)
    (hl : ∀ {E η θ μ H x y dx dy Q}, StOk X.mg X.K η H θ μ → RepSl X.mg X.K (hid H (θ ++ η)) θ dx x → RepSl X.mg X.K (hid H (θ ++ η)) θ dy y → Fin X.mg X.K E η H θ (RepSl X.mg X.K) (g dx dy μ) Q → r x y H Q)
    (σ : L2.St) (H : Hp) (Q : VK) (h : tD X.mg X.K W (fun ρ μ => (fa ρ μ).bind fun x μ1 => (fb ρ μ1).bind fun y μ2 => g x y μ2) σ H Q) : tOp r ta tb σ H Q := by
  obtain ⟨η, θ, μ, ρ, ok, rs, fin⟩ := h
  subst ea eb
  refine ⟨η, θ, μ, ρ, ok, rs, fin.andThen fun dx μ1 x H1 θ1 _ st rx fin1 => ⟨η, θ1, μ1, ρ, st.ok, rs.step st, fin1.andThen fun dy μ2 y H2 θ2 _ st2 ry fin2 => hl st2.ok (rx.step st2) ry fin2⟩⟩
theorem pd_op {a b : Expr} {fa fb : EF} {pos : Pos} {op : Operator} {r : R2} {g : D → D → Option D} (hr : OpR X (binaryOp op) r) (hl : Lift2 X.mg X.K r g) (ha : PEd X W a fa) (hb : PEd X W b fb) : PEd X W (.BinOp a op b pos) (e2 g fa fb) :=
  PE.imp (pe_op hr ha hb) (two_ok rfl rfl fun s rx ry f => hl.fin s rx ry f)
theorem pd_cmp {a b : Expr} {fa fb : EF} {pos : Pos} {op : CmpOp} {r : R2} {g : D → D → Option D} (hr : OpR X (compareOp op) r) (hl : Lift2 X.mg X.K r g) (ha : PEd X W a fa) (hb : PEd X W b fb) (hm : behindInMarks op b = false) : PEd X W (.Compare a [op] [b] pos) (e2 g fa fb) :=
  PE.imp (pe_cmpR hr ha hb hm) (two_ok rfl rfl fun s rx ry f => hl.fin s rx ry f)
theorem pd_add {a b : Expr} {fa fb : EF} {pos : Pos} (ha : PEd X W a fa) (hb : PEd X W b fb) : PEd X W (.BinOp a .Add b pos) (e2 addD fa fb) := pd_op (op_add.or (op_add_str.or (op_catA.or op_cat))) l_add ha hb
theorem pd_sub {a b : Expr} {fa fb : EF} {pos : Pos} (ha : PEd X W a fa) (hb : PEd X W b fb) : PEd X W (.BinOp a .Sub b pos) (e2 subD fa fb) := pd_op op_sub l_sub ha hb
theorem pd_mul {a b : Expr} {fa fb : EF} {pos : Pos} (ha : PEd X W a fa) (hb : PEd X W b fb) : PEd X W (.BinOp a .Mult b pos) (e2 mulD fa fb) := pd_op (op_mul.or (op_rep.or op_repA)) l_mul ha hb
theorem pd_mod {a b : Expr} {fa fb : EF} {pos : Pos} (ha : PEd X W a fa) (hb : PEd X W b fb) : PEd X W (.BinOp a .Mod b pos) (e2 modD fa fb) := pd_op op_mod l_mod ha hb
theorem pd_fdiv {a b : Expr} {fa fb : EF} {pos : Pos} (ha : PEd X W a fa) (hb : PEd X W b fb) : PEd X W (.BinOp a .FloorDiv b pos) (e2 fdivD fa fb) := pd_op op_fdiv l_fdiv ha hb
theorem pd_pow {a b : Expr} {fa fb : EF} {pos : Pos} (ha : PEd X W a fa) (hb : PEd X W b fb) : PEd X W (.BinOp a .Pow b pos) (e2 powD fa fb) := pd_op op_pow l_pow ha hb
theorem pd_eq {a b : Expr} {fa fb : EF} {pos : Pos} (C : Cxb X CX W k) (ha : PEd X W a fa) (hb : PEd X W b fb) : PEd X W (.Compare a [.Eq] [b] pos) (e2 eqD fa fb) := pd_cmp (op_eqD C.hu) l_eq ha hb (nomark _)
theorem pd_ne {a b : Expr} {fa fb : EF} {pos : Pos} (C : Cxb X CX W k) (ha : PEd X W a fa) (hb : PEd X W b fb) : PEd X W (.Compare a [.NotEq] [b] pos) (e2 neD fa fb) := pd_cmp (op_neD C.hu) l_ne ha hb (nomark _)
theorem pd_lt {a b : Expr} {fa fb : EF} {pos : Pos} (C : Cxb X CX W k) (ha : PEd X W a fa) (hb : PEd X W b fb) : PEd X W (.Compare a [.Lt] [b] pos) (e2 ltD fa fb) := pd_cmp (op_lt.or (op_ltT (by have := C.hu; omega))) l_lt ha hb (nomark _)
theorem pd_le {a b : Expr} {fa fb : EF} {pos : Pos} (C : Cxb X CX W k) (ha : PEd X W a fa) (hb : PEd X W b fb) : PEd X W (.Compare a [.LtE] [b] pos) (e2 leD fa fb) := pd_cmp (op_le.or (op_leT (by have := C.hu; omega))) l_le ha hb (nomark _)
theorem pd_gt {a b : Expr} {fa fb : EF} {pos : Pos} (ha : PEd X W a fa) (hb : PEd X W b fb) : PEd X W (.Compare a [.Gt] [b] pos) (e2 gtD fa fb) := pd_cmp op_gt l_gt ha hb (nomark _)
theorem pd_ge {a b : Expr} {fa fb : EF} {pos : Pos} (ha : PEd X W a fa) (hb : PEd X W b fb) : PEd X W (.Compare a [.GtE] [b] pos) (e2 geD fa fb) := pd_cmp op_ge l_ge ha hb (nomark _)
theorem pd_is {a b : Expr} {fa fb : EF} {pos : Pos} (ha : PEd X W a fa) (hb : PEd X W b fb) : PEd X W (.Compare a [.Is] [b] pos) (e2 isD fa fb) := pd_cmp (op_isBl.or op_isN) l_is ha hb (nomark _)
theorem pd_isn {a b : Expr} {fa fb : EF} {pos : Pos} (ha : PEd X W a fa) (hb : PEd X W b fb) : PEd X W (.Compare a [.IsNot] [b] pos) (e2 isnD fa fb) := pd_cmp (op_notBl.or op_notN) l_isn ha hb (nomark _)
theorem pd_in {a b : Expr} {fa fb : EF} {pos : Pos} (C : Cxb X CX W (k + 1)) (ha : PEd X W a fa) (hb : PEd X W b fb) (hm : behindInMarks .In b = false := by rfl) : PEd X W (.Compare a [.In] [b] pos) (e2 inD fa fb) :=
  pd_cmp (op_in_seq.or (op_inD (by have := C.room.un; have := C.hu; omega))) l_in ha hb hm
theorem pd_nin {a b : Expr} {fa fb : EF} {pos : Pos} (C : Cxb X CX W (k + 1)) (ha : PEd X W a fa) (hb : PEd X W b fb) (hm : behindInMarks .NotIn b = false := by rfl) : PEd X W (.Compare a [.NotIn] [b] pos) (e2 ninD fa fb) :=
  pd_cmp (op_notIn_seq.or (op_notInD (by have := C.room.un; have := C.hu; omega))) l_nin ha hb hm
theorem pd_neg {a : Expr} {fa : EF} {pos : Pos} (ha : PEd X W a fa) : PEd X W (.UnaryOp .USub a pos) (e1 negD fa) := by
  refine PE.imp (pe_un un_neg ha) fun σ H Q h => ?_
  obtain ⟨η, θ, μ, ρ, ok, rs, fin⟩ := h
  exact ⟨η, θ, μ, ρ, ok, rs, fin.andThen fun dx μ1 x H1 θ1 _ st rx fin1 => l_neg.fin st.ok rx fin1⟩
theorem IxR.or {r r' : R2} (h : IxR X r) (h' : IxR X r') : IxR X (fun x y H Q => r x y H Q ∨ r' x y H Q) := by
  intro value slice pins s σ H x y v u Q I rx ry q e
  rcases q with q | q
  · exact h value slice pins s σ H x y v u Q I rx ry q e
  · exact h' value slice pins s σ H x y v u Q I rx ry q e
theorem SlR.or {r r' : V → Option Int → Option Int → Hp → VK → Prop} (h : SlR X r) (h' : SlR X r') : SlR X (fun x lo hi H Q => r x lo hi H Q ∨ r' x lo hi H Q) := by
  intro pins s σ H x v vl vu lo hi sl Q I rx hs p1 p2 q
  rcases q with q | q
  · exact h pins s σ H x v vl vu lo hi sl Q I rx hs p1 p2 q
  · exact h' pins s σ H x v vl vu lo hi sl Q I rx hs p1 p2 q
theorem pd_ix {a b : Expr} {fa fb : EF} {pos : Pos} (ha : PEd X W a fa) (hb : PEd X W b fb) (hp : PlainIx b := by intro _ _; rfl) : PEd X W (.Subscript a b pos) (e2 ixD fa fb) :=
  PE.imp (pe_ix (IxR.or ix_list (IxR.or ix_tup ix_str)) ha hb hp) (two_ok rfl rfl fun s rx ry f => l_ix.fin s rx ry f)

/-! arguments -/
theorem pd_nil : PAd X W [] aNil := by
  refine PA.imp pa_nil fun σ H Q h => ?_
  obtain ⟨η, θ, μ, ρ, ok, rs, fin⟩ := h
  exact fin.done (Step.refl ok) .nil
theorem pd_cons {e : Expr} {es : List Expr} {fa : EF} {fr : AF} (ha : PEd X W e fa) (hr : PAd X W es fr) (hs : starEach (e :: es) X.env = (false, eval e X.env) :: starEach es X.env := by rfl) : PAd X W (e :: es) (aCons fa fr) := by
  refine PA.imp (pa_cons ha hr hs) fun σ H Q h => ?_
  obtain ⟨η, θ, μ, ρ, ok, rs, fin⟩ := h
  refine ⟨η, θ, μ, ρ, ok, rs, fin.andThen fun dx μ1 x H1 θ1 _ st rx fin1 => ⟨η, θ1, μ1, ρ, st.ok, rs.step st, fin1.andThen fun dy μ2 y H2 θ2 _ st2 ry fin2 => ?_⟩⟩
  exact fin2.done (Step.refl st2.ok) (.cons (rx.step st2) ry)
theorem dsOf_rep {mg : Str → Option Value} {K : PySem.W.Frag} {G : Hp} {θ : List Addr} : ∀ {ss : List Sl} {vs : List V} {ds : List D}, RepA mg K G θ ss vs → dsOf ss = some ds → RepL mg K G ds vs
  | [], _, _, .nil, e => by cases e; exact .nil
  | .d x :: r, _, _, .cons (.d h) l, e => by
    simp only [dsOf, Option.map_eq_some_iff] at e
    obtain ⟨ds, e1, rfl⟩ := e
    exact .cons h (dsOf_rep l e1)
  | .ob _ :: _, _, _, _, e => by cases e
  | .clo _ :: _, _, _, _, e => by cases e
theorem pd_tup {es : List Expr} {fa : AF} {pos : Pos} {n : Nat} (ha : PAd X W es fa) : PEd X W (.Tuple es n pos) (eTup fa) := by
  refine PE.imp (pe_tup ha) fun σ H Q h => ?_
  obtain ⟨η, θ, μ, ρ, ok, rs, fin⟩ := h
  refine ⟨η, θ, μ, ρ, ok, rs, fin.andThen fun ss μ1 vs H1 θ1 _ st rx fin1 => ?_⟩
  split at fin1
  · rename_i ds e
    split at fin1
    · have l := dsOf_rep rx e
      refine ⟨by rw [sizeLine_eq, ← l.length]; assumption, fun p hp => ?_⟩
      exact (fin_ans st.ok fin1).tup st.ok.trk l hp
    · exact fin1.elim
  · exact fin1.elim

/-! new lists -/
def FinL (mg : Str → Option Value) (K : PySem.W.Frag) (E : XK) (η : List Addr) (H : Hp) (θ : List Addr) (r : Res (List D)) (Q : VK) : Prop := match r with
  | .ok ds μ' => ∀ p H1 θ1 xs, Step mg K η H θ H1 θ1 μ' → H1 p = none → RepL mg K (hid H1 (θ1 ++ η)) ds xs → Q (.ref p) (upd H1 p (.lst xs))
  | .ex x μ' => ∀ cv dd H' θ', Step mg K η H θ H' θ' μ' → XRep mg K H' (hid H' (θ' ++ η)) x cv dd → E cv dd H'
  | .no => False
def tL (mg : Str → Option Value) (K : PySem.W.Frag) (W : WXD) (f : LF) : TE := fun σ H Q => ∃ η θ μ ρ, StOk mg K η H θ μ ∧ RepS mg K (hid H (θ ++ η)) θ ρ σ ∧ FinL mg K (fun c d => W c d σ) η H θ (f ρ μ) Q
def PLd (X : Cx) (W : WXD) (e : Expr) (f : LF) : Prop := PE X e (tL X.mg X.K W f)
theorem frz_read {f : LF} (σ : L2.St) (H : Hp) (Q : VK) (h : tD X.mg X.K W (eFrz f) σ H Q) : tL X.mg X.K W f σ H Q := by
  obtain ⟨η, θ, μ, ρ, ok, rs, fin⟩ := h
  refine ⟨η, θ, μ, ρ, ok, rs, ?_⟩
  unfold eFrz at fin
  cases e : f ρ μ with
  | ok ds μ' =>
    rw [e] at fin
    intro p H1 θ1 xs st hp l
    have f2 := Fin.rebase st fin
    exact (fin_ans st.ok f2).lst st.ok.trk l hp
  | ex x μ' => rw [e] at fin; exact fin
  | no => rw [e] at fin; exact fin
theorem new_read {f : LF} (σ : L2.St) (H : Hp) (Q : VK) (h : tD X.mg X.K W (eNew f) σ H Q) : tL X.mg X.K W f σ H Q := by
  obtain ⟨η, θ, μ, ρ, ok, rs, fin⟩ := h
  refine ⟨η, θ, μ, ρ, ok, rs, ?_⟩
  unfold eNew at fin
  cases e : f ρ μ with
  | ok ds μ' =>
    rw [e] at fin
    intro p H1 θ1 xs st hp l
    have st2 := st.ok.newOb (o := .lst xs) (m := .lst ds) hp fun G' e => ⟨xs, upd_same, l.ext e⟩
    exact fin _ _ _ (st.trans st2) (.ob (by rw [← st.ok.len]; simp))
  | ex x μ' => rw [e] at fin; exact fin
  | no => rw [e] at fin; exact fin
theorem pd_frz {e : Expr} {f : LF} (h : PLd X W e f) : PEd X W e (eFrz f) := PE.imp h frz_read
theorem pd_new {e : Expr} {f : LF} (h : PLd X W e f) : PEd X W e (eNew f) := PE.imp h new_read
theorem pl_lst {es : List Expr} {fa : AF} {pos : Pos} (ha : PAd X W es fa) : PLd X W (.List es pos) (lLst fa) := by
  refine PE.imp (pe_lst ha) fun σ H Q h => ?_
  obtain ⟨η, θ, μ, ρ, ok, rs, fin⟩ := h
  refine ⟨η, θ, μ, ρ, ok, rs, ?_⟩
  unfold lLst at fin
  cases e : fa ρ μ with
  | ok ss μ' =>
    rw [e] at fin
    intro vs H1 θ1 st rx
    simp only [Res.bind] at fin
    split at fin
    · rename_i ds e2
      split at fin
      · have l := dsOf_rep rx e2
        exact ⟨by rw [sizeLine_eq, ← l.length]; assumption, fun p hp => fin p H1 θ1 vs st hp l⟩
      · exact fin.elim
    · exact fin.elim
  | ex x μ' => rw [e] at fin; exact fin
  | no => rw [e] at fin; exact fin
theorem pl_cat {a b : Expr} {fa fb : EF} {pos : Pos} (ha : PEd X W a fa) (hb : PEd X W b fb) : PLd X W (.BinOp a .Add b pos) (lCat fa fb) := by
  refine PE.imp (pe_op op_cat ha hb) fun σ H Q h => ?_
  obtain ⟨η, θ, μ, ρ, ok, rs, fin⟩ := h
  refine ⟨η, θ, μ, ρ, ok, rs, ?_⟩
  unfold lCat at fin
  cases e : fa ρ μ with
  | ok x μ1 =>
    rw [e] at fin
    intro vx H1 θ1 st rx
    refine ⟨η, θ1, μ1, ρ, st.ok, rs.step st, ?_⟩
    simp only [Res.bind] at fin
    cases e2 : fb ρ μ1 with
    | ok y μ2 =>
      rw [e2] at fin
      intro vy H2 θ2 st2 ry
      simp only at fin
      split at fin
      · rename_i a b ea eb
        split at fin
        · obtain ⟨p, xs, rfl, hp, lx⟩ := (dr_rep st2.ok (rx.step st2) ea).lst
          obtain ⟨p', ys, rfl, hp', ly⟩ := (dr_rep st2.ok ry eb).lst
          exact ⟨p, p', xs, ys, rfl, rfl, hp, hp', by rw [sizeLine_eq, ← lx.length, ← ly.length]; assumption, fun r hr => fin r H2 θ2 _ (st.trans st2) hr (lx.append ly)⟩
        · exact fin.elim
      · exact fin.elim
    | ex x μ' => rw [e2] at fin; exact fun cv dd H' θ' s2 xr => fin cv dd H' θ' (st.trans s2) xr
    | no => rw [e2] at fin; exact fin
  | ex x μ' => rw [e] at fin; exact fin
  | no => rw [e] at fin; exact fin

/-! calls of built-ins -/
theorem CallR.or {f : Value} {r r' : List V → Hp → VK → Prop} (h : CallR X f r) (h' : CallR X f r') : CallR X f (fun xs H Q => r xs H Q ∨ r' xs H Q) := by
  intro pins s σ H xs us Q I rx q
  rcases q with q | q
  · exact h pins s σ H xs us Q I rx q
  · exact h' pins s σ H xs us Q I rx q
theorem cb_ok {r : List V → Hp → VK → Prop} {g : List D → Option D} {fa : AF} (hl : LiftN X.mg X.K r g) (σ : L2.St) (H : Hp) (Q : VK) (h : tD X.mg X.K W (eN g fa) σ H Q) : tCB r (tAD X.mg X.K W fa) σ H Q := by
  obtain ⟨η, θ, μ, ρ, ok, rs, fin⟩ := h
  exact ⟨η, θ, μ, ρ, ok, rs, fin.andThen fun ss μ1 vs H1 θ1 _ st rx fin1 => hl.fin st.ok rx fin1⟩
theorem pd_blt {x : Str} {p pos : Pos} {e : Expr} {es : List Expr} {fa : AF} {id : String} {r : List V → Hp → VK → Prop} {g : List D → Option D} (hc : CallR X (.builtin id) r) (hl : LiftN X.mg X.K r g) (hg : Gl X x) (hm : X.mg x = none) (hv : bootBuiltins x = some (.builtin id)) (ha : PAd X W (e :: es) fa) (hn : x ≠ "__name__" := by decide) (hdb : (x == ("__debug__" : Str)) = false := by decide)
    (he : starEach (e :: es) X.env = (false, eval e X.env) :: starEach es X.env := by rfl) (hpl : (backTo pos (starEach es X.env)).any (·.1) = false := by rfl) : PEd X W (.Call (.Name x p) (e :: es) [] pos) (eN g fa) :=
  PE.imp (pe_callB hc hg hm hv ha hn hdb he hpl) (cb_ok hl)
theorem pd_bty {x : Str} {p pos : Pos} {e : Expr} {es : List Expr} {fa : AF} {T : String} {r : List V → Hp → VK → Prop} {g : List D → Option D} (hc : CallR X (.type T) r) (hl : LiftN X.mg X.K r g) (hg : Gl X x) (hm : X.mg x = none) (hv : bootBuiltins x = some (.type T)) (ha : PAd X W (e :: es) fa) (hn : x ≠ "__name__" := by decide) (hdb : (x == ("__debug__" : Str)) = false := by decide)
    (he : starEach (e :: es) X.env = (false, eval e X.env) :: starEach es X.env := by rfl) (hpl : (backTo pos (starEach es X.env)).any (·.1) = false := by rfl) : PEd X W (.Call (.Name x p) (e :: es) [] pos) (eN g fa) :=
  PE.imp (pe_callTy hc hg hm hv ha hn hdb he hpl) (cb_ok hl)
theorem call_max3 (hc : X.calm = true) : CallR X (.builtin "max") (fun xs H Q => ∃ i j k, xs = [.int i, .int j, .int k] ∧ Q (.int (if j > i then (if k > j then k else j) else if k > i then k else i)) H) := by
  intro pins s σ H xs us Q I r h
  obtain ⟨i, j, k, rfl, q⟩ := h
  cases r with
  | cons r1 r => cases r with
    | cons r2 r => cases r with
      | cons r3 r =>
        cases r
        obtain ⟨t1, rfl⟩ := r1
        obtain ⟨t2, rfl⟩ := r2
        obtain ⟨t3, rfl⟩ := r3
        refine max_three_ints (I.ok.hd hc) fun h' tk hk => ?_
        refine ⟨_, H, I.kept (t' := tk) hk, ?_, q⟩
        split <;> split <;> exact ⟨_, rfl⟩
theorem cr_mx (hc : X.calm = true) : CallR X (.builtin "max") (rMx X.K) := CallR.or (call_max2 hc) (CallR.or (cr_max hc) (call_max3 hc))
theorem cr_mn (hc : X.calm = true) : CallR X (.builtin "min") (rMn X.K) := CallR.or (call_min2 hc) (cr_min hc)
section
variable {p pos : Pos} {e : Expr} {es : List Expr} {fa : AF}
theorem pd_len (hg : Gl X "len") (hm : X.mg "len" = none) (ha : PAd X W (e :: es) fa) (he : starEach (e :: es) X.env = (false, eval e X.env) :: starEach es X.env := by rfl) (hpl : (backTo pos (starEach es X.env)).any (·.1) = false := by rfl) : PEd X W (.Call (.Name "len" p) (e :: es) [] pos) (eN lenD fa) := pd_blt call_len l_len hg hm (by decide +kernel) ha (by decide) (by decide) he hpl
theorem pd_sum (C : Cxb X CX W k) (hg : Gl X "sum") (hm : X.mg "sum" = none) (ha : PAd X W (e :: es) fa) (he : starEach (e :: es) X.env = (false, eval e X.env) :: starEach es X.env := by rfl) (hpl : (backTo pos (starEach es X.env)).any (·.1) = false := by rfl) : PEd X W (.Call (.Name "sum" p) (e :: es) [] pos) (eN sumD fa) := pd_blt (cr_sum C.calm) l_sum hg hm (by decide +kernel) ha (by decide) (by decide) he hpl
theorem pd_max (C : Cxb X CX W k) (hg : Gl X "max") (hm : X.mg "max" = none) (ha : PAd X W (e :: es) fa) (he : starEach (e :: es) X.env = (false, eval e X.env) :: starEach es X.env := by rfl) (hpl : (backTo pos (starEach es X.env)).any (·.1) = false := by rfl) : PEd X W (.Call (.Name "max" p) (e :: es) [] pos) (eN maxD fa) := pd_blt (cr_mx C.calm) l_max hg hm (by decide +kernel) ha (by decide) (by decide) he hpl
theorem pd_min (C : Cxb X CX W k) (hg : Gl X "min") (hm : X.mg "min" = none) (ha : PAd X W (e :: es) fa) (he : starEach (e :: es) X.env = (false, eval e X.env) :: starEach es X.env := by rfl) (hpl : (backTo pos (starEach es X.env)).any (·.1) = false := by rfl) : PEd X W (.Call (.Name "min" p) (e :: es) [] pos) (eN minD fa) := pd_blt (cr_mn C.calm) l_min hg hm (by decide +kernel) ha (by decide) (by decide) he hpl
theorem pd_all (C : Cxb X CX W k) (hg : Gl X "all") (hm : X.mg "all" = none) (ha : PAd X W (e :: es) fa) (he : starEach (e :: es) X.env = (false, eval e X.env) :: starEach es X.env := by rfl) (hpl : (backTo pos (starEach es X.env)).any (·.1) = false := by rfl) : PEd X W (.Call (.Name "all" p) (e :: es) [] pos) (eN allD fa) := pd_blt (cr_all C.calm) l_all hg hm (by decide +kernel) ha (by decide) (by decide) he hpl
theorem pd_any (C : Cxb X CX W k) (hg : Gl X "any") (hm : X.mg "any" = none) (ha : PAd X W (e :: es) fa) (he : starEach (e :: es) X.env = (false, eval e X.env) :: starEach es X.env := by rfl) (hpl : (backTo pos (starEach es X.env)).any (·.1) = false := by rfl) : PEd X W (.Call (.Name "any" p) (e :: es) [] pos) (eN anyD fa) := pd_blt (cr_any C.calm) l_any hg hm (by decide +kernel) ha (by decide) (by decide) he hpl
theorem pd_sorted (hg : Gl X "sorted") (hm : X.mg "sorted" = none) (ha : PAd X W (e :: es) fa) (he : starEach (e :: es) X.env = (false, eval e X.env) :: starEach es X.env := by rfl) (hpl : (backTo pos (starEach es X.env)).any (·.1) = false := by rfl) : PEd X W (.Call (.Name "sorted" p) (e :: es) [] pos) (eN sortedD fa) := pd_blt cr_sorted l_sorted hg hm (by decide +kernel) ha (by decide) (by decide) he hpl
theorem pd_tuple (hg : Gl X "tuple") (hm : X.mg "tuple" = none) (ha : PAd X W (e :: es) fa) (he : starEach (e :: es) X.env = (false, eval e X.env) :: starEach es X.env := by rfl) (hpl : (backTo pos (starEach es X.env)).any (·.1) = false := by rfl) : PEd X W (.Call (.Name "tuple" p) (e :: es) [] pos) (eN tupleD fa) := pd_bty call_tuple_of l_tuple hg hm (by decide +kernel) ha (by decide) (by decide) he hpl
theorem pd_list (hg : Gl X "list") (hm : X.mg "list" = none) (ha : PAd X W (e :: es) fa) (he : starEach (e :: es) X.env = (false, eval e X.env) :: starEach es X.env := by rfl) (hpl : (backTo pos (starEach es X.env)).any (·.1) = false := by rfl) : PEd X W (.Call (.Name "list" p) (e :: es) [] pos) (eN listD fa) := pd_bty call_list_of l_list hg hm (by decide +kernel) ha (by decide) (by decide) he hpl
theorem pd_toint (hg : Gl X "int") (hm : X.mg "int" = none) (ha : PAd X W (e :: es) fa) (he : starEach (e :: es) X.env = (false, eval e X.env) :: starEach es X.env := by rfl) (hpl : (backTo pos (starEach es X.env)).any (·.1) = false := by rfl) : PEd X W (.Call (.Name "int" p) (e :: es) [] pos) (eN intD fa) := pd_bty call_int1 l_int hg hm (by decide +kernel) ha (by decide) (by decide) he hpl
theorem pd_tostr (hg : Gl X "str") (hm : X.mg "str" = none) (ha : PAd X W (e :: es) fa) (he : starEach (e :: es) X.env = (false, eval e X.env) :: starEach es X.env := by rfl) (hpl : (backTo pos (starEach es X.env)).any (·.1) = false := by rfl) : PEd X W (.Call (.Name "str" p) (e :: es) [] pos) (eN strD fa) := pd_bty call_str_int l_str hg hm (by decide +kernel) ha (by decide) (by decide) he hpl
theorem pd_bool (hg : Gl X "bool") (hm : X.mg "bool" = none) (ha : PAd X W (e :: es) fa) (he : starEach (e :: es) X.env = (false, eval e X.env) :: starEach es X.env := by rfl) (hpl : (backTo pos (starEach es X.env)).any (·.1) = false := by rfl) : PEd X W (.Call (.Name "bool" p) (e :: es) [] pos) (eN boolD fa) := pd_bty call_bool1 l_bool hg hm (by decide +kernel) ha (by decide) (by decide) he hpl
end
theorem tyx_of {mg : Str → Option Value} {K : PySem.W.Frag} {H : Hp} {S : List Addr} {d : D} {v : V} {t : String} (h : DRep mg K H S d v) (e : tyD d = some t) : TyX K H v (.type t) := by
  cases d with
  | non => cases h.non; cases e; exact .base .non
  | bl b => cases h.bl; cases e; exact .base (.bl _)
  | int i => cases h.int; cases e; exact .base (.int _)
  | str s => cases h.str; cases e; exact .base (.str _)
  | tup ds => obtain ⟨p, xs, rfl, hp, _⟩ := h.tup; cases e; exact .base (.tup hp)
  | lst ds => obtain ⟨p, xs, rfl, hp, _⟩ := h.lst; cases e; exact .base (.lst hp)
  | fn x => cases e
  | scr n => cases e
theorem pd_isi {a : Expr} {fa : EF} {T : Str} {n : String} {p p1 pos : Pos} (hg : Gl X "isinstance") (hm : X.mg "isinstance" = none) (hgT : Gl X T) (hmT : X.mg T = none) (hv : bootBuiltins T = some (.type n)) (ha : PEd X W a fa)
    (hn : T ≠ "__name__" := by decide) (hdb : (T == ("__debug__" : Str)) = false := by decide)
    (hs : starEach [a, .Name T p1] X.env = (false, eval a X.env) :: starEach [.Name T p1] X.env := by rfl) (hs2 : starEach [.Name T p1] X.env = (false, eval (.Name T p1) X.env) :: starEach [] X.env := by rfl)
    (hpl : (backTo pos (starEach [.Name T p1] X.env)).any (·.1) = false := by rfl) : PEd X W (.Call (.Name "isinstance" p) [a, .Name T p1] [] pos) (eIsI n fa) := by
  refine PE.imp (pe_callB call_isi hg hm (by decide +kernel) (pa_cons ha (pa_cons (pe_bltn (v := .ty n) hgT hmT hv rfl hn hdb) pa_nil hs2) hs) (by decide) (by decide) hs hpl) fun σ H Q h => ?_
  obtain ⟨η, θ, μ, ρ, ok, rs, fin⟩ := h
  refine ⟨η, θ, μ, ρ, ok, rs, fin.andThen fun dx μ1 x H1 θ1 _ st rx fin1 => ?_⟩
  unfold o1 at fin1
  split at fin1
  · rename_i d ed
    unfold isiD at fin1
    cases e1 : tyD d with
    | none => rw [e1] at fin1; exact fin1.elim
    | some t =>
      rw [e1] at fin1
      simp only [Option.bind_some] at fin1
      cases e2 : kitB t n with
      | none => rw [e2] at fin1; exact fin1.elim
      | some b =>
        rw [e2] at fin1
        exact ⟨x, .ty n, _, _, b, rfl, .ty n, tyx_of (dr_rep st.ok rx ed) e1, kit_ty e2, (fin_ans st.ok fin1).here .bl⟩
  · exact fin1.elim

/-! slices -/
def tOD (mg : Str → Option Value) (K : PySem.W.Frag) (W : WXD) (f : OF) : TO := fun σ H Q => ∃ η θ μ ρ, StOk mg K η H θ μ ∧ RepS mg K (hid H (θ ++ η)) θ ρ σ ∧ Fin mg K (fun c d => W c d σ) η H θ (fun _ _ a b => a = b) (f ρ μ) Q
def POd (X : Cx) (W : WXD) (e : Option Expr) (f : OF) : Prop := PO X e (tOD X.mg X.K W f)
theorem PO.imp {e : Option Expr} {t t' : TO} (h : PO X e t) (k : ∀ σ H Q, t' σ H Q → t σ H Q) : PO X e t' := ⟨fun pins s σ H Q I q => h.run pins s σ H Q I (k σ H Q q)⟩
theorem pd_none : POd X W none pNone := by
  refine PO.imp po_none fun σ H Q h => ?_
  obtain ⟨η, θ, μ, ρ, ok, rs, fin⟩ := h
  exact fin.done (Step.refl ok) rfl
theorem pd_some {e : Expr} {f : EF} (h : PEd X W e f) : POd X W (some e) (pSome f) := by
  refine PO.imp (po_some h) fun σ H Q h => ?_
  obtain ⟨η, θ, μ, ρ, ok, rs, fin⟩ := h
  refine ⟨η, θ, μ, ρ, ok, rs, fin.andThen fun dx μ1 x H1 θ1 _ st rx fin1 => ?_⟩
  split at fin1
  · cases rx with
    | d rx => cases rx; exact ⟨_, rfl, fin1.done (Step.refl st.ok) rfl⟩
  · exact fin1.elim
theorem pd_sl {a : Expr} {lo hi : Option Expr} {fa : EF} {fl fh : OF} {pos p2 : Pos} (ha : PEd X W a fa) (hl : POd X W lo fl) (hh : POd X W hi fh) : PEd X W (.Subscript a (.Slice lo hi none p2) pos) (eSl fa fl fh) := by
  refine PE.imp (pe_slice (SlR.or sl_tupA (SlR.or sl_list sl_str)) ha hl hh) fun σ H Q h => ?_
  obtain ⟨η, θ, μ, ρ, ok, rs, fin⟩ := h
  refine ⟨η, θ, μ, ρ, ok, rs, fin.andThen fun dx μ1 x H1 θ1 _ st rx fin1 => ⟨η, θ1, μ1, ρ, st.ok, rs.step st, fin1.andThen fun l μ2 l' H2 θ2 _ st2 rl fin2 => ⟨η, θ2, μ2, ρ, st2.ok, (rs.step st).step st2, fin2.andThen fun u μ3 u' H3 θ3 _ st3 ru fin3 => ?_⟩⟩⟩
  subst rl ru
  unfold o1 at fin3
  split at fin3
  · rename_i d ed
    simp only at fin3
    cases e : slD d l u with
    | none => rw [e] at fin3; exact fin3.elim
    | some c =>
      rw [e] at fin3
      exact l_sl H3 _ x d c l u Q st3.ok.trk (dr_rep st3.ok ((rx.step st2).step st3) ed) e (fin_ans st3.ok fin3)
  · exact fin3.elim

/-! tests -/
theorem pd_val {e : Expr} {f : EF} (h : PEd X W e f) (he : ∀ whole, isTrue e X.env whole = (do let v ← whole; standAt e.pos; holding [v] (truthy v)) := by intro _; rfl) : PBd X W e (bV f) := by
  refine PT.imp (pt_val h he) fun σ H Q h => ?_
  obtain ⟨η, θ, μ, ρ, ok, rs, fin⟩ := h
  refine ⟨η, θ, μ, ρ, ok, rs, fin.andThen fun dx μ1 x H1 θ1 _ st rx fin1 => ?_⟩
  split at fin1
  · cases rx with
    | d rx => cases rx; exact ⟨_, rfl, fin1.done (Step.refl st.ok) rfl⟩
  · exact fin1.elim
theorem tst_ok {f : EF} {t : TE} (h : ∀ σ H Q, tD X.mg X.K W f σ H Q → t σ H Q) (σ : L2.St) (H : Hp) (Q : Bool → Hp → Prop) (hb : tBD X.mg X.K W (bV f) σ H Q) : tTest t σ H Q := by
  obtain ⟨η, θ, μ, ρ, ok, rs, fin⟩ := hb
  refine h σ H _ ⟨η, θ, μ, ρ, ok, rs, fin.andThen fun dx μ1 x H1 θ1 _ st rx fin1 => ?_⟩
  split at fin1
  · cases rx with
    | d rx => cases rx; exact ⟨_, rfl, fin1.done (Step.refl st.ok) rfl⟩
  · exact fin1.elim
theorem pb_cmp {a b : Expr} {fa fb : EF} {pos : Pos} {op : CmpOp} {r : R2} {g : D → D → Option D} (hr : OpR X (compareOp op) r) (hl : Lift2 X.mg X.K r g) (ha : PEd X W a fa) (hb : PEd X W b fb) (hm : behindInMarks op b = false) : PBd X W (.Compare a [op] [b] pos) (bV (e2 g fa fb)) :=
  PT.imp (pt_cmpR hr ha hb hm) (tst_ok (two_ok rfl rfl fun s rx ry f => hl.fin s rx ry f))
theorem pb_eq {a b : Expr} {fa fb : EF} {pos : Pos} (C : Cxb X CX W k) (ha : PEd X W a fa) (hb : PEd X W b fb) : PBd X W (.Compare a [.Eq] [b] pos) (bV (e2 eqD fa fb)) := pb_cmp (op_eqD C.hu) l_eq ha hb (nomark _)
theorem pb_ne {a b : Expr} {fa fb : EF} {pos : Pos} (C : Cxb X CX W k) (ha : PEd X W a fa) (hb : PEd X W b fb) : PBd X W (.Compare a [.NotEq] [b] pos) (bV (e2 neD fa fb)) := pb_cmp (op_neD C.hu) l_ne ha hb (nomark _)
theorem pb_lt {a b : Expr} {fa fb : EF} {pos : Pos} (C : Cxb X CX W k) (ha : PEd X W a fa) (hb : PEd X W b fb) : PBd X W (.Compare a [.Lt] [b] pos) (bV (e2 ltD fa fb)) := pb_cmp (op_lt.or (op_ltT (by have := C.hu; omega))) l_lt ha hb (nomark _)
theorem pb_le {a b : Expr} {fa fb : EF} {pos : Pos} (C : Cxb X CX W k) (ha : PEd X W a fa) (hb : PEd X W b fb) : PBd X W (.Compare a [.LtE] [b] pos) (bV (e2 leD fa fb)) := pb_cmp (op_le.or (op_leT (by have := C.hu; omega))) l_le ha hb (nomark _)
theorem pb_gt {a b : Expr} {fa fb : EF} {pos : Pos} (ha : PEd X W a fa) (hb : PEd X W b fb) : PBd X W (.Compare a [.Gt] [b] pos) (bV (e2 gtD fa fb)) := pb_cmp op_gt l_gt ha hb (nomark _)
theorem pb_ge {a b : Expr} {fa fb : EF} {pos : Pos} (ha : PEd X W a fa) (hb : PEd X W b fb) : PBd X W (.Compare a [.GtE] [b] pos) (bV (e2 geD fa fb)) := pb_cmp op_ge l_ge ha hb (nomark _)
theorem pb_is {a b : Expr} {fa fb : EF} {pos : Pos} (ha : PEd X W a fa) (hb : PEd X W b fb) : PBd X W (.Compare a [.Is] [b] pos) (bV (e2 isD fa fb)) := pb_cmp (op_isBl.or op_isN) l_is ha hb (nomark _)
theorem pb_isn {a b : Expr} {fa fb : EF} {pos : Pos} (ha : PEd X W a fa) (hb : PEd X W b fb) : PBd X W (.Compare a [.IsNot] [b] pos) (bV (e2 isnD fa fb)) := pb_cmp (op_notBl.or op_notN) l_isn ha hb (nomark _)
theorem pb_in {a b : Expr} {fa fb : EF} {pos : Pos} (C : Cxb X CX W (k + 1)) (ha : PEd X W a fa) (hb : PEd X W b fb) (hm : behindInMarks .In b = false := by rfl) : PBd X W (.Compare a [.In] [b] pos) (bV (e2 inD fa fb)) :=
  pb_cmp (op_in_seq.or (op_inD (by have := C.room.un; have := C.hu; omega))) l_in ha hb hm
theorem pb_nin {a b : Expr} {fa fb : EF} {pos : Pos} (C : Cxb X CX W (k + 1)) (ha : PEd X W a fa) (hb : PEd X W b fb) (hm : behindInMarks .NotIn b = false := by rfl) : PBd X W (.Compare a [.NotIn] [b] pos) (bV (e2 ninD fa fb)) :=
  pb_cmp (op_notIn_seq.or (op_notInD (by have := C.room.un; have := C.hu; omega))) l_nin ha hb hm
theorem chn_ok {r r' : R2} {g h : D → D → Option D} {fa fb fc : EF} (hl : Lift2 X.mg X.K r g) (hl' : Lift2 X.mg X.K r' h) (σ : L2.St) (H : Hp) (Q : VK) (hh : tD X.mg X.K W (eChn g h fa fb fc) σ H Q) : tChain r r' (tD X.mg X.K W fa) (tD X.mg X.K W fb) (tD X.mg X.K W fc) σ H Q := by
  obtain ⟨η, θ, μ, ρ, ok, rs, fin⟩ := hh
  refine ⟨η, θ, μ, ρ, ok, rs, fin.andThen fun dx μ1 x H1 θ1 _ st rx fin1 => ⟨η, θ1, μ1, ρ, st.ok, rs.step st, fin1.andThen fun dy μ2 y H2 θ2 _ st2 ry fin2 => hl.fin st2.ok (rx.step st2) ry (fin2.andThen fun z μ3 zv H3 θ3 _ st3 rz fin3 => ?_)⟩⟩
  split at fin3
  · cases rz with
    | d rz =>
      cases rz
      refine ⟨true, rfl, ?_⟩
      rw [if_pos rfl]
      exact ⟨η, θ3, μ3, ρ, st3.ok, ((rs.step st).step st2).step st3, fin3.andThen fun dz μ4 w H4 θ4 _ st4 rw' fin4 => hl'.fin st4.ok ((ry.step st3).step st4) rw' fin4⟩
  · cases rz with
    | d rz =>
      cases rz
      refine ⟨false, rfl, ?_⟩
      rw [if_neg (by decide)]
      exact fin3.done (Step.refl st3.ok) (.d .bl)
  · exact fin3.elim
theorem pd_chn {a b c : Expr} {fa fb fc : EF} {pos : Pos} {op op' : CmpOp} {r r' : R2} {g h : D → D → Option D} (hr : OpR X (compareOp op) r) (hr' : OpR X (compareOp op') r') (hl : Lift2 X.mg X.K r g) (hl' : Lift2 X.mg X.K r' h) (ha : PEd X W a fa) (hb : PEd X W b fb) (hc : PEd X W c fc)
    (hm : lastMarks [op, op'] [b, c] = false := by rfl) : PEd X W (.Compare a [op, op'] [b, c] pos) (eChn g h fa fb fc) := PE.imp (pe_chain hr hr' ha hb hc hm) (chn_ok hl hl')
theorem pb_chn {a b c : Expr} {fa fb fc : EF} {pos : Pos} {op op' : CmpOp} {r r' : R2} {g h : D → D → Option D} (hr : OpR X (compareOp op) r) (hr' : OpR X (compareOp op') r') (hl : Lift2 X.mg X.K r g) (hl' : Lift2 X.mg X.K r' h) (ha : PEd X W a fa) (hb : PEd X W b fb) (hc : PEd X W c fc)
    (hm : lastMarks [op, op'] [b, c] = false := by rfl) : PBd X W (.Compare a [op, op'] [b, c] pos) (bV (eChn g h fa fb fc)) := PT.imp (pt_chain hr hr' ha hb hc hm) (tst_ok (chn_ok hl hl'))
theorem pd_leLe {a b c : Expr} {fa fb fc : EF} {pos : Pos} (ha : PEd X W a fa) (hb : PEd X W b fb) (hc : PEd X W c fc) (hm : lastMarks [.LtE, .LtE] [b, c] = false := by rfl) : PEd X W (.Compare a [.LtE, .LtE] [b, c] pos) (eChn leI leI fa fb fc) := pd_chn (g := leI) (h := leI) op_le op_le l_leI l_leI ha hb hc hm
theorem pb_leLe {a b c : Expr} {fa fb fc : EF} {pos : Pos} (ha : PEd X W a fa) (hb : PEd X W b fb) (hc : PEd X W c fc) (hm : lastMarks [.LtE, .LtE] [b, c] = false := by rfl) : PBd X W (.Compare a [.LtE, .LtE] [b, c] pos) (bV (eChn leI leI fa fb fc)) := pb_chn (g := leI) (h := leI) op_le op_le l_leI l_leI ha hb hc hm
theorem PWd.pt {e : Expr} {f : BF} (h : PWd X W e f) : PBd X W e f := PW.pt h
theorem pb_and1 {a : Expr} {f : BF} {pos : Pos} (h : PBd X W a f) : PWd X W (.BoolOp .And [a] pos) f := pw_and1 h
theorem pb_or1 {a : Expr} {f : BF} {pos : Pos} (h : PBd X W a f) : PWd X W (.BoolOp .Or [a] pos) f := pw_or1 h
theorem pb_and {a b : Expr} {rest : List Expr} {f g : BF} {pos : Pos} (ha : PBd X W a f) (hb : PWd X W (.BoolOp .And (b :: rest) pos) g) : PWd X W (.BoolOp .And (a :: b :: rest) pos) (bAnd f g) := by
  refine PW.imp (pw_and ha hb) fun σ H Q h => ?_
  obtain ⟨η, θ, μ, ρ, ok, rs, fin⟩ := h
  refine ⟨η, θ, μ, ρ, ok, rs, fin.andThen fun c μ1 c' H1 θ1 _ st rc fin1 => ?_⟩
  subst rc
  cases c with
  | true => rw [if_pos rfl] at fin1 ⊢; exact ⟨η, θ1, μ1, ρ, st.ok, rs.step st, fin1⟩
  | false => rw [if_neg (by decide)] at fin1 ⊢; exact fin1.done (Step.refl st.ok) rfl
theorem pb_or {a b : Expr} {rest : List Expr} {f g : BF} {pos : Pos} (ha : PBd X W a f) (hb : PWd X W (.BoolOp .Or (b :: rest) pos) g) : PWd X W (.BoolOp .Or (a :: b :: rest) pos) (bOr f g) := by
  refine PW.imp (pw_or ha hb) fun σ H Q h => ?_
  obtain ⟨η, θ, μ, ρ, ok, rs, fin⟩ := h
  refine ⟨η, θ, μ, ρ, ok, rs, fin.andThen fun c μ1 c' H1 θ1 _ st rc fin1 => ?_⟩
  subst rc
  cases c with
  | true => rw [if_pos rfl] at fin1 ⊢; exact fin1.done (Step.refl st.ok) rfl
  | false => rw [if_neg (by decide)] at fin1 ⊢; exact ⟨η, θ1, μ1, ρ, st.ok, rs.step st, fin1⟩
theorem pb_not {a : Expr} {f : BF} {pos : Pos} (h : PBd X W a f) : PBd X W (.UnaryOp .Not a pos) (bNot f) := by
  refine PT.imp (pt_not h) fun σ H Q h => ?_
  obtain ⟨η, θ, μ, ρ, ok, rs, fin⟩ := h
  refine ⟨η, θ, μ, ρ, ok, rs, fin.andThen fun c μ1 c' H1 θ1 _ st rc fin1 => ?_⟩
  subst rc
  exact fin1.done (Step.refl st.ok) rfl
theorem pd_one {op : BoolOp} {a : Expr} {f : EF} {pos : Pos} (h : PEd X W a f) : PEd X W (.BoolOp op [a] pos) f := pe_one h
theorem pd_and {a b : Expr} {rest : List Expr} {f g : EF} {pos : Pos} (ha : PEd X W a f) (hb : PEd X W (.BoolOp .And (b :: rest) pos) g) : PEd X W (.BoolOp .And (a :: b :: rest) pos) (eAnd f g) := by
  refine PE.imp (pe_and ha hb) fun σ H Q h => ?_
  obtain ⟨η, θ, μ, ρ, ok, rs, fin⟩ := h
  refine ⟨η, θ, μ, ρ, ok, rs, fin.andThen fun c μ1 c' H1 θ1 _ st rc fin1 => ?_⟩
  split at fin1
  · cases rc with
    | d rc => cases rc; exact ⟨true, rfl, by rw [if_pos rfl]; exact ⟨η, θ1, μ1, ρ, st.ok, rs.step st, fin1⟩⟩
  · cases rc with
    | d rc => cases rc; exact ⟨false, rfl, by rw [if_neg (by decide)]; exact fin1.done (Step.refl st.ok) (.d .bl)⟩
  · exact fin1.elim
theorem pd_or {a b : Expr} {rest : List Expr} {f g : EF} {pos : Pos} (ha : PEd X W a f) (hb : PEd X W (.BoolOp .Or (b :: rest) pos) g) : PEd X W (.BoolOp .Or (a :: b :: rest) pos) (eOr f g) := by
  refine PE.imp (pe_or ha hb) fun σ H Q h => ?_
  obtain ⟨η, θ, μ, ρ, ok, rs, fin⟩ := h
  refine ⟨η, θ, μ, ρ, ok, rs, fin.andThen fun c μ1 c' H1 θ1 _ st rc fin1 => ?_⟩
  split at fin1
  · cases rc with
    | d rc => cases rc; exact ⟨true, rfl, by rw [if_pos rfl]; exact fin1.done (Step.refl st.ok) (.d .bl)⟩
  · cases rc with
    | d rc => cases rc; exact ⟨false, rfl, by rw [if_neg (by decide)]; exact ⟨η, θ1, μ1, ρ, st.ok, rs.step st, fin1⟩⟩
  · exact fin1.elim
theorem pd_not {a : Expr} {f : EF} {pos : Pos} (ha : PEd X W a f) : PEd X W (.UnaryOp .Not a pos) (eNot f) := by
  refine PE.imp (pe_not ha) fun σ H Q h => ?_
  obtain ⟨η, θ, μ, ρ, ok, rs, fin⟩ := h
  refine ⟨η, θ, μ, ρ, ok, rs, fin.andThen fun c μ1 c' H1 θ1 _ st rc fin1 => ?_⟩
  split at fin1
  · cases rc with
    | d rc => cases rc; exact ⟨_, rfl, fin1.done (Step.refl st.ok) (.d .bl)⟩
  · exact fin1.elim
theorem pd_if {c a b : Expr} {fc : BF} {f g : EF} {pos : Pos} (hc : PBd X W c fc) (ha : PEd X W a f) (hb : PEd X W b g) : PEd X W (.IfExp c a b pos) (eIf fc f g) := by
  refine PE.imp (pe_ifExp hc ha hb) fun σ H Q h => ?_
  obtain ⟨η, θ, μ, ρ, ok, rs, fin⟩ := h
  refine ⟨η, θ, μ, ρ, ok, rs, fin.andThen fun c μ1 c' H1 θ1 _ st rc fin1 => ?_⟩
  subst rc
  cases c with
  | true => rw [if_pos rfl] at fin1 ⊢; exact ⟨η, θ1, μ1, ρ, st.ok, rs.step st, fin1⟩
  | false => rw [if_neg (by decide)] at fin1 ⊢; exact ⟨η, θ1, μ1, ρ, st.ok, rs.step st, fin1⟩

/-! methods of lists -/
theorem ob_lst {mg : Str → Option Value} {K : PySem.W.Frag} {η : List Addr} {H : Hp} {θ : List Addr} {μ : Store} {n : Nat} {ds : List D} {v : V} (s : StOk mg K η H θ μ) (r : RepSl mg K (hid H (θ ++ η)) θ (.ob n) v) (e : μ[n]? = some (.lst ds)) :
    ∃ a xs, v = .ref a ∧ θ[n]? = some a ∧ H a = some (.lst xs) ∧ RepL mg K (hid H (θ ++ η)) ds xs := by
  cases r with
  | ob h =>
    obtain ⟨o, h1, h2⟩ := s.lookup h
    rw [e] at h1; cases h1
    obtain ⟨xs, e1, l⟩ := h2
    exact ⟨_, xs, rfl, h, e1, l⟩
theorem pd_app {o e : Expr} {fo fe : EF} {apos cpos : Pos} (ho : PEd X W o fo) (he : PEd X W e fe) (h1 : attributeBase o "append" X.env (eval o X.env) = eval o X.env := by rfl)
    (h2 : ((backTo cpos (starEach (e :: []) X.env)).all (fun x => !x.1) && (backToKw cpos (keywordEach [] X.env)).all (fun x => x.1.isSome) && decide ((e :: []).length + ([] : List Keyword).length + (if ([] : List Keyword).isEmpty = true then 0 else 1) < 30)) = true := by rfl)
    (h3 : (apos.endLine == cpos.line) = true := by rfl) (h4 : starEach (e :: []) X.env = (false, eval e X.env) :: starEach [] X.env := by rfl) (h5 : ((backTo cpos (starEach [] X.env)).any fun x => x.1) = false := by rfl) :
    PEd X W (.Call (.Attribute o "append" apos) [e] [] cpos) (eApp fo fe) := by
  refine PE.imp (pe_bm PySem.F.plainAttrs_list PySem.F.slot_list_append PySem.F.type_list_append mt_append ho (pa_cons he pa_nil h4) h1 h2 h3 h4 h5) fun σ H Q h => ?_
  obtain ⟨η, θ, μ, ρ, ok, rs, fin⟩ := h
  unfold eApp at fin
  refine ⟨η, θ, μ, ρ, ok, rs, fin.andThen fun dx μ1 x H1 θ1 _ st rx fin1 => ?_⟩
  split at fin1
  · split at fin1
    · rename_i n ds0 e0
      obtain ⟨a, xs, rfl, ha, hx, lx⟩ := ob_lst st.ok rx e0
      refine ⟨.inl ⟨rfl, xs, SqL.of hx⟩, η, θ1, μ1, ρ, st.ok, rs.step st, fin1.andThen fun dy μ2 y H2 θ2 _ st2 ry fin2 => ?_⟩
      split at fin2
      · rename_i x ds e2 ek
        split at fin2
        · rename_i hz
          obtain ⟨a', ys, e3, ha', hy, ly⟩ := ob_lst st2.ok (rx.step st2) e2
          cases e3
          cases ry with
          | d ry =>
            refine ⟨a, ys, y, rfl, rfl, hy, by rw [sizeLine_eq, ← ly.length]; exact hz, ?_⟩
            exact fin2 _ _ _ (st2.ok.setOb (m := .lst (ds ++ [x])) ha' ⟨_, upd_same, ly.append (.cons ry .nil)⟩) (.d .non)
        · exact fin2.elim
      · exact fin2.elim
    · exact fin1.elim
  · exact fin1.elim
theorem pd_pop {o : Expr} {fo : EF} {apos cpos : Pos} (ho : PEd X W o fo) (h1 : attributeBase o "pop" X.env (eval o X.env) = eval o X.env := by rfl)
    (h3 : (apos.endLine == cpos.line) = true := by rfl) :
    PEd X W (.Call (.Attribute o "pop" apos) [] [] cpos) (ePop fo) := by
  refine PE.imp (pe_bm0 PySem.F.plainAttrs_list PySem.F.slot_list_pop PySem.F.type_list_pop mt_pop ho h1 h3) fun σ H Q h => ?_
  obtain ⟨η, θ, μ, ρ, ok, rs, fin⟩ := h
  unfold ePop at fin
  refine ⟨η, θ, μ, ρ, ok, rs, fin.andThen fun dx μ1 x H1 θ1 _ st rx fin1 => ?_⟩
  split at fin1
  · split at fin1
    · rename_i n ds e0
      obtain ⟨a, xs, rfl, ha, hx, lx⟩ := ob_lst st.ok rx e0
      split at fin1
      · rename_i x e1
        obtain ⟨v, h1, h2⟩ := lx.get _ e1
        rw [lx.length] at h1
        refine ⟨.inl ⟨rfl, xs, SqL.of hx⟩, a, xs, v, rfl, rfl, hx, h1, ?_⟩
        refine fin1 _ _ _ (st.ok.setOb (m := .lst ds.dropLast) ha ⟨_, upd_same, ?_⟩) (.d ?_)
        · rw [List.dropLast_eq_take, List.dropLast_eq_take, ← lx.length]; exact lx.take _
        · refine h2.ext (Ext.of fun b u q => ?_)
          obtain ⟨q1, q2⟩ := hid_some q
          rw [hid_out q1, upd_ne (fun z => q1 (by rw [z]; exact List.mem_append_left _ (List.mem_of_getElem? ha)))]
          exact q2
      · exact fin1.elim
    · exact fin1.elim
  · exact fin1.elim
theorem pd_pop0 {o : Expr} {fo : EF} {apos cpos p0 : Pos} {k0 : Nat} (ho : PEd X W o fo) (h1 : attributeBase o "pop" X.env (eval o X.env) = eval o X.env := by rfl)
    (h2 : ((backTo cpos (starEach (.Constant (.int 0) k0 p0 :: []) X.env)).all (fun x => !x.1) && (backToKw cpos (keywordEach [] X.env)).all (fun x => x.1.isSome) && decide ((Expr.Constant (.int 0) k0 p0 :: []).length + ([] : List Keyword).length + (if ([] : List Keyword).isEmpty = true then 0 else 1) < 30)) = true := by rfl)
    (h3 : (apos.endLine == cpos.line) = true := by rfl) (h4 : starEach (.Constant (.int 0) k0 p0 :: []) X.env = (false, eval (.Constant (.int 0) k0 p0) X.env) :: starEach [] X.env := by rfl) (h5 : ((backTo cpos (starEach [] X.env)).any fun x => x.1) = false := by rfl) :
    PEd X W (.Call (.Attribute o "pop" apos) [.Constant (.int 0) k0 p0] [] cpos) (ePop0 fo) := by
  refine PE.imp (pe_bm PySem.F.plainAttrs_list PySem.F.slot_list_pop PySem.F.type_list_pop mt_popAt ho (pa_cons pe_int pa_nil h4) h1 h2 h3 h4 h5) fun σ H Q h => ?_
  obtain ⟨η, θ, μ, ρ, ok, rs, fin⟩ := h
  unfold ePop0 at fin
  refine ⟨η, θ, μ, ρ, ok, rs, fin.andThen fun dx μ1 x H1 θ1 _ st rx fin1 => ?_⟩
  split at fin1
  · split at fin1
    · rename_i n x r e0
      obtain ⟨a, xs, rfl, ha, hx, lx⟩ := ob_lst st.ok rx e0
      cases lx with
      | cons h2 l =>
        rename_i v vs
        refine ⟨.inl ⟨rfl, _, SqL.of hx⟩, a, v :: vs, 0, 0, v, rfl, rfl, hx, by decide, by decide, ?_, rfl, ?_⟩
        · simp [seqIndex?]
        refine fin1 _ _ _ (st.ok.setOb (m := .lst r) ha ⟨_, upd_same, l⟩) (.d ?_)
        refine h2.ext (Ext.of fun b u q => ?_)
        obtain ⟨q1, q2⟩ := hid_some q
        rw [hid_out q1, upd_ne (fun z => q1 (by rw [z]; exact List.mem_append_left _ (List.mem_of_getElem? ha)))]
        exact q2
    · exact fin1.elim
  · exact fin1.elim
end
end DL

set_option Elab.async false
set_option linter.all false
set_option maxRecDepth 100000
set_option maxHeartbeats 1000000
/-! DLStm: targets, statements, loops, comprehensions, defs and calls -/
namespace DL
open PySem PySem.Spec PyProof.Rows L2
variable [TabCtx]

/-! ### targets -/
abbrev GF := Sl → Rho → Option Rho
def gN (i : Nat) : GF := fun s ρ => some (ρ.set i (some s))
def gLs : List GF → List D → Rho → Option Rho
  | [], [], ρ => some ρ
  | g :: gs, d :: ds, ρ => (g (.d d) ρ).bind fun ρ' => gLs gs ds ρ'
  | _, _, _ => none
def gT (gs : List GF) : GF := fun s ρ => match s with
  | .d (.tup ds) => gLs gs ds ρ
  | .d (.lst ds) => gLs gs ds ρ
  | _ => none
/-- but for the slots vs the frame is as it was -/
def But (vs : List Nat) (σ σ' : L2.St) : Prop := σ'.length = σ.length ∧ ∀ i, i ∉ vs → σ'[i]? = σ[i]?
theorem But.refl (vs : List Nat) (σ : L2.St) : But vs σ σ := ⟨rfl, fun _ _ => rfl⟩
theorem But.trans {vs : List Nat} {a b c : L2.St} (h : But vs a b) (k : But vs b c) : But vs a c := ⟨k.1.trans h.1, fun i hi => (k.2 i hi).trans (h.2 i hi)⟩
theorem But.mono {vs ws : List Nat} {a b : L2.St} (h : But vs a b) (k : ∀ i ∈ vs, i ∈ ws) : But ws a b := ⟨h.1, fun i hi => h.2 i fun z => hi (k i z)⟩
theorem But.set {i : Nat} {σ : L2.St} {o : Option V} : But [i] σ (σ.set i o) := ⟨by simp, fun j hj => by rw [List.getElem?_set_ne (fun z => hj (by simp [z]))]⟩
def tG (mg : Str → Option Value) (K : PySem.W.Frag) (g : GF) (vs : List Nat) : TG := fun v σ H Q => ∃ η θ μ ρ s ρ', StOk mg K η H θ μ ∧ RepS mg K (hid H (θ ++ η)) θ ρ σ ∧ RepSl mg K (hid H (θ ++ η)) θ s v ∧ g s ρ = some ρ' ∧ ∀ σ', RepS mg K (hid H (θ ++ η)) θ ρ' σ' → But vs σ σ' → Q σ' H
def tGs (mg : Str → Option Value) (K : PySem.W.Frag) (gs : List GF) (ws : List Nat) : TGs := fun vs σ H Q => ∃ η θ μ ρ ds ρ', StOk mg K η H θ μ ∧ RepS mg K (hid H (θ ++ η)) θ ρ σ ∧ RepL mg K (hid H (θ ++ η)) ds vs ∧ gLs gs ds ρ = some ρ' ∧ ∀ σ', RepS mg K (hid H (θ ++ η)) θ ρ' σ' → But ws σ σ' → Q σ' H
def PGd (X : Cx) (e : Expr) (g : GF) (vs : List Nat) : Prop := PG X e (tG X.mg X.K g vs)
def PGsd (X : Cx) (es : List Expr) (gs : List GF) (vs : List Nat) : Prop := PGs X es (tGs X.mg X.K gs vs)
section
variable {X : Cx} {W : WXD} {CX : CXT} {k : Nat}
theorem PG.imp {e : Expr} {t t' : TG} (h : PG X e t) (k : ∀ v σ H Q, t' v σ H Q → t v σ H Q) : PG X e t' := ⟨fun pins s σ H v u Q I r q => h.run pins s σ H v u Q I r (k v σ H Q q)⟩
theorem PGs.imp {e : List Expr} {t t' : TGs} (h : PGs X e t) (k : ∀ v σ H Q, t' v σ H Q → t v σ H Q) : PGs X e t' := ⟨fun pins s σ H xs us Q I r q => h.run pins s σ H xs us Q I r (k xs σ H Q q)⟩
theorem PG.or {e : Expr} {t t' : TG} (h : PG X e t) (h' : PG X e t') : PG X e (fun v σ H Q => t v σ H Q ∨ t' v σ H Q) :=
  ⟨fun pins s σ H v u Q I r q => q.elim (fun z => h.run pins s σ H v u Q I r z) (fun z => h'.run pins s σ H v u Q I r z)⟩
theorem pgd_n (C : Cxb X CX W k) (i : Nat) {x : Str} {pos : Pos} (hi : X.N[i]? = some x := by rfl) (hx : Loc X.env.scope x := by first | exact Or.inl rfl | exact Or.inr rfl) (hf : X.fn x = true ∨ X.env.scope.names.lookup x = some .local := by first | exact .inl rfl | exact .inr rfl) : PGd X (.Name x pos) (gN i) [i] := by
  refine PG.imp (pg_name C.nd hi hx hf) fun v σ H Q h => ?_
  obtain ⟨η, θ, μ, ρ, s, ρ', ok, rs, rv, e, q⟩ := h
  cases e
  exact q _ (rs.set rv) But.set
theorem pgd_nil : PGsd X [] [] [] := by
  refine PGs.imp pgs_nil fun vs σ H Q h => ?_
  obtain ⟨η, θ, μ, ρ, ds, ρ', ok, rs, l, e, q⟩ := h
  cases l with
  | nil => cases e; exact ⟨rfl, q σ rs (But.refl _ _)⟩
  | cons _ _ => cases e
theorem pgd_cons {e : Expr} {es : List Expr} {g : GF} {gs : List GF} {vs ws : List Nat} (h1 : PGd X e g vs) (h2 : PGsd X es gs ws) (ha : (assignEach (e :: es) X.env).map (·.2) = assign e X.env :: (assignEach es X.env).map (·.2) := by rfl) : PGsd X (e :: es) (g :: gs) (vs ++ ws) := by
  refine PGs.imp (pgs_cons h1 h2 ha) fun vs σ H Q h => ?_
  obtain ⟨η, θ, μ, ρ, ds, ρ', ok, rs, l, e, q⟩ := h
  cases l with
  | nil => cases e
  | cons r l =>
    simp only [gLs] at e
    obtain ⟨ρ1, e1, e2⟩ := Option.bind_eq_some_iff.mp e
    exact ⟨_, _, rfl, η, θ, μ, ρ, _, ρ1, ok, rs, .d r, e1, fun σ1 rs1 b1 => ⟨η, θ, μ, ρ1, _, ρ', ok, rs1, l, e2, fun σ2 rs2 b2 => q σ2 rs2 ((b1.mono fun i hi => List.mem_append_left _ hi).trans (b2.mono fun i hi => List.mem_append_right _ hi))⟩⟩
theorem gLs_len : ∀ {gs : List GF} {ds : List D} {ρ ρ' : Rho}, gLs gs ds ρ = some ρ' → ds.length = gs.length
  | [], [], _, _, _ => rfl
  | g :: gs, d :: ds, _, _, e => by
    simp only [gLs] at e
    obtain ⟨ρ1, e1, e2⟩ := Option.bind_eq_some_iff.mp e
    simp [gLs_len e2]
  | [], _ :: _, _, _, e => by cases e
  | _ :: _, [], _, _, e => by cases e
theorem pgd_t {es : List Expr} {gs : List GF} {n m : Nat} {vs : List Nat} {pos : Pos} (C : Cxb X CX W k) (h : PGsd X es gs vs) (hn : gs.length = n := by rfl) (h1 : (assignEach es X.env).length = n := by rfl)
    (h2 : (assignEach es X.env).findIdx? (fun x => x.1) = none := by rfl) : PGd X (.Tuple es m pos) (gT gs) vs := by
  refine PG.imp (PG.or (pg_tup (n := n) C.calm h h1 h2) (pg_unl (n := n) C.calm h h1 h2)) fun v σ H Q h => ?_
  obtain ⟨η, θ, μ, ρ, s, ρ', ok, rs, rv, e, q⟩ := h
  unfold gT at e
  split at e
  · cases rv with
    | d rv =>
      cases rv with
      | tup hp l => exact .inl ⟨_, _, rfl, SqT.of (hid_some hp).2, by rw [← l.length, gLs_len e, hn], η, θ, μ, ρ, _, ρ', ok, rs, l, e, q⟩
  · cases rv with
    | d rv =>
      cases rv with
      | lst hp l => exact .inr ⟨_, _, rfl, SqL.of (hid_some hp).2, by rw [← l.length, gLs_len e, hn], η, θ, μ, ρ, _, ρ', ok, rs, l, e, q⟩
  · cases e
end

/-! ### what is walked -/
structure ItOk (mg : Str → Option Value) (K : PySem.W.Frag) (G : Hp) (J : It) (ds : List D) : Prop where
  goes : ∀ (i : Nat) (H : Hp) (S : List Addr), i < ds.length → Ext G (hid H S) → J.go i H
  stops : ∀ (H : Hp) (S : List Addr), Ext G (hid H S) → J.stop ds.length H
  yields : ∀ (i : Nat) (H : Hp) (x : V) (H' : Hp) (S : List Addr), i < ds.length → Ext G (hid H S) → (∀ p ∈ S, H p ≠ none) → J.yld i H x H' → Same H H' ∧ ∃ d, ds[i]? = some d ∧ Rep mg K (hid H' S) d x
def tI (mg : Str → Option Value) (K : PySem.W.Frag) (W : WXD) (f : LF) : TI := fun σ H R => ∃ η θ μ ρ, StOk mg K η H θ μ ∧ RepS mg K (hid H (θ ++ η)) θ ρ σ ∧ Fin mg K (fun c d => W c d σ) η H θ (fun G _ ds J => ItOk mg K G J ds) (f ρ μ) R
def PId (X : Cx) (W : WXD) (tg iter : Expr) (f : LF) : Prop := PI X tg iter (tI X.mg X.K W f)
def sSq (f : EF) : LF := fun ρ μ => (f ρ μ).bind fun x μ1 => match x with
  | .d (.lst ds) => .ok ds μ1
  | .d (.tup ds) => .ok ds μ1
  | _ => .no
def rngL (lo : Int) : Nat → List D
  | 0 => []
  | n + 1 => .int lo :: rngL (lo + 1) n
theorem rngL_len : ∀ (n : Nat) (lo : Int), (rngL lo n).length = n
  | 0, _ => rfl
  | n + 1, lo => by simp [rngL, rngL_len n]
theorem rngL_get : ∀ (n : Nat) (lo : Int) (i : Nat), i < n → (rngL lo n)[i]? = some (.int (lo + i))
  | n + 1, lo, 0, _ => by simp [rngL]
  | n + 1, lo, i + 1, h => by
    simp only [rngL, List.getElem?_cons_succ]
    rw [rngL_get n (lo + 1) i (by omega)]
    congr 2; omega
def sRng1 (f : EF) : LF := fun ρ μ => (f ρ μ).bind fun x μ1 => match x with
  | .d (.int n) => if n.natAbs ≤ 1000000 then .ok (rngL 0 n.toNat) μ1 else .no
  | _ => .no
def sRng2 (f g : EF) : LF := fun ρ μ => (f ρ μ).bind fun x μ1 => (g ρ μ1).bind fun y μ2 => match x, y with
  | .d (.int a), .d (.int b) => if a.natAbs ≤ 1000000 ∧ b.natAbs ≤ 1000000 then .ok (rngL a (b - a).toNat) μ2 else .no
  | _, _ => .no
section
variable {X : Cx} {W : WXD} {CX : CXT} {k : Nat}
theorem PI.imp {tg e : Expr} {t t' : TI} (h : PI X tg e t) (k : ∀ σ H Q, t' σ H Q → t σ H Q) : PI X tg e t' := ⟨fun pins s σ H Q I q => h.run pins s σ H Q I (k σ H Q q)⟩
theorem PI.or {tg e : Expr} {t t' : TI} (h : PI X tg e t) (h' : PI X tg e t') : PI X tg e (fun σ H R => t σ H R ∨ t' σ H R) :=
  ⟨fun pins s σ H Q I q => q.elim (fun z => h.run pins s σ H Q I z) (fun z => h'.run pins s σ H Q I z)⟩
theorem ext_at {G H : Hp} {S : List Addr} {a : Addr} {o : HO} (e : Ext G (hid H S)) (h : G a = some o) (n : ∀ ps, o ≠ .tbl ps) : H a = some o := (hid_some (e a o h n)).2
theorem it_list {mg : Str → Option Value} {K : PySem.W.Frag} {G : Hp} {a : Addr} {xs : List V} {ds : List D} (h : G a = some (.lst xs)) (l : RepL mg K G ds xs) : ItOk mg K G (Itl K a) ds where
  goes := fun i H S hi e => ⟨xs, xs[i]'(by rw [← l.length]; exact hi), SqL.of (ext_at e h fun _ z => by cases z), by simp⟩
  stops := fun H S e => ⟨xs, SqL.of (ext_at e h fun _ z => by cases z), by rw [l.length]; exact Nat.le_refl _⟩
  yields := fun i H x H' S hi e f y => by
    obtain ⟨rfl, y⟩ := y
    have q := y xs (SqL.of (ext_at e h fun _ z => by cases z))
    obtain ⟨d, h1, h2⟩ := l.getV i q
    exact ⟨Same.refl _, d, h1, h2.ext e⟩
theorem it_tup {mg : Str → Option Value} {K : PySem.W.Frag} {G : Hp} {a : Addr} {xs : List V} {ds : List D} (h : G a = some (.tup xs)) (l : RepL mg K G ds xs) : ItOk mg K G (Itt K a) ds where
  goes := fun i H S hi e => ⟨xs, xs[i]'(by rw [← l.length]; exact hi), SqT.of (ext_at e h fun _ z => by cases z), by simp⟩
  stops := fun H S e => ⟨xs, SqT.of (ext_at e h fun _ z => by cases z), by rw [l.length]; exact Nat.le_refl _⟩
  yields := fun i H x H' S hi e f y => by
    obtain ⟨rfl, y⟩ := y
    have q := y xs (SqT.of (ext_at e h fun _ z => by cases z))
    obtain ⟨d, h1, h2⟩ := l.getV i q
    exact ⟨Same.refl _, d, h1, h2.ext e⟩
theorem it_rng {mg : Str → Option Value} {K : PySem.W.Frag} {G : Hp} {lo : Int} {n : Nat} : ItOk mg K G (Itr lo n) (rngL lo n) where
  goes := fun i H S hi e => by rw [rngL_len] at hi; exact hi
  stops := fun H S e => by rw [rngL_len]; exact Nat.le_refl _
  yields := fun i H x H' S hi e f y => by
    obtain ⟨rfl, rfl⟩ := y
    rw [rngL_len] at hi
    exact ⟨Same.refl _, _, rngL_get n lo i hi, .int⟩
theorem pid_sq {tg l : Expr} {f : EF} (h : PEd X W l f) : PId X W tg l (sSq f) := by
  refine PI.imp (PI.or (pi_list h) (pi_tup h)) fun σ H R hh => ?_
  obtain ⟨η, θ, μ, ρ, ok, rs, fin⟩ := hh
  unfold sSq at fin
  cases e : f ρ μ with
  | ok x μ1 =>
    rw [e] at fin
    simp only [Res.bind] at fin
    split at fin
    · refine .inl ⟨η, θ, μ, ρ, ok, rs, ?_⟩
      rw [e]
      intro v H1 θ1 st rx
      cases rx with
      | d rx => cases rx with
        | lst hp l => exact ⟨_, rfl, ⟨_, SqL.of (hid_some hp).2⟩, (Fin.rebase st fin) _ _ _ (Step.refl st.ok) (it_list hp l)⟩
    · refine .inr ⟨η, θ, μ, ρ, ok, rs, ?_⟩
      rw [e]
      intro v H1 θ1 st rx
      cases rx with
      | d rx => cases rx with
        | tup hp l => exact ⟨_, rfl, ⟨_, SqT.of (hid_some hp).2⟩, (Fin.rebase st fin) _ _ _ (Step.refl st.ok) (it_tup hp l)⟩
    · exact fin.elim
  | ex x μ' => rw [e] at fin; exact .inl ⟨η, θ, μ, ρ, ok, rs, by rw [e]; exact fin⟩
  | no => rw [e] at fin; exact fin.elim
theorem pid_rng1 {tg a : Expr} {f : EF} {p pos : Pos} (hg : Gl X "range") (hm : X.mg "range" = none) (ha : PEd X W a f) (hs : starEach [a] X.env = [(false, eval a X.env)] := by rfl) : PId X W tg (.Call (.Name "range" p) [a] [] pos) (sRng1 f) := by
  refine PI.imp (pi_range1 hg hm (pd_cons ha pd_nil hs) hs) fun σ H R hh => ?_
  obtain ⟨η, θ, μ, ρ, ok, rs, fin⟩ := hh
  refine ⟨η, θ, μ, ρ, ok, rs, ?_⟩
  unfold sRng1 at fin
  unfold aCons
  cases e : f ρ μ with
  | ok x μ1 =>
    rw [e] at fin
    simp only [Res.bind] at fin
    intro vs H1 θ1 st rx
    cases rx with
    | cons rx l =>
      cases l
      split at fin
      · split at fin
        · rename_i hn
          cases rx with
          | d rx => cases rx; exact ⟨_, rfl, by omega, by omega, (Fin.rebase st fin) _ _ _ (Step.refl st.ok) it_rng⟩
        · exact fin.elim
      · exact fin.elim
  | ex x μ' => rw [e] at fin; exact fin
  | no => rw [e] at fin; exact fin
theorem pid_rng2 {tg a b : Expr} {f g : EF} {p pos : Pos} (hg : Gl X "range") (hm : X.mg "range" = none) (ha : PEd X W a f) (hb : PEd X W b g) (hs : starEach [a, b] X.env = [(false, eval a X.env), (false, eval b X.env)] := by rfl) (hs2 : starEach [b] X.env = [(false, eval b X.env)] := by rfl) (hs3 : starEach [a, b] X.env = (false, eval a X.env) :: starEach [b] X.env := by rfl) :
    PId X W tg (.Call (.Name "range" p) [a, b] [] pos) (sRng2 f g) := by
  refine PI.imp (pi_range2 hg hm (pd_cons ha (pd_cons hb pd_nil hs2) hs3) hs hs2) fun σ H R hh => ?_
  obtain ⟨η, θ, μ, ρ, ok, rs, fin⟩ := hh
  refine ⟨η, θ, μ, ρ, ok, rs, ?_⟩
  unfold sRng2 at fin
  unfold aCons
  cases e : f ρ μ with
  | ok x μ1 =>
    rw [e] at fin
    simp only [Res.bind] at fin ⊢
    cases e2 : g ρ μ1 with
    | ok y μ2 =>
      rw [e2] at fin
      simp only [aNil] at fin ⊢
      intro vs H1 θ1 st rx
      cases rx with
      | cons rx l =>
        cases l with
        | cons ry l =>
          cases l
          split at fin
          · split at fin
            · rename_i hn
              cases rx with
              | d rx =>
                cases rx
                cases ry with
                | d ry => cases ry; exact ⟨_, _, rfl, ⟨by omega, by omega, by omega, by omega⟩, (Fin.rebase st fin) _ _ _ (Step.refl st.ok) it_rng⟩
            · exact fin.elim
          · exact fin.elim
    | ex x μ' => rw [e2] at fin; exact fin
    | no => rw [e2] at fin; exact fin
  | ex x μ' => rw [e] at fin; exact fin
  | no => rw [e] at fin; exact fin
end

/-! ### statements -/
def sNil : SF := fun ρ μ => .nx ρ μ
def Out.then (o : Out) (g : SF) : Out := match o with
  | .nx ρ μ => g ρ μ
  | o => o
def sSeq (f g : SF) : SF := fun ρ μ => (f ρ μ).then g
def sBreak : SF := fun ρ μ => .bk ρ μ
def sCont : SF := fun ρ μ => .ct ρ μ
def sExp (f : EF) : SF := fun ρ μ => (f ρ μ).toOut ρ fun _ μ1 => .nx ρ μ1
def sRet (f : EF) : SF := fun ρ μ => (f ρ μ).toOut ρ fun s μ1 => .rt s μ1
def sRetN : SF := fun _ μ => .rt (.d .non) μ
def sIf (c : BF) (f g : SF) : SF := fun ρ μ => (c ρ μ).toOut ρ fun b μ1 => if b = true then f ρ μ1 else g ρ μ1
def sAsg (f : EF) (g : GF) : SF := fun ρ μ => (f ρ μ).toOut ρ fun s μ1 => match g s ρ with
  | some ρ' => .nx ρ' μ1
  | none => .no
def sPar (i j : Nat) (f g : EF) : SF := fun ρ μ => (f ρ μ).toOut ρ fun s μ1 => (g ρ μ1).toOut ρ fun t μ2 => .nx ((ρ.set i (some s)).set j (some t)) μ2
def sNever : SF := fun _ _ => .no
/-- o[i] = e -/
def sSet (fo fi fe : EF) : SF := fun ρ μ => (fe ρ μ).toOut ρ fun x μ1 => (fo ρ μ1).toOut ρ fun o μ2 => (fi ρ μ2).toOut ρ fun i μ3 => match o, i, x with
  | .ob n, .d (.int k), .d x => match μ3[n]? with
    | some (.lst ds) => match ixN ds.length k with
      | some j => .nx ρ (μ3.set n (.lst (ds.set j x)))
      | none => .no
    | _ => .no
  | _, _, _ => .no
def forL (g : GF) (body : SF) : List D → Rho → Store → Out
  | [], ρ, μ => .nx ρ μ
  | d :: ds, ρ, μ => match g (.d d) ρ with
    | none => .no
    | some ρ1 => match body ρ1 μ with
      | .nx ρ' μ' => forL g body ds ρ' μ'
      | .ct ρ' μ' => forL g body ds ρ' μ'
      | .bk ρ' μ' => .nx ρ' μ'
      | .rt s μ' => .rt s μ'
      | .ex x ρ' μ' => .ex x ρ' μ'
      | .no => .no
def sFor (src : LF) (g : GF) (body : SF) : SF := fun ρ μ => (src ρ μ).toOut ρ fun ds μ1 => forL g body ds ρ μ1
def whL (c : BF) (body : SF) : Nat → Rho → Store → Out
  | 0, _, _ => .no
  | n + 1, ρ, μ => (c ρ μ).toOut ρ fun b μ1 => if b = true then (match body ρ μ1 with
      | .nx ρ' μ' => whL c body n ρ' μ'
      | .ct ρ' μ' => whL c body n ρ' μ'
      | .bk ρ' μ' => .nx ρ' μ'
      | .rt s μ' => .rt s μ'
      | .ex x ρ' μ' => .ex x ρ' μ'
      | .no => .no) else .nx ρ μ1
def sWhile (n : Nat) (c : BF) (body : SF) : SF := fun ρ μ => whL c body n ρ μ
section
variable {X : Cx} {W : WXD} {CX : CXT} {k : Nat}
theorem FinS.imp {mg : Str → Option Value} {K : PySem.W.Frag} {W : WXD} {η : List Addr} {H : Hp} {θ : List Addr} {r : Out} {D1 D2 : Ends} (h : FinS mg K W η H θ r D1) (h1 : ∀ σ H, D1.nx σ H → D2.nx σ H) (h2 : ∀ v H, D1.rt v H → D2.rt v H) (h3 : ∀ σ H, D1.bk σ H → D2.bk σ H) (h4 : ∀ σ H, D1.ct σ H → D2.ct σ H) : FinS mg K W η H θ r D2 := by
  cases r with
  | nx a b => exact fun _ _ _ st r => h1 _ _ (h _ _ _ st r)
  | rt a b => exact fun _ _ _ st r => h2 _ _ (h _ _ _ st r)
  | bk a b => exact fun _ _ _ st r => h3 _ _ (h _ _ _ st r)
  | ct a b => exact fun _ _ _ st r => h4 _ _ (h _ _ _ st r)
  | ex a b c => exact h
  | no => exact h
theorem sd_nil : PSsd X W [] sNil := by
  refine PSs.imp pss_nil fun Dn σ H h => ?_
  obtain ⟨η, θ, μ, ρ, ok, rs, fin⟩ := h
  exact fin _ _ _ (Step.refl ok) rs
theorem sd_one {st : Stmt} {f : SF} (h : PSd X W st f) : PSsd X W [st] f := pss_one h
theorem sd_cons {st : Stmt} {rest : List Stmt} {f g : SF} (h1 : PSd X W st f) (h2 : PSsd X W rest g) : PSsd X W (st :: rest) (sSeq f g) := by
  refine PSs.imp (pss_cons h1 h2) fun Dn σ H h => ?_
  obtain ⟨η, θ, μ, ρ, ok, rs, fin⟩ := h
  refine ⟨η, θ, μ, ρ, ok, rs, ?_⟩
  unfold sSeq Out.then at fin
  cases e : f ρ μ with
  | nx ρ' μ' => rw [e] at fin; exact fun σ' H' θ' st r => ⟨η, θ', μ', ρ', st.ok, r, FinS.rebase st fin⟩
  | rt a b => rw [e] at fin; exact fin
  | bk a b => rw [e] at fin; exact fin
  | ct a b => rw [e] at fin; exact fin
  | ex a b c => rw [e] at fin; exact fin
  | no => rw [e] at fin; exact fin
theorem sd_pass {pos : Pos} : PSd X W (.Pass pos) sNil := by
  refine PS.imp ps_pass fun Dn σ H h => ?_
  obtain ⟨η, θ, μ, ρ, ok, rs, fin⟩ := h
  exact fin _ _ _ (Step.refl ok) rs
theorem sd_break {pos : Pos} : PSd X W (.Break pos) sBreak := by
  refine PS.imp ps_break fun Dn σ H h => ?_
  obtain ⟨η, θ, μ, ρ, ok, rs, fin⟩ := h
  exact fin _ _ _ (Step.refl ok) rs
theorem sd_cont {pos : Pos} : PSd X W (.Continue pos) sCont := by
  refine PS.imp ps_continue fun Dn σ H h => ?_
  obtain ⟨η, θ, μ, ρ, ok, rs, fin⟩ := h
  exact fin _ _ _ (Step.refl ok) rs
theorem sd_never {st : Stmt} : PSd X W st sNever := by
  refine PS.imp ps_never fun Dn σ H h => ?_
  obtain ⟨η, θ, μ, ρ, ok, rs, fin⟩ := h
  exact fin.elim
theorem sd_exp {e : Expr} {f : EF} {pos : Pos} (h : PEd X W e f) (hs : swapsWith e none pos.line X.env = pure false := by rfl) : PSd X W (.Expr e pos) (sExp f) := by
  refine PS.imp (ps_expr h hs) fun Dn σ H h => ?_
  obtain ⟨η, θ, μ, ρ, ok, rs, fin⟩ := h
  exact ⟨η, θ, μ, ρ, ok, rs, Fin.andThenS fin rs fun a μ1 v H1 θ1 _ st r f1 => f1 _ _ _ (Step.refl st.ok) (rs.step st)⟩
theorem sd_ret {e : Expr} {f : EF} {pos : Pos} (h : PEd X W e f) : PSd X W (.Return (some e) pos) (sRet f) := by
  refine PS.imp (ps_ret h) fun Dn σ H h => ?_
  obtain ⟨η, θ, μ, ρ, ok, rs, fin⟩ := h
  exact ⟨η, θ, μ, ρ, ok, rs, Fin.andThenS fin rs fun a μ1 v H1 θ1 _ st r f1 => f1 _ _ _ (Step.refl st.ok) r⟩
theorem sd_retN {pos : Pos} : PSd X W (.Return none pos) sRetN := by
  refine PS.imp ps_retN fun Dn σ H h => ?_
  obtain ⟨η, θ, μ, ρ, ok, rs, fin⟩ := h
  exact fin _ _ _ (Step.refl ok) (.d .non)
theorem sd_if {c : Expr} {a b : List Stmt} {fc : BF} {f g : SF} {pos : Pos} (hc : PBd X W c fc) (ha : PSsd X W a f) (hb : PSsd X W b g) : PSd X W (.If c a b pos) (sIf fc f g) := by
  refine PS.imp (ps_if hc ha hb) fun Dn σ H h => ?_
  obtain ⟨η, θ, μ, ρ, ok, rs, fin⟩ := h
  refine ⟨η, θ, μ, ρ, ok, rs, Fin.andThenS fin rs fun c μ1 c' H1 θ1 _ st r f1 => ?_⟩
  subst r
  cases c with
  | true => rw [if_pos rfl] at f1 ⊢; exact ⟨η, θ1, μ1, ρ, st.ok, rs.step st, f1⟩
  | false => rw [if_neg (by decide)] at f1 ⊢; exact ⟨η, θ1, μ1, ρ, st.ok, rs.step st, f1⟩
theorem sd_asg {tg e : Expr} {f : EF} {g : GF} {vs : List Nat} {pos : Pos} (he : PEd X W e f) (hg : PGd X tg g vs) (hs : swapsWithSole [tg] e pos.line X.env = pure false := by rfl) (hw : swappedStores [tg] e X.env = pure none := by rfl) (h3 : (assignEach [tg] X.env).map (·.2) = [assign tg X.env] := by rfl) : PSd X W (.Assign [tg] e pos) (sAsg f g) := by
  refine PS.imp (ps_asg he hg hs hw h3) fun Dn σ H h => ?_
  obtain ⟨η, θ, μ, ρ, ok, rs, fin⟩ := h
  refine ⟨η, θ, μ, ρ, ok, rs, Fin.andThenS fin rs fun s μ1 v H1 θ1 _ st r f1 => ?_⟩
  split at f1
  · rename_i ρ' e
    exact ⟨η, θ1, μ1, ρ, s, ρ', st.ok, rs.step st, r, e, fun σ' rs' _ => f1 _ _ _ (Step.refl st.ok) rs'⟩
  · exact f1.elim
theorem sd_set {x : Str} (C : Cxb X CX W k) (i : Nat) {e : Expr} {f : EF} {pos pos' : Pos} (he : PEd X W e f) (hi : X.N[i]? = some x := by rfl) (hx : Loc X.env.scope x := by first | exact Or.inl rfl | exact Or.inr rfl) (hs : swapsWith e (some (.Name x pos')) pos.line X.env = pure false := by rfl) (hf : X.fn x = true ∨ X.env.scope.names.lookup x = some .local := by first | exact .inl rfl | exact .inr rfl) : PSd X W (.Assign [.Name x pos'] e pos) (sAsg f (gN i)) := by
  refine PS.imp (ps_set C.nd hi hx he hs hf) fun Dn σ H h => ?_
  obtain ⟨η, θ, μ, ρ, ok, rs, fin⟩ := h
  refine ⟨η, θ, μ, ρ, ok, rs, Fin.andThenS fin rs fun s μ1 v H1 θ1 _ st r f1 => ?_⟩
  exact f1 _ _ _ (Step.refl st.ok) ((rs.step st).set r)
theorem sd_par (C : Cxb X CX W k) {i j : Nat} {x y : Str} {a b : Expr} {f g : EF} {px py pt pos : Pos} {kt k2 pt2} (ha : PEd X W a f) (hb : PEd X W b g) (hi : X.N[i]? = some x := by rfl) (hj : X.N[j]? = some y := by rfl) (hij : i ≠ j := by decide) (hx : X.env.scope.names.lookup x = some .local := by rfl) (hy : X.env.scope.names.lookup y = some .local := by rfl)
    (h1 : swappedStores [.Tuple [.Name x px, .Name y py] kt pt] (.Tuple [a, b] k2 pt2) X.env = pure (some [x, y]) := by rfl) (h2 : swapsWithSole [.Tuple [.Name x px, .Name y py] kt pt] (.Tuple [a, b] k2 pt2) pos.line X.env = pure false := by rfl)
    (hs : starEach [a, b] X.env = (false, eval a X.env) :: starEach [b] X.env := by rfl) (hs2 : starEach [b] X.env = (false, eval b X.env) :: starEach [] X.env := by rfl) :
    PSd X W (.Assign [.Tuple [.Name x px, .Name y py] kt pt] (.Tuple [a, b] k2 pt2) pos) (sPar i j f g) := by
  refine PS.imp (ps_par C.calm C.nd hi hj hij hx hy (pd_cons ha (pd_cons hb pd_nil hs2) hs) h1 h2) fun Dn σ H h => ?_
  obtain ⟨η, θ, μ, ρ, ok, rs, fin⟩ := h
  refine ⟨η, θ, μ, ρ, ok, rs, ?_⟩
  unfold sPar at fin
  unfold aCons
  cases e : f ρ μ with
  | ok x μ1 =>
    rw [e] at fin
    simp only [Res.toOut, Res.bind] at fin ⊢
    cases e2 : g ρ μ1 with
    | ok y μ2 =>
      rw [e2] at fin
      simp only [aNil] at fin ⊢
      intro vs H1 θ1 st rx
      cases rx with
      | cons rx l =>
        cases l with
        | cons ry l => cases l; exact ⟨_, _, rfl, fin _ _ _ st (((rs.step st).set rx).set ry)⟩
    | ex x μ' => rw [e2] at fin; exact fun cv dd H' θ' st xr => fin cv dd σ H' θ' st (rs.step st) xr
    | no => rw [e2] at fin; exact fin
  | ex x μ' => rw [e] at fin; exact fun cv dd H' θ' st xr => fin cv dd σ H' θ' st (rs.step st) xr
  | no => rw [e] at fin; exact fin
theorem sd_sub {o i e : Expr} {fo fi fe : EF} {pos p2 : Pos} (ho : PEd X W o fo) (hi : PEd X W i fi) (he : PEd X W e fe)
    (h1 : ∀ v, assign (.Subscript o i p2) X.env v = (do let ov ← holding [v] (eval o X.env); let iv ← holding [v, ov] (eval i X.env); standAt p2; holding [v, ov, iv] (setItem ov iv v); release [v, ov, iv] []) := by intro _; rfl)
    (hs : swapsWithSole [.Subscript o i p2] e pos.line X.env = pure false := by rfl) (hw : swappedStores [.Subscript o i p2] e X.env = pure none := by rfl) (h3 : (assignEach [.Subscript o i p2] X.env).map (·.2) = [assign (.Subscript o i p2) X.env] := by rfl) :
    PSd X W (.Assign [.Subscript o i p2] e pos) (sSet fo fi fe) := by
  refine PS.imp (ps_asg he (pg_sub ho hi set_list h1) hs hw h3) fun Dn σ H h => ?_
  obtain ⟨η, θ, μ, ρ, ok, rs, fin⟩ := h
  refine ⟨η, θ, μ, ρ, ok, rs, Fin.andThenS fin rs fun x μ1 xv H1 θ1 _ st rx f1 => ⟨η, θ1, μ1, ρ, st.ok, rs.step st, Fin.andThenS f1 (rs.step st) fun o μ2 ov H2 θ2 _ st2 ro f2 => ⟨η, θ2, μ2, ρ, st2.ok, (rs.step st).step st2, Fin.andThenS f2 ((rs.step st).step st2) fun i μ3 iv H3 θ3 _ st3 ri f3 => ?_⟩⟩⟩
  split at f3
  · split at f3
    · rename_i e0
      obtain ⟨a, xs, rfl, ha, hx, lx⟩ := ob_lst st3.ok (ro.step st3) e0
      split at f3
      · rename_i j ej
        cases ri with
        | d ri =>
          cases ri
          cases rx with
          | d rx =>
            refine ⟨a, xs, _, j, rfl, rfl, hx, by rw [← lx.length]; exact ej, ?_⟩
            have s4 := st3.ok.setOb (o := .lst (xs.set j xv)) (m := .lst (_)) ha ⟨_, upd_same, RepL.set ((rx.step st2).step st3) j lx⟩
            exact f3 _ _ _ s4 ((((rs.step st).step st2).step st3).step s4)
      · exact f3.elim
    · exact f3.elim
  · exact f3.elim
theorem sd_for {tg iter : Expr} {body : List Stmt} {src : LF} {g : GF} {vs : List Nat} {f : SF} {pos : Pos} (C : Cxt X CX W k) (hi : PId X W tg iter src) (hg : PGd X tg g vs) (hb : PSsd X W body f) (hs : ∀ x, foldedSetIterable iter X.env x = pure x := by intro _; rfl) : PSd X W (.For tg iter body [] pos) (sFor src g f) := by
  refine PS.imp (ps_for C.own C.calm hi hg hb hs) fun Dn σ H h => ?_
  obtain ⟨η, θ, μ, ρ, ok, rs, fin⟩ := h
  refine ⟨η, θ, μ, ρ, ok, rs, Fin.andThenS fin rs fun ds μ1 J H1 θ1 _ st it f1 => ?_⟩
  refine ⟨fun i m σ H => m = ds.length - i ∧ i ≤ ds.length ∧ ∃ θ μ ρ, StOk X.mg X.K η H θ μ ∧ RepS X.mg X.K (hid H (θ ++ η)) θ ρ σ ∧ Ext (hid H1 (θ1 ++ η)) (hid H (θ ++ η)) ∧ FinS X.mg X.K W η H θ (forL g f (ds.drop i) ρ μ) Dn,
    ⟨ds.length, by simp, Nat.zero_le _, θ1, μ1, ρ, st.ok, rs.step st, Ext.refl _, by rw [List.drop_zero]; exact f1⟩, ?_⟩
  rintro i m σ2 H2 ⟨rfl, hi, θ2, μ2, ρ2, ok2, rs2, ex2, f2⟩
  by_cases hlt : i < ds.length
  · refine .inr ⟨it.goes i H2 _ hlt ex2, fun σ H => i + 1 ≤ ds.length ∧ ∃ θ μ ρ, StOk X.mg X.K η H θ μ ∧ RepS X.mg X.K (hid H (θ ++ η)) θ ρ σ ∧ Ext (hid H1 (θ1 ++ η)) (hid H (θ ++ η)) ∧ FinS X.mg X.K W η H θ (forL g f (ds.drop (i + 1)) ρ μ) Dn, fun σ' H' hN => ⟨ds.length - (i + 1), by omega, rfl, hN.1, hN.2⟩, fun x H3 y => ?_⟩
    obtain ⟨sm, d, hd, rd⟩ := it.yields i H2 x H3 _ hlt ex2 ok2.trk y
    have st3 := ok2.same sm
    have ed : ds.drop i = d :: ds.drop (i + 1) := by
      rw [List.drop_eq_getElem_cons hlt]
      congr 1
      exact Option.some.inj ((List.getElem?_eq_getElem hlt).symm.trans hd)
    rw [ed] at f2
    simp only [forL] at f2
    split at f2
    · exact f2.elim
    · rename_i ρ3 eg
      refine ⟨η, θ2, μ2, ρ2, .d d, ρ3, st3.ok, rs2.step st3, .d rd, eg, fun σ3 rs3 _ => ⟨η, θ2, μ2, ρ3, st3.ok, rs3, ?_⟩⟩
      have f3 := FinS.rebase st3 f2
      cases e : f ρ3 μ2 with
      | nx ρ' μ' => rw [e] at f3; exact fun σ' H' θ' st r => ⟨hlt, θ', μ', ρ', st.ok, r, (ex2.trans st3.ext).trans st.ext, FinS.rebase st f3⟩
      | ct ρ' μ' => rw [e] at f3; exact fun σ' H' θ' st r => ⟨hlt, θ', μ', ρ', st.ok, r, (ex2.trans st3.ext).trans st.ext, FinS.rebase st f3⟩
      | bk ρ' μ' => rw [e] at f3; exact f3
      | rt a b => rw [e] at f3; exact f3
      | ex a b c => rw [e] at f3; exact f3
      | no => rw [e] at f3; exact f3
  · have e : i = ds.length := by omega
    subst e
    rw [List.drop_length] at f2
    exact .inl ⟨it.stops H2 _ ex2, f2 _ _ _ (Step.refl ok2) rs2⟩
theorem sd_while {c : Expr} {body : List Stmt} {fc : BF} {f : SF} {pos : Pos} (C : Cxt X CX W k) (n : Nat) (hc : PBd X W c fc) (hb : PSsd X W body f) : PSd X W (.While c body [] pos) (sWhile n fc f) := by
  refine PS.imp (ps_while C.own hc hb) fun Dn σ H h => ?_
  obtain ⟨η, θ, μ, ρ, ok, rs, fin⟩ := h
  refine ⟨fun m σ H => ∃ θ μ ρ, StOk X.mg X.K η H θ μ ∧ RepS X.mg X.K (hid H (θ ++ η)) θ ρ σ ∧ FinS X.mg X.K W η H θ (whL fc f m ρ μ) Dn, ⟨n, θ, μ, ρ, ok, rs, fin⟩, ?_⟩
  rintro m σ2 H2 ⟨θ2, μ2, ρ2, ok2, rs2, f2⟩
  cases m with
  | zero => exact f2.elim
  | succ m =>
    simp only [whL] at f2
    refine ⟨η, θ2, μ2, ρ2, ok2, rs2, Fin.andThenS f2 rs2 fun b μ3 b' H3 θ3 _ st3 r f3 => ?_⟩
    subst r
    cases b with
    | false => rw [if_neg (by decide)] at f3 ⊢; exact f3 _ _ _ (Step.refl st3.ok) (rs2.step st3)
    | true =>
      rw [if_pos rfl] at f3 ⊢
      refine ⟨_, fun σ' H' hN => ⟨m, Nat.lt_succ_self m, hN⟩, η, θ3, μ3, ρ2, st3.ok, rs2.step st3, ?_⟩
      cases e : f ρ2 μ3 with
      | nx ρ' μ' => rw [e] at f3; exact fun σ' H' θ' st r => ⟨θ', μ', ρ', st.ok, r, FinS.rebase st f3⟩
      | ct ρ' μ' => rw [e] at f3; exact fun σ' H' θ' st r => ⟨θ', μ', ρ', st.ok, r, FinS.rebase st f3⟩
      | bk ρ' μ' => rw [e] at f3; exact f3
      | rt a b => rw [e] at f3; exact f3
      | ex a b c => rw [e] at f3; exact f3
      | no => rw [e] at f3; exact f3
end
end DL

set_option Elab.async false
set_option linter.all false
set_option maxRecDepth 100000
set_option maxHeartbeats 1000000
/-! DLComp: list comprehensions, defs and their calls -/
namespace DL
open PySem PySem.Spec PyProof.Rows L2
variable [TabCtx]

/-! ### comprehensions -/
def wipeR (ρ : Rho) : List Nat → Rho
  | [] => ρ
  | v :: vs => (wipeR ρ vs).set v none
def bYes : BF := fun _ μ => .ok true μ
def lcL (vs : List Nat) (g : GF) (t : BF) (e : EF) (ρ : Rho) : List D → Store → Res (List D)
  | [], μ => .ok [] μ
  | d :: ds, μ => match g (.d d) (wipeR ρ vs) with
    | none => .no
    | some ρ1 => match t ρ1 μ with
      | .ok true μ1 => match e ρ1 μ1 with
        | .ok (.d y) μ2 => match lcL vs g t e ρ ds μ2 with
          | .ok ys μ3 => .ok (y :: ys) μ3
          | _ => .no
        | _ => .no
      | .ok false μ1 => lcL vs g t e ρ ds μ1
      | _ => .no
def lc2L (vs vs1 : List Nat) (g : GF) (t : BF) (src1 : LF) (g1 : GF) (t1 : BF) (e : EF) (ρ : Rho) : List D → Store → Res (List D)
  | [], μ => .ok [] μ
  | d :: ds, μ => match g (.d d) (wipeR ρ vs) with
    | none => .no
    | some ρ1 => match t ρ1 μ with
      | .ok true μ1 => match src1 ρ1 μ1 with
        | .ok ds1 μ2 => match lcL vs1 g1 t1 e ρ1 ds1 μ2 with
          | .ok ys μ3 => match lc2L vs vs1 g t src1 g1 t1 e ρ ds μ3 with
            | .ok zs μ4 => .ok (ys ++ zs) μ4
            | _ => .no
          | _ => .no
        | _ => .no
      | .ok false μ1 => lc2L vs vs1 g t src1 g1 t1 e ρ ds μ1
      | _ => .no
def lCap (r : Res (List D)) : Res (List D) := match r with
  | .ok ys μ => if ys.length ≤ 16777216 then .ok ys μ else .no
  | _ => .no
def lLc (vs : List Nat) (src : LF) (g : GF) (t : BF) (e : EF) : LF := fun ρ μ => (src ρ μ).bind fun ds μ1 => lCap (lcL vs g t e ρ ds μ1)
def lLc2 (vs vs1 : List Nat) (src : LF) (g : GF) (t : BF) (src1 : LF) (g1 : GF) (t1 : BF) (e : EF) : LF := fun ρ μ => (src ρ μ).bind fun ds μ1 => lCap (lc2L vs vs1 g t src1 g1 t1 e ρ ds μ1)

theorem wipe_get (σ : L2.St) (i : Nat) : ∀ vs : List Nat, (wipe σ vs)[i]? = if i ∈ vs ∧ i < σ.length then some none else σ[i]?
  | [] => by simp [wipe]
  | v :: vs => by
    unfold wipe
    by_cases h : v = i
    · subst h
      by_cases hl : v < σ.length
      · rw [List.getElem?_set_self (by rw [wipe_length]; exact hl), if_pos ⟨List.mem_cons_self, hl⟩]
      · rw [if_neg (fun z => hl z.2), List.getElem?_eq_none (by rw [List.length_set, wipe_length]; omega), List.getElem?_eq_none (by omega)]
    · rw [List.getElem?_set_ne h, wipe_get σ i vs]
      simp only [List.mem_cons, Ne.symm h, false_or]
theorem wipeR_get (σ : Rho) (i : Nat) : ∀ vs : List Nat, (wipeR σ vs).length = σ.length ∧ (wipeR σ vs)[i]? = if i ∈ vs ∧ i < σ.length then some none else σ[i]?
  | [] => by simp [wipeR]
  | v :: vs => by
    obtain ⟨h1, h2⟩ := wipeR_get σ i vs
    unfold wipeR
    refine ⟨by simp [h1], ?_⟩
    by_cases h : v = i
    · subst h
      by_cases hl : v < σ.length
      · rw [List.getElem?_set_self (by rw [h1]; exact hl), if_pos ⟨List.mem_cons_self, hl⟩]
      · rw [if_neg (fun z => hl z.2), List.getElem?_eq_none (by rw [List.length_set, h1]; omega), List.getElem?_eq_none (by omega)]
    · rw [List.getElem?_set_ne h, h2]
      simp only [List.mem_cons, Ne.symm h, false_or]
theorem wipe_but {vs : List Nat} {σ σ2 : L2.St} (h : But vs (wipe σ vs) σ2) : wipe σ2 vs = wipe σ vs := by
  apply List.ext_getElem?
  intro i
  have hl : σ2.length = σ.length := by rw [h.1, wipe_length]
  rw [wipe_get, wipe_get, hl]
  by_cases hi : i ∈ vs
  · by_cases hl2 : i < σ.length
    · rw [if_pos ⟨hi, hl2⟩, if_pos ⟨hi, hl2⟩]
    · rw [if_neg (fun z => hl2 z.2), if_neg (fun z => hl2 z.2), List.getElem?_eq_none (by omega), List.getElem?_eq_none (by omega)]
  · rw [if_neg (fun z => hi z.1), if_neg (fun z => hi z.1), h.2 i hi, wipe_get, if_neg (fun z => hi z.1)]
theorem RepS.wipe {mg : Str → Option Value} {K : PySem.W.Frag} {G : Hp} {θ : List Addr} {ρ : Rho} {σ : L2.St} (h : RepS mg K G θ ρ σ) (vs : List Nat) : RepS mg K G θ (wipeR ρ vs) (L2.wipe σ vs) := by
  refine ⟨by rw [(wipeR_get ρ 0 vs).1, wipe_length]; exact h.len, fun i d e => ?_⟩
  rw [(wipeR_get ρ i vs).2] at e
  by_cases hi : i ∈ vs ∧ i < ρ.length
  · rw [if_pos hi] at e; cases e
  · rw [if_neg hi] at e
    obtain ⟨v, h1, h2⟩ := h.at_ i d e
    refine ⟨v, ?_, h2⟩
    rw [wipe_get, if_neg (by rw [← h.len]; exact hi)]
    exact h1

/-! the new list hidden while it grows -/
section
variable {mg : Str → Option Value} {K : PySem.W.Frag} {η : List Addr} {H H1 H2 H' : Hp} {θ θ1 θ2 θ' : List Addr} {μ μ1 μ2 μ' : Store}
theorem hid_perm {S S' : List Addr} (h : ∀ p, p ∈ S ↔ p ∈ S') : hid H S = hid H S' := by
  funext p
  by_cases q : p ∈ S
  · rw [hid_in q, hid_in ((h p).mp q)]
  · rw [hid_out q, hid_out (fun z => q ((h p).mpr z))]
theorem StOk.hide (s : StOk mg K η H θ μ) {p : Addr} {o : HO} (hp : H p = none) (hpl : Plain o := by exact plain_lst) : StOk mg K (η ++ [p]) (upd H p o) θ μ ∧ Ext (hid H (θ ++ η)) (hid (upd H p o) (θ ++ (η ++ [p]))) := by
  have ne : ∀ b, H b ≠ none → b ≠ p := fun b q z => by rw [z] at q; exact q hp
  have e : Ext (hid H (θ ++ η)) (hid (upd H p o) (θ ++ (η ++ [p]))) := Ext.of fun b u q => by
    obtain ⟨q1, q2⟩ := hid_some q
    have nb := ne_of_none q2 hp
    rw [hid_out (fun z => ?_), upd_ne nb]
    · exact q2
    · rcases List.mem_append.mp z with z | z
      · exact q1 (List.mem_append_left _ z)
      · rcases List.mem_append.mp z with z | z
        · exact q1 (List.mem_append_right _ z)
        · exact nb (by simpa using z)
  refine ⟨⟨fun b q => ?_, s.len, s.nd, fun b hb q => ?_, fun n a o' h1 h2 => ?_, tabs_new s.tab hp, fun b q u e1 => ?_⟩, e⟩
  · rcases List.mem_append.mp q with q | q
    · rw [upd_ne (ne b (s.dom b q))]; exact s.dom b q
    · have : b = p := by simpa using q
      subst this; rw [upd_same]; simp
  · rcases List.mem_append.mp q with q | q
    · exact s.dj b hb q
    · have : b = p := by simpa using q
      subst this; exact s.fresh1 hp hb
  · exact (s.at_ n a o' h1 h2).ext e (upd_ne (ne a (s.tracked (List.mem_of_getElem? h1))))
  · rcases List.mem_append.mp q with q | q
    · exact s.pl b q u (by rw [← e1, upd_ne (ne b (s.dom b q))])
    · have : b = p := by simpa using q
      subst this; rw [upd_same] at e1; cases e1; exact hpl
theorem StOk.updHid (s : StOk mg K η H θ μ) {p : Addr} {o : HO} (hp : p ∈ η) (hpl : Plain o := by exact plain_lst) : StOk mg K η (upd H p o) θ μ ∧ hid (upd H p o) (θ ++ η) = hid H (θ ++ η) := by
  have e : hid (upd H p o) (θ ++ η) = hid H (θ ++ η) := by
    funext b
    by_cases hb : b ∈ θ ++ η
    · rw [hid_in hb, hid_in hb]
    · rw [hid_out hb, hid_out hb, upd_ne (fun z => hb (by rw [z]; exact List.mem_append_right _ hp))]
  refine ⟨⟨fun b q => ?_, s.len, s.nd, s.dj, fun n a o' h1 h2 => ?_, tabs_set s.tab (s.pl p hp), fun b q u e1 => ?_⟩, e⟩
  · by_cases hb : b = p
    · subst hb; rw [upd_same]; simp
    · rw [upd_ne hb]; exact s.dom b q
  · refine (s.at_ n a o' h1 h2).ext (by rw [e]; exact Ext.refl _) (upd_ne fun z => ?_)
    subst z
    exact s.dj _ (List.mem_of_getElem? h1) hp
  · by_cases hb : b = p
    · subst hb; rw [upd_same] at e1; cases e1; exact hpl
    · exact s.pl b q u (by rw [← e1, upd_ne hb])
def delH (H : Hp) (p : Addr) : Hp := fun b => if b = p then none else H b
theorem delH_upd {p : Addr} {o : HO} (h : H p = some o) : upd (delH H p) p o = H := by
  funext b
  by_cases hb : b = p
  · subst hb; rw [upd_same, h]
  · rw [upd_ne hb]; unfold delH; rw [if_neg hb]
theorem delH_ne {p b : Addr} (h : b ≠ p) : delH H p b = H b := by unfold delH; rw [if_neg h]
theorem StOk.unhide (s : StOk mg K (η ++ [p]) H θ μ) (hn : p ∉ η) : StOk mg K η (delH H p) θ μ ∧ hid H (θ ++ (η ++ [p])) = hid (delH H p) (θ ++ η) := by
  have e : hid H (θ ++ (η ++ [p])) = hid (delH H p) (θ ++ η) := by
    funext b
    by_cases hb : b = p
    · subst hb
      rw [hid_in (by simp)]
      unfold hid
      split
      · rfl
      · unfold delH; rw [if_pos rfl]
    · unfold hid
      rw [delH_ne hb]
      simp only [List.mem_append, List.mem_singleton, hb, or_false]
  have nep : ∀ b ∈ θ, b ≠ p := fun b hb z => s.dj b hb (by simp [z])
  refine ⟨⟨fun b q => ?_, s.len, s.nd, fun b hb q => s.dj b hb (List.mem_append_left _ q), fun n a o' h1 h2 => ?_, tabs_at s.tab (s.pl p (by simp)) fun b hb => delH_ne hb, fun b q u e1 => s.pl b (List.mem_append_left _ q) u (by rw [← e1, delH_ne (fun z => hn (by rw [← z]; exact q))])⟩, e⟩
  · rw [delH_ne (fun z => hn (by rw [← z]; exact q))]; exact s.dom b (List.mem_append_left _ q)
  · refine (s.at_ n a o' h1 h2).ext (by rw [e]; exact Ext.refl _) (delH_ne (nep a (List.mem_of_getElem? h1)))
end

section
variable {X : Cx} {W : WXD} {CX : CXT} {k : Nat}
/-- the state at a turn: the list at D0 so far -/
structure Gro (mg : Str → Option Value) (K : PySem.W.Frag) (η : List Addr) (D0 : Addr) (H1 : Hp) (θ1 : List Addr) (H : Hp) (θ : List Addr) (μ : Store) (acc : List D) : Prop where
  ok : StOk mg K (η ++ [D0]) H θ μ
  ext : Ext (hid H1 (θ1 ++ η)) (hid H (θ ++ (η ++ [D0])))
  pre : Pre θ1 θ
  fix : ∀ p ∈ η, H p = H1 p
  at_ : ∃ xs, H D0 = some (.lst xs) ∧ RepL mg K (hid H (θ ++ (η ++ [D0]))) acc xs
section
variable {mg : Str → Option Value} {K : PySem.W.Frag} {η : List Addr} {D0 : Addr} {H1 H H' : Hp} {θ1 θ θ' : List Addr} {μ μ' : Store} {acc : List D}
theorem Gro.start (s : StOk mg K η H1 θ1 μ) (hD : H1 D0 = none) : Gro mg K η D0 H1 θ1 (upd H1 D0 (.lst [])) θ1 μ [] :=
  ⟨(s.hide hD).1, (s.hide hD).2, Pre.refl _, fun p hp => upd_ne fun z => s.fresh2 hD (by rw [← z]; exact hp), [], upd_same, .nil⟩
theorem Gro.step (g : Gro mg K η D0 H1 θ1 H θ μ acc) (st : Step mg K (η ++ [D0]) H θ H' θ' μ') : Gro mg K η D0 H1 θ1 H' θ' μ' acc := by
  obtain ⟨xs, e, l⟩ := g.at_
  exact ⟨st.ok, g.ext.trans st.ext, g.pre.trans st.pre, fun p hp => (st.fix p (List.mem_append_left _ hp)).trans (g.fix p hp), xs, (st.fix D0 (by simp)).trans e, l.step st⟩
theorem Gro.push (g : Gro mg K η D0 H1 θ1 H θ μ acc) {y : D} {v : V} (r : Rep mg K (hid H (θ ++ (η ++ [D0]))) y v) (hn : D0 ∉ η) :
    ∃ xs, H D0 = some (.lst xs) ∧ xs.length = acc.length ∧ Gro mg K η D0 H1 θ1 (upd H D0 (.lst (xs ++ [v]))) θ μ (acc ++ [y]) ∧ hid (upd H D0 (.lst (xs ++ [v]))) (θ ++ (η ++ [D0])) = hid H (θ ++ (η ++ [D0])) := by
  obtain ⟨xs, e, l⟩ := g.at_
  obtain ⟨k1, k2⟩ := g.ok.updHid (o := .lst (xs ++ [v])) (p := D0) (by simp)
  refine ⟨xs, e, l.length.symm, ⟨k1, by rw [k2]; exact g.ext, g.pre, fun p hp => ?_, xs ++ [v], upd_same, ?_⟩, k2⟩
  · rw [upd_ne (fun z => hn (by rw [← z]; exact hp))]; exact g.fix p hp
  · rw [k2]; exact l.append (.cons r .nil)
theorem Gro.finish {E : XK} {Q : VK} {Hs : Hp} {θs : List Addr} {μ1 μe : Store} (g : Gro mg K η D0 H1 θ1 H θ μe acc) (st : Step mg K η Hs θs H1 θ1 μ1) (hn : D0 ∉ η) (h : FinL mg K E η Hs θs (.ok acc μe) Q) : Q (.ref D0) H := by
  obtain ⟨xs, e, l⟩ := g.at_
  obtain ⟨k1, k2⟩ := g.ok.unhide hn
  have q := h D0 (delH H D0) θ xs ⟨by rw [← k2]; exact st.ext.trans g.ext, st.pre.trans g.pre, fun p hp => ?_, k1⟩ (by unfold delH; rw [if_pos rfl]) (by rw [← k2]; exact l)
  · rw [delH_upd e] at q; exact q
  · rw [delH_ne (fun z => hn (by rw [← z]; exact hp))]; exact (g.fix p hp).trans (st.fix p hp)
end
theorem drop_cons {ds : List D} {i : Nat} {d : D} (hlt : i < ds.length) (hd : ds[i]? = some d) : ds.drop i = d :: ds.drop (i + 1) := by
  rw [List.drop_eq_getElem_cons hlt]
  congr 1
  exact Option.some.inj ((List.getElem?_eq_getElem hlt).symm.trans hd)
theorem lCap_ok {r : Res (List D)} {η : List Addr} {H : Hp} {θ : List Addr} {E : XK} {Q : VK} (h : FinL X.mg X.K E η H θ (lCap r) Q) : ∃ ys μ, r = .ok ys μ ∧ ys.length ≤ 16777216 ∧ FinL X.mg X.K E η H θ (.ok ys μ) Q := by
  unfold lCap at h
  split at h
  · split at h
    · exact ⟨_, _, rfl, by assumption, h⟩
    · exact h.elim
  · exact h.elim
/-- a turn of the (inner) loop: test, element, append -/
theorem lc_turn {vs vs0 : List Nat} {g : GF} {t : BF} {e : EF} {ρ : Rho} {σ : L2.St} {η : List Addr} {D0 : Addr} {H1 H : Hp} {θ1 θ : List Addr} {μ μe : Store} {acc : List D} {d : D} {rest ys tail : List D} {x : V} {Nx : Hp → Prop}
    (hv : ∀ i ∈ vs0, i ∈ vs) (hn : D0 ∉ η) (rs : RepS X.mg X.K (hid H (θ ++ (η ++ [D0]))) θ ρ σ) (gr : Gro X.mg X.K η D0 H1 θ1 H θ μ acc) (rd : Rep X.mg X.K (hid H (θ ++ (η ++ [D0]))) d x)
    (hl : lcL vs g t e ρ (d :: rest) μ = .ok ys μe) (hz : (acc ++ ys ++ tail).length ≤ 16777216)
    (k : ∀ H' θ' μ acc' ys', Gro X.mg X.K η D0 H1 θ1 H' θ' μ acc' → lcL vs g t e ρ rest μ = .ok ys' μe → acc' ++ ys' = acc ++ ys → Pre θ θ' → Ext (hid H (θ ++ (η ++ [D0]))) (hid H' (θ' ++ (η ++ [D0]))) → Nx H') :
    tG X.mg X.K g vs0 x (wipe σ vs) H fun σ2 H2 => wipe σ2 vs = wipe σ vs ∧ tBD X.mg X.K W0 t σ2 H2 fun b H3 =>
      if b = true then tD X.mg X.K W0 e σ2 H3 fun y H4 => ∃ acc, H4 D0 = some (.lst acc) ∧ acc.length < sizeLine ∧ Nx (upd H4 D0 (.lst (acc ++ [y]))) else Nx H3 := by
  simp only [lcL] at hl
  split at hl
  · cases hl
  · rename_i ρ1 eg
    refine ⟨_, θ, μ, wipeR ρ vs, .d d, ρ1, gr.ok, rs.wipe vs, .d rd, eg, fun σ2 rs2 but => ⟨wipe_but (but.mono hv), _, θ, μ, ρ1, gr.ok, rs2, ?_⟩⟩
    split at hl
    · rename_i μ1 et
      rw [et]
      intro b' H3 θ3 st3 eb
      subst eb
      rw [if_pos rfl]
      refine ⟨_, θ3, μ1, ρ1, st3.ok, rs2.step st3, ?_⟩
      split at hl
      · rename_i y μ2 ee
        rw [ee]
        intro vy H4 θ4 st4 ry
        cases ry with
        | d ry =>
          split at hl
          · rename_i ys' μ3 er
            cases hl
            obtain ⟨xs, h1, h2, g4, h5⟩ := ((gr.step st3).step st4).push ry hn
            refine ⟨xs, h1, ?_, k _ _ _ _ ys' g4 er (by simp) (st3.pre.trans st4.pre) (by rw [h5]; exact st3.ext.trans st4.ext)⟩
            rw [sizeLine_eq, h2]
            simp at hz
            omega
          · cases hl
      · cases hl
    · rename_i μ1 et
      rw [et]
      intro b' H3 θ3 st3 eb
      subst eb
      rw [if_neg (by decide)]
      exact k _ _ _ _ ys (gr.step st3) hl rfl st3.pre st3.ext
    · cases hl
theorem lc_read {src : LF} {vs vs0 : List Nat} {g : GF} {t : BF} {e : EF} (hv : ∀ i ∈ vs0, i ∈ vs) (σ : L2.St) (H : Hp) (Q : VK) (h : tL X.mg X.K W (lLc vs src g t e) σ H Q) : tLc (tI X.mg X.K W src) (tG X.mg X.K g vs0) (tBD X.mg X.K W0 t) (tD X.mg X.K W0 e) vs σ H Q := by
  obtain ⟨η, θ, μ, ρ, ok, rs, fin⟩ := h
  refine ⟨η, θ, μ, ρ, ok, rs, ?_⟩
  unfold lLc at fin
  cases es : src ρ μ with
  | ex x μ' => rw [es] at fin; exact fin
  | no => rw [es] at fin; exact fin
  | ok ds μ1 =>
    rw [es] at fin
    intro J H1 θ1 st it D0 hD
    obtain ⟨tot, μe, el, hz, fin⟩ := lCap_ok fin
    have hn : D0 ∉ η := st.ok.fresh2 hD
    refine ⟨fun i m H => m = ds.length - i ∧ i ≤ ds.length ∧ ∃ θ μ acc ys, Gro X.mg X.K η D0 H1 θ1 H θ μ acc ∧ lcL vs g t e ρ (ds.drop i) μ = .ok ys μe ∧ tot = acc ++ ys,
      ⟨ds.length, by simp, Nat.zero_le _, θ1, μ1, [], tot, Gro.start st.ok hD, by rw [List.drop_zero]; exact el, rfl⟩, ?_⟩
    rintro i m H2 ⟨rfl, hi, θ2, μ2, acc, ys, gr, hl, ht⟩
    by_cases hlt : i < ds.length
    · refine .inr ⟨it.goes i H2 _ hlt gr.ext, fun H => i + 1 ≤ ds.length ∧ ∃ θ μ acc ys, Gro X.mg X.K η D0 H1 θ1 H θ μ acc ∧ lcL vs g t e ρ (ds.drop (i + 1)) μ = .ok ys μe ∧ tot = acc ++ ys, fun H' hN => ⟨ds.length - (i + 1), by omega, rfl, hN.1, hN.2⟩, fun x H3 y => ?_⟩
      obtain ⟨sm, d, hd, rd⟩ := it.yields i H2 x H3 _ hlt gr.ext gr.ok.trk y
      have g3 := gr.step (gr.ok.same sm)
      rw [drop_cons hlt hd] at hl
      exact lc_turn (tail := []) hv hn ((rs.step st).ext g3.ext g3.pre) g3 rd hl (by rw [List.append_nil, ← ht]; exact hz) fun H θ μ acc' ys' gr' hl' e' _ _ => ⟨hlt, θ, μ, acc', ys', gr', hl', by rw [e', ht]⟩
    · have e : i = ds.length := by omega
      subst e
      rw [List.drop_length] at hl
      cases hl
      rw [List.append_nil] at ht
      subst ht
      exact .inl ⟨it.stops H2 _ gr.ext, gr.finish st hn fin⟩
theorem lc2_read {src src1 : LF} {vs vs1 vs0 vs10 : List Nat} {g g1 : GF} {t t1 : BF} {e : EF} (hv : ∀ i ∈ vs0, i ∈ vs) (hv1 : ∀ i ∈ vs10, i ∈ vs1) (σ : L2.St) (H : Hp) (Q : VK) (h : tL X.mg X.K W (lLc2 vs vs1 src g t src1 g1 t1 e) σ H Q) :
    tLc2 (tI X.mg X.K W src) (tG X.mg X.K g vs0) (tBD X.mg X.K W0 t) (tI X.mg X.K W0 src1) (tG X.mg X.K g1 vs10) (tBD X.mg X.K W0 t1) (tD X.mg X.K W0 e) vs vs1 σ H Q := by
  obtain ⟨η, θ, μ, ρ, ok, rs, fin⟩ := h
  refine ⟨η, θ, μ, ρ, ok, rs, ?_⟩
  unfold lLc2 at fin
  cases es : src ρ μ with
  | ex x μ' => rw [es] at fin; exact fin
  | no => rw [es] at fin; exact fin
  | ok ds μ1 =>
    rw [es] at fin
    intro J H1 θ1 st it D0 hD
    obtain ⟨tot, μe, el, hz, fin⟩ := lCap_ok fin
    have hn : D0 ∉ η := st.ok.fresh2 hD
    refine ⟨fun i m H => m = ds.length - i ∧ i ≤ ds.length ∧ ∃ θ μ acc ys, Gro X.mg X.K η D0 H1 θ1 H θ μ acc ∧ lc2L vs vs1 g t src1 g1 t1 e ρ (ds.drop i) μ = .ok ys μe ∧ tot = acc ++ ys,
      ⟨ds.length, by simp, Nat.zero_le _, θ1, μ1, [], tot, Gro.start st.ok hD, by rw [List.drop_zero]; exact el, rfl⟩, ?_⟩
    rintro i m H2 ⟨rfl, hi, θ2, μ2, acc, ys, gr, hl, ht⟩
    by_cases hlt : i < ds.length
    · refine .inr ⟨it.goes i H2 _ hlt gr.ext, fun H => i + 1 ≤ ds.length ∧ ∃ θ μ acc ys, Gro X.mg X.K η D0 H1 θ1 H θ μ acc ∧ lc2L vs vs1 g t src1 g1 t1 e ρ (ds.drop (i + 1)) μ = .ok ys μe ∧ tot = acc ++ ys, fun H' hN => ⟨ds.length - (i + 1), by omega, rfl, hN.1, hN.2⟩, fun x H3 y => ?_⟩
      obtain ⟨sm, d, hd, rd⟩ := it.yields i H2 x H3 _ hlt gr.ext gr.ok.trk y
      have g3 := gr.step (gr.ok.same sm)
      have rs3 := (rs.step st).ext g3.ext g3.pre
      rw [drop_cons hlt hd] at hl
      simp only [lc2L] at hl
      split at hl
      · cases hl
      · rename_i ρ1 eg
        refine ⟨_, θ2, μ2, wipeR ρ vs, .d d, ρ1, g3.ok, rs3.wipe vs, .d rd, eg, fun σ2 rs2 but => ⟨wipe_but (but.mono hv), _, θ2, μ2, ρ1, g3.ok, rs2, ?_⟩⟩
        split at hl
        · rename_i μ4 et
          rw [et]
          intro b' H4 θ4 st4 eb
          subst eb
          rw [if_pos rfl]
          refine ⟨_, θ4, μ4, ρ1, st4.ok, rs2.step st4, ?_⟩
          split at hl
          · rename_i ds1 μ5 es1
            rw [es1]
            intro J1 H5 θ5 st5 it1
            have g5 := (g3.step st4).step st5
            have rs5 := (rs2.step st4).step st5
            split at hl
            · rename_i ys1 μ6 el1
              split at hl
              · rename_i zs μ7 el2
                cases hl
                refine ⟨fun j m H => m = ds1.length - j ∧ j ≤ ds1.length ∧ ∃ θ μ acc ys, Gro X.mg X.K η D0 H1 θ1 H θ μ acc ∧ Pre θ5 θ ∧ Ext (hid H5 (θ5 ++ (η ++ [D0]))) (hid H (θ ++ (η ++ [D0]))) ∧ lcL vs1 g1 t1 e ρ1 (ds1.drop j) μ = .ok ys μ6 ∧ tot = acc ++ ys ++ zs,
                  ⟨ds1.length, by simp, Nat.zero_le _, θ5, μ5, acc, ys1, g5, Pre.refl _, Ext.refl _, by rw [List.drop_zero]; exact el1, by rw [ht, List.append_assoc]⟩, ?_⟩
                rintro j m' H6 ⟨rfl, hj, θ6, μ8, acc6, ys6, g6, p6, x6, hl6, ht6⟩
                by_cases hlt6 : j < ds1.length
                · refine .inr ⟨it1.goes j H6 _ hlt6 x6, fun H => j + 1 ≤ ds1.length ∧ ∃ θ μ acc ys, Gro X.mg X.K η D0 H1 θ1 H θ μ acc ∧ Pre θ5 θ ∧ Ext (hid H5 (θ5 ++ (η ++ [D0]))) (hid H (θ ++ (η ++ [D0]))) ∧ lcL vs1 g1 t1 e ρ1 (ds1.drop (j + 1)) μ = .ok ys μ6 ∧ tot = acc ++ ys ++ zs, fun H' hN => ⟨ds1.length - (j + 1), by omega, rfl, hN.1, hN.2⟩, fun x7 H7 y7 => ?_⟩
                  obtain ⟨sm7, d7, hd7, rd7⟩ := it1.yields j H6 x7 H7 _ hlt6 x6 g6.ok.trk y7
                  have st7 := g6.ok.same sm7
                  have g7 := g6.step st7
                  have x8 := x6.trans st7.ext
                  rw [drop_cons hlt6 hd7] at hl6
                  exact lc_turn (tail := zs) hv1 hn (rs5.ext x8 p6) g7 rd7 hl6 (by rw [← ht6]; exact hz) fun H θ μ acc' ys' gr' hl' e' p' x' => ⟨hlt6, θ, μ, acc', ys', gr', p6.trans p', x8.trans x', hl', by rw [e', ht6]⟩
                · have e : j = ds1.length := by omega
                  subst e
                  rw [List.drop_length] at hl6
                  cases hl6
                  exact .inl ⟨it1.stops H6 _ x6, hlt, θ6, μ6, acc6, zs, g6, el2, by rw [ht6]; simp⟩
              · cases hl
            · cases hl
          · cases hl
        · rename_i μ4 et
          rw [et]
          intro b' H4 θ4 st4 eb
          subst eb
          rw [if_neg (by decide)]
          exact ⟨hlt, θ4, μ4, acc, ys, g3.step st4, hl, ht⟩
        · cases hl
    · have e : i = ds.length := by omega
      subst e
      rw [List.drop_length] at hl
      cases hl
      rw [List.append_nil] at ht
      subst ht
      exact .inl ⟨it.stops H2 _ gr.ext, gr.finish st hn fin⟩
def PTsd (X : Cx) (W : WXD) (ifs : List Expr) (f : BF) : Prop := PTs X ifs (tBD X.mg X.K W f)
theorem PTs.imp {e : List Expr} {t t' : TT} (h : PTs X e t) (k : ∀ σ H Q, t' σ H Q → t σ H Q) : PTs X e t' := ⟨fun pins s σ H Q I q => h.run pins s σ H Q I (k σ H Q q)⟩
theorem ptsd_nil : PTsd X W [] bYes := by
  refine PTs.imp pts_nil fun σ H Q h => ?_
  obtain ⟨η, θ, μ, ρ, ok, rs, fin⟩ := h
  exact fin.done (Step.refl ok) rfl
theorem ptsd_one {c : Expr} {f : BF} (h : PBd X W c f) : PTsd X W [c] f := pts_one h
theorem pl_lc {elt tg iter : Expr} {ifs : List Expr} {scope : Scope} {own : List (Str × Nat)} {pos : Pos} {src : LF} {g : GF} {vs0 : List Nat} {t : BF} {e : EF} (C : Cxb X CX W k) (hi : PId X W tg iter src) (ok : BlkOk X.N X.env.scope scope own)
    (hg : ∀ (s : Shared) (H : Hp) (A : Addr) (cl : List (Str × Addr)) (fp : List Addr), PGd (X.blk s H scope (compEnvC scope cl A X.env) fp) tg g vs0)
    (ht : ∀ (s : Shared) (H : Hp) (A : Addr) (cl : List (Str × Addr)) (fp : List Addr), PTsd (X.blk s H scope (compEnvC scope cl A X.env) fp) W0 ifs t)
    (he : ∀ (s : Shared) (H : Hp) (A : Addr) (cl : List (Str × Addr)) (fp : List Addr), PEd (X.blk s H scope (compEnvC scope cl A X.env) fp) W0 elt e)
    (hv : ∀ i ∈ vs0, i ∈ own.map (·.2) := by decide) (hs : ∀ x, foldedSetIterable iter X.env x = pure x := by intro _; rfl) : PLd X W (.ListComp elt [⟨tg, iter, ifs, 0⟩] scope pos) (lLc (own.map (·.2)) src g t e) :=
  PE.imp (pe_lc (wi := tI X.mg X.K W src) (g := tG X.mg X.K g vs0) (tt := tBD X.mg X.K W0 t) (te := tD X.mg X.K W0 e) C.calm C.nd hi ok hg ht he hs) (lc_read hv)
theorem pl_lc2 {elt tg iter tg1 iter1 : Expr} {ifs ifs1 : List Expr} {scope : Scope} {own : List (Str × Nat)} {vs1 : List Nat} {pos : Pos} {src src1 : LF} {g g1 : GF} {vs0 vs10 : List Nat} {t t1 : BF} {e : EF} (C : Cxb X CX W k) (hi : PId X W tg iter src) (ok : BlkOk X.N X.env.scope scope own)
    (hg : ∀ (s : Shared) (H : Hp) (A : Addr) (cl : List (Str × Addr)) (fp : List Addr), PGd (X.blk s H scope (compEnvC scope cl A X.env) fp) tg g vs0)
    (ht : ∀ (s : Shared) (H : Hp) (A : Addr) (cl : List (Str × Addr)) (fp : List Addr), PTsd (X.blk s H scope (compEnvC scope cl A X.env) fp) W0 ifs t)
    (hi1 : ∀ (s : Shared) (H : Hp) (A : Addr) (cl : List (Str × Addr)) (fp : List Addr), PId (X.blk s H scope (compEnvC scope cl A X.env) fp) W0 tg1 iter1 src1)
    (hg1 : ∀ (s : Shared) (H : Hp) (A : Addr) (cl : List (Str × Addr)) (fp : List Addr), PGd (X.blk s H scope (compEnvC scope cl A X.env) fp) tg1 g1 vs10)
    (ht1 : ∀ (s : Shared) (H : Hp) (A : Addr) (cl : List (Str × Addr)) (fp : List Addr), PTsd (X.blk s H scope (compEnvC scope cl A X.env) fp) W0 ifs1 t1)
    (he : ∀ (s : Shared) (H : Hp) (A : Addr) (cl : List (Str × Addr)) (fp : List Addr), PEd (X.blk s H scope (compEnvC scope cl A X.env) fp) W0 elt e)
    (hvv : ∀ i ∈ vs1, i ∈ own.map (·.2) := by decide) (hv : ∀ i ∈ vs0, i ∈ own.map (·.2) := by decide) (hv1 : ∀ i ∈ vs10, i ∈ vs1 := by decide) (hs : ∀ x, foldedSetIterable iter X.env x = pure x := by intro _; rfl) (hs1 : ∀ env x, foldedSetIterable iter1 env x = pure x := by intro _ _; rfl) :
    PLd X W (.ListComp elt [⟨tg, iter, ifs, 0⟩, ⟨tg1, iter1, ifs1, 0⟩] scope pos) (lLc2 (own.map (·.2)) vs1 src g t src1 g1 t1 e) :=
  PE.imp (pe_lc2 (wi := tI X.mg X.K W src) (g := tG X.mg X.K g vs0) (tt := tBD X.mg X.K W0 t) (wi1 := tI X.mg X.K W0 src1) (g1 := tG X.mg X.K g1 vs10) (tt1 := tBD X.mg X.K W0 t1) (te := tD X.mg X.K W0 e) C.calm C.nd hi ok hvv hg ht hi1 hg1 ht1 he hs hs1) (lc2_read hv hv1)
theorem asgN_read {f : EF} {t : TE} {i : Nat} (h : ∀ σ H Q, tD X.mg X.K W f σ H Q → t σ H Q) (Dn : Ends) (σ : L2.St) (H : Hp) (hh : tSD X.mg X.K W (sAsg f (gN i)) Dn σ H) : tAsg t (gName i) Dn σ H := by
  obtain ⟨η, θ, μ, ρ, ok, rs, fin⟩ := hh
  refine h σ H _ ⟨η, θ, μ, ρ, ok, rs, Fin.andThenS fin rs fun s μ1 v H1 θ1 _ st r f1 => ?_⟩
  exact f1 _ _ _ (Step.refl st.ok) ((rs.step st).set r)
/-- name = [..] -/
theorem sd_setLc {elt tg iter : Expr} {ifs : List Expr} {scope : Scope} {own : List (Str × Nat)} {pos spos py : Pos} {y : Str} {src : LF} {g : GF} {vs0 : List Nat} {t : BF} {e : EF} {F : LF → EF} (C : Cxb X CX W k) (i : Nat) (hi : PId X W tg iter src) (ok : BlkOk X.N X.env.scope scope own)
    (hg : ∀ (s : Shared) (H : Hp) (A : Addr) (cl : List (Str × Addr)) (fp : List Addr), PGd (X.blk s H scope (compEnvC scope cl A X.env) fp) tg g vs0)
    (ht : ∀ (s : Shared) (H : Hp) (A : Addr) (cl : List (Str × Addr)) (fp : List Addr), PTsd (X.blk s H scope (compEnvC scope cl A X.env) fp) W0 ifs t)
    (he : ∀ (s : Shared) (H : Hp) (A : Addr) (cl : List (Str × Addr)) (fp : List Addr), PEd (X.blk s H scope (compEnvC scope cl A X.env) fp) W0 elt e)
    (hF : ∀ (f : LF) σ H Q, tD X.mg X.K W (F f) σ H Q → tL X.mg X.K W f σ H Q)
    (hy : X.N[i]? = some y := by rfl) (hyl : X.env.scope.names.lookup y = some .local := by rfl) (hsw : swapsWith (.ListComp elt [⟨tg, iter, ifs, 0⟩] scope pos) (some (.Name y py)) spos.line X.env = pure true := by exact sw_true rfl rfl rfl (by decide +kernel))
    (hv : ∀ i ∈ vs0, i ∈ own.map (·.2) := by decide) (hs : ∀ x, foldedSetIterable iter X.env x = pure x := by intro _; rfl) : PSd X W (.Assign [.Name y py] (.ListComp elt [⟨tg, iter, ifs, 0⟩] scope pos) spos) (sAsg (F (lLc (own.map (·.2)) src g t e)) (gN i)) :=
  PS.imp (ps_setLc (wi := tI X.mg X.K W src) (g := tG X.mg X.K g vs0) (tt := tBD X.mg X.K W0 t) (te := tD X.mg X.K W0 e) C.calm C.nd hy hyl hsw hi ok hg ht he hs) (asgN_read fun σ H Q h => lc_read hv σ H Q (hF _ σ H Q h))
theorem sd_setLc2 {elt tg iter tg1 iter1 : Expr} {ifs ifs1 : List Expr} {scope : Scope} {own : List (Str × Nat)} {vs1 : List Nat} {pos spos py : Pos} {y : Str} {src src1 : LF} {g g1 : GF} {vs0 vs10 : List Nat} {t t1 : BF} {e : EF} {F : LF → EF} (C : Cxb X CX W k) (i : Nat) (hi : PId X W tg iter src) (ok : BlkOk X.N X.env.scope scope own)
    (hg : ∀ (s : Shared) (H : Hp) (A : Addr) (cl : List (Str × Addr)) (fp : List Addr), PGd (X.blk s H scope (compEnvC scope cl A X.env) fp) tg g vs0)
    (ht : ∀ (s : Shared) (H : Hp) (A : Addr) (cl : List (Str × Addr)) (fp : List Addr), PTsd (X.blk s H scope (compEnvC scope cl A X.env) fp) W0 ifs t)
    (hi1 : ∀ (s : Shared) (H : Hp) (A : Addr) (cl : List (Str × Addr)) (fp : List Addr), PId (X.blk s H scope (compEnvC scope cl A X.env) fp) W0 tg1 iter1 src1)
    (hg1 : ∀ (s : Shared) (H : Hp) (A : Addr) (cl : List (Str × Addr)) (fp : List Addr), PGd (X.blk s H scope (compEnvC scope cl A X.env) fp) tg1 g1 vs10)
    (ht1 : ∀ (s : Shared) (H : Hp) (A : Addr) (cl : List (Str × Addr)) (fp : List Addr), PTsd (X.blk s H scope (compEnvC scope cl A X.env) fp) W0 ifs1 t1)
    (he : ∀ (s : Shared) (H : Hp) (A : Addr) (cl : List (Str × Addr)) (fp : List Addr), PEd (X.blk s H scope (compEnvC scope cl A X.env) fp) W0 elt e)
    (hF : ∀ (f : LF) σ H Q, tD X.mg X.K W (F f) σ H Q → tL X.mg X.K W f σ H Q)
    (hy : X.N[i]? = some y := by rfl) (hyl : X.env.scope.names.lookup y = some .local := by rfl) (hsw : swapsWith (.ListComp elt [⟨tg, iter, ifs, 0⟩, ⟨tg1, iter1, ifs1, 0⟩] scope pos) (some (.Name y py)) spos.line X.env = pure true := by exact sw_true rfl rfl rfl (by decide +kernel))
    (hvv : ∀ i ∈ vs1, i ∈ own.map (·.2) := by decide) (hv : ∀ i ∈ vs0, i ∈ own.map (·.2) := by decide) (hv1 : ∀ i ∈ vs10, i ∈ vs1 := by decide) (hs : ∀ x, foldedSetIterable iter X.env x = pure x := by intro _; rfl) (hs1 : ∀ env x, foldedSetIterable iter1 env x = pure x := by intro _ _; rfl) :
    PSd X W (.Assign [.Name y py] (.ListComp elt [⟨tg, iter, ifs, 0⟩, ⟨tg1, iter1, ifs1, 0⟩] scope pos) spos) (sAsg (F (lLc2 (own.map (·.2)) vs1 src g t src1 g1 t1 e)) (gN i)) :=
  PS.imp (ps_setLc2 (wi := tI X.mg X.K W src) (g := tG X.mg X.K g vs0) (tt := tBD X.mg X.K W0 t) (wi1 := tI X.mg X.K W0 src1) (g1 := tG X.mg X.K g1 vs10) (tt1 := tBD X.mg X.K W0 t1) (te := tD X.mg X.K W0 e) C.calm C.nd hy hyl hsw hi ok hvv hg ht hi1 hg1 ht1 he hs hs1) (asgN_read fun σ H Q h => lc2_read hv hv1 σ H Q (hF _ σ H Q h))
end

/-! ### defs -/
inductive PR where
  | ok (d : D) | ex (x : Exn) | no
def PR.res (r : PR) (μ : Store) : Res Sl := match r with
  | .ok d => .ok (.d d) μ
  | .ex x => .ex x μ
  | .no => .no
abbrev PF := List D → PR
/-- the promise of a def of data alone -/
def spP (mg : Str → Option Value) (K : PySem.W.Frag) (n : Nat) (f : PF) : Sp := fun vs H Q E => vs.length = n ∧ ∃ η ds, StOk mg K η H [] [] ∧ RepL mg K (hid H η) ds vs ∧ Fin mg K E η H [] (RepSl mg K) ((f ds).res []) Q
/-- a def that changes mutable objects which it is handed, or hands a new one back -/
abbrev MF := List Sl → Store → Res Sl
def spM (mg : Str → Option Value) (K : PySem.W.Frag) (n : Nat) (f : MF) : Sp := fun vs H Q E => vs.length = n ∧ ∃ η θ μ ss, StOk mg K η H θ μ ∧ RepA mg K (hid H (θ ++ η)) θ ss vs ∧ Fin mg K E η H θ (RepSl mg K) (f ss μ) Q
def rho0 (nl : Nat) (ss : List Sl) : Rho := ss.map some ++ List.replicate nl none
/-- a def whose errors never leave it -/
def fnP (nl : Nat) (body : SF) : PF := fun ds => match body (rho0 nl (ds.map Sl.d)) [] with
  | .rt s μ => match dr μ s with
    | some d => .ok d
    | none => .no
  | .nx _ _ => .ok .non
  | _ => .no
def fnM (nl : Nat) (body : SF) : MF := fun ss μ => match body (rho0 nl ss) μ with
  | .rt s μ' => .ok s μ'
  | .nx _ μ' => .ok (.d .non) μ'
  | _ => .no
theorem rep0 {mg : Str → Option Value} {K : PySem.W.Frag} {G : Hp} {θ : List Addr} {N : List Str} {ss : List Sl} {vs : List V} (l : RepA mg K G θ ss vs) : RepS mg K G θ (rho0 (N.length - vs.length) ss) (L2.start N vs) := by
  unfold rho0 L2.start
  refine ⟨by simp [l.length], fun i d e => ?_⟩
  by_cases hi : i < ss.length
  · rw [List.getElem?_append_left (by simpa using hi), List.getElem?_map] at e
    obtain ⟨s, h1, h2⟩ := Option.map_eq_some_iff.mp e
    cases h2
    obtain ⟨v, h3, h4⟩ := l.get i h1
    exact ⟨v, by rw [List.getElem?_append_left (by rw [List.length_map, ← l.length]; exact hi), List.getElem?_map, h3]; rfl, h4⟩
  · rw [List.getElem?_append_right (by simpa using hi), List.getElem?_replicate] at e
    split at e <;> cases e
section
variable {mg : Str → Option Value} {K : PySem.W.Frag} {η : List Addr} {H H' : Hp} {θ θ' : List Addr} {μ μ' : Store}
theorem Ext.drop : Ext (hid H (θ ++ η)) (hid H η) := Ext.of fun p o e => by
  obtain ⟨e1, e2⟩ := hid_some e
  rw [hid_out (fun z => e1 (List.mem_append_right _ z))]; exact e2
theorem StOk.bare (h : ∀ p ∈ η, H p ≠ none) (t : LamX.Tabs TabCtx.T H) (pl : ∀ p ∈ η, ∀ o, H p = some o → Plain o) : StOk mg K η H [] [] := ⟨h, rfl, List.Pairwise.nil, (fun _ h => by cases h), (fun n a o h => by simp at h), t, pl⟩
/-- the store forgotten -/
theorem Step.forget (st : Step mg K η H [] H' θ' μ') : Step mg K η H [] H' [] [] := ⟨st.ext.trans Ext.drop, Pre.refl _, st.fix, StOk.bare st.ok.dom st.ok.tab st.ok.pl⟩
theorem Step.only (st : Step mg K η H [] H' θ' []) : θ' = [] := by
  have := st.ok.len
  cases θ' with
  | nil => rfl
  | cons a r => simp at this
/-- a call that doesn't see the store -/
theorem Step.frame (s : StOk mg K η H θ μ) (st : Step mg K (θ ++ η) H [] H' [] []) : Step mg K η H θ H' θ μ :=
  ⟨st.ext, Pre.refl _, fun p hp => st.fix p (List.mem_append_right _ hp), ⟨fun p hp => by rw [st.fix p (List.mem_append_right _ hp)]; exact s.dom p hp, s.len, s.nd, s.dj, fun n a o h1 h2 => (s.at_ n a o h1 h2).ext st.ext (st.fix a (List.mem_append_left _ (List.mem_of_getElem? h1))), st.ok.tab, fun p hp => st.ok.pl p (List.mem_append_right _ hp)⟩⟩
theorem dr_free (s : StOk mg K η H θ μ) {x : Sl} {v : V} {d : D} (r : RepSl mg K (hid H (θ ++ η)) θ x v) (e : dr μ x = some d) : Rep mg K (hid H η) d v := by
  cases r with
  | d r => cases e; exact r.ext Ext.drop
  | ob h =>
    obtain ⟨o, h1, h2⟩ := s.lookup h
    simp only [dr, h1] at e
    cases o with
    | lst ds =>
      cases e
      obtain ⟨xs, e1, l⟩ := h2
      exact .lst (by rw [hid_out (s.dj _ (List.mem_of_getElem? h))]; exact e1) (l.ext Ext.drop)
    | ins c fs => cases e
  | clo _ _ => cases e
end
theorem fnP_read {mg : Str → Option Value} {K : PySem.W.Frag} {n : Nat} {N : List Str} {body : SF} {vs : List V} {H : Hp} {Q : VK} {E : XK} (h : spP mg K n (fnP (N.length - n) body) vs H Q E) :
    tSD mg K W0 body { nx := fun _ H' => Q .non H', rt := Q } (L2.start N vs) H := by
  obtain ⟨hn, η, ds, ok, l, fin⟩ := h
  subst hn
  refine ⟨η, [], [], rho0 (N.length - vs.length) (ds.map Sl.d), ok, rep0 l.toA, ?_⟩
  unfold fnP at fin
  split at fin
  · rename_i s μ e
    rw [e]
    split at fin
    · rename_i d ed
      intro v H' θ' st r
      exact fin v H' [] st.forget (.d (dr_free st.ok r ed))
    · exact fin.elim
  · rename_i e
    rw [e]
    intro v H' θ' st r
    exact fin _ H' [] st.forget (.d .non)
  · exact fin.elim
theorem fnM_read {mg : Str → Option Value} {K : PySem.W.Frag} {n : Nat} {N : List Str} {body : SF} {vs : List V} {H : Hp} {Q : VK} {E : XK} (h : spM mg K n (fnM (N.length - n) body) vs H Q E) :
    tSD mg K W0 body { nx := fun _ H' => Q .non H', rt := Q } (L2.start N vs) H := by
  obtain ⟨hn, η, θ, μ, ss, ok, l, fin⟩ := h
  subst hn
  refine ⟨η, θ, μ, rho0 (N.length - vs.length) ss, ok, rep0 l, ?_⟩
  unfold fnM at fin
  split at fin
  · rename_i s μ e
    rw [e]
    exact fun v H' θ' st r => fin v H' θ' st r
  · rename_i e
    rw [e]
    exact fun v H' θ' st r => fin _ H' θ' st (.d .non)
  · exact fin.elim
section
variable {P : Program} {w : World} {K : PySem.W.Frag} {mg : Str → Option Value} {base : Heap}
theorem sil0 : ∀ (Y : Cx) (σ : L2.St), PassesAt CX0 Y σ (fun _ _ _ => False) := fun _ _ _ _ _ _ _ _ h => h.elim
theorem cxt0 {N ps : List Str} {qual : Str} {sc : Scope} {f : Addr} {cdv : Value} {A : Around} {outer : List Env} {s : Shared} {H : Hp} {E : XK} {k : Nat} (S : FnScope N ps sc) (hr : Room k (A.deeper (envOfC qual sc s.heap.objs.size f cdv))) :
    Cxt (cxOf CX0 P w K mg base N qual sc f cdv A outer s H E).nox CX0 W0 k :=
  ⟨⟨rfl, S.nd, fun σ => sil0 _ σ, hr, fun Y σ _ _ => sil0 Y σ⟩, PassesOwn.never⟩
theorem fn_okP {x qual : Str} {st : Stmt} {f : Addr} {fd : FuncData} {N ps : List Str} {k n : Nat} {body : SF} (F : Fun K x qual st f fd) (S : FnScope N ps (defScope st)) (hn : n = ps.length)
    (hb : ∀ (cdv : Value) (A : Around) (outer : List Env) (s : Shared) (H : Hp) (E : XK), Cxt (cxOf CX0 P w K mg base N qual (defScope st) f cdv A outer s H E).nox CX0 W0 k → PSsd (cxOf CX0 P w K mg base N qual (defScope st) f cdv A outer s H E).nox W0 (defBody st) body) :
    FnOk P w K mg base CX0 (k + 1) f fd ps (spP mg K n (fnP (N.length - n) body)) :=
  F.ok S (fun vs H Q E h => h.1.trans hn) fun cdv A outer s H vs Q E hr h => ⟨_, hb cdv A outer s H E (cxt0 S hr), fnP_read h⟩
theorem fn_okM {x qual : Str} {st : Stmt} {f : Addr} {fd : FuncData} {N ps : List Str} {k n : Nat} {body : SF} (F : Fun K x qual st f fd) (S : FnScope N ps (defScope st)) (hn : n = ps.length)
    (hb : ∀ (cdv : Value) (A : Around) (outer : List Env) (s : Shared) (H : Hp) (E : XK), Cxt (cxOf CX0 P w K mg base N qual (defScope st) f cdv A outer s H E).nox CX0 W0 k → PSsd (cxOf CX0 P w K mg base N qual (defScope st) f cdv A outer s H E).nox W0 (defBody st) body) :
    FnOk P w K mg base CX0 (k + 1) f fd ps (spM mg K n (fnM (N.length - n) body)) :=
  F.ok S (fun vs H Q E h => h.1.trans hn) fun cdv A outer s H vs Q E hr h => ⟨_, hb cdv A outer s H E (cxt0 S hr), fnM_read h⟩
end
theorem Cxb.blk {X : Cx} {CX : CXT} {W : WXD} {k : Nat} (C : Cxb X CX W k) {s : Shared} {H : Hp} {sc : Scope} {ce : Env} {fp : List Addr} : Cxb (X.blk s H sc ce fp) CX W0 k :=
  ⟨C.calm, C.nd, fun σ => C.sil _ σ rfl rfl, C.room, fun Y σ h1 h2 => C.sil Y σ h1 h2⟩
/-- a def of the text as it stands behind the top -/
structure DefOk (mg : Str → Option Value) (K : PySem.W.Frag) (x : Str) (st : Stmt) (ps : List Str) where
  f : Addr
  fd : FuncData
  F : Fun K x x st f fd
  g : mg x = some (.ref f)
  b : Binds K fd ps []
  bt : ∀ us : List Value, us.length = ps.length → bindArgs fd ⟨us, []⟩ = pure (ps.zip us)
theorem Cxt.b {X : Cx} {CX : CXT} {W : WXD} {k : Nat} (C : Cxt X CX W k) : Cxb X CX W k := C.toCxb

/-! calls -/
def eCall (n : Nat) (g : PF) (fa : AF) : EF := fun ρ μ => (fa ρ μ).bind fun ss μ1 => match dsOf ss with
  | some ds => if ds.length = n then (g ds).res μ1 else .no
  | none => .no
def eCall0 (g : PF) : EF := fun _ μ => (g []).res μ
/-- a def that sees the whole store -/
def eCallM (n : Nat) (g : MF) (fa : AF) : EF := fun ρ μ => (fa ρ μ).bind fun ss μ1 => if ss.length = n then g ss μ1 else .no
section
variable {X : Cx} {W : WXD} {CX : CXT} {k j n : Nat} {f : Addr} {fd : FuncData} {ps : List Str}
theorem spP_of {E : XK} {η : List Addr} {H : Hp} {θ : List Addr} {μ : Store} {ds : List D} {vs : List V} {g : PF} {Q : VK} (ok : StOk X.mg X.K η H θ μ) (l : RepL X.mg X.K (hid H (θ ++ η)) ds vs) (hn : ds.length = n) (fin : Fin X.mg X.K E η H θ (RepSl X.mg X.K) ((g ds).res μ) Q) : spP X.mg X.K n g vs H Q E := by
  refine ⟨l.length.symm.trans hn, θ ++ η, ds, StOk.bare ok.trk ok.tab fun p hp => ok.plain hp, l, ?_⟩
  cases e : g ds with
  | ok d =>
    rw [e] at fin
    intro v H' θ' st r
    have := st.only
    subst this
    cases r with
    | d r => exact fin v H' θ (Step.frame ok st) (.d r)
  | ex x =>
    rw [e] at fin
    intro cv dd H' θ' st r
    have := st.only
    subst this
    exact fin cv dd H' θ (Step.frame ok st) r
  | no => rw [e] at fin; exact fin
theorem pd_call {g : PF} {x : Str} {e : Expr} {es : List Expr} {fa : AF} {p pos : Pos} (C : Cxb X CX W k) (F : FnOk X.prog X.w X.K X.mg X.base CX j f fd ps (spP X.mg X.K n g)) (hj : j ≤ k) (hg : Gl X x) (hm : X.mg x = some (.ref f)) (hk : PySem.W.keepIn X.K (.ref f) = true) (hb : Binds X.K fd ps [])
    (ha : PAd X W (e :: es) fa) (hdb : (x == ("__debug__" : Str)) = false := by decide) (he : starEach (e :: es) X.env = (false, eval e X.env) :: starEach es X.env := by rfl) (hpl : (backTo pos (starEach es X.env)).any (·.1) = false := by rfl) : PEd X W (.Call (.Name x p) (e :: es) [] pos) (eCall n g fa) := by
  refine PE.imp (pe_callSD (E := fun σ c d H => W c d σ H) F (C.room.mono hj) hg hm hk hb .nil C.pas ha hdb he hpl) fun σ H Q h => ?_
  obtain ⟨η, θ, μ, ρ, ok, rs, fin⟩ := h
  refine ⟨η, θ, μ, ρ, ok, rs, fin.andThen fun ss μ1 vs H1 θ1 _ st rx fin1 => ?_⟩
  rw [List.append_nil]
  split at fin1
  · split at fin1
    · rename_i ds ed hn
      exact spP_of st.ok (dsOf_rep rx ed) hn fin1
    · exact fin1.elim
  · exact fin1.elim
theorem pd_callM {g : MF} {x : Str} {e : Expr} {es : List Expr} {fa : AF} {p pos : Pos} (C : Cxb X CX W k) (F : FnOk X.prog X.w X.K X.mg X.base CX j f fd ps (spM X.mg X.K n g)) (hj : j ≤ k) (hg : Gl X x) (hm : X.mg x = some (.ref f)) (hk : PySem.W.keepIn X.K (.ref f) = true) (hb : Binds X.K fd ps [])
    (ha : PAd X W (e :: es) fa) (hdb : (x == ("__debug__" : Str)) = false := by decide) (he : starEach (e :: es) X.env = (false, eval e X.env) :: starEach es X.env := by rfl) (hpl : (backTo pos (starEach es X.env)).any (·.1) = false := by rfl) : PEd X W (.Call (.Name x p) (e :: es) [] pos) (eCallM n g fa) := by
  refine PE.imp (pe_callSD (E := fun σ c d H => W c d σ H) F (C.room.mono hj) hg hm hk hb .nil C.pas ha hdb he hpl) fun σ H Q h => ?_
  obtain ⟨η, θ, μ, ρ, ok, rs, fin⟩ := h
  refine ⟨η, θ, μ, ρ, ok, rs, fin.andThen fun ss μ1 vs H1 θ1 _ st rx fin1 => ?_⟩
  rw [List.append_nil]
  split at fin1
  · rename_i hn
    exact ⟨rx.length.symm.trans hn, η, θ1, μ1, ss, st.ok, rx, fin1⟩
  · exact fin1.elim
theorem pd_call0 {g : PF} {x : Str} {p pos : Pos} (C : Cxb X CX W k) (F : FnOk X.prog X.w X.K X.mg X.base CX j f fd ps (spP X.mg X.K 0 g)) (hj : j ≤ k) (hp : Passes CX X (fun _ _ _ => False)) (hne : ∀ x, g [] ≠ .ex x) (hg : Gl X x) (hm : X.mg x = some (.ref f)) (hk : PySem.W.keepIn X.K (.ref f) = true) (hb : Binds X.K fd ps [])
    (hdb : (x == ("__debug__" : Str)) = false := by decide) : PEd X W (.Call (.Name x p) [] [] pos) (eCall0 g) := by
  refine PE.imp (pe_call0 (E := fun _ _ _ => False) F (C.room.mono hj) hg hm hk hb .nil hp hdb) fun σ H Q h => ?_
  obtain ⟨η, θ, μ, ρ, ok, rs, fin⟩ := h
  refine spP_of (ds := []) ok .nil rfl ?_
  unfold eCall0 at fin
  cases e : g [] with
  | ok d => rw [e] at fin; exact fin
  | ex x => exact absurd e (hne x)
  | no => rw [e] at fin; exact fin
end
end DL

set_option Elab.async false
set_option linter.all false
set_option maxRecDepth 100000
set_option maxHeartbeats 2000000
/-! DLIter: enumerate and zip over lists and tuples in any mix -/
namespace DL
open PySem PySem.Spec PyProof.Rows L2
variable [TabCtx]

/-! ### the two kinds of sources -/
/-- an iterator at it over what stands at a (tup: a tuple) -/
def ItK (tup : Bool) (h : Heap) (it a : Addr) (i : Nat) : Prop := if tup = true then h.IsTupleIter it a i else h.IsListIter it a i
def SrK (tup : Bool) (h : Heap) (a : Addr) (its : Array Value) : Prop := if tup = true then h.IsTuple a its else h.IsList a its
def SqK (tup : Bool) (K : PySem.W.Frag) (H : Hp) (a : Addr) (xs : List V) : Prop := if tup = true then SqT K H a xs else SqL K H a xs
def objK (tup : Bool) (a : Addr) : Obj := if tup = true then { cls := .type "tuple_iterator", data := .fields #[.ref a, .int 0 0] } else { cls := .type "list_iterator", data := .fields #[.ref a, .int 0 0] }
theorem ItK.look {tup : Bool} {h : Heap} {it a : Addr} {i : Nat} (x : ItK tup h it a i) : ∃ o, h.get? it = some o ∧ ∀ v, o.data ≠ .cell v := by
  cases tup with
  | true => obtain ⟨o, e, _, d⟩ := x; exact ⟨o, e, fun v q => by rw [d] at q; cases q⟩
  | false => obtain ⟨o, e, _, d⟩ := x; exact ⟨o, e, fun v q => by rw [d] at q; cases q⟩
theorem ItK.at {tup : Bool} {h h' : Heap} {it a : Addr} {i : Nat} (x : ItK tup h it a i) (e : ∀ o, h.get? it = some o → h'.get? it = some o) : ItK tup h' it a i := by
  cases tup with
  | true => exact Heap.IsTupleIter.at x e
  | false => exact Heap.IsListIter.at x e
theorem SqK.inj {tup : Bool} {X : Cx} {pins : List (Addr × Obj)} {σ : L2.St} {H : Hp} {s : Shared} {a : Addr} {xs ys : List V} (I : Inv X pins σ H s) (h : SqK tup X.K H a xs) (k : SqK tup X.K H a ys) : xs = ys := by
  cases tup with
  | true => exact I.tuple_inj h k
  | false => exact I.list_inj h k
theorem SqK.src {tup : Bool} {X : Cx} {pins : List (Addr × Obj)} {σ : L2.St} {H : Hp} {s : Shared} {a : Addr} {xs : List V} (I : Inv X pins σ H s) (h : SqK tup X.K H a xs) : ∃ its : List Value, Vals xs its ∧ SrK tup s.heap a its.toArray ∧ a < s.heap.objs.size := by
  cases tup with
  | true =>
    obtain ⟨its, r, p, _⟩ := I.tuple h
    exact ⟨its, r, p, by obtain ⟨_, e, _⟩ := p; exact Heap.lt_size e⟩
  | false =>
    obtain ⟨its, r, p, _⟩ := I.list h
    exact ⟨its, r, p.isList, p.lt⟩
theorem draws_K {prog : Program} {w : World} {A : Around} (hh : A.handled = none) (tup : Bool) (it a : Addr) (ne : a ≠ it) (its : Array Value) :
    Draws prog w A it [it, a] its.size (fun i v => its[i]? = some v) (fun i h => ItK tup h it a i ∧ SrK tup h a its) := by
  cases tup with
  | true => exact Draws.tuple hh it a ne its
  | false => exact Draws.list hh it a ne its
theorem begins_K (tup : Bool) (a : Addr) (its : Array Value) : Begins (.ref a) (objK tup a) (fun h => SrK tup h a its) := by
  cases tup with
  | true => exact begins_tuple a its
  | false => exact begins_list a its
theorem ItK.start {tup : Bool} {h : Heap} {it a : Addr} (e : h.get? it = some (objK tup a)) : ItK tup h it a 0 := by
  cases tup with
  | true => exact ⟨_, e, rfl, rfl⟩
  | false => exact ⟨_, e, rfl, rfl⟩

/-! ### zip -/
def Jzip (K : PySem.W.Frag) (ta tb : Bool) (a b : Addr) : It :=
  ⟨fun i H => ∃ xs ys x y, SqK ta K H a xs ∧ SqK tb K H b ys ∧ xs[i]? = some x ∧ ys[i]? = some y,
   fun i H v H' => ∃ p x y, v = .ref p ∧ H p = none ∧ H' = upd H p (.tup [x, y]) ∧ (∀ xs, SqK ta K H a xs → xs[i]? = some x) ∧ (∀ ys, SqK tb K H b ys → ys[i]? = some y),
   fun i H => ∃ xs ys, SqK ta K H a xs ∧ SqK tb K H b ys ∧ i = min xs.length ys.length⟩
def Tzip (ta tb : Bool) (a b z TI TO i1 i2 : Addr) (i : Nat) (h : Heap) : Prop :=
  IsZip h z TI TO .none ∧ IsTupOf2 h TI (.ref i1) (.ref i2) ∧ (∃ p q, IsTupOf2 h TO p q) ∧ ItK ta h i1 a i ∧ ItK tb h i2 b i
theorem newTup {X : Cx} {H : Hp} {p : Addr} {x y : V} {u v : Value} {h : Heap} (rx : L2.RelV x u) (ry : L2.RelV y v) (e : h.IsTuple p #[u, v]) : ObjOk X.prog X.w (upd H p (.tup [x, y])) h p (.tup [x, y]) :=
  ⟨by show 2 ≤ sizeLine; rw [sizeLine_eq]; decide, [u, v], .cons rx (.cons ry .nil), e⟩
theorem turnZip {P : Program} {w : World} {K : PySem.W.Frag} {elts : List Expr} {kk : Nat} {tp : Pos} {ta tb : Bool} {a b z TI TO i1 i2 : Addr} (S : ZipSep2 z TI TO i1 i2 [i1, a] [i2, b]) (na : a ≠ i1) (nb : b ≠ i2) :
    Turn P w K (.Tuple elts kk tp) (Jzip K ta tb a b) [z, TI, TO, i1, i2] z (Tzip ta tb a b z TI TO i1 i2) where
  mem := List.mem_cons_self
  obj := fun i h st c hc => by
    obtain ⟨h1, h2, ⟨p, q, h3⟩, h4, h5⟩ := st
    simp only [List.mem_cons, List.not_mem_nil, or_false] at hc
    rcases hc with rfl | rfl | rfl | rfl | rfl
    · exact ⟨_, h1, fun v k => nomatch k⟩
    · exact ⟨_, h2, fun v k => nomatch k⟩
    · exact ⟨_, h3, fun v k => nomatch k⟩
    · exact h4.look
    · exact h5.look
  keep := fun i h h' st k => by
    obtain ⟨h1, h2, ⟨p, q, h3⟩, h4, h5⟩ := st
    exact ⟨k _ (by simp) _ h1, k _ (by simp) _ h2, ⟨p, q, k _ (by simp) _ h3⟩, h4.at (k _ (by simp)), h5.at (k _ (by simp))⟩
  item := by
    intro X hP hw hK hc i pins s σ H E I hf st hg
    subst hP hw hK
    obtain ⟨xs, ys, x, y, qa, qb, ex, ey⟩ := hg
    obtain ⟨us, ru, su, la⟩ := qa.src I
    obtain ⟨vs, rv, sv, lb⟩ := qb.src I
    have D1 := draws_K (prog := X.prog) (w := X.w) (A := X.A.in1) (I.ok.hd hc) ta i1 a na us.toArray
    have D2 := draws_K (prog := X.prog) (w := X.w) (A := X.A.in1) (I.ok.hd hc) tb i2 b nb vs.toArray
    obtain ⟨h1, h2, h3, h4, h5⟩ := st
    have l1 : i < us.length := by rw [← ru.length]; exact (List.getElem?_eq_some_iff.mp ex).1
    have l2 : i < vs.length := by rw [← rv.length]; exact (List.getElem?_eq_some_iff.mp ey).1
    refine wpAny_mono ((GoesN.zip2 (elts := elts) (x1 := kk) (pos := tp) S D1 D2).goes i s (fun u s2 => ∃ x H', Inv X pins σ H' s2 ∧ L2.RelV x u ∧ (Jzip X.K ta tb a b).yld i H x H' ∧ Tzip ta tb a b z TI TO i1 i2 (i + 1) s2.heap ∧ ∀ c ∈ [z, TI, TO, i1, i2], H' c = none) E
      (by simp; omega) ⟨h1, h2, h3, ⟨h4, su⟩, ⟨h5, sv⟩⟩ fun u h' tk hY st' hk _ => ?_) (fun r s1 q => q) fun _ _ q => q
    obtain ⟨T, xv, yv, rfl, hT, px, py, tT⟩ := hY
    obtain ⟨k1, k2, k3, k4, k5⟩ := st'
    obtain ⟨u1, e1, r1⟩ := ru.get ex
    obtain ⟨u2, e2, r2⟩ := rv.get ey
    have exv : xv = u1 := by
      have := px.symm.trans (by simpa using e1 : us.toArray[i]? = some u1)
      exact Option.some.inj this
    have eyv : yv = u2 := by
      have := py.symm.trans (by simpa using e2 : vs.toArray[i]? = some u2)
      exact Option.some.inj this
    subst exv eyv
    have I2 : Inv X pins σ (upd H T (.tup [x, y])) { s with heap := h', toks := tk } :=
      I.turnedNew (ch := [z, TO, i1, i2]) hk (fun c hc => hf c (by simp only [List.mem_cons, List.not_mem_nil, or_false] at hc ⊢; rcases hc with q | q | q | q <;> simp [q])) hT (newTup r1 r2 tT)
    refine ⟨.ref T, _, I2, rfl, ⟨T, x, y, rfl, I.hok.fresh hT, rfl, fun l q => ?_, fun l q => ?_⟩, ⟨k1, k2, k3, k4.1, k5.1⟩, fun c hc => ?_⟩
    · rw [SqK.inj I q qa]; exact ex
    · rw [SqK.inj I q qb]; exact ey
    · have lt : c < s.heap.objs.size := by
        obtain ⟨p, q, h3⟩ := h3
        simp only [List.mem_cons, List.not_mem_nil, or_false] at hc
        rcases hc with rfl | rfl | rfl | rfl | rfl
        · exact Heap.lt_size h1
        · exact Heap.lt_size h2
        · exact Heap.lt_size h3
        · obtain ⟨o, e, _⟩ := h4.look; exact Heap.lt_size e
        · obtain ⟨o, e, _⟩ := h5.look; exact Heap.lt_size e
      rw [upd_ne (Nat.ne_of_lt (Nat.lt_of_lt_of_le lt hT))]
      exact (hf c hc).1
  done := by
    intro X hP hw hK hc i pins s σ H E I hf st hg
    subst hP hw hK
    obtain ⟨xs, ys, qa, qb, rfl⟩ := hg
    obtain ⟨us, ru, su, la⟩ := qa.src I
    obtain ⟨vs, rv, sv, lb⟩ := qb.src I
    have D1 := draws_K (prog := X.prog) (w := X.w) (A := X.A.in1) (I.ok.hd hc) ta i1 a na us.toArray
    have D2 := draws_K (prog := X.prog) (w := X.w) (A := X.A.in1) (I.ok.hd hc) tb i2 b nb vs.toArray
    obtain ⟨h1, h2, h3, h4, h5⟩ := st
    have el : min xs.length ys.length = min us.toArray.size vs.toArray.size := by simp [ru.length, rv.length]
    rw [el] at h4 h5
    refine (GoesN.zip2 (elts := elts) (x1 := kk) (pos := tp) S D1 D2).stops s (fun s1 => Inv X pins σ H s1) E ⟨h1, h2, h3, ⟨h4, su⟩, ⟨h5, sv⟩⟩ fun h' tk hk _ => ?_
    exact I.turnedL (ch := [z, TO, i1, i2]) hk (fun c hc => hf c (by simp only [List.mem_cons, List.not_mem_nil, or_false] at hc ⊢; rcases hc with q | q | q | q <;> simp [q]))
  self := fun A i s Q E st h => wpAny_pyIter_zip st.1 h

/-! ### enumerate -/
def Jenum (K : PySem.W.Frag) (ta : Bool) (a : Addr) : It :=
  ⟨fun i H => ∃ xs x, SqK ta K H a xs ∧ xs[i]? = some x,
   fun i H v H' => ∃ p x, v = .ref p ∧ H p = none ∧ H' = upd H p (.tup [.int (i : Nat), x]) ∧ (∀ xs, SqK ta K H a xs → xs[i]? = some x),
   fun i H => ∃ xs, SqK ta K H a xs ∧ i = xs.length⟩
def Tenum (ta : Bool) (a e it : Addr) (i : Nat) (h : Heap) : Prop := (∃ old, IsEnum h e it (0 + (i : Int)) old) ∧ ItK ta h it a i
theorem turnEnum {P : Program} {w : World} {K : PySem.W.Frag} {elts : List Expr} {kk : Nat} {tp : Pos} {ta : Bool} {a e it : Addr} (na : a ≠ it) (n1 : e ≠ it) (n2 : e ≠ a) :
    Turn P w K (.Tuple elts kk tp) (Jenum K ta a) [e, it] e (Tenum ta a e it) where
  mem := List.mem_cons_self
  obj := fun i h st c hc => by
    obtain ⟨⟨old, h1⟩, h4⟩ := st
    simp only [List.mem_cons, List.not_mem_nil, or_false] at hc
    rcases hc with rfl | rfl
    · exact ⟨_, h1, fun v k => nomatch k⟩
    · exact h4.look
  keep := fun i h h' st k => by
    obtain ⟨⟨old, h1⟩, h4⟩ := st
    exact ⟨⟨old, k _ (by simp) _ h1⟩, h4.at (k _ (by simp))⟩
  item := by
    intro X hP hw hK hc i pins s σ H E I hf st hg
    subst hP hw hK
    obtain ⟨xs, x, qa, ex⟩ := hg
    obtain ⟨us, ru, su, la⟩ := qa.src I
    have D1 := draws_K (prog := X.prog) (w := X.w) (A := X.A.in1) (I.ok.hd hc) ta it a na us.toArray
    obtain ⟨h1, h4⟩ := st
    have l1 : i < us.length := by rw [← ru.length]; exact (List.getElem?_eq_some_iff.mp ex).1
    refine wpAny_mono ((GoesN.enumFrom (elts := elts) (x1 := kk) (pos := tp) 0 D1 e n1 (by simp [n1, n2]) (by simp)).goes i s (fun u s2 => ∃ x H', Inv X pins σ H' s2 ∧ L2.RelV x u ∧ (Jenum X.K ta a).yld i H x H' ∧ Tenum ta a e it (i + 1) s2.heap ∧ ∀ c ∈ [e, it], H' c = none) E
      (by simpa using l1) ⟨h1, ⟨h4, su⟩⟩ fun u h' tk hY st' hk _ => ?_) (fun r s1 q => q) fun _ _ q => q
    obtain ⟨T, t, xv, rfl, hT, px, tT⟩ := hY
    obtain ⟨k1, k4⟩ := st'
    obtain ⟨u1, e1, r1⟩ := ru.get ex
    have exv : xv = u1 := by
      have := px.symm.trans (by simpa using e1 : us.toArray[i]? = some u1)
      exact Option.some.inj this
    subst exv
    have I2 : Inv X pins σ (upd H T (.tup [.int (i : Nat), x])) { s with heap := h', toks := tk } :=
      I.turnedNew (ch := [e, it]) hk hf hT (newTup (x := .int (i : Nat)) ⟨t, by simp⟩ r1 tT)
    refine ⟨.ref T, _, I2, rfl, ⟨T, x, rfl, I.hok.fresh hT, rfl, fun l q => ?_⟩, ⟨k1, k4.1⟩, fun c hc => ?_⟩
    · rw [SqK.inj I q qa]; exact ex
    · have lt : c < s.heap.objs.size := by
        obtain ⟨old, h1⟩ := h1
        simp only [List.mem_cons, List.not_mem_nil, or_false] at hc
        rcases hc with rfl | rfl
        · exact Heap.lt_size h1
        · obtain ⟨o, e, _⟩ := h4.look; exact Heap.lt_size e
      rw [upd_ne (Nat.ne_of_lt (Nat.lt_of_lt_of_le lt hT))]
      exact (hf c hc).1
  done := by
    intro X hP hw hK hc i pins s σ H E I hf st hg
    subst hP hw hK
    obtain ⟨xs, qa, rfl⟩ := hg
    obtain ⟨us, ru, su, la⟩ := qa.src I
    have D1 := draws_K (prog := X.prog) (w := X.w) (A := X.A.in1) (I.ok.hd hc) ta it a na us.toArray
    obtain ⟨h1, h4⟩ := st
    have el : xs.length = us.toArray.size := by simp [ru.length]
    rw [el] at h1 h4
    refine (GoesN.enumFrom (elts := elts) (x1 := kk) (pos := tp) 0 D1 e n1 (by simp [n1, n2]) (by simp)).stops s (fun s1 => Inv X pins σ H s1) E ⟨h1, ⟨h4, su⟩⟩ fun h' tk hk _ => ?_
    exact I.turnedL (ch := [e, it]) hk hf
  self := fun A i s Q E st h => let ⟨⟨_, q⟩, _⟩ := st; wpAny_pyIter_enum q h
theorem fits0 : Builtin.SmallTypes.fitsIndex 0 = true := by decide
/-- enumerate(v) makes two cells, whatever v is walked by -/
theorem meetsEnum {v : Value} {o : Obj} {R0 : Heap → Prop} (B : Begins v o R0) :
    Meets (Builtin.«enumerate.__new__» ⟨[.type "enumerate", v], []⟩) (fun _ R s => R0 s.heap ∧
      R (.ok (.ret (.ref (s.heap.push o).objs.size))) { s with heap := (s.heap.push o).push { cls := .type "enumerate", data := .fields #[.none, .bool false, .ref s.heap.objs.size, rawInt 0, .none, .none] } }) :=
  .of_wp fun prog w A R s hyp => by
    obtain ⟨hp, gs, dr, tks, os⟩ := s
    obtain ⟨hR, hyp⟩ := hyp
    have hs0 := sub_enumerate
    have nx : ∀ {A2 : Around} {E2 : Value → Shared → Prop} {Q2 : Value → Shared → Prop}, Q2 (.ref hp.objs.size) ⟨hp.push o, gs, dr, tks, os⟩ → wpAny (model prog w) A2 (pyIter v) Q2 E2 ⟨hp, gs, dr, tks, os⟩ :=
      fun q => B.iter prog w _ _ ⟨hp, gs, dr, tks, os⟩ _ hR q
    wp_walk using nx
    refine wpAny_stack_any fun below => wpAny_pure ?_
    split
    · rename_i c1 _ _ _ _ _
      cases (c1 == Value.type "enumerate") <;> (wp_walk using nx; exact ⟨_, rfl, hyp⟩)
    · wp_walk using nx
      exact ⟨_, rfl, hyp⟩
theorem callEnum {prog : Program} {w : World} {A : Around} {E : Value → Shared → Prop} {s : Shared} {v : Value} {o : Obj} {R0 : Heap → Prop} {Q : Value → Shared → Prop} (B : Begins v o R0) (hR : R0 s.heap)
    (h : ∀ h', IsEnum h' (s.heap.objs.size + 1) s.heap.objs.size 0 .none → h'.get? s.heap.objs.size = some o → (∀ b o, s.heap.get? b = some o → h'.get? b = some o) → Q (.ref (s.heap.objs.size + 1)) { s with heap := h' }) :
    wpAny (model prog w) A (call (.type "enumerate") [v]) Q E s := by
  refine callType_new F.called_enumerate (by decide) (F.typeCall_enumerate_1 _) (F.newCall_enumerate_1 _) (fun obj => F.args_object_init_2 obj _) F.entry_enumerate_new (meetsEnum B) ⟨hR, ?_⟩
  have sz : (s.heap.push o).objs.size = s.heap.objs.size + 1 := Heap.size_push ..
  have made : ((s.heap.push o).push { cls := .type "enumerate", data := .fields #[.none, .bool false, .ref s.heap.objs.size, rawInt 0, .none, .none] }).get? (s.heap.objs.size + 1) = some { cls := .type "enumerate", data := .fields #[.none, .bool false, .ref s.heap.objs.size, rawInt 0, .none, .none] } := by
    rw [← sz]; exact Heap.get?_push_size _ rfl
  show _ ∧ _
  rw [sz]
  exact ⟨⟨_, made, rfl⟩, h _ made (Heap.get?_push_of_some _ (Heap.get?_push_size _ B.free)) fun b o x => Heap.get?_push_of_some _ (Heap.get?_push_of_some _ x)⟩

/-! ### as what a for walks -/
def sEnum (f : EF) : LF := fun ρ μ => (f ρ μ).bind fun x μ1 => match x with
  | .d (.lst ds) => .ok (ds.mapIdx fun i d => .tup [.int (i : Nat), d]) μ1
  | .d (.tup ds) => .ok (ds.mapIdx fun i d => .tup [.int (i : Nat), d]) μ1
  | _ => .no
def seqD : Sl → Option (List D)
  | .d (.lst ds) => some ds
  | .d (.tup ds) => some ds
  | _ => none
def zipD (a b : List D) : List D := List.zipWith (fun x y => D.tup [x, y]) a b
def sZip (f g : EF) : LF := fun ρ μ => (f ρ μ).bind fun x μ1 => (g ρ μ1).bind fun y μ2 => match seqD x, seqD y with
  | some a, some b => .ok (zipD a b) μ2
  | _, _ => .no
section
variable {X : Cx} {W : WXD} {CX : CXT} {k : Nat}
def iEnumK (K : PySem.W.Frag) (ta : TA) : TI := fun σ H R => ta σ H fun vs H1 => ∃ tup a xs, vs = [.ref a] ∧ SqK tup K H1 a xs ∧ R (Jenum K tup a) H1
theorem pi_enumK {e : Expr} {ta : TA} {p pos tp : Pos} {elts : List Expr} {kk : Nat} (hg : Gl X "enumerate") (hm : X.mg "enumerate" = none) (ha : PA X [e] ta) (hs : starEach [e] X.env = [(false, eval e X.env)] := by rfl) :
    PI X (.Tuple elts kk tp) (.Call (.Name "enumerate" p) [e] [] pos) (iEnumK X.K ta) := by
  refine ⟨fun pins s σ H R I h => Call_ (ld_blt I hg hm boot_enumerate (PyProof.Rows.callWith_type1 (thn (ha.run pos pins s σ H _ I h) fun us s1 ⟨vs, H1, I1, r1, q1⟩ => ?_) hs rfl))⟩
  obtain ⟨tup, a, xs, rfl, hq, q⟩ := q1
  cases r1 with
  | cons r rr =>
    cases rr
    cases r
    obtain ⟨its, rv, sv, la⟩ := hq.src I1
    refine callEnum (begins_K tup a its.toArray) sv fun h' he hi hk => wpAny_pyIter_enum he ?_
    have I2 : Inv X pins σ H1 { s1 with heap := h' } := I1.kept (t' := s1.toks) hk
    refine ⟨s1.heap.objs.size + 1, [s1.heap.objs.size + 1, s1.heap.objs.size], _, _, H1, rfl, I2, turnEnum (Nat.ne_of_lt la) (Nat.succ_ne_self _) (Nat.ne_of_gt (Nat.lt_succ_of_lt la)), ⟨⟨_, he⟩, ItK.start hi⟩, fun b hb => ?_, q⟩
    have hle : s1.heap.objs.size ≤ b := by
      simp only [List.mem_cons, List.not_mem_nil, or_false] at hb
      rcases hb with rfl | rfl
      · exact Nat.le_succ _
      · exact Nat.le_refl _
    exact I1.fpOk hle (I1.hok.fresh hle)
def iZipK (K : PySem.W.Frag) (ta : TA) : TI := fun σ H R => ta σ H fun vs H1 => ∃ t1 t2 a b xs ys, vs = [.ref a, .ref b] ∧ SqK t1 K H1 a xs ∧ SqK t2 K H1 b ys ∧ R (Jzip K t1 t2 a b) H1
theorem pi_zipK {e e2 : Expr} {ta : TA} {p pos tp : Pos} {elts : List Expr} {kk : Nat} (hg : Gl X "zip") (hm : X.mg "zip" = none) (ha : PA X [e, e2] ta)
    (hs : starEach [e, e2] X.env = (false, eval e X.env) :: starEach [e2] X.env := by rfl) (hpl : (backTo pos (starEach [e2] X.env)).any (·.1) = false := by rfl) :
    PI X (.Tuple elts kk tp) (.Call (.Name "zip" p) [e, e2] [] pos) (iZipK X.K ta) := by
  refine ⟨fun pins s σ H R I h => Call_ (ld_blt I hg hm PyProof.Rows.boot_zip (PyProof.Rows.callWith_type1 (thn (ha.run pos pins s σ H _ I h) fun us s1 ⟨vs, H1, I1, r1, q1⟩ => ?_) hs hpl))⟩
  obtain ⟨t1, t2, a, b, xs, ys, rfl, hqa, hqb, q⟩ := q1
  cases r1 with
  | cons r rr =>
    cases rr with
    | cons r' rr =>
      cases rr
      cases r
      cases r'
      obtain ⟨ia, ra, sa, la⟩ := hqa.src I1
      obtain ⟨ib, rb, sb, lb⟩ := hqb.src I1
      refine zip_begins2 (begins_K t1 a ia.toArray) (begins_K t2 b ib.toArray) sa sb fun h' hz hT hO h1 h2 _ hk => wpAny_pyIter_zip hz ?_
      have I2 : Inv X pins σ H1 { s1 with heap := h' } := I1.kept (t' := s1.toks) hk
      have S := zip_sep2 (N := s1.heap.objs.size) (fp1 := [a]) (fp2 := [b]) (by simpa using la) (by simpa using lb)
      refine ⟨s1.heap.objs.size + 4, _, _, _, H1, rfl, I2, turnZip S (Nat.ne_of_lt la) (Nat.ne_of_lt (Nat.lt_succ_of_lt lb)), ⟨hz, hT, ⟨_, _, hO⟩, ItK.start h1, ItK.start h2⟩, fun c hc => ?_, q⟩
      have hle : s1.heap.objs.size ≤ c := by
        simp only [List.mem_cons, List.not_mem_nil, or_false] at hc
        rcases hc with rfl | rfl | rfl | rfl | rfl
        · exact Nat.le_add_right _ _
        · exact Nat.le_add_right _ _
        · exact Nat.le_add_right _ _
        · exact Nat.le_refl _
        · exact Nat.le_add_right _ _
      exact I1.fpOk hle (I1.hok.fresh hle)
theorem SqK.ext {tup : Bool} {K : PySem.W.Frag} {G H : Hp} {S : List Addr} {a : Addr} {xs : List V} (e : Ext G (hid H S)) (h : G a = some (if tup = true then .tup xs else .lst xs)) : SqK tup K H a xs := by
  cases tup with
  | true => exact SqT.of (ext_at e h fun _ z => by cases z)
  | false => exact SqL.of (ext_at e h fun _ z => by cases z)
theorem seqD_rep {mg : Str → Option Value} {K : PySem.W.Frag} {G : Hp} {θ : List Addr} {s : Sl} {ds : List D} {v : V} (r : RepSl mg K G θ s v) (e : seqD s = some ds) : ∃ tup a xs, v = .ref a ∧ G a = some (if tup = true then .tup xs else .lst xs) ∧ RepL mg K G ds xs := by
  cases r with
  | d r =>
    cases r with
    | tup h l => cases e; exact ⟨true, _, _, rfl, h, l⟩
    | lst h l => cases e; exact ⟨false, _, _, rfl, h, l⟩
    | _ => cases e
  | ob h => cases e
  | clo _ _ => cases e
theorem newPair {mg : Str → Option Value} {K : PySem.W.Frag} {H : Hp} {S : List Addr} {p : Addr} {x y : D} {u v : V} (f : ∀ p ∈ S, H p ≠ none) (hp : H p = none) (rx : Rep mg K (hid H S) x u) (ry : Rep mg K (hid H S) y v) : Rep mg K (hid (upd H p (.tup [u, v])) S) (.tup [x, y]) (.ref p) :=
  .tup (by rw [hid_out (fresh_out f hp), upd_same]) (.cons (rx.ext (hid_same (upd_Same hp))) (.cons (ry.ext (hid_same (upd_Same hp))) .nil))
theorem it_enum {mg : Str → Option Value} {K : PySem.W.Frag} {G : Hp} {tup : Bool} {a : Addr} {xs : List V} {ds : List D} (h : G a = some (if tup = true then .tup xs else .lst xs)) (l : RepL mg K G ds xs) : ItOk mg K G (Jenum K tup a) (ds.mapIdx fun i d => .tup [.int (i : Nat), d]) where
  goes := fun i H S hi e => ⟨xs, xs[i]'(by rw [← l.length]; simpa using hi), SqK.ext e h, by simp⟩
  stops := fun H S e => ⟨xs, SqK.ext e h, by rw [← l.length]; simp⟩
  yields := fun i H x H' S hi e f y => by
    obtain ⟨p, v, rfl, hp, rfl, q⟩ := y
    obtain ⟨d, h1, h2⟩ := l.getV i (q xs (SqK.ext e h))
    exact ⟨upd_Same hp, _, by rw [List.getElem?_mapIdx, h1]; rfl, newPair f hp .int (h2.ext e)⟩
theorem it_zip {mg : Str → Option Value} {K : PySem.W.Frag} {G : Hp} {t1 t2 : Bool} {a b : Addr} {xs ys : List V} {ds es : List D} (h : G a = some (if t1 = true then .tup xs else .lst xs)) (l : RepL mg K G ds xs) (h' : G b = some (if t2 = true then .tup ys else .lst ys)) (l' : RepL mg K G es ys) : ItOk mg K G (Jzip K t1 t2 a b) (zipD ds es) where
  goes := fun i H S hi e => by
    have hi' : i < ds.length ∧ i < es.length := by simpa [zipD, Nat.lt_min] using hi
    exact ⟨xs, ys, xs[i]'(by rw [← l.length]; exact hi'.1), ys[i]'(by rw [← l'.length]; exact hi'.2), SqK.ext e h, SqK.ext e h', by simp, by simp⟩
  stops := fun H S e => ⟨xs, ys, SqK.ext e h, SqK.ext e h', by rw [← l.length, ← l'.length]; simp [zipD]⟩
  yields := fun i H x H' S hi e f y => by
    obtain ⟨p, u, v, rfl, hp, rfl, q1, q2⟩ := y
    obtain ⟨d, h1, h2⟩ := l.getV i (q1 xs (SqK.ext e h))
    obtain ⟨d', h3, h4⟩ := l'.getV i (q2 ys (SqK.ext e h'))
    exact ⟨upd_Same hp, .tup [d, d'], by simp [zipD, List.getElem?_zipWith, h1, h3], newPair f hp (h2.ext e) (h4.ext e)⟩
theorem pid_enum {e : Expr} {f : EF} {p pos tp : Pos} {elts : List Expr} {kk : Nat} (hg : Gl X "enumerate") (hm : X.mg "enumerate" = none) (ha : PEd X W e f) (hs : starEach [e] X.env = [(false, eval e X.env)] := by rfl) : PId X W (.Tuple elts kk tp) (.Call (.Name "enumerate" p) [e] [] pos) (sEnum f) := by
  refine PI.imp (pi_enumK hg hm (pd_cons ha pd_nil hs) hs) fun σ H R hh => ?_
  obtain ⟨η, θ, μ, ρ, ok, rs, fin⟩ := hh
  refine ⟨η, θ, μ, ρ, ok, rs, ?_⟩
  unfold sEnum at fin
  unfold aCons
  cases e : f ρ μ with
  | ok x μ1 =>
    rw [e] at fin
    simp only [Res.bind, aNil] at fin ⊢
    intro vs H1 θ1 st rx
    cases rx with
    | cons rx l =>
      cases l
      split at fin
      · obtain ⟨tup, a, xs, rfl, h, l⟩ := seqD_rep (ds := _) rx rfl
        exact ⟨tup, a, xs, rfl, SqK.ext (Ext.refl _) h, (Fin.rebase st fin) _ _ _ (Step.refl st.ok) (it_enum h l)⟩
      · obtain ⟨tup, a, xs, rfl, h, l⟩ := seqD_rep (ds := _) rx rfl
        exact ⟨tup, a, xs, rfl, SqK.ext (Ext.refl _) h, (Fin.rebase st fin) _ _ _ (Step.refl st.ok) (it_enum h l)⟩
      · exact fin.elim
  | ex x μ' => rw [e] at fin; exact fin
  | no => rw [e] at fin; exact fin
theorem pid_zip {a b : Expr} {f g : EF} {p pos tp : Pos} {elts : List Expr} {kk : Nat} (hg : Gl X "zip") (hm : X.mg "zip" = none) (ha : PEd X W a f) (hb : PEd X W b g)
    (hs : starEach [a, b] X.env = (false, eval a X.env) :: starEach [b] X.env := by rfl) (hs2 : starEach [b] X.env = (false, eval b X.env) :: starEach [] X.env := by rfl) (hpl : (backTo pos (starEach [b] X.env)).any (·.1) = false := by rfl) : PId X W (.Tuple elts kk tp) (.Call (.Name "zip" p) [a, b] [] pos) (sZip f g) := by
  refine PI.imp (pi_zipK hg hm (pd_cons ha (pd_cons hb pd_nil hs2) hs) hs hpl) fun σ H R hh => ?_
  obtain ⟨η, θ, μ, ρ, ok, rs, fin⟩ := hh
  refine ⟨η, θ, μ, ρ, ok, rs, ?_⟩
  unfold sZip at fin
  unfold aCons
  cases e : f ρ μ with
  | ok x μ1 =>
    rw [e] at fin
    simp only [Res.bind] at fin ⊢
    cases e2 : g ρ μ1 with
    | ok y μ2 =>
      rw [e2] at fin
      simp only [aNil] at fin ⊢
      intro vs H1 θ1 st rx
      cases rx with
      | cons rx l =>
        cases l with
        | cons ry l =>
          cases l
          split at fin
          · rename_i d1 d2 q1 q2
            obtain ⟨t1, a, xs, rfl, h, l⟩ := seqD_rep rx q1
            obtain ⟨t2, b, ys, rfl, h', l'⟩ := seqD_rep ry q2
            exact ⟨t1, t2, a, b, xs, ys, rfl, SqK.ext (Ext.refl _) h, SqK.ext (Ext.refl _) h', (Fin.rebase st fin) _ _ _ (Step.refl st.ok) (it_zip h l h' l')⟩
          · exact fin.elim
    | ex x μ' => rw [e2] at fin; exact fin
    | no => rw [e2] at fin; exact fin
  | ex x μ' => rw [e] at fin; exact fin
  | no => rw [e] at fin; exact fin
end
end DL

set_option Elab.async false
set_option linter.all false
set_option maxRecDepth 100000
set_option maxHeartbeats 1000000
/-! DLMore: three names at once; small things -/
namespace DL
open PySem PySem.Spec PyProof.Rows L2
variable [TabCtx]
def sPar3 (i j l : Nat) (f g h : EF) : SF := fun ρ μ => (f ρ μ).toOut ρ fun s μ1 => (g ρ μ1).toOut ρ fun t μ2 => (h ρ μ2).toOut ρ fun u μ3 => .nx (((ρ.set i (some s)).set j (some t)).set l (some u)) μ3
theorem sd_par3 {X : Cx} {W : WXD} {CX : CXT} {k : Nat} (C : Cxb X CX W k) {i j l : Nat} {x y z : Str} {a b c : Expr} {f g h : EF} {px py pz pt pos : Pos} {kt k2 pt2} (ha : PEd X W a f) (hb : PEd X W b g) (hc : PEd X W c h)
    (hi : X.N[i]? = some x := by rfl) (hj : X.N[j]? = some y := by rfl) (hl : X.N[l]? = some z := by rfl) (hij : i ≠ j := by decide) (hil : i ≠ l := by decide) (hjl : j ≠ l := by decide)
    (hx : X.env.scope.names.lookup x = some .local := by rfl) (hy : X.env.scope.names.lookup y = some .local := by rfl) (hz : X.env.scope.names.lookup z = some .local := by rfl)
    (h1 : swappedStores [.Tuple [.Name x px, .Name y py, .Name z pz] kt pt] (.Tuple [a, b, c] k2 pt2) X.env = pure (some [x, y, z]) := by rfl) (h2 : swapsWithSole [.Tuple [.Name x px, .Name y py, .Name z pz] kt pt] (.Tuple [a, b, c] k2 pt2) pos.line X.env = pure false := by rfl)
    (hs : starEach [a, b, c] X.env = (false, eval a X.env) :: starEach [b, c] X.env := by rfl) (hs2 : starEach [b, c] X.env = (false, eval b X.env) :: starEach [c] X.env := by rfl) (hs3 : starEach [c] X.env = (false, eval c X.env) :: starEach [] X.env := by rfl) :
    PSd X W (.Assign [.Tuple [.Name x px, .Name y py, .Name z pz] kt pt] (.Tuple [a, b, c] k2 pt2) pos) (sPar3 i j l f g h) := by
  refine PS.imp (ps_par3 C.calm C.nd hi hj hl hij hil hjl hx hy hz (pd_cons ha (pd_cons hb (pd_cons hc pd_nil hs3) hs2) hs) h1 h2) fun Dn σ H hh => ?_
  obtain ⟨η, θ, μ, ρ, ok, rs, fin⟩ := hh
  refine ⟨η, θ, μ, ρ, ok, rs, ?_⟩
  unfold sPar3 at fin
  unfold aCons
  cases e : f ρ μ with
  | ok x μ1 =>
    rw [e] at fin
    simp only [Res.toOut, Res.bind] at fin ⊢
    cases e2 : g ρ μ1 with
    | ok y μ2 =>
      rw [e2] at fin
      simp only at fin ⊢
      cases e3 : h ρ μ2 with
      | ok z μ3 =>
        rw [e3] at fin
        simp only [aNil] at fin ⊢
        intro vs H1 θ1 st rx
        cases rx with
        | cons rx l =>
          cases l with
          | cons ry l => cases l with
            | cons rz l => cases l; exact ⟨_, _, _, rfl, fin _ _ _ st ((((rs.step st).set rx).set ry).set rz)⟩
      | ex x μ' => rw [e3] at fin; exact fun cv dd H' θ' st xr => fin cv dd σ H' θ' st (rs.step st) xr
      | no => rw [e3] at fin; exact fin
    | ex x μ' => rw [e2] at fin; exact fun cv dd H' θ' st xr => fin cv dd σ H' θ' st (rs.step st) xr
    | no => rw [e2] at fin; exact fin
  | ex x μ' => rw [e] at fin; exact fun cv dd H' θ' st xr => fin cv dd σ H' θ' st (rs.step st) xr
  | no => rw [e] at fin; exact fin
theorem fnP_nex (nl : Nat) (body : SF) (ds : List D) : ∀ x, fnP nl body ds ≠ .ex x := by
  intro x h
  unfold fnP at h
  split at h
  · split at h <;> cases h
  · cases h
  · cases h
end DL

set_option Elab.async false
set_option linter.all false
set_option maxRecDepth 100000
set_option maxHeartbeats 1000000
/-! DLEnd: from the head's facts to the defs; the law's own promise -/
namespace DL
open PySem PySem.Spec PyProof.Rows L2
variable [TabCtx]
def mkDef {mg : Str → Option Value} {K : PySem.W.Frag} {h : Heap} {x : Str} {st : Stmt} {ps : List Str} {f : Addr} {oc : Value} {od an : Option Addr} {sl : Array (Option Value)} {kV doc pm cdv ct : Value}
    (X : K.In h) (G : h.Ns mainGlobals mg) (hb : ∀ (kV doc pm : Value) (an : Option Addr) (cdv ct : Value) (us : List Value), us.length = ps.length → bindArgs (PySem.W.fnOf x x (defArgs st) (defBody st) (defScope st) .none kV doc pm an cdv ct) ⟨us, []⟩ = pure (ps.zip us))
    (a : PySem.W.nsIn K mainGlobals x = some (some (.ref f))) (l : K.lookup f = some ⟨oc, od, .func (PySem.W.fnOf x x (defArgs st) (defBody st) (defScope st) .none kV doc pm an cdv ct), sl⟩) (c : PySem.W.codeIn K cdv x = true) (k : PySem.W.keepIn K (.ref f) = true) : DefOk mg K x st ps :=
  ⟨f, _, fun_mk l c k, PySem.W.mg_of X G a, (fun_mk l c k).binds hb, hb kV doc pm an cdv ct⟩
theorem mkCon {mg : Str → Option Value} {K : PySem.W.Frag} {h : Heap} {n : Str} {i : Int} {t : Tok} (X : K.In h) (G : h.Ns mainGlobals mg) (e : PySem.W.nsIn K mainGlobals n = some (some (.int i t))) : ∃ t, mg n = some (.int i t) := ⟨t, PySem.W.mg_of X G e⟩
/-- the law's own promise: any script of at most 63 ints gives True -/
def spLaw (K : PySem.W.Frag) : Sp := fun vs H Q _ => ∃ (a : Addr) (ns : List Int), vs = [.ref a] ∧ SqL K H a (ns.map V.int) ∧ ns.length ≤ 63 ∧ LamX.Tabs TabCtx.T H ∧ ∀ H', Q (.bl true) H'
theorem spLaw_of {mg : Str → Option Value} {K : PySem.W.Frag} {g : PF} (h : ∀ ns : List Int, ns.length ≤ 63 → g [.scr ns] = .ok (.bl true)) (vs : List V) (H : Hp) (Q : VK) (E : XK) (s : spLaw K vs H Q E) : spP mg K 1 g vs H Q E := by
  obtain ⟨a, ns, rfl, hS, hl, hT, q⟩ := s
  have e : hid H [] = H := by funext p; unfold hid; rw [if_neg (by simp)]
  refine ⟨rfl, [], [.scr ns], StOk.bare (fun _ h => nomatch h) hT (fun _ h => nomatch h), .cons (.scr (by rw [e]; exact hS)) .nil, ?_⟩
  rw [h ns hl]
  intro v H' θ' st r
  cases r with
  | d r => cases r; exact q H'
end DL

set_option Elab.async false
set_option linter.all false
set_option maxRecDepth 100000
set_option maxHeartbeats 1000000
/-! DLClo: functions handed on, at the level of data; defs that errors leave -/
namespace DL
open PySem PySem.Spec PyProof.Rows L2 LamX NdefX
variable [TabCtx]

/-! ### defs that errors may leave -/
/-- a def of data -/
def fnPx (nl : Nat) (body : SF) : PF := fun ds => match body (rho0 nl (ds.map Sl.d)) [] with
  | .rt s μ => match dr μ s with
    | some d => .ok d
    | none => .no
  | .nx _ _ => .ok .non
  | .ex x _ _ => .ex x
  | _ => .no
def fnMx (nl : Nat) (body : SF) : MF := fun ss μ => match body (rho0 nl ss) μ with
  | .rt s μ' => .ok s μ'
  | .nx _ μ' => .ok (.d .non) μ'
  | .ex x _ μ' => .ex x μ'
  | _ => .no
theorem XRep.drop {mg : Str → Option Value} {K : PySem.W.Frag} {H : Hp} {θ η : List Addr} {x : Exn} {cv : Value} {dd : Option Addr} (h : XRep mg K H (hid H (θ ++ η)) x cv dd) : XRep mg K H (hid H ([] ++ η)) x cv dd := by
  obtain ⟨C, h1, h2, h3⟩ := h
  refine ⟨C, h1, h2, ?_⟩
  cases e : x.fs with
  | none => rw [e] at h3; exact h3
  | some fs =>
    rw [e] at h3
    obtain ⟨d, fvs, a, b, c⟩ := h3
    exact ⟨d, fvs, a, b, c.ext Ext.drop⟩
theorem fnPx_read {mg : Str → Option Value} {K : PySem.W.Frag} {n : Nat} {N : List Str} {body : SF} {vs : List V} {H : Hp} {Q : VK} {E : XK} (h : spP mg K n (fnPx (N.length - n) body) vs H Q E) :
    tSD mg K (fun c d _ H => E c d H) body { nx := fun _ H' => Q .non H', rt := Q } (L2.start N vs) H := by
  obtain ⟨hn, η, ds, ok, l, fin⟩ := h
  subst hn
  refine ⟨η, [], [], rho0 (N.length - vs.length) (ds.map Sl.d), ok, rep0 l.toA, ?_⟩
  unfold fnPx at fin
  split at fin
  · rename_i s μ e
    rw [e]
    split at fin
    · rename_i d ed
      exact fun v H' θ' st r => fin v H' [] st.forget (.d (dr_free st.ok r ed))
    · exact fin.elim
  · rename_i e
    rw [e]
    exact fun v H' θ' st r => fin _ H' [] st.forget (.d .non)
  · rename_i e
    rw [e]
    exact fun cv dd σ' H' θ' st rs xr => fin cv dd H' [] st.forget xr.drop
  · exact fin.elim
theorem fnMx_read {mg : Str → Option Value} {K : PySem.W.Frag} {n : Nat} {N : List Str} {body : SF} {vs : List V} {H : Hp} {Q : VK} {E : XK} (h : spM mg K n (fnMx (N.length - n) body) vs H Q E) :
    tSD mg K (fun c d _ H => E c d H) body { nx := fun _ H' => Q .non H', rt := Q } (L2.start N vs) H := by
  obtain ⟨hn, η, θ, μ, ss, ok, l, fin⟩ := h
  subst hn
  refine ⟨η, θ, μ, rho0 (N.length - vs.length) ss, ok, rep0 l, ?_⟩
  unfold fnMx at fin
  split at fin
  · rename_i s μ e
    rw [e]
    exact fun v H' θ' st r => fin v H' θ' st r
  · rename_i e
    rw [e]
    exact fun v H' θ' st r => fin _ H' θ' st (.d .non)
  · rename_i e
    rw [e]
    exact fun cv dd σ' H' θ' st rs xr => fin cv dd H' θ' st xr
  · exact fin.elim
abbrev CXr (P : Program) (w : World) : CXT := L2N.CX P w
section
variable {P : Program} {w : World} {K : PySem.W.Frag} {mg : Str → Option Value} {base : Heap}
theorem silX (X : Cx) : ∀ (Y : Cx) (σ : L2.St), Y.prog = X.prog → Y.w = X.w → PassesAt (L2N.CX X.prog X.w) Y σ (fun _ _ _ => False) := fun Y σ h1 h2 pins H s e s' I c => by
  obtain ⟨a, B, H', cls, d, _, _, _, _, _, _, _, z⟩ := c
  exact z.elim
/-- a frame whose way out for errors is E -/
structure CxE (X : Cx) (W : WXD) (k : Nat) : Prop extends Cxt X (L2N.CX X.prog X.w) W k where
  tk : L2N.Takes X W
  hs : X.stack = X.env :: X.outer
  hf : X.env.frame = some X.env.locals
abbrev WE (E : XK) : WXD := fun c d _ H => E c d H
theorem cxtX {N ps : List Str} {qual : Str} {sc : Scope} {f : Addr} {cdv : Value} {A : Around} {outer : List Env} {s : Shared} {H : Hp} {E : XK} {k : Nat} (S : FnScope N ps sc) (hr : Room k (A.deeper (envOfC qual sc s.heap.objs.size f cdv))) :
    CxE (cxOf (L2N.CX P w) P w K mg base N qual sc f cdv A outer s H E) (WE E) k :=
  have tk : L2N.Takes (cxOf (L2N.CX P w) P w K mg base N qual sc f cdv A outer s H E) (WE E) := L2N.takes_of rfl rfl rfl rfl
  { calm := rfl, nd := S.nd, pas := fun σ => L2N.passAt tk σ, room := hr, sil := fun Y σ h1 h2 => silX (cxOf (L2N.CX P w) P w K mg base N qual sc f cdv A outer s H E) Y σ h1 h2, own := passes_of rfl, tk := tk, hs := rfl, hf := rfl }
theorem fx_ok {x qual : Str} {st : Stmt} {f : Addr} {fd : FuncData} {N ps : List Str} {k : Nat} {sp : Sp} (F : Fun K x qual st f fd) (S : FnScope N ps (defScope st)) (len : ∀ vs H Q E, sp vs H Q E → vs.length = ps.length)
    (hbody : ∀ (cdv : Value) (A : Around) (outer : List Env) (s : Shared) (H : Hp) (vs : List V) (Q : VK) (E : XK), fd.code = cdv → Room k (A.deeper (envOfC qual (defScope st) s.heap.objs.size f cdv)) → sp vs H Q E →
      ∃ t, PSs (cxOf (CXr P w) P w K mg base N qual (defScope st) f cdv A outer s H E) (defBody st) t ∧ t { nx := fun _ H' => Q .non H', rt := Q } (L2.start N vs) H) : FnOk P w K mg base (CXr P w) (k + 1) f fd ps sp := by
  obtain ⟨oc, od, kV, doc, pm, an, cdv, ct, osl, rfl, lk, hcd⟩ := F.ex
  exact fn_of lk hcd S len fun A outer s H vs Q E hr hsp => hbody cdv A outer s H vs Q E rfl hr hsp
theorem fx_okP {x qual : Str} {st : Stmt} {f : Addr} {fd : FuncData} {N ps : List Str} {k n : Nat} {body : SF} (F : Fun K x qual st f fd) (S : FnScope N ps (defScope st)) (hn : n = ps.length)
    (hb : ∀ (cdv : Value) (A : Around) (outer : List Env) (s : Shared) (H : Hp) (E : XK), fd.code = cdv → CxE (cxOf (CXr P w) P w K mg base N qual (defScope st) f cdv A outer s H E) (WE E) k → PSsd (cxOf (CXr P w) P w K mg base N qual (defScope st) f cdv A outer s H E) (WE E) (defBody st) body) :
    FnOk P w K mg base (CXr P w) (k + 1) f fd ps (spP mg K n (fnPx (N.length - n) body)) :=
  fx_ok F S (fun vs H Q E h => h.1.trans hn) fun cdv A outer s H vs Q E hc hr h => ⟨_, hb cdv A outer s H E hc (cxtX S hr), fnPx_read h⟩
theorem fx_okM {x qual : Str} {st : Stmt} {f : Addr} {fd : FuncData} {N ps : List Str} {k n : Nat} {body : SF} (F : Fun K x qual st f fd) (S : FnScope N ps (defScope st)) (hn : n = ps.length)
    (hb : ∀ (cdv : Value) (A : Around) (outer : List Env) (s : Shared) (H : Hp) (E : XK), fd.code = cdv → CxE (cxOf (CXr P w) P w K mg base N qual (defScope st) f cdv A outer s H E) (WE E) k → PSsd (cxOf (CXr P w) P w K mg base N qual (defScope st) f cdv A outer s H E) (WE E) (defBody st) body) :
    FnOk P w K mg base (CXr P w) (k + 1) f fd ps (spM mg K n (fnMx (N.length - n) body)) :=
  fx_ok F S (fun vs H Q E h => h.1.trans hn) fun cdv A outer s H vs Q E hc hr h => ⟨_, hb cdv A outer s H E hc (cxtX S hr), fnMx_read h⟩
end
theorem CxE.c {X : Cx} {W : WXD} {k : Nat} (C : CxE X W k) : Cxt X (L2N.CX X.prog X.w) W k := C.toCxt
theorem CxE.b {X : Cx} {W : WXD} {k : Nat} (C : CxE X W k) : Cxb X (L2N.CX X.prog X.w) W k := C.toCxt.toCxb

/-! ### functions handed on -/
/-- what is promised of the function that the token t tells -/
def spC (mg : Str → Option Value) (K : PySem.W.Frag) (n : Nat) (t : CTok) (f : MF) : Sp := fun vs H Q E => vs.length = n ∧ ∃ η θ μ ss, StOk mg K η H θ μ ∧ Ext t.G (hid H (θ ++ η)) ∧ Pre t.θ θ ∧ RepA mg K (hid H (θ ++ η)) θ ss vs ∧ Fin mg K E η H θ (RepSl mg K) (f ss μ) Q
structure CloOk (P : Program) (w : World) (K : PySem.W.Frag) (mg : Str → Option Value) (base : Heap) (k n : Nat) (t : CTok) (f : MF) : Prop where
  ex : ∃ (oc : Value) (od : Option Addr) (fd : FuncData) (sl : Array (Option Value)) (ps : List Str), base.get? t.f = some ⟨oc, od, .func fd, sl⟩ ∧ ps.length = n ∧ (∀ (s : Shared) (us : List Value), K.In s.heap → us.length = ps.length → BindsTo s fd ⟨us, []⟩ (ps.zip us)) ∧
    ∀ base', Sub base base' → Mod K mg base' → FnOk P w K mg base' (CXr P w) k t.f fd ps (spC mg K n t f)
theorem CloOk.sub {P : Program} {w : World} {K : PySem.W.Frag} {mg : Str → Option Value} {base base' : Heap} {k n : Nat} {t : CTok} {f : MF} (c : CloOk P w K mg base k n t f) (h : Sub base base') : CloOk P w K mg base' k n t f := by
  obtain ⟨oc, od, fd, sl, ps, h1, h2, h3, h4⟩ := c.ex
  exact ⟨oc, od, fd, sl, ps, h _ _ h1, h2, h3, fun b s m => h4 b (h.trans s) m⟩
open Classical in
/-- the name at i, called: it holds the function of the token t -/
noncomputable def eAct (i n : Nat) (t : CTok) (f : MF) (fa : AF) : EF := fun ρ μ => match ρ[i]? with
  | some (some (.clo t')) => if t' = t then (fa ρ μ).bind fun ss μ1 => if ss.length = n then f ss μ1 else .no else .no
  | _ => .no
section
variable {X : Cx} {W : WXD} {k j n : Nat}
theorem pd_act {t : CTok} {f : MF} {x : Str} {e : Expr} {es : List Expr} {fa : AF} {p pos : Pos} (C : Cxb X (L2N.CX X.prog X.w) W k) (c : CloOk X.prog X.w X.K X.mg X.base j n t f) (hj : j ≤ k) (hm : Mod X.K X.mg X.base) (i : Nat) (ha : PAd X W (e :: es) fa) (hN : X.N[i]? = some x := by rfl) (hv : Vis X.env.scope x := by first | exact Or.inl rfl | exact Or.inr (Or.inl rfl) | exact Or.inr (Or.inr rfl))
    (hd : (x == ("__debug__" : Str)) = false := by decide) (hcd : (x == ("__classdict__" : Str)) = false := by decide) (he : starEach (e :: es) X.env = (false, eval e X.env) :: starEach es X.env := by rfl) (hpl : (backTo pos (starEach es X.env)).any (·.1) = false := by rfl) :
    PEd X W (.Call (.Name x p) (e :: es) [] pos) (eAct i n t f fa) := by
  obtain ⟨oc, od, fd, sl, ps, h1, h2, h3, h4⟩ := c.ex
  refine PE.imp (pe_callB1 (i := i) (E := fun σ c d H => W c d σ H) (h4 X.base (Sub.refl _) hm) h1 (C.room.mono hj) h3 C.pas hN hv ha hd hcd he hpl) fun σ H Q h => ?_
  obtain ⟨η, θ, μ, ρ, ok, rs, fin⟩ := h
  unfold eAct at fin
  split at fin
  · rename_i t' e1
    split at fin
    · rename_i et
      subst et
      obtain ⟨v, h5, h6⟩ := rs.at_ i _ e1
      cases h6 with
      | clo g1 g2 =>
        refine ⟨h5, η, θ, μ, ρ, ok, rs, fin.andThen fun ss μ1 vs H1 θ1 _ st rx fin1 => ?_⟩
        split at fin1
        · rename_i hn
          exact ⟨rx.length.symm.trans hn, η, θ1, μ1, ss, st.ok, g1.trans st.ext, g2.trans st.pre, rx, fin1⟩
        · exact fin1.elim
    · exact fin.elim
  · exact fin.elim
theorem pd_act0 {t : CTok} {f : MF} {x : Str} {p pos : Pos} (C : Cxb X (L2N.CX X.prog X.w) W k) (c : CloOk X.prog X.w X.K X.mg X.base j 0 t f) (hj : j ≤ k) (hm : Mod X.K X.mg X.base) (i : Nat) (hN : X.N[i]? = some x := by rfl) (hv : Vis X.env.scope x := by first | exact Or.inl rfl | exact Or.inr (Or.inl rfl) | exact Or.inr (Or.inr rfl))
    (hd : (x == ("__debug__" : Str)) = false := by decide) (hcd : (x == ("__classdict__" : Str)) = false := by decide) :
    PEd X W (.Call (.Name x p) [] [] pos) (eAct i 0 t f aNil) := by
  obtain ⟨oc, od, fd, sl, ps, h1, h2, h3, h4⟩ := c.ex
  refine PE.imp (pe_callB0 (i := i) (E := fun σ c d H => W c d σ H) (h4 X.base (Sub.refl _) hm) h1 (C.room.mono hj) h3 C.pas hN hv hd hcd) fun σ H Q h => ?_
  obtain ⟨η, θ, μ, ρ, ok, rs, fin⟩ := h
  unfold eAct at fin
  split at fin
  · rename_i t' e1
    split at fin
    · rename_i et
      subst et
      obtain ⟨v, h5, h6⟩ := rs.at_ i _ e1
      cases h6 with
      | clo g1 g2 => exact ⟨h5, rfl, η, θ, μ, [], ok, g1, g2, .nil, fin⟩
    · exact fin.elim
  · exact fin.elim
end
/-! the lambda -/
/-- its frame: the parameters, then what it captured -/
def lamR (js : List Nat) (ρ : Rho) (ss : List Sl) : Rho := ss.map some ++ js.map fun j => (ρ[j]?).join
def lamM (n : Nat) (js : List Nat) (ρ : Rho) (fE : EF) : MF := fun ss μ => if ss.length = n then fE (lamR js ρ ss) μ else .no
theorem slot_rep {mg : Str → Option Value} {K : PySem.W.Frag} {G : Hp} {θ : List Addr} {ρ : Rho} {σ : L2.St} (h : RepS mg K G θ ρ σ) {j : Nat} {s : Sl} (e : (ρ[j]?).join = some s) : ∃ v, slotAt σ j = some v ∧ RepSl mg K G θ s v := by
  cases e1 : ρ[j]? with
  | none => rw [e1] at e; cases e
  | some o =>
    rw [e1] at e
    have e : o = some s := e
    subst e
    obtain ⟨v, h1, h2⟩ := h.at_ j s e1
    exact ⟨v, slotAt_of h1, h2⟩
theorem lam_rep {mg : Str → Option Value} {K : PySem.W.Frag} {G G' : Hp} {θ θ' : List Addr} {ρ : Rho} {σ : L2.St} {js : List Nat} {ss : List Sl} {vs : List V} {N : List Str} (h : RepS mg K G θ ρ σ) (e : Ext G G') (p : Pre θ θ') (l : RepA mg K G' θ' ss vs) (hN : N.length = vs.length + js.length) :
    RepS mg K G' θ' (lamR js ρ ss) (startF N vs (js.map (slotAt σ))) := by
  unfold lamR startF
  rw [hN, List.length_map, show vs.length + js.length - vs.length - js.length = 0 by omega, List.replicate_zero, List.append_nil]
  refine ⟨by simp [l.length], fun i d q => ?_⟩
  by_cases hi : i < ss.length
  · rw [List.getElem?_append_left (by simpa using hi), List.getElem?_map] at q
    obtain ⟨s, h1, h2⟩ := Option.map_eq_some_iff.mp q
    cases h2
    obtain ⟨v, h3, h4⟩ := l.get i h1
    exact ⟨v, by rw [List.getElem?_append_left (by rw [List.length_map, ← l.length]; exact hi), List.getElem?_map, h3]; rfl, h4⟩
  · have hi : ss.length ≤ i := Nat.le_of_not_lt hi
    rw [List.getElem?_append_right (by simpa using hi), List.length_map, List.getElem?_map] at q
    obtain ⟨j, h1, h2⟩ := Option.map_eq_some_iff.mp q
    obtain ⟨v, h3, h4⟩ := slot_rep h h2
    refine ⟨v, ?_, h4.ext e p⟩
    rw [List.getElem?_append_right (by rw [List.length_map, ← l.length]; exact hi), List.length_map, List.getElem?_map, ← l.length, h1]
    exact congrArg some h3
theorem cxtL {P : Program} {w : World} {K : PySem.W.Frag} {mg : Str → Option Value} {base : Heap} {N ps fr : List Str} {F : NF} {f : Addr} {A : Around} {outer : List Env} {s : Shared} {H : Hp} {E : XK} {k : Nat} (S : NScope N ps fr F.scope) (hr : Room k (A.deeper (envF F f s.heap.objs.size))) :
    CxE (ncx (L2N.CX P w) P w K mg base N F f A outer s H E) (WE E) k :=
  have tk : L2N.Takes (ncx (L2N.CX P w) P w K mg base N F f A outer s H E) (WE E) := L2N.takes_of rfl rfl rfl rfl
  { calm := rfl, nd := S.nd, pas := fun σ => L2N.passAt tk σ, room := hr, sil := fun Y σ h1 h2 => silX (ncx (L2N.CX P w) P w K mg base N F f A outer s H E) Y σ h1 h2, own := passes_of rfl, tk := tk, hs := rfl, hf := rfl }
/-- the body of a lambda, wherever it is called -/
def LamBody (X : Cx) (params : Arguments) (body : Expr) (scope : Scope) (N : List Str) (k : Nat) (fE : EF) (base : Heap) : Prop :=
  ∀ (c' f : Addr) (base' : Heap) (A : Around) (outer : List Env) (s : Shared) (H : Hp) (E : XK), Sub base base' → Mod X.K X.mg base' →
    CxE (ncx (L2N.CX X.prog X.w) X.prog X.w X.K X.mg base' N (lamF X params scope c') f A outer s H E) (WE E) k → PEd (ncx (L2N.CX X.prog X.w) X.prog X.w X.K X.mg base' N (lamF X params scope c') f A outer s H E) (WE E) body fE
theorem clo_lam {X : Cx} {f c' : Addr} {base' : Heap} {params : Arguments} {body : Expr} {scope : Scope} {N ps fr : List Str} {js : List Nat} {k n : Nat} {ρ : Rho} {σ : L2.St} {η θ : List Addr} {H : Hp} {fE : EF}
    (S : NScope N ps fr scope) (hN : N.length = ps.length + js.length) (hn : ps.length = n) (cb : CloB base' params body (lamF X params scope c') fr f (js.map (slotAt σ)))
    (hb : ∀ (q : Str) (cl : List (Str × Addr)) (pm cv ctv : Value) (us : List Value), us.length = ps.length → bindArgs (PySem.W.kla_fn "<lambda>" q params body scope cl pm cv ctv) ⟨us, []⟩ = pure (ps.zip us))
    (rs : RepS X.mg X.K (hid H (θ ++ η)) θ ρ σ) (hc : hid H (θ ++ η) c' = some (CodeO c' (X.env.qual ++ "<lambda>"))) (hbody : LamBody X params body scope N k fE base') :
    CloOk X.prog X.w X.K X.mg base' (k + 1) n ⟨f, hid H (θ ++ η), θ⟩ (lamM n js ρ fE) := by
  obtain ⟨⟨pm, ctv, ob⟩, ca⟩ := cb
  refine ⟨_, _, _, _, ps, ob, hn, fun s us _ hl => .of_eq (hb _ _ _ _ _ us hl), fun b2 sb m2 => ?_⟩
  refine lam_ok (N := N) (fr := fr) (ws := js.map (slotAt σ)) (F := lamF X params scope c') S (sb _ _ ob) (CellsAt.sub ca sb fun _ _ _ => rfl) (fun vs H Q E h => h.1.trans hn.symm) (fun vs H1 Q E h => ?_) fun A outer s H1 vs Q E hr h => ?_
  · obtain ⟨_, η1, θ1, μ1, ss, ok, g1, _⟩ := h
    exact (hid_some (g1 _ _ hc fun ps z => codeO_ne ps z)).2
  · refine ⟨_, hbody c' f b2 A outer s H1 E sb m2 (cxtL S hr), ?_⟩
    obtain ⟨hv, η1, θ1, μ1, ss, ok, g1, g2, l, fin⟩ := h
    refine ⟨η1, θ1, μ1, lamR js ρ ss, ok, lam_rep rs g1 g2 l (by rw [hN, hn, hv]), ?_⟩
    unfold lamM at fin
    rw [if_pos (l.length.trans hv)] at fin
    exact fin

/-! arguments with a lambda among them -/
abbrev XF := Rho → Store → Res (List Sl × List Sl)
def xLam (fr : AF) : XF := fun ρ μ => (fr ρ μ).bind fun ys μ1 => .ok ([], ys) μ1
def xCons (fa : EF) (fx : XF) : XF := fun ρ μ => (fa ρ μ).bind fun x μ1 => (fx ρ μ1).bind fun p μ2 => .ok (x :: p.1, p.2) μ2
def RepX (mg : Str → Option Value) (K : PySem.W.Frag) (q : Str) (G : Hp) (θ : List Addr) (p : List Sl × List Sl) (v : Addr × Addr × List V) : Prop :=
  ∃ us ws, v.2.2 = us ++ .ref v.1 :: ws ∧ RepA mg K G θ p.1 us ∧ RepA mg K G θ p.2 ws ∧ G v.2.1 = some (CodeO v.2.1 q)
def tXD (mg : Str → Option Value) (K : PySem.W.Frag) (W : WXD) (q : Str) (fx : XF) : TX := fun σ H Q => ∃ η θ μ ρ, StOk mg K η H θ μ ∧ RepS mg K (hid H (θ ++ η)) θ ρ σ ∧ Fin mg K (fun c d => W c d σ) η H θ (RepX mg K q) (fx ρ μ) (fun v H' => Q v.1 v.2.1 v.2.2 H')
def PXd (X : Cx) (W : WXD) (params : Arguments) (body : Expr) (scope : Scope) (es : List Expr) (fx : XF) : Prop := PX X params body scope es (tXD X.mg X.K W (X.env.qual ++ "<lambda>") fx)
section
variable {X : Cx} {W : WXD} {params : Arguments} {body : Expr} {scope : Scope} {es : List Expr}
theorem PX.imp {t t' : TX} (h : PX X params body scope es t) (k : ∀ σ H Q, t' σ H Q → t σ H Q) : PX X params body scope es t' := ⟨fun pos pins s σ H Q I q => h.run pos pins s σ H Q I (k σ H Q q)⟩
theorem pxd_cons {e : Expr} {fa : EF} {fx : XF} (ha : PEd X W e fa) (hr : PXd X W params body scope es fx) (hs : starEach (e :: es) X.env = (false, eval e X.env) :: starEach es X.env := by rfl) : PXd X W params body scope (e :: es) (xCons fa fx) := by
  refine PX.imp (px_cons ha hr hs) fun σ H Q h => ?_
  obtain ⟨η, θ, μ, ρ, ok, rs, fin⟩ := h
  refine ⟨η, θ, μ, ρ, ok, rs, fin.andThen fun dx μ1 x H1 θ1 _ st rx fin1 => ⟨η, θ1, μ1, ρ, st.ok, rs.step st, fin1.andThen ?_⟩⟩
  rintro p μ2 ⟨f, c', vs⟩ H2 θ2 _ st2 ⟨us, ws, e1, r1, r2, hc⟩ fin2
  refine fin2.done (a := (dx :: p.1, p.2)) (v := (f, c', x :: vs)) (Step.refl st2.ok) ⟨x :: us, ws, by rw [show vs = us ++ .ref f :: ws from e1]; rfl, .cons (rx.step st2) r1, r2, hc⟩
theorem StOk.lam {mg : Str → Option Value} {K : PySem.W.Frag} {η θ : List Addr} {H H1 : Hp} {μ : Store} (s : StOk mg K η H θ μ) (e : ExtN H H1) (t : Tabs TabCtx.T H1) : Step mg K η H θ H1 θ μ := by
  have kp : ∀ p, p ∈ θ ++ η → H1 p = H p := fun p hp => by
    cases eq : H p with
    | none => exact absurd eq (s.trk p hp)
    | some o => exact e p o eq (s.plain hp o eq).1
  have ex : Ext (hid H (θ ++ η)) (hid H1 (θ ++ η)) := fun p o q n => by
    obtain ⟨q1, q2⟩ := hid_some q
    rw [hid_out q1]
    exact e p o q2 n
  refine ⟨ex, Pre.refl _, fun p hp => kp p (List.mem_append_right _ hp), ⟨fun p hp => ?_, s.len, s.nd, s.dj, fun n a o h1 h2 => ?_, t, fun p hp u q => s.pl p hp u ?_⟩⟩
  · rw [kp p (List.mem_append_right _ hp)]; exact s.dom p hp
  · exact (s.at_ n a o h1 h2).ext ex (kp a (List.mem_append_left _ (List.mem_of_getElem? h1)))
  · rw [← q, kp p (List.mem_append_right _ hp)]
theorem pxd_lam {c P : Addr} {fr : AF} {lpos : Pos} (TB : TabB X.base X.mg c P) (hcode : X.env.code = .ref c) (hmT : (P, X.env.qual ++ "<lambda>") ∈ TabCtx.T) (hu : ∀ p ∈ TabCtx.T, p.1 = P → p.2 = X.env.qual ++ "<lambda>")
    (hfree : ∀ y ∈ scope.names, y.2 = .free → X.env.scope.names.lookup y.1 = some .cell ∨ X.env.scope.names.lookup y.1 = some .free) (hdef : defaultsOf params X.env = ([], []) := by rfl)
    (hr : PAd X W es fr) (hs : starEach (.Lambda params body scope lpos :: es) X.env = (false, eval (.Lambda params body scope lpos) X.env) :: starEach es X.env := by rfl) : PXd X W params body scope (.Lambda params body scope lpos :: es) (xLam fr) := by
  refine PX.imp (px_lam TB hcode hmT hu hfree hdef hr hs) fun σ H Q h => ?_
  obtain ⟨η, θ, μ, ρ, ok, rs, fin⟩ := h
  refine ⟨ok.tab, fun f c' H1 eN T1 _ hco => ?_⟩
  have st := ok.lam eN T1
  refine ⟨η, θ, μ, ρ, st.ok, rs.step st, (Fin.rebase st fin).andThen fun ys μ1 ws H2 θ2 _ st2 rx fin2 => ?_⟩
  refine fin2.done (a := ([], ys)) (v := (f, c', .ref f :: ws)) (Step.refl st2.ok) ⟨[], ws, rfl, .nil, rx, ?_⟩
  refine st2.ext _ _ ?_ fun ps z => codeO_ne ps z
  rw [hid_out fun m => (st.ok.plain m _ hco).2 _ rfl]
  exact hco
end
open Classical in
/-- what all tokens give -/
noncomputable def uni (F : CTok → Res Sl) : Res Sl := if h : ∃ r, ∀ t, F t = r then h.choose else .no
theorem uni_eq {F : CTok → Res Sl} {r : Res Sl} (h : ∀ t, F t = r) : uni F = r := by
  have hx : ∃ r, ∀ t, F t = r := ⟨r, h⟩
  unfold uni
  rw [dif_pos hx, ← hx.choose_spec ⟨0, fun _ => none, []⟩]
  exact h _
theorem uni_at (F : CTok → Res Sl) (t : CTok) : uni F = .no ∨ uni F = F t := by
  unfold uni
  split
  · rename_i h; exact .inr (h.choose_spec t).symm
  · exact .inl rfl
noncomputable def eCallH (n : Nat) (g : CTok → MF → MF) (fx : XF) (m : Nat) (js : List Nat) (fE : EF) : EF := fun ρ μ => (fx ρ μ).bind fun p μ1 =>
  if p.1.length + p.2.length + 1 = n then uni fun t => g t (lamM m js ρ fE) (p.1 ++ .clo t :: p.2) μ1 else .no
section
variable {X : Cx} {W : WXD} {k j n m kf : Nat} {f : Addr} {fd : FuncData} {ps : List Str}
theorem RepA.app {mg : Str → Option Value} {K : PySem.W.Frag} {G : Hp} {θ : List Addr} : ∀ {a b : List Sl} {us ws : List V}, RepA mg K G θ a us → RepA mg K G θ b ws → RepA mg K G θ (a ++ b) (us ++ ws)
  | _, _, _, _, .nil, h => h
  | _, _, _, _, .cons h l, k => .cons h (RepA.app l k)
theorem pd_callHL {g : CTok → MF → MF} {params : Arguments} {body : Expr} {scope : Scope} {N ps' fr : List Str} {js : List Nat} {fE : EF} {fx : XF} {x : Str} {e : Expr} {es : List Expr} {p pos : Pos} (C : Cxb X (L2N.CX X.prog X.w) W k) (nf : CellNf X)
    (F : ∀ t φ base', Mod X.K X.mg base' → Sub X.base base' → CloOk X.prog X.w X.K X.mg base' (kf + 1) m t φ → FnOk X.prog X.w X.K X.mg base' (CXr X.prog X.w) j f fd ps (spM X.mg X.K n (g t φ))) (hj : j ≤ k) (hps : ps.length = n) (hg : Gl X x) (hm : X.mg x = some (.ref f)) (hk : PySem.W.keepIn X.K (.ref f) = true) (hb : Binds X.K fd ps [])
    (S : NScope N ps' fr scope) (hN : N.length = ps'.length + js.length) (hn : ps'.length = m) (hfr : ndefB X.env.scope scope fr = true) (hjs : js.map (fun j => X.N[j]?) = fr.map some)
    (hbl : ∀ (q : Str) (cl : List (Str × Addr)) (pm cv ctv : Value) (us : List Value), us.length = ps'.length → bindArgs (PySem.W.kla_fn "<lambda>" q params body scope cl pm cv ctv) ⟨us, []⟩ = pure (ps'.zip us))
    (hbody : LamBody X params body scope N kf fE X.base) (hx : PXd X W params body scope (e :: es) fx)
    (hdb : (x == ("__debug__" : Str)) = false := by decide) (he : starEach (e :: es) X.env = (false, eval e X.env) :: starEach es X.env := by rfl) (hpl : (backTo pos (starEach es X.env)).any (·.1) = false := by rfl) :
    PEd X W (.Call (.Name x p) (e :: es) [] pos) (eCallH n g fx m js fE) := by
  refine PE.imp (pe_callX (E := fun σ c d H => W c d σ H) (fr := fr) (js := js) (k := k)
    (sp := fun f' c' ws vs H Q E => ∃ t φ, (∀ base', Sub X.base base' → Mod X.K X.mg base' → CloB base' params body (lamF X params scope c') fr f' ws → CloOk X.prog X.w X.K X.mg base' (kf + 1) m t φ) ∧ spM X.mg X.K n (g t φ) vs H Q E)
    (fun f' c' ws base' sb m2 cb => ⟨fun vs H Q E ⟨t, φ, _, h⟩ => h.1.trans hps.symm, fun A outer s H args us vs Q E hr e0 bt vl ⟨t, φ, hc, h⟩ => (F t φ base' m2 sb (hc base' sb m2 cb)).run A outer s H args us vs Q E (hr.mono hj) e0 bt vl h⟩)
    C.room nf (fun ok => Caps.made ok (ndef_free hfr) (ndef_fr hfr) hjs) hg hm hk hb C.pas hx hdb he hpl) fun σ H Q h => ?_
  obtain ⟨η, θ, μ, ρ, ok, rs, fin⟩ := h
  refine ⟨η, θ, μ, ρ, ok, rs, fin.andThen ?_⟩
  rintro ⟨xs, ys⟩ μ1 ⟨f', c', vs⟩ H1 θ1 _ st ⟨us, ws, e1, r1, r2, hc⟩ fin1
  have e1 : vs = us ++ .ref f' :: ws := e1
  subst e1
  split at fin1
  · rename_i hl
    refine ⟨⟨f', hid H1 (θ1 ++ η), θ1⟩, lamM m js ρ fE, fun base' sb m2 cb => clo_lam S hN hn cb hbl (rs.step st) hc fun c2 f2 b2 A outer s H2 E s2 m3 => hbody c2 f2 b2 A outer s H2 E (sb.trans s2) m3, ?_⟩
    refine ⟨?_, η, θ1, μ1, xs ++ .clo ⟨f', hid H1 (θ1 ++ η), θ1⟩ :: ys, st.ok, RepA.app r1 (.cons (.clo (Ext.refl _) (Pre.refl _)) r2), ?_⟩
    · have h1 := r1.length
      have h2 := r2.length
      simp only [List.length_append, List.length_cons, ← h1, ← h2]
      have hl : xs.length + ys.length + 1 = n := hl
      omega
    · rcases uni_at (fun t => g t (lamM m js ρ fE) (xs ++ .clo t :: ys) μ1) ⟨f', hid H1 (θ1 ++ η), θ1⟩ with z | z
      · rw [z] at fin1; exact fin1.elim
      · rw [z] at fin1; exact fin1
  · exact fin1.elim
end
end DL

set_option Elab.async false
set_option linter.all false
set_option maxRecDepth 100000
set_option maxHeartbeats 1000000
/-! DLGen: comprehensions in any surroundings (also while an exception is handled), and what is known where the block begins -/
namespace DL
open PySem PySem.Spec PyProof.Rows L2 LamX NdefX

abbrev Pins := List (Addr × Obj)
/-- a walk's turns, in the surroundings that Cn admits -/
structure TurnG (P : Program) (w : World) (K : PySem.W.Frag) (tg : Expr) (Cn : Cx → Pins → Prop) (J : It) (fp : List Addr) (it : Addr) (tn : Nat → Heap → Prop) : Prop where
  mem : it ∈ fp
  obj : ∀ i h, tn i h → ∀ b ∈ fp, ∃ o, h.get? b = some o ∧ ∀ v, o.data ≠ .cell v
  keep : ∀ i h h', tn i h → (∀ b ∈ fp, ∀ o, h.get? b = some o → h'.get? b = some o) → tn i h'
  item : ∀ (Y : Cx), Y.prog = P → Y.w = w → Y.K = K → ∀ (i : Nat) (pins : Pins), Cn Y pins → ∀ (s : Shared) (σ : L2.St) (H : Hp) (E : Value → Shared → Prop), Inv Y pins σ H s → (∀ b ∈ fp, FpOk Y pins H b) → tn i s.heap → J.go i H →
    wpAny (model P w) Y.A (pyNext (.ref it)) (fun r s1 => ∃ u, r = some u ∧ wpAny (model P w) Y.A (letOwnedTupleGo tg (.ref it) u)
      (fun _ s2 => ∃ x H', Inv Y pins σ H' s2 ∧ RelV x u ∧ J.yld i H x H' ∧ tn (i + 1) s2.heap ∧ ∀ b ∈ fp, H' b = none) E s1) E s
  done : ∀ (Y : Cx), Y.prog = P → Y.w = w → Y.K = K → ∀ (i : Nat) (pins : Pins), Cn Y pins → ∀ (s : Shared) (σ : L2.St) (H : Hp) (E : Value → Shared → Prop), Inv Y pins σ H s → (∀ b ∈ fp, FpOk Y pins H b) → tn i s.heap → J.stop i H →
    wpAny (model P w) Y.A (pyNext (.ref it)) (fun r s1 => r = none ∧ Inv Y pins σ H s1) E s
  self : ∀ (A : Around) (i : Nat) (s : Shared) (Q : Value → Shared → Prop) (E : Value → Shared → Prop), tn i s.heap → Q (.ref it) s → wpAny (model P w) A (pyIter (.ref it)) Q E s
structure PIG (X : Cx) (Cn : Cx → Pins → Prop) (tg iter : Expr) (wi : TI) : Prop where
  run : ∀ (pins : Pins) (s : Shared) (σ : L2.St) (H : Hp) (R : It → Hp → Prop), Inv X pins σ H s → wi σ H R →
    wpAny (model X.prog X.w) X.A (eval iter X.env) (fun v s1 => wpAny (model X.prog X.w) X.A (pyIter v) (fun itv s2 =>
      ∃ (it : Addr) (fp : List Addr) (tn : Nat → Heap → Prop) (J : It) (H' : Hp), itv = .ref it ∧ Inv X pins σ H' s2 ∧ TurnG X.prog X.w X.K tg Cn J fp it tn ∧ tn 0 s2.heap ∧ (∀ b ∈ fp, FpOk X pins H' b) ∧ R J H') X.xe s1) X.xe s
/-- calm surroundings -/
def Calm : Cx → Pins → Prop := fun Y _ => Y.calm = true
theorem Turn.g {P : Program} {w : World} {K : PySem.W.Frag} {tg : Expr} {J : It} {fp : List Addr} {it : Addr} {tn : Nat → Heap → Prop} (T : Turn P w K tg J fp it tn) : TurnG P w K tg Calm J fp it tn :=
  ⟨T.mem, T.obj, T.keep, fun Y h1 h2 h3 i pins hc s σ H E => T.item Y h1 h2 h3 hc i pins s σ H E, fun Y h1 h2 h3 i pins hc s σ H E => T.done Y h1 h2 h3 hc i pins s σ H E, T.self⟩
theorem PI.g {X : Cx} {tg iter : Expr} {wi : TI} (h : PI X tg iter wi) : PIG X Calm tg iter wi := by
  refine ⟨fun pins s σ H R I q => thn (h.run pins s σ H R I q) fun v s1 h1 => thn h1 ?_⟩
  rintro itv s2 ⟨it, fp, tn, J, H', e, I2, T, st, f, q⟩
  exact ⟨it, fp, tn, J, H', e, I2, Turn.g T, st, f, q⟩
/-- a target, in the surroundings that Cn admits -/
structure PGc (X : Cx) (Cn : Cx → Pins → Prop) (tg : Expr) (t : TG) : Prop where
  run : ∀ (pins : Pins), Cn X pins → ∀ (s : Shared) (σ : L2.St) (H : Hp) (v : V) (u : Value) (Q : L2.St → Hp → Prop), Inv X pins σ H s → RelV v u → t v σ H Q →
    wpAny (model X.prog X.w) X.A (assign tg X.env u) (fun _ s' => ∃ σ' H', Inv X pins σ' H' s' ∧ Q σ' H') X.xe s
theorem PG.c {X : Cx} {Cn : Cx → Pins → Prop} {tg : Expr} {t : TG} (h : PG X tg t) : PGc X Cn tg t := ⟨fun pins _ s σ H v u Q I r q => h.run pins s σ H v u Q I r q⟩
/-- where the block begins -/
structure BlkAt (X : Cx) (s : Shared) (H : Hp) (scope : Scope) (C : Addr) (cl : List (Str × Addr)) (fp : List Addr) : Prop where
  inv : ∃ pins σ, Inv X pins σ H s
  cl : cl = cellsFrom (s.heap.objs.size + 1) scope.names (cloFrom X.env.cells scope.names [])
  C : C = s.heap.objs.size
  fp : ∀ b ∈ fp, b < s.heap.objs.size
abbrev blkX (X : Cx) (s : Shared) (H : Hp) (scope : Scope) (C : Addr) (cl : List (Str × Addr)) (fp : List Addr) : Cx := X.blk s H scope (compEnvC scope cl C X.env) fp
section
variable {X : Cx} {Cn : Cx → Pins → Prop}
theorem lcG_core {pins : Pins} {s : Shared} {σ : L2.St} {H : Hp} {Q : VK} {elt tg iter : Expr} {ifs : List Expr} {scope : Scope} {own : List (Str × Nat)} {pos pos' : Pos} {wi : TI} {g : TG} {tt : TT} {te : TE} {use : Option (Value → Sem Unit)} {Qf : Value → Shared → Prop}
    (hblk : ∀ s H C cl fp pins more, Cn (blkX X s H scope C cl fp) ((X.pn ++ pins) ++ more)) (hN : X.N.Nodup) (I : Inv X pins σ H s) (hi : PIG X Cn tg iter wi) (ok : BlkOk X.N X.env.scope scope own)
    (hg : ∀ s H C cl fp, BlkAt X s H scope C cl fp → PGc (blkX X s H scope C cl fp) Cn tg g) (ht : ∀ s H C cl fp, BlkAt X s H scope C cl fp → PTs (blkX X s H scope C cl fp) ifs tt)
    (he : ∀ s H C cl fp, BlkAt X s H scope C cl fp → PE (blkX X s H scope C cl fp) elt te) (hs : ∀ x, foldedSetIterable iter X.env x = pure x)
    (h : tLc wi g tt te (own.map (·.2)) σ H Q)
    (hRR : ∀ D C s' m H', Inv X pins σ H' s' → Q (.ref D) H' → s'.heap.Ns C m → FpOk X pins H' C → compPost (model X.prog X.w) X.A X.xe use Qf (.ref D) C (.ok .next) s') :
    wpAny (model X.prog X.w) X.A (comprehension (.ListComp elt [⟨tg, iter, ifs, 0⟩] scope pos) scope X.env pos' (newList []) false (eval iter X.env) use) Qf X.xe s := by
  have fre : ∀ y ∈ scope.names, y.2 = .free → ∃ c, X.env.cells.lookup y.1 = some c := fun y hy e => (ok.free y hy e).elim (fun z => I.ok.has _ (.inl z)) fun z => I.ok.has _ (.inr z)
  refine wpAny_comprehension_free (use := use) rfl hs (closure_ok fre) ok.kind (fun y hy e => by rw [ok.uniq y hy, e]) (thn (hi.run pins s σ H _ I h) fun xv s1 hx => thn hx ?_)
  rintro itv s2 ⟨it, fp, tn, J, H2, rfl, I2, T, st2, f2, q⟩
  refine wpAny_newObj_type (newEnv_comp ?_) (by show 0 ≤ sizeLine; decide)
  obtain ⟨D, hD⟩ : ∃ D, s2.heap.objs.size = D := ⟨_, rfl⟩
  rw [hD]
  have hDn : H2 D = none := I2.hok.fresh (Nat.le_of_eq hD)
  obtain ⟨W, ⟨m0, w0⟩, turn⟩ := q D hDn
  obtain ⟨s3, hs3⟩ : ∃ s3 : Shared, s3 = { s2 with heap := s2.heap.push { cls := .type "list", data := .seq ([] : List Value).toArray } } := ⟨_, rfl⟩
  rw [← hs3]
  have h3 : s3.heap = s2.heap.push { cls := .type "list", data := .seq ([] : List Value).toArray } := by rw [hs3]
  have I3 : Inv X pins σ (upd H2 D (.lst [])) s3 := by
    subst hs3
    subst hD
    exact I2.laid (t' := s2.toks) (fun b o e => Heap.get?_push_of_some _ e) (Nat.le_refl _) ⟨Nat.zero_le _, [], 0, .nil, Heap.get?_push_size _ rfl⟩
  have lt2 : ∀ b ∈ fp, b < s2.heap.objs.size := fun b hb => let ⟨_, e, _⟩ := T.obj _ _ st2 b hb; Heap.lt_size e
  have f3 : ∀ b ∈ fp, FpOk X pins (upd H2 D (.lst [])) b ∧ b < s3.heap.objs.size := fun b hb => by
    have l := lt2 b hb
    refine ⟨⟨?_, (f2 b hb).2⟩, by rw [h3, Heap.size_push]; exact Nat.lt_succ_of_lt l⟩
    rw [upd_ne (by rw [← hD]; exact Nat.ne_of_lt l)]
    exact (f2 b hb).1
  have st3 : tn 0 s3.heap := T.keep _ _ _ st2 fun b _ o e => by rw [h3]; exact Heap.get?_push_of_some _ e
  obtain ⟨cl, hcl⟩ : ∃ cl, cl = cellsFrom (s3.heap.objs.size + 1) scope.names (cloFrom X.env.cells scope.names []) := ⟨_, rfl⟩
  obtain ⟨H3, hH3⟩ : ∃ H3, H3 = upd H2 D (.lst []) := ⟨_, rfl⟩
  rw [← hH3] at I3 f3 w0
  have at_ : BlkAt X s3 H3 scope s3.heap.objs.size cl fp := ⟨⟨pins, σ, I3⟩, hcl, rfl, fun b hb => (f3 b hb).2⟩
  have pg := hg _ _ _ _ _ at_
  have pt := ht _ _ _ _ _ at_
  have pe := he _ _ _ _ _ at_
  have I4 := block_start I3 ok hN f3
  rw [← hcl] at I4
  change codeAny _ _ (.compStart (.ListComp elt [⟨tg, iter, ifs, 0⟩] scope pos) 0 (.ref it) (.ref D) (compEnvC scope (cellsFrom (s3.heap.objs.size + 1) scope.names (cloFrom X.env.cells scope.names [])) s3.heap.objs.size X.env)) (compPost (model X.prog X.w) X.A X.xe use Qf (.ref D) s3.heap.objs.size) { s3 with heap := pushCells (s3.heap.push { cls := .type "dict", data := .dict #[] }) scope.names }
  rw [← hcl]
  obtain ⟨s4, hs4⟩ : ∃ s4 : Shared, s4 = { s3 with heap := pushCells (s3.heap.push { cls := .type "dict", data := .dict #[] }) scope.names } := ⟨_, rfl⟩
  rw [← hs4] at I4 ⊢
  -- the pins of the frame stay the block's
  have mine : ∀ p ∈ X.pn ++ pins, s4.heap.get? p.1 = some p.2 ∧ H3 p.1 = none ∧ p.1 ≠ s3.heap.objs.size ∧ p.1 ∉ frs X.stack ∧ ∀ v, p.2.data ≠ .cell v := fun p hp => by
    obtain ⟨p1, p2, p3, p4, p5⟩ := I3.pin p hp
    refine ⟨by rw [hs4]; exact pushCells_keeps _ _ _ _ (Heap.get?_push_of_some _ p1), p2, Nat.ne_of_lt (Heap.lt_size p1), fun z => ?_, p5⟩
    exact (List.mem_cons.mp (I3.stkSub _ z)).elim p3 p4
  have I4' : Inv (blkX X s3 H3 scope s3.heap.objs.size cl fp) (X.pn ++ pins) (wipe σ (own.map (·.2))) H3 s4 := I4.pins_of fun p hp => mine p hp
  have st4 : tn 0 s4.heap := T.keep _ _ _ st3 fun b _ o e => by rw [hs4]; exact pushCells_keeps _ _ _ _ (Heap.get?_push_of_some _ e)
  have stat : ∀ {σ' : L2.St} {H' : Hp} {s' : Shared}, Inv (blkX X s3 H3 scope s3.heap.objs.size cl fp) (X.pn ++ pins) σ' H' s' → (∀ b ∈ fp, H' b = none) → ∀ b ∈ fp, FpOk (blkX X s3 H3 scope s3.heap.objs.size cl fp) (X.pn ++ pins) H' b := fun {σ' H' s'} J hn b hb =>
    ⟨hn b hb, (J.ok.exf b hb).1, J.ok.exfs b hb, .inl hb, fun x c e => (J.ok.exf b hb).2 x c e, fun p hp => (f3 b hb).1.2.2.2.2.2 p hp⟩
  have cn := hblk s3 H3 s3.heap.objs.size cl fp pins []
  rw [List.append_nil] at cn
  have loop : codeAny (model X.prog X.w) X.A (.compLoop (.ListComp elt [⟨tg, iter, ifs, 0⟩] scope pos) 0 (.ref it) (.ref D) (compEnvC scope cl s3.heap.objs.size X.env)) (compPost (model X.prog X.w) X.A X.xe use Qf (.ref D) s3.heap.objs.size) s4 := by
    refine compLoop_any (fun n s' => ∃ i H', Inv (blkX X s3 H3 scope s3.heap.objs.size cl fp) (X.pn ++ pins) (wipe σ (own.map (·.2))) H' s' ∧ tn i s'.heap ∧ (∀ b ∈ fp, H' b = none) ∧ W i n H') ?_ m0 ⟨0, H3, I4', st4, fun b hb => (f3 b hb).1.1, w0⟩
    rintro n s5 ⟨i, H5, I5, st5, n5, w5⟩
    rcases turn i n H5 w5 with ⟨stop, qq⟩ | ⟨go, Nx, hNx, step⟩
    · refine thnF (T.done (blkX X s3 H3 scope s3.heap.objs.size cl fp) rfl rfl rfl i _ cn s5 _ H5 (fun _ _ => False) I5 (stat I5 n5) st5 stop) ?_
      rintro r s6 ⟨rfl, I6⟩
      have I7 : Inv X pins σ H5 s6 := I3.call' (ch := fp) I6.os I6.base I6.hok I6.bare fun b hb => ⟨(f3 b hb).1.2.2.2.1, (f3 b hb).1.2.1, (f3 b hb).1.2.2.2.2.1, (f3 b hb).1.2.2.2.2.2⟩
      obtain ⟨m, hn, _⟩ := I6.loc
      exact hRR D s3.heap.objs.size s6 m H5 I7 qq hn (I3.fpOk (Nat.le_refl _) I6.free)
    · refine thnF (T.item (blkX X s3 H3 scope s3.heap.objs.size cl fp) rfl rfl rfl i _ cn s5 _ H5 (fun _ _ => False) I5 (stat I5 n5) st5 go) ?_
      rintro r s6 ⟨u, rfl, h6⟩
      refine thnF h6 ?_
      rintro _ s7 ⟨x, H7, I7, r7, y7, st7, n7⟩
      refine thnF (pg.run _ (hblk _ _ _ _ _ _ _) s7 _ H7 x u _ (I7.pinned (stat I7 n7) (T.obj _ _ st7)) r7 (step x H7 y7)) ?_
      rintro _ s8 ⟨σ8, H8, I8, hw8, q8⟩
      refine thnF (pt.run _ s8 σ8 H8 _ I8 q8) ?_
      rintro b s9 ⟨H9, I9, q9⟩
      have next : ∀ {s' : Shared} {H' : Hp}, Inv (blkX X s3 H3 scope s3.heap.objs.size cl fp) ((X.pn ++ pins) ++ pinsAt fp s7.heap) σ8 H' s' → Nx H' → ∃ m, m < n ∧ ∃ i H', Inv (blkX X s3 H3 scope s3.heap.objs.size cl fp) (X.pn ++ pins) (wipe σ (own.map (·.2))) H' s' ∧ tn i s'.heap ∧ (∀ b ∈ fp, H' b = none) ∧ W i m H' := fun {s' H'} J nx => by
        obtain ⟨m', hm, w'⟩ := hNx H' nx
        have pin : ∀ b ∈ fp, ∀ o, s7.heap.get? b = some o → s'.heap.get? b = some o ∧ H' b = none := fun b hb o e =>
          have z := J.pin (b, o) (List.mem_append_right _ (List.mem_append_right _ (mem_pinsAt hb e)))
          ⟨z.1, z.2.1⟩
        refine ⟨m', hm, i + 1, H', J.unpinned.weak (by rw [← hw8, wipe_length]) (fun j v e => ?_), T.keep _ _ _ st7 fun b hb o e => (pin b hb o e).1, fun b hb => ?_, w'⟩
        · rw [← hw8] at e
          exact (wipe_some e).1
        · obtain ⟨o, e, _⟩ := T.obj _ _ st7 b hb
          exact (pin b hb o e).2
      cases b with
      | false =>
        rw [if_neg (by decide)] at q9
        rw [if_neg (by decide)]
        exact next I9 q9
      | true =>
        rw [if_pos rfl] at q9
        rw [if_pos rfl]
        refine thnF (pe.run _ s9 σ8 H9 _ I9 q9) ?_
        rintro z s10 ⟨yv, H10, I10, r10, acc, hD10, hz10, nx⟩
        exact app_ok (X := blkX X s3 H3 scope s3.heap.objs.size cl fp) I10 hD10 hz10 r10 fun s11 I11 => next I11 nx
  exact codeAny_compStart_list loop (T.self X.A 0 _ _ _ st4 loop)
theorem pe_lcG {elt tg iter : Expr} {ifs : List Expr} {scope : Scope} {own : List (Str × Nat)} {pos : Pos} {wi : TI} {g : TG} {tt : TT} {te : TE} (hblk : ∀ s H C cl fp pins more, Cn (blkX X s H scope C cl fp) ((X.pn ++ pins) ++ more)) (hN : X.N.Nodup) (hi : PIG X Cn tg iter wi) (ok : BlkOk X.N X.env.scope scope own)
    (hg : ∀ s H C cl fp, BlkAt X s H scope C cl fp → PGc (blkX X s H scope C cl fp) Cn tg g) (ht : ∀ s H C cl fp, BlkAt X s H scope C cl fp → PTs (blkX X s H scope C cl fp) ifs tt)
    (he : ∀ s H C cl fp, BlkAt X s H scope C cl fp → PE (blkX X s H scope C cl fp) elt te) (hs : ∀ x, foldedSetIterable iter X.env x = pure x := by intro _; rfl) :
    PE X (.ListComp elt [⟨tg, iter, ifs, 0⟩] scope pos) (tLc wi g tt te (own.map (·.2))) := by
  refine ⟨fun pins s σ H Q I h => ?_⟩
  rw [eval_ListComp]
  refine lcG_core hblk hN I hi ok hg ht he hs h ?_
  rintro D C s' m H' I' q hn ⟨f0, f1, f2, f3, f4, f5⟩
  exact ⟨m, hn, fun h'' sb => ⟨.ref D, H', I'.turned (t' := s'.toks) (fun b o hb e => (sb.2 b hb).trans e) f0 f1 f3 f4 f5, rfl, q⟩⟩
/-- cells of the block are no frames -/
theorem BlkAt.nf {s : Shared} {H : Hp} {scope : Scope} {C : Addr} {cl : List (Str × Addr)} {fp : List Addr} (b : BlkAt X s H scope C cl fp) (nf : CellNf X) (hfree : ∀ y ∈ scope.names, y.2 = .free → X.env.scope.names.lookup y.1 = some .cell ∨ X.env.scope.names.lookup y.1 = some .free) : CellNf (blkX X s H scope C cl fp) := by
  obtain ⟨pins, σ, I⟩ := b.inv
  intro pins' σ' H' s' I' y c e hb
  have e : cl.lookup y = some c := e
  rw [b.cl, ← Heap.size_push s.heap { cls := .type "dict", data := .dict #[] }] at e
  have hf : ∀ y ∈ scope.names, y.2 = .free → ∃ c, X.env.cells.lookup y.1 = some c := fun y hy e => (hfree y hy e).elim (fun z => I.ok.has _ (.inl z)) fun z => I.ok.has _ (.inr z)
  have hb : c ∈ frs X.stack := hb
  rcases cells_mem (PySem.mem_of_lookup e) with hm | ⟨_, h2, _⟩
  · rcases cloFrom_mem hm with z | ⟨h1, h2⟩
    · cases z
    · obtain ⟨c1, hc⟩ := hf _ h1 rfl
      have hc : X.env.cells.lookup y = some c1 := hc
      have e2 : c = c1 := by rw [h2, hc]; rfl
      subst e2
      exact nf pins σ H s I y c hc hb
  · obtain ⟨_, o, ho, _⟩ := I.stack.mem hb
    rw [Heap.size_push] at h2
    exact Nat.lt_irrefl _ (Nat.lt_of_lt_of_le (Heap.lt_size ho) (Nat.le_of_succ_le h2))
end
end DL

set_option Elab.async false
set_option linter.all false
set_option maxRecDepth 100000
set_option maxHeartbeats 1000000
/-! DLHot: what ends by StopIteration while an exception is handled: lists, tuples taken apart, zip -/
namespace PySem
open Spec Calls PyProof.Rows HotX
section
variable {prog : Program} {w : World} {A : Around} {E : Value → Shared → Prop} {s : Shared}
/-- a new StopIteration while x1's exception is handled -/
theorem stop_hot {α : Type} {x1 : Addr} {Q : α → Shared → Prop} (hot : HotAt A x1 s.heap)
    (hE : ∀ h' e, (∀ b o, s.heap.get? b = some o → h'.get? b = some o) → (∃ o, h'.get? e = some o ∧ o.cls = .type "StopIteration") → E (.ref e) { s with heap := h' }) :
    wpAny (model prog w) A (do let e ← newExc (.type "StopIteration") []; raiseNew e : Sem α) Q E s := by
  obtain ⟨hh, o1, vs1, g1, d1, c1⟩ := hot
  refine wpAny_bind ?_
  simp only [newExc, newTuple]
  refine wpAny_bind (wpAny_newObj_type ?_ (by size_fits))
  refine wpAny_bind (m := firstArgMember _ _) (wpAny_of_eq (a := Value.none) (by first | rfl | (simp only [firstArgMember]; rfl)) (wpAny_newObj_type ?_ (by size_fits)))
  refine raiseNew_hot (x1 := x1) ⟨hh, o1, vs1, Heap.get?_push_of_some _ (Heap.get?_push_of_some _ g1), d1, c1⟩ (Nat.ne_of_lt (Heap.lt_size (Heap.get?_push_of_some _ g1))) (Heap.get?_push_size _ rfl) rfl (by first | (simp; done) | (simp; omega) | (simp only [Array.size_append]; simp; omega)) ?_
  refine hE _ _ (fun b o e => ?_) ⟨_, Heap.get?_update_self _ (Heap.get?_push_size _ rfl) rfl, rfl⟩
  rw [Heap.get?_update_other _ _ (Nat.ne_of_gt (Heap.lt_size (Heap.get?_push_of_some _ e)))]
  exact Heap.get?_push_of_some _ (Heap.get?_push_of_some _ e)
/-- the same, caught by pyNext -/
theorem nextOf_list_end_hot {it l x1 : Addr} {i : Nat} {items} {Q : Value → Shared → Prop} (hot : HotAt A x1 s.heap) (hne : x1 ≠ it) (hit : s.heap.IsListIter it l i) (hl : s.heap.IsList l items) (hx : items[i]? = none)
    (hE : ∀ h' e, Heap.ExtBut it s.heap h' → (∃ o, h'.get? e = some o ∧ o.cls = .type "StopIteration") → E (.ref e) { s with heap := h' }) : wpAny (model prog w) A (Builtin.SmallTypes.nextOf (.ref it)) Q E s := by
  obtain ⟨o, ho, hc, hd⟩ := id hit
  obtain ⟨ol, hol, hcl, nl, hdl⟩ := hl
  unfold Builtin.SmallTypes.nextOf
  refine wpAny_bind (wpAny_callSpecial?_slot (name := Str.ofString "__next__") hit.typeIs slot_listiter_next (wpAny_call_entry slot_listiter_next hit.typeIs entry_listiter_next ?_ (args_listiter_next _)))
  change wpAny _ _ (field (.ref it) 0 >>= _) _ _ s
  refine wpAny_bind (wpAny_field ho hd (x := .ref l) rfl ?_)
  change wpAny _ _ (if (Value.ref l == Value.none) = true then _ else _) _ _ s
  rw [if_neg (show ¬ ((Value.ref l == Value.none) = true) from Bool.false_ne_true)]
  change wpAny _ _ (field (.ref it) 1 >>= _) _ _ s
  refine wpAny_bind (wpAny_field ho hd (x := .int i 0) rfl ?_)
  change wpAny _ _ (seqItems? (.ref l) >>= _) _ _ s
  refine wpAny_bind (wpAny_seqItems hol hdl ?_)
  simp only [Int.toNat_natCast, hx]
  refine wpAny_bind (wpAny_rule (wpAny_bind (wpAny_setField ho hd (by simp) ?_)))
  obtain ⟨hh, o1, vs1, g1, d1, c1⟩ := hot
  refine stop_hot (x1 := x1) ⟨hh, o1, vs1, by rw [Heap.get?_update_other _ _ (Ne.symm hne)]; exact g1, d1, c1⟩ fun h' e k ho' => hE h' e (fun b o hb q => k b o ?_) ho'
  rw [Heap.get?_update_other _ _ (Ne.symm hb)]; exact q
theorem next_tuple_end_hot {it t x1 : Addr} {i : Nat} {items} {Q : Option Value → Shared → Prop} (hot : HotAt A x1 s.heap) (hne : x1 ≠ it) (hit : IsTupIter s.heap it t i) (ht : IsTup s.heap t items) (hx : items[i]? = none)
    (hQ : ∀ h', Heap.ExtBut it s.heap h' → Q none { s with heap := h' }) : wpAny (model prog w) A (pyNext (.ref it)) Q E s := by
  obtain ⟨o, ho, hc, hd⟩ := id hit
  obtain ⟨ol, hol, hcl, nl, hdl⟩ := ht
  unfold pyNext
  refine wpAny_bind (wpAny_attempt (wpAny_callSpecial?_slot (name := Str.ofString "__next__") hit.typeIs slot_tupleiter_next (wpAny_call_entry slot_tupleiter_next hit.typeIs entry_tupleiter_next ?_ (args_tupleiter_next _))))
  change wpAny _ _ (field (.ref it) 0 >>= _) _ _ s
  refine wpAny_bind (wpAny_field ho hd (x := .ref t) rfl ?_)
  change wpAny _ _ (if (Value.ref t == Value.none) = true then _ else _) _ _ s
  rw [if_neg (show ¬ ((Value.ref t == Value.none) = true) from Bool.false_ne_true)]
  change wpAny _ _ (field (.ref it) 1 >>= _) _ _ s
  refine wpAny_bind (wpAny_field ho hd (x := .int i 0) rfl ?_)
  change wpAny _ _ (seqItems? (.ref t) >>= _) _ _ s
  refine wpAny_bind (wpAny_seqItems hol hdl ?_)
  simp only [Int.toNat_natCast, hx]
  refine wpAny_bind (wpAny_rule (wpAny_bind (wpAny_setField ho hd (by simp) ?_)))
  obtain ⟨hh, o1, vs1, g1, d1, c1⟩ := hot
  refine stop_hot (x1 := x1) ⟨hh, o1, vs1, by rw [Heap.get?_update_other _ _ (Ne.symm hne)]; exact g1, d1, c1⟩ fun h' e k ⟨oe, he, hce⟩ => ?_
  refine wpAny_bind (wpAny_isInstance (T := "StopIteration") (b := true) ⟨_, he, hce⟩ isSubtype_stop ?_)
  refine wpAny_pure (hQ _ fun b o hb q => k b o ?_)
  rw [Heap.get?_update_other _ _ (Ne.symm hb)]; exact q
theorem unpackItems_tuple_hot {t x1 : Addr} {items : Array Value} {Q : List Value → Shared → Prop} (hot : HotAt A x1 s.heap) (ht : IsTup s.heap t items)
    (hQ : ∀ h', Heap.ExtBut s.heap.objs.size s.heap h' → Q items.toList { s with heap := h' }) : wpAny (model prog w) A (unpackItems (.ref t) items.size none) Q E s := by
  have hlt : t ≠ s.heap.objs.size := by obtain ⟨o, ho, hr⟩ := ht; exact Nat.ne_of_lt (Heap.lt_size ho)
  obtain ⟨hh, o1, vs1, g1, d1, c1⟩ := hot
  have x1n : x1 ≠ s.heap.objs.size := Nat.ne_of_lt (Heap.lt_size g1)
  unfold unpackItems
  refine wpAny_bind ?_
  unfold notIterableAtAll
  refine wpAny_bind (wpAny_specialOf ht.typeIs slot_tuple_iter.lookup (wpAny_pure ?_))
  simp only [Bool.false_eq_true, if_false]
  refine wpAny_bind (wpAny_holding (iter_tuple ht (wpAny_bind (wpAny_holding (draw_tuple hlt items.size 0 _ _ ⟨_, Heap.get?_push_size _ rfl, rfl, rfl⟩ (ht.push _) (by omega) fun h₁ hit₁ hs₁ => ?_)))))
  rw [show List.take items.size (List.drop 0 items.toList) = items.toList by rw [List.drop_zero]; exact List.take_of_length_le (by simp), if_neg (by simp)]
  have ht₁ : IsTup h₁ t items := (ht.push _).extBut hs₁.extBut hlt
  refine wpAny_bind (wpAny_holding (next_tuple_end_hot (x1 := x1) ⟨hh, o1, vs1, hs₁.extBut x1 o1 x1n (Heap.get?_push_of_some _ g1), d1, c1⟩ x1n hit₁ ht₁ (by simp) fun h₂ he₂ => ?_))
  simp only [Option.isSome_none, Bool.false_eq_true, if_false]
  exact wpAny_pure (hQ h₂ fun b o hb e => he₂ b o hb (hs₁.extBut b o hb (Heap.get?_push_of_some _ e)))
theorem assign_tuple_hot {env : Env} {elts : List Expr} {x1 : Addr} {kk} {pos : Pos} {t : Addr} {items : Array Value} {Q : Unit → Shared → Prop} (hot : HotAt A x1 s.heap) (ht : IsTup s.heap t items) (hn : (assignEach elts env).length = items.size) (hstar : (assignEach elts env).findIdx? (·.1) = none)
    (h : ∀ h', Heap.ExtBut s.heap.objs.size s.heap h' → wpAny (model prog w) A (assignInOrder ((assignEach elts env).map (·.2)) items.toList) Q E { s with heap := h' }) : wpAny (model prog w) A (assign (.Tuple elts kk pos) env (.ref t)) Q E s := by
  rw [assign_Tuple]
  refine wpAny_bind (wpAny_standAt ?_)
  unfold unpack
  rw [hn, hstar]
  exact wpAny_bind (wpAny_holding (unpackItems_tuple_hot hot ht h))
theorem draws_list_hot {x1 : Addr} (it l : Addr) (hne : l ≠ it) (nx : x1 ≠ it) (items : Array Value) (hh : A.handled = some (.ref x1)) :
    Draws prog w A it [it, l, x1] items.size (fun i v => items[i]? = some v) (fun i h => (h.IsListIter it l i ∧ h.IsList l items) ∧ HotAt A x1 h) where
  live := fun i h st => let ⟨o, ho, hr⟩ := st.1.1; ⟨o, ho⟩
  frame := fun i h h' st hk => ⟨⟨st.1.1.at fun o e => hk it (by simp) o e, st.1.2.at fun o e => hk l (by simp) o e⟩, hh, let ⟨_, o1, vs1, g1, d1, c1⟩ := st.2; ⟨o1, vs1, hk x1 (by simp) o1 g1, d1, c1⟩⟩
  item := fun i s Q E hi st hQ => by
    refine wpAny_nextOf_list_item st.1.1 st.1.2 (x := items[i]) (by simp [hi]) fun h' hit' hs' => ?_
    obtain ⟨_, o1, vs1, g1, d1, c1⟩ := st.2
    exact hQ _ h' s.toks (by simp [hi]) ⟨⟨hit', st.1.2.extBut hs'.extBut hne⟩, hh, o1, vs1, hs'.extBut x1 o1 nx g1, d1, c1⟩ hs'
  done := fun s Q E st hE => nextOf_list_end_hot st.2 nx st.1.1 st.1.2 (by simp) hE
end
end PySem

set_option Elab.async false
set_option linter.all false
set_option maxRecDepth 100000
set_option maxHeartbeats 1000000
/-! DLHotB: zip, tuple targets while an exception is handled -/
namespace DL
open PySem PySem.Spec PyProof.Rows L2 L2H HotX
variable [TabCtx]
/-- an exception is handled: it is pinned, its context is None -/
def HotP : Cx → Pins → Prop := fun Y pins => ∃ p, Hot1 Y.A p ∧ p ∈ Y.pn ++ pins
theorem HotP.at {Y : Cx} {pins : Pins} {σ : L2.St} {H : Hp} {s : Shared} {fp : List Addr} (c : HotP Y pins) (I : Inv Y pins σ H s) (hf : ∀ b ∈ fp, FpOk Y pins H b) : ∃ x1, Y.A.in1.handled = some (.ref x1) ∧ HotAt Y.A.in1 x1 s.heap ∧ ∀ b ∈ fp, x1 ≠ b := by
  obtain ⟨p, ⟨hh, v1, e1, c1⟩, hp⟩ := c
  exact ⟨p.1, hh, ⟨hh, p.2, v1, (I.pin p hp).1, e1, c1⟩, fun b hb => (hf b hb).2.2.2.2.2 p hp⟩
theorem sepX {z TI TO i1 i2 a b x1 : Addr} (S : ZipSep2 z TI TO i1 i2 [i1, a] [i2, b]) (n1 : z ≠ x1) (n2 : TO ≠ x1) (n3 : i1 ≠ x1) (n4 : i2 ≠ x1) : ZipSep2 z TI TO i1 i2 [i1, a, x1] [i2, b, x1] := by
  have q1 := S.zf1; have q2 := S.Tf1; have q3 := S.zf2; have q4 := S.Tf2; have q5 := S.sep1_2; have q6 := S.sep2_1
  simp only [List.mem_cons, List.not_mem_nil, or_false, not_or] at q1 q2 q3 q4 q5 q6
  exact { TIz := S.TIz, TOz := S.TOz, TITO := S.TITO, TIi1 := S.TIi1, mem1 := by simp, zf1 := by simp [q1.1, q1.2, n1], Tf1 := by simp [q2.1, q2.2, n2], TIi2 := S.TIi2, mem2 := by simp, zf2 := by simp [q3.1, q3.2, n1], Tf2 := by simp [q4.1, q4.2, n2], sep1_2 := by simp [q5.1, q5.2, n3], sep2_1 := by simp [q6.1, q6.2, n4] }
theorem turnZipH {P : Program} {w : World} {K : PySem.W.Frag} {elts : List Expr} {kk : Nat} {tp : Pos} {a b z TI TO i1 i2 : Addr} (S : ∀ x1, z ≠ x1 → TO ≠ x1 → i1 ≠ x1 → i2 ≠ x1 → ZipSep2 z TI TO i1 i2 [i1, a, x1] [i2, b, x1]) (na : a ≠ i1) (nb : b ≠ i2) :
    TurnG P w K (.Tuple elts kk tp) HotP (Jzip K false false a b) [z, TI, TO, i1, i2] z (Tzip false false a b z TI TO i1 i2) where
  mem := List.mem_cons_self
  obj := fun i h st c hc => by
    obtain ⟨h1, h2, ⟨p, q, h3⟩, h4, h5⟩ := st
    simp only [List.mem_cons, List.not_mem_nil, or_false] at hc
    rcases hc with rfl | rfl | rfl | rfl | rfl
    · exact ⟨_, h1, fun v k => nomatch k⟩
    · exact ⟨_, h2, fun v k => nomatch k⟩
    · exact ⟨_, h3, fun v k => nomatch k⟩
    · exact h4.look
    · exact h5.look
  keep := fun i h h' st k => by
    obtain ⟨h1, h2, ⟨p, q, h3⟩, h4, h5⟩ := st
    exact ⟨k _ (by simp) _ h1, k _ (by simp) _ h2, ⟨p, q, k _ (by simp) _ h3⟩, h4.at (k _ (by simp)), h5.at (k _ (by simp))⟩
  item := by
    intro X hP hw hK i pins hc s σ H E I hf st hg
    obtain ⟨x1, hx1, hot, nx⟩ := hc.at I hf
    subst hP hw hK
    obtain ⟨xs, ys, x, y, qa, qb, ex, ey⟩ := hg
    obtain ⟨us, ru, su, la⟩ := qa.src I
    obtain ⟨vs, rv, sv, lb⟩ := qb.src I
    have D1 := draws_list_hot (prog := X.prog) (w := X.w) (A := X.A.in1) (x1 := x1) i1 a na (nx i1 (by simp)) us.toArray hx1
    have D2 := draws_list_hot (prog := X.prog) (w := X.w) (A := X.A.in1) (x1 := x1) i2 b nb (nx i2 (by simp)) vs.toArray hx1
    obtain ⟨h1, h2, h3, h4, h5⟩ := st
    have l1 : i < us.length := by rw [← ru.length]; exact (List.getElem?_eq_some_iff.mp ex).1
    have l2 : i < vs.length := by rw [← rv.length]; exact (List.getElem?_eq_some_iff.mp ey).1
    refine wpAny_mono ((GoesN.zip2 (elts := elts) (x1 := kk) (pos := tp) (S x1 (Ne.symm (nx _ (by simp))) (Ne.symm (nx _ (by simp))) (Ne.symm (nx _ (by simp))) (Ne.symm (nx _ (by simp)))) D1 D2).goes i s (fun u s2 => ∃ x H', Inv X pins σ H' s2 ∧ L2.RelV x u ∧ (Jzip X.K false false a b).yld i H x H' ∧ Tzip false false a b z TI TO i1 i2 (i + 1) s2.heap ∧ ∀ c ∈ [z, TI, TO, i1, i2], H' c = none) E
      (by simp; omega) ⟨h1, h2, h3, ⟨⟨h4, su⟩, hot⟩, ⟨⟨h5, sv⟩, hot⟩⟩ fun u h' tk hY st' hk _ => ?_) (fun r s1 q => q) fun _ _ q => q
    obtain ⟨T, xv, yv, rfl, hT, px, py, tT⟩ := hY
    obtain ⟨k1, k2, k3, k4, k5⟩ := st'
    obtain ⟨u1, e1, r1⟩ := ru.get ex
    obtain ⟨u2, e2, r2⟩ := rv.get ey
    have exv : xv = u1 := by
      have := px.symm.trans (by simpa using e1 : us.toArray[i]? = some u1)
      exact Option.some.inj this
    have eyv : yv = u2 := by
      have := py.symm.trans (by simpa using e2 : vs.toArray[i]? = some u2)
      exact Option.some.inj this
    subst exv eyv
    have I2 : Inv X pins σ (upd H T (.tup [x, y])) { s with heap := h', toks := tk } :=
      I.turnedNew (ch := [z, TO, i1, i2]) hk (fun c hc => hf c (by simp only [List.mem_cons, List.not_mem_nil, or_false] at hc ⊢; rcases hc with q | q | q | q <;> simp [q])) hT (newTup r1 r2 tT)
    refine ⟨.ref T, _, I2, rfl, ⟨T, x, y, rfl, I.hok.fresh hT, rfl, fun l q => ?_, fun l q => ?_⟩, ⟨k1, k2, k3, k4.1.1, k5.1.1⟩, fun c hc => ?_⟩
    · rw [SqK.inj I q qa]; exact ex
    · rw [SqK.inj I q qb]; exact ey
    · have lt : c < s.heap.objs.size := by
        obtain ⟨p, q, h3⟩ := h3
        simp only [List.mem_cons, List.not_mem_nil, or_false] at hc
        rcases hc with rfl | rfl | rfl | rfl | rfl
        · exact Heap.lt_size h1
        · exact Heap.lt_size h2
        · exact Heap.lt_size h3
        · obtain ⟨o, e, _⟩ := h4.look; exact Heap.lt_size e
        · obtain ⟨o, e, _⟩ := h5.look; exact Heap.lt_size e
      rw [upd_ne (Nat.ne_of_lt (Nat.lt_of_lt_of_le lt hT))]
      exact (hf c hc).1
  done := by
    intro X hP hw hK i pins hc s σ H E I hf st hg
    obtain ⟨x1, hx1, hot, nx⟩ := hc.at I hf
    subst hP hw hK
    obtain ⟨xs, ys, qa, qb, rfl⟩ := hg
    obtain ⟨us, ru, su, la⟩ := qa.src I
    obtain ⟨vs, rv, sv, lb⟩ := qb.src I
    have D1 := draws_list_hot (prog := X.prog) (w := X.w) (A := X.A.in1) (x1 := x1) i1 a na (nx i1 (by simp)) us.toArray hx1
    have D2 := draws_list_hot (prog := X.prog) (w := X.w) (A := X.A.in1) (x1 := x1) i2 b nb (nx i2 (by simp)) vs.toArray hx1
    obtain ⟨h1, h2, h3, h4, h5⟩ := st
    have el : min xs.length ys.length = min us.toArray.size vs.toArray.size := by simp [ru.length, rv.length]
    rw [el] at h4 h5
    refine (GoesN.zip2 (elts := elts) (x1 := kk) (pos := tp) (S x1 (Ne.symm (nx _ (by simp))) (Ne.symm (nx _ (by simp))) (Ne.symm (nx _ (by simp))) (Ne.symm (nx _ (by simp)))) D1 D2).stops s (fun s1 => Inv X pins σ H s1) E ⟨h1, h2, h3, ⟨⟨h4, su⟩, hot⟩, ⟨⟨h5, sv⟩, hot⟩⟩ fun h' tk hk _ => ?_
    exact I.turnedL (ch := [z, TO, i1, i2]) hk (fun c hc => hf c (by simp only [List.mem_cons, List.not_mem_nil, or_false] at hc ⊢; rcases hc with q | q | q | q <;> simp [q]))
  self := fun A i s Q E st h => wpAny_pyIter_zip st.1 h

section
variable {X : Cx}
def iZipH (K : PySem.W.Frag) (ta : TA) : TI := fun σ H R => ta σ H fun vs H1 => ∃ a b xs ys, vs = [.ref a, .ref b] ∧ SqL K H1 a xs ∧ SqL K H1 b ys ∧ R (Jzip K false false a b) H1
theorem pi_zipH {e e2 : Expr} {ta : TA} {p pos tp : Pos} {elts : List Expr} {kk : Nat} (hg : Gl X "zip") (hm : X.mg "zip" = none) (ha : PA X [e, e2] ta)
    (hs : starEach [e, e2] X.env = (false, eval e X.env) :: starEach [e2] X.env := by rfl) (hpl : (backTo pos (starEach [e2] X.env)).any (·.1) = false := by rfl) :
    PIG X HotP (.Tuple elts kk tp) (.Call (.Name "zip" p) [e, e2] [] pos) (iZipH X.K ta) := by
  refine ⟨fun pins s σ H R I h => Call_ (ld_blt I hg hm PyProof.Rows.boot_zip (PyProof.Rows.callWith_type1 (thn (ha.run pos pins s σ H _ I h) fun us s1 ⟨vs, H1, I1, r1, q1⟩ => ?_) hs hpl))⟩
  obtain ⟨a, b, xs, ys, rfl, hqa, hqb, q⟩ := q1
  cases r1 with
  | cons r rr =>
    cases rr with
    | cons r' rr =>
      cases rr
      cases r
      cases r'
      obtain ⟨ia, ra, sa, la⟩ := SqK.src (tup := false) I1 hqa
      obtain ⟨ib, rb, sb, lb⟩ := SqK.src (tup := false) I1 hqb
      refine zip_begins2 (begins_K false a ia.toArray) (begins_K false b ib.toArray) sa sb fun h' hz hT hO h1 h2 _ hk => wpAny_pyIter_zip hz ?_
      have I2 : Inv X pins σ H1 { s1 with heap := h' } := I1.kept (t' := s1.toks) hk
      have S := zip_sep2 (N := s1.heap.objs.size) (fp1 := [a]) (fp2 := [b]) (by simpa using la) (by simpa using lb)
      have S' := fun x1 (n1 : s1.heap.objs.size + 4 ≠ x1) (n2 : s1.heap.objs.size + 3 ≠ x1) (n3 : s1.heap.objs.size ≠ x1) (n4 : s1.heap.objs.size + 1 ≠ x1) => sepX S n1 n2 n3 n4
      refine ⟨s1.heap.objs.size + 4, _, _, _, H1, rfl, I2, turnZipH S' (Nat.ne_of_lt la) (Nat.ne_of_lt (Nat.lt_succ_of_lt lb)), ⟨hz, hT, ⟨_, _, hO⟩, ItK.start h1, ItK.start h2⟩, fun c hc => ?_, q⟩
      have hle : s1.heap.objs.size ≤ c := by
        simp only [List.mem_cons, List.not_mem_nil, or_false] at hc
        rcases hc with rfl | rfl | rfl | rfl | rfl
        · exact Nat.le_add_right _ _
        · exact Nat.le_add_right _ _
        · exact Nat.le_add_right _ _
        · exact Nat.le_refl _
        · exact Nat.le_add_right _ _
      exact I1.fpOk hle (I1.hok.fresh hle)
/-- (a, b) = a tuple, while an exception is handled -/
theorem pg_tupH {es : List Expr} {k : Nat} {t : TGs} {n : Nat} {pos : Pos} (h : PGs X es t) (hn : (assignEach es X.env).length = n := by rfl) (hst : (assignEach es X.env).findIdx? (·.1) = none := by rfl) : PGc X HotP (.Tuple es k pos) (gTup X.K n t) := by
  refine ⟨fun pins cn s σ H v u Q I r hw => ?_⟩
  obtain ⟨a, xs, e1, hq, hl, hw⟩ := hw
  subst e1
  cases r
  obtain ⟨its, rv, ht, hz⟩ := I.tuple hq
  obtain ⟨x1, _, hot, _⟩ := cn.at (fp := []) I (fun _ h => nomatch h)
  refine assign_tuple_hot (x1 := x1) hot ht (by simp [hn, ← hl, rv.length]) hst fun h' hx => ?_
  have I1 : Inv X pins σ H { s with heap := h' } := I.kept (t' := s.toks) fun b o e => hx b o (Nat.ne_of_lt (Heap.lt_size e)) e
  exact h.run pins _ σ H xs _ Q I1 (by simpa using rv) hw
theorem hotBlk (c : HotC X) (s : Shared) (H : Hp) (scope : Scope) (C : Addr) (cl : List (Str × Addr)) (fp : List Addr) (pins more : Pins) : HotP (blkX X s H scope C cl fp) ((X.pn ++ pins) ++ more) := by
  obtain ⟨p, h, hp⟩ := c
  exact ⟨p, h, List.mem_append_right _ (List.mem_append_left _ (List.mem_append_left _ hp))⟩
end
end DL

set_option Elab.async false
set_option linter.all false
set_option maxRecDepth 100000
set_option maxHeartbeats 1000000
/-! DLErr: raise, try .. except X as e -/
namespace DL
open PySem PySem.Spec PyProof.Rows L2 LamX NdefX
variable [TabCtx]

/-! ### raise -/
def sRaise (x : Str) : SF := fun ρ μ => .ex ⟨x, none⟩ ρ μ
abbrev veMro : List Value := [.type "ValueError", .type "Exception", .type "BaseException", .type "object"]
/-- an error class of the text, without an __init__ of its own -/
structure ExcOk (mg : Str → Option Value) (K : PySem.W.Frag) (x : Str) where
  C : Addr
  g : mg x = some (.ref C)
  q : PySem.W.excIn K C veMro "ValueError.__new__" = true
  kp : PySem.W.keepIn K (.ref C) = true
  s : PySem.W.subIn K (.ref C) (.type "BaseException") = some true
  t : PySem.W.typeIn K (.ref C) = some (.type "type")
section
variable {X : Cx} {W : WXD} {k : Nat}
theorem sd_raise {x m : Str} {j : Nat} {p p2 pos pos' : Pos} (C : CxE X W k) (e : ExcOk X.mg X.K x) (hg : Gl X x) (hdb : (x == ("__debug__" : Str)) = false := by decide) : PSd X W (.Raise (some (.Call (.Name x p) [.Constant (.str m) j p2] [] pos')) none pos) (sRaise x) := by
  refine PS.imp (L2N.ps_raise C.calm C.tk (L2N.pmk_own PySem.F.excBase_ValueError e.q e.g e.kp (raises_own e.s e.t) hg hdb)) fun Dn σ H h => ?_
  obtain ⟨η, θ, μ, ρ, ok, rs, fin⟩ := h
  exact fin _ none σ H θ (Step.refl ok) rs ⟨e.C, e.g, rfl, rfl⟩
end

/-! ### try -/
open Classical in
/-- what all tokens give -/
noncomputable def uniO (F : CTok → Out) : Out := if h : ∃ r, ∀ t, F t = r then h.choose else .no
theorem uniO_eq {F : CTok → Out} {r : Out} (h : ∀ t, F t = r) : uniO F = r := by
  have hx : ∃ r, ∀ t, F t = r := ⟨r, h⟩
  unfold uniO
  rw [dif_pos hx, ← hx.choose_spec ⟨0, fun _ => none, []⟩]
  exact h _
theorem uniO_at (F : CTok → Out) (t : CTok) : uniO F = .no ∨ uniO F = F t := by
  unfold uniO
  split
  · rename_i h; exact .inr (h.choose_spec t).symm
  · exact .inl rfl
/-- only what returns -/
def Out.rets : Out → Out
  | .rt s μ => .rt s μ
  | _ => .no
/-- try: body, except .. as the name at i: suite (which returns) -/
noncomputable def sTryAs (i : Nat) (ok : Exn → Bool) (body : SF) (suite : Exn → CTok → SF) : SF := fun ρ μ => match body ρ μ with
  | .ex x ρ' μ' => if ok x = true then uniO fun t => (suite x t (ρ'.set i (some (.clo t))) μ').rets else .no
  | o => o
section
variable {X : Cx} {W : WXD} {k : Nat}
theorem CxE.tr {pn : List (Addr × Obj)} {xe : Value → Shared → Prop} {W' : WXD} (C : CxE X W k) (tk : L2N.Takes (X.tr pn xe) W') (po : PassesOwn (model X.prog X.w) X.A X.env xe) : CxE (X.tr pn xe) W' k :=
  { calm := C.calm, nd := C.nd, pas := fun σ => L2N.passAt tk σ, room := C.room, sil := fun Y σ h1 h2 => silX X Y σ h1 h2, own := po, tk := tk, hs := C.hs, hf := C.hf }
/-- what the exception x stands for -/
def IsExn (X : Cx) (x : Exn) (cls : Value) (d : Option Addr) : Prop := ∃ C, X.mg x.cls = some (.ref C) ∧ cls = .ref C ∧ (x.fs = none → d = none)
theorem sd_tryAs {x n : Str} {CT : Addr} {body suite : List Stmt} {b₀ : Stmt} {np pos pos' : Pos} {ok : Exn → Bool} {f : SF} {g : Exn → CTok → SF} (C : CxE X W k) (i : Nat) (hc : Names X x (.ref CT))
    (hok : ∀ y, ok y = true → ∃ C, X.mg y.cls = some (.ref C) ∧ PySem.W.exmOne X.K (.ref C) (.ref CT) = some true)
    (hb : ∀ (W' : WXD) (pn : List (Addr × Obj)) (xe : Value → Shared → Prop), CxE (X.tr pn xe) W' k → PSsd (X.tr pn xe) W' body f)
    (hsu : ∀ (a : Addr) (oe : Obj) (cls : Value) (d : Option Addr) (pn : List (Addr × Obj)) (y : Exn) (t : CTok), L2N.Zn cls d oe → (∃ vs, oe.data = .fields vs) → IsExn X y cls d → ok y = true → t.f = a → PSsd (X.suite a ((a, oe) :: pn)) W0 (b₀ :: suite) (g y t))
    (hi : X.N[i]? = some n := by rfl) (hln : X.env.kindOf n = some .local := by rfl) :
    PSd X W (.Try body [.ExceptHandler (some (.Name x np)) (some n) (b₀ :: suite) pos'] [] [] pos) (sTryAs i ok f g) := by
  refine PS.imp (L2N.ps_try_as (i := i) (tb := fun W' => tSD X.mg X.K W' f)
    (ts := fun a cls d D σ H => ∃ y t, IsExn X y cls d ∧ ok y = true ∧ t.f = a ∧ tSD X.mg X.K W0 (g y t) D σ H)
    C.hs C.hf C.nd hi hln hc C.tk (fun W' pn xe tk po => hb W' pn xe (C.tr tk po))
    (fun a oe cls d pn hz hf => ⟨fun pins s σ H D I ⟨y, t, h1, h2, h3, h4⟩ => (hsu a oe cls d pn y t hz hf h1 h2 h3).run pins s σ H D I h4⟩)) fun Dn σ H h => ?_
  obtain ⟨η, θ, μ, ρ, sk, rs, fin⟩ := h
  refine ⟨η, θ, μ, ρ, sk, rs, ?_⟩
  unfold sTryAs at fin
  cases e : f ρ μ with
  | ex y ρ' μ' =>
    rw [e] at fin
    simp only at fin
    split at fin
    · rename_i hy
      intro cv dd σ' H' θ' st rs' xr
      obtain ⟨C1, h1, h2⟩ := hok y hy
      have isx : IsExn X y cv dd := by
        obtain ⟨C2, g1, g2, g3⟩ := xr
        exact ⟨C2, g1, g2, fun e => by rw [e] at g3; exact g3⟩
      have ec : cv = .ref C1 := by
        obtain ⟨C2, g1, g2, _⟩ := isx
        rw [h1] at g1; cases g1; exact g2
      subst ec
      refine ⟨true, h2, fun _ a ha => ⟨y, ⟨a, hid H' (θ' ++ η), θ'⟩, isx, hy, rfl, η, θ', μ', _, st.ok, rs'.set (RepSl.clo (t := ⟨a, hid H' (θ' ++ η), θ'⟩) (Ext.refl _) (Pre.refl _)), ?_⟩, fun z => nomatch z⟩
      rcases uniO_at (fun t => (g y t (ρ'.set i (some (.clo t))) μ').rets) ⟨a, hid H' (θ' ++ η), θ'⟩ with z | z
      · rw [z] at fin; exact fin.elim
      · rw [z] at fin
        generalize g y ⟨a, hid H' (θ' ++ η), θ'⟩ (ρ'.set i (some (.clo ⟨a, hid H' (θ' ++ η), θ'⟩))) μ' = o at fin ⊢
        cases o with
        | rt s μ'' => exact FinS.rebase st fin
        | nx _ _ => exact fin.elim
        | bk _ _ => exact fin.elim
        | ct _ _ => exact fin.elim
        | ex _ _ _ => exact fin.elim
        | no => exact fin.elim
    · exact fin.elim
  | nx a b => rw [e] at fin; exact fin
  | rt a b => rw [e] at fin; exact fin
  | bk a b => rw [e] at fin; exact fin
  | ct a b => rw [e] at fin; exact fin
  | no => rw [e] at fin; exact fin
end
end DL

set_option Elab.async false
set_option linter.all false
set_option maxRecDepth 100000
set_option maxHeartbeats 1000000
/-! DLNamed: a def called in an except suite that asks of what class the error is -/
namespace DL
open PySem PySem.Spec PyProof.Rows L2 LamX NdefX L2H HotX
variable [TabCtx]

/-! ### isinstance of the handled error -/
theorem call_isEx {X : Cx} {a D : Addr} {oe : Obj} (C : ExcC X.K D) (hz : Zc (.ref D) none oe) (hf : ∃ vs, oe.data = .fields vs) (hp : (a, oe) ∈ X.pn) : CallR X (.builtin "isinstance") (rIsE X.K D a) := by
  intro pins s σ H xs us Q I r h
  obtain ⟨c, cv, b, rfl, hcv, e, q⟩ := h
  cases r with
  | cons rx rr => cases rr with
    | cons rt rr =>
      cases rr
      cases rx
      cases hcv _ rt
      have hget := (I.pin (a, oe) (List.mem_append_left _ hp)).1
      obtain ⟨vs, hv⟩ := hf
      have J : PySem.W.InstAt s.heap a oe D none := by
        obtain ⟨oc, od, oda, osl⟩ := oe
        obtain ⟨h1, h2⟩ := hz
        dsimp only at h1 h2 hv
        subst h1 h2 hv
        exact ⟨hget, rfl, rfl, trivial⟩
      exact PySem.W.kia_one (PySem.W.handS_kitx_exc C.hg C.hk C.hs C.hd C.ha C.hn C.ht C.hm) I.kIn J e (fun z => nomatch z) fun tk => ⟨.bl b, H, I.kept (t' := tk) fun _ _ z => z, rfl, q⟩
open Classical in
/-- isinstance(e, ..), e the name at i -/
noncomputable def eIsE (i : Nat) (t : CTok) (b : Bool) : EF := fun ρ μ => match ρ[i]? with
  | some (some (.clo t')) => if t' = t then .ok (.d (.bl b)) μ else .no
  | _ => .no
section
variable {X : Cx} {W : WXD}
theorem pd_isE {a D C : Addr} {oe : Obj} {x n : Str} {t : CTok} {b : Bool} {p p0 p1 pos : Pos} (i : Nat) (hC : ExcC X.K D) (hz : Zc (.ref D) none oe) (hf : ∃ vs, oe.data = .fields vs) (hp : (a, oe) ∈ X.pn) (ht : t.f = a) (hg : Gl X "isinstance") (hm : X.mg "isinstance" = none) (hgn : Gl X n) (hmn : X.mg n = some (.ref C)) (hb : PySem.W.kitOne X.K (.ref D) (.ref C) = some b)
    (hN : X.N[i]? = some x := by rfl) (hv : Vis X.env.scope x := by first | exact Or.inl rfl | exact Or.inr (Or.inl rfl) | exact Or.inr (Or.inr rfl)) (hdn : (n == ("__debug__" : Str)) = false := by decide) (hd : (x == ("__debug__" : Str)) = false := by decide) (hcd : (x == ("__classdict__" : Str)) = false := by decide)
    (hs : starEach [.Name x p0, .Name n p1] X.env = (false, eval (.Name x p0) X.env) :: starEach [.Name n p1] X.env := by rfl) (hs2 : starEach [.Name n p1] X.env = (false, eval (.Name n p1) X.env) :: starEach [] X.env := by rfl) (hpl : (backTo pos (starEach [.Name n p1] X.env)).any (·.1) = false := by rfl) :
    PEd X W (.Call (.Name "isinstance" p) [.Name x p0, .Name n p1] [] pos) (eIsE i t b) := by
  refine PE.imp (pe_callB (call_isEx hC hz hf hp) hg hm (by decide +kernel) (pa_cons (pe_var (i := i) hN hv hd hcd) (pa_cons (pe_glob (v := .ref C) hgn hmn rfl hdn) pa_nil hs2) hs) (by decide) (by decide) hs hpl) fun σ H Q h => ?_
  obtain ⟨η, θ, μ, ρ, ok, rs, fin⟩ := h
  unfold eIsE at fin
  split at fin
  · rename_i t' e1
    split at fin
    · rename_i et
      subst et
      obtain ⟨v, h5, h6⟩ := rs.at_ i _ e1
      cases h6 with
      | clo g1 g2 => exact ⟨_, h5, V.ref C, .ref C, b, by rw [ht], fun u r => r, hb, fin.done (Step.refl ok) (.d .bl)⟩
    · exact fin.elim
  · exact fin.elim
theorem pd_isET {a D : Addr} {oe : Obj} {x T : Str} {nm : String} {t : CTok} {b : Bool} {p p0 p1 pos : Pos} (i : Nat) (hC : ExcC X.K D) (hz : Zc (.ref D) none oe) (hf : ∃ vs, oe.data = .fields vs) (hp : (a, oe) ∈ X.pn) (ht : t.f = a) (hg : Gl X "isinstance") (hm : X.mg "isinstance" = none) (hgT : Gl X T) (hmT : X.mg T = none) (hvT : bootBuiltins T = some (.type nm)) (hb : PySem.W.kitOne X.K (.ref D) (.type nm) = some b)
    (hN : X.N[i]? = some x := by rfl) (hv : Vis X.env.scope x := by first | exact Or.inl rfl | exact Or.inr (Or.inl rfl) | exact Or.inr (Or.inr rfl)) (hn : T ≠ "__name__" := by decide) (hdn : (T == ("__debug__" : Str)) = false := by decide) (hd : (x == ("__debug__" : Str)) = false := by decide) (hcd : (x == ("__classdict__" : Str)) = false := by decide)
    (hs : starEach [.Name x p0, .Name T p1] X.env = (false, eval (.Name x p0) X.env) :: starEach [.Name T p1] X.env := by rfl) (hs2 : starEach [.Name T p1] X.env = (false, eval (.Name T p1) X.env) :: starEach [] X.env := by rfl) (hpl : (backTo pos (starEach [.Name T p1] X.env)).any (·.1) = false := by rfl) :
    PEd X W (.Call (.Name "isinstance" p) [.Name x p0, .Name T p1] [] pos) (eIsE i t b) := by
  refine PE.imp (pe_callB (call_isEx hC hz hf hp) hg hm (by decide +kernel) (pa_cons (pe_var (i := i) hN hv hd hcd) (pa_cons (pe_bltn (v := .ty nm) hgT hmT hvT rfl hn hdn) pa_nil hs2) hs) (by decide) (by decide) hs hpl) fun σ H Q h => ?_
  obtain ⟨η, θ, μ, ρ, ok, rs, fin⟩ := h
  unfold eIsE at fin
  split at fin
  · rename_i t' e1
    split at fin
    · rename_i et
      subst et
      obtain ⟨v, h5, h6⟩ := rs.at_ i _ e1
      cases h6 with
      | clo g1 g2 => exact ⟨_, h5, V.ty nm, .type nm, b, by rw [ht], fun u r => r, hb, fin.done (Step.refl ok) (.d .bl)⟩
    · exact fin.elim
  · exact fin.elim
/-! texts taken apart, put together -/
def strsOf : List D → Option (List Str)
  | [] => some []
  | .str s :: r => (strsOf r).map (s :: ·)
  | _ :: _ => none
def lSplit (fa fb : EF) : LF := fun ρ μ => (fa ρ μ).bind fun x μ1 => match x with
  | .d (.str a) => (fb ρ μ1).bind fun y μ2 => match y with
    | .d (.str b) => if (b.length == 0) = false ∧ a.length + 2 ≤ 16777216 then .ok ((Txt.split a b).map .str) μ2 else .no
    | _ => .no
  | _ => .no
def eJoin (fa fb : EF) : EF := fun ρ μ => (fa ρ μ).bind fun x μ1 => match x with
  | .d (.str a) => (fb ρ μ1).bind fun y μ2 => match dr μ2 y with
    | some (.lst ds) => match strsOf ds with
      | some ys => if (ys.map (·.length)).sum + ys.length * a.length ≤ 16777216 then .ok (.d (.str (Txt.join a ys))) μ2 else .no
      | none => .no
    | _ => .no
  | _ => .no
theorem FinL.rebase {mg : Str → Option Value} {K : PySem.W.Frag} {E : XK} {η : List Addr} {H H1 : Hp} {θ θ1 : List Addr} {μ1 : Store} {r : Res (List D)} {Q : VK} (st : Step mg K η H θ H1 θ1 μ1) (h : FinL mg K E η H θ r Q) : FinL mg K E η H1 θ1 r Q := by
  cases r with
  | ok a μ' => exact fun p H2 θ2 xs s2 => h p H2 θ2 xs (st.trans s2)
  | ex x μ' => exact fun cv dd H' θ' s2 rr => h cv dd H' θ' (st.trans s2) rr
  | no => exact h
theorem FinL.andThen {mg : Str → Option Value} {K : PySem.W.Frag} {E : XK} {η : List Addr} {H : Hp} {θ : List Addr} {α β : Type} {R : Hp → List Addr → α → β → Prop} {r : Res α} {g : α → Store → Res (List D)} {Q : VK} {Q' : β → Hp → Prop} (h : FinL mg K E η H θ (r.bind g) Q)
    (k : ∀ a μ1 v H1 θ1, r = .ok a μ1 → Step mg K η H θ H1 θ1 μ1 → R (hid H1 (θ1 ++ η)) θ1 a v → FinL mg K E η H1 θ1 (g a μ1) Q → Q' v H1) : Fin mg K E η H θ R r Q' := by
  cases r with
  | ok a μ' => exact fun v H' θ' st rr => k a μ' v H' θ' rfl st rr (FinL.rebase st h)
  | ex x μ' => exact h
  | no => exact h
theorem RepL.strs {mg : Str → Option Value} {K : PySem.W.Frag} {G : Hp} : ∀ ys : List Str, RepL mg K G (ys.map .str) (ys.map V.str)
  | [] => .nil
  | _ :: r => .cons .str (RepL.strs r)
theorem strs_inv {mg : Str → Option Value} {K : PySem.W.Frag} {G : Hp} : ∀ {ds : List D} {ys : List Str} {vs : List V}, strsOf ds = some ys → RepL mg K G ds vs → vs = ys.map V.str
  | [], _, _, h, .nil => by cases h; rfl
  | .str s :: r, _, _, h, .cons .str l => by
    simp only [strsOf, Option.map_eq_some_iff] at h
    obtain ⟨zs, h1, rfl⟩ := h
    rw [strs_inv h1 l]; rfl
  | .non :: _, _, _, h, _ => by cases h
  | .bl _ :: _, _, _, h, _ => by cases h
  | .int _ :: _, _, _, h, _ => by cases h
  | .tup _ :: _, _, _, h, _ => by cases h
  | .lst _ :: _, _, _, h, _ => by cases h
  | .fn _ :: _, _, _, h, _ => by cases h
  | .scr _ :: _, _, _, h, _ => by cases h
theorem pl_split {a b : Expr} {fa fb : EF} {apos pos : Pos} (ha : PEd X W a fa) (hb : PEd X W b fb) (hs : starEach [b] X.env = [(false, eval b X.env)] := by rfl) (hbase : attributeBase a "split" X.env (eval a X.env) = eval a X.env := by rfl) (hline : (apos.endLine == pos.line) = true := by rfl) :
    PLd X W (.Call (.Attribute a "split" apos) [b] [] pos) (lSplit fa fb) := by
  refine PE.imp (pe_split ha hb hs hbase hline) fun σ H Q h => ?_
  obtain ⟨η, θ, μ, ρ, ok, rs, fin⟩ := h
  refine ⟨η, θ, μ, ρ, ok, rs, FinL.andThen fin fun dx μ1 x H1 θ1 _ st rx fin1 => ?_⟩
  split at fin1
  · cases rx with
    | d rx =>
      cases rx
      refine ⟨⟨_, rfl⟩, η, θ1, μ1, ρ, st.ok, rs.step st, FinL.andThen fin1 fun dy μ2 y H2 θ2 _ st2 ry fin2 => ?_⟩
      split at fin2
      · split at fin2
        · rename_i hz
          cases ry with
          | d ry =>
            cases ry
            exact ⟨_, _, rfl, rfl, hz.1, by rw [sizeLine_eq]; exact hz.2, fun p hp => fin2 p H2 θ2 _ (Step.refl st2.ok) hp (RepL.strs _)⟩
        · exact fin2.elim
      · exact fin2.elim
  · exact fin1.elim
theorem pd_join {a b : Expr} {fa fb : EF} {apos pos : Pos} (ha : PEd X W a fa) (hb : PEd X W b fb) (hs : starEach [b] X.env = [(false, eval b X.env)] := by rfl) (hbase : attributeBase a "join" X.env (eval a X.env) = eval a X.env := by rfl) (hline : (apos.endLine == pos.line) = true := by rfl) :
    PEd X W (.Call (.Attribute a "join" apos) [b] [] pos) (eJoin fa fb) := by
  refine PE.imp (pe_join ha hb hs hbase hline) fun σ H Q h => ?_
  obtain ⟨η, θ, μ, ρ, ok, rs, fin⟩ := h
  refine ⟨η, θ, μ, ρ, ok, rs, fin.andThen fun dx μ1 x H1 θ1 _ st rx fin1 => ?_⟩
  split at fin1
  · cases rx with
    | d rx =>
      cases rx
      refine ⟨⟨_, rfl⟩, η, θ1, μ1, ρ, st.ok, rs.step st, fin1.andThen fun dy μ2 y H2 θ2 _ st2 ry fin2 => ?_⟩
      split at fin2
      · rename_i ds ed
        split at fin2
        · rename_i ys ey
          split at fin2
          · rename_i hz
            obtain ⟨p, xs, rfl, hp, lx⟩ := (dr_rep st2.ok ry ed).lst
            have e1 := strs_inv ey lx
            subst e1
            exact ⟨_, p, ys, rfl, rfl, .inl (SqL.of hp), hz, fin2.done (Step.refl st2.ok) (.d .str)⟩
          · exact fin2.elim
        · exact fin2.elim
      · exact fin2.elim
  · exact fin1.elim
/-! assignments that ask for no calm -/
theorem sdn_set {x : Str} (nd : X.N.Nodup) (i : Nat) {e : Expr} {f : EF} {pos pos' : Pos} (he : PEd X W e f) (hi : X.N[i]? = some x := by rfl) (hx : Loc X.env.scope x := by first | exact Or.inl rfl | exact Or.inr rfl) (hs : swapsWith e (some (.Name x pos')) pos.line X.env = pure false := by rfl) (hf : X.fn x = true ∨ X.env.scope.names.lookup x = some .local := by first | exact .inl rfl | exact .inr rfl) : PSd X W (.Assign [.Name x pos'] e pos) (sAsg f (gN i)) := by
  refine PS.imp (ps_set nd hi hx he hs hf) fun Dn σ H h => ?_
  obtain ⟨η, θ, μ, ρ, ok, rs, fin⟩ := h
  refine ⟨η, θ, μ, ρ, ok, rs, Fin.andThenS fin rs fun s μ1 v H1 θ1 _ st r f1 => ?_⟩
  exact f1 _ _ _ (Step.refl st.ok) ((rs.step st).set r)
/-! [.. for a, b in zip(xs, ys) if ..] while an exception is handled -/
theorem PIG.imp {Cn : Cx → Pins → Prop} {tg e : Expr} {t t' : TI} (h : PIG X Cn tg e t) (k : ∀ σ H Q, t' σ H Q → t σ H Q) : PIG X Cn tg e t' := ⟨fun pins s σ H Q I q => h.run pins s σ H Q I (k σ H Q q)⟩
theorem PGc.imp {Cn : Cx → Pins → Prop} {e : Expr} {t t' : TG} (h : PGc X Cn e t) (k : ∀ v σ H Q, t' v σ H Q → t v σ H Q) : PGc X Cn e t' := ⟨fun pins cn s σ H v u Q I r q => h.run pins cn s σ H v u Q I r (k v σ H Q q)⟩
/-- zip of two lists -/
def lstD (μ : Store) (s : Sl) : Option (List D) := match s with
  | .d (.lst ds) => some ds
  | _ => none
def sZipL (f g : EF) : LF := fun ρ μ => (f ρ μ).bind fun x μ1 => (g ρ μ1).bind fun y μ2 => match lstD μ2 x, lstD μ2 y with
  | some a, some b => .ok (zipD a b) μ2
  | _, _ => .no
theorem pid_zipH {a b : Expr} {f g : EF} {p pos tp : Pos} {elts : List Expr} {kk : Nat} (hg : Gl X "zip") (hm : X.mg "zip" = none) (ha : PEd X W a f) (hb : PEd X W b g)
    (hs : starEach [a, b] X.env = (false, eval a X.env) :: starEach [b] X.env := by rfl) (hs2 : starEach [b] X.env = (false, eval b X.env) :: starEach [] X.env := by rfl) (hpl : (backTo pos (starEach [b] X.env)).any (·.1) = false := by rfl) : PIG X HotP (.Tuple elts kk tp) (.Call (.Name "zip" p) [a, b] [] pos) (tI X.mg X.K W (sZipL f g)) := by
  refine PIG.imp (pi_zipH hg hm (pd_cons ha (pd_cons hb pd_nil hs2) hs) hs hpl) fun σ H R hh => ?_
  obtain ⟨η, θ, μ, ρ, ok, rs, fin⟩ := hh
  refine ⟨η, θ, μ, ρ, ok, rs, ?_⟩
  unfold sZipL at fin
  unfold aCons
  cases e : f ρ μ with
  | ok x μ1 =>
    rw [e] at fin
    simp only [Res.bind] at fin ⊢
    cases e2 : g ρ μ1 with
    | ok y μ2 =>
      rw [e2] at fin
      simp only [aNil] at fin ⊢
      intro vs H1 θ1 st rx
      cases rx with
      | cons rx l => cases l with
        | cons ry l =>
          cases l
          split at fin
          · rename_i da db ea eb
            cases x with
            | d dx => cases dx with
              | lst ds =>
                cases y with
                | d dy => cases dy with
                  | lst es =>
                    cases ea
                    cases eb
                    cases rx with
                    | d rx => cases rx with
                      | lst hp lp => cases ry with
                        | d ry => cases ry with
                          | lst hq lq =>
                            exact ⟨_, _, _, _, rfl, SqL.of (hid_some hp).2, SqL.of (hid_some hq).2, (Fin.rebase st fin) _ _ _ (Step.refl st.ok) (it_zip (t1 := false) (t2 := false) (by simpa using hp) lp (by simpa using hq) lq)⟩
                  | _ => cases eb
                | _ => cases eb
              | _ => cases ea
            | _ => cases ea
          · exact fin.elim
    | ex x μ' => rw [e2] at fin; exact fin
    | no => rw [e2] at fin; exact fin
  | ex x μ' => rw [e] at fin; exact fin
  | no => rw [e] at fin; exact fin
theorem pgdn_n (nd : X.N.Nodup) (i : Nat) {x : Str} {pos : Pos} (hi : X.N[i]? = some x := by rfl) (hx : Loc X.env.scope x := by first | exact Or.inl rfl | exact Or.inr rfl) (hf : X.fn x = true ∨ X.env.scope.names.lookup x = some .local := by first | exact .inl rfl | exact .inr rfl) : PGd X (.Name x pos) (gN i) [i] := by
  refine PG.imp (pg_name nd hi hx hf) fun v σ H Q h => ?_
  obtain ⟨η, θ, μ, ρ, s, ρ', ok, rs, rv, e, q⟩ := h
  cases e
  exact q _ (rs.set rv) But.set
def gTt (gs : List GF) : GF := fun s ρ => match s with
  | .d (.tup ds) => gLs gs ds ρ
  | _ => none
theorem pgd_tH {es : List Expr} {gs : List GF} {n m : Nat} {vs : List Nat} {pos : Pos} (h : PGsd X es gs vs) (hn : gs.length = n := by rfl) (h1 : (assignEach es X.env).length = n := by rfl) (h2 : (assignEach es X.env).findIdx? (fun x => x.1) = none := by rfl) :
    PGc X HotP (.Tuple es m pos) (tG X.mg X.K (gTt gs) vs) := by
  refine PGc.imp (pg_tupH (n := n) h h1 h2) fun v σ H Q h => ?_
  obtain ⟨η, θ, μ, ρ, s, ρ', ok, rs, rv, e, q⟩ := h
  unfold gTt at e
  split at e
  · cases rv with
    | d rv => cases rv with
      | tup hp l => exact ⟨_, _, rfl, SqT.of (hid_some hp).2, by rw [← l.length, gLs_len e, hn], η, θ, μ, ρ, _, ρ', ok, rs, l, e, q⟩
  · cases e
theorem pl_lcH {elt tg iter : Expr} {ifs : List Expr} {scope : Scope} {own : List (Str × Nat)} {pos : Pos} {src : LF} {g : GF} {vs0 : List Nat} {t : BF} {e : EF} (c : HotC X) (nd : X.N.Nodup) (hi : PIG X HotP tg iter (tI X.mg X.K W src)) (ok : BlkOk X.N X.env.scope scope own)
    (hg : ∀ (s : Shared) (H : Hp) (A : Addr) (cl : List (Str × Addr)) (fp : List Addr), PGc (X.blk s H scope (compEnvC scope cl A X.env) fp) HotP tg (tG X.mg X.K g vs0))
    (ht : ∀ (s : Shared) (H : Hp) (A : Addr) (cl : List (Str × Addr)) (fp : List Addr), PTsd (X.blk s H scope (compEnvC scope cl A X.env) fp) W0 ifs t)
    (he : ∀ (s : Shared) (H : Hp) (A : Addr) (cl : List (Str × Addr)) (fp : List Addr), PEd (X.blk s H scope (compEnvC scope cl A X.env) fp) W0 elt e)
    (hv : ∀ i ∈ vs0, i ∈ own.map (·.2) := by decide) (hs : ∀ x, foldedSetIterable iter X.env x = pure x := by intro _; rfl) : PLd X W (.ListComp elt [⟨tg, iter, ifs, 0⟩] scope pos) (lLc (own.map (·.2)) src g t e) :=
  PE.imp (pe_lcG (Cn := HotP) (wi := tI X.mg X.K W src) (g := tG X.mg X.K g vs0) (tt := tBD X.mg X.K W0 t) (te := tD X.mg X.K W0 e) (fun s H C cl fp pins more => hotBlk c s H scope C cl fp pins more) nd hi ok (fun s H C cl fp _ => hg s H C cl fp) (fun s H C cl fp _ => ht s H C cl fp) (fun s H C cl fp _ => he s H C cl fp) hs) (lc_read hv)
end
/-! ### a def called in an except suite with the error -/
structure FnE (P : Program) (w : World) (K : PySem.W.Frag) (mg : Str → Option Value) (base : Heap) (k : Nat) (f : Addr) (fd : FuncData) (ps : List Str) (sp : (Addr × Obj) → Sp) : Prop where
  len : ∀ p vs H Q E, sp p vs H Q E → vs.length = ps.length
  run : ∀ (A : Around) (outer : List Env) (s : Shared) (H : Hp) (args : Args) (us : List Value) (vs : List V) (Q : VK) (E : XK) (p : Addr × Obj), RoomH k A → Hot1 A p → PinOk outer H s p → Env0 P w K mg base A outer s H → BindsTo s fd args (ps.zip us) → Vals vs us → sp p vs H Q E →
    codeAny (model P w) A (.call (.ref f) args) (CR (CXr P w) outer P w H s Q E) s
theorem fn_ofE {P : Program} {w : World} {K : PySem.W.Frag} {mg : Str → Option Value} {base : Heap} {k : Nat} {x qual : Str} {st : Stmt} {f : Addr} {fd : FuncData} {N ps : List Str} {sp : (Addr × Obj) → Sp} (F : Fun K x qual st f fd) (S : FnScope N ps (defScope st))
    (len : ∀ p vs H Q E, sp p vs H Q E → vs.length = ps.length)
    (hbody : ∀ (cdv : Value) (A : Around) (outer : List Env) (s : Shared) (H : Hp) (vs : List V) (Q : VK) (E : XK) (p : Addr × Obj), Hot1 A p → RoomH k (A.deeper (envOfC qual (defScope st) s.heap.objs.size f cdv)) → sp p vs H Q E →
      ∃ t, PSs (cxH (CXr P w) P w K mg base N qual (defScope st) f cdv A outer s H E p) (defBody st) t ∧ t { nx := fun _ H' => Q .non H', rt := Q } (L2.start N vs) H) : FnE P w K mg base (k + 1) f fd ps sp := by
  obtain ⟨oc, od, kV, doc, pm, an, cdv, ct, osl, rfl, lk, hcd⟩ := F.ex
  refine ⟨len, fun A outer s H args us vs Q E p hr hot hpin e0 hb r hsp => ?_⟩
  have KX : K.In s.heap := e0.mod.kin.keeps fun b o e => (e0.bs b o e).1
  have lim : s.heap.NoLimit := e0.mod.nolimit.keeps fun b o e => (e0.bs b o e).1
  refine codeAny_call_function hr.depth (KX _ _ lk) rfl S.co S.gen rfl (PySem.W.codeRec_of KX hcd) (hb _ _ _ _ (wpAny_newFunctionEnv_cells S.kind (fun y hy => ?_) ?_))
  · rcases S.par y.1 (List.of_mem_zip hy).1 with q | q
    · exact .inl q
    · exact .inr ⟨q, PySem.W.cellsFrom_some _ _ _ (.inl q)⟩
  · rintro env rfl s1 x1
    refine ⟨lim.keeps x1.toInCall.keep, codeAny_func ?_⟩
    obtain ⟨t, ht, hq⟩ := hbody cdv A outer s H vs Q E p hot (hr.deeper _) hsp
    refine wpAny_mono (ht.run [] s1 _ H _ (inv_startH S hpin e0 (len _ _ _ _ _ hsp) r x1) hq) (fun fl s' hs => ?_) fun _ _ hs => hs
    match fl, hs with
    | .ret u, ⟨v, σ', H', J, rv, q⟩ => exact ⟨v, H', J.os, J.bare, J.base, J.hok, rv, q⟩
    | .next, ⟨σ', H', J, q⟩ => exact ⟨.non, H', J.os, J.bare, J.base, J.hok, rfl, q⟩
    | .brk, ⟨_, _, _, q⟩ => exact False.elim q
    | .cont, ⟨_, _, _, q⟩ => exact False.elim q
/-- the promise: the error's label -/
def spNm (mg : Str → Option Value) (K : PySem.W.Frag) (lab : Exn → Option Str) : (Addr × Obj) → Sp := fun p vs H Q E => vs = [.ref p.1] ∧ ∃ y cls d l η θ μ, L2N.Zn cls d p.2 ∧ (∃ us, p.2.data = .fields us) ∧ (∃ C, mg y.cls = some (.ref C) ∧ cls = .ref C ∧ (y.fs = none → d = none)) ∧ lab y = some l ∧ StOk mg K η H θ μ ∧ Fin mg K E η H θ (RepSl mg K) (.ok (.d (.str l)) μ) Q
open Classical in
noncomputable def eNm (i : Nat) (t : CTok) (l : Option Str) : EF := fun ρ μ => match ρ[i]? with
  | some (some (.clo t')) => if t' = t then (match l with | some l => .ok (.d (.str l)) μ | none => .no) else .no
  | _ => .no
theorem fx_okE {P : Program} {w : World} {K : PySem.W.Frag} {mg : Str → Option Value} {base : Heap} {k : Nat} {x qual pn : Str} {st : Stmt} {f : Addr} {fd : FuncData} {N : List Str} {lab : Exn → Option Str} {body : Exn → CTok → SF} (F : Fun K x qual st f fd) (S : FnScope N [pn] (defScope st))
    (hlab : ∀ y l, lab y = some l → ∀ t μ, body y t (rho0 (N.length - 1) [.clo t]) μ = .rt (.d (.str l)) μ)
    (hb : ∀ (cdv : Value) (A : Around) (outer : List Env) (s : Shared) (H : Hp) (E : XK) (a : Addr) (oe : Obj) (y : Exn) (cls : Value) (d : Option Addr) (l : Str) (t : CTok), Hot1 A (a, oe) → L2N.Zn cls d oe → (∃ us, oe.data = .fields us) → (∃ C, mg y.cls = some (.ref C) ∧ cls = .ref C ∧ (y.fs = none → d = none)) → lab y = some l → t.f = a →
      HotC (cxH (CXr P w) P w K mg base N qual (defScope st) f cdv A outer s H E (a, oe)) → RoomH k (A.deeper (envOfC qual (defScope st) s.heap.objs.size f cdv)) →
      PSsd (cxH (CXr P w) P w K mg base N qual (defScope st) f cdv A outer s H E (a, oe)) W0 (defBody st) (body y t)) :
    FnE P w K mg base (k + 1) f fd [pn] (spNm mg K lab) := by
  refine fn_ofE F S (fun p vs H Q E h => by rw [h.1]; rfl) ?_
  rintro cdv A outer s H vs Q E ⟨a, oe⟩ hot hr ⟨rfl, y, cls, d, l, η, θ, μ, h1, h2, h3, h4, ok, fin⟩
  refine ⟨_, hb cdv A outer s H E a oe y cls d l ⟨a, hid H (θ ++ η), θ⟩ hot h1 h2 h3 h4 rfl ⟨(a, oe), hot, List.mem_cons_self⟩ hr, ?_⟩
  refine ⟨η, θ, μ, rho0 (N.length - 1) [.clo ⟨a, hid H (θ ++ η), θ⟩], ok, rep0 (vs := [.ref a]) (.cons (RepSl.clo (t := ⟨a, hid H (θ ++ η), θ⟩) (Ext.refl _) (Pre.refl _)) .nil), ?_⟩
  rw [hlab y l h4 ⟨a, hid H (θ ++ η), θ⟩ μ]
  exact fun v H' θ' st r => fin v H' θ' st r
/-- .. called in the suite -/
theorem pd_named {Y : Cx} {a : Addr} {oe : Obj} {pn : Pins} {k : Nat} {f : Addr} {fd : FuncData} {pn1 x n : Str} {lab : Exn → Option Str} {y : Exn} {cls : Value} {d : Option Addr} {t : CTok} {p p0 pos : Pos} (i : Nat) (F : FnE Y.prog Y.w Y.K Y.mg Y.base k f fd [pn1] (spNm Y.mg Y.K lab)) (hr : Room k Y.A) (hz : L2N.Zn cls d oe) (hf : ∃ vs, oe.data = .fields vs) (hy : IsExn Y y cls d) (ht : t.f = a)
    (hg : Gl (Y.suite a ((a, oe) :: pn)) x) (hm : Y.mg x = some (.ref f)) (hk : PySem.W.keepIn Y.K (.ref f) = true) (hb : Binds Y.K fd [pn1] [])
    (hN : Y.N[i]? = some n := by rfl) (hv : Vis Y.env.scope n := by first | exact Or.inl rfl | exact Or.inr (Or.inl rfl) | exact Or.inr (Or.inr rfl)) (hdn : (n == ("__debug__" : Str)) = false := by decide) (hcd : (n == ("__classdict__" : Str)) = false := by decide) (hdb : (x == ("__debug__" : Str)) = false := by decide)
    (he : starEach [.Name n p0] Y.env = (false, eval (.Name n p0) Y.env) :: starEach [] Y.env := by rfl) (hpl : (backTo pos (starEach [] Y.env)).any (·.1) = false := by rfl) :
    PEd (Y.suite a ((a, oe) :: pn)) W0 (.Call (.Name x p) [.Name n p0] [] pos) (eNm i t (lab y)) := by
  refine ⟨fun pins s σ H Q I h => ?_⟩
  obtain ⟨η, θ, μ, ρ, ok, rs, fin⟩ := h
  unfold eNm at fin
  split at fin
  · rename_i t' e1
    split at fin
    · rename_i et
      subst et
      cases el : lab y with
      | none => rw [el] at fin; exact fin.elim
      | some l =>
        rw [el] at fin
        simp only at fin
        obtain ⟨v, h5, h6⟩ := rs.at_ i _ e1
        cases h6 with
        | clo g1 g2 =>
          have ha : PA (Y.suite a ((a, oe) :: pn)) [.Name n p0] (tCons (tVar i) tNil) := pa_cons (pe_var (i := i) hN hv hdn hcd) pa_nil he
          refine wpAny_Call_Name_kw (ld_glob I hg hm ?_ hdb)
          refine PySem.W.callWith_K (h₀ := Y.base) I.ok.mod.kin hk (thn (ha.run pos pins s σ H (fun vs H1 => vs = [V.ref t'.f] ∧ H1 = H) I ⟨_, h5, rfl, rfl⟩) ?_) he hpl
          rintro us s1 ⟨vs, H1, I1, r, rfl, rfl⟩
          refine ⟨I1.kIn, ?_⟩
          have P1 := I1.pin (a, oe) (List.mem_append_left _ List.mem_cons_self)
          obtain ⟨us1, hu⟩ := hf
          have hl : us.length = ([pn1] : List Str).length := by rw [← r.length]; rfl
          have bd := hb s1 us I1.kIn (by rw [List.append_nil]; exact hl)
          rw [List.append_nil] at bd
          refine wpAny_call (codeAny_mono (F.run _ _ s1 H1 ⟨us, []⟩ us _ Q (fun _ _ _ => False) (a, oe) ⟨hr.dp, hr.un⟩ ⟨rfl, us1, hu, hz.2.2 us1 hu⟩ ⟨P1.1, P1.2.1, fun hm => (List.mem_cons.mp (I1.stkSub a hm)).elim P1.2.2.1 P1.2.2.2.1, P1.2.2.2.2⟩ I1.env0 bd r ⟨by rw [ht], y, cls, d, l, η, θ, μ, hz, ⟨us1, hu⟩, hy, el, ok, ?_⟩) fun r2 s' hq => ?_)
          · exact fun v H' θ' st r => fin v H' θ' st r
          · match r2, hq with
            | .error u, hq => obtain ⟨_, _, _, _, _, _, _, _, _, _, _, _, z⟩ := hq; exact z.elim
            | .ok (.ret u), hq => exact I1.after hq
            | .ok .next, hq => exact False.elim hq
            | .ok .brk, hq => exact False.elim hq
            | .ok .cont, hq => exact False.elim hq
    · exact fin.elim
  · exact fin.elim
end DL

set_option Elab.async false
set_option linter.all false
set_option maxRecDepth 100000
set_option maxHeartbeats 1000000
/-! DLMix: t[::-1], t * n, t <= u of tuples, str(n), calls by a name that holds a def of the module -/
namespace HT
open PySem PySem.Spec PyProof.Rows
section
variable {prog : Program} {w : World} {A : Around} {E : Value → Shared → Prop} {s : Shared}
theorem fm_map {α β : Type} (f : α → Option β) (g : α → β) : ∀ l : List α, (∀ m ∈ l, f m = some (g m)) → l.filterMap f = l.map g
  | [], _ => rfl
  | a :: r, h => by
    rw [List.filterMap_cons, h a List.mem_cons_self, List.map_cons, fm_map f g r fun m hm => h m (List.mem_cons_of_mem _ hm)]
theorem pick_rev (xs : Array Value) : ((List.range xs.size).filterMap fun (m : Nat) => xs[((xs.size : Int) - 1 + (m : Int) * (-1)).toNat]?).toArray = xs.toList.reverse.toArray := by
  congr 1
  rw [fm_map _ (fun m => (xs.toList[xs.size - 1 - m]?).getD .none) _ fun m hm => by
    have hm : m < xs.size := by simpa using hm
    have e1 : ((xs.size : Int) - 1 + (m : Int) * (-1)).toNat = xs.size - 1 - m := by omega
    have h2 : xs.size - 1 - m < xs.size := by omega
    rw [e1]; simp [h2]]
  apply List.ext_getElem
  · simp
  · intro i h1 h2
    have hi : i < xs.size := by simpa using h1
    have h3 : xs.size - 1 - i < xs.size := by omega
    rw [List.getElem_map, List.getElem_range, List.getElem_reverse]
    simp [h3]
theorem getItem_tuple_rev {t sl : Addr} {items : Array Value} {vs : Value} {Q : Value → Shared → Prop} (ht : IsTup s.heap t items) (hs : s.heap.IsSliceOf sl .none .none vs) (ps : IsPart vs (some (-1)))
    (h : Q (.ref s.heap.objs.size) { s with heap := s.heap.push { cls := .type "tuple", data := .seq items.toList.reverse.toArray } }) (hsz : items.size ≤ sizeLine) : wpAny (model prog w) A (getItem (.ref t) (.ref sl)) Q E s := by
  have htake : sizeOk (.seq items.toList.reverse.toArray) := by
    change items.toList.reverse.toArray.size ≤ sizeLine
    rw [List.size_toArray, List.length_reverse, Array.length_toList]
    exact hsz
  obtain ⟨os, hos, hcs, hds⟩ := id hs
  have hTs : s.TypeIs (.ref sl) "slice" := ⟨os, hos, hcs⟩
  unfold getItem
  try with_reducible refine wpAny_holding ?_
  first | refine wpAny_bind (wpAny_pure ?_) | skip
  refine wpAny_bind (wpAny_sequenceKey ht.typeIs (by decide) (wpAny_bind (wpAny_callSpecial?_slot (name := Str.ofString "__getitem__") ht.typeIs PyProof.Rows.slot_tuple_getitem (wpAny_call_entry PyProof.Rows.slot_tuple_getitem ht.typeIs entry_tuple_getitem ?_ (args_tuple_getitem _ _)))))
  change wpAny _ _ (Builtin.Tuple.tupleItemsOf (.ref t) >>= _) _ _ s
  refine wpAny_bind (tupleItemsOf_ ht (wpAny_bind (wpAny_typeOf hTs ?_)))
  rw [if_pos (by decide)]
  refine wpAny_bind ?_
  unfold Builtin.Slice.sliceApplied Builtin.Slice.sliceFields
  refine wpAny_bind (wpAny_bind (wpAny_field hos hds (x := .none) rfl (wpAny_bind (wpAny_field hos hds (x := .none) rfl (wpAny_bind (wpAny_field hos hds (x := vs) rfl (wpAny_pure ?_)))))))
  refine wpAny_bind (slicePart_ ps ?_)
  change wpAny _ _ (if ((-1 : Int) == 0) = true then _ else _) _ _ s
  rw [if_neg (by decide)]
  refine wpAny_bind (slicePart_none (wpAny_bind (slicePart_none (wpAny_bind (wpAny_pure ?_)))))
  change wpAny _ _ (pure (((items.size : Nat) : Int) - 1, (-1 : Int), Builtin.Slice.slicePlaces (((items.size : Nat) : Int) - 1) (-1) (-1))) _ _ s
  have pl : Builtin.Slice.slicePlaces (((items.size : Nat) : Int) - 1) (-1) (-1) = items.size := by
    unfold Builtin.Slice.slicePlaces
    rw [if_neg (by decide)]
    split
    · rw [show (- -1 : Int) = 1 by decide, Int.ediv_one]; omega
    · omega
  rw [pl]
  refine wpAny_pure ?_
  have hno : ¬ (((((items.size : Nat) : Int) - 1) == 0 && (-1 : Int) == 1 && items.size == items.size) = true) := by simp
  change wpAny _ _ (if ((((items.size : Nat) : Int) - 1) == 0 && (-1 : Int) == 1 && items.size == items.size) = true then _ else _) _ _ s
  rw [if_neg hno, pick_rev]
  first
    | exact wpAny_bind (m := Builtin.Tuple.tupleExact _) (wpAny_newObj_type (wpAny_pure ⟨_, rfl, wpAny_pure h⟩) htake)
    | exact wpAny_bind (m := Builtin.Tuple.tupleExact _) (wpAny_newObj_type (wpAny_bind (wpAny_pure (wpAny_pure ⟨_, rfl, wpAny_pure h⟩))) htake)
    | exact wpAny_bind (wpAny_bind (m := Builtin.Tuple.tupleExact _) (wpAny_newObj_type (wpAny_pure (wpAny_pure ⟨_, rfl, wpAny_pure h⟩)) htake))
    | exact wpAny_bind (wpAny_bind (m := Builtin.Tuple.tupleExact _) (wpAny_newObj_type (wpAny_pure ⟨_, rfl, wpAny_pure h⟩) htake))
end
end HT
namespace DL
open PySem PySem.Spec PyProof.Rows L2
variable [TabCtx]
section
variable {X : Cx} {W : WXD}
/-! ### t[::-1] -/
def tRevT (K : PySem.W.Frag) (te : TE) : TE := fun σ H Q => te σ H fun x H1 => ∃ a xs, x = .ref a ∧ SqT K H1 a xs ∧ ∀ p, H1 p = none → Q (.ref p) (upd H1 p (.tup xs.reverse))
theorem pe_revT {e : Expr} {te : TE} {k : Nat} {p1 p2 p3 pos : Pos} (he : PE X e te) : PE X (.Subscript e (.Slice none none (some (.UnaryOp .USub (.Constant (.int 1) k p1) p2)) p3) pos) (tRevT X.K te) := by
  refine ⟨fun pins s σ H Q I h => Subscript_ (thn (he.run pins s σ H _ I h) ?_)⟩
  rintro v s1 ⟨x, H1, I1, r1, a, xs, rfl, hx, q⟩
  cases r1
  have hst : PO X (some (.UnaryOp .USub (.Constant (.int 1) k p1) p2)) (tPart (tUn (rU fun i => .int (-i)) (tC (.int 1)))) := po_some (pe_un un_neg pe_int)
  refine wpAny_Slice (thn (po_none.run pins s1 σ H1 (fun o H2 => o = none ∧ H2 = H1) I1 ⟨rfl, rfl⟩) ?_)
  rintro vl s2 ⟨l, H2, I2, pl, rfl, rfl⟩
  refine thn (po_none.run pins s2 σ H2 (fun o H3 => o = none ∧ H3 = H2) I2 ⟨rfl, rfl⟩) ?_
  rintro vu s3 ⟨u, H3, I3, pu, rfl, rfl⟩
  refine thn (hst.run pins s3 σ H3 (fun o H4 => o = some (-1) ∧ H4 = H3) I3 ⟨1, rfl, -1, rfl, rfl, rfl⟩) ?_
  rintro vs s4 ⟨o, H4, I4, ps, rfl, rfl⟩
  cases pl
  cases pu
  have I5 : Inv X pins σ H4 { s4 with heap := s4.heap.push { cls := .type "slice", data := .fields #[.none, .none, vs] } } := I4.kept (t' := s4.toks) fun b ob q => Heap.get?_push_of_some _ q
  obtain ⟨its, r, ht, hz⟩ := I5.tuple hx
  change wpAny (model X.prog X.w) X.A (subscriptTail e (.Slice none none (some (.UnaryOp .USub (.Constant (.int 1) k p1) p2)) p3) (.ref a) (.ref s4.heap.objs.size)) (EP X pins σ Q) X.xe { s4 with heap := s4.heap.push { cls := .type "slice", data := .fields #[.none, .none, vs] } }
  refine tail_any (ops := [.ref a, .ref s4.heap.objs.size]) ht.typeIs PyProof.Rows.slot_tuple_getitem.lookup ?_ (by with_unfolding_all rfl)
  refine HT.getItem_tuple_rev ht (Heap.IsSliceOf.new _ .none .none vs) ps ?_ (by rw [List.size_toArray, ← r.length]; exact hz)
  refine ⟨.ref _, _, I5.laid (t' := s4.toks) (o := .tup xs.reverse) (fun b ob q => Heap.get?_push_of_some _ q) (Nat.le_refl _) ?_, rfl, q _ (I5.hok.fresh (Nat.le_refl _))⟩
  exact ⟨by rw [List.length_reverse]; exact hz, _, r.reverse, IsTup.new _ _⟩
def revD : D → Option D
  | .tup ds => some (.tup ds.reverse)
  | _ => none
theorem pd_revT {e : Expr} {fe : EF} {k : Nat} {p1 p2 p3 pos : Pos} (he : PEd X W e fe) : PEd X W (.Subscript e (.Slice none none (some (.UnaryOp .USub (.Constant (.int 1) k p1) p2)) p3) pos) (e1 revD fe) := by
  refine PE.imp (pe_revT he) fun σ H Q h => ?_
  obtain ⟨η, θ, μ, ρ, ok, rs, fin⟩ := h
  refine ⟨η, θ, μ, ρ, ok, rs, fin.andThen fun dx μ1 x H1 θ1 _ st rx fin1 => ?_⟩
  unfold o1 at fin1
  split at fin1
  · rename_i d ed
    cases d with
    | tup ds =>
      obtain ⟨a, xs, rfl, hp, lx⟩ := (dr_rep st.ok rx ed).tup
      simp only [revD] at fin1
      exact ⟨a, xs, rfl, SqT.of hp, fun p np => (fin_ans st.ok fin1).tup st.ok.trk lx.rev np⟩
    | _ => exact fin1.elim
  · exact fin1.elim
end
/-! ### calls without arguments, where errors go on at the slots -/
section
variable {X : Cx} {W : WXD} {CX : CXT} {k j n : Nat} {f : Addr} {fd : FuncData} {ps : List Str}
theorem pe_call0SD {sp : Sp} {E : L2.St → XK} {x : Str} {p pos : Pos} (F : FnOk X.prog X.w X.K X.mg X.base CX k f fd ps sp) (hr : Room k X.A) (hg : Gl X x) (hm : X.mg x = some (.ref f)) (hk : PySem.W.keepIn X.K (.ref f) = true) (hb : Binds X.K fd ps []) (hx : ∀ σ, PassesAt CX X σ (E σ))
    (hdb : (x == ("__debug__" : Str)) = false := by decide) : PE X (.Call (.Name x p) [] [] pos) (fun σ H Q => sp [] H Q (E σ)) := by
  refine ⟨fun pins s σ H Q I h => wpAny_Call_Name_kw (ld_glob I hg hm ?_ hdb)⟩
  exact PySem.W.callWith_K0 I.kIn hk (run_fnSD (us := []) (vs := []) (dvs := []) F hr hb .nil (hx σ) I .nil h)
theorem pd_call0x {g : PF} {x : Str} {p pos : Pos} (C : Cxb X CX W k) (F : FnOk X.prog X.w X.K X.mg X.base CX j f fd ps (spP X.mg X.K 0 g)) (hj : j ≤ k) (hg : Gl X x) (hm : X.mg x = some (.ref f)) (hk : PySem.W.keepIn X.K (.ref f) = true) (hb : Binds X.K fd ps [])
    (hdb : (x == ("__debug__" : Str)) = false := by decide) : PEd X W (.Call (.Name x p) [] [] pos) (eCall0 g) := by
  refine PE.imp (pe_call0SD (E := fun σ c d H => W c d σ H) F (C.room.mono hj) hg hm hk hb C.pas hdb) fun σ H Q h => ?_
  obtain ⟨η, θ, μ, ρ, ok, rs, fin⟩ := h
  exact spP_of (ds := []) ok .nil rfl fin
end
/-! ### a name that holds a def of the module, called -/
structure HeldB (X : Cx) (k n : Nat) (f : Addr) (sp : Sp) : Prop where
  ex : ∃ (oc : Value) (od : Option Addr) (fd : FuncData) (sl : Array (Option Value)) (ps : List Str), X.base.get? f = some ⟨oc, od, .func fd, sl⟩ ∧ ps.length = n ∧ (∀ (s : Shared) (us : List Value), X.K.In s.heap → us.length = ps.length → BindsTo s fd ⟨us, []⟩ (ps.zip us)) ∧ FnOk X.prog X.w X.K X.mg X.base (L2N.CX X.prog X.w) k f fd ps sp
/-- the defs of a table: name, what it does -/
def FnTab (P : Program) (w : World) (K : PySem.W.Frag) (mg : Str → Option Value) (base : Heap) (k n : Nat) (tbl : List (Str × PF)) : Prop :=
  ∀ x g, tbl.lookup x = some g → ∃ (f : Addr) (oc : Value) (od : Option Addr) (fd : FuncData) (sl : Array (Option Value)) (ps : List Str), mg x = some (.ref f) ∧ base.get? f = some ⟨oc, od, .func fd, sl⟩ ∧ ps.length = n ∧ (∀ (s : Shared) (us : List Value), K.In s.heap → us.length = ps.length → BindsTo s fd ⟨us, []⟩ (ps.zip us)) ∧ FnOk P w K mg base (CXr P w) k f fd ps (spP mg K n g)
theorem FnTab.nil {P : Program} {w : World} {K : PySem.W.Frag} {mg : Str → Option Value} {base : Heap} {k n : Nat} : FnTab P w K mg base k n [] := fun x g h => by cases h
theorem FnTab.cons {P : Program} {w : World} {K : PySem.W.Frag} {mg : Str → Option Value} {base : Heap} {k j n : Nat} {x : Str} {st : Stmt} {ps : List Str} {g : PF} {tbl : List (Str × PF)} (m : Mod K mg base) (d : DefOk mg K x st ps) (F : FnOk P w K mg base (CXr P w) j d.f d.fd ps (spP mg K n g)) (hj : j ≤ k) (hn : ps.length = n) (r : FnTab P w K mg base k n tbl) : FnTab P w K mg base k n ((x, g) :: tbl) := fun y h e => by
  rw [List.lookup_cons] at e
  split at e
  · rename_i e1
    have e1 : y = x := by simpa using e1
    subst e1
    cases e
    obtain ⟨oc, od, kV, doc, pm, an, cdv, ct, osl, e2, lk, hcd⟩ := d.F.ex
    refine ⟨d.f, oc, od, d.fd, osl, ps, d.g, m.kin _ _ lk, hn, fun s us hK hl => ?_, F.mono hj⟩
    have b := d.b s us hK (by rw [List.append_nil]; exact hl)
    rw [List.append_nil] at b
    exact b
  · exact r y h e
def eCallV (i n : Nat) (tbl : List (Str × PF)) (fa : AF) : EF := fun ρ μ => match ρ[i]? with
  | some (some (.d (.fn x))) => match tbl.lookup x with
    | some g => eCall n g fa ρ μ
    | none => .no
  | _ => .no
section
variable {X : Cx} {W : WXD} {k j n : Nat}
theorem pe_callBD {i : Nat} {E : L2.St → XK} {x : Str} {p pos : Pos} {e : Expr} {es : List Expr} {t : TA} (hr : Room k X.A) (hx : ∀ σ, PassesAt (L2N.CX X.prog X.w) X σ (E σ)) (hN : X.N[i]? = some x) (hv : Vis X.env.scope x) (ha : PA X (e :: es) t)
    (hd : (x == ("__debug__" : Str)) = false := by decide) (hcd : (x == ("__classdict__" : Str)) = false := by decide) (he : starEach (e :: es) X.env = (false, eval e X.env) :: starEach es X.env := by rfl) (hpl : (backTo pos (starEach es X.env)).any (·.1) = false := by rfl) :
    PE X (.Call (.Name x p) (e :: es) [] pos) (fun σ H Q => ∃ f sp, σ[i]? = some (some (.ref f)) ∧ HeldB X k n f sp ∧ t σ H fun vs H1 => sp vs H1 Q (E σ)) := by
  refine ⟨fun pins s σ H Q I h => ?_⟩
  obtain ⟨f, sp, h1, ⟨oc, od, fd, sl, ps, h2, h3, h4, h5⟩, h6⟩ := h
  exact (pe_callB1 (i := i) (E := E) h5 h2 hr h4 hx hN hv ha hd hcd he hpl).run pins s σ H Q I ⟨h1, h6⟩
theorem pd_callV {tbl : List (Str × PF)} {x : Str} {e : Expr} {es : List Expr} {fa : AF} {p pos : Pos} (C : Cxb X (L2N.CX X.prog X.w) W k) (T : FnTab X.prog X.w X.K X.mg X.base j n tbl) (hj : j ≤ k) (i : Nat) (ha : PAd X W (e :: es) fa) (hN : X.N[i]? = some x := by rfl) (hv : Vis X.env.scope x := by first | exact Or.inl rfl | exact Or.inr (Or.inl rfl) | exact Or.inr (Or.inr rfl))
    (hd : (x == ("__debug__" : Str)) = false := by decide) (hcd : (x == ("__classdict__" : Str)) = false := by decide) (he : starEach (e :: es) X.env = (false, eval e X.env) :: starEach es X.env := by rfl) (hpl : (backTo pos (starEach es X.env)).any (·.1) = false := by rfl) :
    PEd X W (.Call (.Name x p) (e :: es) [] pos) (eCallV i n tbl fa) := by
  refine PE.imp (pe_callBD (n := n) (i := i) (E := fun σ c d H => W c d σ H) (C.room.mono hj) C.pas hN hv ha hd hcd he hpl) fun σ H Q h => ?_
  obtain ⟨η, θ, μ, ρ, ok, rs, fin⟩ := h
  unfold eCallV at fin
  split at fin
  · rename_i y e1
    split at fin
    · rename_i g e2
      obtain ⟨v, h5, h6⟩ := rs.at_ i _ e1
      cases h6 with
      | d h6 => cases h6 with
        | fn h7 =>
          obtain ⟨f, oc, od, fd, sl, ps, g1, g2, g3, g4, g5⟩ := T _ _ e2
          rw [h7] at g1
          cases g1
          refine ⟨_, _, h5, ⟨oc, od, fd, sl, ps, g2, g3, g4, g5⟩, η, θ, μ, ρ, ok, rs, ?_⟩
          unfold eCall at fin
          refine fin.andThen fun ss μ1 vs H1 θ1 _ st rx fin1 => ?_
          split at fin1
          · split at fin1
            · rename_i ds ed hn
              exact spP_of st.ok (dsOf_rep rx ed) hn fin1
            · exact fin1.elim
          · exact fin1.elim
    · exact fin.elim
  · exact fin.elim
/-! ### [.. for ..], told where the block begins -/
theorem PGd.c {Cn : Cx → Pins → Prop} {tg : Expr} {g : GF} {vs : List Nat} (h : PGd X tg g vs) : PGc X Cn tg (tG X.mg X.K g vs) := PG.c h
theorem pl_lcX {CX : CXT} {elt tg iter : Expr} {ifs : List Expr} {scope : Scope} {own : List (Str × Nat)} {pos : Pos} {src : LF} {g : GF} {vs0 : List Nat} {t : BF} {e : EF} (C : Cxb X CX W k) (hi : PId X W tg iter src) (ok : BlkOk X.N X.env.scope scope own)
    (hg : ∀ (s : Shared) (H : Hp) (A : Addr) (cl : List (Str × Addr)) (fp : List Addr), BlkAt X s H scope A cl fp → PGd (X.blk s H scope (compEnvC scope cl A X.env) fp) tg g vs0)
    (ht : ∀ (s : Shared) (H : Hp) (A : Addr) (cl : List (Str × Addr)) (fp : List Addr), BlkAt X s H scope A cl fp → PTsd (X.blk s H scope (compEnvC scope cl A X.env) fp) W0 ifs t)
    (he : ∀ (s : Shared) (H : Hp) (A : Addr) (cl : List (Str × Addr)) (fp : List Addr), BlkAt X s H scope A cl fp → PEd (X.blk s H scope (compEnvC scope cl A X.env) fp) W0 elt e)
    (hv : ∀ i ∈ vs0, i ∈ own.map (·.2) := by decide) (hs : ∀ x, foldedSetIterable iter X.env x = pure x := by intro _; rfl) : PLd X W (.ListComp elt [⟨tg, iter, ifs, 0⟩] scope pos) (lLc (own.map (·.2)) src g t e) :=
  PE.imp (pe_lcG (Cn := Calm) (wi := tI X.mg X.K W src) (g := tG X.mg X.K g vs0) (tt := tBD X.mg X.K W0 t) (te := tD X.mg X.K W0 e) (fun s H A cl fp pins more => C.calm) C.nd (PI.g hi) ok (fun s H A cl fp b => PGd.c (hg s H A cl fp b)) (fun s H A cl fp b => ht s H A cl fp b) (fun s H A cl fp b => he s H A cl fp b) hs) (lc_read hv)
end
theorem tabB_sub {b b' : Heap} {mg : Str → Option Value} {c P : Addr} (t : LamX.TabB b mg c P) (h : Sub b b') : LamX.TabB b' mg c P := ⟨t.code.keeps h, t.bm.keeps h, t.gP⟩
theorem FnOk.never {P : Program} {w : World} {K : PySem.W.Frag} {mg : Str → Option Value} {base : Heap} {CX : CXT} {k n : Nat} {f : Addr} {fd : FuncData} {ps : List Str} (hn : n = ps.length) : FnOk P w K mg base CX k f fd ps (spM mg K n fun _ _ => .no) :=
  ⟨fun vs H Q E h => h.1.trans hn, fun A outer s H args us vs Q E _ _ _ _ h => by obtain ⟨_, _, _, _, _, _, _, z⟩ := h; exact z.elim⟩
end DL

set_option linter.all false
set_option maxRecDepth 100000
/-! PV: how plain functions are evaluated: rules for simp, loops -/
namespace DL
open PySem L2
variable {ρ : Rho} {μ μ1 : Store} {α β : Type}
@[simp] theorem rbind_ok (a : α) (g : α → Store → Res β) : (Res.ok a μ).bind g = g a μ := rfl
@[simp] theorem rout_ok (a : α) (g : α → Store → Out) : (Res.ok a μ).toOut ρ g = g a μ := rfl
@[simp] theorem then_nx (g : SF) : (Out.nx ρ μ).then g = g ρ μ := rfl
@[simp] theorem then_rt (s : Sl) (g : SF) : (Out.rt s μ).then g = .rt s μ := rfl
@[simp] theorem eV_eq (i : Nat) : eV i ρ μ = match ρ[i]? with
  | some (some s) => .ok s μ
  | _ => .no := rfl
@[simp] theorem eC_eq (d : D) : eC d ρ μ = .ok (.d d) μ := rfl
@[simp] theorem e1_eq (g : D → Option D) (fa : EF) : DL.e1 g fa ρ μ = (fa ρ μ).bind fun x μ1 => o1 g x μ1 := rfl
@[simp] theorem e2_eq (g : D → D → Option D) (fa fb : EF) : e2 g fa fb ρ μ = (fa ρ μ).bind fun x μ1 => (fb ρ μ1).bind fun y μ2 => o2 g x y μ2 := rfl
@[simp] theorem aNil_eq : aNil ρ μ = .ok [] μ := rfl
@[simp] theorem aCons_eq (fa : EF) (fr : AF) : aCons fa fr ρ μ = (fa ρ μ).bind fun x μ1 => (fr ρ μ1).bind fun xs μ2 => .ok (x :: xs) μ2 := rfl
@[simp] theorem eN_eq (g : List D → Option D) (fa : AF) : eN g fa ρ μ = (fa ρ μ).bind fun xs μ1 => oN g xs μ1 := rfl
@[simp] theorem dsOf_nil : dsOf [] = some [] := rfl
@[simp] theorem dsOf_cons (x : D) (r : List Sl) : dsOf (.d x :: r) = (dsOf r).map (x :: ·) := rfl
@[simp] theorem eTup_eq (fa : AF) : eTup fa ρ μ = (fa ρ μ).bind fun xs μ1 => match dsOf xs with
  | some ds => if ds.length ≤ 16777216 then .ok (.d (.tup ds)) μ1 else .no
  | none => .no := rfl
@[simp] theorem lLst_eq (fa : AF) : lLst fa ρ μ = (fa ρ μ).bind fun xs μ1 => match dsOf xs with
  | some ds => if ds.length ≤ 16777216 then .ok ds μ1 else .no
  | none => .no := rfl
@[simp] theorem eFrz_eq (f : LF) : eFrz f ρ μ = (f ρ μ).bind fun ds μ1 => .ok (.d (.lst ds)) μ1 := rfl
@[simp] theorem eNew_eq (f : LF) : eNew f ρ μ = (f ρ μ).bind fun ds μ1 => .ok (.ob μ1.length) (μ1 ++ [.lst ds]) := rfl
@[simp] theorem bV_eq (f : EF) : bV f ρ μ = (f ρ μ).bind fun x μ1 => match x with
  | .d (.bl b) => .ok b μ1
  | _ => .no := rfl
@[simp] theorem bAnd_eq (f g : BF) : bAnd f g ρ μ = (f ρ μ).bind fun c μ1 => if c = true then g ρ μ1 else .ok false μ1 := rfl
@[simp] theorem bOr_eq (f g : BF) : bOr f g ρ μ = (f ρ μ).bind fun c μ1 => if c = true then .ok true μ1 else g ρ μ1 := rfl
@[simp] theorem bNot_eq (f : BF) : bNot f ρ μ = (f ρ μ).bind fun c μ1 => .ok (!c) μ1 := rfl
@[simp] theorem bYes_eq : bYes ρ μ = .ok true μ := rfl
@[simp] theorem eAnd_eq (f g : EF) : eAnd f g ρ μ = (f ρ μ).bind fun x μ1 => match x with
  | .d (.bl true) => g ρ μ1
  | .d (.bl false) => .ok (.d (.bl false)) μ1
  | _ => .no := rfl
@[simp] theorem eOr_eq (f g : EF) : eOr f g ρ μ = (f ρ μ).bind fun x μ1 => match x with
  | .d (.bl true) => .ok (.d (.bl true)) μ1
  | .d (.bl false) => g ρ μ1
  | _ => .no := rfl
@[simp] theorem eNot_eq (f : EF) : eNot f ρ μ = (f ρ μ).bind fun x μ1 => match x with
  | .d (.bl b) => .ok (.d (.bl (!b))) μ1
  | _ => .no := rfl
@[simp] theorem eIf_eq (c : BF) (f g : EF) : eIf c f g ρ μ = (c ρ μ).bind fun b μ1 => if b = true then f ρ μ1 else g ρ μ1 := rfl
@[simp] theorem eChn_eq (g h : D → D → Option D) (fa fb fc : EF) : eChn g h fa fb fc ρ μ = (fa ρ μ).bind fun x μ1 => (fb ρ μ1).bind fun y μ2 => (o2 g x y μ2).bind fun r μ3 => match r with
  | .d (.bl true) => (fc ρ μ3).bind fun z μ4 => o2 h y z μ4
  | .d (.bl false) => .ok (.d (.bl false)) μ3
  | _ => .no := rfl
@[simp] theorem pNone_eq : pNone ρ μ = .ok none μ := rfl
@[simp] theorem pSome_eq (f : EF) : pSome f ρ μ = (f ρ μ).bind fun x μ1 => match x with
  | .d (.int i) => .ok (some i) μ1
  | _ => .no := rfl
@[simp] theorem eSl_eq (fa : EF) (lo hi : OF) : eSl fa lo hi ρ μ = (fa ρ μ).bind fun x μ1 => (lo ρ μ1).bind fun l μ2 => (hi ρ μ2).bind fun h μ3 => o1 (fun a => slD a l h) x μ3 := rfl
@[simp] theorem eIsI_eq (T : String) (f : EF) : eIsI T f ρ μ = (f ρ μ).bind fun x μ1 => o1 (isiD T) x μ1 := rfl
@[simp] theorem sNil_eq : sNil ρ μ = .nx ρ μ := rfl
@[simp] theorem sSeq_eq (f g : SF) : sSeq f g ρ μ = (f ρ μ).then g := rfl
@[simp] theorem sExp_eq (f : EF) : sExp f ρ μ = (f ρ μ).toOut ρ fun _ μ1 => .nx ρ μ1 := rfl
@[simp] theorem sRet_eq (f : EF) : sRet f ρ μ = (f ρ μ).toOut ρ fun s μ1 => .rt s μ1 := rfl
@[simp] theorem sIf_eq (c : BF) (f g : SF) : sIf c f g ρ μ = (c ρ μ).toOut ρ fun b μ1 => if b = true then f ρ μ1 else g ρ μ1 := rfl
@[simp] theorem sAsg_eq (f : EF) (g : GF) : sAsg f g ρ μ = (f ρ μ).toOut ρ fun s μ1 => match g s ρ with
  | some ρ' => .nx ρ' μ1
  | none => .no := rfl
@[simp] theorem sPar_eq (i j : Nat) (f g : EF) : sPar i j f g ρ μ = (f ρ μ).toOut ρ fun s μ1 => (g ρ μ1).toOut ρ fun t μ2 => .nx ((ρ.set i (some s)).set j (some t)) μ2 := rfl
@[simp] theorem sPar3_eq (i j l : Nat) (f g h : EF) : sPar3 i j l f g h ρ μ = (f ρ μ).toOut ρ fun s μ1 => (g ρ μ1).toOut ρ fun t μ2 => (h ρ μ2).toOut ρ fun u μ3 => .nx (((ρ.set i (some s)).set j (some t)).set l (some u)) μ3 := rfl
@[simp] theorem sNever_eq : sNever ρ μ = .no := rfl
@[simp] theorem sFor_eq (src : LF) (g : GF) (body : SF) : sFor src g body ρ μ = (src ρ μ).toOut ρ fun ds μ1 => forL g body ds ρ μ1 := rfl
@[simp] theorem sWhile_eq (n : Nat) (c : BF) (body : SF) : sWhile n c body ρ μ = whL c body n ρ μ := rfl
@[simp] theorem sSq_eq (f : EF) : sSq f ρ μ = (f ρ μ).bind fun x μ1 => match x with
  | .d (.lst ds) => .ok ds μ1
  | .d (.tup ds) => .ok ds μ1
  | _ => .no := rfl
def rngR (n : Int) (μ : Store) : Res (List D) := if n.natAbs ≤ 1000000 then .ok (rngL 0 n.toNat) μ else .no
@[simp] theorem sRng1_eq (f : EF) : sRng1 f ρ μ = (f ρ μ).bind fun x μ1 => match x with
  | .d (.int n) => rngR n μ1
  | _ => .no := rfl
@[simp] theorem sEnum_eq (f : EF) : sEnum f ρ μ = (f ρ μ).bind fun x μ1 => match x with
  | .d (.lst ds) => .ok (ds.mapIdx fun i d => .tup [.int (i : Nat), d]) μ1
  | .d (.tup ds) => .ok (ds.mapIdx fun i d => .tup [.int (i : Nat), d]) μ1
  | _ => .no := rfl
@[simp] theorem sZip_eq (f g : EF) : sZip f g ρ μ = (f ρ μ).bind fun x μ1 => (g ρ μ1).bind fun y μ2 => match seqD x, seqD y with
  | some a, some b => .ok (zipD a b) μ2
  | _, _ => .no := rfl
@[simp] theorem seqD_t (ds : List D) : seqD (.d (.tup ds)) = some ds := rfl
@[simp] theorem seqD_l (ds : List D) : seqD (.d (.lst ds)) = some ds := rfl
@[simp] theorem lLc_eq (vs : List Nat) (src : LF) (g : GF) (t : BF) (e : EF) : lLc vs src g t e ρ μ = (src ρ μ).bind fun ds μ1 => lCap (lcL vs g t e ρ ds μ1) := rfl
@[simp] theorem eCall_eq (n : Nat) (g : PF) (fa : AF) : eCall n g fa ρ μ = (fa ρ μ).bind fun ss μ1 => match dsOf ss with
  | some ds => if ds.length = n then (g ds).res μ1 else .no
  | none => .no := rfl
@[simp] theorem eCall0_eq (g : PF) : eCall0 g ρ μ = (g []).res μ := rfl
@[simp] theorem res_ok (d : D) : (PR.ok d).res μ = .ok (.d d) μ := rfl
@[simp] theorem gN_eq (i : Nat) (s : Sl) : gN i s ρ = some (ρ.set i (some s)) := rfl
@[simp] theorem gT_t (gs : List GF) (ds : List D) : gT gs (.d (.tup ds)) ρ = gLs gs ds ρ := rfl
@[simp] theorem gT_l (gs : List GF) (ds : List D) : gT gs (.d (.lst ds)) ρ = gLs gs ds ρ := rfl
@[simp] theorem gLs_nil : gLs [] [] ρ = some ρ := rfl
@[simp] theorem gLs_cons (g : GF) (gs : List GF) (d : D) (ds : List D) : gLs (g :: gs) (d :: ds) ρ = (g (.d d) ρ).bind fun ρ' => gLs gs ds ρ' := rfl
@[simp] theorem dr_d (x : D) : dr μ (.d x) = some x := rfl
@[simp] theorem drL_nil : drL μ [] = some [] := rfl
@[simp] theorem drL_cons (s : Sl) (r : List Sl) : drL μ (s :: r) = match dr μ s, drL μ r with
  | some d, some ds => some (d :: ds)
  | _, _ => none := rfl
@[simp] theorem o1_eq (g : D → Option D) (x : Sl) : o1 g x μ = match dr μ x with
  | some a => ofO ((g a).map Sl.d) μ
  | none => .no := rfl
@[simp] theorem o2_eq (g : D → D → Option D) (x y : Sl) : o2 g x y μ = match dr μ x, dr μ y with
  | some a, some b => ofO ((g a b).map Sl.d) μ
  | _, _ => .no := rfl
@[simp] theorem oN_eq (g : List D → Option D) (xs : List Sl) : oN g xs μ = match drL μ xs with
  | some ds => ofO ((g ds).map Sl.d) μ
  | none => .no := rfl
@[simp] theorem ofO_some (a : α) : ofO (some a) μ = .ok a μ := rfl
@[simp] theorem addD_i (i j : Int) : addD (.int i) (.int j) = some (.int (i + j)) := rfl
@[simp] theorem addD_t (a b : List D) : addD (.tup a) (.tup b) = if a.length + b.length ≤ 16777216 then some (.tup (a ++ b)) else none := rfl
@[simp] theorem addD_l (a b : List D) : addD (.lst a) (.lst b) = if a.length + b.length ≤ 16777216 then some (.lst (a ++ b)) else none := rfl
@[simp] theorem subD_i (i j : Int) : subD (.int i) (.int j) = some (.int (i - j)) := rfl
@[simp] theorem modD_i (i j : Int) : modD (.int i) (.int j) = if 0 < j then some (.int (i % j)) else none := rfl
@[simp] theorem fdivD_i (i j : Int) : fdivD (.int i) (.int j) = if 0 < j ∧ j.natAbs < 1073741824 then some (.int (i / j)) else none := rfl
@[simp] theorem negD_i (i : Int) : negD (.int i) = some (.int (-i)) := rfl
@[simp] theorem ltD_i (i j : Int) : ltD (.int i) (.int j) = some (.bl (decide (i < j))) := rfl
@[simp] theorem leD_i (i j : Int) : leD (.int i) (.int j) = some (.bl (decide (i ≤ j))) := rfl
@[simp] theorem gtD_i (i j : Int) : gtD (.int i) (.int j) = some (.bl (decide (i > j))) := rfl
@[simp] theorem geD_i (i j : Int) : geD (.int i) (.int j) = some (.bl (decide (i ≥ j))) := rfl
@[simp] theorem eqD_i (i j : Int) : eqD (.int i) (.int j) = some (.bl (decide (i = j))) := by
  unfold eqD; rw [if_pos ⟨rfl, rfl⟩]; rfl
@[simp] theorem neD_i (i j : Int) : neD (.int i) (.int j) = some (.bl (!decide (i = j))) := by
  unfold neD; rw [if_pos ⟨rfl, rfl⟩]; rfl
@[simp] theorem isD_nn : isD .non .non = some (.bl true) := rfl
@[simp] theorem isD_tn (ds : List D) : isD (.tup ds) .non = some (.bl false) := rfl
@[simp] theorem intD_i (i : Int) : intD [.int i] = some (.int i) := rfl
@[simp] theorem intD_b (b : Bool) : intD [.bl b] = some (.int (if b = true then 1 else 0)) := rfl
@[simp] theorem maxD_2 (i j : Int) : maxD [.int i, .int j] = some (.int (max i j)) := rfl
@[simp] theorem maxD_3 (i j k : Int) : maxD [.int i, .int j, .int k] = some (.int (max (max i j) k)) := rfl
@[simp] theorem lenD_t (ds : List D) : lenD [.tup ds] = some (.int ds.length) := rfl
@[simp] theorem lenD_l (ds : List D) : lenD [.lst ds] = some (.int ds.length) := rfl
@[simp] theorem tupleD_l (ds : List D) : tupleD [.lst ds] = some (.tup ds) := rfl
@[simp] theorem slD_t (ds : List D) (a b : Option Int) : slD (.tup ds) a b = some (.tup (cutD ds a b)) := rfl
@[simp] theorem ixD_t (ds : List D) (i : Int) : ixD (.tup ds) (.int i) = atI ds i := rfl
@[simp] theorem ixD_l (ds : List D) (i : Int) : ixD (.lst ds) (.int i) = atI ds i := rfl
theorem atI_nat {ds : List α} {k : Nat} : atI ds (k : Int) = ds[k]? := by
  unfold atI ixN
  rw [if_pos (by omega)]
  by_cases h : k < ds.length
  · rw [if_pos (by omega)]; simp
  · rw [if_neg (by omega)]; simp; omega
@[simp] theorem atI_natc (ds : List α) (k : Nat) : atI ds (k : Int) = ds[k]? := atI_nat
@[simp] theorem atI_0 (ds : List α) : atI ds (0 : Int) = ds[0]? := atI_nat (k := 0)
@[simp] theorem atI_1 (ds : List α) : atI ds (1 : Int) = ds[1]? := atI_nat (k := 1)
@[simp] theorem atI_2 (ds : List α) : atI ds (2 : Int) = ds[2]? := atI_nat (k := 2)
/-! ### loops -/
/-- a loop with a state: each turn goes on -/
theorem for_fold {γ σ : Type} {g : GF} {body : SF} {μ : Store} (enc : γ → D) (R : σ → Rho → Prop) (f : σ → γ → σ) : ∀ (xs : List γ) (b : σ) (ρ : Rho), (∀ x, x ∈ xs → ∀ b ρ, R b ρ → ∃ ρ1 ρ2, g (.d (enc x)) ρ = some ρ1 ∧ body ρ1 μ = .nx ρ2 μ ∧ R (f b x) ρ2) → R b ρ →
    ∃ ρ', forL g body (xs.map enc) ρ μ = .nx ρ' μ ∧ R (xs.foldl f b) ρ'
  | [], b, ρ, _, h => ⟨ρ, rfl, h⟩
  | x :: xs, b, ρ, st, h => by
    obtain ⟨ρ1, ρ2, h1, h2, h3⟩ := st x (List.mem_cons_self ..) b ρ h
    obtain ⟨ρ', h4, h5⟩ := for_fold enc R f xs _ ρ2 (fun y hy => st y (List.mem_cons_of_mem _ hy)) h3
    refine ⟨ρ', ?_, h5⟩
    rw [List.map_cons]
    unfold forL
    rw [h1]
    show (match body ρ1 μ with | .nx ρ' μ' => _ | .ct ρ' μ' => _ | .bk ρ' μ' => _ | .rt s μ' => _ | .ex x ρ' μ' => _ | .no => _) = _
    rw [h2]
    exact h4
/-- a loop that may end with a return -/
theorem for_ret {γ σ : Type} {g : GF} {body : SF} {μ : Store} (enc : γ → D) (R : σ → Rho → Prop) (f : σ → γ → σ) (p : σ → γ → Option Sl) : ∀ (xs : List γ) (b : σ) (ρ : Rho), (∀ x, x ∈ xs → ∀ b ρ, R b ρ → ∃ ρ1, g (.d (enc x)) ρ = some ρ1 ∧ ((∃ s, p b x = some s ∧ body ρ1 μ = .rt s μ) ∨ (p b x = none ∧ ∃ ρ2, body ρ1 μ = .nx ρ2 μ ∧ R (f b x) ρ2))) → R b ρ →
    (∃ i s x, xs[i]? = some x ∧ p ((xs.take i).foldl f b) x = some s ∧ forL g body (xs.map enc) ρ μ = .rt s μ) ∨ ((∀ (i : Nat) (x : γ), xs[i]? = some x → p ((xs.take i).foldl f b) x = none) ∧ ∃ ρ', forL g body (xs.map enc) ρ μ = .nx ρ' μ ∧ R (xs.foldl f b) ρ')
  | [], b, ρ, _, h => .inr ⟨fun i x h => by simp at h, ρ, rfl, h⟩
  | x :: xs, b, ρ, st, h => by
    obtain ⟨ρ1, h1, ⟨s, h2, h3⟩ | ⟨h2, ρ2, h3, h4⟩⟩ := st x (List.mem_cons_self ..) b ρ h
    · refine .inl ⟨0, s, x, rfl, h2, ?_⟩
      rw [List.map_cons]
      unfold forL
      rw [h1]
      show (match body ρ1 μ with | .nx ρ' μ' => _ | .ct ρ' μ' => _ | .bk ρ' μ' => _ | .rt s μ' => _ | .ex x ρ' μ' => _ | .no => _) = _
      rw [h3]
    · have e : forL g body ((x :: xs).map enc) ρ μ = forL g body (xs.map enc) ρ2 μ := by
        rw [List.map_cons]
        conv => lhs; unfold forL
        rw [h1]
        show (match body ρ1 μ with | .nx ρ' μ' => _ | .ct ρ' μ' => _ | .bk ρ' μ' => _ | .rt s μ' => _ | .ex x ρ' μ' => _ | .no => _) = _
        rw [h3]
      rw [e]
      rcases for_ret enc R f p xs _ ρ2 (fun y hy => st y (List.mem_cons_of_mem _ hy)) h4 with ⟨i, s, y, k1, k2, k3⟩ | ⟨k1, k2⟩
      · exact .inl ⟨i + 1, s, y, k1, k2, k3⟩
      · refine .inr ⟨fun i y hi => ?_, k2⟩
        cases i with
        | zero => cases hi; exact h2
        | succ i => exact k1 i y hi
/-- a comprehension without a test -/
theorem lc_map {γ : Type} {vs : List Nat} {g : GF} {e : EF} {ρ : Rho} {μ : Store} (enc : γ → D) (f : γ → D) : ∀ (xs : List γ), (∀ x, x ∈ xs → ∃ ρ1, g (.d (enc x)) (wipeR ρ vs) = some ρ1 ∧ e ρ1 μ = .ok (.d (f x)) μ) → lcL vs g bYes e ρ (xs.map enc) μ = .ok (xs.map f) μ
  | [], _ => rfl
  | x :: xs, st => by
    obtain ⟨ρ1, h1, h2⟩ := st x (List.mem_cons_self ..)
    have ih := lc_map (vs := vs) (g := g) (e := e) (ρ := ρ) (μ := μ) enc f xs fun y hy => st y (List.mem_cons_of_mem _ hy)
    simp only [List.map_cons, lcL, h1, bYes_eq, h2, ih]
/-- a comprehension with a test -/
theorem lc_filter {γ : Type} {vs : List Nat} {g : GF} {t : BF} {e : EF} {ρ : Rho} {μ : Store} (enc : γ → D) (p : γ → Bool) (f : γ → D) : ∀ (xs : List γ), (∀ x, x ∈ xs → ∃ ρ1, g (.d (enc x)) (wipeR ρ vs) = some ρ1 ∧ t ρ1 μ = .ok (p x) μ ∧ (p x = true → e ρ1 μ = .ok (.d (f x)) μ)) → lcL vs g t e ρ (xs.map enc) μ = .ok ((xs.filter p).map f) μ
  | [], _ => rfl
  | x :: xs, st => by
    obtain ⟨ρ1, h1, h2, h3⟩ := st x (List.mem_cons_self ..)
    have ih := lc_filter (vs := vs) (g := g) (t := t) (e := e) (ρ := ρ) (μ := μ) enc p f xs fun y hy => st y (List.mem_cons_of_mem _ hy)
    cases hp : p x with
    | false =>
      rw [List.filter_cons_of_neg (by simp [hp])]
      simp only [List.map_cons, lcL, h1, h2, hp, ih]
    | true =>
      rw [List.filter_cons_of_pos hp]
      simp only [List.map_cons, lcL, h1, h2, hp, h3 hp, ih]
@[simp] theorem lcap_ok (ys : List D) : lCap (.ok ys μ) = if ys.length ≤ 16777216 then .ok ys μ else .no := rfl
theorem rngL_map : ∀ (n : Nat) (lo : Nat), rngL lo n = (List.range' lo n).map fun i => D.int (i : Nat)
  | 0, _ => rfl
  | n + 1, lo => by
    rw [List.range'_succ, List.map_cons, ← rngL_map n (lo + 1)]
    rfl
theorem rngL0 (n : Nat) : rngL 0 n = (List.range n).map fun i => D.int (i : Nat) := by
  have := rngL_map n 0
  rw [List.range_eq_range']
  exact this
/-- members among ints -/
theorem beq_ii (i j : Int) : D.beq (.int i) (.int j) = decide (i = j) := rfl
theorem flat_ints (ns : List Int) : (ns.map D.int).all D.flat = true := by simp [D.flat]
theorem cmp_ints : ∀ ns : List Int, cmpOkL (ns.map D.int) = true
  | [] => rfl
  | n :: r => by simp [cmpOkL, D.cmpOk, cmp_ints r]
theorem deep_ints : ∀ ns : List Int, deepL (ns.map D.int) = 0
  | [] => rfl
  | n :: r => by simp [deepL, D.deep, deep_ints r]
theorem memD_t (i : Int) (ns : List Int) : memD (.int i) (.tup (ns.map .int)) = some (decide (i ∈ ns)) := by
  show (if (D.int i).flat = true ∧ (ns.map D.int).all D.flat = true then some ((ns.map D.int).any fun z => D.beq z (.int i)) else none) = _
  rw [if_pos ⟨rfl, flat_ints ns⟩, List.any_map]
  congr 1
  rw [Bool.eq_iff_iff]
  simp [beq_ii]
theorem shaped_ints (ns : List Int) : (D.lst (ns.map .int)).shaped = true := by simp [D.shaped, D.cmpOk, D.deep, cmp_ints, deep_ints]
theorem memD_l (i : Int) (ns : List Int) : memD (.int i) (.lst (ns.map .int)) = some (decide (i ∈ ns)) := by
  show (if (D.int i).shaped = true ∧ (D.lst (ns.map .int)).shaped = true then some ((ns.map D.int).any fun z => D.beq z (.int i)) else none) = _
  rw [if_pos ⟨rfl, shaped_ints ns⟩, List.any_map]
  congr 1
  rw [Bool.eq_iff_iff]
  simp [beq_ii]
end DL

set_option linter.all false
set_option maxRecDepth 100000
/-! NmRun: the label of an error, by evaluation -/
namespace DL
open PySem L2
section
variable {ρ : Rho} {μ : Store}
theorem eIsE_eq (i : Nat) (t : CTok) (b : Bool) : eIsE i t b ρ μ = match ρ[i]? with
  | some (some (.clo t')) => open Classical in if t' = t then .ok (.d (.bl b)) μ else .no
  | _ => .no := rfl
theorem lSplit_eq (fa fb : EF) : lSplit fa fb ρ μ = (fa ρ μ).bind fun x μ1 => match x with
  | .d (.str a) => (fb ρ μ1).bind fun y μ2 => match y with
    | .d (.str b) => if (b.length == 0) = false ∧ a.length + 2 ≤ 16777216 then .ok ((Txt.split a b).map .str) μ2 else .no
    | _ => .no
  | _ => .no := rfl
theorem eJoin_eq (fa fb : EF) : eJoin fa fb ρ μ = (fa ρ μ).bind fun x μ1 => match x with
  | .d (.str a) => (fb ρ μ1).bind fun y μ2 => match dr μ2 y with
    | some (.lst ds) => match strsOf ds with
      | some ys => if (ys.map (·.length)).sum + ys.length * a.length ≤ 16777216 then .ok (.d (.str (Txt.join a ys))) μ2 else .no
      | none => .no
    | _ => .no
  | _ => .no := rfl
theorem lCat_eq (fa fb : EF) : lCat fa fb ρ μ = (fa ρ μ).bind fun x μ1 => (fb ρ μ1).bind fun y μ2 => match dr μ2 x, dr μ2 y with
  | some (.lst a), some (.lst b) => if a.length + b.length ≤ 16777216 then .ok (a ++ b) μ2 else .no
  | _, _ => .no := rfl
theorem sZipL_eq (f g : EF) : sZipL f g ρ μ = (f ρ μ).bind fun x μ1 => (g ρ μ1).bind fun y μ2 => match lstD μ2 x, lstD μ2 y with
  | some a, some b => .ok (zipD a b) μ2
  | _, _ => .no := rfl
theorem labs_split : Txt.split "web choice lots tie place number pairs text unlike none undo many" " " = (["web", "choice", "lots", "tie", "place", "number", "pairs", "text", "unlike", "none", "undo", "many"] : List Str) := by decide +kernel
theorem sp_len : Str.length " " = 1 := by decide +kernel
theorem labs_len : (Str.length "web choice lots tie place number pairs text unlike none undo many") = 65 := by decide +kernel
end
end DL

set_option linter.all false
/-! LV: ties chosen within limits, stretches for the sums: what is missed at least is what some lots overdraw (plain mathematics) -/
namespace LV
/-! ### sums -/
def sm (f : Nat → Int) : Nat → Int
  | 0 => 0
  | n + 1 => sm f n + f n
theorem sm_congr {f g : Nat → Int} : ∀ {n : Nat}, (∀ i, i < n → f i = g i) → sm f n = sm g n
  | 0, _ => rfl
  | n + 1, h => by simp only [sm]; rw [sm_congr fun i hi => h i (by omega), h n (by omega)]
theorem sm_add (f g : Nat → Int) : ∀ n : Nat, sm (fun i => f i + g i) n = sm f n + sm g n
  | 0 => rfl
  | n + 1 => by simp only [sm]; rw [sm_add f g n]; omega
theorem sm_sub (f g : Nat → Int) : ∀ n : Nat, sm (fun i => f i - g i) n = sm f n - sm g n
  | 0 => rfl
  | n + 1 => by simp only [sm]; rw [sm_sub f g n]; omega
theorem sm_le {f g : Nat → Int} : ∀ {n : Nat}, (∀ i, i < n → f i ≤ g i) → sm f n ≤ sm g n
  | 0, _ => Int.le_refl _
  | n + 1, h => by
    simp only [sm]
    have h1 := sm_le (n := n) fun i hi => h i (by omega)
    have h2 := h n (by omega)
    omega
theorem sm_zero {f : Nat → Int} {n : Nat} (h : ∀ i, i < n → f i = 0) : sm f n = 0 := by
  induction n with
  | zero => rfl
  | succ n ih => simp only [sm]; rw [ih fun i hi => h i (by omega), h n (by omega)]; rfl
theorem sm_nn {f : Nat → Int} {n : Nat} (h : ∀ i, i < n → 0 ≤ f i) : 0 ≤ sm f n := by
  have := sm_le (f := fun _ => 0) (g := f) h
  rw [sm_zero (fun _ _ => rfl)] at this
  exact this
theorem sm_mul (k : Int) (f : Nat → Int) : ∀ n : Nat, sm (fun i => k * f i) n = k * sm f n
  | 0 => by simp [sm]
  | n + 1 => by simp only [sm]; rw [sm_mul k f n, Int.mul_add]
theorem sm_comm (f : Nat → Nat → Int) (m : Nat) : ∀ n : Nat, sm (fun i => sm (fun j => f i j) m) n = sm (fun j => sm (fun i => f i j) n) m
  | 0 => by simp only [sm]; rw [sm_zero]; intro _ _; rfl
  | n + 1 => by
    simp only [sm]
    rw [sm_comm f m n, ← sm_add]
/-- one place alone -/
theorem sm_pt {k : Nat} (d : Int) : ∀ {n : Nat}, sm (fun i => if i = k then d else 0) n = if k < n then d else 0
  | 0 => by simp [sm]
  | n + 1 => by
    simp only [sm]
    rw [sm_pt d (n := n)]
    by_cases h1 : k < n
    · rw [if_pos h1, if_neg (by omega), if_pos (by omega)]; omega
    · by_cases h2 : n = k
      · subst h2; rw [if_neg h1, if_pos rfl, if_pos (by omega)]; omega
      · rw [if_neg h1, if_neg h2, if_neg (by omega)]; rfl
theorem sm_at {f : Nat → Int} {n k : Nat} (hk : k < n) (h : ∀ i, i < n → 0 ≤ f i) : f k ≤ sm f n := by
  have h1 : sm (fun i => if i = k then f k else 0) n ≤ sm f n := sm_le fun i hi => by
    by_cases e : i = k
    · subst e; rw [if_pos rfl]; exact Int.le_refl _
    · rw [if_neg e]; exact h i hi
  rw [sm_pt, if_pos hk] at h1
  exact h1
theorem sm_ex {f g : Nat → Int} {n : Nat} (h : sm f n < sm g n) : ∃ i, i < n ∧ f i < g i := by
  false_or_by_contra
  rename_i hn
  have := sm_le (f := g) (g := f) (n := n) fun i hi => by
    false_or_by_contra
    rename_i q
    exact hn ⟨i, hi, by omega⟩
  omega
theorem sm_tight {f g : Nat → Int} {n : Nat} (h : ∀ i, i < n → f i ≤ g i) (e : sm g n ≤ sm f n) : ∀ i, i < n → f i = g i := by
  intro i hi
  have h1 := sm_at (f := fun i => g i - f i) hi fun j hj => by have := h j hj; omega
  rw [sm_sub] at h1
  have h2 := h i hi
  omega
theorem sm_split {f : Nat → Int} {n k : Nat} (hk : k < n) : sm f n = sm (fun i => if i = k then 0 else f i) n + f k := by
  have h1 : sm f n = sm (fun i => (if i = k then 0 else f i) + (if i = k then f k else 0)) n := sm_congr fun i _ => by
    by_cases e : i = k
    · subst e; simp
    · simp [e]
  rw [h1, sm_add, sm_pt, if_pos hk]

/-! ### webs of ties -/
structure Gr where
  n : Nat
  m : Nat
  a : Nat → Nat
  b : Nat → Nat
  ha : ∀ i, i < m → a i < n
  hb : ∀ i, i < m → b i < n
  hab : ∀ i, i < m → a i ≠ b i
/-- 1 at v -/
def e1 (v u : Nat) : Int := if u = v then 1 else 0
def deg (G : Gr) (x : Nat → Int) (v : Nat) : Int := sm (fun i => (if G.a i = v then x i else 0) + (if G.b i = v then x i else 0)) G.m
def Cho (G : Gr) (c x : Nat → Int) : Prop := ∀ i, i < G.m → 0 ≤ x i ∧ x i ≤ c i
def bump (x : Nat → Int) (i : Nat) (d : Int) : Nat → Int := fun j => if j = i then x j + d else x j
theorem deg_bump (G : Gr) (x : Nat → Int) {i : Nat} (hi : i < G.m) (d : Int) (v : Nat) : deg G (bump x i d) v = deg G x v + d * e1 (G.a i) v + d * e1 (G.b i) v := by
  have h1 : deg G (bump x i d) v = sm (fun j => ((if G.a j = v then x j else 0) + (if G.b j = v then x j else 0)) + (if j = i then d * e1 (G.a i) v + d * e1 (G.b i) v else 0)) G.m := sm_congr fun j _ => by
    by_cases e : j = i
    · subst e
      unfold bump e1
      rw [if_pos rfl, if_pos rfl]
      by_cases h1 : G.a j = v <;> by_cases h2 : G.b j = v
      · rw [if_pos h1, if_pos h2, if_pos h1, if_pos h2, if_pos h1.symm, if_pos h2.symm]; omega
      · rw [if_pos h1, if_neg h2, if_pos h1, if_neg h2, if_pos h1.symm, if_neg (Ne.symm h2)]; omega
      · rw [if_neg h1, if_pos h2, if_neg h1, if_pos h2, if_neg (Ne.symm h1), if_pos h2.symm]; omega
      · rw [if_neg h1, if_neg h2, if_neg h1, if_neg h2, if_neg (Ne.symm h1), if_neg (Ne.symm h2)]; omega
    · unfold bump
      rw [if_neg e, if_neg e]; omega
  rw [h1, sm_add, sm_pt, if_pos hi]
  unfold deg
  omega
/-- how far two choices lie apart -/
def dist (x y : Nat → Int) : Nat → Nat
  | 0 => 0
  | n + 1 => dist x y n + (x n - y n).natAbs
theorem dist_out {x y : Nat → Int} {i : Nat} {d : Int} : ∀ {n : Nat}, n ≤ i → dist (bump x i d) y n = dist x y n
  | 0, _ => rfl
  | n + 1, h => by
    simp only [dist]
    rw [dist_out (n := n) (by omega)]
    unfold bump
    rw [if_neg (by omega)]
theorem dist_up {x y : Nat → Int} {i : Nat} (h : x i < y i) : ∀ {n : Nat}, i < n → dist (bump x i 1) y n + 1 = dist x y n
  | n + 1, hi => by
    simp only [dist]
    by_cases e : n = i
    · subst e
      rw [dist_out (Nat.le_refl _)]
      unfold bump
      rw [if_pos rfl]
      omega
    · have := dist_up h (n := n) (by omega)
      unfold bump at this ⊢
      rw [if_neg e]
      omega
theorem dist_down {x y : Nat → Int} {i : Nat} (h : y i < x i) : ∀ {n : Nat}, i < n → dist (bump x i (-1)) y n + 1 = dist x y n
  | n + 1, hi => by
    simp only [dist]
    by_cases e : n = i
    · subst e
      rw [dist_out (Nat.le_refl _)]
      unfold bump
      rw [if_pos rfl]
      omega
    · have := dist_down h (n := n) (by omega)
      unfold bump at this ⊢
      rw [if_neg e]
      omega
/-- z lies between x and y -/
def Btw (G : Gr) (x y z : Nat → Int) : Prop := ∀ i, i < G.m → (x i ≤ z i ∧ z i ≤ y i) ∨ (y i ≤ z i ∧ z i ≤ x i)
theorem Btw.up {G : Gr} {x y z : Nat → Int} {i : Nat} (h : Btw G x y z) (hi : z i < y i) : Btw G x y (bump z i 1) := fun j hj => by
  have := h j hj
  unfold bump
  by_cases e : j = i
  · subst e; rw [if_pos rfl]; omega
  · rw [if_neg e]; exact this
theorem Btw.down {G : Gr} {x y z : Nat → Int} {i : Nat} (h : Btw G x y z) (hi : y i < z i) : Btw G x y (bump z i (-1)) := fun j hj => by
  have := h j hj
  unfold bump
  by_cases e : j = i
  · subst e; rw [if_pos rfl]; omega
  · rw [if_neg e]; exact this
/-- a tie at w where y has more: its other end -/
theorem more_at {G : Gr} {z y : Nat → Int} {w : Nat} (h : deg G z w < deg G y w) : ∃ i t, i < G.m ∧ t < G.n ∧ t ≠ w ∧ z i < y i ∧ (∀ v, e1 (G.a i) v + e1 (G.b i) v = e1 w v + e1 t v) ∧ ((G.a i = w ∧ G.b i = t) ∨ (G.b i = w ∧ G.a i = t)) := by
  obtain ⟨i, hi, q⟩ := sm_ex h
  have n1 := G.hab i hi
  by_cases h1 : G.a i = w
  · have h2 : ¬ G.b i = w := fun e => n1 (h1.trans e.symm)
    rw [if_pos h1, if_neg h2, if_pos h1, if_neg h2] at q
    exact ⟨i, G.b i, hi, G.hb i hi, h2, by omega, fun v => by rw [h1], .inl ⟨h1, rfl⟩⟩
  · by_cases h2 : G.b i = w
    · rw [if_neg h1, if_pos h2, if_neg h1, if_pos h2] at q
      exact ⟨i, G.a i, hi, G.ha i hi, h1, by omega, fun v => by rw [h2]; omega, .inr ⟨h2, rfl⟩⟩
    · rw [if_neg h1, if_neg h2, if_neg h1, if_neg h2] at q
      omega
def sg (s : Bool) : Int := if s = true then 1 else -1
theorem e1_self (v : Nat) : e1 v v = 1 := by unfold e1; rw [if_pos rfl]
theorem e1_ne {v u : Nat} (h : u ≠ v) : e1 v u = 0 := by unfold e1; rw [if_neg h]
theorem e1_01 (v u : Nat) : e1 v u = 0 ∨ e1 v u = 1 := by unfold e1; split <;> simp
/-- one goes on, by turns up and down, till one may stop -/
theorem walk {G : Gr} {x y : Nat → Int} {v : Nat} : ∀ (N : Nat) (z : Nat → Int) (w : Nat) (s : Bool), dist z y G.m ≤ N → Btw G x y z → w < G.n → (∀ u, deg G z u = deg G x u + e1 v u + sg s * e1 w u) →
    ∃ z' w' s', Btw G x y z' ∧ w' < G.n ∧ (∀ u, deg G z' u = deg G x u + e1 v u + sg s' * e1 w' u) ∧ (s' = true → deg G z' w' ≤ deg G y w') ∧ (s' = false → deg G y w' ≤ deg G z' w') := by
  intro N
  induction N with
  | zero =>
    intro z w s hd hb hw hz
    cases s with
    | true =>
      by_cases h : deg G z w ≤ deg G y w
      · exact ⟨z, w, true, hb, hw, hz, fun _ => h, fun e => by cases e⟩
      · obtain ⟨i, t, hi, _, _, q, _⟩ := more_at (G := G) (z := y) (y := z) (w := w) (by omega)
        have := dist_down q hi
        omega
    | false =>
      by_cases h : deg G y w ≤ deg G z w
      · exact ⟨z, w, false, hb, hw, hz, (fun e => by cases e), fun _ => h⟩
      · obtain ⟨i, t, hi, _, _, q, _⟩ := more_at (G := G) (z := z) (y := y) (w := w) (by omega)
        have := dist_up q hi
        omega
  | succ N ih =>
    intro z w s hd hb hw hz
    cases s with
    | true =>
      by_cases h : deg G z w ≤ deg G y w
      · exact ⟨z, w, true, hb, hw, hz, fun _ => h, fun e => by cases e⟩
      · obtain ⟨i, t, hi, ht, _, q, ed, _⟩ := more_at (G := G) (z := y) (y := z) (w := w) (by omega)
        have := dist_down q hi
        refine ih (bump z i (-1)) t false (by omega) (hb.down q) ht fun u => ?_
        rw [deg_bump G z hi, hz u]
        have := ed u
        simp only [sg, if_true, Bool.false_eq_true, if_false]
        omega
    | false =>
      by_cases h : deg G y w ≤ deg G z w
      · exact ⟨z, w, false, hb, hw, hz, (fun e => by cases e), fun _ => h⟩
      · obtain ⟨i, t, hi, ht, _, q, ed, _⟩ := more_at (G := G) (z := z) (y := y) (w := w) (by omega)
        have := dist_up q hi
        refine ih (bump z i 1) t true (by omega) (hb.up q) ht fun u => ?_
        rw [deg_bump G z hi, hz u]
        have := ed u
        simp only [sg, if_true, Bool.false_eq_true, if_false]
        omega
theorem Btw.cho {G : Gr} {c x y z : Nat → Int} (h : Btw G x y z) (hx : Cho G c x) (hy : Cho G c y) : Cho G c z := fun i hi => by
  have h1 := h i hi; have h2 := hx i hi; have h3 := hy i hi
  omega
theorem Btw.cho' {G : Gr} {c x y z : Nat → Int} (h : Btw G x y z) (hx : Cho G c x) (hy : Cho G c y) : Cho G c (fun i => x i + y i - z i) := fun i hi => by
  have h1 := h i hi; have h2 := hx i hi; have h3 := hy i hi
  show 0 ≤ x i + y i - z i ∧ x i + y i - z i ≤ c i
  omega
theorem deg_rest (G : Gr) (x y z : Nat → Int) (v : Nat) : deg G (fun i => x i + y i - z i) v = deg G x v + deg G y v - deg G z v := by
  unfold deg
  rw [← sm_add, ← sm_sub]
  refine sm_congr fun i _ => ?_
  show (if G.a i = v then x i + y i - z i else 0) + (if G.b i = v then x i + y i - z i else 0) = _
  split <;> split <;> omega
/-- how far a sum lies from its stretch -/
def phi (l u p : Int) : Int := max 0 (l - p) + max 0 (p - u)
theorem phi_nn (l u p : Int) : 0 ≤ phi l u p := by unfold phi; omega
theorem phi_conv {l u p q : Int} (hlu : l ≤ u) (h : p + 1 ≤ q) : phi l u (p + 1) + phi l u (q - 1) ≤ phi l u p + phi l u q := by unfold phi; omega
/-- THE EXCHANGE: two choices come nearer -/
theorem exch {G : Gr} {c x y : Nat → Int} {v : Nat} (hx : Cho G c x) (hy : Cho G c y) (hv : v < G.n) (h : deg G x v < deg G y v) :
    ∃ z y' w s, Cho G c z ∧ Cho G c y' ∧ w < G.n ∧ (∀ u, deg G z u = deg G x u + e1 v u + sg s * e1 w u) ∧ (∀ u, deg G y' u = deg G y u - e1 v u - sg s * e1 w u) ∧
      ((w = v ∧ s = true ∧ deg G x v + 2 ≤ deg G y v) ∨ (w ≠ v ∧ ((s = true ∧ deg G x w + 1 ≤ deg G y w) ∨ (s = false ∧ deg G y w + 1 ≤ deg G x w)))) := by
  obtain ⟨i, t, hi, ht, _, q, ed, _⟩ := more_at h
  have b0 : Btw G x y x := fun j hj => by omega
  obtain ⟨z, w, s, hb, hw, hz, k1, k2⟩ := walk (G := G) (x := x) (y := y) (v := v) _ (bump x i 1) t true (Nat.le_refl _) (b0.up q) ht fun u => by
    rw [deg_bump G x hi]
    have := ed u
    simp only [sg, if_true]
    omega
  refine ⟨z, _, w, s, hb.cho hx hy, hb.cho' hx hy, hw, hz, fun u => by rw [deg_rest, hz u]; omega, ?_⟩
  have zw := hz w
  cases s with
  | true =>
    have := k1 rfl
    simp only [sg, if_true, e1_self] at zw
    by_cases e : w = v
    · subst e; rw [e1_self] at zw; exact .inl ⟨rfl, rfl, by omega⟩
    · rw [e1_ne e] at zw; exact .inr ⟨e, .inl ⟨rfl, by omega⟩⟩
  | false =>
    have := k2 rfl
    simp only [sg, Bool.false_eq_true, if_false, e1_self] at zw
    by_cases e : w = v
    · subst e; rw [e1_self] at zw; exact absurd h (by omega)
    · rw [e1_ne e] at zw; exact .inr ⟨e, .inr ⟨rfl, by omega⟩⟩
theorem exch_conv {G : Gr} {l u x y z y' : Nat → Int} {v w : Nat} {s : Bool} (hlu : ∀ t, t < G.n → l t ≤ u t) (hz : ∀ u, deg G z u = deg G x u + e1 v u + sg s * e1 w u) (hy : ∀ u, deg G y' u = deg G y u - e1 v u - sg s * e1 w u)
    (h : (w = v ∧ s = true ∧ deg G x v + 2 ≤ deg G y v) ∨ (w ≠ v ∧ ((s = true ∧ deg G x w + 1 ≤ deg G y w) ∨ (s = false ∧ deg G y w + 1 ≤ deg G x w)))) {t : Nat} (ht : t < G.n) (ne : t ≠ v) :
    phi (l t) (u t) (deg G z t) + phi (l t) (u t) (deg G y' t) ≤ phi (l t) (u t) (deg G x t) + phi (l t) (u t) (deg G y t) := by
  rw [hz t, hy t, e1_ne ne]
  by_cases e : t = w
  · subst e
    rw [e1_self]
    rcases h with ⟨h, _⟩ | ⟨_, ⟨rfl, h⟩ | ⟨rfl, h⟩⟩
    · exact absurd h ne
    · simp only [sg, if_true]
      have := phi_conv (hlu t ht) h
      rw [show deg G x t + 0 + 1 * 1 = deg G x t + 1 by omega, show deg G y t - 0 - 1 * 1 = deg G y t - 1 by omega]
      exact this
    · simp only [sg, Bool.false_eq_true, if_false]
      have := phi_conv (hlu t ht) h
      rw [show deg G x t + 0 + -1 * 1 = deg G x t - 1 by omega, show deg G y t - 0 - -1 * 1 = deg G y t + 1 by omega]
      omega
  · rw [e1_ne e]
    rw [show deg G x t + 0 + sg s * 0 = deg G x t by omega, show deg G y t - 0 - sg s * 0 = deg G y t by omega]
    exact Int.le_refl _
end LV

set_option linter.all false
/-! LVB: misses, optimal choices, what a place that is never low (never high) allows -/
namespace LV
def miss (G : Gr) (l u : Nat → Int) (x : Nat → Int) : Int := sm (fun t => phi (l t) (u t) (deg G x t)) G.n
def rr (G : Gr) (l u : Nat → Int) (v : Nat) (x : Nat → Int) : Int := sm (fun t => if t = v then 0 else phi (l t) (u t) (deg G x t)) G.n
theorem miss_rr {G : Gr} {l u x : Nat → Int} {v : Nat} (hv : v < G.n) : miss G l u x = rr G l u v x + phi (l v) (u v) (deg G x v) := sm_split hv
def Opt (G : Gr) (c l u x : Nat → Int) : Prop := Cho G c x ∧ ∀ y, Cho G c y → miss G l u x ≤ miss G l u y
theorem miss_nn (G : Gr) (l u x : Nat → Int) : 0 ≤ miss G l u x := sm_nn fun _ _ => phi_nn _ _ _
theorem opt_ex {G : Gr} {c l u : Nat → Int} (hc : ∀ i, i < G.m → 0 ≤ c i) : ∃ x, Opt G c l u x := by
  have key : ∀ (N : Nat) (x : Nat → Int), Cho G c x → miss G l u x ≤ N → ∃ x, Opt G c l u x := by
    intro N
    induction N with
    | zero => intro x hx h; exact ⟨x, hx, fun y _ => by have := miss_nn G l u y; omega⟩
    | succ N ih =>
      intro x hx h
      by_cases q : ∃ y, Cho G c y ∧ miss G l u y < miss G l u x
      · obtain ⟨y, hy, h2⟩ := q
        exact ih y hy (by omega)
      · exact ⟨x, hx, fun y hy => by
          false_or_by_contra
          rename_i k
          exact q ⟨y, hy, by omega⟩⟩
  exact key (miss G l u (fun _ => 0)).toNat (fun _ => 0) (fun i hi => ⟨Int.le_refl _, hc i hi⟩) (by have := miss_nn G l u (fun _ => 0); omega)
theorem rr_congr {G : Gr} {l u x y : Nat → Int} {v : Nat} (h : ∀ t, t ≠ v → deg G x t = deg G y t) : rr G l u v x = rr G l u v y := sm_congr fun t _ => by
  by_cases e : t = v
  · rw [if_pos e, if_pos e]
  · rw [if_neg e, if_neg e, h t e]
/-- the exchange, told in misses -/
theorem exch_rr {G : Gr} {c l u x y : Nat → Int} {v : Nat} (hlu : ∀ t, t < G.n → l t ≤ u t) (hx : Cho G c x) (hy : Cho G c y) (hv : v < G.n) (h : deg G x v < deg G y v) :
    ∃ z y', Cho G c z ∧ Cho G c y' ∧
      ((∃ w s, w < G.n ∧ w ≠ v ∧ (∀ t, deg G z t = deg G x t + e1 v t + sg s * e1 w t) ∧ (∀ t, deg G y' t = deg G y t - e1 v t - sg s * e1 w t) ∧ deg G z v = deg G x v + 1 ∧ deg G y' v = deg G y v - 1 ∧ rr G l u v z + rr G l u v y' ≤ rr G l u v x + rr G l u v y) ∨
       (deg G x v + 2 ≤ deg G y v ∧ deg G z v = deg G x v + 2 ∧ deg G y' v = deg G y v - 2 ∧ (∀ t, t ≠ v → deg G z t = deg G x t) ∧ (∀ t, t ≠ v → deg G y' t = deg G y t))) := by
  obtain ⟨z, y', w, s, hz, hy', hw, ez, ey, k⟩ := exch hx hy hv h
  refine ⟨z, y', hz, hy', ?_⟩
  have zv := ez v
  have yv := ey v
  rw [e1_self] at zv yv
  rcases k with ⟨rfl, rfl, h2⟩ | ⟨ne, k⟩
  · right
    rw [e1_self] at zv yv
    simp only [sg, if_true] at zv yv
    refine ⟨h2, by omega, by omega, fun t ht => ?_, fun t ht => ?_⟩
    · have := ez t; rw [e1_ne ht] at this; omega
    · have := ey t; rw [e1_ne ht] at this; omega
  · left
    rw [e1_ne (Ne.symm ne)] at zv yv
    refine ⟨w, s, hw, ne, ez, ey, by omega, by omega, ?_⟩
    have this := fun (t : Nat) (ht : t < G.n) (n1 : t ≠ v) => exch_conv (l := l) (u := u) hlu ez ey (.inr ⟨ne, k⟩) ht n1
    unfold rr
    rw [← sm_add, ← sm_add]
    refine sm_le fun t ht => ?_
    by_cases e : t = v
    · simp only [if_pos e]; omega
    · simp only [if_neg e]; exact this t ht e
/-- a place that is high in some best choice and low in none: who leaves it empty misses much -/
theorem never_low {G : Gr} {c l u y : Nat → Int} {v : Nat} (hlu : ∀ t, t < G.n → l t ≤ u t) (hv : v < G.n) (hy : Opt G c l u y) (hh : u v < deg G y v) (hL : ∀ x, Opt G c l u x → l v ≤ deg G x v) :
    ∀ (N : Nat) (z : Nat → Int), Cho G c z → u v - deg G z v ≤ N → miss G l u y + u v ≤ rr G l u v z + deg G z v := by
  intro N
  have my := miss_rr (G := G) (l := l) (u := u) (x := y) hv
  have luv := hlu v hv
  have done : ∀ z, Cho G c z → u v ≤ deg G z v → miss G l u y + u v ≤ rr G l u v z + deg G z v := fun z hz h => by
    have h1 := hy.2 z hz
    have h2 := miss_rr (G := G) (l := l) (u := u) (x := z) hv
    unfold phi at h2
    omega
  induction N with
  | zero => intro z hz h; exact done z hz (by omega)
  | succ N ih =>
    intro z hz h
    by_cases q : u v ≤ deg G z v
    · exact done z hz q
    obtain ⟨z', y', hz', hy', k⟩ := exch_rr hlu hz hy.1 hv (show deg G z v < deg G y v by omega)
    rcases k with ⟨_, _, _, _, _, _, k1, k2, k3⟩ | ⟨k1, k2, k3, k4, k5⟩
    · have h1 := ih z' hz' (by omega)
      have h2 := done y' hy' (by omega)
      unfold phi at my
      omega
    · have e := rr_congr (l := l) (u := u) k5
      have m2 := miss_rr (G := G) (l := l) (u := u) (x := y') hv
      have h1 := hy.2 y' hy'
      have : l v ≤ deg G y' v ∨ miss G l u y < miss G l u y' := by
        by_cases h2 : miss G l u y < miss G l u y'
        · exact .inr h2
        · exact .inl (hL y' ⟨hy', fun t ht => Int.le_trans (by omega) (hy.2 t ht)⟩)
      unfold phi at my m2
      omega
/-- the other way round -/
theorem deg_all (G : Gr) (c x : Nat → Int) (v : Nat) : deg G (fun i => c i - x i) v = deg G c v - deg G x v := by
  unfold deg
  rw [← sm_sub]
  refine sm_congr fun i _ => ?_
  show (if G.a i = v then c i - x i else 0) + (if G.b i = v then c i - x i else 0) = _
  split <;> split <;> omega
theorem phi_turn (l u p k : Int) : phi (k - u) (k - l) (k - p) = phi l u p := by unfold phi; omega
theorem cho_turn {G : Gr} {c x : Nat → Int} (h : Cho G c x) : Cho G c (fun i => c i - x i) := fun i hi => by
  have := h i hi
  show 0 ≤ c i - x i ∧ c i - x i ≤ c i
  omega
theorem miss_turn (G : Gr) (c l u x : Nat → Int) : miss G (fun t => deg G c t - u t) (fun t => deg G c t - l t) (fun i => c i - x i) = miss G l u x := sm_congr fun t _ => by
  simp only [deg_all, phi_turn]
theorem rr_turn (G : Gr) (c l u x : Nat → Int) (v : Nat) : rr G (fun t => deg G c t - u t) (fun t => deg G c t - l t) v (fun i => c i - x i) = rr G l u v x := sm_congr fun t _ => by
  simp only [deg_all, phi_turn]
theorem turn_turn (c x : Nat → Int) : (fun i => c i - (fun i => c i - x i) i) = x := funext fun i => by show c i - (c i - x i) = x i; omega
theorem opt_turn {G : Gr} {c l u x : Nat → Int} (h : Opt G c l u x) : Opt G c (fun t => deg G c t - u t) (fun t => deg G c t - l t) (fun i => c i - x i) := ⟨cho_turn h.1, fun y hy => by
  have h1 := h.2 _ (cho_turn hy)
  have h2 := miss_turn G c l u (fun i => c i - y i)
  rw [turn_turn] at h2
  rw [miss_turn, h2]
  exact h1⟩
theorem opt_turn' {G : Gr} {c l u x : Nat → Int} (h : Opt G c (fun t => deg G c t - u t) (fun t => deg G c t - l t) x) : Opt G c l u (fun i => c i - x i) := ⟨cho_turn h.1, fun y hy => by
  have h1 := h.2 _ (cho_turn hy)
  rw [miss_turn] at h1
  have h2 := miss_turn G c l u (fun i => c i - x i)
  rw [turn_turn] at h2
  rw [← h2]
  exact h1⟩
theorem never_high {G : Gr} {c l u y : Nat → Int} {v : Nat} (hlu : ∀ t, t < G.n → l t ≤ u t) (hv : v < G.n) (hy : Opt G c l u y) (hh : deg G y v < l v) (hL : ∀ x, Opt G c l u x → deg G x v ≤ u v)
    (z : Nat → Int) (hz : Cho G c z) : miss G l u y + deg G z v ≤ rr G l u v z + l v := by
  have h1 := never_low (G := G) (c := c) (l := fun t => deg G c t - u t) (u := fun t => deg G c t - l t) (v := v) (fun t ht => by have := hlu t ht; omega) hv (opt_turn hy)
    (by rw [deg_all]; omega) (fun x hx => by have := hL _ (opt_turn' hx); rw [deg_all] at this; omega) _ _ (cho_turn hz) (Int.self_le_toNat _)
  rw [miss_turn, rr_turn, deg_all] at h1
  omega
end LV

set_option linter.all false
/-! LVC: pieces of the rest, what lots come to; no choice misses less than lots overdraw -/
namespace LV
open Classical
inductive Cn (G : Gr) (c : Nat → Int) (mk : Nat → Nat) : Nat → Nat → Prop
  | refl {v : Nat} : mk v = 0 → Cn G c mk v v
  | step {v w t i : Nat} : Cn G c mk v w → i < G.m → 0 < c i → ((G.a i = w ∧ G.b i = t) ∨ (G.b i = w ∧ G.a i = t)) → mk t = 0 → Cn G c mk v t
namespace Cn
variable {G : Gr} {c : Nat → Int} {mk : Nat → Nat} {v w t : Nat}
theorem l0 (h : Cn G c mk v w) : mk v = 0 := by
  induction h with
  | refl h => exact h
  | step _ _ _ _ _ ih => exact ih
theorem r0 (h : Cn G c mk v w) : mk w = 0 := by
  cases h with
  | refl h => exact h
  | step _ _ _ _ h => exact h
theorem trans (h1 : Cn G c mk v w) (h2 : Cn G c mk w t) : Cn G c mk v t := by
  induction h2 with
  | refl _ => exact h1
  | step _ a b d e ih => exact .step ih a b d e
theorem symm (h : Cn G c mk v w) : Cn G c mk w v := by
  induction h with
  | refl h => exact .refl h
  | step h1 a b d e ih => exact (Cn.step (.refl e) a b (d.elim (fun d => .inr ⟨d.2, d.1⟩) (fun d => .inl ⟨d.2, d.1⟩)) h1.r0).trans ih
theorem lt (h : Cn G c mk v w) (hv : v < G.n) : w < G.n := by
  cases h with
  | refl => exact hv
  | step _ hi _ d _ => exact d.elim (fun d => d.2 ▸ G.hb _ hi) (fun d => d.2 ▸ G.ha _ hi)
theorem congr {c' : Nat → Int} {mk' : Nat → Nat} (hm : ∀ t, mk t = 0 → mk' t = 0) (hc : ∀ i, i < G.m → mk (G.a i) = 0 → mk (G.b i) = 0 → 0 < c i → 0 < c' i) (h : Cn G c mk v w) : Cn G c' mk' v w := by
  induction h with
  | refl h => exact .refl (hm _ h)
  | step h1 a b d e ih =>
    refine .step ih a (hc _ a ?_ ?_ b) d (hm _ e)
    · rcases d with d | d
      · rw [d.1]; exact h1.r0
      · rw [d.2]; exact e
    · rcases d with d | d
      · rw [d.2]; exact e
      · rw [d.1]; exact h1.r0
end Cn
def lead (G : Gr) (c : Nat → Int) (mk : Nat → Nat) (v : Nat) : Prop := mk v = 0 ∧ ∀ w, Cn G c mk v w → v ≤ w
theorem lead_ex {G : Gr} {c : Nat → Int} {mk : Nat → Nat} : ∀ (N w : Nat), w ≤ N → mk w = 0 → ∃ v, lead G c mk v ∧ Cn G c mk v w := by
  intro N
  induction N with
  | zero => intro w h h0; exact ⟨w, ⟨h0, fun t _ => by omega⟩, .refl h0⟩
  | succ N ih =>
    intro w h h0
    by_cases q : ∃ t, Cn G c mk w t ∧ t < w
    · obtain ⟨t, h1, h2⟩ := q
      obtain ⟨v, h3, h4⟩ := ih t (by omega) h1.r0
      exact ⟨v, h3, h4.trans h1.symm⟩
    · exact ⟨w, ⟨h0, fun t ht => by
        false_or_by_contra
        rename_i k
        exact q ⟨t, ht, by omega⟩⟩, .refl h0⟩
/-- what stands in the rest, piece by piece -/
theorem comp_sum (G : Gr) (c : Nat → Int) (mk : Nat → Nat) (f : Nat → Int) :
    sm (fun w => if mk w = 0 then f w else 0) G.n = sm (fun v => if lead G c mk v then sm (fun w => if Cn G c mk v w then f w else 0) G.n else 0) G.n := by
  have h1 : sm (fun v => if lead G c mk v then sm (fun w => if Cn G c mk v w then f w else 0) G.n else 0) G.n = sm (fun v => sm (fun w => if lead G c mk v ∧ Cn G c mk v w then f w else 0) G.n) G.n := sm_congr fun v _ => by
    by_cases e : lead G c mk v
    · rw [if_pos e]
      refine sm_congr fun w _ => ?_
      by_cases e2 : Cn G c mk v w
      · rw [if_pos e2, if_pos ⟨e, e2⟩]
      · rw [if_neg e2, if_neg fun h => e2 h.2]
    · rw [if_neg e, sm_zero]
      intro w _
      rw [if_neg fun h => e h.1]
  rw [h1, sm_comm]
  refine sm_congr fun w hw => ?_
  by_cases e : mk w = 0
  · rw [if_pos e]
    obtain ⟨v, h2, h3⟩ := lead_ex (G := G) (c := c) w w (Nat.le_refl _) e
    have h4 : v < G.n := by have := h2.2 w h3; omega
    rw [sm_congr (g := fun i => if i = v then f w else 0), sm_pt, if_pos h4]
    intro t _
    by_cases e2 : t = v
    · subst e2; rw [if_pos rfl, if_pos ⟨h2, h3⟩]
    · rw [if_neg e2, if_neg]
      intro h5
      have h6 := h5.1.2 v (h5.2.trans h3.symm)
      have h7 := h2.2 t (h3.trans h5.2.symm)
      omega
  · rw [if_neg e, sm_zero]
    intro t _
    rw [if_neg fun h => e h.2.r0]
def odd (G : Gr) (c l u : Nat → Int) (mk : Nat → Nat) (v : Nat) : Prop :=
  (∀ w, w < G.n → Cn G c mk v w → l w = u w) ∧
  (sm (fun w => if Cn G c mk v w then u w else 0) G.n + sm (fun i => (if Cn G c mk v (G.a i) ∧ mk (G.b i) = 2 then c i else 0) + (if Cn G c mk v (G.b i) ∧ mk (G.a i) = 2 then c i else 0)) G.m) % 2 = 1
noncomputable def odds (G : Gr) (c l u : Nat → Int) (mk : Nat → Nat) : Int := sm (fun v => if lead G c mk v ∧ odd G c l u mk v then 1 else 0) G.n
def drawn (G : Gr) (l u : Nat → Int) (mk : Nat → Nat) : Int := sm (fun v => if mk v = 1 then u v else if mk v = 2 then - l v else 0) G.n
def tied (G : Gr) (c : Nat → Int) (mk : Nat → Nat) : Int := sm (fun i => (if mk (G.a i) = 2 ∧ mk (G.b i) ≠ 1 then c i else 0) + (if mk (G.b i) = 2 ∧ mk (G.a i) ≠ 1 then c i else 0)) G.m
noncomputable def amt (G : Gr) (c l u : Nat → Int) (mk : Nat → Nat) : Int := drawn G l u mk + tied G c mk - odds G c l u mk
/-- sums with weights, told over the ties -/
theorem deg_wt (G : Gr) (x g : Nat → Int) : sm (fun t => g t * deg G x t) G.n = sm (fun i => g (G.a i) * x i + g (G.b i) * x i) G.m := by
  unfold deg
  rw [sm_congr (g := fun t => sm (fun i => g t * ((if G.a i = t then x i else 0) + (if G.b i = t then x i else 0))) G.m) fun t _ => (sm_mul _ _ _).symm, sm_comm]
  refine sm_congr fun i hi => ?_
  have h1 : (fun t => g t * ((if G.a i = t then x i else 0) + (if G.b i = t then x i else 0))) = (fun t => (if t = G.a i then g (G.a i) * x i else 0) + (if t = G.b i then g (G.b i) * x i else 0)) := funext fun t => by
    by_cases e1 : G.a i = t <;> by_cases e2 : G.b i = t
    · rw [if_pos e1, if_pos e2, if_pos e1.symm, if_pos e2.symm, Int.mul_add, e1, e2]
    · rw [if_pos e1, if_neg e2, if_pos e1.symm, if_neg (Ne.symm e2), Int.mul_add, e1, Int.mul_zero]
    · rw [if_neg e1, if_pos e2, if_neg (Ne.symm e1), if_pos e2.symm, Int.mul_add, e2, Int.mul_zero]
    · rw [if_neg e1, if_neg e2, if_neg (Ne.symm e1), if_neg (Ne.symm e2)]; simp
  rw [h1, sm_add, sm_pt, sm_pt, if_pos (G.ha i hi), if_pos (G.hb i hi)]
/-- ones at the places of K -/
noncomputable def ind (K : Nat → Prop) (t : Nat) : Int := if K t then 1 else 0
theorem deg_in (G : Gr) (x : Nat → Int) (K : Nat → Prop) : sm (fun t => if K t then deg G x t else 0) G.n = sm (fun i => (if K (G.a i) then x i else 0) + (if K (G.b i) then x i else 0)) G.m := by
  have h := deg_wt G x (ind K)
  have e : ∀ (t : Nat) (y : Int), ind K t * y = if K t then y else 0 := fun t y => by unfold ind; split <;> simp
  simp only [e] at h
  exact h
theorem even_sum {f : Nat → Int} {n : Nat} (h : ∀ i, i < n → f i % 2 = 0) : sm f n % 2 = 0 := by
  induction n with
  | zero => rfl
  | succ n ih =>
    simp only [sm]
    have h1 := ih fun i hi => h i (by omega)
    have h2 := h n (by omega)
    omega
/-- what each place of the rest misses by itself or through its ties to the lots -/
noncomputable def lack (G : Gr) (c l u x : Nat → Int) (mk : Nat → Nat) (w : Nat) : Int :=
  phi (l w) (u w) (deg G x w) + sm (fun i => (if G.a i = w then (if mk (G.b i) = 1 then x i else if mk (G.b i) = 2 then c i - x i else 0) else 0) + (if G.b i = w then (if mk (G.a i) = 1 then x i else if mk (G.a i) = 2 then c i - x i else 0) else 0)) G.m
theorem phi_zero {l u p : Int} (h : phi l u p = 0) (e : l = u) : p = u := by unfold phi at h; omega
theorem lack_nn {G : Gr} {c l u x : Nat → Int} {mk : Nat → Nat} (hx : Cho G c x) (w : Nat) : 0 ≤ lack G c l u x mk w := by
  unfold lack
  have h1 := phi_nn (l w) (u w) (deg G x w)
  have h2 : 0 ≤ sm (fun i => (if G.a i = w then (if mk (G.b i) = 1 then x i else if mk (G.b i) = 2 then c i - x i else 0) else 0) + (if G.b i = w then (if mk (G.a i) = 1 then x i else if mk (G.a i) = 2 then c i - x i else 0) else 0)) G.m := sm_nn fun i hi => by
    have := hx i hi
    show 0 ≤ (if G.a i = w then (if mk (G.b i) = 1 then x i else if mk (G.b i) = 2 then c i - x i else 0) else 0) + (if G.b i = w then (if mk (G.a i) = 1 then x i else if mk (G.a i) = 2 then c i - x i else 0) else 0)
    split <;> (try split) <;> (try split) <;> (try split) <;> (try split) <;> (try split) <;> omega
  omega
theorem lack_zero {G : Gr} {c l u x : Nat → Int} {mk : Nat → Nat} (hx : Cho G c x) {w : Nat} (h : lack G c l u x mk w = 0) :
    phi (l w) (u w) (deg G x w) = 0 ∧ ∀ i, i < G.m → (G.a i = w → (mk (G.b i) = 1 → x i = 0) ∧ (mk (G.b i) = 2 → x i = c i)) ∧ (G.b i = w → (mk (G.a i) = 1 → x i = 0) ∧ (mk (G.a i) = 2 → x i = c i)) := by
  unfold lack at h
  have h1 := phi_nn (l w) (u w) (deg G x w)
  have nn : ∀ i, i < G.m → 0 ≤ (if G.a i = w then (if mk (G.b i) = 1 then x i else if mk (G.b i) = 2 then c i - x i else 0) else 0) + (if G.b i = w then (if mk (G.a i) = 1 then x i else if mk (G.a i) = 2 then c i - x i else 0) else 0) := fun i hi => by
    have := hx i hi
    split <;> (try split) <;> (try split) <;> (try split) <;> (try split) <;> (try split) <;> omega
  have h2 := sm_nn nn
  refine ⟨by omega, fun i hi => ?_⟩
  have h3 := sm_at (f := fun i => (if G.a i = w then (if mk (G.b i) = 1 then x i else if mk (G.b i) = 2 then c i - x i else 0) else 0) + (if G.b i = w then (if mk (G.a i) = 1 then x i else if mk (G.a i) = 2 then c i - x i else 0) else 0)) hi nn
  have h4 := nn i hi
  have h5 := hx i hi
  have h6 := G.hab i hi
  replace h3 : (if G.a i = w then (if mk (G.b i) = 1 then x i else if mk (G.b i) = 2 then c i - x i else 0) else 0) + (if G.b i = w then (if mk (G.a i) = 1 then x i else if mk (G.a i) = 2 then c i - x i else 0) else 0) = 0 := by
    have : (if G.a i = w then (if mk (G.b i) = 1 then x i else if mk (G.b i) = 2 then c i - x i else 0) else 0) + (if G.b i = w then (if mk (G.a i) = 1 then x i else if mk (G.a i) = 2 then c i - x i else 0) else 0) ≤ 0 := by omega
    omega
  refine ⟨fun e => ?_, fun e => ?_⟩
  · rw [if_pos e, if_neg (show ¬ G.b i = w from fun e2 => h6 (e.trans e2.symm))] at h3
    exact ⟨fun k => by rw [if_pos k] at h3; omega, fun k => by rw [if_neg (by omega), if_pos k] at h3; omega⟩
  · rw [if_neg (show ¬ G.a i = w from fun e2 => h6 (e2.trans e.symm)), if_pos e] at h3
    exact ⟨fun k => by rw [if_pos k] at h3; omega, fun k => by rw [if_neg (by omega), if_pos k] at h3; omega⟩
/-- an odd piece lacks something -/
theorem odd_lacks {G : Gr} {c l u x : Nat → Int} {mk : Nat → Nat} (hx : Cho G c x) (hm : ∀ t, mk t < 3) {v : Nat} (ho : odd G c l u mk v) : 1 ≤ sm (fun w => if Cn G c mk v w then lack G c l u x mk w else 0) G.n := by
  have nn : ∀ w, w < G.n → 0 ≤ (if Cn G c mk v w then lack G c l u x mk w else 0) := fun w _ => by
    split
    · exact lack_nn hx w
    · omega
  have h0 := sm_nn nn
  false_or_by_contra
  rename_i q
  have hz : ∀ w, w < G.n → Cn G c mk v w → lack G c l u x mk w = 0 := fun w hw k => by
    have h1 := sm_at (f := fun w => if Cn G c mk v w then lack G c l u x mk w else 0) hw nn
    have h2 := lack_nn (l := l) (u := u) (mk := mk) hx w
    simp only [if_pos k] at h1
    omega
  have e1 : sm (fun w => if Cn G c mk v w then u w else 0) G.n = sm (fun w => if Cn G c mk v w then deg G x w else 0) G.n := sm_congr fun w hw => by
    by_cases k : Cn G c mk v w
    · rw [if_pos k, if_pos k, phi_zero (lack_zero hx (hz w hw k)).1 (ho.1 w hw k)]
    · rw [if_neg k, if_neg k]
  have h2 := ho.2
  rw [e1, deg_in, ← sm_add] at h2
  have h3 : sm (fun i => ((if Cn G c mk v (G.a i) then x i else 0) + (if Cn G c mk v (G.b i) then x i else 0)) + ((if Cn G c mk v (G.a i) ∧ mk (G.b i) = 2 then c i else 0) + (if Cn G c mk v (G.b i) ∧ mk (G.a i) = 2 then c i else 0))) G.m % 2 = 0 := even_sum fun i hi => by
    have hc := hx i hi
    by_cases ka : Cn G c mk v (G.a i)
    · have za := (lack_zero hx (hz _ (G.ha i hi) ka)).2 i hi
      by_cases kb : Cn G c mk v (G.b i)
      · have r1 := ka.r0; have r2 := kb.r0
        rw [if_pos ka, if_pos kb, if_neg (fun h => by omega), if_neg (fun h => by omega)]
        omega
      · rw [if_pos ka, if_neg kb, if_neg (show ¬ (Cn G c mk v (G.b i) ∧ mk (G.a i) = 2) from fun h => kb h.1)]
        have r1 := hm (G.b i)
        by_cases b0 : mk (G.b i) = 0
        · have : ¬ 0 < c i := fun q => kb (.step ka hi q (.inl ⟨rfl, rfl⟩) b0)
          rw [if_neg (fun h => by omega)]
          omega
        · by_cases b1 : mk (G.b i) = 1
          · have := (za.1 rfl).1 b1
            rw [if_neg (fun h => by omega)]
            omega
          · have b2 : mk (G.b i) = 2 := by omega
            have := (za.1 rfl).2 b2
            rw [if_pos ⟨ka, b2⟩]
            omega
    · by_cases kb : Cn G c mk v (G.b i)
      · have zb := (lack_zero hx (hz _ (G.hb i hi) kb)).2 i hi
        rw [if_neg ka, if_pos kb, if_neg (show ¬ (Cn G c mk v (G.a i) ∧ mk (G.b i) = 2) from fun h => ka h.1)]
        have r1 := hm (G.a i)
        by_cases b0 : mk (G.a i) = 0
        · have : ¬ 0 < c i := fun q => ka (.step kb hi q (.inr ⟨rfl, rfl⟩) b0)
          rw [if_neg (fun h => by omega)]
          omega
        · by_cases b1 : mk (G.a i) = 1
          · have := (zb.2 rfl).1 b1
            rw [if_neg (fun h => by omega)]
            omega
          · have b2 : mk (G.a i) = 2 := by omega
            have := (zb.2 rfl).2 b2
            rw [if_pos ⟨kb, b2⟩]
            omega
      · rw [if_neg ka, if_neg kb, if_neg (show ¬ (Cn G c mk v (G.a i) ∧ mk (G.b i) = 2) from fun h => ka h.1), if_neg (show ¬ (Cn G c mk v (G.b i) ∧ mk (G.a i) = 2) from fun h => kb h.1)]
        rfl
  omega
theorem odds_le {G : Gr} {c l u x : Nat → Int} {mk : Nat → Nat} (hx : Cho G c x) (hm : ∀ t, mk t < 3) : odds G c l u mk ≤ sm (fun w => if mk w = 0 then lack G c l u x mk w else 0) G.n := by
  rw [comp_sum G c mk]
  refine sm_le fun v _ => ?_
  show (if lead G c mk v ∧ odd G c l u mk v then (1 : Int) else 0) ≤ _
  by_cases h1 : lead G c mk v
  · rw [if_pos h1]
    by_cases h2 : odd G c l u mk v
    · rw [if_pos ⟨h1, h2⟩]; exact odd_lacks hx hm h2
    · rw [if_neg fun h => h2 h.2]
      refine sm_nn fun w _ => ?_
      show 0 ≤ (if Cn G c mk v w then lack G c l u x mk w else 0)
      split
      · exact lack_nn hx w
      · omega
  · rw [if_neg fun h => h1 h.1, if_neg h1]; exact Int.le_refl _
/-- the signs of the lots -/
def sgm (k : Nat) : Int := if k = 1 then 1 else if k = 2 then -1 else 0
/-- NO CHOICE MISSES LESS THAN LOTS OVERDRAW -/
theorem weak {G : Gr} {c l u x : Nat → Int} {mk : Nat → Nat} (hx : Cho G c x) (hm : ∀ t, mk t < 3) : - amt G c l u mk ≤ miss G l u x := by
  have h1 := odds_le (l := l) (u := u) hx hm
  have h2 : sm (fun w => if mk w = 0 then lack G c l u x mk w else 0) G.n = sm (fun w => if mk w = 0 then phi (l w) (u w) (deg G x w) else 0) G.n + sm (fun w => if mk w = 0 then sm (fun i => (if G.a i = w then (if mk (G.b i) = 1 then x i else if mk (G.b i) = 2 then c i - x i else 0) else 0) + (if G.b i = w then (if mk (G.a i) = 1 then x i else if mk (G.a i) = 2 then c i - x i else 0) else 0)) G.m else 0) G.n := by
    rw [← sm_add]
    refine sm_congr fun w _ => ?_
    by_cases k : mk w = 0
    · rw [if_pos k, if_pos k, if_pos k]; rfl
    · rw [if_neg k, if_neg k, if_neg k]; rfl
  have h3 : sm (fun w => if mk w = 0 then sm (fun i => (if G.a i = w then (if mk (G.b i) = 1 then x i else if mk (G.b i) = 2 then c i - x i else 0) else 0) + (if G.b i = w then (if mk (G.a i) = 1 then x i else if mk (G.a i) = 2 then c i - x i else 0) else 0)) G.m else 0) G.n
      = sm (fun i => (if mk (G.a i) = 0 then (if mk (G.b i) = 1 then x i else if mk (G.b i) = 2 then c i - x i else 0) else 0) + (if mk (G.b i) = 0 then (if mk (G.a i) = 1 then x i else if mk (G.a i) = 2 then c i - x i else 0) else 0)) G.m := by
    rw [sm_congr (g := fun w => sm (fun i => (if w = G.a i then (if mk (G.a i) = 0 then (if mk (G.b i) = 1 then x i else if mk (G.b i) = 2 then c i - x i else 0) else 0) else 0) + (if w = G.b i then (if mk (G.b i) = 0 then (if mk (G.a i) = 1 then x i else if mk (G.a i) = 2 then c i - x i else 0) else 0) else 0)) G.m), sm_comm]
    · refine sm_congr fun i hi => ?_
      rw [sm_add, sm_pt, sm_pt, if_pos (G.ha i hi), if_pos (G.hb i hi)]
    · intro w _
      by_cases k : mk w = 0
      · rw [if_pos k]
        refine sm_congr fun i _ => ?_
        by_cases e1 : G.a i = w <;> by_cases e2 : G.b i = w
        · rw [if_pos e1, if_pos e2, if_pos e1.symm, if_pos e2.symm, e1, e2, if_pos k]
        · rw [if_pos e1, if_neg e2, if_pos e1.symm, if_neg (Ne.symm e2), e1, if_pos k]
        · rw [if_neg e1, if_pos e2, if_neg (Ne.symm e1), if_pos e2.symm, e2, if_pos k]
        · rw [if_neg e1, if_neg e2, if_neg (Ne.symm e1), if_neg (Ne.symm e2)]
      · rw [if_neg k, sm_zero]
        intro i _
        by_cases e1 : w = G.a i <;> by_cases e2 : w = G.b i
        · rw [if_pos e1, if_pos e2, ← e1, ← e2, if_neg k]; rfl
        · rw [if_pos e1, if_neg e2, ← e1, if_neg k]; rfl
        · rw [if_neg e1, if_pos e2, ← e2, if_neg k]; rfl
        · rw [if_neg e1, if_neg e2]; rfl
  have h4 : sm (fun t => sgm (mk t) * deg G x t) G.n + sm (fun w => if mk w = 0 then phi (l w) (u w) (deg G x w) else 0) G.n ≤ miss G l u x + drawn G l u mk := by
    unfold miss drawn
    rw [← sm_add, ← sm_add]
    refine sm_le fun t _ => ?_
    show sgm (mk t) * deg G x t + (if mk t = 0 then phi (l t) (u t) (deg G x t) else 0) ≤ phi (l t) (u t) (deg G x t) + (if mk t = 1 then u t else if mk t = 2 then - l t else 0)
    unfold sgm
    have := hm t
    have n := phi_nn (l t) (u t) (deg G x t)
    by_cases k0 : mk t = 0
    · rw [if_neg (by omega), if_neg (by omega), if_pos k0, if_neg (by omega), if_neg (by omega)]; omega
    · by_cases k1 : mk t = 1
      · rw [if_pos k1, if_neg k0, if_pos k1]; unfold phi; omega
      · have k2 : mk t = 2 := by omega
        rw [if_neg k1, if_pos k2, if_neg k0, if_neg k1, if_pos k2]; unfold phi; omega
  have h5 : 0 ≤ sm (fun t => sgm (mk t) * deg G x t) G.n + tied G c mk - sm (fun i => (if mk (G.a i) = 0 then (if mk (G.b i) = 1 then x i else if mk (G.b i) = 2 then c i - x i else 0) else 0) + (if mk (G.b i) = 0 then (if mk (G.a i) = 1 then x i else if mk (G.a i) = 2 then c i - x i else 0) else 0)) G.m := by
    rw [deg_wt]
    unfold tied
    rw [← sm_add, ← sm_sub]
    refine sm_nn fun i hi => ?_
    have hc := hx i hi
    have ka := hm (G.a i)
    have kb := hm (G.b i)
    show 0 ≤ sgm (mk (G.a i)) * x i + sgm (mk (G.b i)) * x i + ((if mk (G.a i) = 2 ∧ mk (G.b i) ≠ 1 then c i else 0) + (if mk (G.b i) = 2 ∧ mk (G.a i) ≠ 1 then c i else 0)) - ((if mk (G.a i) = 0 then (if mk (G.b i) = 1 then x i else if mk (G.b i) = 2 then c i - x i else 0) else 0) + (if mk (G.b i) = 0 then (if mk (G.a i) = 1 then x i else if mk (G.a i) = 2 then c i - x i else 0) else 0))
    generalize mk (G.a i) = p at *
    generalize mk (G.b i) = r at *
    have hp : p = 0 ∨ p = 1 ∨ p = 2 := by omega
    have hr : r = 0 ∨ r = 1 ∨ r = 2 := by omega
    rcases hp with rfl | rfl | rfl <;> rcases hr with rfl | rfl | rfl <;> simp [sgm] <;> omega
  unfold amt
  omega
end LV

set_option linter.all false
/-! LVD: where low and high go together, odd pieces miss all that is missed -/
namespace LV
open Classical
theorem miss_eq {G : Gr} {l u x y : Nat → Int} (h : ∀ t, deg G y t = deg G x t) : miss G l u y = miss G l u x := sm_congr fun t _ => by
  show phi _ _ (deg G y t) = phi _ _ (deg G x t)
  rw [h]
theorem miss2 {G : Gr} {l u x y : Nat → Int} {v w : Nat} (hv : v < G.n) (hw : w < G.n) (ne : v ≠ w) (h : ∀ t, t ≠ v → t ≠ w → deg G y t = deg G x t) :
    miss G l u y + phi (l v) (u v) (deg G x v) + phi (l w) (u w) (deg G x w) = miss G l u x + phi (l v) (u v) (deg G y v) + phi (l w) (u w) (deg G y w) := by
  have e : ∀ z, miss G l u z = sm (fun t => if t = w then 0 else if t = v then 0 else phi (l t) (u t) (deg G z t)) G.n + phi (l w) (u w) (deg G z w) + phi (l v) (u v) (deg G z v) := fun z => by
    rw [miss_rr hv]
    unfold rr
    rw [sm_split (k := w) hw, if_neg (Ne.symm ne)]
  have e2 : sm (fun t => if t = w then 0 else if t = v then 0 else phi (l t) (u t) (deg G x t)) G.n = sm (fun t => if t = w then 0 else if t = v then 0 else phi (l t) (u t) (deg G y t)) G.n := sm_congr fun t _ => by
    by_cases h1 : t = w
    · rw [if_pos h1, if_pos h1]
    · by_cases h2 : t = v
      · rw [if_neg h1, if_neg h1, if_pos h2, if_pos h2]
      · rw [if_neg h1, if_neg h1, if_neg h2, if_neg h2, h t h2 h1]
  rw [e x, e y, e2]
  omega
theorem Opt.le {G : Gr} {c l u x y : Nat → Int} (hx : Opt G c l u x) (hy : Cho G c y) (h : miss G l u y ≤ miss G l u x) : Opt G c l u y := ⟨hy, fun z hz => Int.le_trans h (hx.2 z hz)⟩
theorem Opt.same {G : Gr} {c l u x y : Nat → Int} (hx : Opt G c l u x) (hy : Opt G c l u y) : miss G l u x = miss G l u y := by
  have h1 := hx.2 y hy.1; have h2 := hy.2 x hx.1; omega
theorem bump_up {G : Gr} {c x : Nat → Int} {i : Nat} (hx : Cho G c x) (h : x i < c i) : Cho G c (bump x i 1) := fun j hj => by
  have := hx j hj
  unfold bump
  by_cases e : j = i
  · subst e; rw [if_pos rfl]; omega
  · rw [if_neg e]; exact this
theorem bump_dn {G : Gr} {c x : Nat → Int} {i : Nat} (hx : Cho G c x) (h : 0 < x i) : Cho G c (bump x i (-1)) := fun j hj => by
  have := hx j hj
  unfold bump
  by_cases e : j = i
  · subst e; rw [if_pos rfl]; omega
  · rw [if_neg e]; exact this
/-- an end and the other end -/
def Ends (G : Gr) (i v w : Nat) : Prop := (G.a i = v ∧ G.b i = w) ∨ (G.b i = v ∧ G.a i = w)
theorem Ends.e1 {G : Gr} {i v w : Nat} (h : Ends G i v w) (t : Nat) : e1 (G.a i) t + e1 (G.b i) t = e1 v t + e1 w t := by
  rcases h with ⟨h1, h2⟩ | ⟨h1, h2⟩ <;> rw [h1, h2]
  omega
theorem Ends.ne {G : Gr} {i v w : Nat} (h : Ends G i v w) (hi : i < G.m) : v ≠ w := by
  have := G.hab i hi
  rcases h with ⟨h1, h2⟩ | ⟨h1, h2⟩ <;> omega
theorem Ends.bump {G : Gr} {i v w : Nat} {x : Nat → Int} (h : Ends G i v w) (hi : i < G.m) (d : Int) : deg G (bump x i d) v = deg G x v + d ∧ deg G (bump x i d) w = deg G x w + d ∧ ∀ t, t ≠ v → t ≠ w → deg G (bump x i d) t = deg G x t := by
  have ne := h.ne hi
  have k : ∀ t, deg G (LV.bump x i d) t = deg G x t + d * (LV.e1 v t + LV.e1 w t) := fun t => by
    rw [deg_bump G x hi, ← h.e1 t, Int.mul_add]; omega
  refine ⟨?_, ?_, fun t h1 h2 => ?_⟩
  · rw [k, e1_self, e1_ne ne]; omega
  · rw [k, e1_self, e1_ne (Ne.symm ne)]; omega
  · rw [k, e1_ne h1, e1_ne h2]; omega
theorem c1 {G : Gr} {c l u y z : Nat → Int} {v : Nat} (hlu : ∀ t, t < G.n → l t ≤ u t) (hv : v < G.n) (hy : Opt G c l u y) (hz : Opt G c l u z) (h1 : deg G y v < l v) (h2 : u v < deg G z v) :
    l v = u v ∧ deg G y v = l v - 1 ∧ deg G z v = l v + 1 ∧ (∃ y', Opt G c l u y' ∧ deg G y' v = l v + 1 ∧ ∀ t, t ≠ v → deg G y' t = deg G y t) ∧ (∃ z', Opt G c l u z' ∧ deg G z' v = l v - 1 ∧ ∀ t, t ≠ v → deg G z' t = deg G z t) := by
  have luv := hlu v hv
  obtain ⟨z', y', hz', hy', k⟩ := exch_rr hlu hy.1 hz.1 hv (by omega)
  have my := miss_rr (G := G) (l := l) (u := u) (x := y) hv
  have mz := miss_rr (G := G) (l := l) (u := u) (x := z) hv
  have mz' := miss_rr (G := G) (l := l) (u := u) (x := z') hv
  have my' := miss_rr (G := G) (l := l) (u := u) (x := y') hv
  have o1 := hy.2 z' hz'
  have o2 := hz.2 y' hy'
  unfold phi at my mz mz' my'
  rcases k with ⟨_, _, _, _, _, _, k1, k2, k3⟩ | ⟨k1, k2, k3, k4, k5⟩
  · omega
  · have r1 := rr_congr (l := l) (u := u) k4
    have r2 := rr_congr (l := l) (u := u) k5
    have a1 : l v = u v := by omega
    have a2 : deg G y v = l v - 1 := by omega
    have a3 : deg G z v = l v + 1 := by omega
    refine ⟨a1, a2, a3, ⟨z', hy.le hz' (by omega), by omega, k4⟩, ⟨y', hz.le hy' (by omega), by omega, k5⟩⟩
section
variable {G : Gr} {c l u : Nat → Int} (hlu : ∀ t, t < G.n → l t ≤ u t)
  (hD : ∀ v, v < G.n → ((∃ x, Opt G c l u x ∧ deg G x v < l v) ↔ (∃ x, Opt G c l u x ∧ u v < deg G x v)))
include hlu hD
def Df (G : Gr) (c l u : Nat → Int) (v : Nat) : Prop := ∃ x, Opt G c l u x ∧ deg G x v < l v
theorem dv {v : Nat} (hv : v < G.n) (h : Df G c l u v) : l v = u v ∧ (∀ x, Opt G c l u x → deg G x v = l v - 1 ∨ deg G x v = l v ∨ deg G x v = l v + 1) ∧
    (∀ x, Opt G c l u x → deg G x v = l v - 1 → ∃ x', Opt G c l u x' ∧ deg G x' v = l v + 1 ∧ ∀ t, t ≠ v → deg G x' t = deg G x t) ∧
    (∀ x, Opt G c l u x → deg G x v = l v + 1 → ∃ x', Opt G c l u x' ∧ deg G x' v = l v - 1 ∧ ∀ t, t ≠ v → deg G x' t = deg G x t) := by
  obtain ⟨y, hy, h1⟩ := h
  obtain ⟨z, hz, h2⟩ := (hD v hv).1 ⟨y, hy, h1⟩
  have k := c1 hlu hv hy hz h1 h2
  refine ⟨k.1, fun x hx => ?_, fun x hx q => ?_, fun x hx q => ?_⟩
  · have := hlu v hv
    by_cases q1 : deg G x v < l v
    · have := (c1 hlu hv hx hz q1 h2).2.1; omega
    · by_cases q2 : u v < deg G x v
      · have := (c1 hlu hv hy hx h1 q2).2.2.1; omega
      · omega
  · exact (c1 hlu hv hx hz (by omega) h2).2.2.2.1
  · exact (c1 hlu hv hy hx h1 (by omega)).2.2.2.2
def Bd (G : Gr) (c l u : Nat → Int) (v w : Nat) : Prop := ∃ x, Opt G c l u x ∧ deg G x v ≠ l v ∧ deg G x w ≠ l w
theorem c2 {v w i : Nat} (hv : v < G.n) (hw : w < G.n) (dv1 : Df G c l u v) (dw1 : Df G c l u w) (hi : i < G.m) (hc : 0 < c i) (he : Ends G i v w) : ¬ Bd G c l u v w := by
  rintro ⟨x, hx, q1, q2⟩
  have ne := he.ne hi
  obtain ⟨v1, v2, v3, v4⟩ := dv hlu hD hv dv1
  obtain ⟨w1, w2, w3, w4⟩ := dv hlu hD hw dw1
  obtain ⟨x1, hx1, a1, a2⟩ : ∃ x1, Opt G c l u x1 ∧ deg G x1 v = l v - 1 ∧ deg G x1 w ≠ l w := by
    rcases v2 x hx with h | h | h
    · exact ⟨x, hx, h, q2⟩
    · exact absurd h q1
    · obtain ⟨x', h1, h2, h3⟩ := v4 x hx h
      exact ⟨x', h1, h2, by rw [h3 w (Ne.symm ne)]; exact q2⟩
  obtain ⟨x2, hx2, b1, b2⟩ : ∃ x2, Opt G c l u x2 ∧ deg G x2 v = l v - 1 ∧ deg G x2 w = l w + 1 := by
    rcases w2 x1 hx1 with h | h | h
    · obtain ⟨x', h1, h2, h3⟩ := w3 x1 hx1 h
      exact ⟨x', h1, by rw [h3 v ne]; exact a1, h2⟩
    · exact absurd h a2
    · exact ⟨x1, hx1, a1, h⟩
  have hc2 := hx2.1 i hi
  by_cases k : x2 i < c i
  · obtain ⟨e1', e2', e3'⟩ := he.bump (x := x2) hi 1
    have m := miss2 (l := l) (u := u) hv hw ne e3'
    have ho : Opt G c l u (bump x2 i 1) := hx2.le (bump_up hx2.1 k) (by rw [e1', e2', b1, b2] at m; unfold phi at m; omega)
    have := w2 _ ho
    omega
  · obtain ⟨e1', e2', e3'⟩ := he.bump (x := x2) hi (-1)
    have m := miss2 (l := l) (u := u) hv hw ne e3'
    have ho : Opt G c l u (bump x2 i (-1)) := hx2.le (bump_dn hx2.1 (by omega)) (by rw [e1', e2', b1, b2] at m; unfold phi at m; omega)
    have := v2 _ ho
    omega
theorem c3 {v w t : Nat} (hw : w < G.n) (dw1 : Df G c l u w) (n1 : ¬ Bd G c l u v w) (n2 : ¬ Bd G c l u w t) (ne : v ≠ t) : ¬ Bd G c l u v t := by
  rintro ⟨x, hx, q1, q2⟩
  obtain ⟨w1, w2, w3, w4⟩ := dv hlu hD hw dw1
  have xw : deg G x w = l w := by
    false_or_by_contra
    rename_i k
    exact n1 ⟨x, hx, q1, k⟩
  obtain ⟨y, hy, h1⟩ := dw1
  have yw : deg G y w = l w - 1 := by have := w2 y hy; omega
  obtain ⟨z, y', hz, hy', k⟩ := exch_rr hlu hy.1 hx.1 hw (by omega)
  rcases k with ⟨s, b, _, sw, ez, ey, k1, k2, k3⟩ | ⟨k1, _⟩
  · have mx := miss_rr (G := G) (l := l) (u := u) (x := x) hw
    have my := miss_rr (G := G) (l := l) (u := u) (x := y) hw
    have mz := miss_rr (G := G) (l := l) (u := u) (x := z) hw
    have my' := miss_rr (G := G) (l := l) (u := u) (x := y') hw
    have o1 := hy.2 z hz
    unfold phi at mx my mz my'
    have ho : Opt G c l u y' := hx.le hy' (by omega)
    have dw2 : deg G y' w ≠ l w := by omega
    have vw : v ≠ w := fun e => q1 (e ▸ xw)
    have tw : t ≠ w := fun e => q2 (e ▸ xw)
    by_cases e : v = s
    · refine n2 ⟨y', ho, dw2, ?_⟩
      rw [ey t, e1_ne tw, e1_ne (show t ≠ s from fun h => ne (e.trans h.symm))]
      omega
    · refine n1 ⟨y', ho, ?_, dw2⟩
      rw [ey v, e1_ne vw, e1_ne e]
      omega
  · omega
omit hlu hD in
/-- round a ring -/
theorem ring {x z : Nat → Int} {v i : Nat} (hz : ∀ t, deg G z t = deg G x t + 2 * e1 v t) (hi : z i < x i) (him : i < G.m) : ∀ (N : Nat) (y : Nat → Int) (t : Nat) (s : Bool), dist y z G.m ≤ N → Btw G x z y → y i < x i →
    (∀ r, deg G y r = deg G x r - e1 v r + sg s * e1 t r) → ∃ y', Btw G x z y' ∧ y' i < x i ∧ ∀ r, deg G y' r = deg G x r := by
  intro N
  induction N with
  | zero =>
    intro y t s hd hb hyi hy
    cases s with
    | true =>
      by_cases e : t = v
      · subst e; exact ⟨y, hb, hyi, fun r => by rw [hy r]; simp only [sg, if_true]; omega⟩
      · have h1 := hy t
        have h2 := hz t
        rw [e1_self, e1_ne e] at h1
        rw [e1_ne e] at h2
        simp only [sg, if_true] at h1
        obtain ⟨j, t', hj, _, _, q, _⟩ := more_at (G := G) (z := z) (y := y) (w := t) (by omega)
        have := dist_down q hj
        omega
    | false =>
      have h1 := hy t
      have h2 := hz t
      have h3 := e1_01 v t
      rw [e1_self] at h1
      simp only [sg, Bool.false_eq_true, if_false] at h1
      obtain ⟨j, t', hj, _, _, q, _⟩ := more_at (G := G) (z := y) (y := z) (w := t) (by omega)
      have := dist_up q hj
      omega
  | succ N ih =>
    intro y t s hd hb hyi hy
    cases s with
    | true =>
      by_cases e : t = v
      · subst e; exact ⟨y, hb, hyi, fun r => by rw [hy r]; simp only [sg, if_true]; omega⟩
      · have h1 := hy t
        have h2 := hz t
        rw [e1_self, e1_ne e] at h1
        rw [e1_ne e] at h2
        simp only [sg, if_true] at h1
        obtain ⟨j, t', hj, _, _, q, ed, _⟩ := more_at (G := G) (z := z) (y := y) (w := t) (by omega)
        have := dist_down q hj
        refine ih (bump y j (-1)) t' false (by omega) (hb.down q) ?_ fun r => ?_
        · unfold bump; split <;> omega
        · rw [deg_bump G y hj, hy r]
          have := ed r
          simp only [sg, if_true, Bool.false_eq_true, if_false]
          omega
    | false =>
      have h1 := hy t
      have h2 := hz t
      have h3 := e1_01 v t
      rw [e1_self] at h1
      simp only [sg, Bool.false_eq_true, if_false] at h1
      obtain ⟨j, t', hj, _, _, q, ed, _⟩ := more_at (G := G) (z := y) (y := z) (w := t) (by omega)
      have := dist_up q hj
      refine ih (bump y j 1) t' true (by omega) (hb.up q) ?_ fun r => ?_
      · have hb1 := hb i him
        unfold bump
        by_cases e : i = j
        · subst e; omega
        · rw [if_neg e]; exact hyi
      · rw [deg_bump G y hj, hy r]
        have := ed r
        simp only [sg, if_true, Bool.false_eq_true, if_false]
        omega
theorem c4 {v w i : Nat} (hv : v < G.n) (hw : w < G.n) (dv1 : Df G c l u v) (hi : i < G.m) (hc : 0 < c i) (he : Ends G i v w) : Df G c l u w := by
  false_or_by_contra
  rename_i nw
  have ne := he.ne hi
  obtain ⟨v1, v2, v3, v4⟩ := dv hlu hD hv dv1
  have mid : ∀ x, Opt G c l u x → l w ≤ deg G x w ∧ deg G x w ≤ u w := fun x hx => by
    constructor
    · false_or_by_contra
      exact nw ⟨x, hx, by omega⟩
    · false_or_by_contra
      exact nw ((hD w hw).2 ⟨x, hx, by omega⟩)
  have low : ∀ x, Opt G c l u x → deg G x v = l v - 1 → x i = c i := fun x hx h => by
    have hc2 := hx.1 i hi
    false_or_by_contra
    have k : x i < c i := by omega
    obtain ⟨e1', e2', e3'⟩ := he.bump (x := x) hi 1
    have m := miss2 (l := l) (u := u) hv hw ne e3'
    have mx := mid x hx
    have o := hx.2 _ (bump_up hx.1 k)
    rw [e1', e2', h] at m
    have ho : Opt G c l u (bump x i 1) := hx.le (bump_up hx.1 k) (by unfold phi at m; omega)
    have := mid _ ho
    unfold phi at m
    omega
  have high : ∀ x, Opt G c l u x → deg G x v = l v + 1 → x i = 0 := fun x hx h => by
    have hc2 := hx.1 i hi
    false_or_by_contra
    have k : 0 < x i := by omega
    obtain ⟨e1', e2', e3'⟩ := he.bump (x := x) hi (-1)
    have m := miss2 (l := l) (u := u) hv hw ne e3'
    have mx := mid x hx
    have o := hx.2 _ (bump_dn hx.1 k)
    rw [e1', e2', h] at m
    have ho : Opt G c l u (bump x i (-1)) := hx.le (bump_dn hx.1 k) (by unfold phi at m; omega)
    have := mid _ ho
    unfold phi at m
    omega
  obtain ⟨x, hx, h1⟩ := dv1
  have xv : deg G x v = l v - 1 := by have := v2 x hx; omega
  obtain ⟨z, hz, z1, z2⟩ := v3 x hx xv
  have xi := low x hx xv
  have zi := high z hz z1
  have b0 : Btw G x z x := fun j hj => by omega
  obtain ⟨y, hb, y1, y2⟩ := ring (G := G) (x := x) (z := z) (v := v) (i := i) (fun t => by
      by_cases e : t = v
      · subst e; rw [e1_self, z1, xv]; omega
      · rw [e1_ne e, z2 t e]; omega) (by omega) hi _ (bump x i (-1)) w false (Nat.le_refl _) (b0.down (by omega)) (by unfold bump; rw [if_pos rfl]; omega) fun r => by
    rw [deg_bump G x hi]
    have := he.e1 r
    simp only [sg, Bool.false_eq_true, if_false]
    omega
  have ho : Opt G c l u y := hx.le (hb.cho hx.1 hz.1) (by rw [miss_eq y2]; omega)
  have := low y ho (by rw [y2]; exact xv)
  omega
/-- WHERE LOW AND HIGH GO TOGETHER: the odd pieces miss it all -/
theorem base {mk : Nat → Nat} {x : Nat → Int} (hx : Opt G c l u x) (hm : ∀ t, mk t = 0 ∨ mk t = 1) (h1 : ∀ t, t < G.n → mk t = 1 → l t = 0 ∧ u t = 0) (h2 : ∀ i, i < G.m → mk (G.a i) = 1 ∨ mk (G.b i) = 1 → c i = 0) : miss G l u x ≤ - amt G c l u mk := by
  have d0 : drawn G l u mk = 0 := sm_zero fun t ht => by
    rcases hm t with h | h
    · rw [if_neg (by omega), if_neg (by omega)]
    · rw [if_pos h, (h1 t ht h).2]
  have t0 : tied G c mk = 0 := sm_zero fun i hi => by
    have ha := hm (G.a i)
    have hb := hm (G.b i)
    rw [if_neg (by omega), if_neg (by omega)]; rfl
  have e0 : miss G l u x = sm (fun w => if mk w = 0 then phi (l w) (u w) (deg G x w) else 0) G.n := sm_congr fun w hw => by
    show phi (l w) (u w) (deg G x w) = _
    rcases hm w with h | h
    · rw [if_pos h]
    · rw [if_neg (by omega)]
      obtain ⟨l0, u0⟩ := h1 w hw h
      have : deg G x w = 0 := sm_zero fun i hi => by
        have hc := hx.1 i hi
        by_cases ea : G.a i = w
        · have := h2 i hi (.inl (by rw [ea]; exact h))
          rw [show x i = 0 by omega]; simp
        · by_cases eb : G.b i = w
          · have := h2 i hi (.inr (by rw [eb]; exact h))
            rw [show x i = 0 by omega]; simp
          · rw [if_neg ea, if_neg eb]; rfl
      rw [this, l0, u0]; rfl
  unfold amt
  rw [d0, t0, e0, comp_sum G c mk]
  suffices h : sm (fun v => if lead G c mk v then sm (fun w => if Cn G c mk v w then phi (l w) (u w) (deg G x w) else 0) G.n else 0) G.n ≤ odds G c l u mk by omega
  refine sm_le fun v hv => ?_
  show (if lead G c mk v then sm (fun w => if Cn G c mk v w then phi (l w) (u w) (deg G x w) else 0) G.n else 0) ≤ (if lead G c mk v ∧ odd G c l u mk v then 1 else 0)
  by_cases hl : lead G c mk v
  case neg => rw [if_neg hl, if_neg fun h => hl h.1]; exact Int.le_refl _
  rw [if_pos hl]
  by_cases q : ∃ w, w < G.n ∧ Cn G c mk v w ∧ phi (l w) (u w) (deg G x w) ≠ 0
  case neg =>
    rw [sm_zero]
    · split <;> omega
    · intro w hw
      by_cases k : Cn G c mk v w
      · rw [if_pos k]
        false_or_by_contra
        exact q ⟨w, hw, k, by assumption⟩
      · rw [if_neg k]
  obtain ⟨w0, hw0, k0, p0⟩ := q
  have luw := hlu w0 hw0
  have D0 : Df G c l u w0 := by
    by_cases h : deg G x w0 < l w0
    · exact ⟨x, hx, h⟩
    · exact (hD w0 hw0).2 ⟨x, hx, by unfold phi at p0; omega⟩
  have all : ∀ t, Cn G c mk w0 t → t < G.n ∧ Df G c l u t ∧ (t = w0 ∨ ¬ Bd G c l u w0 t) := by
    intro t ht
    induction ht with
    | refl => exact ⟨hw0, D0, .inl rfl⟩
    | @step w t i hc1 hi hc d ht0 ih =>
      obtain ⟨hw, dw, o⟩ := ih
      have ht := (Cn.step hc1 hi hc d ht0).lt hw0
      have dt := c4 hlu hD hw ht dw hi hc d
      refine ⟨ht, dt, ?_⟩
      by_cases e : t = w0
      · exact .inl e
      · right
        have n2 := c2 hlu hD hw ht dw dt hi hc d
        rcases o with rfl | o
        · exact n2
        · exact c3 hlu hD hw dw o n2 (Ne.symm e)
  have all' : ∀ t, Cn G c mk v t → t < G.n ∧ Df G c l u t ∧ (t = w0 ∨ ¬ Bd G c l u w0 t) := fun t ht => all t (k0.symm.trans ht)
  obtain ⟨q1, q2, q3, q4⟩ := dv hlu hD hw0 D0
  have def0 : deg G x w0 ≠ l w0 := fun h => p0 (by rw [h, ← q1]; unfold phi; omega)
  have oth : ∀ t, Cn G c mk v t → t ≠ w0 → deg G x t = l t ∧ l t = u t := fun t ht n => by
    obtain ⟨a1, a2, a3⟩ := all' t ht
    refine ⟨?_, (dv hlu hD a1 a2).1⟩
    false_or_by_contra
    rename_i k
    exact a3.elim n fun h => h ⟨x, hx, def0, k⟩
  have p1 : phi (l w0) (u w0) (deg G x w0) = 1 := by
    have := q2 x hx
    unfold phi at p0 ⊢; omega
  have sum1 : sm (fun w => if Cn G c mk v w then phi (l w) (u w) (deg G x w) else 0) G.n = 1 := by
    rw [sm_congr (g := fun w => if w = w0 then 1 else 0), sm_pt, if_pos hw0]
    intro w hw
    by_cases e : w = w0
    · subst e; rw [if_pos k0, if_pos rfl, p1]
    · rw [if_neg e]
      by_cases k : Cn G c mk v w
      · obtain ⟨a1, a2⟩ := oth w k e
        rw [if_pos k, a1, ← a2]; unfold phi; omega
      · rw [if_neg k]
  rw [sum1, if_pos]
  · exact Int.le_refl _
  refine ⟨hl, fun w hw k => ?_, ?_⟩
  · by_cases e : w = w0
    · subst e; exact q1
    · exact (oth w k e).2
  · have s1 : sm (fun w => if Cn G c mk v w then u w else 0) G.n = sm (fun w => if Cn G c mk v w then deg G x w else 0) G.n + (u w0 - deg G x w0) := by
      rw [sm_congr (g := fun w => (if Cn G c mk v w then deg G x w else 0) + (if w = w0 then u w0 - deg G x w0 else 0)), sm_add, sm_pt, if_pos hw0]
      intro w hw
      by_cases e : w = w0
      · subst e; rw [if_pos k0, if_pos k0, if_pos rfl]; omega
      · rw [if_neg e]
        by_cases k : Cn G c mk v w
        · obtain ⟨a1, a2⟩ := oth w k e
          rw [if_pos k, if_pos k]; omega
        · rw [if_neg k, if_neg k]; rfl
    have s2 : sm (fun i => (if Cn G c mk v (G.a i) ∧ mk (G.b i) = 2 then c i else 0) + (if Cn G c mk v (G.b i) ∧ mk (G.a i) = 2 then c i else 0)) G.m = 0 := sm_zero fun i hi => by
      have ha := hm (G.a i)
      have hb := hm (G.b i)
      rw [if_neg (by omega), if_neg (by omega)]; rfl
    have s3 : sm (fun w => if Cn G c mk v w then deg G x w else 0) G.n % 2 = 0 := by
      rw [deg_in]
      refine even_sum fun i hi => ?_
      have hc := hx.1 i hi
      by_cases ka : Cn G c mk v (G.a i)
      · by_cases kb : Cn G c mk v (G.b i)
        · rw [if_pos ka, if_pos kb]; omega
        · rw [if_pos ka, if_neg kb]
          rcases hm (G.b i) with b0 | b1
          · have : ¬ 0 < c i := fun q => kb (.step ka hi q (.inl ⟨rfl, rfl⟩) b0)
            omega
          · have := h2 i hi (.inr b1)
            omega
      · by_cases kb : Cn G c mk v (G.b i)
        · rw [if_neg ka, if_pos kb]
          rcases hm (G.a i) with b0 | b1
          · have : ¬ 0 < c i := fun q => ka (.step kb hi q (.inr ⟨rfl, rfl⟩) b0)
            omega
          · have := h2 i hi (.inl b1)
            omega
        · rw [if_neg ka, if_neg kb]; rfl
    rw [s1, s2]
    have := q2 x hx
    omega
end
end LV

set_option linter.all false
/-! LVE: one place put away, and the strong half: some lots overdraw all that is missed at least -/
namespace LV
open Classical
abbrev at' (G : Gr) (v i : Nat) : Prop := G.a i = v ∨ G.b i = v
/-- no ties at v -/
def cut (G : Gr) (v : Nat) (c : Nat → Int) (i : Nat) : Int := if at' G v i then 0 else c i
/-- only the ties at v -/
def cap (G : Gr) (v : Nat) (c : Nat → Int) (i : Nat) : Int := if at' G v i then c i else 0
def out (v : Nat) (f : Nat → Int) (t : Nat) : Int := if t = v then 0 else f t
def les (l C : Nat → Int) (t : Nat) : Int := l t - C t
theorem odd_congr {G : Gr} {c c' l l' u u' : Nat → Int} {mk mk' : Nat → Nat} {v : Nat} (hC : ∀ w, Cn G c mk v w ↔ Cn G c' mk' v w) (hlu : ∀ w, w < G.n → Cn G c mk v w → (l w = u w ↔ l' w = u' w))
    (hp : ∀ P : Nat → Prop, (∀ w, P w → mk w = 0) → (sm (fun w => if P w then u w else 0) G.n + sm (fun i => (if P (G.a i) ∧ mk (G.b i) = 2 then c i else 0) + (if P (G.b i) ∧ mk (G.a i) = 2 then c i else 0)) G.m) % 2
      = (sm (fun w => if P w then u' w else 0) G.n + sm (fun i => (if P (G.a i) ∧ mk' (G.b i) = 2 then c' i else 0) + (if P (G.b i) ∧ mk' (G.a i) = 2 then c' i else 0)) G.m) % 2) : odd G c l u mk v ↔ odd G c' l' u' mk' v := by
  have e : Cn G c mk v = Cn G c' mk' v := funext fun w => propext (hC w)
  unfold odd
  rw [← e]
  have h := hp (Cn G c mk v) fun w hw => hw.r0
  constructor
  · rintro ⟨h1, h2⟩
    exact ⟨fun w hw k => (hlu w hw k).1 (h1 w hw k), h ▸ h2⟩
  · rintro ⟨h1, h2⟩
    exact ⟨fun w hw k => (hlu w hw k).2 (h1 w hw k), h.trans h2⟩
theorem odds_congr {G : Gr} {c c' l l' u u' : Nat → Int} {mk mk' : Nat → Nat} (hz : ∀ t, mk t = 0 ↔ mk' t = 0) (hc : ∀ i, i < G.m → mk (G.a i) = 0 → mk (G.b i) = 0 → c i = c' i) (hlu : ∀ w, w < G.n → mk w = 0 → (l w = u w ↔ l' w = u' w))
    (hp : ∀ P : Nat → Prop, (∀ w, P w → mk w = 0) → (sm (fun w => if P w then u w else 0) G.n + sm (fun i => (if P (G.a i) ∧ mk (G.b i) = 2 then c i else 0) + (if P (G.b i) ∧ mk (G.a i) = 2 then c i else 0)) G.m) % 2
      = (sm (fun w => if P w then u' w else 0) G.n + sm (fun i => (if P (G.a i) ∧ mk' (G.b i) = 2 then c' i else 0) + (if P (G.b i) ∧ mk' (G.a i) = 2 then c' i else 0)) G.m) % 2) : odds G c l u mk = odds G c' l' u' mk' := by
  have hC : ∀ v w, Cn G c mk v w ↔ Cn G c' mk' v w := fun v w => ⟨Cn.congr (fun t h => (hz t).1 h) fun i hi h1 h2 h3 => hc i hi h1 h2 ▸ h3, Cn.congr (fun t h => (hz t).2 h) fun i hi h1 h2 h3 => (hc i hi ((hz _).2 h1) ((hz _).2 h2)).symm ▸ h3⟩
  refine sm_congr fun v _ => ?_
  have h1 : lead G c mk v ↔ lead G c' mk' v := by
    unfold lead
    constructor
    · rintro ⟨h1, h2⟩; exact ⟨(hz v).1 h1, fun w hw => h2 w ((hC v w).2 hw)⟩
    · rintro ⟨h1, h2⟩; exact ⟨(hz v).2 h1, fun w hw => h2 w ((hC v w).1 hw)⟩
  have h2 : odd G c l u mk v ↔ odd G c' l' u' mk' v := odd_congr (hC v) (fun w hw k => hlu w hw k.r0) hp
  by_cases q : lead G c mk v ∧ odd G c l u mk v
  · rw [if_pos q, if_pos ⟨h1.1 q.1, h2.1 q.2⟩]
  · rw [if_neg q, if_neg fun h => q ⟨h1.2 h.1, h2.2 h.2⟩]
theorem rec1 {G : Gr} {c l u : Nat → Int} {mk : Nat → Nat} {v : Nat} (hv : v < G.n) (h : mk v = 1) : amt G c l u mk = u v + amt G (cut G v c) (out v l) (out v u) mk := by
  have h1 : drawn G l u mk = u v + drawn G (out v l) (out v u) mk := by
    unfold drawn
    rw [sm_split hv, sm_split (f := fun t => if mk t = 1 then out v u t else if mk t = 2 then - out v l t else 0) hv]
    rw [if_pos h, if_pos h]
    have : sm (fun i => if i = v then 0 else if mk i = 1 then u i else if mk i = 2 then - l i else 0) G.n = sm (fun i => if i = v then 0 else if mk i = 1 then out v u i else if mk i = 2 then - out v l i else 0) G.n := sm_congr fun i _ => by
      unfold out
      by_cases e : i = v
      · rw [if_pos e, if_pos e]
      · rw [if_neg e, if_neg e, if_neg e, if_neg e]
    rw [this]
    unfold out
    rw [if_pos rfl]
    omega
  have h2 : tied G c mk = tied G (cut G v c) mk := sm_congr fun i hi => by
    unfold cut at'
    by_cases e : G.a i = v ∨ G.b i = v
    · rw [if_pos e]
      rcases e with e | e
      · rw [e, if_neg (by omega), if_neg (by omega)]; simp
      · rw [e, if_neg (by omega), if_neg (by omega)]; simp
    · rw [if_neg e]
  have h3 : odds G c l u mk = odds G (cut G v c) (out v l) (out v u) mk := odds_congr (fun _ => Iff.rfl) (fun i _ k1 k2 => by
      unfold cut at'
      rw [if_neg]
      rintro (e | e)
      · rw [e] at k1; omega
      · rw [e] at k2; omega)
    (fun w _ k => by
      unfold out
      have : w ≠ v := fun e => by rw [e] at k; omega
      rw [if_neg this, if_neg this])
    (fun P hP => by
      have e1 : sm (fun w => if P w then u w else 0) G.n = sm (fun w => if P w then out v u w else 0) G.n := sm_congr fun w _ => by
        by_cases k : P w
        · have : w ≠ v := fun e => by have := hP w k; rw [e] at this; omega
          rw [if_pos k, if_pos k]; unfold out; rw [if_neg this]
        · rw [if_neg k, if_neg k]
      have e2 : sm (fun i => (if P (G.a i) ∧ mk (G.b i) = 2 then c i else 0) + (if P (G.b i) ∧ mk (G.a i) = 2 then c i else 0)) G.m = sm (fun i => (if P (G.a i) ∧ mk (G.b i) = 2 then cut G v c i else 0) + (if P (G.b i) ∧ mk (G.a i) = 2 then cut G v c i else 0)) G.m := sm_congr fun i _ => by
        unfold cut at'
        by_cases e : G.a i = v ∨ G.b i = v
        · rw [if_pos e]
          have nP : ¬ P v := fun k => by have := hP v k; omega
          rcases e with e | e
          · rw [e, if_neg (fun k => nP k.1), if_neg (fun k => by omega)]; simp
          · rw [e, if_neg (fun k => by omega), if_neg (show ¬ (P v ∧ mk (G.a i) = 2) from fun k => nP k.1)]; simp
        · rw [if_neg e]
      rw [e1, e2])
  unfold amt
  omega
def upd (mk : Nat → Nat) (v k : Nat) (t : Nat) : Nat := if t = v then k else mk t
theorem deg_cap {G : Gr} {c : Nat → Int} {v : Nat} : deg G c v = deg G (cap G v c) v := sm_congr fun i _ => by
  unfold cap at'
  by_cases e1 : G.a i = v <;> by_cases e2 : G.b i = v <;> simp [e1, e2]
theorem rec2 {G : Gr} {c l u : Nat → Int} {mk : Nat → Nat} {v : Nat} (hv : v < G.n) (h : mk v = 1) :
    amt G c l u (upd mk v 2) = deg G c v - l v + amt G (cut G v c) (out v (les l (deg G (cap G v c)))) (out v (les u (deg G (cap G v c)))) mk := by
  have uv : upd mk v 2 v = 2 := by unfold upd; rw [if_pos rfl]
  have un : ∀ t, t ≠ v → upd mk v 2 t = mk t := fun t ht => by unfold upd; rw [if_neg ht]
  have h1 : drawn G l u (upd mk v 2) = - l v + drawn G (out v (les l (deg G (cap G v c)))) (out v (les u (deg G (cap G v c)))) mk + sm (fun i => (if G.a i = v then 0 else sgm (mk (G.a i))) * cap G v c i + (if G.b i = v then 0 else sgm (mk (G.b i))) * cap G v c i) G.m := by
    rw [← deg_wt G (cap G v c) (fun t => if t = v then 0 else sgm (mk t))]
    unfold drawn
    rw [sm_split (f := fun t => if upd mk v 2 t = 1 then u t else if upd mk v 2 t = 2 then - l t else 0) hv, if_neg (by omega), if_pos uv]
    have : sm (fun i => if i = v then 0 else if upd mk v 2 i = 1 then u i else if upd mk v 2 i = 2 then - l i else 0) G.n
      = sm (fun t => (if mk t = 1 then (out v (les u (deg G (cap G v c)))) t else if mk t = 2 then - (out v (les l (deg G (cap G v c)))) t else 0) + (if t = v then 0 else sgm (mk t)) * deg G (cap G v c) t) G.n := sm_congr fun t _ => by
      unfold out les
      by_cases e : t = v
      · subst e; simp [h]
      · rw [if_neg e, un t e, if_neg e, if_neg e, if_neg e]
        unfold sgm
        by_cases k1 : mk t = 1
        · simp [k1]
        · by_cases k2 : mk t = 2
          · simp [k2]; omega
          · simp [k1, k2]
    rw [this, sm_add]
    omega
  have h2 : tied G c (upd mk v 2) + sm (fun i => (if G.a i = v then 0 else sgm (mk (G.a i))) * cap G v c i + (if G.b i = v then 0 else sgm (mk (G.b i))) * cap G v c i) G.m = tied G (cut G v c) mk + deg G (cap G v c) v := by
    unfold tied deg
    rw [← sm_add, ← sm_add]
    refine sm_congr fun i hi => ?_
    have ne := G.hab i hi
    unfold cut cap at'
    by_cases e1 : G.a i = v
    · have e2 : ¬ G.b i = v := fun k => ne (e1.trans k.symm)
      simp only [e1, uv, un _ e2, true_or, if_true, if_pos, if_neg e2]
      unfold sgm
      by_cases k1 : mk (G.b i) = 1
      · simp [k1]
      · by_cases k2 : mk (G.b i) = 2
        · simp [k2]; omega
        · simp [k1, k2]
    · by_cases e2 : G.b i = v
      · simp only [e2, uv, un _ e1, or_true, if_true, if_pos, if_neg e1]
        unfold sgm
        by_cases k1 : mk (G.a i) = 1
        · simp [k1]
        · by_cases k2 : mk (G.a i) = 2
          · simp [k2]; omega
          · simp [k1, k2]
      · simp [un _ e1, un _ e2, e1, e2]
  have h3 : odds G c l u (upd mk v 2) = odds G (cut G v c) (out v (les l (deg G (cap G v c)))) (out v (les u (deg G (cap G v c)))) mk := odds_congr (fun t => by
      by_cases e : t = v
      · subst e; rw [uv, h]; omega
      · rw [un t e]) (fun i _ k1 k2 => by
      unfold cut at'
      rw [if_neg]
      rintro (e | e)
      · rw [e, uv] at k1; omega
      · rw [e, uv] at k2; omega)
    (fun w _ k => by
      unfold out les
      have : w ≠ v := fun e => by rw [e, uv] at k; omega
      rw [if_neg this, if_neg this]
      omega)
    (fun P hP => by
      have nv : ∀ w, P w → w ≠ v := fun w k e => by have := hP w k; rw [e, uv] at this; omega
      have nP : ¬ P v := fun k => nv v k rfl
      have e1 : sm (fun w => if P w then u w else 0) G.n = sm (fun w => if P w then (out v (les u (deg G (cap G v c)))) w else 0) G.n + sm (fun w => if P w then deg G (cap G v c) w else 0) G.n := by
        rw [← sm_add]
        refine sm_congr fun w _ => ?_
        by_cases k : P w
        · rw [if_pos k, if_pos k, if_pos k]; unfold out les; rw [if_neg (nv w k)]; omega
        · rw [if_neg k, if_neg k, if_neg k]; rfl
      have e2 : sm (fun i => (if P (G.a i) ∧ upd mk v 2 (G.b i) = 2 then c i else 0) + (if P (G.b i) ∧ upd mk v 2 (G.a i) = 2 then c i else 0)) G.m
        = sm (fun i => (if P (G.a i) ∧ mk (G.b i) = 2 then cut G v c i else 0) + (if P (G.b i) ∧ mk (G.a i) = 2 then cut G v c i else 0)) G.m + sm (fun i => (if P (G.a i) then cap G v c i else 0) + (if P (G.b i) then cap G v c i else 0)) G.m := by
        rw [← sm_add]
        refine sm_congr fun i hi => ?_
        have ne := G.hab i hi
        unfold cut cap at'
        by_cases k1 : G.a i = v
        · have k2 : ¬ G.b i = v := fun k => ne (k1.trans k.symm)
          simp only [k1, uv, un _ k2, nP, true_or, if_true, false_and, if_false]
          by_cases k3 : P (G.b i) <;> simp [k3]
        · by_cases k2 : G.b i = v
          · simp only [k2, uv, un _ k1, nP, or_true, if_true, false_and, if_false]
            by_cases k3 : P (G.a i) <;> simp [k3]
          · simp [un _ k1, un _ k2, k1, k2]
      rw [e1, e2, deg_in]
      omega)
  unfold amt
  rw [deg_cap (G := G) (c := c) (v := v)]
  omega
theorem cut_cho {G : Gr} {c z : Nat → Int} {v : Nat} (hc : ∀ i, i < G.m → 0 ≤ c i) (h : Cho G (cut G v c) z) : Cho G c z ∧ deg G z v = 0 ∧ Cho G c (fun i => z i + cap G v c i) ∧ (∀ t, deg G (fun i => z i + cap G v c i) t = deg G z t + deg G (cap G v c) t) := by
  refine ⟨fun i hi => ?_, ?_, fun i hi => ?_, fun t => ?_⟩
  · have := h i hi
    have := hc i hi
    unfold cut at *
    split at * <;> omega
  · refine sm_zero fun i hi => ?_
    have k := h i hi
    unfold cut at' at k
    by_cases e1 : G.a i = v
    · rw [if_pos (.inl e1)] at k
      rw [show z i = 0 by omega]; simp
    · by_cases e2 : G.b i = v
      · rw [if_pos (.inr e2)] at k
        rw [show z i = 0 by omega]; simp
      · rw [if_neg e1, if_neg e2]; rfl
  · have := h i hi
    have := hc i hi
    show 0 ≤ z i + cap G v c i ∧ z i + cap G v c i ≤ c i
    unfold cut cap at *
    split at * <;> omega
  · unfold deg
    rw [← sm_add]
    refine sm_congr fun i _ => ?_
    show (if G.a i = t then z i + cap G v c i else 0) + (if G.b i = t then z i + cap G v c i else 0) = _
    split <;> split <;> omega
/-- SOME LOTS OVERDRAW ALL THAT IS MISSED -/
theorem strong {G : Gr} : ∀ (N : Nat) (c l u : Nat → Int) (S : Nat → Prop), (∀ i, i < G.m → 0 ≤ c i) → (∀ t, t < G.n → l t ≤ u t) → (∀ t, t < G.n → S t → l t = 0 ∧ u t = 0) → (∀ i, i < G.m → S (G.a i) ∨ S (G.b i) → c i = 0) →
    sm (fun t => if S t then 0 else 1) G.n ≤ N → ∃ x mk, Opt G c l u x ∧ (∀ t, mk t < 3) ∧ (∀ t, S t → mk t = 1) ∧ miss G l u x ≤ - amt G c l u mk := by
  intro N
  induction N with
  | zero =>
    intro c l u S hc hlu hS hcS hN
    obtain ⟨x, hx⟩ := opt_ex (l := l) (u := u) hc
    have sn : ∀ t, t < G.n → 0 ≤ (if S t then (0 : Int) else 1) := fun t _ => by split <;> omega
    have all : ∀ t, t < G.n → S t := fun t ht => by
      false_or_by_contra
      rename_i k
      have := sm_at (f := fun t => if S t then (0 : Int) else 1) ht sn
      simp only [if_neg k] at this
      omega
    refine ⟨x, fun _ => 1, hx, fun _ => (by decide : 1 < 3), fun _ _ => rfl, base hlu (fun v hv => ?_) hx (fun _ => .inr rfl) (fun t ht _ => hS t ht (all t ht)) (fun i hi _ => hcS i hi (.inl (all _ (G.ha i hi))))⟩
    have z : ∀ y, Opt G c l u y → deg G y v = 0 := fun y hy => sm_zero fun i hi => by
      have := hy.1 i hi
      have := hcS i hi (.inl (all _ (G.ha i hi)))
      rw [show y i = 0 by omega]; simp
    obtain ⟨l0, u0⟩ := hS v hv (all v hv)
    constructor
    · rintro ⟨y, hy, h⟩; rw [z y hy] at h; omega
    · rintro ⟨y, hy, h⟩; rw [z y hy] at h; omega
  | succ N ih =>
    intro c l u S hc hlu hS hcS hN
    obtain ⟨x, hx⟩ := opt_ex (l := l) (u := u) hc
    have S0 : ∀ v, S v → v < G.n → ∀ y, Cho G c y → deg G y v = 0 := fun v sv _ y hy => sm_zero fun i hi => by
      have h1 := hy i hi
      by_cases e1 : G.a i = v
      · have := hcS i hi (.inl (e1 ▸ sv))
        rw [show y i = 0 by omega]; simp
      · by_cases e2 : G.b i = v
        · have := hcS i hi (.inr (e2 ▸ sv))
          rw [show y i = 0 by omega]; simp
        · rw [if_neg e1, if_neg e2]; rfl
    by_cases hD : ∀ v, v < G.n → ((∃ x, Opt G c l u x ∧ deg G x v < l v) ↔ (∃ x, Opt G c l u x ∧ u v < deg G x v))
    · refine ⟨x, fun t => if S t then 1 else 0, hx, fun t => by show (if S t then 1 else 0) < 3; split <;> omega, fun t ht => by show (if S t then 1 else 0) = 1; rw [if_pos ht], base hlu hD hx (fun t => ?_) (fun t ht k => ?_) (fun i hi k => ?_)⟩
      · show (if S t then 1 else 0) = 0 ∨ (if S t then 1 else 0) = 1
        split <;> simp
      · refine hS t ht ?_
        replace k : (if S t then 1 else 0) = 1 := k
        by_cases q : S t
        · exact q
        · rw [if_neg q] at k; omega
      · refine hcS i hi ?_
        replace k : (if S (G.a i) then 1 else 0) = 1 ∨ (if S (G.b i) then 1 else 0) = 1 := k
        by_cases q1 : S (G.a i)
        · exact .inl q1
        · by_cases q2 : S (G.b i)
          · exact .inr q2
          · rw [if_neg q1, if_neg q2] at k; omega
    · obtain ⟨v, hv, nD⟩ : ∃ v, v < G.n ∧ ¬ ((∃ x, Opt G c l u x ∧ deg G x v < l v) ↔ (∃ x, Opt G c l u x ∧ u v < deg G x v)) := by
        false_or_by_contra
        rename_i k
        refine hD fun v hv => ?_
        false_or_by_contra
        rename_i k2
        exact k ⟨v, hv, k2⟩
      have sv : ¬ S v := fun sv => nD (by
        obtain ⟨l0, u0⟩ := hS v hv sv
        constructor
        · rintro ⟨y, hy, h⟩; rw [S0 v sv hv y hy.1] at h; omega
        · rintro ⟨y, hy, h⟩; rw [S0 v sv hv y hy.1] at h; omega)
      obtain ⟨S', hS'⟩ : ∃ S' : Nat → Prop, ∀ t, S' t ↔ (S t ∨ t = v) := ⟨fun t => S t ∨ t = v, fun _ => Iff.rfl⟩
      have cnt : sm (fun t => if S' t then 0 else 1) G.n ≤ N := by
        have e : sm (fun t => if S t then (0 : Int) else 1) G.n = sm (fun t => (if S' t then 0 else 1) + (if t = v then 1 else 0)) G.n := sm_congr fun t _ => by
          have hs := hS' t
          by_cases k1 : t = v
          · subst k1; simp [sv, hs]
          · simp [k1, hs]
        rw [sm_add, sm_pt, if_pos hv] at e
        omega
      have cut0 : ∀ i, i < G.m → 0 ≤ cut G v c i := fun i hi => by have := hc i hi; unfold cut; split <;> omega
      have cutS : ∀ i, i < G.m → S' (G.a i) ∨ S' (G.b i) → cut G v c i = 0 := fun i hi k => by
        rw [hS', hS'] at k
        unfold cut at'
        by_cases q : G.a i = v ∨ G.b i = v
        · rw [if_pos q]
        · rw [if_neg q]
          refine hcS i hi ?_
          rcases k with (k | k) | (k | k)
          · exact .inl k
          · exact absurd (.inl k) q
          · exact .inr k
          · exact absurd (.inr k) q
      by_cases hL : ∃ x, Opt G c l u x ∧ deg G x v < l v
      · have nU : ∀ x, Opt G c l u x → deg G x v ≤ u v := fun x hx => by
          false_or_by_contra
          exact nD ⟨fun _ => ⟨x, hx, by omega⟩, fun _ => hL⟩
        obtain ⟨y, hy, hyv⟩ := hL
        obtain ⟨z, mk, hz, hm, hmS, hle⟩ := ih (cut G v c) (out v (les l (deg G (cap G v c)))) (out v (les u (deg G (cap G v c)))) S' cut0
          (fun t ht => by have := hlu t ht; unfold out les; split <;> omega)
          (fun t ht k => by
            unfold out les
            by_cases e : t = v
            · rw [if_pos e, if_pos e]; exact ⟨rfl, rfl⟩
            · rw [if_neg e, if_neg e]
              have st : S t := ((hS' t).1 k).resolve_right e
              obtain ⟨l0, u0⟩ := hS t ht st
              have : deg G (cap G v c) t = 0 := S0 t st ht _ fun i hi => by
                have := hc i hi
                unfold cap; split <;> omega
              omega)
          cutS cnt
        have mv := hmS v ((hS' v).2 (.inr rfl))
        obtain ⟨_, z0, hz2, dz2⟩ := cut_cho (v := v) hc hz.1
        have nh := never_high hlu hv hy hyv nU _ hz2
        have mz : miss G (out v (les l (deg G (cap G v c)))) (out v (les u (deg G (cap G v c)))) z = rr G l u v (fun i => z i + cap G v c i) := sm_congr fun t _ => by
          show phi (out v (les l (deg G (cap G v c))) t) (out v (les u (deg G (cap G v c))) t) (deg G z t) = if t = v then 0 else phi (l t) (u t) (deg G (fun i => z i + cap G v c i) t)
          unfold out les
          by_cases e : t = v
          · subst e; rw [if_pos rfl, if_pos rfl, if_pos rfl, z0]; rfl
          · rw [if_neg e, if_neg e, if_neg e, dz2]; unfold phi; omega
        refine ⟨y, upd mk v 2, hy, fun t => ?_, fun t ht => ?_, ?_⟩
        · unfold upd; split
          · omega
          · exact hm t
        · unfold upd
          rw [if_neg (show t ≠ v from fun e => sv (e ▸ ht))]
          exact hmS t ((hS' t).2 (.inl ht))
        · have r := rec2 (c := c) (l := l) (u := u) hv mv
          have d := dz2 v
          rw [z0] at d
          rw [← deg_cap] at d
          omega
      · have nL : ∀ x, Opt G c l u x → l v ≤ deg G x v := fun x hx => by
          false_or_by_contra
          exact hL ⟨x, hx, by omega⟩
        obtain ⟨y, hy, hyv⟩ : ∃ x, Opt G c l u x ∧ u v < deg G x v := by
          false_or_by_contra
          rename_i k
          exact nD ⟨fun h => absurd h hL, fun h => absurd h k⟩
        obtain ⟨z, mk, hz, hm, hmS, hle⟩ := ih (cut G v c) (out v l) (out v u) S' cut0
          (fun t ht => by have := hlu t ht; unfold out; split <;> omega)
          (fun t ht k => by
            unfold out
            by_cases e : t = v
            · rw [if_pos e, if_pos e]; exact ⟨rfl, rfl⟩
            · rw [if_neg e, if_neg e]; exact hS t ht (((hS' t).1 k).resolve_right e))
          cutS cnt
        have mv := hmS v ((hS' v).2 (.inr rfl))
        obtain ⟨hz1, z0, _, _⟩ := cut_cho (v := v) hc hz.1
        have nl := never_low hlu hv hy hyv nL _ z hz1 (Int.self_le_toNat _)
        have mz : miss G (out v l) (out v u) z = rr G l u v z := sm_congr fun t _ => by
          show phi (out v l t) (out v u t) (deg G z t) = if t = v then 0 else phi (l t) (u t) (deg G z t)
          unfold out
          by_cases e : t = v
          · subst e; rw [if_pos rfl, if_pos rfl, if_pos rfl, z0]; rfl
          · rw [if_neg e, if_neg e, if_neg e]
        refine ⟨y, mk, hy, hm, fun t ht => hmS t ((hS' t).2 (.inl ht)), ?_⟩
        have r := rec1 (c := c) (l := l) (u := u) hv mv
        omega
/-- THE LAW OF THE LEAST MISS -/
theorem minmax {G : Gr} {c l u : Nat → Int} (hc : ∀ i, i < G.m → 0 ≤ c i) (hlu : ∀ t, t < G.n → l t ≤ u t) : ∃ x mk, Cho G c x ∧ (∀ t, mk t < 3) ∧ miss G l u x = - amt G c l u mk ∧ (∀ y, Cho G c y → miss G l u x ≤ miss G l u y) ∧ (∀ mk', (∀ t, mk' t < 3) → amt G c l u mk ≤ amt G c l u mk') := by
  obtain ⟨x, mk, hx, hm, _, h⟩ := strong (G := G) _ c l u (fun _ => False) hc hlu (fun _ _ h => h.elim) (fun _ _ h => h.elim False.elim False.elim) (Int.self_le_toNat _)
  have w := weak (l := l) (u := u) hx.1 hm
  refine ⟨x, mk, hx.1, hm, by omega, hx.2, fun mk' hm' => ?_⟩
  have := weak (l := l) (u := u) hx.1 hm'
  omega
end LV

set_option linter.all false
set_option maxRecDepth 100000
/-! PW: more loops; webs as data and as ties -/
namespace DL
open PySem L2
variable {ρ : Rho} {μ μ1 : Store} {α β : Type}
theorem seq_nx {f g : SF} {ρ' : Rho} {μ' : Store} (h : f ρ μ = .nx ρ' μ') : sSeq f g ρ μ = g ρ' μ' := by rw [sSeq_eq, h]; rfl
theorem seq_rt {f g : SF} {s : Sl} {μ' : Store} (h : f ρ μ = .rt s μ') : sSeq f g ρ μ = .rt s μ' := by rw [sSeq_eq, h]; rfl
theorem fn_rt {nl : Nat} {body : SF} {ds : List D} {s : Sl} {μ : Store} {d : D} (h : body (rho0 nl (ds.map Sl.d)) [] = .rt s μ) (e : dr μ s = some d) : fnPx nl body ds = .ok d := by
  unfold fnPx; rw [h]; simp only [e]
theorem fn_nx {nl : Nat} {body : SF} {ds : List D} {ρ : Rho} {μ : Store} (h : body (rho0 nl (ds.map Sl.d)) [] = .nx ρ μ) : fnPx nl body ds = .ok .non := by
  unfold fnPx; rw [h]
theorem fn_ex {nl : Nat} {body : SF} {ds : List D} {ρ : Rho} {μ : Store} {x : Exn} (h : body (rho0 nl (ds.map Sl.d)) [] = .ex x ρ μ) : fnPx nl body ds = .ex x := by
  unfold fnPx; rw [h]
@[simp] theorem rbind_ex (x : Exn) (g : α → Store → Res β) : (Res.ex x μ : Res α).bind g = .ex x μ := rfl
@[simp] theorem rout_ex (x : Exn) (g : α → Store → Out) : (Res.ex x μ : Res α).toOut ρ g = .ex x ρ μ := rfl
@[simp] theorem then_ex (x : Exn) (g : SF) : (Out.ex x ρ μ).then g = .ex x ρ μ := rfl
@[simp] theorem res_ex (x : Exn) : (PR.ex x).res μ = .ex x μ := rfl
@[simp] theorem sRaise_eq (x : Str) : sRaise x ρ μ = .ex ⟨x, none⟩ ρ μ := rfl
@[simp] theorem leI_i (i j : Int) : leI (.int i) (.int j) = some (.bl (decide (i ≤ j))) := rfl
theorem for_nx {src : LF} {g : GF} {body : SF} {ds : List D} {ρ' : Rho} {μ' : Store} (h : src ρ μ = .ok ds μ1) (k : forL g body ds ρ μ1 = .nx ρ' μ') : sFor src g body ρ μ = .nx ρ' μ' := by rw [sFor_eq, h]; exact k
/-- a loop with a state that may change the store -/
theorem for_foldM {γ σ : Type} {g : GF} {body : SF} (enc : γ → D) (R : σ → Rho → Store → Prop) (f : σ → γ → σ) : ∀ (xs : List γ) (b : σ) (ρ : Rho) (μ : Store), (∀ x, x ∈ xs → ∀ b ρ μ, R b ρ μ → ∃ ρ1 ρ2 μ2, g (.d (enc x)) ρ = some ρ1 ∧ body ρ1 μ = .nx ρ2 μ2 ∧ R (f b x) ρ2 μ2) → R b ρ μ →
    ∃ ρ' μ', forL g body (xs.map enc) ρ μ = .nx ρ' μ' ∧ R (xs.foldl f b) ρ' μ'
  | [], b, ρ, μ, _, h => ⟨ρ, μ, rfl, h⟩
  | x :: xs, b, ρ, μ, st, h => by
    obtain ⟨ρ1, ρ2, μ2, h1, h2, h3⟩ := st x (List.mem_cons_self ..) b ρ μ h
    obtain ⟨ρ', μ', h4, h5⟩ := for_foldM enc R f xs _ ρ2 μ2 (fun y hy => st y (List.mem_cons_of_mem _ hy)) h3
    refine ⟨ρ', μ', ?_, h5⟩
    simp only [List.map_cons, forL, h1, h2, h4]
/-- a loop that counts -/
theorem for_idx {γ : Type} {g : GF} {body : SF} (enc : γ → D) (R : Nat → Rho → Store → Prop) : ∀ (xs : List γ) (k : Nat) (ρ : Rho) (μ : Store), (∀ i x, xs[i]? = some x → ∀ ρ μ, R (k + i) ρ μ → ∃ ρ1 ρ2 μ2, g (.d (enc x)) ρ = some ρ1 ∧ body ρ1 μ = .nx ρ2 μ2 ∧ R (k + i + 1) ρ2 μ2) → R k ρ μ →
    ∃ ρ' μ', forL g body (xs.map enc) ρ μ = .nx ρ' μ' ∧ R (k + xs.length) ρ' μ'
  | [], k, ρ, μ, _, h => ⟨ρ, μ, rfl, h⟩
  | x :: xs, k, ρ, μ, st, h => by
    obtain ⟨ρ1, ρ2, μ2, h1, h2, h3⟩ := st 0 x rfl ρ μ h
    obtain ⟨ρ', μ', h4, h5⟩ := for_idx enc R xs (k + 1) ρ2 μ2 (fun i y hy ρ μ hR => by
      have := st (i + 1) y hy ρ μ
      rw [show k + (i + 1) = k + 1 + i by omega] at this
      exact this hR) h3
    refine ⟨ρ', μ', ?_, ?_⟩
    · simp only [List.map_cons, forL, h1, h2, h4]
    · rw [List.length_cons, show k + (xs.length + 1) = k + 1 + xs.length by omega]; exact h5
theorem zipD_map {γ δ : Type} (f : γ → D) (g : δ → D) : ∀ (xs : List γ) (ys : List δ), zipD (xs.map f) (ys.map g) = (xs.zip ys).map fun q => .tup [f q.1, g q.2]
  | [], _ => by simp [zipD]
  | _ :: _, [] => by simp [zipD]
  | x :: xs, y :: ys => by
    have := zipD_map f g xs ys
    unfold zipD at this ⊢
    simp [this]
/-- while -/
theorem wh_run {σ : Type} {c : BF} {body : SF} (R : σ → Rho → Store → Prop) (ms : σ → Nat) (Dn : σ → Prop)
    (step : ∀ s ρ μ, R s ρ μ → (c ρ μ = .ok false μ ∧ Dn s) ∨ (c ρ μ = .ok true μ ∧ ∃ s' ρ' μ', body ρ μ = .nx ρ' μ' ∧ R s' ρ' μ' ∧ ms s' < ms s)) : ∀ (n : Nat) (s : σ) (ρ : Rho) (μ : Store), ms s < n → R s ρ μ →
    ∃ s' ρ' μ', whL c body n ρ μ = .nx ρ' μ' ∧ R s' ρ' μ' ∧ Dn s'
  | 0, s, ρ, μ, h, _ => by omega
  | n + 1, s, ρ, μ, h, r => by
    rcases step s ρ μ r with ⟨h1, h2⟩ | ⟨h1, s', ρ', μ', h2, h3, h4⟩
    · exact ⟨s, ρ, μ, by simp [whL, h1], r, h2⟩
    · obtain ⟨s2, ρ2, μ2, k1, k2, k3⟩ := wh_run R ms Dn step n s' ρ' μ' (by omega) h3
      exact ⟨s2, ρ2, μ2, by simp [whL, h1, h2, k1], k2, k3⟩
@[simp] theorem inD_2 (a x y : Int) : inD (.int a) (.tup [.int x, .int y]) = some (.bl (decide (a = x ∨ a = y))) := by
  have := memD_t a [x, y]
  unfold inD
  rw [show [D.int x, D.int y] = [x, y].map D.int from rfl, this]
  simp
@[simp] theorem ninD_2 (a x y : Int) : ninD (.int a) (.tup [.int x, .int y]) = some (.bl (!decide (a = x ∨ a = y))) := by
  have := memD_t a [x, y]
  unfold ninD
  rw [show [D.int x, D.int y] = [x, y].map D.int from rfl, this]
  simp
@[simp] theorem cast_0 (k : Nat) : ((k : Int) = 0) ↔ k = 0 := by omega
@[simp] theorem cast_1 (k : Nat) : ((k : Int) = 1) ↔ k = 1 := by omega
@[simp] theorem cast_2 (k : Nat) : ((k : Int) = 2) ↔ k = 2 := by omega
/-- whole numbers from 0 on -/
def nD (k : Nat) : D := .int (k : Nat)
@[simp] theorem nD_eq (k : Nat) : nD k = .int (k : Nat) := rfl
theorem rngN (n : Nat) : rngL 0 n = (List.range n).map nD := rngL0 n
theorem rngR_n {n : Nat} (h : n ≤ 1000000) : rngR (n : Int) μ = .ok ((List.range n).map nD) μ := by
  unfold rngR
  rw [if_pos (by omega), Int.toNat_natCast, rngN]
theorem nD_map (ns : List Nat) : ns.map nD = (ns.map fun k : Nat => (k : Int)).map D.int := by rw [List.map_map]; rfl
theorem mem_cast (a : Nat) (ns : List Nat) : ((a : Int) ∈ ns.map fun k : Nat => (k : Int)) ↔ a ∈ ns := by
  rw [List.mem_map]
  constructor
  · rintro ⟨b, h, e⟩
    have : b = a := by omega
    exact this ▸ h
  · exact fun h => ⟨a, h, rfl⟩
@[simp] theorem inD_tn (a : Nat) (ns : List Nat) : inD (.int (a : Nat)) (.tup (ns.map nD)) = some (.bl (decide (a ∈ ns))) := by
  unfold inD; rw [nD_map, memD_t]; simp only [mem_cast, Option.map_some]
@[simp] theorem ninD_tn (a : Nat) (ns : List Nat) : ninD (.int (a : Nat)) (.tup (ns.map nD)) = some (.bl (!decide (a ∈ ns))) := by
  unfold ninD; rw [nD_map, memD_t]; simp only [mem_cast, Option.map_some]
@[simp] theorem inD_ln (a : Nat) (ns : List Nat) : inD (.int (a : Nat)) (.lst (ns.map nD)) = some (.bl (decide (a ∈ ns))) := by
  unfold inD; rw [nD_map, memD_l]; simp only [mem_cast, Option.map_some]
@[simp] theorem ninD_ln (a : Nat) (ns : List Nat) : ninD (.int (a : Nat)) (.lst (ns.map nD)) = some (.bl (!decide (a ∈ ns))) := by
  unfold ninD; rw [nD_map, memD_l]; simp only [mem_cast, Option.map_some]
end DL
namespace Bt
open PySem DL LV
abbrev Pl := Int × Int
abbrev Tl := Nat × Nat × Int
def eP (p : Pl) : D := .tup [.int p.1, .int p.2]
def eT (t : Tl) : D := .tup [.int (t.1 : Nat), .int (t.2.1 : Nat), .int t.2.2]
def ePs (P : List Pl) : D := .tup (P.map eP)
def eTs (T : List Tl) : D := .tup (T.map eT)
def eM (m : List Nat) : D := .tup (m.map nD)
/-- ties that lie right -/
def TOk (n : Nat) (T : List Tl) : Prop := ∀ t, t ∈ T → t.1 < t.2.1 ∧ t.2.1 < n ∧ 0 < t.2.2
def t0 : Tl := (0, 1, 0)
theorem getD_mem {α : Type} {xs : List α} {i : Nat} {d : α} (h : i < xs.length) : xs.getD i d ∈ xs := by
  rw [List.getD_eq_getElem?_getD, List.getElem?_eq_getElem h]; exact List.getElem_mem h
theorem mem_getD {α : Type} {xs : List α} {x d : α} (h : x ∈ xs) : ∃ i, i < xs.length ∧ xs.getD i d = x := by
  obtain ⟨i, h1, h2⟩ := List.getElem_of_mem h
  exact ⟨i, h1, by rw [List.getD_eq_getElem?_getD, List.getElem?_eq_getElem h1]; exact h2⟩
def gr (n : Nat) (T : List Tl) (h : TOk n T) : Gr where
  n := n
  m := T.length
  a i := (T.getD i t0).1
  b i := (T.getD i t0).2.1
  ha i hi := by have := h _ (getD_mem (d := t0) hi); omega
  hb i hi := by have := h _ (getD_mem (d := t0) hi); omega
  hab i hi := by have := h _ (getD_mem (d := t0) hi); omega
def cf (T : List Tl) (i : Nat) : Int := (T.getD i t0).2.2
def lof (P : List Pl) (i : Nat) : Int := (P.getD i (0, 0)).1
def upf (P : List Pl) (i : Nat) : Int := (P.getD i (0, 0)).2
def mf (m : List Nat) (i : Nat) : Nat := m.getD i 0
/-- sums over lists -/
theorem sm_shift (f : Nat → Int) : ∀ n : Nat, sm f (n + 1) = f 0 + sm (fun i => f (i + 1)) n
  | 0 => by simp [sm]
  | n + 1 => by
    rw [show sm f (n + 1 + 1) = sm f (n + 1) + f (n + 1) from rfl, sm_shift f n]
    show _ = f 0 + (sm (fun i => f (i + 1)) n + f (n + 1))
    omega
theorem sum_sm {α : Type} (d : α) (f : α → Int) : ∀ xs : List α, (xs.map f).sum = sm (fun i => f (xs.getD i d)) xs.length
  | [] => rfl
  | x :: xs => by
    rw [List.map_cons, List.sum_cons, sum_sm d f xs, List.length_cons, sm_shift]
    rfl
theorem foldl_sum {α : Type} (f : α → Int) (xs : List α) (a : Int) : xs.foldl (fun acc x => acc + f x) a = a + (xs.map f).sum := by
  induction xs generalizing a with
  | nil => simp
  | cons x xs ih => rw [List.foldl_cons, ih, List.map_cons, List.sum_cons]; omega
theorem sum_range (f : Nat → Int) (n : Nat) : ((List.range n).map f).sum = sm f n := by
  induction n with
  | zero => rfl
  | succ n ih => rw [List.range_succ, List.map_append, List.sum_append, ih]; simp [sm]
end Bt

set_option linter.all false
set_option maxRecDepth 100000
set_option maxHeartbeats 1000000
/-! QD: rules for plain functions, gathered -/
namespace DL
open PySem L2
section
section
variable {ρ : Rho} {μ : Store}
@[simp] theorem dr_ob (n : Nat) : dr μ (.ob n) = match μ[n]? with
  | some (.lst ds) => some (.lst ds)
  | _ => none := rfl
@[simp] theorem eApp_eq (fo fe : EF) : eApp fo fe ρ μ = (fo ρ μ).bind fun o μ1 => match o with
  | .ob n => match μ1[n]? with
    | some (.lst _) => (fe ρ μ1).bind fun e μ2 => match e, μ2[n]? with
      | .d x, some (.lst ds) => if ds.length < 16777216 then .ok (.d .non) (μ2.set n (.lst (ds ++ [x]))) else .no
      | _, _ => .no
    | _ => .no
  | _ => .no := rfl
end
section
theorem lc2_map {γ δ : Type} {vs vs1 : List Nat} {g g1 : GF} {src1 : LF} {e : EF} {ρ : Rho} {μ : Store} (enc : γ → D) (enc1 : δ → D) (ys : γ → List δ) (f : γ → δ → D) : ∀ (xs : List γ), (∀ x, x ∈ xs → ∃ ρ1, g (.d (enc x)) (wipeR ρ vs) = some ρ1 ∧ src1 ρ1 μ = .ok ((ys x).map enc1) μ ∧ ∀ y, y ∈ ys x → ∃ ρ2, g1 (.d (enc1 y)) (wipeR ρ1 vs1) = some ρ2 ∧ e ρ2 μ = .ok (.d (f x y)) μ) →
    lc2L vs vs1 g bYes src1 g1 bYes e ρ (xs.map enc) μ = .ok (xs.flatMap fun x => (ys x).map (f x)) μ
  | [], _ => rfl
  | x :: xs, st => by
    obtain ⟨ρ1, h1, h2, h3⟩ := st x (List.mem_cons_self ..)
    have ih := lc2_map (vs := vs) (vs1 := vs1) (g := g) (g1 := g1) (src1 := src1) (e := e) (ρ := ρ) (μ := μ) enc enc1 ys f xs fun y hy => st y (List.mem_cons_of_mem _ hy)
    have h4 := lc_map (vs := vs1) (g := g1) (e := e) (ρ := ρ1) (μ := μ) enc1 (f x) (ys x) h3
    simp only [List.map_cons, lc2L, h1, bYes_eq, h2, h4, ih, List.flatMap_cons]
@[simp] theorem lLc2_eq {ρ : Rho} {μ : Store} (vs vs1 : List Nat) (src : LF) (g : GF) (t : BF) (src1 : LF) (g1 : GF) (t1 : BF) (e : EF) : lLc2 vs vs1 src g t src1 g1 t1 e ρ μ = (src ρ μ).bind fun ds μ1 => lCap (lc2L vs vs1 g t src1 g1 t1 e ρ ds μ1) := rfl
theorem anyD_map (bs : List Bool) : anyD [.lst (bs.map D.bl)] = some (.bl (bs.any id)) := by haveI : TabCtx := ⟨[]⟩; simp [anyD, blsOf_map]
theorem allD_map (bs : List Bool) : allD [.lst (bs.map D.bl)] = some (.bl (bs.all id)) := by haveI : TabCtx := ⟨[]⟩; simp [allD, blsOf_map]
end
section
theorem cutD_to {ds : List D} {k : Nat} : cutD ds none (some (k : Int)) = ds.take k := by
  unfold cutD
  rw [HT.sIx_none, HT.sIx_nat, List.drop_zero, Nat.sub_zero, List.take_eq_take_min]
  simp
theorem cutD_from {ds : List D} {k : Nat} : cutD ds (some (k : Int)) none = ds.drop k := by
  unfold cutD
  rw [HT.sIx_none, HT.sIx_nat]
  by_cases h : k ≤ ds.length
  · rw [Nat.min_eq_left h, List.take_of_length_le (by simp)]
  · rw [Nat.min_eq_right (by omega)]; simp; omega
@[simp] theorem cutD_2 (a b c : D) : cutD [a, b, c] none (some 2) = [a, b] := cutD_to (k := 2)
end
section
theorem shaped_n (L : List Nat) : (D.lst (L.map nD)).shaped = true := by rw [nD_map]; exact shaped_ints _
theorem neD_nil (L : List Nat) : neD (.lst (L.map nD)) (.lst []) = some (.bl (decide (L ≠ []))) := by
  unfold neD
  rw [if_pos ⟨shaped_n L, rfl⟩]
  cases L with
  | nil => rfl
  | cons x L => rfl
def insertN (x : Nat) : List Nat → List Nat
  | [] => [x]
  | y :: r => if x ≤ y then x :: y :: r else y :: insertN x r
def sortN : List Nat → List Nat
  | [] => []
  | x :: r => insertN x (sortN r)
theorem insertN_map (x : Nat) : ∀ ns : List Nat, insertI (x : Int) (ns.map fun k : Nat => (k : Int)) = (insertN x ns).map fun k : Nat => (k : Int)
  | [] => rfl
  | y :: r => by
    simp only [List.map_cons, insertI, insertN]
    by_cases h : x ≤ y
    · rw [if_pos (by omega), if_pos h]; rfl
    · rw [if_neg (by omega), if_neg h, insertN_map x r]; rfl
theorem sortN_map : ∀ ns : List Nat, sortI (ns.map fun k : Nat => (k : Int)) = (sortN ns).map fun k : Nat => (k : Int)
  | [] => rfl
  | x :: r => by simp only [List.map_cons, sortI, sortN]; rw [sortN_map r, insertN_map]
theorem insertN_mem {x w : Nat} : ∀ {ns : List Nat}, w ∈ insertN x ns ↔ w = x ∨ w ∈ ns
  | [] => by simp [insertN]
  | y :: r => by
    unfold insertN
    split
    · simp
    · rw [List.mem_cons, insertN_mem, List.mem_cons]
      constructor
      · rintro (h | h | h)
        · exact .inr (.inl h)
        · exact .inl h
        · exact .inr (.inr h)
      · rintro (h | h | h)
        · exact .inr (.inl h)
        · exact .inl h
        · exact .inr (.inr h)
theorem sortN_mem {w : Nat} : ∀ {ns : List Nat}, w ∈ sortN ns ↔ w ∈ ns
  | [] => by simp [sortN]
  | x :: r => by rw [sortN, insertN_mem, sortN_mem, List.mem_cons]
theorem insertN_lt {x : Nat} : ∀ {ns : List Nat}, ns.Pairwise (· < ·) → x ∉ ns → (insertN x ns).Pairwise (· < ·)
  | [], _, _ => by simp [insertN]
  | y :: r, h, hx => by
    unfold insertN
    have hy := List.pairwise_cons.1 h
    by_cases q : x ≤ y
    · rw [if_pos q]
      have : x ≠ y := fun e => hx (by simp [e])
      refine List.pairwise_cons.2 ⟨fun z hz => ?_, h⟩
      rcases List.mem_cons.1 hz with rfl | hz
      · omega
      · have := hy.1 z hz; omega
    · rw [if_neg q]
      refine List.pairwise_cons.2 ⟨fun z hz => ?_, insertN_lt hy.2 fun k => hx (List.mem_cons_of_mem _ k)⟩
      rcases insertN_mem.1 hz with rfl | hz
      · omega
      · exact hy.1 z hz
theorem sortN_lt : ∀ {ns : List Nat}, ns.Nodup → (sortN ns).Pairwise (· < ·)
  | [], _ => List.Pairwise.nil
  | x :: r, h => by
    have hx := List.nodup_cons.1 h
    exact insertN_lt (sortN_lt hx.2) fun k => hx.1 (sortN_mem.1 k)
theorem sorted_n {ns : List Nat} (h : ns.length < 64) : sortedD [.lst (ns.map nD)] = some (.lst ((sortN ns).map nD)) := by
  rw [nD_map]
  show (intsOf ((ns.map fun k : Nat => (k : Int)).map D.int)).bind _ = _
  haveI : TabCtx := ⟨[]⟩
  rw [intsOf_map]
  show (if (ns.map fun k : Nat => (k : Int)).length < 64 then some (D.lst ((sortI (ns.map fun k : Nat => (k : Int))).map .int)) else none) = _
  rw [if_pos (by simpa using h), sortN_map, nD_map]
@[simp] theorem ePop_eq {ρ : Rho} {μ : Store} (fo : EF) : ePop fo ρ μ = (fo ρ μ).bind fun o μ1 => match o with
  | .ob n => match μ1[n]? with
    | some (.lst ds) => match ds[ds.length - 1]? with
      | some x => .ok (.d x) (μ1.set n (.lst ds.dropLast))
      | none => .no
    | _ => .no
  | _ => .no := rfl
end
section
@[simp] theorem isi_tt (ds : List D) : isiD "tuple" (.tup ds) = some (.bl true) := rfl
@[simp] theorem isi_ii (i : Int) : isiD "int" (.int i) = some (.bl true) := rfl
@[simp] theorem isi_bi (i : Int) : isiD "bool" (.int i) = some (.bl false) := by
  have : kitB "int" "bool" = some false := by decide +kernel
  unfold isiD tyD
  simp [this]
@[simp] theorem isi_bb (b : Bool) : isiD "bool" (.bl b) = some (.bl true) := rfl
@[simp] theorem isi_tn : isiD "tuple" .non = some (.bl false) := by
  have : kitB "NoneType" "tuple" = some false := by decide +kernel
  unfold isiD tyD
  simp [this]
section
variable {γ : Type} {vs : List Nat} {src : LF} {g : GF} {t : BF} {e : EF} {ρ : Rho} {μ : Store}
theorem frz_lc (enc : γ → D) (f : γ → D) (xs : List γ) (h : src ρ μ = .ok (xs.map enc) μ) (hl : xs.length ≤ 16777216) (st : ∀ x, x ∈ xs → ∃ ρ1, g (.d (enc x)) (wipeR ρ vs) = some ρ1 ∧ e ρ1 μ = .ok (.d (f x)) μ) : eFrz (lLc vs src g bYes e) ρ μ = .ok (.d (.lst (xs.map f))) μ := by
  rw [eFrz_eq, lLc_eq, h, rbind_ok, lc_map enc f xs st, lcap_ok, List.length_map, if_pos hl]; rfl
theorem frz_lcf (enc : γ → D) (p : γ → Bool) (f : γ → D) (xs : List γ) (h : src ρ μ = .ok (xs.map enc) μ) (hl : xs.length ≤ 16777216) (st : ∀ x, x ∈ xs → ∃ ρ1, g (.d (enc x)) (wipeR ρ vs) = some ρ1 ∧ t ρ1 μ = .ok (p x) μ ∧ (p x = true → e ρ1 μ = .ok (.d (f x)) μ)) : eFrz (lLc vs src g t e) ρ μ = .ok (.d (.lst ((xs.filter p).map f))) μ := by
  have := List.length_filter_le p xs
  rw [eFrz_eq, lLc_eq, h, rbind_ok, lc_filter enc p f xs st, lcap_ok, List.length_map, if_pos (by omega)]; rfl
theorem b_orf {f g : BF} (h : f ρ μ = .ok false μ) : bOr f g ρ μ = g ρ μ := by rw [bOr_eq, h]; rfl
theorem b_ort {f g : BF} (h : f ρ μ = .ok true μ) : bOr f g ρ μ = .ok true μ := by rw [bOr_eq, h]; rfl
theorem b_andt {f g : BF} (h : f ρ μ = .ok true μ) : bAnd f g ρ μ = g ρ μ := by rw [bAnd_eq, h]; rfl
theorem b_not {f : BF} {b : Bool} (h : f ρ μ = .ok b μ) : bNot f ρ μ = .ok (!b) μ := by rw [bNot_eq, h]; rfl
theorem b_v {f : EF} {b : Bool} (h : f ρ μ = .ok (.d (.bl b)) μ) : bV f ρ μ = .ok b μ := by rw [bV_eq, h]; rfl
theorem s_iff {c : BF} {f g : SF} (h : c ρ μ = .ok false μ) : sIf c f g ρ μ = g ρ μ := by rw [sIf_eq, h]; rfl
theorem s_ift {c : BF} {f g : SF} (h : c ρ μ = .ok true μ) : sIf c f g ρ μ = f ρ μ := by rw [sIf_eq, h]; rfl
theorem e_andt {f g : EF} (h : f ρ μ = .ok (.d (.bl true)) μ) : eAnd f g ρ μ = g ρ μ := by rw [eAnd_eq, h]; rfl
theorem s_ret {f : EF} {s : Sl} {μ' : Store} (h : f ρ μ = .ok s μ') : sRet f ρ μ = .rt s μ' := by rw [sRet_eq, h]; rfl
theorem fn_lst {q : List D → Option D} {fl : EF} {ds : List D} {d : D} (h : fl ρ μ = .ok (.d (.lst ds)) μ) (hq : q [.lst ds] = some d) : eN q (aCons fl aNil) ρ μ = .ok (.d d) μ := by
  rw [eN_eq, aCons_eq, h]; simp [hq]
theorem all_lc (enc : γ → D) (f : γ → Bool) (xs : List γ) (h : src ρ μ = .ok (xs.map enc) μ) (hl : xs.length ≤ 16777216) (st : ∀ x, x ∈ xs → ∃ ρ1, g (.d (enc x)) (wipeR ρ vs) = some ρ1 ∧ e ρ1 μ = .ok (.d (.bl (f x))) μ) : eN allD (aCons (eFrz (lLc vs src g bYes e)) aNil) ρ μ = .ok (.d (.bl (xs.all f))) μ := by
  refine fn_lst (frz_lc enc (fun x => .bl (f x)) xs h hl st) ?_
  rw [show (fun x => D.bl (f x)) = D.bl ∘ f from rfl, ← List.map_map, allD_map, List.all_map]; rfl
theorem any_lc (enc : γ → D) (f : γ → Bool) (xs : List γ) (h : src ρ μ = .ok (xs.map enc) μ) (hl : xs.length ≤ 16777216) (st : ∀ x, x ∈ xs → ∃ ρ1, g (.d (enc x)) (wipeR ρ vs) = some ρ1 ∧ e ρ1 μ = .ok (.d (.bl (f x))) μ) : eN anyD (aCons (eFrz (lLc vs src g bYes e)) aNil) ρ μ = .ok (.d (.bl (xs.any f))) μ := by
  refine fn_lst (frz_lc enc (fun x => .bl (f x)) xs h hl st) ?_
  rw [show (fun x => D.bl (f x)) = D.bl ∘ f from rfl, ← List.map_map, anyD_map, List.any_map]; rfl
end
end
section
theorem s_asg {ρ ρ' : Rho} {μ μ' : Store} {f : EF} {g : GF} {s : Sl} (h : f ρ μ = .ok s μ') (k : g s ρ = some ρ') : sAsg f g ρ μ = .nx ρ' μ' := by
  rw [sAsg_eq, h]
  show (match g s ρ with | some ρ' => Out.nx ρ' μ' | none => .no) = _
  rw [k]
theorem ixN_nat {n k : Nat} (h : k < n) : ixN n (k : Int) = some k := by
  unfold ixN
  rw [if_pos (by omega), if_pos (by omega), Int.toNat_natCast]
@[simp] theorem sSet_eq {ρ : Rho} {μ : Store} (fo fi fe : EF) : sSet fo fi fe ρ μ = (fe ρ μ).toOut ρ fun x μ1 => (fo ρ μ1).toOut ρ fun o μ2 => (fi ρ μ2).toOut ρ fun i μ3 => match o, i, x with
  | .ob n, .d (.int k), .d x => match μ3[n]? with
    | some (.lst ds) => match ixN ds.length k with
      | some j => .nx ρ (μ3.set n (.lst (ds.set j x)))
      | none => .no
    | _ => .no
  | _, _, _ => .no := rfl
end
section
theorem e_2 {ρ : Rho} {μ μ1 μ2 : Store} {g : D → D → Option D} {fa fb : EF} {x y : Sl} {r : Res Sl} (ha : fa ρ μ = .ok x μ1) (hb : fb ρ μ1 = .ok y μ2) (hg : o2 g x y μ2 = r) : e2 g fa fb ρ μ = r := by
  rw [e2_eq, ha, rbind_ok, hb, rbind_ok, hg]
end
section
theorem beq_nl : ∀ a b : List Nat, beqL (a.map nD) (b.map nD) = decide (a = b)
  | [], [] => rfl
  | [], _ :: _ => rfl
  | _ :: _, [] => rfl
  | x :: a, y :: b => by
    rw [List.map_cons, List.map_cons]
    show (D.beq (nD x) (nD y) && beqL (a.map nD) (b.map nD)) = _
    rw [beq_nl a b]
    have : D.beq (nD x) (nD y) = decide (x = y) := by
      show decide ((x : Int) = y) = _
      by_cases h : x = y <;> simp [h]; omega
    rw [this]
    by_cases h1 : x = y <;> by_cases h2 : a = b <;> simp [h1, h2]
theorem cmp_nl (a : List Nat) : cmpOkL (a.map nD) = true := by rw [nD_map]; exact cmp_ints _
theorem deep_nl (a : List Nat) : deepL (a.map nD) = 0 := by rw [nD_map]; exact deep_ints _
theorem cmp_nll : ∀ L : List (List Nat), cmpOkL (L.map fun p => .lst (p.map nD)) = true
  | [] => rfl
  | p :: L => by simp [cmpOkL, D.cmpOk, cmp_nl, cmp_nll L]
theorem deep_nll : ∀ L : List (List Nat), deepL (L.map fun p => .lst (p.map nD)) ≤ 1
  | [] => by simp [deepL]
  | p :: L => by have := deep_nll L; simp [deepL, D.deep, deep_nl]; omega
theorem ninD_ll (a : List Nat) (L : List (List Nat)) : ninD (.lst (a.map nD)) (.lst (L.map fun p => .lst (p.map nD))) = some (.bl (!decide (a ∈ L))) := by
  have h2 : (D.lst (L.map fun p => D.lst (p.map nD))).shaped = true := by
    have := deep_nll L
    simp [D.shaped, D.cmpOk, D.deep, cmp_nll]; omega
  have h3 : memD (.lst (a.map nD)) (.lst (L.map fun p => .lst (p.map nD))) = some (decide (a ∈ L)) := by
    show (if (D.lst (a.map nD)).shaped = true ∧ (D.lst (L.map fun p => D.lst (p.map nD))).shaped = true then some ((L.map fun p => D.lst (p.map nD)).any fun z => D.beq z (.lst (a.map nD))) else none) = _
    rw [if_pos ⟨shaped_n a, h2⟩, List.any_map]
    congr 1
    rw [Bool.eq_iff_iff, List.any_eq_true, decide_eq_true_iff]
    constructor
    · rintro ⟨p, hp, e⟩
      have : beqL (p.map nD) (a.map nD) = true := e
      rw [beq_nl, decide_eq_true_iff] at this
      exact this ▸ hp
    · intro h
      refine ⟨a, h, ?_⟩
      show beqL (a.map nD) (a.map nD) = true
      rw [beq_nl]; simp
  unfold ninD
  rw [h3]; rfl
theorem eqD_nil (L : List Nat) : eqD (.lst (L.map nD)) (.lst []) = some (.bl (decide (L = []))) := by
  unfold eqD
  rw [if_pos ⟨shaped_n L, rfl⟩]
  cases L with
  | nil => rfl
  | cons x L => rfl
theorem sumD_map (ns : List Int) : sumD [.lst (ns.map .int)] = some (.int ns.sum) := by
  show (intsOf (ns.map D.int)).map _ = _
  haveI : TabCtx := ⟨[]⟩
  rw [intsOf_map]; rfl
theorem sum_lc {γ : Type} {vs : List Nat} {src : LF} {g : GF} {e : EF} {ρ : Rho} {μ : Store} (enc : γ → D) (f : γ → Int) (xs : List γ) (h : src ρ μ = .ok (xs.map enc) μ) (hl : xs.length ≤ 16777216) (st : ∀ x, x ∈ xs → ∃ ρ1, g (.d (enc x)) (wipeR ρ vs) = some ρ1 ∧ e ρ1 μ = .ok (.d (.int (f x))) μ) : eN sumD (aCons (eFrz (lLc vs src g bYes e)) aNil) ρ μ = .ok (.d (.int (xs.map f).sum)) μ := by
  refine fn_lst (frz_lc enc (fun x => .int (f x)) xs h hl st) ?_
  rw [show (fun x => D.int (f x)) = D.int ∘ f from rfl, ← List.map_map, sumD_map]
end
section
@[simp] theorem inD_2l (a x y : Int) : inD (.int a) (.lst [.int x, .int y]) = some (.bl (decide (a = x ∨ a = y))) := by
  have := memD_l a [x, y]
  unfold inD
  rw [show [D.int x, D.int y] = [x, y].map D.int from rfl, this]
  simp
end
section
theorem beq_il : ∀ a : List Int, beqL (a.map D.int) (a.map D.int) = true
  | [] => rfl
  | x :: a => by
    rw [List.map_cons]
    show (D.beq (.int x) (.int x) && beqL (a.map D.int) (a.map D.int)) = true
    rw [beq_il a, beq_ii]; simp
theorem neD_il (a : List Int) : neD (.lst (a.map D.int)) (.lst (a.map D.int)) = some (.bl false) := by
  unfold neD
  rw [if_pos ⟨shaped_ints a, shaped_ints a⟩]
  show some (D.bl (!beqL (a.map D.int) (a.map D.int))) = _
  rw [beq_il]; rfl
@[simp] theorem eqD_b (a b : Bool) : eqD (.bl a) (.bl b) = some (.bl (a == b)) := by
  unfold eqD; rw [if_pos ⟨rfl, rfl⟩]; rfl
end
section
variable {ρ : Rho} {μ : Store}
theorem fm_rt {nl : Nat} {body : SF} {ss : List Sl} {s : Sl} {μ μ' : Store} (h : body (rho0 nl ss) μ = .rt s μ') : fnMx nl body ss μ = .ok s μ' := by
  unfold fnMx; rw [h]
@[simp] theorem eCallM_eq (n : Nat) (g : MF) (fa : AF) : eCallM n g fa ρ μ = (fa ρ μ).bind fun ss μ1 => if ss.length = n then g ss μ1 else .no := rfl
@[simp] theorem ePop0_eq (fo : EF) : ePop0 fo ρ μ = (fo ρ μ).bind fun o μ1 => match o with
  | .ob n => match μ1[n]? with
    | some (.lst (x :: r)) => .ok (.d x) (μ1.set n (.lst r))
    | _ => .no
  | _ => .no := rfl
theorem neD_nili (L : List Int) : neD (.lst (L.map .int)) (.lst []) = some (.bl (decide (L ≠ []))) := by
  unfold neD
  rw [if_pos ⟨shaped_ints L, rfl⟩]
  cases L with
  | nil => rfl
  | cons x L => rfl
@[simp] theorem mulD_i (i j : Int) : mulD (.int i) (.int j) = if i.natAbs < 18446744073709551616 ∨ j.natAbs < 18446744073709551616 then some (.int (i * j)) else none := rfl
theorem mul_l {i j : Int} (h : i.natAbs < 18446744073709551616) : mulD (.int i) (.int j) = some (.int (i * j)) := by rw [mulD_i, if_pos (.inl h)]
theorem mul_r {i j : Int} (h : j.natAbs < 18446744073709551616) : mulD (.int i) (.int j) = some (.int (i * j)) := by rw [mulD_i, if_pos (.inr h)]
theorem e2_int {f g : EF} {i j : Int} {op : D → D → Option D} {r : D} (hf : f ρ μ = .ok (.d (.int i)) μ) (hg : g ρ μ = .ok (.d (.int j)) μ) (h : op (.int i) (.int j) = some r) : e2 op f g ρ μ = .ok (.d r) μ := by
  rw [e2_eq, hf, rbind_ok, hg, rbind_ok]
  simp [h]
end
section
variable {ρ : Rho} {μ : Store}
theorem rng2_n {f g : EF} {lo hi : Nat} (hf : f ρ μ = .ok (.d (.int (lo : Nat))) μ) (hg : g ρ μ = .ok (.d (.int (hi : Nat))) μ) (h1 : lo ≤ 1000) (h2 : hi ≤ 1000) : sRng2 f g ρ μ = .ok ((List.range' lo (hi - lo)).map nD) μ := by
  unfold sRng2
  rw [hf, rbind_ok, hg, rbind_ok]
  show (if (lo : Int).natAbs ≤ 1000000 ∧ (hi : Int).natAbs ≤ 1000000 then Res.ok (rngL lo ((hi : Int) - lo).toNat) μ else .no) = _
  rw [if_pos ⟨by omega, by omega⟩, show ((hi : Int) - lo).toNat = hi - lo by omega, rngL_map]
  rfl
theorem get_set_ne {b f : Nat} {x : MO} (h : b ≠ f) : (μ.set b x)[f]? = μ[f]? := by rw [List.getElem?_set, if_neg h]
theorem get_set_eq {b : Nat} {x : MO} (h : b < μ.length) : (μ.set b x)[b]? = some x := by rw [List.getElem?_set, if_pos rfl, if_pos h]
end
mutual
def dEq : D → D → Bool
  | .non, .non => true
  | .bl a, .bl b => a == b
  | .int a, .int b => decide (a = b)
  | .tup a, .tup b => dEqL a b
  | _, _ => false
def dEqL : List D → List D → Bool
  | [], [] => true
  | x :: a, y :: b => dEq x y && dEqL a b
  | _, _ => false
end
mutual
theorem dEq_ok : ∀ (a b : D), dEq a b = true → a = b
  | .non, b, h => by cases b <;> simp [dEq] at h; rfl
  | .bl x, b, h => by cases b <;> simp [dEq] at h; subst h; rfl
  | .int x, b, h => by cases b <;> simp [dEq] at h; subst h; rfl
  | .tup x, b, h => by cases b <;> simp [dEq] at h; rw [dEqL_ok _ _ h]
  | .str _, b, h => by cases b <;> simp [dEq] at h
  | .lst _, b, h => by cases b <;> simp [dEq] at h
  | .fn _, b, h => by cases b <;> simp [dEq] at h
  | .scr _, b, h => by cases b <;> simp [dEq] at h
theorem dEqL_ok : ∀ (a b : List D), dEqL a b = true → a = b
  | [], [], _ => rfl
  | [], _ :: _, h => by simp [dEqL] at h
  | _ :: _, [], h => by simp [dEqL] at h
  | x :: a, y :: b, h => by
    simp [dEqL] at h
    rw [dEq_ok x y h.1, dEqL_ok a b h.2]
end
def prEq (r : PR) (d : D) : Bool := match r with
  | .ok x => dEq x d
  | _ => false
theorem prEq_ok {r : PR} {d : D} (h : prEq r d = true) : r = .ok d := by
  cases r with
  | ok x => exact congrArg PR.ok (dEq_ok x d h)
  | ex _ => cases h
  | no => cases h
end
end DL

set_option linter.all false
set_option maxRecDepth 100000
set_option maxHeartbeats 1000000
/-! QB: webs and choices as lists -/
namespace Bt
open PySem DL LV
def en (t : Tl) (v : Nat) (x : Int) : Int := (if t.1 = v then x else 0) + (if t.2.1 = v then x else 0)
def dg : List Tl → List Int → Nat → Int
  | t :: T, x :: xs, v => en t v x + dg T xs v
  | _, _, _ => 0
def Ch : List Tl → List Int → Prop
  | [], [] => True
  | t :: T, x :: xs => (0 ≤ x ∧ x ≤ t.2.2) ∧ Ch T xs
  | _, _ => False
theorem Ch.len : ∀ {T : List Tl} {xs : List Int}, Ch T xs → xs.length = T.length
  | [], [], _ => rfl
  | _ :: T, _ :: xs, h => by simp [Ch.len h.2]
theorem ch_iff : ∀ {T : List Tl} {xs : List Int}, Ch T xs ↔ xs.length = T.length ∧ ∀ i, i < T.length → 0 ≤ xs.getD i 0 ∧ xs.getD i 0 ≤ (T.getD i t0).2.2
  | [], [] => by simp [Ch]
  | [], _ :: _ => by simp [Ch]
  | _ :: _, [] => by simp [Ch]
  | t :: T, x :: xs => by
    constructor
    · rintro ⟨h1, h2⟩
      obtain ⟨h3, h4⟩ := ch_iff.1 h2
      refine ⟨by simp [h3], fun i hi => ?_⟩
      cases i with
      | zero => exact h1
      | succ i => exact h4 i (by simpa using hi)
    · rintro ⟨h1, h2⟩
      exact ⟨h2 0 (by simp), ch_iff.2 ⟨by simpa using h1, fun i hi => h2 (i + 1) (by simpa using hi)⟩⟩
theorem dg_nn : ∀ {T : List Tl} {xs : List Int}, Ch T xs → ∀ v, 0 ≤ dg T xs v
  | [], [], _, _ => Int.le_refl _
  | t :: T, x :: xs, h, v => by
    have h1 := dg_nn h.2 v
    have h2 := h.1
    simp only [dg, en]
    split <;> split <;> omega
theorem P_at {P : List Pl} {w : Nat} (h : w < P.length) : P[w]? = some (lof P w, upf P w) := by
  unfold lof upf
  rw [List.getD_eq_getElem?_getD, List.getElem?_eq_getElem h]; rfl
abbrev far : Int := 1000000000000000000000000000000
def lt2 (s t : Tl) : Prop := s.1 < t.1 ∨ (s.1 = t.1 ∧ s.2.1 < t.2.1)
structure WebOk (P : List Pl) (T : List Tl) : Prop where
  n1 : 1 ≤ P.length
  n5 : P.length ≤ 5
  p : ∀ p, p ∈ P → 0 ≤ p.1 ∧ p.1 ≤ p.2 ∧ p.2 ≤ far
  m : T.length ≤ 10
  t : TOk P.length T
  far : ∀ t, t ∈ T → t.2.2 ≤ far
  srt : ∀ q, q ∈ T.zip (T.drop 1) → lt2 q.1 q.2
def eW (P : List Pl) (T : List Tl) : D := .tup [ePs P, eTs T]
theorem lex2 {a b c d : Nat} (h : a < c ∨ (a = c ∧ b < d)) : HT.lexLt [(a : Int), b] [(c : Int), d] = true := by
  rw [HT.lexLt_cons]
  by_cases q : (a : Int) = c
  · rw [if_pos q, HT.lexLt_cons, if_neg (by omega)]; exact decide_eq_true (by omega)
  · rw [if_neg q]; exact decide_eq_true (by omega)
def lsf (f : Nat → Int) (n : Nat) : List D := (List.range n).map fun v => D.int (f v)
@[simp] theorem lsf_len (f : Nat → Int) (n : Nat) : (lsf f n).length = n := by unfold lsf; simp
theorem lsf_get {f : Nat → Int} {n k : Nat} (h : k < n) : (lsf f n)[k]? = some (.int (f k)) := by
  unfold lsf; rw [List.getElem?_map, List.getElem?_range h]; rfl
theorem lsf_set {f : Nat → Int} {n k : Nat} {y : Int} (h : k < n) : (lsf f n).set k (.int y) = lsf (fun v => if v = k then y else f v) n := by
  refine List.ext_getElem? fun i => ?_
  by_cases hi : i < n
  · rw [List.getElem?_set, lsf_get hi]
    by_cases e : k = i
    · subst e; rw [if_pos rfl, lsf_len, if_pos hi, lsf_get hi, if_pos rfl]
    · rw [if_neg e, lsf_get hi, if_neg (show ¬ i = k from fun h => e h.symm)]
  · rw [List.getElem?_eq_none (by simp; omega), List.getElem?_eq_none (by simp; omega)]
theorem zip_lsf {P : List Pl} {f : Nat → Int} : zipD (P.map eP) (lsf f P.length) = (List.range P.length).map fun v => .tup [eP (lof P v, upf P v), .int (f v)] := by
  unfold lsf
  rw [zipD_map]
  refine List.ext_getElem? fun i => ?_
  rw [List.getElem?_map, List.getElem?_map]
  by_cases hi : i < P.length
  · rw [List.getElem?_range hi, (List.getElem?_zip_eq_some (z := ((lof P i, upf P i), i))).2 ⟨P_at hi, List.getElem?_range hi⟩]; rfl
  · rw [List.getElem?_eq_none (by simp; omega), List.getElem?_eq_none (by simp; omega)]; rfl
theorem fold_dg : ∀ {T : List Tl} {xs : List Int} (f : Nat → Int), (T.zip xs).foldl (fun f (q : Tl × Int) v => f v + en q.1 v q.2) f = fun v => f v + dg T xs v
  | [], _, f => by simp [dg]
  | _ :: _, [], f => by simp [dg]
  | t :: T, x :: xs, f => by
    rw [List.zip_cons_cons, List.foldl_cons, fold_dg]
    funext v
    show f v + en t v x + dg T xs v = f v + (en t v x + dg T xs v)
    omega
def RS (P : List Pl) (T : List Tl) (xs : List Int) (f : Nat → Int) (ρ : Rho) (μ : Store) : Prop := μ = [.lst (lsf f P.length)] ∧ ∃ j3 j4 j5 j6 j7, ρ = [some (.d (eW P T)), some (.d (.tup (xs.map .int))), some (.ob 0), j3, j4, j5, j6, j7]
theorem en_set {t : Tl} {f : Nat → Int} {x : Int} (ht : t.1 < t.2.1) (n : Nat) : lsf (fun v => if v = t.2.1 then (if t.2.1 = t.1 then f t.1 + x else f t.2.1) + x else if v = t.1 then f t.1 + x else f v) n = lsf (fun v => f v + en t v x) n := by
  unfold lsf
  refine List.map_congr_left fun v _ => ?_
  unfold en
  dsimp only
  have n1 : ¬ t.2.1 = t.1 := by omega
  by_cases e1 : t.1 = v
  · have e2 : ¬ t.2.1 = v := by omega
    have e3 : ¬ v = t.2.1 := by omega
    rw [if_neg e3, if_pos e1.symm, if_pos e1, if_neg e2, e1]; simp
  · by_cases e2 : t.2.1 = v
    · rw [if_pos e2.symm, if_neg n1, if_neg e1, if_pos e2, e2]; simp
    · have e3 : ¬ v = t.2.1 := by omega
      have e4 : ¬ v = t.1 := by omega
      rw [if_neg e3, if_neg e4, if_neg e1, if_neg e2]; simp
theorem sums_body {P : List Pl} {T : List Tl} (hT : TOk P.length T) (xs : List Int) (g : GF) (body : SF) (hg : g = gT [gT [gN 3, gN 4, gN 5], gN 6]) (hb : body = sSeq (sSet (eV 2) (eV 3) (e2 addD (e2 ixD (eV 2) (eV 3)) (eV 6))) (sSet (eV 2) (eV 4) (e2 addD (e2 ixD (eV 2) (eV 4)) (eV 6)))) (hl : xs.length = T.length) :
    ∃ ρ' μ', forL g body ((T.zip xs).map fun q => .tup [eT q.1, .int q.2]) [some (.d (eW P T)), some (.d (.tup (xs.map .int))), some (.ob 0), none, none, none, none, none] [.lst (lsf (fun _ => 0) P.length)] = .nx ρ' μ' ∧ RS P T xs (dg T xs) ρ' μ' := by
  subst hg hb
  obtain ⟨ρ', μ', h1, h2⟩ := for_foldM (g := gT [gT [gN 3, gN 4, gN 5], gN 6]) (body := sSeq (sSet (eV 2) (eV 3) (e2 addD (e2 ixD (eV 2) (eV 3)) (eV 6))) (sSet (eV 2) (eV 4) (e2 addD (e2 ixD (eV 2) (eV 4)) (eV 6)))) (fun (q : Tl × Int) => .tup [eT q.1, .int q.2]) (RS P T xs) (fun f q v => f v + en q.1 v q.2) (T.zip xs) (fun _ => 0)
    [some (.d (eW P T)), some (.d (.tup (xs.map .int))), some (.ob 0), none, none, none, none, none] [.lst (lsf (fun _ => 0) P.length)] (by
      rintro ⟨⟨a, b, c⟩, x⟩ hq f ρ μ ⟨rfl, j3, j4, j5, j6, j7, rfl⟩
      have ht : a < b ∧ b < P.length ∧ 0 < c := hT _ (List.of_mem_zip hq).1
      have ha : a < P.length := by omega
      refine ⟨_, [some (.d (eW P T)), some (.d (.tup (xs.map .int))), some (.ob 0), some (.d (nD a)), some (.d (nD b)), some (.d (.int c)), some (.d (.int x)), j7], [.lst (lsf (fun v => f v + en (a, b, c) v x) P.length)], rfl, ?_, rfl, _, _, _, _, _, rfl⟩
      rw [← en_set (t := (a, b, c)) ht.1]
      simp [lsf_get ha, lsf_get ht.2.1, ixN_nat ha, ixN_nat ht.2.1, lsf_set ha, lsf_set ht.2.1]) ⟨rfl, _, _, _, _, _, rfl⟩
  refine ⟨ρ', μ', h1, ?_⟩
  rw [fold_dg] at h2
  rw [show dg T xs = fun v => (0 : Int) + dg T xs v from funext fun v => by omega]
  exact h2
theorem zeros_lc {P : List Pl} {T : List Tl} {xs : List Int} {g : GF} {e : EF} (hg : g = gN 7) (he : e = eC (.int 0)) (hn : P.length ≤ 1000) : eNew (lLc [7] (sSq (e2 ixD (eV 0) (eC (.int 0)))) g (bYes) e) [some (.d (eW P T)), some (.d (.tup (xs.map .int))), none, none, none, none, none, none] [] = .ok (.ob 0) [.lst (lsf (fun _ => 0) P.length)] := by
  subst hg he
  have h := lc_map (vs := [7]) (g := gN 7) (e := eC (.int 0)) (ρ := [some (.d (eW P T)), some (.d (.tup (xs.map .int))), none, none, none, none, none, none]) (μ := []) eP (fun _ => .int 0) P fun p hp => ⟨_, rfl, rfl⟩
  have e : P.map (fun _ => D.int 0) = lsf (fun _ => 0) P.length := by
    unfold lsf
    rw [List.map_const', List.map_const', List.length_range]
  have c : P.length ≤ 16777216 := by omega
  rw [e] at h
  have s : sSq (e2 ixD (eV 0) (eC (.int 0))) [some (.d (eW P T)), some (.d (.tup (xs.map .int))), none, none, none, none, none, none] [] = .ok (P.map eP) [] := by simp [eW, ePs]
  rw [eNew_eq, lLc_eq, s, rbind_ok, h, lcap_ok, lsf_len, if_pos c]; rfl
def missL (P : List Pl) (T : List Tl) (xs : List Int) : Int := sm (fun v => phi (lof P v) (upf P v) (dg T xs v)) P.length
theorem pair_next2 : ∀ {L : List Tl}, L.Pairwise lt2 → ∀ q, q ∈ L.zip (L.drop 1) → lt2 q.1 q.2
  | [], _, q, hq => by simp at hq
  | [x], _, q, hq => by simp at hq
  | x :: y :: L, h, q, hq => by
    have hq' : q ∈ (x, y) :: ((y :: L).zip ((y :: L).drop 1)) := hq
    rcases List.mem_cons.1 hq' with rfl | k
    · exact (List.pairwise_cons.1 h).1 y (List.mem_cons_self ..)
    · exact pair_next2 (List.pairwise_cons.1 h).2 q k
end Bt

set_option linter.all false
set_option maxRecDepth 100000
/-! what the defs compute, as plain functions (printed by gen2.py) -/
namespace Bt
open PySem DL
noncomputable section
def fuel : Nat := 1000
/-- the error classes that are raised -/
def errN : List Str := ["InvalidWeb", "InvalidChoice"]
def okE (y : Exn) : Bool := y.fs.isNone && errN.contains y.cls
def labT : List (Str × Str) := [("InvalidWeb", "web"), ("InvalidChoice", "choice")]
def labE (y : Exn) : Option Str := if okE y = true then labT.lookup y.cls else none
def isC (y : Exn) (n : Str) : Bool := y.cls == n
/-! is_whole: value 0, low 1, high 2 -/
def F_is_whole : SF :=
  sRet (eAnd (eIsI "int" (eV 0)) (eAnd (eNot (eIsI "bool" (eV 0))) (eChn leI leI (eV 1) (eV 0) (eV 2))))
def p_is_whole : PF := fnPx 0 F_is_whole
/-! fits_stretch: value 0 -/
def F_fits_stretch : SF :=
  sSeq (sIf (bOr (bNot (bV (eIsI "tuple" (eV 0)))) (bOr (bV (e2 neD (eN lenD (aCons (eV 0) (aNil))) (eC (.int 2)))) (bNot (bV (eCall 3 p_is_whole (aCons (e2 ixD (eV 0) (eC (.int 0))) (aCons (eC (.int 0)) (aCons (eC (.int 1000000000000000000000000000000)) (aNil))))))))) (sRet (eC (.bl false))) (sNil))
  (sRet (eCall 3 p_is_whole (aCons (e2 ixD (eV 0) (eC (.int 1))) (aCons (e2 ixD (eV 0) (eC (.int 0))) (aCons (eC (.int 1000000000000000000000000000000)) (aNil))))))
def p_fits_stretch : PF := fnPx 0 F_fits_stretch
/-! fits_tie: value 0, many 1 -/
def F_fits_tie : SF :=
  sSeq (sIf (bOr (bNot (bV (eIsI "tuple" (eV 0)))) (bOr (bV (e2 neD (eN lenD (aCons (eV 0) (aNil))) (eC (.int 3)))) (bNot (bV (eCall 3 p_is_whole (aCons (e2 ixD (eV 0) (eC (.int 0))) (aCons (eC (.int 0)) (aCons (e2 subD (eV 1) (eC (.int 1))) (aNil))))))))) (sRet (eC (.bl false))) (sNil))
  (sRet (eAnd (eCall 3 p_is_whole (aCons (e2 ixD (eV 0) (eC (.int 1))) (aCons (e2 addD (e2 ixD (eV 0) (eC (.int 0))) (eC (.int 1))) (aCons (e2 subD (eV 1) (eC (.int 1))) (aNil))))) (eCall 3 p_is_whole (aCons (e2 ixD (eV 0) (eC (.int 2))) (aCons (eC (.int 1)) (aCons (eC (.int 1000000000000000000000000000000)) (aNil)))))))
def p_fits_tie : PF := fnPx 0 F_fits_tie
/-! fits_web: value 0, places 1, ties 2, one 3, other 4 -/
def F_fits_web : SF :=
  sSeq (sIf (bOr (bNot (bV (eIsI "tuple" (eV 0)))) (bV (e2 neD (eN lenD (aCons (eV 0) (aNil))) (eC (.int 2))))) (sRet (eC (.bl false))) (sNil))
  (sSeq (sAsg (eV 0) (gT [gN 1, gN 2]))
  (sSeq (sIf (bOr (bNot (bV (eIsI "tuple" (eV 1)))) (bNot (bV (eChn leI leI (eC (.int 1)) (eN lenD (aCons (eV 1) (aNil))) (eC (.int 5)))))) (sRet (eC (.bl false))) (sNil))
  (sSeq (sIf (bNot (bV (eN allD (aCons (eFrz (lLc [3] (sSq (eV 1)) (gN 3) (bYes) (eCall 1 p_fits_stretch (aCons (eV 3) (aNil))))) (aNil))))) (sRet (eC (.bl false))) (sNil))
  (sSeq (sIf (bOr (bNot (bV (eIsI "tuple" (eV 2)))) (bOr (bV (e2 gtD (eN lenD (aCons (eV 2) (aNil))) (eC (.int 10)))) (bNot (bV (eN allD (aCons (eFrz (lLc [3] (sSq (eV 2)) (gN 3) (bYes) (eCall 2 p_fits_tie (aCons (eV 3) (aCons (eN lenD (aCons (eV 1) (aNil))) (aNil)))))) (aNil))))))) (sRet (eC (.bl false))) (sNil))
  (sRet (eN allD (aCons (eFrz (lLc [3, 4] (sZip (eV 2) (eSl (eV 2) (pSome (eC (.int 1))) (pNone))) (gT [gN 3, gN 4]) (bYes) (e2 ltD (eSl (eV 3) (pNone) (pSome (eC (.int 2)))) (eSl (eV 4) (pNone) (pSome (eC (.int 2))))))) (aNil))))))))
def p_fits_web : PF := fnPx 4 F_fits_web
/-! fits_choice: web 0, value 1, one 2, tie 3 -/
def F_fits_choice : SF :=
  sSeq (sIf (bOr (bNot (bV (eIsI "tuple" (eV 1)))) (bV (e2 neD (eN lenD (aCons (eV 1) (aNil))) (eN lenD (aCons (e2 ixD (eV 0) (eC (.int 1))) (aNil)))))) (sRet (eC (.bl false))) (sNil))
  (sRet (eN allD (aCons (eFrz (lLc [2, 3] (sZip (eV 1) (e2 ixD (eV 0) (eC (.int 1)))) (gT [gN 2, gN 3]) (bYes) (eCall 3 p_is_whole (aCons (eV 2) (aCons (eC (.int 0)) (aCons (e2 ixD (eV 3) (eC (.int 2))) (aNil))))))) (aNil))))
def p_fits_choice : PF := fnPx 2 F_fits_choice
/-! need_web: value 0 -/
def F_need_web : SF :=
  sIf (bNot (bV (eCall 1 p_fits_web (aCons (eV 0) (aNil))))) (sRaise "InvalidWeb") (sNil)
def p_need_web : PF := fnPx 0 F_need_web
/-! need_choice: web 0, value 1 -/
def F_need_choice : SF :=
  sIf (bNot (bV (eCall 2 p_fits_choice (aCons (eV 0) (aCons (eV 1) (aNil)))))) (sRaise "InvalidChoice") (sNil)
def p_need_choice : PF := fnPx 0 F_need_choice
/-! sums_of: web 0, picks 1, found 2, one 3, other 4, limit 5, many 6, place 7 -/
def F_sums_of : SF :=
  sSeq (sAsg (eNew (lLc [7] (sSq (e2 ixD (eV 0) (eC (.int 0)))) (gN 7) (bYes) (eC (.int 0)))) (gN 2))
  (sSeq (sFor (sZip (e2 ixD (eV 0) (eC (.int 1))) (eV 1)) (gT [gT [gN 3, gN 4, gN 5], gN 6]) (sSeq (sSet (eV 2) (eV 3) (e2 addD (e2 ixD (eV 2) (eV 3)) (eV 6)))
  (sSet (eV 2) (eV 4) (e2 addD (e2 ixD (eV 2) (eV 4)) (eV 6)))))
  (sRet (eV 2)))
def p_sums_of : PF := fnPx 6 F_sums_of
/-! missing_of: web 0, picks 1, total 2, least 3, most 4, size 5 -/
def F_missing_of : SF :=
  sSeq (sAsg (eC (.int 0)) (gN 2))
  (sSeq (sFor (sZip (e2 ixD (eV 0) (eC (.int 0))) (eCall 2 p_sums_of (aCons (eV 0) (aCons (eV 1) (aNil))))) (gT [gT [gN 3, gN 4], gN 5]) (sAsg (e2 addD (e2 addD (eV 2) (eN maxD (aCons (eC (.int 0)) (aCons (e2 subD (eV 3) (eV 5)) (aNil))))) (eN maxD (aCons (eC (.int 0)) (aCons (e2 subD (eV 5) (eV 4)) (aNil))))) (gN 2)))
  (sRet (eV 2)))
def p_missing_of : PF := fnPx 4 F_missing_of
/-! is_web: value 0 -/
def F_is_web : SF :=
  sRet (eN boolD (aCons (eCall 1 p_fits_web (aCons (eV 0) (aNil))) (aNil)))
def p_is_web : PF := fnPx 0 F_is_web
/-! is_choice: web 0, value 1 -/
def F_is_choice : SF :=
  sSeq (sExp (eCall 1 p_need_web (aCons (eV 0) (aNil))))
  (sRet (eN boolD (aCons (eCall 2 p_fits_choice (aCons (eV 0) (aCons (eV 1) (aNil)))) (aNil))))
def p_is_choice : PF := fnPx 0 F_is_choice
/-! sums: web 0, picks 1 -/
def F_sums : SF :=
  sSeq (sExp (eCall 1 p_need_web (aCons (eV 0) (aNil))))
  (sSeq (sExp (eCall 2 p_need_choice (aCons (eV 0) (aCons (eV 1) (aNil)))))
  (sRet (eN tupleD (aCons (eCall 2 p_sums_of (aCons (eV 0) (aCons (eV 1) (aNil)))) (aNil)))))
def p_sums : PF := fnPx 0 F_sums
/-! fits: web 0, picks 1 -/
def F_fits : SF :=
  sSeq (sExp (eCall 1 p_need_web (aCons (eV 0) (aNil))))
  (sSeq (sExp (eCall 2 p_need_choice (aCons (eV 0) (aCons (eV 1) (aNil)))))
  (sRet (e2 eqD (eCall 2 p_missing_of (aCons (eV 0) (aCons (eV 1) (aNil)))) (eC (.int 0)))))
def p_fits : PF := fnPx 0 F_fits
/-! _law_cell: script 0, k 1 -/
def F_u_law_cell : SF :=
  sSeq (sIf (bV (e2 ltD (eV 1) (eN lenD (aCons (eV 0) (aNil))))) (sRet (e2 ixD (eV 0) (eV 1))) (sNil))
  (sSeq (sIf (bV (e2 eqD (eN lenD (aCons (eV 0) (aNil))) (eC (.int 0)))) (sRet (e2 addD (e2 mulD (eC (.int 7919)) (eV 1)) (eC (.int 101)))) (sNil))
  (sRet (e2 addD (e2 modD (e2 ixD (eV 0) (e2 modD (eV 1) (eN lenD (aCons (eV 0) (aNil))))) (eC (.int 1000003))) (e2 mulD (eC (.int 7919)) (eV 1)))))
def p_u_law_cell : PF := fnPx 0 F_u_law_cell
/-! _law_draws: script 0, k 1, many 2, base 3, primes 4, cell 5, rest 6, row 7, j 8, mash 9 -/
def F_u_law_draws : SF :=
  sSeq (sAsg (eTup (aCons (eC (.int 2147483647)) (aCons (eC (.int 2147483629)) (aCons (eC (.int 2147483587)) (aCons (eC (.int 2147483579)) (aCons (eC (.int 2147483563)) (aCons (eC (.int 2147483549)) (aCons (eC (.int 2147483543)) (aCons (eC (.int 2147483497)) (aNil)))))))))) (gN 4))
  (sSeq (sAsg (eCall 2 p_u_law_cell (aCons (eV 0) (aCons (eV 1) (aNil)))) (gN 5))
  (sSeq (sAsg (eC (.int 0)) (gN 6))
  (sSeq (sIf (bV (e2 geD (eV 5) (e2 powD (eC (.int 10)) (eC (.int 18))))) (sAsg (eV 5) (gN 6)) (sNil))
  (sSeq (sAsg (eNew (lLst (aNil))) (gN 7))
  (sSeq (sFor (sRng1 (eV 2)) (gN 8) (sSeq (sAsg (e2 mulD (e2 modD (eV 5) (e2 ixD (eV 4) (e2 modD (eV 8) (eC (.int 8))))) (e2 addD (eC (.int 48271)) (e2 mulD (e2 mulD (eC (.int 2)) (eV 8)) (eV 8)))) (gN 9))
  (sSeq (sAsg (e2 addD (e2 addD (eV 9) (e2 mulD (e2 mulD (eC (.int 7919)) (e2 addD (eV 8) (eC (.int 1)))) (e2 addD (eV 8) (eC (.int 1))))) (e2 mulD (eC (.int 104729)) (eV 1))) (gN 9))
  (sSeq (sAsg (e2 modD (eV 9) (e2 ixD (eV 4) (e2 modD (e2 addD (e2 mulD (eC (.int 3)) (eV 8)) (eV 1)) (eC (.int 8))))) (gN 9))
  (sSeq (sAsg (e2 modD (e2 mulD (e2 mulD (eV 9) (eV 9)) (eV 9)) (e2 ixD (eV 4) (e2 modD (e2 addD (eV 8) (eC (.int 5))) (eC (.int 8))))) (gN 9))
  (sSeq (sIf (bV (e2 gtD (eV 6) (eC (.int 0)))) (sAsg (eV 6) (gN 9)) (sNil))
  (sSeq (sExp (eApp (eV 7) (e2 modD (eV 9) (eV 3))))
  (sAsg (e2 fdivD (eV 6) (eV 3)) (gN 6)))))))))
  (sRet (eV 7)))))))
def m_u_law_draws : MF := fnMx 6 F_u_law_draws
/-! _law_bag: script 0, k 1 -/
def F_u_law_bag : SF :=
  sRet (eCallM 4 m_u_law_draws (aCons (eV 0) (aCons (eV 1) (aCons (eC (.int 150)) (aCons (eC (.int 27720)) (aNil))))))
def m_u_law_bag : MF := fnMx 0 F_u_law_bag
/-! _law_take: bag 0, many 1, draw 2 -/
def F_u_law_take : SF :=
  sSeq (sAsg (eIf (bV (e2 neD (eV 0) (eFrz (lLst (aNil))))) (ePop0 (eV 0)) (eC (.int 0))) (gN 2))
  (sRet (e2 modD (eN intD (aCons (eV 2) (aNil))) (eV 1)))
def m_u_law_take : MF := fnMx 1 F_u_law_take
/-! _law_choice: bag 0, some 1 -/
def F_u_law_choice : SF :=
  sRet (e2 ixD (eV 1) (eCallM 2 m_u_law_take (aCons (eV 0) (aCons (eN lenD (aCons (eV 1) (aNil))) (aNil)))))
def m_u_law_choice : MF := fnMx 0 F_u_law_choice
/-! _law_known: ring 0, some 1 -/
def F_u_law_known : SF :=
  sSeq (sAsg (eTup (aCons (eTup (aCons (eC (.int 0)) (aCons (eC (.int 1)) (aCons (eC (.int 1)) (aNil))))) (aCons (eTup (aCons (eC (.int 0)) (aCons (eC (.int 2)) (aCons (eC (.int 1)) (aNil))))) (aCons (eTup (aCons (eC (.int 1)) (aCons (eC (.int 2)) (aCons (eC (.int 1)) (aNil))))) (aNil))))) (gN 0))
  (sSeq (sAsg (eNew (lLst (aCons (eTup (aCons (eTup (aCons (eTup (aCons (eC (.int 1)) (aCons (eC (.int 1)) (aNil)))) (aCons (eTup (aCons (eC (.int 1)) (aCons (eC (.int 1)) (aNil)))) (aCons (eTup (aCons (eC (.int 1)) (aCons (eC (.int 1)) (aNil)))) (aNil))))) (aCons (eV 0) (aNil)))) (aCons (eTup (aCons (eTup (aCons (eTup (aCons (eC (.int 1)) (aCons (eC (.int 2)) (aNil)))) (aCons (eTup (aCons (eC (.int 1)) (aCons (eC (.int 1)) (aNil)))) (aCons (eTup (aCons (eC (.int 1)) (aCons (eC (.int 1)) (aNil)))) (aNil))))) (aCons (eV 0) (aNil)))) (aNil))))) (gN 1))
  (sSeq (sExp (eApp (eV 1) (eTup (aCons (eTup (aCons (eTup (aCons (eC (.int 2)) (aCons (eC (.int 3)) (aNil)))) (aCons (eTup (aCons (eC (.int 0)) (aCons (eC (.int 2)) (aNil)))) (aCons (eTup (aCons (eC (.int 4)) (aCons (eC (.int 4)) (aNil)))) (aNil))))) (aCons (eTup (aCons (eTup (aCons (eC (.int 0)) (aCons (eC (.int 1)) (aCons (eC (.int 2)) (aNil))))) (aCons (eTup (aCons (eC (.int 1)) (aCons (eC (.int 2)) (aCons (eC (.int 3)) (aNil))))) (aNil)))) (aNil))))))
  (sSeq (sExp (eApp (eV 1) (eTup (aCons (eTup (aCons (eTup (aCons (eC (.int 2)) (aCons (eC (.int 2)) (aNil)))) (aCons (eTup (aCons (eC (.int 0)) (aCons (eC (.int 3)) (aNil)))) (aCons (eTup (aCons (eC (.int 1)) (aCons (eC (.int 1)) (aNil)))) (aNil))))) (aCons (eTup (aCons (eTup (aCons (eC (.int 0)) (aCons (eC (.int 1)) (aCons (eC (.int 2)) (aNil))))) (aCons (eTup (aCons (eC (.int 1)) (aCons (eC (.int 2)) (aCons (eC (.int 1)) (aNil))))) (aNil)))) (aNil))))))
  (sRet (e2 addD (eV 1) (eFrz (lLst (aCons (eTup (aCons (eTup (aCons (eTup (aCons (eC (.int 1)) (aCons (eC (.int 1)) (aNil)))) (aCons (eTup (aCons (eC (.int 0)) (aCons (eC (.int 1)) (aNil)))) (aCons (eTup (aCons (eC (.int 0)) (aCons (eC (.int 1)) (aNil)))) (aNil))))) (aCons (eTup (aCons (eTup (aCons (eC (.int 0)) (aCons (eC (.int 1)) (aCons (eC (.int 1)) (aNil))))) (aCons (eTup (aCons (eC (.int 0)) (aCons (eC (.int 2)) (aCons (eC (.int 1)) (aNil))))) (aNil)))) (aNil)))) (aNil)))))))))
def p_u_law_known : PF := fnPx 2 F_u_law_known
/-! _law_ties: bag 0, many 1, most 2, limit 3, found 4, one 5, other 6 -/
def F_u_law_ties : SF :=
  sSeq (sAsg (eNew (lLst (aNil))) (gN 4))
  (sSeq (sFor (sRng1 (eV 1)) (gN 5) (sFor (sRng2 (e2 addD (eV 5) (eC (.int 1))) (eV 1)) (gN 6) (sIf (bAnd (bV (e2 ltD (eN lenD (aCons (eV 4) (aNil))) (eV 2))) (bV (e2 gtD (eCallM 2 m_u_law_take (aCons (eV 0) (aCons (eC (.int 3)) (aNil)))) (eC (.int 0))))) (sExp (eApp (eV 4) (eTup (aCons (eV 5) (aCons (eV 6) (aCons (e2 addD (eC (.int 1)) (eCallM 2 m_u_law_take (aCons (eV 0) (aCons (eV 3) (aNil))))) (aNil))))))) (sNil))))
  (sRet (eN tupleD (aCons (eV 4) (aNil)))))
def m_u_law_ties : MF := fnMx 3 F_u_law_ties
/-! _law_web: bag 0, many 1, ties_so 2, places_so 3, narrow 4, place 5, least 6 -/
def F_u_law_web : SF :=
  sSeq (sAsg (e2 addD (eC (.int 1)) (eCallM 2 m_u_law_take (aCons (eV 0) (aCons (eC (.int 4)) (aNil))))) (gN 1))
  (sSeq (sPar 2 3 (eCallM 4 m_u_law_ties (aCons (eV 0) (aCons (eV 1) (aCons (eC (.int 5)) (aCons (eC (.int 2)) (aNil)))))) (eNew (lLst (aNil))))
  (sSeq (sAsg (eCallM 2 m_u_law_take (aCons (eV 0) (aCons (eC (.int 2)) (aNil)))) (gN 4))
  (sSeq (sFor (sRng1 (eV 1)) (gN 5) (sSeq (sAsg (eCallM 2 m_u_law_take (aCons (eV 0) (aCons (eC (.int 4)) (aNil)))) (gN 6))
  (sExp (eApp (eV 3) (eTup (aCons (eV 6) (aCons (e2 addD (eV 6) (eIf (bAnd (bV (e2 eqD (eV 4) (eC (.int 0)))) (bV (e2 gtD (eCallM 2 m_u_law_take (aCons (eV 0) (aCons (eC (.int 4)) (aNil)))) (eC (.int 0))))) (eC (.int 0)) (eCallM 2 m_u_law_take (aCons (eV 0) (aCons (eC (.int 3)) (aNil)))))) (aNil))))))))
  (sRet (eTup (aCons (eN tupleD (aCons (eV 3) (aNil))) (aCons (eV 2) (aNil))))))))
def m_u_law_web : MF := fnMx 6 F_u_law_web
/-! _law_great_web: bag 0, many 1, ties_so 2, unit 3, places_so 4, place 5, least 6, one 7, other 8, limit 9 -/
def F_u_law_great_web : SF :=
  sSeq (sAsg (e2 addD (eC (.int 2)) (eCallM 2 m_u_law_take (aCons (eV 0) (aCons (eC (.int 3)) (aNil))))) (gN 1))
  (sSeq (sAsg (eTup (aCons (eCallM 4 m_u_law_ties (aCons (eV 0) (aCons (eV 1) (aCons (eC (.int 4)) (aCons (eC (.int 3)) (aNil)))))) (aCons (e2 addD (e2 powD (eC (.int 10)) (eC (.int 29))) (eCallM 2 m_u_law_take (aCons (eV 0) (aCons (eC (.int 1000)) (aNil))))) (aNil)))) (gT [gN 2, gN 3]))
  (sSeq (sAsg (eN tupleD (aCons (eFrz (lLc [7, 8, 9] (sSq (eV 2)) (gT [gN 7, gN 8, gN 9]) (bYes) (eTup (aCons (eV 7) (aCons (eV 8) (aCons (e2 addD (e2 mulD (eV 9) (eV 3)) (eCallM 2 m_u_law_take (aCons (eV 0) (aCons (eC (.int 3)) (aNil))))) (aNil))))))) (aNil))) (gN 2))
  (sSeq (sAsg (eNew (lLst (aNil))) (gN 4))
  (sSeq (sFor (sRng1 (eV 1)) (gN 5) (sSeq (sAsg (e2 addD (e2 mulD (eCallM 2 m_u_law_take (aCons (eV 0) (aCons (eC (.int 4)) (aNil)))) (eV 3)) (eCallM 2 m_u_law_take (aCons (eV 0) (aCons (eC (.int 3)) (aNil))))) (gN 6))
  (sExp (eApp (eV 4) (eTup (aCons (eV 6) (aCons (e2 addD (eV 6) (eCallM 2 m_u_law_choice (aCons (eV 0) (aCons (eFrz (lLst (aCons (eC (.int 0)) (aCons (eC (.int 0)) (aCons (eC (.int 1)) (aCons (eC (.int 2)) (aCons (eV 3) (aNil)))))))) (aNil))))) (aNil))))))))
  (sRet (eTup (aCons (eN tupleD (aCons (eV 4) (aNil))) (aCons (eV 2) (aNil)))))))))
def m_u_law_great_web : MF := fnMx 9 F_u_law_great_web
/-! _law_sums: web 0, picks_so 1, found 2, one 3, other 4, limit 5, many 6, place 7 -/
def F_u_law_sums : SF :=
  sSeq (sAsg (eNew (lLc [7] (sSq (e2 ixD (eV 0) (eC (.int 0)))) (gN 7) (bYes) (eC (.int 0)))) (gN 2))
  (sSeq (sFor (sZip (e2 ixD (eV 0) (eC (.int 1))) (eV 1)) (gT [gT [gN 3, gN 4, gN 5], gN 6]) (sSeq (sSet (eV 2) (eV 3) (e2 addD (e2 ixD (eV 2) (eV 3)) (eV 6)))
  (sSet (eV 2) (eV 4) (e2 addD (e2 ixD (eV 2) (eV 4)) (eV 6)))))
  (sRet (eV 2)))
def p_u_law_sums : PF := fnPx 6 F_u_law_sums
/-! _law_misses: web 0, picks_so 1, total 2, least 3, most 4, size 5 -/
def F_u_law_misses : SF :=
  sSeq (sAsg (eC (.int 0)) (gN 2))
  (sSeq (sFor (sZip (e2 ixD (eV 0) (eC (.int 0))) (eCall 2 p_u_law_sums (aCons (eV 0) (aCons (eV 1) (aNil))))) (gT [gT [gN 3, gN 4], gN 5]) (sAsg (e2 addD (eV 2) (eN maxD (aCons (eC (.int 0)) (aCons (e2 subD (eV 3) (eV 5)) (aCons (e2 subD (eV 5) (eV 4)) (aNil)))))) (gN 2)))
  (sRet (eV 2)))
def p_u_law_misses : PF := fnPx 4 F_u_law_misses
/-! _law_whole: value 0, low 1, high 2 -/
def F_u_law_whole : SF :=
  sRet (eAnd (eIsI "int" (eV 0)) (eAnd (eNot (eIsI "bool" (eV 0))) (eChn leI leI (eV 1) (eV 0) (eV 2))))
def p_u_law_whole : PF := fnPx 0 F_u_law_whole
/-! _law_is_choice: web 0, value 1, many 2, tie_so 3 -/
def F_u_law_is_choice : SF :=
  sSeq (sIf (bOr (bNot (bV (eIsI "tuple" (eV 1)))) (bV (e2 neD (eN lenD (aCons (eV 1) (aNil))) (eN lenD (aCons (e2 ixD (eV 0) (eC (.int 1))) (aNil)))))) (sRet (eC (.bl false))) (sNil))
  (sRet (e2 eqD (eFrz (lLc [2, 3] (sZip (eV 1) (e2 ixD (eV 0) (eC (.int 1)))) (gT [gN 2, gN 3]) (bNot (bV (eCall 3 p_u_law_whole (aCons (eV 2) (aCons (eC (.int 0)) (aCons (e2 ixD (eV 3) (eC (.int 2))) (aNil))))))) (eC (.int 1)))) (eFrz (lLst (aNil)))))
def p_u_law_is_choice : PF := fnPx 2 F_u_law_is_choice
/-! _law_named_error: e 0, some 1, labels 2, label 3, good 4 -/
def F_u_law_named_error (y : Exn) (t : CTok) : SF :=
  sSeq (sAsg (eFrz (lLst (aCons (eIsE 0 t (isC y "InvalidWeb")) (aCons (eIsE 0 t (isC y "InvalidChoice")) (aCons (eIsE 0 t (isC y "InvalidLots")) (aNil)))))) (gN 1))
  (sSeq (sAsg (eFrz (lCat (eV 1) (eFrz (lLst (aCons (eIsE 0 t (isC y "InvalidTie")) (aCons (eIsE 0 t (isC y "InvalidPlace")) (aCons (eIsE 0 t (isC y "InvalidNumber")) (aNil)))))))) (gN 1))
  (sSeq (sAsg (eFrz (lCat (eV 1) (eFrz (lLst (aCons (eIsE 0 t (isC y "InvalidPairs")) (aCons (eIsE 0 t (isC y "InvalidText")) (aCons (eIsE 0 t (isC y "Unlike")) (aNil)))))))) (gN 1))
  (sSeq (sAsg (eFrz (lCat (eV 1) (eFrz (lLst (aCons (eIsE 0 t (isC y "NoChoice")) (aCons (eIsE 0 t (isC y "NothingToUndo")) (aCons (eIsE 0 t (isC y "TooMany")) (aNil)))))))) (gN 1))
  (sSeq (sAsg (eC (.str "web choice lots tie place number pairs text unlike none undo many")) (gN 2))
  (sRet (eJoin (eC (.str " ")) (eFrz (lLc [3, 4] (sZipL (eFrz (lSplit (eV 2) (eC (.str " ")))) (eV 1)) (gTt [gN 3, gN 4]) (bV (eV 4)) (eV 3)))))))))
/-! _law_error: call 0, e 1 -/
def F_u_law_error (t : CTok) (φ : MF) : SF :=
  sSeq (sTryAs 1 okE (sExp (eAct 0 0 t φ aNil)) (fun y t => sRet (eIf (bV (eIsE 1 t true)) (eNm 1 t (labE y)) (eC (.str "odd")))))
  (sRet (eC (.str "")))
def h_u_law_error (t : CTok) (φ : MF) : MF := fnMx 1 (F_u_law_error t φ)
/-! _law_truly: found 0, due 1 -/
def F_u_law_truly : SF :=
  sRet (eAnd (eIsI "bool" (eV 0)) (e2 eqD (eV 0) (eV 1)))
def p_u_law_truly : PF := fnPx 0 F_u_law_truly
/-! _law_all_refused: call 0, odds 1, name 2, odd 3 -/
def F_u_law_all_refused (t : CTok) (φ : MF) : SF :=
  sRet (e2 eqD (eFrz (lLc [3] (sSq (eV 1)) (gN 3) (bV (e2 neD (eCallH 1 h_u_law_error (xLam (aNil)) 0 [0, 3] (eAct 0 1 t φ (aCons (eV 1) (aNil)))) (eV 2))) (eV 3))) (eFrz (lLst (aNil))))
def h_u_law_all_refused (t : CTok) (φ : MF) : MF := fnMx 1 (F_u_law_all_refused t φ)
/-! _law_bad_webs: some 0, pair 1, ring 2 -/
def F_u_law_bad_webs : SF :=
  sSeq (sAsg (eNew (lLst (aCons (eC .non) (aCons (eTup (aNil)) (aCons (eTup (aCons (eTup (aCons (eTup (aCons (eC (.int 0)) (aCons (eC (.int 1)) (aNil)))) (aNil))) (aNil))) (aCons (eFrz (lLst (aCons (eTup (aCons (eTup (aCons (eC (.int 0)) (aCons (eC (.int 1)) (aNil)))) (aNil))) (aCons (eTup (aNil)) (aNil))))) (aCons (eTup (aCons (eTup (aCons (eTup (aCons (eC (.int 2)) (aCons (eC (.int 1)) (aNil)))) (aNil))) (aCons (eTup (aNil)) (aNil)))) (aCons (eTup (aCons (eTup (aNil)) (aCons (eTup (aNil)) (aNil)))) (aCons (eTup (aCons (e2 mulD (eTup (aCons (eTup (aCons (eC (.int 0)) (aCons (eC (.int 1)) (aNil)))) (aNil))) (eC (.int 6))) (aCons (eTup (aNil)) (aNil)))) (aCons (eTup (aCons (eTup (aCons (eTup (aCons (e1 negD (eC (.int 1))) (aCons (eC (.int 1)) (aNil)))) (aNil))) (aCons (eTup (aNil)) (aNil)))) (aNil))))))))))) (gN 0))
  (sSeq (sAsg (eTup (aCons (eTup (aCons (eC (.int 0)) (aCons (eC (.int 1)) (aNil)))) (aCons (eTup (aCons (eC (.int 0)) (aCons (eC (.int 1)) (aNil)))) (aNil)))) (gN 1))
  (sSeq (sAsg (eNew (lCat (eV 0) (eFrz (lLst (aCons (eTup (aCons (eV 1) (aCons (eTup (aCons (eTup (aCons (eC (.int 1)) (aCons (eC (.int 0)) (aCons (eC (.int 1)) (aNil))))) (aNil))) (aNil)))) (aCons (eTup (aCons (eV 1) (aCons (eTup (aCons (eTup (aCons (eC (.int 0)) (aCons (eC (.int 0)) (aCons (eC (.int 1)) (aNil))))) (aNil))) (aNil)))) (aCons (eTup (aCons (eV 1) (aCons (eTup (aCons (eTup (aCons (eC (.int 0)) (aCons (eC (.int 2)) (aCons (eC (.int 1)) (aNil))))) (aNil))) (aNil)))) (aCons (eTup (aCons (eV 1) (aCons (eTup (aCons (eTup (aCons (eC (.int 0)) (aCons (eC (.int 1)) (aCons (eC (.int 0)) (aNil))))) (aNil))) (aNil)))) (aNil))))))))) (gN 0))
  (sSeq (sAsg (eNew (lCat (eV 0) (eFrz (lLst (aCons (eTup (aCons (eV 1) (aCons (eTup (aCons (eTup (aCons (eC (.int 0)) (aCons (eC (.int 1)) (aCons (eC (.int 1)) (aNil))))) (aCons (eTup (aCons (eC (.int 0)) (aCons (eC (.int 1)) (aCons (eC (.int 2)) (aNil))))) (aNil)))) (aNil)))) (aCons (eTup (aCons (eV 1) (aCons (eFrz (lLst (aCons (eTup (aCons (eC (.int 0)) (aCons (eC (.int 1)) (aCons (eC (.int 1)) (aNil))))) (aNil)))) (aNil)))) (aCons (eTup (aCons (eV 1) (aCons (eTup (aCons (eTup (aCons (eC (.int 0)) (aCons (eC (.int 1)) (aNil)))) (aNil))) (aNil)))) (aCons (eTup (aCons (eN listD (aCons (eV 1) (aNil))) (aCons (eTup (aNil)) (aNil)))) (aNil))))))))) (gN 0))
  (sSeq (sAsg (eNew (lCat (eV 0) (eFrz (lLst (aCons (eTup (aCons (eTup (aCons (eTup (aCons (eC (.int 0)) (aCons (eC (.bl true)) (aNil)))) (aNil))) (aCons (eTup (aNil)) (aNil)))) (aCons (eTup (aCons (eTup (aCons (eTup (aCons (eC (.int 0)) (aCons (e2 addD (e2 powD (eC (.int 10)) (eC (.int 30))) (eC (.int 1))) (aNil)))) (aNil))) (aCons (eTup (aNil)) (aNil)))) (aCons (eTup (aCons (eV 1) (aCons (eTup (aCons (eTup (aCons (eC (.int 0)) (aCons (eC (.int 1)) (aCons (e2 addD (e2 powD (eC (.int 10)) (eC (.int 30))) (eC (.int 1))) (aNil))))) (aNil))) (aNil)))) (aNil)))))))) (gN 0))
  (sSeq (sExp (eApp (eV 0) (eTup (aCons (eV 1) (aCons (eTup (aCons (eTup (aCons (eC (.int 0)) (aCons (eC (.int 1)) (aCons (eC (.bl true)) (aNil))))) (aNil))) (aNil))))))
  (sSeq (sAsg (eTup (aCons (eTup (aCons (eC (.int 0)) (aCons (eC (.int 1)) (aCons (eC (.int 1)) (aNil))))) (aCons (eTup (aCons (eC (.int 0)) (aCons (eC (.int 2)) (aCons (eC (.int 1)) (aNil))))) (aCons (eTup (aCons (eC (.int 1)) (aCons (eC (.int 2)) (aCons (eC (.int 1)) (aNil))))) (aNil))))) (gN 2))
  (sRet (e2 addD (eV 0) (eFrz (lLst (aCons (eTup (aCons (e2 mulD (eTup (aCons (eTup (aCons (eC (.int 0)) (aCons (eC (.int 1)) (aNil)))) (aNil))) (eC (.int 3))) (aCons (e1 revD (eV 2)) (aNil)))) (aCons (eTup (aCons (eTup (aCons (eTup (aCons (eC (.int 0)) (aCons (eC (.int 1)) (aCons (eC (.int 2)) (aNil))))) (aNil))) (aCons (eTup (aNil)) (aNil)))) (aCons (eTup (aCons (eC (.str "ab")) (aCons (eTup (aNil)) (aNil)))) (aCons (eTup (aCons (eTup (aCons (eTup (aCons (eC (.int 0)) (aCons (eC (.int 1)) (aNil)))) (aNil))) (aCons (eTup (aNil)) (aCons (eTup (aNil)) (aNil))))) (aNil)))))))))))))))
def p_u_law_bad_webs : PF := fnPx 3 F_u_law_bad_webs
/-! _law_good_web: value 0, place 1, before 2, row 3 -/
def F_u_law_good_web : SF :=
  sSeq (sIf (bOr (bNot (bV (eIsI "tuple" (eV 0)))) (bOr (bV (e2 neD (eN lenD (aCons (eV 0) (aNil))) (eC (.int 2)))) (bNot (bV (eIsI "tuple" (e2 ixD (eV 0) (eC (.int 0)))))))) (sRet (eC (.bl false))) (sNil))
  (sSeq (sIf (bOr (bNot (bV (eChn leI leI (eC (.int 1)) (eN lenD (aCons (e2 ixD (eV 0) (eC (.int 0))) (aNil))) (eC (.int 5))))) (bOr (bNot (bV (eIsI "tuple" (e2 ixD (eV 0) (eC (.int 1)))))) (bV (e2 gtD (eN lenD (aCons (e2 ixD (eV 0) (eC (.int 1))) (aNil))) (eC (.int 10)))))) (sRet (eC (.bl false))) (sNil))
  (sSeq (sFor (sSq (e2 ixD (eV 0) (eC (.int 0)))) (gN 1) (sSeq (sIf (bOr (bNot (bV (eIsI "tuple" (eV 1)))) (bOr (bV (e2 neD (eN lenD (aCons (eV 1) (aNil))) (eC (.int 2)))) (bNot (bV (eCall 3 p_u_law_whole (aCons (e2 ixD (eV 1) (eC (.int 0))) (aCons (eC (.int 0)) (aCons (e2 powD (eC (.int 10)) (eC (.int 30))) (aNil))))))))) (sRet (eC (.bl false))) (sNil))
  (sIf (bNot (bV (eCall 3 p_u_law_whole (aCons (e2 ixD (eV 1) (eC (.int 1))) (aCons (e2 ixD (eV 1) (eC (.int 0))) (aCons (e2 powD (eC (.int 10)) (eC (.int 30))) (aNil))))))) (sRet (eC (.bl false))) (sNil))))
  (sSeq (sAsg (eTup (aCons (e1 negD (eC (.int 1))) (aCons (e1 negD (eC (.int 1))) (aNil)))) (gN 2))
  (sSeq (sFor (sSq (e2 ixD (eV 0) (eC (.int 1)))) (gN 3) (sSeq (sIf (bOr (bNot (bV (eIsI "tuple" (eV 3)))) (bOr (bV (e2 neD (eN lenD (aCons (eV 3) (aNil))) (eC (.int 3)))) (bNot (bV (eCall 3 p_u_law_whole (aCons (e2 ixD (eV 3) (eC (.int 0))) (aCons (eC (.int 0)) (aCons (e2 subD (eN lenD (aCons (e2 ixD (eV 0) (eC (.int 0))) (aNil))) (eC (.int 1))) (aNil))))))))) (sRet (eC (.bl false))) (sNil))
  (sSeq (sIf (bOr (bNot (bV (eCall 3 p_u_law_whole (aCons (e2 ixD (eV 3) (eC (.int 1))) (aCons (e2 addD (e2 ixD (eV 3) (eC (.int 0))) (eC (.int 1))) (aCons (e2 subD (eN lenD (aCons (e2 ixD (eV 0) (eC (.int 0))) (aNil))) (eC (.int 1))) (aNil))))))) (bNot (bV (eCall 3 p_u_law_whole (aCons (e2 ixD (eV 3) (eC (.int 2))) (aCons (eC (.int 1)) (aCons (e2 powD (eC (.int 10)) (eC (.int 30))) (aNil)))))))) (sRet (eC (.bl false))) (sNil))
  (sSeq (sIf (bV (e2 leD (eSl (eV 3) (pNone) (pSome (eC (.int 2)))) (eV 2))) (sRet (eC (.bl false))) (sNil))
  (sAsg (eSl (eV 3) (pNone) (pSome (eC (.int 2)))) (gN 2))))))
  (sRet (eC (.bl true)))))))
def p_u_law_good_web : PF := fnPx 3 F_u_law_good_web
/-! _law_bent: bag 0, value 1, at 2, way 3, some 4 -/
def F_u_law_bent (rec : MF) : SF :=
  sSeq (sIf (bAnd (bV (eIsI "int" (eV 1))) (bAnd (bNot (bV (eIsI "bool" (eV 1)))) (bV (e2 gtD (eCallM 2 m_u_law_take (aCons (eV 0) (aCons (eC (.int 3)) (aNil)))) (eC (.int 0)))))) (sRet (eCallM 2 m_u_law_choice (aCons (eV 0) (aCons (eFrz (lLst (aCons (e2 addD (eV 1) (eC (.int 1))) (aCons (e2 subD (eV 1) (eC (.int 1))) (aCons (e1 negD (eV 1)) (aCons (eC (.bl true)) (aCons (e2 powD (eC (.int 10)) (eC (.int 30))) (aCons (e2 addD (e2 powD (eC (.int 10)) (eC (.int 30))) (eC (.int 1))) (aCons (eN strD (aCons (eV 1) (aNil))) (aNil)))))))))) (aNil))))) (sNil))
  (sSeq (sIf (bOr (bNot (bV (eIsI "tuple" (eV 1)))) (bOr (bV (e2 eqD (eV 1) (eTup (aNil)))) (bV (e2 eqD (eCallM 2 m_u_law_take (aCons (eV 0) (aCons (eC (.int 6)) (aNil)))) (eC (.int 0)))))) (sSeq (sAsg (eFrz (lLst (aCons (eC .non) (aCons (eC (.int 0)) (aCons (eC (.int 1)) (aCons (e1 negD (eC (.int 1))) (aCons (eC (.int 2)) (aCons (eC (.bl true)) (aCons (eC (.str "")) (aCons (eC (.str "12")) (aCons (eTup (aNil)) (aCons (eTup (aCons (eC (.int 0)) (aCons (eC (.int 1)) (aNil)))) (aCons (eTup (aCons (eC (.int 0)) (aCons (eC (.int 1)) (aCons (eC (.int 1)) (aNil))))) (aCons (eTup (aCons (eTup (aCons (eC (.int 0)) (aCons (eC (.int 1)) (aNil)))) (aNil))) (aCons (eFrz (lLst (aNil))) (aNil)))))))))))))))) (gN 4))
  (sRet (eCallM 2 m_u_law_choice (aCons (eV 0) (aCons (eV 4) (aNil)))))) (sNil))
  (sSeq (sPar 2 3 (eCallM 2 m_u_law_take (aCons (eV 0) (aCons (eN lenD (aCons (eV 1) (aNil))) (aNil)))) (eCallM 2 m_u_law_take (aCons (eV 0) (aCons (eC (.int 8)) (aNil)))))
  (sSeq (sIf (bV (e2 eqD (eV 3) (eC (.int 0)))) (sRet (e2 addD (eSl (eV 1) (pNone) (pSome (eV 2))) (eSl (eV 1) (pSome (e2 addD (eV 2) (eC (.int 1)))) (pNone)))) (sNil))
  (sSeq (sIf (bV (e2 eqD (eV 3) (eC (.int 1)))) (sRet (e2 addD (e2 addD (eSl (eV 1) (pNone) (pSome (eV 2))) (eSl (eV 1) (pSome (eV 2)) (pSome (e2 addD (eV 2) (eC (.int 1)))))) (eSl (eV 1) (pSome (eV 2)) (pNone)))) (sNil))
  (sSeq (sIf (bV (e2 eqD (eV 3) (eC (.int 2)))) (sRet (e1 revD (eV 1))) (sNil))
  (sSeq (sIf (bV (e2 eqD (eV 3) (eC (.int 3)))) (sRet (eN listD (aCons (eV 1) (aNil)))) (sNil))
  (sRet (e2 addD (e2 addD (eSl (eV 1) (pNone) (pSome (eV 2))) (eTup (aCons (eCallM 2 rec (aCons (eV 0) (aCons (e2 ixD (eV 1) (eV 2)) (aNil)))) (aNil)))) (eSl (eV 1) (pSome (e2 addD (eV 2) (eC (.int 1)))) (pNone))))))))))
def m_u_law_bent : Nat → MF
  | 0 => fun _ _ => .no
  | n + 1 => fnMx 3 (F_u_law_bent (m_u_law_bent n))
/-! _law_refused: one 0, call 1, many 2, odds 3, rest 4, odd 5 -/
def F_u_law_refused : SF :=
  sSeq (sFor (sSq (eTup (aCons (eC (.fn "is_choice")) (aCons (eC (.fn "sums")) (aCons (eC (.fn "fits")) (aNil)))))) (gN 1) (sIf (bNot (bV (eCallH 3 h_u_law_all_refused (xLam (aCons (eCall0 p_u_law_bad_webs) (aCons (eC (.str "web")) (aNil)))) 1 [1] (eCallV 1 2 [("is_choice", p_is_choice), ("sums", p_sums), ("fits", p_fits)] (aCons (eV 0) (aCons (eC .non) (aNil))))))) (sRet (eC (.bl false))) (sNil)))
  (sSeq (sAsg (eN lenD (aCons (e2 ixD (eV 0) (eC (.int 1))) (aNil))) (gN 2))
  (sSeq (sAsg (eFrz (lLst (aCons (eC .non) (aCons (e2 mulD (eTup (aCons (eC (.int 0)) (aNil))) (e2 addD (eV 2) (eC (.int 1)))) (aCons (e2 mulD (eFrz (lLst (aCons (eC (.int 0)) (aNil)))) (eV 2)) (aCons (e2 mulD (eTup (aCons (e1 negD (eC (.int 1))) (aNil))) (e2 addD (eV 2) (eC (.int 1)))) (aCons (eC (.str "0")) (aCons (eC (.int 5)) (aNil))))))))) (gN 3))
  (sSeq (sIf (bV (e2 gtD (eV 2) (eC (.int 0)))) (sSeq (sAsg (e2 mulD (eTup (aCons (eC (.int 0)) (aNil))) (e2 subD (eV 2) (eC (.int 1)))) (gN 4))
  (sAsg (e2 addD (eV 3) (eFrz (lLst (aCons (e2 addD (eTup (aCons (eC (.bl true)) (aNil))) (eV 4)) (aCons (e2 addD (eTup (aCons (e2 addD (e2 ixD (e2 ixD (e2 ixD (eV 0) (eC (.int 1))) (eC (.int 0))) (eC (.int 2))) (eC (.int 1))) (aNil))) (eV 4)) (aNil)))))) (gN 3))) (sNil))
  (sSeq (sFor (sSq (eTup (aCons (eC (.fn "sums")) (aCons (eC (.fn "fits")) (aNil))))) (gN 1) (sIf (bNot (bV (eCallH 3 h_u_law_all_refused (xLam (aCons (eV 3) (aCons (eC (.str "choice")) (aNil)))) 1 [1, 0] (eCallV 1 2 [("is_choice", p_is_choice), ("sums", p_sums), ("fits", p_fits)] (aCons (eV 2) (aCons (eV 0) (aNil))))))) (sRet (eC (.bl false))) (sNil)))
  (sRet (e2 eqD (eFrz (lLc [5] (sSq (eV 3)) (gN 5) (bV (e2 isnD (eCall 2 p_is_choice (aCons (eV 0) (aCons (eV 5) (aNil)))) (eC (.bl false)))) (eV 5))) (eFrz (lLst (aNil)))))))))
def p_u_law_refused : PF := fnPx 5 F_u_law_refused
/-! law: script 0, k 1, five 2, all_so 3, one 4, first 5, second 6, third 7, fourth 8, fifth 9, bag 10, picks_so 11, value 12, turn 13, other 14, limit 15 -/
def F_law : SF :=
  sSeq (sFor (sRng1 (eC (.int 8))) (gN 1) (sSeq (sAsg (eCallM 2 m_u_law_bag (aCons (eV 0) (aCons (eV 1) (aNil)))) (gN 10))
  (sSeq (sAsg (eCallM 2 m_u_law_choice (aCons (eV 10) (aCons (eFrz (lLst (aCons (eCallM 1 m_u_law_web (aCons (eV 10) (aNil))) (aCons (eCallM 1 m_u_law_great_web (aCons (eV 10) (aNil))) (aNil))))) (aNil)))) (gN 4))
  (sSeq (sAsg (eN tupleD (aCons (eFrz (lLc [5, 14, 15] (sSq (e2 ixD (eV 4) (eC (.int 1)))) (gT [gN 5, gN 14, gN 15]) (bYes) (eCallM 2 m_u_law_choice (aCons (eV 10) (aCons (eFrz (lLst (aCons (eC (.int 0)) (aCons (eC (.int 1)) (aCons (eV 15) (aCons (e2 fdivD (eV 15) (eC (.int 2))) (aNil))))))) (aNil)))))) (aNil))) (gN 11))
  (sSeq (sIf (bV (e2 neD (eCall 2 p_sums (aCons (eV 4) (aCons (eV 11) (aNil)))) (eN tupleD (aCons (eCall 2 p_u_law_sums (aCons (eV 4) (aCons (eV 11) (aNil)))) (aNil))))) (sRet (eC (.bl false))) (sNil))
  (sSeq (sIf (bNot (bV (eCall 2 p_u_law_truly (aCons (eCall 2 p_fits (aCons (eV 4) (aCons (eV 11) (aNil)))) (aCons (e2 eqD (eCall 2 p_u_law_misses (aCons (eV 4) (aCons (eV 11) (aNil)))) (eC (.int 0))) (aNil)))))) (sRet (eC (.bl false))) (sNil))
  (sSeq (sFor (sSq (eFrz (lLst (aCons (eV 4) (aCons (eV 4) (aCons (eV 11) (aNil))))))) (gN 12) (sFor (sRng1 (eC (.int 6))) (gN 13) (sSeq (sIf (bNot (bV (eCall 2 p_u_law_truly (aCons (eCall 1 p_is_web (aCons (eV 12) (aNil))) (aCons (eCall 1 p_u_law_good_web (aCons (eV 12) (aNil))) (aNil)))))) (sRet (eC (.bl false))) (sNil))
  (sSeq (sIf (bNot (bV (eCall 2 p_u_law_truly (aCons (eCall 2 p_is_choice (aCons (eV 4) (aCons (eV 12) (aNil)))) (aCons (eCall 2 p_u_law_is_choice (aCons (eV 4) (aCons (eV 12) (aNil)))) (aNil)))))) (sRet (eC (.bl false))) (sNil))
  (sAsg (eCallM 2 (m_u_law_bent 16) (aCons (eV 10) (aCons (eV 12) (aNil)))) (gN 12))))))
  (sIf (bNot (bV (eCall 1 p_u_law_refused (aCons (eV 4) (aNil))))) (sRet (eC (.bl false))) (sNil)))))))))
  (sSeq (sIf (bV (e2 neD (eFrz (lLc [4] (sSq (eCall0 p_u_law_bad_webs)) (gN 4) (bV (e2 isnD (eCall 1 p_is_web (aCons (eV 4) (aNil))) (eC (.bl false)))) (eV 4))) (eFrz (lLst (aNil))))) (sRet (eC (.bl false))) (sNil))
  (sSeq (sIf (bV (e2 neD (eFrz (lLc [4] (sSq (eCall0 p_u_law_known)) (gN 4) (bV (e2 isnD (eCall 1 p_is_web (aCons (eV 4) (aNil))) (eC (.bl true)))) (eV 4))) (eFrz (lLst (aNil))))) (sRet (eC (.bl false))) (sNil))
  (sSeq (sAsg (e2 mulD (eTup (aCons (eTup (aCons (eC (.int 0)) (aCons (e2 powD (eC (.int 10)) (eC (.int 30))) (aNil)))) (aNil))) (eC (.int 5))) (gN 2))
  (sSeq (sAsg (eTup (aNil)) (gN 3))
  (sSeq (sFor (sRng1 (eC (.int 5))) (gN 4) (sAsg (e2 addD (eV 3) (eN tupleD (aCons (eFrz (lLc [14] (sRng2 (e2 addD (eV 4) (eC (.int 1))) (eC (.int 5))) (gN 14) (bYes) (eTup (aCons (eV 4) (aCons (eV 14) (aCons (e2 powD (eC (.int 10)) (eC (.int 30))) (aNil))))))) (aNil)))) (gN 3)))
  (sSeq (sIf (bOr (bV (e2 isnD (eCall 1 p_is_web (aCons (eTup (aCons (eV 2) (aCons (eV 3) (aNil)))) (aNil))) (eC (.bl true)))) (bV (e2 neD (eCall 2 p_sums (aCons (eTup (aCons (eV 2) (aCons (eV 3) (aNil)))) (aCons (e2 mulD (eTup (aCons (e2 powD (eC (.int 10)) (eC (.int 30))) (aNil))) (eC (.int 10))) (aNil)))) (e2 mulD (eTup (aCons (e2 mulD (eC (.int 4)) (e2 powD (eC (.int 10)) (eC (.int 30)))) (aNil))) (eC (.int 5)))))) (sRet (eC (.bl false))) (sNil))
  (sSeq (sAsg (eCall0 p_u_law_known) (gT [gN 5, gN 6, gN 7, gN 8, gN 9]))
  (sSeq (sIf (bOr (bV (e2 neD (eCall 2 p_sums (aCons (eV 5) (aCons (eTup (aCons (eC (.int 1)) (aCons (eC (.int 0)) (aCons (eC (.int 1)) (aNil))))) (aNil)))) (eTup (aCons (eC (.int 1)) (aCons (eC (.int 2)) (aCons (eC (.int 1)) (aNil))))))) (bOr (bV (e2 neD (eCall 2 p_sums (aCons (eV 7) (aCons (eTup (aCons (eC (.int 2)) (aCons (eC (.int 3)) (aNil)))) (aNil)))) (eTup (aCons (eC (.int 2)) (aCons (eC (.int 5)) (aCons (eC (.int 3)) (aNil))))))) (bV (e2 isnD (eCall 2 p_fits (aCons (eV 6) (aCons (eTup (aCons (eC (.int 1)) (aCons (eC (.int 1)) (aCons (eC (.int 0)) (aNil))))) (aNil)))) (eC (.bl true)))))) (sRet (eC (.bl false))) (sNil))
  (sRet (eAnd (e2 isD (eCall 2 p_fits (aCons (eV 5) (aCons (eTup (aCons (eC (.int 1)) (aCons (eC (.int 1)) (aCons (eC (.int 0)) (aNil))))) (aNil)))) (eC (.bl false))) (eAnd (e2 isD (eCall 2 p_fits (aCons (eV 8) (aCons (eTup (aCons (eC (.int 2)) (aCons (eC (.int 1)) (aNil)))) (aNil)))) (eC (.bl true))) (e2 isD (eCall 2 p_fits (aCons (eTup (aCons (eTup (aCons (eTup (aCons (eC (.int 0)) (aCons (eC (.int 1)) (aNil)))) (aNil))) (aCons (eTup (aNil)) (aNil)))) (aCons (eTup (aNil)) (aNil)))) (eC (.bl true))))))))))))))
def p_law : PF := fnPx 15 F_law
end
end Bt

set_option Elab.async false
set_option linter.all false
set_option maxRecDepth 100000
set_option maxHeartbeats 4000000
/-! the walk: each def does what its plain function says (printed by gen2.py) -/
namespace Bt
open PySem PySem.Spec PyProof.Rows L2 L2N LamX NdefX DL
variable [TabCtx]
def topS (i : Nat) : Stmt := PySem.Challenge.pw_betweenties_k01_webs_and_choices_known.main.body.getD i (.Pass ⟨0, 0, 0, 0⟩)
abbrev s_is_whole : Stmt := topS 18
abbrev N_is_whole : List Str := ["value", "low", "high"]
abbrev a_is_whole : List Str := ["value", "low", "high"]
theorem sc_is_whole : FnScope N_is_whole a_is_whole (defScope s_is_whole) := ⟨rfl, rfl, rfl, by decide +kernel, rfl, by decide +kernel, by decide +kernel⟩
abbrev s_fits_stretch : Stmt := topS 19
abbrev N_fits_stretch : List Str := ["value"]
abbrev a_fits_stretch : List Str := ["value"]
theorem sc_fits_stretch : FnScope N_fits_stretch a_fits_stretch (defScope s_fits_stretch) := ⟨rfl, rfl, rfl, by decide +kernel, rfl, by decide +kernel, by decide +kernel⟩
abbrev s_fits_tie : Stmt := topS 20
abbrev N_fits_tie : List Str := ["value", "many"]
abbrev a_fits_tie : List Str := ["value", "many"]
theorem sc_fits_tie : FnScope N_fits_tie a_fits_tie (defScope s_fits_tie) := ⟨rfl, rfl, rfl, by decide +kernel, rfl, by decide +kernel, by decide +kernel⟩
abbrev s_fits_web : Stmt := topS 21
abbrev N_fits_web : List Str := ["value", "places", "ties", "one", "other"]
abbrev a_fits_web : List Str := ["value"]
theorem sc_fits_web : FnScope N_fits_web a_fits_web (defScope s_fits_web) := ⟨rfl, rfl, rfl, by decide +kernel, rfl, by decide +kernel, by decide +kernel⟩
abbrev s_fits_choice : Stmt := topS 22
abbrev N_fits_choice : List Str := ["web", "value", "one", "tie"]
abbrev a_fits_choice : List Str := ["web", "value"]
theorem sc_fits_choice : FnScope N_fits_choice a_fits_choice (defScope s_fits_choice) := ⟨rfl, rfl, rfl, by decide +kernel, rfl, by decide +kernel, by decide +kernel⟩
abbrev s_need_web : Stmt := topS 23
abbrev N_need_web : List Str := ["value"]
abbrev a_need_web : List Str := ["value"]
theorem sc_need_web : FnScope N_need_web a_need_web (defScope s_need_web) := ⟨rfl, rfl, rfl, by decide +kernel, rfl, by decide +kernel, by decide +kernel⟩
abbrev s_need_choice : Stmt := topS 24
abbrev N_need_choice : List Str := ["web", "value"]
abbrev a_need_choice : List Str := ["web", "value"]
theorem sc_need_choice : FnScope N_need_choice a_need_choice (defScope s_need_choice) := ⟨rfl, rfl, rfl, by decide +kernel, rfl, by decide +kernel, by decide +kernel⟩
abbrev s_sums_of : Stmt := topS 25
abbrev N_sums_of : List Str := ["web", "picks", "found", "one", "other", "limit", "many", "place"]
abbrev a_sums_of : List Str := ["web", "picks"]
theorem sc_sums_of : FnScope N_sums_of a_sums_of (defScope s_sums_of) := ⟨rfl, rfl, rfl, by decide +kernel, rfl, by decide +kernel, by decide +kernel⟩
abbrev s_missing_of : Stmt := topS 26
abbrev N_missing_of : List Str := ["web", "picks", "total", "least", "most", "size"]
abbrev a_missing_of : List Str := ["web", "picks"]
theorem sc_missing_of : FnScope N_missing_of a_missing_of (defScope s_missing_of) := ⟨rfl, rfl, rfl, by decide +kernel, rfl, by decide +kernel, by decide +kernel⟩
abbrev s_is_web : Stmt := topS 27
abbrev N_is_web : List Str := ["value"]
abbrev a_is_web : List Str := ["value"]
theorem sc_is_web : FnScope N_is_web a_is_web (defScope s_is_web) := ⟨rfl, rfl, rfl, by decide +kernel, rfl, by decide +kernel, by decide +kernel⟩
abbrev s_is_choice : Stmt := topS 28
abbrev N_is_choice : List Str := ["web", "value"]
abbrev a_is_choice : List Str := ["web", "value"]
theorem sc_is_choice : FnScope N_is_choice a_is_choice (defScope s_is_choice) := ⟨rfl, rfl, rfl, by decide +kernel, rfl, by decide +kernel, by decide +kernel⟩
abbrev s_sums : Stmt := topS 29
abbrev N_sums : List Str := ["web", "picks"]
abbrev a_sums : List Str := ["web", "picks"]
theorem sc_sums : FnScope N_sums a_sums (defScope s_sums) := ⟨rfl, rfl, rfl, by decide +kernel, rfl, by decide +kernel, by decide +kernel⟩
abbrev s_fits : Stmt := topS 30
abbrev N_fits : List Str := ["web", "picks"]
abbrev a_fits : List Str := ["web", "picks"]
theorem sc_fits : FnScope N_fits a_fits (defScope s_fits) := ⟨rfl, rfl, rfl, by decide +kernel, rfl, by decide +kernel, by decide +kernel⟩
abbrev s_u_law_cell : Stmt := topS 32
abbrev N_u_law_cell : List Str := ["script", "k"]
abbrev a_u_law_cell : List Str := ["script", "k"]
theorem sc_u_law_cell : FnScope N_u_law_cell a_u_law_cell (defScope s_u_law_cell) := ⟨rfl, rfl, rfl, by decide +kernel, rfl, by decide +kernel, by decide +kernel⟩
abbrev s_u_law_draws : Stmt := topS 33
abbrev N_u_law_draws : List Str := ["script", "k", "many", "base", "primes", "cell", "rest", "row", "j", "mash"]
abbrev a_u_law_draws : List Str := ["script", "k", "many", "base"]
theorem sc_u_law_draws : FnScope N_u_law_draws a_u_law_draws (defScope s_u_law_draws) := ⟨rfl, rfl, rfl, by decide +kernel, rfl, by decide +kernel, by decide +kernel⟩
abbrev s_u_law_bag : Stmt := topS 34
abbrev N_u_law_bag : List Str := ["script", "k"]
abbrev a_u_law_bag : List Str := ["script", "k"]
theorem sc_u_law_bag : FnScope N_u_law_bag a_u_law_bag (defScope s_u_law_bag) := ⟨rfl, rfl, rfl, by decide +kernel, rfl, by decide +kernel, by decide +kernel⟩
abbrev s_u_law_take : Stmt := topS 35
abbrev N_u_law_take : List Str := ["bag", "many", "draw"]
abbrev a_u_law_take : List Str := ["bag", "many"]
theorem sc_u_law_take : FnScope N_u_law_take a_u_law_take (defScope s_u_law_take) := ⟨rfl, rfl, rfl, by decide +kernel, rfl, by decide +kernel, by decide +kernel⟩
abbrev s_u_law_choice : Stmt := topS 36
abbrev N_u_law_choice : List Str := ["bag", "some"]
abbrev a_u_law_choice : List Str := ["bag", "some"]
theorem sc_u_law_choice : FnScope N_u_law_choice a_u_law_choice (defScope s_u_law_choice) := ⟨rfl, rfl, rfl, by decide +kernel, rfl, by decide +kernel, by decide +kernel⟩
abbrev s_u_law_known : Stmt := topS 37
abbrev N_u_law_known : List Str := ["ring", "some"]
abbrev a_u_law_known : List Str := []
theorem sc_u_law_known : FnScope N_u_law_known a_u_law_known (defScope s_u_law_known) := ⟨rfl, rfl, rfl, by decide +kernel, rfl, by decide +kernel, by decide +kernel⟩
abbrev s_u_law_ties : Stmt := topS 38
abbrev N_u_law_ties : List Str := ["bag", "many", "most", "limit", "found", "one", "other"]
abbrev a_u_law_ties : List Str := ["bag", "many", "most", "limit"]
theorem sc_u_law_ties : FnScope N_u_law_ties a_u_law_ties (defScope s_u_law_ties) := ⟨rfl, rfl, rfl, by decide +kernel, rfl, by decide +kernel, by decide +kernel⟩
abbrev s_u_law_web : Stmt := topS 39
abbrev N_u_law_web : List Str := ["bag", "many", "ties_so", "places_so", "narrow", "place", "least"]
abbrev a_u_law_web : List Str := ["bag"]
theorem sc_u_law_web : FnScope N_u_law_web a_u_law_web (defScope s_u_law_web) := ⟨rfl, rfl, rfl, by decide +kernel, rfl, by decide +kernel, by decide +kernel⟩
abbrev s_u_law_great_web : Stmt := topS 40
abbrev N_u_law_great_web : List Str := ["bag", "many", "ties_so", "unit", "places_so", "place", "least", "one", "other", "limit"]
abbrev a_u_law_great_web : List Str := ["bag"]
theorem sc_u_law_great_web : FnScope N_u_law_great_web a_u_law_great_web (defScope s_u_law_great_web) := ⟨rfl, rfl, rfl, by decide +kernel, rfl, by decide +kernel, by decide +kernel⟩
abbrev s_u_law_sums : Stmt := topS 41
abbrev N_u_law_sums : List Str := ["web", "picks_so", "found", "one", "other", "limit", "many", "place"]
abbrev a_u_law_sums : List Str := ["web", "picks_so"]
theorem sc_u_law_sums : FnScope N_u_law_sums a_u_law_sums (defScope s_u_law_sums) := ⟨rfl, rfl, rfl, by decide +kernel, rfl, by decide +kernel, by decide +kernel⟩
abbrev s_u_law_misses : Stmt := topS 42
abbrev N_u_law_misses : List Str := ["web", "picks_so", "total", "least", "most", "size"]
abbrev a_u_law_misses : List Str := ["web", "picks_so"]
theorem sc_u_law_misses : FnScope N_u_law_misses a_u_law_misses (defScope s_u_law_misses) := ⟨rfl, rfl, rfl, by decide +kernel, rfl, by decide +kernel, by decide +kernel⟩
abbrev s_u_law_whole : Stmt := topS 43
abbrev N_u_law_whole : List Str := ["value", "low", "high"]
abbrev a_u_law_whole : List Str := ["value", "low", "high"]
theorem sc_u_law_whole : FnScope N_u_law_whole a_u_law_whole (defScope s_u_law_whole) := ⟨rfl, rfl, rfl, by decide +kernel, rfl, by decide +kernel, by decide +kernel⟩
abbrev s_u_law_is_choice : Stmt := topS 44
abbrev N_u_law_is_choice : List Str := ["web", "value", "many", "tie_so"]
abbrev a_u_law_is_choice : List Str := ["web", "value"]
theorem sc_u_law_is_choice : FnScope N_u_law_is_choice a_u_law_is_choice (defScope s_u_law_is_choice) := ⟨rfl, rfl, rfl, by decide +kernel, rfl, by decide +kernel, by decide +kernel⟩
abbrev s_u_law_named_error : Stmt := topS 45
abbrev N_u_law_named_error : List Str := ["e", "some", "labels", "label", "good"]
abbrev a_u_law_named_error : List Str := ["e"]
theorem sc_u_law_named_error : FnScope N_u_law_named_error a_u_law_named_error (defScope s_u_law_named_error) := ⟨rfl, rfl, rfl, by decide +kernel, rfl, by decide +kernel, by decide +kernel⟩
abbrev s_u_law_error : Stmt := topS 46
abbrev N_u_law_error : List Str := ["call", "e"]
abbrev a_u_law_error : List Str := ["call"]
theorem sc_u_law_error : FnScope N_u_law_error a_u_law_error (defScope s_u_law_error) := ⟨rfl, rfl, rfl, by decide +kernel, rfl, by decide +kernel, by decide +kernel⟩
abbrev s_u_law_truly : Stmt := topS 47
abbrev N_u_law_truly : List Str := ["found", "due"]
abbrev a_u_law_truly : List Str := ["found", "due"]
theorem sc_u_law_truly : FnScope N_u_law_truly a_u_law_truly (defScope s_u_law_truly) := ⟨rfl, rfl, rfl, by decide +kernel, rfl, by decide +kernel, by decide +kernel⟩
abbrev s_u_law_all_refused : Stmt := topS 48
abbrev N_u_law_all_refused : List Str := ["call", "odds", "name", "odd"]
abbrev a_u_law_all_refused : List Str := ["call", "odds", "name"]
theorem sc_u_law_all_refused : FnScope N_u_law_all_refused a_u_law_all_refused (defScope s_u_law_all_refused) := ⟨rfl, rfl, rfl, by decide +kernel, rfl, by decide +kernel, by decide +kernel⟩
abbrev s_u_law_bad_webs : Stmt := topS 49
abbrev N_u_law_bad_webs : List Str := ["some", "pair", "ring"]
abbrev a_u_law_bad_webs : List Str := []
theorem sc_u_law_bad_webs : FnScope N_u_law_bad_webs a_u_law_bad_webs (defScope s_u_law_bad_webs) := ⟨rfl, rfl, rfl, by decide +kernel, rfl, by decide +kernel, by decide +kernel⟩
abbrev s_u_law_good_web : Stmt := topS 50
abbrev N_u_law_good_web : List Str := ["value", "place", "before", "row"]
abbrev a_u_law_good_web : List Str := ["value"]
theorem sc_u_law_good_web : FnScope N_u_law_good_web a_u_law_good_web (defScope s_u_law_good_web) := ⟨rfl, rfl, rfl, by decide +kernel, rfl, by decide +kernel, by decide +kernel⟩
abbrev s_u_law_bent : Stmt := topS 51
abbrev N_u_law_bent : List Str := ["bag", "value", "at", "way", "some"]
abbrev a_u_law_bent : List Str := ["bag", "value"]
theorem sc_u_law_bent : FnScope N_u_law_bent a_u_law_bent (defScope s_u_law_bent) := ⟨rfl, rfl, rfl, by decide +kernel, rfl, by decide +kernel, by decide +kernel⟩
abbrev s_u_law_refused : Stmt := topS 52
abbrev N_u_law_refused : List Str := ["one", "call", "many", "odds", "rest", "odd"]
abbrev a_u_law_refused : List Str := ["one"]
theorem sc_u_law_refused : FnScope N_u_law_refused a_u_law_refused (defScope s_u_law_refused) := ⟨rfl, rfl, rfl, by decide +kernel, rfl, by decide +kernel, by decide +kernel⟩
abbrev s_law : Stmt := topS 53
abbrev N_law : List Str := ["script", "k", "five", "all_so", "one", "first", "second", "third", "fourth", "fifth", "bag", "picks_so", "value", "turn", "other", "limit"]
abbrev a_law : List Str := ["script"]
theorem sc_law : FnScope N_law a_law (defScope s_law) := ⟨rfl, rfl, rfl, by decide +kernel, rfl, by decide +kernel, by decide +kernel⟩
/-- what the top leaves -/
structure Txt (mg : Str → Option Value) (K : PySem.W.Frag) where
  d_is_whole : DefOk mg K "is_whole" s_is_whole a_is_whole
  d_fits_stretch : DefOk mg K "fits_stretch" s_fits_stretch a_fits_stretch
  d_fits_tie : DefOk mg K "fits_tie" s_fits_tie a_fits_tie
  d_fits_web : DefOk mg K "fits_web" s_fits_web a_fits_web
  d_fits_choice : DefOk mg K "fits_choice" s_fits_choice a_fits_choice
  d_need_web : DefOk mg K "need_web" s_need_web a_need_web
  d_need_choice : DefOk mg K "need_choice" s_need_choice a_need_choice
  d_sums_of : DefOk mg K "sums_of" s_sums_of a_sums_of
  d_missing_of : DefOk mg K "missing_of" s_missing_of a_missing_of
  d_is_web : DefOk mg K "is_web" s_is_web a_is_web
  d_is_choice : DefOk mg K "is_choice" s_is_choice a_is_choice
  d_sums : DefOk mg K "sums" s_sums a_sums
  d_fits : DefOk mg K "fits" s_fits a_fits
  d_u_law_cell : DefOk mg K "_law_cell" s_u_law_cell a_u_law_cell
  d_u_law_draws : DefOk mg K "_law_draws" s_u_law_draws a_u_law_draws
  d_u_law_bag : DefOk mg K "_law_bag" s_u_law_bag a_u_law_bag
  d_u_law_take : DefOk mg K "_law_take" s_u_law_take a_u_law_take
  d_u_law_choice : DefOk mg K "_law_choice" s_u_law_choice a_u_law_choice
  d_u_law_known : DefOk mg K "_law_known" s_u_law_known a_u_law_known
  d_u_law_ties : DefOk mg K "_law_ties" s_u_law_ties a_u_law_ties
  d_u_law_web : DefOk mg K "_law_web" s_u_law_web a_u_law_web
  d_u_law_great_web : DefOk mg K "_law_great_web" s_u_law_great_web a_u_law_great_web
  d_u_law_sums : DefOk mg K "_law_sums" s_u_law_sums a_u_law_sums
  d_u_law_misses : DefOk mg K "_law_misses" s_u_law_misses a_u_law_misses
  d_u_law_whole : DefOk mg K "_law_whole" s_u_law_whole a_u_law_whole
  d_u_law_is_choice : DefOk mg K "_law_is_choice" s_u_law_is_choice a_u_law_is_choice
  d_u_law_named_error : DefOk mg K "_law_named_error" s_u_law_named_error a_u_law_named_error
  d_u_law_error : DefOk mg K "_law_error" s_u_law_error a_u_law_error
  d_u_law_truly : DefOk mg K "_law_truly" s_u_law_truly a_u_law_truly
  d_u_law_all_refused : DefOk mg K "_law_all_refused" s_u_law_all_refused a_u_law_all_refused
  d_u_law_bad_webs : DefOk mg K "_law_bad_webs" s_u_law_bad_webs a_u_law_bad_webs
  d_u_law_good_web : DefOk mg K "_law_good_web" s_u_law_good_web a_u_law_good_web
  d_u_law_bent : DefOk mg K "_law_bent" s_u_law_bent a_u_law_bent
  d_u_law_refused : DefOk mg K "_law_refused" s_u_law_refused a_u_law_refused
  d_law : DefOk mg K "law" s_law a_law
  m_ValueError : mg "ValueError" = none
  m_all : mg "all" = none
  m_bool : mg "bool" = none
  m_int : mg "int" = none
  m_isinstance : mg "isinstance" = none
  m_len : mg "len" = none
  m_list : mg "list" = none
  m_max : mg "max" = none
  m_range : mg "range" = none
  m_str : mg "str" = none
  m_tuple : mg "tuple" = none
  m_zip : mg "zip" = none
  c_PLACES : ∃ t, mg "PLACES" = some (.int 5 t)
  c_TIES : ∃ t, mg "TIES" = some (.int 10 t)
  c_FAR : ∃ t, mg "FAR" = some (.int 1000000000000000000000000000000 t)
  x_InvalidWeb : ExcOk mg K "InvalidWeb"
  x_InvalidChoice : ExcOk mg K "InvalidChoice"
  cTie : Addr
  gTie : mg "TieError" = some (.ref cTie)
  cn_InvalidWeb : Addr
  g_InvalidWeb : mg "InvalidWeb" = some (.ref cn_InvalidWeb)
  cn_InvalidChoice : Addr
  g_InvalidChoice : mg "InvalidChoice" = some (.ref cn_InvalidChoice)
  cn_InvalidLots : Addr
  g_InvalidLots : mg "InvalidLots" = some (.ref cn_InvalidLots)
  cn_InvalidTie : Addr
  g_InvalidTie : mg "InvalidTie" = some (.ref cn_InvalidTie)
  cn_InvalidPlace : Addr
  g_InvalidPlace : mg "InvalidPlace" = some (.ref cn_InvalidPlace)
  cn_InvalidNumber : Addr
  g_InvalidNumber : mg "InvalidNumber" = some (.ref cn_InvalidNumber)
  cn_InvalidPairs : Addr
  g_InvalidPairs : mg "InvalidPairs" = some (.ref cn_InvalidPairs)
  cn_InvalidText : Addr
  g_InvalidText : mg "InvalidText" = some (.ref cn_InvalidText)
  cn_Unlike : Addr
  g_Unlike : mg "Unlike" = some (.ref cn_Unlike)
  cn_NoChoice : Addr
  g_NoChoice : mg "NoChoice" = some (.ref cn_NoChoice)
  cn_NothingToUndo : Addr
  g_NothingToUndo : mg "NothingToUndo" = some (.ref cn_NothingToUndo)
  cn_TooMany : Addr
  g_TooMany : mg "TooMany" = some (.ref cn_TooMany)
  ec_InvalidWeb : ExcC K cn_InvalidWeb
  exm_InvalidWeb : PySem.W.exmOne K (.ref cn_InvalidWeb) (.ref cTie) = some true
  kv_InvalidWeb : PySem.W.kitOne K (.ref cn_InvalidWeb) (.type "ValueError") = some true
  kt_InvalidWeb_InvalidWeb : PySem.W.kitOne K (.ref cn_InvalidWeb) (.ref cn_InvalidWeb) = some true
  kt_InvalidWeb_InvalidChoice : PySem.W.kitOne K (.ref cn_InvalidWeb) (.ref cn_InvalidChoice) = some false
  kt_InvalidWeb_InvalidLots : PySem.W.kitOne K (.ref cn_InvalidWeb) (.ref cn_InvalidLots) = some false
  kt_InvalidWeb_InvalidTie : PySem.W.kitOne K (.ref cn_InvalidWeb) (.ref cn_InvalidTie) = some false
  kt_InvalidWeb_InvalidPlace : PySem.W.kitOne K (.ref cn_InvalidWeb) (.ref cn_InvalidPlace) = some false
  kt_InvalidWeb_InvalidNumber : PySem.W.kitOne K (.ref cn_InvalidWeb) (.ref cn_InvalidNumber) = some false
  kt_InvalidWeb_InvalidPairs : PySem.W.kitOne K (.ref cn_InvalidWeb) (.ref cn_InvalidPairs) = some false
  kt_InvalidWeb_InvalidText : PySem.W.kitOne K (.ref cn_InvalidWeb) (.ref cn_InvalidText) = some false
  kt_InvalidWeb_Unlike : PySem.W.kitOne K (.ref cn_InvalidWeb) (.ref cn_Unlike) = some false
  kt_InvalidWeb_NoChoice : PySem.W.kitOne K (.ref cn_InvalidWeb) (.ref cn_NoChoice) = some false
  kt_InvalidWeb_NothingToUndo : PySem.W.kitOne K (.ref cn_InvalidWeb) (.ref cn_NothingToUndo) = some false
  kt_InvalidWeb_TooMany : PySem.W.kitOne K (.ref cn_InvalidWeb) (.ref cn_TooMany) = some false
  ec_InvalidChoice : ExcC K cn_InvalidChoice
  exm_InvalidChoice : PySem.W.exmOne K (.ref cn_InvalidChoice) (.ref cTie) = some true
  kv_InvalidChoice : PySem.W.kitOne K (.ref cn_InvalidChoice) (.type "ValueError") = some true
  kt_InvalidChoice_InvalidWeb : PySem.W.kitOne K (.ref cn_InvalidChoice) (.ref cn_InvalidWeb) = some false
  kt_InvalidChoice_InvalidChoice : PySem.W.kitOne K (.ref cn_InvalidChoice) (.ref cn_InvalidChoice) = some true
  kt_InvalidChoice_InvalidLots : PySem.W.kitOne K (.ref cn_InvalidChoice) (.ref cn_InvalidLots) = some false
  kt_InvalidChoice_InvalidTie : PySem.W.kitOne K (.ref cn_InvalidChoice) (.ref cn_InvalidTie) = some false
  kt_InvalidChoice_InvalidPlace : PySem.W.kitOne K (.ref cn_InvalidChoice) (.ref cn_InvalidPlace) = some false
  kt_InvalidChoice_InvalidNumber : PySem.W.kitOne K (.ref cn_InvalidChoice) (.ref cn_InvalidNumber) = some false
  kt_InvalidChoice_InvalidPairs : PySem.W.kitOne K (.ref cn_InvalidChoice) (.ref cn_InvalidPairs) = some false
  kt_InvalidChoice_InvalidText : PySem.W.kitOne K (.ref cn_InvalidChoice) (.ref cn_InvalidText) = some false
  kt_InvalidChoice_Unlike : PySem.W.kitOne K (.ref cn_InvalidChoice) (.ref cn_Unlike) = some false
  kt_InvalidChoice_NoChoice : PySem.W.kitOne K (.ref cn_InvalidChoice) (.ref cn_NoChoice) = some false
  kt_InvalidChoice_NothingToUndo : PySem.W.kitOne K (.ref cn_InvalidChoice) (.ref cn_NothingToUndo) = some false
  kt_InvalidChoice_TooMany : PySem.W.kitOne K (.ref cn_InvalidChoice) (.ref cn_TooMany) = some false
  cc_u_law_all_refused : Addr
  pp_u_law_all_refused : Addr
  hc_u_law_all_refused : d_u_law_all_refused.fd.code = .ref cc_u_law_all_refused
  mem_u_law_all_refused : (pp_u_law_all_refused, ("_law_all_refused.<locals>." : Str) ++ "<lambda>") ∈ TabCtx.T
  hu_u_law_all_refused : ∀ p ∈ TabCtx.T, p.1 = pp_u_law_all_refused → p.2 = ("_law_all_refused.<locals>." : Str) ++ "<lambda>"
  cc_u_law_refused : Addr
  pp_u_law_refused : Addr
  hc_u_law_refused : d_u_law_refused.fd.code = .ref cc_u_law_refused
  mem_u_law_refused : (pp_u_law_refused, ("_law_refused.<locals>." : Str) ++ "<lambda>") ∈ TabCtx.T
  hu_u_law_refused : ∀ p ∈ TabCtx.T, p.1 = pp_u_law_refused → p.2 = ("_law_refused.<locals>." : Str) ++ "<lambda>"
/-- what the base holds -/
structure Bas {mg : Str → Option Value} {K : PySem.W.Frag} (T : Txt mg K) (base : Heap) : Prop where
  m : L2.Mod K mg base
  t_u_law_all_refused : TabB base mg T.cc_u_law_all_refused T.pp_u_law_all_refused
  t_u_law_refused : TabB base mg T.cc_u_law_refused T.pp_u_law_refused
theorem Bas.sub {mg : Str → Option Value} {K : PySem.W.Frag} {T : Txt mg K} {base base' : Heap} (B : Bas T base) (h : Sub base base') (m : L2.Mod K mg base') : Bas T base' := ⟨m, tabB_sub B.t_u_law_all_refused h, tabB_sub B.t_u_law_refused h⟩
section
variable {P : Program} {w : World} {K : PySem.W.Frag} {mg : Str → Option Value} {base : Heap}
theorem okE_cases {y : Exn} (h : okE y = true) : y.fs = none ∧ (y.cls = "InvalidWeb" ∨ y.cls = "InvalidChoice") := by
  obtain ⟨c, fs⟩ := y
  simp only [okE, errN, Bool.and_eq_true, List.contains_iff_mem, List.mem_cons, List.not_mem_nil, or_false, Option.isNone_iff_eq_none] at h
  exact h
theorem exmT (T : Txt mg K) : ∀ y, okE y = true → ∃ C, mg y.cls = some (.ref C) ∧ PySem.W.exmOne K (.ref C) (.ref T.cTie) = some true := fun y hy => by
  obtain ⟨c, fs⟩ := y
  obtain ⟨_, h⟩ := okE_cases hy
  dsimp only at h ⊢
  rcases h with rfl | rfl
  · exact ⟨_, T.g_InvalidWeb, T.exm_InvalidWeb⟩
  · exact ⟨_, T.g_InvalidChoice, T.exm_InvalidChoice⟩
def kitsL (T : Txt mg K) : List (Str × Addr) := [("InvalidWeb", T.cn_InvalidWeb), ("InvalidChoice", T.cn_InvalidChoice), ("InvalidLots", T.cn_InvalidLots), ("InvalidTie", T.cn_InvalidTie), ("InvalidPlace", T.cn_InvalidPlace), ("InvalidNumber", T.cn_InvalidNumber), ("InvalidPairs", T.cn_InvalidPairs), ("InvalidText", T.cn_InvalidText), ("Unlike", T.cn_Unlike), ("NoChoice", T.cn_NoChoice), ("NothingToUndo", T.cn_NothingToUndo), ("TooMany", T.cn_TooMany)]
theorem exFacts (T : Txt mg K) {y : Exn} {cls : Value} {d : Option Addr} (hy : okE y = true) (hx : ∃ C, mg y.cls = some (.ref C) ∧ cls = .ref C ∧ (y.fs = none → d = none)) : ∃ D, cls = .ref D ∧ d = none ∧ ExcC K D ∧ PySem.W.kitOne K (.ref D) (.type "ValueError") = some true ∧ ∀ n C, (n, C) ∈ kitsL T → PySem.W.kitOne K (.ref D) (.ref C) = some (isC y n) := by
  obtain ⟨c, fs⟩ := y
  obtain ⟨h0, h⟩ := okE_cases hy
  obtain ⟨C, h1, h2, h3⟩ := hx
  dsimp only at h h0 h1
  rcases h with rfl | rfl
  · rw [T.g_InvalidWeb] at h1; cases h1
    refine ⟨_, h2, h3 h0, T.ec_InvalidWeb, T.kv_InvalidWeb, fun n C hm => ?_⟩
    simp only [kitsL, List.mem_cons, List.not_mem_nil, or_false, Prod.mk.injEq] at hm
    rcases hm with ⟨rfl, rfl⟩ | ⟨rfl, rfl⟩ | ⟨rfl, rfl⟩ | ⟨rfl, rfl⟩ | ⟨rfl, rfl⟩ | ⟨rfl, rfl⟩ | ⟨rfl, rfl⟩ | ⟨rfl, rfl⟩ | ⟨rfl, rfl⟩ | ⟨rfl, rfl⟩ | ⟨rfl, rfl⟩ | ⟨rfl, rfl⟩
    · exact T.kt_InvalidWeb_InvalidWeb
    · exact T.kt_InvalidWeb_InvalidChoice
    · exact T.kt_InvalidWeb_InvalidLots
    · exact T.kt_InvalidWeb_InvalidTie
    · exact T.kt_InvalidWeb_InvalidPlace
    · exact T.kt_InvalidWeb_InvalidNumber
    · exact T.kt_InvalidWeb_InvalidPairs
    · exact T.kt_InvalidWeb_InvalidText
    · exact T.kt_InvalidWeb_Unlike
    · exact T.kt_InvalidWeb_NoChoice
    · exact T.kt_InvalidWeb_NothingToUndo
    · exact T.kt_InvalidWeb_TooMany
  · rw [T.g_InvalidChoice] at h1; cases h1
    refine ⟨_, h2, h3 h0, T.ec_InvalidChoice, T.kv_InvalidChoice, fun n C hm => ?_⟩
    simp only [kitsL, List.mem_cons, List.not_mem_nil, or_false, Prod.mk.injEq] at hm
    rcases hm with ⟨rfl, rfl⟩ | ⟨rfl, rfl⟩ | ⟨rfl, rfl⟩ | ⟨rfl, rfl⟩ | ⟨rfl, rfl⟩ | ⟨rfl, rfl⟩ | ⟨rfl, rfl⟩ | ⟨rfl, rfl⟩ | ⟨rfl, rfl⟩ | ⟨rfl, rfl⟩ | ⟨rfl, rfl⟩ | ⟨rfl, rfl⟩
    · exact T.kt_InvalidChoice_InvalidWeb
    · exact T.kt_InvalidChoice_InvalidChoice
    · exact T.kt_InvalidChoice_InvalidLots
    · exact T.kt_InvalidChoice_InvalidTie
    · exact T.kt_InvalidChoice_InvalidPlace
    · exact T.kt_InvalidChoice_InvalidNumber
    · exact T.kt_InvalidChoice_InvalidPairs
    · exact T.kt_InvalidChoice_InvalidText
    · exact T.kt_InvalidChoice_Unlike
    · exact T.kt_InvalidChoice_NoChoice
    · exact T.kt_InvalidChoice_NothingToUndo
    · exact T.kt_InvalidChoice_TooMany
theorem okE_lab {y : Exn} {l : Str} (h : labE y = some l) : okE y = true := by
  unfold labE at h
  split at h
  · assumption
  · cases h
theorem ok_is_whole (T : Txt mg K) (B : Bas T base) : FnOk P w K mg base (CXr P w) 2 T.d_is_whole.f T.d_is_whole.fd a_is_whole (spP mg K 3 p_is_whole) :=
  fx_okP T.d_is_whole.F sc_is_whole rfl fun cdv A outer s H E hcd CE => have C0 := CE.c; have C := CE.b
  sd_one (sd_ret (pd_and (pd_isi (n := "int") (by rfl) T.m_isinstance (by rfl) T.m_int (by decide +kernel) (pd_v 0)) (pd_and (pd_not (pd_isi (n := "bool") (by rfl) T.m_isinstance (by rfl) T.m_bool (by decide +kernel) (pd_v 0))) (pd_one (pd_leLe (pd_v 1) (pd_v 0) (pd_v 2))))))
theorem ok_fits_stretch (T : Txt mg K) (B : Bas T base) : FnOk P w K mg base (CXr P w) 3 T.d_fits_stretch.f T.d_fits_stretch.fd a_fits_stretch (spP mg K 1 p_fits_stretch) :=
  fx_okP T.d_fits_stretch.F sc_fits_stretch rfl fun cdv A outer s H E hcd CE => have C0 := CE.c; have C := CE.b
  sd_cons (sd_if (PWd.pt (pb_or (pb_not (pd_val (pd_isi (n := "tuple") (by rfl) T.m_isinstance (by rfl) T.m_tuple (by decide +kernel) (pd_v 0)))) (pb_or (pb_ne C (pd_len (by rfl) T.m_len (pd_cons (pd_v 0) (pd_nil))) (pd_int)) (pb_or1 (pb_not (pd_val (pd_call C (ok_is_whole T B) (by decide) (by rfl) T.d_is_whole.g T.d_is_whole.F.kp T.d_is_whole.b (pd_cons (pd_ix (pd_v 0) (pd_int)) (pd_cons (pd_int) (pd_cons (pd_gintE (by rfl) T.c_FAR) (pd_nil))))))))))) (sd_one (sd_ret (pd_bl))) (sd_nil))
  (sd_one (sd_ret (pd_call C (ok_is_whole T B) (by decide) (by rfl) T.d_is_whole.g T.d_is_whole.F.kp T.d_is_whole.b (pd_cons (pd_ix (pd_v 0) (pd_int)) (pd_cons (pd_ix (pd_v 0) (pd_int)) (pd_cons (pd_gintE (by rfl) T.c_FAR) (pd_nil)))))))
theorem ok_fits_tie (T : Txt mg K) (B : Bas T base) : FnOk P w K mg base (CXr P w) 3 T.d_fits_tie.f T.d_fits_tie.fd a_fits_tie (spP mg K 2 p_fits_tie) :=
  fx_okP T.d_fits_tie.F sc_fits_tie rfl fun cdv A outer s H E hcd CE => have C0 := CE.c; have C := CE.b
  sd_cons (sd_if (PWd.pt (pb_or (pb_not (pd_val (pd_isi (n := "tuple") (by rfl) T.m_isinstance (by rfl) T.m_tuple (by decide +kernel) (pd_v 0)))) (pb_or (pb_ne C (pd_len (by rfl) T.m_len (pd_cons (pd_v 0) (pd_nil))) (pd_int)) (pb_or1 (pb_not (pd_val (pd_call C (ok_is_whole T B) (by decide) (by rfl) T.d_is_whole.g T.d_is_whole.F.kp T.d_is_whole.b (pd_cons (pd_ix (pd_v 0) (pd_int)) (pd_cons (pd_int) (pd_cons (pd_sub (pd_v 1) (pd_int)) (pd_nil))))))))))) (sd_one (sd_ret (pd_bl))) (sd_nil))
  (sd_one (sd_ret (pd_and (pd_call C (ok_is_whole T B) (by decide) (by rfl) T.d_is_whole.g T.d_is_whole.F.kp T.d_is_whole.b (pd_cons (pd_ix (pd_v 0) (pd_int)) (pd_cons (pd_add (pd_ix (pd_v 0) (pd_int)) (pd_int)) (pd_cons (pd_sub (pd_v 1) (pd_int)) (pd_nil))))) (pd_one (pd_call C (ok_is_whole T B) (by decide) (by rfl) T.d_is_whole.g T.d_is_whole.F.kp T.d_is_whole.b (pd_cons (pd_ix (pd_v 0) (pd_int)) (pd_cons (pd_int) (pd_cons (pd_gintE (by rfl) T.c_FAR) (pd_nil)))))))))
theorem ok_fits_web (T : Txt mg K) (B : Bas T base) : FnOk P w K mg base (CXr P w) 4 T.d_fits_web.f T.d_fits_web.fd a_fits_web (spP mg K 1 p_fits_web) :=
  fx_okP T.d_fits_web.F sc_fits_web rfl fun cdv A outer s H E hcd CE => have C0 := CE.c; have C := CE.b
  sd_cons (sd_if (PWd.pt (pb_or (pb_not (pd_val (pd_isi (n := "tuple") (by rfl) T.m_isinstance (by rfl) T.m_tuple (by decide +kernel) (pd_v 0)))) (pb_or1 (pb_ne C (pd_len (by rfl) T.m_len (pd_cons (pd_v 0) (pd_nil))) (pd_int))))) (sd_one (sd_ret (pd_bl))) (sd_nil))
  (sd_cons (sd_asg (pd_v 0) (pgd_t C (pgd_cons (pgd_n C 1) (pgd_cons (pgd_n C 2) (pgd_nil)))))
  (sd_cons (sd_if (PWd.pt (pb_or (pb_not (pd_val (pd_isi (n := "tuple") (by rfl) T.m_isinstance (by rfl) T.m_tuple (by decide +kernel) (pd_v 1)))) (pb_or1 (pb_not (pb_leLe (pd_int) (pd_len (by rfl) T.m_len (pd_cons (pd_v 1) (pd_nil))) (pd_gintE (by rfl) T.c_PLACES)))))) (sd_one (sd_ret (pd_bl))) (sd_nil))
  (sd_cons (sd_if (pb_not (pd_val (pd_all C (by rfl) T.m_all (pd_cons (pd_frz (pl_lc (own := [("one", 3)]) C (pid_sq (pd_v 1)) (blkOk_by (N := N_fits_web) (sc := defScope s_fits_web) (own := [("one", 3)]) (by decide +kernel)) (fun _ _ _ _ _ => pgd_n C.blk 3) (fun _ _ _ _ _ => ptsd_nil) (fun _ _ _ _ _ => pd_call C.blk (ok_fits_stretch T B) (by decide) (by rfl) T.d_fits_stretch.g T.d_fits_stretch.F.kp T.d_fits_stretch.b (pd_cons (pd_v 3) (pd_nil))))) (pd_nil))))) (sd_one (sd_ret (pd_bl))) (sd_nil))
  (sd_cons (sd_if (PWd.pt (pb_or (pb_not (pd_val (pd_isi (n := "tuple") (by rfl) T.m_isinstance (by rfl) T.m_tuple (by decide +kernel) (pd_v 2)))) (pb_or (pb_gt (pd_len (by rfl) T.m_len (pd_cons (pd_v 2) (pd_nil))) (pd_gintE (by rfl) T.c_TIES)) (pb_or1 (pb_not (pd_val (pd_all C (by rfl) T.m_all (pd_cons (pd_frz (pl_lc (own := [("one", 3)]) C (pid_sq (pd_v 2)) (blkOk_by (N := N_fits_web) (sc := defScope s_fits_web) (own := [("one", 3)]) (by decide +kernel)) (fun _ _ _ _ _ => pgd_n C.blk 3) (fun _ _ _ _ _ => ptsd_nil) (fun _ _ _ _ _ => pd_call C.blk (ok_fits_tie T B) (by decide) (by rfl) T.d_fits_tie.g T.d_fits_tie.F.kp T.d_fits_tie.b (pd_cons (pd_v 3) (pd_cons (pd_len (by rfl) T.m_len (pd_cons (pd_v 1) (pd_nil))) (pd_nil)))))) (pd_nil))))))))) (sd_one (sd_ret (pd_bl))) (sd_nil))
  (sd_one (sd_ret (pd_all C (by rfl) T.m_all (pd_cons (pd_frz (pl_lc (own := [("one", 3), ("other", 4)]) C (pid_zip (by rfl) T.m_zip (pd_v 2) (pd_sl (pd_v 2) (pd_some (pd_int)) (pd_none))) (blkOk_by (N := N_fits_web) (sc := defScope s_fits_web) (own := [("one", 3), ("other", 4)]) (by decide +kernel)) (fun _ _ _ _ _ => pgd_t C.blk (pgd_cons (pgd_n C.blk 3) (pgd_cons (pgd_n C.blk 4) (pgd_nil)))) (fun _ _ _ _ _ => ptsd_nil) (fun _ _ _ _ _ => pd_lt C.blk (pd_sl (pd_v 3) (pd_none) (pd_some (pd_int))) (pd_sl (pd_v 4) (pd_none) (pd_some (pd_int)))))) (pd_nil)))))))))
theorem ok_fits_choice (T : Txt mg K) (B : Bas T base) : FnOk P w K mg base (CXr P w) 3 T.d_fits_choice.f T.d_fits_choice.fd a_fits_choice (spP mg K 2 p_fits_choice) :=
  fx_okP T.d_fits_choice.F sc_fits_choice rfl fun cdv A outer s H E hcd CE => have C0 := CE.c; have C := CE.b
  sd_cons (sd_if (PWd.pt (pb_or (pb_not (pd_val (pd_isi (n := "tuple") (by rfl) T.m_isinstance (by rfl) T.m_tuple (by decide +kernel) (pd_v 1)))) (pb_or1 (pb_ne C (pd_len (by rfl) T.m_len (pd_cons (pd_v 1) (pd_nil))) (pd_len (by rfl) T.m_len (pd_cons (pd_ix (pd_v 0) (pd_int)) (pd_nil))))))) (sd_one (sd_ret (pd_bl))) (sd_nil))
  (sd_one (sd_ret (pd_all C (by rfl) T.m_all (pd_cons (pd_frz (pl_lc (own := [("one", 2), ("tie", 3)]) C (pid_zip (by rfl) T.m_zip (pd_v 1) (pd_ix (pd_v 0) (pd_int))) (blkOk_by (N := N_fits_choice) (sc := defScope s_fits_choice) (own := [("one", 2), ("tie", 3)]) (by decide +kernel)) (fun _ _ _ _ _ => pgd_t C.blk (pgd_cons (pgd_n C.blk 2) (pgd_cons (pgd_n C.blk 3) (pgd_nil)))) (fun _ _ _ _ _ => ptsd_nil) (fun _ _ _ _ _ => pd_call C.blk (ok_is_whole T B) (by decide) (by rfl) T.d_is_whole.g T.d_is_whole.F.kp T.d_is_whole.b (pd_cons (pd_v 2) (pd_cons (pd_int) (pd_cons (pd_ix (pd_v 3) (pd_int)) (pd_nil))))))) (pd_nil)))))
theorem ok_need_web (T : Txt mg K) (B : Bas T base) : FnOk P w K mg base (CXr P w) 5 T.d_need_web.f T.d_need_web.fd a_need_web (spP mg K 1 p_need_web) :=
  fx_okP T.d_need_web.F sc_need_web rfl fun cdv A outer s H E hcd CE => have C0 := CE.c; have C := CE.b
  sd_one (sd_if (pb_not (pd_val (pd_call C (ok_fits_web T B) (by decide) (by rfl) T.d_fits_web.g T.d_fits_web.F.kp T.d_fits_web.b (pd_cons (pd_v 0) (pd_nil))))) (sd_one (sd_raise CE T.x_InvalidWeb (by rfl))) (sd_nil))
theorem ok_need_choice (T : Txt mg K) (B : Bas T base) : FnOk P w K mg base (CXr P w) 4 T.d_need_choice.f T.d_need_choice.fd a_need_choice (spP mg K 2 p_need_choice) :=
  fx_okP T.d_need_choice.F sc_need_choice rfl fun cdv A outer s H E hcd CE => have C0 := CE.c; have C := CE.b
  sd_one (sd_if (pb_not (pd_val (pd_call C (ok_fits_choice T B) (by decide) (by rfl) T.d_fits_choice.g T.d_fits_choice.F.kp T.d_fits_choice.b (pd_cons (pd_v 0) (pd_cons (pd_v 1) (pd_nil)))))) (sd_one (sd_raise CE T.x_InvalidChoice (by rfl))) (sd_nil))
theorem ok_sums_of (T : Txt mg K) (B : Bas T base) : FnOk P w K mg base (CXr P w) 2 T.d_sums_of.f T.d_sums_of.fd a_sums_of (spP mg K 2 p_sums_of) :=
  fx_okP T.d_sums_of.F sc_sums_of rfl fun cdv A outer s H E hcd CE => have C0 := CE.c; have C := CE.b
  sd_cons (sd_setLc (F := eNew) (own := [("place", 7)]) C 2 (pid_sq (pd_ix (pd_v 0) (pd_int))) (blkOk_by (N := N_sums_of) (sc := defScope s_sums_of) (own := [("place", 7)]) (by decide +kernel)) (fun _ _ _ _ _ => pgd_n C.blk 7) (fun _ _ _ _ _ => ptsd_nil) (fun _ _ _ _ _ => pd_int) (fun _ => new_read))
  (sd_cons (sd_for C0 (pid_zip (by rfl) T.m_zip (pd_ix (pd_v 0) (pd_int)) (pd_v 1)) (pgd_t C (pgd_cons (pgd_t C (pgd_cons (pgd_n C 3) (pgd_cons (pgd_n C 4) (pgd_cons (pgd_n C 5) (pgd_nil))))) (pgd_cons (pgd_n C 6) (pgd_nil)))) (sd_cons (sd_sub (pd_v 2) (pd_v 3) (pd_add (pd_ix (pd_v 2) (pd_v 3)) (pd_v 6)))
  (sd_one (sd_sub (pd_v 2) (pd_v 4) (pd_add (pd_ix (pd_v 2) (pd_v 4)) (pd_v 6))))))
  (sd_one (sd_ret (pd_v 2))))
theorem ok_missing_of (T : Txt mg K) (B : Bas T base) : FnOk P w K mg base (CXr P w) 3 T.d_missing_of.f T.d_missing_of.fd a_missing_of (spP mg K 2 p_missing_of) :=
  fx_okP T.d_missing_of.F sc_missing_of rfl fun cdv A outer s H E hcd CE => have C0 := CE.c; have C := CE.b
  sd_cons (sd_set C 2 (pd_int))
  (sd_cons (sd_for C0 (pid_zip (by rfl) T.m_zip (pd_ix (pd_v 0) (pd_int)) (pd_call C (ok_sums_of T B) (by decide) (by rfl) T.d_sums_of.g T.d_sums_of.F.kp T.d_sums_of.b (pd_cons (pd_v 0) (pd_cons (pd_v 1) (pd_nil))))) (pgd_t C (pgd_cons (pgd_t C (pgd_cons (pgd_n C 3) (pgd_cons (pgd_n C 4) (pgd_nil)))) (pgd_cons (pgd_n C 5) (pgd_nil)))) (sd_one (sd_set C 2 (pd_add (pd_add (pd_v 2) (pd_max C (by rfl) T.m_max (pd_cons (pd_int) (pd_cons (pd_sub (pd_v 3) (pd_v 5)) (pd_nil))))) (pd_max C (by rfl) T.m_max (pd_cons (pd_int) (pd_cons (pd_sub (pd_v 5) (pd_v 4)) (pd_nil))))))))
  (sd_one (sd_ret (pd_v 2))))
theorem ok_is_web (T : Txt mg K) (B : Bas T base) : FnOk P w K mg base (CXr P w) 5 T.d_is_web.f T.d_is_web.fd a_is_web (spP mg K 1 p_is_web) :=
  fx_okP T.d_is_web.F sc_is_web rfl fun cdv A outer s H E hcd CE => have C0 := CE.c; have C := CE.b
  sd_one (sd_ret (pd_bool (by rfl) T.m_bool (pd_cons (pd_call C (ok_fits_web T B) (by decide) (by rfl) T.d_fits_web.g T.d_fits_web.F.kp T.d_fits_web.b (pd_cons (pd_v 0) (pd_nil))) (pd_nil))))
theorem ok_is_choice (T : Txt mg K) (B : Bas T base) : FnOk P w K mg base (CXr P w) 6 T.d_is_choice.f T.d_is_choice.fd a_is_choice (spP mg K 2 p_is_choice) :=
  fx_okP T.d_is_choice.F sc_is_choice rfl fun cdv A outer s H E hcd CE => have C0 := CE.c; have C := CE.b
  sd_cons (sd_exp (pd_call C (ok_need_web T B) (by decide) (by rfl) T.d_need_web.g T.d_need_web.F.kp T.d_need_web.b (pd_cons (pd_v 0) (pd_nil))))
  (sd_one (sd_ret (pd_bool (by rfl) T.m_bool (pd_cons (pd_call C (ok_fits_choice T B) (by decide) (by rfl) T.d_fits_choice.g T.d_fits_choice.F.kp T.d_fits_choice.b (pd_cons (pd_v 0) (pd_cons (pd_v 1) (pd_nil)))) (pd_nil)))))
theorem ok_sums (T : Txt mg K) (B : Bas T base) : FnOk P w K mg base (CXr P w) 6 T.d_sums.f T.d_sums.fd a_sums (spP mg K 2 p_sums) :=
  fx_okP T.d_sums.F sc_sums rfl fun cdv A outer s H E hcd CE => have C0 := CE.c; have C := CE.b
  sd_cons (sd_exp (pd_call C (ok_need_web T B) (by decide) (by rfl) T.d_need_web.g T.d_need_web.F.kp T.d_need_web.b (pd_cons (pd_v 0) (pd_nil))))
  (sd_cons (sd_exp (pd_call C (ok_need_choice T B) (by decide) (by rfl) T.d_need_choice.g T.d_need_choice.F.kp T.d_need_choice.b (pd_cons (pd_v 0) (pd_cons (pd_v 1) (pd_nil)))))
  (sd_one (sd_ret (pd_tuple (by rfl) T.m_tuple (pd_cons (pd_call C (ok_sums_of T B) (by decide) (by rfl) T.d_sums_of.g T.d_sums_of.F.kp T.d_sums_of.b (pd_cons (pd_v 0) (pd_cons (pd_v 1) (pd_nil)))) (pd_nil))))))
theorem ok_fits (T : Txt mg K) (B : Bas T base) : FnOk P w K mg base (CXr P w) 6 T.d_fits.f T.d_fits.fd a_fits (spP mg K 2 p_fits) :=
  fx_okP T.d_fits.F sc_fits rfl fun cdv A outer s H E hcd CE => have C0 := CE.c; have C := CE.b
  sd_cons (sd_exp (pd_call C (ok_need_web T B) (by decide) (by rfl) T.d_need_web.g T.d_need_web.F.kp T.d_need_web.b (pd_cons (pd_v 0) (pd_nil))))
  (sd_cons (sd_exp (pd_call C (ok_need_choice T B) (by decide) (by rfl) T.d_need_choice.g T.d_need_choice.F.kp T.d_need_choice.b (pd_cons (pd_v 0) (pd_cons (pd_v 1) (pd_nil)))))
  (sd_one (sd_ret (pd_eq C (pd_call C (ok_missing_of T B) (by decide) (by rfl) T.d_missing_of.g T.d_missing_of.F.kp T.d_missing_of.b (pd_cons (pd_v 0) (pd_cons (pd_v 1) (pd_nil)))) (pd_int)))))
theorem ok_u_law_cell (T : Txt mg K) (B : Bas T base) : FnOk P w K mg base (CXr P w) 2 T.d_u_law_cell.f T.d_u_law_cell.fd a_u_law_cell (spP mg K 2 p_u_law_cell) :=
  fx_okP T.d_u_law_cell.F sc_u_law_cell rfl fun cdv A outer s H E hcd CE => have C0 := CE.c; have C := CE.b
  sd_cons (sd_if (pb_lt C (pd_v 1) (pd_len (by rfl) T.m_len (pd_cons (pd_v 0) (pd_nil)))) (sd_one (sd_ret (pd_ix (pd_v 0) (pd_v 1)))) (sd_nil))
  (sd_cons (sd_if (pb_eq C (pd_len (by rfl) T.m_len (pd_cons (pd_v 0) (pd_nil))) (pd_int)) (sd_one (sd_ret (pd_add (pd_mul (pd_int) (pd_v 1)) (pd_int)))) (sd_nil))
  (sd_one (sd_ret (pd_add (pd_mod (pd_ix (pd_v 0) (pd_mod (pd_v 1) (pd_len (by rfl) T.m_len (pd_cons (pd_v 0) (pd_nil))))) (pd_int)) (pd_mul (pd_int) (pd_v 1))))))
theorem ok_u_law_draws (T : Txt mg K) (B : Bas T base) : FnOk P w K mg base (CXr P w) 3 T.d_u_law_draws.f T.d_u_law_draws.fd a_u_law_draws (spM mg K 4 m_u_law_draws) :=
  fx_okM T.d_u_law_draws.F sc_u_law_draws rfl fun cdv A outer s H E hcd CE => have C0 := CE.c; have C := CE.b
  sd_cons (sd_set C 4 (pd_tup (pd_cons (pd_int) (pd_cons (pd_int) (pd_cons (pd_int) (pd_cons (pd_int) (pd_cons (pd_int) (pd_cons (pd_int) (pd_cons (pd_int) (pd_cons (pd_int) (pd_nil)))))))))))
  (sd_cons (sd_set C 5 (pd_call C (ok_u_law_cell T B) (by decide) (by rfl) T.d_u_law_cell.g T.d_u_law_cell.F.kp T.d_u_law_cell.b (pd_cons (pd_v 0) (pd_cons (pd_v 1) (pd_nil)))))
  (sd_cons (sd_set C 6 (pd_int))
  (sd_cons (sd_if (pb_ge (pd_v 5) (pd_pow (pd_int) (pd_int))) (sd_one (sd_set C 6 (pd_v 5))) (sd_nil))
  (sd_cons (sd_set C 7 (pd_new (pl_lst (pd_nil))))
  (sd_cons (sd_for C0 (pid_rng1 (by rfl) T.m_range (pd_v 2)) (pgd_n C 8) (sd_cons (sd_set C 9 (pd_mul (pd_mod (pd_v 5) (pd_ix (pd_v 4) (pd_mod (pd_v 8) (pd_int)))) (pd_add (pd_int) (pd_mul (pd_mul (pd_int) (pd_v 8)) (pd_v 8)))))
  (sd_cons (sd_set C 9 (pd_add (pd_add (pd_v 9) (pd_mul (pd_mul (pd_int) (pd_add (pd_v 8) (pd_int))) (pd_add (pd_v 8) (pd_int)))) (pd_mul (pd_int) (pd_v 1))))
  (sd_cons (sd_set C 9 (pd_mod (pd_v 9) (pd_ix (pd_v 4) (pd_mod (pd_add (pd_mul (pd_int) (pd_v 8)) (pd_v 1)) (pd_int)))))
  (sd_cons (sd_set C 9 (pd_mod (pd_mul (pd_mul (pd_v 9) (pd_v 9)) (pd_v 9)) (pd_ix (pd_v 4) (pd_mod (pd_add (pd_v 8) (pd_int)) (pd_int)))))
  (sd_cons (sd_if (pb_gt (pd_v 6) (pd_int)) (sd_one (sd_set C 9 (pd_v 6))) (sd_nil))
  (sd_cons (sd_exp (pd_app (pd_v 7) (pd_mod (pd_v 9) (pd_v 3))))
  (sd_one (sd_set C 6 (pd_fdiv (pd_v 6) (pd_v 3)))))))))))
  (sd_one (sd_ret (pd_v 7))))))))
theorem ok_u_law_bag (T : Txt mg K) (B : Bas T base) : FnOk P w K mg base (CXr P w) 4 T.d_u_law_bag.f T.d_u_law_bag.fd a_u_law_bag (spM mg K 2 m_u_law_bag) :=
  fx_okM T.d_u_law_bag.F sc_u_law_bag rfl fun cdv A outer s H E hcd CE => have C0 := CE.c; have C := CE.b
  sd_one (sd_ret (pd_callM C (ok_u_law_draws T B) (by decide) (by rfl) T.d_u_law_draws.g T.d_u_law_draws.F.kp T.d_u_law_draws.b (pd_cons (pd_v 0) (pd_cons (pd_v 1) (pd_cons (pd_int) (pd_cons (pd_int) (pd_nil)))))))
theorem ok_u_law_take (T : Txt mg K) (B : Bas T base) : FnOk P w K mg base (CXr P w) 2 T.d_u_law_take.f T.d_u_law_take.fd a_u_law_take (spM mg K 2 m_u_law_take) :=
  fx_okM T.d_u_law_take.F sc_u_law_take rfl fun cdv A outer s H E hcd CE => have C0 := CE.c; have C := CE.b
  sd_cons (sd_set C 2 (pd_if (pb_ne C (pd_v 0) (pd_frz (pl_lst (pd_nil)))) (pd_pop0 (pd_v 0)) (pd_int)))
  (sd_one (sd_ret (pd_mod (pd_toint (by rfl) T.m_int (pd_cons (pd_v 2) (pd_nil))) (pd_v 1))))
theorem ok_u_law_choice (T : Txt mg K) (B : Bas T base) : FnOk P w K mg base (CXr P w) 3 T.d_u_law_choice.f T.d_u_law_choice.fd a_u_law_choice (spM mg K 2 m_u_law_choice) :=
  fx_okM T.d_u_law_choice.F sc_u_law_choice rfl fun cdv A outer s H E hcd CE => have C0 := CE.c; have C := CE.b
  sd_one (sd_ret (pd_ix (pd_v 1) (pd_callM C (ok_u_law_take T B) (by decide) (by rfl) T.d_u_law_take.g T.d_u_law_take.F.kp T.d_u_law_take.b (pd_cons (pd_v 0) (pd_cons (pd_len (by rfl) T.m_len (pd_cons (pd_v 1) (pd_nil))) (pd_nil))))))
theorem ok_u_law_known (T : Txt mg K) (B : Bas T base) : FnOk P w K mg base (CXr P w) 2 T.d_u_law_known.f T.d_u_law_known.fd a_u_law_known (spP mg K 0 p_u_law_known) :=
  fx_okP T.d_u_law_known.F sc_u_law_known rfl fun cdv A outer s H E hcd CE => have C0 := CE.c; have C := CE.b
  sd_cons (sd_set C 0 (pd_tup (pd_cons (pd_tup (pd_cons (pd_int) (pd_cons (pd_int) (pd_cons (pd_int) (pd_nil))))) (pd_cons (pd_tup (pd_cons (pd_int) (pd_cons (pd_int) (pd_cons (pd_int) (pd_nil))))) (pd_cons (pd_tup (pd_cons (pd_int) (pd_cons (pd_int) (pd_cons (pd_int) (pd_nil))))) (pd_nil))))))
  (sd_cons (sd_set C 1 (pd_new (pl_lst (pd_cons (pd_tup (pd_cons (pd_tup (pd_cons (pd_tup (pd_cons (pd_int) (pd_cons (pd_int) (pd_nil)))) (pd_cons (pd_tup (pd_cons (pd_int) (pd_cons (pd_int) (pd_nil)))) (pd_cons (pd_tup (pd_cons (pd_int) (pd_cons (pd_int) (pd_nil)))) (pd_nil))))) (pd_cons (pd_v 0) (pd_nil)))) (pd_cons (pd_tup (pd_cons (pd_tup (pd_cons (pd_tup (pd_cons (pd_int) (pd_cons (pd_int) (pd_nil)))) (pd_cons (pd_tup (pd_cons (pd_int) (pd_cons (pd_int) (pd_nil)))) (pd_cons (pd_tup (pd_cons (pd_int) (pd_cons (pd_int) (pd_nil)))) (pd_nil))))) (pd_cons (pd_v 0) (pd_nil)))) (pd_nil))))))
  (sd_cons (sd_exp (pd_app (pd_v 1) (pd_tup (pd_cons (pd_tup (pd_cons (pd_tup (pd_cons (pd_int) (pd_cons (pd_int) (pd_nil)))) (pd_cons (pd_tup (pd_cons (pd_int) (pd_cons (pd_int) (pd_nil)))) (pd_cons (pd_tup (pd_cons (pd_int) (pd_cons (pd_int) (pd_nil)))) (pd_nil))))) (pd_cons (pd_tup (pd_cons (pd_tup (pd_cons (pd_int) (pd_cons (pd_int) (pd_cons (pd_int) (pd_nil))))) (pd_cons (pd_tup (pd_cons (pd_int) (pd_cons (pd_int) (pd_cons (pd_int) (pd_nil))))) (pd_nil)))) (pd_nil))))))
  (sd_cons (sd_exp (pd_app (pd_v 1) (pd_tup (pd_cons (pd_tup (pd_cons (pd_tup (pd_cons (pd_int) (pd_cons (pd_int) (pd_nil)))) (pd_cons (pd_tup (pd_cons (pd_int) (pd_cons (pd_int) (pd_nil)))) (pd_cons (pd_tup (pd_cons (pd_int) (pd_cons (pd_int) (pd_nil)))) (pd_nil))))) (pd_cons (pd_tup (pd_cons (pd_tup (pd_cons (pd_int) (pd_cons (pd_int) (pd_cons (pd_int) (pd_nil))))) (pd_cons (pd_tup (pd_cons (pd_int) (pd_cons (pd_int) (pd_cons (pd_int) (pd_nil))))) (pd_nil)))) (pd_nil))))))
  (sd_one (sd_ret (pd_add (pd_v 1) (pd_frz (pl_lst (pd_cons (pd_tup (pd_cons (pd_tup (pd_cons (pd_tup (pd_cons (pd_int) (pd_cons (pd_int) (pd_nil)))) (pd_cons (pd_tup (pd_cons (pd_int) (pd_cons (pd_int) (pd_nil)))) (pd_cons (pd_tup (pd_cons (pd_int) (pd_cons (pd_int) (pd_nil)))) (pd_nil))))) (pd_cons (pd_tup (pd_cons (pd_tup (pd_cons (pd_int) (pd_cons (pd_int) (pd_cons (pd_int) (pd_nil))))) (pd_cons (pd_tup (pd_cons (pd_int) (pd_cons (pd_int) (pd_cons (pd_int) (pd_nil))))) (pd_nil)))) (pd_nil)))) (pd_nil))))))))))
theorem ok_u_law_ties (T : Txt mg K) (B : Bas T base) : FnOk P w K mg base (CXr P w) 3 T.d_u_law_ties.f T.d_u_law_ties.fd a_u_law_ties (spM mg K 4 m_u_law_ties) :=
  fx_okM T.d_u_law_ties.F sc_u_law_ties rfl fun cdv A outer s H E hcd CE => have C0 := CE.c; have C := CE.b
  sd_cons (sd_set C 4 (pd_new (pl_lst (pd_nil))))
  (sd_cons (sd_for C0 (pid_rng1 (by rfl) T.m_range (pd_v 1)) (pgd_n C 5) (sd_one (sd_for C0 (pid_rng2 (by rfl) T.m_range (pd_add (pd_v 5) (pd_int)) (pd_v 1)) (pgd_n C 6) (sd_one (sd_if (PWd.pt (pb_and (pb_lt C (pd_len (by rfl) T.m_len (pd_cons (pd_v 4) (pd_nil))) (pd_v 2)) (pb_and1 (pb_gt (pd_callM C (ok_u_law_take T B) (by decide) (by rfl) T.d_u_law_take.g T.d_u_law_take.F.kp T.d_u_law_take.b (pd_cons (pd_v 0) (pd_cons (pd_int) (pd_nil)))) (pd_int))))) (sd_one (sd_exp (pd_app (pd_v 4) (pd_tup (pd_cons (pd_v 5) (pd_cons (pd_v 6) (pd_cons (pd_add (pd_int) (pd_callM C (ok_u_law_take T B) (by decide) (by rfl) T.d_u_law_take.g T.d_u_law_take.F.kp T.d_u_law_take.b (pd_cons (pd_v 0) (pd_cons (pd_v 3) (pd_nil))))) (pd_nil)))))))) (sd_nil))))))
  (sd_one (sd_ret (pd_tuple (by rfl) T.m_tuple (pd_cons (pd_v 4) (pd_nil))))))
theorem ok_u_law_web (T : Txt mg K) (B : Bas T base) : FnOk P w K mg base (CXr P w) 4 T.d_u_law_web.f T.d_u_law_web.fd a_u_law_web (spM mg K 1 m_u_law_web) :=
  fx_okM T.d_u_law_web.F sc_u_law_web rfl fun cdv A outer s H E hcd CE => have C0 := CE.c; have C := CE.b
  sd_cons (sd_set C 1 (pd_add (pd_int) (pd_callM C (ok_u_law_take T B) (by decide) (by rfl) T.d_u_law_take.g T.d_u_law_take.F.kp T.d_u_law_take.b (pd_cons (pd_v 0) (pd_cons (pd_int) (pd_nil))))))
  (sd_cons (sd_par C (pd_callM C (ok_u_law_ties T B) (by decide) (by rfl) T.d_u_law_ties.g T.d_u_law_ties.F.kp T.d_u_law_ties.b (pd_cons (pd_v 0) (pd_cons (pd_v 1) (pd_cons (pd_int) (pd_cons (pd_int) (pd_nil)))))) (pd_new (pl_lst (pd_nil))))
  (sd_cons (sd_set C 4 (pd_callM C (ok_u_law_take T B) (by decide) (by rfl) T.d_u_law_take.g T.d_u_law_take.F.kp T.d_u_law_take.b (pd_cons (pd_v 0) (pd_cons (pd_int) (pd_nil)))))
  (sd_cons (sd_for C0 (pid_rng1 (by rfl) T.m_range (pd_v 1)) (pgd_n C 5) (sd_cons (sd_set C 6 (pd_callM C (ok_u_law_take T B) (by decide) (by rfl) T.d_u_law_take.g T.d_u_law_take.F.kp T.d_u_law_take.b (pd_cons (pd_v 0) (pd_cons (pd_int) (pd_nil)))))
  (sd_one (sd_exp (pd_app (pd_v 3) (pd_tup (pd_cons (pd_v 6) (pd_cons (pd_add (pd_v 6) (pd_if (PWd.pt (pb_and (pb_eq C (pd_v 4) (pd_int)) (pb_and1 (pb_gt (pd_callM C (ok_u_law_take T B) (by decide) (by rfl) T.d_u_law_take.g T.d_u_law_take.F.kp T.d_u_law_take.b (pd_cons (pd_v 0) (pd_cons (pd_int) (pd_nil)))) (pd_int))))) (pd_int) (pd_callM C (ok_u_law_take T B) (by decide) (by rfl) T.d_u_law_take.g T.d_u_law_take.F.kp T.d_u_law_take.b (pd_cons (pd_v 0) (pd_cons (pd_int) (pd_nil)))))) (pd_nil)))))))))
  (sd_one (sd_ret (pd_tup (pd_cons (pd_tuple (by rfl) T.m_tuple (pd_cons (pd_v 3) (pd_nil))) (pd_cons (pd_v 2) (pd_nil)))))))))
theorem ok_u_law_great_web (T : Txt mg K) (B : Bas T base) : FnOk P w K mg base (CXr P w) 4 T.d_u_law_great_web.f T.d_u_law_great_web.fd a_u_law_great_web (spM mg K 1 m_u_law_great_web) :=
  fx_okM T.d_u_law_great_web.F sc_u_law_great_web rfl fun cdv A outer s H E hcd CE => have C0 := CE.c; have C := CE.b
  sd_cons (sd_set C 1 (pd_add (pd_int) (pd_callM C (ok_u_law_take T B) (by decide) (by rfl) T.d_u_law_take.g T.d_u_law_take.F.kp T.d_u_law_take.b (pd_cons (pd_v 0) (pd_cons (pd_int) (pd_nil))))))
  (sd_cons (sd_asg (pd_tup (pd_cons (pd_callM C (ok_u_law_ties T B) (by decide) (by rfl) T.d_u_law_ties.g T.d_u_law_ties.F.kp T.d_u_law_ties.b (pd_cons (pd_v 0) (pd_cons (pd_v 1) (pd_cons (pd_int) (pd_cons (pd_int) (pd_nil)))))) (pd_cons (pd_add (pd_pow (pd_int) (pd_int)) (pd_callM C (ok_u_law_take T B) (by decide) (by rfl) T.d_u_law_take.g T.d_u_law_take.F.kp T.d_u_law_take.b (pd_cons (pd_v 0) (pd_cons (pd_int) (pd_nil))))) (pd_nil)))) (pgd_t C (pgd_cons (pgd_n C 2) (pgd_cons (pgd_n C 3) (pgd_nil)))))
  (sd_cons (sd_set C 2 (pd_tuple (by rfl) T.m_tuple (pd_cons (pd_frz (pl_lc (own := [("one", 7), ("other", 8), ("limit", 9)]) C (pid_sq (pd_v 2)) (blkOk_by (N := N_u_law_great_web) (sc := defScope s_u_law_great_web) (own := [("one", 7), ("other", 8), ("limit", 9)]) (by decide +kernel)) (fun _ _ _ _ _ => pgd_t C.blk (pgd_cons (pgd_n C.blk 7) (pgd_cons (pgd_n C.blk 8) (pgd_cons (pgd_n C.blk 9) (pgd_nil))))) (fun _ _ _ _ _ => ptsd_nil) (fun _ _ _ _ _ => pd_tup (pd_cons (pd_v 7) (pd_cons (pd_v 8) (pd_cons (pd_add (pd_mul (pd_v 9) (pd_v 3)) (pd_callM C.blk (ok_u_law_take T B) (by decide) (by rfl) T.d_u_law_take.g T.d_u_law_take.F.kp T.d_u_law_take.b (pd_cons (pd_v 0) (pd_cons (pd_int) (pd_nil))))) (pd_nil))))))) (pd_nil))))
  (sd_cons (sd_set C 4 (pd_new (pl_lst (pd_nil))))
  (sd_cons (sd_for C0 (pid_rng1 (by rfl) T.m_range (pd_v 1)) (pgd_n C 5) (sd_cons (sd_set C 6 (pd_add (pd_mul (pd_callM C (ok_u_law_take T B) (by decide) (by rfl) T.d_u_law_take.g T.d_u_law_take.F.kp T.d_u_law_take.b (pd_cons (pd_v 0) (pd_cons (pd_int) (pd_nil)))) (pd_v 3)) (pd_callM C (ok_u_law_take T B) (by decide) (by rfl) T.d_u_law_take.g T.d_u_law_take.F.kp T.d_u_law_take.b (pd_cons (pd_v 0) (pd_cons (pd_int) (pd_nil))))))
  (sd_one (sd_exp (pd_app (pd_v 4) (pd_tup (pd_cons (pd_v 6) (pd_cons (pd_add (pd_v 6) (pd_callM C (ok_u_law_choice T B) (by decide) (by rfl) T.d_u_law_choice.g T.d_u_law_choice.F.kp T.d_u_law_choice.b (pd_cons (pd_v 0) (pd_cons (pd_frz (pl_lst (pd_cons (pd_int) (pd_cons (pd_int) (pd_cons (pd_int) (pd_cons (pd_int) (pd_cons (pd_v 3) (pd_nil)))))))) (pd_nil))))) (pd_nil)))))))))
  (sd_one (sd_ret (pd_tup (pd_cons (pd_tuple (by rfl) T.m_tuple (pd_cons (pd_v 4) (pd_nil))) (pd_cons (pd_v 2) (pd_nil))))))))))
theorem ok_u_law_sums (T : Txt mg K) (B : Bas T base) : FnOk P w K mg base (CXr P w) 2 T.d_u_law_sums.f T.d_u_law_sums.fd a_u_law_sums (spP mg K 2 p_u_law_sums) :=
  fx_okP T.d_u_law_sums.F sc_u_law_sums rfl fun cdv A outer s H E hcd CE => have C0 := CE.c; have C := CE.b
  sd_cons (sd_setLc (F := eNew) (own := [("place", 7)]) C 2 (pid_sq (pd_ix (pd_v 0) (pd_int))) (blkOk_by (N := N_u_law_sums) (sc := defScope s_u_law_sums) (own := [("place", 7)]) (by decide +kernel)) (fun _ _ _ _ _ => pgd_n C.blk 7) (fun _ _ _ _ _ => ptsd_nil) (fun _ _ _ _ _ => pd_int) (fun _ => new_read))
  (sd_cons (sd_for C0 (pid_zip (by rfl) T.m_zip (pd_ix (pd_v 0) (pd_int)) (pd_v 1)) (pgd_t C (pgd_cons (pgd_t C (pgd_cons (pgd_n C 3) (pgd_cons (pgd_n C 4) (pgd_cons (pgd_n C 5) (pgd_nil))))) (pgd_cons (pgd_n C 6) (pgd_nil)))) (sd_cons (sd_sub (pd_v 2) (pd_v 3) (pd_add (pd_ix (pd_v 2) (pd_v 3)) (pd_v 6)))
  (sd_one (sd_sub (pd_v 2) (pd_v 4) (pd_add (pd_ix (pd_v 2) (pd_v 4)) (pd_v 6))))))
  (sd_one (sd_ret (pd_v 2))))
theorem ok_u_law_misses (T : Txt mg K) (B : Bas T base) : FnOk P w K mg base (CXr P w) 3 T.d_u_law_misses.f T.d_u_law_misses.fd a_u_law_misses (spP mg K 2 p_u_law_misses) :=
  fx_okP T.d_u_law_misses.F sc_u_law_misses rfl fun cdv A outer s H E hcd CE => have C0 := CE.c; have C := CE.b
  sd_cons (sd_set C 2 (pd_int))
  (sd_cons (sd_for C0 (pid_zip (by rfl) T.m_zip (pd_ix (pd_v 0) (pd_int)) (pd_call C (ok_u_law_sums T B) (by decide) (by rfl) T.d_u_law_sums.g T.d_u_law_sums.F.kp T.d_u_law_sums.b (pd_cons (pd_v 0) (pd_cons (pd_v 1) (pd_nil))))) (pgd_t C (pgd_cons (pgd_t C (pgd_cons (pgd_n C 3) (pgd_cons (pgd_n C 4) (pgd_nil)))) (pgd_cons (pgd_n C 5) (pgd_nil)))) (sd_one (sd_set C 2 (pd_add (pd_v 2) (pd_max C (by rfl) T.m_max (pd_cons (pd_int) (pd_cons (pd_sub (pd_v 3) (pd_v 5)) (pd_cons (pd_sub (pd_v 5) (pd_v 4)) (pd_nil)))))))))
  (sd_one (sd_ret (pd_v 2))))
theorem ok_u_law_whole (T : Txt mg K) (B : Bas T base) : FnOk P w K mg base (CXr P w) 2 T.d_u_law_whole.f T.d_u_law_whole.fd a_u_law_whole (spP mg K 3 p_u_law_whole) :=
  fx_okP T.d_u_law_whole.F sc_u_law_whole rfl fun cdv A outer s H E hcd CE => have C0 := CE.c; have C := CE.b
  sd_one (sd_ret (pd_and (pd_isi (n := "int") (by rfl) T.m_isinstance (by rfl) T.m_int (by decide +kernel) (pd_v 0)) (pd_and (pd_not (pd_isi (n := "bool") (by rfl) T.m_isinstance (by rfl) T.m_bool (by decide +kernel) (pd_v 0))) (pd_one (pd_leLe (pd_v 1) (pd_v 0) (pd_v 2))))))
theorem ok_u_law_is_choice (T : Txt mg K) (B : Bas T base) : FnOk P w K mg base (CXr P w) 3 T.d_u_law_is_choice.f T.d_u_law_is_choice.fd a_u_law_is_choice (spP mg K 2 p_u_law_is_choice) :=
  fx_okP T.d_u_law_is_choice.F sc_u_law_is_choice rfl fun cdv A outer s H E hcd CE => have C0 := CE.c; have C := CE.b
  sd_cons (sd_if (PWd.pt (pb_or (pb_not (pd_val (pd_isi (n := "tuple") (by rfl) T.m_isinstance (by rfl) T.m_tuple (by decide +kernel) (pd_v 1)))) (pb_or1 (pb_ne C (pd_len (by rfl) T.m_len (pd_cons (pd_v 1) (pd_nil))) (pd_len (by rfl) T.m_len (pd_cons (pd_ix (pd_v 0) (pd_int)) (pd_nil))))))) (sd_one (sd_ret (pd_bl))) (sd_nil))
  (sd_one (sd_ret (pd_eq C (pd_frz (pl_lc (own := [("many", 2), ("tie_so", 3)]) C (pid_zip (by rfl) T.m_zip (pd_v 1) (pd_ix (pd_v 0) (pd_int))) (blkOk_by (N := N_u_law_is_choice) (sc := defScope s_u_law_is_choice) (own := [("many", 2), ("tie_so", 3)]) (by decide +kernel)) (fun _ _ _ _ _ => pgd_t C.blk (pgd_cons (pgd_n C.blk 2) (pgd_cons (pgd_n C.blk 3) (pgd_nil)))) (fun _ _ _ _ _ => ptsd_one (pb_not (pd_val (pd_call C.blk (ok_u_law_whole T B) (by decide) (by rfl) T.d_u_law_whole.g T.d_u_law_whole.F.kp T.d_u_law_whole.b (pd_cons (pd_v 2) (pd_cons (pd_int) (pd_cons (pd_ix (pd_v 3) (pd_int)) (pd_nil)))))))) (fun _ _ _ _ _ => pd_int))) (pd_frz (pl_lst (pd_nil))))))
set_option maxHeartbeats 16000000 in
theorem nm_u_law_named_error : ∀ y l, labE y = some l → ∀ t μ, F_u_law_named_error y t (rho0 (N_u_law_named_error.length - 1) [.clo t]) μ = .rt (.d (.str l)) μ := by
  intro y l h t μ
  obtain ⟨c, fs⟩ := y
  obtain ⟨h0, h1⟩ := okE_cases (okE_lab h)
  dsimp only at h0 h1
  subst h0
  rcases h1 with rfl | rfl
  · have e : l = "web" := Option.some.inj (h.symm.trans rfl)
    subst e
    have q0 : (Str.ofString "InvalidWeb" == Str.ofString "InvalidWeb") = true := by decide +kernel
    have q1 : (Str.ofString "InvalidWeb" == Str.ofString "InvalidChoice") = false := by decide +kernel
    have q2 : (Str.ofString "InvalidWeb" == Str.ofString "InvalidLots") = false := by decide +kernel
    have q3 : (Str.ofString "InvalidWeb" == Str.ofString "InvalidTie") = false := by decide +kernel
    have q4 : (Str.ofString "InvalidWeb" == Str.ofString "InvalidPlace") = false := by decide +kernel
    have q5 : (Str.ofString "InvalidWeb" == Str.ofString "InvalidNumber") = false := by decide +kernel
    have q6 : (Str.ofString "InvalidWeb" == Str.ofString "InvalidPairs") = false := by decide +kernel
    have q7 : (Str.ofString "InvalidWeb" == Str.ofString "InvalidText") = false := by decide +kernel
    have q8 : (Str.ofString "InvalidWeb" == Str.ofString "Unlike") = false := by decide +kernel
    have q9 : (Str.ofString "InvalidWeb" == Str.ofString "NoChoice") = false := by decide +kernel
    have q10 : (Str.ofString "InvalidWeb" == Str.ofString "NothingToUndo") = false := by decide +kernel
    have q11 : (Str.ofString "InvalidWeb" == Str.ofString "TooMany") = false := by decide +kernel
    have ql : (Str.ofString "web").length = 3 := by decide +kernel
    have qj : Txt.join (Str.ofString " ") [Str.ofString "web"] = Str.ofString "web" := by decide +kernel
    simp [F_u_law_named_error, isC, eIsE_eq, rho0, lCat_eq, sZipL_eq, gTt, lstD, zipD, wipeR, lcL, lCap, lSplit_eq, eJoin_eq, labs_split, labs_len, sp_len, strsOf, ql, qj, q0, q1, q2, q3, q4, q5, q6, q7, q8, q9, q10, q11]
  · have e : l = "choice" := Option.some.inj (h.symm.trans rfl)
    subst e
    have q0 : (Str.ofString "InvalidChoice" == Str.ofString "InvalidWeb") = false := by decide +kernel
    have q1 : (Str.ofString "InvalidChoice" == Str.ofString "InvalidChoice") = true := by decide +kernel
    have q2 : (Str.ofString "InvalidChoice" == Str.ofString "InvalidLots") = false := by decide +kernel
    have q3 : (Str.ofString "InvalidChoice" == Str.ofString "InvalidTie") = false := by decide +kernel
    have q4 : (Str.ofString "InvalidChoice" == Str.ofString "InvalidPlace") = false := by decide +kernel
    have q5 : (Str.ofString "InvalidChoice" == Str.ofString "InvalidNumber") = false := by decide +kernel
    have q6 : (Str.ofString "InvalidChoice" == Str.ofString "InvalidPairs") = false := by decide +kernel
    have q7 : (Str.ofString "InvalidChoice" == Str.ofString "InvalidText") = false := by decide +kernel
    have q8 : (Str.ofString "InvalidChoice" == Str.ofString "Unlike") = false := by decide +kernel
    have q9 : (Str.ofString "InvalidChoice" == Str.ofString "NoChoice") = false := by decide +kernel
    have q10 : (Str.ofString "InvalidChoice" == Str.ofString "NothingToUndo") = false := by decide +kernel
    have q11 : (Str.ofString "InvalidChoice" == Str.ofString "TooMany") = false := by decide +kernel
    have ql : (Str.ofString "choice").length = 6 := by decide +kernel
    have qj : Txt.join (Str.ofString " ") [Str.ofString "choice"] = Str.ofString "choice" := by decide +kernel
    simp [F_u_law_named_error, isC, eIsE_eq, rho0, lCat_eq, sZipL_eq, gTt, lstD, zipD, wipeR, lcL, lCap, lSplit_eq, eJoin_eq, labs_split, labs_len, sp_len, strsOf, ql, qj, q0, q1, q2, q3, q4, q5, q6, q7, q8, q9, q10, q11]
theorem ok_u_law_named_error (T : Txt mg K) (B : Bas T base) : FnE P w K mg base 1 T.d_u_law_named_error.f T.d_u_law_named_error.fd a_u_law_named_error (spNm mg K labE) :=
  fx_okE T.d_u_law_named_error.F sc_u_law_named_error nm_u_law_named_error fun cdv A outer s H E a oe y cls d l t h1 hz hf hx hl ht hot hr => by
    obtain ⟨D, rfl, rfl, hC, hV, hk⟩ := exFacts T (okE_lab hl) hx
    have nd := sc_u_law_named_error.nd
    have mem : (a, oe) ∈ (L2H.cxH (CXr P w) P w K mg base N_u_law_named_error "_law_named_error" (defScope s_u_law_named_error) T.d_u_law_named_error.f cdv A outer s H E (a, oe)).pn := List.mem_cons_self
    exact (sd_cons (sdn_set nd 1 (pd_frz (pl_lst (pd_cons (pd_isE 0 hC hz.zc hf mem ht (by rfl) T.m_isinstance (by rfl) T.g_InvalidWeb (hk "InvalidWeb" T.cn_InvalidWeb (by simp [kitsL]))) (pd_cons (pd_isE 0 hC hz.zc hf mem ht (by rfl) T.m_isinstance (by rfl) T.g_InvalidChoice (hk "InvalidChoice" T.cn_InvalidChoice (by simp [kitsL]))) (pd_cons (pd_isE 0 hC hz.zc hf mem ht (by rfl) T.m_isinstance (by rfl) T.g_InvalidLots (hk "InvalidLots" T.cn_InvalidLots (by simp [kitsL]))) (pd_nil)))))))
  (sd_cons (sdn_set nd 1 (pd_frz (pl_cat (pd_v 1) (pd_frz (pl_lst (pd_cons (pd_isE 0 hC hz.zc hf mem ht (by rfl) T.m_isinstance (by rfl) T.g_InvalidTie (hk "InvalidTie" T.cn_InvalidTie (by simp [kitsL]))) (pd_cons (pd_isE 0 hC hz.zc hf mem ht (by rfl) T.m_isinstance (by rfl) T.g_InvalidPlace (hk "InvalidPlace" T.cn_InvalidPlace (by simp [kitsL]))) (pd_cons (pd_isE 0 hC hz.zc hf mem ht (by rfl) T.m_isinstance (by rfl) T.g_InvalidNumber (hk "InvalidNumber" T.cn_InvalidNumber (by simp [kitsL]))) (pd_nil)))))))))
  (sd_cons (sdn_set nd 1 (pd_frz (pl_cat (pd_v 1) (pd_frz (pl_lst (pd_cons (pd_isE 0 hC hz.zc hf mem ht (by rfl) T.m_isinstance (by rfl) T.g_InvalidPairs (hk "InvalidPairs" T.cn_InvalidPairs (by simp [kitsL]))) (pd_cons (pd_isE 0 hC hz.zc hf mem ht (by rfl) T.m_isinstance (by rfl) T.g_InvalidText (hk "InvalidText" T.cn_InvalidText (by simp [kitsL]))) (pd_cons (pd_isE 0 hC hz.zc hf mem ht (by rfl) T.m_isinstance (by rfl) T.g_Unlike (hk "Unlike" T.cn_Unlike (by simp [kitsL]))) (pd_nil)))))))))
  (sd_cons (sdn_set nd 1 (pd_frz (pl_cat (pd_v 1) (pd_frz (pl_lst (pd_cons (pd_isE 0 hC hz.zc hf mem ht (by rfl) T.m_isinstance (by rfl) T.g_NoChoice (hk "NoChoice" T.cn_NoChoice (by simp [kitsL]))) (pd_cons (pd_isE 0 hC hz.zc hf mem ht (by rfl) T.m_isinstance (by rfl) T.g_NothingToUndo (hk "NothingToUndo" T.cn_NothingToUndo (by simp [kitsL]))) (pd_cons (pd_isE 0 hC hz.zc hf mem ht (by rfl) T.m_isinstance (by rfl) T.g_TooMany (hk "TooMany" T.cn_TooMany (by simp [kitsL]))) (pd_nil)))))))))
  (sd_cons (sdn_set nd 2 pd_str)
  (sd_one (sd_ret (pd_join pd_str (pd_frz (pl_lcH (own := [("label", 3), ("good", 4)]) hot nd (pid_zipH (by rfl) T.m_zip (pd_frz (pl_split (pd_v 2) pd_str)) (pd_v 1)) (blkOk_by (N := N_u_law_named_error) (sc := defScope s_u_law_named_error) (own := [("label", 3), ("good", 4)]) (by decide +kernel)) (fun _ _ _ _ _ => pgd_tH (pgd_cons (pgdn_n nd 3) (pgd_cons (pgdn_n nd 4) pgd_nil))) (fun _ _ _ _ _ => ptsd_one (pd_val (pd_v 4))) (fun _ _ _ _ _ => pd_v 3)))))))))))
theorem ok_u_law_error (T : Txt mg K) (B : Bas T base) {kφ : Nat} {t : CTok} {φ : MF} (c : CloOk P w K mg base kφ 0 t φ) : FnOk P w K mg base (CXr P w) (kφ + 2) T.d_u_law_error.f T.d_u_law_error.fd a_u_law_error (spM mg K 1 (h_u_law_error t φ)) :=
  fx_okM T.d_u_law_error.F sc_u_law_error rfl fun cdv A outer s H E hcd CE => have C0 := CE.c; have C := CE.b
  sd_cons (sd_tryAs CE 1 ⟨by rfl, by decide, .inl T.gTie⟩ (exmT T) (fun W1 pn1 xe1 CW => sd_one (sd_exp (pd_act0 CW.b c (by omega) B.m 0)))
    (fun a oe cls d pn1 y t hz hf hx hy ht => by
      obtain ⟨D, rfl, rfl, hC, hV, _⟩ := exFacts T hy hx
      exact sd_one (sd_ret (pd_if (pd_val (pd_isET (nm := "ValueError") 1 hC hz.zc hf List.mem_cons_self ht (by rfl) T.m_isinstance (by rfl) T.m_ValueError (by decide +kernel) hV)) (pd_named 1 (ok_u_law_named_error T B) (CE.room.mono (by omega)) hz hf hx ht (by rfl) T.d_u_law_named_error.g T.d_u_law_named_error.F.kp T.d_u_law_named_error.b) (pd_str)))))
  (sd_one (sd_ret (pd_str)))
theorem ok_u_law_truly (T : Txt mg K) (B : Bas T base) : FnOk P w K mg base (CXr P w) 2 T.d_u_law_truly.f T.d_u_law_truly.fd a_u_law_truly (spP mg K 2 p_u_law_truly) :=
  fx_okP T.d_u_law_truly.F sc_u_law_truly rfl fun cdv A outer s H E hcd CE => have C0 := CE.c; have C := CE.b
  sd_one (sd_ret (pd_and (pd_isi (n := "bool") (by rfl) T.m_isinstance (by rfl) T.m_bool (by decide +kernel) (pd_v 0)) (pd_one (pd_eq C (pd_v 0) (pd_v 1)))))
theorem ok_u_law_all_refused (T : Txt mg K) (B : Bas T base) {kφ : Nat} {t : CTok} {φ : MF} (c : CloOk P w K mg base kφ 1 t φ) : FnOk P w K mg base (CXr P w) (kφ + 5) T.d_u_law_all_refused.f T.d_u_law_all_refused.fd a_u_law_all_refused (spM mg K 3 (h_u_law_all_refused t φ)) :=
  fx_okM T.d_u_law_all_refused.F sc_u_law_all_refused rfl fun cdv A outer s H E hcd CE => have C0 := CE.c; have C := CE.b
  sd_one (sd_ret (pd_eq C (pd_frz (pl_lcX (own := [("odd", 3)]) C (pid_sq (pd_v 1)) (blkOk_by (N := N_u_law_all_refused) (sc := defScope s_u_law_all_refused) (own := [("odd", 3)]) (by decide +kernel)) (fun _ _ _ _ _ bA => pgd_n C.blk 3) (fun _ _ _ _ _ bA => ptsd_one (pb_ne C.blk (pd_callHL (kf := (kφ + 1)) (N := ["call", "odd"]) (ps' := []) (fr := ["call", "odd"]) (js := [0, 3]) C.blk (bA.nf (cellNf_of fun _ => rfl) (blkOk_by (N := N_u_law_all_refused) (sc := defScope s_u_law_all_refused) (own := [("odd", 3)]) (by decide +kernel)).free) (fun t φ b' m sb c => ok_u_law_error T (B.sub sb m) c) (by omega) (by rfl) (by rfl) T.d_u_law_error.g T.d_u_law_error.F.kp T.d_u_law_error.b (nscope_by (by decide +kernel)) (by rfl) (by rfl) (show ndefB (relS _ (defScope s_u_law_all_refused)) _ ["call", "odd"] = true by decide +kernel) (by rfl) (fun q cl pm cv ctv us hl => match us, hl with | [], _ => rfl) (fun c1 f1 b1 A1 o1 s1 H1 E1 sb hm Cz => pd_act Cz.b (c.sub sb) (by omega) (B.sub sb hm).m 0 (pd_cons (pd_v 1) (pd_nil))) (pxd_lam B.t_u_law_all_refused (hcd.symm.trans T.hc_u_law_all_refused) T.mem_u_law_all_refused T.hu_u_law_all_refused (ndef_free (show ndefB (relS _ (defScope s_u_law_all_refused)) _ ["call", "odd"] = true by decide +kernel)) (by rfl) (pd_nil))) (pd_v 2))) (fun _ _ _ _ _ bA => pd_v 3))) (pd_frz (pl_lst (pd_nil)))))
theorem ok_u_law_bad_webs (T : Txt mg K) (B : Bas T base) : FnOk P w K mg base (CXr P w) 2 T.d_u_law_bad_webs.f T.d_u_law_bad_webs.fd a_u_law_bad_webs (spP mg K 0 p_u_law_bad_webs) :=
  fx_okP T.d_u_law_bad_webs.F sc_u_law_bad_webs rfl fun cdv A outer s H E hcd CE => have C0 := CE.c; have C := CE.b
  sd_cons (sd_set C 0 (pd_new (pl_lst (pd_cons (pd_non) (pd_cons (pd_tup (pd_nil)) (pd_cons (pd_tup (pd_cons (pd_tup (pd_cons (pd_tup (pd_cons (pd_int) (pd_cons (pd_int) (pd_nil)))) (pd_nil))) (pd_nil))) (pd_cons (pd_frz (pl_lst (pd_cons (pd_tup (pd_cons (pd_tup (pd_cons (pd_int) (pd_cons (pd_int) (pd_nil)))) (pd_nil))) (pd_cons (pd_tup (pd_nil)) (pd_nil))))) (pd_cons (pd_tup (pd_cons (pd_tup (pd_cons (pd_tup (pd_cons (pd_int) (pd_cons (pd_int) (pd_nil)))) (pd_nil))) (pd_cons (pd_tup (pd_nil)) (pd_nil)))) (pd_cons (pd_tup (pd_cons (pd_tup (pd_nil)) (pd_cons (pd_tup (pd_nil)) (pd_nil)))) (pd_cons (pd_tup (pd_cons (pd_mul (pd_tup (pd_cons (pd_tup (pd_cons (pd_int) (pd_cons (pd_int) (pd_nil)))) (pd_nil))) (pd_int)) (pd_cons (pd_tup (pd_nil)) (pd_nil)))) (pd_cons (pd_tup (pd_cons (pd_tup (pd_cons (pd_tup (pd_cons (pd_neg (pd_int)) (pd_cons (pd_int) (pd_nil)))) (pd_nil))) (pd_cons (pd_tup (pd_nil)) (pd_nil)))) (pd_nil))))))))))))
  (sd_cons (sd_set C 1 (pd_tup (pd_cons (pd_tup (pd_cons (pd_int) (pd_cons (pd_int) (pd_nil)))) (pd_cons (pd_tup (pd_cons (pd_int) (pd_cons (pd_int) (pd_nil)))) (pd_nil)))))
  (sd_cons (sd_set C 0 (pd_new (pl_cat (pd_v 0) (pd_frz (pl_lst (pd_cons (pd_tup (pd_cons (pd_v 1) (pd_cons (pd_tup (pd_cons (pd_tup (pd_cons (pd_int) (pd_cons (pd_int) (pd_cons (pd_int) (pd_nil))))) (pd_nil))) (pd_nil)))) (pd_cons (pd_tup (pd_cons (pd_v 1) (pd_cons (pd_tup (pd_cons (pd_tup (pd_cons (pd_int) (pd_cons (pd_int) (pd_cons (pd_int) (pd_nil))))) (pd_nil))) (pd_nil)))) (pd_cons (pd_tup (pd_cons (pd_v 1) (pd_cons (pd_tup (pd_cons (pd_tup (pd_cons (pd_int) (pd_cons (pd_int) (pd_cons (pd_int) (pd_nil))))) (pd_nil))) (pd_nil)))) (pd_cons (pd_tup (pd_cons (pd_v 1) (pd_cons (pd_tup (pd_cons (pd_tup (pd_cons (pd_int) (pd_cons (pd_int) (pd_cons (pd_int) (pd_nil))))) (pd_nil))) (pd_nil)))) (pd_nil))))))))))
  (sd_cons (sd_set C 0 (pd_new (pl_cat (pd_v 0) (pd_frz (pl_lst (pd_cons (pd_tup (pd_cons (pd_v 1) (pd_cons (pd_tup (pd_cons (pd_tup (pd_cons (pd_int) (pd_cons (pd_int) (pd_cons (pd_int) (pd_nil))))) (pd_cons (pd_tup (pd_cons (pd_int) (pd_cons (pd_int) (pd_cons (pd_int) (pd_nil))))) (pd_nil)))) (pd_nil)))) (pd_cons (pd_tup (pd_cons (pd_v 1) (pd_cons (pd_frz (pl_lst (pd_cons (pd_tup (pd_cons (pd_int) (pd_cons (pd_int) (pd_cons (pd_int) (pd_nil))))) (pd_nil)))) (pd_nil)))) (pd_cons (pd_tup (pd_cons (pd_v 1) (pd_cons (pd_tup (pd_cons (pd_tup (pd_cons (pd_int) (pd_cons (pd_int) (pd_nil)))) (pd_nil))) (pd_nil)))) (pd_cons (pd_tup (pd_cons (pd_list (by rfl) T.m_list (pd_cons (pd_v 1) (pd_nil))) (pd_cons (pd_tup (pd_nil)) (pd_nil)))) (pd_nil))))))))))
  (sd_cons (sd_set C 0 (pd_new (pl_cat (pd_v 0) (pd_frz (pl_lst (pd_cons (pd_tup (pd_cons (pd_tup (pd_cons (pd_tup (pd_cons (pd_int) (pd_cons (pd_bl) (pd_nil)))) (pd_nil))) (pd_cons (pd_tup (pd_nil)) (pd_nil)))) (pd_cons (pd_tup (pd_cons (pd_tup (pd_cons (pd_tup (pd_cons (pd_int) (pd_cons (pd_add (pd_pow (pd_int) (pd_int)) (pd_int)) (pd_nil)))) (pd_nil))) (pd_cons (pd_tup (pd_nil)) (pd_nil)))) (pd_cons (pd_tup (pd_cons (pd_v 1) (pd_cons (pd_tup (pd_cons (pd_tup (pd_cons (pd_int) (pd_cons (pd_int) (pd_cons (pd_add (pd_pow (pd_int) (pd_int)) (pd_int)) (pd_nil))))) (pd_nil))) (pd_nil)))) (pd_nil)))))))))
  (sd_cons (sd_exp (pd_app (pd_v 0) (pd_tup (pd_cons (pd_v 1) (pd_cons (pd_tup (pd_cons (pd_tup (pd_cons (pd_int) (pd_cons (pd_int) (pd_cons (pd_bl) (pd_nil))))) (pd_nil))) (pd_nil))))))
  (sd_cons (sd_set C 2 (pd_tup (pd_cons (pd_tup (pd_cons (pd_int) (pd_cons (pd_int) (pd_cons (pd_int) (pd_nil))))) (pd_cons (pd_tup (pd_cons (pd_int) (pd_cons (pd_int) (pd_cons (pd_int) (pd_nil))))) (pd_cons (pd_tup (pd_cons (pd_int) (pd_cons (pd_int) (pd_cons (pd_int) (pd_nil))))) (pd_nil))))))
  (sd_one (sd_ret (pd_add (pd_v 0) (pd_frz (pl_lst (pd_cons (pd_tup (pd_cons (pd_mul (pd_tup (pd_cons (pd_tup (pd_cons (pd_int) (pd_cons (pd_int) (pd_nil)))) (pd_nil))) (pd_int)) (pd_cons (pd_revT (pd_v 2)) (pd_nil)))) (pd_cons (pd_tup (pd_cons (pd_tup (pd_cons (pd_tup (pd_cons (pd_int) (pd_cons (pd_int) (pd_cons (pd_int) (pd_nil))))) (pd_nil))) (pd_cons (pd_tup (pd_nil)) (pd_nil)))) (pd_cons (pd_tup (pd_cons (pd_str) (pd_cons (pd_tup (pd_nil)) (pd_nil)))) (pd_cons (pd_tup (pd_cons (pd_tup (pd_cons (pd_tup (pd_cons (pd_int) (pd_cons (pd_int) (pd_nil)))) (pd_nil))) (pd_cons (pd_tup (pd_nil)) (pd_cons (pd_tup (pd_nil)) (pd_nil))))) (pd_nil))))))))))))))))
theorem ok_u_law_good_web (T : Txt mg K) (B : Bas T base) : FnOk P w K mg base (CXr P w) 3 T.d_u_law_good_web.f T.d_u_law_good_web.fd a_u_law_good_web (spP mg K 1 p_u_law_good_web) :=
  fx_okP T.d_u_law_good_web.F sc_u_law_good_web rfl fun cdv A outer s H E hcd CE => have C0 := CE.c; have C := CE.b
  sd_cons (sd_if (PWd.pt (pb_or (pb_not (pd_val (pd_isi (n := "tuple") (by rfl) T.m_isinstance (by rfl) T.m_tuple (by decide +kernel) (pd_v 0)))) (pb_or (pb_ne C (pd_len (by rfl) T.m_len (pd_cons (pd_v 0) (pd_nil))) (pd_int)) (pb_or1 (pb_not (pd_val (pd_isi (n := "tuple") (by rfl) T.m_isinstance (by rfl) T.m_tuple (by decide +kernel) (pd_ix (pd_v 0) (pd_int))))))))) (sd_one (sd_ret (pd_bl))) (sd_nil))
  (sd_cons (sd_if (PWd.pt (pb_or (pb_not (pb_leLe (pd_int) (pd_len (by rfl) T.m_len (pd_cons (pd_ix (pd_v 0) (pd_int)) (pd_nil))) (pd_int))) (pb_or (pb_not (pd_val (pd_isi (n := "tuple") (by rfl) T.m_isinstance (by rfl) T.m_tuple (by decide +kernel) (pd_ix (pd_v 0) (pd_int))))) (pb_or1 (pb_gt (pd_len (by rfl) T.m_len (pd_cons (pd_ix (pd_v 0) (pd_int)) (pd_nil))) (pd_int)))))) (sd_one (sd_ret (pd_bl))) (sd_nil))
  (sd_cons (sd_for C0 (pid_sq (pd_ix (pd_v 0) (pd_int))) (pgd_n C 1) (sd_cons (sd_if (PWd.pt (pb_or (pb_not (pd_val (pd_isi (n := "tuple") (by rfl) T.m_isinstance (by rfl) T.m_tuple (by decide +kernel) (pd_v 1)))) (pb_or (pb_ne C (pd_len (by rfl) T.m_len (pd_cons (pd_v 1) (pd_nil))) (pd_int)) (pb_or1 (pb_not (pd_val (pd_call C (ok_u_law_whole T B) (by decide) (by rfl) T.d_u_law_whole.g T.d_u_law_whole.F.kp T.d_u_law_whole.b (pd_cons (pd_ix (pd_v 1) (pd_int)) (pd_cons (pd_int) (pd_cons (pd_pow (pd_int) (pd_int)) (pd_nil))))))))))) (sd_one (sd_ret (pd_bl))) (sd_nil))
  (sd_one (sd_if (pb_not (pd_val (pd_call C (ok_u_law_whole T B) (by decide) (by rfl) T.d_u_law_whole.g T.d_u_law_whole.F.kp T.d_u_law_whole.b (pd_cons (pd_ix (pd_v 1) (pd_int)) (pd_cons (pd_ix (pd_v 1) (pd_int)) (pd_cons (pd_pow (pd_int) (pd_int)) (pd_nil))))))) (sd_one (sd_ret (pd_bl))) (sd_nil)))))
  (sd_cons (sd_set C 2 (pd_tup (pd_cons (pd_neg (pd_int)) (pd_cons (pd_neg (pd_int)) (pd_nil)))))
  (sd_cons (sd_for C0 (pid_sq (pd_ix (pd_v 0) (pd_int))) (pgd_n C 3) (sd_cons (sd_if (PWd.pt (pb_or (pb_not (pd_val (pd_isi (n := "tuple") (by rfl) T.m_isinstance (by rfl) T.m_tuple (by decide +kernel) (pd_v 3)))) (pb_or (pb_ne C (pd_len (by rfl) T.m_len (pd_cons (pd_v 3) (pd_nil))) (pd_int)) (pb_or1 (pb_not (pd_val (pd_call C (ok_u_law_whole T B) (by decide) (by rfl) T.d_u_law_whole.g T.d_u_law_whole.F.kp T.d_u_law_whole.b (pd_cons (pd_ix (pd_v 3) (pd_int)) (pd_cons (pd_int) (pd_cons (pd_sub (pd_len (by rfl) T.m_len (pd_cons (pd_ix (pd_v 0) (pd_int)) (pd_nil))) (pd_int)) (pd_nil))))))))))) (sd_one (sd_ret (pd_bl))) (sd_nil))
  (sd_cons (sd_if (PWd.pt (pb_or (pb_not (pd_val (pd_call C (ok_u_law_whole T B) (by decide) (by rfl) T.d_u_law_whole.g T.d_u_law_whole.F.kp T.d_u_law_whole.b (pd_cons (pd_ix (pd_v 3) (pd_int)) (pd_cons (pd_add (pd_ix (pd_v 3) (pd_int)) (pd_int)) (pd_cons (pd_sub (pd_len (by rfl) T.m_len (pd_cons (pd_ix (pd_v 0) (pd_int)) (pd_nil))) (pd_int)) (pd_nil))))))) (pb_or1 (pb_not (pd_val (pd_call C (ok_u_law_whole T B) (by decide) (by rfl) T.d_u_law_whole.g T.d_u_law_whole.F.kp T.d_u_law_whole.b (pd_cons (pd_ix (pd_v 3) (pd_int)) (pd_cons (pd_int) (pd_cons (pd_pow (pd_int) (pd_int)) (pd_nil)))))))))) (sd_one (sd_ret (pd_bl))) (sd_nil))
  (sd_cons (sd_if (pb_le C (pd_sl (pd_v 3) (pd_none) (pd_some (pd_int))) (pd_v 2)) (sd_one (sd_ret (pd_bl))) (sd_nil))
  (sd_one (sd_set C 2 (pd_sl (pd_v 3) (pd_none) (pd_some (pd_int)))))))))
  (sd_one (sd_ret (pd_bl)))))))
theorem ok_u_law_bent (T : Txt mg K) (B : Bas T base) : ∀ n, FnOk P w K mg base (CXr P w) (n + 4) T.d_u_law_bent.f T.d_u_law_bent.fd a_u_law_bent (spM mg K 2 (m_u_law_bent n))
  | 0 => FnOk.never rfl
  | n + 1 => FnOk.mono (fx_okM (k := n + 4) T.d_u_law_bent.F sc_u_law_bent rfl (fun cdv A outer s H E hcd CE => have C0 := CE.c; have C := CE.b
  sd_cons (sd_if (PWd.pt (pb_and (pd_val (pd_isi (n := "int") (by rfl) T.m_isinstance (by rfl) T.m_int (by decide +kernel) (pd_v 1))) (pb_and (pb_not (pd_val (pd_isi (n := "bool") (by rfl) T.m_isinstance (by rfl) T.m_bool (by decide +kernel) (pd_v 1)))) (pb_and1 (pb_gt (pd_callM C (ok_u_law_take T B) (by omega) (by rfl) T.d_u_law_take.g T.d_u_law_take.F.kp T.d_u_law_take.b (pd_cons (pd_v 0) (pd_cons (pd_int) (pd_nil)))) (pd_int)))))) (sd_one (sd_ret (pd_callM C (ok_u_law_choice T B) (by omega) (by rfl) T.d_u_law_choice.g T.d_u_law_choice.F.kp T.d_u_law_choice.b (pd_cons (pd_v 0) (pd_cons (pd_frz (pl_lst (pd_cons (pd_add (pd_v 1) (pd_int)) (pd_cons (pd_sub (pd_v 1) (pd_int)) (pd_cons (pd_neg (pd_v 1)) (pd_cons (pd_bl) (pd_cons (pd_pow (pd_int) (pd_int)) (pd_cons (pd_add (pd_pow (pd_int) (pd_int)) (pd_int)) (pd_cons (pd_tostr (by rfl) T.m_str (pd_cons (pd_v 1) (pd_nil))) (pd_nil)))))))))) (pd_nil)))))) (sd_nil))
  (sd_cons (sd_if (PWd.pt (pb_or (pb_not (pd_val (pd_isi (n := "tuple") (by rfl) T.m_isinstance (by rfl) T.m_tuple (by decide +kernel) (pd_v 1)))) (pb_or (pb_eq C (pd_v 1) (pd_tup (pd_nil))) (pb_or1 (pb_eq C (pd_callM C (ok_u_law_take T B) (by omega) (by rfl) T.d_u_law_take.g T.d_u_law_take.F.kp T.d_u_law_take.b (pd_cons (pd_v 0) (pd_cons (pd_int) (pd_nil)))) (pd_int)))))) (sd_cons (sd_set C 4 (pd_frz (pl_lst (pd_cons (pd_non) (pd_cons (pd_int) (pd_cons (pd_int) (pd_cons (pd_neg (pd_int)) (pd_cons (pd_int) (pd_cons (pd_bl) (pd_cons (pd_str) (pd_cons (pd_str) (pd_cons (pd_tup (pd_nil)) (pd_cons (pd_tup (pd_cons (pd_int) (pd_cons (pd_int) (pd_nil)))) (pd_cons (pd_tup (pd_cons (pd_int) (pd_cons (pd_int) (pd_cons (pd_int) (pd_nil))))) (pd_cons (pd_tup (pd_cons (pd_tup (pd_cons (pd_int) (pd_cons (pd_int) (pd_nil)))) (pd_nil))) (pd_cons (pd_frz (pl_lst (pd_nil))) (pd_nil)))))))))))))))))
  (sd_one (sd_ret (pd_callM C (ok_u_law_choice T B) (by omega) (by rfl) T.d_u_law_choice.g T.d_u_law_choice.F.kp T.d_u_law_choice.b (pd_cons (pd_v 0) (pd_cons (pd_v 4) (pd_nil))))))) (sd_nil))
  (sd_cons (sd_par C (pd_callM C (ok_u_law_take T B) (by omega) (by rfl) T.d_u_law_take.g T.d_u_law_take.F.kp T.d_u_law_take.b (pd_cons (pd_v 0) (pd_cons (pd_len (by rfl) T.m_len (pd_cons (pd_v 1) (pd_nil))) (pd_nil)))) (pd_callM C (ok_u_law_take T B) (by omega) (by rfl) T.d_u_law_take.g T.d_u_law_take.F.kp T.d_u_law_take.b (pd_cons (pd_v 0) (pd_cons (pd_int) (pd_nil)))))
  (sd_cons (sd_if (pb_eq C (pd_v 3) (pd_int)) (sd_one (sd_ret (pd_add (pd_sl (pd_v 1) (pd_none) (pd_some (pd_v 2))) (pd_sl (pd_v 1) (pd_some (pd_add (pd_v 2) (pd_int))) (pd_none))))) (sd_nil))
  (sd_cons (sd_if (pb_eq C (pd_v 3) (pd_int)) (sd_one (sd_ret (pd_add (pd_add (pd_sl (pd_v 1) (pd_none) (pd_some (pd_v 2))) (pd_sl (pd_v 1) (pd_some (pd_v 2)) (pd_some (pd_add (pd_v 2) (pd_int))))) (pd_sl (pd_v 1) (pd_some (pd_v 2)) (pd_none))))) (sd_nil))
  (sd_cons (sd_if (pb_eq C (pd_v 3) (pd_int)) (sd_one (sd_ret (pd_revT (pd_v 1)))) (sd_nil))
  (sd_cons (sd_if (pb_eq C (pd_v 3) (pd_int)) (sd_one (sd_ret (pd_list (by rfl) T.m_list (pd_cons (pd_v 1) (pd_nil))))) (sd_nil))
  (sd_one (sd_ret (pd_add (pd_add (pd_sl (pd_v 1) (pd_none) (pd_some (pd_v 2))) (pd_tup (pd_cons (pd_callM C (ok_u_law_bent T B n) (by omega) (by rfl) T.d_u_law_bent.g T.d_u_law_bent.F.kp T.d_u_law_bent.b (pd_cons (pd_v 0) (pd_cons (pd_ix (pd_v 1) (pd_v 2)) (pd_nil)))) (pd_nil)))) (pd_sl (pd_v 1) (pd_some (pd_add (pd_v 2) (pd_int))) (pd_none))))))))))))) (by omega)
theorem ok_u_law_refused (T : Txt mg K) (B : Bas T base) : FnOk P w K mg base (CXr P w) 13 T.d_u_law_refused.f T.d_u_law_refused.fd a_u_law_refused (spP mg K 1 p_u_law_refused) :=
  fx_okP T.d_u_law_refused.F sc_u_law_refused rfl fun cdv A outer s H E hcd CE => have C0 := CE.c; have C := CE.b
  sd_cons (sd_for C0 (pid_sq (pd_tup (pd_cons (pd_gfn (by rfl) T.d_is_choice.g) (pd_cons (pd_gfn (by rfl) T.d_sums.g) (pd_cons (pd_gfn (by rfl) T.d_fits.g) (pd_nil)))))) (pgd_n C 1) (sd_one (sd_if (pb_not (pd_val (pd_callHL (kf := 6) (N := ["odd", "call"]) (ps' := ["odd"]) (fr := ["call"]) (js := [1]) C (cellNf_of fun _ => rfl) (fun t φ b' m sb c => ok_u_law_all_refused T (B.sub sb m) c) (by decide) (by rfl) (by rfl) T.d_u_law_all_refused.g T.d_u_law_all_refused.F.kp T.d_u_law_all_refused.b (nscope_by (by decide +kernel)) (by rfl) (by rfl) (show ndefB (defScope s_u_law_refused) _ ["call"] = true by decide +kernel) (by rfl) (fun q cl pm cv ctv us hl => match us, hl with | [_], _ => rfl) (fun c1 f1 b1 A1 o1 s1 H1 E1 sb hm Cz => pd_callV (j := 6) Cz.b (FnTab.cons (B.sub sb hm).m T.d_is_choice (ok_is_choice T (B.sub sb hm)) (by decide) rfl (FnTab.cons (B.sub sb hm).m T.d_sums (ok_sums T (B.sub sb hm)) (by decide) rfl (FnTab.cons (B.sub sb hm).m T.d_fits (ok_fits T (B.sub sb hm)) (by decide) rfl FnTab.nil))) (by decide) 1 (pd_cons (pd_v 0) (pd_cons (pd_non) (pd_nil)))) (pxd_lam B.t_u_law_refused (hcd.symm.trans T.hc_u_law_refused) T.mem_u_law_refused T.hu_u_law_refused (ndef_free (show ndefB (defScope s_u_law_refused) _ ["call"] = true by decide +kernel)) (by rfl) (pd_cons (pd_call0x C (ok_u_law_bad_webs T B) (by decide) (by rfl) T.d_u_law_bad_webs.g T.d_u_law_bad_webs.F.kp T.d_u_law_bad_webs.b) (pd_cons (pd_str) (pd_nil))))))) (sd_one (sd_ret (pd_bl))) (sd_nil))))
  (sd_cons (sd_set C 2 (pd_len (by rfl) T.m_len (pd_cons (pd_ix (pd_v 0) (pd_int)) (pd_nil))))
  (sd_cons (sd_set C 3 (pd_frz (pl_lst (pd_cons (pd_non) (pd_cons (pd_mul (pd_tup (pd_cons (pd_int) (pd_nil))) (pd_add (pd_v 2) (pd_int))) (pd_cons (pd_mul (pd_frz (pl_lst (pd_cons (pd_int) (pd_nil)))) (pd_v 2)) (pd_cons (pd_mul (pd_tup (pd_cons (pd_neg (pd_int)) (pd_nil))) (pd_add (pd_v 2) (pd_int))) (pd_cons (pd_str) (pd_cons (pd_int) (pd_nil))))))))))
  (sd_cons (sd_if (pb_gt (pd_v 2) (pd_int)) (sd_cons (sd_set C 4 (pd_mul (pd_tup (pd_cons (pd_int) (pd_nil))) (pd_sub (pd_v 2) (pd_int))))
  (sd_one (sd_set C 3 (pd_add (pd_v 3) (pd_frz (pl_lst (pd_cons (pd_add (pd_tup (pd_cons (pd_bl) (pd_nil))) (pd_v 4)) (pd_cons (pd_add (pd_tup (pd_cons (pd_add (pd_ix (pd_ix (pd_ix (pd_v 0) (pd_int)) (pd_int)) (pd_int)) (pd_int)) (pd_nil))) (pd_v 4)) (pd_nil))))))))) (sd_nil))
  (sd_cons (sd_for C0 (pid_sq (pd_tup (pd_cons (pd_gfn (by rfl) T.d_sums.g) (pd_cons (pd_gfn (by rfl) T.d_fits.g) (pd_nil))))) (pgd_n C 1) (sd_one (sd_if (pb_not (pd_val (pd_callHL (kf := 6) (N := ["odd", "call", "one"]) (ps' := ["odd"]) (fr := ["call", "one"]) (js := [1, 0]) C (cellNf_of fun _ => rfl) (fun t φ b' m sb c => ok_u_law_all_refused T (B.sub sb m) c) (by decide) (by rfl) (by rfl) T.d_u_law_all_refused.g T.d_u_law_all_refused.F.kp T.d_u_law_all_refused.b (nscope_by (by decide +kernel)) (by rfl) (by rfl) (show ndefB (defScope s_u_law_refused) _ ["call", "one"] = true by decide +kernel) (by rfl) (fun q cl pm cv ctv us hl => match us, hl with | [_], _ => rfl) (fun c1 f1 b1 A1 o1 s1 H1 E1 sb hm Cz => pd_callV (j := 6) Cz.b (FnTab.cons (B.sub sb hm).m T.d_is_choice (ok_is_choice T (B.sub sb hm)) (by decide) rfl (FnTab.cons (B.sub sb hm).m T.d_sums (ok_sums T (B.sub sb hm)) (by decide) rfl (FnTab.cons (B.sub sb hm).m T.d_fits (ok_fits T (B.sub sb hm)) (by decide) rfl FnTab.nil))) (by decide) 1 (pd_cons (pd_v 2) (pd_cons (pd_v 0) (pd_nil)))) (pxd_lam B.t_u_law_refused (hcd.symm.trans T.hc_u_law_refused) T.mem_u_law_refused T.hu_u_law_refused (ndef_free (show ndefB (defScope s_u_law_refused) _ ["call", "one"] = true by decide +kernel)) (by rfl) (pd_cons (pd_v 3) (pd_cons (pd_str) (pd_nil))))))) (sd_one (sd_ret (pd_bl))) (sd_nil))))
  (sd_one (sd_ret (pd_eq C (pd_frz (pl_lc (own := [("odd", 5)]) C (pid_sq (pd_v 3)) (blkOk_by (N := N_u_law_refused) (sc := defScope s_u_law_refused) (own := [("odd", 5)]) (by decide +kernel)) (fun _ _ _ _ _ => pgd_n C.blk 5) (fun _ _ _ _ _ => ptsd_one (pb_isn (pd_call C.blk (ok_is_choice T B) (by decide) (by rfl) T.d_is_choice.g T.d_is_choice.F.kp T.d_is_choice.b (pd_cons (pd_v 0) (pd_cons (pd_v 5) (pd_nil)))) (pd_bl))) (fun _ _ _ _ _ => pd_v 5))) (pd_frz (pl_lst (pd_nil))))))))))
theorem ok_law (T : Txt mg K) (B : Bas T base) : FnOk P w K mg base (CXr P w) 21 T.d_law.f T.d_law.fd a_law (spP mg K 1 p_law) :=
  fx_okP T.d_law.F sc_law rfl fun cdv A outer s H E hcd CE => have C0 := CE.c; have C := CE.b
  sd_cons (sd_for C0 (pid_rng1 (by rfl) T.m_range (pd_int)) (pgd_n C 1) (sd_cons (sd_set C 10 (pd_callM C (ok_u_law_bag T B) (by decide) (by rfl) T.d_u_law_bag.g T.d_u_law_bag.F.kp T.d_u_law_bag.b (pd_cons (pd_v 0) (pd_cons (pd_v 1) (pd_nil)))))
  (sd_cons (sd_set C 4 (pd_callM C (ok_u_law_choice T B) (by decide) (by rfl) T.d_u_law_choice.g T.d_u_law_choice.F.kp T.d_u_law_choice.b (pd_cons (pd_v 10) (pd_cons (pd_frz (pl_lst (pd_cons (pd_callM C (ok_u_law_web T B) (by decide) (by rfl) T.d_u_law_web.g T.d_u_law_web.F.kp T.d_u_law_web.b (pd_cons (pd_v 10) (pd_nil))) (pd_cons (pd_callM C (ok_u_law_great_web T B) (by decide) (by rfl) T.d_u_law_great_web.g T.d_u_law_great_web.F.kp T.d_u_law_great_web.b (pd_cons (pd_v 10) (pd_nil))) (pd_nil))))) (pd_nil)))))
  (sd_cons (sd_set C 11 (pd_tuple (by rfl) T.m_tuple (pd_cons (pd_frz (pl_lc (own := [("first", 5), ("other", 14), ("limit", 15)]) C (pid_sq (pd_ix (pd_v 4) (pd_int))) (blkOk_by (N := N_law) (sc := defScope s_law) (own := [("first", 5), ("other", 14), ("limit", 15)]) (by decide +kernel)) (fun _ _ _ _ _ => pgd_t C.blk (pgd_cons (pgd_n C.blk 5) (pgd_cons (pgd_n C.blk 14) (pgd_cons (pgd_n C.blk 15) (pgd_nil))))) (fun _ _ _ _ _ => ptsd_nil) (fun _ _ _ _ _ => pd_callM C.blk (ok_u_law_choice T B) (by decide) (by rfl) T.d_u_law_choice.g T.d_u_law_choice.F.kp T.d_u_law_choice.b (pd_cons (pd_v 10) (pd_cons (pd_frz (pl_lst (pd_cons (pd_int) (pd_cons (pd_int) (pd_cons (pd_v 15) (pd_cons (pd_fdiv (pd_v 15) (pd_int)) (pd_nil))))))) (pd_nil)))))) (pd_nil))))
  (sd_cons (sd_if (pb_ne C (pd_call C (ok_sums T B) (by decide) (by rfl) T.d_sums.g T.d_sums.F.kp T.d_sums.b (pd_cons (pd_v 4) (pd_cons (pd_v 11) (pd_nil)))) (pd_tuple (by rfl) T.m_tuple (pd_cons (pd_call C (ok_u_law_sums T B) (by decide) (by rfl) T.d_u_law_sums.g T.d_u_law_sums.F.kp T.d_u_law_sums.b (pd_cons (pd_v 4) (pd_cons (pd_v 11) (pd_nil)))) (pd_nil)))) (sd_one (sd_ret (pd_bl))) (sd_nil))
  (sd_cons (sd_if (pb_not (pd_val (pd_call C (ok_u_law_truly T B) (by decide) (by rfl) T.d_u_law_truly.g T.d_u_law_truly.F.kp T.d_u_law_truly.b (pd_cons (pd_call C (ok_fits T B) (by decide) (by rfl) T.d_fits.g T.d_fits.F.kp T.d_fits.b (pd_cons (pd_v 4) (pd_cons (pd_v 11) (pd_nil)))) (pd_cons (pd_eq C (pd_call C (ok_u_law_misses T B) (by decide) (by rfl) T.d_u_law_misses.g T.d_u_law_misses.F.kp T.d_u_law_misses.b (pd_cons (pd_v 4) (pd_cons (pd_v 11) (pd_nil)))) (pd_int)) (pd_nil)))))) (sd_one (sd_ret (pd_bl))) (sd_nil))
  (sd_cons (sd_for C0 (pid_sq (pd_frz (pl_lst (pd_cons (pd_v 4) (pd_cons (pd_v 4) (pd_cons (pd_v 11) (pd_nil))))))) (pgd_n C 12) (sd_one (sd_for C0 (pid_rng1 (by rfl) T.m_range (pd_int)) (pgd_n C 13) (sd_cons (sd_if (pb_not (pd_val (pd_call C (ok_u_law_truly T B) (by decide) (by rfl) T.d_u_law_truly.g T.d_u_law_truly.F.kp T.d_u_law_truly.b (pd_cons (pd_call C (ok_is_web T B) (by decide) (by rfl) T.d_is_web.g T.d_is_web.F.kp T.d_is_web.b (pd_cons (pd_v 12) (pd_nil))) (pd_cons (pd_call C (ok_u_law_good_web T B) (by decide) (by rfl) T.d_u_law_good_web.g T.d_u_law_good_web.F.kp T.d_u_law_good_web.b (pd_cons (pd_v 12) (pd_nil))) (pd_nil)))))) (sd_one (sd_ret (pd_bl))) (sd_nil))
  (sd_cons (sd_if (pb_not (pd_val (pd_call C (ok_u_law_truly T B) (by decide) (by rfl) T.d_u_law_truly.g T.d_u_law_truly.F.kp T.d_u_law_truly.b (pd_cons (pd_call C (ok_is_choice T B) (by decide) (by rfl) T.d_is_choice.g T.d_is_choice.F.kp T.d_is_choice.b (pd_cons (pd_v 4) (pd_cons (pd_v 12) (pd_nil)))) (pd_cons (pd_call C (ok_u_law_is_choice T B) (by decide) (by rfl) T.d_u_law_is_choice.g T.d_u_law_is_choice.F.kp T.d_u_law_is_choice.b (pd_cons (pd_v 4) (pd_cons (pd_v 12) (pd_nil)))) (pd_nil)))))) (sd_one (sd_ret (pd_bl))) (sd_nil))
  (sd_one (sd_set C 12 (pd_callM C (ok_u_law_bent T B 16) (by decide) (by rfl) T.d_u_law_bent.g T.d_u_law_bent.F.kp T.d_u_law_bent.b (pd_cons (pd_v 10) (pd_cons (pd_v 12) (pd_nil)))))))))))
  (sd_one (sd_if (pb_not (pd_val (pd_call C (ok_u_law_refused T B) (by decide) (by rfl) T.d_u_law_refused.g T.d_u_law_refused.F.kp T.d_u_law_refused.b (pd_cons (pd_v 4) (pd_nil))))) (sd_one (sd_ret (pd_bl))) (sd_nil))))))))))
  (sd_cons (sd_if (pb_ne C (pd_frz (pl_lc (own := [("one", 4)]) C (pid_sq (pd_call0x C (ok_u_law_bad_webs T B) (by decide) (by rfl) T.d_u_law_bad_webs.g T.d_u_law_bad_webs.F.kp T.d_u_law_bad_webs.b)) (blkOk_by (N := N_law) (sc := defScope s_law) (own := [("one", 4)]) (by decide +kernel)) (fun _ _ _ _ _ => pgd_n C.blk 4) (fun _ _ _ _ _ => ptsd_one (pb_isn (pd_call C.blk (ok_is_web T B) (by decide) (by rfl) T.d_is_web.g T.d_is_web.F.kp T.d_is_web.b (pd_cons (pd_v 4) (pd_nil))) (pd_bl))) (fun _ _ _ _ _ => pd_v 4))) (pd_frz (pl_lst (pd_nil)))) (sd_one (sd_ret (pd_bl))) (sd_nil))
  (sd_cons (sd_if (pb_ne C (pd_frz (pl_lc (own := [("one", 4)]) C (pid_sq (pd_call0x C (ok_u_law_known T B) (by decide) (by rfl) T.d_u_law_known.g T.d_u_law_known.F.kp T.d_u_law_known.b)) (blkOk_by (N := N_law) (sc := defScope s_law) (own := [("one", 4)]) (by decide +kernel)) (fun _ _ _ _ _ => pgd_n C.blk 4) (fun _ _ _ _ _ => ptsd_one (pb_isn (pd_call C.blk (ok_is_web T B) (by decide) (by rfl) T.d_is_web.g T.d_is_web.F.kp T.d_is_web.b (pd_cons (pd_v 4) (pd_nil))) (pd_bl))) (fun _ _ _ _ _ => pd_v 4))) (pd_frz (pl_lst (pd_nil)))) (sd_one (sd_ret (pd_bl))) (sd_nil))
  (sd_cons (sd_set C 2 (pd_mul (pd_tup (pd_cons (pd_tup (pd_cons (pd_int) (pd_cons (pd_pow (pd_int) (pd_int)) (pd_nil)))) (pd_nil))) (pd_int)))
  (sd_cons (sd_set C 3 (pd_tup (pd_nil)))
  (sd_cons (sd_for C0 (pid_rng1 (by rfl) T.m_range (pd_int)) (pgd_n C 4) (sd_one (sd_set C 3 (pd_add (pd_v 3) (pd_tuple (by rfl) T.m_tuple (pd_cons (pd_frz (pl_lc (own := [("other", 14)]) C (pid_rng2 (by rfl) T.m_range (pd_add (pd_v 4) (pd_int)) (pd_int)) (blkOk_by (N := N_law) (sc := defScope s_law) (own := [("other", 14)]) (by decide +kernel)) (fun _ _ _ _ _ => pgd_n C.blk 14) (fun _ _ _ _ _ => ptsd_nil) (fun _ _ _ _ _ => pd_tup (pd_cons (pd_v 4) (pd_cons (pd_v 14) (pd_cons (pd_pow (pd_int) (pd_int)) (pd_nil))))))) (pd_nil)))))))
  (sd_cons (sd_if (PWd.pt (pb_or (pb_isn (pd_call C (ok_is_web T B) (by decide) (by rfl) T.d_is_web.g T.d_is_web.F.kp T.d_is_web.b (pd_cons (pd_tup (pd_cons (pd_v 2) (pd_cons (pd_v 3) (pd_nil)))) (pd_nil))) (pd_bl)) (pb_or1 (pb_ne C (pd_call C (ok_sums T B) (by decide) (by rfl) T.d_sums.g T.d_sums.F.kp T.d_sums.b (pd_cons (pd_tup (pd_cons (pd_v 2) (pd_cons (pd_v 3) (pd_nil)))) (pd_cons (pd_mul (pd_tup (pd_cons (pd_pow (pd_int) (pd_int)) (pd_nil))) (pd_int)) (pd_nil)))) (pd_mul (pd_tup (pd_cons (pd_mul (pd_int) (pd_pow (pd_int) (pd_int))) (pd_nil))) (pd_int)))))) (sd_one (sd_ret (pd_bl))) (sd_nil))
  (sd_cons (sd_asg (pd_call0x C (ok_u_law_known T B) (by decide) (by rfl) T.d_u_law_known.g T.d_u_law_known.F.kp T.d_u_law_known.b) (pgd_t C (pgd_cons (pgd_n C 5) (pgd_cons (pgd_n C 6) (pgd_cons (pgd_n C 7) (pgd_cons (pgd_n C 8) (pgd_cons (pgd_n C 9) (pgd_nil))))))))
  (sd_cons (sd_if (PWd.pt (pb_or (pb_ne C (pd_call C (ok_sums T B) (by decide) (by rfl) T.d_sums.g T.d_sums.F.kp T.d_sums.b (pd_cons (pd_v 5) (pd_cons (pd_tup (pd_cons (pd_int) (pd_cons (pd_int) (pd_cons (pd_int) (pd_nil))))) (pd_nil)))) (pd_tup (pd_cons (pd_int) (pd_cons (pd_int) (pd_cons (pd_int) (pd_nil)))))) (pb_or (pb_ne C (pd_call C (ok_sums T B) (by decide) (by rfl) T.d_sums.g T.d_sums.F.kp T.d_sums.b (pd_cons (pd_v 7) (pd_cons (pd_tup (pd_cons (pd_int) (pd_cons (pd_int) (pd_nil)))) (pd_nil)))) (pd_tup (pd_cons (pd_int) (pd_cons (pd_int) (pd_cons (pd_int) (pd_nil)))))) (pb_or1 (pb_isn (pd_call C (ok_fits T B) (by decide) (by rfl) T.d_fits.g T.d_fits.F.kp T.d_fits.b (pd_cons (pd_v 6) (pd_cons (pd_tup (pd_cons (pd_int) (pd_cons (pd_int) (pd_cons (pd_int) (pd_nil))))) (pd_nil)))) (pd_bl)))))) (sd_one (sd_ret (pd_bl))) (sd_nil))
  (sd_one (sd_ret (pd_and (pd_is (pd_call C (ok_fits T B) (by decide) (by rfl) T.d_fits.g T.d_fits.F.kp T.d_fits.b (pd_cons (pd_v 5) (pd_cons (pd_tup (pd_cons (pd_int) (pd_cons (pd_int) (pd_cons (pd_int) (pd_nil))))) (pd_nil)))) (pd_bl)) (pd_and (pd_is (pd_call C (ok_fits T B) (by decide) (by rfl) T.d_fits.g T.d_fits.F.kp T.d_fits.b (pd_cons (pd_v 8) (pd_cons (pd_tup (pd_cons (pd_int) (pd_cons (pd_int) (pd_nil)))) (pd_nil)))) (pd_bl)) (pd_one (pd_is (pd_call C (ok_fits T B) (by decide) (by rfl) T.d_fits.g T.d_fits.F.kp T.d_fits.b (pd_cons (pd_tup (pd_cons (pd_tup (pd_cons (pd_tup (pd_cons (pd_int) (pd_cons (pd_int) (pd_nil)))) (pd_nil))) (pd_cons (pd_tup (pd_nil)) (pd_nil)))) (pd_cons (pd_tup (pd_nil)) (pd_nil)))) (pd_bl)))))))))))))))
end
end Bt

set_option linter.all false
set_option maxRecDepth 100000
/-! loops named (printed by loops.py) -/
namespace Bt
open PySem DL
noncomputable section
def G1_fits_web : GF := gN 3
def E1_fits_web : EF := eCall 1 p_fits_stretch (aCons (eV 3) (aNil))
def G2_fits_web : GF := gN 3
def E2_fits_web : EF := eCall 2 p_fits_tie (aCons (eV 3) (aCons (eN lenD (aCons (eV 1) (aNil))) (aNil)))
def G3_fits_web : GF := gT [gN 3, gN 4]
def E3_fits_web : EF := e2 ltD (eSl (eV 3) (pNone) (pSome (eC (.int 2)))) (eSl (eV 4) (pNone) (pSome (eC (.int 2))))
theorem F_fits_web_eq : F_fits_web = sSeq (sIf (bOr (bNot (bV (eIsI "tuple" (eV 0)))) (bV (e2 neD (eN lenD (aCons (eV 0) (aNil))) (eC (.int 2))))) (sRet (eC (.bl false))) (sNil)) (sSeq (sAsg (eV 0) (gT [gN 1, gN 2])) (sSeq (sIf (bOr (bNot (bV (eIsI "tuple" (eV 1)))) (bNot (bV (eChn leI leI (eC (.int 1)) (eN lenD (aCons (eV 1) (aNil))) (eC (.int 5)))))) (sRet (eC (.bl false))) (sNil)) (sSeq (sIf (bNot (bV (eN allD (aCons (eFrz (lLc [3] (sSq (eV 1)) G1_fits_web (bYes) E1_fits_web)) (aNil))))) (sRet (eC (.bl false))) (sNil)) (sSeq (sIf (bOr (bNot (bV (eIsI "tuple" (eV 2)))) (bOr (bV (e2 gtD (eN lenD (aCons (eV 2) (aNil))) (eC (.int 10)))) (bNot (bV (eN allD (aCons (eFrz (lLc [3] (sSq (eV 2)) G2_fits_web (bYes) E2_fits_web)) (aNil))))))) (sRet (eC (.bl false))) (sNil)) (sRet (eN allD (aCons (eFrz (lLc [3, 4] (sZip (eV 2) (eSl (eV 2) (pSome (eC (.int 1))) (pNone))) G3_fits_web (bYes) E3_fits_web)) (aNil)))))))) := rfl
def G1_fits_choice : GF := gT [gN 2, gN 3]
def E1_fits_choice : EF := eCall 3 p_is_whole (aCons (eV 2) (aCons (eC (.int 0)) (aCons (e2 ixD (eV 3) (eC (.int 2))) (aNil))))
theorem F_fits_choice_eq : F_fits_choice = sSeq (sIf (bOr (bNot (bV (eIsI "tuple" (eV 1)))) (bV (e2 neD (eN lenD (aCons (eV 1) (aNil))) (eN lenD (aCons (e2 ixD (eV 0) (eC (.int 1))) (aNil)))))) (sRet (eC (.bl false))) (sNil)) (sRet (eN allD (aCons (eFrz (lLc [2, 3] (sZip (eV 1) (e2 ixD (eV 0) (eC (.int 1)))) G1_fits_choice (bYes) E1_fits_choice)) (aNil)))) := rfl
def G1_sums_of : GF := gN 7
def E1_sums_of : EF := eC (.int 0)
def G2_sums_of : GF := gT [gT [gN 3, gN 4, gN 5], gN 6]
def B2_sums_of : SF := sSeq (sSet (eV 2) (eV 3) (e2 addD (e2 ixD (eV 2) (eV 3)) (eV 6))) (sSet (eV 2) (eV 4) (e2 addD (e2 ixD (eV 2) (eV 4)) (eV 6)))
theorem F_sums_of_eq : F_sums_of = sSeq (sAsg (eNew (lLc [7] (sSq (e2 ixD (eV 0) (eC (.int 0)))) G1_sums_of (bYes) E1_sums_of)) (gN 2)) (sSeq (sFor (sZip (e2 ixD (eV 0) (eC (.int 1))) (eV 1)) G2_sums_of B2_sums_of) (sRet (eV 2))) := rfl
def G1_missing_of : GF := gT [gT [gN 3, gN 4], gN 5]
def B1_missing_of : SF := sAsg (e2 addD (e2 addD (eV 2) (eN maxD (aCons (eC (.int 0)) (aCons (e2 subD (eV 3) (eV 5)) (aNil))))) (eN maxD (aCons (eC (.int 0)) (aCons (e2 subD (eV 5) (eV 4)) (aNil))))) (gN 2)
theorem F_missing_of_eq : F_missing_of = sSeq (sAsg (eC (.int 0)) (gN 2)) (sSeq (sFor (sZip (e2 ixD (eV 0) (eC (.int 0))) (eCall 2 p_sums_of (aCons (eV 0) (aCons (eV 1) (aNil))))) G1_missing_of B1_missing_of) (sRet (eV 2))) := rfl
def G1_u_law_draws : GF := gN 8
def B1_u_law_draws : SF := sSeq (sAsg (e2 mulD (e2 modD (eV 5) (e2 ixD (eV 4) (e2 modD (eV 8) (eC (.int 8))))) (e2 addD (eC (.int 48271)) (e2 mulD (e2 mulD (eC (.int 2)) (eV 8)) (eV 8)))) (gN 9)) (sSeq (sAsg (e2 addD (e2 addD (eV 9) (e2 mulD (e2 mulD (eC (.int 7919)) (e2 addD (eV 8) (eC (.int 1)))) (e2 addD (eV 8) (eC (.int 1))))) (e2 mulD (eC (.int 104729)) (eV 1))) (gN 9)) (sSeq (sAsg (e2 modD (eV 9) (e2 ixD (eV 4) (e2 modD (e2 addD (e2 mulD (eC (.int 3)) (eV 8)) (eV 1)) (eC (.int 8))))) (gN 9)) (sSeq (sAsg (e2 modD (e2 mulD (e2 mulD (eV 9) (eV 9)) (eV 9)) (e2 ixD (eV 4) (e2 modD (e2 addD (eV 8) (eC (.int 5))) (eC (.int 8))))) (gN 9)) (sSeq (sIf (bV (e2 gtD (eV 6) (eC (.int 0)))) (sAsg (eV 6) (gN 9)) (sNil)) (sSeq (sExp (eApp (eV 7) (e2 modD (eV 9) (eV 3)))) (sAsg (e2 fdivD (eV 6) (eV 3)) (gN 6)))))))
theorem F_u_law_draws_eq : F_u_law_draws = sSeq (sAsg (eTup (aCons (eC (.int 2147483647)) (aCons (eC (.int 2147483629)) (aCons (eC (.int 2147483587)) (aCons (eC (.int 2147483579)) (aCons (eC (.int 2147483563)) (aCons (eC (.int 2147483549)) (aCons (eC (.int 2147483543)) (aCons (eC (.int 2147483497)) (aNil)))))))))) (gN 4)) (sSeq (sAsg (eCall 2 p_u_law_cell (aCons (eV 0) (aCons (eV 1) (aNil)))) (gN 5)) (sSeq (sAsg (eC (.int 0)) (gN 6)) (sSeq (sIf (bV (e2 geD (eV 5) (e2 powD (eC (.int 10)) (eC (.int 18))))) (sAsg (eV 5) (gN 6)) (sNil)) (sSeq (sAsg (eNew (lLst (aNil))) (gN 7)) (sSeq (sFor (sRng1 (eV 2)) G1_u_law_draws B1_u_law_draws) (sRet (eV 7))))))) := rfl
def G1_u_law_ties : GF := gN 5
def G2_u_law_ties : GF := gN 6
def B2_u_law_ties : SF := sIf (bAnd (bV (e2 ltD (eN lenD (aCons (eV 4) (aNil))) (eV 2))) (bV (e2 gtD (eCallM 2 m_u_law_take (aCons (eV 0) (aCons (eC (.int 3)) (aNil)))) (eC (.int 0))))) (sExp (eApp (eV 4) (eTup (aCons (eV 5) (aCons (eV 6) (aCons (e2 addD (eC (.int 1)) (eCallM 2 m_u_law_take (aCons (eV 0) (aCons (eV 3) (aNil))))) (aNil))))))) (sNil)
def B1_u_law_ties : SF := sFor (sRng2 (e2 addD (eV 5) (eC (.int 1))) (eV 1)) G2_u_law_ties B2_u_law_ties
theorem F_u_law_ties_eq : F_u_law_ties = sSeq (sAsg (eNew (lLst (aNil))) (gN 4)) (sSeq (sFor (sRng1 (eV 1)) G1_u_law_ties B1_u_law_ties) (sRet (eN tupleD (aCons (eV 4) (aNil))))) := rfl
def G1_u_law_web : GF := gN 5
def B1_u_law_web : SF := sSeq (sAsg (eCallM 2 m_u_law_take (aCons (eV 0) (aCons (eC (.int 4)) (aNil)))) (gN 6)) (sExp (eApp (eV 3) (eTup (aCons (eV 6) (aCons (e2 addD (eV 6) (eIf (bAnd (bV (e2 eqD (eV 4) (eC (.int 0)))) (bV (e2 gtD (eCallM 2 m_u_law_take (aCons (eV 0) (aCons (eC (.int 4)) (aNil)))) (eC (.int 0))))) (eC (.int 0)) (eCallM 2 m_u_law_take (aCons (eV 0) (aCons (eC (.int 3)) (aNil)))))) (aNil))))))
theorem F_u_law_web_eq : F_u_law_web = sSeq (sAsg (e2 addD (eC (.int 1)) (eCallM 2 m_u_law_take (aCons (eV 0) (aCons (eC (.int 4)) (aNil))))) (gN 1)) (sSeq (sPar 2 3 (eCallM 4 m_u_law_ties (aCons (eV 0) (aCons (eV 1) (aCons (eC (.int 5)) (aCons (eC (.int 2)) (aNil)))))) (eNew (lLst (aNil)))) (sSeq (sAsg (eCallM 2 m_u_law_take (aCons (eV 0) (aCons (eC (.int 2)) (aNil)))) (gN 4)) (sSeq (sFor (sRng1 (eV 1)) G1_u_law_web B1_u_law_web) (sRet (eTup (aCons (eN tupleD (aCons (eV 3) (aNil))) (aCons (eV 2) (aNil)))))))) := rfl
def G1_u_law_great_web : GF := gT [gN 7, gN 8, gN 9]
def E1_u_law_great_web : EF := eTup (aCons (eV 7) (aCons (eV 8) (aCons (e2 addD (e2 mulD (eV 9) (eV 3)) (eCallM 2 m_u_law_take (aCons (eV 0) (aCons (eC (.int 3)) (aNil))))) (aNil))))
def G2_u_law_great_web : GF := gN 5
def B2_u_law_great_web : SF := sSeq (sAsg (e2 addD (e2 mulD (eCallM 2 m_u_law_take (aCons (eV 0) (aCons (eC (.int 4)) (aNil)))) (eV 3)) (eCallM 2 m_u_law_take (aCons (eV 0) (aCons (eC (.int 3)) (aNil))))) (gN 6)) (sExp (eApp (eV 4) (eTup (aCons (eV 6) (aCons (e2 addD (eV 6) (eCallM 2 m_u_law_choice (aCons (eV 0) (aCons (eFrz (lLst (aCons (eC (.int 0)) (aCons (eC (.int 0)) (aCons (eC (.int 1)) (aCons (eC (.int 2)) (aCons (eV 3) (aNil)))))))) (aNil))))) (aNil))))))
theorem F_u_law_great_web_eq : F_u_law_great_web = sSeq (sAsg (e2 addD (eC (.int 2)) (eCallM 2 m_u_law_take (aCons (eV 0) (aCons (eC (.int 3)) (aNil))))) (gN 1)) (sSeq (sAsg (eTup (aCons (eCallM 4 m_u_law_ties (aCons (eV 0) (aCons (eV 1) (aCons (eC (.int 4)) (aCons (eC (.int 3)) (aNil)))))) (aCons (e2 addD (e2 powD (eC (.int 10)) (eC (.int 29))) (eCallM 2 m_u_law_take (aCons (eV 0) (aCons (eC (.int 1000)) (aNil))))) (aNil)))) (gT [gN 2, gN 3])) (sSeq (sAsg (eN tupleD (aCons (eFrz (lLc [7, 8, 9] (sSq (eV 2)) G1_u_law_great_web (bYes) E1_u_law_great_web)) (aNil))) (gN 2)) (sSeq (sAsg (eNew (lLst (aNil))) (gN 4)) (sSeq (sFor (sRng1 (eV 1)) G2_u_law_great_web B2_u_law_great_web) (sRet (eTup (aCons (eN tupleD (aCons (eV 4) (aNil))) (aCons (eV 2) (aNil))))))))) := rfl
def G1_u_law_sums : GF := gN 7
def E1_u_law_sums : EF := eC (.int 0)
def G2_u_law_sums : GF := gT [gT [gN 3, gN 4, gN 5], gN 6]
def B2_u_law_sums : SF := sSeq (sSet (eV 2) (eV 3) (e2 addD (e2 ixD (eV 2) (eV 3)) (eV 6))) (sSet (eV 2) (eV 4) (e2 addD (e2 ixD (eV 2) (eV 4)) (eV 6)))
theorem F_u_law_sums_eq : F_u_law_sums = sSeq (sAsg (eNew (lLc [7] (sSq (e2 ixD (eV 0) (eC (.int 0)))) G1_u_law_sums (bYes) E1_u_law_sums)) (gN 2)) (sSeq (sFor (sZip (e2 ixD (eV 0) (eC (.int 1))) (eV 1)) G2_u_law_sums B2_u_law_sums) (sRet (eV 2))) := rfl
def G1_u_law_misses : GF := gT [gT [gN 3, gN 4], gN 5]
def B1_u_law_misses : SF := sAsg (e2 addD (eV 2) (eN maxD (aCons (eC (.int 0)) (aCons (e2 subD (eV 3) (eV 5)) (aCons (e2 subD (eV 5) (eV 4)) (aNil)))))) (gN 2)
theorem F_u_law_misses_eq : F_u_law_misses = sSeq (sAsg (eC (.int 0)) (gN 2)) (sSeq (sFor (sZip (e2 ixD (eV 0) (eC (.int 0))) (eCall 2 p_u_law_sums (aCons (eV 0) (aCons (eV 1) (aNil))))) G1_u_law_misses B1_u_law_misses) (sRet (eV 2))) := rfl
def G1_u_law_is_choice : GF := gT [gN 2, gN 3]
def T1_u_law_is_choice : BF := bNot (bV (eCall 3 p_u_law_whole (aCons (eV 2) (aCons (eC (.int 0)) (aCons (e2 ixD (eV 3) (eC (.int 2))) (aNil))))))
def E1_u_law_is_choice : EF := eC (.int 1)
theorem F_u_law_is_choice_eq : F_u_law_is_choice = sSeq (sIf (bOr (bNot (bV (eIsI "tuple" (eV 1)))) (bV (e2 neD (eN lenD (aCons (eV 1) (aNil))) (eN lenD (aCons (e2 ixD (eV 0) (eC (.int 1))) (aNil)))))) (sRet (eC (.bl false))) (sNil)) (sRet (e2 eqD (eFrz (lLc [2, 3] (sZip (eV 1) (e2 ixD (eV 0) (eC (.int 1)))) G1_u_law_is_choice T1_u_law_is_choice E1_u_law_is_choice)) (eFrz (lLst (aNil))))) := rfl
def G1_u_law_good_web : GF := gN 1
def B1_u_law_good_web : SF := sSeq (sIf (bOr (bNot (bV (eIsI "tuple" (eV 1)))) (bOr (bV (e2 neD (eN lenD (aCons (eV 1) (aNil))) (eC (.int 2)))) (bNot (bV (eCall 3 p_u_law_whole (aCons (e2 ixD (eV 1) (eC (.int 0))) (aCons (eC (.int 0)) (aCons (e2 powD (eC (.int 10)) (eC (.int 30))) (aNil))))))))) (sRet (eC (.bl false))) (sNil)) (sIf (bNot (bV (eCall 3 p_u_law_whole (aCons (e2 ixD (eV 1) (eC (.int 1))) (aCons (e2 ixD (eV 1) (eC (.int 0))) (aCons (e2 powD (eC (.int 10)) (eC (.int 30))) (aNil))))))) (sRet (eC (.bl false))) (sNil))
def G2_u_law_good_web : GF := gN 3
def B2_u_law_good_web : SF := sSeq (sIf (bOr (bNot (bV (eIsI "tuple" (eV 3)))) (bOr (bV (e2 neD (eN lenD (aCons (eV 3) (aNil))) (eC (.int 3)))) (bNot (bV (eCall 3 p_u_law_whole (aCons (e2 ixD (eV 3) (eC (.int 0))) (aCons (eC (.int 0)) (aCons (e2 subD (eN lenD (aCons (e2 ixD (eV 0) (eC (.int 0))) (aNil))) (eC (.int 1))) (aNil))))))))) (sRet (eC (.bl false))) (sNil)) (sSeq (sIf (bOr (bNot (bV (eCall 3 p_u_law_whole (aCons (e2 ixD (eV 3) (eC (.int 1))) (aCons (e2 addD (e2 ixD (eV 3) (eC (.int 0))) (eC (.int 1))) (aCons (e2 subD (eN lenD (aCons (e2 ixD (eV 0) (eC (.int 0))) (aNil))) (eC (.int 1))) (aNil))))))) (bNot (bV (eCall 3 p_u_law_whole (aCons (e2 ixD (eV 3) (eC (.int 2))) (aCons (eC (.int 1)) (aCons (e2 powD (eC (.int 10)) (eC (.int 30))) (aNil)))))))) (sRet (eC (.bl false))) (sNil)) (sSeq (sIf (bV (e2 leD (eSl (eV 3) (pNone) (pSome (eC (.int 2)))) (eV 2))) (sRet (eC (.bl false))) (sNil)) (sAsg (eSl (eV 3) (pNone) (pSome (eC (.int 2)))) (gN 2))))
theorem F_u_law_good_web_eq : F_u_law_good_web = sSeq (sIf (bOr (bNot (bV (eIsI "tuple" (eV 0)))) (bOr (bV (e2 neD (eN lenD (aCons (eV 0) (aNil))) (eC (.int 2)))) (bNot (bV (eIsI "tuple" (e2 ixD (eV 0) (eC (.int 0)))))))) (sRet (eC (.bl false))) (sNil)) (sSeq (sIf (bOr (bNot (bV (eChn leI leI (eC (.int 1)) (eN lenD (aCons (e2 ixD (eV 0) (eC (.int 0))) (aNil))) (eC (.int 5))))) (bOr (bNot (bV (eIsI "tuple" (e2 ixD (eV 0) (eC (.int 1)))))) (bV (e2 gtD (eN lenD (aCons (e2 ixD (eV 0) (eC (.int 1))) (aNil))) (eC (.int 10)))))) (sRet (eC (.bl false))) (sNil)) (sSeq (sFor (sSq (e2 ixD (eV 0) (eC (.int 0)))) G1_u_law_good_web B1_u_law_good_web) (sSeq (sAsg (eTup (aCons (e1 negD (eC (.int 1))) (aCons (e1 negD (eC (.int 1))) (aNil)))) (gN 2)) (sSeq (sFor (sSq (e2 ixD (eV 0) (eC (.int 1)))) G2_u_law_good_web B2_u_law_good_web) (sRet (eC (.bl true))))))) := rfl
def G1_u_law_refused : GF := gN 1
def B1_u_law_refused : SF := sIf (bNot (bV (eCallH 3 h_u_law_all_refused (xLam (aCons (eCall0 p_u_law_bad_webs) (aCons (eC (.str "web")) (aNil)))) 1 [1] (eCallV 1 2 [("is_choice" , p_is_choice), ("sums" , p_sums), ("fits" , p_fits)] (aCons (eV 0) (aCons (eC .non) (aNil))))))) (sRet (eC (.bl false))) (sNil)
def G2_u_law_refused : GF := gN 1
def B2_u_law_refused : SF := sIf (bNot (bV (eCallH 3 h_u_law_all_refused (xLam (aCons (eV 3) (aCons (eC (.str "choice")) (aNil)))) 1 [1, 0] (eCallV 1 2 [("is_choice" , p_is_choice), ("sums" , p_sums), ("fits" , p_fits)] (aCons (eV 2) (aCons (eV 0) (aNil))))))) (sRet (eC (.bl false))) (sNil)
def G3_u_law_refused : GF := gN 5
def T3_u_law_refused : BF := bV (e2 isnD (eCall 2 p_is_choice (aCons (eV 0) (aCons (eV 5) (aNil)))) (eC (.bl false)))
def E3_u_law_refused : EF := eV 5
theorem F_u_law_refused_eq : F_u_law_refused = sSeq (sFor (sSq (eTup (aCons (eC (.fn "is_choice")) (aCons (eC (.fn "sums")) (aCons (eC (.fn "fits")) (aNil)))))) G1_u_law_refused B1_u_law_refused) (sSeq (sAsg (eN lenD (aCons (e2 ixD (eV 0) (eC (.int 1))) (aNil))) (gN 2)) (sSeq (sAsg (eFrz (lLst (aCons (eC .non) (aCons (e2 mulD (eTup (aCons (eC (.int 0)) (aNil))) (e2 addD (eV 2) (eC (.int 1)))) (aCons (e2 mulD (eFrz (lLst (aCons (eC (.int 0)) (aNil)))) (eV 2)) (aCons (e2 mulD (eTup (aCons (e1 negD (eC (.int 1))) (aNil))) (e2 addD (eV 2) (eC (.int 1)))) (aCons (eC (.str "0")) (aCons (eC (.int 5)) (aNil))))))))) (gN 3)) (sSeq (sIf (bV (e2 gtD (eV 2) (eC (.int 0)))) (sSeq (sAsg (e2 mulD (eTup (aCons (eC (.int 0)) (aNil))) (e2 subD (eV 2) (eC (.int 1)))) (gN 4)) (sAsg (e2 addD (eV 3) (eFrz (lLst (aCons (e2 addD (eTup (aCons (eC (.bl true)) (aNil))) (eV 4)) (aCons (e2 addD (eTup (aCons (e2 addD (e2 ixD (e2 ixD (e2 ixD (eV 0) (eC (.int 1))) (eC (.int 0))) (eC (.int 2))) (eC (.int 1))) (aNil))) (eV 4)) (aNil)))))) (gN 3))) (sNil)) (sSeq (sFor (sSq (eTup (aCons (eC (.fn "sums")) (aCons (eC (.fn "fits")) (aNil))))) G2_u_law_refused B2_u_law_refused) (sRet (e2 eqD (eFrz (lLc [5] (sSq (eV 3)) G3_u_law_refused T3_u_law_refused E3_u_law_refused)) (eFrz (lLst (aNil))))))))) := rfl
def G1_law : GF := gN 1
def G2_law : GF := gT [gN 5, gN 14, gN 15]
def E2_law : EF := eCallM 2 m_u_law_choice (aCons (eV 10) (aCons (eFrz (lLst (aCons (eC (.int 0)) (aCons (eC (.int 1)) (aCons (eV 15) (aCons (e2 fdivD (eV 15) (eC (.int 2))) (aNil))))))) (aNil)))
def G3_law : GF := gN 12
def G4_law : GF := gN 13
def B4_law : SF := sSeq (sIf (bNot (bV (eCall 2 p_u_law_truly (aCons (eCall 1 p_is_web (aCons (eV 12) (aNil))) (aCons (eCall 1 p_u_law_good_web (aCons (eV 12) (aNil))) (aNil)))))) (sRet (eC (.bl false))) (sNil)) (sSeq (sIf (bNot (bV (eCall 2 p_u_law_truly (aCons (eCall 2 p_is_choice (aCons (eV 4) (aCons (eV 12) (aNil)))) (aCons (eCall 2 p_u_law_is_choice (aCons (eV 4) (aCons (eV 12) (aNil)))) (aNil)))))) (sRet (eC (.bl false))) (sNil)) (sAsg (eCallM 2 (m_u_law_bent 16) (aCons (eV 10) (aCons (eV 12) (aNil)))) (gN 12)))
def B3_law : SF := sFor (sRng1 (eC (.int 6))) G4_law B4_law
def B1_law : SF := sSeq (sAsg (eCallM 2 m_u_law_bag (aCons (eV 0) (aCons (eV 1) (aNil)))) (gN 10)) (sSeq (sAsg (eCallM 2 m_u_law_choice (aCons (eV 10) (aCons (eFrz (lLst (aCons (eCallM 1 m_u_law_web (aCons (eV 10) (aNil))) (aCons (eCallM 1 m_u_law_great_web (aCons (eV 10) (aNil))) (aNil))))) (aNil)))) (gN 4)) (sSeq (sAsg (eN tupleD (aCons (eFrz (lLc [5, 14, 15] (sSq (e2 ixD (eV 4) (eC (.int 1)))) G2_law (bYes) E2_law)) (aNil))) (gN 11)) (sSeq (sIf (bV (e2 neD (eCall 2 p_sums (aCons (eV 4) (aCons (eV 11) (aNil)))) (eN tupleD (aCons (eCall 2 p_u_law_sums (aCons (eV 4) (aCons (eV 11) (aNil)))) (aNil))))) (sRet (eC (.bl false))) (sNil)) (sSeq (sIf (bNot (bV (eCall 2 p_u_law_truly (aCons (eCall 2 p_fits (aCons (eV 4) (aCons (eV 11) (aNil)))) (aCons (e2 eqD (eCall 2 p_u_law_misses (aCons (eV 4) (aCons (eV 11) (aNil)))) (eC (.int 0))) (aNil)))))) (sRet (eC (.bl false))) (sNil)) (sSeq (sFor (sSq (eFrz (lLst (aCons (eV 4) (aCons (eV 4) (aCons (eV 11) (aNil))))))) G3_law B3_law) (sIf (bNot (bV (eCall 1 p_u_law_refused (aCons (eV 4) (aNil))))) (sRet (eC (.bl false))) (sNil)))))))
def G5_law : GF := gN 4
def T5_law : BF := bV (e2 isnD (eCall 1 p_is_web (aCons (eV 4) (aNil))) (eC (.bl false)))
def E5_law : EF := eV 4
def G6_law : GF := gN 4
def T6_law : BF := bV (e2 isnD (eCall 1 p_is_web (aCons (eV 4) (aNil))) (eC (.bl true)))
def E6_law : EF := eV 4
def G7_law : GF := gN 4
def G8_law : GF := gN 14
def E8_law : EF := eTup (aCons (eV 4) (aCons (eV 14) (aCons (e2 powD (eC (.int 10)) (eC (.int 30))) (aNil))))
def B7_law : SF := sAsg (e2 addD (eV 3) (eN tupleD (aCons (eFrz (lLc [14] (sRng2 (e2 addD (eV 4) (eC (.int 1))) (eC (.int 5))) G8_law (bYes) E8_law)) (aNil)))) (gN 3)
theorem F_law_eq : F_law = sSeq (sFor (sRng1 (eC (.int 8))) G1_law B1_law) (sSeq (sIf (bV (e2 neD (eFrz (lLc [4] (sSq (eCall0 p_u_law_bad_webs)) G5_law T5_law E5_law)) (eFrz (lLst (aNil))))) (sRet (eC (.bl false))) (sNil)) (sSeq (sIf (bV (e2 neD (eFrz (lLc [4] (sSq (eCall0 p_u_law_known)) G6_law T6_law E6_law)) (eFrz (lLst (aNil))))) (sRet (eC (.bl false))) (sNil)) (sSeq (sAsg (e2 mulD (eTup (aCons (eTup (aCons (eC (.int 0)) (aCons (e2 powD (eC (.int 10)) (eC (.int 30))) (aNil)))) (aNil))) (eC (.int 5))) (gN 2)) (sSeq (sAsg (eTup (aNil)) (gN 3)) (sSeq (sFor (sRng1 (eC (.int 5))) G7_law B7_law) (sSeq (sIf (bOr (bV (e2 isnD (eCall 1 p_is_web (aCons (eTup (aCons (eV 2) (aCons (eV 3) (aNil)))) (aNil))) (eC (.bl true)))) (bV (e2 neD (eCall 2 p_sums (aCons (eTup (aCons (eV 2) (aCons (eV 3) (aNil)))) (aCons (e2 mulD (eTup (aCons (e2 powD (eC (.int 10)) (eC (.int 30))) (aNil))) (eC (.int 10))) (aNil)))) (e2 mulD (eTup (aCons (e2 mulD (eC (.int 4)) (e2 powD (eC (.int 10)) (eC (.int 30)))) (aNil))) (eC (.int 5)))))) (sRet (eC (.bl false))) (sNil)) (sSeq (sAsg (eCall0 p_u_law_known) (gT [gN 5, gN 6, gN 7, gN 8, gN 9])) (sSeq (sIf (bOr (bV (e2 neD (eCall 2 p_sums (aCons (eV 5) (aCons (eTup (aCons (eC (.int 1)) (aCons (eC (.int 0)) (aCons (eC (.int 1)) (aNil))))) (aNil)))) (eTup (aCons (eC (.int 1)) (aCons (eC (.int 2)) (aCons (eC (.int 1)) (aNil))))))) (bOr (bV (e2 neD (eCall 2 p_sums (aCons (eV 7) (aCons (eTup (aCons (eC (.int 2)) (aCons (eC (.int 3)) (aNil)))) (aNil)))) (eTup (aCons (eC (.int 2)) (aCons (eC (.int 5)) (aCons (eC (.int 3)) (aNil))))))) (bV (e2 isnD (eCall 2 p_fits (aCons (eV 6) (aCons (eTup (aCons (eC (.int 1)) (aCons (eC (.int 1)) (aCons (eC (.int 0)) (aNil))))) (aNil)))) (eC (.bl true)))))) (sRet (eC (.bl false))) (sNil)) (sRet (eAnd (e2 isD (eCall 2 p_fits (aCons (eV 5) (aCons (eTup (aCons (eC (.int 1)) (aCons (eC (.int 1)) (aCons (eC (.int 0)) (aNil))))) (aNil)))) (eC (.bl false))) (eAnd (e2 isD (eCall 2 p_fits (aCons (eV 8) (aCons (eTup (aCons (eC (.int 2)) (aCons (eC (.int 1)) (aNil)))) (aNil)))) (eC (.bl true))) (e2 isD (eCall 2 p_fits (aCons (eTup (aCons (eTup (aCons (eTup (aCons (eC (.int 0)) (aCons (eC (.int 1)) (aNil)))) (aNil))) (aCons (eTup (aNil)) (aNil)))) (aCons (eTup (aNil)) (aNil)))) (eC (.bl true)))))))))))))) := rfl
end
end Bt

set_option linter.all false
set_option maxRecDepth 100000
set_option maxHeartbeats 1000000
/-! K01P1: what is a web, what is a choice: on any data -/
namespace DL
open PySem L2
mutual
/-- data without defs and scripts -/
def D.pl : D → Bool
  | .tup ds => plL ds
  | .lst ds => plL ds
  | .fn _ => false
  | .scr _ => false
  | _ => true
def plL : List D → Bool
  | [] => true
  | d :: r => d.pl && plL r
end
theorem plL_all : ∀ ds : List D, plL ds = ds.all D.pl
  | [] => rfl
  | d :: r => by simp [plL, plL_all r]
theorem pl_mem {ds : List D} (h : plL ds = true) {x : D} (hx : x ∈ ds) : x.pl = true := by
  rw [plL_all] at h
  exact List.all_eq_true.1 h x hx
def isTu : D → Bool
  | .tup _ => true
  | _ => false
def isIn : D → Bool
  | .int _ => true
  | .bl _ => true
  | _ => false
def isBo : D → Bool
  | .bl _ => true
  | _ => false
theorem kb1 : kitB "NoneType" "int" = some false ∧ kitB "NoneType" "bool" = some false ∧ kitB "NoneType" "tuple" = some false ∧ kitB "bool" "tuple" = some false ∧ kitB "int" "tuple" = some false ∧ kitB "int" "bool" = some false := by decide +kernel
theorem kb2 : kitB "str" "int" = some false ∧ kitB "str" "bool" = some false ∧ kitB "str" "tuple" = some false ∧ kitB "list" "int" = some false ∧ kitB "list" "bool" = some false ∧ kitB "list" "tuple" = some false ∧ kitB "tuple" "int" = some false ∧ kitB "tuple" "bool" = some false := by decide +kernel
theorem kb3 : kitB "bool" "int" = some true ∧ kitB "bool" "bool" = some true ∧ kitB "int" "int" = some true ∧ kitB "tuple" "tuple" = some true := by decide +kernel
theorem isi_tu {d : D} (h : d.pl = true) : isiD "tuple" d = some (.bl (isTu d)) := by
  cases d <;> first | (simp [D.pl] at h; done) | simp [isiD, tyD, kb1, kb2, kb3, isTu]
theorem isi_in {d : D} (h : d.pl = true) : isiD "int" d = some (.bl (isIn d)) := by
  cases d <;> first | (simp [D.pl] at h; done) | simp [isiD, tyD, kb1, kb2, kb3, isIn]
theorem isi_bo {d : D} (h : d.pl = true) : isiD "bool" d = some (.bl (isBo d)) := by
  cases d <;> first | (simp [D.pl] at h; done) | simp [isiD, tyD, kb1, kb2, kb3, isBo]
end DL
namespace Bt
open PySem DL LV
/-- a whole number from lo to hi -/
def whB (d : D) (lo hi : Int) : Bool := match d with
  | .int i => decide (lo ≤ i) && decide (i ≤ hi)
  | _ => false
theorem whB_int {d : D} {lo hi : Int} (h : whB d lo hi = true) : ∃ i, d = .int i ∧ lo ≤ i ∧ i ≤ hi := by
  cases d with
  | int i =>
    simp only [whB, Bool.and_eq_true, decide_eq_true_eq] at h
    exact ⟨i, rfl, h.1, h.2⟩
  | _ => exact absurd h (by simp [whB])
theorem whole_eq {d : D} (h : d.pl = true) (lo hi : Int) : p_is_whole [d, .int lo, .int hi] = .ok (.bl (whB d lo hi)) := by
  refine fn_rt (s := .d (.bl (whB d lo hi))) (μ := []) ?_ rfl
  have h1 := isi_in h
  have h2 := isi_bo h
  cases d with
  | int i =>
    by_cases q : lo ≤ i
    · simp [F_is_whole, rho0, q, whB]
    · simp [F_is_whole, rho0, q, whB]
  | bl b => simp [F_is_whole, rho0, whB, h1, isIn]
  | _ => first | (simp [D.pl] at h; done) | simp [F_is_whole, rho0, whB, h1, isIn]
theorem lwhole_eq {d : D} (h : d.pl = true) (lo hi : Int) : p_u_law_whole [d, .int lo, .int hi] = .ok (.bl (whB d lo hi)) := whole_eq h lo hi
def stB : D → Bool
  | .tup [x, .int b] => whB x 0 far && (match x with | .int a => whB (.int b) a far | _ => false)
  | _ => false
theorem stB_2 (x y : D) : stB (.tup [x, y]) = (whB x 0 far && (match x with | .int a => whB y a far | _ => false)) := by
  cases y with
  | int b => rfl
  | _ => cases x <;> simp [stB, whB]
theorem stretch_eq {d : D} (h : d.pl = true) : p_fits_stretch [d] = .ok (.bl (stB d)) := by
  refine fn_rt (s := .d (.bl (stB d))) (μ := []) ?_ rfl
  have h1 := isi_tu h
  cases d with
  | tup ds =>
    match ds, h with
    | [], _ => simp [F_fits_stretch, rho0, stB]
    | [x], _ => simp [F_fits_stretch, rho0, stB]
    | x :: y :: z :: r, _ =>
      have e : ¬ ((r.length : Int) + 1 + 1 + 1 = 2) := by omega
      simp [F_fits_stretch, rho0, stB, e]
    | [x, y], h =>
      have hx : x.pl = true := pl_mem (ds := [x, y]) h (by simp)
      have hy : y.pl = true := pl_mem (ds := [x, y]) h (by simp)
      rw [stB_2]
      have wx := whole_eq hx 0 far
      by_cases q : whB x 0 far = true
      · obtain ⟨a, rfl, q1, q2⟩ := whB_int q
        have wy := whole_eq hy a far
        simp [F_fits_stretch, rho0, wx, wy, q]
      · simp [F_fits_stretch, rho0, wx, q]
  | _ => first | (simp [D.pl] at h; done) | simp [F_fits_stretch, rho0, stB, h1, isTu]
end Bt

set_option linter.all false
set_option maxRecDepth 100000
set_option maxHeartbeats 1000000
/-! K01P2: what is a web: the program's answer -/
namespace Bt
open PySem DL LV
def tiB (n : Int) : D → Bool
  | .tup [x, y, z] => whB x 0 (n - 1) && (match x with | .int a => whB y (a + 1) (n - 1) | _ => false) && whB z 1 far
  | _ => false
theorem tiB_get {n : Int} {d : D} (h : tiB n d = true) : ∃ a b c : Int, d = .tup [.int a, .int b, .int c] ∧ 0 ≤ a ∧ a < b ∧ b < n ∧ 1 ≤ c ∧ c ≤ far := by
  unfold tiB at h
  split at h
  · rename_i x y z
    simp only [Bool.and_eq_true] at h
    obtain ⟨⟨h1, h2⟩, h3⟩ := h
    obtain ⟨a, rfl, a1, a2⟩ := whB_int h1
    obtain ⟨b, rfl, b1, b2⟩ := whB_int h2
    obtain ⟨c, rfl, c1, c2⟩ := whB_int h3
    exact ⟨a, b, c, rfl, a1, by omega, by omega, c1, c2⟩
  · cases h
theorem tie_eq {d : D} (h : d.pl = true) (n : Int) : p_fits_tie [d, .int n] = .ok (.bl (tiB n d)) := by
  refine fn_rt (s := .d (.bl (tiB n d))) (μ := []) ?_ rfl
  have h1 := isi_tu h
  cases d with
  | tup ds =>
    match ds, h with
    | [], _ => simp [F_fits_tie, rho0, tiB]
    | [x], _ => simp [F_fits_tie, rho0, tiB]
    | [x, y], _ => simp [F_fits_tie, rho0, tiB]
    | x :: y :: z :: w :: r, _ =>
      have e : ¬ ((r.length : Int) + 1 + 1 + 1 + 1 = 3) := by omega
      simp [F_fits_tie, rho0, tiB, e]
    | [x, y, z], h =>
      have hx : x.pl = true := pl_mem (ds := [x, y, z]) h (by simp)
      have hy : y.pl = true := pl_mem (ds := [x, y, z]) h (by simp)
      have hz : z.pl = true := pl_mem (ds := [x, y, z]) h (by simp)
      have wx := whole_eq hx 0 (n - 1)
      have wz := whole_eq hz 1 far
      by_cases q : whB x 0 (n - 1) = true
      · obtain ⟨a, rfl, q1, q2⟩ := whB_int q
        have wy := whole_eq hy (a + 1) (n - 1)
        by_cases q3 : whB y (a + 1) (n - 1) = true
        · simp [F_fits_tie, rho0, wx, wy, wz, q, q3, tiB]
        · simp [F_fits_tie, rho0, wx, wy, wz, q, q3, tiB]
      · simp [F_fits_tie, rho0, wx, q, tiB]
  | _ => first | (simp [D.pl] at h; done) | simp [F_fits_tie, rho0, tiB, h1, isTu]
/-- the first two of a tie -/
def prD : D → Int × Int
  | .tup (.int a :: .int b :: _) => (a, b)
  | _ => (-1, -1)
def ltP (p q : Int × Int) : Bool := decide (p.1 < q.1) || (decide (p.1 = q.1) && decide (p.2 < q.2))
def wbB : D → Bool
  | .tup [.tup ps, .tup ts] => decide (1 ≤ ps.length) && decide (ps.length ≤ 5) && ps.all stB && decide (ts.length ≤ 10) && ts.all (tiB ps.length) && (ts.zip (ts.drop 1)).all fun q => ltP (prD q.1) (prD q.2)
  | _ => false
theorem lexP (a b c d : Int) : HT.lexLt [a, b] [c, d] = ltP (a, b) (c, d) := by
  rw [HT.lexLt_cons]
  unfold ltP
  by_cases q : a = c
  · subst q
    rw [if_pos rfl, HT.lexLt_cons]
    by_cases q2 : b = d
    · subst q2; rw [if_pos rfl]; simp; rfl
    · rw [if_neg q2]; simp
  · rw [if_neg q]
    simp [q]
theorem lex_lt (a b c d : Int) : ltD (.tup [.int a, .int b]) (.tup [.int c, .int d]) = some (.bl (ltP (a, b) (c, d))) := by
  rw [← lexP]; rfl
theorem fits_web_eq {d : D} (h : d.pl = true) : p_fits_web [d] = .ok (.bl (wbB d)) := by
  refine fn_rt (s := .d (.bl (wbB d))) (μ := []) ?_ rfl
  have h1 := isi_tu h
  have r0 : rho0 4 ([d].map Sl.d) = [some (.d d), none, none, none, none] := rfl
  rw [F_fits_web_eq, r0]
  cases d with
  | tup ds =>
    match ds, h with
    | [], _ => simp [wbB]
    | [x], _ => simp [wbB]
    | x :: y :: z :: r, _ =>
      have e : ¬ ((r.length : Int) + 1 + 1 + 1 = 2) := by omega
      simp [wbB, e]
    | [x, y], h =>
      have hx : x.pl = true := pl_mem (ds := [x, y]) h (by simp)
      have hy : y.pl = true := pl_mem (ds := [x, y]) h (by simp)
      have tx := isi_tu hx
      have ty := isi_tu hy
      refine (seq_nx (ρ' := [some (.d (.tup [x, y])), none, none, none, none]) (μ' := []) (by simp)).trans ?_
      refine (seq_nx (ρ' := [some (.d (.tup [x, y])), some (.d x), some (.d y), none, none]) (μ' := []) (by simp)).trans ?_
      generalize hD : D.tup [x, y] = DD
      cases x with
      | tup ps =>
        have hps : ∀ p, p ∈ ps → p.pl = true := fun p hp => pl_mem hx hp
        by_cases l1 : 1 ≤ ps.length ∧ ps.length ≤ 5
        · have a1 : (1 : Int) ≤ ps.length := by omega
          have a2 : (ps.length : Int) ≤ 5 := by omega
          refine (seq_nx (ρ' := [some (.d DD), some (.d (.tup ps)), some (.d y), none, none]) (μ' := []) (by simp [a1, a2])).trans ?_
          have s1 := all_lc (vs := [3]) (src := sSq (eV 1)) (g := G1_fits_web) (e := E1_fits_web) (ρ := [some (.d DD), some (.d (.tup ps)), some (.d y), none, none]) (μ := []) id stB ps (by simp) (by omega) fun p hp => ⟨_, rfl, by
            have := stretch_eq (hps p hp)
            simp [E1_fits_web, wipeR, this]⟩
          by_cases q1 : ps.all stB = true
          · rw [q1] at s1
            refine (seq_nx (ρ' := [some (.d DD), some (.d (.tup ps)), some (.d y), none, none]) (μ' := []) (by rw [sIf_eq, bNot_eq, bV_eq, s1]; rfl)).trans ?_
            cases y with
            | tup ts =>
              have hts : ∀ p, p ∈ ts → p.pl = true := fun p hp => pl_mem hy hp
              by_cases l2 : ts.length ≤ 10
              · have s2 := all_lc (vs := [3]) (src := sSq (eV 2)) (g := G2_fits_web) (e := E2_fits_web) (ρ := [some (.d DD), some (.d (.tup ps)), some (.d (.tup ts)), none, none]) (μ := []) id (tiB ps.length) ts (by simp) (by omega) fun t ht => ⟨_, rfl, by
                  have := tie_eq (hts t ht) ps.length
                  simp [E2_fits_web, wipeR, this]⟩
                by_cases q2 : ts.all (tiB ps.length) = true
                · rw [q2] at s2
                  refine (seq_nx (ρ' := [some (.d DD), some (.d (.tup ps)), some (.d (.tup ts)), none, none]) (μ' := []) ?_).trans ?_
                  · refine (s_iff ((b_orf ?_).trans ((b_orf ?_).trans (b_not (b_v s2))))).trans rfl
                    · simp
                    · simp; omega
                  have d1 : zipD ts (cutD ts (some ((1 : Nat) : Int)) none) = (ts.zip (ts.drop 1)).map fun q => .tup [q.1, q.2] := by
                    rw [cutD_from]
                    have := zipD_map (fun d : D => d) (fun d : D => d) ts (ts.drop 1)
                    simpa using this
                  have s3 := all_lc (vs := [3, 4]) (src := sZip (eV 2) (eSl (eV 2) (pSome (eC (.int 1))) (pNone))) (g := G3_fits_web) (e := E3_fits_web) (ρ := [some (.d DD), some (.d (.tup ps)), some (.d (.tup ts)), none, none]) (μ := []) (fun q : D × D => .tup [q.1, q.2]) (fun q => ltP (prD q.1) (prD q.2)) (ts.zip (ts.drop 1)) (by
                      simp at d1
                      simp [d1]) (by rw [List.length_zip]; omega) fun q hq => ⟨_, rfl, by
                    obtain ⟨q1, q3⟩ := q
                    have m := List.of_mem_zip hq
                    obtain ⟨a, b, c, e1, _⟩ := tiB_get (List.all_eq_true.1 q2 q1 m.1)
                    obtain ⟨a', b', c', e2, _⟩ := tiB_get (List.all_eq_true.1 q2 q3 (List.mem_of_mem_drop m.2))
                    subst e1 e2
                    simp [E3_fits_web, wipeR, lex_lt, prD]⟩
                  rw [sRet_eq, s3, ← hD]
                  simp [wbB, l1.1, l1.2, q1, l2, q2]
                · have q2' : ts.all (tiB ps.length) = false := by simpa using q2
                  rw [q2'] at s2
                  refine (seq_rt (μ' := []) (s := .d (.bl false)) ?_).trans ?_
                  · refine (s_ift ((b_orf ?_).trans ((b_orf ?_).trans (b_not (b_v s2))))).trans rfl
                    · simp
                    · simp; omega
                  · rw [← hD]; simp only [wbB]; rw [q2']; simp
              · have l2' : (ts.length : Int) > 10 := by omega
                refine (seq_rt (μ' := []) (s := .d (.bl false)) ?_).trans ?_
                · refine (s_ift ((b_orf ?_).trans (b_ort ?_))).trans rfl
                  · simp
                  · simp; omega
                · rw [← hD]; simp [wbB, l2]
            | _ => first | (simp [D.pl] at hy; done) | (refine (seq_rt (μ' := []) (s := .d (.bl false)) (by simp [ty, isTu])).trans (by rw [← hD]; simp [wbB]))
          · have q1' : ps.all stB = false := by simpa using q1
            rw [q1'] at s1
            refine (seq_rt (μ' := []) (s := .d (.bl false)) (by rw [sIf_eq, bNot_eq, bV_eq, s1]; rfl)).trans ?_
            rw [← hD]
            cases y <;> first | rfl | (simp only [wbB]; rw [q1']; simp)
        · refine (seq_rt (μ' := []) (s := .d (.bl false)) ?_).trans ?_
          · by_cases a1 : (1 : Int) ≤ ps.length
            · have a2 : ¬ (ps.length : Int) ≤ 5 := by omega
              simp [a1, a2]
            · simp [a1]
          · rw [← hD]
            cases y <;> first | rfl | (simp only [wbB]; by_cases k1 : 1 ≤ ps.length <;> by_cases k2 : ps.length ≤ 5 <;> simp [k1, k2] <;> omega)
      | _ => first | (simp [D.pl] at hx; done) | (refine (seq_rt (μ' := []) (s := .d (.bl false)) (by simp [tx, isTu])).trans (by rw [← hD]; simp [wbB]))
  | _ => first | (simp [D.pl] at h; done) | simp [wbB, h1, isTu]
end Bt

set_option linter.all false
set_option maxRecDepth 100000
set_option maxHeartbeats 1000000
/-! K01P3: what is a web: the law's answer -/
namespace DL
open PySem L2
def chk {σ : Type} (ok : σ → D → Bool) (f : σ → D → σ) : σ → List D → Bool
  | _, [] => true
  | b, x :: r => ok b x && chk ok f (f b x) r
theorem for_dec {σ : Type} {g : GF} {body : SF} {μ : Store} (R : σ → Rho → Prop) (ok : σ → D → Bool) (f : σ → D → σ) (s0 : Sl) : ∀ (xs : List D) (b : σ) (ρ : Rho), (∀ x, x ∈ xs → ∀ b ρ, R b ρ → ∃ ρ1, g (.d x) ρ = some ρ1 ∧ ((ok b x = true ∧ ∃ ρ2, body ρ1 μ = .nx ρ2 μ ∧ R (f b x) ρ2) ∨ (ok b x = false ∧ body ρ1 μ = .rt s0 μ))) → R b ρ →
    (chk ok f b xs = true ∧ ∃ b' ρ', forL g body xs ρ μ = .nx ρ' μ ∧ R b' ρ') ∨ (chk ok f b xs = false ∧ forL g body xs ρ μ = .rt s0 μ)
  | [], b, ρ, _, h => .inl ⟨rfl, b, ρ, rfl, h⟩
  | x :: xs, b, ρ, st, h => by
    obtain ⟨ρ1, h1, ⟨h2, ρ2, h3, h4⟩ | ⟨h2, h3⟩⟩ := st x (List.mem_cons_self ..) b ρ h
    · rcases for_dec R ok f s0 xs _ ρ2 (fun y hy => st y (List.mem_cons_of_mem _ hy)) h4 with ⟨k1, b', ρ', k2, k3⟩ | ⟨k1, k2⟩
      · exact .inl ⟨by simp [chk, h2, k1], b', ρ', by simp only [forL, h1, h3, k2], k3⟩
      · exact .inr ⟨by simp [chk, h2, k1], by simp only [forL, h1, h3, k2]⟩
    · exact .inr ⟨by simp [chk, h2], by simp only [forL, h1, h3]⟩
theorem chk_all (p : D → Bool) : ∀ xs : List D, chk (fun (_ : Unit) => p) (fun b _ => b) () xs = xs.all p
  | [] => rfl
  | x :: r => by simp [chk, chk_all p r]
end DL
namespace Bt
open PySem DL LV
theorem lexPle (a b c d : Int) : lexLe [a, b] [c, d] = !ltP (c, d) (a, b) := by
  have e : lexLe [a, b] [c, d] = (if decide (a = c) = true then (if decide (b = d) = true then decide ((2 : Nat) ≤ 2) else decide (b ≤ d)) else decide (a ≤ c)) := rfl
  rw [e]
  unfold ltP
  by_cases q : a = c
  · subst q
    by_cases q2 : b = d
    · subst q2; simp
    · simp [q2]; by_cases q3 : b ≤ d
      · have : ¬ d < b := by omega
        simp [q3, this]
      · have : d < b := by omega
        simp [q3, this]
  · have q' : ¬ c = a := fun h => q h.symm
    simp [q, q']
    by_cases q3 : a ≤ c
    · have : ¬ c < a := by omega
      simp [q3, this]
    · have : c < a := by omega
      simp [q3, this]
theorem lex_le (a b c d : Int) : leD (.tup [.int a, .int b]) (.tup [.int c, .int d]) = some (.bl (!ltP (c, d) (a, b))) := by
  rw [← lexPle]; rfl
theorem pw30 : powD (.int 10) (.int 30) = some (.int far) := rfl
def fstB (b : Int × Int) : List D → Bool
  | [] => true
  | x :: _ => ltP b (prD x)
def okT (n : Int) (b : Int × Int) (x : D) : Bool := tiB n x && ltP b (prD x)
theorem chk_ties (n : Int) : ∀ (ts : List D) (b : Int × Int), chk (okT n) (fun _ x => prD x) b ts = (ts.all (tiB n) && (fstB b ts && (ts.zip (ts.drop 1)).all fun q => ltP (prD q.1) (prD q.2)))
  | [], b => rfl
  | [x], b => by simp [chk, okT, fstB]
  | x :: y :: r, b => by
    have ih := chk_ties n (y :: r) (prD x)
    rw [chk, ih]
    simp only [okT, fstB, List.all_cons, List.drop_succ_cons, List.drop_zero, List.zip_cons_cons]
    generalize tiB n x = b1
    generalize tiB n y = b2
    generalize r.all (tiB n) = b3
    generalize ltP b (prD x) = b4
    generalize ltP (prD x) (prD y) = b5
    generalize ((y :: r).zip r).all _ = b6
    revert b1 b2 b3 b4 b5 b6
    decide
theorem first_ok {n : Int} {x : D} (h : tiB n x = true) : ltP (-1, -1) (prD x) = true := by
  obtain ⟨a, b, c, rfl, h1, _⟩ := tiB_get h
  have : (-1 : Int) < a := by omega
  simp [prD, ltP, this]
theorem good_eq {d : D} (h : d.pl = true) : p_u_law_good_web [d] = .ok (.bl (wbB d)) := by
  refine fn_rt (s := .d (.bl (wbB d))) (μ := []) ?_ rfl
  have h1 := isi_tu h
  have r0 : rho0 3 ([d].map Sl.d) = [some (.d d), none, none, none] := rfl
  rw [F_u_law_good_web_eq, r0]
  cases d with
  | tup ds =>
    match ds, h with
    | [], _ => simp [wbB]
    | [x], _ => simp [wbB]
    | x :: y :: z :: r, _ =>
      have e : ¬ ((r.length : Int) + 1 + 1 + 1 = 2) := by omega
      simp [wbB, e]
    | [x, y], h =>
      have hx : x.pl = true := pl_mem (ds := [x, y]) h (by simp)
      have hy : y.pl = true := pl_mem (ds := [x, y]) h (by simp)
      have tx := isi_tu hx
      have ty := isi_tu hy
      cases x with
      | tup ps =>
        have hps : ∀ p, p ∈ ps → p.pl = true := fun p hp => pl_mem hx hp
        refine (seq_nx (ρ' := [some (.d (.tup [.tup ps, y])), none, none, none]) (μ' := []) (by simp)).trans ?_
        by_cases l1 : 1 ≤ ps.length ∧ ps.length ≤ 5
        · have a1 : (1 : Int) ≤ ps.length := by omega
          have a2 : (ps.length : Int) ≤ 5 := by omega
          cases y with
          | tup ts =>
            have hts : ∀ p, p ∈ ts → p.pl = true := fun p hp => pl_mem hy hp
            by_cases l2 : ts.length ≤ 10
            · have l2' : ¬ (ts.length : Int) > 10 := by omega
              refine (seq_nx (ρ' := [some (.d (.tup [.tup ps, .tup ts])), none, none, none]) (μ' := []) (by simp [a1, a2]; omega)).trans ?_
              have f1 := for_dec (g := G1_u_law_good_web) (body := B1_u_law_good_web) (μ := []) (fun (_ : Unit) ρ => ∃ j, ρ = [some (.d (.tup [.tup ps, .tup ts])), j, none, none]) (fun _ => stB) (fun b _ => b) (.d (.bl false)) ps () [some (.d (.tup [.tup ps, .tup ts])), none, none, none] (by
                rintro p hp _ ρ ⟨j, rfl⟩
                refine ⟨[some (.d (.tup [.tup ps, .tup ts])), some (.d p), none, none], rfl, ?_⟩
                have pp := hps p hp
                generalize D.tup [.tup ps, .tup ts] = W
                have tp := isi_tu pp
                have key : B1_u_law_good_web [some (.d W), some (.d p), none, none] [] = if stB p = true then .nx [some (.d W), some (.d p), none, none] [] else .rt (.d (.bl false)) [] := by
                  cases p with
                  | tup es =>
                    match es, pp with
                    | [], _ => simp [B1_u_law_good_web, stB]
                    | [x], _ => simp [B1_u_law_good_web, stB]
                    | x :: y :: z :: r, _ =>
                      have e : ¬ ((r.length : Int) + 1 + 1 + 1 = 2) := by omega
                      simp [B1_u_law_good_web, stB, e]
                    | [x, y], pp =>
                      have hx : x.pl = true := pl_mem (ds := [x, y]) pp (by simp)
                      have hy : y.pl = true := pl_mem (ds := [x, y]) pp (by simp)
                      rw [stB_2]
                      have wx := lwhole_eq hx 0 far
                      by_cases q : whB x 0 far = true
                      · obtain ⟨a, rfl, q1, q2⟩ := whB_int q
                        have wy := lwhole_eq hy a far
                        by_cases q3 : whB y a far = true
                        · simp [B1_u_law_good_web, pw30, wx, wy, q, q3]
                        · simp [B1_u_law_good_web, pw30, wx, wy, q, q3]
                      · simp [B1_u_law_good_web, pw30, wx, q]
                  | _ => first | (simp [D.pl] at pp; done) | simp [B1_u_law_good_web, stB, tp, isTu]
                cases e : stB p with
                | true => rw [e] at key; exact .inl ⟨rfl, _, key, _, rfl⟩
                | false => rw [e] at key; exact .inr ⟨rfl, key⟩) ⟨_, rfl⟩
              rw [chk_all] at f1
              rcases f1 with ⟨q1, _, ρ', f1, j, rfl⟩ | ⟨q1, f1⟩
              · refine (seq_nx (for_nx (ds := ps) (μ1 := []) (by simp) f1)).trans ?_
                refine (seq_nx (ρ' := [some (.d (.tup [.tup ps, .tup ts])), j, some (.d (.tup [.int (-1), .int (-1)])), none]) (μ' := []) (by simp)).trans ?_
                have f2 := for_dec (g := G2_u_law_good_web) (body := B2_u_law_good_web) (μ := []) (fun (b : Int × Int) ρ => ∃ j3, ρ = [some (.d (.tup [.tup ps, .tup ts])), j, some (.d (.tup [.int b.1, .int b.2])), j3]) (okT ps.length) (fun _ x => prD x) (.d (.bl false)) ts (-1, -1) [some (.d (.tup [.tup ps, .tup ts])), j, some (.d (.tup [.int (-1), .int (-1)])), none] (by
                  rintro t ht ⟨u, v⟩ ρ ⟨j3, rfl⟩
                  refine ⟨[some (.d (.tup [.tup ps, .tup ts])), j, some (.d (.tup [.int u, .int v])), some (.d t)], rfl, ?_⟩
                  have pt := hts t ht
                  have tt := isi_tu pt
                  have i0 : ixD (.tup [.tup ps, .tup ts]) (.int 0) = some (.tup ps) := rfl
                  generalize hW : D.tup [.tup ps, .tup ts] = W at *
                  have key : B2_u_law_good_web [some (.d W), j, some (.d (.tup [.int u, .int v])), some (.d t)] [] = if okT ps.length (u, v) t = true then .nx [some (.d W), j, some (.d (.tup [.int (prD t).1, .int (prD t).2])), some (.d t)] [] else .rt (.d (.bl false)) [] := by
                    cases t with
                    | tup es =>
                      match es, pt with
                      | [], _ => simp [B2_u_law_good_web, okT, tiB, i0]
                      | [x], _ => simp [B2_u_law_good_web, okT, tiB, i0]
                      | [x, y], _ => simp [B2_u_law_good_web, okT, tiB, i0]
                      | x :: y :: z :: w :: r, _ =>
                        have e : ¬ ((r.length : Int) + 1 + 1 + 1 + 1 = 3) := by omega
                        simp [B2_u_law_good_web, okT, tiB, i0, e]
                      | [x, y, z], pt =>
                        have hx : x.pl = true := pl_mem (ds := [x, y, z]) pt (by simp)
                        have hy : y.pl = true := pl_mem (ds := [x, y, z]) pt (by simp)
                        have hz : z.pl = true := pl_mem (ds := [x, y, z]) pt (by simp)
                        have wx := lwhole_eq hx 0 (ps.length - 1)
                        have wz := lwhole_eq hz 1 far
                        by_cases q : whB x 0 (ps.length - 1) = true
                        · obtain ⟨a, rfl, q1, q2⟩ := whB_int q
                          have wy := lwhole_eq hy (a + 1) (ps.length - 1)
                          by_cases q3 : whB y (a + 1) (ps.length - 1) = true
                          · obtain ⟨b, rfl, q4, q5⟩ := whB_int q3
                            by_cases q6 : whB z 1 far = true
                            · obtain ⟨c, rfl, q7, q8⟩ := whB_int q6
                              have hl := lex_le a b u v
                              cases q9 : ltP (u, v) (a, b) with
                              | true => simp [B2_u_law_good_web, okT, tiB, i0, pw30, wx, wy, wz, q, q3, q6, hl, q9, prD]
                              | false => simp [B2_u_law_good_web, okT, tiB, i0, pw30, wx, wy, wz, q, q3, q6, hl, q9, prD]
                            · simp [B2_u_law_good_web, okT, tiB, i0, pw30, wx, wy, wz, q, q3, q6]
                          · simp [B2_u_law_good_web, okT, tiB, i0, pw30, wx, wy, wz, q, q3]
                        · simp [B2_u_law_good_web, okT, tiB, i0, pw30, wx, wz, q]
                    | _ => first | (simp [D.pl] at pt; done) | simp [B2_u_law_good_web, okT, tiB, tt, isTu]
                  cases e : okT ps.length (u, v) t with
                  | true => rw [e] at key; exact .inl ⟨rfl, _, key, _, rfl⟩
                  | false => rw [e] at key; exact .inr ⟨rfl, key⟩) ⟨_, rfl⟩
                rw [chk_ties] at f2
                have fst : ts.all (tiB ps.length) = true → fstB (-1, -1) ts = true := by
                  intro ha
                  cases ts with
                  | nil => rfl
                  | cons x r => exact first_ok (List.all_eq_true.1 ha x (List.mem_cons_self ..))
                have wb : wbB (.tup [.tup ps, .tup ts]) = (ts.all (tiB ps.length) && (fstB (-1, -1) ts && (ts.zip (ts.drop 1)).all fun q => ltP (prD q.1) (prD q.2))) := by
                  have e0 : wbB (.tup [.tup ps, .tup ts]) = (ts.all (tiB ps.length) && (ts.zip (ts.drop 1)).all fun q => ltP (prD q.1) (prD q.2)) := by
                    simp only [wbB]; rw [q1]; simp [l1.1, l1.2, l2]
                  rw [e0]
                  cases qa : ts.all (tiB ps.length) with
                  | false => simp
                  | true => rw [fst qa]; simp
                rcases f2 with ⟨q2, b', ρ', f2, j3, rfl⟩ | ⟨q2, f2⟩
                · refine (seq_nx (for_nx (ds := ts) (μ1 := []) (by simp) f2)).trans ?_
                  rw [wb, q2]; rfl
                · have f2' : sFor (sSq (e2 ixD (eV 0) (eC (.int 1)))) G2_u_law_good_web B2_u_law_good_web [some (.d (.tup [.tup ps, .tup ts])), j, some (.d (.tup [.int (-1), .int (-1)])), none] [] = .rt (.d (.bl false)) [] := by
                    rw [sFor_eq]; simp [f2]
                  refine (seq_rt f2').trans ?_
                  rw [wb, q2]
              · have f1' : sFor (sSq (e2 ixD (eV 0) (eC (.int 0)))) G1_u_law_good_web B1_u_law_good_web [some (.d (.tup [.tup ps, .tup ts])), none, none, none] [] = .rt (.d (.bl false)) [] := by
                  rw [sFor_eq]; simp [f1]
                refine (seq_rt f1').trans ?_
                simp only [wbB]; rw [q1]; simp
            · have l2' : (ts.length : Int) > 10 := by omega
              refine (seq_rt (μ' := []) (s := .d (.bl false)) (by simp [a1, a2]; omega)).trans ?_
              simp [wbB, l2]
          | _ => first | (simp [D.pl] at hy; done) | (refine (seq_rt (μ' := []) (s := .d (.bl false)) (by simp [a1, a2, ty, isTu])).trans (by simp [wbB]))
        · refine (seq_rt (μ' := []) (s := .d (.bl false)) ?_).trans ?_
          · by_cases a1 : (1 : Int) ≤ ps.length
            · have a2 : ¬ (ps.length : Int) ≤ 5 := by omega
              simp [a1, a2]
            · simp [a1]
          · cases y <;> first | rfl | (simp only [wbB]; by_cases k1 : 1 ≤ ps.length <;> by_cases k2 : ps.length ≤ 5 <;> simp [k1, k2] <;> omega)
      | _ => first | (simp [D.pl] at hx; done) | (refine (seq_rt (μ' := []) (s := .d (.bl false)) (by simp [tx, isTu])).trans (by simp [wbB]))
  | _ => first | (simp [D.pl] at h; done) | simp [wbB, h1, isTu]
end Bt

set_option linter.all false
set_option maxRecDepth 100000
set_option maxHeartbeats 1000000
/-! K01P4: choices; sums and misses -/
namespace Bt
open PySem DL LV
theorem sums_of_eq {P : List Pl} {T : List Tl} (hT : TOk P.length T) (hn : P.length ≤ 1000) {xs : List Int} (hl : xs.length = T.length) : p_sums_of [eW P T, .tup (xs.map .int)] = .ok (.lst (lsf (dg T xs) P.length)) := by
  obtain ⟨ρ', μ', h1, rfl, j3, j4, j5, j6, j7, rfl⟩ := sums_body hT xs G2_sums_of B2_sums_of rfl rfl hl
  refine fn_rt (s := .ob 0) (μ := [.lst (lsf (dg T xs) P.length)]) ?_ rfl
  have r0 : rho0 6 ([eW P T, .tup (xs.map .int)].map Sl.d) = [some (.d (eW P T)), some (.d (.tup (xs.map .int))), none, none, none, none, none, none] := rfl
  rw [F_sums_of_eq, r0]
  refine (seq_nx (ρ' := [some (.d (eW P T)), some (.d (.tup (xs.map .int))), some (.ob 0), none, none, none, none, none]) (μ' := [.lst (lsf (fun _ => 0) P.length)]) ?_).trans ?_
  · exact s_asg (zeros_lc (g := G1_sums_of) (e := E1_sums_of) rfl rfl hn) rfl
  refine (seq_nx (for_nx (ds := (T.zip xs).map fun q => .tup [eT q.1, .int q.2]) (μ1 := [.lst (lsf (fun _ => 0) P.length)]) ?_ h1)).trans ?_
  · simp [eW, eTs, zipD_map]
  · rfl
theorem law_sums_eq {P : List Pl} {T : List Tl} (hT : TOk P.length T) (hn : P.length ≤ 1000) {xs : List Int} (hl : xs.length = T.length) : p_u_law_sums [eW P T, .tup (xs.map .int)] = .ok (.lst (lsf (dg T xs) P.length)) := by
  obtain ⟨ρ', μ', h1, rfl, j3, j4, j5, j6, j7, rfl⟩ := sums_body hT xs G2_u_law_sums B2_u_law_sums rfl rfl hl
  refine fn_rt (s := .ob 0) (μ := [.lst (lsf (dg T xs) P.length)]) ?_ rfl
  have r0 : rho0 6 ([eW P T, .tup (xs.map .int)].map Sl.d) = [some (.d (eW P T)), some (.d (.tup (xs.map .int))), none, none, none, none, none, none] := rfl
  rw [F_u_law_sums_eq, r0]
  refine (seq_nx (ρ' := [some (.d (eW P T)), some (.d (.tup (xs.map .int))), some (.ob 0), none, none, none, none, none]) (μ' := [.lst (lsf (fun _ => 0) P.length)]) ?_).trans ?_
  · exact s_asg (zeros_lc (g := G1_u_law_sums) (e := E1_u_law_sums) rfl rfl hn) rfl
  refine (seq_nx (for_nx (ds := (T.zip xs).map fun q => .tup [eT q.1, .int q.2]) (μ1 := [.lst (lsf (fun _ => 0) P.length)]) ?_ h1)).trans ?_
  · simp [eW, eTs, zipD_map]
  · rfl
theorem missing_of_eq {P : List Pl} {T : List Tl} (hT : TOk P.length T) (hn : P.length ≤ 1000) {xs : List Int} (hl : xs.length = T.length) : p_missing_of [eW P T, .tup (xs.map .int)] = .ok (.int (missL P T xs)) := by
  have hs := sums_of_eq hT hn hl
  obtain ⟨ρ', h1, j3, j4, j5, rfl⟩ := for_fold (g := G1_missing_of) (body := B1_missing_of) (μ := []) (fun v => .tup [eP (lof P v, upf P v), .int (dg T xs v)]) (fun (s : Int) ρ => ∃ j3 j4 j5, ρ = [some (.d (eW P T)), some (.d (.tup (xs.map .int))), some (.d (.int s)), j3, j4, j5])
    (fun s v => s + phi (lof P v) (upf P v) (dg T xs v)) (List.range P.length) 0 [some (.d (eW P T)), some (.d (.tup (xs.map .int))), some (.d (.int 0)), none, none, none] (by
      rintro v _ s ρ ⟨j3, j4, j5, rfl⟩
      refine ⟨_, _, rfl, ?_, ⟨some (.d (.int (lof P v))), some (.d (.int (upf P v))), some (.d (.int (dg T xs v))), rfl⟩⟩
      simp [B1_missing_of, phi]
      omega) ⟨_, _, _, rfl⟩
  rw [foldl_sum, sum_range] at h1
  refine fn_rt (s := .d (.int (missL P T xs))) (μ := []) ?_ rfl
  have r0 : rho0 4 ([eW P T, .tup (xs.map .int)].map Sl.d) = [some (.d (eW P T)), some (.d (.tup (xs.map .int))), none, none, none, none] := rfl
  rw [F_missing_of_eq, r0]
  refine (seq_nx (ρ' := [some (.d (eW P T)), some (.d (.tup (xs.map .int))), some (.d (.int 0)), none, none, none]) (μ' := []) rfl).trans ?_
  refine (seq_nx (for_nx (ds := (List.range P.length).map fun v => .tup [eP (lof P v, upf P v), .int (dg T xs v)]) (μ1 := []) ?_ h1)).trans ?_
  · rw [← zip_lsf]
    generalize lsf (dg T xs) P.length = L at *
    simp [hs]
    simp [eW, ePs]
  · simp [missL]
theorem law_misses_eq {P : List Pl} {T : List Tl} (hT : TOk P.length T) (hn : P.length ≤ 1000) (hp : ∀ p, p ∈ P → p.1 ≤ p.2) {xs : List Int} (hl : xs.length = T.length) : p_u_law_misses [eW P T, .tup (xs.map .int)] = .ok (.int (missL P T xs)) := by
  have hs := law_sums_eq hT hn hl
  obtain ⟨ρ', h1, j3, j4, j5, rfl⟩ := for_fold (g := G1_u_law_misses) (body := B1_u_law_misses) (μ := []) (fun v => .tup [eP (lof P v, upf P v), .int (dg T xs v)]) (fun (s : Int) ρ => ∃ j3 j4 j5, ρ = [some (.d (eW P T)), some (.d (.tup (xs.map .int))), some (.d (.int s)), j3, j4, j5])
    (fun s v => s + phi (lof P v) (upf P v) (dg T xs v)) (List.range P.length) 0 [some (.d (eW P T)), some (.d (.tup (xs.map .int))), some (.d (.int 0)), none, none, none] (by
      rintro v hv s ρ ⟨j3, j4, j5, rfl⟩
      have hlu : lof P v ≤ upf P v := hp _ (getD_mem (d := (0, 0)) (List.mem_range.1 hv))
      refine ⟨_, _, rfl, ?_, ⟨some (.d (.int (lof P v))), some (.d (.int (upf P v))), some (.d (.int (dg T xs v))), rfl⟩⟩
      simp [B1_u_law_misses, phi]
      omega) ⟨_, _, _, rfl⟩
  rw [foldl_sum, sum_range] at h1
  refine fn_rt (s := .d (.int (missL P T xs))) (μ := []) ?_ rfl
  have r0 : rho0 4 ([eW P T, .tup (xs.map .int)].map Sl.d) = [some (.d (eW P T)), some (.d (.tup (xs.map .int))), none, none, none, none] := rfl
  rw [F_u_law_misses_eq, r0]
  refine (seq_nx (ρ' := [some (.d (eW P T)), some (.d (.tup (xs.map .int))), some (.d (.int 0)), none, none, none]) (μ' := []) rfl).trans ?_
  refine (seq_nx (for_nx (ds := (List.range P.length).map fun v => .tup [eP (lof P v, upf P v), .int (dg T xs v)]) (μ1 := []) ?_ h1)).trans ?_
  · rw [← zip_lsf]
    generalize lsf (dg T xs) P.length = L at *
    simp [hs]
    simp [eW, ePs]
  · simp [missL]

/-! choices, on any data -/
theorem eT_pl (t : Tl) : (eT t).pl = true := rfl
theorem eP_pl (p : Pl) : (eP p).pl = true := rfl
theorem eW_pl (P : List Pl) (T : List Tl) : (eW P T).pl = true := by
  have h1 : plL (P.map eP) = true := by rw [plL_all, List.all_eq_true]; intro x hx; obtain ⟨p, _, rfl⟩ := List.mem_map.1 hx; rfl
  have h2 : plL (T.map eT) = true := by rw [plL_all, List.all_eq_true]; intro x hx; obtain ⟨p, _, rfl⟩ := List.mem_map.1 hx; rfl
  simp [eW, ePs, eTs, D.pl, plL, h1, h2]
theorem eW_wb {P : List Pl} {T : List Tl} (h : WebOk P T) : wbB (eW P T) = true := by
  have l1 := h.n1
  have l5 := h.n5
  have lm := h.m
  have h1 : (P.map eP).all stB = true := by
    rw [List.all_eq_true]; intro x hx; obtain ⟨p, hp, rfl⟩ := List.mem_map.1 hx
    have := h.p p hp
    have k : p.1 ≤ far := by omega
    simp [eP, stB, whB, this.1, this.2.1, this.2.2, k]
  have h2 : (T.map eT).all (tiB (P.map eP).length) = true := by
    rw [List.all_eq_true]; intro x hx; obtain ⟨t, ht, rfl⟩ := List.mem_map.1 hx
    have k1 := h.t t ht
    have k2 := h.far t ht
    have a1 : (t.1 : Int) ≤ (P.length : Int) - 1 := by omega
    have a2 : (t.1 : Int) + 1 ≤ t.2.1 := by omega
    have a3 : (t.2.1 : Int) ≤ (P.length : Int) - 1 := by omega
    have a4 : 1 ≤ t.2.2 := by omega
    simp [eT, tiB, whB, a1, a2, a3, a4, k2]
  have h3 : ((T.map eT).zip ((T.map eT).drop 1)).all (fun q => ltP (prD q.1) (prD q.2)) = true := by
    rw [← List.map_drop, List.zip_map, List.all_map, List.all_eq_true]
    intro q hq
    have := h.srt q hq
    obtain ⟨⟨a, b, c⟩, a', b', c'⟩ := q
    unfold lt2 at this
    dsimp only at this
    show ltP ((a : Int), (b : Int)) ((a' : Int), (b' : Int)) = true
    unfold ltP
    simp only [Bool.or_eq_true, Bool.and_eq_true, decide_eq_true_eq]
    omega
  show (decide (1 ≤ (P.map eP).length) && decide ((P.map eP).length ≤ 5) && (P.map eP).all stB && decide ((T.map eT).length ≤ 10) && (T.map eT).all (tiB (P.map eP).length) && ((T.map eT).zip ((T.map eT).drop 1)).all fun q => ltP (prD q.1) (prD q.2)) = true
  rw [h1, h2, h3]
  simp [l1, l5, lm]
def chB (T : List Tl) : D → Bool
  | .tup xs => decide (xs.length = T.length) && (xs.zip T).all fun q => whB q.1 0 q.2.2.2
  | _ => false
theorem fits_choice_eq {P : List Pl} {T : List Tl} (hT : T.length ≤ 1000) {d : D} (h : d.pl = true) : p_fits_choice [eW P T, d] = .ok (.bl (chB T d)) := by
  refine fn_rt (s := .d (.bl (chB T d))) (μ := []) ?_ rfl
  have h1 := isi_tu h
  have r0 : rho0 2 ([eW P T, d].map Sl.d) = [some (.d (eW P T)), some (.d d), none, none] := rfl
  rw [F_fits_choice_eq, r0]
  have i1 : ixD (eW P T) (.int 1) = some (eTs T) := rfl
  generalize eW P T = W at *
  cases d with
  | tup xs =>
    have hxs : ∀ p, p ∈ xs → p.pl = true := fun p hp => pl_mem h hp
    by_cases l : xs.length = T.length
    · refine (seq_nx (ρ' := [some (.d W), some (.d (.tup xs)), none, none]) (μ' := []) (by simp [i1, eTs, l])).trans ?_
      have s1 := all_lc (vs := [2, 3]) (src := sZip (eV 1) (e2 ixD (eV 0) (eC (.int 1)))) (g := G1_fits_choice) (e := E1_fits_choice) (ρ := [some (.d W), some (.d (.tup xs)), none, none]) (μ := []) (fun q : D × Tl => .tup [q.1, eT q.2]) (fun q => whB q.1 0 q.2.2.2) (xs.zip T) (by
        have := zipD_map (fun d : D => d) eT xs T
        simp at this
        simp [i1, eTs, this]) (by rw [List.length_zip]; omega) fun q hq => ⟨_, rfl, by
        obtain ⟨x, a, b, c⟩ := q
        have := whole_eq (hxs x (List.of_mem_zip hq).1) 0 c
        simp [E1_fits_choice, wipeR, eT, this]⟩
      rw [sRet_eq, s1]
      simp [chB, l]
    · have l' : ¬ (xs.length : Int) = T.length := by omega
      refine (seq_rt (μ' := []) (s := .d (.bl false)) (by simp [i1, eTs, l'])).trans ?_
      simp [chB, l]
  | _ => first | (simp [D.pl] at h; done) | (refine (seq_rt (μ' := []) (s := .d (.bl false)) (by simp [h1, isTu])).trans (by simp [chB]))
theorem eqD_ones (xs : List Int) : eqD (.lst (xs.map .int)) (.lst []) = some (.bl (decide (xs = []))) := by
  unfold eqD
  rw [if_pos ⟨shaped_ints xs, rfl⟩]
  cases xs with
  | nil => rfl
  | cons x L => rfl
theorem law_choice_eq {P : List Pl} {T : List Tl} (hT : T.length ≤ 1000) {d : D} (h : d.pl = true) : p_u_law_is_choice [eW P T, d] = .ok (.bl (chB T d)) := by
  refine fn_rt (s := .d (.bl (chB T d))) (μ := []) ?_ rfl
  have h1 := isi_tu h
  have r0 : rho0 2 ([eW P T, d].map Sl.d) = [some (.d (eW P T)), some (.d d), none, none] := rfl
  rw [F_u_law_is_choice_eq, r0]
  have i1 : ixD (eW P T) (.int 1) = some (eTs T) := rfl
  generalize eW P T = W at *
  cases d with
  | tup xs =>
    have hxs : ∀ p, p ∈ xs → p.pl = true := fun p hp => pl_mem h hp
    by_cases l : xs.length = T.length
    · refine (seq_nx (ρ' := [some (.d W), some (.d (.tup xs)), none, none]) (μ' := []) (by simp [i1, eTs, l])).trans ?_
      have s1 := frz_lcf (vs := [2, 3]) (src := sZip (eV 1) (e2 ixD (eV 0) (eC (.int 1)))) (g := G1_u_law_is_choice) (t := T1_u_law_is_choice) (e := E1_u_law_is_choice) (ρ := [some (.d W), some (.d (.tup xs)), none, none]) (μ := []) (fun q : D × Tl => .tup [q.1, eT q.2]) (fun q => !whB q.1 0 q.2.2.2) (fun _ => .int 1) (xs.zip T) (by
        have := zipD_map (fun d : D => d) eT xs T
        simp at this
        simp [i1, eTs, this]) (by rw [List.length_zip]; omega) fun q hq => ⟨_, rfl, by
        obtain ⟨x, a, b, c⟩ := q
        have := lwhole_eq (hxs x (List.of_mem_zip hq).1) 0 c
        simp [T1_u_law_is_choice, wipeR, eT, this], fun _ => rfl⟩
      refine s_ret (e_2 s1 (y := .d (.lst [])) (μ2 := []) rfl ?_)
      have e : (((xs.zip T).filter fun q => !whB q.1 0 q.2.2.2).map fun _ => D.int 1) = (((xs.zip T).filter fun q => !whB q.1 0 q.2.2.2).map fun _ => (1 : Int)).map D.int := by rw [List.map_map]; rfl
      have k := eqD_ones (((xs.zip T).filter fun q => !whB q.1 0 q.2.2.2).map fun _ => (1 : Int))
      rw [← e] at k
      have b : (decide ((((xs.zip T).filter fun q => !whB q.1 0 q.2.2.2).map fun _ => (1 : Int)) = [])) = chB T (.tup xs) := by
        rw [Bool.eq_iff_iff]
        simp [chB, l, List.filter_eq_nil_iff]
      rw [b] at k
      simp only [o2_eq, dr_d, k, Option.map_some, ofO_some]
    · have l' : ¬ (xs.length : Int) = T.length := by omega
      refine (seq_rt (μ' := []) (s := .d (.bl false)) (by simp [i1, eTs, l'])).trans ?_
      simp [chB, l]
  | _ => first | (simp [D.pl] at h; done) | (refine (seq_rt (μ' := []) (s := .d (.bl false)) (by simp [h1, isTu])).trans (by simp [chB]))
/-! the program's questions -/
@[simp] theorem boolD_b (b : Bool) : boolD [.bl b] = some (.bl b) := rfl
theorem is_web_eq {d : D} (h : d.pl = true) : p_is_web [d] = .ok (.bl (wbB d)) := by
  refine fn_rt (s := .d (.bl (wbB d))) (μ := []) ?_ rfl
  have := fits_web_eq h
  simp [F_is_web, rho0, this]
theorem need_web_t {d : D} (h : d.pl = true) (q : wbB d = true) : p_need_web [d] = .ok .non := by
  have := fits_web_eq h
  refine fn_nx (ρ := [some (.d d)]) (μ := []) ?_
  simp [F_need_web, rho0, this, q]
theorem need_web_f {d : D} (h : d.pl = true) (q : wbB d = false) : p_need_web [d] = .ex ⟨"InvalidWeb", none⟩ := by
  have := fits_web_eq h
  refine fn_ex (ρ := [some (.d d)]) (μ := []) ?_
  simp [F_need_web, rho0, this, q]
theorem need_choice_t {P : List Pl} {T : List Tl} (hT : T.length ≤ 1000) {d : D} (h : d.pl = true) (q : chB T d = true) : p_need_choice [eW P T, d] = .ok .non := by
  have := fits_choice_eq (P := P) hT h
  refine fn_nx (ρ := [some (.d (eW P T)), some (.d d)]) (μ := []) ?_
  simp [F_need_choice, rho0, this, q]
theorem need_choice_f {P : List Pl} {T : List Tl} (hT : T.length ≤ 1000) {d : D} (h : d.pl = true) (q : chB T d = false) : p_need_choice [eW P T, d] = .ex ⟨"InvalidChoice", none⟩ := by
  have := fits_choice_eq (P := P) hT h
  refine fn_ex (ρ := [some (.d (eW P T)), some (.d d)]) (μ := []) ?_
  simp [F_need_choice, rho0, this, q]
theorem is_choice_eq {P : List Pl} {T : List Tl} (hw : WebOk P T) {d : D} (h : d.pl = true) : p_is_choice [eW P T, d] = .ok (.bl (chB T d)) := by
  have hm := hw.m
  have n1 := need_web_t (eW_pl P T) (eW_wb hw)
  have n2 := fits_choice_eq (P := P) (T := T) (by omega) h
  refine fn_rt (s := .d (.bl (chB T d))) (μ := []) ?_ rfl
  simp [F_is_choice, rho0, n1, n2]
/-- no web: each of the three refuses -/
theorem three_f {w d : D} (h : w.pl = true) (q : wbB w = false) : p_is_choice [w, d] = .ex ⟨"InvalidWeb", none⟩ ∧ p_sums [w, d] = .ex ⟨"InvalidWeb", none⟩ ∧ p_fits [w, d] = .ex ⟨"InvalidWeb", none⟩ := by
  have n1 := need_web_f h q
  refine ⟨fn_ex (ρ := [some (.d w), some (.d d)]) (μ := []) ?_, fn_ex (ρ := [some (.d w), some (.d d)]) (μ := []) ?_, fn_ex (ρ := [some (.d w), some (.d d)]) (μ := []) ?_⟩
  · simp [F_is_choice, rho0, n1]
  · simp [F_sums, rho0, n1]
  · simp [F_fits, rho0, n1]
/-- no choice: both refuse -/
theorem two_f {P : List Pl} {T : List Tl} (hw : WebOk P T) {d : D} (h : d.pl = true) (q : chB T d = false) : p_sums [eW P T, d] = .ex ⟨"InvalidChoice", none⟩ ∧ p_fits [eW P T, d] = .ex ⟨"InvalidChoice", none⟩ := by
  have hm := hw.m
  have n1 := need_web_t (eW_pl P T) (eW_wb hw)
  have n2 := need_choice_f (P := P) (T := T) (by omega) h q
  refine ⟨fn_ex (ρ := [some (.d (eW P T)), some (.d d)]) (μ := []) ?_, fn_ex (ρ := [some (.d (eW P T)), some (.d d)]) (μ := []) ?_⟩
  · simp [F_sums, rho0, n1, n2]
  · simp [F_fits, rho0, n1, n2]
theorem ch_chB : ∀ {T : List Tl} {xs : List Int}, Ch T xs → chB T (.tup (xs.map .int)) = true := by
  intro T xs h
  have hl := h.len
  simp only [chB, List.length_map, hl, decide_true, Bool.true_and]
  rw [List.all_eq_true]
  rintro ⟨d, t⟩ hq
  obtain ⟨i, hi, e⟩ := List.getElem_of_mem hq
  rw [List.getElem_zip] at e
  simp only [Prod.mk.injEq, List.getElem_map] at e
  have hi2 : i < T.length := by rw [List.length_zip] at hi; omega
  have hi1 : i < xs.length := by omega
  have k := (ch_iff.1 h).2 i hi2
  rw [List.getD_eq_getElem?_getD, List.getD_eq_getElem?_getD, List.getElem?_eq_getElem hi1, List.getElem?_eq_getElem hi2] at k
  obtain ⟨e1, e2⟩ := e
  subst e1 e2
  simp only [Option.getD_some] at k
  simp [whB, k.1, k.2]
theorem xs_pl (xs : List Int) : (D.tup (xs.map .int)).pl = true := by
  show plL (xs.map .int) = true
  rw [plL_all, List.all_eq_true]; intro x hx; obtain ⟨p, _, rfl⟩ := List.mem_map.1 hx; rfl
theorem sums_eq {P : List Pl} {T : List Tl} (hw : WebOk P T) {xs : List Int} (h : Ch T xs) : p_sums [eW P T, .tup (xs.map .int)] = .ok (.tup (lsf (dg T xs) P.length)) := by
  have hm := hw.m
  have hn := hw.n5
  have n1 := need_web_t (eW_pl P T) (eW_wb hw)
  have n2 := need_choice_t (P := P) (T := T) (by omega) (xs_pl xs) (ch_chB h)
  have n3 := sums_of_eq (P := P) hw.t (by omega) h.len
  refine fn_rt (s := .d (.tup (lsf (dg T xs) P.length))) (μ := []) ?_ rfl
  generalize lsf (dg T xs) P.length = L at *
  generalize List.map D.int xs = X at *
  simp [F_sums, rho0, n1, n2, n3]
theorem fits_eq {P : List Pl} {T : List Tl} (hw : WebOk P T) {xs : List Int} (h : Ch T xs) : p_fits [eW P T, .tup (xs.map .int)] = .ok (.bl (decide (missL P T xs = 0))) := by
  have hm := hw.m
  have hn := hw.n5
  have n1 := need_web_t (eW_pl P T) (eW_wb hw)
  have n2 := need_choice_t (P := P) (T := T) (by omega) (xs_pl xs) (ch_chB h)
  have n3 := missing_of_eq (P := P) hw.t (by omega) h.len
  refine fn_rt (s := .d (.bl (decide (missL P T xs = 0)))) (μ := []) ?_ rfl
  generalize List.map D.int xs = X at *
  simp [F_fits, rho0, n1, n2, n3]

end Bt

set_option linter.all false
set_option maxRecDepth 100000
set_option maxHeartbeats 1000000
/-! K01P5: what refuses -/
namespace DL
open PySem L2
variable {ρ : Rho} {μ : Store}
theorem fm_rtx {nl : Nat} {body : SF} {ss : List Sl} {s : Sl} {μ μ' : Store} (h : body (rho0 nl ss) μ = .rt s μ') : fnMx nl body ss μ = .ok s μ' := by
  unfold fnMx; rw [h]
theorem act_eq {i n : Nat} {t : CTok} {f : MF} {fa : AF} (h : ρ[i]? = some (some (.clo t))) : eAct i n t f fa ρ μ = (fa ρ μ).bind fun ss μ1 => if ss.length = n then f ss μ1 else .no := by
  unfold eAct
  rw [h]
  simp
theorem callH_eq {n m : Nat} {g : CTok → MF → MF} {fx : XF} {js : List Nat} {fE : EF} {a b : List Sl} {μ1 : Store} {r : Res Sl} (hx : fx ρ μ = .ok (a, b) μ1) (hl : a.length + b.length + 1 = n) (h : ∀ t, g t (lamM m js ρ fE) (a ++ .clo t :: b) μ1 = r) : eCallH n g fx m js fE ρ μ = r := by
  unfold eCallH
  rw [hx]
  show (if a.length + b.length + 1 = n then uni (fun t => g t (lamM m js ρ fE) (a ++ .clo t :: b) μ1) else .no) = r
  haveI : TabCtx := ⟨[]⟩
  rw [if_pos hl, uni_eq h]
theorem isE_at {i : Nat} {t : CTok} {b : Bool} (h : ρ[i]? = some (some (.clo t))) : eIsE i t b ρ μ = .ok (.d (.bl b)) μ := by
  unfold eIsE
  rw [h]
  simp
theorem nm_at {i : Nat} {t : CTok} {l : Str} (h : ρ[i]? = some (some (.clo t))) : eNm i t (some l) ρ μ = .ok (.d (.str l)) μ := by
  unfold eNm
  rw [h]
  simp
theorem tryAs_eq {i : Nat} {ok : Exn → Bool} {body : SF} {suite : Exn → CTok → SF} {x : Exn} {ρ' : Rho} {μ' : Store} {r : Out} (hb : body ρ μ = .ex x ρ' μ') (ho : ok x = true) (h : ∀ t, (suite x t (ρ'.set i (some (.clo t))) μ').rets = r) : sTryAs i ok body suite ρ μ = r := by
  unfold sTryAs
  rw [hb]
  show (if ok x = true then uniO (fun t => (suite x t (ρ'.set i (some (.clo t))) μ').rets) else .no) = r
  haveI : TabCtx := ⟨[]⟩
  rw [if_pos ho, uniO_eq h]
theorem tryAs_nx {i : Nat} {ok : Exn → Bool} {body : SF} {suite : Exn → CTok → SF} {ρ' : Rho} {μ' : Store} (hb : body ρ μ = .nx ρ' μ') : sTryAs i ok body suite ρ μ = .nx ρ' μ' := by
  unfold sTryAs
  rw [hb]
theorem callV_eq {i n : Nat} {tbl : List (Str × PF)} {fa : AF} {x : Str} {g : PF} (h : ρ[i]? = some (some (.d (.fn x)))) (ht : tbl.lookup x = some g) : eCallV i n tbl fa ρ μ = eCall n g fa ρ μ := by
  unfold eCallV
  rw [h]
  show (match tbl.lookup x with | some g => eCall n g fa ρ μ | none => .no) = _
  rw [ht]
theorem neD_ss {s : Str} (h : PySem.PyData.strOk s = true) : neD (.str s) (.str s) = some (.bl false) := by
  unfold neD
  have : (D.str s).shaped = true := by simp [D.shaped, D.cmpOk, D.deep, h]
  rw [if_pos ⟨this, this⟩]
  simp [D.beq]
theorem eqD_ee : eqD (.lst []) (.lst []) = some (.bl true) := rfl
theorem xLam_eq {fr : AF} {ys : List Sl} {μ1 : Store} (h : fr ρ μ = .ok ys μ1) : xLam fr ρ μ = .ok ([], ys) μ1 := by
  unfold xLam; rw [h]; rfl
end DL
namespace Bt
open PySem DL LV
theorem error_ex {t : CTok} {φ : MF} {μ μ' : Store} {y : Exn} {l : Str} (h : φ [] μ = .ex y μ') (hl : labE y = some l) : h_u_law_error t φ [.clo t] μ = .ok (.d (.str l)) μ' := by
  have ho : okE y = true := by
    unfold labE at hl
    split at hl
    · assumption
    · cases hl
  refine fm_rtx ?_
  refine seq_rt (tryAs_eq (x := y) (ρ' := [some (.clo t), none]) (μ' := μ') ?_ ho fun t' => ?_)
  · have := act_eq (ρ := [some (.clo t), none]) (μ := μ) (i := 0) (n := 0) (t := t) (f := φ) (fa := aNil) rfl
    show sExp (eAct 0 0 t φ aNil) [some (.clo t), none] μ = _
    rw [sExp_eq, this, aNil_eq, rbind_ok]
    show (φ [] μ).toOut _ _ = _
    rw [h]; rfl
  · show (sRet (eIf (bV (eIsE 1 t' true)) (eNm 1 t' (labE y)) (eC (.str "odd"))) [some (.clo t), some (.clo t')] μ').rets = _
    rw [hl, sRet_eq, eIf_eq, bV_eq, isE_at (by rfl), rbind_ok, rbind_ok]
    show ((eNm 1 t' (some l) [some (.clo t), some (.clo t')] μ').toOut _ _).rets = _
    rw [nm_at (by rfl)]; rfl
theorem refused_t {t : CTok} {φ : MF} {μ : Store} {name : Str} {ds : List D} (hn : PySem.PyData.strOk name = true) (hl : ds.length ≤ 1000) (h : ∀ d, d ∈ ds → ∃ y, φ [.d d] μ = .ex y μ ∧ labE y = some name) : h_u_law_all_refused t φ [.clo t, .d (.lst ds), .d (.str name)] μ = .ok (.d (.bl true)) μ := by
  refine fm_rtx ?_
  have r0 : rho0 1 [.clo t, .d (.lst ds), .d (.str name)] = [some (.clo t), some (.d (.lst ds)), some (.d (.str name)), none] := rfl
  rw [r0]
  unfold F_u_law_all_refused
  have s1 := frz_lcf (vs := [3]) (src := sSq (eV 1)) (g := gN 3) (t := bV (e2 neD (eCallH 1 h_u_law_error (xLam (aNil)) 0 [0, 3] (eAct 0 1 t φ (aCons (eV 1) (aNil)))) (eV 2))) (e := eV 3) (ρ := [some (.clo t), some (.d (.lst ds)), some (.d (.str name)), none]) (μ := μ) id (fun _ => false) id ds (by simp) (by omega) fun d hd => ⟨[some (.clo t), some (.d (.lst ds)), some (.d (.str name)), some (.d d)], rfl, by
    obtain ⟨y, h1, h2⟩ := h d hd
    have c : eCallH 1 h_u_law_error (xLam (aNil)) 0 [0, 3] (eAct 0 1 t φ (aCons (eV 1) (aNil))) [some (.clo t), some (.d (.lst ds)), some (.d (.str name)), some (.d d)] μ = .ok (.d (.str name)) μ := by
      refine callH_eq (a := []) (b := []) (μ1 := μ) (xLam_eq rfl) rfl fun t' => error_ex (y := y) ?_ h2
      show eAct 0 1 t φ (aCons (eV 1) (aNil)) [some (.clo t), some (.d d)] μ = _
      rw [act_eq (by rfl)]
      simp [h1]
    rw [bV_eq, e2_eq, c]
    simp [neD_ss hn], fun h => (nomatch h)⟩
  have e : (ds.filter fun _ => false) = [] := by simp
  rw [e] at s1
  refine s_ret (e_2 s1 (y := .d (.lst [])) (μ2 := μ) rfl ?_)
  simp [eqD_ee]
def bads : List D := match p_u_law_bad_webs [] with
  | .ok (.lst ds) => ds
  | _ => []
theorem bad_eq : p_u_law_bad_webs [] = .ok (.lst bads) := rfl
theorem bads_no : bads.all (fun d => d.pl && !wbB d) = true := by decide +kernel
theorem bads_len : bads.length = 24 := by decide +kernel
theorem bad_f {d : D} (h : d ∈ bads) : d.pl = true ∧ wbB d = false := by
  have := List.all_eq_true.1 bads_no d h
  simpa using this
theorem ok_web : PySem.PyData.strOk "web" = true := by decide +kernel
theorem ok_choice : PySem.PyData.strOk "choice" = true := by decide +kernel
theorem lab_web : labE ⟨"InvalidWeb", none⟩ = some "web" := by decide +kernel
theorem lab_choice : labE ⟨"InvalidChoice", none⟩ = some "choice" := by decide +kernel
end Bt

set_option linter.all false
set_option maxRecDepth 100000
set_option maxHeartbeats 1000000
/-! K01P6: the law's own question of refusals -/
namespace Bt
open PySem DL LV
def tb3 : List (Str × PF) := [("is_choice", p_is_choice), ("sums", p_sums), ("fits", p_fits)]
theorem tb_1 : tb3.lookup ("is_choice" : Str) = some p_is_choice := rfl
theorem tb_2 : tb3.lookup ("sums" : Str) = some p_sums := rfl
theorem tb_3 : tb3.lookup ("fits" : Str) = some p_fits := rfl
/-- the first loop: each of the three refuses what is no web -/
theorem ref1 {W : Sl} {j2 j3 j4 j5 : Option Sl} {μ : Store} {x : Str} {g : PF} (hx : tb3.lookup x = some g) (hg : ∀ d, d.pl = true → wbB d = false → g [d, .non] = .ex ⟨"InvalidWeb", none⟩) : B1_u_law_refused [some W, some (.d (.fn x)), j2, j3, j4, j5] μ = .nx [some W, some (.d (.fn x)), j2, j3, j4, j5] μ := by
  have c : eCallH 3 h_u_law_all_refused (xLam (aCons (eCall0 p_u_law_bad_webs) (aCons (eC (.str "web")) (aNil)))) 1 [1] (eCallV 1 2 [("is_choice" , p_is_choice), ("sums" , p_sums), ("fits" , p_fits)] (aCons (eV 0) (aCons (eC .non) (aNil)))) [some W, some (.d (.fn x)), j2, j3, j4, j5] μ = .ok (.d (.bl true)) μ := by
    refine callH_eq (a := []) (b := [.d (.lst bads), .d (.str "web")]) (μ1 := μ) (xLam_eq (by simp [bad_eq])) rfl fun t => refused_t ok_web (by rw [bads_len]; omega) fun d hd => ⟨⟨"InvalidWeb", none⟩, ?_, lab_web⟩
    obtain ⟨h1, h2⟩ := bad_f hd
    have h3 := hg d h1 h2
    show eCallV 1 2 tb3 (aCons (eV 0) (aCons (eC .non) (aNil))) [some (.d d), some (.d (.fn x))] μ = _
    rw [callV_eq (by rfl) hx]
    simp [h3]
  unfold B1_u_law_refused
  exact (s_iff (b_not (b_v c))).trans rfl
theorem ref2 {P : List Pl} {T : List Tl} {odds : List D} {j2 j4 j5 : Option Sl} {μ : Store} {x : Str} {g : PF} (hx : tb3.lookup x = some g) (hl : odds.length ≤ 1000) (hg : ∀ d, d ∈ odds → g [eW P T, d] = .ex ⟨"InvalidChoice", none⟩) : B2_u_law_refused [some (.d (eW P T)), some (.d (.fn x)), j2, some (.d (.lst odds)), j4, j5] μ = .nx [some (.d (eW P T)), some (.d (.fn x)), j2, some (.d (.lst odds)), j4, j5] μ := by
  have c : eCallH 3 h_u_law_all_refused (xLam (aCons (eV 3) (aCons (eC (.str "choice")) (aNil)))) 1 [1, 0] (eCallV 1 2 [("is_choice" , p_is_choice), ("sums" , p_sums), ("fits" , p_fits)] (aCons (eV 2) (aCons (eV 0) (aNil)))) [some (.d (eW P T)), some (.d (.fn x)), j2, some (.d (.lst odds)), j4, j5] μ = .ok (.d (.bl true)) μ := by
    refine callH_eq (a := []) (b := [.d (.lst odds), .d (.str "choice")]) (μ1 := μ) (xLam_eq (by simp)) rfl fun t => refused_t ok_choice hl fun d hd => ⟨⟨"InvalidChoice", none⟩, ?_, lab_choice⟩
    have h3 := hg d hd
    show eCallV 1 2 tb3 (aCons (eV 2) (aCons (eV 0) (aNil))) [some (.d d), some (.d (.fn x)), some (.d (eW P T))] μ = _
    rw [callV_eq (by rfl) hx]
    generalize eW P T = W at *
    simp [h3]
  unfold B2_u_law_refused
  exact (s_iff (b_not (b_v c))).trans rfl
/-- values that are no choices -/
def zs (z : D) (n : Nat) : List D := (List.replicate n [z]).flatten
theorem zs_len (z : D) (n : Nat) : (zs z n).length = n := by simp [zs]
theorem zs_mem {z d : D} {n : Nat} (h : d ∈ zs z n) : d = z := by
  simp [zs] at h; exact h.2
theorem zs_pl {z : D} (hz : z.pl = true) (n : Nat) : plL (zs z n) = true := by
  rw [plL_all, List.all_eq_true]; intro x hx; rw [zs_mem hx]; exact hz
def odds0 (n : Nat) : List D := [.non, .tup (zs (.int 0) (n + 1)), .lst (zs (.int 0) n), .tup (zs (.int (-1)) (n + 1)), .str "0", .int 5]
theorem odds0_f {T : List Tl} {d : D} (h : d ∈ odds0 T.length) : d.pl = true ∧ chB T d = false := by
  simp only [odds0, List.mem_cons, List.not_mem_nil, or_false] at h
  rcases h with rfl | rfl | rfl | rfl | rfl | rfl
  · exact ⟨rfl, rfl⟩
  · exact ⟨zs_pl rfl _, by simp [chB, zs_len]⟩
  · exact ⟨zs_pl rfl _, rfl⟩
  · exact ⟨zs_pl rfl _, by simp [chB, zs_len]⟩
  · exact ⟨rfl, rfl⟩
  · exact ⟨rfl, rfl⟩
theorem odds1_f {t : Tl} {T : List Tl} {d : D} {r : List D} (hr : r = zs (.int 0) T.length) (h : d ∈ [D.tup (.bl true :: r), .tup (.int (t.2.2 + 1) :: r)]) : d.pl = true ∧ chB (t :: T) d = false := by
  subst hr
  simp only [List.mem_cons, List.not_mem_nil, or_false] at h
  rcases h with rfl | rfl
  · exact ⟨by simp [D.pl, plL, zs_pl (z := .int 0) rfl], by simp [chB, whB]⟩
  · refine ⟨by simp [D.pl, plL, zs_pl (z := .int 0) rfl], ?_⟩
    have : ¬ t.2.2 + 1 ≤ t.2.2 := by omega
    simp [chB, whB, this]
theorem mul_t (z : D) {k : Int} {n : Nat} (hk : k = n) (hn : n ≤ 1000) : mulD (.tup [z]) (.int k) = some (.tup (zs z n)) := by
  subst hk
  show (if 0 ≤ (n : Int) ∧ (n : Int) ≤ 1000 ∧ [z].length ≤ 1000 ∧ [z].length ≠ 0 then _ else none) = _
  rw [if_pos ⟨by omega, by omega, by simp, by simp⟩]
  simp [zs]
theorem mul_ls (z : D) {k : Int} {n : Nat} (hk : k = n) (hn : n ≤ 1000) : mulD (.lst [z]) (.int k) = some (.lst (zs z n)) := by
  subst hk
  show (if 0 ≤ (n : Int) ∧ (n : Int) ≤ 1000 ∧ [z].length ≤ 1000 then _ else none) = _
  rw [if_pos ⟨by omega, by omega, by simp⟩]
  simp [zs]
theorem ods (T : List Tl) : ∃ odds : List D, odds.length ≤ 10 ∧ (∀ d, d ∈ odds → d.pl = true ∧ chB T d = false) ∧ (T = [] → odds = odds0 0) ∧ (∀ t r, T = t :: r → odds = odds0 T.length ++ [D.tup (.bl true :: zs (.int 0) r.length), .tup (.int (t.2.2 + 1) :: zs (.int 0) r.length)]) := by
  cases T with
  | nil => exact ⟨odds0 0, by simp [odds0], fun d h => odds0_f (T := []) h, fun _ => rfl, fun _ _ h => (nomatch h)⟩
  | cons t r =>
    refine ⟨odds0 (t :: r).length ++ [D.tup (.bl true :: zs (.int 0) r.length), .tup (.int (t.2.2 + 1) :: zs (.int 0) r.length)], by simp [odds0], fun d h => ?_, fun h => (nomatch h), fun t' r' h => by cases h; rfl⟩
    rcases List.mem_append.1 h with h | h
    · exact odds0_f h
    · exact odds1_f rfl h
theorem refused_eq {P : List Pl} {T : List Tl} (hw : WebOk P T) : p_u_law_refused [eW P T] = .ok (.bl true) := by
  have hm := hw.m
  obtain ⟨odds, ol, of, o1, o2⟩ := ods T
  refine fn_rt (s := .d (.bl true)) (μ := []) ?_ rfl
  have r0 : rho0 5 ([eW P T].map Sl.d) = [some (.d (eW P T)), none, none, none, none, none] := rfl
  rw [F_u_law_refused_eq, r0]
  have i1 : ixD (eW P T) (.int 1) = some (eTs T) := rfl
  refine (seq_nx (ρ' := [some (.d (eW P T)), some (.d (.fn "fits")), none, none, none, none]) (μ' := []) ?_).trans ?_
  · refine for_nx (ds := [.fn "is_choice", .fn "sums", .fn "fits"]) (μ1 := []) rfl ?_
    simp only [forL, G1_u_law_refused, gN_eq, List.set_cons_succ, List.set_cons_zero]
    rw [ref1 tb_1 fun d h1 h2 => (three_f h1 h2).1]
    simp only [List.set_cons_succ, List.set_cons_zero]
    rw [ref1 tb_2 fun d h1 h2 => (three_f h1 h2).2.1]
    simp only [List.set_cons_succ, List.set_cons_zero]
    rw [ref1 tb_3 fun d h1 h2 => (three_f h1 h2).2.2]
  have l1 : lenD [eTs T] = some (.int (T.length : Nat)) := by simp [eTs]
  refine (seq_nx (ρ' := [some (.d (eW P T)), some (.d (.fn "fits")), some (.d (nD T.length)), none, none, none]) (μ' := []) (by simp [i1, l1])).trans ?_
  have m1 := mul_t (.int 0) (k := (T.length : Int) + 1) (n := T.length + 1) (by omega) (by omega)
  have m2 := mul_ls (.int 0) (k := (T.length : Int)) (n := T.length) (by omega) (by omega)
  have m3 := mul_t (.int (-1)) (k := (T.length : Int) + 1) (n := T.length + 1) (by omega) (by omega)
  refine (seq_nx (ρ' := [some (.d (eW P T)), some (.d (.fn "fits")), some (.d (nD T.length)), some (.d (.lst (odds0 T.length))), none, none]) (μ' := []) (by generalize eW P T = W at *; simp [m1, m2, m3, odds0])).trans ?_
  have step : ∃ j4, sIf (bV (e2 gtD (eV 2) (eC (.int 0)))) (sSeq (sAsg (e2 mulD (eTup (aCons (eC (.int 0)) (aNil))) (e2 subD (eV 2) (eC (.int 1)))) (gN 4)) (sAsg (e2 addD (eV 3) (eFrz (lLst (aCons (e2 addD (eTup (aCons (eC (.bl true)) (aNil))) (eV 4)) (aCons (e2 addD (eTup (aCons (e2 addD (e2 ixD (e2 ixD (e2 ixD (eV 0) (eC (.int 1))) (eC (.int 0))) (eC (.int 2))) (eC (.int 1))) (aNil))) (eV 4)) (aNil)))))) (gN 3))) (sNil) [some (.d (eW P T)), some (.d (.fn "fits")), some (.d (nD T.length)), some (.d (.lst (odds0 T.length))), none, none] [] = .nx [some (.d (eW P T)), some (.d (.fn "fits")), some (.d (nD T.length)), some (.d (.lst odds)), j4, none] [] := by
    cases T with
    | nil =>
      refine ⟨none, ?_⟩
      rw [o1 rfl]
      generalize eW P [] = W
      rfl
    | cons t r =>
      refine ⟨some (.d (.tup (zs (.int 0) r.length))), ?_⟩
      rw [o2 t r rfl]
      have i2 : ixD (eTs (t :: r)) (.int 0) = some (eT t) := by simp [eTs]
      have i3 : ixD (eT t) (.int 2) = some (.int t.2.2) := rfl
      have g : ((r.length : Int) + 1) > 0 := by omega
      have m4 := mul_t (.int 0) (k := (r.length : Int) + 1 - 1) (n := r.length) (by omega) (by simp at hm; omega)
      have z1 : (zs (.int 0) r.length).length + 1 ≤ 16777216 := by rw [zs_len]; simp at hm; omega
      have z2 : (odds0 (t :: r).length).length = 6 := rfl
      generalize eW P (t :: r) = W at *
      generalize odds0 (t :: r).length = OO at *
      generalize eTs (t :: r) = TT at *
      refine (s_ift (by simp [g])).trans ?_
      refine (seq_nx (ρ' := [some (.d W), some (.d (.fn "fits")), some (.d (nD (t :: r).length)), some (.d (.lst OO)), some (.d (.tup (zs (.int 0) r.length))), none]) (μ' := []) (by simp at m4; simp [m4])).trans ?_
      generalize zs (.int 0) r.length = ZZ at *
      have z1' : 1 + ZZ.length ≤ 16777216 := by omega
      simp [i1, i2, i3, z1', z2]
  obtain ⟨j4, step⟩ := step
  refine (seq_nx step).trans ?_
  refine (seq_nx (ρ' := [some (.d (eW P T)), some (.d (.fn "fits")), some (.d (nD T.length)), some (.d (.lst odds)), j4, none]) (μ' := []) ?_).trans ?_
  · refine for_nx (ds := [.fn "sums", .fn "fits"]) (μ1 := []) rfl ?_
    simp only [forL, G2_u_law_refused, gN_eq, List.set_cons_succ, List.set_cons_zero]
    rw [ref2 tb_2 (by omega) fun d hd => (two_f hw (of d hd).1 (of d hd).2).1]
    simp only [List.set_cons_succ, List.set_cons_zero]
    rw [ref2 tb_3 (by omega) fun d hd => (two_f hw (of d hd).1 (of d hd).2).2]
  have s1 := frz_lcf (vs := [5]) (src := sSq (eV 3)) (g := G3_u_law_refused) (t := T3_u_law_refused) (e := E3_u_law_refused) (ρ := [some (.d (eW P T)), some (.d (.fn "fits")), some (.d (nD T.length)), some (.d (.lst odds)), j4, none]) (μ := []) id (fun _ => false) id odds (by simp) (by omega) fun d hd => ⟨[some (.d (eW P T)), some (.d (.fn "fits")), some (.d (nD T.length)), some (.d (.lst odds)), j4, some (.d d)], rfl, by
    have := is_choice_eq hw (of d hd).1
    rw [(of d hd).2] at this
    generalize eW P T = W at *
    simp [T3_u_law_refused, this, isnD], fun h => (nomatch h)⟩
  have e : (odds.filter fun _ => false) = [] := by simp
  rw [e] at s1
  refine s_ret (e_2 s1 (y := .d (.lst [])) (μ2 := []) rfl ?_)
  simp [eqD_ee]
end Bt

set_option linter.all false
set_option maxRecDepth 100000
set_option maxHeartbeats 1000000
/-! K01P7: draws; drawn ties and webs -/
namespace Bt
open PySem DL LV
def tkR (bag : List Int) (many : Int) : Int := (bag.headD 0) % many
theorem take_eq {μ : Store} {b : Nat} {bag : List Int} {many : Int} (hb : μ[b]? = some (.lst (bag.map .int))) (hm : 0 < many) : m_u_law_take [.ob b, .d (.int many)] μ = .ok (.d (.int (tkR bag many))) (μ.set b (.lst (bag.tail.map .int))) := by
  refine fm_rt ?_
  have r0 : rho0 1 [.ob b, .d (.int many)] = [some (.ob b), some (.d (.int many)), none] := rfl
  rw [r0]
  have hn := neD_nili bag
  have hbl : b < μ.length := (List.getElem?_eq_some_iff.1 hb).1
  cases bag with
  | nil =>
    have hs : μ.set b (.lst []) = μ := by
      refine List.ext_getElem? fun i => ?_
      rw [List.getElem?_set]
      by_cases e : b = i
      · subst e; rw [if_pos rfl, if_pos hbl, hb]; rfl
      · rw [if_neg e]
    have hb' : μ[b]? = some (.lst []) := hb
    have hn' : neD (.lst []) (.lst []) = some (.bl false) := hn
    show F_u_law_take _ _ = .rt _ (μ.set b (.lst []))
    rw [hs]
    simp [F_u_law_take, hb', hn', hm, tkR]
  | cons x r =>
    have hb' : μ[b]? = some (.lst (.int x :: r.map .int)) := hb
    have hn' : neD (.lst (.int x :: r.map .int)) (.lst []) = some (.bl true) := hn
    simp [F_u_law_take, hb', hn', hm, tkR]
theorem tkR_lt {bag : List Int} {many : Int} (h : 0 < many) : 0 ≤ tkR bag many ∧ tkR bag many < many := ⟨Int.emod_nonneg _ (by omega), Int.emod_lt_of_pos _ h⟩
theorem cell_ex (ns : List Int) (k : Nat) : ∃ c : Int, p_u_law_cell [.scr ns, nD k] = .ok (.int c) := by
  have len : lenD [.scr ns] = some (.int (ns.length : Nat)) := rfl
  by_cases q : k < ns.length
  · have hx : ixD (.scr ns) (.int (k : Nat)) = some (.int ns[k]) := by
      show (L2.atI ns (k : Int)).map D.int = _
      rw [atI_nat, List.getElem?_eq_getElem q]; rfl
    refine ⟨ns[k], fn_rt (s := .d (.int ns[k])) (μ := []) ?_ rfl⟩
    have q' : (k : Int) < ns.length := by omega
    simp [F_u_law_cell, rho0, len, hx, q]
  · by_cases z : ns.length = 0
    · refine ⟨7919 * k + 101, fn_rt (s := .d (.int (7919 * k + 101))) (μ := []) ?_ rfl⟩
      have q2 : ¬ (k : Int) < 0 := by omega
      simp [F_u_law_cell, rho0, len, q, q2, z]
    · have hlt : k % ns.length < ns.length := Nat.mod_lt _ (by omega)
      have hx : ixD (.scr ns) (.int ((k : Int) % (ns.length : Int))) = some (.int ns[k % ns.length]) := by
        show (L2.atI ns ((k : Int) % (ns.length : Int))).map D.int = _
        rw [show (k : Int) % (ns.length : Int) = ((k % ns.length : Nat) : Int) from rfl, atI_nat, List.getElem?_eq_getElem hlt]; rfl
      have z' : 0 < ns.length := by omega
      refine ⟨ns[k % ns.length] % 1000003 + 7919 * k, fn_rt (s := .d (.int (ns[k % ns.length] % 1000003 + 7919 * k))) (μ := []) ?_ rfl⟩
      have q' : ¬ (k : Int) < ns.length := by omega
      simp [F_u_law_cell, rho0, len, hx, q, z, z']
def primes : List D := [.int 2147483647, .int 2147483629, .int 2147483587, .int 2147483579, .int 2147483563, .int 2147483549, .int 2147483543, .int 2147483497]
theorem prime_at (n : Nat) : ∃ p : Int, ixD (.tup primes) (.int ((n : Int) % 8)) = some (.int p) ∧ 0 < p ∧ p < 2147483648 := by
  have h : n % 8 < 8 := Nat.mod_lt _ (by omega)
  have e : ixD (.tup primes) (.int ((n : Int) % 8)) = primes[n % 8]? := by
    show L2.atI primes ((n : Int) % 8) = _
    rw [show (n : Int) % 8 = ((n % 8 : Nat) : Int) from rfl, atI_nat]
  rw [e]
  generalize n % 8 = r at h
  have : r = 0 ∨ r = 1 ∨ r = 2 ∨ r = 3 ∨ r = 4 ∨ r = 5 ∨ r = 6 ∨ r = 7 := by omega
  rcases this with rfl | rfl | rfl | rfl | rfl | rfl | rfl | rfl <;> exact ⟨_, rfl, by omega, by omega⟩

theorem draws_eq {μ : Store} (ns : List Int) (k : Nat) (hk : k ≤ 100) : ∃ bag : List Int, m_u_law_draws [.d (.scr ns), .d (nD k), .d (.int 150), .d (.int 27720)] μ = .ok (.ob μ.length) (μ ++ [.lst (bag.map .int)]) := by
  obtain ⟨c, hc⟩ := cell_ex ns k
  obtain ⟨R, hR⟩ : ∃ R : Int, R = if c ≥ 1000000000000000000 then c else 0 := ⟨_, rfl⟩
  have ap : ∀ L : List D, (μ ++ [MO.lst L])[μ.length]? = some (.lst L) := fun L => by rw [List.getElem?_append_right (Nat.le_refl _)]; simp
  have st : ∀ L L' : List D, (μ ++ [MO.lst L]).set μ.length (.lst L') = μ ++ [.lst L'] := fun L L' => by rw [List.set_append_right _ _ (Nat.le_refl _)]; simp
  obtain ⟨ρ', μ', f1, ⟨bag, z, j8, j9, g1, g2, g3⟩⟩ := for_idx (g := G1_u_law_draws) (body := B1_u_law_draws) nD (fun i ρ μ' => ∃ (bag : List Int) (z : Int) (j8 j9 : Option Sl), bag.length = i ∧ ρ = [some (.d (.scr ns)), some (.d (nD k)), some (.d (.int 150)), some (.d (.int 27720)), some (.d (.tup primes)), some (.d (.int c)), some (.d (.int z)), some (.ob μ.length), j8, j9] ∧ μ' = μ ++ [.lst (bag.map .int)])
    (List.range 150) 0 [some (.d (.scr ns)), some (.d (nD k)), some (.d (.int 150)), some (.d (.int 27720)), some (.d (.tup primes)), some (.d (.int c)), some (.d (.int R)), some (.ob μ.length), none, none] (μ ++ [.lst []]) (by
      rintro i j hj ρ μ' ⟨bag, z, j8, j9, hl, rfl, rfl⟩
      obtain ⟨hi, rfl⟩ : i < 150 ∧ i = j := by
        obtain ⟨h1, h2⟩ := List.getElem?_eq_some_iff.1 hj
        rw [List.getElem_range] at h2
        rw [List.length_range] at h1
        exact ⟨h1, h2⟩
      obtain ⟨p1, a1, a2, a3⟩ := prime_at i
      obtain ⟨p2, b1, b2, b3⟩ := prime_at (3 * i + k)
      obtain ⟨p3, c1, c2, c3⟩ := prime_at (i + 5)
      have b1' : ixD (.tup primes) (.int ((3 * (i : Int) + k) % 8)) = some (.int p2) := by
        rw [show (3 * (i : Int) + k) = ((3 * i + k : Nat) : Int) by omega]; exact b1
      have c1' : ixD (.tup primes) (.int (((i : Int) + 5) % 8)) = some (.int p3) := by
        rw [show ((i : Int) + 5) = ((i + 5 : Nat) : Int) by omega]; exact c1
      have m1 : ∀ x : Int, 0 ≤ x % p1 ∧ x % p1 < p1 := fun x => ⟨Int.emod_nonneg _ (by omega), Int.emod_lt_of_pos _ a2⟩
      have m2 : ∀ x : Int, 0 ≤ x % p2 ∧ x % p2 < p2 := fun x => ⟨Int.emod_nonneg _ (by omega), Int.emod_lt_of_pos _ b2⟩
      have n1 : (c % p1).natAbs < 18446744073709551616 := by have := m1 c; omega
      have n2 : (i : Int).natAbs < 18446744073709551616 := by omega
      have n3 : ((i : Int) + 1).natAbs < 18446744073709551616 := by omega
      have n4 : (2 : Int).natAbs < 18446744073709551616 := by omega
      have n5 : (7919 : Int).natAbs < 18446744073709551616 := by omega
      have n6 : (104729 : Int).natAbs < 18446744073709551616 := by omega
      have n7 : (3 : Int).natAbs < 18446744073709551616 := by omega
      have e1 := mul_l (i := 2) (j := i) n4
      have e2' := mul_r (i := 2 * (i : Int)) (j := i) n2
      have e3 := mul_l (i := c % p1) (j := 48271 + 2 * (i : Int) * i) n1
      have e4 := mul_l (i := 7919) (j := (i : Int) + 1) n5
      have e5 := mul_r (i := 7919 * ((i : Int) + 1)) (j := (i : Int) + 1) n3
      have e6 := mul_l (i := 104729) (j := (k : Int)) n6
      have e7 := mul_l (i := 3) (j := (i : Int)) n7
      obtain ⟨M, hM⟩ : ∃ M : Int, M = (c % p1 * (48271 + 2 * (i : Int) * i) + 7919 * ((i : Int) + 1) * ((i : Int) + 1) + 104729 * (k : Int)) % p2 := ⟨_, rfl⟩
      have n8 : M.natAbs < 18446744073709551616 := by have := m2 (c % p1 * (48271 + 2 * (i : Int) * i) + 7919 * ((i : Int) + 1) * ((i : Int) + 1) + 104729 * (k : Int)); rw [← hM] at this; omega
      have e8 := mul_l (i := M) (j := M) n8
      have e9 := mul_r (i := M * M) (j := M) n8
      obtain ⟨V, hV⟩ : ∃ V : Int, V = if z > 0 then z else M * M * M % p3 := ⟨_, rfl⟩
      have hlen : (bag.map D.int).length < 16777216 := by simp; omega
      have ap' := ap (bag.map D.int)
      have st' := st (bag.map D.int) (bag.map D.int ++ [.int (V % 27720)])
      refine ⟨[some (.d (.scr ns)), some (.d (nD k)), some (.d (.int 150)), some (.d (.int 27720)), some (.d (.tup primes)), some (.d (.int c)), some (.d (.int z)), some (.ob μ.length), some (.d (nD i)), j9], [some (.d (.scr ns)), some (.d (nD k)), some (.d (.int 150)), some (.d (.int 27720)), some (.d (.tup primes)), some (.d (.int c)), some (.d (.int (z / 27720))), some (.ob μ.length), some (.d (nD i)), some (.d (.int V))], _, rfl, ?_, bag ++ [V % 27720], z / 27720, _, _, by simp [hl], rfl, rfl⟩
      rw [List.map_append, List.map_cons, List.map_nil, ← st']
      generalize hQ : D.tup primes = Q at *
      generalize μ ++ [MO.lst (bag.map D.int)] = MU at *
      generalize bag.map D.int = BG at *
      generalize D.scr ns = SC at *
      unfold B1_u_law_draws
      refine (seq_nx (ρ' := [some (.d SC), some (.d (nD k)), some (.d (.int 150)), some (.d (.int 27720)), some (.d Q), some (.d (.int c)), some (.d (.int z)), some (.ob μ.length), some (.d (nD i)), some (.d (.int (c % p1 * (48271 + 2 * (i : Int) * i))))]) (μ' := MU) ?_).trans ?_
      · simp only [sAsg_eq, e2_eq, eV_eq, eC_eq]
        simp [a1, a2, -mulD_i, e1, e2', e3]
      refine (seq_nx (ρ' := [some (.d SC), some (.d (nD k)), some (.d (.int 150)), some (.d (.int 27720)), some (.d Q), some (.d (.int c)), some (.d (.int z)), some (.ob μ.length), some (.d (nD i)), some (.d (.int (c % p1 * (48271 + 2 * (i : Int) * i) + 7919 * ((i : Int) + 1) * ((i : Int) + 1) + 104729 * (k : Int))))]) (μ' := MU) ?_).trans ?_
      · simp [-mulD_i, e4, e5, e6]
      refine (seq_nx (ρ' := [some (.d SC), some (.d (nD k)), some (.d (.int 150)), some (.d (.int 27720)), some (.d Q), some (.d (.int c)), some (.d (.int z)), some (.ob μ.length), some (.d (nD i)), some (.d (.int M))]) (μ' := MU) ?_).trans ?_
      · rw [hM]
        simp [-mulD_i, e7, b1', b2]
      refine (seq_nx (ρ' := [some (.d SC), some (.d (nD k)), some (.d (.int 150)), some (.d (.int 27720)), some (.d Q), some (.d (.int c)), some (.d (.int z)), some (.ob μ.length), some (.d (nD i)), some (.d (.int (M * M * M % p3)))]) (μ' := MU) ?_).trans ?_
      · simp [-mulD_i, e8, e9, c1', c2]
      refine (seq_nx (ρ' := [some (.d SC), some (.d (nD k)), some (.d (.int 150)), some (.d (.int 27720)), some (.d Q), some (.d (.int c)), some (.d (.int z)), some (.ob μ.length), some (.d (nD i)), some (.d (.int V))]) (μ' := MU) ?_).trans ?_
      · rw [hV]
        by_cases q : z > 0
        · simp [q]
        · simp [q]
      · simp [ap', hlen]) ⟨[], R, none, none, rfl, rfl, rfl⟩
  subst g2 g3
  refine ⟨bag, fm_rt ?_⟩
  have r0 : rho0 6 [.d (.scr ns), .d (nD k), .d (.int 150), .d (.int 27720)] = [some (.d (.scr ns)), some (.d (nD k)), some (.d (.int 150)), some (.d (.int 27720)), none, none, none, none, none, none] := rfl
  rw [F_u_law_draws_eq, r0]
  refine (seq_nx (ρ' := [some (.d (.scr ns)), some (.d (nD k)), some (.d (.int 150)), some (.d (.int 27720)), some (.d (.tup primes)), none, none, none, none, none]) (μ' := μ) rfl).trans ?_
  refine (seq_nx (ρ' := [some (.d (.scr ns)), some (.d (nD k)), some (.d (.int 150)), some (.d (.int 27720)), some (.d (.tup primes)), some (.d (.int c)), none, none, none, none]) (μ' := μ) ?_).trans ?_
  · simp at hc
    simp [hc]
  refine (seq_nx (ρ' := [some (.d (.scr ns)), some (.d (nD k)), some (.d (.int 150)), some (.d (.int 27720)), some (.d (.tup primes)), some (.d (.int c)), some (.d (.int 0)), none, none, none]) (μ' := μ) rfl).trans ?_
  refine (seq_nx (ρ' := [some (.d (.scr ns)), some (.d (nD k)), some (.d (.int 150)), some (.d (.int 27720)), some (.d (.tup primes)), some (.d (.int c)), some (.d (.int R)), none, none, none]) (μ' := μ) ?_).trans ?_
  · have pw : powD (.int 10) (.int 18) = some (.int 1000000000000000000) := rfl
    rw [hR]
    by_cases q : c ≥ 1000000000000000000
    · simp [pw, q]
    · simp [pw, q]
  refine (seq_nx (ρ' := [some (.d (.scr ns)), some (.d (nD k)), some (.d (.int 150)), some (.d (.int 27720)), some (.d (.tup primes)), some (.d (.int c)), some (.d (.int R)), some (.ob μ.length), none, none]) (μ' := μ ++ [.lst []]) rfl).trans ?_
  refine (seq_nx (for_nx (ds := (List.range 150).map nD) (μ1 := μ ++ [.lst []]) ?_ f1)).trans ?_
  · have := rngR_n (μ := μ ++ [.lst []]) (n := 150) (by omega)
    simpa using this
  · rfl
theorem bag_eq {μ : Store} (ns : List Int) (k : Nat) (hk : k ≤ 100) : ∃ bag : List Int, m_u_law_bag [.d (.scr ns), .d (nD k)] μ = .ok (.ob μ.length) (μ ++ [.lst (bag.map .int)]) := by
  obtain ⟨bag, h⟩ := draws_eq (μ := μ) ns k hk
  refine ⟨bag, fm_rt ?_⟩
  simp at h
  simp [F_u_law_bag, rho0, h]
structure Dr (mo li : Nat) (many : Nat) (i j : Nat) (T : List Tl) : Prop where
  ok : TOk many T
  two : ∀ t, t ∈ T → t.2.2 ≤ li
  len : T.length ≤ mo
  srt : T.Pairwise lt2
  nxt : ∀ t, t ∈ T → t.1 < i ∨ (t.1 = i ∧ t.2.1 < j)
theorem Dr.mono {mo li many i j i' j' : Nat} {T : List Tl} (h : Dr mo li many i j T) (k : i < i' ∨ (i = i' ∧ j ≤ j')) : Dr mo li many i' j' T := ⟨h.ok, h.two, h.len, h.srt, fun t ht => by have := h.nxt t ht; omega⟩
def RT (mo li many b f : Nat) (i j : Nat) (ρ : Rho) (μ : Store) : Prop := ∃ (bag : List Int) (T : List Tl) (j5 j6 : Option Sl), ρ = [some (.ob b), some (.d (nD many)), some (.d (nD mo)), some (.d (nD li)), some (.ob f), j5, j6] ∧ μ[b]? = some (.lst (bag.map .int)) ∧ μ[f]? = some (.lst (T.map eT)) ∧ Dr mo li many i j T
theorem ties_step {mo li many b f i j : Nat} (hmo : mo ≤ 1000) (hli : 0 < li) (hbf : b ≠ f) (hij : i < j) (hj : j < many) {bag : List Int} {T : List Tl} {μ : Store} (h1 : μ[b]? = some (.lst (bag.map .int))) (h2 : μ[f]? = some (.lst (T.map eT))) (h3 : Dr mo li many i j T) :
    ∃ μ', B2_u_law_ties [some (.ob b), some (.d (nD many)), some (.d (nD mo)), some (.d (nD li)), some (.ob f), some (.d (nD i)), some (.d (nD j))] μ = .nx [some (.ob b), some (.d (nD many)), some (.d (nD mo)), some (.d (nD li)), some (.ob f), some (.d (nD i)), some (.d (nD j))] μ' ∧ RT mo li many b f i (j + 1) [some (.ob b), some (.d (nD many)), some (.d (nD mo)), some (.d (nD li)), some (.ob f), some (.d (nD i)), some (.d (nD j))] μ' := by
  have hb : b < μ.length := (List.getElem?_eq_some_iff.1 h1).1
  have hf : f < μ.length := (List.getElem?_eq_some_iff.1 h2).1
  by_cases q : T.length < mo
  · have t1 := take_eq (many := 3) h1 (by omega)
    have g1 : (μ.set b (.lst (bag.tail.map .int)))[b]? = some (.lst (bag.tail.map .int)) := get_set_eq hb
    have g2 : (μ.set b (.lst (bag.tail.map .int)))[f]? = some (.lst (T.map eT)) := by rw [get_set_ne hbf]; exact h2
    have g3 : f < (μ.set b (.lst (bag.tail.map .int))).length := by rw [List.length_set]; exact hf
    have g4 : b < (μ.set b (.lst (bag.tail.map .int))).length := by rw [List.length_set]; exact hb
    have q' : (T.length : Int) < mo := by omega
    by_cases q2 : tkR bag 3 > 0
    · generalize hMU : μ.set b (.lst (bag.tail.map D.int)) = MU at *
      have t2 := take_eq (many := (li : Int)) g1 (by omega)
      have u1 : (MU.set b (.lst (bag.tail.tail.map .int)))[b]? = some (.lst (bag.tail.tail.map .int)) := get_set_eq g4
      have u2 : (MU.set b (.lst (bag.tail.tail.map .int)))[f]? = some (.lst (T.map eT)) := by rw [get_set_ne hbf]; exact g2
      have u3 : f < (MU.set b (.lst (bag.tail.tail.map .int))).length := by rw [List.length_set]; exact g3
      obtain ⟨r1, r2⟩ := tkR_lt (bag := bag.tail) (many := (li : Int)) (by omega)
      generalize hNU : MU.set b (.lst (bag.tail.tail.map D.int)) = NU at *
      generalize hr : tkR bag.tail (li : Int) = r at *
      refine ⟨NU.set f (.lst ((T ++ [(i, j, 1 + r)]).map eT)), ?_, bag.tail.tail, T ++ [(i, j, 1 + r)], _, _, rfl, by rw [get_set_ne (Ne.symm hbf)]; exact u1, get_set_eq u3, ⟨fun t ht => ?_, fun t ht => ?_, by simp; omega, ?_, fun t ht => ?_⟩⟩
      · have hl : (T.map eT).length < 16777216 := by simp; omega
        have eT1 : eT (i, j, 1 + r) = .tup [.int i, .int j, .int (1 + r)] := rfl
        have hln : lenD [.lst (T.map eT)] = some (.int (T.length : Nat)) := by simp
        rw [List.map_append, List.map_cons, List.map_nil, eT1]
        generalize T.map eT = TT at *
        simp [B2_u_law_ties, h2, hln, q', t1, q2, g2, t2, u2, hl]
      · rcases List.mem_append.1 ht with k | k
        · exact h3.ok t k
        · rw [List.mem_singleton] at k; subst k; exact ⟨hij, hj, by show 0 < 1 + r; omega⟩
      · rcases List.mem_append.1 ht with k | k
        · exact h3.two t k
        · rw [List.mem_singleton] at k; subst k; show 1 + r ≤ (li : Int); omega
      · rw [List.pairwise_append]
        refine ⟨h3.srt, List.pairwise_singleton _ _, fun x hx y hy => ?_⟩
        rw [List.mem_singleton] at hy
        subst hy
        exact h3.nxt x hx
      · rcases List.mem_append.1 ht with k | k
        · have := h3.nxt t k; omega
        · rw [List.mem_singleton] at k; subst k; right; exact ⟨rfl, by show j < j + 1; omega⟩
    · refine ⟨μ.set b (.lst (bag.tail.map .int)), ?_, bag.tail, T, _, _, rfl, g1, g2, h3.mono (by omega)⟩
      have hln : lenD [.lst (T.map eT)] = some (.int (T.length : Nat)) := by simp
      generalize T.map eT = TT at *
      simp [B2_u_law_ties, h2, hln, q', t1, q2]
  · refine ⟨μ, ?_, bag, T, _, _, rfl, h1, h2, h3.mono (by omega)⟩
    have hln : lenD [.lst (T.map eT)] = some (.int (T.length : Nat)) := by simp
    have q' : ¬ (T.length : Int) < mo := by omega
    generalize T.map eT = TT at *
    simp [B2_u_law_ties, h2, hln, q']
theorem ties_eq {μ : Store} {mo li b many : Nat} (hmo : mo ≤ 1000) (hli : 0 < li) {bag : List Int} (hb : μ[b]? = some (.lst (bag.map .int))) (hm : many ≤ 10) : ∃ (T : List Tl) (bag' : List Int) (μ' : Store), m_u_law_ties [.ob b, .d (nD many), .d (nD mo), .d (nD li)] μ = .ok (.d (eTs T)) μ' ∧ μ'[b]? = some (.lst (bag'.map .int)) ∧ Dr mo li many many 0 T := by
  have hbl : b < μ.length := (List.getElem?_eq_some_iff.1 hb).1
  have hbf : b ≠ μ.length := by omega
  obtain ⟨ρ', μ', f1, bag', T, j5, j6, rfl, f2, f3, f4⟩ := for_idx (g := G1_u_law_ties) (body := B1_u_law_ties) nD (fun i ρ μ' => RT mo li many b μ.length i 0 ρ μ') (List.range many) 0 [some (.ob b), some (.d (nD many)), some (.d (nD mo)), some (.d (nD li)), some (.ob μ.length), none, none] (μ ++ [.lst []]) (by
    rintro i w hw ρ μ1 ⟨bag, T, j5, j6, rfl, h1, h2, h3⟩
    obtain ⟨hi, rfl⟩ : i < many ∧ i = w := by
      obtain ⟨h1, h2⟩ := List.getElem?_eq_some_iff.1 hw
      rw [List.getElem_range] at h2
      rw [List.length_range] at h1
      exact ⟨h1, h2⟩
    rw [Nat.zero_add] at h3 ⊢
    obtain ⟨ρ2, μ2, g1, ⟨bag2, T2, i5, i6, ge, g2, g3, g4⟩, i7, rfl⟩ := for_idx (g := G2_u_law_ties) (body := B2_u_law_ties) nD (fun k ρ μ' => RT mo li many b μ.length i (i + 1 + k) ρ μ' ∧ ∃ j6, ρ = [some (.ob b), some (.d (nD many)), some (.d (nD mo)), some (.d (nD li)), some (.ob μ.length), some (.d (nD i)), j6]) (List.range' (i + 1) (many - (i + 1))) 0 [some (.ob b), some (.d (nD many)), some (.d (nD mo)), some (.d (nD li)), some (.ob μ.length), some (.d (nD i)), j6] μ1 (by
      rintro k w hk ρ μ3 ⟨⟨bag, T, j5, j6, e1, h1, h2, h3⟩, j6', rfl⟩
      rw [Nat.zero_add] at h3 ⊢
      obtain ⟨hk1, hk2⟩ := List.getElem?_eq_some_iff.1 hk
      rw [List.getElem_range'] at hk2
      rw [List.length_range'] at hk1
      have hw : w = i + 1 + k := by omega
      subst hw
      obtain ⟨μ4, s1, s2⟩ := ties_step hmo hli hbf (show i < i + 1 + k by omega) (by omega) h1 h2 h3
      exact ⟨_, _, μ4, rfl, s1, s2, _, rfl⟩) ⟨⟨bag, T, _, _, rfl, h1, h2, h3.mono (.inr ⟨rfl, by omega⟩)⟩, _, rfl⟩
    refine ⟨[some (.ob b), some (.d (nD many)), some (.d (nD mo)), some (.d (nD li)), some (.ob μ.length), some (.d (nD i)), j6], [some (.ob b), some (.d (nD many)), some (.d (nD mo)), some (.d (nD li)), some (.ob μ.length), some (.d (nD i)), i7], μ2, rfl, ?_, bag2, T2, _, _, rfl, g2, g3, g4.mono (.inl (by omega))⟩
    refine for_nx (ds := (List.range' (i + 1) (many - (i + 1))).map nD) (μ1 := μ1) (rng2_n (lo := i + 1) (hi := many) ?_ rfl (by omega) (by omega)) g1
    simp) ⟨bag, [], _, _, rfl, by rw [List.getElem?_append_left hbl]; exact hb, by rw [List.getElem?_append_right (Nat.le_refl _)]; simp, ⟨fun _ h => (nomatch h), fun _ h => (nomatch h), by simp, List.Pairwise.nil, fun _ h => (nomatch h)⟩⟩
  refine ⟨T, bag', μ', fm_rt ?_, f2, ?_⟩
  · have r0 : rho0 3 [.ob b, .d (nD many), .d (nD mo), .d (nD li)] = [some (.ob b), some (.d (nD many)), some (.d (nD mo)), some (.d (nD li)), none, none, none] := rfl
    rw [F_u_law_ties_eq, r0]
    refine (seq_nx (ρ' := [some (.ob b), some (.d (nD many)), some (.d (nD mo)), some (.d (nD li)), some (.ob μ.length), none, none]) (μ' := μ ++ [.lst []]) rfl).trans ?_
    refine (seq_nx (for_nx (ds := (List.range many).map nD) (μ1 := μ ++ [.lst []]) ?_ f1)).trans ?_
    · have := rngR_n (μ := μ ++ [.lst []]) (n := many) (by omega)
      simp [this]
    · simp [f3, eTs]
  · rw [Nat.zero_add, List.length_range] at f4
    exact f4

theorem choice_eq {μ : Store} {b : Nat} {bag : List Int} {ds : List D} (hb : μ[b]? = some (.lst (bag.map .int))) (hd : ds ≠ []) : ∃ x, x ∈ ds ∧ m_u_law_choice [.ob b, .d (.lst ds)] μ = .ok (.d x) (μ.set b (.lst (bag.tail.map .int))) := by
  have hl : 0 < ds.length := List.length_pos_iff.2 hd
  have t := take_eq (many := (ds.length : Int)) hb (by omega)
  obtain ⟨h1, h2⟩ := tkR_lt (bag := bag) (many := (ds.length : Int)) (by omega)
  obtain ⟨k, hk⟩ : ∃ k : Nat, tkR bag (ds.length : Int) = k := ⟨(tkR bag (ds.length : Int)).toNat, by omega⟩
  have hk2 : k < ds.length := by omega
  refine ⟨ds[k], List.getElem_mem hk2, fm_rtx ?_⟩
  have r0 : rho0 0 [.ob b, .d (.lst ds)] = [some (.ob b), some (.d (.lst ds))] := rfl
  have g : ds[k]? = some ds[k] := List.getElem?_eq_getElem hk2
  rw [r0]
  rw [hk] at t
  generalize ds[k] = x at *
  simp [F_u_law_choice, t, g]

end Bt

set_option linter.all false
set_option maxRecDepth 100000
set_option maxHeartbeats 1000000
/-! K01P8: drawn webs are right webs -/
namespace DL
open PySem L2
/-- a comprehension whose items change the store -/
theorem lc_inv {γ δ : Type} {vs : List Nat} {g : GF} {e : EF} {ρ : Rho} (enc : γ → D) (out : δ → D) (R : Store → Prop) (Q : γ → δ → Prop) : ∀ (xs : List γ) (μ : Store), R μ → (∀ x, x ∈ xs → ∀ μ, R μ → ∃ ρ1 y μ', g (.d (enc x)) (wipeR ρ vs) = some ρ1 ∧ e ρ1 μ = .ok (.d (out y)) μ' ∧ Q x y ∧ R μ') →
    ∃ (ys : List δ) (μ' : Store), lcL vs g bYes e ρ (xs.map enc) μ = .ok (ys.map out) μ' ∧ R μ' ∧ ys.length = xs.length ∧ ∀ (i : Nat) (x : γ) (y : δ), xs[i]? = some x → ys[i]? = some y → Q x y
  | [], μ, h, _ => ⟨[], μ, rfl, h, rfl, fun _ _ _ h => by simp at h⟩
  | x :: xs, μ, h, st => by
    obtain ⟨ρ1, y, μ1, h1, h2, h3, h4⟩ := st x (List.mem_cons_self ..) μ h
    obtain ⟨ys, μ2, k1, k2, k3, k4⟩ := lc_inv (vs := vs) (g := g) (e := e) (ρ := ρ) enc out R Q xs μ1 h4 fun z hz => st z (List.mem_cons_of_mem _ hz)
    refine ⟨y :: ys, μ2, by simp only [List.map_cons, lcL, h1, bYes_eq, h2, k1], k2, by simp [k3], fun i a b ha hb => ?_⟩
    cases i with
    | zero => cases ha; cases hb; exact h3
    | succ i => exact k4 i a b ha hb
theorem fn_lst2 {ρ : Rho} {μ μ1 : Store} {q : List D → Option D} {fl : EF} {ds : List D} {d : D} (h : fl ρ μ = .ok (.d (.lst ds)) μ1) (hq : q [.lst ds] = some d) : eN q (aCons fl aNil) ρ μ = .ok (.d d) μ1 := by
  rw [eN_eq, aCons_eq, h]; simp [hq]
end DL
namespace Bt
open PySem DL LV
def RW (b f many : Nat) (T : List Tl) (nr : Int) (i : Nat) (ρ : Rho) (μ : Store) : Prop := ∃ (bag : List Int) (P : List Pl) (j5 j6 : Option Sl), ρ = [some (.ob b), some (.d (nD many)), some (.d (eTs T)), some (.ob f), some (.d (.int nr)), j5, j6] ∧ μ[b]? = some (.lst (bag.map .int)) ∧ μ[f]? = some (.lst (P.map eP)) ∧ P.length = i ∧ ∀ p, p ∈ P → 0 ≤ p.1 ∧ p.1 ≤ p.2 ∧ p.2 ≤ 5
theorem web_step {b f many i : Nat} {T : List Tl} {nr : Int} (hbf : b ≠ f) (hi : i ≤ 100) {bag : List Int} {P : List Pl} {j6 : Option Sl} {μ : Store} (h1 : μ[b]? = some (.lst (bag.map .int))) (h2 : μ[f]? = some (.lst (P.map eP))) (hl : P.length = i) (hp : ∀ p, p ∈ P → 0 ≤ p.1 ∧ p.1 ≤ p.2 ∧ p.2 ≤ 5) :
    ∃ ρ' μ', B1_u_law_web [some (.ob b), some (.d (nD many)), some (.d (eTs T)), some (.ob f), some (.d (.int nr)), some (.d (nD i)), j6] μ = .nx ρ' μ' ∧ RW b f many T nr (i + 1) ρ' μ' := by
  have hb : b < μ.length := (List.getElem?_eq_some_iff.1 h1).1
  have hf : f < μ.length := (List.getElem?_eq_some_iff.1 h2).1
  have t1 := take_eq (many := 4) h1 (by omega)
  have g1 : (μ.set b (.lst (bag.tail.map .int)))[b]? = some (.lst (bag.tail.map .int)) := get_set_eq hb
  have g2 : (μ.set b (.lst (bag.tail.map .int)))[f]? = some (.lst (P.map eP)) := by rw [get_set_ne hbf]; exact h2
  have g3 : f < (μ.set b (.lst (bag.tail.map .int))).length := by rw [List.length_set]; exact hf
  have g4 : b < (μ.set b (.lst (bag.tail.map .int))).length := by rw [List.length_set]; exact hb
  obtain ⟨l1, l2⟩ := tkR_lt (bag := bag) (many := 4) (by omega)
  generalize hMU : μ.set b (.lst (bag.tail.map D.int)) = MU at *
  generalize hl0 : tkR bag 4 = l at *
  have hlen : (P.map eP).length < 16777216 := by simp; omega
  -- what is added to the least
  have add : ∃ (r : Int) (bag2 : List Int) (NU : Store), eIf (bAnd (bV (e2 eqD (eV 4) (eC (.int 0)))) (bV (e2 gtD (eCallM 2 m_u_law_take (aCons (eV 0) (aCons (eC (.int 4)) (aNil)))) (eC (.int 0))))) (eC (.int 0)) (eCallM 2 m_u_law_take (aCons (eV 0) (aCons (eC (.int 3)) (aNil)))) [some (.ob b), some (.d (nD many)), some (.d (eTs T)), some (.ob f), some (.d (.int nr)), some (.d (nD i)), some (.d (.int l))] MU = .ok (.d (.int r)) NU ∧ 0 ≤ r ∧ r ≤ 2 ∧ NU[b]? = some (.lst (bag2.map .int)) ∧ NU[f]? = some (.lst (P.map eP)) ∧ f < NU.length := by
    by_cases q : nr = 0
    · have t2 := take_eq (many := 4) g1 (by omega)
      have u1 : (MU.set b (.lst (bag.tail.tail.map .int)))[b]? = some (.lst (bag.tail.tail.map .int)) := get_set_eq g4
      have u2 : (MU.set b (.lst (bag.tail.tail.map .int)))[f]? = some (.lst (P.map eP)) := by rw [get_set_ne hbf]; exact g2
      have u3 : f < (MU.set b (.lst (bag.tail.tail.map .int))).length := by rw [List.length_set]; exact g3
      have u4 : b < (MU.set b (.lst (bag.tail.tail.map .int))).length := by rw [List.length_set]; exact g4
      by_cases q2 : tkR bag.tail 4 > 0
      · refine ⟨0, bag.tail.tail, _, ?_, Int.le_refl _, by omega, u1, u2, u3⟩
        generalize eTs T = TT at *
        simp [q, t2, q2]
      · generalize hNU : MU.set b (.lst (bag.tail.tail.map D.int)) = NU at *
        have t3 := take_eq (many := 3) u1 (by omega)
        obtain ⟨r1, r2⟩ := tkR_lt (bag := bag.tail.tail) (many := 3) (by omega)
        refine ⟨tkR bag.tail.tail 3, bag.tail.tail.tail, NU.set b (.lst (bag.tail.tail.tail.map .int)), ?_, r1, by omega, get_set_eq u4, by rw [get_set_ne hbf]; exact u2, by rw [List.length_set]; exact u3⟩
        generalize eTs T = TT at *
        simp [q, t2, q2, t3]
    · have t3 := take_eq (many := 3) g1 (by omega)
      obtain ⟨r1, r2⟩ := tkR_lt (bag := bag.tail) (many := 3) (by omega)
      refine ⟨tkR bag.tail 3, bag.tail.tail, MU.set b (.lst (bag.tail.tail.map .int)), ?_, r1, by omega, get_set_eq g4, by rw [get_set_ne hbf]; exact g2, by rw [List.length_set]; exact g3⟩
      generalize eTs T = TT at *
      simp [q, t3]
  obtain ⟨r, bag2, NU, a1, a2, a3, a4, a5, a6⟩ := add
  refine ⟨[some (.ob b), some (.d (nD many)), some (.d (eTs T)), some (.ob f), some (.d (.int nr)), some (.d (nD i)), some (.d (.int l))], NU.set f (.lst ((P ++ [(l, l + r)]).map eP)), ?_, bag2, P ++ [(l, l + r)], _, _, rfl, by rw [get_set_ne (Ne.symm hbf)]; exact a4, get_set_eq a6, by simp [hl], fun p hp' => ?_⟩
  · unfold B1_u_law_web
    refine (seq_nx (ρ' := [some (.ob b), some (.d (nD many)), some (.d (eTs T)), some (.ob f), some (.d (.int nr)), some (.d (nD i)), some (.d (.int l))]) (μ' := MU) ?_).trans ?_
    · generalize eTs T = TT at *
      simp [t1]
    · have eP1 : eP (l, l + r) = .tup [.int l, .int (l + r)] := rfl
      rw [List.map_append, List.map_cons, List.map_nil, eP1]
      rw [sExp_eq, eApp_eq]
      generalize eIf (bAnd (bV (e2 eqD (eV 4) (eC (.int 0)))) (bV (e2 gtD (eCallM 2 m_u_law_take (aCons (eV 0) (aCons (eC (.int 4)) (aNil)))) (eC (.int 0))))) (eC (.int 0)) (eCallM 2 m_u_law_take (aCons (eV 0) (aCons (eC (.int 3)) (aNil)))) = EE at *
      generalize P.map eP = PP at *
      generalize eTs T = TT at *
      simp at a1
      simp [g2, a1, a5, hlen]
  · rcases List.mem_append.1 hp' with k | k
    · exact hp p k
    · rw [List.mem_singleton] at k
      subst k
      exact ⟨l1, by show l ≤ l + r; omega, by show l + r ≤ 5; omega⟩
theorem web_eq {μ : Store} {b : Nat} {bag : List Int} (hb : μ[b]? = some (.lst (bag.map .int))) : ∃ (P : List Pl) (T : List Tl) (bag' : List Int) (μ' : Store), m_u_law_web [.ob b] μ = .ok (.d (eW P T)) μ' ∧ μ'[b]? = some (.lst (bag'.map .int)) ∧ WebOk P T := by
  have hbl : b < μ.length := (List.getElem?_eq_some_iff.1 hb).1
  have t1 := take_eq (many := 4) hb (by omega)
  obtain ⟨m1, m2⟩ := tkR_lt (bag := bag) (many := 4) (by omega)
  have g1 : (μ.set b (.lst (bag.tail.map .int)))[b]? = some (.lst (bag.tail.map .int)) := get_set_eq hbl
  generalize hMU : μ.set b (.lst (bag.tail.map D.int)) = MU at *
  obtain ⟨many, hmany⟩ : ∃ many : Nat, (many : Int) = 1 + tkR bag 4 := ⟨(1 + tkR bag 4).toNat, by omega⟩
  obtain ⟨T, bag2, NU, t2, g2, hT⟩ := ties_eq (mo := 5) (li := 2) (by omega) (by omega) (many := many) g1 (by omega)
  have hbn : b < NU.length := (List.getElem?_eq_some_iff.1 g2).1
  have g3 : (NU ++ [MO.lst []])[b]? = some (.lst (bag2.map .int)) := by rw [List.getElem?_append_left hbn]; exact g2
  have g4 : (NU ++ [MO.lst []])[NU.length]? = some (.lst []) := by rw [List.getElem?_append_right (Nat.le_refl _)]; simp
  have t3 := take_eq (many := 2) g3 (by omega)
  have hbf : b ≠ NU.length := by omega
  have g5 : ((NU ++ [MO.lst []]).set b (.lst (bag2.tail.map .int)))[b]? = some (.lst (bag2.tail.map .int)) := get_set_eq (by simp; omega)
  have g6 : ((NU ++ [MO.lst []]).set b (.lst (bag2.tail.map .int)))[NU.length]? = some (.lst []) := by rw [get_set_ne hbf]; exact g4
  generalize hKU : (NU ++ [MO.lst []]).set b (.lst (bag2.tail.map D.int)) = KU at *
  generalize hnr : tkR bag2 2 = nr at *
  obtain ⟨ρ', μ', f1, bag3, P, j5, j6, rfl, f2, f3, f4, f5⟩ := for_idx (g := G1_u_law_web) (body := B1_u_law_web) nD (fun i ρ μ' => RW b NU.length many T nr i ρ μ') (List.range many) 0 [some (.ob b), some (.d (nD many)), some (.d (eTs T)), some (.ob NU.length), some (.d (.int nr)), none, none] KU (by
    rintro i w hw ρ μ1 ⟨bag, P, j5, j6, rfl, h1, h2, h3, h4⟩
    obtain ⟨hi, rfl⟩ : i < many ∧ i = w := by
      obtain ⟨h1, h2⟩ := List.getElem?_eq_some_iff.1 hw
      rw [List.getElem_range] at h2
      rw [List.length_range] at h1
      exact ⟨h1, h2⟩
    rw [Nat.zero_add] at h3 ⊢
    obtain ⟨ρ2, μ2, s1, s2⟩ := web_step (many := many) (T := T) (nr := nr) (j6 := j6) hbf (by omega) h1 h2 h3 h4
    exact ⟨_, ρ2, μ2, rfl, s1, s2⟩) ⟨bag2.tail, [], _, _, rfl, g5, g6, rfl, fun _ h => (nomatch h)⟩
  rw [Nat.zero_add, List.length_range] at f4
  refine ⟨P, T, bag3, μ', fm_rt ?_, f2, ⟨by omega, by omega, fun p hp => ?_, by have := hT.len; omega, by rw [f4]; exact hT.ok, fun t ht => ?_, pair_next2 hT.srt⟩⟩
  · have r0 : rho0 6 [.ob b] = [some (.ob b), none, none, none, none, none, none] := rfl
    rw [F_u_law_web_eq, r0]
    refine (seq_nx (ρ' := [some (.ob b), some (.d (nD many)), none, none, none, none, none]) (μ' := MU) ?_).trans ?_
    · simp [t1, hmany]
    refine (seq_nx (ρ' := [some (.ob b), some (.d (nD many)), some (.d (eTs T)), some (.ob NU.length), none, none, none]) (μ' := NU ++ [.lst []]) ?_).trans ?_
    · simp at t2
      simp [t2]
    refine (seq_nx (ρ' := [some (.ob b), some (.d (nD many)), some (.d (eTs T)), some (.ob NU.length), some (.d (.int nr)), none, none]) (μ' := KU) ?_).trans ?_
    · generalize NU ++ [MO.lst []] = LU at *
      simp [t3]
    refine (seq_nx (for_nx (ds := (List.range many).map nD) (μ1 := KU) ?_ f1)).trans ?_
    · have := rngR_n (μ := KU) (n := many) (by omega)
      simp [this]
    · simp [f3, eW, ePs]
  · have := f5 p hp
    exact ⟨this.1, this.2.1, by show p.2 ≤ 1000000000000000000000000000000; omega⟩
  · have := hT.two t ht
    show t.2.2 ≤ 1000000000000000000000000000000
    omega

/-! the bag goes on -/
structure Nxt (b : Nat) (μ μ' : Store) : Prop where
  bag : ∃ bag : List Int, μ'[b]? = some (.lst (bag.map .int))
  oth : ∀ f, f ≠ b → μ'[f]? = μ[f]?
  len : μ'.length = μ.length
def Bg (b : Nat) (μ : Store) : Prop := ∃ bag : List Int, μ[b]? = some (.lst (bag.map .int))
theorem Nxt.trans {b : Nat} {μ μ1 μ2 : Store} (h : Nxt b μ μ1) (k : Nxt b μ1 μ2) : Nxt b μ μ2 := ⟨k.bag, fun f hf => (k.oth f hf).trans (h.oth f hf), k.len.trans h.len⟩
theorem Nxt.of_set {b : Nat} {μ : Store} {bag bag' : List Int} (h : μ[b]? = some (.lst (bag.map .int))) : Nxt b μ (μ.set b (.lst (bag'.map .int))) := by
  have hb : b < μ.length := (List.getElem?_eq_some_iff.1 h).1
  exact ⟨⟨bag', get_set_eq hb⟩, fun f hf => get_set_ne (Ne.symm hf), List.length_set⟩
theorem take_x {b : Nat} {μ : Store} {many : Int} (h : Bg b μ) (hm : 0 < many) : ∃ (r : Int) (μ' : Store), m_u_law_take [.ob b, .d (.int many)] μ = .ok (.d (.int r)) μ' ∧ 0 ≤ r ∧ r < many ∧ Nxt b μ μ' := by
  obtain ⟨bag, hb⟩ := h
  obtain ⟨h1, h2⟩ := tkR_lt (bag := bag) hm
  exact ⟨_, _, take_eq hb hm, h1, h2, Nxt.of_set hb⟩
theorem choice_x {b : Nat} {μ : Store} {ds : List D} (h : Bg b μ) (hd : ds ≠ []) : ∃ (x : D) (μ' : Store), m_u_law_choice [.ob b, .d (.lst ds)] μ = .ok (.d x) μ' ∧ x ∈ ds ∧ Nxt b μ μ' := by
  obtain ⟨bag, hb⟩ := h
  obtain ⟨x, h1, h2⟩ := choice_eq hb hd
  exact ⟨x, _, h2, h1, Nxt.of_set hb⟩
theorem same_pairs : ∀ {T T' : List Tl}, T'.length = T.length → (∀ (i : Nat) (x y : Tl), T[i]? = some x → T'[i]? = some y → y.1 = x.1 ∧ y.2.1 = x.2.1) → T'.map (fun t => (t.1, t.2.1)) = T.map (fun t => (t.1, t.2.1))
  | [], [], _, _ => rfl
  | [], _ :: _, h, _ => by simp at h
  | _ :: _, [], h, _ => by simp at h
  | x :: T, y :: T', h, k => by
    have h0 := k 0 x y rfl rfl
    have := same_pairs (T := T) (T' := T') (by simpa using h) fun i a b ha hb => k (i + 1) a b ha hb
    simp only [List.map_cons, this, h0.1, h0.2]
theorem srt_map {T : List Tl} : T.Pairwise lt2 ↔ (T.map (fun t => (t.1, t.2.1))).Pairwise fun s t => s.1 < t.1 ∨ (s.1 = t.1 ∧ s.2 < t.2) := by
  rw [List.pairwise_map]; rfl
theorem get_out {T T' : List Tl} {y : Tl} (hl : T'.length = T.length) (hy : y ∈ T') : ∃ (i : Nat) (x : Tl), T[i]? = some x ∧ T'[i]? = some y ∧ x ∈ T := by
  obtain ⟨i, h1, h2⟩ := List.getElem_of_mem hy
  have hi : i < T.length := by omega
  exact ⟨i, T[i], List.getElem?_eq_getElem hi, by rw [List.getElem?_eq_getElem h1, h2], List.getElem_mem hi⟩
theorem pw29 : powD (.int 10) (.int 29) = some (.int 100000000000000000000000000000) := rfl
def RG (b f many : Nat) (T : List Tl) (u : Int) (j7 j8 j9 : Option Sl) (i : Nat) (ρ : Rho) (μ : Store) : Prop := ∃ (P : List Pl) (j5 j6 : Option Sl), ρ = [some (.ob b), some (.d (nD many)), some (.d (eTs T)), some (.d (.int u)), some (.ob f), j5, j6, j7, j8, j9] ∧ Bg b μ ∧ μ[f]? = some (.lst (P.map eP)) ∧ P.length = i ∧ ∀ p, p ∈ P → 0 ≤ p.1 ∧ p.1 ≤ p.2 ∧ p.2 ≤ far
theorem great_step {b f many i : Nat} {T : List Tl} {u : Int} (hu : 100000000000000000000000000000 ≤ u ∧ u ≤ 100000000000000000000000000999) (hbf : b ≠ f) (hi : i ≤ 100) {P : List Pl} {j6 j7 j8 j9 : Option Sl} {μ : Store} (h1 : Bg b μ) (h2 : μ[f]? = some (.lst (P.map eP))) (hl : P.length = i) (hp : ∀ p, p ∈ P → 0 ≤ p.1 ∧ p.1 ≤ p.2 ∧ p.2 ≤ far) :
    ∃ ρ' μ', B2_u_law_great_web [some (.ob b), some (.d (nD many)), some (.d (eTs T)), some (.d (.int u)), some (.ob f), some (.d (nD i)), j6, j7, j8, j9] μ = .nx ρ' μ' ∧ RG b f many T u j7 j8 j9 (i + 1) ρ' μ' := by
  obtain ⟨l, M1, t1, a1, a2, n1⟩ := take_x (many := 4) h1 (by omega)
  obtain ⟨r, M2, t2, b1, b2, n2⟩ := take_x (many := 3) n1.bag (by omega)
  obtain ⟨x, M3, t3, c1, n3⟩ := choice_x (ds := [.int 0, .int 0, .int 1, .int 2, .int u]) n2.bag (by simp)
  have hx : ∃ k : Int, x = .int k ∧ 0 ≤ k ∧ k ≤ u := by
    simp only [List.mem_cons, List.not_mem_nil, or_false] at c1
    rcases c1 with rfl | rfl | rfl | rfl | rfl
    · exact ⟨0, rfl, by omega, by omega⟩
    · exact ⟨0, rfl, by omega, by omega⟩
    · exact ⟨1, rfl, by omega, by omega⟩
    · exact ⟨2, rfl, by omega, by omega⟩
    · exact ⟨u, rfl, by omega, by omega⟩
  obtain ⟨k, rfl, k1, k2⟩ := hx
  have m1 := mul_l (i := l) (j := u) (by omega)
  have g2 : M2[f]? = some (.lst (P.map eP)) := by rw [n2.oth f (Ne.symm hbf), n1.oth f (Ne.symm hbf)]; exact h2
  have g3 : M3[f]? = some (.lst (P.map eP)) := by rw [n3.oth f (Ne.symm hbf)]; exact g2
  have hf : f < M3.length := (List.getElem?_eq_some_iff.1 g3).1
  have hlen : (P.map eP).length < 16777216 := by simp; omega
  obtain ⟨q, hq⟩ : ∃ q : Int, q = l * u := ⟨_, rfl⟩
  have q0 : 0 ≤ q := by rw [hq]; exact Int.mul_nonneg a1 (by omega)
  have q1 : q ≤ 3 * u := by rw [hq]; exact Int.mul_le_mul_of_nonneg_right (by omega) (by omega)
  rw [← hq] at m1
  refine ⟨[some (.ob b), some (.d (nD many)), some (.d (eTs T)), some (.d (.int u)), some (.ob f), some (.d (nD i)), some (.d (.int (q + r))), j7, j8, j9], M3.set f (.lst ((P ++ [(q + r, q + r + k)]).map eP)), ?_, P ++ [(q + r, q + r + k)], _, _, rfl, ?_, get_set_eq hf, by simp [hl], fun p hp' => ?_⟩
  · unfold B2_u_law_great_web
    refine (seq_nx (ρ' := [some (.ob b), some (.d (nD many)), some (.d (eTs T)), some (.d (.int u)), some (.ob f), some (.d (nD i)), some (.d (.int (q + r))), j7, j8, j9]) (μ' := M2) ?_).trans ?_
    · generalize eTs T = TT at *
      simp [t1, -mulD_i, m1, t2]
    · have eP1 : eP (q + r, q + r + k) = .tup [.int (q + r), .int (q + r + k)] := rfl
      rw [List.map_append, List.map_cons, List.map_nil, eP1]
      generalize P.map eP = PP at *
      generalize eTs T = TT at *
      simp [g2, t3, g3, hlen]
  · obtain ⟨bg, hb⟩ := n3.bag
    exact ⟨bg, by rw [get_set_ne (Ne.symm hbf)]; exact hb⟩
  · rcases List.mem_append.1 hp' with z | z
    · exact hp p z
    · rw [List.mem_singleton] at z
      subst z
      exact ⟨by show 0 ≤ q + r; omega, by show q + r ≤ q + r + k; omega, by show q + r + k ≤ 1000000000000000000000000000000; omega⟩
theorem great_eq {μ : Store} {b : Nat} (hb : Bg b μ) : ∃ (P : List Pl) (T : List Tl) (μ' : Store), m_u_law_great_web [.ob b] μ = .ok (.d (eW P T)) μ' ∧ Bg b μ' ∧ WebOk P T := by
  obtain ⟨k, MU, t1, k1, k2, n1⟩ := take_x (many := 3) hb (by omega)
  obtain ⟨many, hmany⟩ : ∃ many : Nat, (many : Int) = 2 + k := ⟨(2 + k).toNat, by omega⟩
  obtain ⟨bag1, hb1⟩ := n1.bag
  obtain ⟨T, bag2, NU, t2, g2, hT⟩ := ties_eq (mo := 4) (li := 3) (by omega) (by omega) (many := many) hb1 (by omega)
  obtain ⟨w, OU, t3, w1, w2, n3⟩ := take_x (b := b) (μ := NU) (many := 1000) ⟨_, g2⟩ (by omega)
  obtain ⟨u, hu⟩ : ∃ u : Int, u = 100000000000000000000000000000 + w := ⟨_, rfl⟩
  have hu2 : 100000000000000000000000000000 ≤ u ∧ u ≤ 100000000000000000000000000999 := by omega
  -- the ties made great
  obtain ⟨T2, PU, s1, s2, s3, s4⟩ := lc_inv (vs := [7, 8, 9]) (g := G1_u_law_great_web) (e := E1_u_law_great_web) (ρ := [some (.ob b), some (.d (nD many)), some (.d (eTs T)), some (.d (.int u)), none, none, none, none, none, none]) eT eT (fun μ => Bg b μ) (fun x y : Tl => y.1 = x.1 ∧ y.2.1 = x.2.1 ∧ 0 < y.2.2 ∧ y.2.2 ≤ far) T OU n3.bag (by
    rintro ⟨a, c, li⟩ ht μ hμ
    have h3 := hT.two _ ht
    have h4 := (hT.ok _ ht).2.2
    dsimp only at h3 h4
    have h3 : li ≤ 3 := h3
    obtain ⟨r, μ', t5, r1, r2, n5⟩ := take_x (many := 3) hμ (by omega)
    have m1 := mul_l (i := li) (j := u) (by omega)
    obtain ⟨q, hq⟩ : ∃ q : Int, q = li * u := ⟨_, rfl⟩
    have q0 : 1 * u ≤ q := by rw [hq]; exact Int.mul_le_mul_of_nonneg_right (by omega) (by omega)
    have q1 : q ≤ 3 * u := by rw [hq]; exact Int.mul_le_mul_of_nonneg_right (by omega) (by omega)
    rw [← hq] at m1
    refine ⟨[some (.ob b), some (.d (nD many)), some (.d (eTs T)), some (.d (.int u)), none, none, none, some (.d (nD a)), some (.d (nD c)), some (.d (.int li))], (a, c, q + r), μ', rfl, ?_, ⟨rfl, rfl, by show 0 < q + r; omega, by show q + r ≤ 1000000000000000000000000000000; omega⟩, n5.bag⟩
    have e1 : eT (a, c, q + r) = .tup [.int a, .int c, .int (q + r)] := rfl
    rw [e1]
    generalize eTs T = TT at *
    simp [E1_u_law_great_web, -mulD_i, m1, t5])
  have ht4 : T2.length ≤ 4 := by have := hT.len; omega
  have c1 : eFrz (lLc [7, 8, 9] (sSq (eV 2)) G1_u_law_great_web (bYes) E1_u_law_great_web) [some (.ob b), some (.d (nD many)), some (.d (eTs T)), some (.d (.int u)), none, none, none, none, none, none] OU = .ok (.d (.lst (T2.map eT))) PU := by
    rw [eFrz_eq, lLc_eq]
    have : sSq (eV 2) [some (.ob b), some (.d (nD many)), some (.d (eTs T)), some (.d (.int u)), none, none, none, none, none, none] OU = .ok (T.map eT) OU := by simp [eTs]
    rw [this, rbind_ok, s1, lcap_ok, List.length_map, if_pos (by omega)]; rfl
  obtain ⟨bag3, g3⟩ := s2
  have hbn : b < PU.length := (List.getElem?_eq_some_iff.1 g3).1
  have hbf : b ≠ PU.length := by omega
  have g4 : (PU ++ [MO.lst []])[b]? = some (.lst (bag3.map .int)) := by rw [List.getElem?_append_left hbn]; exact g3
  have g5 : (PU ++ [MO.lst []])[PU.length]? = some (.lst []) := by rw [List.getElem?_append_right (Nat.le_refl _)]; simp
  obtain ⟨ρ', μ', f1, P, j5, j6, rfl, f2, f3, f4, f5⟩ := for_idx (g := G2_u_law_great_web) (body := B2_u_law_great_web) nD (fun i ρ μ' => RG b PU.length many T2 u none none none i ρ μ') (List.range many) 0 [some (.ob b), some (.d (nD many)), some (.d (eTs T2)), some (.d (.int u)), some (.ob PU.length), none, none, none, none, none] (PU ++ [.lst []]) (by
    rintro i w hw ρ μ1 ⟨P, j5, j6, rfl, h1, h2, h3, h4⟩
    obtain ⟨hi, rfl⟩ : i < many ∧ i = w := by
      obtain ⟨h1, h2⟩ := List.getElem?_eq_some_iff.1 hw
      rw [List.getElem_range] at h2
      rw [List.length_range] at h1
      exact ⟨h1, h2⟩
    rw [Nat.zero_add] at h3 ⊢
    obtain ⟨ρ2, μ2, s1, s2⟩ := great_step (many := many) (T := T2) (u := u) (j6 := j6) (j7 := none) (j8 := none) (j9 := none) hu2 hbf (by omega) h1 h2 h3 h4
    exact ⟨_, ρ2, μ2, rfl, s1, s2⟩) ⟨[], _, _, rfl, ⟨_, g4⟩, g5, rfl, fun _ h => (nomatch h)⟩
  rw [Nat.zero_add, List.length_range] at f4
  refine ⟨P, T2, μ', fm_rt ?_, f2, ⟨by omega, by omega, fun p hp => f5 p hp, by omega, fun t ht => ?_, fun t ht => ?_, pair_next2 ?_⟩⟩
  · have r0 : rho0 9 [.ob b] = [some (.ob b), none, none, none, none, none, none, none, none, none] := rfl
    rw [F_u_law_great_web_eq, r0]
    refine (seq_nx (ρ' := [some (.ob b), some (.d (nD many)), none, none, none, none, none, none, none, none]) (μ' := MU) ?_).trans ?_
    · simp [t1, hmany]
    refine (seq_nx (ρ' := [some (.ob b), some (.d (nD many)), some (.d (eTs T)), some (.d (.int u)), none, none, none, none, none, none]) (μ' := OU) ?_).trans ?_
    · simp at t2
      rw [hu]
      simp [t2, pw29, t3]
    refine (seq_nx (ρ' := [some (.ob b), some (.d (nD many)), some (.d (eTs T2)), some (.d (.int u)), none, none, none, none, none, none]) (μ' := PU) ?_).trans ?_
    · rw [sAsg_eq, fn_lst2 c1 (d := eTs T2) rfl]; rfl
    refine (seq_nx (ρ' := [some (.ob b), some (.d (nD many)), some (.d (eTs T2)), some (.d (.int u)), some (.ob PU.length), none, none, none, none, none]) (μ' := PU ++ [.lst []]) rfl).trans ?_
    refine (seq_nx (for_nx (ds := (List.range many).map nD) (μ1 := PU ++ [.lst []]) ?_ f1)).trans ?_
    · have := rngR_n (μ := PU ++ [.lst []]) (n := many) (by omega)
      simp [this]
    · simp [f3, eW, ePs]
  · obtain ⟨i, x, h1, h2, h3⟩ := get_out s3 ht
    have h4 := s4 i x t h1 h2
    have h5 := hT.ok x h3
    rw [f4]
    exact ⟨by rw [h4.1, h4.2.1]; exact h5.1, by rw [h4.2.1]; exact h5.2.1, h4.2.2.1⟩
  · obtain ⟨i, x, h1, h2, h3⟩ := get_out s3 ht
    exact (s4 i x t h1 h2).2.2.2
  · rw [srt_map, same_pairs s3 fun i x y h1 h2 => ⟨(s4 i x y h1 h2).1, (s4 i x y h1 h2).2.1⟩, ← srt_map]
    exact hT.srt

end Bt

set_option linter.all false
set_option maxRecDepth 100000
set_option maxHeartbeats 1000000
/-! K01P9: bent values -/
namespace DL
open PySem L2
/-- data of depth at most n, its numbers at most b, its rows at most l long -/
inductive Ni (b l : Nat) : Nat → D → Prop
  | non {n : Nat} : Ni b l n .non
  | bl {n : Nat} {x : Bool} : Ni b l n (.bl x)
  | str {n : Nat} {s : Str} : PySem.PyData.strOk s = true → Ni b l n (.str s)
  | int {n : Nat} {i : Int} : i.natAbs ≤ b → Ni b l n (.int i)
  | tup {n : Nat} {ds : List D} : ds.length ≤ l → (∀ x, x ∈ ds → Ni b l n x) → Ni b l (n + 1) (.tup ds)
  | lst {n : Nat} {ds : List D} : ds.length ≤ l → (∀ x, x ∈ ds → Ni b l n x) → Ni b l (n + 1) (.lst ds)
theorem Ni.mono {b l n b' l' : Nat} {d : D} (h : Ni b l n d) (hb : b ≤ b') (hl : l ≤ l') : ∀ {n' : Nat}, n ≤ n' → Ni b' l' n' d := by
  induction h with
  | non => exact fun _ => .non
  | bl => exact fun _ => .bl
  | str h => exact fun _ => .str h
  | int h => exact fun _ => .int (by omega)
  | tup h1 h2 ih =>
    intro n' hn
    obtain ⟨m, rfl⟩ : ∃ m, n' = m + 1 := ⟨n' - 1, by omega⟩
    exact .tup (by omega) fun x hx => ih x hx (by omega)
  | lst h1 h2 ih =>
    intro n' hn
    obtain ⟨m, rfl⟩ : ∃ m, n' = m + 1 := ⟨n' - 1, by omega⟩
    exact .lst (by omega) fun x hx => ih x hx (by omega)
theorem deepL_le {ds : List D} {n : Nat} (h : ∀ x, x ∈ ds → x.deep ≤ n) : deepL ds ≤ n := by
  induction ds with
  | nil => exact Nat.zero_le _
  | cons x r ih =>
    have h1 := h x (List.mem_cons_self ..)
    have h2 := ih fun y hy => h y (List.mem_cons_of_mem _ hy)
    simp only [deepL]; omega
theorem Ni.cmp {b l n : Nat} {d : D} (h : Ni b l n d) : d.cmpOk = true ∧ d.deep ≤ n ∧ d.pl = true := by
  induction h with
  | non => exact ⟨rfl, Nat.zero_le _, rfl⟩
  | bl => exact ⟨rfl, Nat.zero_le _, rfl⟩
  | str h => exact ⟨h, Nat.zero_le _, rfl⟩
  | int h => exact ⟨rfl, Nat.zero_le _, rfl⟩
  | tup h1 h2 ih =>
    refine ⟨?_, ?_, ?_⟩
    · haveI : TabCtx := ⟨[]⟩; simp only [D.cmpOk]; rw [cmpOkL_all, List.all_eq_true]; exact fun x hx => (ih x hx).1
    · simp only [D.deep]; have := deepL_le fun x hx => (ih x hx).2.1; omega
    · simp only [D.pl]; rw [plL_all, List.all_eq_true]; exact fun x hx => (ih x hx).2.2
  | lst h1 h2 ih =>
    refine ⟨?_, ?_, ?_⟩
    · haveI : TabCtx := ⟨[]⟩; simp only [D.cmpOk]; rw [cmpOkL_all, List.all_eq_true]; exact fun x hx => (ih x hx).1
    · simp only [D.deep]; have := deepL_le fun x hx => (ih x hx).2.1; omega
    · simp only [D.pl]; rw [plL_all, List.all_eq_true]; exact fun x hx => (ih x hx).2.2
theorem eqD_unit {b l n : Nat} {ds : List D} (h : Ni b l n (.tup ds)) (hn : n ≤ 64) : eqD (.tup ds) (.tup []) = some (.bl (decide (ds = []))) := by
  have c := h.cmp
  unfold eqD
  have s : (D.tup ds).shaped = true := by
    unfold D.shaped; rw [c.1]; simp; omega
  rw [if_pos ⟨s, rfl⟩]
  cases ds with
  | nil => rfl
  | cons x r => rfl
theorem strOk_of (s : String) : PySem.PyData.strOk (Str.ofString s) = true := by
  unfold PySem.PyData.strOk
  rw [Str.ofString_eq_toList]
  simp only [List.all_toArray, List.all_map, List.all_eq_true]
  intro c _
  have := c.valid
  simp only [Function.comp, decide_eq_true_eq]
  unfold UInt32.isValidChar at this
  show c.val.toNat < 1114112
  rcases this with h | h
  · omega
  · exact h.2
theorem cutD_from1 {ds : List D} {k : Nat} : cutD ds (some ((k : Int) + 1)) none = ds.drop (k + 1) := cutD_from (k := k + 1)
theorem cutD_mid {ds : List D} {k : Nat} (h : k < ds.length) : cutD ds (some (k : Int)) (some ((k : Int) + 1)) = (ds.drop k).take 1 := by
  unfold cutD
  rw [show ((k : Int) + 1) = ((k + 1 : Nat) : Int) from rfl, HT.sIx_nat, HT.sIx_nat, Nat.min_eq_left (by omega), Nat.min_eq_left (by omega), Nat.add_sub_cancel_left]
end DL
namespace Bt
open PySem DL LV
def some12 : List D := [.non, .int 0, .int 1, .int (-1), .int 2, .bl true, .str "", .str "12", .tup [], .tup [.int 0, .int 1], .tup [.int 0, .int 1, .int 1], .tup [.tup [.int 0, .int 1]], .lst []]
theorem some_ni {b l n : Nat} (hb : 2 ≤ b) (hl : 3 ≤ l) {x : D} (h : x ∈ some12) : Ni b l (n + 2) x := by
  have i0 : ∀ {k : Nat} {i : Int}, i.natAbs ≤ 2 → Ni b l k (.int i) := fun h => .int (by omega)
  simp only [some12, List.mem_cons, List.not_mem_nil, or_false] at h
  rcases h with rfl | rfl | rfl | rfl | rfl | rfl | rfl | rfl | rfl | rfl | rfl | rfl | rfl
  · exact .non
  · exact i0 (by decide)
  · exact i0 (by decide)
  · exact i0 (by decide)
  · exact i0 (by decide)
  · exact .bl
  · exact .str (by decide +kernel)
  · exact .str (by decide +kernel)
  · exact .tup (by simp) fun x h => (nomatch h)
  · refine .tup (by simp; omega) fun x h => ?_
    simp only [List.mem_cons, List.not_mem_nil, or_false] at h
    rcases h with rfl | rfl <;> exact i0 (by decide)
  · refine .tup (by simp; omega) fun x h => ?_
    simp only [List.mem_cons, List.not_mem_nil, or_false] at h
    rcases h with rfl | rfl | rfl <;> exact i0 (by decide)
  · refine .tup (by simp; omega) fun x h => ?_
    simp only [List.mem_cons, List.not_mem_nil, or_false] at h
    subst h
    refine .tup (by simp; omega) fun x h => ?_
    simp only [List.mem_cons, List.not_mem_nil, or_false] at h
    rcases h with rfl | rfl <;> exact i0 (by decide)
  · exact .lst (by simp) fun x h => (nomatch h)
theorem ints_ni {b l n : Nat} (hb : 1000000000000000000000000000000 ≤ b) {i : Int} (hi : i.natAbs ≤ b) {x : D} (h : x ∈ [D.int (i + 1), .int (i - 1), .int (-i), .bl true, .int far, .int (far + 1), .str (toString i)]) : Ni (b + 1) l n x := by
  simp only [List.mem_cons, List.not_mem_nil, or_false] at h
  rcases h with rfl | rfl | rfl | rfl | rfl | rfl | rfl
  · exact .int (by omega)
  · exact .int (by omega)
  · exact .int (by omega)
  · exact .bl
  · exact .int (show (1000000000000000000000000000000 : Int).natAbs ≤ b + 1 by omega)
  · exact .int (show (1000000000000000000000000000001 : Int).natAbs ≤ b + 1 by omega)
  · exact .str (strOk_of _)
theorem log2_le {i b k : Nat} (h : i ≤ b) (hk : b < 2 ^ k) (h0 : 0 < k) : i.log2 < k := by
  by_cases z : i = 0
  · subst z; simpa using h0
  · exact (Nat.log2_lt z).2 (Nat.lt_of_le_of_lt h hk)
/-- what the second question's suite returns -/
theorem suite_eq {g : Nat} {d : D} {j2 j3 j4 : Option Sl} {μ : Store} (h : Bg g μ) : ∃ (x : D) (μ' : Store), x ∈ some12 ∧ Nxt g μ μ' ∧ sSeq (sAsg (eFrz (lLst (aCons (eC .non) (aCons (eC (.int 0)) (aCons (eC (.int 1)) (aCons (e1 negD (eC (.int 1))) (aCons (eC (.int 2)) (aCons (eC (.bl true)) (aCons (eC (.str "")) (aCons (eC (.str "12")) (aCons (eTup (aNil)) (aCons (eTup (aCons (eC (.int 0)) (aCons (eC (.int 1)) (aNil)))) (aCons (eTup (aCons (eC (.int 0)) (aCons (eC (.int 1)) (aCons (eC (.int 1)) (aNil))))) (aCons (eTup (aCons (eTup (aCons (eC (.int 0)) (aCons (eC (.int 1)) (aNil)))) (aNil))) (aCons (eFrz (lLst (aNil))) (aNil)))))))))))))))) (gN 4))
  (sRet (eCallM 2 m_u_law_choice (aCons (eV 0) (aCons (eV 4) (aNil))))) [some (.ob g), some (.d d), j2, j3, j4] μ = .rt (.d x) μ' := by
  obtain ⟨x, μ', h1, h2, h3⟩ := choice_x (ds := some12) h (by simp [some12])
  refine ⟨x, μ', h2, h3, ?_⟩
  refine (seq_nx (ρ' := [some (.ob g), some (.d d), j2, j3, some (.d (.lst some12))]) (μ' := μ) rfl).trans ?_
  generalize some12 = S at *
  simp [h1]
end Bt

set_option linter.all false
set_option maxRecDepth 100000
set_option maxHeartbeats 1000000
/-! K01PA: a value bent -/
namespace Bt
open PySem DL LV
def I1_bent : SF := sIf (bAnd (bV (eIsI "int" (eV 1))) (bAnd (bNot (bV (eIsI "bool" (eV 1)))) (bV (e2 gtD (eCallM 2 m_u_law_take (aCons (eV 0) (aCons (eC (.int 3)) (aNil)))) (eC (.int 0)))))) (sRet (eCallM 2 m_u_law_choice (aCons (eV 0) (aCons (eFrz (lLst (aCons (e2 addD (eV 1) (eC (.int 1))) (aCons (e2 subD (eV 1) (eC (.int 1))) (aCons (e1 negD (eV 1)) (aCons (eC (.bl true)) (aCons (e2 powD (eC (.int 10)) (eC (.int 30))) (aCons (e2 addD (e2 powD (eC (.int 10)) (eC (.int 30))) (eC (.int 1))) (aCons (eN strD (aCons (eV 1) (aNil))) (aNil)))))))))) (aNil))))) (sNil)
def I2_bent : SF := sIf (bOr (bNot (bV (eIsI "tuple" (eV 1)))) (bOr (bV (e2 eqD (eV 1) (eTup (aNil)))) (bV (e2 eqD (eCallM 2 m_u_law_take (aCons (eV 0) (aCons (eC (.int 6)) (aNil)))) (eC (.int 0)))))) (sSeq (sAsg (eFrz (lLst (aCons (eC .non) (aCons (eC (.int 0)) (aCons (eC (.int 1)) (aCons (e1 negD (eC (.int 1))) (aCons (eC (.int 2)) (aCons (eC (.bl true)) (aCons (eC (.str "")) (aCons (eC (.str "12")) (aCons (eTup (aNil)) (aCons (eTup (aCons (eC (.int 0)) (aCons (eC (.int 1)) (aNil)))) (aCons (eTup (aCons (eC (.int 0)) (aCons (eC (.int 1)) (aCons (eC (.int 1)) (aNil))))) (aCons (eTup (aCons (eTup (aCons (eC (.int 0)) (aCons (eC (.int 1)) (aNil)))) (aNil))) (aCons (eFrz (lLst (aNil))) (aNil)))))))))))))))) (gN 4)) (sRet (eCallM 2 m_u_law_choice (aCons (eV 0) (aCons (eV 4) (aNil)))))) (sNil)
def P3_bent : SF := sPar 2 3 (eCallM 2 m_u_law_take (aCons (eV 0) (aCons (eN lenD (aCons (eV 1) (aNil))) (aNil)))) (eCallM 2 m_u_law_take (aCons (eV 0) (aCons (eC (.int 8)) (aNil))))
def X_bent (rec : MF) : SF := (sSeq (sIf (bV (e2 eqD (eV 3) (eC (.int 0)))) (sRet (e2 addD (eSl (eV 1) (pNone) (pSome (eV 2))) (eSl (eV 1) (pSome (e2 addD (eV 2) (eC (.int 1)))) (pNone)))) (sNil)) (sSeq (sIf (bV (e2 eqD (eV 3) (eC (.int 1)))) (sRet (e2 addD (e2 addD (eSl (eV 1) (pNone) (pSome (eV 2))) (eSl (eV 1) (pSome (eV 2)) (pSome (e2 addD (eV 2) (eC (.int 1)))))) (eSl (eV 1) (pSome (eV 2)) (pNone)))) (sNil)) (sSeq (sIf (bV (e2 eqD (eV 3) (eC (.int 2)))) (sRet (e1 revD (eV 1))) (sNil)) (sSeq (sIf (bV (e2 eqD (eV 3) (eC (.int 3)))) (sRet (eN listD (aCons (eV 1) (aNil)))) (sNil)) (sRet (e2 addD (e2 addD (eSl (eV 1) (pNone) (pSome (eV 2))) (eTup (aCons (eCallM 2 rec (aCons (eV 0) (aCons (e2 ixD (eV 1) (eV 2)) (aNil)))) (aNil)))) (eSl (eV 1) (pSome (e2 addD (eV 2) (eC (.int 1)))) (pNone))))))))
theorem F_bent_eq (rec : MF) : F_u_law_bent rec = sSeq I1_bent (sSeq I2_bent (sSeq P3_bent (X_bent rec))) := rfl
theorem bent_eq (b l : Nat) (hb : 1000000000000000000000000000000 ≤ b) (hb2 : b < 2 ^ 1900) (hl : 3 ≤ l) (hl2 : l ≤ 1000) (g : Nat) : ∀ (k n : Nat) (d : D) (μ : Store), n < k → n ≤ 60 → Ni b l n d → Bg g μ →
    ∃ (d' : D) (μ' : Store), m_u_law_bent k [.ob g, .d d] μ = .ok (.d d') μ' ∧ Nxt g μ μ' ∧ Ni (b + 1) (l + 1) (n + 2) d'
  | 0, n, d, μ, h, _, _, _ => absurd h (by omega)
  | k + 1, n, d, μ, hk, hn, hd, hg => by
    have r0 : rho0 3 [.ob g, .d d] = [some (.ob g), some (.d d), none, none, none] := rfl
    have hpl := hd.cmp.2.2
    -- what is no tuple and is not drawn first
    have tail : ∀ {d : D} {μ : Store}, Bg g μ → d.pl = true → isTu d = false → ∃ (x : D) (μ' : Store), x ∈ some12 ∧ Nxt g μ μ' ∧ ∀ (F : SF), sSeq I2_bent F [some (.ob g), some (.d d), none, none, none] μ = .rt (.d x) μ' := by
      intro d μ hg hp ht
      obtain ⟨x, μ', h1, h2, h3⟩ := suite_eq (d := d) (j2 := none) (j3 := none) (j4 := none) hg
      refine ⟨x, μ', h1, h2, fun F => seq_rt ((s_ift (b_ort ?_)).trans h3)⟩
      simp [isi_tu hp, ht]
    have nb : Ni (b + 1) (l + 1) (n + 2) (.bl true) := .bl
    by_cases ti : isTu d = true
    · -- a tuple
      cases d with
      | tup ds =>
        have f1 : isiD "int" (.tup ds) = some (.bl false) := isi_in hpl
        obtain ⟨m, rfl⟩ : ∃ m, n = m + 1 := by
          cases hd with | tup _ _ => exact ⟨_, rfl⟩
        obtain ⟨hlen, hmem⟩ : ds.length ≤ l ∧ ∀ x, x ∈ ds → Ni b l m x := by
          cases hd with | tup h1 h2 => exact ⟨h1, h2⟩
        have hq := eqD_unit hd (by omega)
        by_cases e : ds = []
        · -- the empty one
          subst e
          obtain ⟨x, μ', h1, h2, h3⟩ := suite_eq (d := .tup []) (j2 := none) (j3 := none) (j4 := none) hg
          refine ⟨x, μ', fm_rtx ?_, h2, some_ni (by omega) (by omega) h1⟩
          rw [r0]
          rw [F_bent_eq]
          refine (seq_nx (ρ' := [some (.ob g), some (.d (.tup [])), none, none, none]) (μ' := μ) (by simp [I1_bent, f1])).trans (seq_rt ((s_ift ?_).trans h3))
          refine (b_orf (by simp)).trans (b_ort ?_)
          simp at hq
          simp [hq]
        · obtain ⟨r, M1, t1, _, _, n1⟩ := take_x (many := 6) hg (by omega)
          rw [decide_eq_false e] at hq
          by_cases q : r = 0
          · subst q
            obtain ⟨x, μ', h1, h2, h3⟩ := suite_eq (d := .tup ds) (j2 := none) (j3 := none) (j4 := none) n1.bag
            refine ⟨x, μ', fm_rtx ?_, n1.trans h2, some_ni (by omega) (by omega) h1⟩
            rw [r0]
            rw [F_bent_eq]
            refine (seq_nx (ρ' := [some (.ob g), some (.d (.tup ds)), none, none, none]) (μ' := μ) (by simp [I1_bent, f1])).trans (seq_rt ?_)
            have c : bOr (bNot (bV (eIsI "tuple" (eV 1)))) (bOr (bV (e2 eqD (eV 1) (eTup (aNil)))) (bV (e2 eqD (eCallM 2 m_u_law_take (aCons (eV 0) (aCons (eC (.int 6)) (aNil)))) (eC (.int 0))))) [some (.ob g), some (.d (.tup ds)), none, none, none] μ = .ok true M1 := by
              simp [hq, t1]
            show sIf _ _ _ _ _ = _
            rw [sIf_eq, c]
            exact h3
          · have hpos : 0 < ds.length := List.length_pos_iff.2 e
            obtain ⟨a, M2, t2, a1, a2, n2⟩ := take_x (many := (ds.length : Int)) n1.bag (by omega)
            obtain ⟨w, M3, t3, w1, w2, n3⟩ := take_x (many := 8) n2.bag (by omega)
            obtain ⟨i, hi⟩ : ∃ i : Nat, a = i := ⟨a.toNat, by omega⟩
            subst hi
            have hi2 : i < ds.length := by omega
            have pre : ∀ (X : SF), sSeq I1_bent (sSeq I2_bent (sSeq P3_bent X)) [some (.ob g), some (.d (.tup ds)), none, none, none] μ = X [some (.ob g), some (.d (.tup ds)), some (.d (nD i)), some (.d (.int w)), none] M3 := by
              intro X
              refine (seq_nx (ρ' := [some (.ob g), some (.d (.tup ds)), none, none, none]) (μ' := μ) (by simp [I1_bent, f1])).trans ?_
              refine (seq_nx (ρ' := [some (.ob g), some (.d (.tup ds)), none, none, none]) (μ' := M1) ?_).trans ?_
              · have c : bOr (bNot (bV (eIsI "tuple" (eV 1)))) (bOr (bV (e2 eqD (eV 1) (eTup (aNil)))) (bV (e2 eqD (eCallM 2 m_u_law_take (aCons (eV 0) (aCons (eC (.int 6)) (aNil)))) (eC (.int 0))))) [some (.ob g), some (.d (.tup ds)), none, none, none] μ = .ok false M1 := by
                  simp [hq, t1, q]
                show sIf _ _ _ _ _ = _
                rw [sIf_eq, c]; rfl
              refine (seq_nx (ρ' := [some (.ob g), some (.d (.tup ds)), some (.d (nD i)), some (.d (.int w)), none]) (μ' := M3) ?_).trans rfl
              simp [P3_bent, t2, t3]
            have nx : Nxt g μ M3 := (n1.trans n2).trans n3
            have ct : cutD ds none (some ((i : Nat) : Int)) = ds.take i := cutD_to
            have cf : cutD ds (some ((i : Int) + 1)) none = ds.drop (i + 1) := cutD_from1
            have cg : cutD ds (some ((i : Nat) : Int)) none = ds.drop i := cutD_from
            have cm : cutD ds (some (i : Int)) (some ((i : Int) + 1)) = (ds.drop i).take 1 := cutD_mid hi2
            have lt : (ds.take i).length = i := by rw [List.length_take]; omega
            have lf : (ds.drop (i + 1)).length = ds.length - (i + 1) := List.length_drop
            have lg : (ds.drop i).length = ds.length - i := List.length_drop
            have lm : ((ds.drop i).take 1).length = 1 := by rw [List.length_take, lg]; omega
            have mt : ∀ x, x ∈ ds.take i → Ni b l m x := fun x hx => hmem x (List.mem_of_mem_take hx)
            have mf : ∀ x, x ∈ ds.drop (i + 1) → Ni b l m x := fun x hx => hmem x (List.mem_of_mem_drop hx)
            have mg : ∀ x, x ∈ ds.drop i → Ni b l m x := fun x hx => hmem x (List.mem_of_mem_drop hx)
            have mm : ∀ x, x ∈ (ds.drop i).take 1 → Ni b l m x := fun x hx => mg x (List.mem_of_mem_take hx)
            have up : ∀ {x : D}, Ni b l m x → Ni (b + 1) (l + 1) (m + 2) x := fun h => h.mono (by omega) (by omega) (by omega)
            have ww : w = 0 ∨ w = 1 ∨ w = 2 ∨ w = 3 ∨ (w ≠ 0 ∧ w ≠ 1 ∧ w ≠ 2 ∧ w ≠ 3) := by omega
            rcases ww with rfl | rfl | rfl | rfl | ⟨o0, o1, o2, o3⟩
            · refine ⟨.tup (ds.take i ++ ds.drop (i + 1)), M3, fm_rtx ?_, nx, .tup (by rw [List.length_append]; omega) fun x hx => up ((List.mem_append.1 hx).elim (mt x) (mf x))⟩
              rw [r0]
              rw [F_bent_eq]
              refine (pre _).trans (show X_bent _ _ _ = _ from seq_rt ?_)
              have c : (ds.take i).length + (ds.drop (i + 1)).length ≤ 16777216 := by omega
              generalize ds.take i = A at *
              generalize ds.drop (i + 1) = B at *
              simp [ct, cf, c]
            · refine ⟨.tup (ds.take i ++ (ds.drop i).take 1 ++ ds.drop i), M3, fm_rtx ?_, nx, .tup (by rw [List.length_append, List.length_append]; omega) fun x hx => up ((List.mem_append.1 hx).elim (fun hx => (List.mem_append.1 hx).elim (mt x) (mm x)) (mg x))⟩
              rw [r0]
              rw [F_bent_eq]
              refine (pre _).trans ((seq_nx (ρ' := [some (.ob g), some (.d (.tup ds)), some (.d (nD i)), some (.d (.int 1)), none]) (μ' := M3) (by simp)).trans (seq_rt ?_))
              have c : (ds.take i).length + ((ds.drop i).take 1).length ≤ 16777216 := by omega
              have c2 : (ds.take i ++ (ds.drop i).take 1).length + (ds.drop i).length ≤ 16777216 := by rw [List.length_append]; omega
              generalize (ds.drop i).take 1 = C at *
              generalize ds.take i = A at *
              generalize ds.drop i = B at *
              rw [List.length_append] at c2
              simp [ct, cg, cm, c, c2]
            · refine ⟨.tup ds.reverse, M3, fm_rtx ?_, nx, .tup (by rw [List.length_reverse]; omega) fun x hx => up (hmem x (List.mem_reverse.1 hx))⟩
              rw [r0]
              rw [F_bent_eq]
              refine (pre _).trans ((seq_nx (ρ' := [some (.ob g), some (.d (.tup ds)), some (.d (nD i)), some (.d (.int 2)), none]) (μ' := M3) (by simp)).trans ?_)
              refine (seq_nx (ρ' := [some (.ob g), some (.d (.tup ds)), some (.d (nD i)), some (.d (.int 2)), none]) (μ' := M3) (by simp)).trans (seq_rt ?_)
              have rv : revD (.tup ds) = some (.tup ds.reverse) := rfl
              simp [rv]
            · refine ⟨.lst ds, M3, fm_rtx ?_, nx, .lst (by omega) fun x hx => up (hmem x hx)⟩
              rw [r0]
              rw [F_bent_eq]
              refine (pre _).trans ((seq_nx (ρ' := [some (.ob g), some (.d (.tup ds)), some (.d (nD i)), some (.d (.int 3)), none]) (μ' := M3) (by simp)).trans ?_)
              refine (seq_nx (ρ' := [some (.ob g), some (.d (.tup ds)), some (.d (nD i)), some (.d (.int 3)), none]) (μ' := M3) (by simp)).trans ?_
              refine (seq_nx (ρ' := [some (.ob g), some (.d (.tup ds)), some (.d (nD i)), some (.d (.int 3)), none]) (μ' := M3) (by simp)).trans (seq_rt ?_)
              have rv : listD [.tup ds] = some (.lst ds) := rfl
              simp [rv]
            · obtain ⟨d', M4, s1, s2, s3⟩ := bent_eq b l hb hb2 hl hl2 g k m ds[i] M3 (by omega) (by omega) (hmem _ (List.getElem_mem hi2)) n3.bag
              refine ⟨.tup (ds.take i ++ [d'] ++ ds.drop (i + 1)), M4, fm_rtx ?_, nx.trans s2, .tup (by rw [List.length_append, List.length_append]; simp only [List.length_singleton]; omega) fun x hx => ?_⟩
              · rw [r0]
                rw [F_bent_eq]
                refine (pre _).trans ((seq_nx (ρ' := [some (.ob g), some (.d (.tup ds)), some (.d (nD i)), some (.d (.int w)), none]) (μ' := M3) (by simp [o0])).trans ?_)
                refine (seq_nx (ρ' := [some (.ob g), some (.d (.tup ds)), some (.d (nD i)), some (.d (.int w)), none]) (μ' := M3) (by simp [o1])).trans ?_
                refine (seq_nx (ρ' := [some (.ob g), some (.d (.tup ds)), some (.d (nD i)), some (.d (.int w)), none]) (μ' := M3) (by simp [o2])).trans ?_
                refine (seq_nx (ρ' := [some (.ob g), some (.d (.tup ds)), some (.d (nD i)), some (.d (.int w)), none]) (μ' := M3) (by simp [o3])).trans ?_
                have gi : ds[i]? = some ds[i] := List.getElem?_eq_getElem hi2
                generalize ds[i] = z at *
                have c : (ds.take i).length + 1 ≤ 16777216 := by omega
                have c2 : (ds.take i ++ [d']).length + (ds.drop (i + 1)).length ≤ 16777216 := by rw [List.length_append]; simp only [List.length_singleton]; omega
                generalize ds.take i = A at *
                generalize ds.drop (i + 1) = B at *
                generalize m_u_law_bent k = BE at *
                rw [List.length_append] at c2
                simp only [List.length_singleton] at c2
                simp [ct, cf, gi, s1, c, c2]
              · rcases List.mem_append.1 hx with hx | hx
                · rcases List.mem_append.1 hx with hx | hx
                  · exact up (mt x hx)
                  · rw [List.mem_singleton] at hx; subst hx; exact s3
                · exact up (mf x hx)
      | _ => exact absurd ti (by simp [isTu])
    · have ti' : isTu d = false := by simpa using ti
      by_cases ii : ∃ z, d = .int z
      · obtain ⟨z, rfl⟩ := ii
        have hz : z.natAbs ≤ b := by cases hd with | int h => exact h
        obtain ⟨r, M1, t1, r1, r2, n1⟩ := take_x (many := 3) hg (by omega)
        by_cases q : r > 0
        · obtain ⟨x, M2, h1, h2, h3⟩ := choice_x (ds := [D.int (z + 1), .int (z - 1), .int (-z), .bl true, .int far, .int (far + 1), .str (toString z)]) n1.bag (by simp)
          refine ⟨x, M2, fm_rtx ?_, n1.trans h3, (ints_ni (l := l) (n := n) hb hz h2).mono (Nat.le_refl _) (by omega) (by omega)⟩
          rw [r0, F_bent_eq]
          refine seq_rt ?_
          show sIf _ _ _ _ _ = _
          have c : bAnd (bV (eIsI "int" (eV 1))) (bAnd (bNot (bV (eIsI "bool" (eV 1)))) (bV (e2 gtD (eCallM 2 m_u_law_take (aCons (eV 0) (aCons (eC (.int 3)) (aNil)))) (eC (.int 0))))) [some (.ob g), some (.d (.int z)), none, none, none] μ = .ok true M1 := by
            simp [t1, q]
          have sd : strD [.int z] = some (.str (toString z)) := by
            show (if z.natAbs.log2 < 1920 then _ else none) = _
            rw [if_pos (Nat.lt_trans (log2_le (k := 1900) hz hb2 (by decide)) (show 1900 < 1920 by decide))]
          rw [sIf_eq, c]
          have f2 : addD (.int far) (.int 1) = some (.int (far + 1)) := rfl
          simp only [addD_i] at f2
          refine s_ret (f := eCallM 2 m_u_law_choice _) ?_
          have ls : lLst (aCons (e2 addD (eV 1) (eC (.int 1))) (aCons (e2 subD (eV 1) (eC (.int 1))) (aCons (e1 negD (eV 1)) (aCons (eC (.bl true)) (aCons (e2 powD (eC (.int 10)) (eC (.int 30))) (aCons (e2 addD (e2 powD (eC (.int 10)) (eC (.int 30))) (eC (.int 1))) (aCons (eN strD (aCons (eV 1) (aNil))) (aNil)))))))) [some (.ob g), some (.d (.int z)), none, none, none] M1 = .ok [D.int (z + 1), .int (z - 1), .int (-z), .bl true, .int far, .int (far + 1), .str (toString z)] M1 := by
            have p30 := pw30
            generalize far = FA at *
            simp [p30, sd]
          generalize [D.int (z + 1), .int (z - 1), .int (-z), .bl true, .int far, .int (far + 1), .str (toString z)] = S at *
          rw [eCallM_eq, aCons_eq]
          show (((Res.ok (Sl.ob g) M1).bind _ : Res (List Sl)).bind _ : Res Sl) = _
          rw [rbind_ok, aCons_eq, eFrz_eq, ls]
          simp [h1]
        · obtain ⟨x, M2, h1, h2, h3⟩ := tail (d := .int z) n1.bag rfl rfl
          refine ⟨x, M2, fm_rtx ?_, n1.trans h2, some_ni (by omega) (by omega) h1⟩
          rw [r0]
          rw [F_bent_eq]
          refine (seq_nx (ρ' := [some (.ob g), some (.d (.int z)), none, none, none]) (μ' := M1) ?_).trans (h3 _)
          show sIf _ _ _ _ _ = _
          have c : bAnd (bV (eIsI "int" (eV 1))) (bAnd (bNot (bV (eIsI "bool" (eV 1)))) (bV (e2 gtD (eCallM 2 m_u_law_take (aCons (eV 0) (aCons (eC (.int 3)) (aNil)))) (eC (.int 0))))) [some (.ob g), some (.d (.int z)), none, none, none] μ = .ok false M1 := by
            simp [t1, q]
          rw [sIf_eq, c]; rfl
      · obtain ⟨x, M2, h1, h2, h3⟩ := tail (d := d) hg hpl ti'
        refine ⟨x, M2, fm_rtx ?_, h2, some_ni (by omega) (by omega) h1⟩
        rw [r0]
        rw [F_bent_eq]
        refine (seq_nx (ρ' := [some (.ob g), some (.d d), none, none, none]) (μ' := μ) ?_).trans (h3 _)
        have fi := isi_in hpl
        have fb := isi_bo hpl
        cases d with
        | int z => exact absurd ⟨z, rfl⟩ ii
        | bl z => simp [I1_bent, fi, isIn]
        | tup _ => exact absurd ti' (by simp [isTu])
        | _ => first | (simp [D.pl] at hpl; done) | simp [I1_bent, fi, isIn]
end Bt

set_option linter.all false
set_option maxRecDepth 100000
set_option maxHeartbeats 1000000
/-! K01PB: the law: its first loop -/
namespace Bt
open PySem DL LV
theorem truly_t (a : Bool) : p_u_law_truly [.bl a, .bl a] = .ok (.bl true) := by
  refine fn_rt (s := .d (.bl true)) (μ := []) ?_ rfl
  simp [F_u_law_truly, rho0]
theorem neD_it (a : List Int) : neD (.tup (a.map D.int)) (.tup (a.map D.int)) = some (.bl false) := by
  have s : (D.tup (a.map D.int)).shaped = true := shaped_ints a
  unfold neD
  rw [if_pos ⟨s, s⟩]
  show some (D.bl (!beqL (a.map D.int) (a.map D.int))) = _
  rw [beq_il]; rfl
theorem neD_lsf (f : Nat → Int) (n : Nat) : neD (.tup (lsf f n)) (.tup (lsf f n)) = some (.bl false) := by
  have e : lsf f n = ((List.range n).map f).map D.int := by unfold lsf; rw [List.map_map]; rfl
  rw [e]; exact neD_it _
theorem web_ni {P : List Pl} {T : List Tl} (h : WebOk P T) : Ni 1000000000000000000000000000000 10 3 (eW P T) := by
  have l5 := h.n5
  have lm := h.m
  have up : ∀ p, p ∈ P → 0 ≤ p.1 ∧ p.1 ≤ p.2 ∧ p.2 ≤ 1000000000000000000000000000000 := h.p
  have uf : ∀ t, t ∈ T → t.2.2 ≤ 1000000000000000000000000000000 := h.far
  refine .tup (by simp) fun x hx => ?_
  simp only [List.mem_cons, List.not_mem_nil, or_false] at hx
  rcases hx with rfl | rfl
  · refine .tup (by simp; omega) fun x hx => ?_
    obtain ⟨p, hp, rfl⟩ := List.mem_map.1 hx
    have := up p hp
    refine .tup (by simp) fun x hx => ?_
    simp only [List.mem_cons, List.not_mem_nil, or_false] at hx
    rcases hx with rfl | rfl <;> exact .int (by omega)
  · refine .tup (by simp; omega) fun x hx => ?_
    obtain ⟨t, ht, rfl⟩ := List.mem_map.1 hx
    have h1 := h.t t ht
    have h2 := uf t ht
    refine .tup (by simp) fun x hx => ?_
    simp only [List.mem_cons, List.not_mem_nil, or_false] at hx
    rcases hx with rfl | rfl | rfl <;> exact .int (by omega)
theorem picks_ni {P : List Pl} {T : List Tl} (h : WebOk P T) {xs : List Int} (hc : Ch T xs) : Ni 1000000000000000000000000000000 10 3 (.tup (xs.map .int)) := by
  have lm := h.m
  have hl := hc.len
  have uf : ∀ t, t ∈ T → t.2.2 ≤ 1000000000000000000000000000000 := h.far
  refine .tup (by simp; omega) fun x hx => ?_
  obtain ⟨z, hz, rfl⟩ := List.mem_map.1 hx
  obtain ⟨i, h1, h2⟩ := List.getElem_of_mem hz
  have k := (ch_iff.1 hc).2 i (by omega)
  rw [List.getD_eq_getElem?_getD, List.getD_eq_getElem?_getD, List.getElem?_eq_getElem h1, List.getElem?_eq_getElem (show i < T.length by omega), h2] at k
  simp only [Option.getD_some] at k
  have := uf _ (List.getElem_mem (show i < T.length by omega))
  exact .int (by omega)
abbrev R16 (sc : D) (j1 j4 j10 j11 j12 j13 : Option Sl) : Rho := [some (.d sc), j1, none, none, j4, none, none, none, none, none, j10, j11, j12, j13, none, none]
/-- a turn: the value asked, then bent -/
theorem turn_eq {P : List Pl} {T : List Tl} (hw : WebOk P T) {sc : D} {j1 j11 : Option Sl} {g i : Nat} (hi : i < 6) {d : D} {μ : Store} (hd : Ni (1000000000000000000000000000000 + i) (10 + i) (3 + 2 * i) d) (hg : Bg g μ) :
    ∃ (d' : D) (μ' : Store), B4_law (R16 sc j1 (some (.d (eW P T))) (some (.ob g)) j11 (some (.d d)) (some (.d (nD i)))) μ = .nx (R16 sc j1 (some (.d (eW P T))) (some (.ob g)) j11 (some (.d d')) (some (.d (nD i)))) μ' ∧ Nxt g μ μ' ∧ Ni (1000000000000000000000000000000 + (i + 1)) (10 + (i + 1)) (3 + 2 * (i + 1)) d' := by
  have hp := hd.cmp.2.2
  have hm := hw.m
  have q1 := is_web_eq hp
  have q2 := good_eq hp
  have q3 := is_choice_eq hw hp
  have q4 := law_choice_eq (P := P) (T := T) (by omega) hp
  have hb2 : 1000000000000000000000000000000 + i < 2 ^ 1900 := Nat.lt_of_lt_of_le (show _ < 2 ^ 101 by omega) (Nat.pow_le_pow_right (by omega) (by omega))
  obtain ⟨d', μ', b1, b2, b3⟩ := bent_eq (1000000000000000000000000000000 + i) (10 + i) (by omega) hb2 (by omega) (by omega) g 16 (3 + 2 * i) d μ (by omega) (by omega) hd hg
  refine ⟨d', μ', ?_, b2, b3.mono (by omega) (by omega) (by omega)⟩
  have t1 := truly_t (wbB d)
  have t2 := truly_t (chB T d)
  unfold B4_law
  generalize eW P T = W at *
  generalize wbB d = A at *
  generalize chB T d = B at *
  generalize m_u_law_bent 16 = BE at *
  refine (seq_nx (ρ' := R16 sc j1 (some (.d W)) (some (.ob g)) j11 (some (.d d)) (some (.d (nD i)))) (μ' := μ) (by simp [q1, q2, t1])).trans ?_
  refine (seq_nx (ρ' := R16 sc j1 (some (.d W)) (some (.ob g)) j11 (some (.d d)) (some (.d (nD i)))) (μ' := μ) (by simp [q3, q4, t2])).trans ?_
  simp [b1]
/-- six turns -/
theorem six_eq {P : List Pl} {T : List Tl} (hw : WebOk P T) {sc : D} {j1 j11 j13 : Option Sl} {g : Nat} {d : D} {μ : Store} (hd : Ni 1000000000000000000000000000000 10 3 d) (hg : Bg g μ) :
    ∃ (j12 j13' : Option Sl) (μ' : Store), B3_law (R16 sc j1 (some (.d (eW P T))) (some (.ob g)) j11 (some (.d d)) j13) μ = .nx (R16 sc j1 (some (.d (eW P T))) (some (.ob g)) j11 j12 j13') μ' ∧ Nxt g μ μ' := by
  obtain ⟨ρ', μ', f1, d', j13', rfl, f2, f3⟩ := for_idx (g := G4_law) (body := B4_law) nD (fun i ρ μ' => ∃ (d' : D) (j13 : Option Sl), ρ = R16 sc j1 (some (.d (eW P T))) (some (.ob g)) j11 (some (.d d')) j13 ∧ (Bg g μ' ∧ (∀ f, f ≠ g → μ'[f]? = μ[f]?) ∧ μ'.length = μ.length) ∧ Ni (1000000000000000000000000000000 + i) (10 + i) (3 + 2 * i) d') (List.range 6) 0 (R16 sc j1 (some (.d (eW P T))) (some (.ob g)) j11 (some (.d d)) j13) μ (by
    rintro i w hi' ρ M ⟨d, j13, rfl, ⟨h1, h2, h3⟩, h4⟩
    obtain ⟨hi, rfl⟩ : i < 6 ∧ i = w := by
      obtain ⟨h1, h2⟩ := List.getElem?_eq_some_iff.1 hi'
      rw [List.getElem_range] at h2
      rw [List.length_range] at h1
      exact ⟨h1, h2⟩
    rw [Nat.zero_add] at h4 ⊢
    obtain ⟨d', M', s1, s2, s3⟩ := turn_eq hw (sc := sc) (j1 := j1) (j11 := j11) hi h4 h1
    exact ⟨R16 sc j1 (some (.d (eW P T))) (some (.ob g)) j11 (some (.d d)) (some (.d (nD i))), _, M', rfl, s1, d', _, rfl, ⟨s2.bag, fun f hf => (s2.oth f hf).trans (h2 f hf), s2.len.trans h3⟩, s3⟩) ⟨d, j13, rfl, ⟨hg, fun _ _ => rfl, rfl⟩, hd⟩
  refine ⟨_, _, μ', for_nx (ds := (List.range 6).map nD) (μ1 := μ) ?_ f1, ⟨f2.1, f2.2.1, f2.2.2⟩⟩
  have := rngR_n (μ := μ) (n := 6) (by omega)
  simpa using this
/-- the drawn choice -/
theorem picks_eq {P : List Pl} {T : List Tl} (hw : WebOk P T) {sc : D} {j1 j11 j12 j13 : Option Sl} {g : Nat} {μ : Store} (hg : Bg g μ) :
    ∃ (xs : List Int) (μ' : Store), eFrz (lLc [5, 14, 15] (sSq (e2 ixD (eV 4) (eC (.int 1)))) G2_law (bYes) E2_law) (R16 sc j1 (some (.d (eW P T))) (some (.ob g)) j11 j12 j13) μ = .ok (.d (.lst (xs.map .int))) μ' ∧ Bg g μ' ∧ Ch T xs := by
  have hm := hw.m
  obtain ⟨xs, M, s1, s2, s3, s4⟩ := lc_inv (vs := [5, 14, 15]) (g := G2_law) (e := E2_law) (ρ := R16 sc j1 (some (.d (eW P T))) (some (.ob g)) j11 j12 j13) eT D.int (fun μ => Bg g μ) (fun (t : Tl) (x : Int) => 0 ≤ x ∧ x ≤ t.2.2) T μ hg (by
    rintro ⟨a, c, li⟩ ht M hM
    have hli : 0 < li := (hw.t _ ht).2.2
    have hli2 : li ≤ 1000000000000000000000000000000 := hw.far _ ht
    obtain ⟨x, M', h1, h2, h3⟩ := choice_x (ds := [.int 0, .int 1, .int li, .int (li / 2)]) hM (by simp)
    have hx : ∃ k : Int, x = .int k ∧ 0 ≤ k ∧ k ≤ li := by
      simp only [List.mem_cons, List.not_mem_nil, or_false] at h2
      rcases h2 with rfl | rfl | rfl | rfl
      · exact ⟨0, rfl, by omega, by omega⟩
      · exact ⟨1, rfl, by omega, by omega⟩
      · exact ⟨li, rfl, by omega, by omega⟩
      · exact ⟨li / 2, rfl, by omega, by omega⟩
    obtain ⟨k, rfl, k1, k2⟩ := hx
    refine ⟨[some (.d sc), j1, none, none, some (.d (eW P T)), some (.d (nD a)), none, none, none, none, some (.ob g), j11, j12, j13, some (.d (nD c)), some (.d (.int li))], k, M', rfl, ?_, ⟨k1, k2⟩, h3.bag⟩
    generalize eW P T = W at *
    simp [E2_law, h1])
  refine ⟨xs, M, ?_, s2, ch_iff.2 ⟨s3, fun i hi => ?_⟩⟩
  · rw [eFrz_eq, lLc_eq]
    have : sSq (e2 ixD (eV 4) (eC (.int 1))) (R16 sc j1 (some (.d (eW P T))) (some (.ob g)) j11 j12 j13) μ = .ok (T.map eT) μ := by simp [eW, eTs]
    rw [this, rbind_ok, s1, lcap_ok, List.length_map, if_pos (by omega)]; rfl
  · have hi2 : i < xs.length := by omega
    have := s4 i T[i] xs[i] (List.getElem?_eq_getElem hi) (List.getElem?_eq_getElem hi2)
    rw [List.getD_eq_getElem?_getD, List.getD_eq_getElem?_getD, List.getElem?_eq_getElem hi, List.getElem?_eq_getElem hi2]
    exact this
/-- one of the two webs -/
theorem one_eq {ρ : Rho} {g : Nat} {μ : Store} (hρ : ρ[10]? = some (some (.ob g))) (hg : Bg g μ) : ∃ (P : List Pl) (T : List Tl) (μ' : Store), eCallM 2 m_u_law_choice (aCons (eV 10) (aCons (eFrz (lLst (aCons (eCallM 1 m_u_law_web (aCons (eV 10) (aNil))) (aCons (eCallM 1 m_u_law_great_web (aCons (eV 10) (aNil))) (aNil))))) (aNil))) ρ μ = .ok (.d (eW P T)) μ' ∧ Bg g μ' ∧ WebOk P T := by
  obtain ⟨bag, hb⟩ := hg
  obtain ⟨P1, T1, bag1, M1, a1, a2, a3⟩ := web_eq hb
  obtain ⟨P2, T2, M2, b1, b2, b3⟩ := great_eq (b := g) (μ := M1) ⟨_, a2⟩
  obtain ⟨x, M3, c1, c2, c3⟩ := choice_x (ds := [eW P1 T1, eW P2 T2]) b2 (by simp)
  simp only [List.mem_cons, List.not_mem_nil, or_false] at c2
  rcases c2 with rfl | rfl
  · refine ⟨P1, T1, M3, ?_, c3.bag, a3⟩
    generalize eW P1 T1 = W1 at *
    generalize eW P2 T2 = W2 at *
    simp [hρ, a1, b1, c1]
  · refine ⟨P2, T2, M3, ?_, c3.bag, b3⟩
    generalize eW P1 T1 = W1 at *
    generalize eW P2 T2 = W2 at *
    simp [hρ, a1, b1, c1]
theorem body_eq (ns : List Int) {i : Nat} (hi : i < 8) {j4 j10 j11 j12 j13 : Option Sl} (μ : Store) : ∃ (j4' j10' j11' j12' j13' : Option Sl) (μ' : Store), B1_law (R16 (.scr ns) (some (.d (nD i))) j4 j10 j11 j12 j13) μ = .nx (R16 (.scr ns) (some (.d (nD i))) j4' j10' j11' j12' j13') μ' := by
  obtain ⟨bag, hb⟩ := bag_eq (μ := μ) ns i (by omega)
  have g0 : (μ ++ [MO.lst (bag.map D.int)])[μ.length]? = some (.lst (bag.map .int)) := by rw [List.getElem?_append_right (Nat.le_refl _)]; simp
  generalize (μ ++ [MO.lst (bag.map D.int)]) = MU at *
  generalize μ.length = g at *
  obtain ⟨P, T, M1, a1, a2, hw⟩ := one_eq (ρ := R16 (.scr ns) (some (.d (nD i))) j4 (some (.ob g)) j11 j12 j13) (g := g) (μ := MU) rfl ⟨_, g0⟩
  obtain ⟨xs, M2, b1, b2, hc⟩ := picks_eq hw (sc := .scr ns) (j1 := some (.d (nD i))) (j11 := j11) (j12 := j12) (j13 := j13) a2
  have hm := hw.m
  have hn := hw.n5
  have s1 := sums_eq hw hc
  have s2 := law_sums_eq (P := P) hw.t (by omega) hc.len
  have s3 := neD_lsf (dg T xs) P.length
  have s4 := fits_eq hw hc
  have s5 := law_misses_eq (P := P) hw.t (by omega) (fun p hp => (hw.p p hp).2.1) hc.len
  have s6 := truly_t (decide (missL P T xs = 0))
  have s7 := refused_eq hw
  obtain ⟨k12, k13, M3, t1, n1⟩ := six_eq hw (sc := .scr ns) (j1 := some (.d (nD i))) (j11 := some (.d (.tup (xs.map .int)))) (j13 := j13) (web_ni hw) b2
  obtain ⟨l12, l13, M4, t2, n2⟩ := six_eq hw (sc := .scr ns) (j1 := some (.d (nD i))) (j11 := some (.d (.tup (xs.map .int)))) (j13 := k13) (web_ni hw) n1.bag
  obtain ⟨m12, m13, M5, t3, n3⟩ := six_eq hw (sc := .scr ns) (j1 := some (.d (nD i))) (j11 := some (.d (.tup (xs.map .int)))) (j13 := l13) (picks_ni hw hc) n2.bag
  refine ⟨some (.d (eW P T)), some (.ob g), some (.d (.tup (xs.map .int))), m12, m13, M5, ?_⟩
  unfold B1_law
  refine (seq_nx (ρ' := R16 (.scr ns) (some (.d (nD i))) j4 (some (.ob g)) j11 j12 j13) (μ' := MU) ?_).trans ?_
  · simp at hb
    simp [hb]
  refine (seq_nx (ρ' := R16 (.scr ns) (some (.d (nD i))) (some (.d (eW P T))) (some (.ob g)) j11 j12 j13) (μ' := M1) (s_asg a1 rfl)).trans ?_
  refine (seq_nx (ρ' := R16 (.scr ns) (some (.d (nD i))) (some (.d (eW P T))) (some (.ob g)) (some (.d (.tup (xs.map .int)))) j12 j13) (μ' := M2) (s_asg (fn_lst2 b1 rfl) rfl)).trans ?_
  generalize eW P T = W at *
  generalize List.map D.int xs = XS at *
  generalize lsf (dg T xs) P.length = L at *
  generalize missL P T xs = MI at *
  refine (seq_nx (ρ' := R16 (.scr ns) (some (.d (nD i))) (some (.d W)) (some (.ob g)) (some (.d (.tup XS))) j12 j13) (μ' := M2) (by simp [s1, s2, s3])).trans ?_
  refine (seq_nx (ρ' := R16 (.scr ns) (some (.d (nD i))) (some (.d W)) (some (.ob g)) (some (.d (.tup XS))) j12 j13) (μ' := M2) (by simp [s4, s5, s6])).trans ?_
  refine (seq_nx (ρ' := R16 (.scr ns) (some (.d (nD i))) (some (.d W)) (some (.ob g)) (some (.d (.tup XS))) m12 m13) (μ' := M5) ?_).trans ?_
  · refine for_nx (ds := [W, W, .tup XS]) (μ1 := M2) rfl ?_
    simp only [forL, G3_law, gN_eq, List.set_cons_succ, List.set_cons_zero]
    simp only [R16] at t1 t2 t3
    simp only [t1, t2, t3, List.set_cons_succ, List.set_cons_zero]
  · simp [s7]
theorem loop1 (ns : List Int) : ∃ (j1 j4 j10 j11 j12 j13 : Option Sl) (μ' : Store), sFor (sRng1 (eC (.int 8))) G1_law B1_law (R16 (.scr ns) none none none none none none) [] = .nx (R16 (.scr ns) j1 j4 j10 j11 j12 j13) μ' := by
  obtain ⟨ρ', μ', f1, j1, j4, j10, j11, j12, j13, rfl⟩ := for_idx (g := G1_law) (body := B1_law) nD (fun _ ρ _ => ∃ j1 j4 j10 j11 j12 j13, ρ = R16 (.scr ns) j1 j4 j10 j11 j12 j13) (List.range 8) 0 (R16 (.scr ns) none none none none none none) [] (by
    rintro i w hw ρ μ ⟨j1, j4, j10, j11, j12, j13, rfl⟩
    obtain ⟨hi, rfl⟩ : i < 8 ∧ i = w := by
      obtain ⟨h1, h2⟩ := List.getElem?_eq_some_iff.1 hw
      rw [List.getElem_range] at h2
      rw [List.length_range] at h1
      exact ⟨h1, h2⟩
    obtain ⟨k4, k10, k11, k12, k13, μ2, h⟩ := body_eq ns hi (j4 := j4) (j10 := j10) (j11 := j11) (j12 := j12) (j13 := j13) μ
    exact ⟨R16 (.scr ns) (some (.d (nD i))) j4 j10 j11 j12 j13, _, μ2, rfl, h, _, _, _, _, _, _, rfl⟩) ⟨_, _, _, _, _, _, rfl⟩
  refine ⟨j1, j4, j10, j11, j12, j13, μ', for_nx (ds := (List.range 8).map nD) (μ1 := []) ?_ f1⟩
  have := rngR_n (μ := []) (n := 8) (by omega)
  simpa using this

end Bt

set_option linter.all false
set_option maxRecDepth 100000
set_option maxHeartbeats 1000000
/-! K01P: the law -/
namespace Bt
open PySem DL LV
def knD : List D := match p_u_law_known [] with
  | .ok (.lst ds) => ds
  | _ => []
theorem known_eq : p_u_law_known [] = .ok (.lst knD) := rfl
theorem known_yes : knD.all (fun d => d.pl && wbB d) = true := by decide +kernel
theorem known_len : knD.length = 5 := by decide +kernel
theorem known_t {d : D} (h : d ∈ knD) : d.pl = true ∧ wbB d = true := by
  have := List.all_eq_true.1 known_yes d h
  simpa using this
def fiveD : D := .tup [.tup [.int 0, .int far], .tup [.int 0, .int far], .tup [.int 0, .int far], .tup [.int 0, .int far], .tup [.int 0, .int far]]
def allD' : D := .tup [.tup [.int 0, .int 1, .int far], .tup [.int 0, .int 2, .int far], .tup [.int 0, .int 3, .int far], .tup [.int 0, .int 4, .int far], .tup [.int 1, .int 2, .int far], .tup [.int 1, .int 3, .int far], .tup [.int 1, .int 4, .int far], .tup [.int 2, .int 3, .int far], .tup [.int 2, .int 4, .int far], .tup [.int 3, .int 4, .int far]]
def tenD : D := .tup [.int far, .int far, .int far, .int far, .int far, .int far, .int far, .int far, .int far, .int far]
def sumD5 : D := .tup [.int (4 * far), .int (4 * far), .int (4 * far), .int (4 * far), .int (4 * far)]
theorem c_five : mulD (.tup [.tup [.int 0, .int far]]) (.int 5) = some fiveD := rfl
theorem c_ten : mulD (.tup [.int far]) (.int 10) = some tenD := rfl
theorem c_sum : mulD (.tup [.int (4 * far)]) (.int 5) = some sumD5 := rfl
theorem c_mul : mulD (.int 4) (.int far) = some (.int (4 * far)) := rfl
theorem five_web : p_is_web [.tup [fiveD, allD']] = .ok (.bl true) := prEq_ok (by decide +kernel)
theorem five_sums : p_sums [.tup [fiveD, allD'], tenD] = .ok sumD5 := prEq_ok (by decide +kernel)
theorem five_ne : neD sumD5 sumD5 = some (.bl false) := rfl

abbrev Rf (sc : D) (j1 j2 j3 j4 j5 j6 j7 j8 j9 j10 j11 j12 j13 : Option Sl) : Rho := [some (.d sc), j1, j2, j3, j4, j5, j6, j7, j8, j9, j10, j11, j12, j13, none, none]
theorem loop7 {sc : D} {j1 j4 j10 j11 j12 j13 : Option Sl} {μ : Store} : sFor (sRng1 (eC (.int 5))) G7_law B7_law (Rf sc j1 (some (.d fiveD)) (some (.d (.tup []))) j4 none none none none none j10 j11 j12 j13) μ = .nx (Rf sc j1 (some (.d fiveD)) (some (.d allD')) (some (.d (nD 4))) none none none none none j10 j11 j12 j13) μ := rfl
def k0 : D := .tup [.tup [.tup [.int 1, .int 1], .tup [.int 1, .int 1], .tup [.int 1, .int 1]], .tup [.tup [.int 0, .int 1, .int 1], .tup [.int 0, .int 2, .int 1], .tup [.int 1, .int 2, .int 1]]]
def k1 : D := .tup [.tup [.tup [.int 1, .int 2], .tup [.int 1, .int 1], .tup [.int 1, .int 1]], .tup [.tup [.int 0, .int 1, .int 1], .tup [.int 0, .int 2, .int 1], .tup [.int 1, .int 2, .int 1]]]
def k2 : D := .tup [.tup [.tup [.int 2, .int 3], .tup [.int 0, .int 2], .tup [.int 4, .int 4]], .tup [.tup [.int 0, .int 1, .int 2], .tup [.int 1, .int 2, .int 3]]]
def k3 : D := .tup [.tup [.tup [.int 2, .int 2], .tup [.int 0, .int 3], .tup [.int 1, .int 1]], .tup [.tup [.int 0, .int 1, .int 2], .tup [.int 1, .int 2, .int 1]]]
def k4 : D := .tup [.tup [.tup [.int 1, .int 1], .tup [.int 0, .int 1], .tup [.int 0, .int 1]], .tup [.tup [.int 0, .int 1, .int 1], .tup [.int 0, .int 2, .int 1]]]
theorem kn_eq : p_u_law_known [] = .ok (.lst [k0, k1, k2, k3, k4]) := rfl
theorem a1 : p_sums [k0, .tup [.int 1, .int 0, .int 1]] = .ok (.tup [.int 1, .int 2, .int 1]) := prEq_ok (by decide +kernel)
theorem a2 : p_sums [k2, .tup [.int 2, .int 3]] = .ok (.tup [.int 2, .int 5, .int 3]) := prEq_ok (by decide +kernel)
theorem a3 : p_fits [k1, .tup [.int 1, .int 1, .int 0]] = .ok (.bl true) := prEq_ok (by decide +kernel)
theorem a4 : p_fits [k0, .tup [.int 1, .int 1, .int 0]] = .ok (.bl false) := prEq_ok (by decide +kernel)
theorem a5 : p_fits [k3, .tup [.int 2, .int 1]] = .ok (.bl true) := prEq_ok (by decide +kernel)
theorem a6 : p_fits [.tup [.tup [.tup [.int 0, .int 1]], .tup []], .tup []] = .ok (.bl true) := prEq_ok (by decide +kernel)
theorem n1 : neD (.tup [.int 1, .int 2, .int 1]) (.tup [.int 1, .int 2, .int 1]) = some (.bl false) := rfl
theorem n2 : neD (.tup [.int 2, .int 5, .int 3]) (.tup [.int 2, .int 5, .int 3]) = some (.bl false) := rfl
theorem neD_ee : neD (.lst []) (.lst []) = some (.bl false) := rfl
@[simp] theorem isnD_b (a b : Bool) : isnD (.bl a) (.bl b) = some (.bl (!decide (a = b))) := rfl
@[simp] theorem isD_b (a b : Bool) : isD (.bl a) (.bl b) = some (.bl (decide (a = b))) := rfl
/-- a comprehension that keeps nothing -/
theorem none_left {ρ : Rho} {μ : Store} {src : LF} {g : GF} {t : BF} {e : EF} {ds : List D} (hs : src ρ μ = .ok ds μ) (hl : ds.length ≤ 1000) (st : ∀ d, d ∈ ds → ∃ ρ1, g (.d d) (wipeR ρ [4]) = some ρ1 ∧ t ρ1 μ = .ok false μ) : sIf (bV (e2 neD (eFrz (lLc [4] src g t e)) (eFrz (lLst (aNil))))) (sRet (eC (.bl false))) (sNil) ρ μ = .nx ρ μ := by
  have s1 := frz_lcf (vs := [4]) (src := src) (g := g) (t := t) (e := e) (ρ := ρ) (μ := μ) id (fun _ => false) id ds (by rw [hs]; simp) (by omega) fun d hd => by
    obtain ⟨ρ1, h1, h2⟩ := st d hd
    exact ⟨ρ1, h1, h2, fun h => (nomatch h)⟩
  have e : (ds.filter fun _ => false) = [] := by simp
  rw [e] at s1
  refine (s_iff (b_v (e_2 s1 (y := .d (.lst [])) (μ2 := μ) rfl ?_))).trans rfl
  simp [neD_ee]
theorem law_plain (ns : List Int) (hl : ns.length ≤ 63) : p_law [.scr ns] = .ok (.bl true) := by
  obtain ⟨j1, j4, j10, j11, j12, j13, M, h1⟩ := loop1 ns
  refine fn_rt (s := .d (.bl true)) (μ := M) ?_ rfl
  have r0 : rho0 15 ([D.scr ns].map Sl.d) = R16 (.scr ns) none none none none none none := rfl
  rw [F_law_eq, r0]
  refine (seq_nx h1).trans ?_
  generalize D.scr ns = SC at *
  refine (seq_nx (ρ' := R16 SC j1 j4 j10 j11 j12 j13) (μ' := M) (none_left (ds := bads) (by simp [bad_eq]) (by rw [bads_len]; omega) fun d hd => ⟨_, rfl, ?_⟩)).trans ?_
  · obtain ⟨q1, q2⟩ := bad_f hd
    have := is_web_eq q1
    rw [q2] at this
    simp [T5_law, wipeR, this]
  refine (seq_nx (ρ' := R16 SC j1 j4 j10 j11 j12 j13) (μ' := M) (none_left (ds := knD) (by simp [known_eq]) (by rw [known_len]; omega) fun d hd => ⟨_, rfl, ?_⟩)).trans ?_
  · obtain ⟨q1, q2⟩ := known_t hd
    have := is_web_eq q1
    rw [q2] at this
    simp [T6_law, wipeR, this]
  refine (seq_nx (ρ' := Rf SC j1 (some (.d fiveD)) none j4 none none none none none j10 j11 j12 j13) (μ' := M) rfl).trans ?_
  refine (seq_nx (ρ' := Rf SC j1 (some (.d fiveD)) (some (.d (.tup []))) j4 none none none none none j10 j11 j12 j13) (μ' := M) rfl).trans ?_
  refine (seq_nx loop7).trans ?_
  refine (seq_nx (ρ' := Rf SC j1 (some (.d fiveD)) (some (.d allD')) (some (.d (nD 4))) none none none none none j10 j11 j12 j13) (μ' := M) ?_).trans ?_
  · have p30 := pw30
    have ct := c_ten
    have cs := c_sum
    have cm := c_mul
    have fw := five_web
    have fs := five_sums
    have fn := five_ne
    generalize (4 * far) = F4 at *
    generalize far = FA at *
    generalize fiveD = A at *
    generalize allD' = B at *
    generalize tenD = C at *
    generalize sumD5 = E at *
    simp [p30, ct, cs, cm, fw, fs, fn, -mulD_i]
  refine (seq_nx (ρ' := Rf SC j1 (some (.d fiveD)) (some (.d allD')) (some (.d (nD 4))) (some (.d k0)) (some (.d k1)) (some (.d k2)) (some (.d k3)) (some (.d k4)) j10 j11 j12 j13) (μ' := M) (by
    rw [sAsg_eq, eCall0_eq, kn_eq]; rfl)).trans ?_
  have b1 := a1
  have b2 := a2
  have b3 := a3
  have b4 := a4
  have b5 := a5
  have b6 := a6
  generalize k0 = K0 at *
  generalize k1 = K1 at *
  generalize k2 = K2 at *
  generalize k3 = K3 at *
  generalize k4 = K4 at *
  generalize fiveD = A at *
  generalize allD' = B at *
  refine (seq_nx (ρ' := Rf SC j1 (some (.d A)) (some (.d B)) (some (.d (nD 4))) (some (.d K0)) (some (.d K1)) (some (.d K2)) (some (.d K3)) (some (.d K4)) j10 j11 j12 j13) (μ' := M) (by simp [b1, b2, b3, n1, n2])).trans ?_
  simp [b4, b5, b6]
end Bt

set_option Elab.async false
set_option linter.all false
set_option maxRecDepth 100000
open PySem PySem.W PyProof.Rows DL
@[reducible] def Bt.tcx (p0 p1 : Addr) : TabCtx := ⟨[(p0, ("_law_all_refused.<locals>." : Str) ++ "<lambda>"), (p1, ("_law_refused.<locals>." : Str) ++ "<lambda>")]⟩
theorem Bt.law_end {l : OpenLaw} {w : World} {K : Frag} {mg : Str → Option Value} {fa : Addr} {h : Heap} {ts : List Addr} {p0 p1 c0 c1 : Addr} (hfa : mg "law" = some (.ref fa)) (X : K.In h) (hts : ∀ P ∈ ts, h.get? P = some (tabObj #[]))
    {f0 : Addr} {oc0 : Value} {od0 od'0 : Option Addr} {fd0 : FuncData} {sl0 sl'0 : Array (Option Value)} {vs0 : Array Value} (na0 : nsIn K mainGlobals "_law_all_refused" = some (some (.ref f0))) (nl0 : K.lookup f0 = some ⟨oc0, od0, .func fd0, sl0⟩) (nk0 : fd0.code = .ref c0) (nc0 : K.lookup c0 = some ⟨.type "code", od'0, .fields vs0, sl'0⟩) (nv0 : (vs0[11]? : Option Value) = some (.ref p0)) (m0 : p0 ∈ ts) (nt0 : K.lookup p0 = none) (q0 : codeHdIn K c0 p0 = true)
    {f1 : Addr} {oc1 : Value} {od1 od'1 : Option Addr} {fd1 : FuncData} {sl1 sl'1 : Array (Option Value)} {vs1 : Array Value} (na1 : nsIn K mainGlobals "_law_refused" = some (some (.ref f1))) (nl1 : K.lookup f1 = some ⟨oc1, od1, .func fd1, sl1⟩) (nk1 : fd1.code = .ref c1) (nc1 : K.lookup c1 = some ⟨.type "code", od'1, .fields vs1, sl'1⟩) (nv1 : (vs1[11]? : Option Value) = some (.ref p1)) (m1 : p1 ∈ ts) (nt1 : K.lookup p1 = none) (q1 : codeHdIn K c1 p1 = true)
    (T : @Bt.Txt (Bt.tcx p0 p1) mg K) (ec0 : @Bt.Txt.cc_u_law_all_refused (Bt.tcx p0 p1) mg K T = c0) (ep0 : @Bt.Txt.pp_u_law_all_refused (Bt.tcx p0 p1) mg K T = p0) (ec1 : @Bt.Txt.cc_u_law_refused (Bt.tcx p0 p1) mg K T = c1) (ep1 : @Bt.Txt.pp_u_law_refused (Bt.tcx p0 p1) mg K T = p1) : LamX.LawAtS l w K (L2N.CX l.prog w) 21 63 "script" mg fa h := by
  letI := (Bt.tcx p0 p1)
  have e := hfa.symm.trans T.d_law.g
  cases e
  subst ec0 ec1
  refine ⟨T.d_law.fd, [(T.cc_u_law_all_refused, p0), (T.cc_u_law_refused, p1)], DL.spLaw K, ?_, ?_, ?_, fun s v => .of_eq (T.d_law.bt [v] rfl), ?_, ?_⟩
  · intro p hp0
    simp only [List.mem_cons, List.not_mem_nil, or_false] at hp0
    rcases hp0 with rfl | rfl
    · exact hts _ m0
    · exact hts _ m1
  · intro p hp0
    simp only [List.mem_cons, List.not_mem_nil, or_false] at hp0
    rcases hp0 with rfl | rfl
    · exact nt0
    · exact nt1
  · intro p hp0
    simp only [List.mem_cons, List.not_mem_nil, or_false] at hp0
    rcases hp0 with rfl | rfl
    · exact codeHd_of_K X q0
    · exact codeHd_of_K X q1
  · intro H a ns hl _ hH hS
    refine ⟨a, ns, rfl, hS, hl, fun p hp0 => ?_, fun _ => rfl⟩
    change p ∈ [(p0, ("_law_all_refused.<locals>." : Str) ++ "<lambda>"), (p1, ("_law_refused.<locals>." : Str) ++ "<lambda>")] at hp0
    simp only [List.mem_cons, List.not_mem_nil, or_false] at hp0
    rcases hp0 with rfl | rfl
    · exact LamX.TabS.nil (hH _ (List.mem_cons_self))
    · exact LamX.TabS.nil (hH _ (List.mem_cons_of_mem _ (List.mem_cons_self)))
  · intro base hK hns TB
    have tb0 : LamX.TabB base mg T.cc_u_law_all_refused T.pp_u_law_all_refused := by
      rw [ep0]
      exact TB (T.cc_u_law_all_refused, p0) (by simp)
    have tb1 : LamX.TabB base mg T.cc_u_law_refused T.pp_u_law_refused := by
      rw [ep1]
      exact TB (T.cc_u_law_refused, p1) (by simp)
    refine ⟨fun vs H Q E hh => by obtain ⟨a, ns, rfl, _⟩ := hh; rfl, fun A outer s H args us vs Q E hr e0 hb hv hh => ?_⟩
    exact ((Bt.ok_law T ⟨e0.mod, tb0, tb1⟩).imp (DL.spLaw_of Bt.law_plain)).run A outer s H args us vs Q E hr e0 hb hv hh
def Bt.mkExc {mg : Str → Option Value} {K : Frag} {x : Str} {C : Addr} (g : mg x = some (.ref C)) (q : excIn K C veMro "ValueError.__new__" = true) (kp : keepIn K (.ref C) = true) (s : subIn K (.ref C) (.type "BaseException") = some true) (t : typeIn K (.ref C) = some (.type "type")) : ExcOk mg K x := ⟨C, g, q, kp, s, t⟩
namespace Bt
variable [TabCtx]
def Txt.make {mg : Str → Option Value} {K : Frag} {cTie cn_InvalidWeb cn_InvalidChoice cn_InvalidLots cn_InvalidTie cn_InvalidPlace cn_InvalidNumber cn_InvalidPairs cn_InvalidText cn_Unlike cn_NoChoice cn_NothingToUndo cn_TooMany cc_u_law_all_refused pp_u_law_all_refused cc_u_law_refused pp_u_law_refused : Addr} (d_is_whole : DefOk mg K "is_whole" s_is_whole a_is_whole) (d_fits_stretch : DefOk mg K "fits_stretch" s_fits_stretch a_fits_stretch) (d_fits_tie : DefOk mg K "fits_tie" s_fits_tie a_fits_tie) (d_fits_web : DefOk mg K "fits_web" s_fits_web a_fits_web) (d_fits_choice : DefOk mg K "fits_choice" s_fits_choice a_fits_choice) (d_need_web : DefOk mg K "need_web" s_need_web a_need_web) (d_need_choice : DefOk mg K "need_choice" s_need_choice a_need_choice) (d_sums_of : DefOk mg K "sums_of" s_sums_of a_sums_of) (d_missing_of : DefOk mg K "missing_of" s_missing_of a_missing_of) (d_is_web : DefOk mg K "is_web" s_is_web a_is_web) (d_is_choice : DefOk mg K "is_choice" s_is_choice a_is_choice) (d_sums : DefOk mg K "sums" s_sums a_sums) (d_fits : DefOk mg K "fits" s_fits a_fits) (d_u_law_cell : DefOk mg K "_law_cell" s_u_law_cell a_u_law_cell) (d_u_law_draws : DefOk mg K "_law_draws" s_u_law_draws a_u_law_draws) (d_u_law_bag : DefOk mg K "_law_bag" s_u_law_bag a_u_law_bag) (d_u_law_take : DefOk mg K "_law_take" s_u_law_take a_u_law_take) (d_u_law_choice : DefOk mg K "_law_choice" s_u_law_choice a_u_law_choice) (d_u_law_known : DefOk mg K "_law_known" s_u_law_known a_u_law_known) (d_u_law_ties : DefOk mg K "_law_ties" s_u_law_ties a_u_law_ties) (d_u_law_web : DefOk mg K "_law_web" s_u_law_web a_u_law_web) (d_u_law_great_web : DefOk mg K "_law_great_web" s_u_law_great_web a_u_law_great_web) (d_u_law_sums : DefOk mg K "_law_sums" s_u_law_sums a_u_law_sums) (d_u_law_misses : DefOk mg K "_law_misses" s_u_law_misses a_u_law_misses) (d_u_law_whole : DefOk mg K "_law_whole" s_u_law_whole a_u_law_whole) (d_u_law_is_choice : DefOk mg K "_law_is_choice" s_u_law_is_choice a_u_law_is_choice) (d_u_law_named_error : DefOk mg K "_law_named_error" s_u_law_named_error a_u_law_named_error) (d_u_law_error : DefOk mg K "_law_error" s_u_law_error a_u_law_error) (d_u_law_truly : DefOk mg K "_law_truly" s_u_law_truly a_u_law_truly) (d_u_law_all_refused : DefOk mg K "_law_all_refused" s_u_law_all_refused a_u_law_all_refused) (d_u_law_bad_webs : DefOk mg K "_law_bad_webs" s_u_law_bad_webs a_u_law_bad_webs) (d_u_law_good_web : DefOk mg K "_law_good_web" s_u_law_good_web a_u_law_good_web) (d_u_law_bent : DefOk mg K "_law_bent" s_u_law_bent a_u_law_bent) (d_u_law_refused : DefOk mg K "_law_refused" s_u_law_refused a_u_law_refused) (d_law : DefOk mg K "law" s_law a_law) (m_ValueError : mg "ValueError" = none) (m_all : mg "all" = none) (m_bool : mg "bool" = none) (m_int : mg "int" = none) (m_isinstance : mg "isinstance" = none) (m_len : mg "len" = none) (m_list : mg "list" = none) (m_max : mg "max" = none) (m_range : mg "range" = none) (m_str : mg "str" = none) (m_tuple : mg "tuple" = none) (m_zip : mg "zip" = none) (c_PLACES : ∃ t, mg "PLACES" = some (.int 5 t)) (c_TIES : ∃ t, mg "TIES" = some (.int 10 t)) (c_FAR : ∃ t, mg "FAR" = some (.int 1000000000000000000000000000000 t)) (x_InvalidWeb : ExcOk mg K "InvalidWeb") (x_InvalidChoice : ExcOk mg K "InvalidChoice") (gTie : mg "TieError" = some (.ref cTie)) (g_InvalidWeb : mg "InvalidWeb" = some (.ref cn_InvalidWeb)) (g_InvalidChoice : mg "InvalidChoice" = some (.ref cn_InvalidChoice)) (g_InvalidLots : mg "InvalidLots" = some (.ref cn_InvalidLots)) (g_InvalidTie : mg "InvalidTie" = some (.ref cn_InvalidTie)) (g_InvalidPlace : mg "InvalidPlace" = some (.ref cn_InvalidPlace)) (g_InvalidNumber : mg "InvalidNumber" = some (.ref cn_InvalidNumber)) (g_InvalidPairs : mg "InvalidPairs" = some (.ref cn_InvalidPairs)) (g_InvalidText : mg "InvalidText" = some (.ref cn_InvalidText)) (g_Unlike : mg "Unlike" = some (.ref cn_Unlike)) (g_NoChoice : mg "NoChoice" = some (.ref cn_NoChoice)) (g_NothingToUndo : mg "NothingToUndo" = some (.ref cn_NothingToUndo)) (g_TooMany : mg "TooMany" = some (.ref cn_TooMany)) (ec_InvalidWeb : L2.ExcC K cn_InvalidWeb) (exm_InvalidWeb : PySem.W.exmOne K (.ref cn_InvalidWeb) (.ref cTie) = some true) (kv_InvalidWeb : PySem.W.kitOne K (.ref cn_InvalidWeb) (.type "ValueError") = some true) (kt_InvalidWeb_InvalidWeb : PySem.W.kitOne K (.ref cn_InvalidWeb) (.ref cn_InvalidWeb) = some true) (kt_InvalidWeb_InvalidChoice : PySem.W.kitOne K (.ref cn_InvalidWeb) (.ref cn_InvalidChoice) = some false) (kt_InvalidWeb_InvalidLots : PySem.W.kitOne K (.ref cn_InvalidWeb) (.ref cn_InvalidLots) = some false) (kt_InvalidWeb_InvalidTie : PySem.W.kitOne K (.ref cn_InvalidWeb) (.ref cn_InvalidTie) = some false) (kt_InvalidWeb_InvalidPlace : PySem.W.kitOne K (.ref cn_InvalidWeb) (.ref cn_InvalidPlace) = some false) (kt_InvalidWeb_InvalidNumber : PySem.W.kitOne K (.ref cn_InvalidWeb) (.ref cn_InvalidNumber) = some false) (kt_InvalidWeb_InvalidPairs : PySem.W.kitOne K (.ref cn_InvalidWeb) (.ref cn_InvalidPairs) = some false) (kt_InvalidWeb_InvalidText : PySem.W.kitOne K (.ref cn_InvalidWeb) (.ref cn_InvalidText) = some false) (kt_InvalidWeb_Unlike : PySem.W.kitOne K (.ref cn_InvalidWeb) (.ref cn_Unlike) = some false) (kt_InvalidWeb_NoChoice : PySem.W.kitOne K (.ref cn_InvalidWeb) (.ref cn_NoChoice) = some false) (kt_InvalidWeb_NothingToUndo : PySem.W.kitOne K (.ref cn_InvalidWeb) (.ref cn_NothingToUndo) = some false) (kt_InvalidWeb_TooMany : PySem.W.kitOne K (.ref cn_InvalidWeb) (.ref cn_TooMany) = some false) (ec_InvalidChoice : L2.ExcC K cn_InvalidChoice) (exm_InvalidChoice : PySem.W.exmOne K (.ref cn_InvalidChoice) (.ref cTie) = some true) (kv_InvalidChoice : PySem.W.kitOne K (.ref cn_InvalidChoice) (.type "ValueError") = some true) (kt_InvalidChoice_InvalidWeb : PySem.W.kitOne K (.ref cn_InvalidChoice) (.ref cn_InvalidWeb) = some false) (kt_InvalidChoice_InvalidChoice : PySem.W.kitOne K (.ref cn_InvalidChoice) (.ref cn_InvalidChoice) = some true) (kt_InvalidChoice_InvalidLots : PySem.W.kitOne K (.ref cn_InvalidChoice) (.ref cn_InvalidLots) = some false) (kt_InvalidChoice_InvalidTie : PySem.W.kitOne K (.ref cn_InvalidChoice) (.ref cn_InvalidTie) = some false) (kt_InvalidChoice_InvalidPlace : PySem.W.kitOne K (.ref cn_InvalidChoice) (.ref cn_InvalidPlace) = some false) (kt_InvalidChoice_InvalidNumber : PySem.W.kitOne K (.ref cn_InvalidChoice) (.ref cn_InvalidNumber) = some false) (kt_InvalidChoice_InvalidPairs : PySem.W.kitOne K (.ref cn_InvalidChoice) (.ref cn_InvalidPairs) = some false) (kt_InvalidChoice_InvalidText : PySem.W.kitOne K (.ref cn_InvalidChoice) (.ref cn_InvalidText) = some false) (kt_InvalidChoice_Unlike : PySem.W.kitOne K (.ref cn_InvalidChoice) (.ref cn_Unlike) = some false) (kt_InvalidChoice_NoChoice : PySem.W.kitOne K (.ref cn_InvalidChoice) (.ref cn_NoChoice) = some false) (kt_InvalidChoice_NothingToUndo : PySem.W.kitOne K (.ref cn_InvalidChoice) (.ref cn_NothingToUndo) = some false) (kt_InvalidChoice_TooMany : PySem.W.kitOne K (.ref cn_InvalidChoice) (.ref cn_TooMany) = some false) (hc_u_law_all_refused : d_u_law_all_refused.fd.code = .ref cc_u_law_all_refused) (mem_u_law_all_refused : (pp_u_law_all_refused, ("_law_all_refused.<locals>." : Str) ++ "<lambda>") ∈ TabCtx.T) (hu_u_law_all_refused : ∀ p ∈ TabCtx.T, p.1 = pp_u_law_all_refused → p.2 = ("_law_all_refused.<locals>." : Str) ++ "<lambda>") (hc_u_law_refused : d_u_law_refused.fd.code = .ref cc_u_law_refused) (mem_u_law_refused : (pp_u_law_refused, ("_law_refused.<locals>." : Str) ++ "<lambda>") ∈ TabCtx.T) (hu_u_law_refused : ∀ p ∈ TabCtx.T, p.1 = pp_u_law_refused → p.2 = ("_law_refused.<locals>." : Str) ++ "<lambda>") : Txt mg K := { cTie := cTie, cn_InvalidWeb := cn_InvalidWeb, cn_InvalidChoice := cn_InvalidChoice, cn_InvalidLots := cn_InvalidLots, cn_InvalidTie := cn_InvalidTie, cn_InvalidPlace := cn_InvalidPlace, cn_InvalidNumber := cn_InvalidNumber, cn_InvalidPairs := cn_InvalidPairs, cn_InvalidText := cn_InvalidText, cn_Unlike := cn_Unlike, cn_NoChoice := cn_NoChoice, cn_NothingToUndo := cn_NothingToUndo, cn_TooMany := cn_TooMany, cc_u_law_all_refused := cc_u_law_all_refused, pp_u_law_all_refused := pp_u_law_all_refused, cc_u_law_refused := cc_u_law_refused, pp_u_law_refused := pp_u_law_refused, d_is_whole := d_is_whole, d_fits_stretch := d_fits_stretch, d_fits_tie := d_fits_tie, d_fits_web := d_fits_web, d_fits_choice := d_fits_choice, d_need_web := d_need_web, d_need_choice := d_need_choice, d_sums_of := d_sums_of, d_missing_of := d_missing_of, d_is_web := d_is_web, d_is_choice := d_is_choice, d_sums := d_sums, d_fits := d_fits, d_u_law_cell := d_u_law_cell, d_u_law_draws := d_u_law_draws, d_u_law_bag := d_u_law_bag, d_u_law_take := d_u_law_take, d_u_law_choice := d_u_law_choice, d_u_law_known := d_u_law_known, d_u_law_ties := d_u_law_ties, d_u_law_web := d_u_law_web, d_u_law_great_web := d_u_law_great_web, d_u_law_sums := d_u_law_sums, d_u_law_misses := d_u_law_misses, d_u_law_whole := d_u_law_whole, d_u_law_is_choice := d_u_law_is_choice, d_u_law_named_error := d_u_law_named_error, d_u_law_error := d_u_law_error, d_u_law_truly := d_u_law_truly, d_u_law_all_refused := d_u_law_all_refused, d_u_law_bad_webs := d_u_law_bad_webs, d_u_law_good_web := d_u_law_good_web, d_u_law_bent := d_u_law_bent, d_u_law_refused := d_u_law_refused, d_law := d_law, m_ValueError := m_ValueError, m_all := m_all, m_bool := m_bool, m_int := m_int, m_isinstance := m_isinstance, m_len := m_len, m_list := m_list, m_max := m_max, m_range := m_range, m_str := m_str, m_tuple := m_tuple, m_zip := m_zip, c_PLACES := c_PLACES, c_TIES := c_TIES, c_FAR := c_FAR, x_InvalidWeb := x_InvalidWeb, x_InvalidChoice := x_InvalidChoice, gTie := gTie, g_InvalidWeb := g_InvalidWeb, g_InvalidChoice := g_InvalidChoice, g_InvalidLots := g_InvalidLots, g_InvalidTie := g_InvalidTie, g_InvalidPlace := g_InvalidPlace, g_InvalidNumber := g_InvalidNumber, g_InvalidPairs := g_InvalidPairs, g_InvalidText := g_InvalidText, g_Unlike := g_Unlike, g_NoChoice := g_NoChoice, g_NothingToUndo := g_NothingToUndo, g_TooMany := g_TooMany, ec_InvalidWeb := ec_InvalidWeb, exm_InvalidWeb := exm_InvalidWeb, kv_InvalidWeb := kv_InvalidWeb, kt_InvalidWeb_InvalidWeb := kt_InvalidWeb_InvalidWeb, kt_InvalidWeb_InvalidChoice := kt_InvalidWeb_InvalidChoice, kt_InvalidWeb_InvalidLots := kt_InvalidWeb_InvalidLots, kt_InvalidWeb_InvalidTie := kt_InvalidWeb_InvalidTie, kt_InvalidWeb_InvalidPlace := kt_InvalidWeb_InvalidPlace, kt_InvalidWeb_InvalidNumber := kt_InvalidWeb_InvalidNumber, kt_InvalidWeb_InvalidPairs := kt_InvalidWeb_InvalidPairs, kt_InvalidWeb_InvalidText := kt_InvalidWeb_InvalidText, kt_InvalidWeb_Unlike := kt_InvalidWeb_Unlike, kt_InvalidWeb_NoChoice := kt_InvalidWeb_NoChoice, kt_InvalidWeb_NothingToUndo := kt_InvalidWeb_NothingToUndo, kt_InvalidWeb_TooMany := kt_InvalidWeb_TooMany, ec_InvalidChoice := ec_InvalidChoice, exm_InvalidChoice := exm_InvalidChoice, kv_InvalidChoice := kv_InvalidChoice, kt_InvalidChoice_InvalidWeb := kt_InvalidChoice_InvalidWeb, kt_InvalidChoice_InvalidChoice := kt_InvalidChoice_InvalidChoice, kt_InvalidChoice_InvalidLots := kt_InvalidChoice_InvalidLots, kt_InvalidChoice_InvalidTie := kt_InvalidChoice_InvalidTie, kt_InvalidChoice_InvalidPlace := kt_InvalidChoice_InvalidPlace, kt_InvalidChoice_InvalidNumber := kt_InvalidChoice_InvalidNumber, kt_InvalidChoice_InvalidPairs := kt_InvalidChoice_InvalidPairs, kt_InvalidChoice_InvalidText := kt_InvalidChoice_InvalidText, kt_InvalidChoice_Unlike := kt_InvalidChoice_Unlike, kt_InvalidChoice_NoChoice := kt_InvalidChoice_NoChoice, kt_InvalidChoice_NothingToUndo := kt_InvalidChoice_NothingToUndo, kt_InvalidChoice_TooMany := kt_InvalidChoice_TooMany, hc_u_law_all_refused := hc_u_law_all_refused, mem_u_law_all_refused := mem_u_law_all_refused, hu_u_law_all_refused := hu_u_law_all_refused, hc_u_law_refused := hc_u_law_refused, mem_u_law_refused := mem_u_law_refused, hu_u_law_refused := hu_u_law_refused }
end Bt
set_option maxHeartbeats 0 in
theorem PySem.Challenge.cw_betweenties_k01_webs_and_choices_known_holds : PySem.Challenge.rw_betweenties_k01_webs_and_choices_known.Holds := by
  w_on; o_law; k_head; (case hw => w_witness2)
  k_fill
  refine LamX.walk_ofTs (l := PySem.Challenge.rw_betweenties_k01_webs_and_choices_known) (n := 63) (k := 21) (x := "script") (CX := fun w => L2N.CX (PySem.Challenge.rw_betweenties_k01_webs_and_choices_known).prog w) rfl (by decide) rfl ⟨rfl, by decide, by decide⟩ (fun w h Y => km_in_of Y) ?F ?hCX
  case hCX =>
    intro w H s e s' hh
    obtain ⟨_, _, _, _, _, _, _, _, _, _, _, _, z⟩ := hh
    exact z
  case F =>
    intro w mg fa h Y KX G hmg
    refine' Bt.law_end (hfa := hmg) (X := KX) (hts := km_tabs_of Y) (p0 := ?pp0) (p1 := ?pp1) (na0 := ?na0) (nl0 := ?nl0) (nk0 := ?nk0) (nc0 := ?nc0) (nv0 := ?nv0) (m0 := ?m0) (nt0 := ?nt0) (q0 := ?q0) (ec0 := ?ec0) (ep0 := ?ep0) (na1 := ?na1) (nl1 := ?nl1) (nk1 := ?nk1) (nc1 := ?nc1) (nv1 := ?nv1) (m1 := ?m1) (nt1 := ?nt1) (q1 := ?q1) (ec1 := ?ec1) (ep1 := ?ep1) (T := ?T)
    (case na0 => k_is); (case nl0 => k_is); (case nk0 => rfl); (case nc0 => k_is); (case nv0 => rfl); (case m0 => decide); (case nt0 => kernel_rfl); (case q0 => kernel_rfl)
    (case na1 => k_is); (case nl1 => k_is); (case nk1 => rfl); (case nc1 => k_is); (case nv1 => rfl); (case m1 => decide); (case nt1 => kernel_rfl); (case q1 => kernel_rfl)
    case T =>
      clear hmg
      letI : TabCtx := Bt.tcx ?pp0 ?pp1
      refine' Bt.Txt.make (d_is_whole := mkDef KX G (fun _ _ _ _ _ _ us hl => match us, hl with | [_, _, _], _ => rfl) ?a_is_whole ?l_is_whole ?c_is_whole ?k_is_whole) (d_fits_stretch := mkDef KX G (fun _ _ _ _ _ _ us hl => match us, hl with | [_], _ => rfl) ?a_fits_stretch ?l_fits_stretch ?c_fits_stretch ?k_fits_stretch) (d_fits_tie := mkDef KX G (fun _ _ _ _ _ _ us hl => match us, hl with | [_, _], _ => rfl) ?a_fits_tie ?l_fits_tie ?c_fits_tie ?k_fits_tie) (d_fits_web := mkDef KX G (fun _ _ _ _ _ _ us hl => match us, hl with | [_], _ => rfl) ?a_fits_web ?l_fits_web ?c_fits_web ?k_fits_web) (d_fits_choice := mkDef KX G (fun _ _ _ _ _ _ us hl => match us, hl with | [_, _], _ => rfl) ?a_fits_choice ?l_fits_choice ?c_fits_choice ?k_fits_choice) (d_need_web := mkDef KX G (fun _ _ _ _ _ _ us hl => match us, hl with | [_], _ => rfl) ?a_need_web ?l_need_web ?c_need_web ?k_need_web) (d_need_choice := mkDef KX G (fun _ _ _ _ _ _ us hl => match us, hl with | [_, _], _ => rfl) ?a_need_choice ?l_need_choice ?c_need_choice ?k_need_choice) (d_sums_of := mkDef KX G (fun _ _ _ _ _ _ us hl => match us, hl with | [_, _], _ => rfl) ?a_sums_of ?l_sums_of ?c_sums_of ?k_sums_of) (d_missing_of := mkDef KX G (fun _ _ _ _ _ _ us hl => match us, hl with | [_, _], _ => rfl) ?a_missing_of ?l_missing_of ?c_missing_of ?k_missing_of) (d_is_web := mkDef KX G (fun _ _ _ _ _ _ us hl => match us, hl with | [_], _ => rfl) ?a_is_web ?l_is_web ?c_is_web ?k_is_web) (d_is_choice := mkDef KX G (fun _ _ _ _ _ _ us hl => match us, hl with | [_, _], _ => rfl) ?a_is_choice ?l_is_choice ?c_is_choice ?k_is_choice) (d_sums := mkDef KX G (fun _ _ _ _ _ _ us hl => match us, hl with | [_, _], _ => rfl) ?a_sums ?l_sums ?c_sums ?k_sums) (d_fits := mkDef KX G (fun _ _ _ _ _ _ us hl => match us, hl with | [_, _], _ => rfl) ?a_fits ?l_fits ?c_fits ?k_fits) (d_u_law_cell := mkDef KX G (fun _ _ _ _ _ _ us hl => match us, hl with | [_, _], _ => rfl) ?a_u_law_cell ?l_u_law_cell ?c_u_law_cell ?k_u_law_cell) (d_u_law_draws := mkDef KX G (fun _ _ _ _ _ _ us hl => match us, hl with | [_, _, _, _], _ => rfl) ?a_u_law_draws ?l_u_law_draws ?c_u_law_draws ?k_u_law_draws) (d_u_law_bag := mkDef KX G (fun _ _ _ _ _ _ us hl => match us, hl with | [_, _], _ => rfl) ?a_u_law_bag ?l_u_law_bag ?c_u_law_bag ?k_u_law_bag) (d_u_law_take := mkDef KX G (fun _ _ _ _ _ _ us hl => match us, hl with | [_, _], _ => rfl) ?a_u_law_take ?l_u_law_take ?c_u_law_take ?k_u_law_take) (d_u_law_choice := mkDef KX G (fun _ _ _ _ _ _ us hl => match us, hl with | [_, _], _ => rfl) ?a_u_law_choice ?l_u_law_choice ?c_u_law_choice ?k_u_law_choice) (d_u_law_known := mkDef KX G (fun _ _ _ _ _ _ us hl => match us, hl with | [], _ => rfl) ?a_u_law_known ?l_u_law_known ?c_u_law_known ?k_u_law_known) (d_u_law_ties := mkDef KX G (fun _ _ _ _ _ _ us hl => match us, hl with | [_, _, _, _], _ => rfl) ?a_u_law_ties ?l_u_law_ties ?c_u_law_ties ?k_u_law_ties) (d_u_law_web := mkDef KX G (fun _ _ _ _ _ _ us hl => match us, hl with | [_], _ => rfl) ?a_u_law_web ?l_u_law_web ?c_u_law_web ?k_u_law_web) (d_u_law_great_web := mkDef KX G (fun _ _ _ _ _ _ us hl => match us, hl with | [_], _ => rfl) ?a_u_law_great_web ?l_u_law_great_web ?c_u_law_great_web ?k_u_law_great_web) (d_u_law_sums := mkDef KX G (fun _ _ _ _ _ _ us hl => match us, hl with | [_, _], _ => rfl) ?a_u_law_sums ?l_u_law_sums ?c_u_law_sums ?k_u_law_sums) (d_u_law_misses := mkDef KX G (fun _ _ _ _ _ _ us hl => match us, hl with | [_, _], _ => rfl) ?a_u_law_misses ?l_u_law_misses ?c_u_law_misses ?k_u_law_misses) (d_u_law_whole := mkDef KX G (fun _ _ _ _ _ _ us hl => match us, hl with | [_, _, _], _ => rfl) ?a_u_law_whole ?l_u_law_whole ?c_u_law_whole ?k_u_law_whole) (d_u_law_is_choice := mkDef KX G (fun _ _ _ _ _ _ us hl => match us, hl with | [_, _], _ => rfl) ?a_u_law_is_choice ?l_u_law_is_choice ?c_u_law_is_choice ?k_u_law_is_choice) (d_u_law_named_error := mkDef KX G (fun _ _ _ _ _ _ us hl => match us, hl with | [_], _ => rfl) ?a_u_law_named_error ?l_u_law_named_error ?c_u_law_named_error ?k_u_law_named_error) (d_u_law_error := mkDef KX G (fun _ _ _ _ _ _ us hl => match us, hl with | [_], _ => rfl) ?a_u_law_error ?l_u_law_error ?c_u_law_error ?k_u_law_error) (d_u_law_truly := mkDef KX G (fun _ _ _ _ _ _ us hl => match us, hl with | [_, _], _ => rfl) ?a_u_law_truly ?l_u_law_truly ?c_u_law_truly ?k_u_law_truly) (d_u_law_all_refused := mkDef KX G (fun _ _ _ _ _ _ us hl => match us, hl with | [_, _, _], _ => rfl) ?a_u_law_all_refused ?l_u_law_all_refused ?c_u_law_all_refused ?k_u_law_all_refused) (d_u_law_bad_webs := mkDef KX G (fun _ _ _ _ _ _ us hl => match us, hl with | [], _ => rfl) ?a_u_law_bad_webs ?l_u_law_bad_webs ?c_u_law_bad_webs ?k_u_law_bad_webs) (d_u_law_good_web := mkDef KX G (fun _ _ _ _ _ _ us hl => match us, hl with | [_], _ => rfl) ?a_u_law_good_web ?l_u_law_good_web ?c_u_law_good_web ?k_u_law_good_web) (d_u_law_bent := mkDef KX G (fun _ _ _ _ _ _ us hl => match us, hl with | [_, _], _ => rfl) ?a_u_law_bent ?l_u_law_bent ?c_u_law_bent ?k_u_law_bent) (d_u_law_refused := mkDef KX G (fun _ _ _ _ _ _ us hl => match us, hl with | [_], _ => rfl) ?a_u_law_refused ?l_u_law_refused ?c_u_law_refused ?k_u_law_refused) (d_law := mkDef KX G (fun _ _ _ _ _ _ us hl => match us, hl with | [_], _ => rfl) ?a_law ?l_law ?c_law ?k_law) (m_ValueError := mg_none_of KX G ?z_ValueError) (m_all := mg_none_of KX G ?z_all) (m_bool := mg_none_of KX G ?z_bool) (m_int := mg_none_of KX G ?z_int) (m_isinstance := mg_none_of KX G ?z_isinstance) (m_len := mg_none_of KX G ?z_len) (m_list := mg_none_of KX G ?z_list) (m_max := mg_none_of KX G ?z_max) (m_range := mg_none_of KX G ?z_range) (m_str := mg_none_of KX G ?z_str) (m_tuple := mg_none_of KX G ?z_tuple) (m_zip := mg_none_of KX G ?z_zip) (c_PLACES := mkCon KX G ?v_PLACES) (c_TIES := mkCon KX G ?v_TIES) (c_FAR := mkCon KX G ?v_FAR) (x_InvalidWeb := Bt.mkExc (mg_of KX G ?xg_InvalidWeb) ?xq_InvalidWeb ?xk_InvalidWeb ?xs_InvalidWeb ?xt_InvalidWeb) (x_InvalidChoice := Bt.mkExc (mg_of KX G ?xg_InvalidChoice) ?xq_InvalidChoice ?xk_InvalidChoice ?xs_InvalidChoice ?xt_InvalidChoice) (gTie := mg_of KX G ?gTie) (g_InvalidWeb := mg_of KX G ?gn_InvalidWeb) (g_InvalidChoice := mg_of KX G ?gn_InvalidChoice) (g_InvalidLots := mg_of KX G ?gn_InvalidLots) (g_InvalidTie := mg_of KX G ?gn_InvalidTie) (g_InvalidPlace := mg_of KX G ?gn_InvalidPlace) (g_InvalidNumber := mg_of KX G ?gn_InvalidNumber) (g_InvalidPairs := mg_of KX G ?gn_InvalidPairs) (g_InvalidText := mg_of KX G ?gn_InvalidText) (g_Unlike := mg_of KX G ?gn_Unlike) (g_NoChoice := mg_of KX G ?gn_NoChoice) (g_NothingToUndo := mg_of KX G ?gn_NothingToUndo) (g_TooMany := mg_of KX G ?gn_TooMany) (ec_InvalidWeb := ⟨?ea_InvalidWeb, ?eb_InvalidWeb, ?ec_InvalidWeb, ?ed_InvalidWeb, ?ee_InvalidWeb, ?ef_InvalidWeb, ?eg_InvalidWeb, ?eh_InvalidWeb⟩) (exm_InvalidWeb := ?em_InvalidWeb) (kv_InvalidWeb := ?kv_InvalidWeb) (kt_InvalidWeb_InvalidWeb := ?kt_InvalidWeb_InvalidWeb) (kt_InvalidWeb_InvalidChoice := ?kt_InvalidWeb_InvalidChoice) (kt_InvalidWeb_InvalidLots := ?kt_InvalidWeb_InvalidLots) (kt_InvalidWeb_InvalidTie := ?kt_InvalidWeb_InvalidTie) (kt_InvalidWeb_InvalidPlace := ?kt_InvalidWeb_InvalidPlace) (kt_InvalidWeb_InvalidNumber := ?kt_InvalidWeb_InvalidNumber) (kt_InvalidWeb_InvalidPairs := ?kt_InvalidWeb_InvalidPairs) (kt_InvalidWeb_InvalidText := ?kt_InvalidWeb_InvalidText) (kt_InvalidWeb_Unlike := ?kt_InvalidWeb_Unlike) (kt_InvalidWeb_NoChoice := ?kt_InvalidWeb_NoChoice) (kt_InvalidWeb_NothingToUndo := ?kt_InvalidWeb_NothingToUndo) (kt_InvalidWeb_TooMany := ?kt_InvalidWeb_TooMany) (ec_InvalidChoice := ⟨?ea_InvalidChoice, ?eb_InvalidChoice, ?ec_InvalidChoice, ?ed_InvalidChoice, ?ee_InvalidChoice, ?ef_InvalidChoice, ?eg_InvalidChoice, ?eh_InvalidChoice⟩) (exm_InvalidChoice := ?em_InvalidChoice) (kv_InvalidChoice := ?kv_InvalidChoice) (kt_InvalidChoice_InvalidWeb := ?kt_InvalidChoice_InvalidWeb) (kt_InvalidChoice_InvalidChoice := ?kt_InvalidChoice_InvalidChoice) (kt_InvalidChoice_InvalidLots := ?kt_InvalidChoice_InvalidLots) (kt_InvalidChoice_InvalidTie := ?kt_InvalidChoice_InvalidTie) (kt_InvalidChoice_InvalidPlace := ?kt_InvalidChoice_InvalidPlace) (kt_InvalidChoice_InvalidNumber := ?kt_InvalidChoice_InvalidNumber) (kt_InvalidChoice_InvalidPairs := ?kt_InvalidChoice_InvalidPairs) (kt_InvalidChoice_InvalidText := ?kt_InvalidChoice_InvalidText) (kt_InvalidChoice_Unlike := ?kt_InvalidChoice_Unlike) (kt_InvalidChoice_NoChoice := ?kt_InvalidChoice_NoChoice) (kt_InvalidChoice_NothingToUndo := ?kt_InvalidChoice_NothingToUndo) (kt_InvalidChoice_TooMany := ?kt_InvalidChoice_TooMany) (hc_u_law_all_refused := ?hc_u_law_all_refused) (mem_u_law_all_refused := ?mm_u_law_all_refused) (hu_u_law_all_refused := ?hu_u_law_all_refused) (hc_u_law_refused := ?hc_u_law_refused) (mem_u_law_refused := ?mm_u_law_refused) (hu_u_law_refused := ?hu_u_law_refused)
      (case a_is_whole => k_is); (case l_is_whole => k_is); (case c_is_whole => k_is); (case k_is_whole => k_is); (case a_fits_stretch => k_is); (case l_fits_stretch => k_is); (case c_fits_stretch => k_is); (case k_fits_stretch => k_is); (case a_fits_tie => k_is); (case l_fits_tie => k_is); (case c_fits_tie => k_is); (case k_fits_tie => k_is); (case a_fits_web => k_is); (case l_fits_web => k_is); (case c_fits_web => k_is); (case k_fits_web => k_is); (case a_fits_choice => k_is); (case l_fits_choice => k_is); (case c_fits_choice => k_is); (case k_fits_choice => k_is); (case a_need_web => k_is); (case l_need_web => k_is); (case c_need_web => k_is); (case k_need_web => k_is); (case a_need_choice => k_is); (case l_need_choice => k_is); (case c_need_choice => k_is); (case k_need_choice => k_is); (case a_sums_of => k_is); (case l_sums_of => k_is); (case c_sums_of => k_is); (case k_sums_of => k_is); (case a_missing_of => k_is); (case l_missing_of => k_is); (case c_missing_of => k_is); (case k_missing_of => k_is); (case a_is_web => k_is); (case l_is_web => k_is); (case c_is_web => k_is); (case k_is_web => k_is); (case a_is_choice => k_is); (case l_is_choice => k_is); (case c_is_choice => k_is); (case k_is_choice => k_is); (case a_sums => k_is); (case l_sums => k_is); (case c_sums => k_is); (case k_sums => k_is); (case a_fits => k_is); (case l_fits => k_is); (case c_fits => k_is); (case k_fits => k_is); (case a_u_law_cell => k_is); (case l_u_law_cell => k_is); (case c_u_law_cell => k_is); (case k_u_law_cell => k_is); (case a_u_law_draws => k_is); (case l_u_law_draws => k_is); (case c_u_law_draws => k_is); (case k_u_law_draws => k_is); (case a_u_law_bag => k_is); (case l_u_law_bag => k_is); (case c_u_law_bag => k_is); (case k_u_law_bag => k_is); (case a_u_law_take => k_is); (case l_u_law_take => k_is); (case c_u_law_take => k_is); (case k_u_law_take => k_is); (case a_u_law_choice => k_is); (case l_u_law_choice => k_is); (case c_u_law_choice => k_is); (case k_u_law_choice => k_is); (case a_u_law_known => k_is); (case l_u_law_known => k_is); (case c_u_law_known => k_is); (case k_u_law_known => k_is); (case a_u_law_ties => k_is); (case l_u_law_ties => k_is); (case c_u_law_ties => k_is); (case k_u_law_ties => k_is); (case a_u_law_web => k_is); (case l_u_law_web => k_is); (case c_u_law_web => k_is); (case k_u_law_web => k_is); (case a_u_law_great_web => k_is); (case l_u_law_great_web => k_is); (case c_u_law_great_web => k_is); (case k_u_law_great_web => k_is); (case a_u_law_sums => k_is); (case l_u_law_sums => k_is); (case c_u_law_sums => k_is); (case k_u_law_sums => k_is); (case a_u_law_misses => k_is); (case l_u_law_misses => k_is); (case c_u_law_misses => k_is); (case k_u_law_misses => k_is); (case a_u_law_whole => k_is); (case l_u_law_whole => k_is); (case c_u_law_whole => k_is); (case k_u_law_whole => k_is); (case a_u_law_is_choice => k_is); (case l_u_law_is_choice => k_is); (case c_u_law_is_choice => k_is); (case k_u_law_is_choice => k_is); (case a_u_law_named_error => k_is); (case l_u_law_named_error => k_is); (case c_u_law_named_error => k_is); (case k_u_law_named_error => k_is); (case a_u_law_error => k_is); (case l_u_law_error => k_is); (case c_u_law_error => k_is); (case k_u_law_error => k_is); (case a_u_law_truly => k_is); (case l_u_law_truly => k_is); (case c_u_law_truly => k_is); (case k_u_law_truly => k_is); (case a_u_law_all_refused => k_is); (case l_u_law_all_refused => k_is); (case c_u_law_all_refused => k_is); (case k_u_law_all_refused => k_is); (case a_u_law_bad_webs => k_is); (case l_u_law_bad_webs => k_is); (case c_u_law_bad_webs => k_is); (case k_u_law_bad_webs => k_is); (case a_u_law_good_web => k_is); (case l_u_law_good_web => k_is); (case c_u_law_good_web => k_is); (case k_u_law_good_web => k_is); (case a_u_law_bent => k_is); (case l_u_law_bent => k_is); (case c_u_law_bent => k_is); (case k_u_law_bent => k_is); (case a_u_law_refused => k_is); (case l_u_law_refused => k_is); (case c_u_law_refused => k_is); (case k_u_law_refused => k_is); (case a_law => k_is); (case l_law => k_is); (case c_law => k_is); (case k_law => k_is); (case z_ValueError => k_is); (case z_all => k_is); (case z_bool => k_is); (case z_int => k_is); (case z_isinstance => k_is); (case z_len => k_is); (case z_list => k_is); (case z_max => k_is); (case z_range => k_is); (case z_str => k_is); (case z_tuple => k_is); (case z_zip => k_is); (case v_PLACES => k_is); (case v_TIES => k_is); (case v_FAR => k_is); (case xg_InvalidWeb => k_is); (case xq_InvalidWeb => kernel_rfl); (case xk_InvalidWeb => k_is); (case xs_InvalidWeb => k_is); (case xt_InvalidWeb => k_is); (case xg_InvalidChoice => k_is); (case xq_InvalidChoice => kernel_rfl); (case xk_InvalidChoice => k_is); (case xs_InvalidChoice => k_is); (case xt_InvalidChoice => k_is); (case gTie => k_is); (case gn_InvalidWeb => k_is); (case gn_InvalidChoice => k_is); (case gn_InvalidLots => k_is); (case gn_InvalidTie => k_is); (case gn_InvalidPlace => k_is); (case gn_InvalidNumber => k_is); (case gn_InvalidPairs => k_is); (case gn_InvalidText => k_is); (case gn_Unlike => k_is); (case gn_NoChoice => k_is); (case gn_NothingToUndo => k_is); (case gn_TooMany => k_is); (case ea_InvalidWeb => k_is); (case eb_InvalidWeb => k_is); (case ec_InvalidWeb => k_is); (case ed_InvalidWeb => k_is); (case ee_InvalidWeb => k_is); (case ef_InvalidWeb => k_is); (case eg_InvalidWeb => k_is); (case eh_InvalidWeb => k_is); (case em_InvalidWeb => kernel_rfl); (case kv_InvalidWeb => kernel_rfl); (case kt_InvalidWeb_InvalidWeb => kernel_rfl); (case kt_InvalidWeb_InvalidChoice => kernel_rfl); (case kt_InvalidWeb_InvalidLots => kernel_rfl); (case kt_InvalidWeb_InvalidTie => kernel_rfl); (case kt_InvalidWeb_InvalidPlace => kernel_rfl); (case kt_InvalidWeb_InvalidNumber => kernel_rfl); (case kt_InvalidWeb_InvalidPairs => kernel_rfl); (case kt_InvalidWeb_InvalidText => kernel_rfl); (case kt_InvalidWeb_Unlike => kernel_rfl); (case kt_InvalidWeb_NoChoice => kernel_rfl); (case kt_InvalidWeb_NothingToUndo => kernel_rfl); (case kt_InvalidWeb_TooMany => kernel_rfl); (case ea_InvalidChoice => k_is); (case eb_InvalidChoice => k_is); (case ec_InvalidChoice => k_is); (case ed_InvalidChoice => k_is); (case ee_InvalidChoice => k_is); (case ef_InvalidChoice => k_is); (case eg_InvalidChoice => k_is); (case eh_InvalidChoice => k_is); (case em_InvalidChoice => kernel_rfl); (case kv_InvalidChoice => kernel_rfl); (case kt_InvalidChoice_InvalidWeb => kernel_rfl); (case kt_InvalidChoice_InvalidChoice => kernel_rfl); (case kt_InvalidChoice_InvalidLots => kernel_rfl); (case kt_InvalidChoice_InvalidTie => kernel_rfl); (case kt_InvalidChoice_InvalidPlace => kernel_rfl); (case kt_InvalidChoice_InvalidNumber => kernel_rfl); (case kt_InvalidChoice_InvalidPairs => kernel_rfl); (case kt_InvalidChoice_InvalidText => kernel_rfl); (case kt_InvalidChoice_Unlike => kernel_rfl); (case kt_InvalidChoice_NoChoice => kernel_rfl); (case kt_InvalidChoice_NothingToUndo => kernel_rfl); (case kt_InvalidChoice_TooMany => kernel_rfl)
      (case hc_u_law_all_refused => rfl); (case mm_u_law_all_refused => first | exact List.mem_cons_self | exact List.mem_cons_of_mem _ List.mem_cons_self | exact List.mem_cons_of_mem _ (List.mem_cons_of_mem _ List.mem_cons_self) | simp); (case hu_u_law_all_refused => decide +kernel); (case hc_u_law_refused => rfl); (case mm_u_law_refused => first | exact List.mem_cons_self | exact List.mem_cons_of_mem _ List.mem_cons_self | exact List.mem_cons_of_mem _ (List.mem_cons_of_mem _ List.mem_cons_self) | simp); (case hu_u_law_refused => decide +kernel)
    (case ec0 => rfl); (case ep0 => rfl)
    (case ec1 => rfl); (case ep1 => rfl)


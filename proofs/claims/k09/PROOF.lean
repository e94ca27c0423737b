import PyProof.Rows.All
import HandS.Lambda
import HandS.Nested
import HandS.CallLocal
import HandS.ExcOwn
import HandS.ForMost
import HandS.TupAny
import HandS.Deep
import HandS.Zip
import HandS.Walk
import HandS.IsInst
import HandS.NoneIn
import HandS.Flow
import HandS.Wide
import HandS.SortInts
import HandS.CallSlots
import HandS.TupMul
import HandS.TupLe
import HandS.Style
import KE.GoesEnum
import KE.GoesNew
import HandS.WordsExc
import HandS.ExcCtx
import HandS.HotCalls
import HandS.Hot
import PyProof.Draws
import HandS.ExcIs
import HandS.Text
import HandS.Strs
import HandS.SetFor
import HandS.FStr
import HandS.Iter
import PyProof.StrOps2
import PySem.Challenge.RW_betweenties_k09_texts_of_webs
import HandS.EndTab
import KE.KNestM
import KE.KLam
set_option Elab.async false
set_option linter.all false
set_option maxRecDepth 100000
set_option maxHeartbeats 1000000
/-! DLLam: lambdas with parameters, handed to defs among other arguments; the callee runs over a base that holds the lambda and its cells -/
namespace DL
open PySem PySem.Spec PyProof.Rows L2 LamX NdefX

/-! ### a base with more in it -/
theorem sub_base (h : Heap) (p : Addr → Bool) : ∃ G : Heap, G.objs.size = h.objs.size ∧ (∀ b, p b = true → G.get? b = h.get? b) ∧ ∀ b, p b = false → G.get? b = none := by
  let l : List Addr := (List.range h.objs.size).filter fun b => !p b
  have hl : ∀ b, b ∈ l ↔ b < h.objs.size ∧ p b = false := fun b => by simp [l]
  refine ⟨PySem.W.hideAll h l, PySem.W.hideAll_size l h, fun b hb => ?_, fun b hb => ?_⟩
  · have nl : b ∉ l := fun z => by have := ((hl b).mp z).2; rw [hb] at this; cases this
    cases e : h.get? b with
    | some o => exact PySem.W.hideAll_get l e nl
    | none =>
      match q : (PySem.W.hideAll h l).get? b with
      | none => rfl
      | some o => have := PySem.W.of_hideAll l q; rw [e] at this; cases this
  · match q : (PySem.W.hideAll h l).get? b with
    | none => rfl
    | some o =>
      have w := Heap.lt_size (PySem.W.of_hideAll l q)
      rw [PySem.W.hideAll_none l ((hl b).mpr ⟨w, hb⟩)] at q; cases q
/-- base ⊆ base' -/
def Sub (b b' : Heap) : Prop := ∀ a o, b.get? a = some o → b'.get? a = some o
theorem Sub.refl (b : Heap) : Sub b b := fun _ _ h => h
theorem Sub.trans {a b c : Heap} (h : Sub a b) (k : Sub b c) : Sub a c := fun x o e => k x o (h x o e)
theorem mod_sub {K : PySem.W.Frag} {mg : Str → Option Value} {b b' : Heap} (m : Mod K mg b) (h : Sub b b') : Mod K mg b' where
  kin := m.kin.keeps h
  glob := m.glob.keeps h
  blt := let ⟨mb, h1, h2⟩ := m.blt; ⟨mb, h1.keeps h, h2⟩
  nolimit := m.nolimit.keeps h
section
variable {X : Cx} {pins : List (Addr × Obj)} {σ : L2.St} {H : Hp} {s : Shared}
theorem env_more (I : Inv X pins σ H s) (L : List Addr) (hL : ∀ b, b ∈ L → H b = none ∧ b ∉ frs X.stack) :
    ∃ base', Sub X.base base' ∧ (∀ b, b ∈ L → base'.get? b = s.heap.get? b) ∧ Env0 X.prog X.w X.K X.mg base' X.A X.stack s H := by
  obtain ⟨G, g1, g2, g3⟩ := sub_base s.heap fun b => (X.base.get? b).isSome || decide (b ∈ L)
  have sb : Sub X.base G := fun a o e => by
    rw [g2 a (by rw [e]; rfl)]
    exact I.bk a o e
  have e0 := I.env0
  refine ⟨G, sb, fun b hb => g2 b (by simp [hb]), ⟨e0.frames, mod_sub e0.mod sb, fun b o e => ?_, Nat.le_of_eq g1, funFrames_none e0.funs fun a ha => ?_, e0.frf, e0.hok, e0.bare⟩⟩
  · cases hp : ((X.base.get? b).isSome || decide (b ∈ L)) with
    | false => rw [g3 b hp] at e; cases e
    | true =>
      rw [g2 b hp] at e
      refine ⟨e, ?_⟩
      rcases Bool.or_eq_true_iff.mp hp with z | z
      · obtain ⟨o', e'⟩ := Option.isSome_iff_exists.mp z
        exact (I.bs b o' e').2
      · exact (hL b (by simpa using z)).1
  · refine g3 a ?_
    have z := (e0.funs.mem ha).1
    rw [z]
    simp only [Option.isSome_none, Bool.false_or, decide_eq_false_iff_not]
    exact fun m => (hL a m).2 ha
end

/-! ### the lambda among the arguments -/
/-- the object of a lambda that the frame X makes -/
def LamAt (X : Cx) (params : Arguments) (body : Expr) (scope : Scope) (f c' : Addr) (fo : Obj) : Prop :=
  f ∉ frs X.stack ∧ ∃ pm ctv : Value, fo = PySem.W.kla_obj "<lambda>" (X.env.qual ++ "<lambda>") params body scope (cloFrom X.env.cells scope.names []) pm c' ctv
abbrev TX := L2.St → Hp → (Addr → Addr → List V → Hp → Prop) → Prop
structure PX (X : Cx) (params : Arguments) (body : Expr) (scope : Scope) (es : List Expr) (t : TX) : Prop where
  run : ∀ (pos : Pos) (pins : List (Addr × Obj)) (s : Shared) (σ : L2.St) (H : Hp) (Q : Addr → Addr → List V → Hp → Prop), Inv X pins σ H s → t σ H Q →
    wpAny (model X.prog X.w) X.A (spliced (backTo pos (starEach es X.env))) (fun us s' => ∃ f c' fo vs H', Inv X ((f, fo) :: pins) σ H' s' ∧ LamAt X params body scope f c' fo ∧ Vals vs us ∧ Q f c' vs H') X.xe s
section
variable {X : Cx} {params : Arguments} {body : Expr} {scope : Scope} {e : Expr} {es : List Expr}
def tXcons (te : TE) (t : TX) : TX := fun σ H Q => te σ H fun x H1 => t σ H1 fun f c' vs H2 => Q f c' (x :: vs) H2
theorem px_cons {te : TE} {t : TX} (ha : PE X e te) (hr : PX X params body scope es t) (hs : starEach (e :: es) X.env = (false, eval e X.env) :: starEach es X.env := by rfl) : PX X params body scope (e :: es) (tXcons te t) := by
  refine ⟨fun pos pins s σ H Q I h => ?_⟩
  rw [hs]
  change wpAny _ _ (spliced ((false, eval e X.env) :: backTo pos (starEach es X.env))) _ _ s
  refine Calls.spliced_cons (thn (ha.run pins s σ H _ I h) fun u s1 ⟨x, H1, I1, r1, q1⟩ => thn (hr.run pos pins s1 σ H1 _ I1 q1) ?_)
  rintro us s2 ⟨f, c', fo, xs, H2, I2, la, r2, q2⟩
  exact ⟨f, c', fo, x :: xs, H2, I2, la, .cons r1 r2, q2⟩
def tXlam (T : List (Addr × Str)) (q : Str) (t : TA) : TX := fun σ H Q => Tabs T H ∧ ∀ f c' H1, ExtN H H1 → Tabs T H1 → H1 f = none → H1 c' = some (CodeO c' q) → t σ H1 fun vs H2 => Q f c' (.ref f :: vs) H2
theorem px_lam {T : List (Addr × Str)} {c P : Addr} {t : TA} {lpos : Pos} (TB : TabB X.base X.mg c P) (hcode : X.env.code = .ref c) (hmT : (P, X.env.qual ++ "<lambda>") ∈ T) (hu : ∀ p ∈ T, p.1 = P → p.2 = X.env.qual ++ "<lambda>")
    (hfree : ∀ y ∈ scope.names, y.2 = .free → X.env.scope.names.lookup y.1 = some .cell ∨ X.env.scope.names.lookup y.1 = some .free) (hdef : defaultsOf params X.env = ([], []))
    (hr : PA X es t) (hs : starEach (.Lambda params body scope lpos :: es) X.env = (false, eval (.Lambda params body scope lpos) X.env) :: starEach es X.env := by rfl) :
    PX X params body scope (.Lambda params body scope lpos :: es) (tXlam T (X.env.qual ++ "<lambda>") t) := by
  refine ⟨fun pos pins s σ H Q I h => ?_⟩
  obtain ⟨hT, h⟩ := h
  rw [hs]
  change wpAny _ _ (spliced ((false, eval (.Lambda params body scope lpos) X.env) :: backTo pos (starEach es X.env))) _ _ s
  have hf : ∀ y ∈ scope.names, y.2 = .free → ∃ c, X.env.cells.lookup y.1 = some c := fun y hy e =>
    (hfree y hy e).elim (fun z => I.ok.has _ (.inl z)) fun z => I.ok.has _ (.inr z)
  refine Calls.spliced_cons (lam_make2 I TB hcode hmT hu hT hdef hf fun f c' pm ctv H1 s1 I1 eN T1 of fn nf hco => ?_)
  have I2 : Inv X ((f, PySem.W.kla_obj "<lambda>" (X.env.qual ++ "<lambda>") params body scope (cloFrom X.env.cells scope.names []) pm c' ctv) :: pins) σ H1 s1 := by
    refine I1.pins_of fun p hp => ?_
    rcases List.mem_cons.mp hp with rfl | hp
    · refine ⟨of, fn, fun z => ?_, fun z => nf ?_, fun v z => by cases z⟩
      · obtain ⟨m, ⟨o', es, ep, ho, hd, _⟩, _⟩ := I1.loc
        rw [← z, of] at ho
        cases ho
        cases hd
      · rcases I1.ok.stk with e | ⟨e, hfr⟩
        · rw [e]; exact z
        · rw [e]
          unfold frs
          rw [List.filterMap_cons, hfr]
          exact List.mem_cons_of_mem _ z
    · exact I1.pin p (List.mem_append_right _ hp)
  refine thn (hr.run pos _ s1 σ H1 _ I2 (h f c' H1 eN T1 fn hco)) ?_
  rintro us s2 ⟨vs, H2, I3, r, q⟩
  exact ⟨f, c', _, .ref f :: vs, H2, I3, ⟨nf, pm, ctv, rfl⟩, .cons rfl r, q⟩
end

/-! ### the call -/
/-- what the base holds of a lambda -/
structure CloB (base : Heap) (params : Arguments) (body : Expr) (F : NF) (fr : List Str) (f : Addr) (ws : List (Option V)) : Prop where
  obj : ∃ pm ctv : Value, base.get? f = some (PySem.W.kla_obj "<lambda>" F.qual params body F.scope F.cl pm F.c ctv)
  cells : CellsAt F.cl fr ws base fun _ => none
theorem CellsAt.sub {cl : List (Str × Addr)} {fr : List Str} {ws : List (Option V)} {b b' : Heap} {H H' : Hp} (C : CellsAt cl fr ws b H) (h : Sub b b') (hn : ∀ a o, b.get? a = some o → H' a = none) : CellsAt cl fr ws b' H' := by
  have kp : ∀ {c : Addr} {v : Option Value}, b.IsCell c v → b'.IsCell c v := fun {c v} ⟨o, ho, hd⟩ => ⟨o, h _ _ ho, hd⟩
  refine ⟨C.len, fun y c e => ?_, C.inj, fun i y e => ?_⟩
  · obtain ⟨_, v, z⟩ := C.all y c e
    refine ⟨?_, v, kp z⟩
    obtain ⟨o, ho, _⟩ := z
    exact hn _ _ ho
  · obtain ⟨c, hc, hv⟩ := C.has i y e
    refine ⟨c, hc, fun v ev => ?_⟩
    obtain ⟨u, r, z⟩ := hv v ev
    exact ⟨u, r, kp z⟩
theorem CloB.sub {b b' : Heap} {params : Arguments} {body : Expr} {F : NF} {fr : List Str} {f : Addr} {ws : List (Option V)} (C : CloB b params body F fr f ws) (h : Sub b b') : CloB b' params body F fr f ws :=
  ⟨let ⟨pm, ctv, e⟩ := C.obj; ⟨pm, ctv, h _ _ e⟩, CellsAt.sub C.cells h fun _ _ _ => rfl⟩
/-- the words of a lambda that the frame X makes -/
abbrev lamF (X : Cx) (params : Arguments) (scope : Scope) (c' : Addr) : NF := ⟨"<lambda>", X.env.qual ++ "<lambda>", params, [], scope, cloFrom X.env.cells scope.names [], c'⟩
section
variable {X : Cx} {pins : List (Addr × Obj)} {σ : L2.St} {H : Hp} {s : Shared}
theorem env_clo {params : Arguments} {body : Expr} {scope : Scope} {f c' : Addr} {fo : Obj} {fr : List Str} {js : List Nat} (I : Inv X ((f, fo) :: pins) σ H s) (la : LamAt X params body scope f c' fo)
    (cp : Caps X (cloFrom X.env.cells scope.names []) fr js) (hnf : ∀ y c, (cloFrom X.env.cells scope.names []).lookup y = some c → c ∉ frs X.stack) :
    ∃ base', Sub X.base base' ∧ CloB base' params body (lamF X params scope c') fr f (js.map (slotAt σ)) ∧ Env0 X.prog X.w X.K X.mg base' X.A X.stack s H := by
  obtain ⟨nf, pm, ctv, rfl⟩ := la
  obtain ⟨p1, p2, _, _, _⟩ := I.pin (f, _) (List.mem_append_right _ List.mem_cons_self)
  have C := cells_of I cp
  have hm : ∀ y c, (cloFrom X.env.cells scope.names []).lookup y = some c → c ∈ (cloFrom X.env.cells scope.names []).map (·.2) := fun y c e => List.mem_map.mpr ⟨(y, c), PySem.mem_of_lookup e, rfl⟩
  have hm' : ∀ c, c ∈ ((cloFrom X.env.cells scope.names []).map (·.2)).filter (fun c => (cloFrom X.env.cells scope.names []).any fun q => decide ((cloFrom X.env.cells scope.names []).lookup q.1 = some c)) → ∃ y, (cloFrom X.env.cells scope.names []).lookup y = some c := fun c hc => by
    obtain ⟨_, h2⟩ := List.mem_filter.mp hc
    obtain ⟨q, _, hq⟩ := List.any_eq_true.mp h2
    exact ⟨q.1, of_decide_eq_true hq⟩
  obtain ⟨base', sb, hL, e0⟩ := env_more I (f :: ((cloFrom X.env.cells scope.names []).map (·.2)).filter (fun c => (cloFrom X.env.cells scope.names []).any fun q => decide ((cloFrom X.env.cells scope.names []).lookup q.1 = some c))) (fun b hb => by
    rcases List.mem_cons.mp hb with rfl | hb
    · exact ⟨p2, nf⟩
    · obtain ⟨y, hy⟩ := hm' b hb
      exact ⟨(C.all y b hy).1, hnf y b hy⟩)
  have mem : ∀ y c, (cloFrom X.env.cells scope.names []).lookup y = some c → base'.get? c = s.heap.get? c := fun y c e => hL c (List.mem_cons_of_mem _ (List.mem_filter.mpr ⟨hm y c e, List.any_eq_true.mpr ⟨(y, c), PySem.mem_of_lookup e, decide_eq_true e⟩⟩))
  have kp : ∀ y c, (cloFrom X.env.cells scope.names []).lookup y = some c → ∀ v, s.heap.IsCell c v → base'.IsCell c v := fun y c e v ⟨o, ho, hd⟩ => ⟨o, (mem y c e).trans ho, hd⟩
  refine ⟨base', sb, ⟨⟨pm, ctv, (hL f List.mem_cons_self).trans p1⟩, C.len, fun y c e => ⟨rfl, ?_⟩, C.inj, fun i y e => ?_⟩, e0⟩
  · obtain ⟨_, v, z⟩ := C.all y c e
    exact ⟨v, kp y c e v z⟩
  · obtain ⟨c, hc, hv⟩ := C.has i y e
    refine ⟨c, hc, fun v ev => ?_⟩
    obtain ⟨u, r, z⟩ := hv v ev
    exact ⟨u, r, kp y c hc _ z⟩
/-- cells are no frames -/
def CellNf (X : Cx) : Prop := ∀ (pins : List (Addr × Obj)) (σ : L2.St) (H : Hp) (s : Shared), Inv X pins σ H s → ∀ y c, X.env.cells.lookup y = some c → c ∉ frs X.stack
theorem cellNf_of (hfn : ∀ y, X.fn y = true) : CellNf X := fun pins σ H s I y c e hb => by
  rcases List.mem_cons.mp (I.stkSub c hb) with z | z
  · exact I.cne y c e z
  · obtain ⟨_, o, ho, _⟩ := I.ok.funs.mem z
    exact Nat.lt_irrefl _ (Nat.lt_of_lt_of_le (Heap.lt_size ho) (I.ok.cab y c (hfn y) e))
end

/-- x(.., lambda: .., ..) -/
def tCallX (js : List Nat) (sp : Addr → Addr → List (Option V) → Sp) (E : L2.St → XK) (t : TX) : TE := fun σ H Q => t σ H fun f c' vs H1 => sp f c' (js.map (slotAt σ)) vs H1 Q (E σ)
section
variable {X : Cx} {CX : CXT} {k : Nat} {g : Addr} {fd : FuncData} {ps fr : List Str} {js : List Nat} {params : Arguments} {body : Expr} {scope : Scope} {sp : Addr → Addr → List (Option V) → Sp} {E : L2.St → XK} {x : Str} {p pos : Pos} {e : Expr} {es : List Expr} {t : TX}
theorem pe_callX (F : ∀ f c' ws base', Sub X.base base' → Mod X.K X.mg base' → CloB base' params body (lamF X params scope c') fr f ws → FnOk X.prog X.w X.K X.mg base' CX k g fd ps (sp f c' ws)) (hr : Room k X.A) (nf : CellNf X)
    (cp : X.Ok → Caps X (cloFrom X.env.cells scope.names []) fr js) (hg : Gl X x) (hm : X.mg x = some (.ref g)) (hk : PySem.W.keepIn X.K (.ref g) = true) (hb : Binds X.K fd ps []) (hx : ∀ σ, PassesAt CX X σ (E σ))
    (ha : PX X params body scope (e :: es) t) (hdb : (x == ("__debug__" : Str)) = false := by decide) (he : starEach (e :: es) X.env = (false, eval e X.env) :: starEach es X.env := by rfl) (hpl : (backTo pos (starEach es X.env)).any (·.1) = false := by rfl) :
    PE X (.Call (.Name x p) (e :: es) [] pos) (tCallX js sp E t) := by
  refine ⟨fun pins s σ H Q I h => ?_⟩
  refine wpAny_Call_Name_kw (ld_glob I hg hm ?_ hdb)
  refine PySem.W.callWith_K (h₀ := X.base) I.ok.mod.kin hk (thn (ha.run pos pins s σ H _ I h) ?_) he hpl
  rintro us s1 ⟨f, c', fo, vs, H1, I1, la, r, q⟩
  refine ⟨I1.kIn, ?_⟩
  obtain ⟨base', sb, cb, e0⟩ := env_clo I1 la (cp I1.ok) fun y c e => nf _ _ _ _ I1 y c ((cp I1.ok).sub y c e)
  have hF := F f c' _ base' sb e0.mod cb
  have hl : us.length = ps.length := by rw [← r.length]; exact hF.len _ _ _ _ q
  have I0 : Inv X pins σ H1 s1 := I1.pins_of fun p hp => I1.pin p (List.mem_append_right _ (List.mem_cons_of_mem _ hp))
  refine wpAny_call (codeAny_mono (hF.run X.A X.stack s1 H1 ⟨us, []⟩ us vs Q (E σ) hr e0 (by have := hb s1 us I1.kIn (by simpa using hl); simpa using this) r q) fun r2 s' hq => ?_)
  match r2, hq with
  | .error u, hq => exact hx σ pins H1 s1 u s' I0 hq
  | .ok (.ret u), hq => exact I0.after hq
  | .ok .next, hq => exact False.elim hq
  | .ok .brk, hq => exact False.elim hq
  | .ok .cont, hq => exact False.elim hq
end

/-! ### the lambda as a function over a base -/
theorem lam_ok {CX : CXT} {P : Program} {w : World} {K : PySem.W.Frag} {mg : Str → Option Value} {base : Heap} {k : Nat} {params : Arguments} {body : Expr} {F : NF} {N ps fr : List Str} {f : Addr} {ws : List (Option V)} {pm ctv : Value} {sp : Sp}
    (S : NScope N ps fr F.scope) (ob : base.get? f = some (PySem.W.kla_obj "<lambda>" F.qual params body F.scope F.cl pm F.c ctv)) (C : CellsAt F.cl fr ws base fun _ => none) (len : ∀ vs H Q E, sp vs H Q E → vs.length = ps.length)
    (hcode : ∀ vs H Q E, sp vs H Q E → H F.c = some (CodeO F.c F.qual))
    (hbody : ∀ (A : Around) (outer : List Env) (s : Shared) (H : Hp) (vs : List V) (Q : VK) (E : XK), Room k (A.deeper (envF F f s.heap.objs.size)) → sp vs H Q E →
      ∃ t, PE (ncx CX P w K mg base N F f A outer s H E) body t ∧ t (startF N vs ws) H Q) :
    FnOk P w K mg base CX (k + 1) f (PySem.W.kla_fn "<lambda>" F.qual params body F.scope F.cl pm (.ref F.c) ctv) ps sp := by
  refine ⟨len, fun A outer s H args us vs Q E hr e0 hb r hsp => ?_⟩
  have hl := len _ _ _ _ hsp
  have lim : s.heap.NoLimit := e0.mod.nolimit.keeps fun b o e => (e0.bs b o e).1
  have of := (e0.bs _ _ ob).1
  refine PySem.W.kla_callFunE hr.depth of rfl S.co S.gen rfl (codeO_at e0.hok (hcode _ _ _ _ hsp)) ?_
  refine hb _ _ _ _ ?_
  refine wpAny_newFunctionEnv S.nocell (fun y hy => S.par y.1 (List.of_mem_zip hy).1) (fun h₁ hns hsb => ⟨lim.fresh _ hsb, ?_⟩) S.kind
  change codeAny _ _ (.expr body (envF F f s.heap.objs.size)) _ _
  have kp : ∀ b o, s.heap.get? b = some o → h₁.get? b = some o := fun b o e => hsb.extBut b o (Nat.ne_of_lt (Heap.lt_size e)) (Heap.get?_push_of_some _ e)
  obtain ⟨t, ht, hq⟩ := hbody A outer s H vs Q E (hr.deeper _) hsp
  have I : Inv (ncx CX P w K mg base N F f A outer s H E) [] (startF N vs ws) H { s with heap := h₁, toks := s.toks + (ps.zip us).length } :=
    inv_startN S hr.hd e0 hl r (CellsAt.sub C (fun b o e => (e0.bs b o e).1) fun b o e => (e0.bs b o e).2) hns kp
  refine PySem.W.kla_codeExpr (wpAny_mono (ht.run [] _ _ H _ I hq) ?_ fun _ _ hs => hs)
  rintro u s' ⟨v, H', J, rv, q⟩
  exact ⟨v, H', J.os, J.bare, J.base, J.hok, rv, q⟩
/-! ### a name that holds a function of the base, called -/
def tCallB (i : Nat) (f : Addr) (sp : Sp) (E : L2.St → XK) (t : TA) : TE := fun σ H Q => σ[i]? = some (some (.ref f)) ∧ t σ H fun vs H1 => sp vs H1 Q (E σ)
section
variable {X : Cx} {CX : CXT} {k i : Nat} {f : Addr} {fd : FuncData} {oc : Value} {od : Option Addr} {sl : Array (Option Value)} {ps : List Str} {sp : Sp} {E : L2.St → XK} {x : Str} {p pos : Pos} {e : Expr} {es : List Expr} {t : TA}
theorem run_B {pins : List (Addr × Obj)} {σ : L2.St} {H : Hp} {s : Shared} {Q : VK} {us : List Value} {vs : List V} (F : FnOk X.prog X.w X.K X.mg X.base CX k f fd ps sp) (hr : Room k X.A) (hb : ∀ (s : Shared) (us : List Value), X.K.In s.heap → us.length = ps.length → BindsTo s fd ⟨us, []⟩ (ps.zip us)) (hx : ∀ σ, PassesAt CX X σ (E σ))
    (I : Inv X pins σ H s) (r : Vals vs us) (h : sp vs H Q (E σ)) : wpAny (model X.prog X.w) X.A (call (.ref f) us) (EP X pins σ Q) X.xe s := by
  have hl : us.length = ps.length := by rw [← r.length]; exact F.len _ _ _ _ h
  refine wpAny_call (codeAny_mono (F.run X.A X.stack s H ⟨us, []⟩ us vs Q (E σ) hr I.env0 (hb s us I.kIn hl) r h) fun r2 s' hq => ?_)
  match r2, hq with
  | .error u, hq => exact hx σ pins H s u s' I hq
  | .ok (.ret u), hq => exact I.after hq
  | .ok .next, hq => exact False.elim hq
  | .ok .brk, hq => exact False.elim hq
  | .ok .cont, hq => exact False.elim hq
theorem pe_callB1 (F : FnOk X.prog X.w X.K X.mg X.base CX k f fd ps sp) (ob : X.base.get? f = some ⟨oc, od, .func fd, sl⟩) (hr : Room k X.A) (hb : ∀ (s : Shared) (us : List Value), X.K.In s.heap → us.length = ps.length → BindsTo s fd ⟨us, []⟩ (ps.zip us)) (hx : ∀ σ, PassesAt CX X σ (E σ)) (hN : X.N[i]? = some x) (hv : Vis X.env.scope x)
    (ha : PA X (e :: es) t) (hd : (x == ("__debug__" : Str)) = false := by decide) (hcd : (x == ("__classdict__" : Str)) = false := by decide)
    (he : starEach (e :: es) X.env = (false, eval e X.env) :: starEach es X.env := by rfl) (hpl : (backTo pos (starEach es X.env)).any (·.1) = false := by rfl) :
    PE X (.Call (.Name x p) (e :: es) [] pos) (tCallB i f sp E t) := by
  refine ⟨fun pins s σ H Q I h => ?_⟩
  obtain ⟨hs, ht⟩ := h
  refine wpAny_Call_Name_kw (thn ((pe_var (pos := p) hN hv hd hcd).run pins s σ H (fun v H1 => v = .ref f ∧ H1 = H) I ⟨.ref f, hs, rfl, rfl⟩) ?_)
  rintro u s1 ⟨v, H1, I1, r1, rfl, rfl⟩
  cases r1
  refine PySem.W.callWith_F (first := []) ⟨_, _, _, _, I1.bk _ _ ob⟩ (thn (ha.run pos pins s1 σ _ _ I1 ht) ?_) he hpl
  rintro us s2 ⟨vs, H2, I2, r, q⟩
  exact ⟨⟨_, _, _, _, I2.bk _ _ ob⟩, run_B F hr hb hx I2 r q⟩
theorem pe_callB0 (F : FnOk X.prog X.w X.K X.mg X.base CX k f fd ps sp) (ob : X.base.get? f = some ⟨oc, od, .func fd, sl⟩) (hr : Room k X.A) (hb : ∀ (s : Shared) (us : List Value), X.K.In s.heap → us.length = ps.length → BindsTo s fd ⟨us, []⟩ (ps.zip us)) (hx : ∀ σ, PassesAt CX X σ (E σ)) (hN : X.N[i]? = some x) (hv : Vis X.env.scope x)
    (hd : (x == ("__debug__" : Str)) = false := by decide) (hcd : (x == ("__classdict__" : Str)) = false := by decide) :
    PE X (.Call (.Name x p) [] [] pos) (tCallB i f sp E tNil) := by
  refine ⟨fun pins s σ H Q I h => ?_⟩
  obtain ⟨hs, ht⟩ := h
  refine wpAny_Call_Name_kw (thn ((pe_var (pos := p) hN hv hd hcd).run pins s σ H (fun v H1 => v = .ref f ∧ H1 = H) I ⟨.ref f, hs, rfl, rfl⟩) ?_)
  rintro u s1 ⟨v, H1, I1, r1, rfl, rfl⟩
  cases r1
  exact PySem.W.callWith_F0 (first := []) ⟨_, _, _, _, I1.bk _ _ ob⟩ (run_B F hr hb hx I1 .nil ht)
end
end DL

set_option Elab.async false
set_option linter.all false
set_option maxRecDepth 100000
set_option maxHeartbeats 1000000
/-! DLCore: data without addresses, stores of mutable objects, what a value stands for; readings by plain functions -/
namespace DL
open PySem PySem.Spec PyProof.Rows L2

/-- data: fn x a def or class of the module; scr the law's own script -/
inductive D where
  | non | bl (b : Bool) | int (i : Int) | str (s : Str) | tup (ds : List D) | lst (ds : List D) | fn (x : Str) | scr (ns : List Int)
instance : Inhabited D := ⟨.non⟩
/-- a function that was handed on: its address; what was known where it was made -/
structure CTok where
  f : Addr
  G : Hp
  θ : List Addr
/-- what a name holds: data, the n-th mutable object of the store, or a function that was handed on -/
inductive Sl where
  | d (x : D) | ob (n : Nat) | clo (t : CTok)
/-- a mutable object -/
inductive MO where
  | lst (ds : List D) | ins (c : Str) (fs : List (Str × D))
abbrev Store := List MO
abbrev Rho := List (Option Sl)
/-- the tables of code objects: where they stand, the name that they tell -/
class TabCtx where
  T : List (Addr × Str)
variable [TabCtx]

/-- all but the tables of code objects stays -/
def Ext (G G' : Hp) : Prop := ∀ p o, G p = some o → (∀ ps, o ≠ .tbl ps) → G' p = some o
theorem Ext.refl (G : Hp) : Ext G G := fun _ _ h _ => h
theorem Ext.trans {G G1 G2 : Hp} (a : Ext G G1) (b : Ext G1 G2) : Ext G G2 := fun p o h n => b p o (a p o h n) n
theorem Ext.of {G G' : Hp} (h : ∀ p o, G p = some o → G' p = some o) : Ext G G' := fun p o e _ => h p o e
/-- the known places stay -/
def Pre (θ θ' : List Addr) : Prop := ∀ (n : Nat) (a : Addr), θ[n]? = some a → θ'[n]? = some a
theorem Pre.refl (θ : List Addr) : Pre θ θ := fun _ _ h => h
theorem Pre.trans {a b c : List Addr} (h : Pre a b) (k : Pre b c) : Pre a c := fun n x e => k n x (h n x e)
theorem Pre.app (θ t : List Addr) : Pre θ (θ ++ t) := fun n a e => by
  rw [List.getElem?_append_left (List.getElem?_eq_some_iff.mp e).1]; exact e
theorem Pre.nil (θ : List Addr) : Pre [] θ := fun n a e => by simp at e

mutual
inductive Rep (mg : Str → Option Value) (K : PySem.W.Frag) (G : Hp) : D → V → Prop
  | non : Rep mg K G .non .non
  | bl {b} : Rep mg K G (.bl b) (.bl b)
  | int {i} : Rep mg K G (.int i) (.int i)
  | str {s} : Rep mg K G (.str s) (.str s)
  | tup {a xs ds} : G a = some (.tup xs) → RepL mg K G ds xs → Rep mg K G (.tup ds) (.ref a)
  | lst {a xs ds} : G a = some (.lst xs) → RepL mg K G ds xs → Rep mg K G (.lst ds) (.ref a)
  | fn {x a} : mg x = some (.ref a) → Rep mg K G (.fn x) (.ref a)
  | scr {a ns} : SqL K G a (ns.map V.int) → Rep mg K G (.scr ns) (.ref a)
inductive RepL (mg : Str → Option Value) (K : PySem.W.Frag) (G : Hp) : List D → List V → Prop
  | nil : RepL mg K G [] []
  | cons {d v ds vs} : Rep mg K G d v → RepL mg K G ds vs → RepL mg K G (d :: ds) (v :: vs)
end
inductive RepSl (mg : Str → Option Value) (K : PySem.W.Frag) (G : Hp) (θ : List Addr) : Sl → V → Prop
  | d {x v} : Rep mg K G x v → RepSl mg K G θ (.d x) v
  | ob {n a} : θ[n]? = some a → RepSl mg K G θ (.ob n) (.ref a)
  | clo {t : CTok} : Ext t.G G → Pre t.θ θ → RepSl mg K G θ (.clo t) (.ref t.f)
inductive RepA (mg : Str → Option Value) (K : PySem.W.Frag) (G : Hp) (θ : List Addr) : List Sl → List V → Prop
  | nil : RepA mg K G θ [] []
  | cons {d v ds vs} : RepSl mg K G θ d v → RepA mg K G θ ds vs → RepA mg K G θ (d :: ds) (v :: vs)

section
variable {mg : Str → Option Value} {K : PySem.W.Frag} {G G' : Hp} {θ θ' : List Addr}
theorem SqL.ext {a : Addr} {xs : List V} (e : Ext G G') (h : SqL K G a xs) : SqL K G' a xs := by
  rcases h with (h | ⟨o, h⟩) | h
  · exact .inl (.inl (e _ _ h fun ps z => by cases z))
  · exact .inl (.inr ⟨o, e _ _ h fun ps z => by cases z⟩)
  · exact .inr h
mutual
theorem Rep.ext (e : Ext G G') : ∀ {d v}, Rep mg K G d v → Rep mg K G' d v
  | _, _, .non => .non
  | _, _, .bl => .bl
  | _, _, .int => .int
  | _, _, .str => .str
  | _, _, .tup h l => .tup (e _ _ h fun ps z => by cases z) (RepL.ext e l)
  | _, _, .lst h l => .lst (e _ _ h fun ps z => by cases z) (RepL.ext e l)
  | _, _, .fn h => .fn h
  | _, _, .scr h => .scr (SqL.ext e h)
theorem RepL.ext (e : Ext G G') : ∀ {ds vs}, RepL mg K G ds vs → RepL mg K G' ds vs
  | _, _, .nil => .nil
  | _, _, .cons h l => .cons (Rep.ext e h) (RepL.ext e l)
end
theorem RepSl.ext (e : Ext G G') (p : Pre θ θ') : ∀ {s v}, RepSl mg K G θ s v → RepSl mg K G' θ' s v
  | _, _, .d h => .d (h.ext e)
  | _, _, .ob h => .ob (p _ _ h)
  | _, _, .clo h k => .clo (h.trans e) (k.trans p)
theorem RepA.ext (e : Ext G G') (p : Pre θ θ') : ∀ {s v}, RepA mg K G θ s v → RepA mg K G' θ' s v
  | _, _, .nil => .nil
  | _, _, .cons h l => .cons (h.ext e p) (RepA.ext e p l)
theorem RepA.length : ∀ {ds vs}, RepA mg K G θ ds vs → ds.length = vs.length
  | _, _, .nil => rfl
  | _, _, .cons _ l => by simp [RepA.length l]
theorem RepA.get : ∀ {ds vs} (i : Nat) {d}, RepA mg K G θ ds vs → ds[i]? = some d → ∃ v, vs[i]? = some v ∧ RepSl mg K G θ d v
  | _, _, i, d, .nil, e => by simp at e
  | _, _, 0, d, .cons h _, e => by simp at e; subst e; exact ⟨_, by simp, h⟩
  | _, _, i + 1, d, .cons _ l, e => by
    obtain ⟨v, h1, h2⟩ := RepA.get i (d := d) l (by simpa using e)
    exact ⟨v, by simpa using h1, h2⟩
theorem RepL.toA : ∀ {ds vs}, RepL mg K G ds vs → RepA mg K G θ (ds.map Sl.d) vs
  | _, _, .nil => .nil
  | _, _, .cons h l => .cons (.d h) (RepL.toA l)
theorem RepA.toL : ∀ {ds : List D} {vs}, RepA mg K G θ (ds.map Sl.d) vs → RepL mg K G ds vs
  | [], _, .nil => .nil
  | _ :: _, _, .cons (.d h) l => .cons h (RepA.toL l)
theorem RepL.length : ∀ {ds vs}, RepL mg K G ds vs → ds.length = vs.length
  | _, _, .nil => rfl
  | _, _, .cons _ l => by simp [RepL.length l]
theorem RepL.get : ∀ {ds vs} (i : Nat) {d}, RepL mg K G ds vs → ds[i]? = some d → ∃ v, vs[i]? = some v ∧ Rep mg K G d v
  | _, _, i, d, .nil, e => by simp at e
  | _, _, 0, d, .cons h _, e => by simp at e; subst e; exact ⟨_, by simp, h⟩
  | _, _, i + 1, d, .cons _ l, e => by
    obtain ⟨v, h1, h2⟩ := RepL.get i (d := d) l (by simpa using e)
    exact ⟨v, by simpa using h1, h2⟩
theorem RepL.getV : ∀ {ds vs} (i : Nat) {v}, RepL mg K G ds vs → vs[i]? = some v → ∃ d, ds[i]? = some d ∧ Rep mg K G d v
  | _, _, i, d, .nil, e => by simp at e
  | _, _, 0, d, .cons h _, e => by simp at e; subst e; exact ⟨_, by simp, h⟩
  | _, _, i + 1, d, .cons _ l, e => by
    obtain ⟨v, h1, h2⟩ := RepL.getV i (v := d) l (by simpa using e)
    exact ⟨v, by simpa using h1, h2⟩
theorem RepL.append : ∀ {ds vs es ws}, RepL mg K G ds vs → RepL mg K G es ws → RepL mg K G (ds ++ es) (vs ++ ws)
  | _, _, _, _, .nil, h => h
  | _, _, _, _, .cons h l, k => .cons h (RepL.append l k)
theorem RepL.take : ∀ {ds vs} (n : Nat), RepL mg K G ds vs → RepL mg K G (ds.take n) (vs.take n)
  | _, _, 0, _ => .nil
  | _, _, n + 1, .nil => .nil
  | _, _, n + 1, .cons h l => .cons h (RepL.take n l)
theorem RepL.drop : ∀ {ds vs} (n : Nat), RepL mg K G ds vs → RepL mg K G (ds.drop n) (vs.drop n)
  | _, _, 0, h => h
  | _, _, n + 1, .nil => .nil
  | _, _, n + 1, .cons h l => RepL.drop n l
theorem RepL.set {d v} (r : Rep mg K G d v) : ∀ {ds vs} (n : Nat), RepL mg K G ds vs → RepL mg K G (ds.set n d) (vs.set n v)
  | _, _, _, .nil => .nil
  | _, _, 0, .cons h l => .cons r l
  | _, _, n + 1, .cons h l => .cons h (RepL.set r n l)
theorem RepL.eraseIdx : ∀ {ds vs} (n : Nat), RepL mg K G ds vs → RepL mg K G (ds.eraseIdx n) (vs.eraseIdx n)
  | _, _, _, .nil => .nil
  | _, _, 0, .cons h l => l
  | _, _, n + 1, .cons h l => .cons h (RepL.eraseIdx n l)
theorem RepL.rev : ∀ {ds vs}, RepL mg K G ds vs → RepL mg K G ds.reverse vs.reverse
  | _, _, .nil => .nil
  | _, _, .cons h l => by rw [List.reverse_cons, List.reverse_cons]; exact (RepL.rev l).append (.cons h .nil)
theorem RepL.ints : ∀ (ns : List Int), RepL mg K G (ns.map D.int) (ns.map V.int)
  | [] => .nil
  | n :: r => .cons .int (RepL.ints r)
theorem RepL.ints_inv : ∀ {ns : List Int} {vs}, RepL mg K G (ns.map D.int) vs → vs = ns.map V.int
  | [], _, .nil => rfl
  | n :: r, _, .cons .int l => by rw [RepL.ints_inv l]; rfl
end

/-- the heap without the mutable and hidden -/
def hid (H : Hp) (S : List Addr) : Hp := fun p => if p ∈ S then none else H p
theorem hid_in {H : Hp} {S : List Addr} {p : Addr} (h : p ∈ S) : hid H S p = none := by unfold hid; rw [if_pos h]
theorem hid_out {H : Hp} {S : List Addr} {p : Addr} (h : p ∉ S) : hid H S p = H p := by unfold hid; rw [if_neg h]
theorem hid_some {H : Hp} {S : List Addr} {p : Addr} {o : HO} (h : hid H S p = some o) : p ∉ S ∧ H p = some o := by
  unfold hid at h; split at h
  · cases h
  · exact ⟨by assumption, h⟩

/-- an instance's attributes -/
inductive RepF (mg : Str → Option Value) (K : PySem.W.Frag) (G : Hp) : List (Str × D) → List (Str × V) → Prop
  | nil : RepF mg K G [] []
  | cons {f d v fs vs} : Rep mg K G d v → RepF mg K G fs vs → RepF mg K G ((f, d) :: fs) ((f, v) :: vs)
theorem RepF.ext {mg : Str → Option Value} {K : PySem.W.Frag} {G G' : Hp} (e : Ext G G') : ∀ {fs vs}, RepF mg K G fs vs → RepF mg K G' fs vs
  | _, _, .nil => .nil
  | _, _, .cons h l => .cons (h.ext e) (RepF.ext e l)
def MOk (mg : Str → Option Value) (K : PySem.W.Frag) (H G : Hp) (a : Addr) : MO → Prop
  | .lst ds => ∃ xs, H a = some (.lst xs) ∧ RepL mg K G ds xs
  | .ins c fs => ∃ C dx fvs, mg c = some (.ref C) ∧ H a = some (.ins C dx fvs) ∧ RepF mg K G fs fvs
/-- no table, no other thing -/
def Plain (o : HO) : Prop := (∀ ps, o ≠ .tbl ps) ∧ ∀ φ, o ≠ .ext φ
theorem plain_lst {xs : List V} : Plain (.lst xs) := ⟨(fun _ z => by cases z), (fun _ z => by cases z)⟩
theorem plain_tup {xs : List V} : Plain (.tup xs) := ⟨(fun _ z => by cases z), (fun _ z => by cases z)⟩
theorem plain_ins {C dx : Addr} {fs : List (Str × V)} : Plain (.ins C dx fs) := ⟨(fun _ z => by cases z), (fun _ z => by cases z)⟩
theorem tabs_at {T : List (Addr × Str)} {H H' : Hp} {a : Addr} (t : LamX.Tabs T H) (h : ∀ u, H a = some u → Plain u) (e : ∀ b, b ≠ a → H' b = H b) : LamX.Tabs T H' := fun p hp => by
  obtain ⟨ps, h1, h2, h3⟩ := t p hp
  have n1 : p.1 ≠ a := fun z => (h _ (by rw [← z]; exact h1)).1 ps rfl
  refine ⟨ps, by rw [e _ n1]; exact h1, h2, fun pos cv hc => ?_⟩
  obtain ⟨c, e1, e2⟩ := h3 pos cv hc
  exact ⟨c, e1, by rw [e _ fun z => (h _ (by rw [← z]; exact e2)).2 _ rfl]; exact e2⟩
theorem tabs_set {T : List (Addr × Str)} {H : Hp} {a : Addr} {o : HO} (t : LamX.Tabs T H) (h : ∀ u, H a = some u → Plain u) : LamX.Tabs T (upd H a o) := tabs_at t h fun b hb => upd_ne hb
theorem tabs_new {T : List (Addr × Str)} {H : Hp} {a : Addr} {o : HO} (t : LamX.Tabs T H) (h : H a = none) : LamX.Tabs T (upd H a o) := tabs_set t fun u e => by rw [h] at e; cases e
structure StOk (mg : Str → Option Value) (K : PySem.W.Frag) (η : List Addr) (H : Hp) (θ : List Addr) (μ : Store) : Prop where
  dom : ∀ p ∈ η, H p ≠ none
  len : θ.length = μ.length
  nd : θ.Nodup
  dj : ∀ p ∈ θ, p ∉ η
  at_ : ∀ (n : Nat) (a : Addr) (o : MO), θ[n]? = some a → μ[n]? = some o → MOk mg K H (hid H (θ ++ η)) a o
  tab : LamX.Tabs TabCtx.T H
  pl : ∀ p ∈ η, ∀ o, H p = some o → Plain o
section
variable {mg : Str → Option Value} {K : PySem.W.Frag} {η : List Addr} {H H1 H2 H' : Hp} {θ θ1 θ2 θ' : List Addr} {μ μ1 μ2 μ' : Store}
theorem MOk.ne {G : Hp} {a : Addr} {o : MO} (h : MOk mg K H G a o) : H a ≠ none := by
  cases o with
  | lst ds => obtain ⟨xs, e, _⟩ := h; rw [e]; simp
  | ins c fs => obtain ⟨C, dx, fvs, _, e, _⟩ := h; rw [e]; simp
theorem MOk.pl {G : Hp} {a : Addr} {o : MO} (h : MOk mg K H G a o) : ∀ u, H a = some u → Plain u := fun u e => by
  cases o with
  | lst ds => obtain ⟨xs, e1, _⟩ := h; rw [e] at e1; cases e1; exact plain_lst
  | ins c fs => obtain ⟨C, dx, fvs, _, e1, _⟩ := h; rw [e] at e1; cases e1; exact plain_ins
theorem MOk.ext {G G' : Hp} {a : Addr} {o : MO} (h : MOk mg K H G a o) (e : Ext G G') (k : H' a = H a) : MOk mg K H' G' a o := by
  cases o with
  | lst ds => obtain ⟨xs, e1, r⟩ := h; exact ⟨xs, by rw [k]; exact e1, r.ext e⟩
  | ins c fs => obtain ⟨C, dx, fvs, m, e1, r⟩ := h; exact ⟨C, dx, fvs, m, by rw [k]; exact e1, r.ext e⟩
theorem StOk.tracked (s : StOk mg K η H θ μ) {a : Addr} (h : a ∈ θ) : H a ≠ none := by
  obtain ⟨n, hn, e⟩ := List.getElem_of_mem h
  have h1 : θ[n]? = some a := by rw [List.getElem?_eq_getElem hn, e]
  have hl : n < μ.length := by rw [← s.len]; exact hn
  exact (s.at_ n a _ h1 (List.getElem?_eq_getElem hl)).ne
theorem StOk.plain (s : StOk mg K η H θ μ) {a : Addr} (h : a ∈ θ ++ η) : ∀ u, H a = some u → Plain u := by
  rcases List.mem_append.mp h with h | h
  · obtain ⟨n, hn, e⟩ := List.getElem_of_mem h
    have h1 : θ[n]? = some a := by rw [List.getElem?_eq_getElem hn, e]
    have hl : n < μ.length := by rw [← s.len]; exact hn
    exact (s.at_ n a _ h1 (List.getElem?_eq_getElem hl)).pl
  · exact s.pl a h
theorem StOk.fresh (s : StOk mg K η H θ μ) {p : Addr} (h : H p = none) : p ∉ θ ++ η := fun m => by
  rcases List.mem_append.mp m with m | m
  · exact s.tracked m h
  · exact s.dom p m h
theorem StOk.fresh1 (s : StOk mg K η H θ μ) {p : Addr} (h : H p = none) : p ∉ θ := fun m => s.fresh h (List.mem_append_left _ m)
theorem StOk.fresh2 (s : StOk mg K η H θ μ) {p : Addr} (h : H p = none) : p ∉ η := fun m => s.fresh h (List.mem_append_right _ m)
theorem StOk.lookup (s : StOk mg K η H θ μ) {n : Nat} {a : Addr} (h : θ[n]? = some a) : ∃ o, μ[n]? = some o ∧ MOk mg K H (hid H (θ ++ η)) a o := by
  have hl : n < μ.length := by rw [← s.len]; exact (List.getElem?_eq_some_iff.mp h).1
  exact ⟨_, List.getElem?_eq_getElem hl, s.at_ n a _ h (List.getElem?_eq_getElem hl)⟩

structure Step (mg : Str → Option Value) (K : PySem.W.Frag) (η : List Addr) (H : Hp) (θ : List Addr) (H' : Hp) (θ' : List Addr) (μ' : Store) : Prop where
  ext : Ext (hid H (θ ++ η)) (hid H' (θ' ++ η))
  pre : Pre θ θ'
  fix : ∀ p ∈ η, H' p = H p
  ok : StOk mg K η H' θ' μ'
theorem Step.refl (s : StOk mg K η H θ μ) : Step mg K η H θ H θ μ := ⟨Ext.refl _, Pre.refl _, fun _ _ => rfl, s⟩
theorem Step.trans (a : Step mg K η H θ H1 θ1 μ1) (b : Step mg K η H1 θ1 H2 θ2 μ2) : Step mg K η H θ H2 θ2 μ2 :=
  ⟨a.ext.trans b.ext, a.pre.trans b.pre, fun p h => (b.fix p h).trans (a.fix p h), b.ok⟩
/-- a new object that is not the store's -/
theorem StOk.new (s : StOk mg K η H θ μ) {p : Addr} {o : HO} (h : H p = none) : Step mg K η H θ (upd H p o) θ μ := by
  have e : Ext (hid H (θ ++ η)) (hid (upd H p o) (θ ++ η)) := Ext.of fun b u q => by
    obtain ⟨q1, q2⟩ := hid_some q
    rw [hid_out q1, upd_ne (ne_of_none q2 h)]; exact q2
  have ne : ∀ b, H b ≠ none → b ≠ p := fun b q z => by rw [z] at q; exact q h
  refine ⟨e, Pre.refl _, fun b q => upd_ne (ne b (s.dom b q)), ⟨fun b q => by rw [upd_ne (ne b (s.dom b q))]; exact s.dom b q, s.len, s.nd, s.dj, fun n a o' h1 h2 => ?_, ?_, ?_⟩⟩
  · exact (s.at_ n a o' h1 h2).ext e (upd_ne (ne a (s.tracked (List.mem_of_getElem? h1))))
  · exact tabs_new s.tab h
  · exact fun b q u e1 => s.pl b q u (by rw [← e1, upd_ne (ne b (s.dom b q))])
/-- a new object of the store -/
theorem StOk.newOb (s : StOk mg K η H θ μ) {p : Addr} {o : HO} {m : MO} (h : H p = none) (hm : ∀ G', Ext (hid H (θ ++ η)) G' → MOk mg K (upd H p o) G' p m) : Step mg K η H θ (upd H p o) (θ ++ [p]) (μ ++ [m]) := by
  have ne : ∀ b, H b ≠ none → b ≠ p := fun b q z => by rw [z] at q; exact q h
  have e : Ext (hid H (θ ++ η)) (hid (upd H p o) ((θ ++ [p]) ++ η)) := Ext.of fun b u q => by
    obtain ⟨q1, q2⟩ := hid_some q
    have nb := ne_of_none q2 h
    rw [hid_out (fun z => ?_), upd_ne nb]
    · exact q2
    · rcases List.mem_append.mp z with z | z
      · rcases List.mem_append.mp z with z | z
        · exact q1 (List.mem_append_left _ z)
        · exact nb (by simpa using z)
      · exact q1 (List.mem_append_right _ z)
  refine ⟨e, Pre.app _ _, fun b q => upd_ne (ne b (s.dom b q)), ⟨fun b q => by rw [upd_ne (ne b (s.dom b q))]; exact s.dom b q, by simp [s.len], ?_, ?_, fun n a o' h1 h2 => ?_, tabs_new s.tab h, fun b q u e1 => s.pl b q u (by rw [← e1, upd_ne (ne b (s.dom b q))])⟩⟩
  · refine List.nodup_append.mpr ⟨s.nd, by simp, fun a ha b hb => ?_⟩
    have : b = p := by simpa using hb
    subst this
    exact ne a (s.tracked ha)
  · intro b hb
    rcases List.mem_append.mp hb with hb | hb
    · exact s.dj b hb
    · have : b = p := by simpa using hb
      subst this
      exact s.fresh2 h
  · by_cases hn : n < θ.length
    · rw [List.getElem?_append_left hn] at h1
      rw [List.getElem?_append_left (by rw [← s.len]; exact hn)] at h2
      exact (s.at_ n a o' h1 h2).ext e (upd_ne (ne a (s.tracked (List.mem_of_getElem? h1))))
    · have hn' : n = θ.length := by
        have := (List.getElem?_eq_some_iff.mp h1).1
        simp at this; omega
      subst hn'
      have h1' : p = a := by simpa using h1
      have h2' : m = o' := by
        rw [s.len] at h2
        simpa using h2
      subst h1' h2'
      exact hm _ e
/-- an object of the store changes -/
theorem StOk.setOb (s : StOk mg K η H θ μ) {n : Nat} {a : Addr} {o : HO} {m : MO} (h : θ[n]? = some a) (hm : MOk mg K (upd H a o) (hid H (θ ++ η)) a m) : Step mg K η H θ (upd H a o) θ (μ.set n m) := by
  have ha : a ∈ θ := List.mem_of_getElem? h
  have e : hid (upd H a o) (θ ++ η) = hid H (θ ++ η) := by
    funext b
    by_cases hb : b ∈ θ ++ η
    · rw [hid_in hb, hid_in hb]
    · rw [hid_out hb, hid_out hb, upd_ne (fun z => hb (by rw [z]; exact List.mem_append_left _ ha))]
  have neη : ∀ b ∈ η, b ≠ a := fun b q z => s.dj a ha (by rw [← z]; exact q)
  refine ⟨by rw [e]; exact Ext.refl _, Pre.refl _, fun b q => upd_ne (neη b q), ⟨fun b q => by rw [upd_ne (neη b q)]; exact s.dom b q, by simp [s.len], s.nd, s.dj, fun k b o' h1 h2 => ?_, tabs_set s.tab (s.plain (List.mem_append_left _ ha)), fun b q u e1 => s.pl b q u (by rw [← e1, upd_ne (neη b q)])⟩⟩
  rw [e]
  by_cases hk : k = n
  · subst hk
    rw [h] at h1; cases h1
    have hl : k < μ.length := by rw [← s.len]; exact (List.getElem?_eq_some_iff.mp h).1
    rw [List.getElem?_set_self hl] at h2
    cases h2
    exact hm
  · rw [List.getElem?_set_ne (Ne.symm hk)] at h2
    have hba : b ≠ a := fun z => by
      subst z
      obtain ⟨i1, e1⟩ := List.getElem?_eq_some_iff.mp h1
      obtain ⟨i2, e2⟩ := List.getElem?_eq_some_iff.mp h
      exact hk ((List.getElem_inj s.nd).mp (e1.trans e2.symm))
    exact (s.at_ k b o' h1 h2).ext (Ext.refl _) (upd_ne hba)
end

/-! ### what a piece of code does, as a plain function -/
/-- an exception: its class, its attributes (none: no dict of its own) -/
structure Exn where
  cls : Str
  fs : Option (List (Str × D))
inductive Res (α : Type) where
  | ok (a : α) (μ : Store) | ex (x : Exn) (μ : Store) | no
def Res.bind {α β : Type} : Res α → (α → Store → Res β) → Res β
  | .ok a μ, g => g a μ
  | .ex x μ, _ => .ex x μ
  | .no, _ => .no
inductive Out where
  | nx (ρ : Rho) (μ : Store) | rt (d : Sl) (μ : Store) | bk (ρ : Rho) (μ : Store) | ct (ρ : Rho) (μ : Store) | ex (x : Exn) (ρ : Rho) (μ : Store) | no
abbrev EF := Rho → Store → Res Sl
abbrev BF := Rho → Store → Res Bool
abbrev AF := Rho → Store → Res (List Sl)
abbrev SF := Rho → Store → Out
def ofO {α : Type} (o : Option α) (μ : Store) : Res α := match o with
  | some a => .ok a μ
  | none => .no
/-- an expression's result goes on into a statement's -/
def Res.toOut {α : Type} (ρ : Rho) : Res α → (α → Store → Out) → Out
  | .ok a μ, g => g a μ
  | .ex x μ, _ => .ex x ρ μ
  | .no, _ => .no

section
variable (mg : Str → Option Value) (K : PySem.W.Frag)
structure RepS (G : Hp) (θ : List Addr) (ρ : Rho) (σ : L2.St) : Prop where
  len : ρ.length = σ.length
  at_ : ∀ (i : Nat) (d : Sl), ρ[i]? = some (some d) → ∃ v, σ[i]? = some (some v) ∧ RepSl mg K G θ d v
def XRep (H G : Hp) (x : Exn) (cv : Value) (dd : Option Addr) : Prop := ∃ C, mg x.cls = some (.ref C) ∧ cv = .ref C ∧
  match x.fs with
  | none => dd = none
  | some fs => ∃ d fvs, dd = some d ∧ H d = some (.xd fvs) ∧ RepF mg K G fs fvs
abbrev WXD := Value → Option Addr → L2.St → Hp → Prop
def Fin {α β : Type} (E : XK) (η : List Addr) (H : Hp) (θ : List Addr) (R : Hp → List Addr → α → β → Prop) (r : Res α) (Q : β → Hp → Prop) : Prop :=
  match r with
  | .ok a μ' => ∀ v H' θ', Step mg K η H θ H' θ' μ' → R (hid H' (θ' ++ η)) θ' a v → Q v H'
  | .ex x μ' => ∀ cv dd H' θ', Step mg K η H θ H' θ' μ' → XRep mg K H' (hid H' (θ' ++ η)) x cv dd → E cv dd H'
  | .no => False
def FinS (W : WXD) (η : List Addr) (H : Hp) (θ : List Addr) (r : Out) (Dn : Ends) : Prop :=
  match r with
  | .nx ρ' μ' => ∀ σ' H' θ', Step mg K η H θ H' θ' μ' → RepS mg K (hid H' (θ' ++ η)) θ' ρ' σ' → Dn.nx σ' H'
  | .rt d μ' => ∀ v H' θ', Step mg K η H θ H' θ' μ' → RepSl mg K (hid H' (θ' ++ η)) θ' d v → Dn.rt v H'
  | .bk ρ' μ' => ∀ σ' H' θ', Step mg K η H θ H' θ' μ' → RepS mg K (hid H' (θ' ++ η)) θ' ρ' σ' → Dn.bk σ' H'
  | .ct ρ' μ' => ∀ σ' H' θ', Step mg K η H θ H' θ' μ' → RepS mg K (hid H' (θ' ++ η)) θ' ρ' σ' → Dn.ct σ' H'
  | .ex x ρ' μ' => ∀ cv dd σ' H' θ', Step mg K η H θ H' θ' μ' → RepS mg K (hid H' (θ' ++ η)) θ' ρ' σ' → XRep mg K H' (hid H' (θ' ++ η)) x cv dd → W cv dd σ' H'
  | .no => False
def tD (W : WXD) (f : EF) : TE := fun σ H Q => ∃ η θ μ ρ, StOk mg K η H θ μ ∧ RepS mg K (hid H (θ ++ η)) θ ρ σ ∧ Fin mg K (fun c d => W c d σ) η H θ (RepSl mg K) (f ρ μ) Q
def tBD (W : WXD) (f : BF) : TT := fun σ H Q => ∃ η θ μ ρ, StOk mg K η H θ μ ∧ RepS mg K (hid H (θ ++ η)) θ ρ σ ∧ Fin mg K (fun c d => W c d σ) η H θ (fun _ _ a b => a = b) (f ρ μ) Q
def tAD (W : WXD) (f : AF) : TA := fun σ H Q => ∃ η θ μ ρ, StOk mg K η H θ μ ∧ RepS mg K (hid H (θ ++ η)) θ ρ σ ∧ Fin mg K (fun c d => W c d σ) η H θ (RepA mg K) (f ρ μ) Q
def tSD (W : WXD) (f : SF) : TS := fun Dn σ H => ∃ η θ μ ρ, StOk mg K η H θ μ ∧ RepS mg K (hid H (θ ++ η)) θ ρ σ ∧ FinS mg K W η H θ (f ρ μ) Dn
end
section
variable {mg : Str → Option Value} {K : PySem.W.Frag} {η : List Addr} {H H1 H2 H' : Hp} {θ θ1 θ2 θ' : List Addr} {μ μ1 μ2 μ' : Store} {E : XK} {W : WXD} {α β γ δ : Type}
theorem RepS.ext {G G' : Hp} {ρ : Rho} {σ : L2.St} (h : RepS mg K G θ ρ σ) (e : Ext G G') (p : Pre θ θ') : RepS mg K G' θ' ρ σ :=
  ⟨h.len, fun i d q => let ⟨v, h1, h2⟩ := h.at_ i d q; ⟨v, h1, h2.ext e p⟩⟩
theorem RepS.step {ρ : Rho} {σ : L2.St} (h : RepS mg K (hid H (θ ++ η)) θ ρ σ) (st : Step mg K η H θ H1 θ1 μ1) : RepS mg K (hid H1 (θ1 ++ η)) θ1 ρ σ := h.ext st.ext st.pre
theorem Rep.step {d : D} {v : V} (h : Rep mg K (hid H (θ ++ η)) d v) (st : Step mg K η H θ H1 θ1 μ1) : Rep mg K (hid H1 (θ1 ++ η)) d v := h.ext st.ext
theorem RepL.step {d : List D} {v : List V} (h : RepL mg K (hid H (θ ++ η)) d v) (st : Step mg K η H θ H1 θ1 μ1) : RepL mg K (hid H1 (θ1 ++ η)) d v := h.ext st.ext
theorem RepSl.step {d : Sl} {v : V} (h : RepSl mg K (hid H (θ ++ η)) θ d v) (st : Step mg K η H θ H1 θ1 μ1) : RepSl mg K (hid H1 (θ1 ++ η)) θ1 d v := h.ext st.ext st.pre
theorem RepA.step {d : List Sl} {v : List V} (h : RepA mg K (hid H (θ ++ η)) θ d v) (st : Step mg K η H θ H1 θ1 μ1) : RepA mg K (hid H1 (θ1 ++ η)) θ1 d v := h.ext st.ext st.pre
theorem RepS.set {G : Hp} {ρ : Rho} {σ : L2.St} {i : Nat} {d : Sl} {v : V} (h : RepS mg K G θ ρ σ) (r : RepSl mg K G θ d v) : RepS mg K G θ (ρ.set i (some d)) (σ.set i (some v)) := by
  refine ⟨by simp [h.len], fun j e q => ?_⟩
  by_cases hj : j = i
  · subst hj
    have hl : j < ρ.length := by
      have := (List.getElem?_eq_some_iff.mp q).1
      simpa using this
    rw [List.getElem?_set_self hl] at q
    cases q
    exact ⟨v, by rw [List.getElem?_set_self (by rw [← h.len]; exact hl)], r⟩
  · rw [List.getElem?_set_ne (Ne.symm hj)] at q ⊢
    exact h.at_ j e q
theorem Fin.rebase {R : Hp → List Addr → α → β → Prop} {r : Res α} {Q : β → Hp → Prop} (st : Step mg K η H θ H1 θ1 μ1) (h : Fin mg K E η H θ R r Q) : Fin mg K E η H1 θ1 R r Q := by
  cases r with
  | ok a μ' => exact fun v H' θ' s2 rr => h v H' θ' (st.trans s2) rr
  | ex x μ' => exact fun cv dd H' θ' s2 rr => h cv dd H' θ' (st.trans s2) rr
  | no => exact h
theorem FinS.rebase {r : Out} {Dn : Ends} (st : Step mg K η H θ H1 θ1 μ1) (h : FinS mg K W η H θ r Dn) : FinS mg K W η H1 θ1 r Dn := by
  cases r with
  | nx a μ' => exact fun v H' θ' s2 rr => h v H' θ' (st.trans s2) rr
  | rt a μ' => exact fun v H' θ' s2 rr => h v H' θ' (st.trans s2) rr
  | bk a μ' => exact fun v H' θ' s2 rr => h v H' θ' (st.trans s2) rr
  | ct a μ' => exact fun v H' θ' s2 rr => h v H' θ' (st.trans s2) rr
  | ex x ρ' μ' => exact fun cv dd σ' H' θ' s2 rr => h cv dd σ' H' θ' (st.trans s2) rr
  | no => exact h
/-- an answer now -/
theorem Fin.done {R : Hp → List Addr → α → β → Prop} {a : α} {v : β} {Q : β → Hp → Prop} (h : Fin mg K E η H θ R (.ok a μ') Q) (st : Step mg K η H θ H' θ' μ') (r : R (hid H' (θ' ++ η)) θ' a v) : Q v H' := h v H' θ' st r
/-- one thing, and then another -/
theorem Fin.andThen {R : Hp → List Addr → α → β → Prop} {R' : Hp → List Addr → γ → δ → Prop} {r : Res α} {g : α → Store → Res γ} {Q : δ → Hp → Prop} {Q' : β → Hp → Prop}
    (h : Fin mg K E η H θ R' (r.bind g) Q)
    (k : ∀ a μ1 v H1 θ1, r = .ok a μ1 → Step mg K η H θ H1 θ1 μ1 → R (hid H1 (θ1 ++ η)) θ1 a v → Fin mg K E η H1 θ1 R' (g a μ1) Q → Q' v H1) : Fin mg K E η H θ R r Q' := by
  cases r with
  | ok a μ' => exact fun v H' θ' st rr => k a μ' v H' θ' rfl st rr (Fin.rebase st h)
  | ex x μ' => exact h
  | no => exact h
theorem Fin.andThenS {R : Hp → List Addr → α → β → Prop} {r : Res α} {ρ : Rho} {σ : L2.St} {g : α → Store → Out} {Dn : Ends} {Q' : β → Hp → Prop}
    (h : FinS mg K W η H θ (r.toOut ρ g) Dn) (rs : RepS mg K (hid H (θ ++ η)) θ ρ σ)
    (k : ∀ a μ1 v H1 θ1, r = .ok a μ1 → Step mg K η H θ H1 θ1 μ1 → R (hid H1 (θ1 ++ η)) θ1 a v → FinS mg K W η H1 θ1 (g a μ1) Dn → Q' v H1) : Fin mg K (fun c d => W c d σ) η H θ R r Q' := by
  cases r with
  | ok a μ' => exact fun v H' θ' st rr => k a μ' v H' θ' rfl st rr (FinS.rebase st h)
  | ex x μ' => exact fun cv dd H' θ' st rr => h cv dd σ H' θ' st (rs.step st) rr
  | no => exact h
theorem Fin.mono {R : Hp → List Addr → α → β → Prop} {r : Res α} {Q Q' : β → Hp → Prop} (h : Fin mg K E η H θ R r Q) (k : ∀ v H', Q v H' → Q' v H') : Fin mg K E η H θ R r Q' := by
  cases r with
  | ok a μ' => exact fun v H' θ' st rr => k v H' (h v H' θ' st rr)
  | ex x μ' => exact h
  | no => exact h
end

/-! ### the judgements -/
section
variable (X : Cx) (W : WXD)
def PEd (e : Expr) (f : EF) : Prop := PE X e (tD X.mg X.K W f)
def PBd (e : Expr) (f : BF) : Prop := PT X e (tBD X.mg X.K W f)
def PWd (e : Expr) (f : BF) : Prop := PW X e (tBD X.mg X.K W f)
def PAd (es : List Expr) (f : AF) : Prop := PA X es (tAD X.mg X.K W f)
def PSd (st : Stmt) (f : SF) : Prop := PS X st (tSD X.mg X.K W f)
def PSsd (st : List Stmt) (f : SF) : Prop := PSs X st (tSD X.mg X.K W f)
end
section
variable {X : Cx}
theorem PE.imp {e : Expr} {t t' : TE} (h : PE X e t) (k : ∀ σ H Q, t' σ H Q → t σ H Q) : PE X e t' := ⟨fun pins s σ H Q I q => h.run pins s σ H Q I (k σ H Q q)⟩
theorem PT.imp {e : Expr} {t t' : TT} (h : PT X e t) (k : ∀ σ H Q, t' σ H Q → t σ H Q) : PT X e t' := ⟨fun pins s σ H Q I q => h.run pins s σ H Q I (k σ H Q q)⟩
theorem PW.imp {e : Expr} {t t' : TT} (h : PW X e t) (k : ∀ σ H Q, t' σ H Q → t σ H Q) : PW X e t' := ⟨fun whole pins s σ H Q I q => h.run whole pins s σ H Q I (k σ H Q q)⟩
theorem PA.imp {es : List Expr} {t t' : TA} (h : PA X es t) (k : ∀ σ H Q, t' σ H Q → t σ H Q) : PA X es t' := ⟨fun pos pins s σ H Q I q => h.run pos pins s σ H Q I (k σ H Q q)⟩
theorem PS.imp {st : Stmt} {t t' : TS} (h : PS X st t) (k : ∀ Dn σ H, t' Dn σ H → t Dn σ H) : PS X st t' := ⟨fun pins s σ H Dn I q => h.run pins s σ H Dn I (k Dn σ H q)⟩
theorem PSs.imp {st : List Stmt} {t t' : TS} (h : PSs X st t) (k : ∀ Dn σ H, t' Dn σ H → t Dn σ H) : PSs X st t' := ⟨fun pins s σ H Dn I q => h.run pins s σ H Dn I (k Dn σ H q)⟩
end
end DL

set_option Elab.async false
set_option linter.all false
set_option maxRecDepth 100000
set_option maxHeartbeats 1000000
/-! DLOps: operators and built-in calls on data -/
namespace DL
open PySem PySem.Spec PyProof.Rows L2
variable [TabCtx]

/-! ### data compared -/
mutual
def D.beq : D → D → Bool
  | .non, .non => true
  | .bl a, .bl b => a == b
  | .bl a, .int j => (if a then 1 else 0) == j
  | .int i, .bl b => i == (if b then 1 else 0)
  | .int i, .int j => i == j
  | .str x, .str y => x == y
  | .tup xs, .tup ys => beqL xs ys
  | .lst xs, .lst ys => beqL xs ys
  | _, _ => false
def beqL : List D → List D → Bool
  | [], [] => true
  | x :: xs, y :: ys => D.beq x y && beqL xs ys
  | _, _ => false
end
mutual
def D.toPy : D → PyData
  | .non => .none
  | .bl b => .bool b
  | .int i => .int i
  | .str s => .str s
  | .tup ds => .tuple (toPyL ds)
  | .lst ds => .list (toPyL ds)
  | .fn _ => .none
  | .scr _ => .none
def toPyL : List D → List PyData
  | [] => []
  | d :: r => d.toPy :: toPyL r
end
mutual
/-- may be compared: texts of true signs; no defs, at most so deep -/
def D.cmpOk : D → Bool
  | .str s => PySem.PyData.strOk s
  | .tup ds => cmpOkL ds
  | .lst ds => cmpOkL ds
  | .fn _ => false
  | .scr _ => false
  | _ => true
def cmpOkL : List D → Bool
  | [] => true
  | d :: r => d.cmpOk && cmpOkL r
end
mutual
def D.deep : D → Nat
  | .tup ds => deepL ds + 1
  | .lst ds => deepL ds + 1
  | _ => 0
def deepL : List D → Nat
  | [] => 0
  | d :: r => max d.deep (deepL r)
end
def D.flat : D → Bool
  | .non => true | .bl _ => true | .int _ => true | .str _ => true | _ => false
mutual
theorem toPy_deep : ∀ d : D, d.toPy.depth = d.deep
  | .non => by simp [D.toPy, D.deep, PyData.depth]
  | .bl _ => by simp [D.toPy, D.deep, PyData.depth]
  | .int _ => by simp [D.toPy, D.deep, PyData.depth]
  | .str _ => by simp [D.toPy, D.deep, PyData.depth]
  | .tup ds => by simp [D.toPy, D.deep, PyData.depth, toPyL_deep ds]
  | .lst ds => by simp [D.toPy, D.deep, PyData.depth, toPyL_deep ds]
  | .fn _ => by simp [D.toPy, D.deep, PyData.depth]
  | .scr _ => by simp [D.toPy, D.deep, PyData.depth]
theorem toPyL_deep : ∀ ds : List D, PyData.depthAll (toPyL ds) = deepL ds
  | [] => by simp [toPyL, deepL, PyData.depthAll]
  | d :: r => by simp [toPyL, deepL, PyData.depthAll, toPy_deep d, toPyL_deep r]
end
mutual
theorem toPy_lay : ∀ d : D, d.cmpOk = true → d.toPy.canLay0 = true
  | .non, _ => by simp [D.toPy, PyData.canLay0]
  | .bl _, _ => by simp [D.toPy, PyData.canLay0]
  | .int _, _ => by simp [D.toPy, PyData.canLay0]
  | .str s, h => by simpa [D.toPy, PyData.canLay0, D.cmpOk] using h
  | .tup ds, h => by simp only [D.toPy, PyData.canLay0]; exact toPyL_lay ds (by simpa [D.cmpOk] using h)
  | .lst ds, h => by simp only [D.toPy, PyData.canLay0]; exact toPyL_lay ds (by simpa [D.cmpOk] using h)
  | .fn _, h => by simp [D.cmpOk] at h
  | .scr _, h => by simp [D.cmpOk] at h
theorem toPyL_lay : ∀ ds : List D, cmpOkL ds = true → PyData.canLayAll0 (toPyL ds) = true
  | [], _ => by simp [toPyL, PyData.canLayAll0]
  | d :: r, h => by
    simp only [cmpOkL, Bool.and_eq_true] at h
    simp [toPyL, PyData.canLayAll0, toPy_lay d h.1, toPyL_lay r h.2]
end
mutual
theorem toPy_eqv : ∀ a b : D, a.cmpOk = true → b.cmpOk = true → PyData.eqv a.toPy b.toPy = D.beq a b
  | .tup xs, .tup ys, h, k => by simp only [D.toPy, PyData.eqv, D.beq]; exact toPyL_eqv xs ys (by simpa [D.cmpOk] using h) (by simpa [D.cmpOk] using k)
  | .lst xs, .lst ys, h, k => by simp only [D.toPy, PyData.eqv, D.beq]; exact toPyL_eqv xs ys (by simpa [D.cmpOk] using h) (by simpa [D.cmpOk] using k)
  | .fn _, _, h, _ => by simp [D.cmpOk] at h
  | .scr _, _, h, _ => by simp [D.cmpOk] at h
  | a, .fn _, _, k => by simp [D.cmpOk] at k
  | a, .scr _, _, k => by simp [D.cmpOk] at k
  | .non, b, _, k => by cases b <;> simp_all [D.toPy, PyData.eqv, D.beq, D.cmpOk]
  | .bl _, b, _, k => by cases b <;> simp_all [D.toPy, PyData.eqv, D.beq, D.cmpOk]
  | .int _, b, _, k => by cases b <;> simp_all [D.toPy, PyData.eqv, D.beq, D.cmpOk]
  | .str _, b, _, k => by cases b <;> simp_all [D.toPy, PyData.eqv, D.beq, D.cmpOk]
  | .tup _, .non, _, _ => by simp [D.toPy, PyData.eqv, D.beq]
  | .tup _, .bl _, _, _ => by simp [D.toPy, PyData.eqv, D.beq]
  | .tup _, .int _, _, _ => by simp [D.toPy, PyData.eqv, D.beq]
  | .tup _, .str _, _, _ => by simp [D.toPy, PyData.eqv, D.beq]
  | .tup _, .lst _, _, _ => by simp [D.toPy, PyData.eqv, D.beq]
  | .lst _, .non, _, _ => by simp [D.toPy, PyData.eqv, D.beq]
  | .lst _, .bl _, _, _ => by simp [D.toPy, PyData.eqv, D.beq]
  | .lst _, .int _, _, _ => by simp [D.toPy, PyData.eqv, D.beq]
  | .lst _, .str _, _, _ => by simp [D.toPy, PyData.eqv, D.beq]
  | .lst _, .tup _, _, _ => by simp [D.toPy, PyData.eqv, D.beq]
theorem toPyL_eqv : ∀ xs ys : List D, cmpOkL xs = true → cmpOkL ys = true → PyData.eqvAll (toPyL xs) (toPyL ys) = beqL xs ys
  | [], [], _, _ => by simp [toPyL, PyData.eqvAll, beqL]
  | [], _ :: _, _, _ => by simp [toPyL, PyData.eqvAll, beqL]
  | _ :: _, [], _, _ => by simp [toPyL, PyData.eqvAll, beqL]
  | x :: xs, y :: ys, h, k => by
    simp only [cmpOkL, Bool.and_eq_true] at h k
    simp only [toPyL, PyData.eqvAll, beqL, toPy_eqv x y h.1 k.1, toPyL_eqv xs ys h.2 k.2]
end
theorem toPyL_map : ∀ ds : List D, toPyL ds = ds.map D.toPy
  | [] => rfl
  | d :: r => by simp [toPyL, toPyL_map r]
theorem cmpOkL_all : ∀ ds : List D, cmpOkL ds = ds.all D.cmpOk
  | [] => rfl
  | d :: r => by simp [cmpOkL, cmpOkL_all r]
def D.shaped (d : D) : Bool := d.cmpOk && decide (d.deep ≤ 64)
theorem shaped_py {d : D} (h : d.shaped = true) : SeqAt.shaped d.toPy = true := by
  simp only [D.shaped, Bool.and_eq_true, decide_eq_true_eq] at h
  simp [SeqAt.shaped, toPy_lay d h.1, toPy_deep, h.2]

/-! ### what stands where -/
section
variable {mg : Str → Option Value} {K : PySem.W.Frag} {H H' : Hp} {S : List Addr}
/-- a datum, the mutable read as they are -/
def DRep (mg : Str → Option Value) (K : PySem.W.Frag) (H : Hp) (S : List Addr) (d : D) (v : V) : Prop :=
  Rep mg K (hid H S) d v ∨ ∃ ds a xs, d = .lst ds ∧ v = .ref a ∧ H a = some (.lst xs) ∧ RepL mg K (hid H S) ds xs
theorem DRep.non {v : V} (h : DRep mg K H S .non v) : v = .non := by
  rcases h with h | ⟨_, _, _, h, _⟩
  · cases h; rfl
  · cases h
theorem DRep.bl {b : Bool} {v : V} (h : DRep mg K H S (.bl b) v) : v = .bl b := by
  rcases h with h | ⟨_, _, _, h, _⟩
  · cases h; rfl
  · cases h
theorem DRep.int {i : Int} {v : V} (h : DRep mg K H S (.int i) v) : v = .int i := by
  rcases h with h | ⟨_, _, _, h, _⟩
  · cases h; rfl
  · cases h
theorem DRep.str {s : Str} {v : V} (h : DRep mg K H S (.str s) v) : v = .str s := by
  rcases h with h | ⟨_, _, _, h, _⟩
  · cases h; rfl
  · cases h
theorem DRep.tup {ds : List D} {v : V} (h : DRep mg K H S (.tup ds) v) : ∃ a xs, v = .ref a ∧ H a = some (.tup xs) ∧ RepL mg K (hid H S) ds xs := by
  rcases h with h | ⟨_, _, _, h, _⟩
  · cases h with
    | tup e l => exact ⟨_, _, rfl, (hid_some e).2, l⟩
  · cases h
theorem DRep.lst {ds : List D} {v : V} (h : DRep mg K H S (.lst ds) v) : ∃ a xs, v = .ref a ∧ H a = some (.lst xs) ∧ RepL mg K (hid H S) ds xs := by
  rcases h with h | ⟨ds', a, xs, h, e, e2, l⟩
  · cases h with
    | lst e l => exact ⟨_, _, rfl, (hid_some e).2, l⟩
  · cases h; exact ⟨a, xs, e, e2, l⟩
theorem unhid {b : Addr} {xs : List V} (q : SqL K (hid H S) b xs) : SqL K H b xs := by
  rcases q with (q | ⟨o, q⟩) | q
  · exact .inl (.inl (hid_some q).2)
  · exact .inl (.inr ⟨o, (hid_some q).2⟩)
  · exact .inr q
theorem DRep.scr {ns : List Int} {v : V} (h : DRep mg K H S (.scr ns) v) : ∃ a, v = .ref a ∧ SqL K H a (ns.map V.int) := by
  rcases h with h | ⟨_, _, _, h, _⟩
  · cases h with
    | scr q => exact ⟨_, rfl, unhid q⟩
  · cases h
/-- lists read -/
def D.seq : D → Option (List D)
  | .lst ds => some ds
  | .scr ns => some (ns.map D.int)
  | _ => none
theorem DRep.seq {d : D} {ds : List D} {v : V} (h : DRep mg K H S d v) (e : d.seq = some ds) : ∃ a xs, v = .ref a ∧ SqL K H a xs ∧ RepL mg K (hid H S) ds xs := by
  cases d with
  | lst ds' =>
    cases e
    obtain ⟨a, xs, e1, e2, l⟩ := h.lst
    exact ⟨a, xs, e1, SqL.of e2, l⟩
  | scr ns =>
    cases e
    obtain ⟨a, e1, q⟩ := h.scr
    exact ⟨a, _, e1, q, RepL.ints ns⟩
  | _ => cases e
mutual
theorem Rep.dp : ∀ {d v}, Rep mg K (hid H S) d v → d.cmpOk = true → Dp K H v d.toPy
  | _, _, .non, _ => by simp only [D.toPy]; exact .non
  | _, _, .bl, _ => by simp only [D.toPy]; exact .bl _
  | _, _, .int, _ => by simp only [D.toPy]; exact .int _
  | _, _, .str, _ => by simp only [D.toPy]; exact .str _
  | _, _, .tup e l, h => by simp only [D.toPy]; exact .tup (SqT.of (hid_some e).2) (RepL.dp l (by simpa [D.cmpOk] using h))
  | _, _, .lst e l, h => by simp only [D.toPy]; exact .lst (SqL.of (hid_some e).2) (RepL.dp l (by simpa [D.cmpOk] using h))
  | _, _, .fn _, h => by simp [D.cmpOk] at h
  | _, _, .scr _, h => by simp [D.cmpOk] at h
theorem RepL.dp : ∀ {ds vs}, RepL mg K (hid H S) ds vs → cmpOkL ds = true → DpAll K H vs (toPyL ds)
  | _, _, .nil, _ => by simp only [toPyL]; exact .nil
  | _, _, .cons h l, k => by
    simp only [cmpOkL, Bool.and_eq_true] at k
    simp only [toPyL]
    exact .cons (Rep.dp h k.1) (RepL.dp l k.2)
end
theorem DRep.dp {d : D} {v : V} (h : DRep mg K H S d v) (k : d.cmpOk = true) : Dp K H v d.toPy := by
  rcases h with h | ⟨ds, a, xs, rfl, rfl, e, l⟩
  · exact h.dp k
  · simp only [D.toPy]; exact .lst (SqL.of e) (l.dp (by simpa [D.cmpOk] using k))
theorem Rep.flatV {d : D} {v : V} (h : Rep mg K (hid H S) d v) (k : d.flat = true) : L2.flatV v = true := by
  cases h <;> simp_all [D.flat, L2.flatV]
theorem RepL.flatV : ∀ {ds vs}, RepL mg K (hid H S) ds vs → ds.all D.flat = true → vs.all L2.flatV = true
  | _, _, .nil, _ => rfl
  | _, _, .cons h l, k => by
    simp only [List.all_cons, Bool.and_eq_true] at k ⊢
    exact ⟨h.flatV k.1, l.flatV k.2⟩
theorem Rep.eqV {a b : D} {x y : V} (h : Rep mg K (hid H S) a x) (k : Rep mg K (hid H S) b y) (ha : a.flat = true) (hb : b.flat = true) : L2.eqV x y = D.beq a b := by
  cases h <;> cases k <;> simp_all [D.flat, L2.eqV, D.beq]
theorem RepL.inV {a : D} {x : V} (h : Rep mg K (hid H S) a x) (ha : a.flat = true) : ∀ {ds vs}, RepL mg K (hid H S) ds vs → ds.all D.flat = true → L2.inV x vs = ds.any fun z => D.beq z a
  | _, _, .nil, _ => rfl
  | _, _, .cons k l, q => by
    simp only [List.all_cons, Bool.and_eq_true] at q
    have ih := RepL.inV h ha l q.2
    unfold L2.inV at ih ⊢
    rw [List.any_cons, List.any_cons, ih, Rep.eqV k h q.1 ha]

/-- an answer: the datum c, nothing that stood changed -/
def Ans (mg : Str → Option Value) (K : PySem.W.Frag) (H : Hp) (S : List Addr) (c : D) (Q : VK) : Prop := ∀ v H', Same H H' → Rep mg K (hid H' S) c v → Q v H'
theorem Ans.here {c : D} {Q : VK} {v : V} (h : Ans mg K H S c Q) (r : Rep mg K (hid H S) c v) : Q v H := h v H (Same.refl H) r
theorem upd_Same {p : Addr} {o : HO} (h : H p = none) : Same H (upd H p o) := fun b x e => by rw [upd_ne (ne_of_none e h)]; exact e
theorem hid_same (h : Same H H') : Ext (hid H S) (hid H' S) := Ext.of fun b o q => by
  obtain ⟨q1, q2⟩ := hid_some q
  rw [hid_out q1]; exact h _ _ q2
theorem fresh_out (f : ∀ p ∈ S, H p ≠ none) {p : Addr} (h : H p = none) : p ∉ S := fun m => f p m h
theorem Ans.tup {ds : List D} {xs : List V} {Q : VK} {p : Addr} (h : Ans mg K H S (.tup ds) Q) (f : ∀ p ∈ S, H p ≠ none) (l : RepL mg K (hid H S) ds xs) (hp : H p = none) : Q (.ref p) (upd H p (.tup xs)) :=
  h _ _ (upd_Same hp) (.tup (by rw [hid_out (fresh_out f hp), upd_same]) (l.ext (hid_same (upd_Same hp))))
theorem Ans.lst {ds : List D} {xs : List V} {Q : VK} {p : Addr} (h : Ans mg K H S (.lst ds) Q) (f : ∀ p ∈ S, H p ≠ none) (l : RepL mg K (hid H S) ds xs) (hp : H p = none) : Q (.ref p) (upd H p (.lst xs)) :=
  h _ _ (upd_Same hp) (.lst (by rw [hid_out (fresh_out f hp), upd_same]) (l.ext (hid_same (upd_Same hp))))
end

/-! ### from readings by values to plain functions -/
def dr (μ : Store) : Sl → Option D
  | .d x => some x
  | .ob n => match μ[n]? with
    | some (.lst ds) => some (.lst ds)
    | _ => none
  | .clo _ => none
def drL (μ : Store) : List Sl → Option (List D)
  | [] => some []
  | s :: r => match dr μ s, drL μ r with
    | some d, some ds => some (d :: ds)
    | _, _ => none
def o1 (g : D → Option D) (x : Sl) (μ : Store) : Res Sl := match dr μ x with
  | some a => ofO ((g a).map Sl.d) μ
  | none => .no
def o2 (g : D → D → Option D) (x y : Sl) (μ : Store) : Res Sl := match dr μ x, dr μ y with
  | some a, some b => ofO ((g a b).map Sl.d) μ
  | _, _ => .no
def oN (g : List D → Option D) (xs : List Sl) (μ : Store) : Res Sl := match drL μ xs with
  | some ds => ofO ((g ds).map Sl.d) μ
  | none => .no
section
variable {mg : Str → Option Value} {K : PySem.W.Frag} {η : List Addr} {H H1 H2 H' : Hp} {θ θ1 θ2 θ' : List Addr} {μ μ1 μ2 μ' : Store} {E : XK} {S : List Addr}
theorem StOk.trk (s : StOk mg K η H θ μ) : ∀ p ∈ θ ++ η, H p ≠ none := fun p h => by
  rcases List.mem_append.mp h with h | h
  · exact s.tracked h
  · exact s.dom p h
theorem StOk.same (s : StOk mg K η H θ μ) (h : Same H H') : Step mg K η H θ H' θ μ := by
  have k : ∀ p, H p ≠ none → H' p = H p := fun p q => by
    cases e : H p with
    | none => exact absurd e q
    | some o => exact h p o e
  refine ⟨hid_same h, Pre.refl _, fun p q => k p (s.dom p q), ⟨fun p q => by rw [k p (s.dom p q)]; exact s.dom p q, s.len, s.nd, s.dj, fun n a o h1 h2 => ?_, s.tab.ext h, fun p q u e => s.pl p q u (by rw [← e, k p (s.dom p q)])⟩⟩
  exact (s.at_ n a o h1 h2).ext (hid_same h) (k a (s.tracked (List.mem_of_getElem? h1)))
theorem fin_ans {c : D} {Q : VK} (s : StOk mg K η H θ μ) (h : Fin mg K E η H θ (RepSl mg K) (.ok (.d c) μ) Q) : Ans mg K H (θ ++ η) c Q := fun v H' sm r => h v H' θ (s.same sm) (.d r)
theorem dr_rep (s : StOk mg K η H θ μ) {x : Sl} {v : V} {d : D} (r : RepSl mg K (hid H (θ ++ η)) θ x v) (e : dr μ x = some d) : DRep mg K H (θ ++ η) d v := by
  cases r with
  | d r => cases e; exact .inl r
  | ob h =>
    obtain ⟨o, h1, h2⟩ := s.lookup h
    simp only [dr, h1] at e
    cases o with
    | lst ds =>
      cases e
      obtain ⟨xs, e1, l⟩ := h2
      exact .inr ⟨ds, _, xs, rfl, rfl, e1, l⟩
    | ins c fs => cases e
  | clo _ _ => cases e
inductive DRepL (mg : Str → Option Value) (K : PySem.W.Frag) (H : Hp) (S : List Addr) : List D → List V → Prop
  | nil : DRepL mg K H S [] []
  | cons {d v ds vs} : DRep mg K H S d v → DRepL mg K H S ds vs → DRepL mg K H S (d :: ds) (v :: vs)
theorem drL_rep (s : StOk mg K η H θ μ) : ∀ {xs : List Sl} {vs : List V} {ds : List D}, RepA mg K (hid H (θ ++ η)) θ xs vs → drL μ xs = some ds → DRepL mg K H (θ ++ η) ds vs
  | _, _, _, .nil, e => by cases e; exact .nil
  | _, _, ds, .cons (ds := r) (d := x) h l, e => by
    simp only [drL] at e
    split at e
    · rename_i d' ds' e1 e2
      cases e
      exact .cons (dr_rep s h e1) (drL_rep s l e2)
    · cases e

def Lift1 (mg : Str → Option Value) (K : PySem.W.Frag) (r : V → Hp → VK → Prop) (g : D → Option D) : Prop :=
  ∀ (H : Hp) (S : List Addr) (x : V) (a c : D) (Q : VK), (∀ p ∈ S, H p ≠ none) → DRep mg K H S a x → g a = some c → Ans mg K H S c Q → r x H Q
def Lift2 (mg : Str → Option Value) (K : PySem.W.Frag) (r : R2) (g : D → D → Option D) : Prop :=
  ∀ (H : Hp) (S : List Addr) (x y : V) (a b c : D) (Q : VK), (∀ p ∈ S, H p ≠ none) → DRep mg K H S a x → DRep mg K H S b y → g a b = some c → Ans mg K H S c Q → r x y H Q
def LiftN (mg : Str → Option Value) (K : PySem.W.Frag) (r : List V → Hp → VK → Prop) (g : List D → Option D) : Prop :=
  ∀ (H : Hp) (S : List Addr) (xs : List V) (ds : List D) (c : D) (Q : VK), (∀ p ∈ S, H p ≠ none) → DRepL mg K H S ds xs → g ds = some c → Ans mg K H S c Q → r xs H Q
theorem Lift1.fin {r : V → Hp → VK → Prop} {g : D → Option D} (l : Lift1 mg K r g) (s : StOk mg K η H θ μ) {x : V} {dx : Sl} {Q : VK} (rx : RepSl mg K (hid H (θ ++ η)) θ dx x)
    (h : Fin mg K E η H θ (RepSl mg K) (o1 g dx μ) Q) : r x H Q := by
  unfold o1 at h
  split at h
  · rename_i a ea
    cases e : g a with
    | none => rw [e] at h; exact h.elim
    | some c => rw [e] at h; exact l H _ x a c Q s.trk (dr_rep s rx ea) e (fin_ans s h)
  · exact h.elim
theorem Lift2.fin {r : R2} {g : D → D → Option D} (l : Lift2 mg K r g) (s : StOk mg K η H θ μ) {x y : V} {dx dy : Sl} {Q : VK} (rx : RepSl mg K (hid H (θ ++ η)) θ dx x) (ry : RepSl mg K (hid H (θ ++ η)) θ dy y)
    (h : Fin mg K E η H θ (RepSl mg K) (o2 g dx dy μ) Q) : r x y H Q := by
  unfold o2 at h
  split at h
  · rename_i a b ea eb
    cases e : g a b with
    | none => rw [e] at h; exact h.elim
    | some c => rw [e] at h; exact l H _ x y a b c Q s.trk (dr_rep s rx ea) (dr_rep s ry eb) e (fin_ans s h)
  · exact h.elim
theorem LiftN.fin {r : List V → Hp → VK → Prop} {g : List D → Option D} (l : LiftN mg K r g) (s : StOk mg K η H θ μ) {xs : List V} {ds : List Sl} {Q : VK} (rx : RepA mg K (hid H (θ ++ η)) θ ds xs)
    (h : Fin mg K E η H θ (RepSl mg K) (oN g ds μ) Q) : r xs H Q := by
  unfold oN at h
  split at h
  · rename_i a ea
    cases e : g a with
    | none => rw [e] at h; exact h.elim
    | some c => rw [e] at h; exact l H _ xs a c Q s.trk (drL_rep s rx ea) e (fin_ans s h)
  · exact h.elim
theorem Lift2.or {r r' : R2} {g g' g2 : D → D → Option D} (l : Lift2 mg K r g) (l' : Lift2 mg K r' g') (h : ∀ a b c, g2 a b = some c → g a b = some c ∨ g' a b = some c) : Lift2 mg K (fun x y H Q => r x y H Q ∨ r' x y H Q) g2 :=
  fun H S x y a b c Q f ra rb e q => (h a b c e).elim (fun z => .inl (l H S x y a b c Q f ra rb z q)) (fun z => .inr (l' H S x y a b c Q f ra rb z q))
end
end DL

set_option Elab.async false
set_option linter.all false
set_option maxRecDepth 100000
set_option maxHeartbeats 1000000
/-! DLTup: t * k for any small k -/
namespace L2
open PySem PySem.Spec PyProof.Rows
theorem tuple_mul1 (l : Addr) (items : Array Value) (n : Nat) (dd : Option Addr) (sl : Array (Option Value)) (u : Tok) :
    Meets (Builtin.«tuple.__mul__» ⟨[.ref l, .int 1 u], []⟩) (fun _ R s => s.heap.get? l = some { cls := .type "tuple", dict := dd, data := .seq items n, slots := sl } ∧ R (.ok (.ret (Value.ref l))) s) :=
  .of_wp fun prog w A R s h => by
    obtain ⟨hp, g, d, tk, os⟩ := s
    obtain ⟨hl, h⟩ := h
    have f1 := AutoSeq1.idx_int
    wp_walk using wpAny_loadPart' hl
    repeat (first
      | (refine wpAny_ite_false (decide_eq_false (by decide)) ?_; wp_walk using wpAny_loadPart' hl)
      | (refine wpAny_ite_true (decide_eq_true (by simp)) ?_; wp_walk using wpAny_loadPart' hl))
    exact ⟨_, rfl, h⟩
theorem tuple_mul0 (l : Addr) (items : Array Value) (n : Nat) (dd : Option Addr) (sl : Array (Option Value)) (u : Tok) (hi : items.isEmpty = false) :
    Meets (Builtin.«tuple.__mul__» ⟨[.ref l, .int 0 u], []⟩) (fun _ R s => s.heap.get? l = some { cls := .type "tuple", dict := dd, data := .seq items n, slots := sl } ∧ R (.ok (.ret (Value.ref s.heap.objs.size))) { s with heap := s.heap.push { cls := Value.type "tuple", data := Data.seq #[] }, toks := s.toks }) :=
  .of_wp fun prog w A R s h => by
    obtain ⟨hp, g, d, tk, os⟩ := s
    obtain ⟨hl, h⟩ := h
    have f1 := AutoSeq1.idx_int
    wp_walk using wpAny_loadPart' hl
    repeat (first
      | (refine wpAny_ite_false (decide_eq_false (by simp [hi])) ?_; wp_walk using wpAny_loadPart' hl)
      | (refine wpAny_ite_true (decide_eq_true (by simp)) ?_; wp_walk using wpAny_loadPart' hl))
    exact ⟨_, rfl, h⟩
def rRepA (K : PySem.W.Frag) : R2 := fun x y H Q => ∃ l k xs, x = .ref l ∧ y = .int k ∧ SqT K H l xs ∧ xs ≠ [] ∧ 0 ≤ k ∧ k ≤ 1000 ∧ xs.length ≤ 1000 ∧ (k = 1 → Q (.ref l) H) ∧ (k ≠ 1 → ∀ p, H p = none → Q (.ref p) (upd H p (.tup (List.replicate k.toNat xs).flatten)))
section
variable {X : Cx}
theorem op_repA : OpR X (binaryOp .Mult) (rRepA X.K) := by
  intro pins s σ H x y v u Q I rx ry h
  obtain ⟨l, k, xs, rfl, rfl, hT, hne, h1, h2, hz, q1, q2⟩ := h
  by_cases hk : 2 ≤ k
  · exact op_repT pins s σ H _ _ v u Q I rx ry ⟨l, k, xs, rfl, rfl, hT, hne, hk, h2, hz, q2 (by omega)⟩
  · cases rx
    obtain ⟨t, rfl⟩ := ry
    obtain ⟨its, r, ⟨⟨cls, dd, data, sl⟩, ho, hc, n, hd⟩, hs⟩ := I.tuple hT
    simp only at hc hd
    subst hc hd
    have hi : its.toArray.isEmpty = false := by
      cases its with
      | nil => cases r; exact absurd rfl hne
      | cons a b => rfl
    have k01 : k = 1 ∨ k = 0 := by omega
    rcases k01 with rfl | rfl
    · refine wpAny_binaryOp_repeat_ref (T := "tuple") (U := "int") (by decide) ⟨_, ho, rfl⟩ (fun s' => typeIs_int s' 1 t) noFill_tuple_mul F.fills_int_mul F.slot_int_rmul repeat_tuple F.slot_int_index.lookup
        (call_meets F.slot_int_rmul (typeIs_int s 1 t) F.entry_int_rmul (F.args_int_rmul_2 _ _) (int_rmul_tuple 1 t l its.toArray n dd sl)
          ⟨ho, rfl, ⟨_, ho, rfl⟩, call_meets F.slot_tuple_mul ⟨_, ho, rfl⟩ F.entry_tuple_mul (F.args_tuple_mul_2 _ _) (tuple_mul1 l its.toArray n dd sl t) ⟨ho, ?_⟩⟩)
      exact ⟨.ref l, H, I, rfl, q1 rfl⟩
    · refine wpAny_binaryOp_repeat_ref (T := "tuple") (U := "int") (by decide) ⟨_, ho, rfl⟩ (fun s' => typeIs_int s' 0 t) noFill_tuple_mul F.fills_int_mul F.slot_int_rmul repeat_tuple F.slot_int_index.lookup
        (call_meets F.slot_int_rmul (typeIs_int s 0 t) F.entry_int_rmul (F.args_int_rmul_2 _ _) (int_rmul_tuple 0 t l its.toArray n dd sl)
          ⟨ho, rfl, ⟨_, ho, rfl⟩, call_meets F.slot_tuple_mul ⟨_, ho, rfl⟩ F.entry_tuple_mul (F.args_tuple_mul_2 _ _) (tuple_mul0 l its.toArray n dd sl t hi) ⟨ho, ?_⟩⟩)
      refine ⟨.ref s.heap.objs.size, _, I.laid (t' := s.toks) (o := .tup []) (fun b ob q => Heap.get?_push_of_some _ q) (Nat.le_refl _) ⟨Nat.zero_le _, [], .nil, IsTup.new _ _⟩, rfl, q2 (by decide) _ (I.hok.fresh (Nat.le_refl _))⟩
end
end L2

set_option Elab.async false
set_option linter.all false
set_option maxRecDepth 100000
set_option maxHeartbeats 1000000
/-! DLExpr: the operators on data, and expressions by plain functions -/
namespace DL
open PySem PySem.Spec PyProof.Rows L2
variable [TabCtx]

/-! ### operators on data -/
def addD : D → D → Option D
  | .int i, .int j => some (.int (i + j))
  | .str x, .str y => if x.length + y.length ≤ 16777216 then some (.str (x ++ y)) else none
  | .tup a, .tup b => if a.length + b.length ≤ 16777216 then some (.tup (a ++ b)) else none
  | .lst a, .lst b => if a.length + b.length ≤ 16777216 then some (.lst (a ++ b)) else none
  | _, _ => none
def subD : D → D → Option D
  | .int i, .int j => some (.int (i - j))
  | _, _ => none
def mulD : D → D → Option D
  | .int i, .int j => if i.natAbs < 18446744073709551616 ∨ j.natAbs < 18446744073709551616 then some (.int (i * j)) else none
  | .lst a, .int k => if 0 ≤ k ∧ k ≤ 1000 ∧ a.length ≤ 1000 then some (.lst (List.replicate k.toNat a).flatten) else none
  | .tup a, .int k => if 0 ≤ k ∧ k ≤ 1000 ∧ a.length ≤ 1000 ∧ a.length ≠ 0 then some (.tup (List.replicate k.toNat a).flatten) else none
  | _, _ => none
def modD : D → D → Option D
  | .int i, .int j => if 0 < j then some (.int (i % j)) else none
  | _, _ => none
def fdivD : D → D → Option D
  | .int i, .int j => if 0 < j ∧ j.natAbs < 1073741824 then some (.int (i / j)) else none
  | _, _ => none
def powD : D → D → Option D
  | .int i, .int j => if 0 ≤ j ∧ j ≤ 1000000 ∧ i.natAbs < 18446744073709551616 then some (.int (i ^ j.toNat)) else none
  | _, _ => none
def negD : D → Option D
  | .int i => some (.int (-i))
  | _ => none
def eqD (a b : D) : Option D := if a.shaped = true ∧ b.shaped = true then some (.bl (D.beq a b)) else none
def neD (a b : D) : Option D := if a.shaped = true ∧ b.shaped = true then some (.bl (!D.beq a b)) else none
def intsOf : List D → Option (List Int)
  | [] => some []
  | .int i :: r => (intsOf r).map (i :: ·)
  | _ :: _ => none
def blsOf : List D → Option (List Bool)
  | [] => some []
  | .bl i :: r => (blsOf r).map (i :: ·)
  | _ :: _ => none
def ltD : D → D → Option D
  | .int i, .int j => some (.bl (decide (i < j)))
  | .tup a, .tup b => match intsOf a, intsOf b with
    | some x, some y => some (.bl (HT.lexLt x y))
    | _, _ => none
  | _, _ => none
/-- x ≤ y, as Python has it of tuples -/
def lexLe (x y : List Int) : Bool := Ob.lexAt (fun j => decide (x.getD j 0 = y.getD j 0)) (fun j => decide (x.getD j 0 ≤ y.getD j 0)) (decide (x.length ≤ y.length)) 0 (min x.length y.length)
def leD : D → D → Option D
  | .int i, .int j => some (.bl (decide (i ≤ j)))
  | .tup a, .tup b => match intsOf a, intsOf b with
    | some x, some y => some (.bl (lexLe x y))
    | _, _ => none
  | _, _ => none
/-- ≤ in a chain: of ints alone -/
def leI : D → D → Option D
  | .int i, .int j => some (.bl (decide (i ≤ j)))
  | _, _ => none
def gtD : D → D → Option D
  | .int i, .int j => some (.bl (decide (i > j)))
  | _, _ => none
def geD : D → D → Option D
  | .int i, .int j => some (.bl (decide (i ≥ j)))
  | _, _ => none
def isD : D → D → Option D
  | .bl a, .bl b => some (.bl (decide (a = b)))
  | .non, .non => some (.bl true)
  | _, .non => some (.bl false)
  | _, _ => none
def isnD : D → D → Option D
  | .bl a, .bl b => some (.bl (!decide (a = b)))
  | .non, .non => some (.bl false)
  | _, .non => some (.bl true)
  | _, _ => none
def memD (a : D) : D → Option Bool
  | .tup ds => if a.flat = true ∧ ds.all D.flat = true then some (ds.any fun z => D.beq z a) else none
  | .lst ds => if a.shaped = true ∧ (D.lst ds).shaped = true then some (ds.any fun z => D.beq z a) else none
  | _ => none
def inD (a b : D) : Option D := (memD a b).map .bl
def ninD (a b : D) : Option D := (memD a b).map fun k => .bl (!k)
def ixD : D → D → Option D
  | .tup ds, .int i => atI ds i
  | .lst ds, .int i => atI ds i
  | .scr ns, .int i => (atI ns i).map .int
  | .str z, .int i => if z.length ≤ 16777216 then (atI z.cps.toList i).map fun c => .str ⟨#[c]⟩ else none
  | _, _ => none
def cutD (ds : List D) (lo hi : Option Int) : List D := (ds.drop (HT.sIx ds.length 0 lo)).take (HT.sIx ds.length ds.length hi - HT.sIx ds.length 0 lo)
def slD : D → Option Int → Option Int → Option D
  | .tup ds, lo, hi => some (.tup (cutD ds lo hi))
  | .lst ds, lo, hi => some (.lst (cutD ds lo hi))
  | .str z, lo, hi => if z.length ≤ 16777216 then some (.str (cutS z lo hi)) else none
  | _, _, _ => none
def lenD : List D → Option D
  | [.tup ds] => some (.int ds.length)
  | [.lst ds] => some (.int ds.length)
  | [.scr ns] => some (.int ns.length)
  | [.str z] => if z.length ≤ 16777216 then some (.int z.length) else none
  | _ => none
def tupleD : List D → Option D
  | [.tup ds] => some (.tup ds)
  | [.lst ds] => some (.tup ds)
  | _ => none
def listD : List D → Option D
  | [.tup ds] => some (.lst ds)
  | [.lst ds] => some (.lst ds)
  | _ => none
def intD : List D → Option D
  | [.int i] => some (.int i)
  | [.bl b] => some (.int (if b = true then 1 else 0))
  | _ => none
def strD : List D → Option D
  | [.int i] => if i.natAbs.log2 < 1920 then some (.str (toString i)) else none
  | _ => none
def boolD : List D → Option D
  | [.int i] => some (.bl (i != 0))
  | [.bl b] => some (.bl b)
  | _ => none
def sumD : List D → Option D
  | [.lst ds] => (intsOf ds).map fun ns => .int ns.sum
  | _ => none
def maxL (ns : List Int) : Option Int := match ns with
  | [] => none
  | n :: r => some (r.foldl max n)
def minL (ns : List Int) : Option Int := match ns with
  | [] => none
  | n :: r => some (r.foldl min n)
def maxD : List D → Option D
  | [.int i, .int j] => some (.int (max i j))
  | [.int i, .int j, .int k] => some (.int (max (max i j) k))
  | [.lst ds] => (intsOf ds).bind fun ns => (maxL ns).map .int
  | _ => none
def minD : List D → Option D
  | [.int i, .int j] => some (.int (min i j))
  | [.lst ds] => (intsOf ds).bind fun ns => (minL ns).map .int
  | _ => none
def allD : List D → Option D
  | [.lst ds] => (blsOf ds).map fun bs => .bl (bs.all id)
  | _ => none
def anyD : List D → Option D
  | [.lst ds] => (blsOf ds).map fun bs => .bl (bs.any id)
  | _ => none
def insertI (x : Int) : List Int → List Int
  | [] => [x]
  | y :: r => if x ≤ y then x :: y :: r else y :: insertI x r
def sortI : List Int → List Int
  | [] => []
  | x :: r => insertI x (sortI r)
def sortedD : List D → Option D
  | [.lst ds] => (intsOf ds).bind fun ns => if ns.length < 64 then some (.lst ((sortI ns).map .int)) else none
  | _ => none
def tyD : D → Option String
  | .non => some "NoneType" | .bl _ => some "bool" | .int _ => some "int" | .str _ => some "str" | .tup _ => some "tuple" | .lst _ => some "list" | .fn _ => none | .scr _ => none
def isiD (T : String) (d : D) : Option D := (tyD d).bind fun t => (kitB t T).map .bl

theorem intsOf_map : ∀ ns : List Int, intsOf (ns.map D.int) = some ns
  | [] => rfl
  | n :: r => by simp [intsOf, intsOf_map r]
theorem intsOf_inv : ∀ {ds : List D} {ns : List Int}, intsOf ds = some ns → ds = ns.map D.int
  | [], _, h => by cases h; rfl
  | .int i :: r, _, h => by
    simp only [intsOf, Option.map_eq_some_iff] at h
    obtain ⟨a, h1, rfl⟩ := h
    rw [intsOf_inv h1]; rfl
  | .non :: _, _, h => by cases h
  | .bl _ :: _, _, h => by cases h
  | .str _ :: _, _, h => by cases h
  | .tup _ :: _, _, h => by cases h
  | .lst _ :: _, _, h => by cases h
  | .fn _ :: _, _, h => by cases h
  | .scr _ :: _, _, h => by cases h
theorem blsOf_map : ∀ ns : List Bool, blsOf (ns.map D.bl) = some ns
  | [] => rfl
  | n :: r => by simp [blsOf, blsOf_map r]
theorem blsOf_inv : ∀ {ds : List D} {ns : List Bool}, blsOf ds = some ns → ds = ns.map D.bl
  | [], _, h => by cases h; rfl
  | .bl i :: r, _, h => by
    simp only [blsOf, Option.map_eq_some_iff] at h
    obtain ⟨a, h1, rfl⟩ := h
    rw [blsOf_inv h1]; rfl
  | .non :: _, _, h => by cases h
  | .int _ :: _, _, h => by cases h
  | .str _ :: _, _, h => by cases h
  | .tup _ :: _, _, h => by cases h
  | .lst _ :: _, _, h => by cases h
  | .fn _ :: _, _, h => by cases h
  | .scr _ :: _, _, h => by cases h
theorem insertI_perm (x : Int) : ∀ l, (insertI x l).Perm (x :: l)
  | [] => .refl _
  | y :: r => by
    unfold insertI; split
    · exact .refl _
    · exact (List.Perm.cons y (insertI_perm x r)).trans (List.Perm.swap x y r)
theorem sortI_perm : ∀ l, (sortI l).Perm l
  | [] => .refl _
  | x :: r => (insertI_perm x _).trans ((sortI_perm r).cons x)
theorem insertI_sorted (x : Int) : ∀ {l : List Int}, l.Pairwise (· ≤ ·) → (insertI x l).Pairwise (· ≤ ·)
  | [], _ => by simp [insertI]
  | y :: r, h => by
    unfold insertI; split
    · rename_i hx
      refine List.Pairwise.cons (fun z hz => ?_) h
      rcases List.mem_cons.mp hz with rfl | hz
      · exact hx
      · exact Int.le_trans hx (List.rel_of_pairwise_cons h hz)
    · rename_i hx
      refine List.Pairwise.cons (fun z hz => ?_) (insertI_sorted x h.of_cons)
      rcases List.mem_cons.mp ((insertI_perm x r).mem_iff.mp hz) with rfl | hz
      · omega
      · exact List.rel_of_pairwise_cons h hz
theorem sortI_sorted : ∀ l : List Int, (sortI l).Pairwise (· ≤ ·)
  | [] => .nil
  | x :: r => insertI_sorted x (sortI_sorted r)
theorem sortI_uniq {a l : List Int} (h : a.Perm l) (hs : a.Pairwise (· ≤ ·)) : a = sortI l :=
  List.Perm.eq_of_pairwise (le := (· ≤ ·)) (fun a b _ _ h1 h2 => Int.le_antisymm h1 h2) hs (sortI_sorted l) (h.trans (sortI_perm l).symm)
theorem foldl_max_le : ∀ (l : List Int) (n : Int), n ≤ l.foldl max n ∧ ∀ y ∈ l, y ≤ l.foldl max n
  | [], n => ⟨Int.le_refl _, by simp⟩
  | x :: r, n => by
    obtain ⟨h1, h2⟩ := foldl_max_le r (max n x)
    refine ⟨Int.le_trans (Int.le_max_left n x) h1, fun y hy => ?_⟩
    rcases List.mem_cons.mp hy with rfl | hy
    · exact Int.le_trans (Int.le_max_right n y) h1
    · exact h2 y hy
theorem foldl_max_mem : ∀ (l : List Int) (n : Int), l.foldl max n = n ∨ l.foldl max n ∈ l
  | [], n => .inl rfl
  | x :: r, n => by
    rw [List.foldl_cons]
    rcases foldl_max_mem r (max n x) with h | h
    · rw [h]
      by_cases q : x ≤ n
      · exact .inl (Int.max_eq_left q)
      · exact .inr (by rw [Int.max_eq_right (by omega)]; exact List.mem_cons_self)
    · exact .inr (List.mem_cons_of_mem _ h)
theorem foldl_min_le : ∀ (l : List Int) (n : Int), l.foldl min n ≤ n ∧ ∀ y ∈ l, l.foldl min n ≤ y
  | [], n => ⟨Int.le_refl _, by simp⟩
  | x :: r, n => by
    obtain ⟨h1, h2⟩ := foldl_min_le r (min n x)
    refine ⟨Int.le_trans h1 (Int.min_le_left n x), fun y hy => ?_⟩
    rcases List.mem_cons.mp hy with rfl | hy
    · exact Int.le_trans h1 (Int.min_le_right n y)
    · exact h2 y hy
theorem foldl_min_mem : ∀ (l : List Int) (n : Int), l.foldl min n = n ∨ l.foldl min n ∈ l
  | [], n => .inl rfl
  | x :: r, n => by
    rw [List.foldl_cons]
    rcases foldl_min_mem r (min n x) with h | h
    · rw [h]
      by_cases q : n ≤ x
      · exact .inl (Int.min_eq_left q)
      · exact .inr (by rw [Int.min_eq_right (by omega)]; exact List.mem_cons_self)
    · exact .inr (List.mem_cons_of_mem _ h)

/-! ### their rules -/
section
variable {mg : Str → Option Value} {K : PySem.W.Frag}
theorem l_add : Lift2 mg K (fun x y H Q => rI0 (fun i j => .int (i + j)) x y H Q ∨ (fun x y H Q => ∃ (i j : Str), x = .str i ∧ y = .str j ∧ i.length + j.length ≤ sizeLine ∧ Q (.str (i ++ j)) H) x y H Q ∨ rCatA K x y H Q ∨ rCat x y H Q) addD := by
  intro H S x y a b c Q f ra rb e q
  unfold addD at e
  split at e
  · cases ra.int; cases rb.int; cases e
    exact .inl ⟨_, _, rfl, rfl, q.here .int⟩
  · cases ra.str; cases rb.str
    split at e
    · cases e; exact .inr (.inl ⟨_, _, rfl, rfl, by rw [sizeLine_eq]; assumption, q.here .str⟩)
    · cases e
  · obtain ⟨p, xs, rfl, hp, lx⟩ := ra.tup
    obtain ⟨p', ys, rfl, hp', ly⟩ := rb.tup
    split at e
    · rename_i hz
      cases e
      refine .inr (.inr (.inl ⟨p, p', xs, ys, rfl, rfl, SqT.of hp, SqT.of hp', by rw [sizeLine_eq, ← lx.length, ← ly.length]; exact hz, fun e0 => ?_, fun _ e0 => ?_, fun _ _ r hr => ?_⟩))
      · subst e0; cases lx
        rcases rb with rb | ⟨_, _, _, z, _⟩
        · exact q.here rb
        · cases z
      · subst e0; cases ly
        rcases ra with ra | ⟨_, _, _, z, _⟩
        · exact q.here (by rw [List.append_nil]; exact ra)
        · cases z
      · exact q.tup f (lx.append ly) hr
    · cases e
  · obtain ⟨p, xs, rfl, hp, lx⟩ := ra.lst
    obtain ⟨p', ys, rfl, hp', ly⟩ := rb.lst
    split at e
    · rename_i hz
      cases e
      exact .inr (.inr (.inr ⟨p, p', xs, ys, rfl, rfl, hp, hp', by rw [sizeLine_eq, ← lx.length, ← ly.length]; exact hz, fun r hr => q.lst f (lx.append ly) hr⟩))
    · cases e
  · cases e
theorem l_sub : Lift2 mg K (rI0 fun i j => .int (i - j)) subD := by
  intro H S x y a b c Q f ra rb e q
  unfold subD at e
  split at e
  · cases ra.int; cases rb.int; cases e; exact ⟨_, _, rfl, rfl, q.here .int⟩
  · cases e
theorem RepL.flat {G : Hp} {ds : List D} {xs : List V} (l : RepL mg K G ds xs) : ∀ k : Nat, RepL mg K G (List.replicate k ds).flatten (List.replicate k xs).flatten
  | 0 => .nil
  | k + 1 => by rw [List.replicate_succ, List.replicate_succ, List.flatten_cons, List.flatten_cons]; exact l.append (RepL.flat l k)
theorem l_mul : Lift2 mg K (fun x y H Q => rI CMul (fun i j => .int (i * j)) x y H Q ∨ rRep x y H Q ∨ rRepA K x y H Q) mulD := by
  intro H S x y a b c Q f ra rb e q
  unfold mulD at e
  split at e
  · cases ra.int; cases rb.int
    split at e
    · cases e; exact .inl ⟨_, _, rfl, rfl, by unfold CMul; omega, q.here .int⟩
    · cases e
  · obtain ⟨p, xs, rfl, hp, lx⟩ := ra.lst
    cases rb.int
    split at e
    · rename_i k hk
      cases e
      have hm : xs.length * k.toNat ≤ 1000 * 1000 := Nat.mul_le_mul (by rw [← lx.length]; exact hk.2.2) (by omega)
      exact .inr (.inl ⟨p, _, xs, rfl, rfl, hp, by omega, by omega, by rw [sizeLine_eq]; omega, fun r hr => q.lst f (lx.flat _) hr⟩)
    · cases e
  · obtain ⟨p, xs, rfl, hp, lx⟩ := ra.tup
    cases rb.int
    split at e
    · rename_i ds k hk
      cases e
      refine .inr (.inr ⟨p, _, xs, rfl, rfl, SqT.of hp, fun z => hk.2.2.2 (by rw [lx.length, z]; rfl), hk.1, hk.2.1, by rw [← lx.length]; exact hk.2.2.1, fun h1 => ?_, fun _ r hr => q.tup f (lx.flat _) hr⟩)
      subst h1
      rw [show (List.replicate (1 : Int).toNat ds).flatten = ds by simp] at q
      rcases ra with ra | ⟨_, _, _, z, _⟩
      · exact q.here ra
      · cases z
    · cases e
  · cases e
theorem l_mod : Lift2 mg K (rI (fun _ j => 0 < j) fun i j => .int (i % j)) modD := by
  intro H S x y a b c Q f ra rb e q
  unfold modD at e
  split at e
  · cases ra.int; cases rb.int
    split at e
    · cases e; exact ⟨_, _, rfl, rfl, by assumption, q.here .int⟩
    · cases e
  · cases e
theorem l_fdiv : Lift2 mg K (rI CDiv fun i j => .int (i / j)) fdivD := by
  intro H S x y a b c Q f ra rb e q
  unfold fdivD at e
  split at e
  · cases ra.int; cases rb.int
    split at e
    · cases e; exact ⟨_, _, rfl, rfl, by unfold CDiv; omega, q.here .int⟩
    · cases e
  · cases e
theorem l_pow : Lift2 mg K (rI CPow fun i j => .int (i ^ j.toNat)) powD := by
  intro H S x y a b c Q f ra rb e q
  unfold powD at e
  split at e
  · cases ra.int; cases rb.int
    split at e
    · cases e; exact ⟨_, _, rfl, rfl, by unfold CPow; omega, q.here .int⟩
    · cases e
  · cases e
theorem l_neg : Lift1 mg K (rU fun i => .int (-i)) negD := by
  intro H S x a c Q f ra e q
  unfold negD at e
  split at e
  · cases ra.int; cases e; exact ⟨_, rfl, q.here .int⟩
  · cases e
theorem l_eq : Lift2 mg K (rEqD K) eqD := by
  intro H S x y a b c Q f ra rb e q
  unfold eqD at e
  split at e
  · rename_i h
    cases e
    obtain ⟨h1, h2⟩ := h
    have k1 : a.cmpOk = true := (Bool.and_eq_true_iff.mp h1).1
    have k2 : b.cmpOk = true := (Bool.and_eq_true_iff.mp h2).1
    refine ⟨_, _, ra.dp k1, rb.dp k2, shaped_py h1, shaped_py h2, ?_⟩
    rw [toPy_eqv a b k1 k2]
    exact q.here .bl
  · cases e
theorem l_ne : Lift2 mg K (rNeD K) neD := by
  intro H S x y a b c Q f ra rb e q
  unfold neD at e
  split at e
  · rename_i h
    cases e
    obtain ⟨h1, h2⟩ := h
    have k1 : a.cmpOk = true := (Bool.and_eq_true_iff.mp h1).1
    have k2 : b.cmpOk = true := (Bool.and_eq_true_iff.mp h2).1
    refine ⟨_, _, ra.dp k1, rb.dp k2, shaped_py h1, shaped_py h2, ?_⟩
    rw [toPy_eqv a b k1 k2]
    exact q.here .bl
  · cases e
theorem l_lt : Lift2 mg K (fun x y H Q => rI0 (fun i j => .bl (decide (i < j))) x y H Q ∨ rLtT K x y H Q) ltD := by
  intro H S x y a b c Q f ra rb e q
  unfold ltD at e
  split at e
  · cases ra.int; cases rb.int; cases e; exact .inl ⟨_, _, rfl, rfl, q.here .bl⟩
  · obtain ⟨p, xs, rfl, hp, lx⟩ := ra.tup
    obtain ⟨p', ys, rfl, hp', ly⟩ := rb.tup
    split at e
    · rename_i e1 e2
      cases e
      rw [intsOf_inv e1] at lx
      rw [intsOf_inv e2] at ly
      cases lx.ints_inv; cases ly.ints_inv
      exact .inr ⟨p, p', _, _, rfl, rfl, SqT.of hp, SqT.of hp', q.here .bl⟩
    · cases e
  · cases e
theorem l_leI : Lift2 mg K (rI0 fun i j => .bl (decide (i ≤ j))) leI := by
  intro H S x y a b c Q f ra rb e q
  unfold leI at e
  split at e
  · cases ra.int; cases rb.int; cases e; exact ⟨_, _, rfl, rfl, q.here .bl⟩
  · cases e
theorem l_le : Lift2 mg K (fun x y H Q => rI0 (fun i j => .bl (decide (i ≤ j))) x y H Q ∨ rLeT K x y H Q) leD := by
  intro H S x y a b c Q f ra rb e q
  unfold leD at e
  split at e
  · cases ra.int; cases rb.int; cases e; exact .inl ⟨_, _, rfl, rfl, q.here .bl⟩
  · obtain ⟨p, xs, rfl, hp, lx⟩ := ra.tup
    obtain ⟨p', ys, rfl, hp', ly⟩ := rb.tup
    split at e
    · rename_i e1 e2
      cases e
      rw [intsOf_inv e1] at lx
      rw [intsOf_inv e2] at ly
      cases lx.ints_inv; cases ly.ints_inv
      exact .inr ⟨p, p', _, _, rfl, rfl, SqT.of hp, SqT.of hp', q.here .bl⟩
    · cases e
  · cases e
theorem l_gt : Lift2 mg K (rI0 fun i j => .bl (decide (i > j))) gtD := by
  intro H S x y a b c Q f ra rb e q
  unfold gtD at e
  split at e
  · cases ra.int; cases rb.int; cases e; exact ⟨_, _, rfl, rfl, q.here .bl⟩
  · cases e
theorem l_ge : Lift2 mg K (rI0 fun i j => .bl (decide (i ≥ j))) geD := by
  intro H S x y a b c Q f ra rb e q
  unfold geD at e
  split at e
  · cases ra.int; cases rb.int; cases e; exact ⟨_, _, rfl, rfl, q.here .bl⟩
  · cases e
theorem DRep.isN {H : Hp} {S : List Addr} {d : D} {v : V} (h : DRep mg K H S d v) : decide (v = .non) = match d with | .non => true | _ => false := by
  rcases h with h | ⟨ds, a, xs, rfl, rfl, _⟩
  · cases h <;> simp
  · simp
theorem l_is : Lift2 mg K (fun x y H Q => rIsB x y H Q ∨ (fun x y H Q => y = .non ∧ Q (.bl (decide (x = .non))) H) x y H Q) isD := by
  intro H S x y a b c Q f ra rb e q
  unfold isD at e
  split at e
  · cases ra.bl; cases rb.bl; cases e; exact .inl ⟨_, _, rfl, rfl, q.here .bl⟩
  · cases ra.non; cases rb.non; cases e; exact .inr ⟨rfl, q.here (by simpa using Rep.bl)⟩
  · rename_i hne
    cases rb.non; cases e
    refine .inr ⟨rfl, q.here ?_⟩
    rw [ra.isN]
    cases a <;> first | exact .bl | exact (hne rfl).elim
  · cases e
theorem l_isn : Lift2 mg K (fun x y H Q => rNotB x y H Q ∨ (fun x y H Q => y = .non ∧ Q (.bl (!decide (x = .non))) H) x y H Q) isnD := by
  intro H S x y a b c Q f ra rb e q
  unfold isnD at e
  split at e
  · cases ra.bl; cases rb.bl; cases e; exact .inl ⟨_, _, rfl, rfl, q.here .bl⟩
  · cases ra.non; cases rb.non; cases e; exact .inr ⟨rfl, q.here (by simpa using Rep.bl)⟩
  · rename_i hne
    cases rb.non; cases e
    refine .inr ⟨rfl, q.here ?_⟩
    rw [ra.isN]
    cases a <;> first | exact .bl | exact (hne rfl).elim
  · cases e
theorem DRep.flatR {H : Hp} {S : List Addr} {d : D} {v : V} (h : DRep mg K H S d v) (k : d.flat = true) : Rep mg K (hid H S) d v := by
  rcases h with h | ⟨ds, a, xs, rfl, rfl, _⟩
  · exact h
  · simp [D.flat] at k
theorem any_py {a : D} (ha : a.cmpOk = true) : ∀ {ds : List D}, cmpOkL ds = true → ((toPyL ds).any fun z => PyData.eqv z a.toPy) = ds.any fun z => D.beq z a
  | [], _ => rfl
  | d :: r, h => by
    simp only [cmpOkL, Bool.and_eq_true] at h
    simp only [toPyL, List.any_cons, toPy_eqv d a h.1 ha, any_py ha h.2]
theorem l_in : Lift2 mg K (fun x y H Q => rIn K false x y H Q ∨ rInD K x y H Q) inD := by
  intro H S x y a b c Q f ra rb e q
  obtain ⟨k, e1, rfl⟩ := Option.map_eq_some_iff.mp e
  clear e
  unfold memD at e1
  split at e1
  · obtain ⟨p, xs, rfl, hp, lx⟩ := rb.tup
    split at e1
    · rename_i h
      cases e1
      have ra' := ra.flatR h.1
      refine .inl ⟨p, xs, rfl, .inr (SqT.of hp), ra'.flatV h.1, lx.flatV h.2, ?_⟩
      rw [if_neg (by decide), RepL.inV ra' h.1 lx h.2]
      exact q.here .bl
    · cases e1
  · split at e1
    · rename_i h
      cases e1
      have k1 : a.cmpOk = true := (Bool.and_eq_true_iff.mp h.1).1
      have k2 := (Bool.and_eq_true_iff.mp h.2).1
      have d2 := rb.dp k2
      have s2 := shaped_py h.2
      simp only [D.toPy] at d2 s2
      refine .inr ⟨_, _, ra.dp k1, d2, shaped_py h.1, s2, ?_⟩
      rw [any_py k1 (by simpa [D.cmpOk] using k2)]
      exact q.here .bl
    · cases e1
  · cases e1
theorem l_nin : Lift2 mg K (fun x y H Q => rIn K true x y H Q ∨ rNotInD K x y H Q) ninD := by
  intro H S x y a b c Q f ra rb e q
  obtain ⟨k, e1, rfl⟩ := Option.map_eq_some_iff.mp e
  clear e
  unfold memD at e1
  split at e1
  · obtain ⟨p, xs, rfl, hp, lx⟩ := rb.tup
    split at e1
    · rename_i h
      cases e1
      have ra' := ra.flatR h.1
      refine .inl ⟨p, xs, rfl, .inr (SqT.of hp), ra'.flatV h.1, lx.flatV h.2, ?_⟩
      rw [if_pos rfl, RepL.inV ra' h.1 lx h.2]
      exact q.here .bl
    · cases e1
  · split at e1
    · rename_i h
      cases e1
      have k1 : a.cmpOk = true := (Bool.and_eq_true_iff.mp h.1).1
      have k2 := (Bool.and_eq_true_iff.mp h.2).1
      have d2 := rb.dp k2
      have s2 := shaped_py h.2
      simp only [D.toPy] at d2 s2
      refine .inr ⟨_, _, ra.dp k1, d2, shaped_py h.1, s2, ?_⟩
      rw [any_py k1 (by simpa [D.cmpOk] using k2)]
      exact q.here .bl
    · cases e1
  · cases e1
theorem RepL.atI {G : Hp} {ds : List D} {vs : List V} {i : Int} {d : D} (l : RepL mg K G ds vs) (h : L2.atI ds i = some d) : ∃ v, L2.atI vs i = some v ∧ Rep mg K G d v := by
  unfold L2.atI at h ⊢
  rw [← l.length]
  obtain ⟨j, h1, h2⟩ := Option.bind_eq_some_iff.mp h
  obtain ⟨v, h3, h4⟩ := l.get j h2
  exact ⟨v, by rw [h1]; exact h3, h4⟩
theorem atI_map {α β : Type} (g : α → β) (xs : List α) (i : Int) : L2.atI (xs.map g) i = (L2.atI xs i).map g := by
  unfold L2.atI
  rw [List.length_map]
  cases ixN xs.length i with
  | none => rfl
  | some j => simp
theorem l_ix : Lift2 mg K (fun x y H Q => rIxL K x y H Q ∨ rIxT K x y H Q ∨ rIxS x y H Q) ixD := by
  intro H S x y a b c Q f ra rb e q
  unfold ixD at e
  split at e
  · obtain ⟨p, xs, rfl, hp, lx⟩ := ra.tup
    cases rb.int
    obtain ⟨v, h1, h2⟩ := lx.atI e
    exact .inr (.inl ⟨p, xs, _, v, rfl, rfl, SqT.of hp, h1, q.here h2⟩)
  · obtain ⟨p, xs, rfl, hp, lx⟩ := ra.lst
    cases rb.int
    obtain ⟨v, h1, h2⟩ := lx.atI e
    exact .inl ⟨p, xs, _, v, rfl, rfl, SqL.of hp, h1, q.here h2⟩
  · obtain ⟨p, rfl, hp⟩ := ra.scr
    cases rb.int
    obtain ⟨k, h1, rfl⟩ := Option.map_eq_some_iff.mp e
    exact .inl ⟨p, _, _, .int k, rfl, rfl, hp, by rw [atI_map, h1]; rfl, q.here .int⟩
  · cases ra.str; cases rb.int
    split at e
    · obtain ⟨k, h1, rfl⟩ := Option.map_eq_some_iff.mp e
      exact .inr (.inr ⟨_, _, k, rfl, rfl, by rw [sizeLine_eq]; assumption, h1, q.here .str⟩)
    · cases e
  · cases e
def LiftS (mg : Str → Option Value) (K : PySem.W.Frag) (r : V → Option Int → Option Int → Hp → VK → Prop) : Prop :=
  ∀ (H : Hp) (S : List Addr) (x : V) (a c : D) (lo hi : Option Int) (Q : VK), (∀ p ∈ S, H p ≠ none) → DRep mg K H S a x → slD a lo hi = some c → Ans mg K H S c Q → r x lo hi H Q
theorem RepL.cut {G : Hp} {ds : List D} {vs : List V} (l : RepL mg K G ds vs) (lo hi : Option Int) : RepL mg K G (cutD ds lo hi) (cutV vs lo hi) := by
  unfold cutD cutV
  rw [← l.length]
  exact (l.drop _).take _
theorem cut_whole {ds : List D} {lo hi : Option Int} (h : HT.sIx ds.length 0 lo = 0 ∧ HT.sIx ds.length ds.length hi = ds.length) : cutD ds lo hi = ds := by
  unfold cutD
  rw [h.1, h.2, List.drop_zero, Nat.sub_zero, List.take_length]
theorem l_sl : LiftS mg K (fun x lo hi H Q => rSlA K x lo hi H Q ∨ rSlL K x lo hi H Q ∨ rSlS x lo hi H Q) := by
  intro H S x a c lo hi Q f ra e q
  unfold slD at e
  split at e
  · obtain ⟨p, xs, rfl, hp, lx⟩ := ra.tup
    cases e
    refine .inl ⟨p, xs, rfl, SqT.of hp, fun h => ?_, fun h r hr => q.tup f (lx.cut _ _) hr⟩
    rw [← lx.length] at h
    rw [cut_whole h] at q
    rcases ra with ra | ⟨_, _, _, z, _⟩
    · exact q.here ra
    · cases z
  · obtain ⟨p, xs, rfl, hp, lx⟩ := ra.lst
    cases e
    exact .inr (.inl ⟨p, xs, rfl, SqL.of hp, fun r hr => q.lst f (lx.cut _ _) hr⟩)
  · cases ra.str
    split at e
    · cases e; exact .inr (.inr ⟨_, rfl, by rw [sizeLine_eq]; assumption, q.here .str⟩)
    · cases e
  · cases e
theorem DRepL.one {H : Hp} {S : List Addr} {d : D} {vs : List V} (h : DRepL mg K H S [d] vs) : ∃ v, vs = [v] ∧ DRep mg K H S d v := by
  cases h with
  | cons h l => cases l; exact ⟨_, rfl, h⟩
theorem DRepL.two {H : Hp} {S : List Addr} {d e : D} {vs : List V} (h : DRepL mg K H S [d, e] vs) : ∃ v u, vs = [v, u] ∧ DRep mg K H S d v ∧ DRep mg K H S e u := by
  cases h with
  | cons h l => obtain ⟨u, rfl, k⟩ := l.one; exact ⟨_, u, rfl, h, k⟩
theorem DRepL.three {H : Hp} {S : List Addr} {d e g : D} {vs : List V} (h : DRepL mg K H S [d, e, g] vs) : ∃ v u w, vs = [v, u, w] ∧ DRep mg K H S d v ∧ DRep mg K H S e u ∧ DRep mg K H S g w := by
  cases h with
  | cons h l => obtain ⟨u, w, rfl, k, m⟩ := l.two; exact ⟨_, u, w, rfl, h, k, m⟩
theorem l_len : LiftN mg K (fun xs H Q => ∃ x n, xs = [x] ∧ LenV K x H n ∧ Q (.int (n : Nat)) H) lenD := by
  intro H S xs ds c Q f ra e q
  unfold lenD at e
  split at e
  · obtain ⟨v, rfl, h⟩ := ra.one
    obtain ⟨p, ys, rfl, hp, lx⟩ := h.tup
    cases e
    exact ⟨_, _, rfl, .inr ⟨ys, SqT.of hp, rfl⟩, by rw [← lx.length]; exact q.here .int⟩
  · obtain ⟨v, rfl, h⟩ := ra.one
    obtain ⟨p, ys, rfl, hp, lx⟩ := h.lst
    cases e
    exact ⟨_, _, rfl, .inl ⟨ys, SqL.of hp, rfl⟩, by rw [← lx.length]; exact q.here .int⟩
  · obtain ⟨v, rfl, h⟩ := ra.one
    obtain ⟨p, rfl, hp⟩ := h.scr
    cases e
    exact ⟨_, _, rfl, .inl ⟨_, hp, rfl⟩, by rw [List.length_map]; exact q.here .int⟩
  · obtain ⟨v, rfl, h⟩ := ra.one
    cases h.str
    split at e
    · cases e; exact ⟨_, _, rfl, ⟨by rw [sizeLine_eq]; assumption, rfl⟩, q.here .int⟩
    · cases e
  · cases e
theorem l_tuple : LiftN mg K (fun xs H Q => ∃ p ys, xs = [.ref p] ∧ ((SqL K H p ys ∧ ∀ l, H l = none → Q (.ref l) (upd H l (.tup ys))) ∨ (SqT K H p ys ∧ Q (.ref p) H))) tupleD := by
  intro H S xs ds c Q f ra e q
  unfold tupleD at e
  split at e
  · obtain ⟨v, rfl, h⟩ := ra.one
    obtain ⟨p, ys, rfl, hp, lx⟩ := h.tup
    cases e
    refine ⟨p, ys, rfl, .inr ⟨SqT.of hp, ?_⟩⟩
    rcases h with h | ⟨_, _, _, z, _⟩
    · exact q.here h
    · cases z
  · obtain ⟨v, rfl, h⟩ := ra.one
    obtain ⟨p, ys, rfl, hp, lx⟩ := h.lst
    cases e
    exact ⟨p, ys, rfl, .inl ⟨SqL.of hp, fun r hr => q.tup f lx hr⟩⟩
  · cases e
theorem l_list : LiftN mg K (fun xs H Q => ∃ p ys, xs = [.ref p] ∧ (SqL K H p ys ∨ SqT K H p ys) ∧ ∀ l, H l = none → Q (.ref l) (upd H l (.lst ys))) listD := by
  intro H S xs ds c Q f ra e q
  unfold listD at e
  split at e
  · obtain ⟨v, rfl, h⟩ := ra.one
    obtain ⟨p, ys, rfl, hp, lx⟩ := h.tup
    cases e
    exact ⟨p, ys, rfl, .inr (SqT.of hp), fun r hr => q.lst f lx hr⟩
  · obtain ⟨v, rfl, h⟩ := ra.one
    obtain ⟨p, ys, rfl, hp, lx⟩ := h.lst
    cases e
    exact ⟨p, ys, rfl, .inl (SqL.of hp), fun r hr => q.lst f lx hr⟩
  · cases e
theorem l_int : LiftN mg K (fun xs H Q => (∃ i, xs = [.int i] ∧ Q (.int i) H) ∨ ∃ k : Bool, xs = [.bl k] ∧ Q (.int (if k = true then 1 else 0)) H) intD := by
  intro H S xs ds c Q f ra e q
  unfold intD at e
  split at e
  · obtain ⟨v, rfl, h⟩ := ra.one
    cases h.int; cases e; exact .inl ⟨_, rfl, q.here .int⟩
  · obtain ⟨v, rfl, h⟩ := ra.one
    cases h.bl; cases e; exact .inr ⟨_, rfl, q.here .int⟩
  · cases e
theorem l_str : LiftN mg K (fun xs H Q => ∃ i : Int, xs = [.int i] ∧ i.natAbs.log2 < 1920 ∧ Q (.str (toString i)) H) strD := by
  intro H S xs ds c Q f ra e q
  unfold strD at e
  split at e
  · obtain ⟨v, rfl, h⟩ := ra.one
    cases h.int
    split at e
    · cases e; exact ⟨_, rfl, by assumption, q.here .str⟩
    · cases e
  · cases e
theorem l_bool : LiftN mg K (fun xs H Q => (∃ i, xs = [.int i] ∧ Q (.bl (i != 0)) H) ∨ ∃ k : Bool, xs = [.bl k] ∧ Q (.bl k) H) boolD := by
  intro H S xs ds c Q f ra e q
  unfold boolD at e
  split at e
  · obtain ⟨v, rfl, h⟩ := ra.one
    cases h.int; cases e; exact .inl ⟨_, rfl, q.here .bl⟩
  · obtain ⟨v, rfl, h⟩ := ra.one
    cases h.bl; cases e; exact .inr ⟨_, rfl, q.here .bl⟩
  · cases e
theorem DRep.ints {H : Hp} {S : List Addr} {ds : List D} {ns : List Int} {v : V} (h : DRep mg K H S (.lst ds) v) (e : intsOf ds = some ns) : ∃ p, v = .ref p ∧ SqL K H p (ns.map V.int) := by
  obtain ⟨p, ys, rfl, hp, lx⟩ := h.lst
  rw [intsOf_inv e] at lx
  rw [lx.ints_inv] at hp
  exact ⟨p, rfl, SqL.of hp⟩
theorem l_sum : LiftN mg K (rSum K) sumD := by
  intro H S xs ds c Q f ra e q
  unfold sumD at e
  split at e
  · obtain ⟨v, rfl, h⟩ := ra.one
    obtain ⟨ns, e1, rfl⟩ := Option.map_eq_some_iff.mp e
    obtain ⟨p, rfl, hp⟩ := h.ints e1
    exact ⟨p, ns, rfl, hp, q.here .int⟩
  · cases e
theorem l_all : LiftN mg K (rAll K) allD := by
  intro H S xs ds c Q f ra e q
  unfold allD at e
  split at e
  · obtain ⟨v, rfl, h⟩ := ra.one
    obtain ⟨ns, e1, rfl⟩ := Option.map_eq_some_iff.mp e
    obtain ⟨p, ys, rfl, hp, lx⟩ := h.lst
    rw [blsOf_inv e1] at lx
    have : ys = ns.map V.bl := by
      clear hp e e1 h ra q
      induction ns generalizing ys with
      | nil => cases lx; rfl
      | cons n r ih => cases lx with | cons h l => cases h; rw [ih _ l]; rfl
    subst this
    exact ⟨p, ns, rfl, SqL.of hp, q.here .bl⟩
  · cases e
theorem l_any : LiftN mg K (rAny K) anyD := by
  intro H S xs ds c Q f ra e q
  unfold anyD at e
  split at e
  · obtain ⟨v, rfl, h⟩ := ra.one
    obtain ⟨ns, e1, rfl⟩ := Option.map_eq_some_iff.mp e
    obtain ⟨p, ys, rfl, hp, lx⟩ := h.lst
    rw [blsOf_inv e1] at lx
    have : ys = ns.map V.bl := by
      clear hp e e1 h ra q
      induction ns generalizing ys with
      | nil => cases lx; rfl
      | cons n r ih => cases lx with | cons h l => cases h; rw [ih _ l]; rfl
    subst this
    exact ⟨p, ns, rfl, SqL.of hp, q.here .bl⟩
  · cases e
theorem l_sorted : LiftN mg K (rSorted K) sortedD := by
  intro H S xs ds c Q f ra e q
  unfold sortedD at e
  split at e
  · obtain ⟨v, rfl, h⟩ := ra.one
    obtain ⟨ns, e1, e2⟩ := Option.bind_eq_some_iff.mp e
    obtain ⟨p, rfl, hp⟩ := h.ints e1
    split at e2
    · cases e2
      refine ⟨p, ns, rfl, hp, by assumption, fun ns' r hperm hsort hr => ?_⟩
      rw [sortI_uniq hperm hsort]
      exact q.lst f (RepL.ints _) hr
    · cases e2
  · cases e
def rMx (K : PySem.W.Frag) : List V → Hp → VK → Prop := fun vs H Q => (∃ i j, vs = [.int i, .int j] ∧ Q (.int (if j > i then j else i)) H) ∨ rMax K vs H Q ∨
  ∃ i j k, vs = [.int i, .int j, .int k] ∧ Q (.int (if j > i then (if k > j then k else j) else if k > i then k else i)) H
def rMn (K : PySem.W.Frag) : List V → Hp → VK → Prop := fun vs H Q => (∃ i j, vs = [.int i, .int j] ∧ Q (.int (if j < i then j else i)) H) ∨ rMin K vs H Q
theorem l_max : LiftN mg K (rMx K) maxD := by
  intro H S xs ds c Q f ra e q
  unfold maxD at e
  split at e
  · obtain ⟨v, u, rfl, h, k⟩ := ra.two
    cases h.int; cases k.int; cases e
    refine .inl ⟨_, _, rfl, ?_⟩
    rename_i i j
    rw [show (if j > i then j else i) = max i j by split <;> omega]
    exact q.here .int
  · obtain ⟨v, u, w, rfl, h, h2, h3⟩ := ra.three
    cases h.int; cases h2.int; cases h3.int; cases e
    refine .inr (.inr ⟨_, _, _, rfl, ?_⟩)
    rename_i i j k
    rw [show (if j > i then (if k > j then k else j) else if k > i then k else i) = max (max i j) k by split <;> split <;> omega]
    exact q.here .int
  · obtain ⟨v, rfl, h⟩ := ra.one
    obtain ⟨ns, e1, e2⟩ := Option.bind_eq_some_iff.mp e
    obtain ⟨p, rfl, hp⟩ := h.ints e1
    obtain ⟨n, e3, rfl⟩ := Option.map_eq_some_iff.mp e2
    cases ns with
    | nil => cases e3
    | cons x r =>
      cases e3
      refine .inr (.inl ⟨p, x :: r, rfl, hp, by simp, fun m hm hall => ?_⟩)
      have e : m = r.foldl max x := by
        have h1 : m ≤ r.foldl max x := by
          rcases List.mem_cons.mp hm with rfl | hm
          · exact (foldl_max_le r _).1
          · exact (foldl_max_le r _).2 m hm
        have h2 : r.foldl max x ≤ m := by
          apply hall
          rcases foldl_max_mem r x with z | z
          · rw [z]; exact List.mem_cons_self
          · exact List.mem_cons_of_mem _ z
        omega
      rw [e]
      exact q.here .int
  · cases e
theorem l_min : LiftN mg K (rMn K) minD := by
  intro H S xs ds c Q f ra e q
  unfold minD at e
  split at e
  · obtain ⟨v, u, rfl, h, k⟩ := ra.two
    cases h.int; cases k.int; cases e
    refine .inl ⟨_, _, rfl, ?_⟩
    rename_i i j
    rw [show (if j < i then j else i) = min i j by split <;> omega]
    exact q.here .int
  · obtain ⟨v, rfl, h⟩ := ra.one
    obtain ⟨ns, e1, e2⟩ := Option.bind_eq_some_iff.mp e
    obtain ⟨p, rfl, hp⟩ := h.ints e1
    obtain ⟨n, e3, rfl⟩ := Option.map_eq_some_iff.mp e2
    cases ns with
    | nil => cases e3
    | cons x r =>
      cases e3
      refine .inr ⟨p, x :: r, rfl, hp, by simp, fun m hm hall => ?_⟩
      have e : m = r.foldl min x := by
        have h1 : r.foldl min x ≤ m := by
          rcases List.mem_cons.mp hm with rfl | hm
          · exact (foldl_min_le r _).1
          · exact (foldl_min_le r _).2 m hm
        have h2 : m ≤ r.foldl min x := by
          apply hall
          rcases foldl_min_mem r x with z | z
          · rw [z]; exact List.mem_cons_self
          · exact List.mem_cons_of_mem _ z
        omega
      rw [e]
      exact q.here .int
  · cases e
end
end DL

set_option Elab.async false
set_option linter.all false
set_option maxRecDepth 100000
set_option maxHeartbeats 1000000
/-! DLRules: expressions, tests, targets, statements, loops, comprehensions, defs and their calls by plain functions -/
namespace DL
open PySem PySem.Spec PyProof.Rows L2
variable [TabCtx]

/-! ### the surroundings -/
/-- what is asked of a running frame or block -/
structure Cxb (X : Cx) (CX : CXT) (W : WXD) (k : Nat) : Prop where
  calm : X.calm = true
  nd : X.N.Nodup
  pas : ∀ σ, PassesAt CX X σ (fun c d H => W c d σ H)
  room : Room k X.A
  sil : ∀ (Y : Cx) (σ : L2.St), Y.prog = X.prog → Y.w = X.w → PassesAt CX Y σ (fun _ _ _ => False)
abbrev W0 : WXD := fun _ _ _ _ => False
structure Cxt (X : Cx) (CX : CXT) (W : WXD) (k : Nat) : Prop extends Cxb X CX W k where
  own : PassesOwn (model X.prog X.w) X.A X.env X.xe
theorem Cxb.hu {X : Cx} {CX : CXT} {W : WXD} {k : Nat} (C : Cxb X CX W k) : X.A.units + 64 < cLine := Nat.lt_of_le_of_lt (Nat.le_refl _) C.room.units

/-! ### expressions -/
def eV (i : Nat) : EF := fun ρ μ => match ρ[i]? with
  | some (some s) => .ok s μ
  | _ => .no
def eC (d : D) : EF := fun _ μ => .ok (.d d) μ
def e1 (g : D → Option D) (fa : EF) : EF := fun ρ μ => (fa ρ μ).bind fun x μ1 => o1 g x μ1
def e2 (g : D → D → Option D) (fa fb : EF) : EF := fun ρ μ => (fa ρ μ).bind fun x μ1 => (fb ρ μ1).bind fun y μ2 => o2 g x y μ2
def aNil : AF := fun _ μ => .ok [] μ
def aCons (fa : EF) (fr : AF) : AF := fun ρ μ => (fa ρ μ).bind fun x μ1 => (fr ρ μ1).bind fun xs μ2 => .ok (x :: xs) μ2
def eN (g : List D → Option D) (fa : AF) : EF := fun ρ μ => (fa ρ μ).bind fun xs μ1 => oN g xs μ1
/-- data only -/
def dsOf : List Sl → Option (List D)
  | [] => some []
  | .d x :: r => (dsOf r).map (x :: ·)
  | .ob _ :: _ => none
  | .clo _ :: _ => none
def eTup (fa : AF) : EF := fun ρ μ => (fa ρ μ).bind fun xs μ1 => match dsOf xs with
  | some ds => if ds.length ≤ 16777216 then .ok (.d (.tup ds)) μ1 else .no
  | none => .no
/-- what makes a new list -/
abbrev LF := Rho → Store → Res (List D)
def lLst (fa : AF) : LF := fun ρ μ => (fa ρ μ).bind fun xs μ1 => match dsOf xs with
  | some ds => if ds.length ≤ 16777216 then .ok ds μ1 else .no
  | none => .no
def eFrz (f : LF) : EF := fun ρ μ => (f ρ μ).bind fun ds μ1 => .ok (.d (.lst ds)) μ1
def eNew (f : LF) : EF := fun ρ μ => (f ρ μ).bind fun ds μ1 => .ok (.ob μ1.length) (μ1 ++ [.lst ds])
def lCat (fa fb : EF) : LF := fun ρ μ => (fa ρ μ).bind fun x μ1 => (fb ρ μ1).bind fun y μ2 => match dr μ2 x, dr μ2 y with
  | some (.lst a), some (.lst b) => if a.length + b.length ≤ 16777216 then .ok (a ++ b) μ2 else .no
  | _, _ => .no
def bV (f : EF) : BF := fun ρ μ => (f ρ μ).bind fun x μ1 => match x with
  | .d (.bl b) => .ok b μ1
  | _ => .no
def bAnd (f g : BF) : BF := fun ρ μ => (f ρ μ).bind fun c μ1 => if c = true then g ρ μ1 else .ok false μ1
def bOr (f g : BF) : BF := fun ρ μ => (f ρ μ).bind fun c μ1 => if c = true then .ok true μ1 else g ρ μ1
def bNot (f : BF) : BF := fun ρ μ => (f ρ μ).bind fun c μ1 => .ok (!c) μ1
def eAnd (f g : EF) : EF := fun ρ μ => (f ρ μ).bind fun x μ1 => match x with
  | .d (.bl true) => g ρ μ1
  | .d (.bl false) => .ok (.d (.bl false)) μ1
  | _ => .no
def eOr (f g : EF) : EF := fun ρ μ => (f ρ μ).bind fun x μ1 => match x with
  | .d (.bl true) => .ok (.d (.bl true)) μ1
  | .d (.bl false) => g ρ μ1
  | _ => .no
def eNot (f : EF) : EF := fun ρ μ => (f ρ μ).bind fun x μ1 => match x with
  | .d (.bl b) => .ok (.d (.bl (!b))) μ1
  | _ => .no
def eIf (c : BF) (f g : EF) : EF := fun ρ μ => (c ρ μ).bind fun b μ1 => if b = true then f ρ μ1 else g ρ μ1
/-- a < b < c -/
def eChn (g h : D → D → Option D) (fa fb fc : EF) : EF := fun ρ μ => (fa ρ μ).bind fun x μ1 => (fb ρ μ1).bind fun y μ2 => (o2 g x y μ2).bind fun r μ3 => match r with
  | .d (.bl true) => (fc ρ μ3).bind fun z μ4 => o2 h y z μ4
  | .d (.bl false) => .ok (.d (.bl false)) μ3
  | _ => .no
abbrev OF := Rho → Store → Res (Option Int)
def pNone : OF := fun _ μ => .ok none μ
def pSome (f : EF) : OF := fun ρ μ => (f ρ μ).bind fun x μ1 => match x with
  | .d (.int i) => .ok (some i) μ1
  | _ => .no
def eSl (fa : EF) (lo hi : OF) : EF := fun ρ μ => (fa ρ μ).bind fun x μ1 => (lo ρ μ1).bind fun l μ2 => (hi ρ μ2).bind fun h μ3 => o1 (fun a => slD a l h) x μ3
def eIsI (T : String) (f : EF) : EF := fun ρ μ => (f ρ μ).bind fun x μ1 => o1 (isiD T) x μ1
def eApp (fo fe : EF) : EF := fun ρ μ => (fo ρ μ).bind fun o μ1 => match o with
  | .ob n => match μ1[n]? with
    | some (.lst _) => (fe ρ μ1).bind fun e μ2 => match e, μ2[n]? with
      | .d x, some (.lst ds) => if ds.length < 16777216 then .ok (.d .non) (μ2.set n (.lst (ds ++ [x]))) else .no
      | _, _ => .no
    | _ => .no
  | _ => .no
def ePop (fo : EF) : EF := fun ρ μ => (fo ρ μ).bind fun o μ1 => match o with
  | .ob n => match μ1[n]? with
    | some (.lst ds) => match ds[ds.length - 1]? with
      | some x => .ok (.d x) (μ1.set n (.lst ds.dropLast))
      | none => .no
    | _ => .no
  | _ => .no
def ePop0 (fo : EF) : EF := fun ρ μ => (fo ρ μ).bind fun o μ1 => match o with
  | .ob n => match μ1[n]? with
    | some (.lst (x :: r)) => .ok (.d x) (μ1.set n (.lst r))
    | _ => .no
  | _ => .no

section
variable {X : Cx} {W : WXD} {CX : CXT} {k : Nat}
theorem pd_v (i : Nat) {x : Str} {pos : Pos} (hN : X.N[i]? = some x := by rfl) (hv : Vis X.env.scope x := by first | exact Or.inl rfl | exact Or.inr (Or.inl rfl) | exact Or.inr (Or.inr rfl)) (hd : (x == ("__debug__" : Str)) = false := by decide)
    (hcd : (x == ("__classdict__" : Str)) = false := by decide) : PEd X W (.Name x pos) (eV i) := by
  refine PE.imp (pe_var hN hv hd hcd) fun σ H Q h => ?_
  obtain ⟨η, θ, μ, ρ, ok, rs, fin⟩ := h
  unfold eV at fin
  split at fin
  · rename_i s e
    obtain ⟨v, h1, h2⟩ := rs.at_ i s e
    exact ⟨v, h1, fin.done (Step.refl ok) h2⟩
  · exact fin.elim
theorem pd_c {e : Expr} {d : D} {v : V} (h : PE X e (tC v)) (r : ∀ G, Rep X.mg X.K G d v) : PEd X W e (eC d) := by
  refine PE.imp h fun σ H Q h => ?_
  obtain ⟨η, θ, μ, ρ, ok, rs, fin⟩ := h
  exact fin.done (Step.refl ok) (.d (r _))
theorem pd_int {i j pos} : PEd X W (.Constant (.int i) j pos) (eC (.int i)) := pd_c pe_int fun _ => .int
theorem pd_bl {b j pos} : PEd X W (.Constant (.bool b) j pos) (eC (.bl b)) := pd_c pe_bl fun _ => .bl
theorem pd_non {j pos} : PEd X W (.Constant .none j pos) (eC .non) := pd_c pe_non fun _ => .non
theorem pd_str {x j pos} : PEd X W (.Constant (.str x) j pos) (eC (.str x)) := pd_c pe_str fun _ => .str
theorem pd_gint {x : Str} {i : Int} {t : Tok} {pos : Pos} (hg : Gl X x) (hm : X.mg x = some (.int i t)) (hd : (x == ("__debug__" : Str)) = false := by decide) : PEd X W (.Name x pos) (eC (.int i)) := pd_c (v := .int i) (pe_glob hg hm ⟨_, rfl⟩ hd) fun _ => .int
theorem pd_gstr {x : Str} {i : Str} {t : Tok} {pos : Pos} (hg : Gl X x) (hm : X.mg x = some (.str i t)) (hd : (x == ("__debug__" : Str)) = false := by decide) : PEd X W (.Name x pos) (eC (.str i)) := pd_c (v := .str i) (pe_glob hg hm ⟨_, rfl⟩ hd) fun _ => .str
theorem pd_gintE {x : Str} {i : Int} {pos : Pos} (hg : Gl X x) (hm : ∃ t, X.mg x = some (.int i t)) (hd : (x == ("__debug__" : Str)) = false := by decide) : PEd X W (.Name x pos) (eC (.int i)) := let ⟨_, h⟩ := hm; pd_gint hg h hd
theorem pd_gstrE {x : Str} {i : Str} {pos : Pos} (hg : Gl X x) (hm : ∃ t, X.mg x = some (.str i t)) (hd : (x == ("__debug__" : Str)) = false := by decide) : PEd X W (.Name x pos) (eC (.str i)) := let ⟨_, h⟩ := hm; pd_gstr hg h hd
theorem pd_gfn {x : Str} {a : Addr} {pos : Pos} (hg : Gl X x) (hm : X.mg x = some (.ref a)) (hd : (x == ("__debug__" : Str)) = false := by decide) : PEd X W (.Name x pos) (eC (.fn x)) := pd_c (v := .ref a) (pe_glob hg hm rfl hd) fun _ => .fn hm

/-- two operands, whatever is made of them -/
theorem two_ok {ta tb : TE} {fa fb : EF} {g : Sl → Sl → Store → Res Sl} {r : R2} (ea : ta = tD X.mg X.K W fa) (eb : tb = tD X.mg X.K W fb)
    (hl : ∀ {E η θ μ H x y dx dy Q}, StOk X.mg X.K η H θ μ → RepSl X.mg X.K (hid H (θ ++ η)) θ dx x → RepSl X.mg X.K (hid H (θ ++ η)) θ dy y → Fin X.mg X.K E η H θ (RepSl X.mg X.K) (g dx dy μ) Q → r x y H Q)
    (σ : L2.St) (H : Hp) (Q : VK) (h : tD X.mg X.K W (fun ρ μ => (fa ρ μ).bind fun x μ1 => (fb ρ μ1).bind fun y μ2 => g x y μ2) σ H Q) : tOp r ta tb σ H Q := by
  obtain ⟨η, θ, μ, ρ, ok, rs, fin⟩ := h
  subst ea eb
  refine ⟨η, θ, μ, ρ, ok, rs, fin.andThen fun dx μ1 x H1 θ1 _ st rx fin1 => ⟨η, θ1, μ1, ρ, st.ok, rs.step st, fin1.andThen fun dy μ2 y H2 θ2 _ st2 ry fin2 => hl st2.ok (rx.step st2) ry fin2⟩⟩
theorem pd_op {a b : Expr} {fa fb : EF} {pos : Pos} {op : Operator} {r : R2} {g : D → D → Option D} (hr : OpR X (binaryOp op) r) (hl : Lift2 X.mg X.K r g) (ha : PEd X W a fa) (hb : PEd X W b fb) : PEd X W (.BinOp a op b pos) (e2 g fa fb) :=
  PE.imp (pe_op hr ha hb) (two_ok rfl rfl fun s rx ry f => hl.fin s rx ry f)
theorem pd_cmp {a b : Expr} {fa fb : EF} {pos : Pos} {op : CmpOp} {r : R2} {g : D → D → Option D} (hr : OpR X (compareOp op) r) (hl : Lift2 X.mg X.K r g) (ha : PEd X W a fa) (hb : PEd X W b fb) (hm : behindInMarks op b = false) : PEd X W (.Compare a [op] [b] pos) (e2 g fa fb) :=
  PE.imp (pe_cmpR hr ha hb hm) (two_ok rfl rfl fun s rx ry f => hl.fin s rx ry f)
theorem pd_add {a b : Expr} {fa fb : EF} {pos : Pos} (ha : PEd X W a fa) (hb : PEd X W b fb) : PEd X W (.BinOp a .Add b pos) (e2 addD fa fb) := pd_op (op_add.or (op_add_str.or (op_catA.or op_cat))) l_add ha hb
theorem pd_sub {a b : Expr} {fa fb : EF} {pos : Pos} (ha : PEd X W a fa) (hb : PEd X W b fb) : PEd X W (.BinOp a .Sub b pos) (e2 subD fa fb) := pd_op op_sub l_sub ha hb
theorem pd_mul {a b : Expr} {fa fb : EF} {pos : Pos} (ha : PEd X W a fa) (hb : PEd X W b fb) : PEd X W (.BinOp a .Mult b pos) (e2 mulD fa fb) := pd_op (op_mul.or (op_rep.or op_repA)) l_mul ha hb
theorem pd_mod {a b : Expr} {fa fb : EF} {pos : Pos} (ha : PEd X W a fa) (hb : PEd X W b fb) : PEd X W (.BinOp a .Mod b pos) (e2 modD fa fb) := pd_op op_mod l_mod ha hb
theorem pd_fdiv {a b : Expr} {fa fb : EF} {pos : Pos} (ha : PEd X W a fa) (hb : PEd X W b fb) : PEd X W (.BinOp a .FloorDiv b pos) (e2 fdivD fa fb) := pd_op op_fdiv l_fdiv ha hb
theorem pd_pow {a b : Expr} {fa fb : EF} {pos : Pos} (ha : PEd X W a fa) (hb : PEd X W b fb) : PEd X W (.BinOp a .Pow b pos) (e2 powD fa fb) := pd_op op_pow l_pow ha hb
theorem pd_eq {a b : Expr} {fa fb : EF} {pos : Pos} (C : Cxb X CX W k) (ha : PEd X W a fa) (hb : PEd X W b fb) : PEd X W (.Compare a [.Eq] [b] pos) (e2 eqD fa fb) := pd_cmp (op_eqD C.hu) l_eq ha hb (nomark _)
theorem pd_ne {a b : Expr} {fa fb : EF} {pos : Pos} (C : Cxb X CX W k) (ha : PEd X W a fa) (hb : PEd X W b fb) : PEd X W (.Compare a [.NotEq] [b] pos) (e2 neD fa fb) := pd_cmp (op_neD C.hu) l_ne ha hb (nomark _)
theorem pd_lt {a b : Expr} {fa fb : EF} {pos : Pos} (C : Cxb X CX W k) (ha : PEd X W a fa) (hb : PEd X W b fb) : PEd X W (.Compare a [.Lt] [b] pos) (e2 ltD fa fb) := pd_cmp (op_lt.or (op_ltT (by have := C.hu; omega))) l_lt ha hb (nomark _)
theorem pd_le {a b : Expr} {fa fb : EF} {pos : Pos} (C : Cxb X CX W k) (ha : PEd X W a fa) (hb : PEd X W b fb) : PEd X W (.Compare a [.LtE] [b] pos) (e2 leD fa fb) := pd_cmp (op_le.or (op_leT (by have := C.hu; omega))) l_le ha hb (nomark _)
theorem pd_gt {a b : Expr} {fa fb : EF} {pos : Pos} (ha : PEd X W a fa) (hb : PEd X W b fb) : PEd X W (.Compare a [.Gt] [b] pos) (e2 gtD fa fb) := pd_cmp op_gt l_gt ha hb (nomark _)
theorem pd_ge {a b : Expr} {fa fb : EF} {pos : Pos} (ha : PEd X W a fa) (hb : PEd X W b fb) : PEd X W (.Compare a [.GtE] [b] pos) (e2 geD fa fb) := pd_cmp op_ge l_ge ha hb (nomark _)
theorem pd_is {a b : Expr} {fa fb : EF} {pos : Pos} (ha : PEd X W a fa) (hb : PEd X W b fb) : PEd X W (.Compare a [.Is] [b] pos) (e2 isD fa fb) := pd_cmp (op_isBl.or op_isN) l_is ha hb (nomark _)
theorem pd_isn {a b : Expr} {fa fb : EF} {pos : Pos} (ha : PEd X W a fa) (hb : PEd X W b fb) : PEd X W (.Compare a [.IsNot] [b] pos) (e2 isnD fa fb) := pd_cmp (op_notBl.or op_notN) l_isn ha hb (nomark _)
theorem pd_in {a b : Expr} {fa fb : EF} {pos : Pos} (C : Cxb X CX W (k + 1)) (ha : PEd X W a fa) (hb : PEd X W b fb) (hm : behindInMarks .In b = false := by rfl) : PEd X W (.Compare a [.In] [b] pos) (e2 inD fa fb) :=
  pd_cmp (op_in_seq.or (op_inD (by have := C.room.un; have := C.hu; omega))) l_in ha hb hm
theorem pd_nin {a b : Expr} {fa fb : EF} {pos : Pos} (C : Cxb X CX W (k + 1)) (ha : PEd X W a fa) (hb : PEd X W b fb) (hm : behindInMarks .NotIn b = false := by rfl) : PEd X W (.Compare a [.NotIn] [b] pos) (e2 ninD fa fb) :=
  pd_cmp (op_notIn_seq.or (op_notInD (by have := C.room.un; have := C.hu; omega))) l_nin ha hb hm
theorem pd_neg {a : Expr} {fa : EF} {pos : Pos} (ha : PEd X W a fa) : PEd X W (.UnaryOp .USub a pos) (e1 negD fa) := by
  refine PE.imp (pe_un un_neg ha) fun σ H Q h => ?_
  obtain ⟨η, θ, μ, ρ, ok, rs, fin⟩ := h
  exact ⟨η, θ, μ, ρ, ok, rs, fin.andThen fun dx μ1 x H1 θ1 _ st rx fin1 => l_neg.fin st.ok rx fin1⟩
theorem IxR.or {r r' : R2} (h : IxR X r) (h' : IxR X r') : IxR X (fun x y H Q => r x y H Q ∨ r' x y H Q) := by
  intro value slice pins s σ H x y v u Q I rx ry q e
  rcases q with q | q
  · exact h value slice pins s σ H x y v u Q I rx ry q e
  · exact h' value slice pins s σ H x y v u Q I rx ry q e
theorem SlR.or {r r' : V → Option Int → Option Int → Hp → VK → Prop} (h : SlR X r) (h' : SlR X r') : SlR X (fun x lo hi H Q => r x lo hi H Q ∨ r' x lo hi H Q) := by
  intro pins s σ H x v vl vu lo hi sl Q I rx hs p1 p2 q
  rcases q with q | q
  · exact h pins s σ H x v vl vu lo hi sl Q I rx hs p1 p2 q
  · exact h' pins s σ H x v vl vu lo hi sl Q I rx hs p1 p2 q
theorem pd_ix {a b : Expr} {fa fb : EF} {pos : Pos} (ha : PEd X W a fa) (hb : PEd X W b fb) (hp : PlainIx b := by intro _ _; rfl) : PEd X W (.Subscript a b pos) (e2 ixD fa fb) :=
  PE.imp (pe_ix (IxR.or ix_list (IxR.or ix_tup ix_str)) ha hb hp) (two_ok rfl rfl fun s rx ry f => l_ix.fin s rx ry f)

/-! arguments -/
theorem pd_nil : PAd X W [] aNil := by
  refine PA.imp pa_nil fun σ H Q h => ?_
  obtain ⟨η, θ, μ, ρ, ok, rs, fin⟩ := h
  exact fin.done (Step.refl ok) .nil
theorem pd_cons {e : Expr} {es : List Expr} {fa : EF} {fr : AF} (ha : PEd X W e fa) (hr : PAd X W es fr) (hs : starEach (e :: es) X.env = (false, eval e X.env) :: starEach es X.env := by rfl) : PAd X W (e :: es) (aCons fa fr) := by
  refine PA.imp (pa_cons ha hr hs) fun σ H Q h => ?_
  obtain ⟨η, θ, μ, ρ, ok, rs, fin⟩ := h
  refine ⟨η, θ, μ, ρ, ok, rs, fin.andThen fun dx μ1 x H1 θ1 _ st rx fin1 => ⟨η, θ1, μ1, ρ, st.ok, rs.step st, fin1.andThen fun dy μ2 y H2 θ2 _ st2 ry fin2 => ?_⟩⟩
  exact fin2.done (Step.refl st2.ok) (.cons (rx.step st2) ry)
theorem dsOf_rep {mg : Str → Option Value} {K : PySem.W.Frag} {G : Hp} {θ : List Addr} : ∀ {ss : List Sl} {vs : List V} {ds : List D}, RepA mg K G θ ss vs → dsOf ss = some ds → RepL mg K G ds vs
  | [], _, _, .nil, e => by cases e; exact .nil
  | .d x :: r, _, _, .cons (.d h) l, e => by
    simp only [dsOf, Option.map_eq_some_iff] at e
    obtain ⟨ds, e1, rfl⟩ := e
    exact .cons h (dsOf_rep l e1)
  | .ob _ :: _, _, _, _, e => by cases e
  | .clo _ :: _, _, _, _, e => by cases e
theorem pd_tup {es : List Expr} {fa : AF} {pos : Pos} {n : Nat} (ha : PAd X W es fa) : PEd X W (.Tuple es n pos) (eTup fa) := by
  refine PE.imp (pe_tup ha) fun σ H Q h => ?_
  obtain ⟨η, θ, μ, ρ, ok, rs, fin⟩ := h
  refine ⟨η, θ, μ, ρ, ok, rs, fin.andThen fun ss μ1 vs H1 θ1 _ st rx fin1 => ?_⟩
  split at fin1
  · rename_i ds e
    split at fin1
    · have l := dsOf_rep rx e
      refine ⟨by rw [sizeLine_eq, ← l.length]; assumption, fun p hp => ?_⟩
      exact (fin_ans st.ok fin1).tup st.ok.trk l hp
    · exact fin1.elim
  · exact fin1.elim

/-! new lists -/
def FinL (mg : Str → Option Value) (K : PySem.W.Frag) (E : XK) (η : List Addr) (H : Hp) (θ : List Addr) (r : Res (List D)) (Q : VK) : Prop := match r with
  | .ok ds μ' => ∀ p H1 θ1 xs, Step mg K η H θ H1 θ1 μ' → H1 p = none → RepL mg K (hid H1 (θ1 ++ η)) ds xs → Q (.ref p) (upd H1 p (.lst xs))
  | .ex x μ' => ∀ cv dd H' θ', Step mg K η H θ H' θ' μ' → XRep mg K H' (hid H' (θ' ++ η)) x cv dd → E cv dd H'
  | .no => False
def tL (mg : Str → Option Value) (K : PySem.W.Frag) (W : WXD) (f : LF) : TE := fun σ H Q => ∃ η θ μ ρ, StOk mg K η H θ μ ∧ RepS mg K (hid H (θ ++ η)) θ ρ σ ∧ FinL mg K (fun c d => W c d σ) η H θ (f ρ μ) Q
def PLd (X : Cx) (W : WXD) (e : Expr) (f : LF) : Prop := PE X e (tL X.mg X.K W f)
theorem frz_read {f : LF} (σ : L2.St) (H : Hp) (Q : VK) (h : tD X.mg X.K W (eFrz f) σ H Q) : tL X.mg X.K W f σ H Q := by
  obtain ⟨η, θ, μ, ρ, ok, rs, fin⟩ := h
  refine ⟨η, θ, μ, ρ, ok, rs, ?_⟩
  unfold eFrz at fin
  cases e : f ρ μ with
  | ok ds μ' =>
    rw [e] at fin
    intro p H1 θ1 xs st hp l
    have f2 := Fin.rebase st fin
    exact (fin_ans st.ok f2).lst st.ok.trk l hp
  | ex x μ' => rw [e] at fin; exact fin
  | no => rw [e] at fin; exact fin
theorem new_read {f : LF} (σ : L2.St) (H : Hp) (Q : VK) (h : tD X.mg X.K W (eNew f) σ H Q) : tL X.mg X.K W f σ H Q := by
  obtain ⟨η, θ, μ, ρ, ok, rs, fin⟩ := h
  refine ⟨η, θ, μ, ρ, ok, rs, ?_⟩
  unfold eNew at fin
  cases e : f ρ μ with
  | ok ds μ' =>
    rw [e] at fin
    intro p H1 θ1 xs st hp l
    have st2 := st.ok.newOb (o := .lst xs) (m := .lst ds) hp fun G' e => ⟨xs, upd_same, l.ext e⟩
    exact fin _ _ _ (st.trans st2) (.ob (by rw [← st.ok.len]; simp))
  | ex x μ' => rw [e] at fin; exact fin
  | no => rw [e] at fin; exact fin
theorem pd_frz {e : Expr} {f : LF} (h : PLd X W e f) : PEd X W e (eFrz f) := PE.imp h frz_read
theorem pd_new {e : Expr} {f : LF} (h : PLd X W e f) : PEd X W e (eNew f) := PE.imp h new_read
theorem pl_lst {es : List Expr} {fa : AF} {pos : Pos} (ha : PAd X W es fa) : PLd X W (.List es pos) (lLst fa) := by
  refine PE.imp (pe_lst ha) fun σ H Q h => ?_
  obtain ⟨η, θ, μ, ρ, ok, rs, fin⟩ := h
  refine ⟨η, θ, μ, ρ, ok, rs, ?_⟩
  unfold lLst at fin
  cases e : fa ρ μ with
  | ok ss μ' =>
    rw [e] at fin
    intro vs H1 θ1 st rx
    simp only [Res.bind] at fin
    split at fin
    · rename_i ds e2
      split at fin
      · have l := dsOf_rep rx e2
        exact ⟨by rw [sizeLine_eq, ← l.length]; assumption, fun p hp => fin p H1 θ1 vs st hp l⟩
      · exact fin.elim
    · exact fin.elim
  | ex x μ' => rw [e] at fin; exact fin
  | no => rw [e] at fin; exact fin
theorem pl_cat {a b : Expr} {fa fb : EF} {pos : Pos} (ha : PEd X W a fa) (hb : PEd X W b fb) : PLd X W (.BinOp a .Add b pos) (lCat fa fb) := by
  refine PE.imp (pe_op op_cat ha hb) fun σ H Q h => ?_
  obtain ⟨η, θ, μ, ρ, ok, rs, fin⟩ := h
  refine ⟨η, θ, μ, ρ, ok, rs, ?_⟩
  unfold lCat at fin
  cases e : fa ρ μ with
  | ok x μ1 =>
    rw [e] at fin
    intro vx H1 θ1 st rx
    refine ⟨η, θ1, μ1, ρ, st.ok, rs.step st, ?_⟩
    simp only [Res.bind] at fin
    cases e2 : fb ρ μ1 with
    | ok y μ2 =>
      rw [e2] at fin
      intro vy H2 θ2 st2 ry
      simp only at fin
      split at fin
      · rename_i a b ea eb
        split at fin
        · obtain ⟨p, xs, rfl, hp, lx⟩ := (dr_rep st2.ok (rx.step st2) ea).lst
          obtain ⟨p', ys, rfl, hp', ly⟩ := (dr_rep st2.ok ry eb).lst
          exact ⟨p, p', xs, ys, rfl, rfl, hp, hp', by rw [sizeLine_eq, ← lx.length, ← ly.length]; assumption, fun r hr => fin r H2 θ2 _ (st.trans st2) hr (lx.append ly)⟩
        · exact fin.elim
      · exact fin.elim
    | ex x μ' => rw [e2] at fin; exact fun cv dd H' θ' s2 xr => fin cv dd H' θ' (st.trans s2) xr
    | no => rw [e2] at fin; exact fin
  | ex x μ' => rw [e] at fin; exact fin
  | no => rw [e] at fin; exact fin

/-! calls of built-ins -/
theorem CallR.or {f : Value} {r r' : List V → Hp → VK → Prop} (h : CallR X f r) (h' : CallR X f r') : CallR X f (fun xs H Q => r xs H Q ∨ r' xs H Q) := by
  intro pins s σ H xs us Q I rx q
  rcases q with q | q
  · exact h pins s σ H xs us Q I rx q
  · exact h' pins s σ H xs us Q I rx q
theorem cb_ok {r : List V → Hp → VK → Prop} {g : List D → Option D} {fa : AF} (hl : LiftN X.mg X.K r g) (σ : L2.St) (H : Hp) (Q : VK) (h : tD X.mg X.K W (eN g fa) σ H Q) : tCB r (tAD X.mg X.K W fa) σ H Q := by
  obtain ⟨η, θ, μ, ρ, ok, rs, fin⟩ := h
  exact ⟨η, θ, μ, ρ, ok, rs, fin.andThen fun ss μ1 vs H1 θ1 _ st rx fin1 => hl.fin st.ok rx fin1⟩
theorem pd_blt {x : Str} {p pos : Pos} {e : Expr} {es : List Expr} {fa : AF} {id : String} {r : List V → Hp → VK → Prop} {g : List D → Option D} (hc : CallR X (.builtin id) r) (hl : LiftN X.mg X.K r g) (hg : Gl X x) (hm : X.mg x = none) (hv : bootBuiltins x = some (.builtin id)) (ha : PAd X W (e :: es) fa) (hn : x ≠ "__name__" := by decide) (hdb : (x == ("__debug__" : Str)) = false := by decide)
    (he : starEach (e :: es) X.env = (false, eval e X.env) :: starEach es X.env := by rfl) (hpl : (backTo pos (starEach es X.env)).any (·.1) = false := by rfl) : PEd X W (.Call (.Name x p) (e :: es) [] pos) (eN g fa) :=
  PE.imp (pe_callB hc hg hm hv ha hn hdb he hpl) (cb_ok hl)
theorem pd_bty {x : Str} {p pos : Pos} {e : Expr} {es : List Expr} {fa : AF} {T : String} {r : List V → Hp → VK → Prop} {g : List D → Option D} (hc : CallR X (.type T) r) (hl : LiftN X.mg X.K r g) (hg : Gl X x) (hm : X.mg x = none) (hv : bootBuiltins x = some (.type T)) (ha : PAd X W (e :: es) fa) (hn : x ≠ "__name__" := by decide) (hdb : (x == ("__debug__" : Str)) = false := by decide)
    (he : starEach (e :: es) X.env = (false, eval e X.env) :: starEach es X.env := by rfl) (hpl : (backTo pos (starEach es X.env)).any (·.1) = false := by rfl) : PEd X W (.Call (.Name x p) (e :: es) [] pos) (eN g fa) :=
  PE.imp (pe_callTy hc hg hm hv ha hn hdb he hpl) (cb_ok hl)
theorem call_max3 (hc : X.calm = true) : CallR X (.builtin "max") (fun xs H Q => ∃ i j k, xs = [.int i, .int j, .int k] ∧ Q (.int (if j > i then (if k > j then k else j) else if k > i then k else i)) H) := by
  intro pins s σ H xs us Q I r h
  obtain ⟨i, j, k, rfl, q⟩ := h
  cases r with
  | cons r1 r => cases r with
    | cons r2 r => cases r with
      | cons r3 r =>
        cases r
        obtain ⟨t1, rfl⟩ := r1
        obtain ⟨t2, rfl⟩ := r2
        obtain ⟨t3, rfl⟩ := r3
        refine max_three_ints (I.ok.hd hc) fun h' tk hk => ?_
        refine ⟨_, H, I.kept (t' := tk) hk, ?_, q⟩
        split <;> split <;> exact ⟨_, rfl⟩
theorem cr_mx (hc : X.calm = true) : CallR X (.builtin "max") (rMx X.K) := CallR.or (call_max2 hc) (CallR.or (cr_max hc) (call_max3 hc))
theorem cr_mn (hc : X.calm = true) : CallR X (.builtin "min") (rMn X.K) := CallR.or (call_min2 hc) (cr_min hc)
section
variable {p pos : Pos} {e : Expr} {es : List Expr} {fa : AF}
theorem pd_len (hg : Gl X "len") (hm : X.mg "len" = none) (ha : PAd X W (e :: es) fa) (he : starEach (e :: es) X.env = (false, eval e X.env) :: starEach es X.env := by rfl) (hpl : (backTo pos (starEach es X.env)).any (·.1) = false := by rfl) : PEd X W (.Call (.Name "len" p) (e :: es) [] pos) (eN lenD fa) := pd_blt call_len l_len hg hm (by decide +kernel) ha (by decide) (by decide) he hpl
theorem pd_sum (C : Cxb X CX W k) (hg : Gl X "sum") (hm : X.mg "sum" = none) (ha : PAd X W (e :: es) fa) (he : starEach (e :: es) X.env = (false, eval e X.env) :: starEach es X.env := by rfl) (hpl : (backTo pos (starEach es X.env)).any (·.1) = false := by rfl) : PEd X W (.Call (.Name "sum" p) (e :: es) [] pos) (eN sumD fa) := pd_blt (cr_sum C.calm) l_sum hg hm (by decide +kernel) ha (by decide) (by decide) he hpl
theorem pd_max (C : Cxb X CX W k) (hg : Gl X "max") (hm : X.mg "max" = none) (ha : PAd X W (e :: es) fa) (he : starEach (e :: es) X.env = (false, eval e X.env) :: starEach es X.env := by rfl) (hpl : (backTo pos (starEach es X.env)).any (·.1) = false := by rfl) : PEd X W (.Call (.Name "max" p) (e :: es) [] pos) (eN maxD fa) := pd_blt (cr_mx C.calm) l_max hg hm (by decide +kernel) ha (by decide) (by decide) he hpl
theorem pd_min (C : Cxb X CX W k) (hg : Gl X "min") (hm : X.mg "min" = none) (ha : PAd X W (e :: es) fa) (he : starEach (e :: es) X.env = (false, eval e X.env) :: starEach es X.env := by rfl) (hpl : (backTo pos (starEach es X.env)).any (·.1) = false := by rfl) : PEd X W (.Call (.Name "min" p) (e :: es) [] pos) (eN minD fa) := pd_blt (cr_mn C.calm) l_min hg hm (by decide +kernel) ha (by decide) (by decide) he hpl
theorem pd_all (C : Cxb X CX W k) (hg : Gl X "all") (hm : X.mg "all" = none) (ha : PAd X W (e :: es) fa) (he : starEach (e :: es) X.env = (false, eval e X.env) :: starEach es X.env := by rfl) (hpl : (backTo pos (starEach es X.env)).any (·.1) = false := by rfl) : PEd X W (.Call (.Name "all" p) (e :: es) [] pos) (eN allD fa) := pd_blt (cr_all C.calm) l_all hg hm (by decide +kernel) ha (by decide) (by decide) he hpl
theorem pd_any (C : Cxb X CX W k) (hg : Gl X "any") (hm : X.mg "any" = none) (ha : PAd X W (e :: es) fa) (he : starEach (e :: es) X.env = (false, eval e X.env) :: starEach es X.env := by rfl) (hpl : (backTo pos (starEach es X.env)).any (·.1) = false := by rfl) : PEd X W (.Call (.Name "any" p) (e :: es) [] pos) (eN anyD fa) := pd_blt (cr_any C.calm) l_any hg hm (by decide +kernel) ha (by decide) (by decide) he hpl
theorem pd_sorted (hg : Gl X "sorted") (hm : X.mg "sorted" = none) (ha : PAd X W (e :: es) fa) (he : starEach (e :: es) X.env = (false, eval e X.env) :: starEach es X.env := by rfl) (hpl : (backTo pos (starEach es X.env)).any (·.1) = false := by rfl) : PEd X W (.Call (.Name "sorted" p) (e :: es) [] pos) (eN sortedD fa) := pd_blt cr_sorted l_sorted hg hm (by decide +kernel) ha (by decide) (by decide) he hpl
theorem pd_tuple (hg : Gl X "tuple") (hm : X.mg "tuple" = none) (ha : PAd X W (e :: es) fa) (he : starEach (e :: es) X.env = (false, eval e X.env) :: starEach es X.env := by rfl) (hpl : (backTo pos (starEach es X.env)).any (·.1) = false := by rfl) : PEd X W (.Call (.Name "tuple" p) (e :: es) [] pos) (eN tupleD fa) := pd_bty call_tuple_of l_tuple hg hm (by decide +kernel) ha (by decide) (by decide) he hpl
theorem pd_list (hg : Gl X "list") (hm : X.mg "list" = none) (ha : PAd X W (e :: es) fa) (he : starEach (e :: es) X.env = (false, eval e X.env) :: starEach es X.env := by rfl) (hpl : (backTo pos (starEach es X.env)).any (·.1) = false := by rfl) : PEd X W (.Call (.Name "list" p) (e :: es) [] pos) (eN listD fa) := pd_bty call_list_of l_list hg hm (by decide +kernel) ha (by decide) (by decide) he hpl
theorem pd_toint (hg : Gl X "int") (hm : X.mg "int" = none) (ha : PAd X W (e :: es) fa) (he : starEach (e :: es) X.env = (false, eval e X.env) :: starEach es X.env := by rfl) (hpl : (backTo pos (starEach es X.env)).any (·.1) = false := by rfl) : PEd X W (.Call (.Name "int" p) (e :: es) [] pos) (eN intD fa) := pd_bty call_int1 l_int hg hm (by decide +kernel) ha (by decide) (by decide) he hpl
theorem pd_tostr (hg : Gl X "str") (hm : X.mg "str" = none) (ha : PAd X W (e :: es) fa) (he : starEach (e :: es) X.env = (false, eval e X.env) :: starEach es X.env := by rfl) (hpl : (backTo pos (starEach es X.env)).any (·.1) = false := by rfl) : PEd X W (.Call (.Name "str" p) (e :: es) [] pos) (eN strD fa) := pd_bty call_str_int l_str hg hm (by decide +kernel) ha (by decide) (by decide) he hpl
theorem pd_bool (hg : Gl X "bool") (hm : X.mg "bool" = none) (ha : PAd X W (e :: es) fa) (he : starEach (e :: es) X.env = (false, eval e X.env) :: starEach es X.env := by rfl) (hpl : (backTo pos (starEach es X.env)).any (·.1) = false := by rfl) : PEd X W (.Call (.Name "bool" p) (e :: es) [] pos) (eN boolD fa) := pd_bty call_bool1 l_bool hg hm (by decide +kernel) ha (by decide) (by decide) he hpl
end
theorem tyx_of {mg : Str → Option Value} {K : PySem.W.Frag} {H : Hp} {S : List Addr} {d : D} {v : V} {t : String} (h : DRep mg K H S d v) (e : tyD d = some t) : TyX K H v (.type t) := by
  cases d with
  | non => cases h.non; cases e; exact .base .non
  | bl b => cases h.bl; cases e; exact .base (.bl _)
  | int i => cases h.int; cases e; exact .base (.int _)
  | str s => cases h.str; cases e; exact .base (.str _)
  | tup ds => obtain ⟨p, xs, rfl, hp, _⟩ := h.tup; cases e; exact .base (.tup hp)
  | lst ds => obtain ⟨p, xs, rfl, hp, _⟩ := h.lst; cases e; exact .base (.lst hp)
  | fn x => cases e
  | scr n => cases e
theorem pd_isi {a : Expr} {fa : EF} {T : Str} {n : String} {p p1 pos : Pos} (hg : Gl X "isinstance") (hm : X.mg "isinstance" = none) (hgT : Gl X T) (hmT : X.mg T = none) (hv : bootBuiltins T = some (.type n)) (ha : PEd X W a fa)
    (hn : T ≠ "__name__" := by decide) (hdb : (T == ("__debug__" : Str)) = false := by decide)
    (hs : starEach [a, .Name T p1] X.env = (false, eval a X.env) :: starEach [.Name T p1] X.env := by rfl) (hs2 : starEach [.Name T p1] X.env = (false, eval (.Name T p1) X.env) :: starEach [] X.env := by rfl)
    (hpl : (backTo pos (starEach [.Name T p1] X.env)).any (·.1) = false := by rfl) : PEd X W (.Call (.Name "isinstance" p) [a, .Name T p1] [] pos) (eIsI n fa) := by
  refine PE.imp (pe_callB call_isi hg hm (by decide +kernel) (pa_cons ha (pa_cons (pe_bltn (v := .ty n) hgT hmT hv rfl hn hdb) pa_nil hs2) hs) (by decide) (by decide) hs hpl) fun σ H Q h => ?_
  obtain ⟨η, θ, μ, ρ, ok, rs, fin⟩ := h
  refine ⟨η, θ, μ, ρ, ok, rs, fin.andThen fun dx μ1 x H1 θ1 _ st rx fin1 => ?_⟩
  unfold o1 at fin1
  split at fin1
  · rename_i d ed
    unfold isiD at fin1
    cases e1 : tyD d with
    | none => rw [e1] at fin1; exact fin1.elim
    | some t =>
      rw [e1] at fin1
      simp only [Option.bind_some] at fin1
      cases e2 : kitB t n with
      | none => rw [e2] at fin1; exact fin1.elim
      | some b =>
        rw [e2] at fin1
        exact ⟨x, .ty n, _, _, b, rfl, .ty n, tyx_of (dr_rep st.ok rx ed) e1, kit_ty e2, (fin_ans st.ok fin1).here .bl⟩
  · exact fin1.elim

/-! slices -/
def tOD (mg : Str → Option Value) (K : PySem.W.Frag) (W : WXD) (f : OF) : TO := fun σ H Q => ∃ η θ μ ρ, StOk mg K η H θ μ ∧ RepS mg K (hid H (θ ++ η)) θ ρ σ ∧ Fin mg K (fun c d => W c d σ) η H θ (fun _ _ a b => a = b) (f ρ μ) Q
def POd (X : Cx) (W : WXD) (e : Option Expr) (f : OF) : Prop := PO X e (tOD X.mg X.K W f)
theorem PO.imp {e : Option Expr} {t t' : TO} (h : PO X e t) (k : ∀ σ H Q, t' σ H Q → t σ H Q) : PO X e t' := ⟨fun pins s σ H Q I q => h.run pins s σ H Q I (k σ H Q q)⟩
theorem pd_none : POd X W none pNone := by
  refine PO.imp po_none fun σ H Q h => ?_
  obtain ⟨η, θ, μ, ρ, ok, rs, fin⟩ := h
  exact fin.done (Step.refl ok) rfl
theorem pd_some {e : Expr} {f : EF} (h : PEd X W e f) : POd X W (some e) (pSome f) := by
  refine PO.imp (po_some h) fun σ H Q h => ?_
  obtain ⟨η, θ, μ, ρ, ok, rs, fin⟩ := h
  refine ⟨η, θ, μ, ρ, ok, rs, fin.andThen fun dx μ1 x H1 θ1 _ st rx fin1 => ?_⟩
  split at fin1
  · cases rx with
    | d rx => cases rx; exact ⟨_, rfl, fin1.done (Step.refl st.ok) rfl⟩
  · exact fin1.elim
theorem pd_sl {a : Expr} {lo hi : Option Expr} {fa : EF} {fl fh : OF} {pos p2 : Pos} (ha : PEd X W a fa) (hl : POd X W lo fl) (hh : POd X W hi fh) : PEd X W (.Subscript a (.Slice lo hi none p2) pos) (eSl fa fl fh) := by
  refine PE.imp (pe_slice (SlR.or sl_tupA (SlR.or sl_list sl_str)) ha hl hh) fun σ H Q h => ?_
  obtain ⟨η, θ, μ, ρ, ok, rs, fin⟩ := h
  refine ⟨η, θ, μ, ρ, ok, rs, fin.andThen fun dx μ1 x H1 θ1 _ st rx fin1 => ⟨η, θ1, μ1, ρ, st.ok, rs.step st, fin1.andThen fun l μ2 l' H2 θ2 _ st2 rl fin2 => ⟨η, θ2, μ2, ρ, st2.ok, (rs.step st).step st2, fin2.andThen fun u μ3 u' H3 θ3 _ st3 ru fin3 => ?_⟩⟩⟩
  subst rl ru
  unfold o1 at fin3
  split at fin3
  · rename_i d ed
    simp only at fin3
    cases e : slD d l u with
    | none => rw [e] at fin3; exact fin3.elim
    | some c =>
      rw [e] at fin3
      exact l_sl H3 _ x d c l u Q st3.ok.trk (dr_rep st3.ok ((rx.step st2).step st3) ed) e (fin_ans st3.ok fin3)
  · exact fin3.elim

/-! tests -/
theorem pd_val {e : Expr} {f : EF} (h : PEd X W e f) (he : ∀ whole, isTrue e X.env whole = (do let v ← whole; standAt e.pos; holding [v] (truthy v)) := by intro _; rfl) : PBd X W e (bV f) := by
  refine PT.imp (pt_val h he) fun σ H Q h => ?_
  obtain ⟨η, θ, μ, ρ, ok, rs, fin⟩ := h
  refine ⟨η, θ, μ, ρ, ok, rs, fin.andThen fun dx μ1 x H1 θ1 _ st rx fin1 => ?_⟩
  split at fin1
  · cases rx with
    | d rx => cases rx; exact ⟨_, rfl, fin1.done (Step.refl st.ok) rfl⟩
  · exact fin1.elim
theorem tst_ok {f : EF} {t : TE} (h : ∀ σ H Q, tD X.mg X.K W f σ H Q → t σ H Q) (σ : L2.St) (H : Hp) (Q : Bool → Hp → Prop) (hb : tBD X.mg X.K W (bV f) σ H Q) : tTest t σ H Q := by
  obtain ⟨η, θ, μ, ρ, ok, rs, fin⟩ := hb
  refine h σ H _ ⟨η, θ, μ, ρ, ok, rs, fin.andThen fun dx μ1 x H1 θ1 _ st rx fin1 => ?_⟩
  split at fin1
  · cases rx with
    | d rx => cases rx; exact ⟨_, rfl, fin1.done (Step.refl st.ok) rfl⟩
  · exact fin1.elim
theorem pb_cmp {a b : Expr} {fa fb : EF} {pos : Pos} {op : CmpOp} {r : R2} {g : D → D → Option D} (hr : OpR X (compareOp op) r) (hl : Lift2 X.mg X.K r g) (ha : PEd X W a fa) (hb : PEd X W b fb) (hm : behindInMarks op b = false) : PBd X W (.Compare a [op] [b] pos) (bV (e2 g fa fb)) :=
  PT.imp (pt_cmpR hr ha hb hm) (tst_ok (two_ok rfl rfl fun s rx ry f => hl.fin s rx ry f))
theorem pb_eq {a b : Expr} {fa fb : EF} {pos : Pos} (C : Cxb X CX W k) (ha : PEd X W a fa) (hb : PEd X W b fb) : PBd X W (.Compare a [.Eq] [b] pos) (bV (e2 eqD fa fb)) := pb_cmp (op_eqD C.hu) l_eq ha hb (nomark _)
theorem pb_ne {a b : Expr} {fa fb : EF} {pos : Pos} (C : Cxb X CX W k) (ha : PEd X W a fa) (hb : PEd X W b fb) : PBd X W (.Compare a [.NotEq] [b] pos) (bV (e2 neD fa fb)) := pb_cmp (op_neD C.hu) l_ne ha hb (nomark _)
theorem pb_lt {a b : Expr} {fa fb : EF} {pos : Pos} (C : Cxb X CX W k) (ha : PEd X W a fa) (hb : PEd X W b fb) : PBd X W (.Compare a [.Lt] [b] pos) (bV (e2 ltD fa fb)) := pb_cmp (op_lt.or (op_ltT (by have := C.hu; omega))) l_lt ha hb (nomark _)
theorem pb_le {a b : Expr} {fa fb : EF} {pos : Pos} (C : Cxb X CX W k) (ha : PEd X W a fa) (hb : PEd X W b fb) : PBd X W (.Compare a [.LtE] [b] pos) (bV (e2 leD fa fb)) := pb_cmp (op_le.or (op_leT (by have := C.hu; omega))) l_le ha hb (nomark _)
theorem pb_gt {a b : Expr} {fa fb : EF} {pos : Pos} (ha : PEd X W a fa) (hb : PEd X W b fb) : PBd X W (.Compare a [.Gt] [b] pos) (bV (e2 gtD fa fb)) := pb_cmp op_gt l_gt ha hb (nomark _)
theorem pb_ge {a b : Expr} {fa fb : EF} {pos : Pos} (ha : PEd X W a fa) (hb : PEd X W b fb) : PBd X W (.Compare a [.GtE] [b] pos) (bV (e2 geD fa fb)) := pb_cmp op_ge l_ge ha hb (nomark _)
theorem pb_is {a b : Expr} {fa fb : EF} {pos : Pos} (ha : PEd X W a fa) (hb : PEd X W b fb) : PBd X W (.Compare a [.Is] [b] pos) (bV (e2 isD fa fb)) := pb_cmp (op_isBl.or op_isN) l_is ha hb (nomark _)
theorem pb_isn {a b : Expr} {fa fb : EF} {pos : Pos} (ha : PEd X W a fa) (hb : PEd X W b fb) : PBd X W (.Compare a [.IsNot] [b] pos) (bV (e2 isnD fa fb)) := pb_cmp (op_notBl.or op_notN) l_isn ha hb (nomark _)
theorem pb_in {a b : Expr} {fa fb : EF} {pos : Pos} (C : Cxb X CX W (k + 1)) (ha : PEd X W a fa) (hb : PEd X W b fb) (hm : behindInMarks .In b = false := by rfl) : PBd X W (.Compare a [.In] [b] pos) (bV (e2 inD fa fb)) :=
  pb_cmp (op_in_seq.or (op_inD (by have := C.room.un; have := C.hu; omega))) l_in ha hb hm
theorem pb_nin {a b : Expr} {fa fb : EF} {pos : Pos} (C : Cxb X CX W (k + 1)) (ha : PEd X W a fa) (hb : PEd X W b fb) (hm : behindInMarks .NotIn b = false := by rfl) : PBd X W (.Compare a [.NotIn] [b] pos) (bV (e2 ninD fa fb)) :=
  pb_cmp (op_notIn_seq.or (op_notInD (by have := C.room.un; have := C.hu; omega))) l_nin ha hb hm
theorem chn_ok {r r' : R2} {g h : D → D → Option D} {fa fb fc : EF} (hl : Lift2 X.mg X.K r g) (hl' : Lift2 X.mg X.K r' h) (σ : L2.St) (H : Hp) (Q : VK) (hh : tD X.mg X.K W (eChn g h fa fb fc) σ H Q) : tChain r r' (tD X.mg X.K W fa) (tD X.mg X.K W fb) (tD X.mg X.K W fc) σ H Q := by
  obtain ⟨η, θ, μ, ρ, ok, rs, fin⟩ := hh
  refine ⟨η, θ, μ, ρ, ok, rs, fin.andThen fun dx μ1 x H1 θ1 _ st rx fin1 => ⟨η, θ1, μ1, ρ, st.ok, rs.step st, fin1.andThen fun dy μ2 y H2 θ2 _ st2 ry fin2 => hl.fin st2.ok (rx.step st2) ry (fin2.andThen fun z μ3 zv H3 θ3 _ st3 rz fin3 => ?_)⟩⟩
  split at fin3
  · cases rz with
    | d rz =>
      cases rz
      refine ⟨true, rfl, ?_⟩
      rw [if_pos rfl]
      exact ⟨η, θ3, μ3, ρ, st3.ok, ((rs.step st).step st2).step st3, fin3.andThen fun dz μ4 w H4 θ4 _ st4 rw' fin4 => hl'.fin st4.ok ((ry.step st3).step st4) rw' fin4⟩
  · cases rz with
    | d rz =>
      cases rz
      refine ⟨false, rfl, ?_⟩
      rw [if_neg (by decide)]
      exact fin3.done (Step.refl st3.ok) (.d .bl)
  · exact fin3.elim
theorem pd_chn {a b c : Expr} {fa fb fc : EF} {pos : Pos} {op op' : CmpOp} {r r' : R2} {g h : D → D → Option D} (hr : OpR X (compareOp op) r) (hr' : OpR X (compareOp op') r') (hl : Lift2 X.mg X.K r g) (hl' : Lift2 X.mg X.K r' h) (ha : PEd X W a fa) (hb : PEd X W b fb) (hc : PEd X W c fc)
    (hm : lastMarks [op, op'] [b, c] = false := by rfl) : PEd X W (.Compare a [op, op'] [b, c] pos) (eChn g h fa fb fc) := PE.imp (pe_chain hr hr' ha hb hc hm) (chn_ok hl hl')
theorem pb_chn {a b c : Expr} {fa fb fc : EF} {pos : Pos} {op op' : CmpOp} {r r' : R2} {g h : D → D → Option D} (hr : OpR X (compareOp op) r) (hr' : OpR X (compareOp op') r') (hl : Lift2 X.mg X.K r g) (hl' : Lift2 X.mg X.K r' h) (ha : PEd X W a fa) (hb : PEd X W b fb) (hc : PEd X W c fc)
    (hm : lastMarks [op, op'] [b, c] = false := by rfl) : PBd X W (.Compare a [op, op'] [b, c] pos) (bV (eChn g h fa fb fc)) := PT.imp (pt_chain hr hr' ha hb hc hm) (tst_ok (chn_ok hl hl'))
theorem pd_leLe {a b c : Expr} {fa fb fc : EF} {pos : Pos} (ha : PEd X W a fa) (hb : PEd X W b fb) (hc : PEd X W c fc) (hm : lastMarks [.LtE, .LtE] [b, c] = false := by rfl) : PEd X W (.Compare a [.LtE, .LtE] [b, c] pos) (eChn leI leI fa fb fc) := pd_chn (g := leI) (h := leI) op_le op_le l_leI l_leI ha hb hc hm
theorem pb_leLe {a b c : Expr} {fa fb fc : EF} {pos : Pos} (ha : PEd X W a fa) (hb : PEd X W b fb) (hc : PEd X W c fc) (hm : lastMarks [.LtE, .LtE] [b, c] = false := by rfl) : PBd X W (.Compare a [.LtE, .LtE] [b, c] pos) (bV (eChn leI leI fa fb fc)) := pb_chn (g := leI) (h := leI) op_le op_le l_leI l_leI ha hb hc hm
theorem PWd.pt {e : Expr} {f : BF} (h : PWd X W e f) : PBd X W e f := PW.pt h
theorem pb_and1 {a : Expr} {f : BF} {pos : Pos} (h : PBd X W a f) : PWd X W (.BoolOp .And [a] pos) f := pw_and1 h
theorem pb_or1 {a : Expr} {f : BF} {pos : Pos} (h : PBd X W a f) : PWd X W (.BoolOp .Or [a] pos) f := pw_or1 h
theorem pb_and {a b : Expr} {rest : List Expr} {f g : BF} {pos : Pos} (ha : PBd X W a f) (hb : PWd X W (.BoolOp .And (b :: rest) pos) g) : PWd X W (.BoolOp .And (a :: b :: rest) pos) (bAnd f g) := by
  refine PW.imp (pw_and ha hb) fun σ H Q h => ?_
  obtain ⟨η, θ, μ, ρ, ok, rs, fin⟩ := h
  refine ⟨η, θ, μ, ρ, ok, rs, fin.andThen fun c μ1 c' H1 θ1 _ st rc fin1 => ?_⟩
  subst rc
  cases c with
  | true => rw [if_pos rfl] at fin1 ⊢; exact ⟨η, θ1, μ1, ρ, st.ok, rs.step st, fin1⟩
  | false => rw [if_neg (by decide)] at fin1 ⊢; exact fin1.done (Step.refl st.ok) rfl
theorem pb_or {a b : Expr} {rest : List Expr} {f g : BF} {pos : Pos} (ha : PBd X W a f) (hb : PWd X W (.BoolOp .Or (b :: rest) pos) g) : PWd X W (.BoolOp .Or (a :: b :: rest) pos) (bOr f g) := by
  refine PW.imp (pw_or ha hb) fun σ H Q h => ?_
  obtain ⟨η, θ, μ, ρ, ok, rs, fin⟩ := h
  refine ⟨η, θ, μ, ρ, ok, rs, fin.andThen fun c μ1 c' H1 θ1 _ st rc fin1 => ?_⟩
  subst rc
  cases c with
  | true => rw [if_pos rfl] at fin1 ⊢; exact fin1.done (Step.refl st.ok) rfl
  | false => rw [if_neg (by decide)] at fin1 ⊢; exact ⟨η, θ1, μ1, ρ, st.ok, rs.step st, fin1⟩
theorem pb_not {a : Expr} {f : BF} {pos : Pos} (h : PBd X W a f) : PBd X W (.UnaryOp .Not a pos) (bNot f) := by
  refine PT.imp (pt_not h) fun σ H Q h => ?_
  obtain ⟨η, θ, μ, ρ, ok, rs, fin⟩ := h
  refine ⟨η, θ, μ, ρ, ok, rs, fin.andThen fun c μ1 c' H1 θ1 _ st rc fin1 => ?_⟩
  subst rc
  exact fin1.done (Step.refl st.ok) rfl
theorem pd_one {op : BoolOp} {a : Expr} {f : EF} {pos : Pos} (h : PEd X W a f) : PEd X W (.BoolOp op [a] pos) f := pe_one h
theorem pd_and {a b : Expr} {rest : List Expr} {f g : EF} {pos : Pos} (ha : PEd X W a f) (hb : PEd X W (.BoolOp .And (b :: rest) pos) g) : PEd X W (.BoolOp .And (a :: b :: rest) pos) (eAnd f g) := by
  refine PE.imp (pe_and ha hb) fun σ H Q h => ?_
  obtain ⟨η, θ, μ, ρ, ok, rs, fin⟩ := h
  refine ⟨η, θ, μ, ρ, ok, rs, fin.andThen fun c μ1 c' H1 θ1 _ st rc fin1 => ?_⟩
  split at fin1
  · cases rc with
    | d rc => cases rc; exact ⟨true, rfl, by rw [if_pos rfl]; exact ⟨η, θ1, μ1, ρ, st.ok, rs.step st, fin1⟩⟩
  · cases rc with
    | d rc => cases rc; exact ⟨false, rfl, by rw [if_neg (by decide)]; exact fin1.done (Step.refl st.ok) (.d .bl)⟩
  · exact fin1.elim
theorem pd_or {a b : Expr} {rest : List Expr} {f g : EF} {pos : Pos} (ha : PEd X W a f) (hb : PEd X W (.BoolOp .Or (b :: rest) pos) g) : PEd X W (.BoolOp .Or (a :: b :: rest) pos) (eOr f g) := by
  refine PE.imp (pe_or ha hb) fun σ H Q h => ?_
  obtain ⟨η, θ, μ, ρ, ok, rs, fin⟩ := h
  refine ⟨η, θ, μ, ρ, ok, rs, fin.andThen fun c μ1 c' H1 θ1 _ st rc fin1 => ?_⟩
  split at fin1
  · cases rc with
    | d rc => cases rc; exact ⟨true, rfl, by rw [if_pos rfl]; exact fin1.done (Step.refl st.ok) (.d .bl)⟩
  · cases rc with
    | d rc => cases rc; exact ⟨false, rfl, by rw [if_neg (by decide)]; exact ⟨η, θ1, μ1, ρ, st.ok, rs.step st, fin1⟩⟩
  · exact fin1.elim
theorem pd_not {a : Expr} {f : EF} {pos : Pos} (ha : PEd X W a f) : PEd X W (.UnaryOp .Not a pos) (eNot f) := by
  refine PE.imp (pe_not ha) fun σ H Q h => ?_
  obtain ⟨η, θ, μ, ρ, ok, rs, fin⟩ := h
  refine ⟨η, θ, μ, ρ, ok, rs, fin.andThen fun c μ1 c' H1 θ1 _ st rc fin1 => ?_⟩
  split at fin1
  · cases rc with
    | d rc => cases rc; exact ⟨_, rfl, fin1.done (Step.refl st.ok) (.d .bl)⟩
  · exact fin1.elim
theorem pd_if {c a b : Expr} {fc : BF} {f g : EF} {pos : Pos} (hc : PBd X W c fc) (ha : PEd X W a f) (hb : PEd X W b g) : PEd X W (.IfExp c a b pos) (eIf fc f g) := by
  refine PE.imp (pe_ifExp hc ha hb) fun σ H Q h => ?_
  obtain ⟨η, θ, μ, ρ, ok, rs, fin⟩ := h
  refine ⟨η, θ, μ, ρ, ok, rs, fin.andThen fun c μ1 c' H1 θ1 _ st rc fin1 => ?_⟩
  subst rc
  cases c with
  | true => rw [if_pos rfl] at fin1 ⊢; exact ⟨η, θ1, μ1, ρ, st.ok, rs.step st, fin1⟩
  | false => rw [if_neg (by decide)] at fin1 ⊢; exact ⟨η, θ1, μ1, ρ, st.ok, rs.step st, fin1⟩

/-! methods of lists -/
theorem ob_lst {mg : Str → Option Value} {K : PySem.W.Frag} {η : List Addr} {H : Hp} {θ : List Addr} {μ : Store} {n : Nat} {ds : List D} {v : V} (s : StOk mg K η H θ μ) (r : RepSl mg K (hid H (θ ++ η)) θ (.ob n) v) (e : μ[n]? = some (.lst ds)) :
    ∃ a xs, v = .ref a ∧ θ[n]? = some a ∧ H a = some (.lst xs) ∧ RepL mg K (hid H (θ ++ η)) ds xs := by
  cases r with
  | ob h =>
    obtain ⟨o, h1, h2⟩ := s.lookup h
    rw [e] at h1; cases h1
    obtain ⟨xs, e1, l⟩ := h2
    exact ⟨_, xs, rfl, h, e1, l⟩
theorem pd_app {o e : Expr} {fo fe : EF} {apos cpos : Pos} (ho : PEd X W o fo) (he : PEd X W e fe) (h1 : attributeBase o "append" X.env (eval o X.env) = eval o X.env := by rfl)
    (h2 : ((backTo cpos (starEach (e :: []) X.env)).all (fun x => !x.1) && (backToKw cpos (keywordEach [] X.env)).all (fun x => x.1.isSome) && decide ((e :: []).length + ([] : List Keyword).length + (if ([] : List Keyword).isEmpty = true then 0 else 1) < 30)) = true := by rfl)
    (h3 : (apos.endLine == cpos.line) = true := by rfl) (h4 : starEach (e :: []) X.env = (false, eval e X.env) :: starEach [] X.env := by rfl) (h5 : ((backTo cpos (starEach [] X.env)).any fun x => x.1) = false := by rfl) :
    PEd X W (.Call (.Attribute o "append" apos) [e] [] cpos) (eApp fo fe) := by
  refine PE.imp (pe_bm PySem.F.plainAttrs_list PySem.F.slot_list_append PySem.F.type_list_append mt_append ho (pa_cons he pa_nil h4) h1 h2 h3 h4 h5) fun σ H Q h => ?_
  obtain ⟨η, θ, μ, ρ, ok, rs, fin⟩ := h
  unfold eApp at fin
  refine ⟨η, θ, μ, ρ, ok, rs, fin.andThen fun dx μ1 x H1 θ1 _ st rx fin1 => ?_⟩
  split at fin1
  · split at fin1
    · rename_i n ds0 e0
      obtain ⟨a, xs, rfl, ha, hx, lx⟩ := ob_lst st.ok rx e0
      refine ⟨.inl ⟨rfl, xs, SqL.of hx⟩, η, θ1, μ1, ρ, st.ok, rs.step st, fin1.andThen fun dy μ2 y H2 θ2 _ st2 ry fin2 => ?_⟩
      split at fin2
      · rename_i x ds e2 ek
        split at fin2
        · rename_i hz
          obtain ⟨a', ys, e3, ha', hy, ly⟩ := ob_lst st2.ok (rx.step st2) e2
          cases e3
          cases ry with
          | d ry =>
            refine ⟨a, ys, y, rfl, rfl, hy, by rw [sizeLine_eq, ← ly.length]; exact hz, ?_⟩
            exact fin2 _ _ _ (st2.ok.setOb (m := .lst (ds ++ [x])) ha' ⟨_, upd_same, ly.append (.cons ry .nil)⟩) (.d .non)
        · exact fin2.elim
      · exact fin2.elim
    · exact fin1.elim
  · exact fin1.elim
theorem pd_pop {o : Expr} {fo : EF} {apos cpos : Pos} (ho : PEd X W o fo) (h1 : attributeBase o "pop" X.env (eval o X.env) = eval o X.env := by rfl)
    (h3 : (apos.endLine == cpos.line) = true := by rfl) :
    PEd X W (.Call (.Attribute o "pop" apos) [] [] cpos) (ePop fo) := by
  refine PE.imp (pe_bm0 PySem.F.plainAttrs_list PySem.F.slot_list_pop PySem.F.type_list_pop mt_pop ho h1 h3) fun σ H Q h => ?_
  obtain ⟨η, θ, μ, ρ, ok, rs, fin⟩ := h
  unfold ePop at fin
  refine ⟨η, θ, μ, ρ, ok, rs, fin.andThen fun dx μ1 x H1 θ1 _ st rx fin1 => ?_⟩
  split at fin1
  · split at fin1
    · rename_i n ds e0
      obtain ⟨a, xs, rfl, ha, hx, lx⟩ := ob_lst st.ok rx e0
      split at fin1
      · rename_i x e1
        obtain ⟨v, h1, h2⟩ := lx.get _ e1
        rw [lx.length] at h1
        refine ⟨.inl ⟨rfl, xs, SqL.of hx⟩, a, xs, v, rfl, rfl, hx, h1, ?_⟩
        refine fin1 _ _ _ (st.ok.setOb (m := .lst ds.dropLast) ha ⟨_, upd_same, ?_⟩) (.d ?_)
        · rw [List.dropLast_eq_take, List.dropLast_eq_take, ← lx.length]; exact lx.take _
        · refine h2.ext (Ext.of fun b u q => ?_)
          obtain ⟨q1, q2⟩ := hid_some q
          rw [hid_out q1, upd_ne (fun z => q1 (by rw [z]; exact List.mem_append_left _ (List.mem_of_getElem? ha)))]
          exact q2
      · exact fin1.elim
    · exact fin1.elim
  · exact fin1.elim
theorem pd_pop0 {o : Expr} {fo : EF} {apos cpos p0 : Pos} {k0 : Nat} (ho : PEd X W o fo) (h1 : attributeBase o "pop" X.env (eval o X.env) = eval o X.env := by rfl)
    (h2 : ((backTo cpos (starEach (.Constant (.int 0) k0 p0 :: []) X.env)).all (fun x => !x.1) && (backToKw cpos (keywordEach [] X.env)).all (fun x => x.1.isSome) && decide ((Expr.Constant (.int 0) k0 p0 :: []).length + ([] : List Keyword).length + (if ([] : List Keyword).isEmpty = true then 0 else 1) < 30)) = true := by rfl)
    (h3 : (apos.endLine == cpos.line) = true := by rfl) (h4 : starEach (.Constant (.int 0) k0 p0 :: []) X.env = (false, eval (.Constant (.int 0) k0 p0) X.env) :: starEach [] X.env := by rfl) (h5 : ((backTo cpos (starEach [] X.env)).any fun x => x.1) = false := by rfl) :
    PEd X W (.Call (.Attribute o "pop" apos) [.Constant (.int 0) k0 p0] [] cpos) (ePop0 fo) := by
  refine PE.imp (pe_bm PySem.F.plainAttrs_list PySem.F.slot_list_pop PySem.F.type_list_pop mt_popAt ho (pa_cons pe_int pa_nil h4) h1 h2 h3 h4 h5) fun σ H Q h => ?_
  obtain ⟨η, θ, μ, ρ, ok, rs, fin⟩ := h
  unfold ePop0 at fin
  refine ⟨η, θ, μ, ρ, ok, rs, fin.andThen fun dx μ1 x H1 θ1 _ st rx fin1 => ?_⟩
  split at fin1
  · split at fin1
    · rename_i n x r e0
      obtain ⟨a, xs, rfl, ha, hx, lx⟩ := ob_lst st.ok rx e0
      cases lx with
      | cons h2 l =>
        rename_i v vs
        refine ⟨.inl ⟨rfl, _, SqL.of hx⟩, a, v :: vs, 0, 0, v, rfl, rfl, hx, by decide, by decide, ?_, rfl, ?_⟩
        · simp [seqIndex?]
        refine fin1 _ _ _ (st.ok.setOb (m := .lst r) ha ⟨_, upd_same, l⟩) (.d ?_)
        refine h2.ext (Ext.of fun b u q => ?_)
        obtain ⟨q1, q2⟩ := hid_some q
        rw [hid_out q1, upd_ne (fun z => q1 (by rw [z]; exact List.mem_append_left _ (List.mem_of_getElem? ha)))]
        exact q2
    · exact fin1.elim
  · exact fin1.elim
end
end DL

set_option Elab.async false
set_option linter.all false
set_option maxRecDepth 100000
set_option maxHeartbeats 1000000
/-! DLStm: targets, statements, loops, comprehensions, defs and calls -/
namespace DL
open PySem PySem.Spec PyProof.Rows L2
variable [TabCtx]

/-! ### targets -/
abbrev GF := Sl → Rho → Option Rho
def gN (i : Nat) : GF := fun s ρ => some (ρ.set i (some s))
def gLs : List GF → List D → Rho → Option Rho
  | [], [], ρ => some ρ
  | g :: gs, d :: ds, ρ => (g (.d d) ρ).bind fun ρ' => gLs gs ds ρ'
  | _, _, _ => none
def gT (gs : List GF) : GF := fun s ρ => match s with
  | .d (.tup ds) => gLs gs ds ρ
  | .d (.lst ds) => gLs gs ds ρ
  | _ => none
/-- but for the slots vs the frame is as it was -/
def But (vs : List Nat) (σ σ' : L2.St) : Prop := σ'.length = σ.length ∧ ∀ i, i ∉ vs → σ'[i]? = σ[i]?
theorem But.refl (vs : List Nat) (σ : L2.St) : But vs σ σ := ⟨rfl, fun _ _ => rfl⟩
theorem But.trans {vs : List Nat} {a b c : L2.St} (h : But vs a b) (k : But vs b c) : But vs a c := ⟨k.1.trans h.1, fun i hi => (k.2 i hi).trans (h.2 i hi)⟩
theorem But.mono {vs ws : List Nat} {a b : L2.St} (h : But vs a b) (k : ∀ i ∈ vs, i ∈ ws) : But ws a b := ⟨h.1, fun i hi => h.2 i fun z => hi (k i z)⟩
theorem But.set {i : Nat} {σ : L2.St} {o : Option V} : But [i] σ (σ.set i o) := ⟨by simp, fun j hj => by rw [List.getElem?_set_ne (fun z => hj (by simp [z]))]⟩
def tG (mg : Str → Option Value) (K : PySem.W.Frag) (g : GF) (vs : List Nat) : TG := fun v σ H Q => ∃ η θ μ ρ s ρ', StOk mg K η H θ μ ∧ RepS mg K (hid H (θ ++ η)) θ ρ σ ∧ RepSl mg K (hid H (θ ++ η)) θ s v ∧ g s ρ = some ρ' ∧ ∀ σ', RepS mg K (hid H (θ ++ η)) θ ρ' σ' → But vs σ σ' → Q σ' H
def tGs (mg : Str → Option Value) (K : PySem.W.Frag) (gs : List GF) (ws : List Nat) : TGs := fun vs σ H Q => ∃ η θ μ ρ ds ρ', StOk mg K η H θ μ ∧ RepS mg K (hid H (θ ++ η)) θ ρ σ ∧ RepL mg K (hid H (θ ++ η)) ds vs ∧ gLs gs ds ρ = some ρ' ∧ ∀ σ', RepS mg K (hid H (θ ++ η)) θ ρ' σ' → But ws σ σ' → Q σ' H
def PGd (X : Cx) (e : Expr) (g : GF) (vs : List Nat) : Prop := PG X e (tG X.mg X.K g vs)
def PGsd (X : Cx) (es : List Expr) (gs : List GF) (vs : List Nat) : Prop := PGs X es (tGs X.mg X.K gs vs)
section
variable {X : Cx} {W : WXD} {CX : CXT} {k : Nat}
theorem PG.imp {e : Expr} {t t' : TG} (h : PG X e t) (k : ∀ v σ H Q, t' v σ H Q → t v σ H Q) : PG X e t' := ⟨fun pins s σ H v u Q I r q => h.run pins s σ H v u Q I r (k v σ H Q q)⟩
theorem PGs.imp {e : List Expr} {t t' : TGs} (h : PGs X e t) (k : ∀ v σ H Q, t' v σ H Q → t v σ H Q) : PGs X e t' := ⟨fun pins s σ H xs us Q I r q => h.run pins s σ H xs us Q I r (k xs σ H Q q)⟩
theorem PG.or {e : Expr} {t t' : TG} (h : PG X e t) (h' : PG X e t') : PG X e (fun v σ H Q => t v σ H Q ∨ t' v σ H Q) :=
  ⟨fun pins s σ H v u Q I r q => q.elim (fun z => h.run pins s σ H v u Q I r z) (fun z => h'.run pins s σ H v u Q I r z)⟩
theorem pgd_n (C : Cxb X CX W k) (i : Nat) {x : Str} {pos : Pos} (hi : X.N[i]? = some x := by rfl) (hx : Loc X.env.scope x := by first | exact Or.inl rfl | exact Or.inr rfl) (hf : X.fn x = true ∨ X.env.scope.names.lookup x = some .local := by first | exact .inl rfl | exact .inr rfl) : PGd X (.Name x pos) (gN i) [i] := by
  refine PG.imp (pg_name C.nd hi hx hf) fun v σ H Q h => ?_
  obtain ⟨η, θ, μ, ρ, s, ρ', ok, rs, rv, e, q⟩ := h
  cases e
  exact q _ (rs.set rv) But.set
theorem pgd_nil : PGsd X [] [] [] := by
  refine PGs.imp pgs_nil fun vs σ H Q h => ?_
  obtain ⟨η, θ, μ, ρ, ds, ρ', ok, rs, l, e, q⟩ := h
  cases l with
  | nil => cases e; exact ⟨rfl, q σ rs (But.refl _ _)⟩
  | cons _ _ => cases e
theorem pgd_cons {e : Expr} {es : List Expr} {g : GF} {gs : List GF} {vs ws : List Nat} (h1 : PGd X e g vs) (h2 : PGsd X es gs ws) (ha : (assignEach (e :: es) X.env).map (·.2) = assign e X.env :: (assignEach es X.env).map (·.2) := by rfl) : PGsd X (e :: es) (g :: gs) (vs ++ ws) := by
  refine PGs.imp (pgs_cons h1 h2 ha) fun vs σ H Q h => ?_
  obtain ⟨η, θ, μ, ρ, ds, ρ', ok, rs, l, e, q⟩ := h
  cases l with
  | nil => cases e
  | cons r l =>
    simp only [gLs] at e
    obtain ⟨ρ1, e1, e2⟩ := Option.bind_eq_some_iff.mp e
    exact ⟨_, _, rfl, η, θ, μ, ρ, _, ρ1, ok, rs, .d r, e1, fun σ1 rs1 b1 => ⟨η, θ, μ, ρ1, _, ρ', ok, rs1, l, e2, fun σ2 rs2 b2 => q σ2 rs2 ((b1.mono fun i hi => List.mem_append_left _ hi).trans (b2.mono fun i hi => List.mem_append_right _ hi))⟩⟩
theorem gLs_len : ∀ {gs : List GF} {ds : List D} {ρ ρ' : Rho}, gLs gs ds ρ = some ρ' → ds.length = gs.length
  | [], [], _, _, _ => rfl
  | g :: gs, d :: ds, _, _, e => by
    simp only [gLs] at e
    obtain ⟨ρ1, e1, e2⟩ := Option.bind_eq_some_iff.mp e
    simp [gLs_len e2]
  | [], _ :: _, _, _, e => by cases e
  | _ :: _, [], _, _, e => by cases e
theorem pgd_t {es : List Expr} {gs : List GF} {n m : Nat} {vs : List Nat} {pos : Pos} (C : Cxb X CX W k) (h : PGsd X es gs vs) (hn : gs.length = n := by rfl) (h1 : (assignEach es X.env).length = n := by rfl)
    (h2 : (assignEach es X.env).findIdx? (fun x => x.1) = none := by rfl) : PGd X (.Tuple es m pos) (gT gs) vs := by
  refine PG.imp (PG.or (pg_tup (n := n) C.calm h h1 h2) (pg_unl (n := n) C.calm h h1 h2)) fun v σ H Q h => ?_
  obtain ⟨η, θ, μ, ρ, s, ρ', ok, rs, rv, e, q⟩ := h
  unfold gT at e
  split at e
  · cases rv with
    | d rv =>
      cases rv with
      | tup hp l => exact .inl ⟨_, _, rfl, SqT.of (hid_some hp).2, by rw [← l.length, gLs_len e, hn], η, θ, μ, ρ, _, ρ', ok, rs, l, e, q⟩
  · cases rv with
    | d rv =>
      cases rv with
      | lst hp l => exact .inr ⟨_, _, rfl, SqL.of (hid_some hp).2, by rw [← l.length, gLs_len e, hn], η, θ, μ, ρ, _, ρ', ok, rs, l, e, q⟩
  · cases e
end

/-! ### what is walked -/
structure ItOk (mg : Str → Option Value) (K : PySem.W.Frag) (G : Hp) (J : It) (ds : List D) : Prop where
  goes : ∀ (i : Nat) (H : Hp) (S : List Addr), i < ds.length → Ext G (hid H S) → J.go i H
  stops : ∀ (H : Hp) (S : List Addr), Ext G (hid H S) → J.stop ds.length H
  yields : ∀ (i : Nat) (H : Hp) (x : V) (H' : Hp) (S : List Addr), i < ds.length → Ext G (hid H S) → (∀ p ∈ S, H p ≠ none) → J.yld i H x H' → Same H H' ∧ ∃ d, ds[i]? = some d ∧ Rep mg K (hid H' S) d x
def tI (mg : Str → Option Value) (K : PySem.W.Frag) (W : WXD) (f : LF) : TI := fun σ H R => ∃ η θ μ ρ, StOk mg K η H θ μ ∧ RepS mg K (hid H (θ ++ η)) θ ρ σ ∧ Fin mg K (fun c d => W c d σ) η H θ (fun G _ ds J => ItOk mg K G J ds) (f ρ μ) R
def PId (X : Cx) (W : WXD) (tg iter : Expr) (f : LF) : Prop := PI X tg iter (tI X.mg X.K W f)
def sSq (f : EF) : LF := fun ρ μ => (f ρ μ).bind fun x μ1 => match x with
  | .d (.lst ds) => .ok ds μ1
  | .d (.tup ds) => .ok ds μ1
  | _ => .no
def rngL (lo : Int) : Nat → List D
  | 0 => []
  | n + 1 => .int lo :: rngL (lo + 1) n
theorem rngL_len : ∀ (n : Nat) (lo : Int), (rngL lo n).length = n
  | 0, _ => rfl
  | n + 1, lo => by simp [rngL, rngL_len n]
theorem rngL_get : ∀ (n : Nat) (lo : Int) (i : Nat), i < n → (rngL lo n)[i]? = some (.int (lo + i))
  | n + 1, lo, 0, _ => by simp [rngL]
  | n + 1, lo, i + 1, h => by
    simp only [rngL, List.getElem?_cons_succ]
    rw [rngL_get n (lo + 1) i (by omega)]
    congr 2; omega
def sRng1 (f : EF) : LF := fun ρ μ => (f ρ μ).bind fun x μ1 => match x with
  | .d (.int n) => if n.natAbs ≤ 1000000 then .ok (rngL 0 n.toNat) μ1 else .no
  | _ => .no
def sRng2 (f g : EF) : LF := fun ρ μ => (f ρ μ).bind fun x μ1 => (g ρ μ1).bind fun y μ2 => match x, y with
  | .d (.int a), .d (.int b) => if a.natAbs ≤ 1000000 ∧ b.natAbs ≤ 1000000 then .ok (rngL a (b - a).toNat) μ2 else .no
  | _, _ => .no
section
variable {X : Cx} {W : WXD} {CX : CXT} {k : Nat}
theorem PI.imp {tg e : Expr} {t t' : TI} (h : PI X tg e t) (k : ∀ σ H Q, t' σ H Q → t σ H Q) : PI X tg e t' := ⟨fun pins s σ H Q I q => h.run pins s σ H Q I (k σ H Q q)⟩
theorem PI.or {tg e : Expr} {t t' : TI} (h : PI X tg e t) (h' : PI X tg e t') : PI X tg e (fun σ H R => t σ H R ∨ t' σ H R) :=
  ⟨fun pins s σ H Q I q => q.elim (fun z => h.run pins s σ H Q I z) (fun z => h'.run pins s σ H Q I z)⟩
theorem ext_at {G H : Hp} {S : List Addr} {a : Addr} {o : HO} (e : Ext G (hid H S)) (h : G a = some o) (n : ∀ ps, o ≠ .tbl ps) : H a = some o := (hid_some (e a o h n)).2
theorem it_list {mg : Str → Option Value} {K : PySem.W.Frag} {G : Hp} {a : Addr} {xs : List V} {ds : List D} (h : G a = some (.lst xs)) (l : RepL mg K G ds xs) : ItOk mg K G (Itl K a) ds where
  goes := fun i H S hi e => ⟨xs, xs[i]'(by rw [← l.length]; exact hi), SqL.of (ext_at e h fun _ z => by cases z), by simp⟩
  stops := fun H S e => ⟨xs, SqL.of (ext_at e h fun _ z => by cases z), by rw [l.length]; exact Nat.le_refl _⟩
  yields := fun i H x H' S hi e f y => by
    obtain ⟨rfl, y⟩ := y
    have q := y xs (SqL.of (ext_at e h fun _ z => by cases z))
    obtain ⟨d, h1, h2⟩ := l.getV i q
    exact ⟨Same.refl _, d, h1, h2.ext e⟩
theorem it_tup {mg : Str → Option Value} {K : PySem.W.Frag} {G : Hp} {a : Addr} {xs : List V} {ds : List D} (h : G a = some (.tup xs)) (l : RepL mg K G ds xs) : ItOk mg K G (Itt K a) ds where
  goes := fun i H S hi e => ⟨xs, xs[i]'(by rw [← l.length]; exact hi), SqT.of (ext_at e h fun _ z => by cases z), by simp⟩
  stops := fun H S e => ⟨xs, SqT.of (ext_at e h fun _ z => by cases z), by rw [l.length]; exact Nat.le_refl _⟩
  yields := fun i H x H' S hi e f y => by
    obtain ⟨rfl, y⟩ := y
    have q := y xs (SqT.of (ext_at e h fun _ z => by cases z))
    obtain ⟨d, h1, h2⟩ := l.getV i q
    exact ⟨Same.refl _, d, h1, h2.ext e⟩
theorem it_rng {mg : Str → Option Value} {K : PySem.W.Frag} {G : Hp} {lo : Int} {n : Nat} : ItOk mg K G (Itr lo n) (rngL lo n) where
  goes := fun i H S hi e => by rw [rngL_len] at hi; exact hi
  stops := fun H S e => by rw [rngL_len]; exact Nat.le_refl _
  yields := fun i H x H' S hi e f y => by
    obtain ⟨rfl, rfl⟩ := y
    rw [rngL_len] at hi
    exact ⟨Same.refl _, _, rngL_get n lo i hi, .int⟩
theorem pid_sq {tg l : Expr} {f : EF} (h : PEd X W l f) : PId X W tg l (sSq f) := by
  refine PI.imp (PI.or (pi_list h) (pi_tup h)) fun σ H R hh => ?_
  obtain ⟨η, θ, μ, ρ, ok, rs, fin⟩ := hh
  unfold sSq at fin
  cases e : f ρ μ with
  | ok x μ1 =>
    rw [e] at fin
    simp only [Res.bind] at fin
    split at fin
    · refine .inl ⟨η, θ, μ, ρ, ok, rs, ?_⟩
      rw [e]
      intro v H1 θ1 st rx
      cases rx with
      | d rx => cases rx with
        | lst hp l => exact ⟨_, rfl, ⟨_, SqL.of (hid_some hp).2⟩, (Fin.rebase st fin) _ _ _ (Step.refl st.ok) (it_list hp l)⟩
    · refine .inr ⟨η, θ, μ, ρ, ok, rs, ?_⟩
      rw [e]
      intro v H1 θ1 st rx
      cases rx with
      | d rx => cases rx with
        | tup hp l => exact ⟨_, rfl, ⟨_, SqT.of (hid_some hp).2⟩, (Fin.rebase st fin) _ _ _ (Step.refl st.ok) (it_tup hp l)⟩
    · exact fin.elim
  | ex x μ' => rw [e] at fin; exact .inl ⟨η, θ, μ, ρ, ok, rs, by rw [e]; exact fin⟩
  | no => rw [e] at fin; exact fin.elim
theorem pid_rng1 {tg a : Expr} {f : EF} {p pos : Pos} (hg : Gl X "range") (hm : X.mg "range" = none) (ha : PEd X W a f) (hs : starEach [a] X.env = [(false, eval a X.env)] := by rfl) : PId X W tg (.Call (.Name "range" p) [a] [] pos) (sRng1 f) := by
  refine PI.imp (pi_range1 hg hm (pd_cons ha pd_nil hs) hs) fun σ H R hh => ?_
  obtain ⟨η, θ, μ, ρ, ok, rs, fin⟩ := hh
  refine ⟨η, θ, μ, ρ, ok, rs, ?_⟩
  unfold sRng1 at fin
  unfold aCons
  cases e : f ρ μ with
  | ok x μ1 =>
    rw [e] at fin
    simp only [Res.bind] at fin
    intro vs H1 θ1 st rx
    cases rx with
    | cons rx l =>
      cases l
      split at fin
      · split at fin
        · rename_i hn
          cases rx with
          | d rx => cases rx; exact ⟨_, rfl, by omega, by omega, (Fin.rebase st fin) _ _ _ (Step.refl st.ok) it_rng⟩
        · exact fin.elim
      · exact fin.elim
  | ex x μ' => rw [e] at fin; exact fin
  | no => rw [e] at fin; exact fin
theorem pid_rng2 {tg a b : Expr} {f g : EF} {p pos : Pos} (hg : Gl X "range") (hm : X.mg "range" = none) (ha : PEd X W a f) (hb : PEd X W b g) (hs : starEach [a, b] X.env = [(false, eval a X.env), (false, eval b X.env)] := by rfl) (hs2 : starEach [b] X.env = [(false, eval b X.env)] := by rfl) (hs3 : starEach [a, b] X.env = (false, eval a X.env) :: starEach [b] X.env := by rfl) :
    PId X W tg (.Call (.Name "range" p) [a, b] [] pos) (sRng2 f g) := by
  refine PI.imp (pi_range2 hg hm (pd_cons ha (pd_cons hb pd_nil hs2) hs3) hs hs2) fun σ H R hh => ?_
  obtain ⟨η, θ, μ, ρ, ok, rs, fin⟩ := hh
  refine ⟨η, θ, μ, ρ, ok, rs, ?_⟩
  unfold sRng2 at fin
  unfold aCons
  cases e : f ρ μ with
  | ok x μ1 =>
    rw [e] at fin
    simp only [Res.bind] at fin ⊢
    cases e2 : g ρ μ1 with
    | ok y μ2 =>
      rw [e2] at fin
      simp only [aNil] at fin ⊢
      intro vs H1 θ1 st rx
      cases rx with
      | cons rx l =>
        cases l with
        | cons ry l =>
          cases l
          split at fin
          · split at fin
            · rename_i hn
              cases rx with
              | d rx =>
                cases rx
                cases ry with
                | d ry => cases ry; exact ⟨_, _, rfl, ⟨by omega, by omega, by omega, by omega⟩, (Fin.rebase st fin) _ _ _ (Step.refl st.ok) it_rng⟩
            · exact fin.elim
          · exact fin.elim
    | ex x μ' => rw [e2] at fin; exact fin
    | no => rw [e2] at fin; exact fin
  | ex x μ' => rw [e] at fin; exact fin
  | no => rw [e] at fin; exact fin
end

/-! ### statements -/
def sNil : SF := fun ρ μ => .nx ρ μ
def Out.then (o : Out) (g : SF) : Out := match o with
  | .nx ρ μ => g ρ μ
  | o => o
def sSeq (f g : SF) : SF := fun ρ μ => (f ρ μ).then g
def sBreak : SF := fun ρ μ => .bk ρ μ
def sCont : SF := fun ρ μ => .ct ρ μ
def sExp (f : EF) : SF := fun ρ μ => (f ρ μ).toOut ρ fun _ μ1 => .nx ρ μ1
def sRet (f : EF) : SF := fun ρ μ => (f ρ μ).toOut ρ fun s μ1 => .rt s μ1
def sRetN : SF := fun _ μ => .rt (.d .non) μ
def sIf (c : BF) (f g : SF) : SF := fun ρ μ => (c ρ μ).toOut ρ fun b μ1 => if b = true then f ρ μ1 else g ρ μ1
def sAsg (f : EF) (g : GF) : SF := fun ρ μ => (f ρ μ).toOut ρ fun s μ1 => match g s ρ with
  | some ρ' => .nx ρ' μ1
  | none => .no
def sPar (i j : Nat) (f g : EF) : SF := fun ρ μ => (f ρ μ).toOut ρ fun s μ1 => (g ρ μ1).toOut ρ fun t μ2 => .nx ((ρ.set i (some s)).set j (some t)) μ2
def sNever : SF := fun _ _ => .no
/-- o[i] = e -/
def sSet (fo fi fe : EF) : SF := fun ρ μ => (fe ρ μ).toOut ρ fun x μ1 => (fo ρ μ1).toOut ρ fun o μ2 => (fi ρ μ2).toOut ρ fun i μ3 => match o, i, x with
  | .ob n, .d (.int k), .d x => match μ3[n]? with
    | some (.lst ds) => match ixN ds.length k with
      | some j => .nx ρ (μ3.set n (.lst (ds.set j x)))
      | none => .no
    | _ => .no
  | _, _, _ => .no
def forL (g : GF) (body : SF) : List D → Rho → Store → Out
  | [], ρ, μ => .nx ρ μ
  | d :: ds, ρ, μ => match g (.d d) ρ with
    | none => .no
    | some ρ1 => match body ρ1 μ with
      | .nx ρ' μ' => forL g body ds ρ' μ'
      | .ct ρ' μ' => forL g body ds ρ' μ'
      | .bk ρ' μ' => .nx ρ' μ'
      | .rt s μ' => .rt s μ'
      | .ex x ρ' μ' => .ex x ρ' μ'
      | .no => .no
def sFor (src : LF) (g : GF) (body : SF) : SF := fun ρ μ => (src ρ μ).toOut ρ fun ds μ1 => forL g body ds ρ μ1
def whL (c : BF) (body : SF) : Nat → Rho → Store → Out
  | 0, _, _ => .no
  | n + 1, ρ, μ => (c ρ μ).toOut ρ fun b μ1 => if b = true then (match body ρ μ1 with
      | .nx ρ' μ' => whL c body n ρ' μ'
      | .ct ρ' μ' => whL c body n ρ' μ'
      | .bk ρ' μ' => .nx ρ' μ'
      | .rt s μ' => .rt s μ'
      | .ex x ρ' μ' => .ex x ρ' μ'
      | .no => .no) else .nx ρ μ1
def sWhile (n : Nat) (c : BF) (body : SF) : SF := fun ρ μ => whL c body n ρ μ
section
variable {X : Cx} {W : WXD} {CX : CXT} {k : Nat}
theorem FinS.imp {mg : Str → Option Value} {K : PySem.W.Frag} {W : WXD} {η : List Addr} {H : Hp} {θ : List Addr} {r : Out} {D1 D2 : Ends} (h : FinS mg K W η H θ r D1) (h1 : ∀ σ H, D1.nx σ H → D2.nx σ H) (h2 : ∀ v H, D1.rt v H → D2.rt v H) (h3 : ∀ σ H, D1.bk σ H → D2.bk σ H) (h4 : ∀ σ H, D1.ct σ H → D2.ct σ H) : FinS mg K W η H θ r D2 := by
  cases r with
  | nx a b => exact fun _ _ _ st r => h1 _ _ (h _ _ _ st r)
  | rt a b => exact fun _ _ _ st r => h2 _ _ (h _ _ _ st r)
  | bk a b => exact fun _ _ _ st r => h3 _ _ (h _ _ _ st r)
  | ct a b => exact fun _ _ _ st r => h4 _ _ (h _ _ _ st r)
  | ex a b c => exact h
  | no => exact h
theorem sd_nil : PSsd X W [] sNil := by
  refine PSs.imp pss_nil fun Dn σ H h => ?_
  obtain ⟨η, θ, μ, ρ, ok, rs, fin⟩ := h
  exact fin _ _ _ (Step.refl ok) rs
theorem sd_one {st : Stmt} {f : SF} (h : PSd X W st f) : PSsd X W [st] f := pss_one h
theorem sd_cons {st : Stmt} {rest : List Stmt} {f g : SF} (h1 : PSd X W st f) (h2 : PSsd X W rest g) : PSsd X W (st :: rest) (sSeq f g) := by
  refine PSs.imp (pss_cons h1 h2) fun Dn σ H h => ?_
  obtain ⟨η, θ, μ, ρ, ok, rs, fin⟩ := h
  refine ⟨η, θ, μ, ρ, ok, rs, ?_⟩
  unfold sSeq Out.then at fin
  cases e : f ρ μ with
  | nx ρ' μ' => rw [e] at fin; exact fun σ' H' θ' st r => ⟨η, θ', μ', ρ', st.ok, r, FinS.rebase st fin⟩
  | rt a b => rw [e] at fin; exact fin
  | bk a b => rw [e] at fin; exact fin
  | ct a b => rw [e] at fin; exact fin
  | ex a b c => rw [e] at fin; exact fin
  | no => rw [e] at fin; exact fin
theorem sd_pass {pos : Pos} : PSd X W (.Pass pos) sNil := by
  refine PS.imp ps_pass fun Dn σ H h => ?_
  obtain ⟨η, θ, μ, ρ, ok, rs, fin⟩ := h
  exact fin _ _ _ (Step.refl ok) rs
theorem sd_break {pos : Pos} : PSd X W (.Break pos) sBreak := by
  refine PS.imp ps_break fun Dn σ H h => ?_
  obtain ⟨η, θ, μ, ρ, ok, rs, fin⟩ := h
  exact fin _ _ _ (Step.refl ok) rs
theorem sd_cont {pos : Pos} : PSd X W (.Continue pos) sCont := by
  refine PS.imp ps_continue fun Dn σ H h => ?_
  obtain ⟨η, θ, μ, ρ, ok, rs, fin⟩ := h
  exact fin _ _ _ (Step.refl ok) rs
theorem sd_never {st : Stmt} : PSd X W st sNever := by
  refine PS.imp ps_never fun Dn σ H h => ?_
  obtain ⟨η, θ, μ, ρ, ok, rs, fin⟩ := h
  exact fin.elim
theorem sd_exp {e : Expr} {f : EF} {pos : Pos} (h : PEd X W e f) (hs : swapsWith e none pos.line X.env = pure false := by rfl) : PSd X W (.Expr e pos) (sExp f) := by
  refine PS.imp (ps_expr h hs) fun Dn σ H h => ?_
  obtain ⟨η, θ, μ, ρ, ok, rs, fin⟩ := h
  exact ⟨η, θ, μ, ρ, ok, rs, Fin.andThenS fin rs fun a μ1 v H1 θ1 _ st r f1 => f1 _ _ _ (Step.refl st.ok) (rs.step st)⟩
theorem sd_ret {e : Expr} {f : EF} {pos : Pos} (h : PEd X W e f) : PSd X W (.Return (some e) pos) (sRet f) := by
  refine PS.imp (ps_ret h) fun Dn σ H h => ?_
  obtain ⟨η, θ, μ, ρ, ok, rs, fin⟩ := h
  exact ⟨η, θ, μ, ρ, ok, rs, Fin.andThenS fin rs fun a μ1 v H1 θ1 _ st r f1 => f1 _ _ _ (Step.refl st.ok) r⟩
theorem sd_retN {pos : Pos} : PSd X W (.Return none pos) sRetN := by
  refine PS.imp ps_retN fun Dn σ H h => ?_
  obtain ⟨η, θ, μ, ρ, ok, rs, fin⟩ := h
  exact fin _ _ _ (Step.refl ok) (.d .non)
theorem sd_if {c : Expr} {a b : List Stmt} {fc : BF} {f g : SF} {pos : Pos} (hc : PBd X W c fc) (ha : PSsd X W a f) (hb : PSsd X W b g) : PSd X W (.If c a b pos) (sIf fc f g) := by
  refine PS.imp (ps_if hc ha hb) fun Dn σ H h => ?_
  obtain ⟨η, θ, μ, ρ, ok, rs, fin⟩ := h
  refine ⟨η, θ, μ, ρ, ok, rs, Fin.andThenS fin rs fun c μ1 c' H1 θ1 _ st r f1 => ?_⟩
  subst r
  cases c with
  | true => rw [if_pos rfl] at f1 ⊢; exact ⟨η, θ1, μ1, ρ, st.ok, rs.step st, f1⟩
  | false => rw [if_neg (by decide)] at f1 ⊢; exact ⟨η, θ1, μ1, ρ, st.ok, rs.step st, f1⟩
theorem sd_asg {tg e : Expr} {f : EF} {g : GF} {vs : List Nat} {pos : Pos} (he : PEd X W e f) (hg : PGd X tg g vs) (hs : swapsWithSole [tg] e pos.line X.env = pure false := by rfl) (hw : swappedStores [tg] e X.env = pure none := by rfl) (h3 : (assignEach [tg] X.env).map (·.2) = [assign tg X.env] := by rfl) : PSd X W (.Assign [tg] e pos) (sAsg f g) := by
  refine PS.imp (ps_asg he hg hs hw h3) fun Dn σ H h => ?_
  obtain ⟨η, θ, μ, ρ, ok, rs, fin⟩ := h
  refine ⟨η, θ, μ, ρ, ok, rs, Fin.andThenS fin rs fun s μ1 v H1 θ1 _ st r f1 => ?_⟩
  split at f1
  · rename_i ρ' e
    exact ⟨η, θ1, μ1, ρ, s, ρ', st.ok, rs.step st, r, e, fun σ' rs' _ => f1 _ _ _ (Step.refl st.ok) rs'⟩
  · exact f1.elim
theorem sd_set {x : Str} (C : Cxb X CX W k) (i : Nat) {e : Expr} {f : EF} {pos pos' : Pos} (he : PEd X W e f) (hi : X.N[i]? = some x := by rfl) (hx : Loc X.env.scope x := by first | exact Or.inl rfl | exact Or.inr rfl) (hs : swapsWith e (some (.Name x pos')) pos.line X.env = pure false := by rfl) (hf : X.fn x = true ∨ X.env.scope.names.lookup x = some .local := by first | exact .inl rfl | exact .inr rfl) : PSd X W (.Assign [.Name x pos'] e pos) (sAsg f (gN i)) := by
  refine PS.imp (ps_set C.nd hi hx he hs hf) fun Dn σ H h => ?_
  obtain ⟨η, θ, μ, ρ, ok, rs, fin⟩ := h
  refine ⟨η, θ, μ, ρ, ok, rs, Fin.andThenS fin rs fun s μ1 v H1 θ1 _ st r f1 => ?_⟩
  exact f1 _ _ _ (Step.refl st.ok) ((rs.step st).set r)
theorem sd_par (C : Cxb X CX W k) {i j : Nat} {x y : Str} {a b : Expr} {f g : EF} {px py pt pos : Pos} {kt k2 pt2} (ha : PEd X W a f) (hb : PEd X W b g) (hi : X.N[i]? = some x := by rfl) (hj : X.N[j]? = some y := by rfl) (hij : i ≠ j := by decide) (hx : X.env.scope.names.lookup x = some .local := by rfl) (hy : X.env.scope.names.lookup y = some .local := by rfl)
    (h1 : swappedStores [.Tuple [.Name x px, .Name y py] kt pt] (.Tuple [a, b] k2 pt2) X.env = pure (some [x, y]) := by rfl) (h2 : swapsWithSole [.Tuple [.Name x px, .Name y py] kt pt] (.Tuple [a, b] k2 pt2) pos.line X.env = pure false := by rfl)
    (hs : starEach [a, b] X.env = (false, eval a X.env) :: starEach [b] X.env := by rfl) (hs2 : starEach [b] X.env = (false, eval b X.env) :: starEach [] X.env := by rfl) :
    PSd X W (.Assign [.Tuple [.Name x px, .Name y py] kt pt] (.Tuple [a, b] k2 pt2) pos) (sPar i j f g) := by
  refine PS.imp (ps_par C.calm C.nd hi hj hij hx hy (pd_cons ha (pd_cons hb pd_nil hs2) hs) h1 h2) fun Dn σ H h => ?_
  obtain ⟨η, θ, μ, ρ, ok, rs, fin⟩ := h
  refine ⟨η, θ, μ, ρ, ok, rs, ?_⟩
  unfold sPar at fin
  unfold aCons
  cases e : f ρ μ with
  | ok x μ1 =>
    rw [e] at fin
    simp only [Res.toOut, Res.bind] at fin ⊢
    cases e2 : g ρ μ1 with
    | ok y μ2 =>
      rw [e2] at fin
      simp only [aNil] at fin ⊢
      intro vs H1 θ1 st rx
      cases rx with
      | cons rx l =>
        cases l with
        | cons ry l => cases l; exact ⟨_, _, rfl, fin _ _ _ st (((rs.step st).set rx).set ry)⟩
    | ex x μ' => rw [e2] at fin; exact fun cv dd H' θ' st xr => fin cv dd σ H' θ' st (rs.step st) xr
    | no => rw [e2] at fin; exact fin
  | ex x μ' => rw [e] at fin; exact fun cv dd H' θ' st xr => fin cv dd σ H' θ' st (rs.step st) xr
  | no => rw [e] at fin; exact fin
theorem sd_sub {o i e : Expr} {fo fi fe : EF} {pos p2 : Pos} (ho : PEd X W o fo) (hi : PEd X W i fi) (he : PEd X W e fe)
    (h1 : ∀ v, assign (.Subscript o i p2) X.env v = (do let ov ← holding [v] (eval o X.env); let iv ← holding [v, ov] (eval i X.env); standAt p2; holding [v, ov, iv] (setItem ov iv v); release [v, ov, iv] []) := by intro _; rfl)
    (hs : swapsWithSole [.Subscript o i p2] e pos.line X.env = pure false := by rfl) (hw : swappedStores [.Subscript o i p2] e X.env = pure none := by rfl) (h3 : (assignEach [.Subscript o i p2] X.env).map (·.2) = [assign (.Subscript o i p2) X.env] := by rfl) :
    PSd X W (.Assign [.Subscript o i p2] e pos) (sSet fo fi fe) := by
  refine PS.imp (ps_asg he (pg_sub ho hi set_list h1) hs hw h3) fun Dn σ H h => ?_
  obtain ⟨η, θ, μ, ρ, ok, rs, fin⟩ := h
  refine ⟨η, θ, μ, ρ, ok, rs, Fin.andThenS fin rs fun x μ1 xv H1 θ1 _ st rx f1 => ⟨η, θ1, μ1, ρ, st.ok, rs.step st, Fin.andThenS f1 (rs.step st) fun o μ2 ov H2 θ2 _ st2 ro f2 => ⟨η, θ2, μ2, ρ, st2.ok, (rs.step st).step st2, Fin.andThenS f2 ((rs.step st).step st2) fun i μ3 iv H3 θ3 _ st3 ri f3 => ?_⟩⟩⟩
  split at f3
  · split at f3
    · rename_i e0
      obtain ⟨a, xs, rfl, ha, hx, lx⟩ := ob_lst st3.ok (ro.step st3) e0
      split at f3
      · rename_i j ej
        cases ri with
        | d ri =>
          cases ri
          cases rx with
          | d rx =>
            refine ⟨a, xs, _, j, rfl, rfl, hx, by rw [← lx.length]; exact ej, ?_⟩
            have s4 := st3.ok.setOb (o := .lst (xs.set j xv)) (m := .lst (_)) ha ⟨_, upd_same, RepL.set ((rx.step st2).step st3) j lx⟩
            exact f3 _ _ _ s4 ((((rs.step st).step st2).step st3).step s4)
      · exact f3.elim
    · exact f3.elim
  · exact f3.elim
theorem sd_for {tg iter : Expr} {body : List Stmt} {src : LF} {g : GF} {vs : List Nat} {f : SF} {pos : Pos} (C : Cxt X CX W k) (hi : PId X W tg iter src) (hg : PGd X tg g vs) (hb : PSsd X W body f) (hs : ∀ x, foldedSetIterable iter X.env x = pure x := by intro _; rfl) : PSd X W (.For tg iter body [] pos) (sFor src g f) := by
  refine PS.imp (ps_for C.own C.calm hi hg hb hs) fun Dn σ H h => ?_
  obtain ⟨η, θ, μ, ρ, ok, rs, fin⟩ := h
  refine ⟨η, θ, μ, ρ, ok, rs, Fin.andThenS fin rs fun ds μ1 J H1 θ1 _ st it f1 => ?_⟩
  refine ⟨fun i m σ H => m = ds.length - i ∧ i ≤ ds.length ∧ ∃ θ μ ρ, StOk X.mg X.K η H θ μ ∧ RepS X.mg X.K (hid H (θ ++ η)) θ ρ σ ∧ Ext (hid H1 (θ1 ++ η)) (hid H (θ ++ η)) ∧ FinS X.mg X.K W η H θ (forL g f (ds.drop i) ρ μ) Dn,
    ⟨ds.length, by simp, Nat.zero_le _, θ1, μ1, ρ, st.ok, rs.step st, Ext.refl _, by rw [List.drop_zero]; exact f1⟩, ?_⟩
  rintro i m σ2 H2 ⟨rfl, hi, θ2, μ2, ρ2, ok2, rs2, ex2, f2⟩
  by_cases hlt : i < ds.length
  · refine .inr ⟨it.goes i H2 _ hlt ex2, fun σ H => i + 1 ≤ ds.length ∧ ∃ θ μ ρ, StOk X.mg X.K η H θ μ ∧ RepS X.mg X.K (hid H (θ ++ η)) θ ρ σ ∧ Ext (hid H1 (θ1 ++ η)) (hid H (θ ++ η)) ∧ FinS X.mg X.K W η H θ (forL g f (ds.drop (i + 1)) ρ μ) Dn, fun σ' H' hN => ⟨ds.length - (i + 1), by omega, rfl, hN.1, hN.2⟩, fun x H3 y => ?_⟩
    obtain ⟨sm, d, hd, rd⟩ := it.yields i H2 x H3 _ hlt ex2 ok2.trk y
    have st3 := ok2.same sm
    have ed : ds.drop i = d :: ds.drop (i + 1) := by
      rw [List.drop_eq_getElem_cons hlt]
      congr 1
      exact Option.some.inj ((List.getElem?_eq_getElem hlt).symm.trans hd)
    rw [ed] at f2
    simp only [forL] at f2
    split at f2
    · exact f2.elim
    · rename_i ρ3 eg
      refine ⟨η, θ2, μ2, ρ2, .d d, ρ3, st3.ok, rs2.step st3, .d rd, eg, fun σ3 rs3 _ => ⟨η, θ2, μ2, ρ3, st3.ok, rs3, ?_⟩⟩
      have f3 := FinS.rebase st3 f2
      cases e : f ρ3 μ2 with
      | nx ρ' μ' => rw [e] at f3; exact fun σ' H' θ' st r => ⟨hlt, θ', μ', ρ', st.ok, r, (ex2.trans st3.ext).trans st.ext, FinS.rebase st f3⟩
      | ct ρ' μ' => rw [e] at f3; exact fun σ' H' θ' st r => ⟨hlt, θ', μ', ρ', st.ok, r, (ex2.trans st3.ext).trans st.ext, FinS.rebase st f3⟩
      | bk ρ' μ' => rw [e] at f3; exact f3
      | rt a b => rw [e] at f3; exact f3
      | ex a b c => rw [e] at f3; exact f3
      | no => rw [e] at f3; exact f3
  · have e : i = ds.length := by omega
    subst e
    rw [List.drop_length] at f2
    exact .inl ⟨it.stops H2 _ ex2, f2 _ _ _ (Step.refl ok2) rs2⟩
theorem sd_while {c : Expr} {body : List Stmt} {fc : BF} {f : SF} {pos : Pos} (C : Cxt X CX W k) (n : Nat) (hc : PBd X W c fc) (hb : PSsd X W body f) : PSd X W (.While c body [] pos) (sWhile n fc f) := by
  refine PS.imp (ps_while C.own hc hb) fun Dn σ H h => ?_
  obtain ⟨η, θ, μ, ρ, ok, rs, fin⟩ := h
  refine ⟨fun m σ H => ∃ θ μ ρ, StOk X.mg X.K η H θ μ ∧ RepS X.mg X.K (hid H (θ ++ η)) θ ρ σ ∧ FinS X.mg X.K W η H θ (whL fc f m ρ μ) Dn, ⟨n, θ, μ, ρ, ok, rs, fin⟩, ?_⟩
  rintro m σ2 H2 ⟨θ2, μ2, ρ2, ok2, rs2, f2⟩
  cases m with
  | zero => exact f2.elim
  | succ m =>
    simp only [whL] at f2
    refine ⟨η, θ2, μ2, ρ2, ok2, rs2, Fin.andThenS f2 rs2 fun b μ3 b' H3 θ3 _ st3 r f3 => ?_⟩
    subst r
    cases b with
    | false => rw [if_neg (by decide)] at f3 ⊢; exact f3 _ _ _ (Step.refl st3.ok) (rs2.step st3)
    | true =>
      rw [if_pos rfl] at f3 ⊢
      refine ⟨_, fun σ' H' hN => ⟨m, Nat.lt_succ_self m, hN⟩, η, θ3, μ3, ρ2, st3.ok, rs2.step st3, ?_⟩
      cases e : f ρ2 μ3 with
      | nx ρ' μ' => rw [e] at f3; exact fun σ' H' θ' st r => ⟨θ', μ', ρ', st.ok, r, FinS.rebase st f3⟩
      | ct ρ' μ' => rw [e] at f3; exact fun σ' H' θ' st r => ⟨θ', μ', ρ', st.ok, r, FinS.rebase st f3⟩
      | bk ρ' μ' => rw [e] at f3; exact f3
      | rt a b => rw [e] at f3; exact f3
      | ex a b c => rw [e] at f3; exact f3
      | no => rw [e] at f3; exact f3
end
end DL

set_option Elab.async false
set_option linter.all false
set_option maxRecDepth 100000
set_option maxHeartbeats 1000000
/-! DLComp: list comprehensions, defs and their calls -/
namespace DL
open PySem PySem.Spec PyProof.Rows L2
variable [TabCtx]

/-! ### comprehensions -/
def wipeR (ρ : Rho) : List Nat → Rho
  | [] => ρ
  | v :: vs => (wipeR ρ vs).set v none
def bYes : BF := fun _ μ => .ok true μ
def lcL (vs : List Nat) (g : GF) (t : BF) (e : EF) (ρ : Rho) : List D → Store → Res (List D)
  | [], μ => .ok [] μ
  | d :: ds, μ => match g (.d d) (wipeR ρ vs) with
    | none => .no
    | some ρ1 => match t ρ1 μ with
      | .ok true μ1 => match e ρ1 μ1 with
        | .ok (.d y) μ2 => match lcL vs g t e ρ ds μ2 with
          | .ok ys μ3 => .ok (y :: ys) μ3
          | _ => .no
        | _ => .no
      | .ok false μ1 => lcL vs g t e ρ ds μ1
      | _ => .no
def lc2L (vs vs1 : List Nat) (g : GF) (t : BF) (src1 : LF) (g1 : GF) (t1 : BF) (e : EF) (ρ : Rho) : List D → Store → Res (List D)
  | [], μ => .ok [] μ
  | d :: ds, μ => match g (.d d) (wipeR ρ vs) with
    | none => .no
    | some ρ1 => match t ρ1 μ with
      | .ok true μ1 => match src1 ρ1 μ1 with
        | .ok ds1 μ2 => match lcL vs1 g1 t1 e ρ1 ds1 μ2 with
          | .ok ys μ3 => match lc2L vs vs1 g t src1 g1 t1 e ρ ds μ3 with
            | .ok zs μ4 => .ok (ys ++ zs) μ4
            | _ => .no
          | _ => .no
        | _ => .no
      | .ok false μ1 => lc2L vs vs1 g t src1 g1 t1 e ρ ds μ1
      | _ => .no
def lCap (r : Res (List D)) : Res (List D) := match r with
  | .ok ys μ => if ys.length ≤ 16777216 then .ok ys μ else .no
  | _ => .no
def lLc (vs : List Nat) (src : LF) (g : GF) (t : BF) (e : EF) : LF := fun ρ μ => (src ρ μ).bind fun ds μ1 => lCap (lcL vs g t e ρ ds μ1)
def lLc2 (vs vs1 : List Nat) (src : LF) (g : GF) (t : BF) (src1 : LF) (g1 : GF) (t1 : BF) (e : EF) : LF := fun ρ μ => (src ρ μ).bind fun ds μ1 => lCap (lc2L vs vs1 g t src1 g1 t1 e ρ ds μ1)

theorem wipe_get (σ : L2.St) (i : Nat) : ∀ vs : List Nat, (wipe σ vs)[i]? = if i ∈ vs ∧ i < σ.length then some none else σ[i]?
  | [] => by simp [wipe]
  | v :: vs => by
    unfold wipe
    by_cases h : v = i
    · subst h
      by_cases hl : v < σ.length
      · rw [List.getElem?_set_self (by rw [wipe_length]; exact hl), if_pos ⟨List.mem_cons_self, hl⟩]
      · rw [if_neg (fun z => hl z.2), List.getElem?_eq_none (by rw [List.length_set, wipe_length]; omega), List.getElem?_eq_none (by omega)]
    · rw [List.getElem?_set_ne h, wipe_get σ i vs]
      simp only [List.mem_cons, Ne.symm h, false_or]
theorem wipeR_get (σ : Rho) (i : Nat) : ∀ vs : List Nat, (wipeR σ vs).length = σ.length ∧ (wipeR σ vs)[i]? = if i ∈ vs ∧ i < σ.length then some none else σ[i]?
  | [] => by simp [wipeR]
  | v :: vs => by
    obtain ⟨h1, h2⟩ := wipeR_get σ i vs
    unfold wipeR
    refine ⟨by simp [h1], ?_⟩
    by_cases h : v = i
    · subst h
      by_cases hl : v < σ.length
      · rw [List.getElem?_set_self (by rw [h1]; exact hl), if_pos ⟨List.mem_cons_self, hl⟩]
      · rw [if_neg (fun z => hl z.2), List.getElem?_eq_none (by rw [List.length_set, h1]; omega), List.getElem?_eq_none (by omega)]
    · rw [List.getElem?_set_ne h, h2]
      simp only [List.mem_cons, Ne.symm h, false_or]
theorem wipe_but {vs : List Nat} {σ σ2 : L2.St} (h : But vs (wipe σ vs) σ2) : wipe σ2 vs = wipe σ vs := by
  apply List.ext_getElem?
  intro i
  have hl : σ2.length = σ.length := by rw [h.1, wipe_length]
  rw [wipe_get, wipe_get, hl]
  by_cases hi : i ∈ vs
  · by_cases hl2 : i < σ.length
    · rw [if_pos ⟨hi, hl2⟩, if_pos ⟨hi, hl2⟩]
    · rw [if_neg (fun z => hl2 z.2), if_neg (fun z => hl2 z.2), List.getElem?_eq_none (by omega), List.getElem?_eq_none (by omega)]
  · rw [if_neg (fun z => hi z.1), if_neg (fun z => hi z.1), h.2 i hi, wipe_get, if_neg (fun z => hi z.1)]
theorem RepS.wipe {mg : Str → Option Value} {K : PySem.W.Frag} {G : Hp} {θ : List Addr} {ρ : Rho} {σ : L2.St} (h : RepS mg K G θ ρ σ) (vs : List Nat) : RepS mg K G θ (wipeR ρ vs) (L2.wipe σ vs) := by
  refine ⟨by rw [(wipeR_get ρ 0 vs).1, wipe_length]; exact h.len, fun i d e => ?_⟩
  rw [(wipeR_get ρ i vs).2] at e
  by_cases hi : i ∈ vs ∧ i < ρ.length
  · rw [if_pos hi] at e; cases e
  · rw [if_neg hi] at e
    obtain ⟨v, h1, h2⟩ := h.at_ i d e
    refine ⟨v, ?_, h2⟩
    rw [wipe_get, if_neg (by rw [← h.len]; exact hi)]
    exact h1

/-! the new list hidden while it grows -/
section
variable {mg : Str → Option Value} {K : PySem.W.Frag} {η : List Addr} {H H1 H2 H' : Hp} {θ θ1 θ2 θ' : List Addr} {μ μ1 μ2 μ' : Store}
theorem hid_perm {S S' : List Addr} (h : ∀ p, p ∈ S ↔ p ∈ S') : hid H S = hid H S' := by
  funext p
  by_cases q : p ∈ S
  · rw [hid_in q, hid_in ((h p).mp q)]
  · rw [hid_out q, hid_out (fun z => q ((h p).mpr z))]
theorem StOk.hide (s : StOk mg K η H θ μ) {p : Addr} {o : HO} (hp : H p = none) (hpl : Plain o := by exact plain_lst) : StOk mg K (η ++ [p]) (upd H p o) θ μ ∧ Ext (hid H (θ ++ η)) (hid (upd H p o) (θ ++ (η ++ [p]))) := by
  have ne : ∀ b, H b ≠ none → b ≠ p := fun b q z => by rw [z] at q; exact q hp
  have e : Ext (hid H (θ ++ η)) (hid (upd H p o) (θ ++ (η ++ [p]))) := Ext.of fun b u q => by
    obtain ⟨q1, q2⟩ := hid_some q
    have nb := ne_of_none q2 hp
    rw [hid_out (fun z => ?_), upd_ne nb]
    · exact q2
    · rcases List.mem_append.mp z with z | z
      · exact q1 (List.mem_append_left _ z)
      · rcases List.mem_append.mp z with z | z
        · exact q1 (List.mem_append_right _ z)
        · exact nb (by simpa using z)
  refine ⟨⟨fun b q => ?_, s.len, s.nd, fun b hb q => ?_, fun n a o' h1 h2 => ?_, tabs_new s.tab hp, fun b q u e1 => ?_⟩, e⟩
  · rcases List.mem_append.mp q with q | q
    · rw [upd_ne (ne b (s.dom b q))]; exact s.dom b q
    · have : b = p := by simpa using q
      subst this; rw [upd_same]; simp
  · rcases List.mem_append.mp q with q | q
    · exact s.dj b hb q
    · have : b = p := by simpa using q
      subst this; exact s.fresh1 hp hb
  · exact (s.at_ n a o' h1 h2).ext e (upd_ne (ne a (s.tracked (List.mem_of_getElem? h1))))
  · rcases List.mem_append.mp q with q | q
    · exact s.pl b q u (by rw [← e1, upd_ne (ne b (s.dom b q))])
    · have : b = p := by simpa using q
      subst this; rw [upd_same] at e1; cases e1; exact hpl
theorem StOk.updHid (s : StOk mg K η H θ μ) {p : Addr} {o : HO} (hp : p ∈ η) (hpl : Plain o := by exact plain_lst) : StOk mg K η (upd H p o) θ μ ∧ hid (upd H p o) (θ ++ η) = hid H (θ ++ η) := by
  have e : hid (upd H p o) (θ ++ η) = hid H (θ ++ η) := by
    funext b
    by_cases hb : b ∈ θ ++ η
    · rw [hid_in hb, hid_in hb]
    · rw [hid_out hb, hid_out hb, upd_ne (fun z => hb (by rw [z]; exact List.mem_append_right _ hp))]
  refine ⟨⟨fun b q => ?_, s.len, s.nd, s.dj, fun n a o' h1 h2 => ?_, tabs_set s.tab (s.pl p hp), fun b q u e1 => ?_⟩, e⟩
  · by_cases hb : b = p
    · subst hb; rw [upd_same]; simp
    · rw [upd_ne hb]; exact s.dom b q
  · refine (s.at_ n a o' h1 h2).ext (by rw [e]; exact Ext.refl _) (upd_ne fun z => ?_)
    subst z
    exact s.dj _ (List.mem_of_getElem? h1) hp
  · by_cases hb : b = p
    · subst hb; rw [upd_same] at e1; cases e1; exact hpl
    · exact s.pl b q u (by rw [← e1, upd_ne hb])
def delH (H : Hp) (p : Addr) : Hp := fun b => if b = p then none else H b
theorem delH_upd {p : Addr} {o : HO} (h : H p = some o) : upd (delH H p) p o = H := by
  funext b
  by_cases hb : b = p
  · subst hb; rw [upd_same, h]
  · rw [upd_ne hb]; unfold delH; rw [if_neg hb]
theorem delH_ne {p b : Addr} (h : b ≠ p) : delH H p b = H b := by unfold delH; rw [if_neg h]
theorem StOk.unhide (s : StOk mg K (η ++ [p]) H θ μ) (hn : p ∉ η) : StOk mg K η (delH H p) θ μ ∧ hid H (θ ++ (η ++ [p])) = hid (delH H p) (θ ++ η) := by
  have e : hid H (θ ++ (η ++ [p])) = hid (delH H p) (θ ++ η) := by
    funext b
    by_cases hb : b = p
    · subst hb
      rw [hid_in (by simp)]
      unfold hid
      split
      · rfl
      · unfold delH; rw [if_pos rfl]
    · unfold hid
      rw [delH_ne hb]
      simp only [List.mem_append, List.mem_singleton, hb, or_false]
  have nep : ∀ b ∈ θ, b ≠ p := fun b hb z => s.dj b hb (by simp [z])
  refine ⟨⟨fun b q => ?_, s.len, s.nd, fun b hb q => s.dj b hb (List.mem_append_left _ q), fun n a o' h1 h2 => ?_, tabs_at s.tab (s.pl p (by simp)) fun b hb => delH_ne hb, fun b q u e1 => s.pl b (List.mem_append_left _ q) u (by rw [← e1, delH_ne (fun z => hn (by rw [← z]; exact q))])⟩, e⟩
  · rw [delH_ne (fun z => hn (by rw [← z]; exact q))]; exact s.dom b (List.mem_append_left _ q)
  · refine (s.at_ n a o' h1 h2).ext (by rw [e]; exact Ext.refl _) (delH_ne (nep a (List.mem_of_getElem? h1)))
end

section
variable {X : Cx} {W : WXD} {CX : CXT} {k : Nat}
/-- the state at a turn: the list at D0 so far -/
structure Gro (mg : Str → Option Value) (K : PySem.W.Frag) (η : List Addr) (D0 : Addr) (H1 : Hp) (θ1 : List Addr) (H : Hp) (θ : List Addr) (μ : Store) (acc : List D) : Prop where
  ok : StOk mg K (η ++ [D0]) H θ μ
  ext : Ext (hid H1 (θ1 ++ η)) (hid H (θ ++ (η ++ [D0])))
  pre : Pre θ1 θ
  fix : ∀ p ∈ η, H p = H1 p
  at_ : ∃ xs, H D0 = some (.lst xs) ∧ RepL mg K (hid H (θ ++ (η ++ [D0]))) acc xs
section
variable {mg : Str → Option Value} {K : PySem.W.Frag} {η : List Addr} {D0 : Addr} {H1 H H' : Hp} {θ1 θ θ' : List Addr} {μ μ' : Store} {acc : List D}
theorem Gro.start (s : StOk mg K η H1 θ1 μ) (hD : H1 D0 = none) : Gro mg K η D0 H1 θ1 (upd H1 D0 (.lst [])) θ1 μ [] :=
  ⟨(s.hide hD).1, (s.hide hD).2, Pre.refl _, fun p hp => upd_ne fun z => s.fresh2 hD (by rw [← z]; exact hp), [], upd_same, .nil⟩
theorem Gro.step (g : Gro mg K η D0 H1 θ1 H θ μ acc) (st : Step mg K (η ++ [D0]) H θ H' θ' μ') : Gro mg K η D0 H1 θ1 H' θ' μ' acc := by
  obtain ⟨xs, e, l⟩ := g.at_
  exact ⟨st.ok, g.ext.trans st.ext, g.pre.trans st.pre, fun p hp => (st.fix p (List.mem_append_left _ hp)).trans (g.fix p hp), xs, (st.fix D0 (by simp)).trans e, l.step st⟩
theorem Gro.push (g : Gro mg K η D0 H1 θ1 H θ μ acc) {y : D} {v : V} (r : Rep mg K (hid H (θ ++ (η ++ [D0]))) y v) (hn : D0 ∉ η) :
    ∃ xs, H D0 = some (.lst xs) ∧ xs.length = acc.length ∧ Gro mg K η D0 H1 θ1 (upd H D0 (.lst (xs ++ [v]))) θ μ (acc ++ [y]) ∧ hid (upd H D0 (.lst (xs ++ [v]))) (θ ++ (η ++ [D0])) = hid H (θ ++ (η ++ [D0])) := by
  obtain ⟨xs, e, l⟩ := g.at_
  obtain ⟨k1, k2⟩ := g.ok.updHid (o := .lst (xs ++ [v])) (p := D0) (by simp)
  refine ⟨xs, e, l.length.symm, ⟨k1, by rw [k2]; exact g.ext, g.pre, fun p hp => ?_, xs ++ [v], upd_same, ?_⟩, k2⟩
  · rw [upd_ne (fun z => hn (by rw [← z]; exact hp))]; exact g.fix p hp
  · rw [k2]; exact l.append (.cons r .nil)
theorem Gro.finish {E : XK} {Q : VK} {Hs : Hp} {θs : List Addr} {μ1 μe : Store} (g : Gro mg K η D0 H1 θ1 H θ μe acc) (st : Step mg K η Hs θs H1 θ1 μ1) (hn : D0 ∉ η) (h : FinL mg K E η Hs θs (.ok acc μe) Q) : Q (.ref D0) H := by
  obtain ⟨xs, e, l⟩ := g.at_
  obtain ⟨k1, k2⟩ := g.ok.unhide hn
  have q := h D0 (delH H D0) θ xs ⟨by rw [← k2]; exact st.ext.trans g.ext, st.pre.trans g.pre, fun p hp => ?_, k1⟩ (by unfold delH; rw [if_pos rfl]) (by rw [← k2]; exact l)
  · rw [delH_upd e] at q; exact q
  · rw [delH_ne (fun z => hn (by rw [← z]; exact hp))]; exact (g.fix p hp).trans (st.fix p hp)
end
theorem drop_cons {ds : List D} {i : Nat} {d : D} (hlt : i < ds.length) (hd : ds[i]? = some d) : ds.drop i = d :: ds.drop (i + 1) := by
  rw [List.drop_eq_getElem_cons hlt]
  congr 1
  exact Option.some.inj ((List.getElem?_eq_getElem hlt).symm.trans hd)
theorem lCap_ok {r : Res (List D)} {η : List Addr} {H : Hp} {θ : List Addr} {E : XK} {Q : VK} (h : FinL X.mg X.K E η H θ (lCap r) Q) : ∃ ys μ, r = .ok ys μ ∧ ys.length ≤ 16777216 ∧ FinL X.mg X.K E η H θ (.ok ys μ) Q := by
  unfold lCap at h
  split at h
  · split at h
    · exact ⟨_, _, rfl, by assumption, h⟩
    · exact h.elim
  · exact h.elim
/-- a turn of the (inner) loop: test, element, append -/
theorem lc_turn {vs vs0 : List Nat} {g : GF} {t : BF} {e : EF} {ρ : Rho} {σ : L2.St} {η : List Addr} {D0 : Addr} {H1 H : Hp} {θ1 θ : List Addr} {μ μe : Store} {acc : List D} {d : D} {rest ys tail : List D} {x : V} {Nx : Hp → Prop}
    (hv : ∀ i ∈ vs0, i ∈ vs) (hn : D0 ∉ η) (rs : RepS X.mg X.K (hid H (θ ++ (η ++ [D0]))) θ ρ σ) (gr : Gro X.mg X.K η D0 H1 θ1 H θ μ acc) (rd : Rep X.mg X.K (hid H (θ ++ (η ++ [D0]))) d x)
    (hl : lcL vs g t e ρ (d :: rest) μ = .ok ys μe) (hz : (acc ++ ys ++ tail).length ≤ 16777216)
    (k : ∀ H' θ' μ acc' ys', Gro X.mg X.K η D0 H1 θ1 H' θ' μ acc' → lcL vs g t e ρ rest μ = .ok ys' μe → acc' ++ ys' = acc ++ ys → Pre θ θ' → Ext (hid H (θ ++ (η ++ [D0]))) (hid H' (θ' ++ (η ++ [D0]))) → Nx H') :
    tG X.mg X.K g vs0 x (wipe σ vs) H fun σ2 H2 => wipe σ2 vs = wipe σ vs ∧ tBD X.mg X.K W0 t σ2 H2 fun b H3 =>
      if b = true then tD X.mg X.K W0 e σ2 H3 fun y H4 => ∃ acc, H4 D0 = some (.lst acc) ∧ acc.length < sizeLine ∧ Nx (upd H4 D0 (.lst (acc ++ [y]))) else Nx H3 := by
  simp only [lcL] at hl
  split at hl
  · cases hl
  · rename_i ρ1 eg
    refine ⟨_, θ, μ, wipeR ρ vs, .d d, ρ1, gr.ok, rs.wipe vs, .d rd, eg, fun σ2 rs2 but => ⟨wipe_but (but.mono hv), _, θ, μ, ρ1, gr.ok, rs2, ?_⟩⟩
    split at hl
    · rename_i μ1 et
      rw [et]
      intro b' H3 θ3 st3 eb
      subst eb
      rw [if_pos rfl]
      refine ⟨_, θ3, μ1, ρ1, st3.ok, rs2.step st3, ?_⟩
      split at hl
      · rename_i y μ2 ee
        rw [ee]
        intro vy H4 θ4 st4 ry
        cases ry with
        | d ry =>
          split at hl
          · rename_i ys' μ3 er
            cases hl
            obtain ⟨xs, h1, h2, g4, h5⟩ := ((gr.step st3).step st4).push ry hn
            refine ⟨xs, h1, ?_, k _ _ _ _ ys' g4 er (by simp) (st3.pre.trans st4.pre) (by rw [h5]; exact st3.ext.trans st4.ext)⟩
            rw [sizeLine_eq, h2]
            simp at hz
            omega
          · cases hl
      · cases hl
    · rename_i μ1 et
      rw [et]
      intro b' H3 θ3 st3 eb
      subst eb
      rw [if_neg (by decide)]
      exact k _ _ _ _ ys (gr.step st3) hl rfl st3.pre st3.ext
    · cases hl
theorem lc_read {src : LF} {vs vs0 : List Nat} {g : GF} {t : BF} {e : EF} (hv : ∀ i ∈ vs0, i ∈ vs) (σ : L2.St) (H : Hp) (Q : VK) (h : tL X.mg X.K W (lLc vs src g t e) σ H Q) : tLc (tI X.mg X.K W src) (tG X.mg X.K g vs0) (tBD X.mg X.K W0 t) (tD X.mg X.K W0 e) vs σ H Q := by
  obtain ⟨η, θ, μ, ρ, ok, rs, fin⟩ := h
  refine ⟨η, θ, μ, ρ, ok, rs, ?_⟩
  unfold lLc at fin
  cases es : src ρ μ with
  | ex x μ' => rw [es] at fin; exact fin
  | no => rw [es] at fin; exact fin
  | ok ds μ1 =>
    rw [es] at fin
    intro J H1 θ1 st it D0 hD
    obtain ⟨tot, μe, el, hz, fin⟩ := lCap_ok fin
    have hn : D0 ∉ η := st.ok.fresh2 hD
    refine ⟨fun i m H => m = ds.length - i ∧ i ≤ ds.length ∧ ∃ θ μ acc ys, Gro X.mg X.K η D0 H1 θ1 H θ μ acc ∧ lcL vs g t e ρ (ds.drop i) μ = .ok ys μe ∧ tot = acc ++ ys,
      ⟨ds.length, by simp, Nat.zero_le _, θ1, μ1, [], tot, Gro.start st.ok hD, by rw [List.drop_zero]; exact el, rfl⟩, ?_⟩
    rintro i m H2 ⟨rfl, hi, θ2, μ2, acc, ys, gr, hl, ht⟩
    by_cases hlt : i < ds.length
    · refine .inr ⟨it.goes i H2 _ hlt gr.ext, fun H => i + 1 ≤ ds.length ∧ ∃ θ μ acc ys, Gro X.mg X.K η D0 H1 θ1 H θ μ acc ∧ lcL vs g t e ρ (ds.drop (i + 1)) μ = .ok ys μe ∧ tot = acc ++ ys, fun H' hN => ⟨ds.length - (i + 1), by omega, rfl, hN.1, hN.2⟩, fun x H3 y => ?_⟩
      obtain ⟨sm, d, hd, rd⟩ := it.yields i H2 x H3 _ hlt gr.ext gr.ok.trk y
      have g3 := gr.step (gr.ok.same sm)
      rw [drop_cons hlt hd] at hl
      exact lc_turn (tail := []) hv hn ((rs.step st).ext g3.ext g3.pre) g3 rd hl (by rw [List.append_nil, ← ht]; exact hz) fun H θ μ acc' ys' gr' hl' e' _ _ => ⟨hlt, θ, μ, acc', ys', gr', hl', by rw [e', ht]⟩
    · have e : i = ds.length := by omega
      subst e
      rw [List.drop_length] at hl
      cases hl
      rw [List.append_nil] at ht
      subst ht
      exact .inl ⟨it.stops H2 _ gr.ext, gr.finish st hn fin⟩
theorem lc2_read {src src1 : LF} {vs vs1 vs0 vs10 : List Nat} {g g1 : GF} {t t1 : BF} {e : EF} (hv : ∀ i ∈ vs0, i ∈ vs) (hv1 : ∀ i ∈ vs10, i ∈ vs1) (σ : L2.St) (H : Hp) (Q : VK) (h : tL X.mg X.K W (lLc2 vs vs1 src g t src1 g1 t1 e) σ H Q) :
    tLc2 (tI X.mg X.K W src) (tG X.mg X.K g vs0) (tBD X.mg X.K W0 t) (tI X.mg X.K W0 src1) (tG X.mg X.K g1 vs10) (tBD X.mg X.K W0 t1) (tD X.mg X.K W0 e) vs vs1 σ H Q := by
  obtain ⟨η, θ, μ, ρ, ok, rs, fin⟩ := h
  refine ⟨η, θ, μ, ρ, ok, rs, ?_⟩
  unfold lLc2 at fin
  cases es : src ρ μ with
  | ex x μ' => rw [es] at fin; exact fin
  | no => rw [es] at fin; exact fin
  | ok ds μ1 =>
    rw [es] at fin
    intro J H1 θ1 st it D0 hD
    obtain ⟨tot, μe, el, hz, fin⟩ := lCap_ok fin
    have hn : D0 ∉ η := st.ok.fresh2 hD
    refine ⟨fun i m H => m = ds.length - i ∧ i ≤ ds.length ∧ ∃ θ μ acc ys, Gro X.mg X.K η D0 H1 θ1 H θ μ acc ∧ lc2L vs vs1 g t src1 g1 t1 e ρ (ds.drop i) μ = .ok ys μe ∧ tot = acc ++ ys,
      ⟨ds.length, by simp, Nat.zero_le _, θ1, μ1, [], tot, Gro.start st.ok hD, by rw [List.drop_zero]; exact el, rfl⟩, ?_⟩
    rintro i m H2 ⟨rfl, hi, θ2, μ2, acc, ys, gr, hl, ht⟩
    by_cases hlt : i < ds.length
    · refine .inr ⟨it.goes i H2 _ hlt gr.ext, fun H => i + 1 ≤ ds.length ∧ ∃ θ μ acc ys, Gro X.mg X.K η D0 H1 θ1 H θ μ acc ∧ lc2L vs vs1 g t src1 g1 t1 e ρ (ds.drop (i + 1)) μ = .ok ys μe ∧ tot = acc ++ ys, fun H' hN => ⟨ds.length - (i + 1), by omega, rfl, hN.1, hN.2⟩, fun x H3 y => ?_⟩
      obtain ⟨sm, d, hd, rd⟩ := it.yields i H2 x H3 _ hlt gr.ext gr.ok.trk y
      have g3 := gr.step (gr.ok.same sm)
      have rs3 := (rs.step st).ext g3.ext g3.pre
      rw [drop_cons hlt hd] at hl
      simp only [lc2L] at hl
      split at hl
      · cases hl
      · rename_i ρ1 eg
        refine ⟨_, θ2, μ2, wipeR ρ vs, .d d, ρ1, g3.ok, rs3.wipe vs, .d rd, eg, fun σ2 rs2 but => ⟨wipe_but (but.mono hv), _, θ2, μ2, ρ1, g3.ok, rs2, ?_⟩⟩
        split at hl
        · rename_i μ4 et
          rw [et]
          intro b' H4 θ4 st4 eb
          subst eb
          rw [if_pos rfl]
          refine ⟨_, θ4, μ4, ρ1, st4.ok, rs2.step st4, ?_⟩
          split at hl
          · rename_i ds1 μ5 es1
            rw [es1]
            intro J1 H5 θ5 st5 it1
            have g5 := (g3.step st4).step st5
            have rs5 := (rs2.step st4).step st5
            split at hl
            · rename_i ys1 μ6 el1
              split at hl
              · rename_i zs μ7 el2
                cases hl
                refine ⟨fun j m H => m = ds1.length - j ∧ j ≤ ds1.length ∧ ∃ θ μ acc ys, Gro X.mg X.K η D0 H1 θ1 H θ μ acc ∧ Pre θ5 θ ∧ Ext (hid H5 (θ5 ++ (η ++ [D0]))) (hid H (θ ++ (η ++ [D0]))) ∧ lcL vs1 g1 t1 e ρ1 (ds1.drop j) μ = .ok ys μ6 ∧ tot = acc ++ ys ++ zs,
                  ⟨ds1.length, by simp, Nat.zero_le _, θ5, μ5, acc, ys1, g5, Pre.refl _, Ext.refl _, by rw [List.drop_zero]; exact el1, by rw [ht, List.append_assoc]⟩, ?_⟩
                rintro j m' H6 ⟨rfl, hj, θ6, μ8, acc6, ys6, g6, p6, x6, hl6, ht6⟩
                by_cases hlt6 : j < ds1.length
                · refine .inr ⟨it1.goes j H6 _ hlt6 x6, fun H => j + 1 ≤ ds1.length ∧ ∃ θ μ acc ys, Gro X.mg X.K η D0 H1 θ1 H θ μ acc ∧ Pre θ5 θ ∧ Ext (hid H5 (θ5 ++ (η ++ [D0]))) (hid H (θ ++ (η ++ [D0]))) ∧ lcL vs1 g1 t1 e ρ1 (ds1.drop (j + 1)) μ = .ok ys μ6 ∧ tot = acc ++ ys ++ zs, fun H' hN => ⟨ds1.length - (j + 1), by omega, rfl, hN.1, hN.2⟩, fun x7 H7 y7 => ?_⟩
                  obtain ⟨sm7, d7, hd7, rd7⟩ := it1.yields j H6 x7 H7 _ hlt6 x6 g6.ok.trk y7
                  have st7 := g6.ok.same sm7
                  have g7 := g6.step st7
                  have x8 := x6.trans st7.ext
                  rw [drop_cons hlt6 hd7] at hl6
                  exact lc_turn (tail := zs) hv1 hn (rs5.ext x8 p6) g7 rd7 hl6 (by rw [← ht6]; exact hz) fun H θ μ acc' ys' gr' hl' e' p' x' => ⟨hlt6, θ, μ, acc', ys', gr', p6.trans p', x8.trans x', hl', by rw [e', ht6]⟩
                · have e : j = ds1.length := by omega
                  subst e
                  rw [List.drop_length] at hl6
                  cases hl6
                  exact .inl ⟨it1.stops H6 _ x6, hlt, θ6, μ6, acc6, zs, g6, el2, by rw [ht6]; simp⟩
              · cases hl
            · cases hl
          · cases hl
        · rename_i μ4 et
          rw [et]
          intro b' H4 θ4 st4 eb
          subst eb
          rw [if_neg (by decide)]
          exact ⟨hlt, θ4, μ4, acc, ys, g3.step st4, hl, ht⟩
        · cases hl
    · have e : i = ds.length := by omega
      subst e
      rw [List.drop_length] at hl
      cases hl
      rw [List.append_nil] at ht
      subst ht
      exact .inl ⟨it.stops H2 _ gr.ext, gr.finish st hn fin⟩
def PTsd (X : Cx) (W : WXD) (ifs : List Expr) (f : BF) : Prop := PTs X ifs (tBD X.mg X.K W f)
theorem PTs.imp {e : List Expr} {t t' : TT} (h : PTs X e t) (k : ∀ σ H Q, t' σ H Q → t σ H Q) : PTs X e t' := ⟨fun pins s σ H Q I q => h.run pins s σ H Q I (k σ H Q q)⟩
theorem ptsd_nil : PTsd X W [] bYes := by
  refine PTs.imp pts_nil fun σ H Q h => ?_
  obtain ⟨η, θ, μ, ρ, ok, rs, fin⟩ := h
  exact fin.done (Step.refl ok) rfl
theorem ptsd_one {c : Expr} {f : BF} (h : PBd X W c f) : PTsd X W [c] f := pts_one h
theorem pl_lc {elt tg iter : Expr} {ifs : List Expr} {scope : Scope} {own : List (Str × Nat)} {pos : Pos} {src : LF} {g : GF} {vs0 : List Nat} {t : BF} {e : EF} (C : Cxb X CX W k) (hi : PId X W tg iter src) (ok : BlkOk X.N X.env.scope scope own)
    (hg : ∀ (s : Shared) (H : Hp) (A : Addr) (cl : List (Str × Addr)) (fp : List Addr), PGd (X.blk s H scope (compEnvC scope cl A X.env) fp) tg g vs0)
    (ht : ∀ (s : Shared) (H : Hp) (A : Addr) (cl : List (Str × Addr)) (fp : List Addr), PTsd (X.blk s H scope (compEnvC scope cl A X.env) fp) W0 ifs t)
    (he : ∀ (s : Shared) (H : Hp) (A : Addr) (cl : List (Str × Addr)) (fp : List Addr), PEd (X.blk s H scope (compEnvC scope cl A X.env) fp) W0 elt e)
    (hv : ∀ i ∈ vs0, i ∈ own.map (·.2) := by decide) (hs : ∀ x, foldedSetIterable iter X.env x = pure x := by intro _; rfl) : PLd X W (.ListComp elt [⟨tg, iter, ifs, 0⟩] scope pos) (lLc (own.map (·.2)) src g t e) :=
  PE.imp (pe_lc (wi := tI X.mg X.K W src) (g := tG X.mg X.K g vs0) (tt := tBD X.mg X.K W0 t) (te := tD X.mg X.K W0 e) C.calm C.nd hi ok hg ht he hs) (lc_read hv)
theorem pl_lc2 {elt tg iter tg1 iter1 : Expr} {ifs ifs1 : List Expr} {scope : Scope} {own : List (Str × Nat)} {vs1 : List Nat} {pos : Pos} {src src1 : LF} {g g1 : GF} {vs0 vs10 : List Nat} {t t1 : BF} {e : EF} (C : Cxb X CX W k) (hi : PId X W tg iter src) (ok : BlkOk X.N X.env.scope scope own)
    (hg : ∀ (s : Shared) (H : Hp) (A : Addr) (cl : List (Str × Addr)) (fp : List Addr), PGd (X.blk s H scope (compEnvC scope cl A X.env) fp) tg g vs0)
    (ht : ∀ (s : Shared) (H : Hp) (A : Addr) (cl : List (Str × Addr)) (fp : List Addr), PTsd (X.blk s H scope (compEnvC scope cl A X.env) fp) W0 ifs t)
    (hi1 : ∀ (s : Shared) (H : Hp) (A : Addr) (cl : List (Str × Addr)) (fp : List Addr), PId (X.blk s H scope (compEnvC scope cl A X.env) fp) W0 tg1 iter1 src1)
    (hg1 : ∀ (s : Shared) (H : Hp) (A : Addr) (cl : List (Str × Addr)) (fp : List Addr), PGd (X.blk s H scope (compEnvC scope cl A X.env) fp) tg1 g1 vs10)
    (ht1 : ∀ (s : Shared) (H : Hp) (A : Addr) (cl : List (Str × Addr)) (fp : List Addr), PTsd (X.blk s H scope (compEnvC scope cl A X.env) fp) W0 ifs1 t1)
    (he : ∀ (s : Shared) (H : Hp) (A : Addr) (cl : List (Str × Addr)) (fp : List Addr), PEd (X.blk s H scope (compEnvC scope cl A X.env) fp) W0 elt e)
    (hvv : ∀ i ∈ vs1, i ∈ own.map (·.2) := by decide) (hv : ∀ i ∈ vs0, i ∈ own.map (·.2) := by decide) (hv1 : ∀ i ∈ vs10, i ∈ vs1 := by decide) (hs : ∀ x, foldedSetIterable iter X.env x = pure x := by intro _; rfl) (hs1 : ∀ env x, foldedSetIterable iter1 env x = pure x := by intro _ _; rfl) :
    PLd X W (.ListComp elt [⟨tg, iter, ifs, 0⟩, ⟨tg1, iter1, ifs1, 0⟩] scope pos) (lLc2 (own.map (·.2)) vs1 src g t src1 g1 t1 e) :=
  PE.imp (pe_lc2 (wi := tI X.mg X.K W src) (g := tG X.mg X.K g vs0) (tt := tBD X.mg X.K W0 t) (wi1 := tI X.mg X.K W0 src1) (g1 := tG X.mg X.K g1 vs10) (tt1 := tBD X.mg X.K W0 t1) (te := tD X.mg X.K W0 e) C.calm C.nd hi ok hvv hg ht hi1 hg1 ht1 he hs hs1) (lc2_read hv hv1)
theorem asgN_read {f : EF} {t : TE} {i : Nat} (h : ∀ σ H Q, tD X.mg X.K W f σ H Q → t σ H Q) (Dn : Ends) (σ : L2.St) (H : Hp) (hh : tSD X.mg X.K W (sAsg f (gN i)) Dn σ H) : tAsg t (gName i) Dn σ H := by
  obtain ⟨η, θ, μ, ρ, ok, rs, fin⟩ := hh
  refine h σ H _ ⟨η, θ, μ, ρ, ok, rs, Fin.andThenS fin rs fun s μ1 v H1 θ1 _ st r f1 => ?_⟩
  exact f1 _ _ _ (Step.refl st.ok) ((rs.step st).set r)
/-- name = [..] -/
theorem sd_setLc {elt tg iter : Expr} {ifs : List Expr} {scope : Scope} {own : List (Str × Nat)} {pos spos py : Pos} {y : Str} {src : LF} {g : GF} {vs0 : List Nat} {t : BF} {e : EF} {F : LF → EF} (C : Cxb X CX W k) (i : Nat) (hi : PId X W tg iter src) (ok : BlkOk X.N X.env.scope scope own)
    (hg : ∀ (s : Shared) (H : Hp) (A : Addr) (cl : List (Str × Addr)) (fp : List Addr), PGd (X.blk s H scope (compEnvC scope cl A X.env) fp) tg g vs0)
    (ht : ∀ (s : Shared) (H : Hp) (A : Addr) (cl : List (Str × Addr)) (fp : List Addr), PTsd (X.blk s H scope (compEnvC scope cl A X.env) fp) W0 ifs t)
    (he : ∀ (s : Shared) (H : Hp) (A : Addr) (cl : List (Str × Addr)) (fp : List Addr), PEd (X.blk s H scope (compEnvC scope cl A X.env) fp) W0 elt e)
    (hF : ∀ (f : LF) σ H Q, tD X.mg X.K W (F f) σ H Q → tL X.mg X.K W f σ H Q)
    (hy : X.N[i]? = some y := by rfl) (hyl : X.env.scope.names.lookup y = some .local := by rfl) (hsw : swapsWith (.ListComp elt [⟨tg, iter, ifs, 0⟩] scope pos) (some (.Name y py)) spos.line X.env = pure true := by exact sw_true rfl rfl rfl (by decide +kernel))
    (hv : ∀ i ∈ vs0, i ∈ own.map (·.2) := by decide) (hs : ∀ x, foldedSetIterable iter X.env x = pure x := by intro _; rfl) : PSd X W (.Assign [.Name y py] (.ListComp elt [⟨tg, iter, ifs, 0⟩] scope pos) spos) (sAsg (F (lLc (own.map (·.2)) src g t e)) (gN i)) :=
  PS.imp (ps_setLc (wi := tI X.mg X.K W src) (g := tG X.mg X.K g vs0) (tt := tBD X.mg X.K W0 t) (te := tD X.mg X.K W0 e) C.calm C.nd hy hyl hsw hi ok hg ht he hs) (asgN_read fun σ H Q h => lc_read hv σ H Q (hF _ σ H Q h))
theorem sd_setLc2 {elt tg iter tg1 iter1 : Expr} {ifs ifs1 : List Expr} {scope : Scope} {own : List (Str × Nat)} {vs1 : List Nat} {pos spos py : Pos} {y : Str} {src src1 : LF} {g g1 : GF} {vs0 vs10 : List Nat} {t t1 : BF} {e : EF} {F : LF → EF} (C : Cxb X CX W k) (i : Nat) (hi : PId X W tg iter src) (ok : BlkOk X.N X.env.scope scope own)
    (hg : ∀ (s : Shared) (H : Hp) (A : Addr) (cl : List (Str × Addr)) (fp : List Addr), PGd (X.blk s H scope (compEnvC scope cl A X.env) fp) tg g vs0)
    (ht : ∀ (s : Shared) (H : Hp) (A : Addr) (cl : List (Str × Addr)) (fp : List Addr), PTsd (X.blk s H scope (compEnvC scope cl A X.env) fp) W0 ifs t)
    (hi1 : ∀ (s : Shared) (H : Hp) (A : Addr) (cl : List (Str × Addr)) (fp : List Addr), PId (X.blk s H scope (compEnvC scope cl A X.env) fp) W0 tg1 iter1 src1)
    (hg1 : ∀ (s : Shared) (H : Hp) (A : Addr) (cl : List (Str × Addr)) (fp : List Addr), PGd (X.blk s H scope (compEnvC scope cl A X.env) fp) tg1 g1 vs10)
    (ht1 : ∀ (s : Shared) (H : Hp) (A : Addr) (cl : List (Str × Addr)) (fp : List Addr), PTsd (X.blk s H scope (compEnvC scope cl A X.env) fp) W0 ifs1 t1)
    (he : ∀ (s : Shared) (H : Hp) (A : Addr) (cl : List (Str × Addr)) (fp : List Addr), PEd (X.blk s H scope (compEnvC scope cl A X.env) fp) W0 elt e)
    (hF : ∀ (f : LF) σ H Q, tD X.mg X.K W (F f) σ H Q → tL X.mg X.K W f σ H Q)
    (hy : X.N[i]? = some y := by rfl) (hyl : X.env.scope.names.lookup y = some .local := by rfl) (hsw : swapsWith (.ListComp elt [⟨tg, iter, ifs, 0⟩, ⟨tg1, iter1, ifs1, 0⟩] scope pos) (some (.Name y py)) spos.line X.env = pure true := by exact sw_true rfl rfl rfl (by decide +kernel))
    (hvv : ∀ i ∈ vs1, i ∈ own.map (·.2) := by decide) (hv : ∀ i ∈ vs0, i ∈ own.map (·.2) := by decide) (hv1 : ∀ i ∈ vs10, i ∈ vs1 := by decide) (hs : ∀ x, foldedSetIterable iter X.env x = pure x := by intro _; rfl) (hs1 : ∀ env x, foldedSetIterable iter1 env x = pure x := by intro _ _; rfl) :
    PSd X W (.Assign [.Name y py] (.ListComp elt [⟨tg, iter, ifs, 0⟩, ⟨tg1, iter1, ifs1, 0⟩] scope pos) spos) (sAsg (F (lLc2 (own.map (·.2)) vs1 src g t src1 g1 t1 e)) (gN i)) :=
  PS.imp (ps_setLc2 (wi := tI X.mg X.K W src) (g := tG X.mg X.K g vs0) (tt := tBD X.mg X.K W0 t) (wi1 := tI X.mg X.K W0 src1) (g1 := tG X.mg X.K g1 vs10) (tt1 := tBD X.mg X.K W0 t1) (te := tD X.mg X.K W0 e) C.calm C.nd hy hyl hsw hi ok hvv hg ht hi1 hg1 ht1 he hs hs1) (asgN_read fun σ H Q h => lc2_read hv hv1 σ H Q (hF _ σ H Q h))
end

/-! ### defs -/
inductive PR where
  | ok (d : D) | ex (x : Exn) | no
def PR.res (r : PR) (μ : Store) : Res Sl := match r with
  | .ok d => .ok (.d d) μ
  | .ex x => .ex x μ
  | .no => .no
abbrev PF := List D → PR
/-- the promise of a def of data alone -/
def spP (mg : Str → Option Value) (K : PySem.W.Frag) (n : Nat) (f : PF) : Sp := fun vs H Q E => vs.length = n ∧ ∃ η ds, StOk mg K η H [] [] ∧ RepL mg K (hid H η) ds vs ∧ Fin mg K E η H [] (RepSl mg K) ((f ds).res []) Q
/-- a def that changes mutable objects which it is handed, or hands a new one back -/
abbrev MF := List Sl → Store → Res Sl
def spM (mg : Str → Option Value) (K : PySem.W.Frag) (n : Nat) (f : MF) : Sp := fun vs H Q E => vs.length = n ∧ ∃ η θ μ ss, StOk mg K η H θ μ ∧ RepA mg K (hid H (θ ++ η)) θ ss vs ∧ Fin mg K E η H θ (RepSl mg K) (f ss μ) Q
def rho0 (nl : Nat) (ss : List Sl) : Rho := ss.map some ++ List.replicate nl none
/-- a def whose errors never leave it -/
def fnP (nl : Nat) (body : SF) : PF := fun ds => match body (rho0 nl (ds.map Sl.d)) [] with
  | .rt s μ => match dr μ s with
    | some d => .ok d
    | none => .no
  | .nx _ _ => .ok .non
  | _ => .no
def fnM (nl : Nat) (body : SF) : MF := fun ss μ => match body (rho0 nl ss) μ with
  | .rt s μ' => .ok s μ'
  | .nx _ μ' => .ok (.d .non) μ'
  | _ => .no
theorem rep0 {mg : Str → Option Value} {K : PySem.W.Frag} {G : Hp} {θ : List Addr} {N : List Str} {ss : List Sl} {vs : List V} (l : RepA mg K G θ ss vs) : RepS mg K G θ (rho0 (N.length - vs.length) ss) (L2.start N vs) := by
  unfold rho0 L2.start
  refine ⟨by simp [l.length], fun i d e => ?_⟩
  by_cases hi : i < ss.length
  · rw [List.getElem?_append_left (by simpa using hi), List.getElem?_map] at e
    obtain ⟨s, h1, h2⟩ := Option.map_eq_some_iff.mp e
    cases h2
    obtain ⟨v, h3, h4⟩ := l.get i h1
    exact ⟨v, by rw [List.getElem?_append_left (by rw [List.length_map, ← l.length]; exact hi), List.getElem?_map, h3]; rfl, h4⟩
  · rw [List.getElem?_append_right (by simpa using hi), List.getElem?_replicate] at e
    split at e <;> cases e
section
variable {mg : Str → Option Value} {K : PySem.W.Frag} {η : List Addr} {H H' : Hp} {θ θ' : List Addr} {μ μ' : Store}
theorem Ext.drop : Ext (hid H (θ ++ η)) (hid H η) := Ext.of fun p o e => by
  obtain ⟨e1, e2⟩ := hid_some e
  rw [hid_out (fun z => e1 (List.mem_append_right _ z))]; exact e2
theorem StOk.bare (h : ∀ p ∈ η, H p ≠ none) (t : LamX.Tabs TabCtx.T H) (pl : ∀ p ∈ η, ∀ o, H p = some o → Plain o) : StOk mg K η H [] [] := ⟨h, rfl, List.Pairwise.nil, (fun _ h => by cases h), (fun n a o h => by simp at h), t, pl⟩
/-- the store forgotten -/
theorem Step.forget (st : Step mg K η H [] H' θ' μ') : Step mg K η H [] H' [] [] := ⟨st.ext.trans Ext.drop, Pre.refl _, st.fix, StOk.bare st.ok.dom st.ok.tab st.ok.pl⟩
theorem Step.only (st : Step mg K η H [] H' θ' []) : θ' = [] := by
  have := st.ok.len
  cases θ' with
  | nil => rfl
  | cons a r => simp at this
/-- a call that doesn't see the store -/
theorem Step.frame (s : StOk mg K η H θ μ) (st : Step mg K (θ ++ η) H [] H' [] []) : Step mg K η H θ H' θ μ :=
  ⟨st.ext, Pre.refl _, fun p hp => st.fix p (List.mem_append_right _ hp), ⟨fun p hp => by rw [st.fix p (List.mem_append_right _ hp)]; exact s.dom p hp, s.len, s.nd, s.dj, fun n a o h1 h2 => (s.at_ n a o h1 h2).ext st.ext (st.fix a (List.mem_append_left _ (List.mem_of_getElem? h1))), st.ok.tab, fun p hp => st.ok.pl p (List.mem_append_right _ hp)⟩⟩
theorem dr_free (s : StOk mg K η H θ μ) {x : Sl} {v : V} {d : D} (r : RepSl mg K (hid H (θ ++ η)) θ x v) (e : dr μ x = some d) : Rep mg K (hid H η) d v := by
  cases r with
  | d r => cases e; exact r.ext Ext.drop
  | ob h =>
    obtain ⟨o, h1, h2⟩ := s.lookup h
    simp only [dr, h1] at e
    cases o with
    | lst ds =>
      cases e
      obtain ⟨xs, e1, l⟩ := h2
      exact .lst (by rw [hid_out (s.dj _ (List.mem_of_getElem? h))]; exact e1) (l.ext Ext.drop)
    | ins c fs => cases e
  | clo _ _ => cases e
end
theorem fnP_read {mg : Str → Option Value} {K : PySem.W.Frag} {n : Nat} {N : List Str} {body : SF} {vs : List V} {H : Hp} {Q : VK} {E : XK} (h : spP mg K n (fnP (N.length - n) body) vs H Q E) :
    tSD mg K W0 body { nx := fun _ H' => Q .non H', rt := Q } (L2.start N vs) H := by
  obtain ⟨hn, η, ds, ok, l, fin⟩ := h
  subst hn
  refine ⟨η, [], [], rho0 (N.length - vs.length) (ds.map Sl.d), ok, rep0 l.toA, ?_⟩
  unfold fnP at fin
  split at fin
  · rename_i s μ e
    rw [e]
    split at fin
    · rename_i d ed
      intro v H' θ' st r
      exact fin v H' [] st.forget (.d (dr_free st.ok r ed))
    · exact fin.elim
  · rename_i e
    rw [e]
    intro v H' θ' st r
    exact fin _ H' [] st.forget (.d .non)
  · exact fin.elim
theorem fnM_read {mg : Str → Option Value} {K : PySem.W.Frag} {n : Nat} {N : List Str} {body : SF} {vs : List V} {H : Hp} {Q : VK} {E : XK} (h : spM mg K n (fnM (N.length - n) body) vs H Q E) :
    tSD mg K W0 body { nx := fun _ H' => Q .non H', rt := Q } (L2.start N vs) H := by
  obtain ⟨hn, η, θ, μ, ss, ok, l, fin⟩ := h
  subst hn
  refine ⟨η, θ, μ, rho0 (N.length - vs.length) ss, ok, rep0 l, ?_⟩
  unfold fnM at fin
  split at fin
  · rename_i s μ e
    rw [e]
    exact fun v H' θ' st r => fin v H' θ' st r
  · rename_i e
    rw [e]
    exact fun v H' θ' st r => fin _ H' θ' st (.d .non)
  · exact fin.elim
section
variable {P : Program} {w : World} {K : PySem.W.Frag} {mg : Str → Option Value} {base : Heap}
theorem sil0 : ∀ (Y : Cx) (σ : L2.St), PassesAt CX0 Y σ (fun _ _ _ => False) := fun _ _ _ _ _ _ _ _ h => h.elim
theorem cxt0 {N ps : List Str} {qual : Str} {sc : Scope} {f : Addr} {cdv : Value} {A : Around} {outer : List Env} {s : Shared} {H : Hp} {E : XK} {k : Nat} (S : FnScope N ps sc) (hr : Room k (A.deeper (envOfC qual sc s.heap.objs.size f cdv))) :
    Cxt (cxOf CX0 P w K mg base N qual sc f cdv A outer s H E).nox CX0 W0 k :=
  ⟨⟨rfl, S.nd, fun σ => sil0 _ σ, hr, fun Y σ _ _ => sil0 Y σ⟩, PassesOwn.never⟩
theorem fn_okP {x qual : Str} {st : Stmt} {f : Addr} {fd : FuncData} {N ps : List Str} {k n : Nat} {body : SF} (F : Fun K x qual st f fd) (S : FnScope N ps (defScope st)) (hn : n = ps.length)
    (hb : ∀ (cdv : Value) (A : Around) (outer : List Env) (s : Shared) (H : Hp) (E : XK), Cxt (cxOf CX0 P w K mg base N qual (defScope st) f cdv A outer s H E).nox CX0 W0 k → PSsd (cxOf CX0 P w K mg base N qual (defScope st) f cdv A outer s H E).nox W0 (defBody st) body) :
    FnOk P w K mg base CX0 (k + 1) f fd ps (spP mg K n (fnP (N.length - n) body)) :=
  F.ok S (fun vs H Q E h => h.1.trans hn) fun cdv A outer s H vs Q E hr h => ⟨_, hb cdv A outer s H E (cxt0 S hr), fnP_read h⟩
theorem fn_okM {x qual : Str} {st : Stmt} {f : Addr} {fd : FuncData} {N ps : List Str} {k n : Nat} {body : SF} (F : Fun K x qual st f fd) (S : FnScope N ps (defScope st)) (hn : n = ps.length)
    (hb : ∀ (cdv : Value) (A : Around) (outer : List Env) (s : Shared) (H : Hp) (E : XK), Cxt (cxOf CX0 P w K mg base N qual (defScope st) f cdv A outer s H E).nox CX0 W0 k → PSsd (cxOf CX0 P w K mg base N qual (defScope st) f cdv A outer s H E).nox W0 (defBody st) body) :
    FnOk P w K mg base CX0 (k + 1) f fd ps (spM mg K n (fnM (N.length - n) body)) :=
  F.ok S (fun vs H Q E h => h.1.trans hn) fun cdv A outer s H vs Q E hr h => ⟨_, hb cdv A outer s H E (cxt0 S hr), fnM_read h⟩
end
theorem Cxb.blk {X : Cx} {CX : CXT} {W : WXD} {k : Nat} (C : Cxb X CX W k) {s : Shared} {H : Hp} {sc : Scope} {ce : Env} {fp : List Addr} : Cxb (X.blk s H sc ce fp) CX W0 k :=
  ⟨C.calm, C.nd, fun σ => C.sil _ σ rfl rfl, C.room, fun Y σ h1 h2 => C.sil Y σ h1 h2⟩
/-- a def of the text as it stands behind the top -/
structure DefOk (mg : Str → Option Value) (K : PySem.W.Frag) (x : Str) (st : Stmt) (ps : List Str) where
  f : Addr
  fd : FuncData
  F : Fun K x x st f fd
  g : mg x = some (.ref f)
  b : Binds K fd ps []
  bt : ∀ us : List Value, us.length = ps.length → bindArgs fd ⟨us, []⟩ = pure (ps.zip us)
theorem Cxt.b {X : Cx} {CX : CXT} {W : WXD} {k : Nat} (C : Cxt X CX W k) : Cxb X CX W k := C.toCxb

/-! calls -/
def eCall (n : Nat) (g : PF) (fa : AF) : EF := fun ρ μ => (fa ρ μ).bind fun ss μ1 => match dsOf ss with
  | some ds => if ds.length = n then (g ds).res μ1 else .no
  | none => .no
def eCall0 (g : PF) : EF := fun _ μ => (g []).res μ
/-- a def that sees the whole store -/
def eCallM (n : Nat) (g : MF) (fa : AF) : EF := fun ρ μ => (fa ρ μ).bind fun ss μ1 => if ss.length = n then g ss μ1 else .no
section
variable {X : Cx} {W : WXD} {CX : CXT} {k j n : Nat} {f : Addr} {fd : FuncData} {ps : List Str}
theorem spP_of {E : XK} {η : List Addr} {H : Hp} {θ : List Addr} {μ : Store} {ds : List D} {vs : List V} {g : PF} {Q : VK} (ok : StOk X.mg X.K η H θ μ) (l : RepL X.mg X.K (hid H (θ ++ η)) ds vs) (hn : ds.length = n) (fin : Fin X.mg X.K E η H θ (RepSl X.mg X.K) ((g ds).res μ) Q) : spP X.mg X.K n g vs H Q E := by
  refine ⟨l.length.symm.trans hn, θ ++ η, ds, StOk.bare ok.trk ok.tab fun p hp => ok.plain hp, l, ?_⟩
  cases e : g ds with
  | ok d =>
    rw [e] at fin
    intro v H' θ' st r
    have := st.only
    subst this
    cases r with
    | d r => exact fin v H' θ (Step.frame ok st) (.d r)
  | ex x =>
    rw [e] at fin
    intro cv dd H' θ' st r
    have := st.only
    subst this
    exact fin cv dd H' θ (Step.frame ok st) r
  | no => rw [e] at fin; exact fin
theorem pd_call {g : PF} {x : Str} {e : Expr} {es : List Expr} {fa : AF} {p pos : Pos} (C : Cxb X CX W k) (F : FnOk X.prog X.w X.K X.mg X.base CX j f fd ps (spP X.mg X.K n g)) (hj : j ≤ k) (hg : Gl X x) (hm : X.mg x = some (.ref f)) (hk : PySem.W.keepIn X.K (.ref f) = true) (hb : Binds X.K fd ps [])
    (ha : PAd X W (e :: es) fa) (hdb : (x == ("__debug__" : Str)) = false := by decide) (he : starEach (e :: es) X.env = (false, eval e X.env) :: starEach es X.env := by rfl) (hpl : (backTo pos (starEach es X.env)).any (·.1) = false := by rfl) : PEd X W (.Call (.Name x p) (e :: es) [] pos) (eCall n g fa) := by
  refine PE.imp (pe_callSD (E := fun σ c d H => W c d σ H) F (C.room.mono hj) hg hm hk hb .nil C.pas ha hdb he hpl) fun σ H Q h => ?_
  obtain ⟨η, θ, μ, ρ, ok, rs, fin⟩ := h
  refine ⟨η, θ, μ, ρ, ok, rs, fin.andThen fun ss μ1 vs H1 θ1 _ st rx fin1 => ?_⟩
  rw [List.append_nil]
  split at fin1
  · split at fin1
    · rename_i ds ed hn
      exact spP_of st.ok (dsOf_rep rx ed) hn fin1
    · exact fin1.elim
  · exact fin1.elim
theorem pd_callM {g : MF} {x : Str} {e : Expr} {es : List Expr} {fa : AF} {p pos : Pos} (C : Cxb X CX W k) (F : FnOk X.prog X.w X.K X.mg X.base CX j f fd ps (spM X.mg X.K n g)) (hj : j ≤ k) (hg : Gl X x) (hm : X.mg x = some (.ref f)) (hk : PySem.W.keepIn X.K (.ref f) = true) (hb : Binds X.K fd ps [])
    (ha : PAd X W (e :: es) fa) (hdb : (x == ("__debug__" : Str)) = false := by decide) (he : starEach (e :: es) X.env = (false, eval e X.env) :: starEach es X.env := by rfl) (hpl : (backTo pos (starEach es X.env)).any (·.1) = false := by rfl) : PEd X W (.Call (.Name x p) (e :: es) [] pos) (eCallM n g fa) := by
  refine PE.imp (pe_callSD (E := fun σ c d H => W c d σ H) F (C.room.mono hj) hg hm hk hb .nil C.pas ha hdb he hpl) fun σ H Q h => ?_
  obtain ⟨η, θ, μ, ρ, ok, rs, fin⟩ := h
  refine ⟨η, θ, μ, ρ, ok, rs, fin.andThen fun ss μ1 vs H1 θ1 _ st rx fin1 => ?_⟩
  rw [List.append_nil]
  split at fin1
  · rename_i hn
    exact ⟨rx.length.symm.trans hn, η, θ1, μ1, ss, st.ok, rx, fin1⟩
  · exact fin1.elim
theorem pd_call0 {g : PF} {x : Str} {p pos : Pos} (C : Cxb X CX W k) (F : FnOk X.prog X.w X.K X.mg X.base CX j f fd ps (spP X.mg X.K 0 g)) (hj : j ≤ k) (hp : Passes CX X (fun _ _ _ => False)) (hne : ∀ x, g [] ≠ .ex x) (hg : Gl X x) (hm : X.mg x = some (.ref f)) (hk : PySem.W.keepIn X.K (.ref f) = true) (hb : Binds X.K fd ps [])
    (hdb : (x == ("__debug__" : Str)) = false := by decide) : PEd X W (.Call (.Name x p) [] [] pos) (eCall0 g) := by
  refine PE.imp (pe_call0 (E := fun _ _ _ => False) F (C.room.mono hj) hg hm hk hb .nil hp hdb) fun σ H Q h => ?_
  obtain ⟨η, θ, μ, ρ, ok, rs, fin⟩ := h
  refine spP_of (ds := []) ok .nil rfl ?_
  unfold eCall0 at fin
  cases e : g [] with
  | ok d => rw [e] at fin; exact fin
  | ex x => exact absurd e (hne x)
  | no => rw [e] at fin; exact fin
end
end DL

set_option Elab.async false
set_option linter.all false
set_option maxRecDepth 100000
set_option maxHeartbeats 2000000
/-! DLIter: enumerate and zip over lists and tuples in any mix -/
namespace DL
open PySem PySem.Spec PyProof.Rows L2
variable [TabCtx]

/-! ### the two kinds of sources -/
/-- an iterator at it over what stands at a (tup: a tuple) -/
def ItK (tup : Bool) (h : Heap) (it a : Addr) (i : Nat) : Prop := if tup = true then h.IsTupleIter it a i else h.IsListIter it a i
def SrK (tup : Bool) (h : Heap) (a : Addr) (its : Array Value) : Prop := if tup = true then h.IsTuple a its else h.IsList a its
def SqK (tup : Bool) (K : PySem.W.Frag) (H : Hp) (a : Addr) (xs : List V) : Prop := if tup = true then SqT K H a xs else SqL K H a xs
def objK (tup : Bool) (a : Addr) : Obj := if tup = true then { cls := .type "tuple_iterator", data := .fields #[.ref a, .int 0 0] } else { cls := .type "list_iterator", data := .fields #[.ref a, .int 0 0] }
theorem ItK.look {tup : Bool} {h : Heap} {it a : Addr} {i : Nat} (x : ItK tup h it a i) : ∃ o, h.get? it = some o ∧ ∀ v, o.data ≠ .cell v := by
  cases tup with
  | true => obtain ⟨o, e, _, d⟩ := x; exact ⟨o, e, fun v q => by rw [d] at q; cases q⟩
  | false => obtain ⟨o, e, _, d⟩ := x; exact ⟨o, e, fun v q => by rw [d] at q; cases q⟩
theorem ItK.at {tup : Bool} {h h' : Heap} {it a : Addr} {i : Nat} (x : ItK tup h it a i) (e : ∀ o, h.get? it = some o → h'.get? it = some o) : ItK tup h' it a i := by
  cases tup with
  | true => exact Heap.IsTupleIter.at x e
  | false => exact Heap.IsListIter.at x e
theorem SqK.inj {tup : Bool} {X : Cx} {pins : List (Addr × Obj)} {σ : L2.St} {H : Hp} {s : Shared} {a : Addr} {xs ys : List V} (I : Inv X pins σ H s) (h : SqK tup X.K H a xs) (k : SqK tup X.K H a ys) : xs = ys := by
  cases tup with
  | true => exact I.tuple_inj h k
  | false => exact I.list_inj h k
theorem SqK.src {tup : Bool} {X : Cx} {pins : List (Addr × Obj)} {σ : L2.St} {H : Hp} {s : Shared} {a : Addr} {xs : List V} (I : Inv X pins σ H s) (h : SqK tup X.K H a xs) : ∃ its : List Value, Vals xs its ∧ SrK tup s.heap a its.toArray ∧ a < s.heap.objs.size := by
  cases tup with
  | true =>
    obtain ⟨its, r, p, _⟩ := I.tuple h
    exact ⟨its, r, p, by obtain ⟨_, e, _⟩ := p; exact Heap.lt_size e⟩
  | false =>
    obtain ⟨its, r, p, _⟩ := I.list h
    exact ⟨its, r, p.isList, p.lt⟩
theorem draws_K {prog : Program} {w : World} {A : Around} (hh : A.handled = none) (tup : Bool) (it a : Addr) (ne : a ≠ it) (its : Array Value) :
    Draws prog w A it [it, a] its.size (fun i v => its[i]? = some v) (fun i h => ItK tup h it a i ∧ SrK tup h a its) := by
  cases tup with
  | true => exact Draws.tuple hh it a ne its
  | false => exact Draws.list hh it a ne its
theorem begins_K (tup : Bool) (a : Addr) (its : Array Value) : Begins (.ref a) (objK tup a) (fun h => SrK tup h a its) := by
  cases tup with
  | true => exact begins_tuple a its
  | false => exact begins_list a its
theorem ItK.start {tup : Bool} {h : Heap} {it a : Addr} (e : h.get? it = some (objK tup a)) : ItK tup h it a 0 := by
  cases tup with
  | true => exact ⟨_, e, rfl, rfl⟩
  | false => exact ⟨_, e, rfl, rfl⟩

/-! ### zip -/
def Jzip (K : PySem.W.Frag) (ta tb : Bool) (a b : Addr) : It :=
  ⟨fun i H => ∃ xs ys x y, SqK ta K H a xs ∧ SqK tb K H b ys ∧ xs[i]? = some x ∧ ys[i]? = some y,
   fun i H v H' => ∃ p x y, v = .ref p ∧ H p = none ∧ H' = upd H p (.tup [x, y]) ∧ (∀ xs, SqK ta K H a xs → xs[i]? = some x) ∧ (∀ ys, SqK tb K H b ys → ys[i]? = some y),
   fun i H => ∃ xs ys, SqK ta K H a xs ∧ SqK tb K H b ys ∧ i = min xs.length ys.length⟩
def Tzip (ta tb : Bool) (a b z TI TO i1 i2 : Addr) (i : Nat) (h : Heap) : Prop :=
  IsZip h z TI TO .none ∧ IsTupOf2 h TI (.ref i1) (.ref i2) ∧ (∃ p q, IsTupOf2 h TO p q) ∧ ItK ta h i1 a i ∧ ItK tb h i2 b i
theorem newTup {X : Cx} {H : Hp} {p : Addr} {x y : V} {u v : Value} {h : Heap} (rx : L2.RelV x u) (ry : L2.RelV y v) (e : h.IsTuple p #[u, v]) : ObjOk X.prog X.w (upd H p (.tup [x, y])) h p (.tup [x, y]) :=
  ⟨by show 2 ≤ sizeLine; rw [sizeLine_eq]; decide, [u, v], .cons rx (.cons ry .nil), e⟩
theorem turnZip {P : Program} {w : World} {K : PySem.W.Frag} {elts : List Expr} {kk : Nat} {tp : Pos} {ta tb : Bool} {a b z TI TO i1 i2 : Addr} (S : ZipSep2 z TI TO i1 i2 [i1, a] [i2, b]) (na : a ≠ i1) (nb : b ≠ i2) :
    Turn P w K (.Tuple elts kk tp) (Jzip K ta tb a b) [z, TI, TO, i1, i2] z (Tzip ta tb a b z TI TO i1 i2) where
  mem := List.mem_cons_self
  obj := fun i h st c hc => by
    obtain ⟨h1, h2, ⟨p, q, h3⟩, h4, h5⟩ := st
    simp only [List.mem_cons, List.not_mem_nil, or_false] at hc
    rcases hc with rfl | rfl | rfl | rfl | rfl
    · exact ⟨_, h1, fun v k => nomatch k⟩
    · exact ⟨_, h2, fun v k => nomatch k⟩
    · exact ⟨_, h3, fun v k => nomatch k⟩
    · exact h4.look
    · exact h5.look
  keep := fun i h h' st k => by
    obtain ⟨h1, h2, ⟨p, q, h3⟩, h4, h5⟩ := st
    exact ⟨k _ (by simp) _ h1, k _ (by simp) _ h2, ⟨p, q, k _ (by simp) _ h3⟩, h4.at (k _ (by simp)), h5.at (k _ (by simp))⟩
  item := by
    intro X hP hw hK hc i pins s σ H E I hf st hg
    subst hP hw hK
    obtain ⟨xs, ys, x, y, qa, qb, ex, ey⟩ := hg
    obtain ⟨us, ru, su, la⟩ := qa.src I
    obtain ⟨vs, rv, sv, lb⟩ := qb.src I
    have D1 := draws_K (prog := X.prog) (w := X.w) (A := X.A.in1) (I.ok.hd hc) ta i1 a na us.toArray
    have D2 := draws_K (prog := X.prog) (w := X.w) (A := X.A.in1) (I.ok.hd hc) tb i2 b nb vs.toArray
    obtain ⟨h1, h2, h3, h4, h5⟩ := st
    have l1 : i < us.length := by rw [← ru.length]; exact (List.getElem?_eq_some_iff.mp ex).1
    have l2 : i < vs.length := by rw [← rv.length]; exact (List.getElem?_eq_some_iff.mp ey).1
    refine wpAny_mono ((GoesN.zip2 (elts := elts) (x1 := kk) (pos := tp) S D1 D2).goes i s (fun u s2 => ∃ x H', Inv X pins σ H' s2 ∧ L2.RelV x u ∧ (Jzip X.K ta tb a b).yld i H x H' ∧ Tzip ta tb a b z TI TO i1 i2 (i + 1) s2.heap ∧ ∀ c ∈ [z, TI, TO, i1, i2], H' c = none) E
      (by simp; omega) ⟨h1, h2, h3, ⟨h4, su⟩, ⟨h5, sv⟩⟩ fun u h' tk hY st' hk _ => ?_) (fun r s1 q => q) fun _ _ q => q
    obtain ⟨T, xv, yv, rfl, hT, px, py, tT⟩ := hY
    obtain ⟨k1, k2, k3, k4, k5⟩ := st'
    obtain ⟨u1, e1, r1⟩ := ru.get ex
    obtain ⟨u2, e2, r2⟩ := rv.get ey
    have exv : xv = u1 := by
      have := px.symm.trans (by simpa using e1 : us.toArray[i]? = some u1)
      exact Option.some.inj this
    have eyv : yv = u2 := by
      have := py.symm.trans (by simpa using e2 : vs.toArray[i]? = some u2)
      exact Option.some.inj this
    subst exv eyv
    have I2 : Inv X pins σ (upd H T (.tup [x, y])) { s with heap := h', toks := tk } :=
      I.turnedNew (ch := [z, TO, i1, i2]) hk (fun c hc => hf c (by simp only [List.mem_cons, List.not_mem_nil, or_false] at hc ⊢; rcases hc with q | q | q | q <;> simp [q])) hT (newTup r1 r2 tT)
    refine ⟨.ref T, _, I2, rfl, ⟨T, x, y, rfl, I.hok.fresh hT, rfl, fun l q => ?_, fun l q => ?_⟩, ⟨k1, k2, k3, k4.1, k5.1⟩, fun c hc => ?_⟩
    · rw [SqK.inj I q qa]; exact ex
    · rw [SqK.inj I q qb]; exact ey
    · have lt : c < s.heap.objs.size := by
        obtain ⟨p, q, h3⟩ := h3
        simp only [List.mem_cons, List.not_mem_nil, or_false] at hc
        rcases hc with rfl | rfl | rfl | rfl | rfl
        · exact Heap.lt_size h1
        · exact Heap.lt_size h2
        · exact Heap.lt_size h3
        · obtain ⟨o, e, _⟩ := h4.look; exact Heap.lt_size e
        · obtain ⟨o, e, _⟩ := h5.look; exact Heap.lt_size e
      rw [upd_ne (Nat.ne_of_lt (Nat.lt_of_lt_of_le lt hT))]
      exact (hf c hc).1
  done := by
    intro X hP hw hK hc i pins s σ H E I hf st hg
    subst hP hw hK
    obtain ⟨xs, ys, qa, qb, rfl⟩ := hg
    obtain ⟨us, ru, su, la⟩ := qa.src I
    obtain ⟨vs, rv, sv, lb⟩ := qb.src I
    have D1 := draws_K (prog := X.prog) (w := X.w) (A := X.A.in1) (I.ok.hd hc) ta i1 a na us.toArray
    have D2 := draws_K (prog := X.prog) (w := X.w) (A := X.A.in1) (I.ok.hd hc) tb i2 b nb vs.toArray
    obtain ⟨h1, h2, h3, h4, h5⟩ := st
    have el : min xs.length ys.length = min us.toArray.size vs.toArray.size := by simp [ru.length, rv.length]
    rw [el] at h4 h5
    refine (GoesN.zip2 (elts := elts) (x1 := kk) (pos := tp) S D1 D2).stops s (fun s1 => Inv X pins σ H s1) E ⟨h1, h2, h3, ⟨h4, su⟩, ⟨h5, sv⟩⟩ fun h' tk hk _ => ?_
    exact I.turnedL (ch := [z, TO, i1, i2]) hk (fun c hc => hf c (by simp only [List.mem_cons, List.not_mem_nil, or_false] at hc ⊢; rcases hc with q | q | q | q <;> simp [q]))
  self := fun A i s Q E st h => wpAny_pyIter_zip st.1 h

/-! ### enumerate -/
def Jenum (K : PySem.W.Frag) (ta : Bool) (a : Addr) : It :=
  ⟨fun i H => ∃ xs x, SqK ta K H a xs ∧ xs[i]? = some x,
   fun i H v H' => ∃ p x, v = .ref p ∧ H p = none ∧ H' = upd H p (.tup [.int (i : Nat), x]) ∧ (∀ xs, SqK ta K H a xs → xs[i]? = some x),
   fun i H => ∃ xs, SqK ta K H a xs ∧ i = xs.length⟩
def Tenum (ta : Bool) (a e it : Addr) (i : Nat) (h : Heap) : Prop := (∃ old, IsEnum h e it (0 + (i : Int)) old) ∧ ItK ta h it a i
theorem turnEnum {P : Program} {w : World} {K : PySem.W.Frag} {elts : List Expr} {kk : Nat} {tp : Pos} {ta : Bool} {a e it : Addr} (na : a ≠ it) (n1 : e ≠ it) (n2 : e ≠ a) :
    Turn P w K (.Tuple elts kk tp) (Jenum K ta a) [e, it] e (Tenum ta a e it) where
  mem := List.mem_cons_self
  obj := fun i h st c hc => by
    obtain ⟨⟨old, h1⟩, h4⟩ := st
    simp only [List.mem_cons, List.not_mem_nil, or_false] at hc
    rcases hc with rfl | rfl
    · exact ⟨_, h1, fun v k => nomatch k⟩
    · exact h4.look
  keep := fun i h h' st k => by
    obtain ⟨⟨old, h1⟩, h4⟩ := st
    exact ⟨⟨old, k _ (by simp) _ h1⟩, h4.at (k _ (by simp))⟩
  item := by
    intro X hP hw hK hc i pins s σ H E I hf st hg
    subst hP hw hK
    obtain ⟨xs, x, qa, ex⟩ := hg
    obtain ⟨us, ru, su, la⟩ := qa.src I
    have D1 := draws_K (prog := X.prog) (w := X.w) (A := X.A.in1) (I.ok.hd hc) ta it a na us.toArray
    obtain ⟨h1, h4⟩ := st
    have l1 : i < us.length := by rw [← ru.length]; exact (List.getElem?_eq_some_iff.mp ex).1
    refine wpAny_mono ((GoesN.enumFrom (elts := elts) (x1 := kk) (pos := tp) 0 D1 e n1 (by simp [n1, n2]) (by simp)).goes i s (fun u s2 => ∃ x H', Inv X pins σ H' s2 ∧ L2.RelV x u ∧ (Jenum X.K ta a).yld i H x H' ∧ Tenum ta a e it (i + 1) s2.heap ∧ ∀ c ∈ [e, it], H' c = none) E
      (by simpa using l1) ⟨h1, ⟨h4, su⟩⟩ fun u h' tk hY st' hk _ => ?_) (fun r s1 q => q) fun _ _ q => q
    obtain ⟨T, t, xv, rfl, hT, px, tT⟩ := hY
    obtain ⟨k1, k4⟩ := st'
    obtain ⟨u1, e1, r1⟩ := ru.get ex
    have exv : xv = u1 := by
      have := px.symm.trans (by simpa using e1 : us.toArray[i]? = some u1)
      exact Option.some.inj this
    subst exv
    have I2 : Inv X pins σ (upd H T (.tup [.int (i : Nat), x])) { s with heap := h', toks := tk } :=
      I.turnedNew (ch := [e, it]) hk hf hT (newTup (x := .int (i : Nat)) ⟨t, by simp⟩ r1 tT)
    refine ⟨.ref T, _, I2, rfl, ⟨T, x, rfl, I.hok.fresh hT, rfl, fun l q => ?_⟩, ⟨k1, k4.1⟩, fun c hc => ?_⟩
    · rw [SqK.inj I q qa]; exact ex
    · have lt : c < s.heap.objs.size := by
        obtain ⟨old, h1⟩ := h1
        simp only [List.mem_cons, List.not_mem_nil, or_false] at hc
        rcases hc with rfl | rfl
        · exact Heap.lt_size h1
        · obtain ⟨o, e, _⟩ := h4.look; exact Heap.lt_size e
      rw [upd_ne (Nat.ne_of_lt (Nat.lt_of_lt_of_le lt hT))]
      exact (hf c hc).1
  done := by
    intro X hP hw hK hc i pins s σ H E I hf st hg
    subst hP hw hK
    obtain ⟨xs, qa, rfl⟩ := hg
    obtain ⟨us, ru, su, la⟩ := qa.src I
    have D1 := draws_K (prog := X.prog) (w := X.w) (A := X.A.in1) (I.ok.hd hc) ta it a na us.toArray
    obtain ⟨h1, h4⟩ := st
    have el : xs.length = us.toArray.size := by simp [ru.length]
    rw [el] at h1 h4
    refine (GoesN.enumFrom (elts := elts) (x1 := kk) (pos := tp) 0 D1 e n1 (by simp [n1, n2]) (by simp)).stops s (fun s1 => Inv X pins σ H s1) E ⟨h1, ⟨h4, su⟩⟩ fun h' tk hk _ => ?_
    exact I.turnedL (ch := [e, it]) hk hf
  self := fun A i s Q E st h => let ⟨⟨_, q⟩, _⟩ := st; wpAny_pyIter_enum q h
theorem fits0 : Builtin.SmallTypes.fitsIndex 0 = true := by decide
/-- enumerate(v) makes two cells, whatever v is walked by -/
theorem meetsEnum {v : Value} {o : Obj} {R0 : Heap → Prop} (B : Begins v o R0) :
    Meets (Builtin.«enumerate.__new__» ⟨[.type "enumerate", v], []⟩) (fun _ R s => R0 s.heap ∧
      R (.ok (.ret (.ref (s.heap.push o).objs.size))) { s with heap := (s.heap.push o).push { cls := .type "enumerate", data := .fields #[.none, .bool false, .ref s.heap.objs.size, rawInt 0, .none, .none] } }) :=
  .of_wp fun prog w A R s hyp => by
    obtain ⟨hp, gs, dr, tks, os⟩ := s
    obtain ⟨hR, hyp⟩ := hyp
    have hs0 := sub_enumerate
    have nx : ∀ {A2 : Around} {E2 : Value → Shared → Prop} {Q2 : Value → Shared → Prop}, Q2 (.ref hp.objs.size) ⟨hp.push o, gs, dr, tks, os⟩ → wpAny (model prog w) A2 (pyIter v) Q2 E2 ⟨hp, gs, dr, tks, os⟩ :=
      fun q => B.iter prog w _ _ ⟨hp, gs, dr, tks, os⟩ _ hR q
    wp_walk using nx
    refine wpAny_stack_any fun below => wpAny_pure ?_
    split
    · rename_i c1 _ _ _ _ _
      cases (c1 == Value.type "enumerate") <;> (wp_walk using nx; exact ⟨_, rfl, hyp⟩)
    · wp_walk using nx
      exact ⟨_, rfl, hyp⟩
theorem callEnum {prog : Program} {w : World} {A : Around} {E : Value → Shared → Prop} {s : Shared} {v : Value} {o : Obj} {R0 : Heap → Prop} {Q : Value → Shared → Prop} (B : Begins v o R0) (hR : R0 s.heap)
    (h : ∀ h', IsEnum h' (s.heap.objs.size + 1) s.heap.objs.size 0 .none → h'.get? s.heap.objs.size = some o → (∀ b o, s.heap.get? b = some o → h'.get? b = some o) → Q (.ref (s.heap.objs.size + 1)) { s with heap := h' }) :
    wpAny (model prog w) A (call (.type "enumerate") [v]) Q E s := by
  refine callType_new F.called_enumerate (by decide) (F.typeCall_enumerate_1 _) (F.newCall_enumerate_1 _) (fun obj => F.args_object_init_2 obj _) F.entry_enumerate_new (meetsEnum B) ⟨hR, ?_⟩
  have sz : (s.heap.push o).objs.size = s.heap.objs.size + 1 := Heap.size_push ..
  have made : ((s.heap.push o).push { cls := .type "enumerate", data := .fields #[.none, .bool false, .ref s.heap.objs.size, rawInt 0, .none, .none] }).get? (s.heap.objs.size + 1) = some { cls := .type "enumerate", data := .fields #[.none, .bool false, .ref s.heap.objs.size, rawInt 0, .none, .none] } := by
    rw [← sz]; exact Heap.get?_push_size _ rfl
  show _ ∧ _
  rw [sz]
  exact ⟨⟨_, made, rfl⟩, h _ made (Heap.get?_push_of_some _ (Heap.get?_push_size _ B.free)) fun b o x => Heap.get?_push_of_some _ (Heap.get?_push_of_some _ x)⟩

/-! ### as what a for walks -/
def sEnum (f : EF) : LF := fun ρ μ => (f ρ μ).bind fun x μ1 => match x with
  | .d (.lst ds) => .ok (ds.mapIdx fun i d => .tup [.int (i : Nat), d]) μ1
  | .d (.tup ds) => .ok (ds.mapIdx fun i d => .tup [.int (i : Nat), d]) μ1
  | _ => .no
def seqD : Sl → Option (List D)
  | .d (.lst ds) => some ds
  | .d (.tup ds) => some ds
  | _ => none
def zipD (a b : List D) : List D := List.zipWith (fun x y => D.tup [x, y]) a b
def sZip (f g : EF) : LF := fun ρ μ => (f ρ μ).bind fun x μ1 => (g ρ μ1).bind fun y μ2 => match seqD x, seqD y with
  | some a, some b => .ok (zipD a b) μ2
  | _, _ => .no
section
variable {X : Cx} {W : WXD} {CX : CXT} {k : Nat}
def iEnumK (K : PySem.W.Frag) (ta : TA) : TI := fun σ H R => ta σ H fun vs H1 => ∃ tup a xs, vs = [.ref a] ∧ SqK tup K H1 a xs ∧ R (Jenum K tup a) H1
theorem pi_enumK {e : Expr} {ta : TA} {p pos tp : Pos} {elts : List Expr} {kk : Nat} (hg : Gl X "enumerate") (hm : X.mg "enumerate" = none) (ha : PA X [e] ta) (hs : starEach [e] X.env = [(false, eval e X.env)] := by rfl) :
    PI X (.Tuple elts kk tp) (.Call (.Name "enumerate" p) [e] [] pos) (iEnumK X.K ta) := by
  refine ⟨fun pins s σ H R I h => Call_ (ld_blt I hg hm boot_enumerate (PyProof.Rows.callWith_type1 (thn (ha.run pos pins s σ H _ I h) fun us s1 ⟨vs, H1, I1, r1, q1⟩ => ?_) hs rfl))⟩
  obtain ⟨tup, a, xs, rfl, hq, q⟩ := q1
  cases r1 with
  | cons r rr =>
    cases rr
    cases r
    obtain ⟨its, rv, sv, la⟩ := hq.src I1
    refine callEnum (begins_K tup a its.toArray) sv fun h' he hi hk => wpAny_pyIter_enum he ?_
    have I2 : Inv X pins σ H1 { s1 with heap := h' } := I1.kept (t' := s1.toks) hk
    refine ⟨s1.heap.objs.size + 1, [s1.heap.objs.size + 1, s1.heap.objs.size], _, _, H1, rfl, I2, turnEnum (Nat.ne_of_lt la) (Nat.succ_ne_self _) (Nat.ne_of_gt (Nat.lt_succ_of_lt la)), ⟨⟨_, he⟩, ItK.start hi⟩, fun b hb => ?_, q⟩
    have hle : s1.heap.objs.size ≤ b := by
      simp only [List.mem_cons, List.not_mem_nil, or_false] at hb
      rcases hb with rfl | rfl
      · exact Nat.le_succ _
      · exact Nat.le_refl _
    exact I1.fpOk hle (I1.hok.fresh hle)
def iZipK (K : PySem.W.Frag) (ta : TA) : TI := fun σ H R => ta σ H fun vs H1 => ∃ t1 t2 a b xs ys, vs = [.ref a, .ref b] ∧ SqK t1 K H1 a xs ∧ SqK t2 K H1 b ys ∧ R (Jzip K t1 t2 a b) H1
theorem pi_zipK {e e2 : Expr} {ta : TA} {p pos tp : Pos} {elts : List Expr} {kk : Nat} (hg : Gl X "zip") (hm : X.mg "zip" = none) (ha : PA X [e, e2] ta)
    (hs : starEach [e, e2] X.env = (false, eval e X.env) :: starEach [e2] X.env := by rfl) (hpl : (backTo pos (starEach [e2] X.env)).any (·.1) = false := by rfl) :
    PI X (.Tuple elts kk tp) (.Call (.Name "zip" p) [e, e2] [] pos) (iZipK X.K ta) := by
  refine ⟨fun pins s σ H R I h => Call_ (ld_blt I hg hm PyProof.Rows.boot_zip (PyProof.Rows.callWith_type1 (thn (ha.run pos pins s σ H _ I h) fun us s1 ⟨vs, H1, I1, r1, q1⟩ => ?_) hs hpl))⟩
  obtain ⟨t1, t2, a, b, xs, ys, rfl, hqa, hqb, q⟩ := q1
  cases r1 with
  | cons r rr =>
    cases rr with
    | cons r' rr =>
      cases rr
      cases r
      cases r'
      obtain ⟨ia, ra, sa, la⟩ := hqa.src I1
      obtain ⟨ib, rb, sb, lb⟩ := hqb.src I1
      refine zip_begins2 (begins_K t1 a ia.toArray) (begins_K t2 b ib.toArray) sa sb fun h' hz hT hO h1 h2 _ hk => wpAny_pyIter_zip hz ?_
      have I2 : Inv X pins σ H1 { s1 with heap := h' } := I1.kept (t' := s1.toks) hk
      have S := zip_sep2 (N := s1.heap.objs.size) (fp1 := [a]) (fp2 := [b]) (by simpa using la) (by simpa using lb)
      refine ⟨s1.heap.objs.size + 4, _, _, _, H1, rfl, I2, turnZip S (Nat.ne_of_lt la) (Nat.ne_of_lt (Nat.lt_succ_of_lt lb)), ⟨hz, hT, ⟨_, _, hO⟩, ItK.start h1, ItK.start h2⟩, fun c hc => ?_, q⟩
      have hle : s1.heap.objs.size ≤ c := by
        simp only [List.mem_cons, List.not_mem_nil, or_false] at hc
        rcases hc with rfl | rfl | rfl | rfl | rfl
        · exact Nat.le_add_right _ _
        · exact Nat.le_add_right _ _
        · exact Nat.le_add_right _ _
        · exact Nat.le_refl _
        · exact Nat.le_add_right _ _
      exact I1.fpOk hle (I1.hok.fresh hle)
theorem SqK.ext {tup : Bool} {K : PySem.W.Frag} {G H : Hp} {S : List Addr} {a : Addr} {xs : List V} (e : Ext G (hid H S)) (h : G a = some (if tup = true then .tup xs else .lst xs)) : SqK tup K H a xs := by
  cases tup with
  | true => exact SqT.of (ext_at e h fun _ z => by cases z)
  | false => exact SqL.of (ext_at e h fun _ z => by cases z)
theorem seqD_rep {mg : Str → Option Value} {K : PySem.W.Frag} {G : Hp} {θ : List Addr} {s : Sl} {ds : List D} {v : V} (r : RepSl mg K G θ s v) (e : seqD s = some ds) : ∃ tup a xs, v = .ref a ∧ G a = some (if tup = true then .tup xs else .lst xs) ∧ RepL mg K G ds xs := by
  cases r with
  | d r =>
    cases r with
    | tup h l => cases e; exact ⟨true, _, _, rfl, h, l⟩
    | lst h l => cases e; exact ⟨false, _, _, rfl, h, l⟩
    | _ => cases e
  | ob h => cases e
  | clo _ _ => cases e
theorem newPair {mg : Str → Option Value} {K : PySem.W.Frag} {H : Hp} {S : List Addr} {p : Addr} {x y : D} {u v : V} (f : ∀ p ∈ S, H p ≠ none) (hp : H p = none) (rx : Rep mg K (hid H S) x u) (ry : Rep mg K (hid H S) y v) : Rep mg K (hid (upd H p (.tup [u, v])) S) (.tup [x, y]) (.ref p) :=
  .tup (by rw [hid_out (fresh_out f hp), upd_same]) (.cons (rx.ext (hid_same (upd_Same hp))) (.cons (ry.ext (hid_same (upd_Same hp))) .nil))
theorem it_enum {mg : Str → Option Value} {K : PySem.W.Frag} {G : Hp} {tup : Bool} {a : Addr} {xs : List V} {ds : List D} (h : G a = some (if tup = true then .tup xs else .lst xs)) (l : RepL mg K G ds xs) : ItOk mg K G (Jenum K tup a) (ds.mapIdx fun i d => .tup [.int (i : Nat), d]) where
  goes := fun i H S hi e => ⟨xs, xs[i]'(by rw [← l.length]; simpa using hi), SqK.ext e h, by simp⟩
  stops := fun H S e => ⟨xs, SqK.ext e h, by rw [← l.length]; simp⟩
  yields := fun i H x H' S hi e f y => by
    obtain ⟨p, v, rfl, hp, rfl, q⟩ := y
    obtain ⟨d, h1, h2⟩ := l.getV i (q xs (SqK.ext e h))
    exact ⟨upd_Same hp, _, by rw [List.getElem?_mapIdx, h1]; rfl, newPair f hp .int (h2.ext e)⟩
theorem it_zip {mg : Str → Option Value} {K : PySem.W.Frag} {G : Hp} {t1 t2 : Bool} {a b : Addr} {xs ys : List V} {ds es : List D} (h : G a = some (if t1 = true then .tup xs else .lst xs)) (l : RepL mg K G ds xs) (h' : G b = some (if t2 = true then .tup ys else .lst ys)) (l' : RepL mg K G es ys) : ItOk mg K G (Jzip K t1 t2 a b) (zipD ds es) where
  goes := fun i H S hi e => by
    have hi' : i < ds.length ∧ i < es.length := by simpa [zipD, Nat.lt_min] using hi
    exact ⟨xs, ys, xs[i]'(by rw [← l.length]; exact hi'.1), ys[i]'(by rw [← l'.length]; exact hi'.2), SqK.ext e h, SqK.ext e h', by simp, by simp⟩
  stops := fun H S e => ⟨xs, ys, SqK.ext e h, SqK.ext e h', by rw [← l.length, ← l'.length]; simp [zipD]⟩
  yields := fun i H x H' S hi e f y => by
    obtain ⟨p, u, v, rfl, hp, rfl, q1, q2⟩ := y
    obtain ⟨d, h1, h2⟩ := l.getV i (q1 xs (SqK.ext e h))
    obtain ⟨d', h3, h4⟩ := l'.getV i (q2 ys (SqK.ext e h'))
    exact ⟨upd_Same hp, .tup [d, d'], by simp [zipD, List.getElem?_zipWith, h1, h3], newPair f hp (h2.ext e) (h4.ext e)⟩
theorem pid_enum {e : Expr} {f : EF} {p pos tp : Pos} {elts : List Expr} {kk : Nat} (hg : Gl X "enumerate") (hm : X.mg "enumerate" = none) (ha : PEd X W e f) (hs : starEach [e] X.env = [(false, eval e X.env)] := by rfl) : PId X W (.Tuple elts kk tp) (.Call (.Name "enumerate" p) [e] [] pos) (sEnum f) := by
  refine PI.imp (pi_enumK hg hm (pd_cons ha pd_nil hs) hs) fun σ H R hh => ?_
  obtain ⟨η, θ, μ, ρ, ok, rs, fin⟩ := hh
  refine ⟨η, θ, μ, ρ, ok, rs, ?_⟩
  unfold sEnum at fin
  unfold aCons
  cases e : f ρ μ with
  | ok x μ1 =>
    rw [e] at fin
    simp only [Res.bind, aNil] at fin ⊢
    intro vs H1 θ1 st rx
    cases rx with
    | cons rx l =>
      cases l
      split at fin
      · obtain ⟨tup, a, xs, rfl, h, l⟩ := seqD_rep (ds := _) rx rfl
        exact ⟨tup, a, xs, rfl, SqK.ext (Ext.refl _) h, (Fin.rebase st fin) _ _ _ (Step.refl st.ok) (it_enum h l)⟩
      · obtain ⟨tup, a, xs, rfl, h, l⟩ := seqD_rep (ds := _) rx rfl
        exact ⟨tup, a, xs, rfl, SqK.ext (Ext.refl _) h, (Fin.rebase st fin) _ _ _ (Step.refl st.ok) (it_enum h l)⟩
      · exact fin.elim
  | ex x μ' => rw [e] at fin; exact fin
  | no => rw [e] at fin; exact fin
theorem pid_zip {a b : Expr} {f g : EF} {p pos tp : Pos} {elts : List Expr} {kk : Nat} (hg : Gl X "zip") (hm : X.mg "zip" = none) (ha : PEd X W a f) (hb : PEd X W b g)
    (hs : starEach [a, b] X.env = (false, eval a X.env) :: starEach [b] X.env := by rfl) (hs2 : starEach [b] X.env = (false, eval b X.env) :: starEach [] X.env := by rfl) (hpl : (backTo pos (starEach [b] X.env)).any (·.1) = false := by rfl) : PId X W (.Tuple elts kk tp) (.Call (.Name "zip" p) [a, b] [] pos) (sZip f g) := by
  refine PI.imp (pi_zipK hg hm (pd_cons ha (pd_cons hb pd_nil hs2) hs) hs hpl) fun σ H R hh => ?_
  obtain ⟨η, θ, μ, ρ, ok, rs, fin⟩ := hh
  refine ⟨η, θ, μ, ρ, ok, rs, ?_⟩
  unfold sZip at fin
  unfold aCons
  cases e : f ρ μ with
  | ok x μ1 =>
    rw [e] at fin
    simp only [Res.bind] at fin ⊢
    cases e2 : g ρ μ1 with
    | ok y μ2 =>
      rw [e2] at fin
      simp only [aNil] at fin ⊢
      intro vs H1 θ1 st rx
      cases rx with
      | cons rx l =>
        cases l with
        | cons ry l =>
          cases l
          split at fin
          · rename_i d1 d2 q1 q2
            obtain ⟨t1, a, xs, rfl, h, l⟩ := seqD_rep rx q1
            obtain ⟨t2, b, ys, rfl, h', l'⟩ := seqD_rep ry q2
            exact ⟨t1, t2, a, b, xs, ys, rfl, SqK.ext (Ext.refl _) h, SqK.ext (Ext.refl _) h', (Fin.rebase st fin) _ _ _ (Step.refl st.ok) (it_zip h l h' l')⟩
          · exact fin.elim
    | ex x μ' => rw [e2] at fin; exact fin
    | no => rw [e2] at fin; exact fin
  | ex x μ' => rw [e] at fin; exact fin
  | no => rw [e] at fin; exact fin
end
end DL

set_option Elab.async false
set_option linter.all false
set_option maxRecDepth 100000
set_option maxHeartbeats 1000000
/-! DLMore: three names at once; small things -/
namespace DL
open PySem PySem.Spec PyProof.Rows L2
variable [TabCtx]
def sPar3 (i j l : Nat) (f g h : EF) : SF := fun ρ μ => (f ρ μ).toOut ρ fun s μ1 => (g ρ μ1).toOut ρ fun t μ2 => (h ρ μ2).toOut ρ fun u μ3 => .nx (((ρ.set i (some s)).set j (some t)).set l (some u)) μ3
theorem sd_par3 {X : Cx} {W : WXD} {CX : CXT} {k : Nat} (C : Cxb X CX W k) {i j l : Nat} {x y z : Str} {a b c : Expr} {f g h : EF} {px py pz pt pos : Pos} {kt k2 pt2} (ha : PEd X W a f) (hb : PEd X W b g) (hc : PEd X W c h)
    (hi : X.N[i]? = some x := by rfl) (hj : X.N[j]? = some y := by rfl) (hl : X.N[l]? = some z := by rfl) (hij : i ≠ j := by decide) (hil : i ≠ l := by decide) (hjl : j ≠ l := by decide)
    (hx : X.env.scope.names.lookup x = some .local := by rfl) (hy : X.env.scope.names.lookup y = some .local := by rfl) (hz : X.env.scope.names.lookup z = some .local := by rfl)
    (h1 : swappedStores [.Tuple [.Name x px, .Name y py, .Name z pz] kt pt] (.Tuple [a, b, c] k2 pt2) X.env = pure (some [x, y, z]) := by rfl) (h2 : swapsWithSole [.Tuple [.Name x px, .Name y py, .Name z pz] kt pt] (.Tuple [a, b, c] k2 pt2) pos.line X.env = pure false := by rfl)
    (hs : starEach [a, b, c] X.env = (false, eval a X.env) :: starEach [b, c] X.env := by rfl) (hs2 : starEach [b, c] X.env = (false, eval b X.env) :: starEach [c] X.env := by rfl) (hs3 : starEach [c] X.env = (false, eval c X.env) :: starEach [] X.env := by rfl) :
    PSd X W (.Assign [.Tuple [.Name x px, .Name y py, .Name z pz] kt pt] (.Tuple [a, b, c] k2 pt2) pos) (sPar3 i j l f g h) := by
  refine PS.imp (ps_par3 C.calm C.nd hi hj hl hij hil hjl hx hy hz (pd_cons ha (pd_cons hb (pd_cons hc pd_nil hs3) hs2) hs) h1 h2) fun Dn σ H hh => ?_
  obtain ⟨η, θ, μ, ρ, ok, rs, fin⟩ := hh
  refine ⟨η, θ, μ, ρ, ok, rs, ?_⟩
  unfold sPar3 at fin
  unfold aCons
  cases e : f ρ μ with
  | ok x μ1 =>
    rw [e] at fin
    simp only [Res.toOut, Res.bind] at fin ⊢
    cases e2 : g ρ μ1 with
    | ok y μ2 =>
      rw [e2] at fin
      simp only at fin ⊢
      cases e3 : h ρ μ2 with
      | ok z μ3 =>
        rw [e3] at fin
        simp only [aNil] at fin ⊢
        intro vs H1 θ1 st rx
        cases rx with
        | cons rx l =>
          cases l with
          | cons ry l => cases l with
            | cons rz l => cases l; exact ⟨_, _, _, rfl, fin _ _ _ st ((((rs.step st).set rx).set ry).set rz)⟩
      | ex x μ' => rw [e3] at fin; exact fun cv dd H' θ' st xr => fin cv dd σ H' θ' st (rs.step st) xr
      | no => rw [e3] at fin; exact fin
    | ex x μ' => rw [e2] at fin; exact fun cv dd H' θ' st xr => fin cv dd σ H' θ' st (rs.step st) xr
    | no => rw [e2] at fin; exact fin
  | ex x μ' => rw [e] at fin; exact fun cv dd H' θ' st xr => fin cv dd σ H' θ' st (rs.step st) xr
  | no => rw [e] at fin; exact fin
theorem fnP_nex (nl : Nat) (body : SF) (ds : List D) : ∀ x, fnP nl body ds ≠ .ex x := by
  intro x h
  unfold fnP at h
  split at h
  · split at h <;> cases h
  · cases h
  · cases h
end DL

set_option Elab.async false
set_option linter.all false
set_option maxRecDepth 100000
set_option maxHeartbeats 1000000
/-! DLEnd: from the head's facts to the defs; the law's own promise -/
namespace DL
open PySem PySem.Spec PyProof.Rows L2
variable [TabCtx]
def mkDef {mg : Str → Option Value} {K : PySem.W.Frag} {h : Heap} {x : Str} {st : Stmt} {ps : List Str} {f : Addr} {oc : Value} {od an : Option Addr} {sl : Array (Option Value)} {kV doc pm cdv ct : Value}
    (X : K.In h) (G : h.Ns mainGlobals mg) (hb : ∀ (kV doc pm : Value) (an : Option Addr) (cdv ct : Value) (us : List Value), us.length = ps.length → bindArgs (PySem.W.fnOf x x (defArgs st) (defBody st) (defScope st) .none kV doc pm an cdv ct) ⟨us, []⟩ = pure (ps.zip us))
    (a : PySem.W.nsIn K mainGlobals x = some (some (.ref f))) (l : K.lookup f = some ⟨oc, od, .func (PySem.W.fnOf x x (defArgs st) (defBody st) (defScope st) .none kV doc pm an cdv ct), sl⟩) (c : PySem.W.codeIn K cdv x = true) (k : PySem.W.keepIn K (.ref f) = true) : DefOk mg K x st ps :=
  ⟨f, _, fun_mk l c k, PySem.W.mg_of X G a, (fun_mk l c k).binds hb, hb kV doc pm an cdv ct⟩
theorem mkCon {mg : Str → Option Value} {K : PySem.W.Frag} {h : Heap} {n : Str} {i : Int} {t : Tok} (X : K.In h) (G : h.Ns mainGlobals mg) (e : PySem.W.nsIn K mainGlobals n = some (some (.int i t))) : ∃ t, mg n = some (.int i t) := ⟨t, PySem.W.mg_of X G e⟩
/-- the law's own promise: any script of at most 63 ints gives True -/
def spLaw (K : PySem.W.Frag) : Sp := fun vs H Q _ => ∃ (a : Addr) (ns : List Int), vs = [.ref a] ∧ SqL K H a (ns.map V.int) ∧ ns.length ≤ 63 ∧ LamX.Tabs TabCtx.T H ∧ ∀ H', Q (.bl true) H'
theorem spLaw_of {mg : Str → Option Value} {K : PySem.W.Frag} {g : PF} (h : ∀ ns : List Int, ns.length ≤ 63 → g [.scr ns] = .ok (.bl true)) (vs : List V) (H : Hp) (Q : VK) (E : XK) (s : spLaw K vs H Q E) : spP mg K 1 g vs H Q E := by
  obtain ⟨a, ns, rfl, hS, hl, hT, q⟩ := s
  have e : hid H [] = H := by funext p; unfold hid; rw [if_neg (by simp)]
  refine ⟨rfl, [], [.scr ns], StOk.bare (fun _ h => nomatch h) hT (fun _ h => nomatch h), .cons (.scr (by rw [e]; exact hS)) .nil, ?_⟩
  rw [h ns hl]
  intro v H' θ' st r
  cases r with
  | d r => cases r; exact q H'
end DL

set_option Elab.async false
set_option linter.all false
set_option maxRecDepth 100000
set_option maxHeartbeats 1000000
/-! DLClo: functions handed on, at the level of data; defs that errors leave -/
namespace DL
open PySem PySem.Spec PyProof.Rows L2 LamX NdefX
variable [TabCtx]

/-! ### defs that errors may leave -/
/-- a def of data -/
def fnPx (nl : Nat) (body : SF) : PF := fun ds => match body (rho0 nl (ds.map Sl.d)) [] with
  | .rt s μ => match dr μ s with
    | some d => .ok d
    | none => .no
  | .nx _ _ => .ok .non
  | .ex x _ _ => .ex x
  | _ => .no
def fnMx (nl : Nat) (body : SF) : MF := fun ss μ => match body (rho0 nl ss) μ with
  | .rt s μ' => .ok s μ'
  | .nx _ μ' => .ok (.d .non) μ'
  | .ex x _ μ' => .ex x μ'
  | _ => .no
theorem XRep.drop {mg : Str → Option Value} {K : PySem.W.Frag} {H : Hp} {θ η : List Addr} {x : Exn} {cv : Value} {dd : Option Addr} (h : XRep mg K H (hid H (θ ++ η)) x cv dd) : XRep mg K H (hid H ([] ++ η)) x cv dd := by
  obtain ⟨C, h1, h2, h3⟩ := h
  refine ⟨C, h1, h2, ?_⟩
  cases e : x.fs with
  | none => rw [e] at h3; exact h3
  | some fs =>
    rw [e] at h3
    obtain ⟨d, fvs, a, b, c⟩ := h3
    exact ⟨d, fvs, a, b, c.ext Ext.drop⟩
theorem fnPx_read {mg : Str → Option Value} {K : PySem.W.Frag} {n : Nat} {N : List Str} {body : SF} {vs : List V} {H : Hp} {Q : VK} {E : XK} (h : spP mg K n (fnPx (N.length - n) body) vs H Q E) :
    tSD mg K (fun c d _ H => E c d H) body { nx := fun _ H' => Q .non H', rt := Q } (L2.start N vs) H := by
  obtain ⟨hn, η, ds, ok, l, fin⟩ := h
  subst hn
  refine ⟨η, [], [], rho0 (N.length - vs.length) (ds.map Sl.d), ok, rep0 l.toA, ?_⟩
  unfold fnPx at fin
  split at fin
  · rename_i s μ e
    rw [e]
    split at fin
    · rename_i d ed
      exact fun v H' θ' st r => fin v H' [] st.forget (.d (dr_free st.ok r ed))
    · exact fin.elim
  · rename_i e
    rw [e]
    exact fun v H' θ' st r => fin _ H' [] st.forget (.d .non)
  · rename_i e
    rw [e]
    exact fun cv dd σ' H' θ' st rs xr => fin cv dd H' [] st.forget xr.drop
  · exact fin.elim
theorem fnMx_read {mg : Str → Option Value} {K : PySem.W.Frag} {n : Nat} {N : List Str} {body : SF} {vs : List V} {H : Hp} {Q : VK} {E : XK} (h : spM mg K n (fnMx (N.length - n) body) vs H Q E) :
    tSD mg K (fun c d _ H => E c d H) body { nx := fun _ H' => Q .non H', rt := Q } (L2.start N vs) H := by
  obtain ⟨hn, η, θ, μ, ss, ok, l, fin⟩ := h
  subst hn
  refine ⟨η, θ, μ, rho0 (N.length - vs.length) ss, ok, rep0 l, ?_⟩
  unfold fnMx at fin
  split at fin
  · rename_i s μ e
    rw [e]
    exact fun v H' θ' st r => fin v H' θ' st r
  · rename_i e
    rw [e]
    exact fun v H' θ' st r => fin _ H' θ' st (.d .non)
  · rename_i e
    rw [e]
    exact fun cv dd σ' H' θ' st rs xr => fin cv dd H' θ' st xr
  · exact fin.elim
abbrev CXr (P : Program) (w : World) : CXT := L2N.CX P w
section
variable {P : Program} {w : World} {K : PySem.W.Frag} {mg : Str → Option Value} {base : Heap}
theorem silX (X : Cx) : ∀ (Y : Cx) (σ : L2.St), Y.prog = X.prog → Y.w = X.w → PassesAt (L2N.CX X.prog X.w) Y σ (fun _ _ _ => False) := fun Y σ h1 h2 pins H s e s' I c => by
  obtain ⟨a, B, H', cls, d, _, _, _, _, _, _, _, z⟩ := c
  exact z.elim
/-- a frame whose way out for errors is E -/
structure CxE (X : Cx) (W : WXD) (k : Nat) : Prop extends Cxt X (L2N.CX X.prog X.w) W k where
  tk : L2N.Takes X W
  hs : X.stack = X.env :: X.outer
  hf : X.env.frame = some X.env.locals
abbrev WE (E : XK) : WXD := fun c d _ H => E c d H
theorem cxtX {N ps : List Str} {qual : Str} {sc : Scope} {f : Addr} {cdv : Value} {A : Around} {outer : List Env} {s : Shared} {H : Hp} {E : XK} {k : Nat} (S : FnScope N ps sc) (hr : Room k (A.deeper (envOfC qual sc s.heap.objs.size f cdv))) :
    CxE (cxOf (L2N.CX P w) P w K mg base N qual sc f cdv A outer s H E) (WE E) k :=
  have tk : L2N.Takes (cxOf (L2N.CX P w) P w K mg base N qual sc f cdv A outer s H E) (WE E) := L2N.takes_of rfl rfl rfl rfl
  { calm := rfl, nd := S.nd, pas := fun σ => L2N.passAt tk σ, room := hr, sil := fun Y σ h1 h2 => silX (cxOf (L2N.CX P w) P w K mg base N qual sc f cdv A outer s H E) Y σ h1 h2, own := passes_of rfl, tk := tk, hs := rfl, hf := rfl }
theorem fx_ok {x qual : Str} {st : Stmt} {f : Addr} {fd : FuncData} {N ps : List Str} {k : Nat} {sp : Sp} (F : Fun K x qual st f fd) (S : FnScope N ps (defScope st)) (len : ∀ vs H Q E, sp vs H Q E → vs.length = ps.length)
    (hbody : ∀ (cdv : Value) (A : Around) (outer : List Env) (s : Shared) (H : Hp) (vs : List V) (Q : VK) (E : XK), fd.code = cdv → Room k (A.deeper (envOfC qual (defScope st) s.heap.objs.size f cdv)) → sp vs H Q E →
      ∃ t, PSs (cxOf (CXr P w) P w K mg base N qual (defScope st) f cdv A outer s H E) (defBody st) t ∧ t { nx := fun _ H' => Q .non H', rt := Q } (L2.start N vs) H) : FnOk P w K mg base (CXr P w) (k + 1) f fd ps sp := by
  obtain ⟨oc, od, kV, doc, pm, an, cdv, ct, osl, rfl, lk, hcd⟩ := F.ex
  exact fn_of lk hcd S len fun A outer s H vs Q E hr hsp => hbody cdv A outer s H vs Q E rfl hr hsp
theorem fx_okP {x qual : Str} {st : Stmt} {f : Addr} {fd : FuncData} {N ps : List Str} {k n : Nat} {body : SF} (F : Fun K x qual st f fd) (S : FnScope N ps (defScope st)) (hn : n = ps.length)
    (hb : ∀ (cdv : Value) (A : Around) (outer : List Env) (s : Shared) (H : Hp) (E : XK), fd.code = cdv → CxE (cxOf (CXr P w) P w K mg base N qual (defScope st) f cdv A outer s H E) (WE E) k → PSsd (cxOf (CXr P w) P w K mg base N qual (defScope st) f cdv A outer s H E) (WE E) (defBody st) body) :
    FnOk P w K mg base (CXr P w) (k + 1) f fd ps (spP mg K n (fnPx (N.length - n) body)) :=
  fx_ok F S (fun vs H Q E h => h.1.trans hn) fun cdv A outer s H vs Q E hc hr h => ⟨_, hb cdv A outer s H E hc (cxtX S hr), fnPx_read h⟩
theorem fx_okM {x qual : Str} {st : Stmt} {f : Addr} {fd : FuncData} {N ps : List Str} {k n : Nat} {body : SF} (F : Fun K x qual st f fd) (S : FnScope N ps (defScope st)) (hn : n = ps.length)
    (hb : ∀ (cdv : Value) (A : Around) (outer : List Env) (s : Shared) (H : Hp) (E : XK), fd.code = cdv → CxE (cxOf (CXr P w) P w K mg base N qual (defScope st) f cdv A outer s H E) (WE E) k → PSsd (cxOf (CXr P w) P w K mg base N qual (defScope st) f cdv A outer s H E) (WE E) (defBody st) body) :
    FnOk P w K mg base (CXr P w) (k + 1) f fd ps (spM mg K n (fnMx (N.length - n) body)) :=
  fx_ok F S (fun vs H Q E h => h.1.trans hn) fun cdv A outer s H vs Q E hc hr h => ⟨_, hb cdv A outer s H E hc (cxtX S hr), fnMx_read h⟩
end
theorem CxE.c {X : Cx} {W : WXD} {k : Nat} (C : CxE X W k) : Cxt X (L2N.CX X.prog X.w) W k := C.toCxt
theorem CxE.b {X : Cx} {W : WXD} {k : Nat} (C : CxE X W k) : Cxb X (L2N.CX X.prog X.w) W k := C.toCxt.toCxb

/-! ### functions handed on -/
/-- what is promised of the function that the token t tells -/
def spC (mg : Str → Option Value) (K : PySem.W.Frag) (n : Nat) (t : CTok) (f : MF) : Sp := fun vs H Q E => vs.length = n ∧ ∃ η θ μ ss, StOk mg K η H θ μ ∧ Ext t.G (hid H (θ ++ η)) ∧ Pre t.θ θ ∧ RepA mg K (hid H (θ ++ η)) θ ss vs ∧ Fin mg K E η H θ (RepSl mg K) (f ss μ) Q
structure CloOk (P : Program) (w : World) (K : PySem.W.Frag) (mg : Str → Option Value) (base : Heap) (k n : Nat) (t : CTok) (f : MF) : Prop where
  ex : ∃ (oc : Value) (od : Option Addr) (fd : FuncData) (sl : Array (Option Value)) (ps : List Str), base.get? t.f = some ⟨oc, od, .func fd, sl⟩ ∧ ps.length = n ∧ (∀ (s : Shared) (us : List Value), K.In s.heap → us.length = ps.length → BindsTo s fd ⟨us, []⟩ (ps.zip us)) ∧
    ∀ base', Sub base base' → Mod K mg base' → FnOk P w K mg base' (CXr P w) k t.f fd ps (spC mg K n t f)
theorem CloOk.sub {P : Program} {w : World} {K : PySem.W.Frag} {mg : Str → Option Value} {base base' : Heap} {k n : Nat} {t : CTok} {f : MF} (c : CloOk P w K mg base k n t f) (h : Sub base base') : CloOk P w K mg base' k n t f := by
  obtain ⟨oc, od, fd, sl, ps, h1, h2, h3, h4⟩ := c.ex
  exact ⟨oc, od, fd, sl, ps, h _ _ h1, h2, h3, fun b s m => h4 b (h.trans s) m⟩
open Classical in
/-- the name at i, called: it holds the function of the token t -/
noncomputable def eAct (i n : Nat) (t : CTok) (f : MF) (fa : AF) : EF := fun ρ μ => match ρ[i]? with
  | some (some (.clo t')) => if t' = t then (fa ρ μ).bind fun ss μ1 => if ss.length = n then f ss μ1 else .no else .no
  | _ => .no
section
variable {X : Cx} {W : WXD} {k j n : Nat}
theorem pd_act {t : CTok} {f : MF} {x : Str} {e : Expr} {es : List Expr} {fa : AF} {p pos : Pos} (C : Cxb X (L2N.CX X.prog X.w) W k) (c : CloOk X.prog X.w X.K X.mg X.base j n t f) (hj : j ≤ k) (hm : Mod X.K X.mg X.base) (i : Nat) (ha : PAd X W (e :: es) fa) (hN : X.N[i]? = some x := by rfl) (hv : Vis X.env.scope x := by first | exact Or.inl rfl | exact Or.inr (Or.inl rfl) | exact Or.inr (Or.inr rfl))
    (hd : (x == ("__debug__" : Str)) = false := by decide) (hcd : (x == ("__classdict__" : Str)) = false := by decide) (he : starEach (e :: es) X.env = (false, eval e X.env) :: starEach es X.env := by rfl) (hpl : (backTo pos (starEach es X.env)).any (·.1) = false := by rfl) :
    PEd X W (.Call (.Name x p) (e :: es) [] pos) (eAct i n t f fa) := by
  obtain ⟨oc, od, fd, sl, ps, h1, h2, h3, h4⟩ := c.ex
  refine PE.imp (pe_callB1 (i := i) (E := fun σ c d H => W c d σ H) (h4 X.base (Sub.refl _) hm) h1 (C.room.mono hj) h3 C.pas hN hv ha hd hcd he hpl) fun σ H Q h => ?_
  obtain ⟨η, θ, μ, ρ, ok, rs, fin⟩ := h
  unfold eAct at fin
  split at fin
  · rename_i t' e1
    split at fin
    · rename_i et
      subst et
      obtain ⟨v, h5, h6⟩ := rs.at_ i _ e1
      cases h6 with
      | clo g1 g2 =>
        refine ⟨h5, η, θ, μ, ρ, ok, rs, fin.andThen fun ss μ1 vs H1 θ1 _ st rx fin1 => ?_⟩
        split at fin1
        · rename_i hn
          exact ⟨rx.length.symm.trans hn, η, θ1, μ1, ss, st.ok, g1.trans st.ext, g2.trans st.pre, rx, fin1⟩
        · exact fin1.elim
    · exact fin.elim
  · exact fin.elim
theorem pd_act0 {t : CTok} {f : MF} {x : Str} {p pos : Pos} (C : Cxb X (L2N.CX X.prog X.w) W k) (c : CloOk X.prog X.w X.K X.mg X.base j 0 t f) (hj : j ≤ k) (hm : Mod X.K X.mg X.base) (i : Nat) (hN : X.N[i]? = some x := by rfl) (hv : Vis X.env.scope x := by first | exact Or.inl rfl | exact Or.inr (Or.inl rfl) | exact Or.inr (Or.inr rfl))
    (hd : (x == ("__debug__" : Str)) = false := by decide) (hcd : (x == ("__classdict__" : Str)) = false := by decide) :
    PEd X W (.Call (.Name x p) [] [] pos) (eAct i 0 t f aNil) := by
  obtain ⟨oc, od, fd, sl, ps, h1, h2, h3, h4⟩ := c.ex
  refine PE.imp (pe_callB0 (i := i) (E := fun σ c d H => W c d σ H) (h4 X.base (Sub.refl _) hm) h1 (C.room.mono hj) h3 C.pas hN hv hd hcd) fun σ H Q h => ?_
  obtain ⟨η, θ, μ, ρ, ok, rs, fin⟩ := h
  unfold eAct at fin
  split at fin
  · rename_i t' e1
    split at fin
    · rename_i et
      subst et
      obtain ⟨v, h5, h6⟩ := rs.at_ i _ e1
      cases h6 with
      | clo g1 g2 => exact ⟨h5, rfl, η, θ, μ, [], ok, g1, g2, .nil, fin⟩
    · exact fin.elim
  · exact fin.elim
end
/-! the lambda -/
/-- its frame: the parameters, then what it captured -/
def lamR (js : List Nat) (ρ : Rho) (ss : List Sl) : Rho := ss.map some ++ js.map fun j => (ρ[j]?).join
def lamM (n : Nat) (js : List Nat) (ρ : Rho) (fE : EF) : MF := fun ss μ => if ss.length = n then fE (lamR js ρ ss) μ else .no
theorem slot_rep {mg : Str → Option Value} {K : PySem.W.Frag} {G : Hp} {θ : List Addr} {ρ : Rho} {σ : L2.St} (h : RepS mg K G θ ρ σ) {j : Nat} {s : Sl} (e : (ρ[j]?).join = some s) : ∃ v, slotAt σ j = some v ∧ RepSl mg K G θ s v := by
  cases e1 : ρ[j]? with
  | none => rw [e1] at e; cases e
  | some o =>
    rw [e1] at e
    have e : o = some s := e
    subst e
    obtain ⟨v, h1, h2⟩ := h.at_ j s e1
    exact ⟨v, slotAt_of h1, h2⟩
theorem lam_rep {mg : Str → Option Value} {K : PySem.W.Frag} {G G' : Hp} {θ θ' : List Addr} {ρ : Rho} {σ : L2.St} {js : List Nat} {ss : List Sl} {vs : List V} {N : List Str} (h : RepS mg K G θ ρ σ) (e : Ext G G') (p : Pre θ θ') (l : RepA mg K G' θ' ss vs) (hN : N.length = vs.length + js.length) :
    RepS mg K G' θ' (lamR js ρ ss) (startF N vs (js.map (slotAt σ))) := by
  unfold lamR startF
  rw [hN, List.length_map, show vs.length + js.length - vs.length - js.length = 0 by omega, List.replicate_zero, List.append_nil]
  refine ⟨by simp [l.length], fun i d q => ?_⟩
  by_cases hi : i < ss.length
  · rw [List.getElem?_append_left (by simpa using hi), List.getElem?_map] at q
    obtain ⟨s, h1, h2⟩ := Option.map_eq_some_iff.mp q
    cases h2
    obtain ⟨v, h3, h4⟩ := l.get i h1
    exact ⟨v, by rw [List.getElem?_append_left (by rw [List.length_map, ← l.length]; exact hi), List.getElem?_map, h3]; rfl, h4⟩
  · have hi : ss.length ≤ i := Nat.le_of_not_lt hi
    rw [List.getElem?_append_right (by simpa using hi), List.length_map, List.getElem?_map] at q
    obtain ⟨j, h1, h2⟩ := Option.map_eq_some_iff.mp q
    obtain ⟨v, h3, h4⟩ := slot_rep h h2
    refine ⟨v, ?_, h4.ext e p⟩
    rw [List.getElem?_append_right (by rw [List.length_map, ← l.length]; exact hi), List.length_map, List.getElem?_map, ← l.length, h1]
    exact congrArg some h3
theorem cxtL {P : Program} {w : World} {K : PySem.W.Frag} {mg : Str → Option Value} {base : Heap} {N ps fr : List Str} {F : NF} {f : Addr} {A : Around} {outer : List Env} {s : Shared} {H : Hp} {E : XK} {k : Nat} (S : NScope N ps fr F.scope) (hr : Room k (A.deeper (envF F f s.heap.objs.size))) :
    CxE (ncx (L2N.CX P w) P w K mg base N F f A outer s H E) (WE E) k :=
  have tk : L2N.Takes (ncx (L2N.CX P w) P w K mg base N F f A outer s H E) (WE E) := L2N.takes_of rfl rfl rfl rfl
  { calm := rfl, nd := S.nd, pas := fun σ => L2N.passAt tk σ, room := hr, sil := fun Y σ h1 h2 => silX (ncx (L2N.CX P w) P w K mg base N F f A outer s H E) Y σ h1 h2, own := passes_of rfl, tk := tk, hs := rfl, hf := rfl }
/-- the body of a lambda, wherever it is called -/
def LamBody (X : Cx) (params : Arguments) (body : Expr) (scope : Scope) (N : List Str) (k : Nat) (fE : EF) (base : Heap) : Prop :=
  ∀ (c' f : Addr) (base' : Heap) (A : Around) (outer : List Env) (s : Shared) (H : Hp) (E : XK), Sub base base' → Mod X.K X.mg base' →
    CxE (ncx (L2N.CX X.prog X.w) X.prog X.w X.K X.mg base' N (lamF X params scope c') f A outer s H E) (WE E) k → PEd (ncx (L2N.CX X.prog X.w) X.prog X.w X.K X.mg base' N (lamF X params scope c') f A outer s H E) (WE E) body fE
theorem clo_lam {X : Cx} {f c' : Addr} {base' : Heap} {params : Arguments} {body : Expr} {scope : Scope} {N ps fr : List Str} {js : List Nat} {k n : Nat} {ρ : Rho} {σ : L2.St} {η θ : List Addr} {H : Hp} {fE : EF}
    (S : NScope N ps fr scope) (hN : N.length = ps.length + js.length) (hn : ps.length = n) (cb : CloB base' params body (lamF X params scope c') fr f (js.map (slotAt σ)))
    (hb : ∀ (q : Str) (cl : List (Str × Addr)) (pm cv ctv : Value) (us : List Value), us.length = ps.length → bindArgs (PySem.W.kla_fn "<lambda>" q params body scope cl pm cv ctv) ⟨us, []⟩ = pure (ps.zip us))
    (rs : RepS X.mg X.K (hid H (θ ++ η)) θ ρ σ) (hc : hid H (θ ++ η) c' = some (CodeO c' (X.env.qual ++ "<lambda>"))) (hbody : LamBody X params body scope N k fE base') :
    CloOk X.prog X.w X.K X.mg base' (k + 1) n ⟨f, hid H (θ ++ η), θ⟩ (lamM n js ρ fE) := by
  obtain ⟨⟨pm, ctv, ob⟩, ca⟩ := cb
  refine ⟨_, _, _, _, ps, ob, hn, fun s us _ hl => .of_eq (hb _ _ _ _ _ us hl), fun b2 sb m2 => ?_⟩
  refine lam_ok (N := N) (fr := fr) (ws := js.map (slotAt σ)) (F := lamF X params scope c') S (sb _ _ ob) (CellsAt.sub ca sb fun _ _ _ => rfl) (fun vs H Q E h => h.1.trans hn.symm) (fun vs H1 Q E h => ?_) fun A outer s H1 vs Q E hr h => ?_
  · obtain ⟨_, η1, θ1, μ1, ss, ok, g1, _⟩ := h
    exact (hid_some (g1 _ _ hc fun ps z => codeO_ne ps z)).2
  · refine ⟨_, hbody c' f b2 A outer s H1 E sb m2 (cxtL S hr), ?_⟩
    obtain ⟨hv, η1, θ1, μ1, ss, ok, g1, g2, l, fin⟩ := h
    refine ⟨η1, θ1, μ1, lamR js ρ ss, ok, lam_rep rs g1 g2 l (by rw [hN, hn, hv]), ?_⟩
    unfold lamM at fin
    rw [if_pos (l.length.trans hv)] at fin
    exact fin

/-! arguments with a lambda among them -/
abbrev XF := Rho → Store → Res (List Sl × List Sl)
def xLam (fr : AF) : XF := fun ρ μ => (fr ρ μ).bind fun ys μ1 => .ok ([], ys) μ1
def xCons (fa : EF) (fx : XF) : XF := fun ρ μ => (fa ρ μ).bind fun x μ1 => (fx ρ μ1).bind fun p μ2 => .ok (x :: p.1, p.2) μ2
def RepX (mg : Str → Option Value) (K : PySem.W.Frag) (q : Str) (G : Hp) (θ : List Addr) (p : List Sl × List Sl) (v : Addr × Addr × List V) : Prop :=
  ∃ us ws, v.2.2 = us ++ .ref v.1 :: ws ∧ RepA mg K G θ p.1 us ∧ RepA mg K G θ p.2 ws ∧ G v.2.1 = some (CodeO v.2.1 q)
def tXD (mg : Str → Option Value) (K : PySem.W.Frag) (W : WXD) (q : Str) (fx : XF) : TX := fun σ H Q => ∃ η θ μ ρ, StOk mg K η H θ μ ∧ RepS mg K (hid H (θ ++ η)) θ ρ σ ∧ Fin mg K (fun c d => W c d σ) η H θ (RepX mg K q) (fx ρ μ) (fun v H' => Q v.1 v.2.1 v.2.2 H')
def PXd (X : Cx) (W : WXD) (params : Arguments) (body : Expr) (scope : Scope) (es : List Expr) (fx : XF) : Prop := PX X params body scope es (tXD X.mg X.K W (X.env.qual ++ "<lambda>") fx)
section
variable {X : Cx} {W : WXD} {params : Arguments} {body : Expr} {scope : Scope} {es : List Expr}
theorem PX.imp {t t' : TX} (h : PX X params body scope es t) (k : ∀ σ H Q, t' σ H Q → t σ H Q) : PX X params body scope es t' := ⟨fun pos pins s σ H Q I q => h.run pos pins s σ H Q I (k σ H Q q)⟩
theorem pxd_cons {e : Expr} {fa : EF} {fx : XF} (ha : PEd X W e fa) (hr : PXd X W params body scope es fx) (hs : starEach (e :: es) X.env = (false, eval e X.env) :: starEach es X.env := by rfl) : PXd X W params body scope (e :: es) (xCons fa fx) := by
  refine PX.imp (px_cons ha hr hs) fun σ H Q h => ?_
  obtain ⟨η, θ, μ, ρ, ok, rs, fin⟩ := h
  refine ⟨η, θ, μ, ρ, ok, rs, fin.andThen fun dx μ1 x H1 θ1 _ st rx fin1 => ⟨η, θ1, μ1, ρ, st.ok, rs.step st, fin1.andThen ?_⟩⟩
  rintro p μ2 ⟨f, c', vs⟩ H2 θ2 _ st2 ⟨us, ws, e1, r1, r2, hc⟩ fin2
  refine fin2.done (a := (dx :: p.1, p.2)) (v := (f, c', x :: vs)) (Step.refl st2.ok) ⟨x :: us, ws, by rw [show vs = us ++ .ref f :: ws from e1]; rfl, .cons (rx.step st2) r1, r2, hc⟩
theorem StOk.lam {mg : Str → Option Value} {K : PySem.W.Frag} {η θ : List Addr} {H H1 : Hp} {μ : Store} (s : StOk mg K η H θ μ) (e : ExtN H H1) (t : Tabs TabCtx.T H1) : Step mg K η H θ H1 θ μ := by
  have kp : ∀ p, p ∈ θ ++ η → H1 p = H p := fun p hp => by
    cases eq : H p with
    | none => exact absurd eq (s.trk p hp)
    | some o => exact e p o eq (s.plain hp o eq).1
  have ex : Ext (hid H (θ ++ η)) (hid H1 (θ ++ η)) := fun p o q n => by
    obtain ⟨q1, q2⟩ := hid_some q
    rw [hid_out q1]
    exact e p o q2 n
  refine ⟨ex, Pre.refl _, fun p hp => kp p (List.mem_append_right _ hp), ⟨fun p hp => ?_, s.len, s.nd, s.dj, fun n a o h1 h2 => ?_, t, fun p hp u q => s.pl p hp u ?_⟩⟩
  · rw [kp p (List.mem_append_right _ hp)]; exact s.dom p hp
  · exact (s.at_ n a o h1 h2).ext ex (kp a (List.mem_append_left _ (List.mem_of_getElem? h1)))
  · rw [← q, kp p (List.mem_append_right _ hp)]
theorem pxd_lam {c P : Addr} {fr : AF} {lpos : Pos} (TB : TabB X.base X.mg c P) (hcode : X.env.code = .ref c) (hmT : (P, X.env.qual ++ "<lambda>") ∈ TabCtx.T) (hu : ∀ p ∈ TabCtx.T, p.1 = P → p.2 = X.env.qual ++ "<lambda>")
    (hfree : ∀ y ∈ scope.names, y.2 = .free → X.env.scope.names.lookup y.1 = some .cell ∨ X.env.scope.names.lookup y.1 = some .free) (hdef : defaultsOf params X.env = ([], []) := by rfl)
    (hr : PAd X W es fr) (hs : starEach (.Lambda params body scope lpos :: es) X.env = (false, eval (.Lambda params body scope lpos) X.env) :: starEach es X.env := by rfl) : PXd X W params body scope (.Lambda params body scope lpos :: es) (xLam fr) := by
  refine PX.imp (px_lam TB hcode hmT hu hfree hdef hr hs) fun σ H Q h => ?_
  obtain ⟨η, θ, μ, ρ, ok, rs, fin⟩ := h
  refine ⟨ok.tab, fun f c' H1 eN T1 _ hco => ?_⟩
  have st := ok.lam eN T1
  refine ⟨η, θ, μ, ρ, st.ok, rs.step st, (Fin.rebase st fin).andThen fun ys μ1 ws H2 θ2 _ st2 rx fin2 => ?_⟩
  refine fin2.done (a := ([], ys)) (v := (f, c', .ref f :: ws)) (Step.refl st2.ok) ⟨[], ws, rfl, .nil, rx, ?_⟩
  refine st2.ext _ _ ?_ fun ps z => codeO_ne ps z
  rw [hid_out fun m => (st.ok.plain m _ hco).2 _ rfl]
  exact hco
end
open Classical in
/-- what all tokens give -/
noncomputable def uni (F : CTok → Res Sl) : Res Sl := if h : ∃ r, ∀ t, F t = r then h.choose else .no
theorem uni_eq {F : CTok → Res Sl} {r : Res Sl} (h : ∀ t, F t = r) : uni F = r := by
  have hx : ∃ r, ∀ t, F t = r := ⟨r, h⟩
  unfold uni
  rw [dif_pos hx, ← hx.choose_spec ⟨0, fun _ => none, []⟩]
  exact h _
theorem uni_at (F : CTok → Res Sl) (t : CTok) : uni F = .no ∨ uni F = F t := by
  unfold uni
  split
  · rename_i h; exact .inr (h.choose_spec t).symm
  · exact .inl rfl
noncomputable def eCallH (n : Nat) (g : CTok → MF → MF) (fx : XF) (m : Nat) (js : List Nat) (fE : EF) : EF := fun ρ μ => (fx ρ μ).bind fun p μ1 =>
  if p.1.length + p.2.length + 1 = n then uni fun t => g t (lamM m js ρ fE) (p.1 ++ .clo t :: p.2) μ1 else .no
section
variable {X : Cx} {W : WXD} {k j n m kf : Nat} {f : Addr} {fd : FuncData} {ps : List Str}
theorem RepA.app {mg : Str → Option Value} {K : PySem.W.Frag} {G : Hp} {θ : List Addr} : ∀ {a b : List Sl} {us ws : List V}, RepA mg K G θ a us → RepA mg K G θ b ws → RepA mg K G θ (a ++ b) (us ++ ws)
  | _, _, _, _, .nil, h => h
  | _, _, _, _, .cons h l, k => .cons h (RepA.app l k)
theorem pd_callHL {g : CTok → MF → MF} {params : Arguments} {body : Expr} {scope : Scope} {N ps' fr : List Str} {js : List Nat} {fE : EF} {fx : XF} {x : Str} {e : Expr} {es : List Expr} {p pos : Pos} (C : Cxb X (L2N.CX X.prog X.w) W k) (nf : CellNf X)
    (F : ∀ t φ base', Mod X.K X.mg base' → Sub X.base base' → CloOk X.prog X.w X.K X.mg base' (kf + 1) m t φ → FnOk X.prog X.w X.K X.mg base' (CXr X.prog X.w) j f fd ps (spM X.mg X.K n (g t φ))) (hj : j ≤ k) (hps : ps.length = n) (hg : Gl X x) (hm : X.mg x = some (.ref f)) (hk : PySem.W.keepIn X.K (.ref f) = true) (hb : Binds X.K fd ps [])
    (S : NScope N ps' fr scope) (hN : N.length = ps'.length + js.length) (hn : ps'.length = m) (hfr : ndefB X.env.scope scope fr = true) (hjs : js.map (fun j => X.N[j]?) = fr.map some)
    (hbl : ∀ (q : Str) (cl : List (Str × Addr)) (pm cv ctv : Value) (us : List Value), us.length = ps'.length → bindArgs (PySem.W.kla_fn "<lambda>" q params body scope cl pm cv ctv) ⟨us, []⟩ = pure (ps'.zip us))
    (hbody : LamBody X params body scope N kf fE X.base) (hx : PXd X W params body scope (e :: es) fx)
    (hdb : (x == ("__debug__" : Str)) = false := by decide) (he : starEach (e :: es) X.env = (false, eval e X.env) :: starEach es X.env := by rfl) (hpl : (backTo pos (starEach es X.env)).any (·.1) = false := by rfl) :
    PEd X W (.Call (.Name x p) (e :: es) [] pos) (eCallH n g fx m js fE) := by
  refine PE.imp (pe_callX (E := fun σ c d H => W c d σ H) (fr := fr) (js := js) (k := k)
    (sp := fun f' c' ws vs H Q E => ∃ t φ, (∀ base', Sub X.base base' → Mod X.K X.mg base' → CloB base' params body (lamF X params scope c') fr f' ws → CloOk X.prog X.w X.K X.mg base' (kf + 1) m t φ) ∧ spM X.mg X.K n (g t φ) vs H Q E)
    (fun f' c' ws base' sb m2 cb => ⟨fun vs H Q E ⟨t, φ, _, h⟩ => h.1.trans hps.symm, fun A outer s H args us vs Q E hr e0 bt vl ⟨t, φ, hc, h⟩ => (F t φ base' m2 sb (hc base' sb m2 cb)).run A outer s H args us vs Q E (hr.mono hj) e0 bt vl h⟩)
    C.room nf (fun ok => Caps.made ok (ndef_free hfr) (ndef_fr hfr) hjs) hg hm hk hb C.pas hx hdb he hpl) fun σ H Q h => ?_
  obtain ⟨η, θ, μ, ρ, ok, rs, fin⟩ := h
  refine ⟨η, θ, μ, ρ, ok, rs, fin.andThen ?_⟩
  rintro ⟨xs, ys⟩ μ1 ⟨f', c', vs⟩ H1 θ1 _ st ⟨us, ws, e1, r1, r2, hc⟩ fin1
  have e1 : vs = us ++ .ref f' :: ws := e1
  subst e1
  split at fin1
  · rename_i hl
    refine ⟨⟨f', hid H1 (θ1 ++ η), θ1⟩, lamM m js ρ fE, fun base' sb m2 cb => clo_lam S hN hn cb hbl (rs.step st) hc fun c2 f2 b2 A outer s H2 E s2 m3 => hbody c2 f2 b2 A outer s H2 E (sb.trans s2) m3, ?_⟩
    refine ⟨?_, η, θ1, μ1, xs ++ .clo ⟨f', hid H1 (θ1 ++ η), θ1⟩ :: ys, st.ok, RepA.app r1 (.cons (.clo (Ext.refl _) (Pre.refl _)) r2), ?_⟩
    · have h1 := r1.length
      have h2 := r2.length
      simp only [List.length_append, List.length_cons, ← h1, ← h2]
      have hl : xs.length + ys.length + 1 = n := hl
      omega
    · rcases uni_at (fun t => g t (lamM m js ρ fE) (xs ++ .clo t :: ys) μ1) ⟨f', hid H1 (θ1 ++ η), θ1⟩ with z | z
      · rw [z] at fin1; exact fin1.elim
      · rw [z] at fin1; exact fin1
  · exact fin1.elim
end
end DL

set_option Elab.async false
set_option linter.all false
set_option maxRecDepth 100000
set_option maxHeartbeats 1000000
/-! DLGen: comprehensions in any surroundings (also while an exception is handled), and what is known where the block begins -/
namespace DL
open PySem PySem.Spec PyProof.Rows L2 LamX NdefX

abbrev Pins := List (Addr × Obj)
/-- a walk's turns, in the surroundings that Cn admits -/
structure TurnG (P : Program) (w : World) (K : PySem.W.Frag) (tg : Expr) (Cn : Cx → Pins → Prop) (J : It) (fp : List Addr) (it : Addr) (tn : Nat → Heap → Prop) : Prop where
  mem : it ∈ fp
  obj : ∀ i h, tn i h → ∀ b ∈ fp, ∃ o, h.get? b = some o ∧ ∀ v, o.data ≠ .cell v
  keep : ∀ i h h', tn i h → (∀ b ∈ fp, ∀ o, h.get? b = some o → h'.get? b = some o) → tn i h'
  item : ∀ (Y : Cx), Y.prog = P → Y.w = w → Y.K = K → ∀ (i : Nat) (pins : Pins), Cn Y pins → ∀ (s : Shared) (σ : L2.St) (H : Hp) (E : Value → Shared → Prop), Inv Y pins σ H s → (∀ b ∈ fp, FpOk Y pins H b) → tn i s.heap → J.go i H →
    wpAny (model P w) Y.A (pyNext (.ref it)) (fun r s1 => ∃ u, r = some u ∧ wpAny (model P w) Y.A (letOwnedTupleGo tg (.ref it) u)
      (fun _ s2 => ∃ x H', Inv Y pins σ H' s2 ∧ RelV x u ∧ J.yld i H x H' ∧ tn (i + 1) s2.heap ∧ ∀ b ∈ fp, H' b = none) E s1) E s
  done : ∀ (Y : Cx), Y.prog = P → Y.w = w → Y.K = K → ∀ (i : Nat) (pins : Pins), Cn Y pins → ∀ (s : Shared) (σ : L2.St) (H : Hp) (E : Value → Shared → Prop), Inv Y pins σ H s → (∀ b ∈ fp, FpOk Y pins H b) → tn i s.heap → J.stop i H →
    wpAny (model P w) Y.A (pyNext (.ref it)) (fun r s1 => r = none ∧ Inv Y pins σ H s1) E s
  self : ∀ (A : Around) (i : Nat) (s : Shared) (Q : Value → Shared → Prop) (E : Value → Shared → Prop), tn i s.heap → Q (.ref it) s → wpAny (model P w) A (pyIter (.ref it)) Q E s
structure PIG (X : Cx) (Cn : Cx → Pins → Prop) (tg iter : Expr) (wi : TI) : Prop where
  run : ∀ (pins : Pins) (s : Shared) (σ : L2.St) (H : Hp) (R : It → Hp → Prop), Inv X pins σ H s → wi σ H R →
    wpAny (model X.prog X.w) X.A (eval iter X.env) (fun v s1 => wpAny (model X.prog X.w) X.A (pyIter v) (fun itv s2 =>
      ∃ (it : Addr) (fp : List Addr) (tn : Nat → Heap → Prop) (J : It) (H' : Hp), itv = .ref it ∧ Inv X pins σ H' s2 ∧ TurnG X.prog X.w X.K tg Cn J fp it tn ∧ tn 0 s2.heap ∧ (∀ b ∈ fp, FpOk X pins H' b) ∧ R J H') X.xe s1) X.xe s
/-- calm surroundings -/
def Calm : Cx → Pins → Prop := fun Y _ => Y.calm = true
theorem Turn.g {P : Program} {w : World} {K : PySem.W.Frag} {tg : Expr} {J : It} {fp : List Addr} {it : Addr} {tn : Nat → Heap → Prop} (T : Turn P w K tg J fp it tn) : TurnG P w K tg Calm J fp it tn :=
  ⟨T.mem, T.obj, T.keep, fun Y h1 h2 h3 i pins hc s σ H E => T.item Y h1 h2 h3 hc i pins s σ H E, fun Y h1 h2 h3 i pins hc s σ H E => T.done Y h1 h2 h3 hc i pins s σ H E, T.self⟩
theorem PI.g {X : Cx} {tg iter : Expr} {wi : TI} (h : PI X tg iter wi) : PIG X Calm tg iter wi := by
  refine ⟨fun pins s σ H R I q => thn (h.run pins s σ H R I q) fun v s1 h1 => thn h1 ?_⟩
  rintro itv s2 ⟨it, fp, tn, J, H', e, I2, T, st, f, q⟩
  exact ⟨it, fp, tn, J, H', e, I2, Turn.g T, st, f, q⟩
/-- a target, in the surroundings that Cn admits -/
structure PGc (X : Cx) (Cn : Cx → Pins → Prop) (tg : Expr) (t : TG) : Prop where
  run : ∀ (pins : Pins), Cn X pins → ∀ (s : Shared) (σ : L2.St) (H : Hp) (v : V) (u : Value) (Q : L2.St → Hp → Prop), Inv X pins σ H s → RelV v u → t v σ H Q →
    wpAny (model X.prog X.w) X.A (assign tg X.env u) (fun _ s' => ∃ σ' H', Inv X pins σ' H' s' ∧ Q σ' H') X.xe s
theorem PG.c {X : Cx} {Cn : Cx → Pins → Prop} {tg : Expr} {t : TG} (h : PG X tg t) : PGc X Cn tg t := ⟨fun pins _ s σ H v u Q I r q => h.run pins s σ H v u Q I r q⟩
/-- where the block begins -/
structure BlkAt (X : Cx) (s : Shared) (H : Hp) (scope : Scope) (C : Addr) (cl : List (Str × Addr)) (fp : List Addr) : Prop where
  inv : ∃ pins σ, Inv X pins σ H s
  cl : cl = cellsFrom (s.heap.objs.size + 1) scope.names (cloFrom X.env.cells scope.names [])
  C : C = s.heap.objs.size
  fp : ∀ b ∈ fp, b < s.heap.objs.size
abbrev blkX (X : Cx) (s : Shared) (H : Hp) (scope : Scope) (C : Addr) (cl : List (Str × Addr)) (fp : List Addr) : Cx := X.blk s H scope (compEnvC scope cl C X.env) fp
section
variable {X : Cx} {Cn : Cx → Pins → Prop}
theorem lcG_core {pins : Pins} {s : Shared} {σ : L2.St} {H : Hp} {Q : VK} {elt tg iter : Expr} {ifs : List Expr} {scope : Scope} {own : List (Str × Nat)} {pos pos' : Pos} {wi : TI} {g : TG} {tt : TT} {te : TE} {use : Option (Value → Sem Unit)} {Qf : Value → Shared → Prop}
    (hblk : ∀ s H C cl fp pins more, Cn (blkX X s H scope C cl fp) ((X.pn ++ pins) ++ more)) (hN : X.N.Nodup) (I : Inv X pins σ H s) (hi : PIG X Cn tg iter wi) (ok : BlkOk X.N X.env.scope scope own)
    (hg : ∀ s H C cl fp, BlkAt X s H scope C cl fp → PGc (blkX X s H scope C cl fp) Cn tg g) (ht : ∀ s H C cl fp, BlkAt X s H scope C cl fp → PTs (blkX X s H scope C cl fp) ifs tt)
    (he : ∀ s H C cl fp, BlkAt X s H scope C cl fp → PE (blkX X s H scope C cl fp) elt te) (hs : ∀ x, foldedSetIterable iter X.env x = pure x)
    (h : tLc wi g tt te (own.map (·.2)) σ H Q)
    (hRR : ∀ D C s' m H', Inv X pins σ H' s' → Q (.ref D) H' → s'.heap.Ns C m → FpOk X pins H' C → compPost (model X.prog X.w) X.A X.xe use Qf (.ref D) C (.ok .next) s') :
    wpAny (model X.prog X.w) X.A (comprehension (.ListComp elt [⟨tg, iter, ifs, 0⟩] scope pos) scope X.env pos' (newList []) false (eval iter X.env) use) Qf X.xe s := by
  have fre : ∀ y ∈ scope.names, y.2 = .free → ∃ c, X.env.cells.lookup y.1 = some c := fun y hy e => (ok.free y hy e).elim (fun z => I.ok.has _ (.inl z)) fun z => I.ok.has _ (.inr z)
  refine wpAny_comprehension_free (use := use) rfl hs (closure_ok fre) ok.kind (fun y hy e => by rw [ok.uniq y hy, e]) (thn (hi.run pins s σ H _ I h) fun xv s1 hx => thn hx ?_)
  rintro itv s2 ⟨it, fp, tn, J, H2, rfl, I2, T, st2, f2, q⟩
  refine wpAny_newObj_type (newEnv_comp ?_) (by show 0 ≤ sizeLine; decide)
  obtain ⟨D, hD⟩ : ∃ D, s2.heap.objs.size = D := ⟨_, rfl⟩
  rw [hD]
  have hDn : H2 D = none := I2.hok.fresh (Nat.le_of_eq hD)
  obtain ⟨W, ⟨m0, w0⟩, turn⟩ := q D hDn
  obtain ⟨s3, hs3⟩ : ∃ s3 : Shared, s3 = { s2 with heap := s2.heap.push { cls := .type "list", data := .seq ([] : List Value).toArray } } := ⟨_, rfl⟩
  rw [← hs3]
  have h3 : s3.heap = s2.heap.push { cls := .type "list", data := .seq ([] : List Value).toArray } := by rw [hs3]
  have I3 : Inv X pins σ (upd H2 D (.lst [])) s3 := by
    subst hs3
    subst hD
    exact I2.laid (t' := s2.toks) (fun b o e => Heap.get?_push_of_some _ e) (Nat.le_refl _) ⟨Nat.zero_le _, [], 0, .nil, Heap.get?_push_size _ rfl⟩
  have lt2 : ∀ b ∈ fp, b < s2.heap.objs.size := fun b hb => let ⟨_, e, _⟩ := T.obj _ _ st2 b hb; Heap.lt_size e
  have f3 : ∀ b ∈ fp, FpOk X pins (upd H2 D (.lst [])) b ∧ b < s3.heap.objs.size := fun b hb => by
    have l := lt2 b hb
    refine ⟨⟨?_, (f2 b hb).2⟩, by rw [h3, Heap.size_push]; exact Nat.lt_succ_of_lt l⟩
    rw [upd_ne (by rw [← hD]; exact Nat.ne_of_lt l)]
    exact (f2 b hb).1
  have st3 : tn 0 s3.heap := T.keep _ _ _ st2 fun b _ o e => by rw [h3]; exact Heap.get?_push_of_some _ e
  obtain ⟨cl, hcl⟩ : ∃ cl, cl = cellsFrom (s3.heap.objs.size + 1) scope.names (cloFrom X.env.cells scope.names []) := ⟨_, rfl⟩
  obtain ⟨H3, hH3⟩ : ∃ H3, H3 = upd H2 D (.lst []) := ⟨_, rfl⟩
  rw [← hH3] at I3 f3 w0
  have at_ : BlkAt X s3 H3 scope s3.heap.objs.size cl fp := ⟨⟨pins, σ, I3⟩, hcl, rfl, fun b hb => (f3 b hb).2⟩
  have pg := hg _ _ _ _ _ at_
  have pt := ht _ _ _ _ _ at_
  have pe := he _ _ _ _ _ at_
  have I4 := block_start I3 ok hN f3
  rw [← hcl] at I4
  change codeAny _ _ (.compStart (.ListComp elt [⟨tg, iter, ifs, 0⟩] scope pos) 0 (.ref it) (.ref D) (compEnvC scope (cellsFrom (s3.heap.objs.size + 1) scope.names (cloFrom X.env.cells scope.names [])) s3.heap.objs.size X.env)) (compPost (model X.prog X.w) X.A X.xe use Qf (.ref D) s3.heap.objs.size) { s3 with heap := pushCells (s3.heap.push { cls := .type "dict", data := .dict #[] }) scope.names }
  rw [← hcl]
  obtain ⟨s4, hs4⟩ : ∃ s4 : Shared, s4 = { s3 with heap := pushCells (s3.heap.push { cls := .type "dict", data := .dict #[] }) scope.names } := ⟨_, rfl⟩
  rw [← hs4] at I4 ⊢
  -- the pins of the frame stay the block's
  have mine : ∀ p ∈ X.pn ++ pins, s4.heap.get? p.1 = some p.2 ∧ H3 p.1 = none ∧ p.1 ≠ s3.heap.objs.size ∧ p.1 ∉ frs X.stack ∧ ∀ v, p.2.data ≠ .cell v := fun p hp => by
    obtain ⟨p1, p2, p3, p4, p5⟩ := I3.pin p hp
    refine ⟨by rw [hs4]; exact pushCells_keeps _ _ _ _ (Heap.get?_push_of_some _ p1), p2, Nat.ne_of_lt (Heap.lt_size p1), fun z => ?_, p5⟩
    exact (List.mem_cons.mp (I3.stkSub _ z)).elim p3 p4
  have I4' : Inv (blkX X s3 H3 scope s3.heap.objs.size cl fp) (X.pn ++ pins) (wipe σ (own.map (·.2))) H3 s4 := I4.pins_of fun p hp => mine p hp
  have st4 : tn 0 s4.heap := T.keep _ _ _ st3 fun b _ o e => by rw [hs4]; exact pushCells_keeps _ _ _ _ (Heap.get?_push_of_some _ e)
  have stat : ∀ {σ' : L2.St} {H' : Hp} {s' : Shared}, Inv (blkX X s3 H3 scope s3.heap.objs.size cl fp) (X.pn ++ pins) σ' H' s' → (∀ b ∈ fp, H' b = none) → ∀ b ∈ fp, FpOk (blkX X s3 H3 scope s3.heap.objs.size cl fp) (X.pn ++ pins) H' b := fun {σ' H' s'} J hn b hb =>
    ⟨hn b hb, (J.ok.exf b hb).1, J.ok.exfs b hb, .inl hb, fun x c e => (J.ok.exf b hb).2 x c e, fun p hp => (f3 b hb).1.2.2.2.2.2 p hp⟩
  have cn := hblk s3 H3 s3.heap.objs.size cl fp pins []
  rw [List.append_nil] at cn
  have loop : codeAny (model X.prog X.w) X.A (.compLoop (.ListComp elt [⟨tg, iter, ifs, 0⟩] scope pos) 0 (.ref it) (.ref D) (compEnvC scope cl s3.heap.objs.size X.env)) (compPost (model X.prog X.w) X.A X.xe use Qf (.ref D) s3.heap.objs.size) s4 := by
    refine compLoop_any (fun n s' => ∃ i H', Inv (blkX X s3 H3 scope s3.heap.objs.size cl fp) (X.pn ++ pins) (wipe σ (own.map (·.2))) H' s' ∧ tn i s'.heap ∧ (∀ b ∈ fp, H' b = none) ∧ W i n H') ?_ m0 ⟨0, H3, I4', st4, fun b hb => (f3 b hb).1.1, w0⟩
    rintro n s5 ⟨i, H5, I5, st5, n5, w5⟩
    rcases turn i n H5 w5 with ⟨stop, qq⟩ | ⟨go, Nx, hNx, step⟩
    · refine thnF (T.done (blkX X s3 H3 scope s3.heap.objs.size cl fp) rfl rfl rfl i _ cn s5 _ H5 (fun _ _ => False) I5 (stat I5 n5) st5 stop) ?_
      rintro r s6 ⟨rfl, I6⟩
      have I7 : Inv X pins σ H5 s6 := I3.call' (ch := fp) I6.os I6.base I6.hok I6.bare fun b hb => ⟨(f3 b hb).1.2.2.2.1, (f3 b hb).1.2.1, (f3 b hb).1.2.2.2.2.1, (f3 b hb).1.2.2.2.2.2⟩
      obtain ⟨m, hn, _⟩ := I6.loc
      exact hRR D s3.heap.objs.size s6 m H5 I7 qq hn (I3.fpOk (Nat.le_refl _) I6.free)
    · refine thnF (T.item (blkX X s3 H3 scope s3.heap.objs.size cl fp) rfl rfl rfl i _ cn s5 _ H5 (fun _ _ => False) I5 (stat I5 n5) st5 go) ?_
      rintro r s6 ⟨u, rfl, h6⟩
      refine thnF h6 ?_
      rintro _ s7 ⟨x, H7, I7, r7, y7, st7, n7⟩
      refine thnF (pg.run _ (hblk _ _ _ _ _ _ _) s7 _ H7 x u _ (I7.pinned (stat I7 n7) (T.obj _ _ st7)) r7 (step x H7 y7)) ?_
      rintro _ s8 ⟨σ8, H8, I8, hw8, q8⟩
      refine thnF (pt.run _ s8 σ8 H8 _ I8 q8) ?_
      rintro b s9 ⟨H9, I9, q9⟩
      have next : ∀ {s' : Shared} {H' : Hp}, Inv (blkX X s3 H3 scope s3.heap.objs.size cl fp) ((X.pn ++ pins) ++ pinsAt fp s7.heap) σ8 H' s' → Nx H' → ∃ m, m < n ∧ ∃ i H', Inv (blkX X s3 H3 scope s3.heap.objs.size cl fp) (X.pn ++ pins) (wipe σ (own.map (·.2))) H' s' ∧ tn i s'.heap ∧ (∀ b ∈ fp, H' b = none) ∧ W i m H' := fun {s' H'} J nx => by
        obtain ⟨m', hm, w'⟩ := hNx H' nx
        have pin : ∀ b ∈ fp, ∀ o, s7.heap.get? b = some o → s'.heap.get? b = some o ∧ H' b = none := fun b hb o e =>
          have z := J.pin (b, o) (List.mem_append_right _ (List.mem_append_right _ (mem_pinsAt hb e)))
          ⟨z.1, z.2.1⟩
        refine ⟨m', hm, i + 1, H', J.unpinned.weak (by rw [← hw8, wipe_length]) (fun j v e => ?_), T.keep _ _ _ st7 fun b hb o e => (pin b hb o e).1, fun b hb => ?_, w'⟩
        · rw [← hw8] at e
          exact (wipe_some e).1
        · obtain ⟨o, e, _⟩ := T.obj _ _ st7 b hb
          exact (pin b hb o e).2
      cases b with
      | false =>
        rw [if_neg (by decide)] at q9
        rw [if_neg (by decide)]
        exact next I9 q9
      | true =>
        rw [if_pos rfl] at q9
        rw [if_pos rfl]
        refine thnF (pe.run _ s9 σ8 H9 _ I9 q9) ?_
        rintro z s10 ⟨yv, H10, I10, r10, acc, hD10, hz10, nx⟩
        exact app_ok (X := blkX X s3 H3 scope s3.heap.objs.size cl fp) I10 hD10 hz10 r10 fun s11 I11 => next I11 nx
  exact codeAny_compStart_list loop (T.self X.A 0 _ _ _ st4 loop)
theorem pe_lcG {elt tg iter : Expr} {ifs : List Expr} {scope : Scope} {own : List (Str × Nat)} {pos : Pos} {wi : TI} {g : TG} {tt : TT} {te : TE} (hblk : ∀ s H C cl fp pins more, Cn (blkX X s H scope C cl fp) ((X.pn ++ pins) ++ more)) (hN : X.N.Nodup) (hi : PIG X Cn tg iter wi) (ok : BlkOk X.N X.env.scope scope own)
    (hg : ∀ s H C cl fp, BlkAt X s H scope C cl fp → PGc (blkX X s H scope C cl fp) Cn tg g) (ht : ∀ s H C cl fp, BlkAt X s H scope C cl fp → PTs (blkX X s H scope C cl fp) ifs tt)
    (he : ∀ s H C cl fp, BlkAt X s H scope C cl fp → PE (blkX X s H scope C cl fp) elt te) (hs : ∀ x, foldedSetIterable iter X.env x = pure x := by intro _; rfl) :
    PE X (.ListComp elt [⟨tg, iter, ifs, 0⟩] scope pos) (tLc wi g tt te (own.map (·.2))) := by
  refine ⟨fun pins s σ H Q I h => ?_⟩
  rw [eval_ListComp]
  refine lcG_core hblk hN I hi ok hg ht he hs h ?_
  rintro D C s' m H' I' q hn ⟨f0, f1, f2, f3, f4, f5⟩
  exact ⟨m, hn, fun h'' sb => ⟨.ref D, H', I'.turned (t' := s'.toks) (fun b o hb e => (sb.2 b hb).trans e) f0 f1 f3 f4 f5, rfl, q⟩⟩
/-- cells of the block are no frames -/
theorem BlkAt.nf {s : Shared} {H : Hp} {scope : Scope} {C : Addr} {cl : List (Str × Addr)} {fp : List Addr} (b : BlkAt X s H scope C cl fp) (nf : CellNf X) (hfree : ∀ y ∈ scope.names, y.2 = .free → X.env.scope.names.lookup y.1 = some .cell ∨ X.env.scope.names.lookup y.1 = some .free) : CellNf (blkX X s H scope C cl fp) := by
  obtain ⟨pins, σ, I⟩ := b.inv
  intro pins' σ' H' s' I' y c e hb
  have e : cl.lookup y = some c := e
  rw [b.cl, ← Heap.size_push s.heap { cls := .type "dict", data := .dict #[] }] at e
  have hf : ∀ y ∈ scope.names, y.2 = .free → ∃ c, X.env.cells.lookup y.1 = some c := fun y hy e => (hfree y hy e).elim (fun z => I.ok.has _ (.inl z)) fun z => I.ok.has _ (.inr z)
  have hb : c ∈ frs X.stack := hb
  rcases cells_mem (PySem.mem_of_lookup e) with hm | ⟨_, h2, _⟩
  · rcases cloFrom_mem hm with z | ⟨h1, h2⟩
    · cases z
    · obtain ⟨c1, hc⟩ := hf _ h1 rfl
      have hc : X.env.cells.lookup y = some c1 := hc
      have e2 : c = c1 := by rw [h2, hc]; rfl
      subst e2
      exact nf pins σ H s I y c hc hb
  · obtain ⟨_, o, ho, _⟩ := I.stack.mem hb
    rw [Heap.size_push] at h2
    exact Nat.lt_irrefl _ (Nat.lt_of_lt_of_le (Heap.lt_size ho) (Nat.le_of_succ_le h2))
end
end DL

set_option Elab.async false
set_option linter.all false
set_option maxRecDepth 100000
set_option maxHeartbeats 1000000
/-! DLHot: what ends by StopIteration while an exception is handled: lists, tuples taken apart, zip -/
namespace PySem
open Spec Calls PyProof.Rows HotX
section
variable {prog : Program} {w : World} {A : Around} {E : Value → Shared → Prop} {s : Shared}
/-- a new StopIteration while x1's exception is handled -/
theorem stop_hot {α : Type} {x1 : Addr} {Q : α → Shared → Prop} (hot : HotAt A x1 s.heap)
    (hE : ∀ h' e, (∀ b o, s.heap.get? b = some o → h'.get? b = some o) → (∃ o, h'.get? e = some o ∧ o.cls = .type "StopIteration") → E (.ref e) { s with heap := h' }) :
    wpAny (model prog w) A (do let e ← newExc (.type "StopIteration") []; raiseNew e : Sem α) Q E s := by
  obtain ⟨hh, o1, vs1, g1, d1, c1⟩ := hot
  refine wpAny_bind ?_
  simp only [newExc, newTuple]
  refine wpAny_bind (wpAny_newObj_type ?_ (by size_fits))
  refine wpAny_bind (m := firstArgMember _ _) (wpAny_of_eq (a := Value.none) (by first | rfl | (simp only [firstArgMember]; rfl)) (wpAny_newObj_type ?_ (by size_fits)))
  refine raiseNew_hot (x1 := x1) ⟨hh, o1, vs1, Heap.get?_push_of_some _ (Heap.get?_push_of_some _ g1), d1, c1⟩ (Nat.ne_of_lt (Heap.lt_size (Heap.get?_push_of_some _ g1))) (Heap.get?_push_size _ rfl) rfl (by first | (simp; done) | (simp; omega) | (simp only [Array.size_append]; simp; omega)) ?_
  refine hE _ _ (fun b o e => ?_) ⟨_, Heap.get?_update_self _ (Heap.get?_push_size _ rfl) rfl, rfl⟩
  rw [Heap.get?_update_other _ _ (Nat.ne_of_gt (Heap.lt_size (Heap.get?_push_of_some _ e)))]
  exact Heap.get?_push_of_some _ (Heap.get?_push_of_some _ e)
/-- the same, caught by pyNext -/
theorem nextOf_list_end_hot {it l x1 : Addr} {i : Nat} {items} {Q : Value → Shared → Prop} (hot : HotAt A x1 s.heap) (hne : x1 ≠ it) (hit : s.heap.IsListIter it l i) (hl : s.heap.IsList l items) (hx : items[i]? = none)
    (hE : ∀ h' e, Heap.ExtBut it s.heap h' → (∃ o, h'.get? e = some o ∧ o.cls = .type "StopIteration") → E (.ref e) { s with heap := h' }) : wpAny (model prog w) A (Builtin.SmallTypes.nextOf (.ref it)) Q E s := by
  obtain ⟨o, ho, hc, hd⟩ := id hit
  obtain ⟨ol, hol, hcl, nl, hdl⟩ := hl
  unfold Builtin.SmallTypes.nextOf
  refine wpAny_bind (wpAny_callSpecial?_slot (name := Str.ofString "__next__") hit.typeIs slot_listiter_next (wpAny_call_entry slot_listiter_next hit.typeIs entry_listiter_next ?_ (args_listiter_next _)))
  change wpAny _ _ (field (.ref it) 0 >>= _) _ _ s
  refine wpAny_bind (wpAny_field ho hd (x := .ref l) rfl ?_)
  change wpAny _ _ (if (Value.ref l == Value.none) = true then _ else _) _ _ s
  rw [if_neg (show ¬ ((Value.ref l == Value.none) = true) from Bool.false_ne_true)]
  change wpAny _ _ (field (.ref it) 1 >>= _) _ _ s
  refine wpAny_bind (wpAny_field ho hd (x := .int i 0) rfl ?_)
  change wpAny _ _ (seqItems? (.ref l) >>= _) _ _ s
  refine wpAny_bind (wpAny_seqItems hol hdl ?_)
  simp only [Int.toNat_natCast, hx]
  refine wpAny_bind (wpAny_rule (wpAny_bind (wpAny_setField ho hd (by simp) ?_)))
  obtain ⟨hh, o1, vs1, g1, d1, c1⟩ := hot
  refine stop_hot (x1 := x1) ⟨hh, o1, vs1, by rw [Heap.get?_update_other _ _ (Ne.symm hne)]; exact g1, d1, c1⟩ fun h' e k ho' => hE h' e (fun b o hb q => k b o ?_) ho'
  rw [Heap.get?_update_other _ _ (Ne.symm hb)]; exact q
theorem next_tuple_end_hot {it t x1 : Addr} {i : Nat} {items} {Q : Option Value → Shared → Prop} (hot : HotAt A x1 s.heap) (hne : x1 ≠ it) (hit : IsTupIter s.heap it t i) (ht : IsTup s.heap t items) (hx : items[i]? = none)
    (hQ : ∀ h', Heap.ExtBut it s.heap h' → Q none { s with heap := h' }) : wpAny (model prog w) A (pyNext (.ref it)) Q E s := by
  obtain ⟨o, ho, hc, hd⟩ := id hit
  obtain ⟨ol, hol, hcl, nl, hdl⟩ := ht
  unfold pyNext
  refine wpAny_bind (wpAny_attempt (wpAny_callSpecial?_slot (name := Str.ofString "__next__") hit.typeIs slot_tupleiter_next (wpAny_call_entry slot_tupleiter_next hit.typeIs entry_tupleiter_next ?_ (args_tupleiter_next _))))
  change wpAny _ _ (field (.ref it) 0 >>= _) _ _ s
  refine wpAny_bind (wpAny_field ho hd (x := .ref t) rfl ?_)
  change wpAny _ _ (if (Value.ref t == Value.none) = true then _ else _) _ _ s
  rw [if_neg (show ¬ ((Value.ref t == Value.none) = true) from Bool.false_ne_true)]
  change wpAny _ _ (field (.ref it) 1 >>= _) _ _ s
  refine wpAny_bind (wpAny_field ho hd (x := .int i 0) rfl ?_)
  change wpAny _ _ (seqItems? (.ref t) >>= _) _ _ s
  refine wpAny_bind (wpAny_seqItems hol hdl ?_)
  simp only [Int.toNat_natCast, hx]
  refine wpAny_bind (wpAny_rule (wpAny_bind (wpAny_setField ho hd (by simp) ?_)))
  obtain ⟨hh, o1, vs1, g1, d1, c1⟩ := hot
  refine stop_hot (x1 := x1) ⟨hh, o1, vs1, by rw [Heap.get?_update_other _ _ (Ne.symm hne)]; exact g1, d1, c1⟩ fun h' e k ⟨oe, he, hce⟩ => ?_
  refine wpAny_bind (wpAny_isInstance (T := "StopIteration") (b := true) ⟨_, he, hce⟩ isSubtype_stop ?_)
  refine wpAny_pure (hQ _ fun b o hb q => k b o ?_)
  rw [Heap.get?_update_other _ _ (Ne.symm hb)]; exact q
theorem unpackItems_tuple_hot {t x1 : Addr} {items : Array Value} {Q : List Value → Shared → Prop} (hot : HotAt A x1 s.heap) (ht : IsTup s.heap t items)
    (hQ : ∀ h', Heap.ExtBut s.heap.objs.size s.heap h' → Q items.toList { s with heap := h' }) : wpAny (model prog w) A (unpackItems (.ref t) items.size none) Q E s := by
  have hlt : t ≠ s.heap.objs.size := by obtain ⟨o, ho, hr⟩ := ht; exact Nat.ne_of_lt (Heap.lt_size ho)
  obtain ⟨hh, o1, vs1, g1, d1, c1⟩ := hot
  have x1n : x1 ≠ s.heap.objs.size := Nat.ne_of_lt (Heap.lt_size g1)
  unfold unpackItems
  refine wpAny_bind ?_
  unfold notIterableAtAll
  refine wpAny_bind (wpAny_specialOf ht.typeIs slot_tuple_iter.lookup (wpAny_pure ?_))
  simp only [Bool.false_eq_true, if_false]
  refine wpAny_bind (wpAny_holding (iter_tuple ht (wpAny_bind (wpAny_holding (draw_tuple hlt items.size 0 _ _ ⟨_, Heap.get?_push_size _ rfl, rfl, rfl⟩ (ht.push _) (by omega) fun h₁ hit₁ hs₁ => ?_)))))
  rw [show List.take items.size (List.drop 0 items.toList) = items.toList by rw [List.drop_zero]; exact List.take_of_length_le (by simp), if_neg (by simp)]
  have ht₁ : IsTup h₁ t items := (ht.push _).extBut hs₁.extBut hlt
  refine wpAny_bind (wpAny_holding (next_tuple_end_hot (x1 := x1) ⟨hh, o1, vs1, hs₁.extBut x1 o1 x1n (Heap.get?_push_of_some _ g1), d1, c1⟩ x1n hit₁ ht₁ (by simp) fun h₂ he₂ => ?_))
  simp only [Option.isSome_none, Bool.false_eq_true, if_false]
  exact wpAny_pure (hQ h₂ fun b o hb e => he₂ b o hb (hs₁.extBut b o hb (Heap.get?_push_of_some _ e)))
theorem assign_tuple_hot {env : Env} {elts : List Expr} {x1 : Addr} {kk} {pos : Pos} {t : Addr} {items : Array Value} {Q : Unit → Shared → Prop} (hot : HotAt A x1 s.heap) (ht : IsTup s.heap t items) (hn : (assignEach elts env).length = items.size) (hstar : (assignEach elts env).findIdx? (·.1) = none)
    (h : ∀ h', Heap.ExtBut s.heap.objs.size s.heap h' → wpAny (model prog w) A (assignInOrder ((assignEach elts env).map (·.2)) items.toList) Q E { s with heap := h' }) : wpAny (model prog w) A (assign (.Tuple elts kk pos) env (.ref t)) Q E s := by
  rw [assign_Tuple]
  refine wpAny_bind (wpAny_standAt ?_)
  unfold unpack
  rw [hn, hstar]
  exact wpAny_bind (wpAny_holding (unpackItems_tuple_hot hot ht h))
theorem draws_list_hot {x1 : Addr} (it l : Addr) (hne : l ≠ it) (nx : x1 ≠ it) (items : Array Value) (hh : A.handled = some (.ref x1)) :
    Draws prog w A it [it, l, x1] items.size (fun i v => items[i]? = some v) (fun i h => (h.IsListIter it l i ∧ h.IsList l items) ∧ HotAt A x1 h) where
  live := fun i h st => let ⟨o, ho, hr⟩ := st.1.1; ⟨o, ho⟩
  frame := fun i h h' st hk => ⟨⟨st.1.1.at fun o e => hk it (by simp) o e, st.1.2.at fun o e => hk l (by simp) o e⟩, hh, let ⟨_, o1, vs1, g1, d1, c1⟩ := st.2; ⟨o1, vs1, hk x1 (by simp) o1 g1, d1, c1⟩⟩
  item := fun i s Q E hi st hQ => by
    refine wpAny_nextOf_list_item st.1.1 st.1.2 (x := items[i]) (by simp [hi]) fun h' hit' hs' => ?_
    obtain ⟨_, o1, vs1, g1, d1, c1⟩ := st.2
    exact hQ _ h' s.toks (by simp [hi]) ⟨⟨hit', st.1.2.extBut hs'.extBut hne⟩, hh, o1, vs1, hs'.extBut x1 o1 nx g1, d1, c1⟩ hs'
  done := fun s Q E st hE => nextOf_list_end_hot st.2 nx st.1.1 st.1.2 (by simp) hE
end
end PySem

set_option Elab.async false
set_option linter.all false
set_option maxRecDepth 100000
set_option maxHeartbeats 1000000
/-! DLHotB: zip, tuple targets while an exception is handled -/
namespace DL
open PySem PySem.Spec PyProof.Rows L2 L2H HotX
variable [TabCtx]
/-- an exception is handled: it is pinned, its context is None -/
def HotP : Cx → Pins → Prop := fun Y pins => ∃ p, Hot1 Y.A p ∧ p ∈ Y.pn ++ pins
theorem HotP.at {Y : Cx} {pins : Pins} {σ : L2.St} {H : Hp} {s : Shared} {fp : List Addr} (c : HotP Y pins) (I : Inv Y pins σ H s) (hf : ∀ b ∈ fp, FpOk Y pins H b) : ∃ x1, Y.A.in1.handled = some (.ref x1) ∧ HotAt Y.A.in1 x1 s.heap ∧ ∀ b ∈ fp, x1 ≠ b := by
  obtain ⟨p, ⟨hh, v1, e1, c1⟩, hp⟩ := c
  exact ⟨p.1, hh, ⟨hh, p.2, v1, (I.pin p hp).1, e1, c1⟩, fun b hb => (hf b hb).2.2.2.2.2 p hp⟩
theorem sepX {z TI TO i1 i2 a b x1 : Addr} (S : ZipSep2 z TI TO i1 i2 [i1, a] [i2, b]) (n1 : z ≠ x1) (n2 : TO ≠ x1) (n3 : i1 ≠ x1) (n4 : i2 ≠ x1) : ZipSep2 z TI TO i1 i2 [i1, a, x1] [i2, b, x1] := by
  have q1 := S.zf1; have q2 := S.Tf1; have q3 := S.zf2; have q4 := S.Tf2; have q5 := S.sep1_2; have q6 := S.sep2_1
  simp only [List.mem_cons, List.not_mem_nil, or_false, not_or] at q1 q2 q3 q4 q5 q6
  exact { TIz := S.TIz, TOz := S.TOz, TITO := S.TITO, TIi1 := S.TIi1, mem1 := by simp, zf1 := by simp [q1.1, q1.2, n1], Tf1 := by simp [q2.1, q2.2, n2], TIi2 := S.TIi2, mem2 := by simp, zf2 := by simp [q3.1, q3.2, n1], Tf2 := by simp [q4.1, q4.2, n2], sep1_2 := by simp [q5.1, q5.2, n3], sep2_1 := by simp [q6.1, q6.2, n4] }
theorem turnZipH {P : Program} {w : World} {K : PySem.W.Frag} {elts : List Expr} {kk : Nat} {tp : Pos} {a b z TI TO i1 i2 : Addr} (S : ∀ x1, z ≠ x1 → TO ≠ x1 → i1 ≠ x1 → i2 ≠ x1 → ZipSep2 z TI TO i1 i2 [i1, a, x1] [i2, b, x1]) (na : a ≠ i1) (nb : b ≠ i2) :
    TurnG P w K (.Tuple elts kk tp) HotP (Jzip K false false a b) [z, TI, TO, i1, i2] z (Tzip false false a b z TI TO i1 i2) where
  mem := List.mem_cons_self
  obj := fun i h st c hc => by
    obtain ⟨h1, h2, ⟨p, q, h3⟩, h4, h5⟩ := st
    simp only [List.mem_cons, List.not_mem_nil, or_false] at hc
    rcases hc with rfl | rfl | rfl | rfl | rfl
    · exact ⟨_, h1, fun v k => nomatch k⟩
    · exact ⟨_, h2, fun v k => nomatch k⟩
    · exact ⟨_, h3, fun v k => nomatch k⟩
    · exact h4.look
    · exact h5.look
  keep := fun i h h' st k => by
    obtain ⟨h1, h2, ⟨p, q, h3⟩, h4, h5⟩ := st
    exact ⟨k _ (by simp) _ h1, k _ (by simp) _ h2, ⟨p, q, k _ (by simp) _ h3⟩, h4.at (k _ (by simp)), h5.at (k _ (by simp))⟩
  item := by
    intro X hP hw hK i pins hc s σ H E I hf st hg
    obtain ⟨x1, hx1, hot, nx⟩ := hc.at I hf
    subst hP hw hK
    obtain ⟨xs, ys, x, y, qa, qb, ex, ey⟩ := hg
    obtain ⟨us, ru, su, la⟩ := qa.src I
    obtain ⟨vs, rv, sv, lb⟩ := qb.src I
    have D1 := draws_list_hot (prog := X.prog) (w := X.w) (A := X.A.in1) (x1 := x1) i1 a na (nx i1 (by simp)) us.toArray hx1
    have D2 := draws_list_hot (prog := X.prog) (w := X.w) (A := X.A.in1) (x1 := x1) i2 b nb (nx i2 (by simp)) vs.toArray hx1
    obtain ⟨h1, h2, h3, h4, h5⟩ := st
    have l1 : i < us.length := by rw [← ru.length]; exact (List.getElem?_eq_some_iff.mp ex).1
    have l2 : i < vs.length := by rw [← rv.length]; exact (List.getElem?_eq_some_iff.mp ey).1
    refine wpAny_mono ((GoesN.zip2 (elts := elts) (x1 := kk) (pos := tp) (S x1 (Ne.symm (nx _ (by simp))) (Ne.symm (nx _ (by simp))) (Ne.symm (nx _ (by simp))) (Ne.symm (nx _ (by simp)))) D1 D2).goes i s (fun u s2 => ∃ x H', Inv X pins σ H' s2 ∧ L2.RelV x u ∧ (Jzip X.K false false a b).yld i H x H' ∧ Tzip false false a b z TI TO i1 i2 (i + 1) s2.heap ∧ ∀ c ∈ [z, TI, TO, i1, i2], H' c = none) E
      (by simp; omega) ⟨h1, h2, h3, ⟨⟨h4, su⟩, hot⟩, ⟨⟨h5, sv⟩, hot⟩⟩ fun u h' tk hY st' hk _ => ?_) (fun r s1 q => q) fun _ _ q => q
    obtain ⟨T, xv, yv, rfl, hT, px, py, tT⟩ := hY
    obtain ⟨k1, k2, k3, k4, k5⟩ := st'
    obtain ⟨u1, e1, r1⟩ := ru.get ex
    obtain ⟨u2, e2, r2⟩ := rv.get ey
    have exv : xv = u1 := by
      have := px.symm.trans (by simpa using e1 : us.toArray[i]? = some u1)
      exact Option.some.inj this
    have eyv : yv = u2 := by
      have := py.symm.trans (by simpa using e2 : vs.toArray[i]? = some u2)
      exact Option.some.inj this
    subst exv eyv
    have I2 : Inv X pins σ (upd H T (.tup [x, y])) { s with heap := h', toks := tk } :=
      I.turnedNew (ch := [z, TO, i1, i2]) hk (fun c hc => hf c (by simp only [List.mem_cons, List.not_mem_nil, or_false] at hc ⊢; rcases hc with q | q | q | q <;> simp [q])) hT (newTup r1 r2 tT)
    refine ⟨.ref T, _, I2, rfl, ⟨T, x, y, rfl, I.hok.fresh hT, rfl, fun l q => ?_, fun l q => ?_⟩, ⟨k1, k2, k3, k4.1.1, k5.1.1⟩, fun c hc => ?_⟩
    · rw [SqK.inj I q qa]; exact ex
    · rw [SqK.inj I q qb]; exact ey
    · have lt : c < s.heap.objs.size := by
        obtain ⟨p, q, h3⟩ := h3
        simp only [List.mem_cons, List.not_mem_nil, or_false] at hc
        rcases hc with rfl | rfl | rfl | rfl | rfl
        · exact Heap.lt_size h1
        · exact Heap.lt_size h2
        · exact Heap.lt_size h3
        · obtain ⟨o, e, _⟩ := h4.look; exact Heap.lt_size e
        · obtain ⟨o, e, _⟩ := h5.look; exact Heap.lt_size e
      rw [upd_ne (Nat.ne_of_lt (Nat.lt_of_lt_of_le lt hT))]
      exact (hf c hc).1
  done := by
    intro X hP hw hK i pins hc s σ H E I hf st hg
    obtain ⟨x1, hx1, hot, nx⟩ := hc.at I hf
    subst hP hw hK
    obtain ⟨xs, ys, qa, qb, rfl⟩ := hg
    obtain ⟨us, ru, su, la⟩ := qa.src I
    obtain ⟨vs, rv, sv, lb⟩ := qb.src I
    have D1 := draws_list_hot (prog := X.prog) (w := X.w) (A := X.A.in1) (x1 := x1) i1 a na (nx i1 (by simp)) us.toArray hx1
    have D2 := draws_list_hot (prog := X.prog) (w := X.w) (A := X.A.in1) (x1 := x1) i2 b nb (nx i2 (by simp)) vs.toArray hx1
    obtain ⟨h1, h2, h3, h4, h5⟩ := st
    have el : min xs.length ys.length = min us.toArray.size vs.toArray.size := by simp [ru.length, rv.length]
    rw [el] at h4 h5
    refine (GoesN.zip2 (elts := elts) (x1 := kk) (pos := tp) (S x1 (Ne.symm (nx _ (by simp))) (Ne.symm (nx _ (by simp))) (Ne.symm (nx _ (by simp))) (Ne.symm (nx _ (by simp)))) D1 D2).stops s (fun s1 => Inv X pins σ H s1) E ⟨h1, h2, h3, ⟨⟨h4, su⟩, hot⟩, ⟨⟨h5, sv⟩, hot⟩⟩ fun h' tk hk _ => ?_
    exact I.turnedL (ch := [z, TO, i1, i2]) hk (fun c hc => hf c (by simp only [List.mem_cons, List.not_mem_nil, or_false] at hc ⊢; rcases hc with q | q | q | q <;> simp [q]))
  self := fun A i s Q E st h => wpAny_pyIter_zip st.1 h

section
variable {X : Cx}
def iZipH (K : PySem.W.Frag) (ta : TA) : TI := fun σ H R => ta σ H fun vs H1 => ∃ a b xs ys, vs = [.ref a, .ref b] ∧ SqL K H1 a xs ∧ SqL K H1 b ys ∧ R (Jzip K false false a b) H1
theorem pi_zipH {e e2 : Expr} {ta : TA} {p pos tp : Pos} {elts : List Expr} {kk : Nat} (hg : Gl X "zip") (hm : X.mg "zip" = none) (ha : PA X [e, e2] ta)
    (hs : starEach [e, e2] X.env = (false, eval e X.env) :: starEach [e2] X.env := by rfl) (hpl : (backTo pos (starEach [e2] X.env)).any (·.1) = false := by rfl) :
    PIG X HotP (.Tuple elts kk tp) (.Call (.Name "zip" p) [e, e2] [] pos) (iZipH X.K ta) := by
  refine ⟨fun pins s σ H R I h => Call_ (ld_blt I hg hm PyProof.Rows.boot_zip (PyProof.Rows.callWith_type1 (thn (ha.run pos pins s σ H _ I h) fun us s1 ⟨vs, H1, I1, r1, q1⟩ => ?_) hs hpl))⟩
  obtain ⟨a, b, xs, ys, rfl, hqa, hqb, q⟩ := q1
  cases r1 with
  | cons r rr =>
    cases rr with
    | cons r' rr =>
      cases rr
      cases r
      cases r'
      obtain ⟨ia, ra, sa, la⟩ := SqK.src (tup := false) I1 hqa
      obtain ⟨ib, rb, sb, lb⟩ := SqK.src (tup := false) I1 hqb
      refine zip_begins2 (begins_K false a ia.toArray) (begins_K false b ib.toArray) sa sb fun h' hz hT hO h1 h2 _ hk => wpAny_pyIter_zip hz ?_
      have I2 : Inv X pins σ H1 { s1 with heap := h' } := I1.kept (t' := s1.toks) hk
      have S := zip_sep2 (N := s1.heap.objs.size) (fp1 := [a]) (fp2 := [b]) (by simpa using la) (by simpa using lb)
      have S' := fun x1 (n1 : s1.heap.objs.size + 4 ≠ x1) (n2 : s1.heap.objs.size + 3 ≠ x1) (n3 : s1.heap.objs.size ≠ x1) (n4 : s1.heap.objs.size + 1 ≠ x1) => sepX S n1 n2 n3 n4
      refine ⟨s1.heap.objs.size + 4, _, _, _, H1, rfl, I2, turnZipH S' (Nat.ne_of_lt la) (Nat.ne_of_lt (Nat.lt_succ_of_lt lb)), ⟨hz, hT, ⟨_, _, hO⟩, ItK.start h1, ItK.start h2⟩, fun c hc => ?_, q⟩
      have hle : s1.heap.objs.size ≤ c := by
        simp only [List.mem_cons, List.not_mem_nil, or_false] at hc
        rcases hc with rfl | rfl | rfl | rfl | rfl
        · exact Nat.le_add_right _ _
        · exact Nat.le_add_right _ _
        · exact Nat.le_add_right _ _
        · exact Nat.le_refl _
        · exact Nat.le_add_right _ _
      exact I1.fpOk hle (I1.hok.fresh hle)
/-- (a, b) = a tuple, while an exception is handled -/
theorem pg_tupH {es : List Expr} {k : Nat} {t : TGs} {n : Nat} {pos : Pos} (h : PGs X es t) (hn : (assignEach es X.env).length = n := by rfl) (hst : (assignEach es X.env).findIdx? (·.1) = none := by rfl) : PGc X HotP (.Tuple es k pos) (gTup X.K n t) := by
  refine ⟨fun pins cn s σ H v u Q I r hw => ?_⟩
  obtain ⟨a, xs, e1, hq, hl, hw⟩ := hw
  subst e1
  cases r
  obtain ⟨its, rv, ht, hz⟩ := I.tuple hq
  obtain ⟨x1, _, hot, _⟩ := cn.at (fp := []) I (fun _ h => nomatch h)
  refine assign_tuple_hot (x1 := x1) hot ht (by simp [hn, ← hl, rv.length]) hst fun h' hx => ?_
  have I1 : Inv X pins σ H { s with heap := h' } := I.kept (t' := s.toks) fun b o e => hx b o (Nat.ne_of_lt (Heap.lt_size e)) e
  exact h.run pins _ σ H xs _ Q I1 (by simpa using rv) hw
theorem hotBlk (c : HotC X) (s : Shared) (H : Hp) (scope : Scope) (C : Addr) (cl : List (Str × Addr)) (fp : List Addr) (pins more : Pins) : HotP (blkX X s H scope C cl fp) ((X.pn ++ pins) ++ more) := by
  obtain ⟨p, h, hp⟩ := c
  exact ⟨p, h, List.mem_append_right _ (List.mem_append_left _ (List.mem_append_left _ hp))⟩
end
end DL

set_option Elab.async false
set_option linter.all false
set_option maxRecDepth 100000
set_option maxHeartbeats 1000000
/-! DLErr: raise, try .. except X as e -/
namespace DL
open PySem PySem.Spec PyProof.Rows L2 LamX NdefX
variable [TabCtx]

/-! ### raise -/
def sRaise (x : Str) : SF := fun ρ μ => .ex ⟨x, none⟩ ρ μ
abbrev veMro : List Value := [.type "ValueError", .type "Exception", .type "BaseException", .type "object"]
/-- an error class of the text, without an __init__ of its own -/
structure ExcOk (mg : Str → Option Value) (K : PySem.W.Frag) (x : Str) where
  C : Addr
  g : mg x = some (.ref C)
  q : PySem.W.excIn K C veMro "ValueError.__new__" = true
  kp : PySem.W.keepIn K (.ref C) = true
  s : PySem.W.subIn K (.ref C) (.type "BaseException") = some true
  t : PySem.W.typeIn K (.ref C) = some (.type "type")
section
variable {X : Cx} {W : WXD} {k : Nat}
theorem sd_raise {x m : Str} {j : Nat} {p p2 pos pos' : Pos} (C : CxE X W k) (e : ExcOk X.mg X.K x) (hg : Gl X x) (hdb : (x == ("__debug__" : Str)) = false := by decide) : PSd X W (.Raise (some (.Call (.Name x p) [.Constant (.str m) j p2] [] pos')) none pos) (sRaise x) := by
  refine PS.imp (L2N.ps_raise C.calm C.tk (L2N.pmk_own PySem.F.excBase_ValueError e.q e.g e.kp (raises_own e.s e.t) hg hdb)) fun Dn σ H h => ?_
  obtain ⟨η, θ, μ, ρ, ok, rs, fin⟩ := h
  exact fin _ none σ H θ (Step.refl ok) rs ⟨e.C, e.g, rfl, rfl⟩
end

/-! ### try -/
open Classical in
/-- what all tokens give -/
noncomputable def uniO (F : CTok → Out) : Out := if h : ∃ r, ∀ t, F t = r then h.choose else .no
theorem uniO_eq {F : CTok → Out} {r : Out} (h : ∀ t, F t = r) : uniO F = r := by
  have hx : ∃ r, ∀ t, F t = r := ⟨r, h⟩
  unfold uniO
  rw [dif_pos hx, ← hx.choose_spec ⟨0, fun _ => none, []⟩]
  exact h _
theorem uniO_at (F : CTok → Out) (t : CTok) : uniO F = .no ∨ uniO F = F t := by
  unfold uniO
  split
  · rename_i h; exact .inr (h.choose_spec t).symm
  · exact .inl rfl
/-- only what returns -/
def Out.rets : Out → Out
  | .rt s μ => .rt s μ
  | _ => .no
/-- try: body, except .. as the name at i: suite (which returns) -/
noncomputable def sTryAs (i : Nat) (ok : Exn → Bool) (body : SF) (suite : Exn → CTok → SF) : SF := fun ρ μ => match body ρ μ with
  | .ex x ρ' μ' => if ok x = true then uniO fun t => (suite x t (ρ'.set i (some (.clo t))) μ').rets else .no
  | o => o
section
variable {X : Cx} {W : WXD} {k : Nat}
theorem CxE.tr {pn : List (Addr × Obj)} {xe : Value → Shared → Prop} {W' : WXD} (C : CxE X W k) (tk : L2N.Takes (X.tr pn xe) W') (po : PassesOwn (model X.prog X.w) X.A X.env xe) : CxE (X.tr pn xe) W' k :=
  { calm := C.calm, nd := C.nd, pas := fun σ => L2N.passAt tk σ, room := C.room, sil := fun Y σ h1 h2 => silX X Y σ h1 h2, own := po, tk := tk, hs := C.hs, hf := C.hf }
/-- what the exception x stands for -/
def IsExn (X : Cx) (x : Exn) (cls : Value) (d : Option Addr) : Prop := ∃ C, X.mg x.cls = some (.ref C) ∧ cls = .ref C ∧ (x.fs = none → d = none)
theorem sd_tryAs {x n : Str} {CT : Addr} {body suite : List Stmt} {b₀ : Stmt} {np pos pos' : Pos} {ok : Exn → Bool} {f : SF} {g : Exn → CTok → SF} (C : CxE X W k) (i : Nat) (hc : Names X x (.ref CT))
    (hok : ∀ y, ok y = true → ∃ C, X.mg y.cls = some (.ref C) ∧ PySem.W.exmOne X.K (.ref C) (.ref CT) = some true)
    (hb : ∀ (W' : WXD) (pn : List (Addr × Obj)) (xe : Value → Shared → Prop), CxE (X.tr pn xe) W' k → PSsd (X.tr pn xe) W' body f)
    (hsu : ∀ (a : Addr) (oe : Obj) (cls : Value) (d : Option Addr) (pn : List (Addr × Obj)) (y : Exn) (t : CTok), L2N.Zn cls d oe → (∃ vs, oe.data = .fields vs) → IsExn X y cls d → ok y = true → t.f = a → PSsd (X.suite a ((a, oe) :: pn)) W0 (b₀ :: suite) (g y t))
    (hi : X.N[i]? = some n := by rfl) (hln : X.env.kindOf n = some .local := by rfl) :
    PSd X W (.Try body [.ExceptHandler (some (.Name x np)) (some n) (b₀ :: suite) pos'] [] [] pos) (sTryAs i ok f g) := by
  refine PS.imp (L2N.ps_try_as (i := i) (tb := fun W' => tSD X.mg X.K W' f)
    (ts := fun a cls d D σ H => ∃ y t, IsExn X y cls d ∧ ok y = true ∧ t.f = a ∧ tSD X.mg X.K W0 (g y t) D σ H)
    C.hs C.hf C.nd hi hln hc C.tk (fun W' pn xe tk po => hb W' pn xe (C.tr tk po))
    (fun a oe cls d pn hz hf => ⟨fun pins s σ H D I ⟨y, t, h1, h2, h3, h4⟩ => (hsu a oe cls d pn y t hz hf h1 h2 h3).run pins s σ H D I h4⟩)) fun Dn σ H h => ?_
  obtain ⟨η, θ, μ, ρ, sk, rs, fin⟩ := h
  refine ⟨η, θ, μ, ρ, sk, rs, ?_⟩
  unfold sTryAs at fin
  cases e : f ρ μ with
  | ex y ρ' μ' =>
    rw [e] at fin
    simp only at fin
    split at fin
    · rename_i hy
      intro cv dd σ' H' θ' st rs' xr
      obtain ⟨C1, h1, h2⟩ := hok y hy
      have isx : IsExn X y cv dd := by
        obtain ⟨C2, g1, g2, g3⟩ := xr
        exact ⟨C2, g1, g2, fun e => by rw [e] at g3; exact g3⟩
      have ec : cv = .ref C1 := by
        obtain ⟨C2, g1, g2, _⟩ := isx
        rw [h1] at g1; cases g1; exact g2
      subst ec
      refine ⟨true, h2, fun _ a ha => ⟨y, ⟨a, hid H' (θ' ++ η), θ'⟩, isx, hy, rfl, η, θ', μ', _, st.ok, rs'.set (RepSl.clo (t := ⟨a, hid H' (θ' ++ η), θ'⟩) (Ext.refl _) (Pre.refl _)), ?_⟩, fun z => nomatch z⟩
      rcases uniO_at (fun t => (g y t (ρ'.set i (some (.clo t))) μ').rets) ⟨a, hid H' (θ' ++ η), θ'⟩ with z | z
      · rw [z] at fin; exact fin.elim
      · rw [z] at fin
        generalize g y ⟨a, hid H' (θ' ++ η), θ'⟩ (ρ'.set i (some (.clo ⟨a, hid H' (θ' ++ η), θ'⟩))) μ' = o at fin ⊢
        cases o with
        | rt s μ'' => exact FinS.rebase st fin
        | nx _ _ => exact fin.elim
        | bk _ _ => exact fin.elim
        | ct _ _ => exact fin.elim
        | ex _ _ _ => exact fin.elim
        | no => exact fin.elim
    · exact fin.elim
  | nx a b => rw [e] at fin; exact fin
  | rt a b => rw [e] at fin; exact fin
  | bk a b => rw [e] at fin; exact fin
  | ct a b => rw [e] at fin; exact fin
  | no => rw [e] at fin; exact fin
end
end DL

set_option Elab.async false
set_option linter.all false
set_option maxRecDepth 100000
set_option maxHeartbeats 1000000
/-! DLNamed: a def called in an except suite that asks of what class the error is -/
namespace DL
open PySem PySem.Spec PyProof.Rows L2 LamX NdefX L2H HotX
variable [TabCtx]

/-! ### isinstance of the handled error -/
theorem call_isEx {X : Cx} {a D : Addr} {oe : Obj} (C : ExcC X.K D) (hz : Zc (.ref D) none oe) (hf : ∃ vs, oe.data = .fields vs) (hp : (a, oe) ∈ X.pn) : CallR X (.builtin "isinstance") (rIsE X.K D a) := by
  intro pins s σ H xs us Q I r h
  obtain ⟨c, cv, b, rfl, hcv, e, q⟩ := h
  cases r with
  | cons rx rr => cases rr with
    | cons rt rr =>
      cases rr
      cases rx
      cases hcv _ rt
      have hget := (I.pin (a, oe) (List.mem_append_left _ hp)).1
      obtain ⟨vs, hv⟩ := hf
      have J : PySem.W.InstAt s.heap a oe D none := by
        obtain ⟨oc, od, oda, osl⟩ := oe
        obtain ⟨h1, h2⟩ := hz
        dsimp only at h1 h2 hv
        subst h1 h2 hv
        exact ⟨hget, rfl, rfl, trivial⟩
      exact PySem.W.kia_one (PySem.W.handS_kitx_exc C.hg C.hk C.hs C.hd C.ha C.hn C.ht C.hm) I.kIn J e (fun z => nomatch z) fun tk => ⟨.bl b, H, I.kept (t' := tk) fun _ _ z => z, rfl, q⟩
open Classical in
/-- isinstance(e, ..), e the name at i -/
noncomputable def eIsE (i : Nat) (t : CTok) (b : Bool) : EF := fun ρ μ => match ρ[i]? with
  | some (some (.clo t')) => if t' = t then .ok (.d (.bl b)) μ else .no
  | _ => .no
section
variable {X : Cx} {W : WXD}
theorem pd_isE {a D C : Addr} {oe : Obj} {x n : Str} {t : CTok} {b : Bool} {p p0 p1 pos : Pos} (i : Nat) (hC : ExcC X.K D) (hz : Zc (.ref D) none oe) (hf : ∃ vs, oe.data = .fields vs) (hp : (a, oe) ∈ X.pn) (ht : t.f = a) (hg : Gl X "isinstance") (hm : X.mg "isinstance" = none) (hgn : Gl X n) (hmn : X.mg n = some (.ref C)) (hb : PySem.W.kitOne X.K (.ref D) (.ref C) = some b)
    (hN : X.N[i]? = some x := by rfl) (hv : Vis X.env.scope x := by first | exact Or.inl rfl | exact Or.inr (Or.inl rfl) | exact Or.inr (Or.inr rfl)) (hdn : (n == ("__debug__" : Str)) = false := by decide) (hd : (x == ("__debug__" : Str)) = false := by decide) (hcd : (x == ("__classdict__" : Str)) = false := by decide)
    (hs : starEach [.Name x p0, .Name n p1] X.env = (false, eval (.Name x p0) X.env) :: starEach [.Name n p1] X.env := by rfl) (hs2 : starEach [.Name n p1] X.env = (false, eval (.Name n p1) X.env) :: starEach [] X.env := by rfl) (hpl : (backTo pos (starEach [.Name n p1] X.env)).any (·.1) = false := by rfl) :
    PEd X W (.Call (.Name "isinstance" p) [.Name x p0, .Name n p1] [] pos) (eIsE i t b) := by
  refine PE.imp (pe_callB (call_isEx hC hz hf hp) hg hm (by decide +kernel) (pa_cons (pe_var (i := i) hN hv hd hcd) (pa_cons (pe_glob (v := .ref C) hgn hmn rfl hdn) pa_nil hs2) hs) (by decide) (by decide) hs hpl) fun σ H Q h => ?_
  obtain ⟨η, θ, μ, ρ, ok, rs, fin⟩ := h
  unfold eIsE at fin
  split at fin
  · rename_i t' e1
    split at fin
    · rename_i et
      subst et
      obtain ⟨v, h5, h6⟩ := rs.at_ i _ e1
      cases h6 with
      | clo g1 g2 => exact ⟨_, h5, V.ref C, .ref C, b, by rw [ht], fun u r => r, hb, fin.done (Step.refl ok) (.d .bl)⟩
    · exact fin.elim
  · exact fin.elim
theorem pd_isET {a D : Addr} {oe : Obj} {x T : Str} {nm : String} {t : CTok} {b : Bool} {p p0 p1 pos : Pos} (i : Nat) (hC : ExcC X.K D) (hz : Zc (.ref D) none oe) (hf : ∃ vs, oe.data = .fields vs) (hp : (a, oe) ∈ X.pn) (ht : t.f = a) (hg : Gl X "isinstance") (hm : X.mg "isinstance" = none) (hgT : Gl X T) (hmT : X.mg T = none) (hvT : bootBuiltins T = some (.type nm)) (hb : PySem.W.kitOne X.K (.ref D) (.type nm) = some b)
    (hN : X.N[i]? = some x := by rfl) (hv : Vis X.env.scope x := by first | exact Or.inl rfl | exact Or.inr (Or.inl rfl) | exact Or.inr (Or.inr rfl)) (hn : T ≠ "__name__" := by decide) (hdn : (T == ("__debug__" : Str)) = false := by decide) (hd : (x == ("__debug__" : Str)) = false := by decide) (hcd : (x == ("__classdict__" : Str)) = false := by decide)
    (hs : starEach [.Name x p0, .Name T p1] X.env = (false, eval (.Name x p0) X.env) :: starEach [.Name T p1] X.env := by rfl) (hs2 : starEach [.Name T p1] X.env = (false, eval (.Name T p1) X.env) :: starEach [] X.env := by rfl) (hpl : (backTo pos (starEach [.Name T p1] X.env)).any (·.1) = false := by rfl) :
    PEd X W (.Call (.Name "isinstance" p) [.Name x p0, .Name T p1] [] pos) (eIsE i t b) := by
  refine PE.imp (pe_callB (call_isEx hC hz hf hp) hg hm (by decide +kernel) (pa_cons (pe_var (i := i) hN hv hd hcd) (pa_cons (pe_bltn (v := .ty nm) hgT hmT hvT rfl hn hdn) pa_nil hs2) hs) (by decide) (by decide) hs hpl) fun σ H Q h => ?_
  obtain ⟨η, θ, μ, ρ, ok, rs, fin⟩ := h
  unfold eIsE at fin
  split at fin
  · rename_i t' e1
    split at fin
    · rename_i et
      subst et
      obtain ⟨v, h5, h6⟩ := rs.at_ i _ e1
      cases h6 with
      | clo g1 g2 => exact ⟨_, h5, V.ty nm, .type nm, b, by rw [ht], fun u r => r, hb, fin.done (Step.refl ok) (.d .bl)⟩
    · exact fin.elim
  · exact fin.elim
/-! texts taken apart, put together -/
def strsOf : List D → Option (List Str)
  | [] => some []
  | .str s :: r => (strsOf r).map (s :: ·)
  | _ :: _ => none
def lSplit (fa fb : EF) : LF := fun ρ μ => (fa ρ μ).bind fun x μ1 => match x with
  | .d (.str a) => (fb ρ μ1).bind fun y μ2 => match y with
    | .d (.str b) => if (b.length == 0) = false ∧ a.length + 2 ≤ 16777216 then .ok ((Txt.split a b).map .str) μ2 else .no
    | _ => .no
  | _ => .no
def eJoin (fa fb : EF) : EF := fun ρ μ => (fa ρ μ).bind fun x μ1 => match x with
  | .d (.str a) => (fb ρ μ1).bind fun y μ2 => match dr μ2 y with
    | some (.lst ds) => match strsOf ds with
      | some ys => if (ys.map (·.length)).sum + ys.length * a.length ≤ 16777216 then .ok (.d (.str (Txt.join a ys))) μ2 else .no
      | none => .no
    | _ => .no
  | _ => .no
theorem FinL.rebase {mg : Str → Option Value} {K : PySem.W.Frag} {E : XK} {η : List Addr} {H H1 : Hp} {θ θ1 : List Addr} {μ1 : Store} {r : Res (List D)} {Q : VK} (st : Step mg K η H θ H1 θ1 μ1) (h : FinL mg K E η H θ r Q) : FinL mg K E η H1 θ1 r Q := by
  cases r with
  | ok a μ' => exact fun p H2 θ2 xs s2 => h p H2 θ2 xs (st.trans s2)
  | ex x μ' => exact fun cv dd H' θ' s2 rr => h cv dd H' θ' (st.trans s2) rr
  | no => exact h
theorem FinL.andThen {mg : Str → Option Value} {K : PySem.W.Frag} {E : XK} {η : List Addr} {H : Hp} {θ : List Addr} {α β : Type} {R : Hp → List Addr → α → β → Prop} {r : Res α} {g : α → Store → Res (List D)} {Q : VK} {Q' : β → Hp → Prop} (h : FinL mg K E η H θ (r.bind g) Q)
    (k : ∀ a μ1 v H1 θ1, r = .ok a μ1 → Step mg K η H θ H1 θ1 μ1 → R (hid H1 (θ1 ++ η)) θ1 a v → FinL mg K E η H1 θ1 (g a μ1) Q → Q' v H1) : Fin mg K E η H θ R r Q' := by
  cases r with
  | ok a μ' => exact fun v H' θ' st rr => k a μ' v H' θ' rfl st rr (FinL.rebase st h)
  | ex x μ' => exact h
  | no => exact h
theorem RepL.strs {mg : Str → Option Value} {K : PySem.W.Frag} {G : Hp} : ∀ ys : List Str, RepL mg K G (ys.map .str) (ys.map V.str)
  | [] => .nil
  | _ :: r => .cons .str (RepL.strs r)
theorem strs_inv {mg : Str → Option Value} {K : PySem.W.Frag} {G : Hp} : ∀ {ds : List D} {ys : List Str} {vs : List V}, strsOf ds = some ys → RepL mg K G ds vs → vs = ys.map V.str
  | [], _, _, h, .nil => by cases h; rfl
  | .str s :: r, _, _, h, .cons .str l => by
    simp only [strsOf, Option.map_eq_some_iff] at h
    obtain ⟨zs, h1, rfl⟩ := h
    rw [strs_inv h1 l]; rfl
  | .non :: _, _, _, h, _ => by cases h
  | .bl _ :: _, _, _, h, _ => by cases h
  | .int _ :: _, _, _, h, _ => by cases h
  | .tup _ :: _, _, _, h, _ => by cases h
  | .lst _ :: _, _, _, h, _ => by cases h
  | .fn _ :: _, _, _, h, _ => by cases h
  | .scr _ :: _, _, _, h, _ => by cases h
theorem pl_split {a b : Expr} {fa fb : EF} {apos pos : Pos} (ha : PEd X W a fa) (hb : PEd X W b fb) (hs : starEach [b] X.env = [(false, eval b X.env)] := by rfl) (hbase : attributeBase a "split" X.env (eval a X.env) = eval a X.env := by rfl) (hline : (apos.endLine == pos.line) = true := by rfl) :
    PLd X W (.Call (.Attribute a "split" apos) [b] [] pos) (lSplit fa fb) := by
  refine PE.imp (pe_split ha hb hs hbase hline) fun σ H Q h => ?_
  obtain ⟨η, θ, μ, ρ, ok, rs, fin⟩ := h
  refine ⟨η, θ, μ, ρ, ok, rs, FinL.andThen fin fun dx μ1 x H1 θ1 _ st rx fin1 => ?_⟩
  split at fin1
  · cases rx with
    | d rx =>
      cases rx
      refine ⟨⟨_, rfl⟩, η, θ1, μ1, ρ, st.ok, rs.step st, FinL.andThen fin1 fun dy μ2 y H2 θ2 _ st2 ry fin2 => ?_⟩
      split at fin2
      · split at fin2
        · rename_i hz
          cases ry with
          | d ry =>
            cases ry
            exact ⟨_, _, rfl, rfl, hz.1, by rw [sizeLine_eq]; exact hz.2, fun p hp => fin2 p H2 θ2 _ (Step.refl st2.ok) hp (RepL.strs _)⟩
        · exact fin2.elim
      · exact fin2.elim
  · exact fin1.elim
theorem pd_join {a b : Expr} {fa fb : EF} {apos pos : Pos} (ha : PEd X W a fa) (hb : PEd X W b fb) (hs : starEach [b] X.env = [(false, eval b X.env)] := by rfl) (hbase : attributeBase a "join" X.env (eval a X.env) = eval a X.env := by rfl) (hline : (apos.endLine == pos.line) = true := by rfl) :
    PEd X W (.Call (.Attribute a "join" apos) [b] [] pos) (eJoin fa fb) := by
  refine PE.imp (pe_join ha hb hs hbase hline) fun σ H Q h => ?_
  obtain ⟨η, θ, μ, ρ, ok, rs, fin⟩ := h
  refine ⟨η, θ, μ, ρ, ok, rs, fin.andThen fun dx μ1 x H1 θ1 _ st rx fin1 => ?_⟩
  split at fin1
  · cases rx with
    | d rx =>
      cases rx
      refine ⟨⟨_, rfl⟩, η, θ1, μ1, ρ, st.ok, rs.step st, fin1.andThen fun dy μ2 y H2 θ2 _ st2 ry fin2 => ?_⟩
      split at fin2
      · rename_i ds ed
        split at fin2
        · rename_i ys ey
          split at fin2
          · rename_i hz
            obtain ⟨p, xs, rfl, hp, lx⟩ := (dr_rep st2.ok ry ed).lst
            have e1 := strs_inv ey lx
            subst e1
            exact ⟨_, p, ys, rfl, rfl, .inl (SqL.of hp), hz, fin2.done (Step.refl st2.ok) (.d .str)⟩
          · exact fin2.elim
        · exact fin2.elim
      · exact fin2.elim
  · exact fin1.elim
/-! assignments that ask for no calm -/
theorem sdn_set {x : Str} (nd : X.N.Nodup) (i : Nat) {e : Expr} {f : EF} {pos pos' : Pos} (he : PEd X W e f) (hi : X.N[i]? = some x := by rfl) (hx : Loc X.env.scope x := by first | exact Or.inl rfl | exact Or.inr rfl) (hs : swapsWith e (some (.Name x pos')) pos.line X.env = pure false := by rfl) (hf : X.fn x = true ∨ X.env.scope.names.lookup x = some .local := by first | exact .inl rfl | exact .inr rfl) : PSd X W (.Assign [.Name x pos'] e pos) (sAsg f (gN i)) := by
  refine PS.imp (ps_set nd hi hx he hs hf) fun Dn σ H h => ?_
  obtain ⟨η, θ, μ, ρ, ok, rs, fin⟩ := h
  refine ⟨η, θ, μ, ρ, ok, rs, Fin.andThenS fin rs fun s μ1 v H1 θ1 _ st r f1 => ?_⟩
  exact f1 _ _ _ (Step.refl st.ok) ((rs.step st).set r)
/-! [.. for a, b in zip(xs, ys) if ..] while an exception is handled -/
theorem PIG.imp {Cn : Cx → Pins → Prop} {tg e : Expr} {t t' : TI} (h : PIG X Cn tg e t) (k : ∀ σ H Q, t' σ H Q → t σ H Q) : PIG X Cn tg e t' := ⟨fun pins s σ H Q I q => h.run pins s σ H Q I (k σ H Q q)⟩
theorem PGc.imp {Cn : Cx → Pins → Prop} {e : Expr} {t t' : TG} (h : PGc X Cn e t) (k : ∀ v σ H Q, t' v σ H Q → t v σ H Q) : PGc X Cn e t' := ⟨fun pins cn s σ H v u Q I r q => h.run pins cn s σ H v u Q I r (k v σ H Q q)⟩
/-- zip of two lists -/
def lstD (μ : Store) (s : Sl) : Option (List D) := match s with
  | .d (.lst ds) => some ds
  | _ => none
def sZipL (f g : EF) : LF := fun ρ μ => (f ρ μ).bind fun x μ1 => (g ρ μ1).bind fun y μ2 => match lstD μ2 x, lstD μ2 y with
  | some a, some b => .ok (zipD a b) μ2
  | _, _ => .no
theorem pid_zipH {a b : Expr} {f g : EF} {p pos tp : Pos} {elts : List Expr} {kk : Nat} (hg : Gl X "zip") (hm : X.mg "zip" = none) (ha : PEd X W a f) (hb : PEd X W b g)
    (hs : starEach [a, b] X.env = (false, eval a X.env) :: starEach [b] X.env := by rfl) (hs2 : starEach [b] X.env = (false, eval b X.env) :: starEach [] X.env := by rfl) (hpl : (backTo pos (starEach [b] X.env)).any (·.1) = false := by rfl) : PIG X HotP (.Tuple elts kk tp) (.Call (.Name "zip" p) [a, b] [] pos) (tI X.mg X.K W (sZipL f g)) := by
  refine PIG.imp (pi_zipH hg hm (pd_cons ha (pd_cons hb pd_nil hs2) hs) hs hpl) fun σ H R hh => ?_
  obtain ⟨η, θ, μ, ρ, ok, rs, fin⟩ := hh
  refine ⟨η, θ, μ, ρ, ok, rs, ?_⟩
  unfold sZipL at fin
  unfold aCons
  cases e : f ρ μ with
  | ok x μ1 =>
    rw [e] at fin
    simp only [Res.bind] at fin ⊢
    cases e2 : g ρ μ1 with
    | ok y μ2 =>
      rw [e2] at fin
      simp only [aNil] at fin ⊢
      intro vs H1 θ1 st rx
      cases rx with
      | cons rx l => cases l with
        | cons ry l =>
          cases l
          split at fin
          · rename_i da db ea eb
            cases x with
            | d dx => cases dx with
              | lst ds =>
                cases y with
                | d dy => cases dy with
                  | lst es =>
                    cases ea
                    cases eb
                    cases rx with
                    | d rx => cases rx with
                      | lst hp lp => cases ry with
                        | d ry => cases ry with
                          | lst hq lq =>
                            exact ⟨_, _, _, _, rfl, SqL.of (hid_some hp).2, SqL.of (hid_some hq).2, (Fin.rebase st fin) _ _ _ (Step.refl st.ok) (it_zip (t1 := false) (t2 := false) (by simpa using hp) lp (by simpa using hq) lq)⟩
                  | _ => cases eb
                | _ => cases eb
              | _ => cases ea
            | _ => cases ea
          · exact fin.elim
    | ex x μ' => rw [e2] at fin; exact fin
    | no => rw [e2] at fin; exact fin
  | ex x μ' => rw [e] at fin; exact fin
  | no => rw [e] at fin; exact fin
theorem pgdn_n (nd : X.N.Nodup) (i : Nat) {x : Str} {pos : Pos} (hi : X.N[i]? = some x := by rfl) (hx : Loc X.env.scope x := by first | exact Or.inl rfl | exact Or.inr rfl) (hf : X.fn x = true ∨ X.env.scope.names.lookup x = some .local := by first | exact .inl rfl | exact .inr rfl) : PGd X (.Name x pos) (gN i) [i] := by
  refine PG.imp (pg_name nd hi hx hf) fun v σ H Q h => ?_
  obtain ⟨η, θ, μ, ρ, s, ρ', ok, rs, rv, e, q⟩ := h
  cases e
  exact q _ (rs.set rv) But.set
def gTt (gs : List GF) : GF := fun s ρ => match s with
  | .d (.tup ds) => gLs gs ds ρ
  | _ => none
theorem pgd_tH {es : List Expr} {gs : List GF} {n m : Nat} {vs : List Nat} {pos : Pos} (h : PGsd X es gs vs) (hn : gs.length = n := by rfl) (h1 : (assignEach es X.env).length = n := by rfl) (h2 : (assignEach es X.env).findIdx? (fun x => x.1) = none := by rfl) :
    PGc X HotP (.Tuple es m pos) (tG X.mg X.K (gTt gs) vs) := by
  refine PGc.imp (pg_tupH (n := n) h h1 h2) fun v σ H Q h => ?_
  obtain ⟨η, θ, μ, ρ, s, ρ', ok, rs, rv, e, q⟩ := h
  unfold gTt at e
  split at e
  · cases rv with
    | d rv => cases rv with
      | tup hp l => exact ⟨_, _, rfl, SqT.of (hid_some hp).2, by rw [← l.length, gLs_len e, hn], η, θ, μ, ρ, _, ρ', ok, rs, l, e, q⟩
  · cases e
theorem pl_lcH {elt tg iter : Expr} {ifs : List Expr} {scope : Scope} {own : List (Str × Nat)} {pos : Pos} {src : LF} {g : GF} {vs0 : List Nat} {t : BF} {e : EF} (c : HotC X) (nd : X.N.Nodup) (hi : PIG X HotP tg iter (tI X.mg X.K W src)) (ok : BlkOk X.N X.env.scope scope own)
    (hg : ∀ (s : Shared) (H : Hp) (A : Addr) (cl : List (Str × Addr)) (fp : List Addr), PGc (X.blk s H scope (compEnvC scope cl A X.env) fp) HotP tg (tG X.mg X.K g vs0))
    (ht : ∀ (s : Shared) (H : Hp) (A : Addr) (cl : List (Str × Addr)) (fp : List Addr), PTsd (X.blk s H scope (compEnvC scope cl A X.env) fp) W0 ifs t)
    (he : ∀ (s : Shared) (H : Hp) (A : Addr) (cl : List (Str × Addr)) (fp : List Addr), PEd (X.blk s H scope (compEnvC scope cl A X.env) fp) W0 elt e)
    (hv : ∀ i ∈ vs0, i ∈ own.map (·.2) := by decide) (hs : ∀ x, foldedSetIterable iter X.env x = pure x := by intro _; rfl) : PLd X W (.ListComp elt [⟨tg, iter, ifs, 0⟩] scope pos) (lLc (own.map (·.2)) src g t e) :=
  PE.imp (pe_lcG (Cn := HotP) (wi := tI X.mg X.K W src) (g := tG X.mg X.K g vs0) (tt := tBD X.mg X.K W0 t) (te := tD X.mg X.K W0 e) (fun s H C cl fp pins more => hotBlk c s H scope C cl fp pins more) nd hi ok (fun s H C cl fp _ => hg s H C cl fp) (fun s H C cl fp _ => ht s H C cl fp) (fun s H C cl fp _ => he s H C cl fp) hs) (lc_read hv)
end
/-! ### a def called in an except suite with the error -/
structure FnE (P : Program) (w : World) (K : PySem.W.Frag) (mg : Str → Option Value) (base : Heap) (k : Nat) (f : Addr) (fd : FuncData) (ps : List Str) (sp : (Addr × Obj) → Sp) : Prop where
  len : ∀ p vs H Q E, sp p vs H Q E → vs.length = ps.length
  run : ∀ (A : Around) (outer : List Env) (s : Shared) (H : Hp) (args : Args) (us : List Value) (vs : List V) (Q : VK) (E : XK) (p : Addr × Obj), RoomH k A → Hot1 A p → PinOk outer H s p → Env0 P w K mg base A outer s H → BindsTo s fd args (ps.zip us) → Vals vs us → sp p vs H Q E →
    codeAny (model P w) A (.call (.ref f) args) (CR (CXr P w) outer P w H s Q E) s
theorem fn_ofE {P : Program} {w : World} {K : PySem.W.Frag} {mg : Str → Option Value} {base : Heap} {k : Nat} {x qual : Str} {st : Stmt} {f : Addr} {fd : FuncData} {N ps : List Str} {sp : (Addr × Obj) → Sp} (F : Fun K x qual st f fd) (S : FnScope N ps (defScope st))
    (len : ∀ p vs H Q E, sp p vs H Q E → vs.length = ps.length)
    (hbody : ∀ (cdv : Value) (A : Around) (outer : List Env) (s : Shared) (H : Hp) (vs : List V) (Q : VK) (E : XK) (p : Addr × Obj), Hot1 A p → RoomH k (A.deeper (envOfC qual (defScope st) s.heap.objs.size f cdv)) → sp p vs H Q E →
      ∃ t, PSs (cxH (CXr P w) P w K mg base N qual (defScope st) f cdv A outer s H E p) (defBody st) t ∧ t { nx := fun _ H' => Q .non H', rt := Q } (L2.start N vs) H) : FnE P w K mg base (k + 1) f fd ps sp := by
  obtain ⟨oc, od, kV, doc, pm, an, cdv, ct, osl, rfl, lk, hcd⟩ := F.ex
  refine ⟨len, fun A outer s H args us vs Q E p hr hot hpin e0 hb r hsp => ?_⟩
  have KX : K.In s.heap := e0.mod.kin.keeps fun b o e => (e0.bs b o e).1
  have lim : s.heap.NoLimit := e0.mod.nolimit.keeps fun b o e => (e0.bs b o e).1
  refine codeAny_call_function hr.depth (KX _ _ lk) rfl S.co S.gen rfl (PySem.W.codeRec_of KX hcd) (hb _ _ _ _ (wpAny_newFunctionEnv_cells S.kind (fun y hy => ?_) ?_))
  · rcases S.par y.1 (List.of_mem_zip hy).1 with q | q
    · exact .inl q
    · exact .inr ⟨q, PySem.W.cellsFrom_some _ _ _ (.inl q)⟩
  · rintro env rfl s1 x1
    refine ⟨lim.keeps x1.toInCall.keep, codeAny_func ?_⟩
    obtain ⟨t, ht, hq⟩ := hbody cdv A outer s H vs Q E p hot (hr.deeper _) hsp
    refine wpAny_mono (ht.run [] s1 _ H _ (inv_startH S hpin e0 (len _ _ _ _ _ hsp) r x1) hq) (fun fl s' hs => ?_) fun _ _ hs => hs
    match fl, hs with
    | .ret u, ⟨v, σ', H', J, rv, q⟩ => exact ⟨v, H', J.os, J.bare, J.base, J.hok, rv, q⟩
    | .next, ⟨σ', H', J, q⟩ => exact ⟨.non, H', J.os, J.bare, J.base, J.hok, rfl, q⟩
    | .brk, ⟨_, _, _, q⟩ => exact False.elim q
    | .cont, ⟨_, _, _, q⟩ => exact False.elim q
/-- the promise: the error's label -/
def spNm (mg : Str → Option Value) (K : PySem.W.Frag) (lab : Exn → Option Str) : (Addr × Obj) → Sp := fun p vs H Q E => vs = [.ref p.1] ∧ ∃ y cls d l η θ μ, L2N.Zn cls d p.2 ∧ (∃ us, p.2.data = .fields us) ∧ (∃ C, mg y.cls = some (.ref C) ∧ cls = .ref C ∧ (y.fs = none → d = none)) ∧ lab y = some l ∧ StOk mg K η H θ μ ∧ Fin mg K E η H θ (RepSl mg K) (.ok (.d (.str l)) μ) Q
open Classical in
noncomputable def eNm (i : Nat) (t : CTok) (l : Option Str) : EF := fun ρ μ => match ρ[i]? with
  | some (some (.clo t')) => if t' = t then (match l with | some l => .ok (.d (.str l)) μ | none => .no) else .no
  | _ => .no
theorem fx_okE {P : Program} {w : World} {K : PySem.W.Frag} {mg : Str → Option Value} {base : Heap} {k : Nat} {x qual pn : Str} {st : Stmt} {f : Addr} {fd : FuncData} {N : List Str} {lab : Exn → Option Str} {body : Exn → CTok → SF} (F : Fun K x qual st f fd) (S : FnScope N [pn] (defScope st))
    (hlab : ∀ y l, lab y = some l → ∀ t μ, body y t (rho0 (N.length - 1) [.clo t]) μ = .rt (.d (.str l)) μ)
    (hb : ∀ (cdv : Value) (A : Around) (outer : List Env) (s : Shared) (H : Hp) (E : XK) (a : Addr) (oe : Obj) (y : Exn) (cls : Value) (d : Option Addr) (l : Str) (t : CTok), Hot1 A (a, oe) → L2N.Zn cls d oe → (∃ us, oe.data = .fields us) → (∃ C, mg y.cls = some (.ref C) ∧ cls = .ref C ∧ (y.fs = none → d = none)) → lab y = some l → t.f = a →
      HotC (cxH (CXr P w) P w K mg base N qual (defScope st) f cdv A outer s H E (a, oe)) → RoomH k (A.deeper (envOfC qual (defScope st) s.heap.objs.size f cdv)) →
      PSsd (cxH (CXr P w) P w K mg base N qual (defScope st) f cdv A outer s H E (a, oe)) W0 (defBody st) (body y t)) :
    FnE P w K mg base (k + 1) f fd [pn] (spNm mg K lab) := by
  refine fn_ofE F S (fun p vs H Q E h => by rw [h.1]; rfl) ?_
  rintro cdv A outer s H vs Q E ⟨a, oe⟩ hot hr ⟨rfl, y, cls, d, l, η, θ, μ, h1, h2, h3, h4, ok, fin⟩
  refine ⟨_, hb cdv A outer s H E a oe y cls d l ⟨a, hid H (θ ++ η), θ⟩ hot h1 h2 h3 h4 rfl ⟨(a, oe), hot, List.mem_cons_self⟩ hr, ?_⟩
  refine ⟨η, θ, μ, rho0 (N.length - 1) [.clo ⟨a, hid H (θ ++ η), θ⟩], ok, rep0 (vs := [.ref a]) (.cons (RepSl.clo (t := ⟨a, hid H (θ ++ η), θ⟩) (Ext.refl _) (Pre.refl _)) .nil), ?_⟩
  rw [hlab y l h4 ⟨a, hid H (θ ++ η), θ⟩ μ]
  exact fun v H' θ' st r => fin v H' θ' st r
/-- .. called in the suite -/
theorem pd_named {Y : Cx} {a : Addr} {oe : Obj} {pn : Pins} {k : Nat} {f : Addr} {fd : FuncData} {pn1 x n : Str} {lab : Exn → Option Str} {y : Exn} {cls : Value} {d : Option Addr} {t : CTok} {p p0 pos : Pos} (i : Nat) (F : FnE Y.prog Y.w Y.K Y.mg Y.base k f fd [pn1] (spNm Y.mg Y.K lab)) (hr : Room k Y.A) (hz : L2N.Zn cls d oe) (hf : ∃ vs, oe.data = .fields vs) (hy : IsExn Y y cls d) (ht : t.f = a)
    (hg : Gl (Y.suite a ((a, oe) :: pn)) x) (hm : Y.mg x = some (.ref f)) (hk : PySem.W.keepIn Y.K (.ref f) = true) (hb : Binds Y.K fd [pn1] [])
    (hN : Y.N[i]? = some n := by rfl) (hv : Vis Y.env.scope n := by first | exact Or.inl rfl | exact Or.inr (Or.inl rfl) | exact Or.inr (Or.inr rfl)) (hdn : (n == ("__debug__" : Str)) = false := by decide) (hcd : (n == ("__classdict__" : Str)) = false := by decide) (hdb : (x == ("__debug__" : Str)) = false := by decide)
    (he : starEach [.Name n p0] Y.env = (false, eval (.Name n p0) Y.env) :: starEach [] Y.env := by rfl) (hpl : (backTo pos (starEach [] Y.env)).any (·.1) = false := by rfl) :
    PEd (Y.suite a ((a, oe) :: pn)) W0 (.Call (.Name x p) [.Name n p0] [] pos) (eNm i t (lab y)) := by
  refine ⟨fun pins s σ H Q I h => ?_⟩
  obtain ⟨η, θ, μ, ρ, ok, rs, fin⟩ := h
  unfold eNm at fin
  split at fin
  · rename_i t' e1
    split at fin
    · rename_i et
      subst et
      cases el : lab y with
      | none => rw [el] at fin; exact fin.elim
      | some l =>
        rw [el] at fin
        simp only at fin
        obtain ⟨v, h5, h6⟩ := rs.at_ i _ e1
        cases h6 with
        | clo g1 g2 =>
          have ha : PA (Y.suite a ((a, oe) :: pn)) [.Name n p0] (tCons (tVar i) tNil) := pa_cons (pe_var (i := i) hN hv hdn hcd) pa_nil he
          refine wpAny_Call_Name_kw (ld_glob I hg hm ?_ hdb)
          refine PySem.W.callWith_K (h₀ := Y.base) I.ok.mod.kin hk (thn (ha.run pos pins s σ H (fun vs H1 => vs = [V.ref t'.f] ∧ H1 = H) I ⟨_, h5, rfl, rfl⟩) ?_) he hpl
          rintro us s1 ⟨vs, H1, I1, r, rfl, rfl⟩
          refine ⟨I1.kIn, ?_⟩
          have P1 := I1.pin (a, oe) (List.mem_append_left _ List.mem_cons_self)
          obtain ⟨us1, hu⟩ := hf
          have hl : us.length = ([pn1] : List Str).length := by rw [← r.length]; rfl
          have bd := hb s1 us I1.kIn (by rw [List.append_nil]; exact hl)
          rw [List.append_nil] at bd
          refine wpAny_call (codeAny_mono (F.run _ _ s1 H1 ⟨us, []⟩ us _ Q (fun _ _ _ => False) (a, oe) ⟨hr.dp, hr.un⟩ ⟨rfl, us1, hu, hz.2.2 us1 hu⟩ ⟨P1.1, P1.2.1, fun hm => (List.mem_cons.mp (I1.stkSub a hm)).elim P1.2.2.1 P1.2.2.2.1, P1.2.2.2.2⟩ I1.env0 bd r ⟨by rw [ht], y, cls, d, l, η, θ, μ, hz, ⟨us1, hu⟩, hy, el, ok, ?_⟩) fun r2 s' hq => ?_)
          · exact fun v H' θ' st r => fin v H' θ' st r
          · match r2, hq with
            | .error u, hq => obtain ⟨_, _, _, _, _, _, _, _, _, _, _, _, z⟩ := hq; exact z.elim
            | .ok (.ret u), hq => exact I1.after hq
            | .ok .next, hq => exact False.elim hq
            | .ok .brk, hq => exact False.elim hq
            | .ok .cont, hq => exact False.elim hq
    · exact fin.elim
  · exact fin.elim
end DL

set_option Elab.async false
set_option linter.all false
set_option maxRecDepth 100000
set_option maxHeartbeats 1000000
/-! DLMix: t[::-1], t * n, t <= u of tuples, str(n), calls by a name that holds a def of the module -/
namespace HT
open PySem PySem.Spec PyProof.Rows
section
variable {prog : Program} {w : World} {A : Around} {E : Value → Shared → Prop} {s : Shared}
theorem fm_map {α β : Type} (f : α → Option β) (g : α → β) : ∀ l : List α, (∀ m ∈ l, f m = some (g m)) → l.filterMap f = l.map g
  | [], _ => rfl
  | a :: r, h => by
    rw [List.filterMap_cons, h a List.mem_cons_self, List.map_cons, fm_map f g r fun m hm => h m (List.mem_cons_of_mem _ hm)]
theorem pick_rev (xs : Array Value) : ((List.range xs.size).filterMap fun (m : Nat) => xs[((xs.size : Int) - 1 + (m : Int) * (-1)).toNat]?).toArray = xs.toList.reverse.toArray := by
  congr 1
  rw [fm_map _ (fun m => (xs.toList[xs.size - 1 - m]?).getD .none) _ fun m hm => by
    have hm : m < xs.size := by simpa using hm
    have e1 : ((xs.size : Int) - 1 + (m : Int) * (-1)).toNat = xs.size - 1 - m := by omega
    have h2 : xs.size - 1 - m < xs.size := by omega
    rw [e1]; simp [h2]]
  apply List.ext_getElem
  · simp
  · intro i h1 h2
    have hi : i < xs.size := by simpa using h1
    have h3 : xs.size - 1 - i < xs.size := by omega
    rw [List.getElem_map, List.getElem_range, List.getElem_reverse]
    simp [h3]
theorem getItem_tuple_rev {t sl : Addr} {items : Array Value} {vs : Value} {Q : Value → Shared → Prop} (ht : IsTup s.heap t items) (hs : s.heap.IsSliceOf sl .none .none vs) (ps : IsPart vs (some (-1)))
    (h : Q (.ref s.heap.objs.size) { s with heap := s.heap.push { cls := .type "tuple", data := .seq items.toList.reverse.toArray } }) (hsz : items.size ≤ sizeLine) : wpAny (model prog w) A (getItem (.ref t) (.ref sl)) Q E s := by
  have htake : sizeOk (.seq items.toList.reverse.toArray) := by
    change items.toList.reverse.toArray.size ≤ sizeLine
    rw [List.size_toArray, List.length_reverse, Array.length_toList]
    exact hsz
  obtain ⟨os, hos, hcs, hds⟩ := id hs
  have hTs : s.TypeIs (.ref sl) "slice" := ⟨os, hos, hcs⟩
  unfold getItem
  try with_reducible refine wpAny_holding ?_
  first | refine wpAny_bind (wpAny_pure ?_) | skip
  refine wpAny_bind (wpAny_sequenceKey ht.typeIs (by decide) (wpAny_bind (wpAny_callSpecial?_slot (name := Str.ofString "__getitem__") ht.typeIs PyProof.Rows.slot_tuple_getitem (wpAny_call_entry PyProof.Rows.slot_tuple_getitem ht.typeIs entry_tuple_getitem ?_ (args_tuple_getitem _ _)))))
  change wpAny _ _ (Builtin.Tuple.tupleItemsOf (.ref t) >>= _) _ _ s
  refine wpAny_bind (tupleItemsOf_ ht (wpAny_bind (wpAny_typeOf hTs ?_)))
  rw [if_pos (by decide)]
  refine wpAny_bind ?_
  unfold Builtin.Slice.sliceApplied Builtin.Slice.sliceFields
  refine wpAny_bind (wpAny_bind (wpAny_field hos hds (x := .none) rfl (wpAny_bind (wpAny_field hos hds (x := .none) rfl (wpAny_bind (wpAny_field hos hds (x := vs) rfl (wpAny_pure ?_)))))))
  refine wpAny_bind (slicePart_ ps ?_)
  change wpAny _ _ (if ((-1 : Int) == 0) = true then _ else _) _ _ s
  rw [if_neg (by decide)]
  refine wpAny_bind (slicePart_none (wpAny_bind (slicePart_none (wpAny_bind (wpAny_pure ?_)))))
  change wpAny _ _ (pure (((items.size : Nat) : Int) - 1, (-1 : Int), Builtin.Slice.slicePlaces (((items.size : Nat) : Int) - 1) (-1) (-1))) _ _ s
  have pl : Builtin.Slice.slicePlaces (((items.size : Nat) : Int) - 1) (-1) (-1) = items.size := by
    unfold Builtin.Slice.slicePlaces
    rw [if_neg (by decide)]
    split
    · rw [show (- -1 : Int) = 1 by decide, Int.ediv_one]; omega
    · omega
  rw [pl]
  refine wpAny_pure ?_
  have hno : ¬ (((((items.size : Nat) : Int) - 1) == 0 && (-1 : Int) == 1 && items.size == items.size) = true) := by simp
  change wpAny _ _ (if ((((items.size : Nat) : Int) - 1) == 0 && (-1 : Int) == 1 && items.size == items.size) = true then _ else _) _ _ s
  rw [if_neg hno, pick_rev]
  first
    | exact wpAny_bind (m := Builtin.Tuple.tupleExact _) (wpAny_newObj_type (wpAny_pure ⟨_, rfl, wpAny_pure h⟩) htake)
    | exact wpAny_bind (m := Builtin.Tuple.tupleExact _) (wpAny_newObj_type (wpAny_bind (wpAny_pure (wpAny_pure ⟨_, rfl, wpAny_pure h⟩))) htake)
    | exact wpAny_bind (wpAny_bind (m := Builtin.Tuple.tupleExact _) (wpAny_newObj_type (wpAny_pure (wpAny_pure ⟨_, rfl, wpAny_pure h⟩)) htake))
    | exact wpAny_bind (wpAny_bind (m := Builtin.Tuple.tupleExact _) (wpAny_newObj_type (wpAny_pure ⟨_, rfl, wpAny_pure h⟩) htake))
end
end HT
namespace DL
open PySem PySem.Spec PyProof.Rows L2
variable [TabCtx]
section
variable {X : Cx} {W : WXD}
/-! ### t[::-1] -/
def tRevT (K : PySem.W.Frag) (te : TE) : TE := fun σ H Q => te σ H fun x H1 => ∃ a xs, x = .ref a ∧ SqT K H1 a xs ∧ ∀ p, H1 p = none → Q (.ref p) (upd H1 p (.tup xs.reverse))
theorem pe_revT {e : Expr} {te : TE} {k : Nat} {p1 p2 p3 pos : Pos} (he : PE X e te) : PE X (.Subscript e (.Slice none none (some (.UnaryOp .USub (.Constant (.int 1) k p1) p2)) p3) pos) (tRevT X.K te) := by
  refine ⟨fun pins s σ H Q I h => Subscript_ (thn (he.run pins s σ H _ I h) ?_)⟩
  rintro v s1 ⟨x, H1, I1, r1, a, xs, rfl, hx, q⟩
  cases r1
  have hst : PO X (some (.UnaryOp .USub (.Constant (.int 1) k p1) p2)) (tPart (tUn (rU fun i => .int (-i)) (tC (.int 1)))) := po_some (pe_un un_neg pe_int)
  refine wpAny_Slice (thn (po_none.run pins s1 σ H1 (fun o H2 => o = none ∧ H2 = H1) I1 ⟨rfl, rfl⟩) ?_)
  rintro vl s2 ⟨l, H2, I2, pl, rfl, rfl⟩
  refine thn (po_none.run pins s2 σ H2 (fun o H3 => o = none ∧ H3 = H2) I2 ⟨rfl, rfl⟩) ?_
  rintro vu s3 ⟨u, H3, I3, pu, rfl, rfl⟩
  refine thn (hst.run pins s3 σ H3 (fun o H4 => o = some (-1) ∧ H4 = H3) I3 ⟨1, rfl, -1, rfl, rfl, rfl⟩) ?_
  rintro vs s4 ⟨o, H4, I4, ps, rfl, rfl⟩
  cases pl
  cases pu
  have I5 : Inv X pins σ H4 { s4 with heap := s4.heap.push { cls := .type "slice", data := .fields #[.none, .none, vs] } } := I4.kept (t' := s4.toks) fun b ob q => Heap.get?_push_of_some _ q
  obtain ⟨its, r, ht, hz⟩ := I5.tuple hx
  change wpAny (model X.prog X.w) X.A (subscriptTail e (.Slice none none (some (.UnaryOp .USub (.Constant (.int 1) k p1) p2)) p3) (.ref a) (.ref s4.heap.objs.size)) (EP X pins σ Q) X.xe { s4 with heap := s4.heap.push { cls := .type "slice", data := .fields #[.none, .none, vs] } }
  refine tail_any (ops := [.ref a, .ref s4.heap.objs.size]) ht.typeIs PyProof.Rows.slot_tuple_getitem.lookup ?_ (by with_unfolding_all rfl)
  refine HT.getItem_tuple_rev ht (Heap.IsSliceOf.new _ .none .none vs) ps ?_ (by rw [List.size_toArray, ← r.length]; exact hz)
  refine ⟨.ref _, _, I5.laid (t' := s4.toks) (o := .tup xs.reverse) (fun b ob q => Heap.get?_push_of_some _ q) (Nat.le_refl _) ?_, rfl, q _ (I5.hok.fresh (Nat.le_refl _))⟩
  exact ⟨by rw [List.length_reverse]; exact hz, _, r.reverse, IsTup.new _ _⟩
def revD : D → Option D
  | .tup ds => some (.tup ds.reverse)
  | _ => none
theorem pd_revT {e : Expr} {fe : EF} {k : Nat} {p1 p2 p3 pos : Pos} (he : PEd X W e fe) : PEd X W (.Subscript e (.Slice none none (some (.UnaryOp .USub (.Constant (.int 1) k p1) p2)) p3) pos) (e1 revD fe) := by
  refine PE.imp (pe_revT he) fun σ H Q h => ?_
  obtain ⟨η, θ, μ, ρ, ok, rs, fin⟩ := h
  refine ⟨η, θ, μ, ρ, ok, rs, fin.andThen fun dx μ1 x H1 θ1 _ st rx fin1 => ?_⟩
  unfold o1 at fin1
  split at fin1
  · rename_i d ed
    cases d with
    | tup ds =>
      obtain ⟨a, xs, rfl, hp, lx⟩ := (dr_rep st.ok rx ed).tup
      simp only [revD] at fin1
      exact ⟨a, xs, rfl, SqT.of hp, fun p np => (fin_ans st.ok fin1).tup st.ok.trk lx.rev np⟩
    | _ => exact fin1.elim
  · exact fin1.elim
end
/-! ### calls without arguments, where errors go on at the slots -/
section
variable {X : Cx} {W : WXD} {CX : CXT} {k j n : Nat} {f : Addr} {fd : FuncData} {ps : List Str}
theorem pe_call0SD {sp : Sp} {E : L2.St → XK} {x : Str} {p pos : Pos} (F : FnOk X.prog X.w X.K X.mg X.base CX k f fd ps sp) (hr : Room k X.A) (hg : Gl X x) (hm : X.mg x = some (.ref f)) (hk : PySem.W.keepIn X.K (.ref f) = true) (hb : Binds X.K fd ps []) (hx : ∀ σ, PassesAt CX X σ (E σ))
    (hdb : (x == ("__debug__" : Str)) = false := by decide) : PE X (.Call (.Name x p) [] [] pos) (fun σ H Q => sp [] H Q (E σ)) := by
  refine ⟨fun pins s σ H Q I h => wpAny_Call_Name_kw (ld_glob I hg hm ?_ hdb)⟩
  exact PySem.W.callWith_K0 I.kIn hk (run_fnSD (us := []) (vs := []) (dvs := []) F hr hb .nil (hx σ) I .nil h)
theorem pd_call0x {g : PF} {x : Str} {p pos : Pos} (C : Cxb X CX W k) (F : FnOk X.prog X.w X.K X.mg X.base CX j f fd ps (spP X.mg X.K 0 g)) (hj : j ≤ k) (hg : Gl X x) (hm : X.mg x = some (.ref f)) (hk : PySem.W.keepIn X.K (.ref f) = true) (hb : Binds X.K fd ps [])
    (hdb : (x == ("__debug__" : Str)) = false := by decide) : PEd X W (.Call (.Name x p) [] [] pos) (eCall0 g) := by
  refine PE.imp (pe_call0SD (E := fun σ c d H => W c d σ H) F (C.room.mono hj) hg hm hk hb C.pas hdb) fun σ H Q h => ?_
  obtain ⟨η, θ, μ, ρ, ok, rs, fin⟩ := h
  exact spP_of (ds := []) ok .nil rfl fin
end
/-! ### a name that holds a def of the module, called -/
structure HeldB (X : Cx) (k n : Nat) (f : Addr) (sp : Sp) : Prop where
  ex : ∃ (oc : Value) (od : Option Addr) (fd : FuncData) (sl : Array (Option Value)) (ps : List Str), X.base.get? f = some ⟨oc, od, .func fd, sl⟩ ∧ ps.length = n ∧ (∀ (s : Shared) (us : List Value), X.K.In s.heap → us.length = ps.length → BindsTo s fd ⟨us, []⟩ (ps.zip us)) ∧ FnOk X.prog X.w X.K X.mg X.base (L2N.CX X.prog X.w) k f fd ps sp
/-- the defs of a table: name, what it does -/
def FnTab (P : Program) (w : World) (K : PySem.W.Frag) (mg : Str → Option Value) (base : Heap) (k n : Nat) (tbl : List (Str × PF)) : Prop :=
  ∀ x g, tbl.lookup x = some g → ∃ (f : Addr) (oc : Value) (od : Option Addr) (fd : FuncData) (sl : Array (Option Value)) (ps : List Str), mg x = some (.ref f) ∧ base.get? f = some ⟨oc, od, .func fd, sl⟩ ∧ ps.length = n ∧ (∀ (s : Shared) (us : List Value), K.In s.heap → us.length = ps.length → BindsTo s fd ⟨us, []⟩ (ps.zip us)) ∧ FnOk P w K mg base (CXr P w) k f fd ps (spP mg K n g)
theorem FnTab.nil {P : Program} {w : World} {K : PySem.W.Frag} {mg : Str → Option Value} {base : Heap} {k n : Nat} : FnTab P w K mg base k n [] := fun x g h => by cases h
theorem FnTab.cons {P : Program} {w : World} {K : PySem.W.Frag} {mg : Str → Option Value} {base : Heap} {k j n : Nat} {x : Str} {st : Stmt} {ps : List Str} {g : PF} {tbl : List (Str × PF)} (m : Mod K mg base) (d : DefOk mg K x st ps) (F : FnOk P w K mg base (CXr P w) j d.f d.fd ps (spP mg K n g)) (hj : j ≤ k) (hn : ps.length = n) (r : FnTab P w K mg base k n tbl) : FnTab P w K mg base k n ((x, g) :: tbl) := fun y h e => by
  rw [List.lookup_cons] at e
  split at e
  · rename_i e1
    have e1 : y = x := by simpa using e1
    subst e1
    cases e
    obtain ⟨oc, od, kV, doc, pm, an, cdv, ct, osl, e2, lk, hcd⟩ := d.F.ex
    refine ⟨d.f, oc, od, d.fd, osl, ps, d.g, m.kin _ _ lk, hn, fun s us hK hl => ?_, F.mono hj⟩
    have b := d.b s us hK (by rw [List.append_nil]; exact hl)
    rw [List.append_nil] at b
    exact b
  · exact r y h e
def eCallV (i n : Nat) (tbl : List (Str × PF)) (fa : AF) : EF := fun ρ μ => match ρ[i]? with
  | some (some (.d (.fn x))) => match tbl.lookup x with
    | some g => eCall n g fa ρ μ
    | none => .no
  | _ => .no
section
variable {X : Cx} {W : WXD} {k j n : Nat}
theorem pe_callBD {i : Nat} {E : L2.St → XK} {x : Str} {p pos : Pos} {e : Expr} {es : List Expr} {t : TA} (hr : Room k X.A) (hx : ∀ σ, PassesAt (L2N.CX X.prog X.w) X σ (E σ)) (hN : X.N[i]? = some x) (hv : Vis X.env.scope x) (ha : PA X (e :: es) t)
    (hd : (x == ("__debug__" : Str)) = false := by decide) (hcd : (x == ("__classdict__" : Str)) = false := by decide) (he : starEach (e :: es) X.env = (false, eval e X.env) :: starEach es X.env := by rfl) (hpl : (backTo pos (starEach es X.env)).any (·.1) = false := by rfl) :
    PE X (.Call (.Name x p) (e :: es) [] pos) (fun σ H Q => ∃ f sp, σ[i]? = some (some (.ref f)) ∧ HeldB X k n f sp ∧ t σ H fun vs H1 => sp vs H1 Q (E σ)) := by
  refine ⟨fun pins s σ H Q I h => ?_⟩
  obtain ⟨f, sp, h1, ⟨oc, od, fd, sl, ps, h2, h3, h4, h5⟩, h6⟩ := h
  exact (pe_callB1 (i := i) (E := E) h5 h2 hr h4 hx hN hv ha hd hcd he hpl).run pins s σ H Q I ⟨h1, h6⟩
theorem pd_callV {tbl : List (Str × PF)} {x : Str} {e : Expr} {es : List Expr} {fa : AF} {p pos : Pos} (C : Cxb X (L2N.CX X.prog X.w) W k) (T : FnTab X.prog X.w X.K X.mg X.base j n tbl) (hj : j ≤ k) (i : Nat) (ha : PAd X W (e :: es) fa) (hN : X.N[i]? = some x := by rfl) (hv : Vis X.env.scope x := by first | exact Or.inl rfl | exact Or.inr (Or.inl rfl) | exact Or.inr (Or.inr rfl))
    (hd : (x == ("__debug__" : Str)) = false := by decide) (hcd : (x == ("__classdict__" : Str)) = false := by decide) (he : starEach (e :: es) X.env = (false, eval e X.env) :: starEach es X.env := by rfl) (hpl : (backTo pos (starEach es X.env)).any (·.1) = false := by rfl) :
    PEd X W (.Call (.Name x p) (e :: es) [] pos) (eCallV i n tbl fa) := by
  refine PE.imp (pe_callBD (n := n) (i := i) (E := fun σ c d H => W c d σ H) (C.room.mono hj) C.pas hN hv ha hd hcd he hpl) fun σ H Q h => ?_
  obtain ⟨η, θ, μ, ρ, ok, rs, fin⟩ := h
  unfold eCallV at fin
  split at fin
  · rename_i y e1
    split at fin
    · rename_i g e2
      obtain ⟨v, h5, h6⟩ := rs.at_ i _ e1
      cases h6 with
      | d h6 => cases h6 with
        | fn h7 =>
          obtain ⟨f, oc, od, fd, sl, ps, g1, g2, g3, g4, g5⟩ := T _ _ e2
          rw [h7] at g1
          cases g1
          refine ⟨_, _, h5, ⟨oc, od, fd, sl, ps, g2, g3, g4, g5⟩, η, θ, μ, ρ, ok, rs, ?_⟩
          unfold eCall at fin
          refine fin.andThen fun ss μ1 vs H1 θ1 _ st rx fin1 => ?_
          split at fin1
          · split at fin1
            · rename_i ds ed hn
              exact spP_of st.ok (dsOf_rep rx ed) hn fin1
            · exact fin1.elim
          · exact fin1.elim
    · exact fin.elim
  · exact fin.elim
/-! ### [.. for ..], told where the block begins -/
theorem PGd.c {Cn : Cx → Pins → Prop} {tg : Expr} {g : GF} {vs : List Nat} (h : PGd X tg g vs) : PGc X Cn tg (tG X.mg X.K g vs) := PG.c h
theorem pl_lcX {CX : CXT} {elt tg iter : Expr} {ifs : List Expr} {scope : Scope} {own : List (Str × Nat)} {pos : Pos} {src : LF} {g : GF} {vs0 : List Nat} {t : BF} {e : EF} (C : Cxb X CX W k) (hi : PId X W tg iter src) (ok : BlkOk X.N X.env.scope scope own)
    (hg : ∀ (s : Shared) (H : Hp) (A : Addr) (cl : List (Str × Addr)) (fp : List Addr), BlkAt X s H scope A cl fp → PGd (X.blk s H scope (compEnvC scope cl A X.env) fp) tg g vs0)
    (ht : ∀ (s : Shared) (H : Hp) (A : Addr) (cl : List (Str × Addr)) (fp : List Addr), BlkAt X s H scope A cl fp → PTsd (X.blk s H scope (compEnvC scope cl A X.env) fp) W0 ifs t)
    (he : ∀ (s : Shared) (H : Hp) (A : Addr) (cl : List (Str × Addr)) (fp : List Addr), BlkAt X s H scope A cl fp → PEd (X.blk s H scope (compEnvC scope cl A X.env) fp) W0 elt e)
    (hv : ∀ i ∈ vs0, i ∈ own.map (·.2) := by decide) (hs : ∀ x, foldedSetIterable iter X.env x = pure x := by intro _; rfl) : PLd X W (.ListComp elt [⟨tg, iter, ifs, 0⟩] scope pos) (lLc (own.map (·.2)) src g t e) :=
  PE.imp (pe_lcG (Cn := Calm) (wi := tI X.mg X.K W src) (g := tG X.mg X.K g vs0) (tt := tBD X.mg X.K W0 t) (te := tD X.mg X.K W0 e) (fun s H A cl fp pins more => C.calm) C.nd (PI.g hi) ok (fun s H A cl fp b => PGd.c (hg s H A cl fp b)) (fun s H A cl fp b => ht s H A cl fp b) (fun s H A cl fp b => he s H A cl fp b) hs) (lc_read hv)
end
theorem tabB_sub {b b' : Heap} {mg : Str → Option Value} {c P : Addr} (t : LamX.TabB b mg c P) (h : Sub b b') : LamX.TabB b' mg c P := ⟨t.code.keeps h, t.bm.keeps h, t.gP⟩
theorem FnOk.never {P : Program} {w : World} {K : PySem.W.Frag} {mg : Str → Option Value} {base : Heap} {CX : CXT} {k n : Nat} {f : Addr} {fd : FuncData} {ps : List Str} (hn : n = ps.length) : FnOk P w K mg base CX k f fd ps (spM mg K n fun _ _ => .no) :=
  ⟨fun vs H Q E h => h.1.trans hn, fun A outer s H args us vs Q E _ _ _ _ h => by obtain ⟨_, _, _, _, _, _, _, z⟩ := h; exact z.elim⟩
end DL

set_option Elab.async false
set_option linter.all false
set_option maxRecDepth 100000
set_option maxHeartbeats 1000000
/-! DLHand: a def of the module handed on as a function -/
namespace DL
open PySem PySem.Spec PyProof.Rows L2 LamX NdefX
variable [TabCtx]
/-- a def of data, called with slots -/
def liftP (m : Nat) (g : PF) : MF := fun ss μ => match dsOf ss with
  | some ds => if ds.length = m then (g ds).res μ else .no
  | none => .no
theorem spP_gen {mg : Str → Option Value} {K : PySem.W.Frag} {n : Nat} {E : XK} {η : List Addr} {H : Hp} {θ : List Addr} {μ : Store} {ds : List D} {vs : List V} {g : PF} {Q : VK} (ok : StOk mg K η H θ μ) (l : RepL mg K (hid H (θ ++ η)) ds vs) (hn : ds.length = n) (fin : Fin mg K E η H θ (RepSl mg K) ((g ds).res μ) Q) : spP mg K n g vs H Q E := by
  refine ⟨l.length.symm.trans hn, θ ++ η, ds, StOk.bare ok.trk ok.tab fun p hp => ok.plain hp, l, ?_⟩
  cases e : g ds with
  | ok d =>
    rw [e] at fin
    intro v H' θ' st r
    have := st.only
    subst this
    cases r with
    | d r => exact fin v H' θ (Step.frame ok st) (.d r)
  | ex x =>
    rw [e] at fin
    intro cv dd H' θ' st r
    have := st.only
    subst this
    exact fin cv dd H' θ (Step.frame ok st) r
  | no => rw [e] at fin; exact fin
/-- defs that are handed on -/
def CloTab (P : Program) (w : World) (K : PySem.W.Frag) (mg : Str → Option Value) (base : Heap) (k n : Nat) (tbl : List (Str × PF)) : Prop :=
  ∀ x g, tbl.lookup x = some g → ∃ f : Addr, mg x = some (.ref f) ∧ ∀ t : CTok, t.f = f → CloOk P w K mg base k n t (liftP n g)
section
variable {P : Program} {w : World} {K : PySem.W.Frag} {mg : Str → Option Value} {base : Heap} {k j n : Nat}
theorem CloTab.nil : CloTab P w K mg base k n [] := fun x g h => by cases h
theorem CloTab.cons {x : Str} {st : Stmt} {ps : List Str} {g : PF} {tbl : List (Str × PF)} (m : Mod K mg base) (d : DefOk mg K x st ps) (F : ∀ base', Sub base base' → Mod K mg base' → FnOk P w K mg base' (CXr P w) j d.f d.fd ps (spP mg K n g)) (hj : j ≤ k) (hn : ps.length = n) (r : CloTab P w K mg base k n tbl) : CloTab P w K mg base k n ((x, g) :: tbl) := fun y h e => by
  rw [List.lookup_cons] at e
  split at e
  · rename_i e1
    have e1 : y = x := by simpa using e1
    subst e1
    cases e
    obtain ⟨oc, od, kV, doc, pm, an, cdv, ct, osl, e2, lk, hcd⟩ := d.F.ex
    refine ⟨d.f, d.g, fun t ht => ⟨oc, od, d.fd, osl, ps, by rw [ht]; exact m.kin _ _ lk, hn, fun s us hK hl => ?_, fun base' sb mb => ?_⟩⟩
    · have b := d.b s us hK (by rw [List.append_nil]; exact hl)
      rw [List.append_nil] at b
      exact b
    · rw [ht]
      refine ((F base' sb mb).mono hj).imp fun vs H Q E hh => ?_
      obtain ⟨h1, η, θ, μ, ss, ok, _, _, rx, fin⟩ := hh
      unfold liftP at fin
      split at fin
      · split at fin
        · rename_i ds ed hl
          exact spP_gen ok (dsOf_rep rx ed) hl fin
        · exact fin.elim
      · exact fin.elim
  · exact r y h e
end
theorem RepA.put {mg : Str → Option Value} {K : PySem.W.Frag} {G : Hp} {θ : List Addr} {t : CTok} {x : Str} (e : Ext t.G G) (p : Pre t.θ θ) (hm : mg x = some (.ref t.f)) : ∀ {ss : List Sl} {vs : List V} {h : Nat}, RepA mg K G θ ss vs → ss[h]? = some (.d (.fn x)) → RepA mg K G θ (ss.set h (.clo t)) vs
  | _, _, _, .nil, q => by simp at q
  | d0 :: _, _, 0, .cons r l, q => by
    have q : d0 = Sl.d (.fn x) := by simpa using q
    subst q
    cases r with
    | d r => cases r with
      | fn hf =>
        rw [hm] at hf
        cases hf
        exact .cons (.clo e p) l
  | _, _, h + 1, .cons r l, q => .cons r (RepA.put e p hm l (by simpa using q))
/-- a def called with a def at h among its arguments -/
noncomputable def eCallHD (n : Nat) (g : CTok → MF → MF) (h m : Nat) (tbl : List (Str × PF)) (fa : AF) : EF := fun ρ μ => (fa ρ μ).bind fun ss μ1 => match ss[h]? with
  | some (.d (.fn x)) => match tbl.lookup x with
    | some φ => if ss.length = n then uni fun t => g t (liftP m φ) (ss.set h (.clo t)) μ1 else .no
    | none => .no
  | _ => .no
section
variable {X : Cx} {W : WXD} {k j n m kf : Nat} {f : Addr} {fd : FuncData} {ps : List Str}
theorem pd_callHD {g : CTok → MF → MF} {tbl : List (Str × PF)} {x : Str} {e : Expr} {es : List Expr} {fa : AF} {p pos : Pos} (h : Nat) (C : Cxb X (L2N.CX X.prog X.w) W k) (T : CloTab X.prog X.w X.K X.mg X.base kf m tbl)
    (F : ∀ t φ, CloOk X.prog X.w X.K X.mg X.base kf m t φ → FnOk X.prog X.w X.K X.mg X.base (CXr X.prog X.w) j f fd ps (spM X.mg X.K n (g t φ))) (hj : j ≤ k) (hps : ps.length = n) (hg : Gl X x) (hm : X.mg x = some (.ref f)) (hk : PySem.W.keepIn X.K (.ref f) = true) (hb : Binds X.K fd ps [])
    (ha : PAd X W (e :: es) fa) (hdb : (x == ("__debug__" : Str)) = false := by decide) (he : starEach (e :: es) X.env = (false, eval e X.env) :: starEach es X.env := by rfl) (hpl : (backTo pos (starEach es X.env)).any (·.1) = false := by rfl) : PEd X W (.Call (.Name x p) (e :: es) [] pos) (eCallHD n g h m tbl fa) := by
  have FF : FnOk X.prog X.w X.K X.mg X.base (CXr X.prog X.w) j f fd ps (fun vs H Q E => ∃ t φ, CloOk X.prog X.w X.K X.mg X.base kf m t φ ∧ spM X.mg X.K n (g t φ) vs H Q E) :=
    ⟨fun vs H Q E ⟨t, φ, _, h⟩ => h.1.trans hps.symm, fun A outer s H args us vs Q E hr e0 bt vl ⟨t, φ, hc, h⟩ => (F t φ hc).run A outer s H args us vs Q E hr e0 bt vl h⟩
  refine PE.imp (pe_callSD (E := fun σ c d H => W c d σ H) FF (C.room.mono hj) hg hm hk hb .nil C.pas ha hdb he hpl) fun σ H Q hh => ?_
  obtain ⟨η, θ, μ, ρ, ok, rs, fin⟩ := hh
  refine ⟨η, θ, μ, ρ, ok, rs, fin.andThen fun ss μ1 vs H1 θ1 _ st rx fin1 => ?_⟩
  rw [List.append_nil]
  split at fin1
  · rename_i y e1
    split at fin1
    · rename_i φ e2
      split at fin1
      · rename_i hn
        obtain ⟨f', hf, hc⟩ := T _ _ e2
        refine ⟨⟨f', hid H1 (θ1 ++ η), θ1⟩, liftP m φ, hc _ rfl, rx.length.symm.trans hn, η, θ1, μ1, ss.set h (.clo ⟨f', hid H1 (θ1 ++ η), θ1⟩), st.ok, RepA.put (t := ⟨f', hid H1 (θ1 ++ η), θ1⟩) (Ext.refl _) (Pre.refl _) hf rx e1, ?_⟩
        rcases uni_at (fun t => g t (liftP m φ) (ss.set h (.clo t)) μ1) ⟨f', hid H1 (θ1 ++ η), θ1⟩ with z | z
        · rw [z] at fin1; exact fin1.elim
        · rw [z] at fin1; exact fin1
      · exact fin1.elim
    · exact fin1.elim
  · exact fin1.elim
end
end DL

set_option Elab.async false
set_option linter.all false
set_option maxRecDepth 100000
set_option maxHeartbeats 4000000
/-! DLSet: set of a list of ints, sorted -/
namespace DL
open PySem PySem.Spec PyProof.Rows L2
section
variable {P : Program} {w : World} {A : Around} {E : Value → Shared → Prop} {s : Shared}
/-- a set's object, as it is made -/
abbrev newSet (w : World) : Obj := { cls := .type "set", dict := none, data := .set #[] 0 (.fresh 0 0 (!w.params.followText "set-order")) }
abbrev withSet (w : World) (s : Shared) : Shared := { s with heap := s.heap.push (newSet w) }
theorem set_of_list {l : Addr} {vs : Array Value} (ns : List Int) {Q : Value → Shared → Prop} (calm : A.handled = none) (isl : s.heap.IsList l vs) (allI : IntsAre vs.toList ns) (few : ns.length + 1 < scanBound)
    (fin : ∀ (h' : Heap) (tk c : Nat), SetR w h' s.heap.objs.size (fun j => decide (j ∈ ns)) c → c ≤ ns.length → (∀ b o, s.heap.get? b = some o → h'.get? b = some o) → Q (.ref s.heap.objs.size) { s with heap := h', toks := tk }) :
    wpAny (model P w) A (call (.type "set") [.ref l]) Q E s := by
  have size : vs.size = ns.length := by have q := IntsAre.length allI; rwa [Array.length_toList] at q
  obtain ⟨c0, tl0, m1⟩ := PySem.F.called_set.mro
  have m2 := PySem.F.called_set.made
  have m3 := PySem.F.called_set.sub
  have m4 := PySem.F.called_set.notType
  have m5 := PySem.F.called_set.canCreate
  have m6 := PySem.F.typeCall_set_1 (.ref l)
  refine wpAny_call (codeAny_of_tree ?_)
  show wpAny _ _ (callAny (.type "set") _) _ _ s
  refine wpAny_pure ⟨Code.quiet_builtin _ (by decide +kernel), codeAny_builtin PySem.F.entry_type_call ?_⟩
  rw [Around.under_plain (weight_type_call_type "set" [.ref l] []) rfl]
  repeat (any_goals (first | assumption | wp_step))
  refine codeAny_mono (code_set_led1 (.ref l) (E := E) (Q₁ := fun v t => v = .ref s.heap.objs.size ∧ t = withSet w s) ⟨rfl, rfl⟩) fun r t hr => ?_
  match r, hr with
  | .error _, hr => exact hr
  | .ok .next, hr => exact hr.elim
  | .ok .brk, hr => exact hr.elim
  | .ok .cont, hr => exact hr.elim
  | .ok (.ret v), hr =>
    obtain ⟨rfl, rfl⟩ := hr
    have at0 : (withSet w s).heap.get? s.heap.objs.size = some (newSet w) := Heap.get?_push_size _ rfl
    have ty0 : Shared.TypeIs (withSet w s) (.ref s.heap.objs.size) "set" := ⟨_, at0, rfl⟩
    have i1 := PySem.F.called_set.init.lookup
    have i2 := PySem.F.called_set.init.bind (.ref s.heap.objs.size)
    repeat (any_goals (first | assumption | wp_step))
    refine codeAny_mono (codeAny_call_builtin (R := wants (fun v t => v = .none ∧ ∃ h' tk c, t = { s with heap := h', toks := tk } ∧ SetR w h' s.heap.objs.size (fun j => decide (j ∈ ns)) c ∧ c ≤ ns.length ∧ (∀ b o, s.heap.get? b = some o → h'.get? b = some o)) E)
      PySem.F.called_set.init.plain PySem.F.entry_set_init (check_set_init_1 ty0 ?_)) fun r t hr => ?_
    · obtain ⟨⟨cl, di, da, so⟩, got, isl1, nl, isl2⟩ := isl
      simp only at isl1 isl2
      subst isl1 isl2
      have got1 := Heap.get?_push_of_some (newSet w) got
      have n1 := PySem.F.sub_list_set
      have n2 := PySem.F.sub_list_frozenset
      have n3 : (Value.type "list" == Value.type "dict") = false := by decide
      have here : (withSet w s).heap.IsList l vs := ⟨_, got1, rfl, nl, rfl⟩
      unfold Builtin.«set.__init__» noKeywords Builtin.Frozenset.updateFrom
      generalize hI : pyIter = IT
      wp_walk
      subst hI
      refine wpAny_pyIter_list here ?_
      refine wpAny_bind (wpAny_runValue ?_)
      have below : l < s.heap.objs.size := Heap.lt_size got
      have two : (withSet w s).heap.objs.size = s.heap.objs.size + 1 := Heap.size_push ..
      have lne : l ≠ (withSet w s).heap.objs.size := by rw [two]; exact Nat.ne_of_lt (Nat.lt_succ_of_lt below)
      have sne : s.heap.objs.size ∉ [(withSet w s).heap.objs.size, l] := by
        rw [two]
        simp only [List.mem_cons, List.not_mem_nil, or_false, not_or]
        exact ⟨Nat.ne_of_lt (Nat.lt_succ_self _), Nat.ne_of_gt below⟩
      refine set_update_ints ((Walks.list (by simp [calm]) _ l lne vs).toS) s.heap.objs.size sne ns size few (fun i v hv => ?_) (vs.size - 0) 0 _ (by omega) (Nat.zero_le _) ⟨⟨_, Heap.get?_push_size _ rfl, rfl, rfl⟩, (here.push _)⟩ ⟨0, Nat.le_refl 0, setR_new_at (Heap.get?_push_of_some _ at0)⟩ fun t c hm hc hS => ?_
      · have hi : i < ns.length := by rw [← size]; exact (Array.getElem?_eq_some_iff.mp hv).1
        obtain ⟨tk, e⟩ := IntsAre.int_at allI i v (by rw [Array.getElem?_toList]; exact hv)
        exact ⟨ns[i], tk, List.getElem?_eq_getElem hi, by rw [e, List.getD_eq_getElem?_getD, List.getElem?_eq_getElem hi] <;> rfl⟩
      · obtain ⟨h', g2, d2, tk, o2⟩ := t
        obtain rfl : g2 = s.gens := hm.gens
        obtain rfl : d2 = s.drawn := hm.drawn
        obtain rfl : o2 = s.os := hm.os
        show wpAny _ _ _ _ _ _
        refine wpAny_pure ?_
        show wpAny _ _ (ret Value.none) _ _ _
        refine wpAny_pure ⟨rfl, h', tk, c, rfl, hS, by rw [← size]; exact hc, fun b o e => ?_⟩
        have b0 : b < s.heap.objs.size := Heap.lt_size e
        have b2 : b ≠ (withSet w s).heap.objs.size := by rw [two]; exact Nat.ne_of_lt (Nat.lt_succ_of_lt b0)
        refine hm.heap b o ?_ (Heap.get?_push_of_some _ (Heap.get?_push_of_some _ e))
        simp only [List.mem_cons, List.not_mem_nil, or_false, not_or]
        exact ⟨Nat.ne_of_lt b0, b2⟩
    · match r, hr with
      | .error _, hr => exact hr
      | .ok .next, hr => exact hr.elim
      | .ok .brk, hr => exact hr.elim
      | .ok .cont, hr => exact hr.elim
      | .ok (.ret v), hr =>
        obtain ⟨rfl, h', tk, c, rfl, hS, hc, hk⟩ := hr
        repeat (any_goals (first | assumption | wp_step))
        exact fin _ _ _ hS hc hk
end
/-- set(xs), xs a list of ints -/
def rSetLI (K : PySem.W.Frag) (w : World) : List V → Hp → VK → Prop := fun xs H Q => ∃ (l : Addr) (ns : List Int), xs = [.ref l] ∧ SqL K H l (ns.map V.int) ∧ ns.length ≤ 1000 ∧ ∀ (p : Addr) (c : Nat), c ≤ ns.length → H p = none → Q (.ref p) (upd H p (SetO w p (fun j => decide (j ∈ ns)) c))
theorem cr_setLI {X : Cx} (hc : X.calm = true) : CallR X (.type "set") (rSetLI X.K X.w) := by
  intro pins s σ H xs us Q I r h
  obtain ⟨l, ns, rfl, hs, hl, q⟩ := h
  obtain ⟨its, rv, il, _⟩ := I.list hs
  obtain rfl := Vals.ref1 r
  refine set_of_list ns (I.ok.hd hc) il.isList rv.ints (by unfold scanBound; omega) fun h' tk c R hc' keep => ?_
  have fresh : H s.heap.objs.size = none := I.hok.fresh (Nat.le_refl _)
  exact ⟨.ref s.heap.objs.size, _, I.call (ch := []) (Un.laid keep (Nat.le_refl _) fresh) (I.hok.laid keep (Nat.le_refl _) (setO_new R)) I.bare (fun _ z => nomatch z), rfl, q _ c hc' fresh⟩
end DL

set_option Elab.async false
set_option linter.all false
set_option maxRecDepth 100000
set_option maxHeartbeats 1000000
/-! DLSetB: sorted(set(..)) as one expression -/
namespace DL
open PySem PySem.Spec PyProof.Rows L2
/-- a row without the same twice, in order -/
def insU (x : Int) : List Int → List Int
  | [] => [x]
  | y :: r => if x < y then x :: y :: r else if x = y then y :: r else y :: insU x r
def setI : List Int → List Int
  | [] => []
  | x :: r => insU x (setI r)
theorem insU_mem {x z : Int} : ∀ {l : List Int}, z ∈ insU x l ↔ z = x ∨ z ∈ l
  | [] => by simp [insU]
  | y :: r => by
    unfold insU
    split
    · simp
    · split
      · rename_i e; subst e; simp
      · rw [List.mem_cons, insU_mem, List.mem_cons]
        constructor
        · rintro (h | h | h)
          · exact .inr (.inl h)
          · exact .inl h
          · exact .inr (.inr h)
        · rintro (h | h | h)
          · exact .inr (.inl h)
          · exact .inl h
          · exact .inr (.inr h)
theorem setI_mem {z : Int} : ∀ {l : List Int}, z ∈ setI l ↔ z ∈ l
  | [] => by simp [setI]
  | x :: r => by rw [setI, insU_mem, setI_mem, List.mem_cons]
theorem insU_lt {x : Int} : ∀ {l : List Int}, l.Pairwise (· < ·) → (insU x l).Pairwise (· < ·)
  | [], _ => by simp [insU]
  | y :: r, h => by
    have hy := List.pairwise_cons.1 h
    unfold insU
    split
    · rename_i q
      refine List.pairwise_cons.2 ⟨fun z hz => ?_, h⟩
      rcases List.mem_cons.1 hz with rfl | hz
      · exact q
      · have := hy.1 z hz; omega
    · split
      · exact h
      · refine List.pairwise_cons.2 ⟨fun z hz => ?_, insU_lt hy.2⟩
        rcases insU_mem.1 hz with rfl | hz
        · omega
        · exact hy.1 z hz
theorem setI_lt : ∀ l : List Int, (setI l).Pairwise (· < ·)
  | [] => List.Pairwise.nil
  | x :: r => insU_lt (setI_lt r)
theorem lt_uniq : ∀ {a b : List Int}, a.Pairwise (· < ·) → b.Pairwise (· < ·) → (∀ z, z ∈ a ↔ z ∈ b) → a = b
  | [], [], _, _, _ => rfl
  | [], y :: _, _, _, h => absurd ((h y).2 (List.mem_cons_self ..)) (by simp)
  | x :: _, [], _, _, h => absurd ((h x).1 (List.mem_cons_self ..)) (by simp)
  | x :: a, y :: b, ha, hb, h => by
    have ha' := List.pairwise_cons.1 ha
    have hb' := List.pairwise_cons.1 hb
    have e : x = y := by
      rcases List.mem_cons.1 ((h x).1 (List.mem_cons_self ..)) with e | e
      · exact e
      · rcases List.mem_cons.1 ((h y).2 (List.mem_cons_self ..)) with e2 | e2
        · exact e2.symm
        · have h1 := hb'.1 x e
          have h2 := ha'.1 y e2
          omega
    subst e
    refine congrArg (x :: ·) (lt_uniq ha'.2 hb'.2 fun z => ⟨fun hz => ?_, fun hz => ?_⟩)
    · rcases List.mem_cons.1 ((h z).1 (List.mem_cons_of_mem _ hz)) with e | e
      · have := ha'.1 z hz; omega
      · exact e
    · rcases List.mem_cons.1 ((h z).2 (List.mem_cons_of_mem _ hz)) with e | e
      · have := hb'.1 z hz; omega
      · exact e
theorem setI_nodup (l : List Int) : (setI l).Nodup := (setI_lt l).imp fun h e => by omega
theorem setR_count {w : World} {h : Heap} {a : Addr} {ns : List Int} {c : Nat} (R : SetR w h a (fun j => decide (j ∈ ns)) c) : c = (setI ns).length := by
  obtain ⟨o, es, ep, t, _, _, _, _, nd, mem, _, _, hn, _⟩ := R
  have p : (es.toList.map keyOf).Perm (setI ns) := (List.perm_ext_iff_of_nodup nd (setI_nodup ns)).2 fun k => by
    rw [← mem k, setI_mem]; simp
  have := p.length_eq
  rw [List.length_map, Array.length_toList] at this
  omega
/-- set(xs), xs a list of ints: how many there are -/
def rSetLU (K : PySem.W.Frag) (w : World) : List V → Hp → VK → Prop := fun xs H Q => ∃ (l : Addr) (ns : List Int), xs = [.ref l] ∧ SqL K H l (ns.map V.int) ∧ ns.length ≤ 1000 ∧ ∀ p : Addr, H p = none → Q (.ref p) (upd H p (SetO w p (fun j => decide (j ∈ ns)) (setI ns).length))
theorem cr_setLU {X : Cx} (hc : X.calm = true) : CallR X (.type "set") (rSetLU X.K X.w) := by
  intro pins s σ H xs us Q I r h
  obtain ⟨l, ns, rfl, hs, hl, q⟩ := h
  obtain ⟨its, rv, il, _⟩ := I.list hs
  obtain rfl := Vals.ref1 r
  refine set_of_list ns (I.ok.hd hc) il.isList rv.ints (by unfold scanBound; omega) fun h' tk c R hc' keep => ?_
  have fresh : H s.heap.objs.size = none := I.hok.fresh (Nat.le_refl _)
  obtain rfl := setR_count R
  exact ⟨.ref s.heap.objs.size, _, I.call (ch := []) (Un.laid keep (Nat.le_refl _) fresh) (I.hok.laid keep (Nat.le_refl _) (setO_new R)) I.bare (fun _ z => nomatch z), rfl, q _ fresh⟩
def sortSetD : List D → Option D
  | [.lst ds] => (intsOf ds).bind fun ns => if ns.length ≤ 1000 ∧ (setI ns).length < 64 then some (.lst ((setI ns).map .int)) else none
  | _ => none
section
variable [TabCtx] {mg : Str → Option Value} {K : PySem.W.Frag}
theorem l_sortset {w : World} : LiftN mg K (fun xs H Q => rSetLU K w xs H fun v H1 => rSortedSet w [v] H1 Q) sortSetD := by
  intro H S xs ds c Q f ra e q
  unfold sortSetD at e
  split at e
  · obtain ⟨v, rfl, h⟩ := ra.one
    obtain ⟨ns, e1, e2⟩ := Option.bind_eq_some_iff.mp e
    obtain ⟨p, rfl, hp⟩ := h.ints e1
    split at e2
    · rename_i hl
      cases e2
      refine ⟨p, ns, rfl, hp, hl.1, fun s0 hs => ⟨s0, _, (setI ns).length, rfl, upd_same .., hl.2, fun ns' r hlt hmem hlen hr => ?_⟩⟩
      have e3 : ns' = setI ns := lt_uniq hlt (setI_lt ns) fun z => by rw [hmem z, setI_mem]; simp
      subst e3
      have nr : r ≠ s0 := fun z => by rw [z, upd_same] at hr; cases hr
      have hr0 : H r = none := by rw [upd_ne nr] at hr; exact hr
      refine q _ _ (fun b x hb => ?_) (.lst (xs := (setI ns).map V.int) (by rw [hid_out (fresh_out f hr0), upd_same]) (RepL.ints _))
      rw [upd_ne (ne_of_none hb hr0), upd_ne (ne_of_none hb hs)]
      exact hb
    · cases e2
  · cases e
variable {X : Cx} {W : WXD} {CX : CXT} {k : Nat}
theorem pd_sortset {e : Expr} {fe : EF} {p p2 pos pos2 : Pos} (C : Cxb X CX W k) (hg : Gl X "sorted") (hm : X.mg "sorted" = none) (hg2 : Gl X "set") (hm2 : X.mg "set" = none) (ha : PEd X W e fe)
    (he : starEach [e] X.env = (false, eval e X.env) :: starEach [] X.env := by rfl) (he2 : starEach [.Call (.Name "set" p2) [e] [] pos2] X.env = (false, eval (.Call (.Name "set" p2) [e] [] pos2) X.env) :: starEach [] X.env := by rfl)
    (hpl : (backTo pos (starEach [] X.env)).any (·.1) = false := by rfl) (hpl2 : (backTo pos2 (starEach [] X.env)).any (·.1) = false := by rfl) :
    PEd X W (.Call (.Name "sorted" p) [.Call (.Name "set" p2) [e] [] pos2] [] pos) (eN sortSetD (aCons fe aNil)) := by
  have h1 := pe_callTy (p := p2) (pos := pos2) (cr_setLU C.calm) hg2 hm2 (by decide +kernel) (pd_cons ha pd_nil he) (by decide) (by decide) he hpl2
  have h2 := pe_callB (p := p) (pos := pos) (cr_sortedSet C.calm) hg hm (by decide +kernel) (pa_cons h1 pa_nil he2) (by decide) (by decide) he2 hpl
  exact PE.imp h2 (cb_ok (r := fun xs H Q => rSetLU X.K X.w xs H fun v H1 => rSortedSet X.w [v] H1 Q) l_sortset)
end
end DL

set_option Elab.async false
set_option linter.all false
set_option maxRecDepth 100000
set_option maxHeartbeats 1000000
/-! DLTxt: texts: signs, numbers read, f-strings, text * n; tuples compared by >, xs[::-1] of lists -/
namespace DL
open PySem PySem.Spec PyProof.Rows L2
/-! ### operators on data -/
def ltI : D → D → Option D
  | .int i, .int j => some (.bl (decide (i < j)))
  | _, _ => none
/-- the one sign of a text -/
def oneS (a : Str) : Option Nat := match a.cps.toList with
  | [c] => some c
  | _ => none
theorem oneS_inv {a : Str} {c : Nat} (h : oneS a = some c) : a = ⟨#[c]⟩ := by
  unfold oneS at h
  split at h
  · rename_i c' e
    cases h
    exact Str.ext' (Array.toList_inj.mp e)
  · cases h
def inSD : D → D → Option D
  | .str a, .str z => (oneS a).map fun c => .bl (decide (c ∈ z.cps.toList))
  | _, _ => none
def ninSD : D → D → Option D
  | .str a, .str z => (oneS a).map fun c => .bl (!decide (c ∈ z.cps.toList))
  | _, _ => none
def intSD : List D → Option D
  | [.str a] => if a.length ≤ 640 then (PySem.intText? a).map .int else none
  | _ => none
def mulSD : D → D → Option D
  | .str x, .int n => if 2 ≤ n ∧ n ≤ 1000 ∧ x.length = 1 then some (.str ⟨(List.replicate n.toNat x.cps).foldl (· ++ ·) #[]⟩) else none
  | _, _ => none
/-- x > y, as Python has it of tuples -/
def lexGt (x y : List Int) : Bool := Ob.lexAt (fun j => decide (x.getD j 0 = y.getD j 0)) (fun j => decide (y.getD j 0 < x.getD j 0)) (decide (x.length > y.length)) 0 (min x.length y.length)
def gtTD : D → D → Option D
  | .tup a, .tup b => match intsOf a, intsOf b with
    | some x, some y => some (.bl (lexGt x y))
    | _, _ => none
  | _, _ => none
def revLD : D → Option D
  | .lst ds => some (.lst ds.reverse)
  | _ => none
def sgs (z : Str) : List D := z.cps.toList.map fun c => .str ⟨#[c]⟩
def sStr (f : EF) : LF := fun ρ μ => (f ρ μ).bind fun x μ1 => match x with
  | .d (.str z) => .ok (sgs z) μ1
  | _ => .no
/-- {x} in an f-string -/
def eFmt (f : EF) : EF := fun ρ μ => (f ρ μ).bind fun x μ1 => match x with
  | .d (.int i) => if i.natAbs.log2 < 1920 then .ok (.d (.str (toString i))) μ1 else .no
  | .d (.str y) => if y.length ≤ 16777216 then .ok (.d (.str y)) μ1 else .no
  | _ => .no
def fsL : List EF → Str → Rho → Store → Res Sl
  | [], acc, _, μ => .ok (.d (.str acc)) μ
  | f :: fs, acc, ρ, μ => (f ρ μ).bind fun x μ1 => match x with
    | .d (.str y) => if (acc ++ y).length ≤ 16777216 then fsL fs (acc ++ y) ρ μ1 else .no
    | _ => .no
def eFs (fs : List EF) : EF := fun ρ μ => fsL fs Str.empty ρ μ
theorem rep_sizeA (x : Array Nat) : ∀ (n : Nat) (a : Array Nat), ((List.replicate n x).foldl (· ++ ·) a).size = a.size + n * x.size
  | 0, a => by simp
  | n + 1, a => by
    rw [List.replicate_succ, List.foldl_cons, rep_sizeA x n, Array.size_append, Nat.add_mul]
    omega
theorem rep_size (x : Array Nat) (n : Nat) : ((List.replicate n x).foldl (· ++ ·) #[]).size = n * x.size := by
  rw [rep_sizeA]; simp
/-! ### how the program does them -/
variable [TabCtx]
section
variable {X : Cx}
def rGtT (K : PySem.W.Frag) : R2 := fun x y H Q => ∃ (a b : Addr) (ns ms : List Int), x = .ref a ∧ y = .ref b ∧ SqT K H a (ns.map V.int) ∧ SqT K H b (ms.map V.int) ∧ Q (.bl (lexGt ns ms)) H
theorem op_gtT (hu : X.A.units < cLine) : OpR X (compareOp .Gt) (rGtT X.K) := fun pins s σ H x y v u Q I rx ry h => by
  obtain ⟨a, b, ns, ms, rfl, rfl, ha, hb, q⟩ := h
  cases rx; cases ry
  obtain ⟨i1, v1, p1, _⟩ := I.tuple ha
  obtain ⟨i2, v2, p2, _⟩ := I.tuple hb
  have w1 := Vals.ints v1
  have w2 := Vals.ints v2
  have z1 : i1.toArray.size = ns.length := by simpa using w1.length
  have z2 : i2.toArray.size = ms.length := by simpa using w2.length
  have g1 : ∀ j (k : j < i1.toArray.size), ∃ t, i1.toArray[j] = .int (ns.getD j 0) t := fun j k => w1.int_at j _ (by rw [List.getElem_toArray]; exact List.getElem?_eq_getElem _)
  have g2 : ∀ j (k : j < i2.toArray.size), ∃ t, i2.toArray[j] = .int (ms.getD j 0) t := fun j k => w2.int_at j _ (by rw [List.getElem_toArray]; exact List.getElem?_eq_getElem _)
  have eq : ∀ j (k1 : j < i1.toArray.size) (k2 : j < i2.toArray.size), SeqAt.EqAt X.A.in1 s i1.toArray[j] i2.toArray[j] (decide (ns.getD j 0 = ms.getD j 0)) := fun j k1 k2 => by
    obtain ⟨t1, e1⟩ := g1 j k1
    obtain ⟨t2, e2⟩ := g2 j k2
    rw [e1, e2]
    have z := SeqAt.EqAt.int_int (A := X.A.in1) (s := s) (ns.getD j 0) t1 (ms.getD j 0) t2
    rwa [show (ns.getD j 0 == ms.getD j 0) = decide (ns.getD j 0 = ms.getD j 0) from rfl] at z
  have gt : ∀ j (k1 : j < i1.toArray.size) (k2 : j < i2.toArray.size), decide (ns.getD j 0 = ms.getD j 0) = false → Ob.RcOp .Gt X.A.in1 s i1.toArray[j] i2.toArray[j] (decide (ms.getD j 0 < ns.getD j 0)) := fun j k1 k2 _ => by
    obtain ⟨t1, e1⟩ := g1 j k1
    obtain ⟨t2, e2⟩ := g2 j k2
    rw [e1, e2]
    exact Ob.RcOp.gt_int _ _ _ _
  have R := Ob.RcOp.tuples_gt p1 p2 hu eq gt
  rw [z1, z2] at R
  exact R X.prog X.w X.xe (EP X pins σ Q) ⟨.bl _, H, I, rfl, q⟩
def rMulS : R2 := fun x y H Q => ∃ (a : Str) (n : Int), x = .str a ∧ y = .int n ∧ 2 ≤ n ∧ n ≤ 1000 ∧ a.length = 1 ∧ Q (.str ⟨(List.replicate n.toNat a.cps).foldl (· ++ ·) #[]⟩) H
theorem op_mulS : OpR X (binaryOp .Mult) rMulS := fun pins s σ H x y v u Q I rx ry h => by
  obtain ⟨a, n, rfl, rfl, h1, h2, h3, q⟩ := h
  obtain ⟨t1, rfl⟩ := rx
  obtain ⟨t2, rfl⟩ := ry
  have n1 : ¬ n < 1 := by omega
  have n2 : (n == 1 || a.length == 0) = false := by
    rw [Bool.or_eq_false_iff]
    exact ⟨by rw [beq_eq_false_iff_ne]; omega, by rw [beq_eq_false_iff_ne]; omega⟩
  refine P.mul_str (by simp; omega) (fun _ _ => ?_) (fun _ _ => ?_) ?_
  · rw [h3]
    have : (1 : Int) ≤ (2 ^ 63 - 1) / n := by
      rw [Int.le_ediv_iff_mul_le (by omega)]
      omega
    omega
  · rw [h3, Nat.one_mul]
    unfold Builtin.Str.tooLong
    rw [sizeLine_eq]
    simp
    omega
  · rw [if_neg n1, n2]
    refine ⟨?_, .str _, H, I.tok _, ⟨_, rfl⟩, q⟩
    show ((List.replicate n.toNat a.cps).foldl (· ++ ·) #[]).size ≤ sizeLine
    rw [rep_size, show a.cps.size = 1 from h3, sizeLine_eq]
    simp
    omega
end
section
variable {mg : Str → Option Value} {K : PySem.W.Frag}
theorem l_ltI : Lift2 mg K (rI0 fun i j => .bl (decide (i < j))) ltI := by
  intro H S x y a b c Q f ra rb e q
  unfold ltI at e
  split at e
  · cases ra.int; cases rb.int; cases e; exact ⟨_, _, rfl, rfl, q.here .bl⟩
  · cases e
theorem l_inS : Lift2 mg K (fun x y H Q => ∃ (c : Nat) (z : Str), x = .str ⟨#[c]⟩ ∧ y = .str z ∧ Q (.bl (decide (c ∈ z.cps.toList))) H) inSD := by
  intro H S x y a b c Q f ra rb e q
  unfold inSD at e
  split at e
  · obtain ⟨c', e1, e2⟩ := Option.map_eq_some_iff.mp e
    cases ra.str; cases rb.str; cases e2
    exact ⟨c', _, by rw [oneS_inv e1], rfl, q.here .bl⟩
  · cases e
theorem l_ninS : Lift2 mg K (fun x y H Q => ∃ (c : Nat) (z : Str), x = .str ⟨#[c]⟩ ∧ y = .str z ∧ Q (.bl (!decide (c ∈ z.cps.toList))) H) ninSD := by
  intro H S x y a b c Q f ra rb e q
  unfold ninSD at e
  split at e
  · obtain ⟨c', e1, e2⟩ := Option.map_eq_some_iff.mp e
    cases ra.str; cases rb.str; cases e2
    exact ⟨c', _, by rw [oneS_inv e1], rfl, q.here .bl⟩
  · cases e
theorem l_mulS : Lift2 mg K rMulS mulSD := by
  intro H S x y a b c Q f ra rb e q
  unfold mulSD at e
  split at e
  · split at e
    · rename_i hn
      cases ra.str; cases rb.int; cases e
      exact ⟨_, _, rfl, rfl, hn.1, hn.2.1, hn.2.2, q.here .str⟩
    · cases e
  · cases e
theorem l_gtT : Lift2 mg K (rGtT K) gtTD := by
  intro H S x y a b c Q f ra rb e q
  unfold gtTD at e
  split at e
  · obtain ⟨p, xs, rfl, hp, lx⟩ := ra.tup
    obtain ⟨p', ys, rfl, hp', ly⟩ := rb.tup
    split at e
    · rename_i e1 e2
      cases e
      rw [intsOf_inv e1] at lx
      rw [intsOf_inv e2] at ly
      cases lx.ints_inv; cases ly.ints_inv
      exact ⟨p, p', _, _, rfl, rfl, SqT.of hp, SqT.of hp', q.here .bl⟩
    · cases e
  · cases e
theorem l_intS : LiftN mg K (fun xs H Q => ∃ a n, xs = [.str a] ∧ PySem.intText? a = some n ∧ a.length ≤ 640 ∧ Q (.int n) H) intSD := by
  intro H S xs ds c Q f ra e q
  unfold intSD at e
  split at e
  · obtain ⟨v, rfl, h⟩ := ra.one
    cases h.str
    split at e
    · rename_i hl
      obtain ⟨n, e1, e2⟩ := Option.map_eq_some_iff.mp e
      cases e2
      exact ⟨_, n, rfl, e1, hl, q.here .int⟩
    · cases e
  · cases e
theorem it_str {G : Hp} (z : Str) : ItOk mg K G (Its z) (sgs z) where
  goes := fun i H S hi e => by
    unfold sgs at hi
    rw [List.length_map, Array.length_toList] at hi
    exact hi
  stops := fun H S e => by
    show z.cps.size ≤ (sgs z).length
    unfold sgs
    rw [List.length_map, Array.length_toList]
    exact Nat.le_refl _
  yields := fun i H x H' S hi e f y => by
    obtain ⟨rfl, c, hc, rfl⟩ := y
    refine ⟨Same.refl _, .str ⟨#[c]⟩, ?_, .str⟩
    unfold sgs
    rw [List.getElem?_map, Array.getElem?_toList, hc]; rfl
end
section
variable {X : Cx} {W : WXD} {CX : CXT} {k : Nat}
theorem pd_inS {a b : Expr} {fa fb : EF} {pos : Pos} (ha : PEd X W a fa) (hb : PEd X W b fb) (hm : behindInMarks .In b = false := by rfl) : PEd X W (.Compare a [.In] [b] pos) (e2 inSD fa fb) := pd_cmp op_in_sign l_inS ha hb hm
theorem pd_ninS {a b : Expr} {fa fb : EF} {pos : Pos} (ha : PEd X W a fa) (hb : PEd X W b fb) (hm : behindInMarks .NotIn b = false := by rfl) : PEd X W (.Compare a [.NotIn] [b] pos) (e2 ninSD fa fb) := pd_cmp op_notIn_sign l_ninS ha hb hm
theorem pb_inS {a b : Expr} {fa fb : EF} {pos : Pos} (ha : PEd X W a fa) (hb : PEd X W b fb) (hm : behindInMarks .In b = false := by rfl) : PBd X W (.Compare a [.In] [b] pos) (bV (e2 inSD fa fb)) := pb_cmp op_in_sign l_inS ha hb hm
theorem pb_ninS {a b : Expr} {fa fb : EF} {pos : Pos} (ha : PEd X W a fa) (hb : PEd X W b fb) (hm : behindInMarks .NotIn b = false := by rfl) : PBd X W (.Compare a [.NotIn] [b] pos) (bV (e2 ninSD fa fb)) := pb_cmp op_notIn_sign l_ninS ha hb hm
theorem pd_gtT {a b : Expr} {fa fb : EF} {pos : Pos} (C : Cxb X CX W k) (ha : PEd X W a fa) (hb : PEd X W b fb) : PEd X W (.Compare a [.Gt] [b] pos) (e2 gtTD fa fb) := pd_cmp (op_gtT (by have := C.hu; omega)) l_gtT ha hb (nomark _)
theorem pb_gtT {a b : Expr} {fa fb : EF} {pos : Pos} (C : Cxb X CX W k) (ha : PEd X W a fa) (hb : PEd X W b fb) : PBd X W (.Compare a [.Gt] [b] pos) (bV (e2 gtTD fa fb)) := pb_cmp (op_gtT (by have := C.hu; omega)) l_gtT ha hb (nomark _)
theorem pd_mulS {a b : Expr} {fa fb : EF} {pos : Pos} (ha : PEd X W a fa) (hb : PEd X W b fb) : PEd X W (.BinOp a .Mult b pos) (e2 mulSD fa fb) := pd_op op_mulS l_mulS ha hb
theorem pd_ltLe {a b c : Expr} {fa fb fc : EF} {pos : Pos} (ha : PEd X W a fa) (hb : PEd X W b fb) (hc : PEd X W c fc) (hm : lastMarks [.Lt, .LtE] [b, c] = false := by rfl) : PEd X W (.Compare a [.Lt, .LtE] [b, c] pos) (eChn ltI leI fa fb fc) := pd_chn (g := ltI) (h := leI) op_lt op_le l_ltI l_leI ha hb hc hm
theorem pd_intS {p pos : Pos} {e : Expr} {es : List Expr} {fa : AF} (hg : Gl X "int") (hm : X.mg "int" = none) (ha : PAd X W (e :: es) fa) (he : starEach (e :: es) X.env = (false, eval e X.env) :: starEach es X.env := by rfl) (hpl : (backTo pos (starEach es X.env)).any (·.1) = false := by rfl) : PEd X W (.Call (.Name "int" p) (e :: es) [] pos) (eN intSD fa) :=
  pd_bty call_int_str l_intS hg hm (by decide +kernel) ha (by decide) (by decide) he hpl
theorem pd_revL {e : Expr} {fe : EF} {k : Nat} {p1 p2 p3 pos : Pos} (he : PEd X W e fe) : PEd X W (.Subscript e (.Slice none none (some (.UnaryOp .USub (.Constant (.int 1) k p1) p2)) p3) pos) (e1 revLD fe) := by
  refine PE.imp (pe_revL he) fun σ H Q h => ?_
  obtain ⟨η, θ, μ, ρ, ok, rs, fin⟩ := h
  refine ⟨η, θ, μ, ρ, ok, rs, fin.andThen fun dx μ1 x H1 θ1 _ st rx fin1 => ?_⟩
  unfold o1 at fin1
  split at fin1
  · rename_i d ed
    cases d with
    | lst ds =>
      obtain ⟨a, xs, rfl, hp, lx⟩ := (dr_rep st.ok rx ed).lst
      simp only [revLD] at fin1
      exact ⟨a, xs, rfl, SqL.of hp, fun p np => (fin_ans st.ok fin1).lst st.ok.trk lx.rev np⟩
    | _ => exact fin1.elim
  · exact fin1.elim
theorem pid_str {tg l : Expr} {f : EF} (h : PEd X W l f) : PId X W tg l (sStr f) := by
  refine PI.imp (pi_str h) fun σ H R hh => ?_
  obtain ⟨η, θ, μ, ρ, ok, rs, fin⟩ := hh
  unfold sStr at fin
  cases e : f ρ μ with
  | ok x μ1 =>
    rw [e] at fin
    simp only [Res.bind] at fin
    split at fin
    · refine ⟨η, θ, μ, ρ, ok, rs, ?_⟩
      rw [e]
      intro v H1 θ1 st rx
      cases rx with
      | d rx => cases rx with
        | str => exact ⟨_, rfl, (Fin.rebase st fin) _ _ _ (Step.refl st.ok) (it_str _)⟩
    · exact fin.elim
  | ex x μ' => rw [e] at fin; exact ⟨η, θ, μ, ρ, ok, rs, by rw [e]; exact fin⟩
  | no => rw [e] at fin; exact fin.elim
theorem pd_fmt {e : Expr} {f : EF} {pos : Pos} (h : PEd X W e f) : PEd X W (.FormattedValue e (-1) none pos) (eFmt f) := by
  refine PE.imp (pe_fmt h) fun σ H Q hh => ?_
  obtain ⟨η, θ, μ, ρ, ok, rs, fin⟩ := hh
  refine ⟨η, θ, μ, ρ, ok, rs, fin.andThen fun dx μ1 x H1 θ1 _ st rx fin1 => ?_⟩
  split at fin1
  · split at fin1
    · rename_i hz
      cases rx with
      | d rx => cases rx; exact .inr ⟨_, rfl, hz, fin1.done (Step.refl st.ok) (.d .str)⟩
    · exact fin1.elim
  · split at fin1
    · rename_i hz
      cases rx with
      | d rx => cases rx; exact .inl ⟨_, rfl, by rw [sizeLine_eq]; exact hz, fin1.done (Step.refl st.ok) (.d .str)⟩
    · exact fin1.elim
  · exact fin1.elim
/-- the parts of an f-string -/
inductive PFd (X : Cx) (W : WXD) : List Expr → List EF → Prop where
  | nil : PFd X W [] []
  | cons {e : Expr} {f : EF} {es : List Expr} {fs : List EF} (h : PEd X W e f) (r : PFd X W es fs) : PFd X W (e :: es) (f :: fs)
theorem PFd.pj {es : List Expr} {fs : List EF} (h : PFd X W es fs) : PJ X es (fs.map fun f => tD X.mg X.K W f) := by
  induction h with
  | nil => exact .nil
  | cons h r ih => exact .cons h ih
theorem fs_ok : ∀ (fs : List EF) (acc : Str) (σ : L2.St) (H : Hp) (Q : VK) (η : List Addr) (θ : List Addr) (μ : Store) (ρ : Rho), StOk X.mg X.K η H θ μ → RepS X.mg X.K (hid H (θ ++ η)) θ ρ σ → Fin X.mg X.K (fun c d => W c d σ) η H θ (RepSl X.mg X.K) (fsL fs acc ρ μ) Q → tJs (fs.map fun f => tD X.mg X.K W f) acc σ H fun out H1 => Q (.str out) H1
  | [], acc, σ, H, Q, η, θ, μ, ρ, ok, rs, fin => fin _ _ _ (Step.refl ok) (.d .str)
  | f :: fs, acc, σ, H, Q, η, θ, μ, ρ, ok, rs, fin => by
    unfold fsL at fin
    refine ⟨η, θ, μ, ρ, ok, rs, fin.andThen fun dx μ1 x H1 θ1 _ st rx fin1 => ?_⟩
    split at fin1
    · split at fin1
      · rename_i hz
        cases rx with
        | d rx => cases rx; exact ⟨_, rfl, by rw [sizeLine_eq]; exact hz, fs_ok fs _ σ H1 Q η θ1 μ1 ρ st.ok (rs.step st) fin1⟩
      · exact fin1.elim
    · exact fin1.elim
theorem pd_fs {v1 v2 : Expr} {rest : List Expr} {fs : List EF} {pos : Pos} (h : PFd X W (v1 :: v2 :: rest) fs) : PEd X W (.JoinedStr (v1 :: v2 :: rest) pos) (eFs fs) := by
  refine PE.imp (pe_joined h.pj) fun σ H Q hh => ?_
  obtain ⟨η, θ, μ, ρ, ok, rs, fin⟩ := hh
  exact fs_ok fs Str.empty σ H Q η θ μ ρ ok rs fin
end
end DL

set_option Elab.async false
set_option linter.all false
set_option maxRecDepth 100000
set_option maxHeartbeats 1000000
/-! DLPack: a, b, c = x, y, z where some of a, b, c is read in a block (the tuple is really made) -/
namespace DL
open PySem PySem.Spec PyProof.Rows L2
variable [TabCtx]
def setAll : Rho → List Nat → List Sl → Rho
  | ρ, i :: is, s :: ss => setAll (ρ.set i (some s)) is ss
  | ρ, _, _ => ρ
def sPack (is : List Nat) (fa : AF) : SF := fun ρ μ => (fa ρ μ).toOut ρ fun ss μ1 => if ss.length = is.length then .nx (setAll ρ is ss) μ1 else .no
def tGsl (mg : Str → Option Value) (K : PySem.W.Frag) (is : List Nat) : TGs := fun vs σ H Q => ∃ η θ μ ρ ss, StOk mg K η H θ μ ∧ RepS mg K (hid H (θ ++ η)) θ ρ σ ∧ RepA mg K (hid H (θ ++ η)) θ ss vs ∧ ss.length = is.length ∧ ∀ σ', RepS mg K (hid H (θ ++ η)) θ (setAll ρ is ss) σ' → Q σ' H
section
variable {X : Cx} {W : WXD} {CX : CXT} {k : Nat}
theorem pgl_nil : PGs X [] (tGsl X.mg X.K []) := by
  refine PGs.imp pgs_nil fun vs σ H Q h => ?_
  obtain ⟨η, θ, μ, ρ, ss, ok, rs, l, e, q⟩ := h
  cases l with
  | nil => exact ⟨rfl, q σ rs⟩
  | cons _ _ => cases e
theorem pgl_cons (C : Cxb X CX W k) (i : Nat) {x : Str} {pos : Pos} {es : List Expr} {is : List Nat} (r : PGs X es (tGsl X.mg X.K is)) (hi : X.N[i]? = some x := by rfl) (hx : Loc X.env.scope x := by first | exact Or.inl rfl | exact Or.inr rfl) (hf : X.fn x = true ∨ X.env.scope.names.lookup x = some .local := by first | exact .inl rfl | exact .inr rfl)
    (ha : (assignEach (.Name x pos :: es) X.env).map (·.2) = assign (.Name x pos) X.env :: (assignEach es X.env).map (·.2) := by rfl) : PGs X (.Name x pos :: es) (tGsl X.mg X.K (i :: is)) := by
  refine PGs.imp (pgs_cons (pg_name C.nd hi hx hf) r ha) fun vs σ H Q h => ?_
  obtain ⟨η, θ, μ, ρ, ss, ok, rs, l, e, q⟩ := h
  cases l with
  | nil => cases e
  | cons r l => exact ⟨_, _, rfl, η, θ, μ, _, _, ok, rs.set r, l, by simpa using e, q⟩
theorem sd_pack {es tgs : List Expr} {fa : AF} {is : List Nat} {n m m2 : Nat} {tp p2 pos : Pos} (C : Cxb X CX W k) (ha : PAd X W es fa) (hg : PGs X tgs (tGsl X.mg X.K is)) (hn : is.length = n := by rfl) (hz : n ≤ 100 := by decide) (h1 : (assignEach tgs X.env).length = n := by rfl) (h2 : (assignEach tgs X.env).findIdx? (fun x => x.1) = none := by rfl)
    (hs : swapsWithSole [.Tuple tgs m tp] (.Tuple es m2 p2) pos.line X.env = pure false := by rfl) (hw : swappedStores [.Tuple tgs m tp] (.Tuple es m2 p2) X.env = pure none := by rfl) (h3 : (assignEach [.Tuple tgs m tp] X.env).map (·.2) = [assign (.Tuple tgs m tp) X.env] := by rfl) :
    PSd X W (.Assign [.Tuple tgs m tp] (.Tuple es m2 p2) pos) (sPack is fa) := by
  refine PS.imp (ps_asg (pe_tup ha) (pg_tup (n := n) C.calm hg h1 h2) hs hw h3) fun Dn σ H h => ?_
  obtain ⟨η, θ, μ, ρ, ok, rs, fin⟩ := h
  refine ⟨η, θ, μ, ρ, ok, rs, Fin.andThenS fin rs fun ss μ1 vs H1 θ1 _ st r f1 => ?_⟩
  split at f1
  · rename_i hl
    have lv : vs.length = n := by rw [← r.length, hl, hn]
    refine ⟨by rw [sizeLine_eq]; omega, fun p hp => ?_⟩
    have sm := upd_Same (o := .tup vs) hp
    have st2 := st.ok.same sm
    exact ⟨p, vs, rfl, SqT.of (upd_same ..), lv, η, θ1, μ1, ρ, ss, st2.ok, (rs.step st).step st2, r.step st2, hl, fun σ' rs' => f1 _ _ _ st2 rs'⟩
  · exact f1.elim
end
end DL

set_option Elab.async false
set_option linter.all false
set_option maxRecDepth 100000
set_option maxHeartbeats 1000000
/-! DLOb: a comprehension over a list that may be changed, but is not while it runs -/
namespace DL
open PySem PySem.Spec PyProof.Rows L2
open Classical in
noncomputable def lcK (vs : List Nat) (g : GF) (t : BF) (e : EF) (ρ : Rho) (n : Nat) (full : List D) : List D → Store → Res (List D)
  | [], μ => if μ[n]? = some (.lst full) then .ok [] μ else .no
  | d :: ds, μ => if μ[n]? = some (.lst full) then (lcL vs g t e ρ [d] μ).bind fun ys μ1 => (lcK vs g t e ρ n full ds μ1).bind fun zs μ2 => .ok (ys ++ zs) μ2 else .no
noncomputable def lLcO (vs : List Nat) (f : EF) (g : GF) (t : BF) (e : EF) : LF := fun ρ μ => (f ρ μ).bind fun x μ1 => match x with
  | .ob n => match μ1[n]? with
    | some (.lst ds) => lCap (lcK vs g t e ρ n ds ds μ1)
    | _ => .no
  | _ => .no
theorem lcK_live {vs : List Nat} {g : GF} {t : BF} {e : EF} {ρ : Rho} {n : Nat} {full ys : List D} {μ μe : Store} : ∀ {ds : List D}, lcK vs g t e ρ n full ds μ = .ok ys μe → μ[n]? = some (.lst full)
  | [], h => by
    unfold lcK at h
    split at h
    · assumption
    · cases h
  | d :: ds, h => by
    unfold lcK at h
    split at h
    · assumption
    · cases h
theorem lcK_nil {vs : List Nat} {g : GF} {t : BF} {e : EF} {ρ : Rho} {n : Nat} {full ys : List D} {μ μe : Store} (h : lcK vs g t e ρ n full [] μ = .ok ys μe) : ys = [] ∧ μ = μe := by
  unfold lcK at h
  split at h
  · cases h; exact ⟨rfl, rfl⟩
  · cases h
theorem lcK_cons {vs : List Nat} {g : GF} {t : BF} {e : EF} {ρ : Rho} {n : Nat} {full ys ds : List D} {d : D} {μ μe : Store} (h : lcK vs g t e ρ n full (d :: ds) μ = .ok ys μe) : ∃ ys1 μ1 ys2, lcL vs g t e ρ [d] μ = .ok ys1 μ1 ∧ lcK vs g t e ρ n full ds μ1 = .ok ys2 μe ∧ ys = ys1 ++ ys2 := by
  unfold lcK at h
  split at h
  · cases h1 : lcL vs g t e ρ [d] μ with
    | ok ys1 μ1 =>
      rw [h1] at h
      simp only [Res.bind] at h
      cases h2 : lcK vs g t e ρ n full ds μ1 with
      | ok ys2 μ2 => rw [h2] at h; cases h; exact ⟨ys1, μ1, ys2, rfl, h2, rfl⟩
      | ex x μ2 => rw [h2] at h; cases h
      | no => rw [h2] at h; cases h
    | ex x μ1 => rw [h1] at h; cases h
    | no => rw [h1] at h; cases h
  · cases h
variable [TabCtx]
section
variable {X : Cx} {W : WXD} {CX : CXT} {k : Nat}
theorem lco_read {f : EF} {vs vs0 : List Nat} {g : GF} {t : BF} {e : EF} (hv : ∀ i ∈ vs0, i ∈ vs) (σ : L2.St) (H : Hp) (Q : VK) (h : tL X.mg X.K W (lLcO vs f g t e) σ H Q) : tLc (iList X.K (tD X.mg X.K W f)) (tG X.mg X.K g vs0) (tBD X.mg X.K W0 t) (tD X.mg X.K W0 e) vs σ H Q := by
  obtain ⟨η, θ, μ, ρ, ok, rs, fin⟩ := h
  refine ⟨η, θ, μ, ρ, ok, rs, ?_⟩
  unfold lLcO at fin
  cases es : f ρ μ with
  | ex x μ' => rw [es] at fin; exact fin
  | no => rw [es] at fin; exact fin.elim
  | ok s μ1 =>
    rw [es] at fin
    simp only [Res.bind] at fin
    intro v H1 θ1 st rx
    split at fin
    · rename_i n
      split at fin
      · rename_i ds hm
        cases rx with
        | ob hn =>
          rename_i a
          obtain ⟨xs0, ex0, _⟩ := st.ok.at_ n a (.lst ds) hn hm
          refine ⟨a, rfl, ⟨xs0, SqL.of ex0⟩, fun D0 hD => ?_⟩
          obtain ⟨tot, μe, el, hz, fin⟩ := lCap_ok fin
          have hn' : D0 ∉ η := st.ok.fresh2 hD
          refine ⟨fun i m H => m = ds.length - i ∧ i ≤ ds.length ∧ ∃ θ μ acc ys, Gro X.mg X.K η D0 H1 θ1 H θ μ acc ∧ lcK vs g t e ρ n ds (ds.drop i) μ = .ok ys μe ∧ tot = acc ++ ys,
            ⟨ds.length, by simp, Nat.zero_le _, θ1, μ1, [], tot, Gro.start st.ok hD, by rw [List.drop_zero]; exact el, rfl⟩, ?_⟩
          rintro i m H2 ⟨rfl, hi, θ2, μ2, acc, ys, gr, hl, ht⟩
          obtain ⟨xs, ex, lx⟩ := gr.ok.at_ n a (.lst ds) (gr.pre n a hn) (lcK_live hl)
          by_cases hlt : i < ds.length
          · refine .inr ⟨⟨xs, xs[i]'(by rw [← lx.length]; exact hlt), SqL.of ex, by simp⟩, fun H => i + 1 ≤ ds.length ∧ ∃ θ μ acc ys, Gro X.mg X.K η D0 H1 θ1 H θ μ acc ∧ lcK vs g t e ρ n ds (ds.drop (i + 1)) μ = .ok ys μe ∧ tot = acc ++ ys, fun H' hN => ⟨ds.length - (i + 1), by omega, rfl, hN.1, hN.2⟩, fun x H3 y => ?_⟩
            obtain ⟨rfl, y⟩ := y
            obtain ⟨d, hd, rd⟩ := lx.getV i (y xs (SqL.of ex))
            rw [drop_cons hlt hd] at hl
            obtain ⟨ys1, μ3, ys2, q1, q2, q3⟩ := lcK_cons hl
            refine lc_turn (tail := ys2) hv hn' ((rs.step st).ext gr.ext gr.pre) gr rd q1 (by rw [List.append_assoc, ← q3, ← ht]; exact hz) fun H θ μ acc' ys' gr' hl' e' _ _ => ?_
            cases hl'
            rw [List.append_nil] at e'
            exact ⟨hlt, θ, _, acc', ys2, gr', q2, by rw [e', ht, q3, List.append_assoc]⟩
          · have e : i = ds.length := by omega
            subst e
            rw [List.drop_length] at hl
            obtain ⟨rfl, rfl⟩ := lcK_nil hl
            rw [List.append_nil] at ht
            subst ht
            exact .inl ⟨⟨xs, SqL.of ex, by rw [lx.length]; exact Nat.le_refl _⟩, gr.finish st hn' fin⟩
      · exact fin.elim
    · exact fin.elim
theorem pl_lcO {elt tg iter : Expr} {ifs : List Expr} {scope : Scope} {own : List (Str × Nat)} {pos : Pos} {f : EF} {g : GF} {vs0 : List Nat} {t : BF} {e : EF} (C : Cxb X CX W k) (hi : PEd X W iter f) (ok : BlkOk X.N X.env.scope scope own)
    (hg : ∀ (s : Shared) (H : Hp) (A : Addr) (cl : List (Str × Addr)) (fp : List Addr), PGd (X.blk s H scope (compEnvC scope cl A X.env) fp) tg g vs0)
    (ht : ∀ (s : Shared) (H : Hp) (A : Addr) (cl : List (Str × Addr)) (fp : List Addr), PTsd (X.blk s H scope (compEnvC scope cl A X.env) fp) W0 ifs t)
    (he : ∀ (s : Shared) (H : Hp) (A : Addr) (cl : List (Str × Addr)) (fp : List Addr), PEd (X.blk s H scope (compEnvC scope cl A X.env) fp) W0 elt e)
    (hv : ∀ i ∈ vs0, i ∈ own.map (·.2) := by decide) (hs : ∀ x, foldedSetIterable iter X.env x = pure x := by intro _; rfl) : PLd X W (.ListComp elt [⟨tg, iter, ifs, 0⟩] scope pos) (lLcO (own.map (·.2)) f g t e) :=
  PE.imp (pe_lc (wi := iList X.K (tD X.mg X.K W f)) (g := tG X.mg X.K g vs0) (tt := tBD X.mg X.K W0 t) (te := tD X.mg X.K W0 e) C.calm C.nd (pi_list hi) ok hg ht he hs) (lco_read hv)
end
end DL

set_option linter.all false
/-! DLConS: a module constant that is a text -/
namespace DL
open PySem PySem.Spec PyProof.Rows L2
theorem mkConS {mg : Str → Option Value} {K : PySem.W.Frag} {h : Heap} {n s : Str} {t : Tok} (X : K.In h) (G : h.Ns mainGlobals mg) (e : PySem.W.nsIn K mainGlobals n = some (some (.str s t))) : ∃ t, mg n = some (.str s t) := ⟨t, PySem.W.mg_of X G e⟩
end DL

set_option linter.all false
set_option maxRecDepth 100000
/-! PV: how plain functions are evaluated: rules for simp, loops -/
namespace DL
open PySem L2
variable {ρ : Rho} {μ μ1 : Store} {α β : Type}
@[simp] theorem rbind_ok (a : α) (g : α → Store → Res β) : (Res.ok a μ).bind g = g a μ := rfl
@[simp] theorem rout_ok (a : α) (g : α → Store → Out) : (Res.ok a μ).toOut ρ g = g a μ := rfl
@[simp] theorem then_nx (g : SF) : (Out.nx ρ μ).then g = g ρ μ := rfl
@[simp] theorem then_rt (s : Sl) (g : SF) : (Out.rt s μ).then g = .rt s μ := rfl
@[simp] theorem eV_eq (i : Nat) : eV i ρ μ = match ρ[i]? with
  | some (some s) => .ok s μ
  | _ => .no := rfl
@[simp] theorem eC_eq (d : D) : eC d ρ μ = .ok (.d d) μ := rfl
@[simp] theorem e1_eq (g : D → Option D) (fa : EF) : DL.e1 g fa ρ μ = (fa ρ μ).bind fun x μ1 => o1 g x μ1 := rfl
@[simp] theorem e2_eq (g : D → D → Option D) (fa fb : EF) : e2 g fa fb ρ μ = (fa ρ μ).bind fun x μ1 => (fb ρ μ1).bind fun y μ2 => o2 g x y μ2 := rfl
@[simp] theorem aNil_eq : aNil ρ μ = .ok [] μ := rfl
@[simp] theorem aCons_eq (fa : EF) (fr : AF) : aCons fa fr ρ μ = (fa ρ μ).bind fun x μ1 => (fr ρ μ1).bind fun xs μ2 => .ok (x :: xs) μ2 := rfl
@[simp] theorem eN_eq (g : List D → Option D) (fa : AF) : eN g fa ρ μ = (fa ρ μ).bind fun xs μ1 => oN g xs μ1 := rfl
@[simp] theorem dsOf_nil : dsOf [] = some [] := rfl
@[simp] theorem dsOf_cons (x : D) (r : List Sl) : dsOf (.d x :: r) = (dsOf r).map (x :: ·) := rfl
@[simp] theorem eTup_eq (fa : AF) : eTup fa ρ μ = (fa ρ μ).bind fun xs μ1 => match dsOf xs with
  | some ds => if ds.length ≤ 16777216 then .ok (.d (.tup ds)) μ1 else .no
  | none => .no := rfl
@[simp] theorem lLst_eq (fa : AF) : lLst fa ρ μ = (fa ρ μ).bind fun xs μ1 => match dsOf xs with
  | some ds => if ds.length ≤ 16777216 then .ok ds μ1 else .no
  | none => .no := rfl
@[simp] theorem eFrz_eq (f : LF) : eFrz f ρ μ = (f ρ μ).bind fun ds μ1 => .ok (.d (.lst ds)) μ1 := rfl
@[simp] theorem eNew_eq (f : LF) : eNew f ρ μ = (f ρ μ).bind fun ds μ1 => .ok (.ob μ1.length) (μ1 ++ [.lst ds]) := rfl
@[simp] theorem bV_eq (f : EF) : bV f ρ μ = (f ρ μ).bind fun x μ1 => match x with
  | .d (.bl b) => .ok b μ1
  | _ => .no := rfl
@[simp] theorem bAnd_eq (f g : BF) : bAnd f g ρ μ = (f ρ μ).bind fun c μ1 => if c = true then g ρ μ1 else .ok false μ1 := rfl
@[simp] theorem bOr_eq (f g : BF) : bOr f g ρ μ = (f ρ μ).bind fun c μ1 => if c = true then .ok true μ1 else g ρ μ1 := rfl
@[simp] theorem bNot_eq (f : BF) : bNot f ρ μ = (f ρ μ).bind fun c μ1 => .ok (!c) μ1 := rfl
@[simp] theorem bYes_eq : bYes ρ μ = .ok true μ := rfl
@[simp] theorem eAnd_eq (f g : EF) : eAnd f g ρ μ = (f ρ μ).bind fun x μ1 => match x with
  | .d (.bl true) => g ρ μ1
  | .d (.bl false) => .ok (.d (.bl false)) μ1
  | _ => .no := rfl
@[simp] theorem eOr_eq (f g : EF) : eOr f g ρ μ = (f ρ μ).bind fun x μ1 => match x with
  | .d (.bl true) => .ok (.d (.bl true)) μ1
  | .d (.bl false) => g ρ μ1
  | _ => .no := rfl
@[simp] theorem eNot_eq (f : EF) : eNot f ρ μ = (f ρ μ).bind fun x μ1 => match x with
  | .d (.bl b) => .ok (.d (.bl (!b))) μ1
  | _ => .no := rfl
@[simp] theorem eIf_eq (c : BF) (f g : EF) : eIf c f g ρ μ = (c ρ μ).bind fun b μ1 => if b = true then f ρ μ1 else g ρ μ1 := rfl
@[simp] theorem eChn_eq (g h : D → D → Option D) (fa fb fc : EF) : eChn g h fa fb fc ρ μ = (fa ρ μ).bind fun x μ1 => (fb ρ μ1).bind fun y μ2 => (o2 g x y μ2).bind fun r μ3 => match r with
  | .d (.bl true) => (fc ρ μ3).bind fun z μ4 => o2 h y z μ4
  | .d (.bl false) => .ok (.d (.bl false)) μ3
  | _ => .no := rfl
@[simp] theorem pNone_eq : pNone ρ μ = .ok none μ := rfl
@[simp] theorem pSome_eq (f : EF) : pSome f ρ μ = (f ρ μ).bind fun x μ1 => match x with
  | .d (.int i) => .ok (some i) μ1
  | _ => .no := rfl
@[simp] theorem eSl_eq (fa : EF) (lo hi : OF) : eSl fa lo hi ρ μ = (fa ρ μ).bind fun x μ1 => (lo ρ μ1).bind fun l μ2 => (hi ρ μ2).bind fun h μ3 => o1 (fun a => slD a l h) x μ3 := rfl
@[simp] theorem eIsI_eq (T : String) (f : EF) : eIsI T f ρ μ = (f ρ μ).bind fun x μ1 => o1 (isiD T) x μ1 := rfl
@[simp] theorem sNil_eq : sNil ρ μ = .nx ρ μ := rfl
@[simp] theorem sSeq_eq (f g : SF) : sSeq f g ρ μ = (f ρ μ).then g := rfl
@[simp] theorem sExp_eq (f : EF) : sExp f ρ μ = (f ρ μ).toOut ρ fun _ μ1 => .nx ρ μ1 := rfl
@[simp] theorem sRet_eq (f : EF) : sRet f ρ μ = (f ρ μ).toOut ρ fun s μ1 => .rt s μ1 := rfl
@[simp] theorem sIf_eq (c : BF) (f g : SF) : sIf c f g ρ μ = (c ρ μ).toOut ρ fun b μ1 => if b = true then f ρ μ1 else g ρ μ1 := rfl
@[simp] theorem sAsg_eq (f : EF) (g : GF) : sAsg f g ρ μ = (f ρ μ).toOut ρ fun s μ1 => match g s ρ with
  | some ρ' => .nx ρ' μ1
  | none => .no := rfl
@[simp] theorem sPar_eq (i j : Nat) (f g : EF) : sPar i j f g ρ μ = (f ρ μ).toOut ρ fun s μ1 => (g ρ μ1).toOut ρ fun t μ2 => .nx ((ρ.set i (some s)).set j (some t)) μ2 := rfl
@[simp] theorem sPar3_eq (i j l : Nat) (f g h : EF) : sPar3 i j l f g h ρ μ = (f ρ μ).toOut ρ fun s μ1 => (g ρ μ1).toOut ρ fun t μ2 => (h ρ μ2).toOut ρ fun u μ3 => .nx (((ρ.set i (some s)).set j (some t)).set l (some u)) μ3 := rfl
@[simp] theorem sNever_eq : sNever ρ μ = .no := rfl
@[simp] theorem sFor_eq (src : LF) (g : GF) (body : SF) : sFor src g body ρ μ = (src ρ μ).toOut ρ fun ds μ1 => forL g body ds ρ μ1 := rfl
@[simp] theorem sWhile_eq (n : Nat) (c : BF) (body : SF) : sWhile n c body ρ μ = whL c body n ρ μ := rfl
@[simp] theorem sSq_eq (f : EF) : sSq f ρ μ = (f ρ μ).bind fun x μ1 => match x with
  | .d (.lst ds) => .ok ds μ1
  | .d (.tup ds) => .ok ds μ1
  | _ => .no := rfl
def rngR (n : Int) (μ : Store) : Res (List D) := if n.natAbs ≤ 1000000 then .ok (rngL 0 n.toNat) μ else .no
@[simp] theorem sRng1_eq (f : EF) : sRng1 f ρ μ = (f ρ μ).bind fun x μ1 => match x with
  | .d (.int n) => rngR n μ1
  | _ => .no := rfl
@[simp] theorem sEnum_eq (f : EF) : sEnum f ρ μ = (f ρ μ).bind fun x μ1 => match x with
  | .d (.lst ds) => .ok (ds.mapIdx fun i d => .tup [.int (i : Nat), d]) μ1
  | .d (.tup ds) => .ok (ds.mapIdx fun i d => .tup [.int (i : Nat), d]) μ1
  | _ => .no := rfl
@[simp] theorem sZip_eq (f g : EF) : sZip f g ρ μ = (f ρ μ).bind fun x μ1 => (g ρ μ1).bind fun y μ2 => match seqD x, seqD y with
  | some a, some b => .ok (zipD a b) μ2
  | _, _ => .no := rfl
@[simp] theorem seqD_t (ds : List D) : seqD (.d (.tup ds)) = some ds := rfl
@[simp] theorem seqD_l (ds : List D) : seqD (.d (.lst ds)) = some ds := rfl
@[simp] theorem lLc_eq (vs : List Nat) (src : LF) (g : GF) (t : BF) (e : EF) : lLc vs src g t e ρ μ = (src ρ μ).bind fun ds μ1 => lCap (lcL vs g t e ρ ds μ1) := rfl
@[simp] theorem eCall_eq (n : Nat) (g : PF) (fa : AF) : eCall n g fa ρ μ = (fa ρ μ).bind fun ss μ1 => match dsOf ss with
  | some ds => if ds.length = n then (g ds).res μ1 else .no
  | none => .no := rfl
@[simp] theorem eCall0_eq (g : PF) : eCall0 g ρ μ = (g []).res μ := rfl
@[simp] theorem res_ok (d : D) : (PR.ok d).res μ = .ok (.d d) μ := rfl
@[simp] theorem gN_eq (i : Nat) (s : Sl) : gN i s ρ = some (ρ.set i (some s)) := rfl
@[simp] theorem gT_t (gs : List GF) (ds : List D) : gT gs (.d (.tup ds)) ρ = gLs gs ds ρ := rfl
@[simp] theorem gT_l (gs : List GF) (ds : List D) : gT gs (.d (.lst ds)) ρ = gLs gs ds ρ := rfl
@[simp] theorem gLs_nil : gLs [] [] ρ = some ρ := rfl
@[simp] theorem gLs_cons (g : GF) (gs : List GF) (d : D) (ds : List D) : gLs (g :: gs) (d :: ds) ρ = (g (.d d) ρ).bind fun ρ' => gLs gs ds ρ' := rfl
@[simp] theorem dr_d (x : D) : dr μ (.d x) = some x := rfl
@[simp] theorem drL_nil : drL μ [] = some [] := rfl
@[simp] theorem drL_cons (s : Sl) (r : List Sl) : drL μ (s :: r) = match dr μ s, drL μ r with
  | some d, some ds => some (d :: ds)
  | _, _ => none := rfl
@[simp] theorem o1_eq (g : D → Option D) (x : Sl) : o1 g x μ = match dr μ x with
  | some a => ofO ((g a).map Sl.d) μ
  | none => .no := rfl
@[simp] theorem o2_eq (g : D → D → Option D) (x y : Sl) : o2 g x y μ = match dr μ x, dr μ y with
  | some a, some b => ofO ((g a b).map Sl.d) μ
  | _, _ => .no := rfl
@[simp] theorem oN_eq (g : List D → Option D) (xs : List Sl) : oN g xs μ = match drL μ xs with
  | some ds => ofO ((g ds).map Sl.d) μ
  | none => .no := rfl
@[simp] theorem ofO_some (a : α) : ofO (some a) μ = .ok a μ := rfl
@[simp] theorem addD_i (i j : Int) : addD (.int i) (.int j) = some (.int (i + j)) := rfl
@[simp] theorem addD_t (a b : List D) : addD (.tup a) (.tup b) = if a.length + b.length ≤ 16777216 then some (.tup (a ++ b)) else none := rfl
@[simp] theorem addD_l (a b : List D) : addD (.lst a) (.lst b) = if a.length + b.length ≤ 16777216 then some (.lst (a ++ b)) else none := rfl
@[simp] theorem subD_i (i j : Int) : subD (.int i) (.int j) = some (.int (i - j)) := rfl
@[simp] theorem modD_i (i j : Int) : modD (.int i) (.int j) = if 0 < j then some (.int (i % j)) else none := rfl
@[simp] theorem fdivD_i (i j : Int) : fdivD (.int i) (.int j) = if 0 < j ∧ j.natAbs < 1073741824 then some (.int (i / j)) else none := rfl
@[simp] theorem negD_i (i : Int) : negD (.int i) = some (.int (-i)) := rfl
@[simp] theorem ltD_i (i j : Int) : ltD (.int i) (.int j) = some (.bl (decide (i < j))) := rfl
@[simp] theorem leD_i (i j : Int) : leD (.int i) (.int j) = some (.bl (decide (i ≤ j))) := rfl
@[simp] theorem gtD_i (i j : Int) : gtD (.int i) (.int j) = some (.bl (decide (i > j))) := rfl
@[simp] theorem geD_i (i j : Int) : geD (.int i) (.int j) = some (.bl (decide (i ≥ j))) := rfl
@[simp] theorem eqD_i (i j : Int) : eqD (.int i) (.int j) = some (.bl (decide (i = j))) := by
  unfold eqD; rw [if_pos ⟨rfl, rfl⟩]; rfl
@[simp] theorem neD_i (i j : Int) : neD (.int i) (.int j) = some (.bl (!decide (i = j))) := by
  unfold neD; rw [if_pos ⟨rfl, rfl⟩]; rfl
@[simp] theorem isD_nn : isD .non .non = some (.bl true) := rfl
@[simp] theorem isD_tn (ds : List D) : isD (.tup ds) .non = some (.bl false) := rfl
@[simp] theorem intD_i (i : Int) : intD [.int i] = some (.int i) := rfl
@[simp] theorem intD_b (b : Bool) : intD [.bl b] = some (.int (if b = true then 1 else 0)) := rfl
@[simp] theorem maxD_2 (i j : Int) : maxD [.int i, .int j] = some (.int (max i j)) := rfl
@[simp] theorem maxD_3 (i j k : Int) : maxD [.int i, .int j, .int k] = some (.int (max (max i j) k)) := rfl
@[simp] theorem lenD_t (ds : List D) : lenD [.tup ds] = some (.int ds.length) := rfl
@[simp] theorem lenD_l (ds : List D) : lenD [.lst ds] = some (.int ds.length) := rfl
@[simp] theorem tupleD_l (ds : List D) : tupleD [.lst ds] = some (.tup ds) := rfl
@[simp] theorem slD_t (ds : List D) (a b : Option Int) : slD (.tup ds) a b = some (.tup (cutD ds a b)) := rfl
@[simp] theorem ixD_t (ds : List D) (i : Int) : ixD (.tup ds) (.int i) = atI ds i := rfl
@[simp] theorem ixD_l (ds : List D) (i : Int) : ixD (.lst ds) (.int i) = atI ds i := rfl
theorem atI_nat {ds : List α} {k : Nat} : atI ds (k : Int) = ds[k]? := by
  unfold atI ixN
  rw [if_pos (by omega)]
  by_cases h : k < ds.length
  · rw [if_pos (by omega)]; simp
  · rw [if_neg (by omega)]; simp; omega
@[simp] theorem atI_natc (ds : List α) (k : Nat) : atI ds (k : Int) = ds[k]? := atI_nat
@[simp] theorem atI_0 (ds : List α) : atI ds (0 : Int) = ds[0]? := atI_nat (k := 0)
@[simp] theorem atI_1 (ds : List α) : atI ds (1 : Int) = ds[1]? := atI_nat (k := 1)
@[simp] theorem atI_2 (ds : List α) : atI ds (2 : Int) = ds[2]? := atI_nat (k := 2)
/-! ### loops -/
/-- a loop with a state: each turn goes on -/
theorem for_fold {γ σ : Type} {g : GF} {body : SF} {μ : Store} (enc : γ → D) (R : σ → Rho → Prop) (f : σ → γ → σ) : ∀ (xs : List γ) (b : σ) (ρ : Rho), (∀ x, x ∈ xs → ∀ b ρ, R b ρ → ∃ ρ1 ρ2, g (.d (enc x)) ρ = some ρ1 ∧ body ρ1 μ = .nx ρ2 μ ∧ R (f b x) ρ2) → R b ρ →
    ∃ ρ', forL g body (xs.map enc) ρ μ = .nx ρ' μ ∧ R (xs.foldl f b) ρ'
  | [], b, ρ, _, h => ⟨ρ, rfl, h⟩
  | x :: xs, b, ρ, st, h => by
    obtain ⟨ρ1, ρ2, h1, h2, h3⟩ := st x (List.mem_cons_self ..) b ρ h
    obtain ⟨ρ', h4, h5⟩ := for_fold enc R f xs _ ρ2 (fun y hy => st y (List.mem_cons_of_mem _ hy)) h3
    refine ⟨ρ', ?_, h5⟩
    rw [List.map_cons]
    unfold forL
    rw [h1]
    show (match body ρ1 μ with | .nx ρ' μ' => _ | .ct ρ' μ' => _ | .bk ρ' μ' => _ | .rt s μ' => _ | .ex x ρ' μ' => _ | .no => _) = _
    rw [h2]
    exact h4
/-- a loop that may end with a return -/
theorem for_ret {γ σ : Type} {g : GF} {body : SF} {μ : Store} (enc : γ → D) (R : σ → Rho → Prop) (f : σ → γ → σ) (p : σ → γ → Option Sl) : ∀ (xs : List γ) (b : σ) (ρ : Rho), (∀ x, x ∈ xs → ∀ b ρ, R b ρ → ∃ ρ1, g (.d (enc x)) ρ = some ρ1 ∧ ((∃ s, p b x = some s ∧ body ρ1 μ = .rt s μ) ∨ (p b x = none ∧ ∃ ρ2, body ρ1 μ = .nx ρ2 μ ∧ R (f b x) ρ2))) → R b ρ →
    (∃ i s x, xs[i]? = some x ∧ p ((xs.take i).foldl f b) x = some s ∧ forL g body (xs.map enc) ρ μ = .rt s μ) ∨ ((∀ (i : Nat) (x : γ), xs[i]? = some x → p ((xs.take i).foldl f b) x = none) ∧ ∃ ρ', forL g body (xs.map enc) ρ μ = .nx ρ' μ ∧ R (xs.foldl f b) ρ')
  | [], b, ρ, _, h => .inr ⟨fun i x h => by simp at h, ρ, rfl, h⟩
  | x :: xs, b, ρ, st, h => by
    obtain ⟨ρ1, h1, ⟨s, h2, h3⟩ | ⟨h2, ρ2, h3, h4⟩⟩ := st x (List.mem_cons_self ..) b ρ h
    · refine .inl ⟨0, s, x, rfl, h2, ?_⟩
      rw [List.map_cons]
      unfold forL
      rw [h1]
      show (match body ρ1 μ with | .nx ρ' μ' => _ | .ct ρ' μ' => _ | .bk ρ' μ' => _ | .rt s μ' => _ | .ex x ρ' μ' => _ | .no => _) = _
      rw [h3]
    · have e : forL g body ((x :: xs).map enc) ρ μ = forL g body (xs.map enc) ρ2 μ := by
        rw [List.map_cons]
        conv => lhs; unfold forL
        rw [h1]
        show (match body ρ1 μ with | .nx ρ' μ' => _ | .ct ρ' μ' => _ | .bk ρ' μ' => _ | .rt s μ' => _ | .ex x ρ' μ' => _ | .no => _) = _
        rw [h3]
      rw [e]
      rcases for_ret enc R f p xs _ ρ2 (fun y hy => st y (List.mem_cons_of_mem _ hy)) h4 with ⟨i, s, y, k1, k2, k3⟩ | ⟨k1, k2⟩
      · exact .inl ⟨i + 1, s, y, k1, k2, k3⟩
      · refine .inr ⟨fun i y hi => ?_, k2⟩
        cases i with
        | zero => cases hi; exact h2
        | succ i => exact k1 i y hi
/-- a comprehension without a test -/
theorem lc_map {γ : Type} {vs : List Nat} {g : GF} {e : EF} {ρ : Rho} {μ : Store} (enc : γ → D) (f : γ → D) : ∀ (xs : List γ), (∀ x, x ∈ xs → ∃ ρ1, g (.d (enc x)) (wipeR ρ vs) = some ρ1 ∧ e ρ1 μ = .ok (.d (f x)) μ) → lcL vs g bYes e ρ (xs.map enc) μ = .ok (xs.map f) μ
  | [], _ => rfl
  | x :: xs, st => by
    obtain ⟨ρ1, h1, h2⟩ := st x (List.mem_cons_self ..)
    have ih := lc_map (vs := vs) (g := g) (e := e) (ρ := ρ) (μ := μ) enc f xs fun y hy => st y (List.mem_cons_of_mem _ hy)
    simp only [List.map_cons, lcL, h1, bYes_eq, h2, ih]
/-- a comprehension with a test -/
theorem lc_filter {γ : Type} {vs : List Nat} {g : GF} {t : BF} {e : EF} {ρ : Rho} {μ : Store} (enc : γ → D) (p : γ → Bool) (f : γ → D) : ∀ (xs : List γ), (∀ x, x ∈ xs → ∃ ρ1, g (.d (enc x)) (wipeR ρ vs) = some ρ1 ∧ t ρ1 μ = .ok (p x) μ ∧ (p x = true → e ρ1 μ = .ok (.d (f x)) μ)) → lcL vs g t e ρ (xs.map enc) μ = .ok ((xs.filter p).map f) μ
  | [], _ => rfl
  | x :: xs, st => by
    obtain ⟨ρ1, h1, h2, h3⟩ := st x (List.mem_cons_self ..)
    have ih := lc_filter (vs := vs) (g := g) (t := t) (e := e) (ρ := ρ) (μ := μ) enc p f xs fun y hy => st y (List.mem_cons_of_mem _ hy)
    cases hp : p x with
    | false =>
      rw [List.filter_cons_of_neg (by simp [hp])]
      simp only [List.map_cons, lcL, h1, h2, hp, ih]
    | true =>
      rw [List.filter_cons_of_pos hp]
      simp only [List.map_cons, lcL, h1, h2, hp, h3 hp, ih]
@[simp] theorem lcap_ok (ys : List D) : lCap (.ok ys μ) = if ys.length ≤ 16777216 then .ok ys μ else .no := rfl
theorem rngL_map : ∀ (n : Nat) (lo : Nat), rngL lo n = (List.range' lo n).map fun i => D.int (i : Nat)
  | 0, _ => rfl
  | n + 1, lo => by
    rw [List.range'_succ, List.map_cons, ← rngL_map n (lo + 1)]
    rfl
theorem rngL0 (n : Nat) : rngL 0 n = (List.range n).map fun i => D.int (i : Nat) := by
  have := rngL_map n 0
  rw [List.range_eq_range']
  exact this
/-- members among ints -/
theorem beq_ii (i j : Int) : D.beq (.int i) (.int j) = decide (i = j) := rfl
theorem flat_ints (ns : List Int) : (ns.map D.int).all D.flat = true := by simp [D.flat]
theorem cmp_ints : ∀ ns : List Int, cmpOkL (ns.map D.int) = true
  | [] => rfl
  | n :: r => by simp [cmpOkL, D.cmpOk, cmp_ints r]
theorem deep_ints : ∀ ns : List Int, deepL (ns.map D.int) = 0
  | [] => rfl
  | n :: r => by simp [deepL, D.deep, deep_ints r]
theorem memD_t (i : Int) (ns : List Int) : memD (.int i) (.tup (ns.map .int)) = some (decide (i ∈ ns)) := by
  show (if (D.int i).flat = true ∧ (ns.map D.int).all D.flat = true then some ((ns.map D.int).any fun z => D.beq z (.int i)) else none) = _
  rw [if_pos ⟨rfl, flat_ints ns⟩, List.any_map]
  congr 1
  rw [Bool.eq_iff_iff]
  simp [beq_ii]
theorem shaped_ints (ns : List Int) : (D.lst (ns.map .int)).shaped = true := by simp [D.shaped, D.cmpOk, D.deep, cmp_ints, deep_ints]
theorem memD_l (i : Int) (ns : List Int) : memD (.int i) (.lst (ns.map .int)) = some (decide (i ∈ ns)) := by
  show (if (D.int i).shaped = true ∧ (D.lst (ns.map .int)).shaped = true then some ((ns.map D.int).any fun z => D.beq z (.int i)) else none) = _
  rw [if_pos ⟨rfl, shaped_ints ns⟩, List.any_map]
  congr 1
  rw [Bool.eq_iff_iff]
  simp [beq_ii]
end DL

set_option linter.all false
set_option maxRecDepth 100000
/-! NmRun: the label of an error, by evaluation -/
namespace DL
open PySem L2
section
variable {ρ : Rho} {μ : Store}
theorem eIsE_eq (i : Nat) (t : CTok) (b : Bool) : eIsE i t b ρ μ = match ρ[i]? with
  | some (some (.clo t')) => open Classical in if t' = t then .ok (.d (.bl b)) μ else .no
  | _ => .no := rfl
theorem lSplit_eq (fa fb : EF) : lSplit fa fb ρ μ = (fa ρ μ).bind fun x μ1 => match x with
  | .d (.str a) => (fb ρ μ1).bind fun y μ2 => match y with
    | .d (.str b) => if (b.length == 0) = false ∧ a.length + 2 ≤ 16777216 then .ok ((Txt.split a b).map .str) μ2 else .no
    | _ => .no
  | _ => .no := rfl
theorem eJoin_eq (fa fb : EF) : eJoin fa fb ρ μ = (fa ρ μ).bind fun x μ1 => match x with
  | .d (.str a) => (fb ρ μ1).bind fun y μ2 => match dr μ2 y with
    | some (.lst ds) => match strsOf ds with
      | some ys => if (ys.map (·.length)).sum + ys.length * a.length ≤ 16777216 then .ok (.d (.str (Txt.join a ys))) μ2 else .no
      | none => .no
    | _ => .no
  | _ => .no := rfl
theorem lCat_eq (fa fb : EF) : lCat fa fb ρ μ = (fa ρ μ).bind fun x μ1 => (fb ρ μ1).bind fun y μ2 => match dr μ2 x, dr μ2 y with
  | some (.lst a), some (.lst b) => if a.length + b.length ≤ 16777216 then .ok (a ++ b) μ2 else .no
  | _, _ => .no := rfl
theorem sZipL_eq (f g : EF) : sZipL f g ρ μ = (f ρ μ).bind fun x μ1 => (g ρ μ1).bind fun y μ2 => match lstD μ2 x, lstD μ2 y with
  | some a, some b => .ok (zipD a b) μ2
  | _, _ => .no := rfl
theorem labs_split : Txt.split "web choice lots tie place number pairs text unlike none undo many" " " = (["web", "choice", "lots", "tie", "place", "number", "pairs", "text", "unlike", "none", "undo", "many"] : List Str) := by decide +kernel
theorem sp_len : Str.length " " = 1 := by decide +kernel
theorem labs_len : (Str.length "web choice lots tie place number pairs text unlike none undo many") = 65 := by decide +kernel
end
end DL

set_option linter.all false
/-! LV: ties chosen within limits, stretches for the sums: what is missed at least is what some lots overdraw (plain mathematics) -/
namespace LV
/-! ### sums -/
def sm (f : Nat → Int) : Nat → Int
  | 0 => 0
  | n + 1 => sm f n + f n
theorem sm_congr {f g : Nat → Int} : ∀ {n : Nat}, (∀ i, i < n → f i = g i) → sm f n = sm g n
  | 0, _ => rfl
  | n + 1, h => by simp only [sm]; rw [sm_congr fun i hi => h i (by omega), h n (by omega)]
theorem sm_add (f g : Nat → Int) : ∀ n : Nat, sm (fun i => f i + g i) n = sm f n + sm g n
  | 0 => rfl
  | n + 1 => by simp only [sm]; rw [sm_add f g n]; omega
theorem sm_sub (f g : Nat → Int) : ∀ n : Nat, sm (fun i => f i - g i) n = sm f n - sm g n
  | 0 => rfl
  | n + 1 => by simp only [sm]; rw [sm_sub f g n]; omega
theorem sm_le {f g : Nat → Int} : ∀ {n : Nat}, (∀ i, i < n → f i ≤ g i) → sm f n ≤ sm g n
  | 0, _ => Int.le_refl _
  | n + 1, h => by
    simp only [sm]
    have h1 := sm_le (n := n) fun i hi => h i (by omega)
    have h2 := h n (by omega)
    omega
theorem sm_zero {f : Nat → Int} {n : Nat} (h : ∀ i, i < n → f i = 0) : sm f n = 0 := by
  induction n with
  | zero => rfl
  | succ n ih => simp only [sm]; rw [ih fun i hi => h i (by omega), h n (by omega)]; rfl
theorem sm_nn {f : Nat → Int} {n : Nat} (h : ∀ i, i < n → 0 ≤ f i) : 0 ≤ sm f n := by
  have := sm_le (f := fun _ => 0) (g := f) h
  rw [sm_zero (fun _ _ => rfl)] at this
  exact this
theorem sm_mul (k : Int) (f : Nat → Int) : ∀ n : Nat, sm (fun i => k * f i) n = k * sm f n
  | 0 => by simp [sm]
  | n + 1 => by simp only [sm]; rw [sm_mul k f n, Int.mul_add]
theorem sm_comm (f : Nat → Nat → Int) (m : Nat) : ∀ n : Nat, sm (fun i => sm (fun j => f i j) m) n = sm (fun j => sm (fun i => f i j) n) m
  | 0 => by simp only [sm]; rw [sm_zero]; intro _ _; rfl
  | n + 1 => by
    simp only [sm]
    rw [sm_comm f m n, ← sm_add]
/-- one place alone -/
theorem sm_pt {k : Nat} (d : Int) : ∀ {n : Nat}, sm (fun i => if i = k then d else 0) n = if k < n then d else 0
  | 0 => by simp [sm]
  | n + 1 => by
    simp only [sm]
    rw [sm_pt d (n := n)]
    by_cases h1 : k < n
    · rw [if_pos h1, if_neg (by omega), if_pos (by omega)]; omega
    · by_cases h2 : n = k
      · subst h2; rw [if_neg h1, if_pos rfl, if_pos (by omega)]; omega
      · rw [if_neg h1, if_neg h2, if_neg (by omega)]; rfl
theorem sm_at {f : Nat → Int} {n k : Nat} (hk : k < n) (h : ∀ i, i < n → 0 ≤ f i) : f k ≤ sm f n := by
  have h1 : sm (fun i => if i = k then f k else 0) n ≤ sm f n := sm_le fun i hi => by
    by_cases e : i = k
    · subst e; rw [if_pos rfl]; exact Int.le_refl _
    · rw [if_neg e]; exact h i hi
  rw [sm_pt, if_pos hk] at h1
  exact h1
theorem sm_ex {f g : Nat → Int} {n : Nat} (h : sm f n < sm g n) : ∃ i, i < n ∧ f i < g i := by
  false_or_by_contra
  rename_i hn
  have := sm_le (f := g) (g := f) (n := n) fun i hi => by
    false_or_by_contra
    rename_i q
    exact hn ⟨i, hi, by omega⟩
  omega
theorem sm_tight {f g : Nat → Int} {n : Nat} (h : ∀ i, i < n → f i ≤ g i) (e : sm g n ≤ sm f n) : ∀ i, i < n → f i = g i := by
  intro i hi
  have h1 := sm_at (f := fun i => g i - f i) hi fun j hj => by have := h j hj; omega
  rw [sm_sub] at h1
  have h2 := h i hi
  omega
theorem sm_split {f : Nat → Int} {n k : Nat} (hk : k < n) : sm f n = sm (fun i => if i = k then 0 else f i) n + f k := by
  have h1 : sm f n = sm (fun i => (if i = k then 0 else f i) + (if i = k then f k else 0)) n := sm_congr fun i _ => by
    by_cases e : i = k
    · subst e; simp
    · simp [e]
  rw [h1, sm_add, sm_pt, if_pos hk]

/-! ### webs of ties -/
structure Gr where
  n : Nat
  m : Nat
  a : Nat → Nat
  b : Nat → Nat
  ha : ∀ i, i < m → a i < n
  hb : ∀ i, i < m → b i < n
  hab : ∀ i, i < m → a i ≠ b i
/-- 1 at v -/
def e1 (v u : Nat) : Int := if u = v then 1 else 0
def deg (G : Gr) (x : Nat → Int) (v : Nat) : Int := sm (fun i => (if G.a i = v then x i else 0) + (if G.b i = v then x i else 0)) G.m
def Cho (G : Gr) (c x : Nat → Int) : Prop := ∀ i, i < G.m → 0 ≤ x i ∧ x i ≤ c i
def bump (x : Nat → Int) (i : Nat) (d : Int) : Nat → Int := fun j => if j = i then x j + d else x j
theorem deg_bump (G : Gr) (x : Nat → Int) {i : Nat} (hi : i < G.m) (d : Int) (v : Nat) : deg G (bump x i d) v = deg G x v + d * e1 (G.a i) v + d * e1 (G.b i) v := by
  have h1 : deg G (bump x i d) v = sm (fun j => ((if G.a j = v then x j else 0) + (if G.b j = v then x j else 0)) + (if j = i then d * e1 (G.a i) v + d * e1 (G.b i) v else 0)) G.m := sm_congr fun j _ => by
    by_cases e : j = i
    · subst e
      unfold bump e1
      rw [if_pos rfl, if_pos rfl]
      by_cases h1 : G.a j = v <;> by_cases h2 : G.b j = v
      · rw [if_pos h1, if_pos h2, if_pos h1, if_pos h2, if_pos h1.symm, if_pos h2.symm]; omega
      · rw [if_pos h1, if_neg h2, if_pos h1, if_neg h2, if_pos h1.symm, if_neg (Ne.symm h2)]; omega
      · rw [if_neg h1, if_pos h2, if_neg h1, if_pos h2, if_neg (Ne.symm h1), if_pos h2.symm]; omega
      · rw [if_neg h1, if_neg h2, if_neg h1, if_neg h2, if_neg (Ne.symm h1), if_neg (Ne.symm h2)]; omega
    · unfold bump
      rw [if_neg e, if_neg e]; omega
  rw [h1, sm_add, sm_pt, if_pos hi]
  unfold deg
  omega
/-- how far two choices lie apart -/
def dist (x y : Nat → Int) : Nat → Nat
  | 0 => 0
  | n + 1 => dist x y n + (x n - y n).natAbs
theorem dist_out {x y : Nat → Int} {i : Nat} {d : Int} : ∀ {n : Nat}, n ≤ i → dist (bump x i d) y n = dist x y n
  | 0, _ => rfl
  | n + 1, h => by
    simp only [dist]
    rw [dist_out (n := n) (by omega)]
    unfold bump
    rw [if_neg (by omega)]
theorem dist_up {x y : Nat → Int} {i : Nat} (h : x i < y i) : ∀ {n : Nat}, i < n → dist (bump x i 1) y n + 1 = dist x y n
  | n + 1, hi => by
    simp only [dist]
    by_cases e : n = i
    · subst e
      rw [dist_out (Nat.le_refl _)]
      unfold bump
      rw [if_pos rfl]
      omega
    · have := dist_up h (n := n) (by omega)
      unfold bump at this ⊢
      rw [if_neg e]
      omega
theorem dist_down {x y : Nat → Int} {i : Nat} (h : y i < x i) : ∀ {n : Nat}, i < n → dist (bump x i (-1)) y n + 1 = dist x y n
  | n + 1, hi => by
    simp only [dist]
    by_cases e : n = i
    · subst e
      rw [dist_out (Nat.le_refl _)]
      unfold bump
      rw [if_pos rfl]
      omega
    · have := dist_down h (n := n) (by omega)
      unfold bump at this ⊢
      rw [if_neg e]
      omega
/-- z lies between x and y -/
def Btw (G : Gr) (x y z : Nat → Int) : Prop := ∀ i, i < G.m → (x i ≤ z i ∧ z i ≤ y i) ∨ (y i ≤ z i ∧ z i ≤ x i)
theorem Btw.up {G : Gr} {x y z : Nat → Int} {i : Nat} (h : Btw G x y z) (hi : z i < y i) : Btw G x y (bump z i 1) := fun j hj => by
  have := h j hj
  unfold bump
  by_cases e : j = i
  · subst e; rw [if_pos rfl]; omega
  · rw [if_neg e]; exact this
theorem Btw.down {G : Gr} {x y z : Nat → Int} {i : Nat} (h : Btw G x y z) (hi : y i < z i) : Btw G x y (bump z i (-1)) := fun j hj => by
  have := h j hj
  unfold bump
  by_cases e : j = i
  · subst e; rw [if_pos rfl]; omega
  · rw [if_neg e]; exact this
/-- a tie at w where y has more: its other end -/
theorem more_at {G : Gr} {z y : Nat → Int} {w : Nat} (h : deg G z w < deg G y w) : ∃ i t, i < G.m ∧ t < G.n ∧ t ≠ w ∧ z i < y i ∧ (∀ v, e1 (G.a i) v + e1 (G.b i) v = e1 w v + e1 t v) ∧ ((G.a i = w ∧ G.b i = t) ∨ (G.b i = w ∧ G.a i = t)) := by
  obtain ⟨i, hi, q⟩ := sm_ex h
  have n1 := G.hab i hi
  by_cases h1 : G.a i = w
  · have h2 : ¬ G.b i = w := fun e => n1 (h1.trans e.symm)
    rw [if_pos h1, if_neg h2, if_pos h1, if_neg h2] at q
    exact ⟨i, G.b i, hi, G.hb i hi, h2, by omega, fun v => by rw [h1], .inl ⟨h1, rfl⟩⟩
  · by_cases h2 : G.b i = w
    · rw [if_neg h1, if_pos h2, if_neg h1, if_pos h2] at q
      exact ⟨i, G.a i, hi, G.ha i hi, h1, by omega, fun v => by rw [h2]; omega, .inr ⟨h2, rfl⟩⟩
    · rw [if_neg h1, if_neg h2, if_neg h1, if_neg h2] at q
      omega
def sg (s : Bool) : Int := if s = true then 1 else -1
theorem e1_self (v : Nat) : e1 v v = 1 := by unfold e1; rw [if_pos rfl]
theorem e1_ne {v u : Nat} (h : u ≠ v) : e1 v u = 0 := by unfold e1; rw [if_neg h]
theorem e1_01 (v u : Nat) : e1 v u = 0 ∨ e1 v u = 1 := by unfold e1; split <;> simp
/-- one goes on, by turns up and down, till one may stop -/
theorem walk {G : Gr} {x y : Nat → Int} {v : Nat} : ∀ (N : Nat) (z : Nat → Int) (w : Nat) (s : Bool), dist z y G.m ≤ N → Btw G x y z → w < G.n → (∀ u, deg G z u = deg G x u + e1 v u + sg s * e1 w u) →
    ∃ z' w' s', Btw G x y z' ∧ w' < G.n ∧ (∀ u, deg G z' u = deg G x u + e1 v u + sg s' * e1 w' u) ∧ (s' = true → deg G z' w' ≤ deg G y w') ∧ (s' = false → deg G y w' ≤ deg G z' w') := by
  intro N
  induction N with
  | zero =>
    intro z w s hd hb hw hz
    cases s with
    | true =>
      by_cases h : deg G z w ≤ deg G y w
      · exact ⟨z, w, true, hb, hw, hz, fun _ => h, fun e => by cases e⟩
      · obtain ⟨i, t, hi, _, _, q, _⟩ := more_at (G := G) (z := y) (y := z) (w := w) (by omega)
        have := dist_down q hi
        omega
    | false =>
      by_cases h : deg G y w ≤ deg G z w
      · exact ⟨z, w, false, hb, hw, hz, (fun e => by cases e), fun _ => h⟩
      · obtain ⟨i, t, hi, _, _, q, _⟩ := more_at (G := G) (z := z) (y := y) (w := w) (by omega)
        have := dist_up q hi
        omega
  | succ N ih =>
    intro z w s hd hb hw hz
    cases s with
    | true =>
      by_cases h : deg G z w ≤ deg G y w
      · exact ⟨z, w, true, hb, hw, hz, fun _ => h, fun e => by cases e⟩
      · obtain ⟨i, t, hi, ht, _, q, ed, _⟩ := more_at (G := G) (z := y) (y := z) (w := w) (by omega)
        have := dist_down q hi
        refine ih (bump z i (-1)) t false (by omega) (hb.down q) ht fun u => ?_
        rw [deg_bump G z hi, hz u]
        have := ed u
        simp only [sg, if_true, Bool.false_eq_true, if_false]
        omega
    | false =>
      by_cases h : deg G y w ≤ deg G z w
      · exact ⟨z, w, false, hb, hw, hz, (fun e => by cases e), fun _ => h⟩
      · obtain ⟨i, t, hi, ht, _, q, ed, _⟩ := more_at (G := G) (z := z) (y := y) (w := w) (by omega)
        have := dist_up q hi
        refine ih (bump z i 1) t true (by omega) (hb.up q) ht fun u => ?_
        rw [deg_bump G z hi, hz u]
        have := ed u
        simp only [sg, if_true, Bool.false_eq_true, if_false]
        omega
theorem Btw.cho {G : Gr} {c x y z : Nat → Int} (h : Btw G x y z) (hx : Cho G c x) (hy : Cho G c y) : Cho G c z := fun i hi => by
  have h1 := h i hi; have h2 := hx i hi; have h3 := hy i hi
  omega
theorem Btw.cho' {G : Gr} {c x y z : Nat → Int} (h : Btw G x y z) (hx : Cho G c x) (hy : Cho G c y) : Cho G c (fun i => x i + y i - z i) := fun i hi => by
  have h1 := h i hi; have h2 := hx i hi; have h3 := hy i hi
  show 0 ≤ x i + y i - z i ∧ x i + y i - z i ≤ c i
  omega
theorem deg_rest (G : Gr) (x y z : Nat → Int) (v : Nat) : deg G (fun i => x i + y i - z i) v = deg G x v + deg G y v - deg G z v := by
  unfold deg
  rw [← sm_add, ← sm_sub]
  refine sm_congr fun i _ => ?_
  show (if G.a i = v then x i + y i - z i else 0) + (if G.b i = v then x i + y i - z i else 0) = _
  split <;> split <;> omega
/-- how far a sum lies from its stretch -/
def phi (l u p : Int) : Int := max 0 (l - p) + max 0 (p - u)
theorem phi_nn (l u p : Int) : 0 ≤ phi l u p := by unfold phi; omega
theorem phi_conv {l u p q : Int} (hlu : l ≤ u) (h : p + 1 ≤ q) : phi l u (p + 1) + phi l u (q - 1) ≤ phi l u p + phi l u q := by unfold phi; omega
/-- THE EXCHANGE: two choices come nearer -/
theorem exch {G : Gr} {c x y : Nat → Int} {v : Nat} (hx : Cho G c x) (hy : Cho G c y) (hv : v < G.n) (h : deg G x v < deg G y v) :
    ∃ z y' w s, Cho G c z ∧ Cho G c y' ∧ w < G.n ∧ (∀ u, deg G z u = deg G x u + e1 v u + sg s * e1 w u) ∧ (∀ u, deg G y' u = deg G y u - e1 v u - sg s * e1 w u) ∧
      ((w = v ∧ s = true ∧ deg G x v + 2 ≤ deg G y v) ∨ (w ≠ v ∧ ((s = true ∧ deg G x w + 1 ≤ deg G y w) ∨ (s = false ∧ deg G y w + 1 ≤ deg G x w)))) := by
  obtain ⟨i, t, hi, ht, _, q, ed, _⟩ := more_at h
  have b0 : Btw G x y x := fun j hj => by omega
  obtain ⟨z, w, s, hb, hw, hz, k1, k2⟩ := walk (G := G) (x := x) (y := y) (v := v) _ (bump x i 1) t true (Nat.le_refl _) (b0.up q) ht fun u => by
    rw [deg_bump G x hi]
    have := ed u
    simp only [sg, if_true]
    omega
  refine ⟨z, _, w, s, hb.cho hx hy, hb.cho' hx hy, hw, hz, fun u => by rw [deg_rest, hz u]; omega, ?_⟩
  have zw := hz w
  cases s with
  | true =>
    have := k1 rfl
    simp only [sg, if_true, e1_self] at zw
    by_cases e : w = v
    · subst e; rw [e1_self] at zw; exact .inl ⟨rfl, rfl, by omega⟩
    · rw [e1_ne e] at zw; exact .inr ⟨e, .inl ⟨rfl, by omega⟩⟩
  | false =>
    have := k2 rfl
    simp only [sg, Bool.false_eq_true, if_false, e1_self] at zw
    by_cases e : w = v
    · subst e; rw [e1_self] at zw; exact absurd h (by omega)
    · rw [e1_ne e] at zw; exact .inr ⟨e, .inr ⟨rfl, by omega⟩⟩
theorem exch_conv {G : Gr} {l u x y z y' : Nat → Int} {v w : Nat} {s : Bool} (hlu : ∀ t, t < G.n → l t ≤ u t) (hz : ∀ u, deg G z u = deg G x u + e1 v u + sg s * e1 w u) (hy : ∀ u, deg G y' u = deg G y u - e1 v u - sg s * e1 w u)
    (h : (w = v ∧ s = true ∧ deg G x v + 2 ≤ deg G y v) ∨ (w ≠ v ∧ ((s = true ∧ deg G x w + 1 ≤ deg G y w) ∨ (s = false ∧ deg G y w + 1 ≤ deg G x w)))) {t : Nat} (ht : t < G.n) (ne : t ≠ v) :
    phi (l t) (u t) (deg G z t) + phi (l t) (u t) (deg G y' t) ≤ phi (l t) (u t) (deg G x t) + phi (l t) (u t) (deg G y t) := by
  rw [hz t, hy t, e1_ne ne]
  by_cases e : t = w
  · subst e
    rw [e1_self]
    rcases h with ⟨h, _⟩ | ⟨_, ⟨rfl, h⟩ | ⟨rfl, h⟩⟩
    · exact absurd h ne
    · simp only [sg, if_true]
      have := phi_conv (hlu t ht) h
      rw [show deg G x t + 0 + 1 * 1 = deg G x t + 1 by omega, show deg G y t - 0 - 1 * 1 = deg G y t - 1 by omega]
      exact this
    · simp only [sg, Bool.false_eq_true, if_false]
      have := phi_conv (hlu t ht) h
      rw [show deg G x t + 0 + -1 * 1 = deg G x t - 1 by omega, show deg G y t - 0 - -1 * 1 = deg G y t + 1 by omega]
      omega
  · rw [e1_ne e]
    rw [show deg G x t + 0 + sg s * 0 = deg G x t by omega, show deg G y t - 0 - sg s * 0 = deg G y t by omega]
    exact Int.le_refl _
end LV

set_option linter.all false
/-! LVB: misses, optimal choices, what a place that is never low (never high) allows -/
namespace LV
def miss (G : Gr) (l u : Nat → Int) (x : Nat → Int) : Int := sm (fun t => phi (l t) (u t) (deg G x t)) G.n
def rr (G : Gr) (l u : Nat → Int) (v : Nat) (x : Nat → Int) : Int := sm (fun t => if t = v then 0 else phi (l t) (u t) (deg G x t)) G.n
theorem miss_rr {G : Gr} {l u x : Nat → Int} {v : Nat} (hv : v < G.n) : miss G l u x = rr G l u v x + phi (l v) (u v) (deg G x v) := sm_split hv
def Opt (G : Gr) (c l u x : Nat → Int) : Prop := Cho G c x ∧ ∀ y, Cho G c y → miss G l u x ≤ miss G l u y
theorem miss_nn (G : Gr) (l u x : Nat → Int) : 0 ≤ miss G l u x := sm_nn fun _ _ => phi_nn _ _ _
theorem opt_ex {G : Gr} {c l u : Nat → Int} (hc : ∀ i, i < G.m → 0 ≤ c i) : ∃ x, Opt G c l u x := by
  have key : ∀ (N : Nat) (x : Nat → Int), Cho G c x → miss G l u x ≤ N → ∃ x, Opt G c l u x := by
    intro N
    induction N with
    | zero => intro x hx h; exact ⟨x, hx, fun y _ => by have := miss_nn G l u y; omega⟩
    | succ N ih =>
      intro x hx h
      by_cases q : ∃ y, Cho G c y ∧ miss G l u y < miss G l u x
      · obtain ⟨y, hy, h2⟩ := q
        exact ih y hy (by omega)
      · exact ⟨x, hx, fun y hy => by
          false_or_by_contra
          rename_i k
          exact q ⟨y, hy, by omega⟩⟩
  exact key (miss G l u (fun _ => 0)).toNat (fun _ => 0) (fun i hi => ⟨Int.le_refl _, hc i hi⟩) (by have := miss_nn G l u (fun _ => 0); omega)
theorem rr_congr {G : Gr} {l u x y : Nat → Int} {v : Nat} (h : ∀ t, t ≠ v → deg G x t = deg G y t) : rr G l u v x = rr G l u v y := sm_congr fun t _ => by
  by_cases e : t = v
  · rw [if_pos e, if_pos e]
  · rw [if_neg e, if_neg e, h t e]
/-- the exchange, told in misses -/
theorem exch_rr {G : Gr} {c l u x y : Nat → Int} {v : Nat} (hlu : ∀ t, t < G.n → l t ≤ u t) (hx : Cho G c x) (hy : Cho G c y) (hv : v < G.n) (h : deg G x v < deg G y v) :
    ∃ z y', Cho G c z ∧ Cho G c y' ∧
      ((∃ w s, w < G.n ∧ w ≠ v ∧ (∀ t, deg G z t = deg G x t + e1 v t + sg s * e1 w t) ∧ (∀ t, deg G y' t = deg G y t - e1 v t - sg s * e1 w t) ∧ deg G z v = deg G x v + 1 ∧ deg G y' v = deg G y v - 1 ∧ rr G l u v z + rr G l u v y' ≤ rr G l u v x + rr G l u v y) ∨
       (deg G x v + 2 ≤ deg G y v ∧ deg G z v = deg G x v + 2 ∧ deg G y' v = deg G y v - 2 ∧ (∀ t, t ≠ v → deg G z t = deg G x t) ∧ (∀ t, t ≠ v → deg G y' t = deg G y t))) := by
  obtain ⟨z, y', w, s, hz, hy', hw, ez, ey, k⟩ := exch hx hy hv h
  refine ⟨z, y', hz, hy', ?_⟩
  have zv := ez v
  have yv := ey v
  rw [e1_self] at zv yv
  rcases k with ⟨rfl, rfl, h2⟩ | ⟨ne, k⟩
  · right
    rw [e1_self] at zv yv
    simp only [sg, if_true] at zv yv
    refine ⟨h2, by omega, by omega, fun t ht => ?_, fun t ht => ?_⟩
    · have := ez t; rw [e1_ne ht] at this; omega
    · have := ey t; rw [e1_ne ht] at this; omega
  · left
    rw [e1_ne (Ne.symm ne)] at zv yv
    refine ⟨w, s, hw, ne, ez, ey, by omega, by omega, ?_⟩
    have this := fun (t : Nat) (ht : t < G.n) (n1 : t ≠ v) => exch_conv (l := l) (u := u) hlu ez ey (.inr ⟨ne, k⟩) ht n1
    unfold rr
    rw [← sm_add, ← sm_add]
    refine sm_le fun t ht => ?_
    by_cases e : t = v
    · simp only [if_pos e]; omega
    · simp only [if_neg e]; exact this t ht e
/-- a place that is high in some best choice and low in none: who leaves it empty misses much -/
theorem never_low {G : Gr} {c l u y : Nat → Int} {v : Nat} (hlu : ∀ t, t < G.n → l t ≤ u t) (hv : v < G.n) (hy : Opt G c l u y) (hh : u v < deg G y v) (hL : ∀ x, Opt G c l u x → l v ≤ deg G x v) :
    ∀ (N : Nat) (z : Nat → Int), Cho G c z → u v - deg G z v ≤ N → miss G l u y + u v ≤ rr G l u v z + deg G z v := by
  intro N
  have my := miss_rr (G := G) (l := l) (u := u) (x := y) hv
  have luv := hlu v hv
  have done : ∀ z, Cho G c z → u v ≤ deg G z v → miss G l u y + u v ≤ rr G l u v z + deg G z v := fun z hz h => by
    have h1 := hy.2 z hz
    have h2 := miss_rr (G := G) (l := l) (u := u) (x := z) hv
    unfold phi at h2
    omega
  induction N with
  | zero => intro z hz h; exact done z hz (by omega)
  | succ N ih =>
    intro z hz h
    by_cases q : u v ≤ deg G z v
    · exact done z hz q
    obtain ⟨z', y', hz', hy', k⟩ := exch_rr hlu hz hy.1 hv (show deg G z v < deg G y v by omega)
    rcases k with ⟨_, _, _, _, _, _, k1, k2, k3⟩ | ⟨k1, k2, k3, k4, k5⟩
    · have h1 := ih z' hz' (by omega)
      have h2 := done y' hy' (by omega)
      unfold phi at my
      omega
    · have e := rr_congr (l := l) (u := u) k5
      have m2 := miss_rr (G := G) (l := l) (u := u) (x := y') hv
      have h1 := hy.2 y' hy'
      have : l v ≤ deg G y' v ∨ miss G l u y < miss G l u y' := by
        by_cases h2 : miss G l u y < miss G l u y'
        · exact .inr h2
        · exact .inl (hL y' ⟨hy', fun t ht => Int.le_trans (by omega) (hy.2 t ht)⟩)
      unfold phi at my m2
      omega
/-- the other way round -/
theorem deg_all (G : Gr) (c x : Nat → Int) (v : Nat) : deg G (fun i => c i - x i) v = deg G c v - deg G x v := by
  unfold deg
  rw [← sm_sub]
  refine sm_congr fun i _ => ?_
  show (if G.a i = v then c i - x i else 0) + (if G.b i = v then c i - x i else 0) = _
  split <;> split <;> omega
theorem phi_turn (l u p k : Int) : phi (k - u) (k - l) (k - p) = phi l u p := by unfold phi; omega
theorem cho_turn {G : Gr} {c x : Nat → Int} (h : Cho G c x) : Cho G c (fun i => c i - x i) := fun i hi => by
  have := h i hi
  show 0 ≤ c i - x i ∧ c i - x i ≤ c i
  omega
theorem miss_turn (G : Gr) (c l u x : Nat → Int) : miss G (fun t => deg G c t - u t) (fun t => deg G c t - l t) (fun i => c i - x i) = miss G l u x := sm_congr fun t _ => by
  simp only [deg_all, phi_turn]
theorem rr_turn (G : Gr) (c l u x : Nat → Int) (v : Nat) : rr G (fun t => deg G c t - u t) (fun t => deg G c t - l t) v (fun i => c i - x i) = rr G l u v x := sm_congr fun t _ => by
  simp only [deg_all, phi_turn]
theorem turn_turn (c x : Nat → Int) : (fun i => c i - (fun i => c i - x i) i) = x := funext fun i => by show c i - (c i - x i) = x i; omega
theorem opt_turn {G : Gr} {c l u x : Nat → Int} (h : Opt G c l u x) : Opt G c (fun t => deg G c t - u t) (fun t => deg G c t - l t) (fun i => c i - x i) := ⟨cho_turn h.1, fun y hy => by
  have h1 := h.2 _ (cho_turn hy)
  have h2 := miss_turn G c l u (fun i => c i - y i)
  rw [turn_turn] at h2
  rw [miss_turn, h2]
  exact h1⟩
theorem opt_turn' {G : Gr} {c l u x : Nat → Int} (h : Opt G c (fun t => deg G c t - u t) (fun t => deg G c t - l t) x) : Opt G c l u (fun i => c i - x i) := ⟨cho_turn h.1, fun y hy => by
  have h1 := h.2 _ (cho_turn hy)
  rw [miss_turn] at h1
  have h2 := miss_turn G c l u (fun i => c i - x i)
  rw [turn_turn] at h2
  rw [← h2]
  exact h1⟩
theorem never_high {G : Gr} {c l u y : Nat → Int} {v : Nat} (hlu : ∀ t, t < G.n → l t ≤ u t) (hv : v < G.n) (hy : Opt G c l u y) (hh : deg G y v < l v) (hL : ∀ x, Opt G c l u x → deg G x v ≤ u v)
    (z : Nat → Int) (hz : Cho G c z) : miss G l u y + deg G z v ≤ rr G l u v z + l v := by
  have h1 := never_low (G := G) (c := c) (l := fun t => deg G c t - u t) (u := fun t => deg G c t - l t) (v := v) (fun t ht => by have := hlu t ht; omega) hv (opt_turn hy)
    (by rw [deg_all]; omega) (fun x hx => by have := hL _ (opt_turn' hx); rw [deg_all] at this; omega) _ _ (cho_turn hz) (Int.self_le_toNat _)
  rw [miss_turn, rr_turn, deg_all] at h1
  omega
end LV

set_option linter.all false
/-! LVC: pieces of the rest, what lots come to; no choice misses less than lots overdraw -/
namespace LV
open Classical
inductive Cn (G : Gr) (c : Nat → Int) (mk : Nat → Nat) : Nat → Nat → Prop
  | refl {v : Nat} : mk v = 0 → Cn G c mk v v
  | step {v w t i : Nat} : Cn G c mk v w → i < G.m → 0 < c i → ((G.a i = w ∧ G.b i = t) ∨ (G.b i = w ∧ G.a i = t)) → mk t = 0 → Cn G c mk v t
namespace Cn
variable {G : Gr} {c : Nat → Int} {mk : Nat → Nat} {v w t : Nat}
theorem l0 (h : Cn G c mk v w) : mk v = 0 := by
  induction h with
  | refl h => exact h
  | step _ _ _ _ _ ih => exact ih
theorem r0 (h : Cn G c mk v w) : mk w = 0 := by
  cases h with
  | refl h => exact h
  | step _ _ _ _ h => exact h
theorem trans (h1 : Cn G c mk v w) (h2 : Cn G c mk w t) : Cn G c mk v t := by
  induction h2 with
  | refl _ => exact h1
  | step _ a b d e ih => exact .step ih a b d e
theorem symm (h : Cn G c mk v w) : Cn G c mk w v := by
  induction h with
  | refl h => exact .refl h
  | step h1 a b d e ih => exact (Cn.step (.refl e) a b (d.elim (fun d => .inr ⟨d.2, d.1⟩) (fun d => .inl ⟨d.2, d.1⟩)) h1.r0).trans ih
theorem lt (h : Cn G c mk v w) (hv : v < G.n) : w < G.n := by
  cases h with
  | refl => exact hv
  | step _ hi _ d _ => exact d.elim (fun d => d.2 ▸ G.hb _ hi) (fun d => d.2 ▸ G.ha _ hi)
theorem congr {c' : Nat → Int} {mk' : Nat → Nat} (hm : ∀ t, mk t = 0 → mk' t = 0) (hc : ∀ i, i < G.m → mk (G.a i) = 0 → mk (G.b i) = 0 → 0 < c i → 0 < c' i) (h : Cn G c mk v w) : Cn G c' mk' v w := by
  induction h with
  | refl h => exact .refl (hm _ h)
  | step h1 a b d e ih =>
    refine .step ih a (hc _ a ?_ ?_ b) d (hm _ e)
    · rcases d with d | d
      · rw [d.1]; exact h1.r0
      · rw [d.2]; exact e
    · rcases d with d | d
      · rw [d.2]; exact e
      · rw [d.1]; exact h1.r0
end Cn
def lead (G : Gr) (c : Nat → Int) (mk : Nat → Nat) (v : Nat) : Prop := mk v = 0 ∧ ∀ w, Cn G c mk v w → v ≤ w
theorem lead_ex {G : Gr} {c : Nat → Int} {mk : Nat → Nat} : ∀ (N w : Nat), w ≤ N → mk w = 0 → ∃ v, lead G c mk v ∧ Cn G c mk v w := by
  intro N
  induction N with
  | zero => intro w h h0; exact ⟨w, ⟨h0, fun t _ => by omega⟩, .refl h0⟩
  | succ N ih =>
    intro w h h0
    by_cases q : ∃ t, Cn G c mk w t ∧ t < w
    · obtain ⟨t, h1, h2⟩ := q
      obtain ⟨v, h3, h4⟩ := ih t (by omega) h1.r0
      exact ⟨v, h3, h4.trans h1.symm⟩
    · exact ⟨w, ⟨h0, fun t ht => by
        false_or_by_contra
        rename_i k
        exact q ⟨t, ht, by omega⟩⟩, .refl h0⟩
/-- what stands in the rest, piece by piece -/
theorem comp_sum (G : Gr) (c : Nat → Int) (mk : Nat → Nat) (f : Nat → Int) :
    sm (fun w => if mk w = 0 then f w else 0) G.n = sm (fun v => if lead G c mk v then sm (fun w => if Cn G c mk v w then f w else 0) G.n else 0) G.n := by
  have h1 : sm (fun v => if lead G c mk v then sm (fun w => if Cn G c mk v w then f w else 0) G.n else 0) G.n = sm (fun v => sm (fun w => if lead G c mk v ∧ Cn G c mk v w then f w else 0) G.n) G.n := sm_congr fun v _ => by
    by_cases e : lead G c mk v
    · rw [if_pos e]
      refine sm_congr fun w _ => ?_
      by_cases e2 : Cn G c mk v w
      · rw [if_pos e2, if_pos ⟨e, e2⟩]
      · rw [if_neg e2, if_neg fun h => e2 h.2]
    · rw [if_neg e, sm_zero]
      intro w _
      rw [if_neg fun h => e h.1]
  rw [h1, sm_comm]
  refine sm_congr fun w hw => ?_
  by_cases e : mk w = 0
  · rw [if_pos e]
    obtain ⟨v, h2, h3⟩ := lead_ex (G := G) (c := c) w w (Nat.le_refl _) e
    have h4 : v < G.n := by have := h2.2 w h3; omega
    rw [sm_congr (g := fun i => if i = v then f w else 0), sm_pt, if_pos h4]
    intro t _
    by_cases e2 : t = v
    · subst e2; rw [if_pos rfl, if_pos ⟨h2, h3⟩]
    · rw [if_neg e2, if_neg]
      intro h5
      have h6 := h5.1.2 v (h5.2.trans h3.symm)
      have h7 := h2.2 t (h3.trans h5.2.symm)
      omega
  · rw [if_neg e, sm_zero]
    intro t _
    rw [if_neg fun h => e h.2.r0]
def odd (G : Gr) (c l u : Nat → Int) (mk : Nat → Nat) (v : Nat) : Prop :=
  (∀ w, w < G.n → Cn G c mk v w → l w = u w) ∧
  (sm (fun w => if Cn G c mk v w then u w else 0) G.n + sm (fun i => (if Cn G c mk v (G.a i) ∧ mk (G.b i) = 2 then c i else 0) + (if Cn G c mk v (G.b i) ∧ mk (G.a i) = 2 then c i else 0)) G.m) % 2 = 1
noncomputable def odds (G : Gr) (c l u : Nat → Int) (mk : Nat → Nat) : Int := sm (fun v => if lead G c mk v ∧ odd G c l u mk v then 1 else 0) G.n
def drawn (G : Gr) (l u : Nat → Int) (mk : Nat → Nat) : Int := sm (fun v => if mk v = 1 then u v else if mk v = 2 then - l v else 0) G.n
def tied (G : Gr) (c : Nat → Int) (mk : Nat → Nat) : Int := sm (fun i => (if mk (G.a i) = 2 ∧ mk (G.b i) ≠ 1 then c i else 0) + (if mk (G.b i) = 2 ∧ mk (G.a i) ≠ 1 then c i else 0)) G.m
noncomputable def amt (G : Gr) (c l u : Nat → Int) (mk : Nat → Nat) : Int := drawn G l u mk + tied G c mk - odds G c l u mk
/-- sums with weights, told over the ties -/
theorem deg_wt (G : Gr) (x g : Nat → Int) : sm (fun t => g t * deg G x t) G.n = sm (fun i => g (G.a i) * x i + g (G.b i) * x i) G.m := by
  unfold deg
  rw [sm_congr (g := fun t => sm (fun i => g t * ((if G.a i = t then x i else 0) + (if G.b i = t then x i else 0))) G.m) fun t _ => (sm_mul _ _ _).symm, sm_comm]
  refine sm_congr fun i hi => ?_
  have h1 : (fun t => g t * ((if G.a i = t then x i else 0) + (if G.b i = t then x i else 0))) = (fun t => (if t = G.a i then g (G.a i) * x i else 0) + (if t = G.b i then g (G.b i) * x i else 0)) := funext fun t => by
    by_cases e1 : G.a i = t <;> by_cases e2 : G.b i = t
    · rw [if_pos e1, if_pos e2, if_pos e1.symm, if_pos e2.symm, Int.mul_add, e1, e2]
    · rw [if_pos e1, if_neg e2, if_pos e1.symm, if_neg (Ne.symm e2), Int.mul_add, e1, Int.mul_zero]
    · rw [if_neg e1, if_pos e2, if_neg (Ne.symm e1), if_pos e2.symm, Int.mul_add, e2, Int.mul_zero]
    · rw [if_neg e1, if_neg e2, if_neg (Ne.symm e1), if_neg (Ne.symm e2)]; simp
  rw [h1, sm_add, sm_pt, sm_pt, if_pos (G.ha i hi), if_pos (G.hb i hi)]
/-- ones at the places of K -/
noncomputable def ind (K : Nat → Prop) (t : Nat) : Int := if K t then 1 else 0
theorem deg_in (G : Gr) (x : Nat → Int) (K : Nat → Prop) : sm (fun t => if K t then deg G x t else 0) G.n = sm (fun i => (if K (G.a i) then x i else 0) + (if K (G.b i) then x i else 0)) G.m := by
  have h := deg_wt G x (ind K)
  have e : ∀ (t : Nat) (y : Int), ind K t * y = if K t then y else 0 := fun t y => by unfold ind; split <;> simp
  simp only [e] at h
  exact h
theorem even_sum {f : Nat → Int} {n : Nat} (h : ∀ i, i < n → f i % 2 = 0) : sm f n % 2 = 0 := by
  induction n with
  | zero => rfl
  | succ n ih =>
    simp only [sm]
    have h1 := ih fun i hi => h i (by omega)
    have h2 := h n (by omega)
    omega
/-- what each place of the rest misses by itself or through its ties to the lots -/
noncomputable def lack (G : Gr) (c l u x : Nat → Int) (mk : Nat → Nat) (w : Nat) : Int :=
  phi (l w) (u w) (deg G x w) + sm (fun i => (if G.a i = w then (if mk (G.b i) = 1 then x i else if mk (G.b i) = 2 then c i - x i else 0) else 0) + (if G.b i = w then (if mk (G.a i) = 1 then x i else if mk (G.a i) = 2 then c i - x i else 0) else 0)) G.m
theorem phi_zero {l u p : Int} (h : phi l u p = 0) (e : l = u) : p = u := by unfold phi at h; omega
theorem lack_nn {G : Gr} {c l u x : Nat → Int} {mk : Nat → Nat} (hx : Cho G c x) (w : Nat) : 0 ≤ lack G c l u x mk w := by
  unfold lack
  have h1 := phi_nn (l w) (u w) (deg G x w)
  have h2 : 0 ≤ sm (fun i => (if G.a i = w then (if mk (G.b i) = 1 then x i else if mk (G.b i) = 2 then c i - x i else 0) else 0) + (if G.b i = w then (if mk (G.a i) = 1 then x i else if mk (G.a i) = 2 then c i - x i else 0) else 0)) G.m := sm_nn fun i hi => by
    have := hx i hi
    show 0 ≤ (if G.a i = w then (if mk (G.b i) = 1 then x i else if mk (G.b i) = 2 then c i - x i else 0) else 0) + (if G.b i = w then (if mk (G.a i) = 1 then x i else if mk (G.a i) = 2 then c i - x i else 0) else 0)
    split <;> (try split) <;> (try split) <;> (try split) <;> (try split) <;> (try split) <;> omega
  omega
theorem lack_zero {G : Gr} {c l u x : Nat → Int} {mk : Nat → Nat} (hx : Cho G c x) {w : Nat} (h : lack G c l u x mk w = 0) :
    phi (l w) (u w) (deg G x w) = 0 ∧ ∀ i, i < G.m → (G.a i = w → (mk (G.b i) = 1 → x i = 0) ∧ (mk (G.b i) = 2 → x i = c i)) ∧ (G.b i = w → (mk (G.a i) = 1 → x i = 0) ∧ (mk (G.a i) = 2 → x i = c i)) := by
  unfold lack at h
  have h1 := phi_nn (l w) (u w) (deg G x w)
  have nn : ∀ i, i < G.m → 0 ≤ (if G.a i = w then (if mk (G.b i) = 1 then x i else if mk (G.b i) = 2 then c i - x i else 0) else 0) + (if G.b i = w then (if mk (G.a i) = 1 then x i else if mk (G.a i) = 2 then c i - x i else 0) else 0) := fun i hi => by
    have := hx i hi
    split <;> (try split) <;> (try split) <;> (try split) <;> (try split) <;> (try split) <;> omega
  have h2 := sm_nn nn
  refine ⟨by omega, fun i hi => ?_⟩
  have h3 := sm_at (f := fun i => (if G.a i = w then (if mk (G.b i) = 1 then x i else if mk (G.b i) = 2 then c i - x i else 0) else 0) + (if G.b i = w then (if mk (G.a i) = 1 then x i else if mk (G.a i) = 2 then c i - x i else 0) else 0)) hi nn
  have h4 := nn i hi
  have h5 := hx i hi
  have h6 := G.hab i hi
  replace h3 : (if G.a i = w then (if mk (G.b i) = 1 then x i else if mk (G.b i) = 2 then c i - x i else 0) else 0) + (if G.b i = w then (if mk (G.a i) = 1 then x i else if mk (G.a i) = 2 then c i - x i else 0) else 0) = 0 := by
    have : (if G.a i = w then (if mk (G.b i) = 1 then x i else if mk (G.b i) = 2 then c i - x i else 0) else 0) + (if G.b i = w then (if mk (G.a i) = 1 then x i else if mk (G.a i) = 2 then c i - x i else 0) else 0) ≤ 0 := by omega
    omega
  refine ⟨fun e => ?_, fun e => ?_⟩
  · rw [if_pos e, if_neg (show ¬ G.b i = w from fun e2 => h6 (e.trans e2.symm))] at h3
    exact ⟨fun k => by rw [if_pos k] at h3; omega, fun k => by rw [if_neg (by omega), if_pos k] at h3; omega⟩
  · rw [if_neg (show ¬ G.a i = w from fun e2 => h6 (e2.trans e.symm)), if_pos e] at h3
    exact ⟨fun k => by rw [if_pos k] at h3; omega, fun k => by rw [if_neg (by omega), if_pos k] at h3; omega⟩
/-- an odd piece lacks something -/
theorem odd_lacks {G : Gr} {c l u x : Nat → Int} {mk : Nat → Nat} (hx : Cho G c x) (hm : ∀ t, mk t < 3) {v : Nat} (ho : odd G c l u mk v) : 1 ≤ sm (fun w => if Cn G c mk v w then lack G c l u x mk w else 0) G.n := by
  have nn : ∀ w, w < G.n → 0 ≤ (if Cn G c mk v w then lack G c l u x mk w else 0) := fun w _ => by
    split
    · exact lack_nn hx w
    · omega
  have h0 := sm_nn nn
  false_or_by_contra
  rename_i q
  have hz : ∀ w, w < G.n → Cn G c mk v w → lack G c l u x mk w = 0 := fun w hw k => by
    have h1 := sm_at (f := fun w => if Cn G c mk v w then lack G c l u x mk w else 0) hw nn
    have h2 := lack_nn (l := l) (u := u) (mk := mk) hx w
    simp only [if_pos k] at h1
    omega
  have e1 : sm (fun w => if Cn G c mk v w then u w else 0) G.n = sm (fun w => if Cn G c mk v w then deg G x w else 0) G.n := sm_congr fun w hw => by
    by_cases k : Cn G c mk v w
    · rw [if_pos k, if_pos k, phi_zero (lack_zero hx (hz w hw k)).1 (ho.1 w hw k)]
    · rw [if_neg k, if_neg k]
  have h2 := ho.2
  rw [e1, deg_in, ← sm_add] at h2
  have h3 : sm (fun i => ((if Cn G c mk v (G.a i) then x i else 0) + (if Cn G c mk v (G.b i) then x i else 0)) + ((if Cn G c mk v (G.a i) ∧ mk (G.b i) = 2 then c i else 0) + (if Cn G c mk v (G.b i) ∧ mk (G.a i) = 2 then c i else 0))) G.m % 2 = 0 := even_sum fun i hi => by
    have hc := hx i hi
    by_cases ka : Cn G c mk v (G.a i)
    · have za := (lack_zero hx (hz _ (G.ha i hi) ka)).2 i hi
      by_cases kb : Cn G c mk v (G.b i)
      · have r1 := ka.r0; have r2 := kb.r0
        rw [if_pos ka, if_pos kb, if_neg (fun h => by omega), if_neg (fun h => by omega)]
        omega
      · rw [if_pos ka, if_neg kb, if_neg (show ¬ (Cn G c mk v (G.b i) ∧ mk (G.a i) = 2) from fun h => kb h.1)]
        have r1 := hm (G.b i)
        by_cases b0 : mk (G.b i) = 0
        · have : ¬ 0 < c i := fun q => kb (.step ka hi q (.inl ⟨rfl, rfl⟩) b0)
          rw [if_neg (fun h => by omega)]
          omega
        · by_cases b1 : mk (G.b i) = 1
          · have := (za.1 rfl).1 b1
            rw [if_neg (fun h => by omega)]
            omega
          · have b2 : mk (G.b i) = 2 := by omega
            have := (za.1 rfl).2 b2
            rw [if_pos ⟨ka, b2⟩]
            omega
    · by_cases kb : Cn G c mk v (G.b i)
      · have zb := (lack_zero hx (hz _ (G.hb i hi) kb)).2 i hi
        rw [if_neg ka, if_pos kb, if_neg (show ¬ (Cn G c mk v (G.a i) ∧ mk (G.b i) = 2) from fun h => ka h.1)]
        have r1 := hm (G.a i)
        by_cases b0 : mk (G.a i) = 0
        · have : ¬ 0 < c i := fun q => ka (.step kb hi q (.inr ⟨rfl, rfl⟩) b0)
          rw [if_neg (fun h => by omega)]
          omega
        · by_cases b1 : mk (G.a i) = 1
          · have := (zb.2 rfl).1 b1
            rw [if_neg (fun h => by omega)]
            omega
          · have b2 : mk (G.a i) = 2 := by omega
            have := (zb.2 rfl).2 b2
            rw [if_pos ⟨kb, b2⟩]
            omega
      · rw [if_neg ka, if_neg kb, if_neg (show ¬ (Cn G c mk v (G.a i) ∧ mk (G.b i) = 2) from fun h => ka h.1), if_neg (show ¬ (Cn G c mk v (G.b i) ∧ mk (G.a i) = 2) from fun h => kb h.1)]
        rfl
  omega
theorem odds_le {G : Gr} {c l u x : Nat → Int} {mk : Nat → Nat} (hx : Cho G c x) (hm : ∀ t, mk t < 3) : odds G c l u mk ≤ sm (fun w => if mk w = 0 then lack G c l u x mk w else 0) G.n := by
  rw [comp_sum G c mk]
  refine sm_le fun v _ => ?_
  show (if lead G c mk v ∧ odd G c l u mk v then (1 : Int) else 0) ≤ _
  by_cases h1 : lead G c mk v
  · rw [if_pos h1]
    by_cases h2 : odd G c l u mk v
    · rw [if_pos ⟨h1, h2⟩]; exact odd_lacks hx hm h2
    · rw [if_neg fun h => h2 h.2]
      refine sm_nn fun w _ => ?_
      show 0 ≤ (if Cn G c mk v w then lack G c l u x mk w else 0)
      split
      · exact lack_nn hx w
      · omega
  · rw [if_neg fun h => h1 h.1, if_neg h1]; exact Int.le_refl _
/-- the signs of the lots -/
def sgm (k : Nat) : Int := if k = 1 then 1 else if k = 2 then -1 else 0
/-- NO CHOICE MISSES LESS THAN LOTS OVERDRAW -/
theorem weak {G : Gr} {c l u x : Nat → Int} {mk : Nat → Nat} (hx : Cho G c x) (hm : ∀ t, mk t < 3) : - amt G c l u mk ≤ miss G l u x := by
  have h1 := odds_le (l := l) (u := u) hx hm
  have h2 : sm (fun w => if mk w = 0 then lack G c l u x mk w else 0) G.n = sm (fun w => if mk w = 0 then phi (l w) (u w) (deg G x w) else 0) G.n + sm (fun w => if mk w = 0 then sm (fun i => (if G.a i = w then (if mk (G.b i) = 1 then x i else if mk (G.b i) = 2 then c i - x i else 0) else 0) + (if G.b i = w then (if mk (G.a i) = 1 then x i else if mk (G.a i) = 2 then c i - x i else 0) else 0)) G.m else 0) G.n := by
    rw [← sm_add]
    refine sm_congr fun w _ => ?_
    by_cases k : mk w = 0
    · rw [if_pos k, if_pos k, if_pos k]; rfl
    · rw [if_neg k, if_neg k, if_neg k]; rfl
  have h3 : sm (fun w => if mk w = 0 then sm (fun i => (if G.a i = w then (if mk (G.b i) = 1 then x i else if mk (G.b i) = 2 then c i - x i else 0) else 0) + (if G.b i = w then (if mk (G.a i) = 1 then x i else if mk (G.a i) = 2 then c i - x i else 0) else 0)) G.m else 0) G.n
      = sm (fun i => (if mk (G.a i) = 0 then (if mk (G.b i) = 1 then x i else if mk (G.b i) = 2 then c i - x i else 0) else 0) + (if mk (G.b i) = 0 then (if mk (G.a i) = 1 then x i else if mk (G.a i) = 2 then c i - x i else 0) else 0)) G.m := by
    rw [sm_congr (g := fun w => sm (fun i => (if w = G.a i then (if mk (G.a i) = 0 then (if mk (G.b i) = 1 then x i else if mk (G.b i) = 2 then c i - x i else 0) else 0) else 0) + (if w = G.b i then (if mk (G.b i) = 0 then (if mk (G.a i) = 1 then x i else if mk (G.a i) = 2 then c i - x i else 0) else 0) else 0)) G.m), sm_comm]
    · refine sm_congr fun i hi => ?_
      rw [sm_add, sm_pt, sm_pt, if_pos (G.ha i hi), if_pos (G.hb i hi)]
    · intro w _
      by_cases k : mk w = 0
      · rw [if_pos k]
        refine sm_congr fun i _ => ?_
        by_cases e1 : G.a i = w <;> by_cases e2 : G.b i = w
        · rw [if_pos e1, if_pos e2, if_pos e1.symm, if_pos e2.symm, e1, e2, if_pos k]
        · rw [if_pos e1, if_neg e2, if_pos e1.symm, if_neg (Ne.symm e2), e1, if_pos k]
        · rw [if_neg e1, if_pos e2, if_neg (Ne.symm e1), if_pos e2.symm, e2, if_pos k]
        · rw [if_neg e1, if_neg e2, if_neg (Ne.symm e1), if_neg (Ne.symm e2)]
      · rw [if_neg k, sm_zero]
        intro i _
        by_cases e1 : w = G.a i <;> by_cases e2 : w = G.b i
        · rw [if_pos e1, if_pos e2, ← e1, ← e2, if_neg k]; rfl
        · rw [if_pos e1, if_neg e2, ← e1, if_neg k]; rfl
        · rw [if_neg e1, if_pos e2, ← e2, if_neg k]; rfl
        · rw [if_neg e1, if_neg e2]; rfl
  have h4 : sm (fun t => sgm (mk t) * deg G x t) G.n + sm (fun w => if mk w = 0 then phi (l w) (u w) (deg G x w) else 0) G.n ≤ miss G l u x + drawn G l u mk := by
    unfold miss drawn
    rw [← sm_add, ← sm_add]
    refine sm_le fun t _ => ?_
    show sgm (mk t) * deg G x t + (if mk t = 0 then phi (l t) (u t) (deg G x t) else 0) ≤ phi (l t) (u t) (deg G x t) + (if mk t = 1 then u t else if mk t = 2 then - l t else 0)
    unfold sgm
    have := hm t
    have n := phi_nn (l t) (u t) (deg G x t)
    by_cases k0 : mk t = 0
    · rw [if_neg (by omega), if_neg (by omega), if_pos k0, if_neg (by omega), if_neg (by omega)]; omega
    · by_cases k1 : mk t = 1
      · rw [if_pos k1, if_neg k0, if_pos k1]; unfold phi; omega
      · have k2 : mk t = 2 := by omega
        rw [if_neg k1, if_pos k2, if_neg k0, if_neg k1, if_pos k2]; unfold phi; omega
  have h5 : 0 ≤ sm (fun t => sgm (mk t) * deg G x t) G.n + tied G c mk - sm (fun i => (if mk (G.a i) = 0 then (if mk (G.b i) = 1 then x i else if mk (G.b i) = 2 then c i - x i else 0) else 0) + (if mk (G.b i) = 0 then (if mk (G.a i) = 1 then x i else if mk (G.a i) = 2 then c i - x i else 0) else 0)) G.m := by
    rw [deg_wt]
    unfold tied
    rw [← sm_add, ← sm_sub]
    refine sm_nn fun i hi => ?_
    have hc := hx i hi
    have ka := hm (G.a i)
    have kb := hm (G.b i)
    show 0 ≤ sgm (mk (G.a i)) * x i + sgm (mk (G.b i)) * x i + ((if mk (G.a i) = 2 ∧ mk (G.b i) ≠ 1 then c i else 0) + (if mk (G.b i) = 2 ∧ mk (G.a i) ≠ 1 then c i else 0)) - ((if mk (G.a i) = 0 then (if mk (G.b i) = 1 then x i else if mk (G.b i) = 2 then c i - x i else 0) else 0) + (if mk (G.b i) = 0 then (if mk (G.a i) = 1 then x i else if mk (G.a i) = 2 then c i - x i else 0) else 0))
    generalize mk (G.a i) = p at *
    generalize mk (G.b i) = r at *
    have hp : p = 0 ∨ p = 1 ∨ p = 2 := by omega
    have hr : r = 0 ∨ r = 1 ∨ r = 2 := by omega
    rcases hp with rfl | rfl | rfl <;> rcases hr with rfl | rfl | rfl <;> simp [sgm] <;> omega
  unfold amt
  omega
end LV

set_option linter.all false
/-! LVD: where low and high go together, odd pieces miss all that is missed -/
namespace LV
open Classical
theorem miss_eq {G : Gr} {l u x y : Nat → Int} (h : ∀ t, deg G y t = deg G x t) : miss G l u y = miss G l u x := sm_congr fun t _ => by
  show phi _ _ (deg G y t) = phi _ _ (deg G x t)
  rw [h]
theorem miss2 {G : Gr} {l u x y : Nat → Int} {v w : Nat} (hv : v < G.n) (hw : w < G.n) (ne : v ≠ w) (h : ∀ t, t ≠ v → t ≠ w → deg G y t = deg G x t) :
    miss G l u y + phi (l v) (u v) (deg G x v) + phi (l w) (u w) (deg G x w) = miss G l u x + phi (l v) (u v) (deg G y v) + phi (l w) (u w) (deg G y w) := by
  have e : ∀ z, miss G l u z = sm (fun t => if t = w then 0 else if t = v then 0 else phi (l t) (u t) (deg G z t)) G.n + phi (l w) (u w) (deg G z w) + phi (l v) (u v) (deg G z v) := fun z => by
    rw [miss_rr hv]
    unfold rr
    rw [sm_split (k := w) hw, if_neg (Ne.symm ne)]
  have e2 : sm (fun t => if t = w then 0 else if t = v then 0 else phi (l t) (u t) (deg G x t)) G.n = sm (fun t => if t = w then 0 else if t = v then 0 else phi (l t) (u t) (deg G y t)) G.n := sm_congr fun t _ => by
    by_cases h1 : t = w
    · rw [if_pos h1, if_pos h1]
    · by_cases h2 : t = v
      · rw [if_neg h1, if_neg h1, if_pos h2, if_pos h2]
      · rw [if_neg h1, if_neg h1, if_neg h2, if_neg h2, h t h2 h1]
  rw [e x, e y, e2]
  omega
theorem Opt.le {G : Gr} {c l u x y : Nat → Int} (hx : Opt G c l u x) (hy : Cho G c y) (h : miss G l u y ≤ miss G l u x) : Opt G c l u y := ⟨hy, fun z hz => Int.le_trans h (hx.2 z hz)⟩
theorem Opt.same {G : Gr} {c l u x y : Nat → Int} (hx : Opt G c l u x) (hy : Opt G c l u y) : miss G l u x = miss G l u y := by
  have h1 := hx.2 y hy.1; have h2 := hy.2 x hx.1; omega
theorem bump_up {G : Gr} {c x : Nat → Int} {i : Nat} (hx : Cho G c x) (h : x i < c i) : Cho G c (bump x i 1) := fun j hj => by
  have := hx j hj
  unfold bump
  by_cases e : j = i
  · subst e; rw [if_pos rfl]; omega
  · rw [if_neg e]; exact this
theorem bump_dn {G : Gr} {c x : Nat → Int} {i : Nat} (hx : Cho G c x) (h : 0 < x i) : Cho G c (bump x i (-1)) := fun j hj => by
  have := hx j hj
  unfold bump
  by_cases e : j = i
  · subst e; rw [if_pos rfl]; omega
  · rw [if_neg e]; exact this
/-- an end and the other end -/
def Ends (G : Gr) (i v w : Nat) : Prop := (G.a i = v ∧ G.b i = w) ∨ (G.b i = v ∧ G.a i = w)
theorem Ends.e1 {G : Gr} {i v w : Nat} (h : Ends G i v w) (t : Nat) : e1 (G.a i) t + e1 (G.b i) t = e1 v t + e1 w t := by
  rcases h with ⟨h1, h2⟩ | ⟨h1, h2⟩ <;> rw [h1, h2]
  omega
theorem Ends.ne {G : Gr} {i v w : Nat} (h : Ends G i v w) (hi : i < G.m) : v ≠ w := by
  have := G.hab i hi
  rcases h with ⟨h1, h2⟩ | ⟨h1, h2⟩ <;> omega
theorem Ends.bump {G : Gr} {i v w : Nat} {x : Nat → Int} (h : Ends G i v w) (hi : i < G.m) (d : Int) : deg G (bump x i d) v = deg G x v + d ∧ deg G (bump x i d) w = deg G x w + d ∧ ∀ t, t ≠ v → t ≠ w → deg G (bump x i d) t = deg G x t := by
  have ne := h.ne hi
  have k : ∀ t, deg G (LV.bump x i d) t = deg G x t + d * (LV.e1 v t + LV.e1 w t) := fun t => by
    rw [deg_bump G x hi, ← h.e1 t, Int.mul_add]; omega
  refine ⟨?_, ?_, fun t h1 h2 => ?_⟩
  · rw [k, e1_self, e1_ne ne]; omega
  · rw [k, e1_self, e1_ne (Ne.symm ne)]; omega
  · rw [k, e1_ne h1, e1_ne h2]; omega
theorem c1 {G : Gr} {c l u y z : Nat → Int} {v : Nat} (hlu : ∀ t, t < G.n → l t ≤ u t) (hv : v < G.n) (hy : Opt G c l u y) (hz : Opt G c l u z) (h1 : deg G y v < l v) (h2 : u v < deg G z v) :
    l v = u v ∧ deg G y v = l v - 1 ∧ deg G z v = l v + 1 ∧ (∃ y', Opt G c l u y' ∧ deg G y' v = l v + 1 ∧ ∀ t, t ≠ v → deg G y' t = deg G y t) ∧ (∃ z', Opt G c l u z' ∧ deg G z' v = l v - 1 ∧ ∀ t, t ≠ v → deg G z' t = deg G z t) := by
  have luv := hlu v hv
  obtain ⟨z', y', hz', hy', k⟩ := exch_rr hlu hy.1 hz.1 hv (by omega)
  have my := miss_rr (G := G) (l := l) (u := u) (x := y) hv
  have mz := miss_rr (G := G) (l := l) (u := u) (x := z) hv
  have mz' := miss_rr (G := G) (l := l) (u := u) (x := z') hv
  have my' := miss_rr (G := G) (l := l) (u := u) (x := y') hv
  have o1 := hy.2 z' hz'
  have o2 := hz.2 y' hy'
  unfold phi at my mz mz' my'
  rcases k with ⟨_, _, _, _, _, _, k1, k2, k3⟩ | ⟨k1, k2, k3, k4, k5⟩
  · omega
  · have r1 := rr_congr (l := l) (u := u) k4
    have r2 := rr_congr (l := l) (u := u) k5
    have a1 : l v = u v := by omega
    have a2 : deg G y v = l v - 1 := by omega
    have a3 : deg G z v = l v + 1 := by omega
    refine ⟨a1, a2, a3, ⟨z', hy.le hz' (by omega), by omega, k4⟩, ⟨y', hz.le hy' (by omega), by omega, k5⟩⟩
section
variable {G : Gr} {c l u : Nat → Int} (hlu : ∀ t, t < G.n → l t ≤ u t)
  (hD : ∀ v, v < G.n → ((∃ x, Opt G c l u x ∧ deg G x v < l v) ↔ (∃ x, Opt G c l u x ∧ u v < deg G x v)))
include hlu hD
def Df (G : Gr) (c l u : Nat → Int) (v : Nat) : Prop := ∃ x, Opt G c l u x ∧ deg G x v < l v
theorem dv {v : Nat} (hv : v < G.n) (h : Df G c l u v) : l v = u v ∧ (∀ x, Opt G c l u x → deg G x v = l v - 1 ∨ deg G x v = l v ∨ deg G x v = l v + 1) ∧
    (∀ x, Opt G c l u x → deg G x v = l v - 1 → ∃ x', Opt G c l u x' ∧ deg G x' v = l v + 1 ∧ ∀ t, t ≠ v → deg G x' t = deg G x t) ∧
    (∀ x, Opt G c l u x → deg G x v = l v + 1 → ∃ x', Opt G c l u x' ∧ deg G x' v = l v - 1 ∧ ∀ t, t ≠ v → deg G x' t = deg G x t) := by
  obtain ⟨y, hy, h1⟩ := h
  obtain ⟨z, hz, h2⟩ := (hD v hv).1 ⟨y, hy, h1⟩
  have k := c1 hlu hv hy hz h1 h2
  refine ⟨k.1, fun x hx => ?_, fun x hx q => ?_, fun x hx q => ?_⟩
  · have := hlu v hv
    by_cases q1 : deg G x v < l v
    · have := (c1 hlu hv hx hz q1 h2).2.1; omega
    · by_cases q2 : u v < deg G x v
      · have := (c1 hlu hv hy hx h1 q2).2.2.1; omega
      · omega
  · exact (c1 hlu hv hx hz (by omega) h2).2.2.2.1
  · exact (c1 hlu hv hy hx h1 (by omega)).2.2.2.2
def Bd (G : Gr) (c l u : Nat → Int) (v w : Nat) : Prop := ∃ x, Opt G c l u x ∧ deg G x v ≠ l v ∧ deg G x w ≠ l w
theorem c2 {v w i : Nat} (hv : v < G.n) (hw : w < G.n) (dv1 : Df G c l u v) (dw1 : Df G c l u w) (hi : i < G.m) (hc : 0 < c i) (he : Ends G i v w) : ¬ Bd G c l u v w := by
  rintro ⟨x, hx, q1, q2⟩
  have ne := he.ne hi
  obtain ⟨v1, v2, v3, v4⟩ := dv hlu hD hv dv1
  obtain ⟨w1, w2, w3, w4⟩ := dv hlu hD hw dw1
  obtain ⟨x1, hx1, a1, a2⟩ : ∃ x1, Opt G c l u x1 ∧ deg G x1 v = l v - 1 ∧ deg G x1 w ≠ l w := by
    rcases v2 x hx with h | h | h
    · exact ⟨x, hx, h, q2⟩
    · exact absurd h q1
    · obtain ⟨x', h1, h2, h3⟩ := v4 x hx h
      exact ⟨x', h1, h2, by rw [h3 w (Ne.symm ne)]; exact q2⟩
  obtain ⟨x2, hx2, b1, b2⟩ : ∃ x2, Opt G c l u x2 ∧ deg G x2 v = l v - 1 ∧ deg G x2 w = l w + 1 := by
    rcases w2 x1 hx1 with h | h | h
    · obtain ⟨x', h1, h2, h3⟩ := w3 x1 hx1 h
      exact ⟨x', h1, by rw [h3 v ne]; exact a1, h2⟩
    · exact absurd h a2
    · exact ⟨x1, hx1, a1, h⟩
  have hc2 := hx2.1 i hi
  by_cases k : x2 i < c i
  · obtain ⟨e1', e2', e3'⟩ := he.bump (x := x2) hi 1
    have m := miss2 (l := l) (u := u) hv hw ne e3'
    have ho : Opt G c l u (bump x2 i 1) := hx2.le (bump_up hx2.1 k) (by rw [e1', e2', b1, b2] at m; unfold phi at m; omega)
    have := w2 _ ho
    omega
  · obtain ⟨e1', e2', e3'⟩ := he.bump (x := x2) hi (-1)
    have m := miss2 (l := l) (u := u) hv hw ne e3'
    have ho : Opt G c l u (bump x2 i (-1)) := hx2.le (bump_dn hx2.1 (by omega)) (by rw [e1', e2', b1, b2] at m; unfold phi at m; omega)
    have := v2 _ ho
    omega
theorem c3 {v w t : Nat} (hw : w < G.n) (dw1 : Df G c l u w) (n1 : ¬ Bd G c l u v w) (n2 : ¬ Bd G c l u w t) (ne : v ≠ t) : ¬ Bd G c l u v t := by
  rintro ⟨x, hx, q1, q2⟩
  obtain ⟨w1, w2, w3, w4⟩ := dv hlu hD hw dw1
  have xw : deg G x w = l w := by
    false_or_by_contra
    rename_i k
    exact n1 ⟨x, hx, q1, k⟩
  obtain ⟨y, hy, h1⟩ := dw1
  have yw : deg G y w = l w - 1 := by have := w2 y hy; omega
  obtain ⟨z, y', hz, hy', k⟩ := exch_rr hlu hy.1 hx.1 hw (by omega)
  rcases k with ⟨s, b, _, sw, ez, ey, k1, k2, k3⟩ | ⟨k1, _⟩
  · have mx := miss_rr (G := G) (l := l) (u := u) (x := x) hw
    have my := miss_rr (G := G) (l := l) (u := u) (x := y) hw
    have mz := miss_rr (G := G) (l := l) (u := u) (x := z) hw
    have my' := miss_rr (G := G) (l := l) (u := u) (x := y') hw
    have o1 := hy.2 z hz
    unfold phi at mx my mz my'
    have ho : Opt G c l u y' := hx.le hy' (by omega)
    have dw2 : deg G y' w ≠ l w := by omega
    have vw : v ≠ w := fun e => q1 (e ▸ xw)
    have tw : t ≠ w := fun e => q2 (e ▸ xw)
    by_cases e : v = s
    · refine n2 ⟨y', ho, dw2, ?_⟩
      rw [ey t, e1_ne tw, e1_ne (show t ≠ s from fun h => ne (e.trans h.symm))]
      omega
    · refine n1 ⟨y', ho, ?_, dw2⟩
      rw [ey v, e1_ne vw, e1_ne e]
      omega
  · omega
omit hlu hD in
/-- round a ring -/
theorem ring {x z : Nat → Int} {v i : Nat} (hz : ∀ t, deg G z t = deg G x t + 2 * e1 v t) (hi : z i < x i) (him : i < G.m) : ∀ (N : Nat) (y : Nat → Int) (t : Nat) (s : Bool), dist y z G.m ≤ N → Btw G x z y → y i < x i →
    (∀ r, deg G y r = deg G x r - e1 v r + sg s * e1 t r) → ∃ y', Btw G x z y' ∧ y' i < x i ∧ ∀ r, deg G y' r = deg G x r := by
  intro N
  induction N with
  | zero =>
    intro y t s hd hb hyi hy
    cases s with
    | true =>
      by_cases e : t = v
      · subst e; exact ⟨y, hb, hyi, fun r => by rw [hy r]; simp only [sg, if_true]; omega⟩
      · have h1 := hy t
        have h2 := hz t
        rw [e1_self, e1_ne e] at h1
        rw [e1_ne e] at h2
        simp only [sg, if_true] at h1
        obtain ⟨j, t', hj, _, _, q, _⟩ := more_at (G := G) (z := z) (y := y) (w := t) (by omega)
        have := dist_down q hj
        omega
    | false =>
      have h1 := hy t
      have h2 := hz t
      have h3 := e1_01 v t
      rw [e1_self] at h1
      simp only [sg, Bool.false_eq_true, if_false] at h1
      obtain ⟨j, t', hj, _, _, q, _⟩ := more_at (G := G) (z := y) (y := z) (w := t) (by omega)
      have := dist_up q hj
      omega
  | succ N ih =>
    intro y t s hd hb hyi hy
    cases s with
    | true =>
      by_cases e : t = v
      · subst e; exact ⟨y, hb, hyi, fun r => by rw [hy r]; simp only [sg, if_true]; omega⟩
      · have h1 := hy t
        have h2 := hz t
        rw [e1_self, e1_ne e] at h1
        rw [e1_ne e] at h2
        simp only [sg, if_true] at h1
        obtain ⟨j, t', hj, _, _, q, ed, _⟩ := more_at (G := G) (z := z) (y := y) (w := t) (by omega)
        have := dist_down q hj
        refine ih (bump y j (-1)) t' false (by omega) (hb.down q) ?_ fun r => ?_
        · unfold bump; split <;> omega
        · rw [deg_bump G y hj, hy r]
          have := ed r
          simp only [sg, if_true, Bool.false_eq_true, if_false]
          omega
    | false =>
      have h1 := hy t
      have h2 := hz t
      have h3 := e1_01 v t
      rw [e1_self] at h1
      simp only [sg, Bool.false_eq_true, if_false] at h1
      obtain ⟨j, t', hj, _, _, q, ed, _⟩ := more_at (G := G) (z := y) (y := z) (w := t) (by omega)
      have := dist_up q hj
      refine ih (bump y j 1) t' true (by omega) (hb.up q) ?_ fun r => ?_
      · have hb1 := hb i him
        unfold bump
        by_cases e : i = j
        · subst e; omega
        · rw [if_neg e]; exact hyi
      · rw [deg_bump G y hj, hy r]
        have := ed r
        simp only [sg, if_true, Bool.false_eq_true, if_false]
        omega
theorem c4 {v w i : Nat} (hv : v < G.n) (hw : w < G.n) (dv1 : Df G c l u v) (hi : i < G.m) (hc : 0 < c i) (he : Ends G i v w) : Df G c l u w := by
  false_or_by_contra
  rename_i nw
  have ne := he.ne hi
  obtain ⟨v1, v2, v3, v4⟩ := dv hlu hD hv dv1
  have mid : ∀ x, Opt G c l u x → l w ≤ deg G x w ∧ deg G x w ≤ u w := fun x hx => by
    constructor
    · false_or_by_contra
      exact nw ⟨x, hx, by omega⟩
    · false_or_by_contra
      exact nw ((hD w hw).2 ⟨x, hx, by omega⟩)
  have low : ∀ x, Opt G c l u x → deg G x v = l v - 1 → x i = c i := fun x hx h => by
    have hc2 := hx.1 i hi
    false_or_by_contra
    have k : x i < c i := by omega
    obtain ⟨e1', e2', e3'⟩ := he.bump (x := x) hi 1
    have m := miss2 (l := l) (u := u) hv hw ne e3'
    have mx := mid x hx
    have o := hx.2 _ (bump_up hx.1 k)
    rw [e1', e2', h] at m
    have ho : Opt G c l u (bump x i 1) := hx.le (bump_up hx.1 k) (by unfold phi at m; omega)
    have := mid _ ho
    unfold phi at m
    omega
  have high : ∀ x, Opt G c l u x → deg G x v = l v + 1 → x i = 0 := fun x hx h => by
    have hc2 := hx.1 i hi
    false_or_by_contra
    have k : 0 < x i := by omega
    obtain ⟨e1', e2', e3'⟩ := he.bump (x := x) hi (-1)
    have m := miss2 (l := l) (u := u) hv hw ne e3'
    have mx := mid x hx
    have o := hx.2 _ (bump_dn hx.1 k)
    rw [e1', e2', h] at m
    have ho : Opt G c l u (bump x i (-1)) := hx.le (bump_dn hx.1 k) (by unfold phi at m; omega)
    have := mid _ ho
    unfold phi at m
    omega
  obtain ⟨x, hx, h1⟩ := dv1
  have xv : deg G x v = l v - 1 := by have := v2 x hx; omega
  obtain ⟨z, hz, z1, z2⟩ := v3 x hx xv
  have xi := low x hx xv
  have zi := high z hz z1
  have b0 : Btw G x z x := fun j hj => by omega
  obtain ⟨y, hb, y1, y2⟩ := ring (G := G) (x := x) (z := z) (v := v) (i := i) (fun t => by
      by_cases e : t = v
      · subst e; rw [e1_self, z1, xv]; omega
      · rw [e1_ne e, z2 t e]; omega) (by omega) hi _ (bump x i (-1)) w false (Nat.le_refl _) (b0.down (by omega)) (by unfold bump; rw [if_pos rfl]; omega) fun r => by
    rw [deg_bump G x hi]
    have := he.e1 r
    simp only [sg, Bool.false_eq_true, if_false]
    omega
  have ho : Opt G c l u y := hx.le (hb.cho hx.1 hz.1) (by rw [miss_eq y2]; omega)
  have := low y ho (by rw [y2]; exact xv)
  omega
/-- WHERE LOW AND HIGH GO TOGETHER: the odd pieces miss it all -/
theorem base {mk : Nat → Nat} {x : Nat → Int} (hx : Opt G c l u x) (hm : ∀ t, mk t = 0 ∨ mk t = 1) (h1 : ∀ t, t < G.n → mk t = 1 → l t = 0 ∧ u t = 0) (h2 : ∀ i, i < G.m → mk (G.a i) = 1 ∨ mk (G.b i) = 1 → c i = 0) : miss G l u x ≤ - amt G c l u mk := by
  have d0 : drawn G l u mk = 0 := sm_zero fun t ht => by
    rcases hm t with h | h
    · rw [if_neg (by omega), if_neg (by omega)]
    · rw [if_pos h, (h1 t ht h).2]
  have t0 : tied G c mk = 0 := sm_zero fun i hi => by
    have ha := hm (G.a i)
    have hb := hm (G.b i)
    rw [if_neg (by omega), if_neg (by omega)]; rfl
  have e0 : miss G l u x = sm (fun w => if mk w = 0 then phi (l w) (u w) (deg G x w) else 0) G.n := sm_congr fun w hw => by
    show phi (l w) (u w) (deg G x w) = _
    rcases hm w with h | h
    · rw [if_pos h]
    · rw [if_neg (by omega)]
      obtain ⟨l0, u0⟩ := h1 w hw h
      have : deg G x w = 0 := sm_zero fun i hi => by
        have hc := hx.1 i hi
        by_cases ea : G.a i = w
        · have := h2 i hi (.inl (by rw [ea]; exact h))
          rw [show x i = 0 by omega]; simp
        · by_cases eb : G.b i = w
          · have := h2 i hi (.inr (by rw [eb]; exact h))
            rw [show x i = 0 by omega]; simp
          · rw [if_neg ea, if_neg eb]; rfl
      rw [this, l0, u0]; rfl
  unfold amt
  rw [d0, t0, e0, comp_sum G c mk]
  suffices h : sm (fun v => if lead G c mk v then sm (fun w => if Cn G c mk v w then phi (l w) (u w) (deg G x w) else 0) G.n else 0) G.n ≤ odds G c l u mk by omega
  refine sm_le fun v hv => ?_
  show (if lead G c mk v then sm (fun w => if Cn G c mk v w then phi (l w) (u w) (deg G x w) else 0) G.n else 0) ≤ (if lead G c mk v ∧ odd G c l u mk v then 1 else 0)
  by_cases hl : lead G c mk v
  case neg => rw [if_neg hl, if_neg fun h => hl h.1]; exact Int.le_refl _
  rw [if_pos hl]
  by_cases q : ∃ w, w < G.n ∧ Cn G c mk v w ∧ phi (l w) (u w) (deg G x w) ≠ 0
  case neg =>
    rw [sm_zero]
    · split <;> omega
    · intro w hw
      by_cases k : Cn G c mk v w
      · rw [if_pos k]
        false_or_by_contra
        exact q ⟨w, hw, k, by assumption⟩
      · rw [if_neg k]
  obtain ⟨w0, hw0, k0, p0⟩ := q
  have luw := hlu w0 hw0
  have D0 : Df G c l u w0 := by
    by_cases h : deg G x w0 < l w0
    · exact ⟨x, hx, h⟩
    · exact (hD w0 hw0).2 ⟨x, hx, by unfold phi at p0; omega⟩
  have all : ∀ t, Cn G c mk w0 t → t < G.n ∧ Df G c l u t ∧ (t = w0 ∨ ¬ Bd G c l u w0 t) := by
    intro t ht
    induction ht with
    | refl => exact ⟨hw0, D0, .inl rfl⟩
    | @step w t i hc1 hi hc d ht0 ih =>
      obtain ⟨hw, dw, o⟩ := ih
      have ht := (Cn.step hc1 hi hc d ht0).lt hw0
      have dt := c4 hlu hD hw ht dw hi hc d
      refine ⟨ht, dt, ?_⟩
      by_cases e : t = w0
      · exact .inl e
      · right
        have n2 := c2 hlu hD hw ht dw dt hi hc d
        rcases o with rfl | o
        · exact n2
        · exact c3 hlu hD hw dw o n2 (Ne.symm e)
  have all' : ∀ t, Cn G c mk v t → t < G.n ∧ Df G c l u t ∧ (t = w0 ∨ ¬ Bd G c l u w0 t) := fun t ht => all t (k0.symm.trans ht)
  obtain ⟨q1, q2, q3, q4⟩ := dv hlu hD hw0 D0
  have def0 : deg G x w0 ≠ l w0 := fun h => p0 (by rw [h, ← q1]; unfold phi; omega)
  have oth : ∀ t, Cn G c mk v t → t ≠ w0 → deg G x t = l t ∧ l t = u t := fun t ht n => by
    obtain ⟨a1, a2, a3⟩ := all' t ht
    refine ⟨?_, (dv hlu hD a1 a2).1⟩
    false_or_by_contra
    rename_i k
    exact a3.elim n fun h => h ⟨x, hx, def0, k⟩
  have p1 : phi (l w0) (u w0) (deg G x w0) = 1 := by
    have := q2 x hx
    unfold phi at p0 ⊢; omega
  have sum1 : sm (fun w => if Cn G c mk v w then phi (l w) (u w) (deg G x w) else 0) G.n = 1 := by
    rw [sm_congr (g := fun w => if w = w0 then 1 else 0), sm_pt, if_pos hw0]
    intro w hw
    by_cases e : w = w0
    · subst e; rw [if_pos k0, if_pos rfl, p1]
    · rw [if_neg e]
      by_cases k : Cn G c mk v w
      · obtain ⟨a1, a2⟩ := oth w k e
        rw [if_pos k, a1, ← a2]; unfold phi; omega
      · rw [if_neg k]
  rw [sum1, if_pos]
  · exact Int.le_refl _
  refine ⟨hl, fun w hw k => ?_, ?_⟩
  · by_cases e : w = w0
    · subst e; exact q1
    · exact (oth w k e).2
  · have s1 : sm (fun w => if Cn G c mk v w then u w else 0) G.n = sm (fun w => if Cn G c mk v w then deg G x w else 0) G.n + (u w0 - deg G x w0) := by
      rw [sm_congr (g := fun w => (if Cn G c mk v w then deg G x w else 0) + (if w = w0 then u w0 - deg G x w0 else 0)), sm_add, sm_pt, if_pos hw0]
      intro w hw
      by_cases e : w = w0
      · subst e; rw [if_pos k0, if_pos k0, if_pos rfl]; omega
      · rw [if_neg e]
        by_cases k : Cn G c mk v w
        · obtain ⟨a1, a2⟩ := oth w k e
          rw [if_pos k, if_pos k]; omega
        · rw [if_neg k, if_neg k]; rfl
    have s2 : sm (fun i => (if Cn G c mk v (G.a i) ∧ mk (G.b i) = 2 then c i else 0) + (if Cn G c mk v (G.b i) ∧ mk (G.a i) = 2 then c i else 0)) G.m = 0 := sm_zero fun i hi => by
      have ha := hm (G.a i)
      have hb := hm (G.b i)
      rw [if_neg (by omega), if_neg (by omega)]; rfl
    have s3 : sm (fun w => if Cn G c mk v w then deg G x w else 0) G.n % 2 = 0 := by
      rw [deg_in]
      refine even_sum fun i hi => ?_
      have hc := hx.1 i hi
      by_cases ka : Cn G c mk v (G.a i)
      · by_cases kb : Cn G c mk v (G.b i)
        · rw [if_pos ka, if_pos kb]; omega
        · rw [if_pos ka, if_neg kb]
          rcases hm (G.b i) with b0 | b1
          · have : ¬ 0 < c i := fun q => kb (.step ka hi q (.inl ⟨rfl, rfl⟩) b0)
            omega
          · have := h2 i hi (.inr b1)
            omega
      · by_cases kb : Cn G c mk v (G.b i)
        · rw [if_neg ka, if_pos kb]
          rcases hm (G.a i) with b0 | b1
          · have : ¬ 0 < c i := fun q => ka (.step kb hi q (.inr ⟨rfl, rfl⟩) b0)
            omega
          · have := h2 i hi (.inl b1)
            omega
        · rw [if_neg ka, if_neg kb]; rfl
    rw [s1, s2]
    have := q2 x hx
    omega
end
end LV

set_option linter.all false
/-! LVE: one place put away, and the strong half: some lots overdraw all that is missed at least -/
namespace LV
open Classical
abbrev at' (G : Gr) (v i : Nat) : Prop := G.a i = v ∨ G.b i = v
/-- no ties at v -/
def cut (G : Gr) (v : Nat) (c : Nat → Int) (i : Nat) : Int := if at' G v i then 0 else c i
/-- only the ties at v -/
def cap (G : Gr) (v : Nat) (c : Nat → Int) (i : Nat) : Int := if at' G v i then c i else 0
def out (v : Nat) (f : Nat → Int) (t : Nat) : Int := if t = v then 0 else f t
def les (l C : Nat → Int) (t : Nat) : Int := l t - C t
theorem odd_congr {G : Gr} {c c' l l' u u' : Nat → Int} {mk mk' : Nat → Nat} {v : Nat} (hC : ∀ w, Cn G c mk v w ↔ Cn G c' mk' v w) (hlu : ∀ w, w < G.n → Cn G c mk v w → (l w = u w ↔ l' w = u' w))
    (hp : ∀ P : Nat → Prop, (∀ w, P w → mk w = 0) → (sm (fun w => if P w then u w else 0) G.n + sm (fun i => (if P (G.a i) ∧ mk (G.b i) = 2 then c i else 0) + (if P (G.b i) ∧ mk (G.a i) = 2 then c i else 0)) G.m) % 2
      = (sm (fun w => if P w then u' w else 0) G.n + sm (fun i => (if P (G.a i) ∧ mk' (G.b i) = 2 then c' i else 0) + (if P (G.b i) ∧ mk' (G.a i) = 2 then c' i else 0)) G.m) % 2) : odd G c l u mk v ↔ odd G c' l' u' mk' v := by
  have e : Cn G c mk v = Cn G c' mk' v := funext fun w => propext (hC w)
  unfold odd
  rw [← e]
  have h := hp (Cn G c mk v) fun w hw => hw.r0
  constructor
  · rintro ⟨h1, h2⟩
    exact ⟨fun w hw k => (hlu w hw k).1 (h1 w hw k), h ▸ h2⟩
  · rintro ⟨h1, h2⟩
    exact ⟨fun w hw k => (hlu w hw k).2 (h1 w hw k), h.trans h2⟩
theorem odds_congr {G : Gr} {c c' l l' u u' : Nat → Int} {mk mk' : Nat → Nat} (hz : ∀ t, mk t = 0 ↔ mk' t = 0) (hc : ∀ i, i < G.m → mk (G.a i) = 0 → mk (G.b i) = 0 → c i = c' i) (hlu : ∀ w, w < G.n → mk w = 0 → (l w = u w ↔ l' w = u' w))
    (hp : ∀ P : Nat → Prop, (∀ w, P w → mk w = 0) → (sm (fun w => if P w then u w else 0) G.n + sm (fun i => (if P (G.a i) ∧ mk (G.b i) = 2 then c i else 0) + (if P (G.b i) ∧ mk (G.a i) = 2 then c i else 0)) G.m) % 2
      = (sm (fun w => if P w then u' w else 0) G.n + sm (fun i => (if P (G.a i) ∧ mk' (G.b i) = 2 then c' i else 0) + (if P (G.b i) ∧ mk' (G.a i) = 2 then c' i else 0)) G.m) % 2) : odds G c l u mk = odds G c' l' u' mk' := by
  have hC : ∀ v w, Cn G c mk v w ↔ Cn G c' mk' v w := fun v w => ⟨Cn.congr (fun t h => (hz t).1 h) fun i hi h1 h2 h3 => hc i hi h1 h2 ▸ h3, Cn.congr (fun t h => (hz t).2 h) fun i hi h1 h2 h3 => (hc i hi ((hz _).2 h1) ((hz _).2 h2)).symm ▸ h3⟩
  refine sm_congr fun v _ => ?_
  have h1 : lead G c mk v ↔ lead G c' mk' v := by
    unfold lead
    constructor
    · rintro ⟨h1, h2⟩; exact ⟨(hz v).1 h1, fun w hw => h2 w ((hC v w).2 hw)⟩
    · rintro ⟨h1, h2⟩; exact ⟨(hz v).2 h1, fun w hw => h2 w ((hC v w).1 hw)⟩
  have h2 : odd G c l u mk v ↔ odd G c' l' u' mk' v := odd_congr (hC v) (fun w hw k => hlu w hw k.r0) hp
  by_cases q : lead G c mk v ∧ odd G c l u mk v
  · rw [if_pos q, if_pos ⟨h1.1 q.1, h2.1 q.2⟩]
  · rw [if_neg q, if_neg fun h => q ⟨h1.2 h.1, h2.2 h.2⟩]
theorem rec1 {G : Gr} {c l u : Nat → Int} {mk : Nat → Nat} {v : Nat} (hv : v < G.n) (h : mk v = 1) : amt G c l u mk = u v + amt G (cut G v c) (out v l) (out v u) mk := by
  have h1 : drawn G l u mk = u v + drawn G (out v l) (out v u) mk := by
    unfold drawn
    rw [sm_split hv, sm_split (f := fun t => if mk t = 1 then out v u t else if mk t = 2 then - out v l t else 0) hv]
    rw [if_pos h, if_pos h]
    have : sm (fun i => if i = v then 0 else if mk i = 1 then u i else if mk i = 2 then - l i else 0) G.n = sm (fun i => if i = v then 0 else if mk i = 1 then out v u i else if mk i = 2 then - out v l i else 0) G.n := sm_congr fun i _ => by
      unfold out
      by_cases e : i = v
      · rw [if_pos e, if_pos e]
      · rw [if_neg e, if_neg e, if_neg e, if_neg e]
    rw [this]
    unfold out
    rw [if_pos rfl]
    omega
  have h2 : tied G c mk = tied G (cut G v c) mk := sm_congr fun i hi => by
    unfold cut at'
    by_cases e : G.a i = v ∨ G.b i = v
    · rw [if_pos e]
      rcases e with e | e
      · rw [e, if_neg (by omega), if_neg (by omega)]; simp
      · rw [e, if_neg (by omega), if_neg (by omega)]; simp
    · rw [if_neg e]
  have h3 : odds G c l u mk = odds G (cut G v c) (out v l) (out v u) mk := odds_congr (fun _ => Iff.rfl) (fun i _ k1 k2 => by
      unfold cut at'
      rw [if_neg]
      rintro (e | e)
      · rw [e] at k1; omega
      · rw [e] at k2; omega)
    (fun w _ k => by
      unfold out
      have : w ≠ v := fun e => by rw [e] at k; omega
      rw [if_neg this, if_neg this])
    (fun P hP => by
      have e1 : sm (fun w => if P w then u w else 0) G.n = sm (fun w => if P w then out v u w else 0) G.n := sm_congr fun w _ => by
        by_cases k : P w
        · have : w ≠ v := fun e => by have := hP w k; rw [e] at this; omega
          rw [if_pos k, if_pos k]; unfold out; rw [if_neg this]
        · rw [if_neg k, if_neg k]
      have e2 : sm (fun i => (if P (G.a i) ∧ mk (G.b i) = 2 then c i else 0) + (if P (G.b i) ∧ mk (G.a i) = 2 then c i else 0)) G.m = sm (fun i => (if P (G.a i) ∧ mk (G.b i) = 2 then cut G v c i else 0) + (if P (G.b i) ∧ mk (G.a i) = 2 then cut G v c i else 0)) G.m := sm_congr fun i _ => by
        unfold cut at'
        by_cases e : G.a i = v ∨ G.b i = v
        · rw [if_pos e]
          have nP : ¬ P v := fun k => by have := hP v k; omega
          rcases e with e | e
          · rw [e, if_neg (fun k => nP k.1), if_neg (fun k => by omega)]; simp
          · rw [e, if_neg (fun k => by omega), if_neg (show ¬ (P v ∧ mk (G.a i) = 2) from fun k => nP k.1)]; simp
        · rw [if_neg e]
      rw [e1, e2])
  unfold amt
  omega
def upd (mk : Nat → Nat) (v k : Nat) (t : Nat) : Nat := if t = v then k else mk t
theorem deg_cap {G : Gr} {c : Nat → Int} {v : Nat} : deg G c v = deg G (cap G v c) v := sm_congr fun i _ => by
  unfold cap at'
  by_cases e1 : G.a i = v <;> by_cases e2 : G.b i = v <;> simp [e1, e2]
theorem rec2 {G : Gr} {c l u : Nat → Int} {mk : Nat → Nat} {v : Nat} (hv : v < G.n) (h : mk v = 1) :
    amt G c l u (upd mk v 2) = deg G c v - l v + amt G (cut G v c) (out v (les l (deg G (cap G v c)))) (out v (les u (deg G (cap G v c)))) mk := by
  have uv : upd mk v 2 v = 2 := by unfold upd; rw [if_pos rfl]
  have un : ∀ t, t ≠ v → upd mk v 2 t = mk t := fun t ht => by unfold upd; rw [if_neg ht]
  have h1 : drawn G l u (upd mk v 2) = - l v + drawn G (out v (les l (deg G (cap G v c)))) (out v (les u (deg G (cap G v c)))) mk + sm (fun i => (if G.a i = v then 0 else sgm (mk (G.a i))) * cap G v c i + (if G.b i = v then 0 else sgm (mk (G.b i))) * cap G v c i) G.m := by
    rw [← deg_wt G (cap G v c) (fun t => if t = v then 0 else sgm (mk t))]
    unfold drawn
    rw [sm_split (f := fun t => if upd mk v 2 t = 1 then u t else if upd mk v 2 t = 2 then - l t else 0) hv, if_neg (by omega), if_pos uv]
    have : sm (fun i => if i = v then 0 else if upd mk v 2 i = 1 then u i else if upd mk v 2 i = 2 then - l i else 0) G.n
      = sm (fun t => (if mk t = 1 then (out v (les u (deg G (cap G v c)))) t else if mk t = 2 then - (out v (les l (deg G (cap G v c)))) t else 0) + (if t = v then 0 else sgm (mk t)) * deg G (cap G v c) t) G.n := sm_congr fun t _ => by
      unfold out les
      by_cases e : t = v
      · subst e; simp [h]
      · rw [if_neg e, un t e, if_neg e, if_neg e, if_neg e]
        unfold sgm
        by_cases k1 : mk t = 1
        · simp [k1]
        · by_cases k2 : mk t = 2
          · simp [k2]; omega
          · simp [k1, k2]
    rw [this, sm_add]
    omega
  have h2 : tied G c (upd mk v 2) + sm (fun i => (if G.a i = v then 0 else sgm (mk (G.a i))) * cap G v c i + (if G.b i = v then 0 else sgm (mk (G.b i))) * cap G v c i) G.m = tied G (cut G v c) mk + deg G (cap G v c) v := by
    unfold tied deg
    rw [← sm_add, ← sm_add]
    refine sm_congr fun i hi => ?_
    have ne := G.hab i hi
    unfold cut cap at'
    by_cases e1 : G.a i = v
    · have e2 : ¬ G.b i = v := fun k => ne (e1.trans k.symm)
      simp only [e1, uv, un _ e2, true_or, if_true, if_pos, if_neg e2]
      unfold sgm
      by_cases k1 : mk (G.b i) = 1
      · simp [k1]
      · by_cases k2 : mk (G.b i) = 2
        · simp [k2]; omega
        · simp [k1, k2]
    · by_cases e2 : G.b i = v
      · simp only [e2, uv, un _ e1, or_true, if_true, if_pos, if_neg e1]
        unfold sgm
        by_cases k1 : mk (G.a i) = 1
        · simp [k1]
        · by_cases k2 : mk (G.a i) = 2
          · simp [k2]; omega
          · simp [k1, k2]
      · simp [un _ e1, un _ e2, e1, e2]
  have h3 : odds G c l u (upd mk v 2) = odds G (cut G v c) (out v (les l (deg G (cap G v c)))) (out v (les u (deg G (cap G v c)))) mk := odds_congr (fun t => by
      by_cases e : t = v
      · subst e; rw [uv, h]; omega
      · rw [un t e]) (fun i _ k1 k2 => by
      unfold cut at'
      rw [if_neg]
      rintro (e | e)
      · rw [e, uv] at k1; omega
      · rw [e, uv] at k2; omega)
    (fun w _ k => by
      unfold out les
      have : w ≠ v := fun e => by rw [e, uv] at k; omega
      rw [if_neg this, if_neg this]
      omega)
    (fun P hP => by
      have nv : ∀ w, P w → w ≠ v := fun w k e => by have := hP w k; rw [e, uv] at this; omega
      have nP : ¬ P v := fun k => nv v k rfl
      have e1 : sm (fun w => if P w then u w else 0) G.n = sm (fun w => if P w then (out v (les u (deg G (cap G v c)))) w else 0) G.n + sm (fun w => if P w then deg G (cap G v c) w else 0) G.n := by
        rw [← sm_add]
        refine sm_congr fun w _ => ?_
        by_cases k : P w
        · rw [if_pos k, if_pos k, if_pos k]; unfold out les; rw [if_neg (nv w k)]; omega
        · rw [if_neg k, if_neg k, if_neg k]; rfl
      have e2 : sm (fun i => (if P (G.a i) ∧ upd mk v 2 (G.b i) = 2 then c i else 0) + (if P (G.b i) ∧ upd mk v 2 (G.a i) = 2 then c i else 0)) G.m
        = sm (fun i => (if P (G.a i) ∧ mk (G.b i) = 2 then cut G v c i else 0) + (if P (G.b i) ∧ mk (G.a i) = 2 then cut G v c i else 0)) G.m + sm (fun i => (if P (G.a i) then cap G v c i else 0) + (if P (G.b i) then cap G v c i else 0)) G.m := by
        rw [← sm_add]
        refine sm_congr fun i hi => ?_
        have ne := G.hab i hi
        unfold cut cap at'
        by_cases k1 : G.a i = v
        · have k2 : ¬ G.b i = v := fun k => ne (k1.trans k.symm)
          simp only [k1, uv, un _ k2, nP, true_or, if_true, false_and, if_false]
          by_cases k3 : P (G.b i) <;> simp [k3]
        · by_cases k2 : G.b i = v
          · simp only [k2, uv, un _ k1, nP, or_true, if_true, false_and, if_false]
            by_cases k3 : P (G.a i) <;> simp [k3]
          · simp [un _ k1, un _ k2, k1, k2]
      rw [e1, e2, deg_in]
      omega)
  unfold amt
  rw [deg_cap (G := G) (c := c) (v := v)]
  omega
theorem cut_cho {G : Gr} {c z : Nat → Int} {v : Nat} (hc : ∀ i, i < G.m → 0 ≤ c i) (h : Cho G (cut G v c) z) : Cho G c z ∧ deg G z v = 0 ∧ Cho G c (fun i => z i + cap G v c i) ∧ (∀ t, deg G (fun i => z i + cap G v c i) t = deg G z t + deg G (cap G v c) t) := by
  refine ⟨fun i hi => ?_, ?_, fun i hi => ?_, fun t => ?_⟩
  · have := h i hi
    have := hc i hi
    unfold cut at *
    split at * <;> omega
  · refine sm_zero fun i hi => ?_
    have k := h i hi
    unfold cut at' at k
    by_cases e1 : G.a i = v
    · rw [if_pos (.inl e1)] at k
      rw [show z i = 0 by omega]; simp
    · by_cases e2 : G.b i = v
      · rw [if_pos (.inr e2)] at k
        rw [show z i = 0 by omega]; simp
      · rw [if_neg e1, if_neg e2]; rfl
  · have := h i hi
    have := hc i hi
    show 0 ≤ z i + cap G v c i ∧ z i + cap G v c i ≤ c i
    unfold cut cap at *
    split at * <;> omega
  · unfold deg
    rw [← sm_add]
    refine sm_congr fun i _ => ?_
    show (if G.a i = t then z i + cap G v c i else 0) + (if G.b i = t then z i + cap G v c i else 0) = _
    split <;> split <;> omega
/-- SOME LOTS OVERDRAW ALL THAT IS MISSED -/
theorem strong {G : Gr} : ∀ (N : Nat) (c l u : Nat → Int) (S : Nat → Prop), (∀ i, i < G.m → 0 ≤ c i) → (∀ t, t < G.n → l t ≤ u t) → (∀ t, t < G.n → S t → l t = 0 ∧ u t = 0) → (∀ i, i < G.m → S (G.a i) ∨ S (G.b i) → c i = 0) →
    sm (fun t => if S t then 0 else 1) G.n ≤ N → ∃ x mk, Opt G c l u x ∧ (∀ t, mk t < 3) ∧ (∀ t, S t → mk t = 1) ∧ miss G l u x ≤ - amt G c l u mk := by
  intro N
  induction N with
  | zero =>
    intro c l u S hc hlu hS hcS hN
    obtain ⟨x, hx⟩ := opt_ex (l := l) (u := u) hc
    have sn : ∀ t, t < G.n → 0 ≤ (if S t then (0 : Int) else 1) := fun t _ => by split <;> omega
    have all : ∀ t, t < G.n → S t := fun t ht => by
      false_or_by_contra
      rename_i k
      have := sm_at (f := fun t => if S t then (0 : Int) else 1) ht sn
      simp only [if_neg k] at this
      omega
    refine ⟨x, fun _ => 1, hx, fun _ => (by decide : 1 < 3), fun _ _ => rfl, base hlu (fun v hv => ?_) hx (fun _ => .inr rfl) (fun t ht _ => hS t ht (all t ht)) (fun i hi _ => hcS i hi (.inl (all _ (G.ha i hi))))⟩
    have z : ∀ y, Opt G c l u y → deg G y v = 0 := fun y hy => sm_zero fun i hi => by
      have := hy.1 i hi
      have := hcS i hi (.inl (all _ (G.ha i hi)))
      rw [show y i = 0 by omega]; simp
    obtain ⟨l0, u0⟩ := hS v hv (all v hv)
    constructor
    · rintro ⟨y, hy, h⟩; rw [z y hy] at h; omega
    · rintro ⟨y, hy, h⟩; rw [z y hy] at h; omega
  | succ N ih =>
    intro c l u S hc hlu hS hcS hN
    obtain ⟨x, hx⟩ := opt_ex (l := l) (u := u) hc
    have S0 : ∀ v, S v → v < G.n → ∀ y, Cho G c y → deg G y v = 0 := fun v sv _ y hy => sm_zero fun i hi => by
      have h1 := hy i hi
      by_cases e1 : G.a i = v
      · have := hcS i hi (.inl (e1 ▸ sv))
        rw [show y i = 0 by omega]; simp
      · by_cases e2 : G.b i = v
        · have := hcS i hi (.inr (e2 ▸ sv))
          rw [show y i = 0 by omega]; simp
        · rw [if_neg e1, if_neg e2]; rfl
    by_cases hD : ∀ v, v < G.n → ((∃ x, Opt G c l u x ∧ deg G x v < l v) ↔ (∃ x, Opt G c l u x ∧ u v < deg G x v))
    · refine ⟨x, fun t => if S t then 1 else 0, hx, fun t => by show (if S t then 1 else 0) < 3; split <;> omega, fun t ht => by show (if S t then 1 else 0) = 1; rw [if_pos ht], base hlu hD hx (fun t => ?_) (fun t ht k => ?_) (fun i hi k => ?_)⟩
      · show (if S t then 1 else 0) = 0 ∨ (if S t then 1 else 0) = 1
        split <;> simp
      · refine hS t ht ?_
        replace k : (if S t then 1 else 0) = 1 := k
        by_cases q : S t
        · exact q
        · rw [if_neg q] at k; omega
      · refine hcS i hi ?_
        replace k : (if S (G.a i) then 1 else 0) = 1 ∨ (if S (G.b i) then 1 else 0) = 1 := k
        by_cases q1 : S (G.a i)
        · exact .inl q1
        · by_cases q2 : S (G.b i)
          · exact .inr q2
          · rw [if_neg q1, if_neg q2] at k; omega
    · obtain ⟨v, hv, nD⟩ : ∃ v, v < G.n ∧ ¬ ((∃ x, Opt G c l u x ∧ deg G x v < l v) ↔ (∃ x, Opt G c l u x ∧ u v < deg G x v)) := by
        false_or_by_contra
        rename_i k
        refine hD fun v hv => ?_
        false_or_by_contra
        rename_i k2
        exact k ⟨v, hv, k2⟩
      have sv : ¬ S v := fun sv => nD (by
        obtain ⟨l0, u0⟩ := hS v hv sv
        constructor
        · rintro ⟨y, hy, h⟩; rw [S0 v sv hv y hy.1] at h; omega
        · rintro ⟨y, hy, h⟩; rw [S0 v sv hv y hy.1] at h; omega)
      obtain ⟨S', hS'⟩ : ∃ S' : Nat → Prop, ∀ t, S' t ↔ (S t ∨ t = v) := ⟨fun t => S t ∨ t = v, fun _ => Iff.rfl⟩
      have cnt : sm (fun t => if S' t then 0 else 1) G.n ≤ N := by
        have e : sm (fun t => if S t then (0 : Int) else 1) G.n = sm (fun t => (if S' t then 0 else 1) + (if t = v then 1 else 0)) G.n := sm_congr fun t _ => by
          have hs := hS' t
          by_cases k1 : t = v
          · subst k1; simp [sv, hs]
          · simp [k1, hs]
        rw [sm_add, sm_pt, if_pos hv] at e
        omega
      have cut0 : ∀ i, i < G.m → 0 ≤ cut G v c i := fun i hi => by have := hc i hi; unfold cut; split <;> omega
      have cutS : ∀ i, i < G.m → S' (G.a i) ∨ S' (G.b i) → cut G v c i = 0 := fun i hi k => by
        rw [hS', hS'] at k
        unfold cut at'
        by_cases q : G.a i = v ∨ G.b i = v
        · rw [if_pos q]
        · rw [if_neg q]
          refine hcS i hi ?_
          rcases k with (k | k) | (k | k)
          · exact .inl k
          · exact absurd (.inl k) q
          · exact .inr k
          · exact absurd (.inr k) q
      by_cases hL : ∃ x, Opt G c l u x ∧ deg G x v < l v
      · have nU : ∀ x, Opt G c l u x → deg G x v ≤ u v := fun x hx => by
          false_or_by_contra
          exact nD ⟨fun _ => ⟨x, hx, by omega⟩, fun _ => hL⟩
        obtain ⟨y, hy, hyv⟩ := hL
        obtain ⟨z, mk, hz, hm, hmS, hle⟩ := ih (cut G v c) (out v (les l (deg G (cap G v c)))) (out v (les u (deg G (cap G v c)))) S' cut0
          (fun t ht => by have := hlu t ht; unfold out les; split <;> omega)
          (fun t ht k => by
            unfold out les
            by_cases e : t = v
            · rw [if_pos e, if_pos e]; exact ⟨rfl, rfl⟩
            · rw [if_neg e, if_neg e]
              have st : S t := ((hS' t).1 k).resolve_right e
              obtain ⟨l0, u0⟩ := hS t ht st
              have : deg G (cap G v c) t = 0 := S0 t st ht _ fun i hi => by
                have := hc i hi
                unfold cap; split <;> omega
              omega)
          cutS cnt
        have mv := hmS v ((hS' v).2 (.inr rfl))
        obtain ⟨_, z0, hz2, dz2⟩ := cut_cho (v := v) hc hz.1
        have nh := never_high hlu hv hy hyv nU _ hz2
        have mz : miss G (out v (les l (deg G (cap G v c)))) (out v (les u (deg G (cap G v c)))) z = rr G l u v (fun i => z i + cap G v c i) := sm_congr fun t _ => by
          show phi (out v (les l (deg G (cap G v c))) t) (out v (les u (deg G (cap G v c))) t) (deg G z t) = if t = v then 0 else phi (l t) (u t) (deg G (fun i => z i + cap G v c i) t)
          unfold out les
          by_cases e : t = v
          · subst e; rw [if_pos rfl, if_pos rfl, if_pos rfl, z0]; rfl
          · rw [if_neg e, if_neg e, if_neg e, dz2]; unfold phi; omega
        refine ⟨y, upd mk v 2, hy, fun t => ?_, fun t ht => ?_, ?_⟩
        · unfold upd; split
          · omega
          · exact hm t
        · unfold upd
          rw [if_neg (show t ≠ v from fun e => sv (e ▸ ht))]
          exact hmS t ((hS' t).2 (.inl ht))
        · have r := rec2 (c := c) (l := l) (u := u) hv mv
          have d := dz2 v
          rw [z0] at d
          rw [← deg_cap] at d
          omega
      · have nL : ∀ x, Opt G c l u x → l v ≤ deg G x v := fun x hx => by
          false_or_by_contra
          exact hL ⟨x, hx, by omega⟩
        obtain ⟨y, hy, hyv⟩ : ∃ x, Opt G c l u x ∧ u v < deg G x v := by
          false_or_by_contra
          rename_i k
          exact nD ⟨fun h => absurd h hL, fun h => absurd h k⟩
        obtain ⟨z, mk, hz, hm, hmS, hle⟩ := ih (cut G v c) (out v l) (out v u) S' cut0
          (fun t ht => by have := hlu t ht; unfold out; split <;> omega)
          (fun t ht k => by
            unfold out
            by_cases e : t = v
            · rw [if_pos e, if_pos e]; exact ⟨rfl, rfl⟩
            · rw [if_neg e, if_neg e]; exact hS t ht (((hS' t).1 k).resolve_right e))
          cutS cnt
        have mv := hmS v ((hS' v).2 (.inr rfl))
        obtain ⟨hz1, z0, _, _⟩ := cut_cho (v := v) hc hz.1
        have nl := never_low hlu hv hy hyv nL _ z hz1 (Int.self_le_toNat _)
        have mz : miss G (out v l) (out v u) z = rr G l u v z := sm_congr fun t _ => by
          show phi (out v l t) (out v u t) (deg G z t) = if t = v then 0 else phi (l t) (u t) (deg G z t)
          unfold out
          by_cases e : t = v
          · subst e; rw [if_pos rfl, if_pos rfl, if_pos rfl, z0]; rfl
          · rw [if_neg e, if_neg e, if_neg e]
        refine ⟨y, mk, hy, hm, fun t ht => hmS t ((hS' t).2 (.inl ht)), ?_⟩
        have r := rec1 (c := c) (l := l) (u := u) hv mv
        omega
/-- THE LAW OF THE LEAST MISS -/
theorem minmax {G : Gr} {c l u : Nat → Int} (hc : ∀ i, i < G.m → 0 ≤ c i) (hlu : ∀ t, t < G.n → l t ≤ u t) : ∃ x mk, Cho G c x ∧ (∀ t, mk t < 3) ∧ miss G l u x = - amt G c l u mk ∧ (∀ y, Cho G c y → miss G l u x ≤ miss G l u y) ∧ (∀ mk', (∀ t, mk' t < 3) → amt G c l u mk ≤ amt G c l u mk') := by
  obtain ⟨x, mk, hx, hm, _, h⟩ := strong (G := G) _ c l u (fun _ => False) hc hlu (fun _ _ h => h.elim) (fun _ _ h => h.elim False.elim False.elim) (Int.self_le_toNat _)
  have w := weak (l := l) (u := u) hx.1 hm
  refine ⟨x, mk, hx.1, hm, by omega, hx.2, fun mk' hm' => ?_⟩
  have := weak (l := l) (u := u) hx.1 hm'
  omega
end LV

set_option linter.all false
set_option maxRecDepth 100000
/-! PW: more loops; webs as data and as ties -/
namespace DL
open PySem L2
variable {ρ : Rho} {μ μ1 : Store} {α β : Type}
theorem seq_nx {f g : SF} {ρ' : Rho} {μ' : Store} (h : f ρ μ = .nx ρ' μ') : sSeq f g ρ μ = g ρ' μ' := by rw [sSeq_eq, h]; rfl
theorem seq_rt {f g : SF} {s : Sl} {μ' : Store} (h : f ρ μ = .rt s μ') : sSeq f g ρ μ = .rt s μ' := by rw [sSeq_eq, h]; rfl
theorem fn_rt {nl : Nat} {body : SF} {ds : List D} {s : Sl} {μ : Store} {d : D} (h : body (rho0 nl (ds.map Sl.d)) [] = .rt s μ) (e : dr μ s = some d) : fnPx nl body ds = .ok d := by
  unfold fnPx; rw [h]; simp only [e]
theorem fn_nx {nl : Nat} {body : SF} {ds : List D} {ρ : Rho} {μ : Store} (h : body (rho0 nl (ds.map Sl.d)) [] = .nx ρ μ) : fnPx nl body ds = .ok .non := by
  unfold fnPx; rw [h]
theorem fn_ex {nl : Nat} {body : SF} {ds : List D} {ρ : Rho} {μ : Store} {x : Exn} (h : body (rho0 nl (ds.map Sl.d)) [] = .ex x ρ μ) : fnPx nl body ds = .ex x := by
  unfold fnPx; rw [h]
@[simp] theorem rbind_ex (x : Exn) (g : α → Store → Res β) : (Res.ex x μ : Res α).bind g = .ex x μ := rfl
@[simp] theorem rout_ex (x : Exn) (g : α → Store → Out) : (Res.ex x μ : Res α).toOut ρ g = .ex x ρ μ := rfl
@[simp] theorem then_ex (x : Exn) (g : SF) : (Out.ex x ρ μ).then g = .ex x ρ μ := rfl
@[simp] theorem res_ex (x : Exn) : (PR.ex x).res μ = .ex x μ := rfl
@[simp] theorem sRaise_eq (x : Str) : sRaise x ρ μ = .ex ⟨x, none⟩ ρ μ := rfl
@[simp] theorem leI_i (i j : Int) : leI (.int i) (.int j) = some (.bl (decide (i ≤ j))) := rfl
theorem for_nx {src : LF} {g : GF} {body : SF} {ds : List D} {ρ' : Rho} {μ' : Store} (h : src ρ μ = .ok ds μ1) (k : forL g body ds ρ μ1 = .nx ρ' μ') : sFor src g body ρ μ = .nx ρ' μ' := by rw [sFor_eq, h]; exact k
/-- a loop with a state that may change the store -/
theorem for_foldM {γ σ : Type} {g : GF} {body : SF} (enc : γ → D) (R : σ → Rho → Store → Prop) (f : σ → γ → σ) : ∀ (xs : List γ) (b : σ) (ρ : Rho) (μ : Store), (∀ x, x ∈ xs → ∀ b ρ μ, R b ρ μ → ∃ ρ1 ρ2 μ2, g (.d (enc x)) ρ = some ρ1 ∧ body ρ1 μ = .nx ρ2 μ2 ∧ R (f b x) ρ2 μ2) → R b ρ μ →
    ∃ ρ' μ', forL g body (xs.map enc) ρ μ = .nx ρ' μ' ∧ R (xs.foldl f b) ρ' μ'
  | [], b, ρ, μ, _, h => ⟨ρ, μ, rfl, h⟩
  | x :: xs, b, ρ, μ, st, h => by
    obtain ⟨ρ1, ρ2, μ2, h1, h2, h3⟩ := st x (List.mem_cons_self ..) b ρ μ h
    obtain ⟨ρ', μ', h4, h5⟩ := for_foldM enc R f xs _ ρ2 μ2 (fun y hy => st y (List.mem_cons_of_mem _ hy)) h3
    refine ⟨ρ', μ', ?_, h5⟩
    simp only [List.map_cons, forL, h1, h2, h4]
/-- a loop that counts -/
theorem for_idx {γ : Type} {g : GF} {body : SF} (enc : γ → D) (R : Nat → Rho → Store → Prop) : ∀ (xs : List γ) (k : Nat) (ρ : Rho) (μ : Store), (∀ i x, xs[i]? = some x → ∀ ρ μ, R (k + i) ρ μ → ∃ ρ1 ρ2 μ2, g (.d (enc x)) ρ = some ρ1 ∧ body ρ1 μ = .nx ρ2 μ2 ∧ R (k + i + 1) ρ2 μ2) → R k ρ μ →
    ∃ ρ' μ', forL g body (xs.map enc) ρ μ = .nx ρ' μ' ∧ R (k + xs.length) ρ' μ'
  | [], k, ρ, μ, _, h => ⟨ρ, μ, rfl, h⟩
  | x :: xs, k, ρ, μ, st, h => by
    obtain ⟨ρ1, ρ2, μ2, h1, h2, h3⟩ := st 0 x rfl ρ μ h
    obtain ⟨ρ', μ', h4, h5⟩ := for_idx enc R xs (k + 1) ρ2 μ2 (fun i y hy ρ μ hR => by
      have := st (i + 1) y hy ρ μ
      rw [show k + (i + 1) = k + 1 + i by omega] at this
      exact this hR) h3
    refine ⟨ρ', μ', ?_, ?_⟩
    · simp only [List.map_cons, forL, h1, h2, h4]
    · rw [List.length_cons, show k + (xs.length + 1) = k + 1 + xs.length by omega]; exact h5
theorem zipD_map {γ δ : Type} (f : γ → D) (g : δ → D) : ∀ (xs : List γ) (ys : List δ), zipD (xs.map f) (ys.map g) = (xs.zip ys).map fun q => .tup [f q.1, g q.2]
  | [], _ => by simp [zipD]
  | _ :: _, [] => by simp [zipD]
  | x :: xs, y :: ys => by
    have := zipD_map f g xs ys
    unfold zipD at this ⊢
    simp [this]
/-- while -/
theorem wh_run {σ : Type} {c : BF} {body : SF} (R : σ → Rho → Store → Prop) (ms : σ → Nat) (Dn : σ → Prop)
    (step : ∀ s ρ μ, R s ρ μ → (c ρ μ = .ok false μ ∧ Dn s) ∨ (c ρ μ = .ok true μ ∧ ∃ s' ρ' μ', body ρ μ = .nx ρ' μ' ∧ R s' ρ' μ' ∧ ms s' < ms s)) : ∀ (n : Nat) (s : σ) (ρ : Rho) (μ : Store), ms s < n → R s ρ μ →
    ∃ s' ρ' μ', whL c body n ρ μ = .nx ρ' μ' ∧ R s' ρ' μ' ∧ Dn s'
  | 0, s, ρ, μ, h, _ => by omega
  | n + 1, s, ρ, μ, h, r => by
    rcases step s ρ μ r with ⟨h1, h2⟩ | ⟨h1, s', ρ', μ', h2, h3, h4⟩
    · exact ⟨s, ρ, μ, by simp [whL, h1], r, h2⟩
    · obtain ⟨s2, ρ2, μ2, k1, k2, k3⟩ := wh_run R ms Dn step n s' ρ' μ' (by omega) h3
      exact ⟨s2, ρ2, μ2, by simp [whL, h1, h2, k1], k2, k3⟩
@[simp] theorem inD_2 (a x y : Int) : inD (.int a) (.tup [.int x, .int y]) = some (.bl (decide (a = x ∨ a = y))) := by
  have := memD_t a [x, y]
  unfold inD
  rw [show [D.int x, D.int y] = [x, y].map D.int from rfl, this]
  simp
@[simp] theorem ninD_2 (a x y : Int) : ninD (.int a) (.tup [.int x, .int y]) = some (.bl (!decide (a = x ∨ a = y))) := by
  have := memD_t a [x, y]
  unfold ninD
  rw [show [D.int x, D.int y] = [x, y].map D.int from rfl, this]
  simp
@[simp] theorem cast_0 (k : Nat) : ((k : Int) = 0) ↔ k = 0 := by omega
@[simp] theorem cast_1 (k : Nat) : ((k : Int) = 1) ↔ k = 1 := by omega
@[simp] theorem cast_2 (k : Nat) : ((k : Int) = 2) ↔ k = 2 := by omega
/-- whole numbers from 0 on -/
def nD (k : Nat) : D := .int (k : Nat)
@[simp] theorem nD_eq (k : Nat) : nD k = .int (k : Nat) := rfl
theorem rngN (n : Nat) : rngL 0 n = (List.range n).map nD := rngL0 n
theorem rngR_n {n : Nat} (h : n ≤ 1000000) : rngR (n : Int) μ = .ok ((List.range n).map nD) μ := by
  unfold rngR
  rw [if_pos (by omega), Int.toNat_natCast, rngN]
theorem nD_map (ns : List Nat) : ns.map nD = (ns.map fun k : Nat => (k : Int)).map D.int := by rw [List.map_map]; rfl
theorem mem_cast (a : Nat) (ns : List Nat) : ((a : Int) ∈ ns.map fun k : Nat => (k : Int)) ↔ a ∈ ns := by
  rw [List.mem_map]
  constructor
  · rintro ⟨b, h, e⟩
    have : b = a := by omega
    exact this ▸ h
  · exact fun h => ⟨a, h, rfl⟩
@[simp] theorem inD_tn (a : Nat) (ns : List Nat) : inD (.int (a : Nat)) (.tup (ns.map nD)) = some (.bl (decide (a ∈ ns))) := by
  unfold inD; rw [nD_map, memD_t]; simp only [mem_cast, Option.map_some]
@[simp] theorem ninD_tn (a : Nat) (ns : List Nat) : ninD (.int (a : Nat)) (.tup (ns.map nD)) = some (.bl (!decide (a ∈ ns))) := by
  unfold ninD; rw [nD_map, memD_t]; simp only [mem_cast, Option.map_some]
@[simp] theorem inD_ln (a : Nat) (ns : List Nat) : inD (.int (a : Nat)) (.lst (ns.map nD)) = some (.bl (decide (a ∈ ns))) := by
  unfold inD; rw [nD_map, memD_l]; simp only [mem_cast, Option.map_some]
@[simp] theorem ninD_ln (a : Nat) (ns : List Nat) : ninD (.int (a : Nat)) (.lst (ns.map nD)) = some (.bl (!decide (a ∈ ns))) := by
  unfold ninD; rw [nD_map, memD_l]; simp only [mem_cast, Option.map_some]
end DL
namespace Bt
open PySem DL LV
abbrev Pl := Int × Int
abbrev Tl := Nat × Nat × Int
def eP (p : Pl) : D := .tup [.int p.1, .int p.2]
def eT (t : Tl) : D := .tup [.int (t.1 : Nat), .int (t.2.1 : Nat), .int t.2.2]
def ePs (P : List Pl) : D := .tup (P.map eP)
def eTs (T : List Tl) : D := .tup (T.map eT)
def eM (m : List Nat) : D := .tup (m.map nD)
/-- ties that lie right -/
def TOk (n : Nat) (T : List Tl) : Prop := ∀ t, t ∈ T → t.1 < t.2.1 ∧ t.2.1 < n ∧ 0 < t.2.2
def t0 : Tl := (0, 1, 0)
theorem getD_mem {α : Type} {xs : List α} {i : Nat} {d : α} (h : i < xs.length) : xs.getD i d ∈ xs := by
  rw [List.getD_eq_getElem?_getD, List.getElem?_eq_getElem h]; exact List.getElem_mem h
theorem mem_getD {α : Type} {xs : List α} {x d : α} (h : x ∈ xs) : ∃ i, i < xs.length ∧ xs.getD i d = x := by
  obtain ⟨i, h1, h2⟩ := List.getElem_of_mem h
  exact ⟨i, h1, by rw [List.getD_eq_getElem?_getD, List.getElem?_eq_getElem h1]; exact h2⟩
def gr (n : Nat) (T : List Tl) (h : TOk n T) : Gr where
  n := n
  m := T.length
  a i := (T.getD i t0).1
  b i := (T.getD i t0).2.1
  ha i hi := by have := h _ (getD_mem (d := t0) hi); omega
  hb i hi := by have := h _ (getD_mem (d := t0) hi); omega
  hab i hi := by have := h _ (getD_mem (d := t0) hi); omega
def cf (T : List Tl) (i : Nat) : Int := (T.getD i t0).2.2
def lof (P : List Pl) (i : Nat) : Int := (P.getD i (0, 0)).1
def upf (P : List Pl) (i : Nat) : Int := (P.getD i (0, 0)).2
def mf (m : List Nat) (i : Nat) : Nat := m.getD i 0
/-- sums over lists -/
theorem sm_shift (f : Nat → Int) : ∀ n : Nat, sm f (n + 1) = f 0 + sm (fun i => f (i + 1)) n
  | 0 => by simp [sm]
  | n + 1 => by
    rw [show sm f (n + 1 + 1) = sm f (n + 1) + f (n + 1) from rfl, sm_shift f n]
    show _ = f 0 + (sm (fun i => f (i + 1)) n + f (n + 1))
    omega
theorem sum_sm {α : Type} (d : α) (f : α → Int) : ∀ xs : List α, (xs.map f).sum = sm (fun i => f (xs.getD i d)) xs.length
  | [] => rfl
  | x :: xs => by
    rw [List.map_cons, List.sum_cons, sum_sm d f xs, List.length_cons, sm_shift]
    rfl
theorem foldl_sum {α : Type} (f : α → Int) (xs : List α) (a : Int) : xs.foldl (fun acc x => acc + f x) a = a + (xs.map f).sum := by
  induction xs generalizing a with
  | nil => simp
  | cons x xs ih => rw [List.foldl_cons, ih, List.map_cons, List.sum_cons]; omega
theorem sum_range (f : Nat → Int) (n : Nat) : ((List.range n).map f).sum = sm f n := by
  induction n with
  | zero => rfl
  | succ n ih => rw [List.range_succ, List.map_append, List.sum_append, ih]; simp [sm]
end Bt

set_option linter.all false
set_option maxRecDepth 100000
set_option maxHeartbeats 1000000
/-! QD: rules for plain functions, gathered -/
namespace DL
open PySem L2
section
section
variable {ρ : Rho} {μ : Store}
@[simp] theorem dr_ob (n : Nat) : dr μ (.ob n) = match μ[n]? with
  | some (.lst ds) => some (.lst ds)
  | _ => none := rfl
@[simp] theorem eApp_eq (fo fe : EF) : eApp fo fe ρ μ = (fo ρ μ).bind fun o μ1 => match o with
  | .ob n => match μ1[n]? with
    | some (.lst _) => (fe ρ μ1).bind fun e μ2 => match e, μ2[n]? with
      | .d x, some (.lst ds) => if ds.length < 16777216 then .ok (.d .non) (μ2.set n (.lst (ds ++ [x]))) else .no
      | _, _ => .no
    | _ => .no
  | _ => .no := rfl
end
section
theorem lc2_map {γ δ : Type} {vs vs1 : List Nat} {g g1 : GF} {src1 : LF} {e : EF} {ρ : Rho} {μ : Store} (enc : γ → D) (enc1 : δ → D) (ys : γ → List δ) (f : γ → δ → D) : ∀ (xs : List γ), (∀ x, x ∈ xs → ∃ ρ1, g (.d (enc x)) (wipeR ρ vs) = some ρ1 ∧ src1 ρ1 μ = .ok ((ys x).map enc1) μ ∧ ∀ y, y ∈ ys x → ∃ ρ2, g1 (.d (enc1 y)) (wipeR ρ1 vs1) = some ρ2 ∧ e ρ2 μ = .ok (.d (f x y)) μ) →
    lc2L vs vs1 g bYes src1 g1 bYes e ρ (xs.map enc) μ = .ok (xs.flatMap fun x => (ys x).map (f x)) μ
  | [], _ => rfl
  | x :: xs, st => by
    obtain ⟨ρ1, h1, h2, h3⟩ := st x (List.mem_cons_self ..)
    have ih := lc2_map (vs := vs) (vs1 := vs1) (g := g) (g1 := g1) (src1 := src1) (e := e) (ρ := ρ) (μ := μ) enc enc1 ys f xs fun y hy => st y (List.mem_cons_of_mem _ hy)
    have h4 := lc_map (vs := vs1) (g := g1) (e := e) (ρ := ρ1) (μ := μ) enc1 (f x) (ys x) h3
    simp only [List.map_cons, lc2L, h1, bYes_eq, h2, h4, ih, List.flatMap_cons]
@[simp] theorem lLc2_eq {ρ : Rho} {μ : Store} (vs vs1 : List Nat) (src : LF) (g : GF) (t : BF) (src1 : LF) (g1 : GF) (t1 : BF) (e : EF) : lLc2 vs vs1 src g t src1 g1 t1 e ρ μ = (src ρ μ).bind fun ds μ1 => lCap (lc2L vs vs1 g t src1 g1 t1 e ρ ds μ1) := rfl
theorem anyD_map (bs : List Bool) : anyD [.lst (bs.map D.bl)] = some (.bl (bs.any id)) := by haveI : TabCtx := ⟨[]⟩; simp [anyD, blsOf_map]
theorem allD_map (bs : List Bool) : allD [.lst (bs.map D.bl)] = some (.bl (bs.all id)) := by haveI : TabCtx := ⟨[]⟩; simp [allD, blsOf_map]
end
section
theorem cutD_to {ds : List D} {k : Nat} : cutD ds none (some (k : Int)) = ds.take k := by
  unfold cutD
  rw [HT.sIx_none, HT.sIx_nat, List.drop_zero, Nat.sub_zero, List.take_eq_take_min]
  simp
theorem cutD_from {ds : List D} {k : Nat} : cutD ds (some (k : Int)) none = ds.drop k := by
  unfold cutD
  rw [HT.sIx_none, HT.sIx_nat]
  by_cases h : k ≤ ds.length
  · rw [Nat.min_eq_left h, List.take_of_length_le (by simp)]
  · rw [Nat.min_eq_right (by omega)]; simp; omega
@[simp] theorem cutD_2 (a b c : D) : cutD [a, b, c] none (some 2) = [a, b] := cutD_to (k := 2)
end
section
theorem shaped_n (L : List Nat) : (D.lst (L.map nD)).shaped = true := by rw [nD_map]; exact shaped_ints _
theorem neD_nil (L : List Nat) : neD (.lst (L.map nD)) (.lst []) = some (.bl (decide (L ≠ []))) := by
  unfold neD
  rw [if_pos ⟨shaped_n L, rfl⟩]
  cases L with
  | nil => rfl
  | cons x L => rfl
def insertN (x : Nat) : List Nat → List Nat
  | [] => [x]
  | y :: r => if x ≤ y then x :: y :: r else y :: insertN x r
def sortN : List Nat → List Nat
  | [] => []
  | x :: r => insertN x (sortN r)
theorem insertN_map (x : Nat) : ∀ ns : List Nat, insertI (x : Int) (ns.map fun k : Nat => (k : Int)) = (insertN x ns).map fun k : Nat => (k : Int)
  | [] => rfl
  | y :: r => by
    simp only [List.map_cons, insertI, insertN]
    by_cases h : x ≤ y
    · rw [if_pos (by omega), if_pos h]; rfl
    · rw [if_neg (by omega), if_neg h, insertN_map x r]; rfl
theorem sortN_map : ∀ ns : List Nat, sortI (ns.map fun k : Nat => (k : Int)) = (sortN ns).map fun k : Nat => (k : Int)
  | [] => rfl
  | x :: r => by simp only [List.map_cons, sortI, sortN]; rw [sortN_map r, insertN_map]
theorem insertN_mem {x w : Nat} : ∀ {ns : List Nat}, w ∈ insertN x ns ↔ w = x ∨ w ∈ ns
  | [] => by simp [insertN]
  | y :: r => by
    unfold insertN
    split
    · simp
    · rw [List.mem_cons, insertN_mem, List.mem_cons]
      constructor
      · rintro (h | h | h)
        · exact .inr (.inl h)
        · exact .inl h
        · exact .inr (.inr h)
      · rintro (h | h | h)
        · exact .inr (.inl h)
        · exact .inl h
        · exact .inr (.inr h)
theorem sortN_mem {w : Nat} : ∀ {ns : List Nat}, w ∈ sortN ns ↔ w ∈ ns
  | [] => by simp [sortN]
  | x :: r => by rw [sortN, insertN_mem, sortN_mem, List.mem_cons]
theorem insertN_lt {x : Nat} : ∀ {ns : List Nat}, ns.Pairwise (· < ·) → x ∉ ns → (insertN x ns).Pairwise (· < ·)
  | [], _, _ => by simp [insertN]
  | y :: r, h, hx => by
    unfold insertN
    have hy := List.pairwise_cons.1 h
    by_cases q : x ≤ y
    · rw [if_pos q]
      have : x ≠ y := fun e => hx (by simp [e])
      refine List.pairwise_cons.2 ⟨fun z hz => ?_, h⟩
      rcases List.mem_cons.1 hz with rfl | hz
      · omega
      · have := hy.1 z hz; omega
    · rw [if_neg q]
      refine List.pairwise_cons.2 ⟨fun z hz => ?_, insertN_lt hy.2 fun k => hx (List.mem_cons_of_mem _ k)⟩
      rcases insertN_mem.1 hz with rfl | hz
      · omega
      · exact hy.1 z hz
theorem sortN_lt : ∀ {ns : List Nat}, ns.Nodup → (sortN ns).Pairwise (· < ·)
  | [], _ => List.Pairwise.nil
  | x :: r, h => by
    have hx := List.nodup_cons.1 h
    exact insertN_lt (sortN_lt hx.2) fun k => hx.1 (sortN_mem.1 k)
theorem sorted_n {ns : List Nat} (h : ns.length < 64) : sortedD [.lst (ns.map nD)] = some (.lst ((sortN ns).map nD)) := by
  rw [nD_map]
  show (intsOf ((ns.map fun k : Nat => (k : Int)).map D.int)).bind _ = _
  haveI : TabCtx := ⟨[]⟩
  rw [intsOf_map]
  show (if (ns.map fun k : Nat => (k : Int)).length < 64 then some (D.lst ((sortI (ns.map fun k : Nat => (k : Int))).map .int)) else none) = _
  rw [if_pos (by simpa using h), sortN_map, nD_map]
@[simp] theorem ePop_eq {ρ : Rho} {μ : Store} (fo : EF) : ePop fo ρ μ = (fo ρ μ).bind fun o μ1 => match o with
  | .ob n => match μ1[n]? with
    | some (.lst ds) => match ds[ds.length - 1]? with
      | some x => .ok (.d x) (μ1.set n (.lst ds.dropLast))
      | none => .no
    | _ => .no
  | _ => .no := rfl
end
section
@[simp] theorem isi_tt (ds : List D) : isiD "tuple" (.tup ds) = some (.bl true) := rfl
@[simp] theorem isi_ii (i : Int) : isiD "int" (.int i) = some (.bl true) := rfl
@[simp] theorem isi_bi (i : Int) : isiD "bool" (.int i) = some (.bl false) := by
  have : kitB "int" "bool" = some false := by decide +kernel
  unfold isiD tyD
  simp [this]
@[simp] theorem isi_bb (b : Bool) : isiD "bool" (.bl b) = some (.bl true) := rfl
@[simp] theorem isi_tn : isiD "tuple" .non = some (.bl false) := by
  have : kitB "NoneType" "tuple" = some false := by decide +kernel
  unfold isiD tyD
  simp [this]
section
variable {γ : Type} {vs : List Nat} {src : LF} {g : GF} {t : BF} {e : EF} {ρ : Rho} {μ : Store}
theorem frz_lc (enc : γ → D) (f : γ → D) (xs : List γ) (h : src ρ μ = .ok (xs.map enc) μ) (hl : xs.length ≤ 16777216) (st : ∀ x, x ∈ xs → ∃ ρ1, g (.d (enc x)) (wipeR ρ vs) = some ρ1 ∧ e ρ1 μ = .ok (.d (f x)) μ) : eFrz (lLc vs src g bYes e) ρ μ = .ok (.d (.lst (xs.map f))) μ := by
  rw [eFrz_eq, lLc_eq, h, rbind_ok, lc_map enc f xs st, lcap_ok, List.length_map, if_pos hl]; rfl
theorem frz_lcf (enc : γ → D) (p : γ → Bool) (f : γ → D) (xs : List γ) (h : src ρ μ = .ok (xs.map enc) μ) (hl : xs.length ≤ 16777216) (st : ∀ x, x ∈ xs → ∃ ρ1, g (.d (enc x)) (wipeR ρ vs) = some ρ1 ∧ t ρ1 μ = .ok (p x) μ ∧ (p x = true → e ρ1 μ = .ok (.d (f x)) μ)) : eFrz (lLc vs src g t e) ρ μ = .ok (.d (.lst ((xs.filter p).map f))) μ := by
  have := List.length_filter_le p xs
  rw [eFrz_eq, lLc_eq, h, rbind_ok, lc_filter enc p f xs st, lcap_ok, List.length_map, if_pos (by omega)]; rfl
theorem b_orf {f g : BF} (h : f ρ μ = .ok false μ) : bOr f g ρ μ = g ρ μ := by rw [bOr_eq, h]; rfl
theorem b_ort {f g : BF} (h : f ρ μ = .ok true μ) : bOr f g ρ μ = .ok true μ := by rw [bOr_eq, h]; rfl
theorem b_andt {f g : BF} (h : f ρ μ = .ok true μ) : bAnd f g ρ μ = g ρ μ := by rw [bAnd_eq, h]; rfl
theorem b_not {f : BF} {b : Bool} (h : f ρ μ = .ok b μ) : bNot f ρ μ = .ok (!b) μ := by rw [bNot_eq, h]; rfl
theorem b_v {f : EF} {b : Bool} (h : f ρ μ = .ok (.d (.bl b)) μ) : bV f ρ μ = .ok b μ := by rw [bV_eq, h]; rfl
theorem s_iff {c : BF} {f g : SF} (h : c ρ μ = .ok false μ) : sIf c f g ρ μ = g ρ μ := by rw [sIf_eq, h]; rfl
theorem s_ift {c : BF} {f g : SF} (h : c ρ μ = .ok true μ) : sIf c f g ρ μ = f ρ μ := by rw [sIf_eq, h]; rfl
theorem e_andt {f g : EF} (h : f ρ μ = .ok (.d (.bl true)) μ) : eAnd f g ρ μ = g ρ μ := by rw [eAnd_eq, h]; rfl
theorem s_ret {f : EF} {s : Sl} {μ' : Store} (h : f ρ μ = .ok s μ') : sRet f ρ μ = .rt s μ' := by rw [sRet_eq, h]; rfl
theorem fn_lst {q : List D → Option D} {fl : EF} {ds : List D} {d : D} (h : fl ρ μ = .ok (.d (.lst ds)) μ) (hq : q [.lst ds] = some d) : eN q (aCons fl aNil) ρ μ = .ok (.d d) μ := by
  rw [eN_eq, aCons_eq, h]; simp [hq]
theorem all_lc (enc : γ → D) (f : γ → Bool) (xs : List γ) (h : src ρ μ = .ok (xs.map enc) μ) (hl : xs.length ≤ 16777216) (st : ∀ x, x ∈ xs → ∃ ρ1, g (.d (enc x)) (wipeR ρ vs) = some ρ1 ∧ e ρ1 μ = .ok (.d (.bl (f x))) μ) : eN allD (aCons (eFrz (lLc vs src g bYes e)) aNil) ρ μ = .ok (.d (.bl (xs.all f))) μ := by
  refine fn_lst (frz_lc enc (fun x => .bl (f x)) xs h hl st) ?_
  rw [show (fun x => D.bl (f x)) = D.bl ∘ f from rfl, ← List.map_map, allD_map, List.all_map]; rfl
theorem any_lc (enc : γ → D) (f : γ → Bool) (xs : List γ) (h : src ρ μ = .ok (xs.map enc) μ) (hl : xs.length ≤ 16777216) (st : ∀ x, x ∈ xs → ∃ ρ1, g (.d (enc x)) (wipeR ρ vs) = some ρ1 ∧ e ρ1 μ = .ok (.d (.bl (f x))) μ) : eN anyD (aCons (eFrz (lLc vs src g bYes e)) aNil) ρ μ = .ok (.d (.bl (xs.any f))) μ := by
  refine fn_lst (frz_lc enc (fun x => .bl (f x)) xs h hl st) ?_
  rw [show (fun x => D.bl (f x)) = D.bl ∘ f from rfl, ← List.map_map, anyD_map, List.any_map]; rfl
end
end
section
theorem s_asg {ρ ρ' : Rho} {μ μ' : Store} {f : EF} {g : GF} {s : Sl} (h : f ρ μ = .ok s μ') (k : g s ρ = some ρ') : sAsg f g ρ μ = .nx ρ' μ' := by
  rw [sAsg_eq, h]
  show (match g s ρ with | some ρ' => Out.nx ρ' μ' | none => .no) = _
  rw [k]
theorem ixN_nat {n k : Nat} (h : k < n) : ixN n (k : Int) = some k := by
  unfold ixN
  rw [if_pos (by omega), if_pos (by omega), Int.toNat_natCast]
@[simp] theorem sSet_eq {ρ : Rho} {μ : Store} (fo fi fe : EF) : sSet fo fi fe ρ μ = (fe ρ μ).toOut ρ fun x μ1 => (fo ρ μ1).toOut ρ fun o μ2 => (fi ρ μ2).toOut ρ fun i μ3 => match o, i, x with
  | .ob n, .d (.int k), .d x => match μ3[n]? with
    | some (.lst ds) => match ixN ds.length k with
      | some j => .nx ρ (μ3.set n (.lst (ds.set j x)))
      | none => .no
    | _ => .no
  | _, _, _ => .no := rfl
end
section
theorem e_2 {ρ : Rho} {μ μ1 μ2 : Store} {g : D → D → Option D} {fa fb : EF} {x y : Sl} {r : Res Sl} (ha : fa ρ μ = .ok x μ1) (hb : fb ρ μ1 = .ok y μ2) (hg : o2 g x y μ2 = r) : e2 g fa fb ρ μ = r := by
  rw [e2_eq, ha, rbind_ok, hb, rbind_ok, hg]
end
section
theorem beq_nl : ∀ a b : List Nat, beqL (a.map nD) (b.map nD) = decide (a = b)
  | [], [] => rfl
  | [], _ :: _ => rfl
  | _ :: _, [] => rfl
  | x :: a, y :: b => by
    rw [List.map_cons, List.map_cons]
    show (D.beq (nD x) (nD y) && beqL (a.map nD) (b.map nD)) = _
    rw [beq_nl a b]
    have : D.beq (nD x) (nD y) = decide (x = y) := by
      show decide ((x : Int) = y) = _
      by_cases h : x = y <;> simp [h]; omega
    rw [this]
    by_cases h1 : x = y <;> by_cases h2 : a = b <;> simp [h1, h2]
theorem cmp_nl (a : List Nat) : cmpOkL (a.map nD) = true := by rw [nD_map]; exact cmp_ints _
theorem deep_nl (a : List Nat) : deepL (a.map nD) = 0 := by rw [nD_map]; exact deep_ints _
theorem cmp_nll : ∀ L : List (List Nat), cmpOkL (L.map fun p => .lst (p.map nD)) = true
  | [] => rfl
  | p :: L => by simp [cmpOkL, D.cmpOk, cmp_nl, cmp_nll L]
theorem deep_nll : ∀ L : List (List Nat), deepL (L.map fun p => .lst (p.map nD)) ≤ 1
  | [] => by simp [deepL]
  | p :: L => by have := deep_nll L; simp [deepL, D.deep, deep_nl]; omega
theorem ninD_ll (a : List Nat) (L : List (List Nat)) : ninD (.lst (a.map nD)) (.lst (L.map fun p => .lst (p.map nD))) = some (.bl (!decide (a ∈ L))) := by
  have h2 : (D.lst (L.map fun p => D.lst (p.map nD))).shaped = true := by
    have := deep_nll L
    simp [D.shaped, D.cmpOk, D.deep, cmp_nll]; omega
  have h3 : memD (.lst (a.map nD)) (.lst (L.map fun p => .lst (p.map nD))) = some (decide (a ∈ L)) := by
    show (if (D.lst (a.map nD)).shaped = true ∧ (D.lst (L.map fun p => D.lst (p.map nD))).shaped = true then some ((L.map fun p => D.lst (p.map nD)).any fun z => D.beq z (.lst (a.map nD))) else none) = _
    rw [if_pos ⟨shaped_n a, h2⟩, List.any_map]
    congr 1
    rw [Bool.eq_iff_iff, List.any_eq_true, decide_eq_true_iff]
    constructor
    · rintro ⟨p, hp, e⟩
      have : beqL (p.map nD) (a.map nD) = true := e
      rw [beq_nl, decide_eq_true_iff] at this
      exact this ▸ hp
    · intro h
      refine ⟨a, h, ?_⟩
      show beqL (a.map nD) (a.map nD) = true
      rw [beq_nl]; simp
  unfold ninD
  rw [h3]; rfl
theorem eqD_nil (L : List Nat) : eqD (.lst (L.map nD)) (.lst []) = some (.bl (decide (L = []))) := by
  unfold eqD
  rw [if_pos ⟨shaped_n L, rfl⟩]
  cases L with
  | nil => rfl
  | cons x L => rfl
theorem sumD_map (ns : List Int) : sumD [.lst (ns.map .int)] = some (.int ns.sum) := by
  show (intsOf (ns.map D.int)).map _ = _
  haveI : TabCtx := ⟨[]⟩
  rw [intsOf_map]; rfl
theorem sum_lc {γ : Type} {vs : List Nat} {src : LF} {g : GF} {e : EF} {ρ : Rho} {μ : Store} (enc : γ → D) (f : γ → Int) (xs : List γ) (h : src ρ μ = .ok (xs.map enc) μ) (hl : xs.length ≤ 16777216) (st : ∀ x, x ∈ xs → ∃ ρ1, g (.d (enc x)) (wipeR ρ vs) = some ρ1 ∧ e ρ1 μ = .ok (.d (.int (f x))) μ) : eN sumD (aCons (eFrz (lLc vs src g bYes e)) aNil) ρ μ = .ok (.d (.int (xs.map f).sum)) μ := by
  refine fn_lst (frz_lc enc (fun x => .int (f x)) xs h hl st) ?_
  rw [show (fun x => D.int (f x)) = D.int ∘ f from rfl, ← List.map_map, sumD_map]
end
section
@[simp] theorem inD_2l (a x y : Int) : inD (.int a) (.lst [.int x, .int y]) = some (.bl (decide (a = x ∨ a = y))) := by
  have := memD_l a [x, y]
  unfold inD
  rw [show [D.int x, D.int y] = [x, y].map D.int from rfl, this]
  simp
end
section
theorem beq_il : ∀ a : List Int, beqL (a.map D.int) (a.map D.int) = true
  | [] => rfl
  | x :: a => by
    rw [List.map_cons]
    show (D.beq (.int x) (.int x) && beqL (a.map D.int) (a.map D.int)) = true
    rw [beq_il a, beq_ii]; simp
theorem neD_il (a : List Int) : neD (.lst (a.map D.int)) (.lst (a.map D.int)) = some (.bl false) := by
  unfold neD
  rw [if_pos ⟨shaped_ints a, shaped_ints a⟩]
  show some (D.bl (!beqL (a.map D.int) (a.map D.int))) = _
  rw [beq_il]; rfl
@[simp] theorem eqD_b (a b : Bool) : eqD (.bl a) (.bl b) = some (.bl (a == b)) := by
  unfold eqD; rw [if_pos ⟨rfl, rfl⟩]; rfl
end
section
variable {ρ : Rho} {μ : Store}
theorem fm_rt {nl : Nat} {body : SF} {ss : List Sl} {s : Sl} {μ μ' : Store} (h : body (rho0 nl ss) μ = .rt s μ') : fnMx nl body ss μ = .ok s μ' := by
  unfold fnMx; rw [h]
@[simp] theorem eCallM_eq (n : Nat) (g : MF) (fa : AF) : eCallM n g fa ρ μ = (fa ρ μ).bind fun ss μ1 => if ss.length = n then g ss μ1 else .no := rfl
@[simp] theorem ePop0_eq (fo : EF) : ePop0 fo ρ μ = (fo ρ μ).bind fun o μ1 => match o with
  | .ob n => match μ1[n]? with
    | some (.lst (x :: r)) => .ok (.d x) (μ1.set n (.lst r))
    | _ => .no
  | _ => .no := rfl
theorem neD_nili (L : List Int) : neD (.lst (L.map .int)) (.lst []) = some (.bl (decide (L ≠ []))) := by
  unfold neD
  rw [if_pos ⟨shaped_ints L, rfl⟩]
  cases L with
  | nil => rfl
  | cons x L => rfl
@[simp] theorem mulD_i (i j : Int) : mulD (.int i) (.int j) = if i.natAbs < 18446744073709551616 ∨ j.natAbs < 18446744073709551616 then some (.int (i * j)) else none := rfl
theorem mul_l {i j : Int} (h : i.natAbs < 18446744073709551616) : mulD (.int i) (.int j) = some (.int (i * j)) := by rw [mulD_i, if_pos (.inl h)]
theorem mul_r {i j : Int} (h : j.natAbs < 18446744073709551616) : mulD (.int i) (.int j) = some (.int (i * j)) := by rw [mulD_i, if_pos (.inr h)]
theorem e2_int {f g : EF} {i j : Int} {op : D → D → Option D} {r : D} (hf : f ρ μ = .ok (.d (.int i)) μ) (hg : g ρ μ = .ok (.d (.int j)) μ) (h : op (.int i) (.int j) = some r) : e2 op f g ρ μ = .ok (.d r) μ := by
  rw [e2_eq, hf, rbind_ok, hg, rbind_ok]
  simp [h]
end
section
variable {ρ : Rho} {μ : Store}
theorem rng2_n {f g : EF} {lo hi : Nat} (hf : f ρ μ = .ok (.d (.int (lo : Nat))) μ) (hg : g ρ μ = .ok (.d (.int (hi : Nat))) μ) (h1 : lo ≤ 1000) (h2 : hi ≤ 1000) : sRng2 f g ρ μ = .ok ((List.range' lo (hi - lo)).map nD) μ := by
  unfold sRng2
  rw [hf, rbind_ok, hg, rbind_ok]
  show (if (lo : Int).natAbs ≤ 1000000 ∧ (hi : Int).natAbs ≤ 1000000 then Res.ok (rngL lo ((hi : Int) - lo).toNat) μ else .no) = _
  rw [if_pos ⟨by omega, by omega⟩, show ((hi : Int) - lo).toNat = hi - lo by omega, rngL_map]
  rfl
theorem get_set_ne {b f : Nat} {x : MO} (h : b ≠ f) : (μ.set b x)[f]? = μ[f]? := by rw [List.getElem?_set, if_neg h]
theorem get_set_eq {b : Nat} {x : MO} (h : b < μ.length) : (μ.set b x)[b]? = some x := by rw [List.getElem?_set, if_pos rfl, if_pos h]
end
mutual
def dEq : D → D → Bool
  | .non, .non => true
  | .bl a, .bl b => a == b
  | .int a, .int b => decide (a = b)
  | .tup a, .tup b => dEqL a b
  | _, _ => false
def dEqL : List D → List D → Bool
  | [], [] => true
  | x :: a, y :: b => dEq x y && dEqL a b
  | _, _ => false
end
mutual
theorem dEq_ok : ∀ (a b : D), dEq a b = true → a = b
  | .non, b, h => by cases b <;> simp [dEq] at h; rfl
  | .bl x, b, h => by cases b <;> simp [dEq] at h; subst h; rfl
  | .int x, b, h => by cases b <;> simp [dEq] at h; subst h; rfl
  | .tup x, b, h => by cases b <;> simp [dEq] at h; rw [dEqL_ok _ _ h]
  | .str _, b, h => by cases b <;> simp [dEq] at h
  | .lst _, b, h => by cases b <;> simp [dEq] at h
  | .fn _, b, h => by cases b <;> simp [dEq] at h
  | .scr _, b, h => by cases b <;> simp [dEq] at h
theorem dEqL_ok : ∀ (a b : List D), dEqL a b = true → a = b
  | [], [], _ => rfl
  | [], _ :: _, h => by simp [dEqL] at h
  | _ :: _, [], h => by simp [dEqL] at h
  | x :: a, y :: b, h => by
    simp [dEqL] at h
    rw [dEq_ok x y h.1, dEqL_ok a b h.2]
end
def prEq (r : PR) (d : D) : Bool := match r with
  | .ok x => dEq x d
  | _ => false
theorem prEq_ok {r : PR} {d : D} (h : prEq r d = true) : r = .ok d := by
  cases r with
  | ok x => exact congrArg PR.ok (dEq_ok x d h)
  | ex _ => cases h
  | no => cases h
end
end DL

set_option linter.all false
set_option maxRecDepth 100000
set_option maxHeartbeats 1000000
/-! QB: webs and choices as lists -/
namespace Bt
open PySem DL LV
def en (t : Tl) (v : Nat) (x : Int) : Int := (if t.1 = v then x else 0) + (if t.2.1 = v then x else 0)
def dg : List Tl → List Int → Nat → Int
  | t :: T, x :: xs, v => en t v x + dg T xs v
  | _, _, _ => 0
def Ch : List Tl → List Int → Prop
  | [], [] => True
  | t :: T, x :: xs => (0 ≤ x ∧ x ≤ t.2.2) ∧ Ch T xs
  | _, _ => False
theorem Ch.len : ∀ {T : List Tl} {xs : List Int}, Ch T xs → xs.length = T.length
  | [], [], _ => rfl
  | _ :: T, _ :: xs, h => by simp [Ch.len h.2]
theorem ch_iff : ∀ {T : List Tl} {xs : List Int}, Ch T xs ↔ xs.length = T.length ∧ ∀ i, i < T.length → 0 ≤ xs.getD i 0 ∧ xs.getD i 0 ≤ (T.getD i t0).2.2
  | [], [] => by simp [Ch]
  | [], _ :: _ => by simp [Ch]
  | _ :: _, [] => by simp [Ch]
  | t :: T, x :: xs => by
    constructor
    · rintro ⟨h1, h2⟩
      obtain ⟨h3, h4⟩ := ch_iff.1 h2
      refine ⟨by simp [h3], fun i hi => ?_⟩
      cases i with
      | zero => exact h1
      | succ i => exact h4 i (by simpa using hi)
    · rintro ⟨h1, h2⟩
      exact ⟨h2 0 (by simp), ch_iff.2 ⟨by simpa using h1, fun i hi => h2 (i + 1) (by simpa using hi)⟩⟩
theorem dg_nn : ∀ {T : List Tl} {xs : List Int}, Ch T xs → ∀ v, 0 ≤ dg T xs v
  | [], [], _, _ => Int.le_refl _
  | t :: T, x :: xs, h, v => by
    have h1 := dg_nn h.2 v
    have h2 := h.1
    simp only [dg, en]
    split <;> split <;> omega
theorem P_at {P : List Pl} {w : Nat} (h : w < P.length) : P[w]? = some (lof P w, upf P w) := by
  unfold lof upf
  rw [List.getD_eq_getElem?_getD, List.getElem?_eq_getElem h]; rfl
abbrev far : Int := 1000000000000000000000000000000
def lt2 (s t : Tl) : Prop := s.1 < t.1 ∨ (s.1 = t.1 ∧ s.2.1 < t.2.1)
structure WebOk (P : List Pl) (T : List Tl) : Prop where
  n1 : 1 ≤ P.length
  n5 : P.length ≤ 5
  p : ∀ p, p ∈ P → 0 ≤ p.1 ∧ p.1 ≤ p.2 ∧ p.2 ≤ far
  m : T.length ≤ 10
  t : TOk P.length T
  far : ∀ t, t ∈ T → t.2.2 ≤ far
  srt : ∀ q, q ∈ T.zip (T.drop 1) → lt2 q.1 q.2
def eW (P : List Pl) (T : List Tl) : D := .tup [ePs P, eTs T]
theorem lex2 {a b c d : Nat} (h : a < c ∨ (a = c ∧ b < d)) : HT.lexLt [(a : Int), b] [(c : Int), d] = true := by
  rw [HT.lexLt_cons]
  by_cases q : (a : Int) = c
  · rw [if_pos q, HT.lexLt_cons, if_neg (by omega)]; exact decide_eq_true (by omega)
  · rw [if_neg q]; exact decide_eq_true (by omega)
def lsf (f : Nat → Int) (n : Nat) : List D := (List.range n).map fun v => D.int (f v)
@[simp] theorem lsf_len (f : Nat → Int) (n : Nat) : (lsf f n).length = n := by unfold lsf; simp
theorem lsf_get {f : Nat → Int} {n k : Nat} (h : k < n) : (lsf f n)[k]? = some (.int (f k)) := by
  unfold lsf; rw [List.getElem?_map, List.getElem?_range h]; rfl
theorem lsf_set {f : Nat → Int} {n k : Nat} {y : Int} (h : k < n) : (lsf f n).set k (.int y) = lsf (fun v => if v = k then y else f v) n := by
  refine List.ext_getElem? fun i => ?_
  by_cases hi : i < n
  · rw [List.getElem?_set, lsf_get hi]
    by_cases e : k = i
    · subst e; rw [if_pos rfl, lsf_len, if_pos hi, lsf_get hi, if_pos rfl]
    · rw [if_neg e, lsf_get hi, if_neg (show ¬ i = k from fun h => e h.symm)]
  · rw [List.getElem?_eq_none (by simp; omega), List.getElem?_eq_none (by simp; omega)]
theorem zip_lsf {P : List Pl} {f : Nat → Int} : zipD (P.map eP) (lsf f P.length) = (List.range P.length).map fun v => .tup [eP (lof P v, upf P v), .int (f v)] := by
  unfold lsf
  rw [zipD_map]
  refine List.ext_getElem? fun i => ?_
  rw [List.getElem?_map, List.getElem?_map]
  by_cases hi : i < P.length
  · rw [List.getElem?_range hi, (List.getElem?_zip_eq_some (z := ((lof P i, upf P i), i))).2 ⟨P_at hi, List.getElem?_range hi⟩]; rfl
  · rw [List.getElem?_eq_none (by simp; omega), List.getElem?_eq_none (by simp; omega)]; rfl
theorem fold_dg : ∀ {T : List Tl} {xs : List Int} (f : Nat → Int), (T.zip xs).foldl (fun f (q : Tl × Int) v => f v + en q.1 v q.2) f = fun v => f v + dg T xs v
  | [], _, f => by simp [dg]
  | _ :: _, [], f => by simp [dg]
  | t :: T, x :: xs, f => by
    rw [List.zip_cons_cons, List.foldl_cons, fold_dg]
    funext v
    show f v + en t v x + dg T xs v = f v + (en t v x + dg T xs v)
    omega
def RS (P : List Pl) (T : List Tl) (xs : List Int) (f : Nat → Int) (ρ : Rho) (μ : Store) : Prop := μ = [.lst (lsf f P.length)] ∧ ∃ j3 j4 j5 j6 j7, ρ = [some (.d (eW P T)), some (.d (.tup (xs.map .int))), some (.ob 0), j3, j4, j5, j6, j7]
theorem en_set {t : Tl} {f : Nat → Int} {x : Int} (ht : t.1 < t.2.1) (n : Nat) : lsf (fun v => if v = t.2.1 then (if t.2.1 = t.1 then f t.1 + x else f t.2.1) + x else if v = t.1 then f t.1 + x else f v) n = lsf (fun v => f v + en t v x) n := by
  unfold lsf
  refine List.map_congr_left fun v _ => ?_
  unfold en
  dsimp only
  have n1 : ¬ t.2.1 = t.1 := by omega
  by_cases e1 : t.1 = v
  · have e2 : ¬ t.2.1 = v := by omega
    have e3 : ¬ v = t.2.1 := by omega
    rw [if_neg e3, if_pos e1.symm, if_pos e1, if_neg e2, e1]; simp
  · by_cases e2 : t.2.1 = v
    · rw [if_pos e2.symm, if_neg n1, if_neg e1, if_pos e2, e2]; simp
    · have e3 : ¬ v = t.2.1 := by omega
      have e4 : ¬ v = t.1 := by omega
      rw [if_neg e3, if_neg e4, if_neg e1, if_neg e2]; simp
theorem sums_body {P : List Pl} {T : List Tl} (hT : TOk P.length T) (xs : List Int) (g : GF) (body : SF) (hg : g = gT [gT [gN 3, gN 4, gN 5], gN 6]) (hb : body = sSeq (sSet (eV 2) (eV 3) (e2 addD (e2 ixD (eV 2) (eV 3)) (eV 6))) (sSet (eV 2) (eV 4) (e2 addD (e2 ixD (eV 2) (eV 4)) (eV 6)))) (hl : xs.length = T.length) :
    ∃ ρ' μ', forL g body ((T.zip xs).map fun q => .tup [eT q.1, .int q.2]) [some (.d (eW P T)), some (.d (.tup (xs.map .int))), some (.ob 0), none, none, none, none, none] [.lst (lsf (fun _ => 0) P.length)] = .nx ρ' μ' ∧ RS P T xs (dg T xs) ρ' μ' := by
  subst hg hb
  obtain ⟨ρ', μ', h1, h2⟩ := for_foldM (g := gT [gT [gN 3, gN 4, gN 5], gN 6]) (body := sSeq (sSet (eV 2) (eV 3) (e2 addD (e2 ixD (eV 2) (eV 3)) (eV 6))) (sSet (eV 2) (eV 4) (e2 addD (e2 ixD (eV 2) (eV 4)) (eV 6)))) (fun (q : Tl × Int) => .tup [eT q.1, .int q.2]) (RS P T xs) (fun f q v => f v + en q.1 v q.2) (T.zip xs) (fun _ => 0)
    [some (.d (eW P T)), some (.d (.tup (xs.map .int))), some (.ob 0), none, none, none, none, none] [.lst (lsf (fun _ => 0) P.length)] (by
      rintro ⟨⟨a, b, c⟩, x⟩ hq f ρ μ ⟨rfl, j3, j4, j5, j6, j7, rfl⟩
      have ht : a < b ∧ b < P.length ∧ 0 < c := hT _ (List.of_mem_zip hq).1
      have ha : a < P.length := by omega
      refine ⟨_, [some (.d (eW P T)), some (.d (.tup (xs.map .int))), some (.ob 0), some (.d (nD a)), some (.d (nD b)), some (.d (.int c)), some (.d (.int x)), j7], [.lst (lsf (fun v => f v + en (a, b, c) v x) P.length)], rfl, ?_, rfl, _, _, _, _, _, rfl⟩
      rw [← en_set (t := (a, b, c)) ht.1]
      simp [lsf_get ha, lsf_get ht.2.1, ixN_nat ha, ixN_nat ht.2.1, lsf_set ha, lsf_set ht.2.1]) ⟨rfl, _, _, _, _, _, rfl⟩
  refine ⟨ρ', μ', h1, ?_⟩
  rw [fold_dg] at h2
  rw [show dg T xs = fun v => (0 : Int) + dg T xs v from funext fun v => by omega]
  exact h2
theorem zeros_lc {P : List Pl} {T : List Tl} {xs : List Int} {g : GF} {e : EF} (hg : g = gN 7) (he : e = eC (.int 0)) (hn : P.length ≤ 1000) : eNew (lLc [7] (sSq (e2 ixD (eV 0) (eC (.int 0)))) g (bYes) e) [some (.d (eW P T)), some (.d (.tup (xs.map .int))), none, none, none, none, none, none] [] = .ok (.ob 0) [.lst (lsf (fun _ => 0) P.length)] := by
  subst hg he
  have h := lc_map (vs := [7]) (g := gN 7) (e := eC (.int 0)) (ρ := [some (.d (eW P T)), some (.d (.tup (xs.map .int))), none, none, none, none, none, none]) (μ := []) eP (fun _ => .int 0) P fun p hp => ⟨_, rfl, rfl⟩
  have e : P.map (fun _ => D.int 0) = lsf (fun _ => 0) P.length := by
    unfold lsf
    rw [List.map_const', List.map_const', List.length_range]
  have c : P.length ≤ 16777216 := by omega
  rw [e] at h
  have s : sSq (e2 ixD (eV 0) (eC (.int 0))) [some (.d (eW P T)), some (.d (.tup (xs.map .int))), none, none, none, none, none, none] [] = .ok (P.map eP) [] := by simp [eW, ePs]
  rw [eNew_eq, lLc_eq, s, rbind_ok, h, lcap_ok, lsf_len, if_pos c]; rfl
def missL (P : List Pl) (T : List Tl) (xs : List Int) : Int := sm (fun v => phi (lof P v) (upf P v) (dg T xs v)) P.length
theorem pair_next2 : ∀ {L : List Tl}, L.Pairwise lt2 → ∀ q, q ∈ L.zip (L.drop 1) → lt2 q.1 q.2
  | [], _, q, hq => by simp at hq
  | [x], _, q, hq => by simp at hq
  | x :: y :: L, h, q, hq => by
    have hq' : q ∈ (x, y) :: ((y :: L).zip ((y :: L).drop 1)) := hq
    rcases List.mem_cons.1 hq' with rfl | k
    · exact (List.pairwise_cons.1 h).1 y (List.mem_cons_self ..)
    · exact pair_next2 (List.pairwise_cons.1 h).2 q k
end Bt

set_option linter.all false
set_option maxRecDepth 100000
/-! what the defs compute, as plain functions (printed by gen2.py) -/
namespace Bt
open PySem DL
noncomputable section
def fuel : Nat := 1000
/-- the error classes that are raised -/
def errN : List Str := ["InvalidWeb", "InvalidText"]
def okE (y : Exn) : Bool := y.fs.isNone && errN.contains y.cls
def labT : List (Str × Str) := [("InvalidWeb", "web"), ("InvalidText", "text")]
def labE (y : Exn) : Option Str := if okE y = true then labT.lookup y.cls else none
def isC (y : Exn) (n : Str) : Bool := y.cls == n
/-! _law_cell: script 0, k 1 -/
def F_u_law_cell : SF :=
  sSeq (sIf (bV (e2 ltD (eV 1) (eN lenD (aCons (eV 0) (aNil))))) (sRet (e2 ixD (eV 0) (eV 1))) (sNil))
  (sSeq (sIf (bV (e2 eqD (eN lenD (aCons (eV 0) (aNil))) (eC (.int 0)))) (sRet (e2 addD (e2 mulD (eC (.int 7919)) (eV 1)) (eC (.int 101)))) (sNil))
  (sRet (e2 addD (e2 modD (e2 ixD (eV 0) (e2 modD (eV 1) (eN lenD (aCons (eV 0) (aNil))))) (eC (.int 1000003))) (e2 mulD (eC (.int 7919)) (eV 1)))))
def p_u_law_cell : PF := fnPx 0 F_u_law_cell
/-! _law_draws: script 0, k 1, many 2, base 3, primes 4, cell 5, rest 6, row 7, j 8, mash 9 -/
def F_u_law_draws : SF :=
  sSeq (sAsg (eTup (aCons (eC (.int 2147483647)) (aCons (eC (.int 2147483629)) (aCons (eC (.int 2147483587)) (aCons (eC (.int 2147483579)) (aCons (eC (.int 2147483563)) (aCons (eC (.int 2147483549)) (aCons (eC (.int 2147483543)) (aCons (eC (.int 2147483497)) (aNil)))))))))) (gN 4))
  (sSeq (sAsg (eCall 2 p_u_law_cell (aCons (eV 0) (aCons (eV 1) (aNil)))) (gN 5))
  (sSeq (sAsg (eC (.int 0)) (gN 6))
  (sSeq (sIf (bV (e2 geD (eV 5) (e2 powD (eC (.int 10)) (eC (.int 18))))) (sAsg (eV 5) (gN 6)) (sNil))
  (sSeq (sAsg (eNew (lLst (aNil))) (gN 7))
  (sSeq (sFor (sRng1 (eV 2)) (gN 8) (sSeq (sAsg (e2 mulD (e2 modD (eV 5) (e2 ixD (eV 4) (e2 modD (eV 8) (eC (.int 8))))) (e2 addD (eC (.int 48271)) (e2 mulD (e2 mulD (eC (.int 2)) (eV 8)) (eV 8)))) (gN 9))
  (sSeq (sAsg (e2 addD (e2 addD (eV 9) (e2 mulD (e2 mulD (eC (.int 7919)) (e2 addD (eV 8) (eC (.int 1)))) (e2 addD (eV 8) (eC (.int 1))))) (e2 mulD (eC (.int 104729)) (eV 1))) (gN 9))
  (sSeq (sAsg (e2 modD (eV 9) (e2 ixD (eV 4) (e2 modD (e2 addD (e2 mulD (eC (.int 3)) (eV 8)) (eV 1)) (eC (.int 8))))) (gN 9))
  (sSeq (sAsg (e2 modD (e2 mulD (e2 mulD (eV 9) (eV 9)) (eV 9)) (e2 ixD (eV 4) (e2 modD (e2 addD (eV 8) (eC (.int 5))) (eC (.int 8))))) (gN 9))
  (sSeq (sIf (bV (e2 gtD (eV 6) (eC (.int 0)))) (sAsg (eV 6) (gN 9)) (sNil))
  (sSeq (sExp (eApp (eV 7) (e2 modD (eV 9) (eV 3))))
  (sAsg (e2 fdivD (eV 6) (eV 3)) (gN 6)))))))))
  (sRet (eV 7)))))))
def m_u_law_draws : MF := fnMx 6 F_u_law_draws
/-! _law_bag: script 0, k 1 -/
def F_u_law_bag : SF :=
  sRet (eCallM 4 m_u_law_draws (aCons (eV 0) (aCons (eV 1) (aCons (eC (.int 150)) (aCons (eC (.int 27720)) (aNil))))))
def m_u_law_bag : MF := fnMx 0 F_u_law_bag
/-! _law_take: bag 0, many 1, draw 2 -/
def F_u_law_take : SF :=
  sSeq (sAsg (eIf (bV (e2 neD (eV 0) (eFrz (lLst (aNil))))) (ePop0 (eV 0)) (eC (.int 0))) (gN 2))
  (sRet (e2 modD (eN intD (aCons (eV 2) (aNil))) (eV 1)))
def m_u_law_take : MF := fnMx 1 F_u_law_take
/-! _law_choice: bag 0, some 1 -/
def F_u_law_choice : SF :=
  sRet (e2 ixD (eV 1) (eCallM 2 m_u_law_take (aCons (eV 0) (aCons (eN lenD (aCons (eV 1) (aNil))) (aNil)))))
def m_u_law_choice : MF := fnMx 0 F_u_law_choice
/-! _law_text: one 0, rows 1, first 2, other 3, limit 4, least 5, most 6 -/
def F_u_law_text : SF :=
  sSeq (sAsg (eNew (lLc [5, 6] (sSq (e2 ixD (eV 0) (eC (.int 0)))) (gT [gN 5, gN 6]) (bYes) (eJoin (eC (.str " ")) (eFrz (lLst (aCons (eC (.str "place")) (aCons (eN strD (aCons (eV 5) (aNil))) (aCons (eN strD (aCons (eV 6) (aNil))) (aNil))))))))) (gN 1))
  (sSeq (sFor (sSq (e2 ixD (eV 0) (eC (.int 1)))) (gT [gN 2, gN 3, gN 4]) (sExp (eApp (eV 1) (eJoin (eC (.str " ")) (eFrz (lLst (aCons (eC (.str "tie")) (aCons (eN strD (aCons (eV 2) (aNil))) (aCons (eN strD (aCons (eV 3) (aNil))) (aCons (eN strD (aCons (eV 4) (aNil))) (aNil)))))))))))
  (sRet (eJoin (eC (.str "\n")) (eV 1))))
def p_u_law_text : PF := fnPx 6 F_u_law_text
/-! _law_named_error: e 0, some 1, labels 2, label 3, good 4 -/
def F_u_law_named_error (y : Exn) (t : CTok) : SF :=
  sSeq (sAsg (eFrz (lLst (aCons (eIsE 0 t (isC y "InvalidWeb")) (aCons (eIsE 0 t (isC y "InvalidChoice")) (aCons (eIsE 0 t (isC y "InvalidLots")) (aNil)))))) (gN 1))
  (sSeq (sAsg (eFrz (lCat (eV 1) (eFrz (lLst (aCons (eIsE 0 t (isC y "InvalidTie")) (aCons (eIsE 0 t (isC y "InvalidPlace")) (aCons (eIsE 0 t (isC y "InvalidNumber")) (aNil)))))))) (gN 1))
  (sSeq (sAsg (eFrz (lCat (eV 1) (eFrz (lLst (aCons (eIsE 0 t (isC y "InvalidPairs")) (aCons (eIsE 0 t (isC y "InvalidText")) (aCons (eIsE 0 t (isC y "Unlike")) (aNil)))))))) (gN 1))
  (sSeq (sAsg (eFrz (lCat (eV 1) (eFrz (lLst (aCons (eIsE 0 t (isC y "NoChoice")) (aCons (eIsE 0 t (isC y "NothingToUndo")) (aCons (eIsE 0 t (isC y "TooMany")) (aNil)))))))) (gN 1))
  (sSeq (sAsg (eC (.str "web choice lots tie place number pairs text unlike none undo many")) (gN 2))
  (sRet (eJoin (eC (.str " ")) (eFrz (lLc [3, 4] (sZipL (eFrz (lSplit (eV 2) (eC (.str " ")))) (eV 1)) (gTt [gN 3, gN 4]) (bV (eV 4)) (eV 3)))))))))
/-! _law_error: call 0, e 1 -/
def F_u_law_error (t : CTok) (φ : MF) : SF :=
  sSeq (sTryAs 1 okE (sExp (eAct 0 0 t φ aNil)) (fun y t => sRet (eIf (bV (eIsE 1 t true)) (eNm 1 t (labE y)) (eC (.str "odd")))))
  (sRet (eC (.str "")))
def h_u_law_error (t : CTok) (φ : MF) : MF := fnMx 1 (F_u_law_error t φ)
/-! _law_all_refused: call 0, odds 1, name 2, odd 3 -/
def F_u_law_all_refused (t : CTok) (φ : MF) : SF :=
  sRet (e2 eqD (eFrz (lLc [3] (sSq (eV 1)) (gN 3) (bV (e2 neD (eCallH 1 h_u_law_error (xLam (aNil)) 0 [0, 3] (eAct 0 1 t φ (aCons (eV 1) (aNil)))) (eV 2))) (eV 3))) (eFrz (lLst (aNil))))
def h_u_law_all_refused (t : CTok) (φ : MF) : MF := fnMx 1 (F_u_law_all_refused t φ)
/-! is_figures: word 0, sign 1 -/
def F_is_figures : SF :=
  sRet (eAnd (eChn ltI leI (eC (.int 0)) (eN lenD (aCons (eV 0) (aNil))) (eC (.int 31))) (eN allD (aCons (eFrz (lLc [1] (sStr (eV 0)) (gN 1) (bYes) (e2 inSD (eV 1) (eC (.str "0123456789"))))) (aNil))))
def p_is_figures : PF := fnPx 1 F_is_figures
/-! row_in: line 0, words 1, word 2 -/
def F_row_in : SF :=
  sSeq (sAsg (eFrz (lSplit (eV 0) (eC (.str " ")))) (gN 1))
  (sSeq (sIf (bNot (bV (eN allD (aCons (eFrz (lLc [2] (sSq (eSl (eV 1) (pSome (eC (.int 1))) (pNone))) (gN 2) (bYes) (eCall 1 p_is_figures (aCons (eV 2) (aNil))))) (aNil))))) (sRet (eC .non)) (sNil))
  (sRet (eTup (aCons (e2 ixD (eV 1) (eC (.int 0))) (aCons (eN tupleD (aCons (eFrz (lLc [2] (sSq (eSl (eV 1) (pSome (eC (.int 1))) (pNone))) (gN 2) (bYes) (eN intSD (aCons (eV 2) (aNil))))) (aNil))) (aNil))))))
def p_row_in : PF := fnPx 2 F_row_in
/-! is_whole: value 0, low 1, high 2 -/
def F_is_whole : SF :=
  sRet (eAnd (eIsI "int" (eV 0)) (eAnd (eNot (eIsI "bool" (eV 0))) (eChn leI leI (eV 1) (eV 0) (eV 2))))
def p_is_whole : PF := fnPx 0 F_is_whole
/-! fits_stretch: value 0 -/
def F_fits_stretch : SF :=
  sSeq (sIf (bOr (bNot (bV (eIsI "tuple" (eV 0)))) (bOr (bV (e2 neD (eN lenD (aCons (eV 0) (aNil))) (eC (.int 2)))) (bNot (bV (eCall 3 p_is_whole (aCons (e2 ixD (eV 0) (eC (.int 0))) (aCons (eC (.int 0)) (aCons (eC (.int 1000000000000000000000000000000)) (aNil))))))))) (sRet (eC (.bl false))) (sNil))
  (sRet (eCall 3 p_is_whole (aCons (e2 ixD (eV 0) (eC (.int 1))) (aCons (e2 ixD (eV 0) (eC (.int 0))) (aCons (eC (.int 1000000000000000000000000000000)) (aNil))))))
def p_fits_stretch : PF := fnPx 0 F_fits_stretch
/-! fits_tie: value 0, many 1 -/
def F_fits_tie : SF :=
  sSeq (sIf (bOr (bNot (bV (eIsI "tuple" (eV 0)))) (bOr (bV (e2 neD (eN lenD (aCons (eV 0) (aNil))) (eC (.int 3)))) (bNot (bV (eCall 3 p_is_whole (aCons (e2 ixD (eV 0) (eC (.int 0))) (aCons (eC (.int 0)) (aCons (e2 subD (eV 1) (eC (.int 1))) (aNil))))))))) (sRet (eC (.bl false))) (sNil))
  (sRet (eAnd (eCall 3 p_is_whole (aCons (e2 ixD (eV 0) (eC (.int 1))) (aCons (e2 addD (e2 ixD (eV 0) (eC (.int 0))) (eC (.int 1))) (aCons (e2 subD (eV 1) (eC (.int 1))) (aNil))))) (eCall 3 p_is_whole (aCons (e2 ixD (eV 0) (eC (.int 2))) (aCons (eC (.int 1)) (aCons (eC (.int 1000000000000000000000000000000)) (aNil)))))))
def p_fits_tie : PF := fnPx 0 F_fits_tie
/-! fits_web: value 0, places 1, ties 2, one 3, other 4 -/
def F_fits_web : SF :=
  sSeq (sIf (bOr (bNot (bV (eIsI "tuple" (eV 0)))) (bV (e2 neD (eN lenD (aCons (eV 0) (aNil))) (eC (.int 2))))) (sRet (eC (.bl false))) (sNil))
  (sSeq (sAsg (eV 0) (gT [gN 1, gN 2]))
  (sSeq (sIf (bOr (bNot (bV (eIsI "tuple" (eV 1)))) (bNot (bV (eChn leI leI (eC (.int 1)) (eN lenD (aCons (eV 1) (aNil))) (eC (.int 5)))))) (sRet (eC (.bl false))) (sNil))
  (sSeq (sIf (bNot (bV (eN allD (aCons (eFrz (lLc [3] (sSq (eV 1)) (gN 3) (bYes) (eCall 1 p_fits_stretch (aCons (eV 3) (aNil))))) (aNil))))) (sRet (eC (.bl false))) (sNil))
  (sSeq (sIf (bOr (bNot (bV (eIsI "tuple" (eV 2)))) (bOr (bV (e2 gtD (eN lenD (aCons (eV 2) (aNil))) (eC (.int 10)))) (bNot (bV (eN allD (aCons (eFrz (lLc [3] (sSq (eV 2)) (gN 3) (bYes) (eCall 2 p_fits_tie (aCons (eV 3) (aCons (eN lenD (aCons (eV 1) (aNil))) (aNil)))))) (aNil))))))) (sRet (eC (.bl false))) (sNil))
  (sRet (eN allD (aCons (eFrz (lLc [3, 4] (sZip (eV 2) (eSl (eV 2) (pSome (eC (.int 1))) (pNone))) (gT [gN 3, gN 4]) (bYes) (e2 ltD (eSl (eV 3) (pNone) (pSome (eC (.int 2)))) (eSl (eV 4) (pNone) (pSome (eC (.int 2))))))) (aNil))))))))
def p_fits_web : PF := fnPx 4 F_fits_web
/-! as_text: web 0, lines 1, least 2, most 3, one 4, other 5, limit 6 -/
def F_as_text : SF :=
  sSeq (sAsg (eFrz (lLc [2, 3] (sSq (e2 ixD (eV 0) (eC (.int 0)))) (gT [gN 2, gN 3]) (bYes) (eFs [eC (.str "place "), eFmt (eV 2), eC (.str " "), eFmt (eV 3)]))) (gN 1))
  (sRet (eJoin (eC (.str "\n")) (e2 addD (eV 1) (eFrz (lLc [4, 5, 6] (sSq (e2 ixD (eV 0) (eC (.int 1)))) (gT [gN 4, gN 5, gN 6]) (bYes) (eFs [eC (.str "tie "), eFmt (eV 4), eC (.str " "), eFmt (eV 5), eC (.str " "), eFmt (eV 6)]))))))
def p_as_text : PF := fnPx 6 F_as_text
/-! web_in: text 0, rows 1, places 2, found 3, line 4, word 5, numbers 6 -/
def F_web_in : SF :=
  sSeq (sIf (bNot (bV (eIsI "str" (eV 0)))) (sRaise "InvalidText") (sNil))
  (sSeq (sAsg (eFrz (lLc [4] (sSq (eFrz (lSplit (eV 0) (eC (.str "\n"))))) (gN 4) (bYes) (eCall 1 p_row_in (aCons (eV 4) (aNil))))) (gN 1))
  (sSeq (sIf (bV (e2 inD (eC .non) (eV 1))) (sRaise "InvalidText") (sNil))
  (sSeq (sAsg (eN tupleD (aCons (eFrz (lLc [5, 6] (sSq (eV 1)) (gT [gN 5, gN 6]) (bV (e2 eqD (eV 5) (eC (.str "place")))) (eV 6))) (aNil))) (gN 2))
  (sSeq (sAsg (eTup (aCons (eV 2) (aCons (eN tupleD (aCons (eFrz (lLc [5, 6] (sSq (eV 1)) (gT [gN 5, gN 6]) (bV (e2 eqD (eV 5) (eC (.str "tie")))) (eV 6))) (aNil))) (aNil)))) (gN 3))
  (sSeq (sIf (bOr (bNot (bV (eCall 1 p_fits_web (aCons (eV 3) (aNil))))) (bV (e2 neD (eCall 1 p_as_text (aCons (eV 3) (aNil))) (eV 0)))) (sRaise "InvalidText") (sNil))
  (sRet (eV 3)))))))
def p_web_in : PF := fnPx 6 F_web_in
/-! read_web: value 0 -/
def F_read_web : SF :=
  sRet (eCall 1 p_web_in (aCons (eV 0) (aNil)))
def p_read_web : PF := fnPx 0 F_read_web
/-! _law_number: word 0, sign 1 -/
def F_u_law_number : SF :=
  sSeq (sIf (bOr (bV (e2 eqD (eV 0) (eC (.str "")))) (bOr (bV (e2 gtD (eN lenD (aCons (eV 0) (aNil))) (eC (.int 31)))) (bV (e2 neD (eFrz (lLc [1] (sStr (eV 0)) (gN 1) (bV (e2 ninSD (eV 1) (eC (.str "0123456789")))) (eV 1))) (eFrz (lLst (aNil))))))) (sRet (eC .non)) (sNil))
  (sRet (eIf (bOr (bV (e2 eqD (eV 0) (eC (.str "0")))) (bV (e2 neD (e2 ixD (eV 0) (eC (.int 0))) (eC (.str "0"))))) (eN intSD (aCons (eV 0) (aNil))) (eC .non)))
def p_u_law_number : PF := fnPx 1 F_u_law_number
/-! _law_read: text 0, places_so 1, ties_so 2, before 3, line 4, words 5, some 6, word 7, row 8 -/
def F_u_law_read : SF :=
  sSeq (sPack [1, 2, 3] (aCons (eNew (lLst (aNil))) (aCons (eNew (lLst (aNil))) (aCons (eTup (aCons (e1 negD (eC (.int 1))) (aCons (e1 negD (eC (.int 1))) (aNil)))) (aNil)))))
  (sSeq (sFor (sSq (eFrz (lSplit (eV 0) (eC (.str "\n"))))) (gN 4) (sSeq (sAsg (eFrz (lSplit (eV 4) (eC (.str " ")))) (gN 5))
  (sSeq (sAsg (eFrz (lLc [7] (sSq (eSl (eV 5) (pSome (eC (.int 1))) (pNone))) (gN 7) (bYes) (eCall 1 p_u_law_number (aCons (eV 7) (aNil))))) (gN 6))
  (sSeq (sIf (bOr (bV (e2 inD (eC .non) (eV 6))) (bV (e2 neD (eFrz (lLc [7] (sSq (eV 6)) (gN 7) (bV (e2 gtD (eV 7) (e2 powD (eC (.int 10)) (eC (.int 30))))) (eV 7))) (eFrz (lLst (aNil)))))) (sRet (eC .non)) (sNil))
  (sIf (bAnd (bV (e2 eqD (e2 ixD (eV 5) (eC (.int 0))) (eC (.str "place")))) (bAnd (bV (e2 eqD (eN lenD (aCons (eV 6) (aNil))) (eC (.int 2)))) (bAnd (bV (e2 eqD (eV 2) (eFrz (lLst (aNil))))) (bV (e2 leD (e2 ixD (eV 6) (eC (.int 0))) (e2 ixD (eV 6) (eC (.int 1)))))))) (sExp (eApp (eV 1) (eTup (aCons (e2 ixD (eV 6) (eC (.int 0))) (aCons (e2 ixD (eV 6) (eC (.int 1))) (aNil)))))) (sIf (bAnd (bV (e2 eqD (e2 ixD (eV 5) (eC (.int 0))) (eC (.str "tie")))) (bAnd (bV (e2 eqD (eN lenD (aCons (eV 6) (aNil))) (eC (.int 3)))) (bAnd (bV (e2 ltD (e2 ixD (eV 6) (eC (.int 0))) (e2 ixD (eV 6) (eC (.int 1))))) (bAnd (bV (e2 gtD (e2 ixD (eV 6) (eC (.int 2))) (eC (.int 0)))) (bV (e2 gtTD (eTup (aCons (e2 ixD (eV 6) (eC (.int 0))) (aCons (e2 ixD (eV 6) (eC (.int 1))) (aNil)))) (eV 3))))))) (sSeq (sAsg (eTup (aCons (e2 ixD (eV 6) (eC (.int 0))) (aCons (e2 ixD (eV 6) (eC (.int 1))) (aNil)))) (gN 3))
  (sExp (eApp (eV 2) (eTup (aCons (e2 ixD (eV 6) (eC (.int 0))) (aCons (e2 ixD (eV 6) (eC (.int 1))) (aCons (e2 ixD (eV 6) (eC (.int 2))) (aNil)))))))) (sRet (eC .non))))))))
  (sSeq (sIf (bOr (bNot (bV (eChn leI leI (eC (.int 1)) (eN lenD (aCons (eV 1) (aNil))) (eC (.int 5))))) (bV (e2 gtD (eN lenD (aCons (eV 2) (aNil))) (eC (.int 10))))) (sRet (eC .non)) (sNil))
  (sSeq (sIf (bV (e2 neD (eFrz (lLcO [8] (eV 2) (gN 8) (bV (e2 geD (e2 ixD (eV 8) (eC (.int 1))) (eN lenD (aCons (eV 1) (aNil))))) (eV 8))) (eFrz (lLst (aNil))))) (sRet (eC .non)) (sNil))
  (sRet (eTup (aCons (eN tupleD (aCons (eV 1) (aNil))) (aCons (eN tupleD (aCons (eV 2) (aNil))) (aNil))))))))
def p_u_law_read : PF := fnPx 8 F_u_law_read
/-! need_web: value 0 -/
def F_need_web : SF :=
  sIf (bNot (bV (eCall 1 p_fits_web (aCons (eV 0) (aNil))))) (sRaise "InvalidWeb") (sNil)
def p_need_web : PF := fnPx 0 F_need_web
/-! web_text: web 0 -/
def F_web_text : SF :=
  sSeq (sExp (eCall 1 p_need_web (aCons (eV 0) (aNil))))
  (sRet (eCall 1 p_as_text (aCons (eV 0) (aNil))))
def p_web_text : PF := fnPx 0 F_web_text
/-! _law_ties: bag 0, many 1, most 2, limit 3, found 4, one 5, other 6 -/
def F_u_law_ties : SF :=
  sSeq (sAsg (eNew (lLst (aNil))) (gN 4))
  (sSeq (sFor (sRng1 (eV 1)) (gN 5) (sFor (sRng2 (e2 addD (eV 5) (eC (.int 1))) (eV 1)) (gN 6) (sIf (bAnd (bV (e2 ltD (eN lenD (aCons (eV 4) (aNil))) (eV 2))) (bV (e2 gtD (eCallM 2 m_u_law_take (aCons (eV 0) (aCons (eC (.int 3)) (aNil)))) (eC (.int 0))))) (sExp (eApp (eV 4) (eTup (aCons (eV 5) (aCons (eV 6) (aCons (e2 addD (eC (.int 1)) (eCallM 2 m_u_law_take (aCons (eV 0) (aCons (eV 3) (aNil))))) (aNil))))))) (sNil))))
  (sRet (eN tupleD (aCons (eV 4) (aNil)))))
def m_u_law_ties : MF := fnMx 3 F_u_law_ties
/-! _law_web: bag 0, many 1, ties_so 2, places_so 3, narrow 4, place 5, least 6 -/
def F_u_law_web : SF :=
  sSeq (sAsg (e2 addD (eC (.int 1)) (eCallM 2 m_u_law_take (aCons (eV 0) (aCons (eC (.int 4)) (aNil))))) (gN 1))
  (sSeq (sPar 2 3 (eCallM 4 m_u_law_ties (aCons (eV 0) (aCons (eV 1) (aCons (eC (.int 5)) (aCons (eC (.int 2)) (aNil)))))) (eNew (lLst (aNil))))
  (sSeq (sAsg (eCallM 2 m_u_law_take (aCons (eV 0) (aCons (eC (.int 2)) (aNil)))) (gN 4))
  (sSeq (sFor (sRng1 (eV 1)) (gN 5) (sSeq (sAsg (eCallM 2 m_u_law_take (aCons (eV 0) (aCons (eC (.int 4)) (aNil)))) (gN 6))
  (sExp (eApp (eV 3) (eTup (aCons (eV 6) (aCons (e2 addD (eV 6) (eIf (bAnd (bV (e2 eqD (eV 4) (eC (.int 0)))) (bV (e2 gtD (eCallM 2 m_u_law_take (aCons (eV 0) (aCons (eC (.int 4)) (aNil)))) (eC (.int 0))))) (eC (.int 0)) (eCallM 2 m_u_law_take (aCons (eV 0) (aCons (eC (.int 3)) (aNil)))))) (aNil))))))))
  (sRet (eTup (aCons (eN tupleD (aCons (eV 3) (aNil))) (aCons (eV 2) (aNil))))))))
def m_u_law_web : MF := fnMx 6 F_u_law_web
/-! _law_great_web: bag 0, many 1, ties_so 2, unit 3, places_so 4, place 5, least 6, one 7, other 8, limit 9 -/
def F_u_law_great_web : SF :=
  sSeq (sAsg (e2 addD (eC (.int 2)) (eCallM 2 m_u_law_take (aCons (eV 0) (aCons (eC (.int 3)) (aNil))))) (gN 1))
  (sSeq (sAsg (eTup (aCons (eCallM 4 m_u_law_ties (aCons (eV 0) (aCons (eV 1) (aCons (eC (.int 4)) (aCons (eC (.int 3)) (aNil)))))) (aCons (e2 addD (e2 powD (eC (.int 10)) (eC (.int 29))) (eCallM 2 m_u_law_take (aCons (eV 0) (aCons (eC (.int 1000)) (aNil))))) (aNil)))) (gT [gN 2, gN 3]))
  (sSeq (sAsg (eN tupleD (aCons (eFrz (lLc [7, 8, 9] (sSq (eV 2)) (gT [gN 7, gN 8, gN 9]) (bYes) (eTup (aCons (eV 7) (aCons (eV 8) (aCons (e2 addD (e2 mulD (eV 9) (eV 3)) (eCallM 2 m_u_law_take (aCons (eV 0) (aCons (eC (.int 3)) (aNil))))) (aNil))))))) (aNil))) (gN 2))
  (sSeq (sAsg (eNew (lLst (aNil))) (gN 4))
  (sSeq (sFor (sRng1 (eV 1)) (gN 5) (sSeq (sAsg (e2 addD (e2 mulD (eCallM 2 m_u_law_take (aCons (eV 0) (aCons (eC (.int 4)) (aNil)))) (eV 3)) (eCallM 2 m_u_law_take (aCons (eV 0) (aCons (eC (.int 3)) (aNil))))) (gN 6))
  (sExp (eApp (eV 4) (eTup (aCons (eV 6) (aCons (e2 addD (eV 6) (eCallM 2 m_u_law_choice (aCons (eV 0) (aCons (eFrz (lLst (aCons (eC (.int 0)) (aCons (eC (.int 0)) (aCons (eC (.int 1)) (aCons (eC (.int 2)) (aCons (eV 3) (aNil)))))))) (aNil))))) (aNil))))))))
  (sRet (eTup (aCons (eN tupleD (aCons (eV 4) (aNil))) (aCons (eV 2) (aNil)))))))))
def m_u_law_great_web : MF := fnMx 9 F_u_law_great_web
/-! _law_bent: bag 0, text 1, at 2, way 3, lines 4, spot 5, words 6, place 7, near 8 -/
def F_u_law_bent : SF :=
  sSeq (sPar 2 3 (eCallM 2 m_u_law_take (aCons (eV 0) (aCons (e2 addD (eN lenD (aCons (eV 1) (aNil))) (eC (.int 1))) (aNil)))) (eCallM 2 m_u_law_take (aCons (eV 0) (aCons (eC (.int 6)) (aNil)))))
  (sSeq (sIf (bV (e2 eqD (eV 3) (eC (.int 0)))) (sRet (e2 addD (e2 addD (eSl (eV 1) (pNone) (pSome (eV 2))) (eCallM 2 m_u_law_choice (aCons (eV 0) (aCons (eFrz (lLst (aCons (eC (.str " ")) (aCons (eC (.str "0")) (aCons (eC (.str "1")) (aCons (eC (.str "-")) (aCons (eC (.str "\n")) (aCons (eC (.str "x")) (aCons (eC (.str "9")) (aNil)))))))))) (aNil))))) (eSl (eV 1) (pSome (eV 2)) (pNone)))) (sNil))
  (sSeq (sIf (bV (e2 eqD (eV 3) (eC (.int 1)))) (sRet (e2 addD (eSl (eV 1) (pNone) (pSome (eV 2))) (eSl (eV 1) (pSome (e2 addD (eV 2) (eC (.int 1)))) (pNone)))) (sNil))
  (sSeq (sAsg (eFrz (lSplit (eV 1) (eC (.str "\n")))) (gN 4))
  (sSeq (sAsg (eCallM 2 m_u_law_take (aCons (eV 0) (aCons (eN lenD (aCons (eV 4) (aNil))) (aNil)))) (gN 5))
  (sSeq (sIf (bV (e2 eqD (eV 3) (eC (.int 2)))) (sRet (eJoin (eC (.str "\n")) (e2 addD (eSl (eV 4) (pNone) (pSome (eV 5))) (eSl (eV 4) (pSome (e2 addD (eV 5) (eC (.int 1)))) (pNone))))) (sNil))
  (sSeq (sIf (bV (e2 eqD (eV 3) (eC (.int 3)))) (sRet (eJoin (eC (.str "\n")) (e2 addD (e2 addD (eSl (eV 4) (pNone) (pSome (eV 5))) (eSl (eV 4) (pSome (eV 5)) (pSome (e2 addD (eV 5) (eC (.int 1)))))) (eSl (eV 4) (pSome (eV 5)) (pNone))))) (sNil))
  (sSeq (sIf (bV (e2 eqD (eV 3) (eC (.int 4)))) (sRet (eJoin (eC (.str "\n")) (e1 revLD (eV 4)))) (sNil))
  (sSeq (sAsg (eFrz (lSplit (e2 ixD (eV 4) (eV 5)) (eC (.str " ")))) (gN 6))
  (sSeq (sAsg (eCallM 2 m_u_law_take (aCons (eV 0) (aCons (eN lenD (aCons (eV 6) (aNil))) (aNil)))) (gN 7))
  (sSeq (sAsg (eFrz (lLst (aCons (eC (.str "place")) (aCons (eC (.str "tie")) (aCons (eC (.str "0")) (aCons (eC (.str "1")) (aCons (eC (.str "2")) (aCons (eC (.str "4")) (aCons (eC (.str "01")) (aCons (e2 addD (eC (.str "1")) (e2 mulSD (eC (.str "0")) (eC (.int 30)))) (aCons (e2 addD (e2 addD (eC (.str "1")) (e2 mulSD (eC (.str "0")) (eC (.int 29)))) (eC (.str "1"))) (aNil)))))))))))) (gN 8))
  (sSeq (sAsg (e2 addD (e2 addD (eSl (eV 6) (pNone) (pSome (eV 7))) (eFrz (lLst (aCons (eCallM 2 m_u_law_choice (aCons (eV 0) (aCons (eV 8) (aNil)))) (aNil))))) (eSl (eV 6) (pSome (e2 addD (eV 7) (eC (.int 1)))) (pNone))) (gN 6))
  (sRet (eJoin (eC (.str "\n")) (e2 addD (e2 addD (eSl (eV 4) (pNone) (pSome (eV 5))) (eFrz (lLst (aCons (eJoin (eC (.str " ")) (eV 6)) (aNil))))) (eSl (eV 4) (pSome (e2 addD (eV 5) (eC (.int 1)))) (pNone))))))))))))))))
def m_u_law_bent : MF := fnMx 7 F_u_law_bent
/-! _law_told: call 0, e 1 -/
def F_u_law_told (t : CTok) (φ : MF) : SF :=
  sTryAs 1 okE (sRet (eTup (aCons (eAct 0 0 t φ aNil) (aCons (eC (.str "")) (aNil))))) (fun y t => sRet (eTup (aCons (eC .non) (aCons (eNm 1 t (labE y)) (aNil)))))
def h_u_law_told (t : CTok) (φ : MF) : MF := fnMx 1 (F_u_law_told t φ)
/-! _law_bad_webs: some 0, pair 1, ring 2 -/
def F_u_law_bad_webs : SF :=
  sSeq (sAsg (eNew (lLst (aCons (eC .non) (aCons (eTup (aNil)) (aCons (eTup (aCons (eTup (aCons (eTup (aCons (eC (.int 0)) (aCons (eC (.int 1)) (aNil)))) (aNil))) (aNil))) (aCons (eFrz (lLst (aCons (eTup (aCons (eTup (aCons (eC (.int 0)) (aCons (eC (.int 1)) (aNil)))) (aNil))) (aCons (eTup (aNil)) (aNil))))) (aCons (eTup (aCons (eTup (aCons (eTup (aCons (eC (.int 2)) (aCons (eC (.int 1)) (aNil)))) (aNil))) (aCons (eTup (aNil)) (aNil)))) (aCons (eTup (aCons (eTup (aNil)) (aCons (eTup (aNil)) (aNil)))) (aCons (eTup (aCons (e2 mulD (eTup (aCons (eTup (aCons (eC (.int 0)) (aCons (eC (.int 1)) (aNil)))) (aNil))) (eC (.int 6))) (aCons (eTup (aNil)) (aNil)))) (aCons (eTup (aCons (eTup (aCons (eTup (aCons (e1 negD (eC (.int 1))) (aCons (eC (.int 1)) (aNil)))) (aNil))) (aCons (eTup (aNil)) (aNil)))) (aNil))))))))))) (gN 0))
  (sSeq (sAsg (eTup (aCons (eTup (aCons (eC (.int 0)) (aCons (eC (.int 1)) (aNil)))) (aCons (eTup (aCons (eC (.int 0)) (aCons (eC (.int 1)) (aNil)))) (aNil)))) (gN 1))
  (sSeq (sAsg (eNew (lCat (eV 0) (eFrz (lLst (aCons (eTup (aCons (eV 1) (aCons (eTup (aCons (eTup (aCons (eC (.int 1)) (aCons (eC (.int 0)) (aCons (eC (.int 1)) (aNil))))) (aNil))) (aNil)))) (aCons (eTup (aCons (eV 1) (aCons (eTup (aCons (eTup (aCons (eC (.int 0)) (aCons (eC (.int 0)) (aCons (eC (.int 1)) (aNil))))) (aNil))) (aNil)))) (aCons (eTup (aCons (eV 1) (aCons (eTup (aCons (eTup (aCons (eC (.int 0)) (aCons (eC (.int 2)) (aCons (eC (.int 1)) (aNil))))) (aNil))) (aNil)))) (aCons (eTup (aCons (eV 1) (aCons (eTup (aCons (eTup (aCons (eC (.int 0)) (aCons (eC (.int 1)) (aCons (eC (.int 0)) (aNil))))) (aNil))) (aNil)))) (aNil))))))))) (gN 0))
  (sSeq (sAsg (eNew (lCat (eV 0) (eFrz (lLst (aCons (eTup (aCons (eV 1) (aCons (eTup (aCons (eTup (aCons (eC (.int 0)) (aCons (eC (.int 1)) (aCons (eC (.int 1)) (aNil))))) (aCons (eTup (aCons (eC (.int 0)) (aCons (eC (.int 1)) (aCons (eC (.int 2)) (aNil))))) (aNil)))) (aNil)))) (aCons (eTup (aCons (eV 1) (aCons (eFrz (lLst (aCons (eTup (aCons (eC (.int 0)) (aCons (eC (.int 1)) (aCons (eC (.int 1)) (aNil))))) (aNil)))) (aNil)))) (aCons (eTup (aCons (eV 1) (aCons (eTup (aCons (eTup (aCons (eC (.int 0)) (aCons (eC (.int 1)) (aNil)))) (aNil))) (aNil)))) (aCons (eTup (aCons (eN listD (aCons (eV 1) (aNil))) (aCons (eTup (aNil)) (aNil)))) (aNil))))))))) (gN 0))
  (sSeq (sAsg (eNew (lCat (eV 0) (eFrz (lLst (aCons (eTup (aCons (eTup (aCons (eTup (aCons (eC (.int 0)) (aCons (eC (.bl true)) (aNil)))) (aNil))) (aCons (eTup (aNil)) (aNil)))) (aCons (eTup (aCons (eTup (aCons (eTup (aCons (eC (.int 0)) (aCons (e2 addD (e2 powD (eC (.int 10)) (eC (.int 30))) (eC (.int 1))) (aNil)))) (aNil))) (aCons (eTup (aNil)) (aNil)))) (aCons (eTup (aCons (eV 1) (aCons (eTup (aCons (eTup (aCons (eC (.int 0)) (aCons (eC (.int 1)) (aCons (e2 addD (e2 powD (eC (.int 10)) (eC (.int 30))) (eC (.int 1))) (aNil))))) (aNil))) (aNil)))) (aNil)))))))) (gN 0))
  (sSeq (sExp (eApp (eV 0) (eTup (aCons (eV 1) (aCons (eTup (aCons (eTup (aCons (eC (.int 0)) (aCons (eC (.int 1)) (aCons (eC (.bl true)) (aNil))))) (aNil))) (aNil))))))
  (sSeq (sAsg (eTup (aCons (eTup (aCons (eC (.int 0)) (aCons (eC (.int 1)) (aCons (eC (.int 1)) (aNil))))) (aCons (eTup (aCons (eC (.int 0)) (aCons (eC (.int 2)) (aCons (eC (.int 1)) (aNil))))) (aCons (eTup (aCons (eC (.int 1)) (aCons (eC (.int 2)) (aCons (eC (.int 1)) (aNil))))) (aNil))))) (gN 2))
  (sRet (e2 addD (eV 0) (eFrz (lLst (aCons (eTup (aCons (e2 mulD (eTup (aCons (eTup (aCons (eC (.int 0)) (aCons (eC (.int 1)) (aNil)))) (aNil))) (eC (.int 3))) (aCons (e1 revD (eV 2)) (aNil)))) (aCons (eTup (aCons (eTup (aCons (eTup (aCons (eC (.int 0)) (aCons (eC (.int 1)) (aCons (eC (.int 2)) (aNil))))) (aNil))) (aCons (eTup (aNil)) (aNil)))) (aCons (eTup (aCons (eC (.str "ab")) (aCons (eTup (aNil)) (aNil)))) (aCons (eTup (aCons (eTup (aCons (eTup (aCons (eC (.int 0)) (aCons (eC (.int 1)) (aNil)))) (aNil))) (aCons (eTup (aNil)) (aCons (eTup (aNil)) (aNil))))) (aNil)))))))))))))))
def p_u_law_bad_webs : PF := fnPx 3 F_u_law_bad_webs
/-! law: script 0, k 1, some 2, due 3, text 4, bag 5, one 6, turn 7, odds 8, odd 9, bent 10 -/
def F_law : SF :=
  sSeq (sFor (sRng1 (eC (.int 8))) (gN 1) (sSeq (sAsg (eCallM 2 m_u_law_bag (aCons (eV 0) (aCons (eV 1) (aNil)))) (gN 5))
  (sSeq (sAsg (eCallM 2 m_u_law_choice (aCons (eV 5) (aCons (eFrz (lLst (aCons (eCallM 1 m_u_law_web (aCons (eV 5) (aNil))) (aCons (eCallM 1 m_u_law_great_web (aCons (eV 5) (aNil))) (aNil))))) (aNil)))) (gN 6))
  (sSeq (sAsg (eCall 1 p_u_law_text (aCons (eV 6) (aNil))) (gN 4))
  (sSeq (sIf (bOr (bV (e2 neD (eCall 1 p_web_text (aCons (eV 6) (aNil))) (eV 4))) (bV (e2 neD (eCall 1 p_read_web (aCons (eV 4) (aNil))) (eV 6)))) (sRet (eC (.bl false))) (sNil))
  (sSeq (sFor (sRng1 (eC (.int 6))) (gN 7) (sSeq (sAsg (eIf (bV (e2 ltD (eV 7) (eC (.int 4)))) (eCallM 2 m_u_law_bent (aCons (eV 5) (aCons (eV 4) (aNil)))) (eCallM 2 m_u_law_bent (aCons (eV 5) (aCons (eCallM 2 m_u_law_bent (aCons (eV 5) (aCons (eV 4) (aNil)))) (aNil))))) (gN 10))
  (sSeq (sAsg (eCall 1 p_u_law_read (aCons (eV 10) (aNil))) (gN 3))
  (sIf (bV (e2 neD (eCallH 1 h_u_law_told (xLam (aNil)) 0 [10] (eCall 1 p_read_web (aCons (eV 0) (aNil)))) (eIf (bV (e2 isnD (eV 3) (eC .non))) (eTup (aCons (eV 3) (aCons (eC (.str "")) (aNil)))) (eTup (aCons (eC .non) (aCons (eC (.str "text")) (aNil))))))) (sRet (eC (.bl false))) (sNil)))))
  (sSeq (sAsg (eFrz (lLst (aCons (eC .non) (aCons (eC (.int 5)) (aCons (eFrz (lLst (aCons (eV 4) (aNil)))) (aCons (eC (.bl true)) (aCons (eC (.str "")) (aCons (eC (.str "\n")) (aCons (e2 addD (eV 4) (eC (.str "\n"))) (aCons (e2 addD (eC (.str " ")) (eV 4)) (aCons (e2 addD (eV 4) (eC (.str " "))) (aNil)))))))))))) (gN 8))
  (sSeq (sFor (sSq (e2 addD (eV 8) (eFrz (lLst (aCons (e2 addD (eC (.str "\n")) (eV 4)) (aCons (e2 addD (eV 4) (eC (.str "\ntie 0 9 1"))) (aNil))))))) (gN 9) (sIf (bV (e2 neD (eCallH 1 h_u_law_error (xLam (aNil)) 0 [9] (eCall 1 p_read_web (aCons (eV 0) (aNil)))) (eC (.str "text")))) (sRet (eC (.bl false))) (sNil)))
  (sIf (bNot (bV (eCallHD 3 h_u_law_all_refused 0 1 [("web_text", p_web_text)] (aCons (eC (.fn "web_text")) (aCons (eCall0 p_u_law_bad_webs) (aCons (eC (.str "web")) (aNil))))))) (sRet (eC (.bl false))) (sNil))))))))))
  (sSeq (sAsg (eFrz (lLst (aCons (eC (.str "tie 0 1 1")) (aCons (eC (.str "place 2 1")) (aCons (eC (.str "place 0 1\ntie 0 1 1")) (aCons (eC (.str "place 0 -1")) (aCons (eC (.str "Place 0 1")) (aCons (eC (.str "place 0  1")) (aCons (eC (.str "place 0 1 2")) (aNil)))))))))) (gN 2))
  (sSeq (sAsg (e2 addD (eV 2) (eFrz (lLst (aCons (eC (.str "place 0 1\nplace 0 1\ntie 1 0 1")) (aCons (eC (.str "place 0 1\ntie 0 1 1\nplace 0 1")) (aCons (eC (.str "place 0 01")) (aCons (eC (.str "place +0 1")) (aNil)))))))) (gN 2))
  (sSeq (sIf (bNot (bV (eCallHD 3 h_u_law_all_refused 0 1 [("read_web", p_read_web)] (aCons (eC (.fn "read_web")) (aCons (e2 addD (eV 2) (eFrz (lLst (aCons (eC (.str "place 0 1\nplace 0 1\ntie 0 1 0")) (aCons (eC (.str "places 0 1")) (aNil)))))) (aCons (eC (.str "text")) (aNil))))))) (sRet (eC (.bl false))) (sNil))
  (sSeq (sAsg (eTup (aCons (eTup (aCons (eTup (aCons (eC (.int 1)) (aCons (eC (.int 1)) (aNil)))) (aCons (eTup (aCons (eC (.int 0)) (aCons (eC (.int 1)) (aNil)))) (aCons (eTup (aCons (eC (.int 0)) (aCons (eC (.int 1)) (aNil)))) (aNil))))) (aCons (eTup (aCons (eTup (aCons (eC (.int 0)) (aCons (eC (.int 1)) (aCons (eC (.int 1)) (aNil))))) (aCons (eTup (aCons (eC (.int 0)) (aCons (eC (.int 2)) (aCons (eC (.int 1)) (aNil))))) (aNil)))) (aNil)))) (gN 3))
  (sSeq (sAsg (eC (.str "place 1 1\nplace 0 1\nplace 0 1\ntie 0 1 1\ntie 0 2 1")) (gN 4))
  (sSeq (sIf (bOr (bV (e2 neD (eCall 1 p_web_text (aCons (eV 3) (aNil))) (eV 4))) (bV (e2 neD (eCall 1 p_read_web (aCons (eV 4) (aNil))) (eV 3)))) (sRet (eC (.bl false))) (sNil))
  (sRet (e2 eqD (eCall 1 p_read_web (aCons (e2 addD (eC (.str "place 0 1")) (e2 mulSD (eC (.str "0")) (eC (.int 30)))) (aNil))) (eTup (aCons (eTup (aCons (eTup (aCons (eC (.int 0)) (aCons (e2 powD (eC (.int 10)) (eC (.int 30))) (aNil)))) (aNil))) (aCons (eTup (aNil)) (aNil))))))))))))
def p_law : PF := fnPx 10 F_law
end
end Bt

set_option Elab.async false
set_option linter.all false
set_option maxRecDepth 100000
set_option maxHeartbeats 4000000
/-! the walk: each def does what its plain function says (printed by gen2.py) -/
namespace Bt
open PySem PySem.Spec PyProof.Rows L2 L2N LamX NdefX DL
variable [TabCtx]
def topS (i : Nat) : Stmt := PySem.Challenge.pw_betweenties_k09_texts_of_webs.main.body.getD i (.Pass ⟨0, 0, 0, 0⟩)
abbrev s_u_law_cell : Stmt := topS 33
abbrev N_u_law_cell : List Str := ["script", "k"]
abbrev a_u_law_cell : List Str := ["script", "k"]
theorem sc_u_law_cell : FnScope N_u_law_cell a_u_law_cell (defScope s_u_law_cell) := ⟨rfl, rfl, rfl, by decide +kernel, rfl, by decide +kernel, by decide +kernel⟩
abbrev s_u_law_draws : Stmt := topS 34
abbrev N_u_law_draws : List Str := ["script", "k", "many", "base", "primes", "cell", "rest", "row", "j", "mash"]
abbrev a_u_law_draws : List Str := ["script", "k", "many", "base"]
theorem sc_u_law_draws : FnScope N_u_law_draws a_u_law_draws (defScope s_u_law_draws) := ⟨rfl, rfl, rfl, by decide +kernel, rfl, by decide +kernel, by decide +kernel⟩
abbrev s_u_law_bag : Stmt := topS 35
abbrev N_u_law_bag : List Str := ["script", "k"]
abbrev a_u_law_bag : List Str := ["script", "k"]
theorem sc_u_law_bag : FnScope N_u_law_bag a_u_law_bag (defScope s_u_law_bag) := ⟨rfl, rfl, rfl, by decide +kernel, rfl, by decide +kernel, by decide +kernel⟩
abbrev s_u_law_take : Stmt := topS 36
abbrev N_u_law_take : List Str := ["bag", "many", "draw"]
abbrev a_u_law_take : List Str := ["bag", "many"]
theorem sc_u_law_take : FnScope N_u_law_take a_u_law_take (defScope s_u_law_take) := ⟨rfl, rfl, rfl, by decide +kernel, rfl, by decide +kernel, by decide +kernel⟩
abbrev s_u_law_choice : Stmt := topS 37
abbrev N_u_law_choice : List Str := ["bag", "some"]
abbrev a_u_law_choice : List Str := ["bag", "some"]
theorem sc_u_law_choice : FnScope N_u_law_choice a_u_law_choice (defScope s_u_law_choice) := ⟨rfl, rfl, rfl, by decide +kernel, rfl, by decide +kernel, by decide +kernel⟩
abbrev s_u_law_text : Stmt := topS 46
abbrev N_u_law_text : List Str := ["one", "rows", "first", "other", "limit", "least", "most"]
abbrev a_u_law_text : List Str := ["one"]
theorem sc_u_law_text : FnScope N_u_law_text a_u_law_text (defScope s_u_law_text) := ⟨rfl, rfl, rfl, by decide +kernel, rfl, by decide +kernel, by decide +kernel⟩
abbrev s_u_law_named_error : Stmt := topS 41
abbrev N_u_law_named_error : List Str := ["e", "some", "labels", "label", "good"]
abbrev a_u_law_named_error : List Str := ["e"]
theorem sc_u_law_named_error : FnScope N_u_law_named_error a_u_law_named_error (defScope s_u_law_named_error) := ⟨rfl, rfl, rfl, by decide +kernel, rfl, by decide +kernel, by decide +kernel⟩
abbrev s_u_law_error : Stmt := topS 42
abbrev N_u_law_error : List Str := ["call", "e"]
abbrev a_u_law_error : List Str := ["call"]
theorem sc_u_law_error : FnScope N_u_law_error a_u_law_error (defScope s_u_law_error) := ⟨rfl, rfl, rfl, by decide +kernel, rfl, by decide +kernel, by decide +kernel⟩
abbrev s_u_law_all_refused : Stmt := topS 44
abbrev N_u_law_all_refused : List Str := ["call", "odds", "name", "odd"]
abbrev a_u_law_all_refused : List Str := ["call", "odds", "name"]
theorem sc_u_law_all_refused : FnScope N_u_law_all_refused a_u_law_all_refused (defScope s_u_law_all_refused) := ⟨rfl, rfl, rfl, by decide +kernel, rfl, by decide +kernel, by decide +kernel⟩
abbrev s_is_figures : Stmt := topS 28
abbrev N_is_figures : List Str := ["word", "sign"]
abbrev a_is_figures : List Str := ["word"]
theorem sc_is_figures : FnScope N_is_figures a_is_figures (defScope s_is_figures) := ⟨rfl, rfl, rfl, by decide +kernel, rfl, by decide +kernel, by decide +kernel⟩
abbrev s_row_in : Stmt := topS 29
abbrev N_row_in : List Str := ["line", "words", "word"]
abbrev a_row_in : List Str := ["line"]
theorem sc_row_in : FnScope N_row_in a_row_in (defScope s_row_in) := ⟨rfl, rfl, rfl, by decide +kernel, rfl, by decide +kernel, by decide +kernel⟩
abbrev s_is_whole : Stmt := topS 18
abbrev N_is_whole : List Str := ["value", "low", "high"]
abbrev a_is_whole : List Str := ["value", "low", "high"]
theorem sc_is_whole : FnScope N_is_whole a_is_whole (defScope s_is_whole) := ⟨rfl, rfl, rfl, by decide +kernel, rfl, by decide +kernel, by decide +kernel⟩
abbrev s_fits_stretch : Stmt := topS 19
abbrev N_fits_stretch : List Str := ["value"]
abbrev a_fits_stretch : List Str := ["value"]
theorem sc_fits_stretch : FnScope N_fits_stretch a_fits_stretch (defScope s_fits_stretch) := ⟨rfl, rfl, rfl, by decide +kernel, rfl, by decide +kernel, by decide +kernel⟩
abbrev s_fits_tie : Stmt := topS 20
abbrev N_fits_tie : List Str := ["value", "many"]
abbrev a_fits_tie : List Str := ["value", "many"]
theorem sc_fits_tie : FnScope N_fits_tie a_fits_tie (defScope s_fits_tie) := ⟨rfl, rfl, rfl, by decide +kernel, rfl, by decide +kernel, by decide +kernel⟩
abbrev s_fits_web : Stmt := topS 21
abbrev N_fits_web : List Str := ["value", "places", "ties", "one", "other"]
abbrev a_fits_web : List Str := ["value"]
theorem sc_fits_web : FnScope N_fits_web a_fits_web (defScope s_fits_web) := ⟨rfl, rfl, rfl, by decide +kernel, rfl, by decide +kernel, by decide +kernel⟩
abbrev s_as_text : Stmt := topS 26
abbrev N_as_text : List Str := ["web", "lines", "least", "most", "one", "other", "limit"]
abbrev a_as_text : List Str := ["web"]
theorem sc_as_text : FnScope N_as_text a_as_text (defScope s_as_text) := ⟨rfl, rfl, rfl, by decide +kernel, rfl, by decide +kernel, by decide +kernel⟩
abbrev s_web_in : Stmt := topS 30
abbrev N_web_in : List Str := ["text", "rows", "places", "found", "line", "word", "numbers"]
abbrev a_web_in : List Str := ["text"]
theorem sc_web_in : FnScope N_web_in a_web_in (defScope s_web_in) := ⟨rfl, rfl, rfl, by decide +kernel, rfl, by decide +kernel, by decide +kernel⟩
abbrev s_read_web : Stmt := topS 31
abbrev N_read_web : List Str := ["value"]
abbrev a_read_web : List Str := ["value"]
theorem sc_read_web : FnScope N_read_web a_read_web (defScope s_read_web) := ⟨rfl, rfl, rfl, by decide +kernel, rfl, by decide +kernel, by decide +kernel⟩
abbrev s_u_law_number : Stmt := topS 47
abbrev N_u_law_number : List Str := ["word", "sign"]
abbrev a_u_law_number : List Str := ["word"]
theorem sc_u_law_number : FnScope N_u_law_number a_u_law_number (defScope s_u_law_number) := ⟨rfl, rfl, rfl, by decide +kernel, rfl, by decide +kernel, by decide +kernel⟩
abbrev s_u_law_read : Stmt := topS 48
abbrev N_u_law_read : List Str := ["text", "places_so", "ties_so", "before", "line", "words", "some", "word", "row"]
abbrev a_u_law_read : List Str := ["text"]
theorem sc_u_law_read : FnScope N_u_law_read a_u_law_read (defScope s_u_law_read) := ⟨rfl, rfl, rfl, by decide +kernel, rfl, by decide +kernel, by decide +kernel⟩
abbrev s_need_web : Stmt := topS 22
abbrev N_need_web : List Str := ["value"]
abbrev a_need_web : List Str := ["value"]
theorem sc_need_web : FnScope N_need_web a_need_web (defScope s_need_web) := ⟨rfl, rfl, rfl, by decide +kernel, rfl, by decide +kernel, by decide +kernel⟩
abbrev s_web_text : Stmt := topS 27
abbrev N_web_text : List Str := ["web"]
abbrev a_web_text : List Str := ["web"]
theorem sc_web_text : FnScope N_web_text a_web_text (defScope s_web_text) := ⟨rfl, rfl, rfl, by decide +kernel, rfl, by decide +kernel, by decide +kernel⟩
abbrev s_u_law_ties : Stmt := topS 38
abbrev N_u_law_ties : List Str := ["bag", "many", "most", "limit", "found", "one", "other"]
abbrev a_u_law_ties : List Str := ["bag", "many", "most", "limit"]
theorem sc_u_law_ties : FnScope N_u_law_ties a_u_law_ties (defScope s_u_law_ties) := ⟨rfl, rfl, rfl, by decide +kernel, rfl, by decide +kernel, by decide +kernel⟩
abbrev s_u_law_web : Stmt := topS 39
abbrev N_u_law_web : List Str := ["bag", "many", "ties_so", "places_so", "narrow", "place", "least"]
abbrev a_u_law_web : List Str := ["bag"]
theorem sc_u_law_web : FnScope N_u_law_web a_u_law_web (defScope s_u_law_web) := ⟨rfl, rfl, rfl, by decide +kernel, rfl, by decide +kernel, by decide +kernel⟩
abbrev s_u_law_great_web : Stmt := topS 40
abbrev N_u_law_great_web : List Str := ["bag", "many", "ties_so", "unit", "places_so", "place", "least", "one", "other", "limit"]
abbrev a_u_law_great_web : List Str := ["bag"]
theorem sc_u_law_great_web : FnScope N_u_law_great_web a_u_law_great_web (defScope s_u_law_great_web) := ⟨rfl, rfl, rfl, by decide +kernel, rfl, by decide +kernel, by decide +kernel⟩
abbrev s_u_law_bent : Stmt := topS 49
abbrev N_u_law_bent : List Str := ["bag", "text", "at", "way", "lines", "spot", "words", "place", "near"]
abbrev a_u_law_bent : List Str := ["bag", "text"]
theorem sc_u_law_bent : FnScope N_u_law_bent a_u_law_bent (defScope s_u_law_bent) := ⟨rfl, rfl, rfl, by decide +kernel, rfl, by decide +kernel, by decide +kernel⟩
abbrev s_u_law_told : Stmt := topS 43
abbrev N_u_law_told : List Str := ["call", "e"]
abbrev a_u_law_told : List Str := ["call"]
theorem sc_u_law_told : FnScope N_u_law_told a_u_law_told (defScope s_u_law_told) := ⟨rfl, rfl, rfl, by decide +kernel, rfl, by decide +kernel, by decide +kernel⟩
abbrev s_u_law_bad_webs : Stmt := topS 45
abbrev N_u_law_bad_webs : List Str := ["some", "pair", "ring"]
abbrev a_u_law_bad_webs : List Str := []
theorem sc_u_law_bad_webs : FnScope N_u_law_bad_webs a_u_law_bad_webs (defScope s_u_law_bad_webs) := ⟨rfl, rfl, rfl, by decide +kernel, rfl, by decide +kernel, by decide +kernel⟩
abbrev s_law : Stmt := topS 50
abbrev N_law : List Str := ["script", "k", "some", "due", "text", "bag", "one", "turn", "odds", "odd", "bent"]
abbrev a_law : List Str := ["script"]
theorem sc_law : FnScope N_law a_law (defScope s_law) := ⟨rfl, rfl, rfl, by decide +kernel, rfl, by decide +kernel, by decide +kernel⟩
/-- what the top leaves -/
structure Txt (mg : Str → Option Value) (K : PySem.W.Frag) where
  d_u_law_cell : DefOk mg K "_law_cell" s_u_law_cell a_u_law_cell
  d_u_law_draws : DefOk mg K "_law_draws" s_u_law_draws a_u_law_draws
  d_u_law_bag : DefOk mg K "_law_bag" s_u_law_bag a_u_law_bag
  d_u_law_take : DefOk mg K "_law_take" s_u_law_take a_u_law_take
  d_u_law_choice : DefOk mg K "_law_choice" s_u_law_choice a_u_law_choice
  d_u_law_text : DefOk mg K "_law_text" s_u_law_text a_u_law_text
  d_u_law_named_error : DefOk mg K "_law_named_error" s_u_law_named_error a_u_law_named_error
  d_u_law_error : DefOk mg K "_law_error" s_u_law_error a_u_law_error
  d_u_law_all_refused : DefOk mg K "_law_all_refused" s_u_law_all_refused a_u_law_all_refused
  d_is_figures : DefOk mg K "is_figures" s_is_figures a_is_figures
  d_row_in : DefOk mg K "row_in" s_row_in a_row_in
  d_is_whole : DefOk mg K "is_whole" s_is_whole a_is_whole
  d_fits_stretch : DefOk mg K "fits_stretch" s_fits_stretch a_fits_stretch
  d_fits_tie : DefOk mg K "fits_tie" s_fits_tie a_fits_tie
  d_fits_web : DefOk mg K "fits_web" s_fits_web a_fits_web
  d_as_text : DefOk mg K "as_text" s_as_text a_as_text
  d_web_in : DefOk mg K "web_in" s_web_in a_web_in
  d_read_web : DefOk mg K "read_web" s_read_web a_read_web
  d_u_law_number : DefOk mg K "_law_number" s_u_law_number a_u_law_number
  d_u_law_read : DefOk mg K "_law_read" s_u_law_read a_u_law_read
  d_need_web : DefOk mg K "need_web" s_need_web a_need_web
  d_web_text : DefOk mg K "web_text" s_web_text a_web_text
  d_u_law_ties : DefOk mg K "_law_ties" s_u_law_ties a_u_law_ties
  d_u_law_web : DefOk mg K "_law_web" s_u_law_web a_u_law_web
  d_u_law_great_web : DefOk mg K "_law_great_web" s_u_law_great_web a_u_law_great_web
  d_u_law_bent : DefOk mg K "_law_bent" s_u_law_bent a_u_law_bent
  d_u_law_told : DefOk mg K "_law_told" s_u_law_told a_u_law_told
  d_u_law_bad_webs : DefOk mg K "_law_bad_webs" s_u_law_bad_webs a_u_law_bad_webs
  d_law : DefOk mg K "law" s_law a_law
  m_ValueError : mg "ValueError" = none
  m_all : mg "all" = none
  m_bool : mg "bool" = none
  m_int : mg "int" = none
  m_isinstance : mg "isinstance" = none
  m_len : mg "len" = none
  m_list : mg "list" = none
  m_range : mg "range" = none
  m_str : mg "str" = none
  m_tuple : mg "tuple" = none
  m_zip : mg "zip" = none
  c_PLACES : ∃ t, mg "PLACES" = some (.int 5 t)
  c_TIES : ∃ t, mg "TIES" = some (.int 10 t)
  c_FAR : ∃ t, mg "FAR" = some (.int 1000000000000000000000000000000 t)
  c_SIGNS : ∃ t, mg "SIGNS" = some (.str "0123456789" t)
  c_LONGEST : ∃ t, mg "LONGEST" = some (.int 31 t)
  x_InvalidWeb : ExcOk mg K "InvalidWeb"
  x_InvalidText : ExcOk mg K "InvalidText"
  cTie : Addr
  gTie : mg "TieError" = some (.ref cTie)
  cn_InvalidWeb : Addr
  g_InvalidWeb : mg "InvalidWeb" = some (.ref cn_InvalidWeb)
  cn_InvalidChoice : Addr
  g_InvalidChoice : mg "InvalidChoice" = some (.ref cn_InvalidChoice)
  cn_InvalidLots : Addr
  g_InvalidLots : mg "InvalidLots" = some (.ref cn_InvalidLots)
  cn_InvalidTie : Addr
  g_InvalidTie : mg "InvalidTie" = some (.ref cn_InvalidTie)
  cn_InvalidPlace : Addr
  g_InvalidPlace : mg "InvalidPlace" = some (.ref cn_InvalidPlace)
  cn_InvalidNumber : Addr
  g_InvalidNumber : mg "InvalidNumber" = some (.ref cn_InvalidNumber)
  cn_InvalidPairs : Addr
  g_InvalidPairs : mg "InvalidPairs" = some (.ref cn_InvalidPairs)
  cn_InvalidText : Addr
  g_InvalidText : mg "InvalidText" = some (.ref cn_InvalidText)
  cn_Unlike : Addr
  g_Unlike : mg "Unlike" = some (.ref cn_Unlike)
  cn_NoChoice : Addr
  g_NoChoice : mg "NoChoice" = some (.ref cn_NoChoice)
  cn_NothingToUndo : Addr
  g_NothingToUndo : mg "NothingToUndo" = some (.ref cn_NothingToUndo)
  cn_TooMany : Addr
  g_TooMany : mg "TooMany" = some (.ref cn_TooMany)
  ec_InvalidWeb : ExcC K cn_InvalidWeb
  exm_InvalidWeb : PySem.W.exmOne K (.ref cn_InvalidWeb) (.ref cTie) = some true
  kv_InvalidWeb : PySem.W.kitOne K (.ref cn_InvalidWeb) (.type "ValueError") = some true
  kt_InvalidWeb_InvalidWeb : PySem.W.kitOne K (.ref cn_InvalidWeb) (.ref cn_InvalidWeb) = some true
  kt_InvalidWeb_InvalidChoice : PySem.W.kitOne K (.ref cn_InvalidWeb) (.ref cn_InvalidChoice) = some false
  kt_InvalidWeb_InvalidLots : PySem.W.kitOne K (.ref cn_InvalidWeb) (.ref cn_InvalidLots) = some false
  kt_InvalidWeb_InvalidTie : PySem.W.kitOne K (.ref cn_InvalidWeb) (.ref cn_InvalidTie) = some false
  kt_InvalidWeb_InvalidPlace : PySem.W.kitOne K (.ref cn_InvalidWeb) (.ref cn_InvalidPlace) = some false
  kt_InvalidWeb_InvalidNumber : PySem.W.kitOne K (.ref cn_InvalidWeb) (.ref cn_InvalidNumber) = some false
  kt_InvalidWeb_InvalidPairs : PySem.W.kitOne K (.ref cn_InvalidWeb) (.ref cn_InvalidPairs) = some false
  kt_InvalidWeb_InvalidText : PySem.W.kitOne K (.ref cn_InvalidWeb) (.ref cn_InvalidText) = some false
  kt_InvalidWeb_Unlike : PySem.W.kitOne K (.ref cn_InvalidWeb) (.ref cn_Unlike) = some false
  kt_InvalidWeb_NoChoice : PySem.W.kitOne K (.ref cn_InvalidWeb) (.ref cn_NoChoice) = some false
  kt_InvalidWeb_NothingToUndo : PySem.W.kitOne K (.ref cn_InvalidWeb) (.ref cn_NothingToUndo) = some false
  kt_InvalidWeb_TooMany : PySem.W.kitOne K (.ref cn_InvalidWeb) (.ref cn_TooMany) = some false
  ec_InvalidText : ExcC K cn_InvalidText
  exm_InvalidText : PySem.W.exmOne K (.ref cn_InvalidText) (.ref cTie) = some true
  kv_InvalidText : PySem.W.kitOne K (.ref cn_InvalidText) (.type "ValueError") = some true
  kt_InvalidText_InvalidWeb : PySem.W.kitOne K (.ref cn_InvalidText) (.ref cn_InvalidWeb) = some false
  kt_InvalidText_InvalidChoice : PySem.W.kitOne K (.ref cn_InvalidText) (.ref cn_InvalidChoice) = some false
  kt_InvalidText_InvalidLots : PySem.W.kitOne K (.ref cn_InvalidText) (.ref cn_InvalidLots) = some false
  kt_InvalidText_InvalidTie : PySem.W.kitOne K (.ref cn_InvalidText) (.ref cn_InvalidTie) = some false
  kt_InvalidText_InvalidPlace : PySem.W.kitOne K (.ref cn_InvalidText) (.ref cn_InvalidPlace) = some false
  kt_InvalidText_InvalidNumber : PySem.W.kitOne K (.ref cn_InvalidText) (.ref cn_InvalidNumber) = some false
  kt_InvalidText_InvalidPairs : PySem.W.kitOne K (.ref cn_InvalidText) (.ref cn_InvalidPairs) = some false
  kt_InvalidText_InvalidText : PySem.W.kitOne K (.ref cn_InvalidText) (.ref cn_InvalidText) = some true
  kt_InvalidText_Unlike : PySem.W.kitOne K (.ref cn_InvalidText) (.ref cn_Unlike) = some false
  kt_InvalidText_NoChoice : PySem.W.kitOne K (.ref cn_InvalidText) (.ref cn_NoChoice) = some false
  kt_InvalidText_NothingToUndo : PySem.W.kitOne K (.ref cn_InvalidText) (.ref cn_NothingToUndo) = some false
  kt_InvalidText_TooMany : PySem.W.kitOne K (.ref cn_InvalidText) (.ref cn_TooMany) = some false
  cc_u_law_all_refused : Addr
  pp_u_law_all_refused : Addr
  hc_u_law_all_refused : d_u_law_all_refused.fd.code = .ref cc_u_law_all_refused
  mem_u_law_all_refused : (pp_u_law_all_refused, ("_law_all_refused.<locals>." : Str) ++ "<lambda>") ∈ TabCtx.T
  hu_u_law_all_refused : ∀ p ∈ TabCtx.T, p.1 = pp_u_law_all_refused → p.2 = ("_law_all_refused.<locals>." : Str) ++ "<lambda>"
  cc_law : Addr
  pp_law : Addr
  hc_law : d_law.fd.code = .ref cc_law
  mem_law : (pp_law, ("law.<locals>." : Str) ++ "<lambda>") ∈ TabCtx.T
  hu_law : ∀ p ∈ TabCtx.T, p.1 = pp_law → p.2 = ("law.<locals>." : Str) ++ "<lambda>"
/-- what the base holds -/
structure Bas {mg : Str → Option Value} {K : PySem.W.Frag} (T : Txt mg K) (base : Heap) : Prop where
  m : L2.Mod K mg base
  t_u_law_all_refused : TabB base mg T.cc_u_law_all_refused T.pp_u_law_all_refused
  t_law : TabB base mg T.cc_law T.pp_law
theorem Bas.sub {mg : Str → Option Value} {K : PySem.W.Frag} {T : Txt mg K} {base base' : Heap} (B : Bas T base) (h : Sub base base') (m : L2.Mod K mg base') : Bas T base' := ⟨m, tabB_sub B.t_u_law_all_refused h, tabB_sub B.t_law h⟩
section
variable {P : Program} {w : World} {K : PySem.W.Frag} {mg : Str → Option Value} {base : Heap}
theorem okE_cases {y : Exn} (h : okE y = true) : y.fs = none ∧ (y.cls = "InvalidWeb" ∨ y.cls = "InvalidText") := by
  obtain ⟨c, fs⟩ := y
  simp only [okE, errN, Bool.and_eq_true, List.contains_iff_mem, List.mem_cons, List.not_mem_nil, or_false, Option.isNone_iff_eq_none] at h
  exact h
theorem exmT (T : Txt mg K) : ∀ y, okE y = true → ∃ C, mg y.cls = some (.ref C) ∧ PySem.W.exmOne K (.ref C) (.ref T.cTie) = some true := fun y hy => by
  obtain ⟨c, fs⟩ := y
  obtain ⟨_, h⟩ := okE_cases hy
  dsimp only at h ⊢
  rcases h with rfl | rfl
  · exact ⟨_, T.g_InvalidWeb, T.exm_InvalidWeb⟩
  · exact ⟨_, T.g_InvalidText, T.exm_InvalidText⟩
def kitsL (T : Txt mg K) : List (Str × Addr) := [("InvalidWeb", T.cn_InvalidWeb), ("InvalidChoice", T.cn_InvalidChoice), ("InvalidLots", T.cn_InvalidLots), ("InvalidTie", T.cn_InvalidTie), ("InvalidPlace", T.cn_InvalidPlace), ("InvalidNumber", T.cn_InvalidNumber), ("InvalidPairs", T.cn_InvalidPairs), ("InvalidText", T.cn_InvalidText), ("Unlike", T.cn_Unlike), ("NoChoice", T.cn_NoChoice), ("NothingToUndo", T.cn_NothingToUndo), ("TooMany", T.cn_TooMany)]
theorem exFacts (T : Txt mg K) {y : Exn} {cls : Value} {d : Option Addr} (hy : okE y = true) (hx : ∃ C, mg y.cls = some (.ref C) ∧ cls = .ref C ∧ (y.fs = none → d = none)) : ∃ D, cls = .ref D ∧ d = none ∧ ExcC K D ∧ PySem.W.kitOne K (.ref D) (.type "ValueError") = some true ∧ ∀ n C, (n, C) ∈ kitsL T → PySem.W.kitOne K (.ref D) (.ref C) = some (isC y n) := by
  obtain ⟨c, fs⟩ := y
  obtain ⟨h0, h⟩ := okE_cases hy
  obtain ⟨C, h1, h2, h3⟩ := hx
  dsimp only at h h0 h1
  rcases h with rfl | rfl
  · rw [T.g_InvalidWeb] at h1; cases h1
    refine ⟨_, h2, h3 h0, T.ec_InvalidWeb, T.kv_InvalidWeb, fun n C hm => ?_⟩
    simp only [kitsL, List.mem_cons, List.not_mem_nil, or_false, Prod.mk.injEq] at hm
    rcases hm with ⟨rfl, rfl⟩ | ⟨rfl, rfl⟩ | ⟨rfl, rfl⟩ | ⟨rfl, rfl⟩ | ⟨rfl, rfl⟩ | ⟨rfl, rfl⟩ | ⟨rfl, rfl⟩ | ⟨rfl, rfl⟩ | ⟨rfl, rfl⟩ | ⟨rfl, rfl⟩ | ⟨rfl, rfl⟩ | ⟨rfl, rfl⟩
    · exact T.kt_InvalidWeb_InvalidWeb
    · exact T.kt_InvalidWeb_InvalidChoice
    · exact T.kt_InvalidWeb_InvalidLots
    · exact T.kt_InvalidWeb_InvalidTie
    · exact T.kt_InvalidWeb_InvalidPlace
    · exact T.kt_InvalidWeb_InvalidNumber
    · exact T.kt_InvalidWeb_InvalidPairs
    · exact T.kt_InvalidWeb_InvalidText
    · exact T.kt_InvalidWeb_Unlike
    · exact T.kt_InvalidWeb_NoChoice
    · exact T.kt_InvalidWeb_NothingToUndo
    · exact T.kt_InvalidWeb_TooMany
  · rw [T.g_InvalidText] at h1; cases h1
    refine ⟨_, h2, h3 h0, T.ec_InvalidText, T.kv_InvalidText, fun n C hm => ?_⟩
    simp only [kitsL, List.mem_cons, List.not_mem_nil, or_false, Prod.mk.injEq] at hm
    rcases hm with ⟨rfl, rfl⟩ | ⟨rfl, rfl⟩ | ⟨rfl, rfl⟩ | ⟨rfl, rfl⟩ | ⟨rfl, rfl⟩ | ⟨rfl, rfl⟩ | ⟨rfl, rfl⟩ | ⟨rfl, rfl⟩ | ⟨rfl, rfl⟩ | ⟨rfl, rfl⟩ | ⟨rfl, rfl⟩ | ⟨rfl, rfl⟩
    · exact T.kt_InvalidText_InvalidWeb
    · exact T.kt_InvalidText_InvalidChoice
    · exact T.kt_InvalidText_InvalidLots
    · exact T.kt_InvalidText_InvalidTie
    · exact T.kt_InvalidText_InvalidPlace
    · exact T.kt_InvalidText_InvalidNumber
    · exact T.kt_InvalidText_InvalidPairs
    · exact T.kt_InvalidText_InvalidText
    · exact T.kt_InvalidText_Unlike
    · exact T.kt_InvalidText_NoChoice
    · exact T.kt_InvalidText_NothingToUndo
    · exact T.kt_InvalidText_TooMany
theorem okE_lab {y : Exn} {l : Str} (h : labE y = some l) : okE y = true := by
  unfold labE at h
  split at h
  · assumption
  · cases h
theorem ok_u_law_cell (T : Txt mg K) (B : Bas T base) : FnOk P w K mg base (CXr P w) 2 T.d_u_law_cell.f T.d_u_law_cell.fd a_u_law_cell (spP mg K 2 p_u_law_cell) :=
  fx_okP T.d_u_law_cell.F sc_u_law_cell rfl fun cdv A outer s H E hcd CE => have C0 := CE.c; have C := CE.b
  sd_cons (sd_if (pb_lt C (pd_v 1) (pd_len (by rfl) T.m_len (pd_cons (pd_v 0) (pd_nil)))) (sd_one (sd_ret (pd_ix (pd_v 0) (pd_v 1)))) (sd_nil))
  (sd_cons (sd_if (pb_eq C (pd_len (by rfl) T.m_len (pd_cons (pd_v 0) (pd_nil))) (pd_int)) (sd_one (sd_ret (pd_add (pd_mul (pd_int) (pd_v 1)) (pd_int)))) (sd_nil))
  (sd_one (sd_ret (pd_add (pd_mod (pd_ix (pd_v 0) (pd_mod (pd_v 1) (pd_len (by rfl) T.m_len (pd_cons (pd_v 0) (pd_nil))))) (pd_int)) (pd_mul (pd_int) (pd_v 1))))))
theorem ok_u_law_draws (T : Txt mg K) (B : Bas T base) : FnOk P w K mg base (CXr P w) 3 T.d_u_law_draws.f T.d_u_law_draws.fd a_u_law_draws (spM mg K 4 m_u_law_draws) :=
  fx_okM T.d_u_law_draws.F sc_u_law_draws rfl fun cdv A outer s H E hcd CE => have C0 := CE.c; have C := CE.b
  sd_cons (sd_set C 4 (pd_tup (pd_cons (pd_int) (pd_cons (pd_int) (pd_cons (pd_int) (pd_cons (pd_int) (pd_cons (pd_int) (pd_cons (pd_int) (pd_cons (pd_int) (pd_cons (pd_int) (pd_nil)))))))))))
  (sd_cons (sd_set C 5 (pd_call C (ok_u_law_cell T B) (by decide) (by rfl) T.d_u_law_cell.g T.d_u_law_cell.F.kp T.d_u_law_cell.b (pd_cons (pd_v 0) (pd_cons (pd_v 1) (pd_nil)))))
  (sd_cons (sd_set C 6 (pd_int))
  (sd_cons (sd_if (pb_ge (pd_v 5) (pd_pow (pd_int) (pd_int))) (sd_one (sd_set C 6 (pd_v 5))) (sd_nil))
  (sd_cons (sd_set C 7 (pd_new (pl_lst (pd_nil))))
  (sd_cons (sd_for C0 (pid_rng1 (by rfl) T.m_range (pd_v 2)) (pgd_n C 8) (sd_cons (sd_set C 9 (pd_mul (pd_mod (pd_v 5) (pd_ix (pd_v 4) (pd_mod (pd_v 8) (pd_int)))) (pd_add (pd_int) (pd_mul (pd_mul (pd_int) (pd_v 8)) (pd_v 8)))))
  (sd_cons (sd_set C 9 (pd_add (pd_add (pd_v 9) (pd_mul (pd_mul (pd_int) (pd_add (pd_v 8) (pd_int))) (pd_add (pd_v 8) (pd_int)))) (pd_mul (pd_int) (pd_v 1))))
  (sd_cons (sd_set C 9 (pd_mod (pd_v 9) (pd_ix (pd_v 4) (pd_mod (pd_add (pd_mul (pd_int) (pd_v 8)) (pd_v 1)) (pd_int)))))
  (sd_cons (sd_set C 9 (pd_mod (pd_mul (pd_mul (pd_v 9) (pd_v 9)) (pd_v 9)) (pd_ix (pd_v 4) (pd_mod (pd_add (pd_v 8) (pd_int)) (pd_int)))))
  (sd_cons (sd_if (pb_gt (pd_v 6) (pd_int)) (sd_one (sd_set C 9 (pd_v 6))) (sd_nil))
  (sd_cons (sd_exp (pd_app (pd_v 7) (pd_mod (pd_v 9) (pd_v 3))))
  (sd_one (sd_set C 6 (pd_fdiv (pd_v 6) (pd_v 3)))))))))))
  (sd_one (sd_ret (pd_v 7))))))))
theorem ok_u_law_bag (T : Txt mg K) (B : Bas T base) : FnOk P w K mg base (CXr P w) 4 T.d_u_law_bag.f T.d_u_law_bag.fd a_u_law_bag (spM mg K 2 m_u_law_bag) :=
  fx_okM T.d_u_law_bag.F sc_u_law_bag rfl fun cdv A outer s H E hcd CE => have C0 := CE.c; have C := CE.b
  sd_one (sd_ret (pd_callM C (ok_u_law_draws T B) (by decide) (by rfl) T.d_u_law_draws.g T.d_u_law_draws.F.kp T.d_u_law_draws.b (pd_cons (pd_v 0) (pd_cons (pd_v 1) (pd_cons (pd_int) (pd_cons (pd_int) (pd_nil)))))))
theorem ok_u_law_take (T : Txt mg K) (B : Bas T base) : FnOk P w K mg base (CXr P w) 2 T.d_u_law_take.f T.d_u_law_take.fd a_u_law_take (spM mg K 2 m_u_law_take) :=
  fx_okM T.d_u_law_take.F sc_u_law_take rfl fun cdv A outer s H E hcd CE => have C0 := CE.c; have C := CE.b
  sd_cons (sd_set C 2 (pd_if (pb_ne C (pd_v 0) (pd_frz (pl_lst (pd_nil)))) (pd_pop0 (pd_v 0)) (pd_int)))
  (sd_one (sd_ret (pd_mod (pd_toint (by rfl) T.m_int (pd_cons (pd_v 2) (pd_nil))) (pd_v 1))))
theorem ok_u_law_choice (T : Txt mg K) (B : Bas T base) : FnOk P w K mg base (CXr P w) 3 T.d_u_law_choice.f T.d_u_law_choice.fd a_u_law_choice (spM mg K 2 m_u_law_choice) :=
  fx_okM T.d_u_law_choice.F sc_u_law_choice rfl fun cdv A outer s H E hcd CE => have C0 := CE.c; have C := CE.b
  sd_one (sd_ret (pd_ix (pd_v 1) (pd_callM C (ok_u_law_take T B) (by decide) (by rfl) T.d_u_law_take.g T.d_u_law_take.F.kp T.d_u_law_take.b (pd_cons (pd_v 0) (pd_cons (pd_len (by rfl) T.m_len (pd_cons (pd_v 1) (pd_nil))) (pd_nil))))))
theorem ok_u_law_text (T : Txt mg K) (B : Bas T base) : FnOk P w K mg base (CXr P w) 2 T.d_u_law_text.f T.d_u_law_text.fd a_u_law_text (spP mg K 1 p_u_law_text) :=
  fx_okP T.d_u_law_text.F sc_u_law_text rfl fun cdv A outer s H E hcd CE => have C0 := CE.c; have C := CE.b
  sd_cons (sd_setLc (F := eNew) (own := [("least", 5), ("most", 6)]) C 1 (pid_sq (pd_ix (pd_v 0) (pd_int))) (blkOk_by (N := N_u_law_text) (sc := defScope s_u_law_text) (own := [("least", 5), ("most", 6)]) (by decide +kernel)) (fun _ _ _ _ _ => pgd_t C.blk (pgd_cons (pgd_n C.blk 5) (pgd_cons (pgd_n C.blk 6) (pgd_nil)))) (fun _ _ _ _ _ => ptsd_nil) (fun _ _ _ _ _ => pd_join (pd_str) (pd_frz (pl_lst (pd_cons (pd_str) (pd_cons (pd_tostr (by rfl) T.m_str (pd_cons (pd_v 5) (pd_nil))) (pd_cons (pd_tostr (by rfl) T.m_str (pd_cons (pd_v 6) (pd_nil))) (pd_nil))))))) (fun _ => new_read))
  (sd_cons (sd_for C0 (pid_sq (pd_ix (pd_v 0) (pd_int))) (pgd_t C (pgd_cons (pgd_n C 2) (pgd_cons (pgd_n C 3) (pgd_cons (pgd_n C 4) (pgd_nil))))) (sd_one (sd_exp (pd_app (pd_v 1) (pd_join (pd_str) (pd_frz (pl_lst (pd_cons (pd_str) (pd_cons (pd_tostr (by rfl) T.m_str (pd_cons (pd_v 2) (pd_nil))) (pd_cons (pd_tostr (by rfl) T.m_str (pd_cons (pd_v 3) (pd_nil))) (pd_cons (pd_tostr (by rfl) T.m_str (pd_cons (pd_v 4) (pd_nil))) (pd_nil))))))))))))
  (sd_one (sd_ret (pd_join (pd_str) (pd_v 1)))))
set_option maxHeartbeats 16000000 in
theorem nm_u_law_named_error : ∀ y l, labE y = some l → ∀ t μ, F_u_law_named_error y t (rho0 (N_u_law_named_error.length - 1) [.clo t]) μ = .rt (.d (.str l)) μ := by
  intro y l h t μ
  obtain ⟨c, fs⟩ := y
  obtain ⟨h0, h1⟩ := okE_cases (okE_lab h)
  dsimp only at h0 h1
  subst h0
  rcases h1 with rfl | rfl
  · have e : l = "web" := Option.some.inj (h.symm.trans rfl)
    subst e
    have q0 : (Str.ofString "InvalidWeb" == Str.ofString "InvalidWeb") = true := by decide +kernel
    have q1 : (Str.ofString "InvalidWeb" == Str.ofString "InvalidChoice") = false := by decide +kernel
    have q2 : (Str.ofString "InvalidWeb" == Str.ofString "InvalidLots") = false := by decide +kernel
    have q3 : (Str.ofString "InvalidWeb" == Str.ofString "InvalidTie") = false := by decide +kernel
    have q4 : (Str.ofString "InvalidWeb" == Str.ofString "InvalidPlace") = false := by decide +kernel
    have q5 : (Str.ofString "InvalidWeb" == Str.ofString "InvalidNumber") = false := by decide +kernel
    have q6 : (Str.ofString "InvalidWeb" == Str.ofString "InvalidPairs") = false := by decide +kernel
    have q7 : (Str.ofString "InvalidWeb" == Str.ofString "InvalidText") = false := by decide +kernel
    have q8 : (Str.ofString "InvalidWeb" == Str.ofString "Unlike") = false := by decide +kernel
    have q9 : (Str.ofString "InvalidWeb" == Str.ofString "NoChoice") = false := by decide +kernel
    have q10 : (Str.ofString "InvalidWeb" == Str.ofString "NothingToUndo") = false := by decide +kernel
    have q11 : (Str.ofString "InvalidWeb" == Str.ofString "TooMany") = false := by decide +kernel
    have ql : (Str.ofString "web").length = 3 := by decide +kernel
    have qj : Txt.join (Str.ofString " ") [Str.ofString "web"] = Str.ofString "web" := by decide +kernel
    simp [F_u_law_named_error, isC, eIsE_eq, rho0, lCat_eq, sZipL_eq, gTt, lstD, zipD, wipeR, lcL, lCap, lSplit_eq, eJoin_eq, labs_split, labs_len, sp_len, strsOf, ql, qj, q0, q1, q2, q3, q4, q5, q6, q7, q8, q9, q10, q11]
  · have e : l = "text" := Option.some.inj (h.symm.trans rfl)
    subst e
    have q0 : (Str.ofString "InvalidText" == Str.ofString "InvalidWeb") = false := by decide +kernel
    have q1 : (Str.ofString "InvalidText" == Str.ofString "InvalidChoice") = false := by decide +kernel
    have q2 : (Str.ofString "InvalidText" == Str.ofString "InvalidLots") = false := by decide +kernel
    have q3 : (Str.ofString "InvalidText" == Str.ofString "InvalidTie") = false := by decide +kernel
    have q4 : (Str.ofString "InvalidText" == Str.ofString "InvalidPlace") = false := by decide +kernel
    have q5 : (Str.ofString "InvalidText" == Str.ofString "InvalidNumber") = false := by decide +kernel
    have q6 : (Str.ofString "InvalidText" == Str.ofString "InvalidPairs") = false := by decide +kernel
    have q7 : (Str.ofString "InvalidText" == Str.ofString "InvalidText") = true := by decide +kernel
    have q8 : (Str.ofString "InvalidText" == Str.ofString "Unlike") = false := by decide +kernel
    have q9 : (Str.ofString "InvalidText" == Str.ofString "NoChoice") = false := by decide +kernel
    have q10 : (Str.ofString "InvalidText" == Str.ofString "NothingToUndo") = false := by decide +kernel
    have q11 : (Str.ofString "InvalidText" == Str.ofString "TooMany") = false := by decide +kernel
    have ql : (Str.ofString "text").length = 4 := by decide +kernel
    have qj : Txt.join (Str.ofString " ") [Str.ofString "text"] = Str.ofString "text" := by decide +kernel
    simp [F_u_law_named_error, isC, eIsE_eq, rho0, lCat_eq, sZipL_eq, gTt, lstD, zipD, wipeR, lcL, lCap, lSplit_eq, eJoin_eq, labs_split, labs_len, sp_len, strsOf, ql, qj, q0, q1, q2, q3, q4, q5, q6, q7, q8, q9, q10, q11]
theorem ok_u_law_named_error (T : Txt mg K) (B : Bas T base) : FnE P w K mg base 1 T.d_u_law_named_error.f T.d_u_law_named_error.fd a_u_law_named_error (spNm mg K labE) :=
  fx_okE T.d_u_law_named_error.F sc_u_law_named_error nm_u_law_named_error fun cdv A outer s H E a oe y cls d l t h1 hz hf hx hl ht hot hr => by
    obtain ⟨D, rfl, rfl, hC, hV, hk⟩ := exFacts T (okE_lab hl) hx
    have nd := sc_u_law_named_error.nd
    have mem : (a, oe) ∈ (L2H.cxH (CXr P w) P w K mg base N_u_law_named_error "_law_named_error" (defScope s_u_law_named_error) T.d_u_law_named_error.f cdv A outer s H E (a, oe)).pn := List.mem_cons_self
    exact (sd_cons (sdn_set nd 1 (pd_frz (pl_lst (pd_cons (pd_isE 0 hC hz.zc hf mem ht (by rfl) T.m_isinstance (by rfl) T.g_InvalidWeb (hk "InvalidWeb" T.cn_InvalidWeb (by simp [kitsL]))) (pd_cons (pd_isE 0 hC hz.zc hf mem ht (by rfl) T.m_isinstance (by rfl) T.g_InvalidChoice (hk "InvalidChoice" T.cn_InvalidChoice (by simp [kitsL]))) (pd_cons (pd_isE 0 hC hz.zc hf mem ht (by rfl) T.m_isinstance (by rfl) T.g_InvalidLots (hk "InvalidLots" T.cn_InvalidLots (by simp [kitsL]))) (pd_nil)))))))
  (sd_cons (sdn_set nd 1 (pd_frz (pl_cat (pd_v 1) (pd_frz (pl_lst (pd_cons (pd_isE 0 hC hz.zc hf mem ht (by rfl) T.m_isinstance (by rfl) T.g_InvalidTie (hk "InvalidTie" T.cn_InvalidTie (by simp [kitsL]))) (pd_cons (pd_isE 0 hC hz.zc hf mem ht (by rfl) T.m_isinstance (by rfl) T.g_InvalidPlace (hk "InvalidPlace" T.cn_InvalidPlace (by simp [kitsL]))) (pd_cons (pd_isE 0 hC hz.zc hf mem ht (by rfl) T.m_isinstance (by rfl) T.g_InvalidNumber (hk "InvalidNumber" T.cn_InvalidNumber (by simp [kitsL]))) (pd_nil)))))))))
  (sd_cons (sdn_set nd 1 (pd_frz (pl_cat (pd_v 1) (pd_frz (pl_lst (pd_cons (pd_isE 0 hC hz.zc hf mem ht (by rfl) T.m_isinstance (by rfl) T.g_InvalidPairs (hk "InvalidPairs" T.cn_InvalidPairs (by simp [kitsL]))) (pd_cons (pd_isE 0 hC hz.zc hf mem ht (by rfl) T.m_isinstance (by rfl) T.g_InvalidText (hk "InvalidText" T.cn_InvalidText (by simp [kitsL]))) (pd_cons (pd_isE 0 hC hz.zc hf mem ht (by rfl) T.m_isinstance (by rfl) T.g_Unlike (hk "Unlike" T.cn_Unlike (by simp [kitsL]))) (pd_nil)))))))))
  (sd_cons (sdn_set nd 1 (pd_frz (pl_cat (pd_v 1) (pd_frz (pl_lst (pd_cons (pd_isE 0 hC hz.zc hf mem ht (by rfl) T.m_isinstance (by rfl) T.g_NoChoice (hk "NoChoice" T.cn_NoChoice (by simp [kitsL]))) (pd_cons (pd_isE 0 hC hz.zc hf mem ht (by rfl) T.m_isinstance (by rfl) T.g_NothingToUndo (hk "NothingToUndo" T.cn_NothingToUndo (by simp [kitsL]))) (pd_cons (pd_isE 0 hC hz.zc hf mem ht (by rfl) T.m_isinstance (by rfl) T.g_TooMany (hk "TooMany" T.cn_TooMany (by simp [kitsL]))) (pd_nil)))))))))
  (sd_cons (sdn_set nd 2 pd_str)
  (sd_one (sd_ret (pd_join pd_str (pd_frz (pl_lcH (own := [("label", 3), ("good", 4)]) hot nd (pid_zipH (by rfl) T.m_zip (pd_frz (pl_split (pd_v 2) pd_str)) (pd_v 1)) (blkOk_by (N := N_u_law_named_error) (sc := defScope s_u_law_named_error) (own := [("label", 3), ("good", 4)]) (by decide +kernel)) (fun _ _ _ _ _ => pgd_tH (pgd_cons (pgdn_n nd 3) (pgd_cons (pgdn_n nd 4) pgd_nil))) (fun _ _ _ _ _ => ptsd_one (pd_val (pd_v 4))) (fun _ _ _ _ _ => pd_v 3)))))))))))
theorem ok_u_law_error (T : Txt mg K) (B : Bas T base) {kφ : Nat} {t : CTok} {φ : MF} (c : CloOk P w K mg base kφ 0 t φ) : FnOk P w K mg base (CXr P w) (kφ + 2) T.d_u_law_error.f T.d_u_law_error.fd a_u_law_error (spM mg K 1 (h_u_law_error t φ)) :=
  fx_okM T.d_u_law_error.F sc_u_law_error rfl fun cdv A outer s H E hcd CE => have C0 := CE.c; have C := CE.b
  sd_cons (sd_tryAs CE 1 ⟨by rfl, by decide, .inl T.gTie⟩ (exmT T) (fun W1 pn1 xe1 CW => sd_one (sd_exp (pd_act0 CW.b c (by omega) B.m 0)))
    (fun a oe cls d pn1 y t hz hf hx hy ht => by
      obtain ⟨D, rfl, rfl, hC, hV, _⟩ := exFacts T hy hx
      exact sd_one (sd_ret (pd_if (pd_val (pd_isET (nm := "ValueError") 1 hC hz.zc hf List.mem_cons_self ht (by rfl) T.m_isinstance (by rfl) T.m_ValueError (by decide +kernel) hV)) (pd_named 1 (ok_u_law_named_error T B) (CE.room.mono (by omega)) hz hf hx ht (by rfl) T.d_u_law_named_error.g T.d_u_law_named_error.F.kp T.d_u_law_named_error.b) (pd_str)))))
  (sd_one (sd_ret (pd_str)))
theorem ok_u_law_all_refused (T : Txt mg K) (B : Bas T base) {kφ : Nat} {t : CTok} {φ : MF} (c : CloOk P w K mg base kφ 1 t φ) : FnOk P w K mg base (CXr P w) (kφ + 5) T.d_u_law_all_refused.f T.d_u_law_all_refused.fd a_u_law_all_refused (spM mg K 3 (h_u_law_all_refused t φ)) :=
  fx_okM T.d_u_law_all_refused.F sc_u_law_all_refused rfl fun cdv A outer s H E hcd CE => have C0 := CE.c; have C := CE.b
  sd_one (sd_ret (pd_eq C (pd_frz (pl_lcX (own := [("odd", 3)]) C (pid_sq (pd_v 1)) (blkOk_by (N := N_u_law_all_refused) (sc := defScope s_u_law_all_refused) (own := [("odd", 3)]) (by decide +kernel)) (fun _ _ _ _ _ bA => pgd_n C.blk 3) (fun _ _ _ _ _ bA => ptsd_one (pb_ne C.blk (pd_callHL (kf := (kφ + 1)) (N := ["call", "odd"]) (ps' := []) (fr := ["call", "odd"]) (js := [0, 3]) C.blk (bA.nf (cellNf_of fun _ => rfl) (blkOk_by (N := N_u_law_all_refused) (sc := defScope s_u_law_all_refused) (own := [("odd", 3)]) (by decide +kernel)).free) (fun t φ b' m sb c => ok_u_law_error T (B.sub sb m) c) (by omega) (by rfl) (by rfl) T.d_u_law_error.g T.d_u_law_error.F.kp T.d_u_law_error.b (nscope_by (by decide +kernel)) (by rfl) (by rfl) (show ndefB (relS _ (defScope s_u_law_all_refused)) _ ["call", "odd"] = true by decide +kernel) (by rfl) (fun q cl pm cv ctv us hl => match us, hl with | [], _ => rfl) (fun c1 f1 b1 A1 o1 s1 H1 E1 sb hm Cz => pd_act Cz.b (c.sub sb) (by omega) (B.sub sb hm).m 0 (pd_cons (pd_v 1) (pd_nil))) (pxd_lam B.t_u_law_all_refused (hcd.symm.trans T.hc_u_law_all_refused) T.mem_u_law_all_refused T.hu_u_law_all_refused (ndef_free (show ndefB (relS _ (defScope s_u_law_all_refused)) _ ["call", "odd"] = true by decide +kernel)) (by rfl) (pd_nil))) (pd_v 2))) (fun _ _ _ _ _ bA => pd_v 3))) (pd_frz (pl_lst (pd_nil)))))
theorem ok_is_figures (T : Txt mg K) (B : Bas T base) : FnOk P w K mg base (CXr P w) 2 T.d_is_figures.f T.d_is_figures.fd a_is_figures (spP mg K 1 p_is_figures) :=
  fx_okP T.d_is_figures.F sc_is_figures rfl fun cdv A outer s H E hcd CE => have C0 := CE.c; have C := CE.b
  sd_one (sd_ret (pd_and (pd_ltLe (pd_int) (pd_len (by rfl) T.m_len (pd_cons (pd_v 0) (pd_nil))) (pd_gintE (by rfl) T.c_LONGEST)) (pd_one (pd_all C (by rfl) T.m_all (pd_cons (pd_frz (pl_lc (own := [("sign", 1)]) C (pid_str (pd_v 0)) (blkOk_by (N := N_is_figures) (sc := defScope s_is_figures) (own := [("sign", 1)]) (by decide +kernel)) (fun _ _ _ _ _ => pgd_n C.blk 1) (fun _ _ _ _ _ => ptsd_nil) (fun _ _ _ _ _ => pd_inS (pd_v 1) (pd_gstrE (by rfl) T.c_SIGNS)))) (pd_nil))))))
theorem ok_row_in (T : Txt mg K) (B : Bas T base) : FnOk P w K mg base (CXr P w) 3 T.d_row_in.f T.d_row_in.fd a_row_in (spP mg K 1 p_row_in) :=
  fx_okP T.d_row_in.F sc_row_in rfl fun cdv A outer s H E hcd CE => have C0 := CE.c; have C := CE.b
  sd_cons (sd_set C 1 (pd_frz (pl_split (pd_v 0) (pd_str))))
  (sd_cons (sd_if (pb_not (pd_val (pd_all C (by rfl) T.m_all (pd_cons (pd_frz (pl_lc (own := [("word", 2)]) C (pid_sq (pd_sl (pd_v 1) (pd_some (pd_int)) (pd_none))) (blkOk_by (N := N_row_in) (sc := defScope s_row_in) (own := [("word", 2)]) (by decide +kernel)) (fun _ _ _ _ _ => pgd_n C.blk 2) (fun _ _ _ _ _ => ptsd_nil) (fun _ _ _ _ _ => pd_call C.blk (ok_is_figures T B) (by decide) (by rfl) T.d_is_figures.g T.d_is_figures.F.kp T.d_is_figures.b (pd_cons (pd_v 2) (pd_nil))))) (pd_nil))))) (sd_one (sd_ret (pd_non))) (sd_nil))
  (sd_one (sd_ret (pd_tup (pd_cons (pd_ix (pd_v 1) (pd_int)) (pd_cons (pd_tuple (by rfl) T.m_tuple (pd_cons (pd_frz (pl_lc (own := [("word", 2)]) C (pid_sq (pd_sl (pd_v 1) (pd_some (pd_int)) (pd_none))) (blkOk_by (N := N_row_in) (sc := defScope s_row_in) (own := [("word", 2)]) (by decide +kernel)) (fun _ _ _ _ _ => pgd_n C.blk 2) (fun _ _ _ _ _ => ptsd_nil) (fun _ _ _ _ _ => pd_intS (by rfl) T.m_int (pd_cons (pd_v 2) (pd_nil))))) (pd_nil))) (pd_nil)))))))
theorem ok_is_whole (T : Txt mg K) (B : Bas T base) : FnOk P w K mg base (CXr P w) 2 T.d_is_whole.f T.d_is_whole.fd a_is_whole (spP mg K 3 p_is_whole) :=
  fx_okP T.d_is_whole.F sc_is_whole rfl fun cdv A outer s H E hcd CE => have C0 := CE.c; have C := CE.b
  sd_one (sd_ret (pd_and (pd_isi (n := "int") (by rfl) T.m_isinstance (by rfl) T.m_int (by decide +kernel) (pd_v 0)) (pd_and (pd_not (pd_isi (n := "bool") (by rfl) T.m_isinstance (by rfl) T.m_bool (by decide +kernel) (pd_v 0))) (pd_one (pd_leLe (pd_v 1) (pd_v 0) (pd_v 2))))))
theorem ok_fits_stretch (T : Txt mg K) (B : Bas T base) : FnOk P w K mg base (CXr P w) 3 T.d_fits_stretch.f T.d_fits_stretch.fd a_fits_stretch (spP mg K 1 p_fits_stretch) :=
  fx_okP T.d_fits_stretch.F sc_fits_stretch rfl fun cdv A outer s H E hcd CE => have C0 := CE.c; have C := CE.b
  sd_cons (sd_if (PWd.pt (pb_or (pb_not (pd_val (pd_isi (n := "tuple") (by rfl) T.m_isinstance (by rfl) T.m_tuple (by decide +kernel) (pd_v 0)))) (pb_or (pb_ne C (pd_len (by rfl) T.m_len (pd_cons (pd_v 0) (pd_nil))) (pd_int)) (pb_or1 (pb_not (pd_val (pd_call C (ok_is_whole T B) (by decide) (by rfl) T.d_is_whole.g T.d_is_whole.F.kp T.d_is_whole.b (pd_cons (pd_ix (pd_v 0) (pd_int)) (pd_cons (pd_int) (pd_cons (pd_gintE (by rfl) T.c_FAR) (pd_nil))))))))))) (sd_one (sd_ret (pd_bl))) (sd_nil))
  (sd_one (sd_ret (pd_call C (ok_is_whole T B) (by decide) (by rfl) T.d_is_whole.g T.d_is_whole.F.kp T.d_is_whole.b (pd_cons (pd_ix (pd_v 0) (pd_int)) (pd_cons (pd_ix (pd_v 0) (pd_int)) (pd_cons (pd_gintE (by rfl) T.c_FAR) (pd_nil)))))))
theorem ok_fits_tie (T : Txt mg K) (B : Bas T base) : FnOk P w K mg base (CXr P w) 3 T.d_fits_tie.f T.d_fits_tie.fd a_fits_tie (spP mg K 2 p_fits_tie) :=
  fx_okP T.d_fits_tie.F sc_fits_tie rfl fun cdv A outer s H E hcd CE => have C0 := CE.c; have C := CE.b
  sd_cons (sd_if (PWd.pt (pb_or (pb_not (pd_val (pd_isi (n := "tuple") (by rfl) T.m_isinstance (by rfl) T.m_tuple (by decide +kernel) (pd_v 0)))) (pb_or (pb_ne C (pd_len (by rfl) T.m_len (pd_cons (pd_v 0) (pd_nil))) (pd_int)) (pb_or1 (pb_not (pd_val (pd_call C (ok_is_whole T B) (by decide) (by rfl) T.d_is_whole.g T.d_is_whole.F.kp T.d_is_whole.b (pd_cons (pd_ix (pd_v 0) (pd_int)) (pd_cons (pd_int) (pd_cons (pd_sub (pd_v 1) (pd_int)) (pd_nil))))))))))) (sd_one (sd_ret (pd_bl))) (sd_nil))
  (sd_one (sd_ret (pd_and (pd_call C (ok_is_whole T B) (by decide) (by rfl) T.d_is_whole.g T.d_is_whole.F.kp T.d_is_whole.b (pd_cons (pd_ix (pd_v 0) (pd_int)) (pd_cons (pd_add (pd_ix (pd_v 0) (pd_int)) (pd_int)) (pd_cons (pd_sub (pd_v 1) (pd_int)) (pd_nil))))) (pd_one (pd_call C (ok_is_whole T B) (by decide) (by rfl) T.d_is_whole.g T.d_is_whole.F.kp T.d_is_whole.b (pd_cons (pd_ix (pd_v 0) (pd_int)) (pd_cons (pd_int) (pd_cons (pd_gintE (by rfl) T.c_FAR) (pd_nil)))))))))
theorem ok_fits_web (T : Txt mg K) (B : Bas T base) : FnOk P w K mg base (CXr P w) 4 T.d_fits_web.f T.d_fits_web.fd a_fits_web (spP mg K 1 p_fits_web) :=
  fx_okP T.d_fits_web.F sc_fits_web rfl fun cdv A outer s H E hcd CE => have C0 := CE.c; have C := CE.b
  sd_cons (sd_if (PWd.pt (pb_or (pb_not (pd_val (pd_isi (n := "tuple") (by rfl) T.m_isinstance (by rfl) T.m_tuple (by decide +kernel) (pd_v 0)))) (pb_or1 (pb_ne C (pd_len (by rfl) T.m_len (pd_cons (pd_v 0) (pd_nil))) (pd_int))))) (sd_one (sd_ret (pd_bl))) (sd_nil))
  (sd_cons (sd_asg (pd_v 0) (pgd_t C (pgd_cons (pgd_n C 1) (pgd_cons (pgd_n C 2) (pgd_nil)))))
  (sd_cons (sd_if (PWd.pt (pb_or (pb_not (pd_val (pd_isi (n := "tuple") (by rfl) T.m_isinstance (by rfl) T.m_tuple (by decide +kernel) (pd_v 1)))) (pb_or1 (pb_not (pb_leLe (pd_int) (pd_len (by rfl) T.m_len (pd_cons (pd_v 1) (pd_nil))) (pd_gintE (by rfl) T.c_PLACES)))))) (sd_one (sd_ret (pd_bl))) (sd_nil))
  (sd_cons (sd_if (pb_not (pd_val (pd_all C (by rfl) T.m_all (pd_cons (pd_frz (pl_lc (own := [("one", 3)]) C (pid_sq (pd_v 1)) (blkOk_by (N := N_fits_web) (sc := defScope s_fits_web) (own := [("one", 3)]) (by decide +kernel)) (fun _ _ _ _ _ => pgd_n C.blk 3) (fun _ _ _ _ _ => ptsd_nil) (fun _ _ _ _ _ => pd_call C.blk (ok_fits_stretch T B) (by decide) (by rfl) T.d_fits_stretch.g T.d_fits_stretch.F.kp T.d_fits_stretch.b (pd_cons (pd_v 3) (pd_nil))))) (pd_nil))))) (sd_one (sd_ret (pd_bl))) (sd_nil))
  (sd_cons (sd_if (PWd.pt (pb_or (pb_not (pd_val (pd_isi (n := "tuple") (by rfl) T.m_isinstance (by rfl) T.m_tuple (by decide +kernel) (pd_v 2)))) (pb_or (pb_gt (pd_len (by rfl) T.m_len (pd_cons (pd_v 2) (pd_nil))) (pd_gintE (by rfl) T.c_TIES)) (pb_or1 (pb_not (pd_val (pd_all C (by rfl) T.m_all (pd_cons (pd_frz (pl_lc (own := [("one", 3)]) C (pid_sq (pd_v 2)) (blkOk_by (N := N_fits_web) (sc := defScope s_fits_web) (own := [("one", 3)]) (by decide +kernel)) (fun _ _ _ _ _ => pgd_n C.blk 3) (fun _ _ _ _ _ => ptsd_nil) (fun _ _ _ _ _ => pd_call C.blk (ok_fits_tie T B) (by decide) (by rfl) T.d_fits_tie.g T.d_fits_tie.F.kp T.d_fits_tie.b (pd_cons (pd_v 3) (pd_cons (pd_len (by rfl) T.m_len (pd_cons (pd_v 1) (pd_nil))) (pd_nil)))))) (pd_nil))))))))) (sd_one (sd_ret (pd_bl))) (sd_nil))
  (sd_one (sd_ret (pd_all C (by rfl) T.m_all (pd_cons (pd_frz (pl_lc (own := [("one", 3), ("other", 4)]) C (pid_zip (by rfl) T.m_zip (pd_v 2) (pd_sl (pd_v 2) (pd_some (pd_int)) (pd_none))) (blkOk_by (N := N_fits_web) (sc := defScope s_fits_web) (own := [("one", 3), ("other", 4)]) (by decide +kernel)) (fun _ _ _ _ _ => pgd_t C.blk (pgd_cons (pgd_n C.blk 3) (pgd_cons (pgd_n C.blk 4) (pgd_nil)))) (fun _ _ _ _ _ => ptsd_nil) (fun _ _ _ _ _ => pd_lt C.blk (pd_sl (pd_v 3) (pd_none) (pd_some (pd_int))) (pd_sl (pd_v 4) (pd_none) (pd_some (pd_int)))))) (pd_nil)))))))))
theorem ok_as_text (T : Txt mg K) (B : Bas T base) : FnOk P w K mg base (CXr P w) 2 T.d_as_text.f T.d_as_text.fd a_as_text (spP mg K 1 p_as_text) :=
  fx_okP T.d_as_text.F sc_as_text rfl fun cdv A outer s H E hcd CE => have C0 := CE.c; have C := CE.b
  sd_cons (sd_setLc (F := eFrz) (own := [("least", 2), ("most", 3)]) C 1 (pid_sq (pd_ix (pd_v 0) (pd_int))) (blkOk_by (N := N_as_text) (sc := defScope s_as_text) (own := [("least", 2), ("most", 3)]) (by decide +kernel)) (fun _ _ _ _ _ => pgd_t C.blk (pgd_cons (pgd_n C.blk 2) (pgd_cons (pgd_n C.blk 3) (pgd_nil)))) (fun _ _ _ _ _ => ptsd_nil) (fun _ _ _ _ _ => pd_fs (.cons (pd_str) (.cons (pd_fmt (pd_v 2)) (.cons (pd_str) (.cons (pd_fmt (pd_v 3)) (.nil)))))) (fun _ => frz_read))
  (sd_one (sd_ret (pd_join (pd_str) (pd_add (pd_v 1) (pd_frz (pl_lc (own := [("one", 4), ("other", 5), ("limit", 6)]) C (pid_sq (pd_ix (pd_v 0) (pd_int))) (blkOk_by (N := N_as_text) (sc := defScope s_as_text) (own := [("one", 4), ("other", 5), ("limit", 6)]) (by decide +kernel)) (fun _ _ _ _ _ => pgd_t C.blk (pgd_cons (pgd_n C.blk 4) (pgd_cons (pgd_n C.blk 5) (pgd_cons (pgd_n C.blk 6) (pgd_nil))))) (fun _ _ _ _ _ => ptsd_nil) (fun _ _ _ _ _ => pd_fs (.cons (pd_str) (.cons (pd_fmt (pd_v 4)) (.cons (pd_str) (.cons (pd_fmt (pd_v 5)) (.cons (pd_str) (.cons (pd_fmt (pd_v 6)) (.nil))))))))))))))
theorem ok_web_in (T : Txt mg K) (B : Bas T base) : FnOk P w K mg base (CXr P w) 5 T.d_web_in.f T.d_web_in.fd a_web_in (spP mg K 1 p_web_in) :=
  fx_okP T.d_web_in.F sc_web_in rfl fun cdv A outer s H E hcd CE => have C0 := CE.c; have C := CE.b
  sd_cons (sd_if (pb_not (pd_val (pd_isi (n := "str") (by rfl) T.m_isinstance (by rfl) T.m_str (by decide +kernel) (pd_v 0)))) (sd_one (sd_raise CE T.x_InvalidText (by rfl))) (sd_nil))
  (sd_cons (sd_setLc (F := eFrz) (own := [("line", 4)]) C 1 (pid_sq (pd_frz (pl_split (pd_v 0) (pd_str)))) (blkOk_by (N := N_web_in) (sc := defScope s_web_in) (own := [("line", 4)]) (by decide +kernel)) (fun _ _ _ _ _ => pgd_n C.blk 4) (fun _ _ _ _ _ => ptsd_nil) (fun _ _ _ _ _ => pd_call C.blk (ok_row_in T B) (by decide) (by rfl) T.d_row_in.g T.d_row_in.F.kp T.d_row_in.b (pd_cons (pd_v 4) (pd_nil))) (fun _ => frz_read))
  (sd_cons (sd_if (pb_in C (pd_non) (pd_v 1)) (sd_one (sd_raise CE T.x_InvalidText (by rfl))) (sd_nil))
  (sd_cons (sd_set C 2 (pd_tuple (by rfl) T.m_tuple (pd_cons (pd_frz (pl_lc (own := [("word", 5), ("numbers", 6)]) C (pid_sq (pd_v 1)) (blkOk_by (N := N_web_in) (sc := defScope s_web_in) (own := [("word", 5), ("numbers", 6)]) (by decide +kernel)) (fun _ _ _ _ _ => pgd_t C.blk (pgd_cons (pgd_n C.blk 5) (pgd_cons (pgd_n C.blk 6) (pgd_nil)))) (fun _ _ _ _ _ => ptsd_one (pb_eq C.blk (pd_v 5) (pd_str))) (fun _ _ _ _ _ => pd_v 6))) (pd_nil))))
  (sd_cons (sd_set C 3 (pd_tup (pd_cons (pd_v 2) (pd_cons (pd_tuple (by rfl) T.m_tuple (pd_cons (pd_frz (pl_lc (own := [("word", 5), ("numbers", 6)]) C (pid_sq (pd_v 1)) (blkOk_by (N := N_web_in) (sc := defScope s_web_in) (own := [("word", 5), ("numbers", 6)]) (by decide +kernel)) (fun _ _ _ _ _ => pgd_t C.blk (pgd_cons (pgd_n C.blk 5) (pgd_cons (pgd_n C.blk 6) (pgd_nil)))) (fun _ _ _ _ _ => ptsd_one (pb_eq C.blk (pd_v 5) (pd_str))) (fun _ _ _ _ _ => pd_v 6))) (pd_nil))) (pd_nil)))))
  (sd_cons (sd_if (PWd.pt (pb_or (pb_not (pd_val (pd_call C (ok_fits_web T B) (by decide) (by rfl) T.d_fits_web.g T.d_fits_web.F.kp T.d_fits_web.b (pd_cons (pd_v 3) (pd_nil))))) (pb_or1 (pb_ne C (pd_call C (ok_as_text T B) (by decide) (by rfl) T.d_as_text.g T.d_as_text.F.kp T.d_as_text.b (pd_cons (pd_v 3) (pd_nil))) (pd_v 0))))) (sd_one (sd_raise CE T.x_InvalidText (by rfl))) (sd_nil))
  (sd_one (sd_ret (pd_v 3))))))))
theorem ok_read_web (T : Txt mg K) (B : Bas T base) : FnOk P w K mg base (CXr P w) 6 T.d_read_web.f T.d_read_web.fd a_read_web (spP mg K 1 p_read_web) :=
  fx_okP T.d_read_web.F sc_read_web rfl fun cdv A outer s H E hcd CE => have C0 := CE.c; have C := CE.b
  sd_one (sd_ret (pd_call C (ok_web_in T B) (by decide) (by rfl) T.d_web_in.g T.d_web_in.F.kp T.d_web_in.b (pd_cons (pd_v 0) (pd_nil))))
theorem ok_u_law_number (T : Txt mg K) (B : Bas T base) : FnOk P w K mg base (CXr P w) 2 T.d_u_law_number.f T.d_u_law_number.fd a_u_law_number (spP mg K 1 p_u_law_number) :=
  fx_okP T.d_u_law_number.F sc_u_law_number rfl fun cdv A outer s H E hcd CE => have C0 := CE.c; have C := CE.b
  sd_cons (sd_if (PWd.pt (pb_or (pb_eq C (pd_v 0) (pd_str)) (pb_or (pb_gt (pd_len (by rfl) T.m_len (pd_cons (pd_v 0) (pd_nil))) (pd_int)) (pb_or1 (pb_ne C (pd_frz (pl_lc (own := [("sign", 1)]) C (pid_str (pd_v 0)) (blkOk_by (N := N_u_law_number) (sc := defScope s_u_law_number) (own := [("sign", 1)]) (by decide +kernel)) (fun _ _ _ _ _ => pgd_n C.blk 1) (fun _ _ _ _ _ => ptsd_one (pb_ninS (pd_v 1) (pd_str))) (fun _ _ _ _ _ => pd_v 1))) (pd_frz (pl_lst (pd_nil)))))))) (sd_one (sd_ret (pd_non))) (sd_nil))
  (sd_one (sd_ret (pd_if (PWd.pt (pb_or (pb_eq C (pd_v 0) (pd_str)) (pb_or1 (pb_ne C (pd_ix (pd_v 0) (pd_int)) (pd_str))))) (pd_intS (by rfl) T.m_int (pd_cons (pd_v 0) (pd_nil))) (pd_non))))
theorem ok_u_law_read (T : Txt mg K) (B : Bas T base) : FnOk P w K mg base (CXr P w) 3 T.d_u_law_read.f T.d_u_law_read.fd a_u_law_read (spP mg K 1 p_u_law_read) :=
  fx_okP T.d_u_law_read.F sc_u_law_read rfl fun cdv A outer s H E hcd CE => have C0 := CE.c; have C := CE.b
  sd_cons (sd_pack C (pd_cons (pd_new (pl_lst (pd_nil))) (pd_cons (pd_new (pl_lst (pd_nil))) (pd_cons (pd_tup (pd_cons (pd_neg (pd_int)) (pd_cons (pd_neg (pd_int)) (pd_nil)))) (pd_nil)))) (pgl_cons C 1 (pgl_cons C 2 (pgl_cons C 3 (pgl_nil)))))
  (sd_cons (sd_for C0 (pid_sq (pd_frz (pl_split (pd_v 0) (pd_str)))) (pgd_n C 4) (sd_cons (sd_set C 5 (pd_frz (pl_split (pd_v 4) (pd_str))))
  (sd_cons (sd_setLc (F := eFrz) (own := [("word", 7)]) C 6 (pid_sq (pd_sl (pd_v 5) (pd_some (pd_int)) (pd_none))) (blkOk_by (N := N_u_law_read) (sc := defScope s_u_law_read) (own := [("word", 7)]) (by decide +kernel)) (fun _ _ _ _ _ => pgd_n C.blk 7) (fun _ _ _ _ _ => ptsd_nil) (fun _ _ _ _ _ => pd_call C.blk (ok_u_law_number T B) (by decide) (by rfl) T.d_u_law_number.g T.d_u_law_number.F.kp T.d_u_law_number.b (pd_cons (pd_v 7) (pd_nil))) (fun _ => frz_read))
  (sd_cons (sd_if (PWd.pt (pb_or (pb_in C (pd_non) (pd_v 6)) (pb_or1 (pb_ne C (pd_frz (pl_lc (own := [("word", 7)]) C (pid_sq (pd_v 6)) (blkOk_by (N := N_u_law_read) (sc := defScope s_u_law_read) (own := [("word", 7)]) (by decide +kernel)) (fun _ _ _ _ _ => pgd_n C.blk 7) (fun _ _ _ _ _ => ptsd_one (pb_gt (pd_v 7) (pd_pow (pd_int) (pd_int)))) (fun _ _ _ _ _ => pd_v 7))) (pd_frz (pl_lst (pd_nil))))))) (sd_one (sd_ret (pd_non))) (sd_nil))
  (sd_one (sd_if (PWd.pt (pb_and (pb_eq C (pd_ix (pd_v 5) (pd_int)) (pd_str)) (pb_and (pb_eq C (pd_len (by rfl) T.m_len (pd_cons (pd_v 6) (pd_nil))) (pd_int)) (pb_and (pb_eq C (pd_v 2) (pd_frz (pl_lst (pd_nil)))) (pb_and1 (pb_le C (pd_ix (pd_v 6) (pd_int)) (pd_ix (pd_v 6) (pd_int)))))))) (sd_one (sd_exp (pd_app (pd_v 1) (pd_tup (pd_cons (pd_ix (pd_v 6) (pd_int)) (pd_cons (pd_ix (pd_v 6) (pd_int)) (pd_nil))))))) (sd_one (sd_if (PWd.pt (pb_and (pb_eq C (pd_ix (pd_v 5) (pd_int)) (pd_str)) (pb_and (pb_eq C (pd_len (by rfl) T.m_len (pd_cons (pd_v 6) (pd_nil))) (pd_int)) (pb_and (pb_lt C (pd_ix (pd_v 6) (pd_int)) (pd_ix (pd_v 6) (pd_int))) (pb_and (pb_gt (pd_ix (pd_v 6) (pd_int)) (pd_int)) (pb_and1 (pb_gtT C (pd_tup (pd_cons (pd_ix (pd_v 6) (pd_int)) (pd_cons (pd_ix (pd_v 6) (pd_int)) (pd_nil)))) (pd_v 3)))))))) (sd_cons (sd_set C 3 (pd_tup (pd_cons (pd_ix (pd_v 6) (pd_int)) (pd_cons (pd_ix (pd_v 6) (pd_int)) (pd_nil)))))
  (sd_one (sd_exp (pd_app (pd_v 2) (pd_tup (pd_cons (pd_ix (pd_v 6) (pd_int)) (pd_cons (pd_ix (pd_v 6) (pd_int)) (pd_cons (pd_ix (pd_v 6) (pd_int)) (pd_nil))))))))) (sd_one (sd_ret (pd_non)))))))))))
  (sd_cons (sd_if (PWd.pt (pb_or (pb_not (pb_leLe (pd_int) (pd_len (by rfl) T.m_len (pd_cons (pd_v 1) (pd_nil))) (pd_int))) (pb_or1 (pb_gt (pd_len (by rfl) T.m_len (pd_cons (pd_v 2) (pd_nil))) (pd_int))))) (sd_one (sd_ret (pd_non))) (sd_nil))
  (sd_cons (sd_if (pb_ne C (pd_frz (pl_lcO (own := [("row", 8)]) C (pd_v 2) (blkOk_by (N := N_u_law_read) (sc := defScope s_u_law_read) (own := [("row", 8)]) (by decide +kernel)) (fun _ _ _ _ _ => pgd_n C.blk 8) (fun _ _ _ _ _ => ptsd_one (pb_ge (pd_ix (pd_v 8) (pd_int)) (pd_len (by rfl) T.m_len (pd_cons (pd_v 1) (pd_nil))))) (fun _ _ _ _ _ => pd_v 8))) (pd_frz (pl_lst (pd_nil)))) (sd_one (sd_ret (pd_non))) (sd_nil))
  (sd_one (sd_ret (pd_tup (pd_cons (pd_tuple (by rfl) T.m_tuple (pd_cons (pd_v 1) (pd_nil))) (pd_cons (pd_tuple (by rfl) T.m_tuple (pd_cons (pd_v 2) (pd_nil))) (pd_nil)))))))))
theorem ok_need_web (T : Txt mg K) (B : Bas T base) : FnOk P w K mg base (CXr P w) 5 T.d_need_web.f T.d_need_web.fd a_need_web (spP mg K 1 p_need_web) :=
  fx_okP T.d_need_web.F sc_need_web rfl fun cdv A outer s H E hcd CE => have C0 := CE.c; have C := CE.b
  sd_one (sd_if (pb_not (pd_val (pd_call C (ok_fits_web T B) (by decide) (by rfl) T.d_fits_web.g T.d_fits_web.F.kp T.d_fits_web.b (pd_cons (pd_v 0) (pd_nil))))) (sd_one (sd_raise CE T.x_InvalidWeb (by rfl))) (sd_nil))
theorem ok_web_text (T : Txt mg K) (B : Bas T base) : FnOk P w K mg base (CXr P w) 6 T.d_web_text.f T.d_web_text.fd a_web_text (spP mg K 1 p_web_text) :=
  fx_okP T.d_web_text.F sc_web_text rfl fun cdv A outer s H E hcd CE => have C0 := CE.c; have C := CE.b
  sd_cons (sd_exp (pd_call C (ok_need_web T B) (by decide) (by rfl) T.d_need_web.g T.d_need_web.F.kp T.d_need_web.b (pd_cons (pd_v 0) (pd_nil))))
  (sd_one (sd_ret (pd_call C (ok_as_text T B) (by decide) (by rfl) T.d_as_text.g T.d_as_text.F.kp T.d_as_text.b (pd_cons (pd_v 0) (pd_nil)))))
theorem ok_u_law_ties (T : Txt mg K) (B : Bas T base) : FnOk P w K mg base (CXr P w) 3 T.d_u_law_ties.f T.d_u_law_ties.fd a_u_law_ties (spM mg K 4 m_u_law_ties) :=
  fx_okM T.d_u_law_ties.F sc_u_law_ties rfl fun cdv A outer s H E hcd CE => have C0 := CE.c; have C := CE.b
  sd_cons (sd_set C 4 (pd_new (pl_lst (pd_nil))))
  (sd_cons (sd_for C0 (pid_rng1 (by rfl) T.m_range (pd_v 1)) (pgd_n C 5) (sd_one (sd_for C0 (pid_rng2 (by rfl) T.m_range (pd_add (pd_v 5) (pd_int)) (pd_v 1)) (pgd_n C 6) (sd_one (sd_if (PWd.pt (pb_and (pb_lt C (pd_len (by rfl) T.m_len (pd_cons (pd_v 4) (pd_nil))) (pd_v 2)) (pb_and1 (pb_gt (pd_callM C (ok_u_law_take T B) (by decide) (by rfl) T.d_u_law_take.g T.d_u_law_take.F.kp T.d_u_law_take.b (pd_cons (pd_v 0) (pd_cons (pd_int) (pd_nil)))) (pd_int))))) (sd_one (sd_exp (pd_app (pd_v 4) (pd_tup (pd_cons (pd_v 5) (pd_cons (pd_v 6) (pd_cons (pd_add (pd_int) (pd_callM C (ok_u_law_take T B) (by decide) (by rfl) T.d_u_law_take.g T.d_u_law_take.F.kp T.d_u_law_take.b (pd_cons (pd_v 0) (pd_cons (pd_v 3) (pd_nil))))) (pd_nil)))))))) (sd_nil))))))
  (sd_one (sd_ret (pd_tuple (by rfl) T.m_tuple (pd_cons (pd_v 4) (pd_nil))))))
theorem ok_u_law_web (T : Txt mg K) (B : Bas T base) : FnOk P w K mg base (CXr P w) 4 T.d_u_law_web.f T.d_u_law_web.fd a_u_law_web (spM mg K 1 m_u_law_web) :=
  fx_okM T.d_u_law_web.F sc_u_law_web rfl fun cdv A outer s H E hcd CE => have C0 := CE.c; have C := CE.b
  sd_cons (sd_set C 1 (pd_add (pd_int) (pd_callM C (ok_u_law_take T B) (by decide) (by rfl) T.d_u_law_take.g T.d_u_law_take.F.kp T.d_u_law_take.b (pd_cons (pd_v 0) (pd_cons (pd_int) (pd_nil))))))
  (sd_cons (sd_par C (pd_callM C (ok_u_law_ties T B) (by decide) (by rfl) T.d_u_law_ties.g T.d_u_law_ties.F.kp T.d_u_law_ties.b (pd_cons (pd_v 0) (pd_cons (pd_v 1) (pd_cons (pd_int) (pd_cons (pd_int) (pd_nil)))))) (pd_new (pl_lst (pd_nil))))
  (sd_cons (sd_set C 4 (pd_callM C (ok_u_law_take T B) (by decide) (by rfl) T.d_u_law_take.g T.d_u_law_take.F.kp T.d_u_law_take.b (pd_cons (pd_v 0) (pd_cons (pd_int) (pd_nil)))))
  (sd_cons (sd_for C0 (pid_rng1 (by rfl) T.m_range (pd_v 1)) (pgd_n C 5) (sd_cons (sd_set C 6 (pd_callM C (ok_u_law_take T B) (by decide) (by rfl) T.d_u_law_take.g T.d_u_law_take.F.kp T.d_u_law_take.b (pd_cons (pd_v 0) (pd_cons (pd_int) (pd_nil)))))
  (sd_one (sd_exp (pd_app (pd_v 3) (pd_tup (pd_cons (pd_v 6) (pd_cons (pd_add (pd_v 6) (pd_if (PWd.pt (pb_and (pb_eq C (pd_v 4) (pd_int)) (pb_and1 (pb_gt (pd_callM C (ok_u_law_take T B) (by decide) (by rfl) T.d_u_law_take.g T.d_u_law_take.F.kp T.d_u_law_take.b (pd_cons (pd_v 0) (pd_cons (pd_int) (pd_nil)))) (pd_int))))) (pd_int) (pd_callM C (ok_u_law_take T B) (by decide) (by rfl) T.d_u_law_take.g T.d_u_law_take.F.kp T.d_u_law_take.b (pd_cons (pd_v 0) (pd_cons (pd_int) (pd_nil)))))) (pd_nil)))))))))
  (sd_one (sd_ret (pd_tup (pd_cons (pd_tuple (by rfl) T.m_tuple (pd_cons (pd_v 3) (pd_nil))) (pd_cons (pd_v 2) (pd_nil)))))))))
theorem ok_u_law_great_web (T : Txt mg K) (B : Bas T base) : FnOk P w K mg base (CXr P w) 4 T.d_u_law_great_web.f T.d_u_law_great_web.fd a_u_law_great_web (spM mg K 1 m_u_law_great_web) :=
  fx_okM T.d_u_law_great_web.F sc_u_law_great_web rfl fun cdv A outer s H E hcd CE => have C0 := CE.c; have C := CE.b
  sd_cons (sd_set C 1 (pd_add (pd_int) (pd_callM C (ok_u_law_take T B) (by decide) (by rfl) T.d_u_law_take.g T.d_u_law_take.F.kp T.d_u_law_take.b (pd_cons (pd_v 0) (pd_cons (pd_int) (pd_nil))))))
  (sd_cons (sd_asg (pd_tup (pd_cons (pd_callM C (ok_u_law_ties T B) (by decide) (by rfl) T.d_u_law_ties.g T.d_u_law_ties.F.kp T.d_u_law_ties.b (pd_cons (pd_v 0) (pd_cons (pd_v 1) (pd_cons (pd_int) (pd_cons (pd_int) (pd_nil)))))) (pd_cons (pd_add (pd_pow (pd_int) (pd_int)) (pd_callM C (ok_u_law_take T B) (by decide) (by rfl) T.d_u_law_take.g T.d_u_law_take.F.kp T.d_u_law_take.b (pd_cons (pd_v 0) (pd_cons (pd_int) (pd_nil))))) (pd_nil)))) (pgd_t C (pgd_cons (pgd_n C 2) (pgd_cons (pgd_n C 3) (pgd_nil)))))
  (sd_cons (sd_set C 2 (pd_tuple (by rfl) T.m_tuple (pd_cons (pd_frz (pl_lc (own := [("one", 7), ("other", 8), ("limit", 9)]) C (pid_sq (pd_v 2)) (blkOk_by (N := N_u_law_great_web) (sc := defScope s_u_law_great_web) (own := [("one", 7), ("other", 8), ("limit", 9)]) (by decide +kernel)) (fun _ _ _ _ _ => pgd_t C.blk (pgd_cons (pgd_n C.blk 7) (pgd_cons (pgd_n C.blk 8) (pgd_cons (pgd_n C.blk 9) (pgd_nil))))) (fun _ _ _ _ _ => ptsd_nil) (fun _ _ _ _ _ => pd_tup (pd_cons (pd_v 7) (pd_cons (pd_v 8) (pd_cons (pd_add (pd_mul (pd_v 9) (pd_v 3)) (pd_callM C.blk (ok_u_law_take T B) (by decide) (by rfl) T.d_u_law_take.g T.d_u_law_take.F.kp T.d_u_law_take.b (pd_cons (pd_v 0) (pd_cons (pd_int) (pd_nil))))) (pd_nil))))))) (pd_nil))))
  (sd_cons (sd_set C 4 (pd_new (pl_lst (pd_nil))))
  (sd_cons (sd_for C0 (pid_rng1 (by rfl) T.m_range (pd_v 1)) (pgd_n C 5) (sd_cons (sd_set C 6 (pd_add (pd_mul (pd_callM C (ok_u_law_take T B) (by decide) (by rfl) T.d_u_law_take.g T.d_u_law_take.F.kp T.d_u_law_take.b (pd_cons (pd_v 0) (pd_cons (pd_int) (pd_nil)))) (pd_v 3)) (pd_callM C (ok_u_law_take T B) (by decide) (by rfl) T.d_u_law_take.g T.d_u_law_take.F.kp T.d_u_law_take.b (pd_cons (pd_v 0) (pd_cons (pd_int) (pd_nil))))))
  (sd_one (sd_exp (pd_app (pd_v 4) (pd_tup (pd_cons (pd_v 6) (pd_cons (pd_add (pd_v 6) (pd_callM C (ok_u_law_choice T B) (by decide) (by rfl) T.d_u_law_choice.g T.d_u_law_choice.F.kp T.d_u_law_choice.b (pd_cons (pd_v 0) (pd_cons (pd_frz (pl_lst (pd_cons (pd_int) (pd_cons (pd_int) (pd_cons (pd_int) (pd_cons (pd_int) (pd_cons (pd_v 3) (pd_nil)))))))) (pd_nil))))) (pd_nil)))))))))
  (sd_one (sd_ret (pd_tup (pd_cons (pd_tuple (by rfl) T.m_tuple (pd_cons (pd_v 4) (pd_nil))) (pd_cons (pd_v 2) (pd_nil))))))))))
theorem ok_u_law_bent (T : Txt mg K) (B : Bas T base) : FnOk P w K mg base (CXr P w) 4 T.d_u_law_bent.f T.d_u_law_bent.fd a_u_law_bent (spM mg K 2 m_u_law_bent) :=
  fx_okM T.d_u_law_bent.F sc_u_law_bent rfl fun cdv A outer s H E hcd CE => have C0 := CE.c; have C := CE.b
  sd_cons (sd_par C (pd_callM C (ok_u_law_take T B) (by decide) (by rfl) T.d_u_law_take.g T.d_u_law_take.F.kp T.d_u_law_take.b (pd_cons (pd_v 0) (pd_cons (pd_add (pd_len (by rfl) T.m_len (pd_cons (pd_v 1) (pd_nil))) (pd_int)) (pd_nil)))) (pd_callM C (ok_u_law_take T B) (by decide) (by rfl) T.d_u_law_take.g T.d_u_law_take.F.kp T.d_u_law_take.b (pd_cons (pd_v 0) (pd_cons (pd_int) (pd_nil)))))
  (sd_cons (sd_if (pb_eq C (pd_v 3) (pd_int)) (sd_one (sd_ret (pd_add (pd_add (pd_sl (pd_v 1) (pd_none) (pd_some (pd_v 2))) (pd_callM C (ok_u_law_choice T B) (by decide) (by rfl) T.d_u_law_choice.g T.d_u_law_choice.F.kp T.d_u_law_choice.b (pd_cons (pd_v 0) (pd_cons (pd_frz (pl_lst (pd_cons (pd_str) (pd_cons (pd_str) (pd_cons (pd_str) (pd_cons (pd_str) (pd_cons (pd_str) (pd_cons (pd_str) (pd_cons (pd_str) (pd_nil)))))))))) (pd_nil))))) (pd_sl (pd_v 1) (pd_some (pd_v 2)) (pd_none))))) (sd_nil))
  (sd_cons (sd_if (pb_eq C (pd_v 3) (pd_int)) (sd_one (sd_ret (pd_add (pd_sl (pd_v 1) (pd_none) (pd_some (pd_v 2))) (pd_sl (pd_v 1) (pd_some (pd_add (pd_v 2) (pd_int))) (pd_none))))) (sd_nil))
  (sd_cons (sd_set C 4 (pd_frz (pl_split (pd_v 1) (pd_str))))
  (sd_cons (sd_set C 5 (pd_callM C (ok_u_law_take T B) (by decide) (by rfl) T.d_u_law_take.g T.d_u_law_take.F.kp T.d_u_law_take.b (pd_cons (pd_v 0) (pd_cons (pd_len (by rfl) T.m_len (pd_cons (pd_v 4) (pd_nil))) (pd_nil)))))
  (sd_cons (sd_if (pb_eq C (pd_v 3) (pd_int)) (sd_one (sd_ret (pd_join (pd_str) (pd_add (pd_sl (pd_v 4) (pd_none) (pd_some (pd_v 5))) (pd_sl (pd_v 4) (pd_some (pd_add (pd_v 5) (pd_int))) (pd_none)))))) (sd_nil))
  (sd_cons (sd_if (pb_eq C (pd_v 3) (pd_int)) (sd_one (sd_ret (pd_join (pd_str) (pd_add (pd_add (pd_sl (pd_v 4) (pd_none) (pd_some (pd_v 5))) (pd_sl (pd_v 4) (pd_some (pd_v 5)) (pd_some (pd_add (pd_v 5) (pd_int))))) (pd_sl (pd_v 4) (pd_some (pd_v 5)) (pd_none)))))) (sd_nil))
  (sd_cons (sd_if (pb_eq C (pd_v 3) (pd_int)) (sd_one (sd_ret (pd_join (pd_str) (pd_revL (pd_v 4))))) (sd_nil))
  (sd_cons (sd_set C 6 (pd_frz (pl_split (pd_ix (pd_v 4) (pd_v 5)) (pd_str))))
  (sd_cons (sd_set C 7 (pd_callM C (ok_u_law_take T B) (by decide) (by rfl) T.d_u_law_take.g T.d_u_law_take.F.kp T.d_u_law_take.b (pd_cons (pd_v 0) (pd_cons (pd_len (by rfl) T.m_len (pd_cons (pd_v 6) (pd_nil))) (pd_nil)))))
  (sd_cons (sd_set C 8 (pd_frz (pl_lst (pd_cons (pd_str) (pd_cons (pd_str) (pd_cons (pd_str) (pd_cons (pd_str) (pd_cons (pd_str) (pd_cons (pd_str) (pd_cons (pd_str) (pd_cons (pd_add (pd_str) (pd_mulS (pd_str) (pd_int))) (pd_cons (pd_add (pd_add (pd_str) (pd_mulS (pd_str) (pd_int))) (pd_str)) (pd_nil)))))))))))))
  (sd_cons (sd_set C 6 (pd_add (pd_add (pd_sl (pd_v 6) (pd_none) (pd_some (pd_v 7))) (pd_frz (pl_lst (pd_cons (pd_callM C (ok_u_law_choice T B) (by decide) (by rfl) T.d_u_law_choice.g T.d_u_law_choice.F.kp T.d_u_law_choice.b (pd_cons (pd_v 0) (pd_cons (pd_v 8) (pd_nil)))) (pd_nil))))) (pd_sl (pd_v 6) (pd_some (pd_add (pd_v 7) (pd_int))) (pd_none))))
  (sd_one (sd_ret (pd_join (pd_str) (pd_add (pd_add (pd_sl (pd_v 4) (pd_none) (pd_some (pd_v 5))) (pd_frz (pl_lst (pd_cons (pd_join (pd_str) (pd_v 6)) (pd_nil))))) (pd_sl (pd_v 4) (pd_some (pd_add (pd_v 5) (pd_int))) (pd_none)))))))))))))))))
theorem ok_u_law_told (T : Txt mg K) (B : Bas T base) {kφ : Nat} {t : CTok} {φ : MF} (c : CloOk P w K mg base kφ 0 t φ) : FnOk P w K mg base (CXr P w) (kφ + 2) T.d_u_law_told.f T.d_u_law_told.fd a_u_law_told (spM mg K 1 (h_u_law_told t φ)) :=
  fx_okM T.d_u_law_told.F sc_u_law_told rfl fun cdv A outer s H E hcd CE => have C0 := CE.c; have C := CE.b
  sd_one (sd_tryAs CE 1 ⟨by rfl, by decide, .inl T.gTie⟩ (exmT T) (fun W1 pn1 xe1 CW => sd_one (sd_ret (pd_tup (pd_cons (pd_act0 CW.b c (by omega) B.m 0) (pd_cons (pd_str) (pd_nil))))))
    (fun a oe cls d pn1 y t hz hf hx hy ht => by
      obtain ⟨D, rfl, rfl, hC, hV, _⟩ := exFacts T hy hx
      exact sd_one (sd_ret (pd_tup (pd_cons (pd_non) (pd_cons (pd_named 1 (ok_u_law_named_error T B) (CE.room.mono (by omega)) hz hf hx ht (by rfl) T.d_u_law_named_error.g T.d_u_law_named_error.F.kp T.d_u_law_named_error.b) (pd_nil)))))))
theorem ok_u_law_bad_webs (T : Txt mg K) (B : Bas T base) : FnOk P w K mg base (CXr P w) 2 T.d_u_law_bad_webs.f T.d_u_law_bad_webs.fd a_u_law_bad_webs (spP mg K 0 p_u_law_bad_webs) :=
  fx_okP T.d_u_law_bad_webs.F sc_u_law_bad_webs rfl fun cdv A outer s H E hcd CE => have C0 := CE.c; have C := CE.b
  sd_cons (sd_set C 0 (pd_new (pl_lst (pd_cons (pd_non) (pd_cons (pd_tup (pd_nil)) (pd_cons (pd_tup (pd_cons (pd_tup (pd_cons (pd_tup (pd_cons (pd_int) (pd_cons (pd_int) (pd_nil)))) (pd_nil))) (pd_nil))) (pd_cons (pd_frz (pl_lst (pd_cons (pd_tup (pd_cons (pd_tup (pd_cons (pd_int) (pd_cons (pd_int) (pd_nil)))) (pd_nil))) (pd_cons (pd_tup (pd_nil)) (pd_nil))))) (pd_cons (pd_tup (pd_cons (pd_tup (pd_cons (pd_tup (pd_cons (pd_int) (pd_cons (pd_int) (pd_nil)))) (pd_nil))) (pd_cons (pd_tup (pd_nil)) (pd_nil)))) (pd_cons (pd_tup (pd_cons (pd_tup (pd_nil)) (pd_cons (pd_tup (pd_nil)) (pd_nil)))) (pd_cons (pd_tup (pd_cons (pd_mul (pd_tup (pd_cons (pd_tup (pd_cons (pd_int) (pd_cons (pd_int) (pd_nil)))) (pd_nil))) (pd_int)) (pd_cons (pd_tup (pd_nil)) (pd_nil)))) (pd_cons (pd_tup (pd_cons (pd_tup (pd_cons (pd_tup (pd_cons (pd_neg (pd_int)) (pd_cons (pd_int) (pd_nil)))) (pd_nil))) (pd_cons (pd_tup (pd_nil)) (pd_nil)))) (pd_nil))))))))))))
  (sd_cons (sd_set C 1 (pd_tup (pd_cons (pd_tup (pd_cons (pd_int) (pd_cons (pd_int) (pd_nil)))) (pd_cons (pd_tup (pd_cons (pd_int) (pd_cons (pd_int) (pd_nil)))) (pd_nil)))))
  (sd_cons (sd_set C 0 (pd_new (pl_cat (pd_v 0) (pd_frz (pl_lst (pd_cons (pd_tup (pd_cons (pd_v 1) (pd_cons (pd_tup (pd_cons (pd_tup (pd_cons (pd_int) (pd_cons (pd_int) (pd_cons (pd_int) (pd_nil))))) (pd_nil))) (pd_nil)))) (pd_cons (pd_tup (pd_cons (pd_v 1) (pd_cons (pd_tup (pd_cons (pd_tup (pd_cons (pd_int) (pd_cons (pd_int) (pd_cons (pd_int) (pd_nil))))) (pd_nil))) (pd_nil)))) (pd_cons (pd_tup (pd_cons (pd_v 1) (pd_cons (pd_tup (pd_cons (pd_tup (pd_cons (pd_int) (pd_cons (pd_int) (pd_cons (pd_int) (pd_nil))))) (pd_nil))) (pd_nil)))) (pd_cons (pd_tup (pd_cons (pd_v 1) (pd_cons (pd_tup (pd_cons (pd_tup (pd_cons (pd_int) (pd_cons (pd_int) (pd_cons (pd_int) (pd_nil))))) (pd_nil))) (pd_nil)))) (pd_nil))))))))))
  (sd_cons (sd_set C 0 (pd_new (pl_cat (pd_v 0) (pd_frz (pl_lst (pd_cons (pd_tup (pd_cons (pd_v 1) (pd_cons (pd_tup (pd_cons (pd_tup (pd_cons (pd_int) (pd_cons (pd_int) (pd_cons (pd_int) (pd_nil))))) (pd_cons (pd_tup (pd_cons (pd_int) (pd_cons (pd_int) (pd_cons (pd_int) (pd_nil))))) (pd_nil)))) (pd_nil)))) (pd_cons (pd_tup (pd_cons (pd_v 1) (pd_cons (pd_frz (pl_lst (pd_cons (pd_tup (pd_cons (pd_int) (pd_cons (pd_int) (pd_cons (pd_int) (pd_nil))))) (pd_nil)))) (pd_nil)))) (pd_cons (pd_tup (pd_cons (pd_v 1) (pd_cons (pd_tup (pd_cons (pd_tup (pd_cons (pd_int) (pd_cons (pd_int) (pd_nil)))) (pd_nil))) (pd_nil)))) (pd_cons (pd_tup (pd_cons (pd_list (by rfl) T.m_list (pd_cons (pd_v 1) (pd_nil))) (pd_cons (pd_tup (pd_nil)) (pd_nil)))) (pd_nil))))))))))
  (sd_cons (sd_set C 0 (pd_new (pl_cat (pd_v 0) (pd_frz (pl_lst (pd_cons (pd_tup (pd_cons (pd_tup (pd_cons (pd_tup (pd_cons (pd_int) (pd_cons (pd_bl) (pd_nil)))) (pd_nil))) (pd_cons (pd_tup (pd_nil)) (pd_nil)))) (pd_cons (pd_tup (pd_cons (pd_tup (pd_cons (pd_tup (pd_cons (pd_int) (pd_cons (pd_add (pd_pow (pd_int) (pd_int)) (pd_int)) (pd_nil)))) (pd_nil))) (pd_cons (pd_tup (pd_nil)) (pd_nil)))) (pd_cons (pd_tup (pd_cons (pd_v 1) (pd_cons (pd_tup (pd_cons (pd_tup (pd_cons (pd_int) (pd_cons (pd_int) (pd_cons (pd_add (pd_pow (pd_int) (pd_int)) (pd_int)) (pd_nil))))) (pd_nil))) (pd_nil)))) (pd_nil)))))))))
  (sd_cons (sd_exp (pd_app (pd_v 0) (pd_tup (pd_cons (pd_v 1) (pd_cons (pd_tup (pd_cons (pd_tup (pd_cons (pd_int) (pd_cons (pd_int) (pd_cons (pd_bl) (pd_nil))))) (pd_nil))) (pd_nil))))))
  (sd_cons (sd_set C 2 (pd_tup (pd_cons (pd_tup (pd_cons (pd_int) (pd_cons (pd_int) (pd_cons (pd_int) (pd_nil))))) (pd_cons (pd_tup (pd_cons (pd_int) (pd_cons (pd_int) (pd_cons (pd_int) (pd_nil))))) (pd_cons (pd_tup (pd_cons (pd_int) (pd_cons (pd_int) (pd_cons (pd_int) (pd_nil))))) (pd_nil))))))
  (sd_one (sd_ret (pd_add (pd_v 0) (pd_frz (pl_lst (pd_cons (pd_tup (pd_cons (pd_mul (pd_tup (pd_cons (pd_tup (pd_cons (pd_int) (pd_cons (pd_int) (pd_nil)))) (pd_nil))) (pd_int)) (pd_cons (pd_revT (pd_v 2)) (pd_nil)))) (pd_cons (pd_tup (pd_cons (pd_tup (pd_cons (pd_tup (pd_cons (pd_int) (pd_cons (pd_int) (pd_cons (pd_int) (pd_nil))))) (pd_nil))) (pd_cons (pd_tup (pd_nil)) (pd_nil)))) (pd_cons (pd_tup (pd_cons (pd_str) (pd_cons (pd_tup (pd_nil)) (pd_nil)))) (pd_cons (pd_tup (pd_cons (pd_tup (pd_cons (pd_tup (pd_cons (pd_int) (pd_cons (pd_int) (pd_nil)))) (pd_nil))) (pd_cons (pd_tup (pd_nil)) (pd_cons (pd_tup (pd_nil)) (pd_nil))))) (pd_nil))))))))))))))))
theorem ok_law (T : Txt mg K) (B : Bas T base) : FnOk P w K mg base (CXr P w) 12 T.d_law.f T.d_law.fd a_law (spP mg K 1 p_law) :=
  fx_okP T.d_law.F sc_law rfl fun cdv A outer s H E hcd CE => have C0 := CE.c; have C := CE.b
  sd_cons (sd_for C0 (pid_rng1 (by rfl) T.m_range (pd_int)) (pgd_n C 1) (sd_cons (sd_set C 5 (pd_callM C (ok_u_law_bag T B) (by decide) (by rfl) T.d_u_law_bag.g T.d_u_law_bag.F.kp T.d_u_law_bag.b (pd_cons (pd_v 0) (pd_cons (pd_v 1) (pd_nil)))))
  (sd_cons (sd_set C 6 (pd_callM C (ok_u_law_choice T B) (by decide) (by rfl) T.d_u_law_choice.g T.d_u_law_choice.F.kp T.d_u_law_choice.b (pd_cons (pd_v 5) (pd_cons (pd_frz (pl_lst (pd_cons (pd_callM C (ok_u_law_web T B) (by decide) (by rfl) T.d_u_law_web.g T.d_u_law_web.F.kp T.d_u_law_web.b (pd_cons (pd_v 5) (pd_nil))) (pd_cons (pd_callM C (ok_u_law_great_web T B) (by decide) (by rfl) T.d_u_law_great_web.g T.d_u_law_great_web.F.kp T.d_u_law_great_web.b (pd_cons (pd_v 5) (pd_nil))) (pd_nil))))) (pd_nil)))))
  (sd_cons (sd_set C 4 (pd_call C (ok_u_law_text T B) (by decide) (by rfl) T.d_u_law_text.g T.d_u_law_text.F.kp T.d_u_law_text.b (pd_cons (pd_v 6) (pd_nil))))
  (sd_cons (sd_if (PWd.pt (pb_or (pb_ne C (pd_call C (ok_web_text T B) (by decide) (by rfl) T.d_web_text.g T.d_web_text.F.kp T.d_web_text.b (pd_cons (pd_v 6) (pd_nil))) (pd_v 4)) (pb_or1 (pb_ne C (pd_call C (ok_read_web T B) (by decide) (by rfl) T.d_read_web.g T.d_read_web.F.kp T.d_read_web.b (pd_cons (pd_v 4) (pd_nil))) (pd_v 6))))) (sd_one (sd_ret (pd_bl))) (sd_nil))
  (sd_cons (sd_for C0 (pid_rng1 (by rfl) T.m_range (pd_int)) (pgd_n C 7) (sd_cons (sd_set C 10 (pd_if (pb_lt C (pd_v 7) (pd_int)) (pd_callM C (ok_u_law_bent T B) (by decide) (by rfl) T.d_u_law_bent.g T.d_u_law_bent.F.kp T.d_u_law_bent.b (pd_cons (pd_v 5) (pd_cons (pd_v 4) (pd_nil)))) (pd_callM C (ok_u_law_bent T B) (by decide) (by rfl) T.d_u_law_bent.g T.d_u_law_bent.F.kp T.d_u_law_bent.b (pd_cons (pd_v 5) (pd_cons (pd_callM C (ok_u_law_bent T B) (by decide) (by rfl) T.d_u_law_bent.g T.d_u_law_bent.F.kp T.d_u_law_bent.b (pd_cons (pd_v 5) (pd_cons (pd_v 4) (pd_nil)))) (pd_nil))))))
  (sd_cons (sd_set C 3 (pd_call C (ok_u_law_read T B) (by decide) (by rfl) T.d_u_law_read.g T.d_u_law_read.F.kp T.d_u_law_read.b (pd_cons (pd_v 10) (pd_nil))))
  (sd_one (sd_if (pb_ne C (pd_callHL (kf := 6) (N := ["bent"]) (ps' := []) (fr := ["bent"]) (js := [10]) C (cellNf_of fun _ => rfl) (fun t φ b' m sb c => ok_u_law_told T (B.sub sb m) c) (by decide) (by rfl) (by rfl) T.d_u_law_told.g T.d_u_law_told.F.kp T.d_u_law_told.b (nscope_by (by decide +kernel)) (by rfl) (by rfl) (show ndefB (defScope s_law) _ ["bent"] = true by decide +kernel) (by rfl) (fun q cl pm cv ctv us hl => match us, hl with | [], _ => rfl) (fun c1 f1 b1 A1 o1 s1 H1 E1 sb hm Cz => pd_call Cz.b (ok_read_web T (B.sub sb hm)) (by decide) (by rfl) T.d_read_web.g T.d_read_web.F.kp T.d_read_web.b (pd_cons (pd_v 0) (pd_nil))) (pxd_lam B.t_law (hcd.symm.trans T.hc_law) T.mem_law T.hu_law (ndef_free (show ndefB (defScope s_law) _ ["bent"] = true by decide +kernel)) (by rfl) (pd_nil))) (pd_if (pb_isn (pd_v 3) (pd_non)) (pd_tup (pd_cons (pd_v 3) (pd_cons (pd_str) (pd_nil)))) (pd_tup (pd_cons (pd_non) (pd_cons (pd_str) (pd_nil)))))) (sd_one (sd_ret (pd_bl))) (sd_nil))))))
  (sd_cons (sd_set C 8 (pd_frz (pl_lst (pd_cons (pd_non) (pd_cons (pd_int) (pd_cons (pd_frz (pl_lst (pd_cons (pd_v 4) (pd_nil)))) (pd_cons (pd_bl) (pd_cons (pd_str) (pd_cons (pd_str) (pd_cons (pd_add (pd_v 4) (pd_str)) (pd_cons (pd_add (pd_str) (pd_v 4)) (pd_cons (pd_add (pd_v 4) (pd_str)) (pd_nil)))))))))))))
  (sd_cons (sd_for C0 (pid_sq (pd_add (pd_v 8) (pd_frz (pl_lst (pd_cons (pd_add (pd_str) (pd_v 4)) (pd_cons (pd_add (pd_v 4) (pd_str)) (pd_nil))))))) (pgd_n C 9) (sd_one (sd_if (pb_ne C (pd_callHL (kf := 6) (N := ["odd"]) (ps' := []) (fr := ["odd"]) (js := [9]) C (cellNf_of fun _ => rfl) (fun t φ b' m sb c => ok_u_law_error T (B.sub sb m) c) (by decide) (by rfl) (by rfl) T.d_u_law_error.g T.d_u_law_error.F.kp T.d_u_law_error.b (nscope_by (by decide +kernel)) (by rfl) (by rfl) (show ndefB (defScope s_law) _ ["odd"] = true by decide +kernel) (by rfl) (fun q cl pm cv ctv us hl => match us, hl with | [], _ => rfl) (fun c1 f1 b1 A1 o1 s1 H1 E1 sb hm Cz => pd_call Cz.b (ok_read_web T (B.sub sb hm)) (by decide) (by rfl) T.d_read_web.g T.d_read_web.F.kp T.d_read_web.b (pd_cons (pd_v 0) (pd_nil))) (pxd_lam B.t_law (hcd.symm.trans T.hc_law) T.mem_law T.hu_law (ndef_free (show ndefB (defScope s_law) _ ["odd"] = true by decide +kernel)) (by rfl) (pd_nil))) (pd_str)) (sd_one (sd_ret (pd_bl))) (sd_nil))))
  (sd_one (sd_if (pb_not (pd_val (pd_callHD (kf := 6) 0 C (CloTab.cons B.m T.d_web_text (fun b' sb m => ok_web_text T (B.sub sb m)) (by decide) rfl CloTab.nil) (fun t φ c => ok_u_law_all_refused T B c) (by decide) (by rfl) (by rfl) T.d_u_law_all_refused.g T.d_u_law_all_refused.F.kp T.d_u_law_all_refused.b (pd_cons (pd_gfn (by rfl) T.d_web_text.g) (pd_cons (pd_call0x C (ok_u_law_bad_webs T B) (by decide) (by rfl) T.d_u_law_bad_webs.g T.d_u_law_bad_webs.F.kp T.d_u_law_bad_webs.b) (pd_cons (pd_str) (pd_nil))))))) (sd_one (sd_ret (pd_bl))) (sd_nil)))))))))))
  (sd_cons (sd_set C 2 (pd_frz (pl_lst (pd_cons (pd_str) (pd_cons (pd_str) (pd_cons (pd_str) (pd_cons (pd_str) (pd_cons (pd_str) (pd_cons (pd_str) (pd_cons (pd_str) (pd_nil)))))))))))
  (sd_cons (sd_set C 2 (pd_add (pd_v 2) (pd_frz (pl_lst (pd_cons (pd_str) (pd_cons (pd_str) (pd_cons (pd_str) (pd_cons (pd_str) (pd_nil)))))))))
  (sd_cons (sd_if (pb_not (pd_val (pd_callHD (kf := 6) 0 C (CloTab.cons B.m T.d_read_web (fun b' sb m => ok_read_web T (B.sub sb m)) (by decide) rfl CloTab.nil) (fun t φ c => ok_u_law_all_refused T B c) (by decide) (by rfl) (by rfl) T.d_u_law_all_refused.g T.d_u_law_all_refused.F.kp T.d_u_law_all_refused.b (pd_cons (pd_gfn (by rfl) T.d_read_web.g) (pd_cons (pd_add (pd_v 2) (pd_frz (pl_lst (pd_cons (pd_str) (pd_cons (pd_str) (pd_nil)))))) (pd_cons (pd_str) (pd_nil))))))) (sd_one (sd_ret (pd_bl))) (sd_nil))
  (sd_cons (sd_set C 3 (pd_tup (pd_cons (pd_tup (pd_cons (pd_tup (pd_cons (pd_int) (pd_cons (pd_int) (pd_nil)))) (pd_cons (pd_tup (pd_cons (pd_int) (pd_cons (pd_int) (pd_nil)))) (pd_cons (pd_tup (pd_cons (pd_int) (pd_cons (pd_int) (pd_nil)))) (pd_nil))))) (pd_cons (pd_tup (pd_cons (pd_tup (pd_cons (pd_int) (pd_cons (pd_int) (pd_cons (pd_int) (pd_nil))))) (pd_cons (pd_tup (pd_cons (pd_int) (pd_cons (pd_int) (pd_cons (pd_int) (pd_nil))))) (pd_nil)))) (pd_nil)))))
  (sd_cons (sd_set C 4 (pd_str))
  (sd_cons (sd_if (PWd.pt (pb_or (pb_ne C (pd_call C (ok_web_text T B) (by decide) (by rfl) T.d_web_text.g T.d_web_text.F.kp T.d_web_text.b (pd_cons (pd_v 3) (pd_nil))) (pd_v 4)) (pb_or1 (pb_ne C (pd_call C (ok_read_web T B) (by decide) (by rfl) T.d_read_web.g T.d_read_web.F.kp T.d_read_web.b (pd_cons (pd_v 4) (pd_nil))) (pd_v 3))))) (sd_one (sd_ret (pd_bl))) (sd_nil))
  (sd_one (sd_ret (pd_eq C (pd_call C (ok_read_web T B) (by decide) (by rfl) T.d_read_web.g T.d_read_web.F.kp T.d_read_web.b (pd_cons (pd_add (pd_str) (pd_mulS (pd_str) (pd_int))) (pd_nil))) (pd_tup (pd_cons (pd_tup (pd_cons (pd_tup (pd_cons (pd_int) (pd_cons (pd_pow (pd_int) (pd_int)) (pd_nil)))) (pd_nil))) (pd_cons (pd_tup (pd_nil)) (pd_nil)))))))))))))
end
end Bt

set_option linter.all false
set_option maxRecDepth 100000
/-! loops named (printed by loops.py) -/
namespace Bt
open PySem DL
noncomputable section
def G1_u_law_draws : GF := gN 8
def B1_u_law_draws : SF := sSeq (sAsg (e2 mulD (e2 modD (eV 5) (e2 ixD (eV 4) (e2 modD (eV 8) (eC (.int 8))))) (e2 addD (eC (.int 48271)) (e2 mulD (e2 mulD (eC (.int 2)) (eV 8)) (eV 8)))) (gN 9)) (sSeq (sAsg (e2 addD (e2 addD (eV 9) (e2 mulD (e2 mulD (eC (.int 7919)) (e2 addD (eV 8) (eC (.int 1)))) (e2 addD (eV 8) (eC (.int 1))))) (e2 mulD (eC (.int 104729)) (eV 1))) (gN 9)) (sSeq (sAsg (e2 modD (eV 9) (e2 ixD (eV 4) (e2 modD (e2 addD (e2 mulD (eC (.int 3)) (eV 8)) (eV 1)) (eC (.int 8))))) (gN 9)) (sSeq (sAsg (e2 modD (e2 mulD (e2 mulD (eV 9) (eV 9)) (eV 9)) (e2 ixD (eV 4) (e2 modD (e2 addD (eV 8) (eC (.int 5))) (eC (.int 8))))) (gN 9)) (sSeq (sIf (bV (e2 gtD (eV 6) (eC (.int 0)))) (sAsg (eV 6) (gN 9)) (sNil)) (sSeq (sExp (eApp (eV 7) (e2 modD (eV 9) (eV 3)))) (sAsg (e2 fdivD (eV 6) (eV 3)) (gN 6)))))))
theorem F_u_law_draws_eq : F_u_law_draws = sSeq (sAsg (eTup (aCons (eC (.int 2147483647)) (aCons (eC (.int 2147483629)) (aCons (eC (.int 2147483587)) (aCons (eC (.int 2147483579)) (aCons (eC (.int 2147483563)) (aCons (eC (.int 2147483549)) (aCons (eC (.int 2147483543)) (aCons (eC (.int 2147483497)) (aNil)))))))))) (gN 4)) (sSeq (sAsg (eCall 2 p_u_law_cell (aCons (eV 0) (aCons (eV 1) (aNil)))) (gN 5)) (sSeq (sAsg (eC (.int 0)) (gN 6)) (sSeq (sIf (bV (e2 geD (eV 5) (e2 powD (eC (.int 10)) (eC (.int 18))))) (sAsg (eV 5) (gN 6)) (sNil)) (sSeq (sAsg (eNew (lLst (aNil))) (gN 7)) (sSeq (sFor (sRng1 (eV 2)) G1_u_law_draws B1_u_law_draws) (sRet (eV 7))))))) := rfl
def G1_u_law_text : GF := gT [gN 5, gN 6]
def E1_u_law_text : EF := eJoin (eC (.str " ")) (eFrz (lLst (aCons (eC (.str "place")) (aCons (eN strD (aCons (eV 5) (aNil))) (aCons (eN strD (aCons (eV 6) (aNil))) (aNil))))))
def G2_u_law_text : GF := gT [gN 2, gN 3, gN 4]
def B2_u_law_text : SF := sExp (eApp (eV 1) (eJoin (eC (.str " ")) (eFrz (lLst (aCons (eC (.str "tie")) (aCons (eN strD (aCons (eV 2) (aNil))) (aCons (eN strD (aCons (eV 3) (aNil))) (aCons (eN strD (aCons (eV 4) (aNil))) (aNil)))))))))
theorem F_u_law_text_eq : F_u_law_text = sSeq (sAsg (eNew (lLc [5, 6] (sSq (e2 ixD (eV 0) (eC (.int 0)))) G1_u_law_text (bYes) E1_u_law_text)) (gN 1)) (sSeq (sFor (sSq (e2 ixD (eV 0) (eC (.int 1)))) G2_u_law_text B2_u_law_text) (sRet (eJoin (eC (.str "\n")) (eV 1)))) := rfl
def G1_is_figures : GF := gN 1
def E1_is_figures : EF := e2 inSD (eV 1) (eC (.str "0123456789"))
theorem F_is_figures_eq : F_is_figures = sRet (eAnd (eChn ltI leI (eC (.int 0)) (eN lenD (aCons (eV 0) (aNil))) (eC (.int 31))) (eN allD (aCons (eFrz (lLc [1] (sStr (eV 0)) G1_is_figures (bYes) E1_is_figures)) (aNil)))) := rfl
def G1_row_in : GF := gN 2
def E1_row_in : EF := eCall 1 p_is_figures (aCons (eV 2) (aNil))
def G2_row_in : GF := gN 2
def E2_row_in : EF := eN intSD (aCons (eV 2) (aNil))
theorem F_row_in_eq : F_row_in = sSeq (sAsg (eFrz (lSplit (eV 0) (eC (.str " ")))) (gN 1)) (sSeq (sIf (bNot (bV (eN allD (aCons (eFrz (lLc [2] (sSq (eSl (eV 1) (pSome (eC (.int 1))) (pNone))) G1_row_in (bYes) E1_row_in)) (aNil))))) (sRet (eC .non)) (sNil)) (sRet (eTup (aCons (e2 ixD (eV 1) (eC (.int 0))) (aCons (eN tupleD (aCons (eFrz (lLc [2] (sSq (eSl (eV 1) (pSome (eC (.int 1))) (pNone))) G2_row_in (bYes) E2_row_in)) (aNil))) (aNil)))))) := rfl
def G1_fits_web : GF := gN 3
def E1_fits_web : EF := eCall 1 p_fits_stretch (aCons (eV 3) (aNil))
def G2_fits_web : GF := gN 3
def E2_fits_web : EF := eCall 2 p_fits_tie (aCons (eV 3) (aCons (eN lenD (aCons (eV 1) (aNil))) (aNil)))
def G3_fits_web : GF := gT [gN 3, gN 4]
def E3_fits_web : EF := e2 ltD (eSl (eV 3) (pNone) (pSome (eC (.int 2)))) (eSl (eV 4) (pNone) (pSome (eC (.int 2))))
theorem F_fits_web_eq : F_fits_web = sSeq (sIf (bOr (bNot (bV (eIsI "tuple" (eV 0)))) (bV (e2 neD (eN lenD (aCons (eV 0) (aNil))) (eC (.int 2))))) (sRet (eC (.bl false))) (sNil)) (sSeq (sAsg (eV 0) (gT [gN 1, gN 2])) (sSeq (sIf (bOr (bNot (bV (eIsI "tuple" (eV 1)))) (bNot (bV (eChn leI leI (eC (.int 1)) (eN lenD (aCons (eV 1) (aNil))) (eC (.int 5)))))) (sRet (eC (.bl false))) (sNil)) (sSeq (sIf (bNot (bV (eN allD (aCons (eFrz (lLc [3] (sSq (eV 1)) G1_fits_web (bYes) E1_fits_web)) (aNil))))) (sRet (eC (.bl false))) (sNil)) (sSeq (sIf (bOr (bNot (bV (eIsI "tuple" (eV 2)))) (bOr (bV (e2 gtD (eN lenD (aCons (eV 2) (aNil))) (eC (.int 10)))) (bNot (bV (eN allD (aCons (eFrz (lLc [3] (sSq (eV 2)) G2_fits_web (bYes) E2_fits_web)) (aNil))))))) (sRet (eC (.bl false))) (sNil)) (sRet (eN allD (aCons (eFrz (lLc [3, 4] (sZip (eV 2) (eSl (eV 2) (pSome (eC (.int 1))) (pNone))) G3_fits_web (bYes) E3_fits_web)) (aNil)))))))) := rfl
def G1_as_text : GF := gT [gN 2, gN 3]
def E1_as_text : EF := eFs [eC (.str "place "), eFmt (eV 2), eC (.str " "), eFmt (eV 3)]
def G2_as_text : GF := gT [gN 4, gN 5, gN 6]
def E2_as_text : EF := eFs [eC (.str "tie "), eFmt (eV 4), eC (.str " "), eFmt (eV 5), eC (.str " "), eFmt (eV 6)]
theorem F_as_text_eq : F_as_text = sSeq (sAsg (eFrz (lLc [2, 3] (sSq (e2 ixD (eV 0) (eC (.int 0)))) G1_as_text (bYes) E1_as_text)) (gN 1)) (sRet (eJoin (eC (.str "\n")) (e2 addD (eV 1) (eFrz (lLc [4, 5, 6] (sSq (e2 ixD (eV 0) (eC (.int 1)))) G2_as_text (bYes) E2_as_text))))) := rfl
def G1_web_in : GF := gN 4
def E1_web_in : EF := eCall 1 p_row_in (aCons (eV 4) (aNil))
def G2_web_in : GF := gT [gN 5, gN 6]
def T2_web_in : BF := bV (e2 eqD (eV 5) (eC (.str "place")))
def E2_web_in : EF := eV 6
def G3_web_in : GF := gT [gN 5, gN 6]
def T3_web_in : BF := bV (e2 eqD (eV 5) (eC (.str "tie")))
def E3_web_in : EF := eV 6
theorem F_web_in_eq : F_web_in = sSeq (sIf (bNot (bV (eIsI "str" (eV 0)))) (sRaise "InvalidText") (sNil)) (sSeq (sAsg (eFrz (lLc [4] (sSq (eFrz (lSplit (eV 0) (eC (.str "\n"))))) G1_web_in (bYes) E1_web_in)) (gN 1)) (sSeq (sIf (bV (e2 inD (eC .non) (eV 1))) (sRaise "InvalidText") (sNil)) (sSeq (sAsg (eN tupleD (aCons (eFrz (lLc [5, 6] (sSq (eV 1)) G2_web_in T2_web_in E2_web_in)) (aNil))) (gN 2)) (sSeq (sAsg (eTup (aCons (eV 2) (aCons (eN tupleD (aCons (eFrz (lLc [5, 6] (sSq (eV 1)) G3_web_in T3_web_in E3_web_in)) (aNil))) (aNil)))) (gN 3)) (sSeq (sIf (bOr (bNot (bV (eCall 1 p_fits_web (aCons (eV 3) (aNil))))) (bV (e2 neD (eCall 1 p_as_text (aCons (eV 3) (aNil))) (eV 0)))) (sRaise "InvalidText") (sNil)) (sRet (eV 3))))))) := rfl
def G1_u_law_number : GF := gN 1
def T1_u_law_number : BF := bV (e2 ninSD (eV 1) (eC (.str "0123456789")))
def E1_u_law_number : EF := eV 1
theorem F_u_law_number_eq : F_u_law_number = sSeq (sIf (bOr (bV (e2 eqD (eV 0) (eC (.str "")))) (bOr (bV (e2 gtD (eN lenD (aCons (eV 0) (aNil))) (eC (.int 31)))) (bV (e2 neD (eFrz (lLc [1] (sStr (eV 0)) G1_u_law_number T1_u_law_number E1_u_law_number)) (eFrz (lLst (aNil))))))) (sRet (eC .non)) (sNil)) (sRet (eIf (bOr (bV (e2 eqD (eV 0) (eC (.str "0")))) (bV (e2 neD (e2 ixD (eV 0) (eC (.int 0))) (eC (.str "0"))))) (eN intSD (aCons (eV 0) (aNil))) (eC .non))) := rfl
def G1_u_law_read : GF := gN 4
def G2_u_law_read : GF := gN 7
def E2_u_law_read : EF := eCall 1 p_u_law_number (aCons (eV 7) (aNil))
def G3_u_law_read : GF := gN 7
def T3_u_law_read : BF := bV (e2 gtD (eV 7) (e2 powD (eC (.int 10)) (eC (.int 30))))
def E3_u_law_read : EF := eV 7
def B1_u_law_read : SF := sSeq (sAsg (eFrz (lSplit (eV 4) (eC (.str " ")))) (gN 5)) (sSeq (sAsg (eFrz (lLc [7] (sSq (eSl (eV 5) (pSome (eC (.int 1))) (pNone))) G2_u_law_read (bYes) E2_u_law_read)) (gN 6)) (sSeq (sIf (bOr (bV (e2 inD (eC .non) (eV 6))) (bV (e2 neD (eFrz (lLc [7] (sSq (eV 6)) G3_u_law_read T3_u_law_read E3_u_law_read)) (eFrz (lLst (aNil)))))) (sRet (eC .non)) (sNil)) (sIf (bAnd (bV (e2 eqD (e2 ixD (eV 5) (eC (.int 0))) (eC (.str "place")))) (bAnd (bV (e2 eqD (eN lenD (aCons (eV 6) (aNil))) (eC (.int 2)))) (bAnd (bV (e2 eqD (eV 2) (eFrz (lLst (aNil))))) (bV (e2 leD (e2 ixD (eV 6) (eC (.int 0))) (e2 ixD (eV 6) (eC (.int 1)))))))) (sExp (eApp (eV 1) (eTup (aCons (e2 ixD (eV 6) (eC (.int 0))) (aCons (e2 ixD (eV 6) (eC (.int 1))) (aNil)))))) (sIf (bAnd (bV (e2 eqD (e2 ixD (eV 5) (eC (.int 0))) (eC (.str "tie")))) (bAnd (bV (e2 eqD (eN lenD (aCons (eV 6) (aNil))) (eC (.int 3)))) (bAnd (bV (e2 ltD (e2 ixD (eV 6) (eC (.int 0))) (e2 ixD (eV 6) (eC (.int 1))))) (bAnd (bV (e2 gtD (e2 ixD (eV 6) (eC (.int 2))) (eC (.int 0)))) (bV (e2 gtTD (eTup (aCons (e2 ixD (eV 6) (eC (.int 0))) (aCons (e2 ixD (eV 6) (eC (.int 1))) (aNil)))) (eV 3))))))) (sSeq (sAsg (eTup (aCons (e2 ixD (eV 6) (eC (.int 0))) (aCons (e2 ixD (eV 6) (eC (.int 1))) (aNil)))) (gN 3)) (sExp (eApp (eV 2) (eTup (aCons (e2 ixD (eV 6) (eC (.int 0))) (aCons (e2 ixD (eV 6) (eC (.int 1))) (aCons (e2 ixD (eV 6) (eC (.int 2))) (aNil)))))))) (sRet (eC .non))))))
theorem F_u_law_read_eq : F_u_law_read = sSeq (sPack [1, 2, 3] (aCons (eNew (lLst (aNil))) (aCons (eNew (lLst (aNil))) (aCons (eTup (aCons (e1 negD (eC (.int 1))) (aCons (e1 negD (eC (.int 1))) (aNil)))) (aNil))))) (sSeq (sFor (sSq (eFrz (lSplit (eV 0) (eC (.str "\n"))))) G1_u_law_read B1_u_law_read) (sSeq (sIf (bOr (bNot (bV (eChn leI leI (eC (.int 1)) (eN lenD (aCons (eV 1) (aNil))) (eC (.int 5))))) (bV (e2 gtD (eN lenD (aCons (eV 2) (aNil))) (eC (.int 10))))) (sRet (eC .non)) (sNil)) (sSeq (sIf (bV (e2 neD (eFrz (lLcO [8] (eV 2) (gN 8) (bV (e2 geD (e2 ixD (eV 8) (eC (.int 1))) (eN lenD (aCons (eV 1) (aNil))))) (eV 8))) (eFrz (lLst (aNil))))) (sRet (eC .non)) (sNil)) (sRet (eTup (aCons (eN tupleD (aCons (eV 1) (aNil))) (aCons (eN tupleD (aCons (eV 2) (aNil))) (aNil)))))))) := rfl
def G1_u_law_ties : GF := gN 5
def G2_u_law_ties : GF := gN 6
def B2_u_law_ties : SF := sIf (bAnd (bV (e2 ltD (eN lenD (aCons (eV 4) (aNil))) (eV 2))) (bV (e2 gtD (eCallM 2 m_u_law_take (aCons (eV 0) (aCons (eC (.int 3)) (aNil)))) (eC (.int 0))))) (sExp (eApp (eV 4) (eTup (aCons (eV 5) (aCons (eV 6) (aCons (e2 addD (eC (.int 1)) (eCallM 2 m_u_law_take (aCons (eV 0) (aCons (eV 3) (aNil))))) (aNil))))))) (sNil)
def B1_u_law_ties : SF := sFor (sRng2 (e2 addD (eV 5) (eC (.int 1))) (eV 1)) G2_u_law_ties B2_u_law_ties
theorem F_u_law_ties_eq : F_u_law_ties = sSeq (sAsg (eNew (lLst (aNil))) (gN 4)) (sSeq (sFor (sRng1 (eV 1)) G1_u_law_ties B1_u_law_ties) (sRet (eN tupleD (aCons (eV 4) (aNil))))) := rfl
def G1_u_law_web : GF := gN 5
def B1_u_law_web : SF := sSeq (sAsg (eCallM 2 m_u_law_take (aCons (eV 0) (aCons (eC (.int 4)) (aNil)))) (gN 6)) (sExp (eApp (eV 3) (eTup (aCons (eV 6) (aCons (e2 addD (eV 6) (eIf (bAnd (bV (e2 eqD (eV 4) (eC (.int 0)))) (bV (e2 gtD (eCallM 2 m_u_law_take (aCons (eV 0) (aCons (eC (.int 4)) (aNil)))) (eC (.int 0))))) (eC (.int 0)) (eCallM 2 m_u_law_take (aCons (eV 0) (aCons (eC (.int 3)) (aNil)))))) (aNil))))))
theorem F_u_law_web_eq : F_u_law_web = sSeq (sAsg (e2 addD (eC (.int 1)) (eCallM 2 m_u_law_take (aCons (eV 0) (aCons (eC (.int 4)) (aNil))))) (gN 1)) (sSeq (sPar 2 3 (eCallM 4 m_u_law_ties (aCons (eV 0) (aCons (eV 1) (aCons (eC (.int 5)) (aCons (eC (.int 2)) (aNil)))))) (eNew (lLst (aNil)))) (sSeq (sAsg (eCallM 2 m_u_law_take (aCons (eV 0) (aCons (eC (.int 2)) (aNil)))) (gN 4)) (sSeq (sFor (sRng1 (eV 1)) G1_u_law_web B1_u_law_web) (sRet (eTup (aCons (eN tupleD (aCons (eV 3) (aNil))) (aCons (eV 2) (aNil)))))))) := rfl
def G1_u_law_great_web : GF := gT [gN 7, gN 8, gN 9]
def E1_u_law_great_web : EF := eTup (aCons (eV 7) (aCons (eV 8) (aCons (e2 addD (e2 mulD (eV 9) (eV 3)) (eCallM 2 m_u_law_take (aCons (eV 0) (aCons (eC (.int 3)) (aNil))))) (aNil))))
def G2_u_law_great_web : GF := gN 5
def B2_u_law_great_web : SF := sSeq (sAsg (e2 addD (e2 mulD (eCallM 2 m_u_law_take (aCons (eV 0) (aCons (eC (.int 4)) (aNil)))) (eV 3)) (eCallM 2 m_u_law_take (aCons (eV 0) (aCons (eC (.int 3)) (aNil))))) (gN 6)) (sExp (eApp (eV 4) (eTup (aCons (eV 6) (aCons (e2 addD (eV 6) (eCallM 2 m_u_law_choice (aCons (eV 0) (aCons (eFrz (lLst (aCons (eC (.int 0)) (aCons (eC (.int 0)) (aCons (eC (.int 1)) (aCons (eC (.int 2)) (aCons (eV 3) (aNil)))))))) (aNil))))) (aNil))))))
theorem F_u_law_great_web_eq : F_u_law_great_web = sSeq (sAsg (e2 addD (eC (.int 2)) (eCallM 2 m_u_law_take (aCons (eV 0) (aCons (eC (.int 3)) (aNil))))) (gN 1)) (sSeq (sAsg (eTup (aCons (eCallM 4 m_u_law_ties (aCons (eV 0) (aCons (eV 1) (aCons (eC (.int 4)) (aCons (eC (.int 3)) (aNil)))))) (aCons (e2 addD (e2 powD (eC (.int 10)) (eC (.int 29))) (eCallM 2 m_u_law_take (aCons (eV 0) (aCons (eC (.int 1000)) (aNil))))) (aNil)))) (gT [gN 2, gN 3])) (sSeq (sAsg (eN tupleD (aCons (eFrz (lLc [7, 8, 9] (sSq (eV 2)) G1_u_law_great_web (bYes) E1_u_law_great_web)) (aNil))) (gN 2)) (sSeq (sAsg (eNew (lLst (aNil))) (gN 4)) (sSeq (sFor (sRng1 (eV 1)) G2_u_law_great_web B2_u_law_great_web) (sRet (eTup (aCons (eN tupleD (aCons (eV 4) (aNil))) (aCons (eV 2) (aNil))))))))) := rfl
def G1_law : GF := gN 1
def G2_law : GF := gN 7
def B2_law : SF := sSeq (sAsg (eIf (bV (e2 ltD (eV 7) (eC (.int 4)))) (eCallM 2 m_u_law_bent (aCons (eV 5) (aCons (eV 4) (aNil)))) (eCallM 2 m_u_law_bent (aCons (eV 5) (aCons (eCallM 2 m_u_law_bent (aCons (eV 5) (aCons (eV 4) (aNil)))) (aNil))))) (gN 10)) (sSeq (sAsg (eCall 1 p_u_law_read (aCons (eV 10) (aNil))) (gN 3)) (sIf (bV (e2 neD (eCallH 1 h_u_law_told (xLam (aNil)) 0 [10] (eCall 1 p_read_web (aCons (eV 0) (aNil)))) (eIf (bV (e2 isnD (eV 3) (eC .non))) (eTup (aCons (eV 3) (aCons (eC (.str "")) (aNil)))) (eTup (aCons (eC .non) (aCons (eC (.str "text")) (aNil))))))) (sRet (eC (.bl false))) (sNil)))
def G3_law : GF := gN 9
def B3_law : SF := sIf (bV (e2 neD (eCallH 1 h_u_law_error (xLam (aNil)) 0 [9] (eCall 1 p_read_web (aCons (eV 0) (aNil)))) (eC (.str "text")))) (sRet (eC (.bl false))) (sNil)
def B1_law : SF := sSeq (sAsg (eCallM 2 m_u_law_bag (aCons (eV 0) (aCons (eV 1) (aNil)))) (gN 5)) (sSeq (sAsg (eCallM 2 m_u_law_choice (aCons (eV 5) (aCons (eFrz (lLst (aCons (eCallM 1 m_u_law_web (aCons (eV 5) (aNil))) (aCons (eCallM 1 m_u_law_great_web (aCons (eV 5) (aNil))) (aNil))))) (aNil)))) (gN 6)) (sSeq (sAsg (eCall 1 p_u_law_text (aCons (eV 6) (aNil))) (gN 4)) (sSeq (sIf (bOr (bV (e2 neD (eCall 1 p_web_text (aCons (eV 6) (aNil))) (eV 4))) (bV (e2 neD (eCall 1 p_read_web (aCons (eV 4) (aNil))) (eV 6)))) (sRet (eC (.bl false))) (sNil)) (sSeq (sFor (sRng1 (eC (.int 6))) G2_law B2_law) (sSeq (sAsg (eFrz (lLst (aCons (eC .non) (aCons (eC (.int 5)) (aCons (eFrz (lLst (aCons (eV 4) (aNil)))) (aCons (eC (.bl true)) (aCons (eC (.str "")) (aCons (eC (.str "\n")) (aCons (e2 addD (eV 4) (eC (.str "\n"))) (aCons (e2 addD (eC (.str " ")) (eV 4)) (aCons (e2 addD (eV 4) (eC (.str " "))) (aNil)))))))))))) (gN 8)) (sSeq (sFor (sSq (e2 addD (eV 8) (eFrz (lLst (aCons (e2 addD (eC (.str "\n")) (eV 4)) (aCons (e2 addD (eV 4) (eC (.str "\ntie 0 9 1"))) (aNil))))))) G3_law B3_law) (sIf (bNot (bV (eCallHD 3 h_u_law_all_refused 0 1 [("web_text" , p_web_text)] (aCons (eC (.fn "web_text")) (aCons (eCall0 p_u_law_bad_webs) (aCons (eC (.str "web")) (aNil))))))) (sRet (eC (.bl false))) (sNil))))))))
theorem F_law_eq : F_law = sSeq (sFor (sRng1 (eC (.int 8))) G1_law B1_law) (sSeq (sAsg (eFrz (lLst (aCons (eC (.str "tie 0 1 1")) (aCons (eC (.str "place 2 1")) (aCons (eC (.str "place 0 1\ntie 0 1 1")) (aCons (eC (.str "place 0 -1")) (aCons (eC (.str "Place 0 1")) (aCons (eC (.str "place 0  1")) (aCons (eC (.str "place 0 1 2")) (aNil)))))))))) (gN 2)) (sSeq (sAsg (e2 addD (eV 2) (eFrz (lLst (aCons (eC (.str "place 0 1\nplace 0 1\ntie 1 0 1")) (aCons (eC (.str "place 0 1\ntie 0 1 1\nplace 0 1")) (aCons (eC (.str "place 0 01")) (aCons (eC (.str "place +0 1")) (aNil)))))))) (gN 2)) (sSeq (sIf (bNot (bV (eCallHD 3 h_u_law_all_refused 0 1 [("read_web" , p_read_web)] (aCons (eC (.fn "read_web")) (aCons (e2 addD (eV 2) (eFrz (lLst (aCons (eC (.str "place 0 1\nplace 0 1\ntie 0 1 0")) (aCons (eC (.str "places 0 1")) (aNil)))))) (aCons (eC (.str "text")) (aNil))))))) (sRet (eC (.bl false))) (sNil)) (sSeq (sAsg (eTup (aCons (eTup (aCons (eTup (aCons (eC (.int 1)) (aCons (eC (.int 1)) (aNil)))) (aCons (eTup (aCons (eC (.int 0)) (aCons (eC (.int 1)) (aNil)))) (aCons (eTup (aCons (eC (.int 0)) (aCons (eC (.int 1)) (aNil)))) (aNil))))) (aCons (eTup (aCons (eTup (aCons (eC (.int 0)) (aCons (eC (.int 1)) (aCons (eC (.int 1)) (aNil))))) (aCons (eTup (aCons (eC (.int 0)) (aCons (eC (.int 2)) (aCons (eC (.int 1)) (aNil))))) (aNil)))) (aNil)))) (gN 3)) (sSeq (sAsg (eC (.str "place 1 1\nplace 0 1\nplace 0 1\ntie 0 1 1\ntie 0 2 1")) (gN 4)) (sSeq (sIf (bOr (bV (e2 neD (eCall 1 p_web_text (aCons (eV 3) (aNil))) (eV 4))) (bV (e2 neD (eCall 1 p_read_web (aCons (eV 4) (aNil))) (eV 3)))) (sRet (eC (.bl false))) (sNil)) (sRet (e2 eqD (eCall 1 p_read_web (aCons (e2 addD (eC (.str "place 0 1")) (e2 mulSD (eC (.str "0")) (eC (.int 30)))) (aNil))) (eTup (aCons (eTup (aCons (eTup (aCons (eC (.int 0)) (aCons (e2 powD (eC (.int 10)) (eC (.int 30))) (aNil)))) (aNil))) (aCons (eTup (aNil)) (aNil)))))))))))) := rfl
end
end Bt

set_option linter.all false
set_option maxRecDepth 100000
set_option maxHeartbeats 1000000
/-! K01P1: what is a web, what is a choice: on any data -/
namespace DL
open PySem L2
mutual
/-- data without defs and scripts -/
def D.pl : D → Bool
  | .tup ds => plL ds
  | .lst ds => plL ds
  | .fn _ => false
  | .scr _ => false
  | _ => true
def plL : List D → Bool
  | [] => true
  | d :: r => d.pl && plL r
end
theorem plL_all : ∀ ds : List D, plL ds = ds.all D.pl
  | [] => rfl
  | d :: r => by simp [plL, plL_all r]
theorem pl_mem {ds : List D} (h : plL ds = true) {x : D} (hx : x ∈ ds) : x.pl = true := by
  rw [plL_all] at h
  exact List.all_eq_true.1 h x hx
def isTu : D → Bool
  | .tup _ => true
  | _ => false
def isIn : D → Bool
  | .int _ => true
  | .bl _ => true
  | _ => false
def isBo : D → Bool
  | .bl _ => true
  | _ => false
theorem kb1 : kitB "NoneType" "int" = some false ∧ kitB "NoneType" "bool" = some false ∧ kitB "NoneType" "tuple" = some false ∧ kitB "bool" "tuple" = some false ∧ kitB "int" "tuple" = some false ∧ kitB "int" "bool" = some false := by decide +kernel
theorem kb2 : kitB "str" "int" = some false ∧ kitB "str" "bool" = some false ∧ kitB "str" "tuple" = some false ∧ kitB "list" "int" = some false ∧ kitB "list" "bool" = some false ∧ kitB "list" "tuple" = some false ∧ kitB "tuple" "int" = some false ∧ kitB "tuple" "bool" = some false := by decide +kernel
theorem kb3 : kitB "bool" "int" = some true ∧ kitB "bool" "bool" = some true ∧ kitB "int" "int" = some true ∧ kitB "tuple" "tuple" = some true := by decide +kernel
theorem isi_tu {d : D} (h : d.pl = true) : isiD "tuple" d = some (.bl (isTu d)) := by
  cases d <;> first | (simp [D.pl] at h; done) | simp [isiD, tyD, kb1, kb2, kb3, isTu]
theorem isi_in {d : D} (h : d.pl = true) : isiD "int" d = some (.bl (isIn d)) := by
  cases d <;> first | (simp [D.pl] at h; done) | simp [isiD, tyD, kb1, kb2, kb3, isIn]
theorem isi_bo {d : D} (h : d.pl = true) : isiD "bool" d = some (.bl (isBo d)) := by
  cases d <;> first | (simp [D.pl] at h; done) | simp [isiD, tyD, kb1, kb2, kb3, isBo]
end DL
namespace Bt
open PySem DL LV
/-- a whole number from lo to hi -/
def whB (d : D) (lo hi : Int) : Bool := match d with
  | .int i => decide (lo ≤ i) && decide (i ≤ hi)
  | _ => false
theorem whB_int {d : D} {lo hi : Int} (h : whB d lo hi = true) : ∃ i, d = .int i ∧ lo ≤ i ∧ i ≤ hi := by
  cases d with
  | int i =>
    simp only [whB, Bool.and_eq_true, decide_eq_true_eq] at h
    exact ⟨i, rfl, h.1, h.2⟩
  | _ => exact absurd h (by simp [whB])
theorem whole_eq {d : D} (h : d.pl = true) (lo hi : Int) : p_is_whole [d, .int lo, .int hi] = .ok (.bl (whB d lo hi)) := by
  refine fn_rt (s := .d (.bl (whB d lo hi))) (μ := []) ?_ rfl
  have h1 := isi_in h
  have h2 := isi_bo h
  cases d with
  | int i =>
    by_cases q : lo ≤ i
    · simp [F_is_whole, rho0, q, whB]
    · simp [F_is_whole, rho0, q, whB]
  | bl b => simp [F_is_whole, rho0, whB, h1, isIn]
  | _ => first | (simp [D.pl] at h; done) | simp [F_is_whole, rho0, whB, h1, isIn]
def stB : D → Bool
  | .tup [x, .int b] => whB x 0 far && (match x with | .int a => whB (.int b) a far | _ => false)
  | _ => false
theorem stB_2 (x y : D) : stB (.tup [x, y]) = (whB x 0 far && (match x with | .int a => whB y a far | _ => false)) := by
  cases y with
  | int b => rfl
  | _ => cases x <;> simp [stB, whB]
theorem stretch_eq {d : D} (h : d.pl = true) : p_fits_stretch [d] = .ok (.bl (stB d)) := by
  refine fn_rt (s := .d (.bl (stB d))) (μ := []) ?_ rfl
  have h1 := isi_tu h
  cases d with
  | tup ds =>
    match ds, h with
    | [], _ => simp [F_fits_stretch, rho0, stB]
    | [x], _ => simp [F_fits_stretch, rho0, stB]
    | x :: y :: z :: r, _ =>
      have e : ¬ ((r.length : Int) + 1 + 1 + 1 = 2) := by omega
      simp [F_fits_stretch, rho0, stB, e]
    | [x, y], h =>
      have hx : x.pl = true := pl_mem (ds := [x, y]) h (by simp)
      have hy : y.pl = true := pl_mem (ds := [x, y]) h (by simp)
      rw [stB_2]
      have wx := whole_eq hx 0 far
      by_cases q : whB x 0 far = true
      · obtain ⟨a, rfl, q1, q2⟩ := whB_int q
        have wy := whole_eq hy a far
        simp [F_fits_stretch, rho0, wx, wy, q]
      · simp [F_fits_stretch, rho0, wx, q]
  | _ => first | (simp [D.pl] at h; done) | simp [F_fits_stretch, rho0, stB, h1, isTu]
end Bt

set_option linter.all false
set_option maxRecDepth 100000
set_option maxHeartbeats 1000000
/-! K01P2: what is a web: the program's answer -/
namespace Bt
open PySem DL LV
def tiB (n : Int) : D → Bool
  | .tup [x, y, z] => whB x 0 (n - 1) && (match x with | .int a => whB y (a + 1) (n - 1) | _ => false) && whB z 1 far
  | _ => false
theorem tiB_get {n : Int} {d : D} (h : tiB n d = true) : ∃ a b c : Int, d = .tup [.int a, .int b, .int c] ∧ 0 ≤ a ∧ a < b ∧ b < n ∧ 1 ≤ c ∧ c ≤ far := by
  unfold tiB at h
  split at h
  · rename_i x y z
    simp only [Bool.and_eq_true] at h
    obtain ⟨⟨h1, h2⟩, h3⟩ := h
    obtain ⟨a, rfl, a1, a2⟩ := whB_int h1
    obtain ⟨b, rfl, b1, b2⟩ := whB_int h2
    obtain ⟨c, rfl, c1, c2⟩ := whB_int h3
    exact ⟨a, b, c, rfl, a1, by omega, by omega, c1, c2⟩
  · cases h
theorem tie_eq {d : D} (h : d.pl = true) (n : Int) : p_fits_tie [d, .int n] = .ok (.bl (tiB n d)) := by
  refine fn_rt (s := .d (.bl (tiB n d))) (μ := []) ?_ rfl
  have h1 := isi_tu h
  cases d with
  | tup ds =>
    match ds, h with
    | [], _ => simp [F_fits_tie, rho0, tiB]
    | [x], _ => simp [F_fits_tie, rho0, tiB]
    | [x, y], _ => simp [F_fits_tie, rho0, tiB]
    | x :: y :: z :: w :: r, _ =>
      have e : ¬ ((r.length : Int) + 1 + 1 + 1 + 1 = 3) := by omega
      simp [F_fits_tie, rho0, tiB, e]
    | [x, y, z], h =>
      have hx : x.pl = true := pl_mem (ds := [x, y, z]) h (by simp)
      have hy : y.pl = true := pl_mem (ds := [x, y, z]) h (by simp)
      have hz : z.pl = true := pl_mem (ds := [x, y, z]) h (by simp)
      have wx := whole_eq hx 0 (n - 1)
      have wz := whole_eq hz 1 far
      by_cases q : whB x 0 (n - 1) = true
      · obtain ⟨a, rfl, q1, q2⟩ := whB_int q
        have wy := whole_eq hy (a + 1) (n - 1)
        by_cases q3 : whB y (a + 1) (n - 1) = true
        · simp [F_fits_tie, rho0, wx, wy, wz, q, q3, tiB]
        · simp [F_fits_tie, rho0, wx, wy, wz, q, q3, tiB]
      · simp [F_fits_tie, rho0, wx, q, tiB]
  | _ => first | (simp [D.pl] at h; done) | simp [F_fits_tie, rho0, tiB, h1, isTu]
/-- the first two of a tie -/
def prD : D → Int × Int
  | .tup (.int a :: .int b :: _) => (a, b)
  | _ => (-1, -1)
def ltP (p q : Int × Int) : Bool := decide (p.1 < q.1) || (decide (p.1 = q.1) && decide (p.2 < q.2))
def wbB : D → Bool
  | .tup [.tup ps, .tup ts] => decide (1 ≤ ps.length) && decide (ps.length ≤ 5) && ps.all stB && decide (ts.length ≤ 10) && ts.all (tiB ps.length) && (ts.zip (ts.drop 1)).all fun q => ltP (prD q.1) (prD q.2)
  | _ => false
theorem lexP (a b c d : Int) : HT.lexLt [a, b] [c, d] = ltP (a, b) (c, d) := by
  rw [HT.lexLt_cons]
  unfold ltP
  by_cases q : a = c
  · subst q
    rw [if_pos rfl, HT.lexLt_cons]
    by_cases q2 : b = d
    · subst q2; rw [if_pos rfl]; simp; rfl
    · rw [if_neg q2]; simp
  · rw [if_neg q]
    simp [q]
theorem lex_lt (a b c d : Int) : ltD (.tup [.int a, .int b]) (.tup [.int c, .int d]) = some (.bl (ltP (a, b) (c, d))) := by
  rw [← lexP]; rfl
theorem fits_web_eq {d : D} (h : d.pl = true) : p_fits_web [d] = .ok (.bl (wbB d)) := by
  refine fn_rt (s := .d (.bl (wbB d))) (μ := []) ?_ rfl
  have h1 := isi_tu h
  have r0 : rho0 4 ([d].map Sl.d) = [some (.d d), none, none, none, none] := rfl
  rw [F_fits_web_eq, r0]
  cases d with
  | tup ds =>
    match ds, h with
    | [], _ => simp [wbB]
    | [x], _ => simp [wbB]
    | x :: y :: z :: r, _ =>
      have e : ¬ ((r.length : Int) + 1 + 1 + 1 = 2) := by omega
      simp [wbB, e]
    | [x, y], h =>
      have hx : x.pl = true := pl_mem (ds := [x, y]) h (by simp)
      have hy : y.pl = true := pl_mem (ds := [x, y]) h (by simp)
      have tx := isi_tu hx
      have ty := isi_tu hy
      refine (seq_nx (ρ' := [some (.d (.tup [x, y])), none, none, none, none]) (μ' := []) (by simp)).trans ?_
      refine (seq_nx (ρ' := [some (.d (.tup [x, y])), some (.d x), some (.d y), none, none]) (μ' := []) (by simp)).trans ?_
      generalize hD : D.tup [x, y] = DD
      cases x with
      | tup ps =>
        have hps : ∀ p, p ∈ ps → p.pl = true := fun p hp => pl_mem hx hp
        by_cases l1 : 1 ≤ ps.length ∧ ps.length ≤ 5
        · have a1 : (1 : Int) ≤ ps.length := by omega
          have a2 : (ps.length : Int) ≤ 5 := by omega
          refine (seq_nx (ρ' := [some (.d DD), some (.d (.tup ps)), some (.d y), none, none]) (μ' := []) (by simp [a1, a2])).trans ?_
          have s1 := all_lc (vs := [3]) (src := sSq (eV 1)) (g := G1_fits_web) (e := E1_fits_web) (ρ := [some (.d DD), some (.d (.tup ps)), some (.d y), none, none]) (μ := []) id stB ps (by simp) (by omega) fun p hp => ⟨_, rfl, by
            have := stretch_eq (hps p hp)
            simp [E1_fits_web, wipeR, this]⟩
          by_cases q1 : ps.all stB = true
          · rw [q1] at s1
            refine (seq_nx (ρ' := [some (.d DD), some (.d (.tup ps)), some (.d y), none, none]) (μ' := []) (by rw [sIf_eq, bNot_eq, bV_eq, s1]; rfl)).trans ?_
            cases y with
            | tup ts =>
              have hts : ∀ p, p ∈ ts → p.pl = true := fun p hp => pl_mem hy hp
              by_cases l2 : ts.length ≤ 10
              · have s2 := all_lc (vs := [3]) (src := sSq (eV 2)) (g := G2_fits_web) (e := E2_fits_web) (ρ := [some (.d DD), some (.d (.tup ps)), some (.d (.tup ts)), none, none]) (μ := []) id (tiB ps.length) ts (by simp) (by omega) fun t ht => ⟨_, rfl, by
                  have := tie_eq (hts t ht) ps.length
                  simp [E2_fits_web, wipeR, this]⟩
                by_cases q2 : ts.all (tiB ps.length) = true
                · rw [q2] at s2
                  refine (seq_nx (ρ' := [some (.d DD), some (.d (.tup ps)), some (.d (.tup ts)), none, none]) (μ' := []) ?_).trans ?_
                  · refine (s_iff ((b_orf ?_).trans ((b_orf ?_).trans (b_not (b_v s2))))).trans rfl
                    · simp
                    · simp; omega
                  have d1 : zipD ts (cutD ts (some ((1 : Nat) : Int)) none) = (ts.zip (ts.drop 1)).map fun q => .tup [q.1, q.2] := by
                    rw [cutD_from]
                    have := zipD_map (fun d : D => d) (fun d : D => d) ts (ts.drop 1)
                    simpa using this
                  have s3 := all_lc (vs := [3, 4]) (src := sZip (eV 2) (eSl (eV 2) (pSome (eC (.int 1))) (pNone))) (g := G3_fits_web) (e := E3_fits_web) (ρ := [some (.d DD), some (.d (.tup ps)), some (.d (.tup ts)), none, none]) (μ := []) (fun q : D × D => .tup [q.1, q.2]) (fun q => ltP (prD q.1) (prD q.2)) (ts.zip (ts.drop 1)) (by
                      simp at d1
                      simp [d1]) (by rw [List.length_zip]; omega) fun q hq => ⟨_, rfl, by
                    obtain ⟨q1, q3⟩ := q
                    have m := List.of_mem_zip hq
                    obtain ⟨a, b, c, e1, _⟩ := tiB_get (List.all_eq_true.1 q2 q1 m.1)
                    obtain ⟨a', b', c', e2, _⟩ := tiB_get (List.all_eq_true.1 q2 q3 (List.mem_of_mem_drop m.2))
                    subst e1 e2
                    simp [E3_fits_web, wipeR, lex_lt, prD]⟩
                  rw [sRet_eq, s3, ← hD]
                  simp [wbB, l1.1, l1.2, q1, l2, q2]
                · have q2' : ts.all (tiB ps.length) = false := by simpa using q2
                  rw [q2'] at s2
                  refine (seq_rt (μ' := []) (s := .d (.bl false)) ?_).trans ?_
                  · refine (s_ift ((b_orf ?_).trans ((b_orf ?_).trans (b_not (b_v s2))))).trans rfl
                    · simp
                    · simp; omega
                  · rw [← hD]; simp only [wbB]; rw [q2']; simp
              · have l2' : (ts.length : Int) > 10 := by omega
                refine (seq_rt (μ' := []) (s := .d (.bl false)) ?_).trans ?_
                · refine (s_ift ((b_orf ?_).trans (b_ort ?_))).trans rfl
                  · simp
                  · simp; omega
                · rw [← hD]; simp [wbB, l2]
            | _ => first | (simp [D.pl] at hy; done) | (refine (seq_rt (μ' := []) (s := .d (.bl false)) (by simp [ty, isTu])).trans (by rw [← hD]; simp [wbB]))
          · have q1' : ps.all stB = false := by simpa using q1
            rw [q1'] at s1
            refine (seq_rt (μ' := []) (s := .d (.bl false)) (by rw [sIf_eq, bNot_eq, bV_eq, s1]; rfl)).trans ?_
            rw [← hD]
            cases y <;> first | rfl | (simp only [wbB]; rw [q1']; simp)
        · refine (seq_rt (μ' := []) (s := .d (.bl false)) ?_).trans ?_
          · by_cases a1 : (1 : Int) ≤ ps.length
            · have a2 : ¬ (ps.length : Int) ≤ 5 := by omega
              simp [a1, a2]
            · simp [a1]
          · rw [← hD]
            cases y <;> first | rfl | (simp only [wbB]; by_cases k1 : 1 ≤ ps.length <;> by_cases k2 : ps.length ≤ 5 <;> simp [k1, k2] <;> omega)
      | _ => first | (simp [D.pl] at hx; done) | (refine (seq_rt (μ' := []) (s := .d (.bl false)) (by simp [tx, isTu])).trans (by rw [← hD]; simp [wbB]))
  | _ => first | (simp [D.pl] at h; done) | simp [wbB, h1, isTu]
theorem eT_pl (t : Tl) : (eT t).pl = true := rfl
theorem eP_pl (p : Pl) : (eP p).pl = true := rfl
theorem eW_pl (P : List Pl) (T : List Tl) : (eW P T).pl = true := by
  have h1 : plL (P.map eP) = true := by rw [plL_all, List.all_eq_true]; intro x hx; obtain ⟨p, _, rfl⟩ := List.mem_map.1 hx; rfl
  have h2 : plL (T.map eT) = true := by rw [plL_all, List.all_eq_true]; intro x hx; obtain ⟨p, _, rfl⟩ := List.mem_map.1 hx; rfl
  simp [eW, ePs, eTs, D.pl, plL, h1, h2]
theorem eW_wb {P : List Pl} {T : List Tl} (h : WebOk P T) : wbB (eW P T) = true := by
  have l1 := h.n1
  have l5 := h.n5
  have lm := h.m
  have h1 : (P.map eP).all stB = true := by
    rw [List.all_eq_true]; intro x hx; obtain ⟨p, hp, rfl⟩ := List.mem_map.1 hx
    have := h.p p hp
    have k : p.1 ≤ far := by omega
    simp [eP, stB, whB, this.1, this.2.1, this.2.2, k]
  have h2 : (T.map eT).all (tiB (P.map eP).length) = true := by
    rw [List.all_eq_true]; intro x hx; obtain ⟨t, ht, rfl⟩ := List.mem_map.1 hx
    have k1 := h.t t ht
    have k2 := h.far t ht
    have a1 : (t.1 : Int) ≤ (P.length : Int) - 1 := by omega
    have a2 : (t.1 : Int) + 1 ≤ t.2.1 := by omega
    have a3 : (t.2.1 : Int) ≤ (P.length : Int) - 1 := by omega
    have a4 : 1 ≤ t.2.2 := by omega
    simp [eT, tiB, whB, a1, a2, a3, a4, k2]
  have h3 : ((T.map eT).zip ((T.map eT).drop 1)).all (fun q => ltP (prD q.1) (prD q.2)) = true := by
    rw [← List.map_drop, List.zip_map, List.all_map, List.all_eq_true]
    intro q hq
    have := h.srt q hq
    obtain ⟨⟨a, b, c⟩, a', b', c'⟩ := q
    unfold lt2 at this
    dsimp only at this
    show ltP ((a : Int), (b : Int)) ((a' : Int), (b' : Int)) = true
    unfold ltP
    simp only [Bool.or_eq_true, Bool.and_eq_true, decide_eq_true_eq]
    omega
  show (decide (1 ≤ (P.map eP).length) && decide ((P.map eP).length ≤ 5) && (P.map eP).all stB && decide ((T.map eT).length ≤ 10) && (T.map eT).all (tiB (P.map eP).length) && ((T.map eT).zip ((T.map eT).drop 1)).all fun q => ltP (prD q.1) (prD q.2)) = true
  rw [h1, h2, h3]
  simp [l1, l5, lm]
theorem need_web_t {d : D} (h : d.pl = true) (q : wbB d = true) : p_need_web [d] = .ok .non := by
  have := fits_web_eq h
  refine fn_nx (ρ := [some (.d d)]) (μ := []) ?_
  simp [F_need_web, rho0, this, q]
theorem need_web_f {d : D} (h : d.pl = true) (q : wbB d = false) : p_need_web [d] = .ex ⟨"InvalidWeb", none⟩ := by
  have := fits_web_eq h
  refine fn_ex (ρ := [some (.d d)]) (μ := []) ?_
  simp [F_need_web, rho0, this, q]
end Bt

set_option linter.all false
set_option maxRecDepth 100000
set_option maxHeartbeats 1000000
/-! K01P5: what refuses -/
namespace DL
open PySem L2
variable {ρ : Rho} {μ : Store}
theorem fm_rtx {nl : Nat} {body : SF} {ss : List Sl} {s : Sl} {μ μ' : Store} (h : body (rho0 nl ss) μ = .rt s μ') : fnMx nl body ss μ = .ok s μ' := by
  unfold fnMx; rw [h]
theorem act_eq {i n : Nat} {t : CTok} {f : MF} {fa : AF} (h : ρ[i]? = some (some (.clo t))) : eAct i n t f fa ρ μ = (fa ρ μ).bind fun ss μ1 => if ss.length = n then f ss μ1 else .no := by
  unfold eAct
  rw [h]
  simp
theorem callH_eq {n m : Nat} {g : CTok → MF → MF} {fx : XF} {js : List Nat} {fE : EF} {a b : List Sl} {μ1 : Store} {r : Res Sl} (hx : fx ρ μ = .ok (a, b) μ1) (hl : a.length + b.length + 1 = n) (h : ∀ t, g t (lamM m js ρ fE) (a ++ .clo t :: b) μ1 = r) : eCallH n g fx m js fE ρ μ = r := by
  unfold eCallH
  rw [hx]
  show (if a.length + b.length + 1 = n then uni (fun t => g t (lamM m js ρ fE) (a ++ .clo t :: b) μ1) else .no) = r
  haveI : TabCtx := ⟨[]⟩
  rw [if_pos hl, uni_eq h]
theorem isE_at {i : Nat} {t : CTok} {b : Bool} (h : ρ[i]? = some (some (.clo t))) : eIsE i t b ρ μ = .ok (.d (.bl b)) μ := by
  unfold eIsE
  rw [h]
  simp
theorem nm_at {i : Nat} {t : CTok} {l : Str} (h : ρ[i]? = some (some (.clo t))) : eNm i t (some l) ρ μ = .ok (.d (.str l)) μ := by
  unfold eNm
  rw [h]
  simp
theorem tryAs_eq {i : Nat} {ok : Exn → Bool} {body : SF} {suite : Exn → CTok → SF} {x : Exn} {ρ' : Rho} {μ' : Store} {r : Out} (hb : body ρ μ = .ex x ρ' μ') (ho : ok x = true) (h : ∀ t, (suite x t (ρ'.set i (some (.clo t))) μ').rets = r) : sTryAs i ok body suite ρ μ = r := by
  unfold sTryAs
  rw [hb]
  show (if ok x = true then uniO (fun t => (suite x t (ρ'.set i (some (.clo t))) μ').rets) else .no) = r
  haveI : TabCtx := ⟨[]⟩
  rw [if_pos ho, uniO_eq h]
theorem tryAs_nx {i : Nat} {ok : Exn → Bool} {body : SF} {suite : Exn → CTok → SF} {ρ' : Rho} {μ' : Store} (hb : body ρ μ = .nx ρ' μ') : sTryAs i ok body suite ρ μ = .nx ρ' μ' := by
  unfold sTryAs
  rw [hb]
theorem callV_eq {i n : Nat} {tbl : List (Str × PF)} {fa : AF} {x : Str} {g : PF} (h : ρ[i]? = some (some (.d (.fn x)))) (ht : tbl.lookup x = some g) : eCallV i n tbl fa ρ μ = eCall n g fa ρ μ := by
  unfold eCallV
  rw [h]
  show (match tbl.lookup x with | some g => eCall n g fa ρ μ | none => .no) = _
  rw [ht]
theorem neD_ss {s : Str} (h : PySem.PyData.strOk s = true) : neD (.str s) (.str s) = some (.bl false) := by
  unfold neD
  have : (D.str s).shaped = true := by simp [D.shaped, D.cmpOk, D.deep, h]
  rw [if_pos ⟨this, this⟩]
  simp [D.beq]
theorem eqD_ee : eqD (.lst []) (.lst []) = some (.bl true) := rfl
theorem xLam_eq {fr : AF} {ys : List Sl} {μ1 : Store} (h : fr ρ μ = .ok ys μ1) : xLam fr ρ μ = .ok ([], ys) μ1 := by
  unfold xLam; rw [h]; rfl
end DL
namespace Bt
open PySem DL LV
theorem error_ex {t : CTok} {φ : MF} {μ μ' : Store} {y : Exn} {l : Str} (h : φ [] μ = .ex y μ') (hl : labE y = some l) : h_u_law_error t φ [.clo t] μ = .ok (.d (.str l)) μ' := by
  have ho : okE y = true := by
    unfold labE at hl
    split at hl
    · assumption
    · cases hl
  refine fm_rtx ?_
  refine seq_rt (tryAs_eq (x := y) (ρ' := [some (.clo t), none]) (μ' := μ') ?_ ho fun t' => ?_)
  · have := act_eq (ρ := [some (.clo t), none]) (μ := μ) (i := 0) (n := 0) (t := t) (f := φ) (fa := aNil) rfl
    show sExp (eAct 0 0 t φ aNil) [some (.clo t), none] μ = _
    rw [sExp_eq, this, aNil_eq, rbind_ok]
    show (φ [] μ).toOut _ _ = _
    rw [h]; rfl
  · show (sRet (eIf (bV (eIsE 1 t' true)) (eNm 1 t' (labE y)) (eC (.str "odd"))) [some (.clo t), some (.clo t')] μ').rets = _
    rw [hl, sRet_eq, eIf_eq, bV_eq, isE_at (by rfl), rbind_ok, rbind_ok]
    show ((eNm 1 t' (some l) [some (.clo t), some (.clo t')] μ').toOut _ _).rets = _
    rw [nm_at (by rfl)]; rfl
theorem refused_t {t : CTok} {φ : MF} {μ : Store} {name : Str} {ds : List D} (hn : PySem.PyData.strOk name = true) (hl : ds.length ≤ 1000) (h : ∀ d, d ∈ ds → ∃ y, φ [.d d] μ = .ex y μ ∧ labE y = some name) : h_u_law_all_refused t φ [.clo t, .d (.lst ds), .d (.str name)] μ = .ok (.d (.bl true)) μ := by
  refine fm_rtx ?_
  have r0 : rho0 1 [.clo t, .d (.lst ds), .d (.str name)] = [some (.clo t), some (.d (.lst ds)), some (.d (.str name)), none] := rfl
  rw [r0]
  unfold F_u_law_all_refused
  have s1 := frz_lcf (vs := [3]) (src := sSq (eV 1)) (g := gN 3) (t := bV (e2 neD (eCallH 1 h_u_law_error (xLam (aNil)) 0 [0, 3] (eAct 0 1 t φ (aCons (eV 1) (aNil)))) (eV 2))) (e := eV 3) (ρ := [some (.clo t), some (.d (.lst ds)), some (.d (.str name)), none]) (μ := μ) id (fun _ => false) id ds (by simp) (by omega) fun d hd => ⟨[some (.clo t), some (.d (.lst ds)), some (.d (.str name)), some (.d d)], rfl, by
    obtain ⟨y, h1, h2⟩ := h d hd
    have c : eCallH 1 h_u_law_error (xLam (aNil)) 0 [0, 3] (eAct 0 1 t φ (aCons (eV 1) (aNil))) [some (.clo t), some (.d (.lst ds)), some (.d (.str name)), some (.d d)] μ = .ok (.d (.str name)) μ := by
      refine callH_eq (a := []) (b := []) (μ1 := μ) (xLam_eq rfl) rfl fun t' => error_ex (y := y) ?_ h2
      show eAct 0 1 t φ (aCons (eV 1) (aNil)) [some (.clo t), some (.d d)] μ = _
      rw [act_eq (by rfl)]
      simp [h1]
    rw [bV_eq, e2_eq, c]
    simp [neD_ss hn], fun h => (nomatch h)⟩
  have e : (ds.filter fun _ => false) = [] := by simp
  rw [e] at s1
  refine s_ret (e_2 s1 (y := .d (.lst [])) (μ2 := μ) rfl ?_)
  simp [eqD_ee]
def bads : List D := match p_u_law_bad_webs [] with
  | .ok (.lst ds) => ds
  | _ => []
theorem bad_eq : p_u_law_bad_webs [] = .ok (.lst bads) := rfl
theorem bads_no : bads.all (fun d => d.pl && !wbB d) = true := by decide +kernel
theorem bads_len : bads.length = 24 := by decide +kernel
theorem bad_f {d : D} (h : d ∈ bads) : d.pl = true ∧ wbB d = false := by
  have := List.all_eq_true.1 bads_no d h
  simpa using this
theorem ok_web : PySem.PyData.strOk "web" = true := by decide +kernel
theorem lab_web : labE ⟨"InvalidWeb", none⟩ = some "web" := by decide +kernel
end Bt

set_option linter.all false
set_option maxRecDepth 100000
set_option maxHeartbeats 1000000
/-! K01P7: draws; drawn ties and webs -/
namespace Bt
open PySem DL LV
def tkR (bag : List Int) (many : Int) : Int := (bag.headD 0) % many
theorem take_eq {μ : Store} {b : Nat} {bag : List Int} {many : Int} (hb : μ[b]? = some (.lst (bag.map .int))) (hm : 0 < many) : m_u_law_take [.ob b, .d (.int many)] μ = .ok (.d (.int (tkR bag many))) (μ.set b (.lst (bag.tail.map .int))) := by
  refine fm_rt ?_
  have r0 : rho0 1 [.ob b, .d (.int many)] = [some (.ob b), some (.d (.int many)), none] := rfl
  rw [r0]
  have hn := neD_nili bag
  have hbl : b < μ.length := (List.getElem?_eq_some_iff.1 hb).1
  cases bag with
  | nil =>
    have hs : μ.set b (.lst []) = μ := by
      refine List.ext_getElem? fun i => ?_
      rw [List.getElem?_set]
      by_cases e : b = i
      · subst e; rw [if_pos rfl, if_pos hbl, hb]; rfl
      · rw [if_neg e]
    have hb' : μ[b]? = some (.lst []) := hb
    have hn' : neD (.lst []) (.lst []) = some (.bl false) := hn
    show F_u_law_take _ _ = .rt _ (μ.set b (.lst []))
    rw [hs]
    simp [F_u_law_take, hb', hn', hm, tkR]
  | cons x r =>
    have hb' : μ[b]? = some (.lst (.int x :: r.map .int)) := hb
    have hn' : neD (.lst (.int x :: r.map .int)) (.lst []) = some (.bl true) := hn
    simp [F_u_law_take, hb', hn', hm, tkR]
theorem tkR_lt {bag : List Int} {many : Int} (h : 0 < many) : 0 ≤ tkR bag many ∧ tkR bag many < many := ⟨Int.emod_nonneg _ (by omega), Int.emod_lt_of_pos _ h⟩
theorem cell_ex (ns : List Int) (k : Nat) : ∃ c : Int, p_u_law_cell [.scr ns, nD k] = .ok (.int c) := by
  have len : lenD [.scr ns] = some (.int (ns.length : Nat)) := rfl
  by_cases q : k < ns.length
  · have hx : ixD (.scr ns) (.int (k : Nat)) = some (.int ns[k]) := by
      show (L2.atI ns (k : Int)).map D.int = _
      rw [atI_nat, List.getElem?_eq_getElem q]; rfl
    refine ⟨ns[k], fn_rt (s := .d (.int ns[k])) (μ := []) ?_ rfl⟩
    have q' : (k : Int) < ns.length := by omega
    simp [F_u_law_cell, rho0, len, hx, q]
  · by_cases z : ns.length = 0
    · refine ⟨7919 * k + 101, fn_rt (s := .d (.int (7919 * k + 101))) (μ := []) ?_ rfl⟩
      have q2 : ¬ (k : Int) < 0 := by omega
      simp [F_u_law_cell, rho0, len, q, q2, z]
    · have hlt : k % ns.length < ns.length := Nat.mod_lt _ (by omega)
      have hx : ixD (.scr ns) (.int ((k : Int) % (ns.length : Int))) = some (.int ns[k % ns.length]) := by
        show (L2.atI ns ((k : Int) % (ns.length : Int))).map D.int = _
        rw [show (k : Int) % (ns.length : Int) = ((k % ns.length : Nat) : Int) from rfl, atI_nat, List.getElem?_eq_getElem hlt]; rfl
      have z' : 0 < ns.length := by omega
      refine ⟨ns[k % ns.length] % 1000003 + 7919 * k, fn_rt (s := .d (.int (ns[k % ns.length] % 1000003 + 7919 * k))) (μ := []) ?_ rfl⟩
      have q' : ¬ (k : Int) < ns.length := by omega
      simp [F_u_law_cell, rho0, len, hx, q, z, z']
def primes : List D := [.int 2147483647, .int 2147483629, .int 2147483587, .int 2147483579, .int 2147483563, .int 2147483549, .int 2147483543, .int 2147483497]
theorem prime_at (n : Nat) : ∃ p : Int, ixD (.tup primes) (.int ((n : Int) % 8)) = some (.int p) ∧ 0 < p ∧ p < 2147483648 := by
  have h : n % 8 < 8 := Nat.mod_lt _ (by omega)
  have e : ixD (.tup primes) (.int ((n : Int) % 8)) = primes[n % 8]? := by
    show L2.atI primes ((n : Int) % 8) = _
    rw [show (n : Int) % 8 = ((n % 8 : Nat) : Int) from rfl, atI_nat]
  rw [e]
  generalize n % 8 = r at h
  have : r = 0 ∨ r = 1 ∨ r = 2 ∨ r = 3 ∨ r = 4 ∨ r = 5 ∨ r = 6 ∨ r = 7 := by omega
  rcases this with rfl | rfl | rfl | rfl | rfl | rfl | rfl | rfl <;> exact ⟨_, rfl, by omega, by omega⟩

theorem draws_eq {μ : Store} (ns : List Int) (k : Nat) (hk : k ≤ 100) : ∃ bag : List Int, m_u_law_draws [.d (.scr ns), .d (nD k), .d (.int 150), .d (.int 27720)] μ = .ok (.ob μ.length) (μ ++ [.lst (bag.map .int)]) := by
  obtain ⟨c, hc⟩ := cell_ex ns k
  obtain ⟨R, hR⟩ : ∃ R : Int, R = if c ≥ 1000000000000000000 then c else 0 := ⟨_, rfl⟩
  have ap : ∀ L : List D, (μ ++ [MO.lst L])[μ.length]? = some (.lst L) := fun L => by rw [List.getElem?_append_right (Nat.le_refl _)]; simp
  have st : ∀ L L' : List D, (μ ++ [MO.lst L]).set μ.length (.lst L') = μ ++ [.lst L'] := fun L L' => by rw [List.set_append_right _ _ (Nat.le_refl _)]; simp
  obtain ⟨ρ', μ', f1, ⟨bag, z, j8, j9, g1, g2, g3⟩⟩ := for_idx (g := G1_u_law_draws) (body := B1_u_law_draws) nD (fun i ρ μ' => ∃ (bag : List Int) (z : Int) (j8 j9 : Option Sl), bag.length = i ∧ ρ = [some (.d (.scr ns)), some (.d (nD k)), some (.d (.int 150)), some (.d (.int 27720)), some (.d (.tup primes)), some (.d (.int c)), some (.d (.int z)), some (.ob μ.length), j8, j9] ∧ μ' = μ ++ [.lst (bag.map .int)])
    (List.range 150) 0 [some (.d (.scr ns)), some (.d (nD k)), some (.d (.int 150)), some (.d (.int 27720)), some (.d (.tup primes)), some (.d (.int c)), some (.d (.int R)), some (.ob μ.length), none, none] (μ ++ [.lst []]) (by
      rintro i j hj ρ μ' ⟨bag, z, j8, j9, hl, rfl, rfl⟩
      obtain ⟨hi, rfl⟩ : i < 150 ∧ i = j := by
        obtain ⟨h1, h2⟩ := List.getElem?_eq_some_iff.1 hj
        rw [List.getElem_range] at h2
        rw [List.length_range] at h1
        exact ⟨h1, h2⟩
      obtain ⟨p1, a1, a2, a3⟩ := prime_at i
      obtain ⟨p2, b1, b2, b3⟩ := prime_at (3 * i + k)
      obtain ⟨p3, c1, c2, c3⟩ := prime_at (i + 5)
      have b1' : ixD (.tup primes) (.int ((3 * (i : Int) + k) % 8)) = some (.int p2) := by
        rw [show (3 * (i : Int) + k) = ((3 * i + k : Nat) : Int) by omega]; exact b1
      have c1' : ixD (.tup primes) (.int (((i : Int) + 5) % 8)) = some (.int p3) := by
        rw [show ((i : Int) + 5) = ((i + 5 : Nat) : Int) by omega]; exact c1
      have m1 : ∀ x : Int, 0 ≤ x % p1 ∧ x % p1 < p1 := fun x => ⟨Int.emod_nonneg _ (by omega), Int.emod_lt_of_pos _ a2⟩
      have m2 : ∀ x : Int, 0 ≤ x % p2 ∧ x % p2 < p2 := fun x => ⟨Int.emod_nonneg _ (by omega), Int.emod_lt_of_pos _ b2⟩
      have n1 : (c % p1).natAbs < 18446744073709551616 := by have := m1 c; omega
      have n2 : (i : Int).natAbs < 18446744073709551616 := by omega
      have n3 : ((i : Int) + 1).natAbs < 18446744073709551616 := by omega
      have n4 : (2 : Int).natAbs < 18446744073709551616 := by omega
      have n5 : (7919 : Int).natAbs < 18446744073709551616 := by omega
      have n6 : (104729 : Int).natAbs < 18446744073709551616 := by omega
      have n7 : (3 : Int).natAbs < 18446744073709551616 := by omega
      have e1 := mul_l (i := 2) (j := i) n4
      have e2' := mul_r (i := 2 * (i : Int)) (j := i) n2
      have e3 := mul_l (i := c % p1) (j := 48271 + 2 * (i : Int) * i) n1
      have e4 := mul_l (i := 7919) (j := (i : Int) + 1) n5
      have e5 := mul_r (i := 7919 * ((i : Int) + 1)) (j := (i : Int) + 1) n3
      have e6 := mul_l (i := 104729) (j := (k : Int)) n6
      have e7 := mul_l (i := 3) (j := (i : Int)) n7
      obtain ⟨M, hM⟩ : ∃ M : Int, M = (c % p1 * (48271 + 2 * (i : Int) * i) + 7919 * ((i : Int) + 1) * ((i : Int) + 1) + 104729 * (k : Int)) % p2 := ⟨_, rfl⟩
      have n8 : M.natAbs < 18446744073709551616 := by have := m2 (c % p1 * (48271 + 2 * (i : Int) * i) + 7919 * ((i : Int) + 1) * ((i : Int) + 1) + 104729 * (k : Int)); rw [← hM] at this; omega
      have e8 := mul_l (i := M) (j := M) n8
      have e9 := mul_r (i := M * M) (j := M) n8
      obtain ⟨V, hV⟩ : ∃ V : Int, V = if z > 0 then z else M * M * M % p3 := ⟨_, rfl⟩
      have hlen : (bag.map D.int).length < 16777216 := by simp; omega
      have ap' := ap (bag.map D.int)
      have st' := st (bag.map D.int) (bag.map D.int ++ [.int (V % 27720)])
      refine ⟨[some (.d (.scr ns)), some (.d (nD k)), some (.d (.int 150)), some (.d (.int 27720)), some (.d (.tup primes)), some (.d (.int c)), some (.d (.int z)), some (.ob μ.length), some (.d (nD i)), j9], [some (.d (.scr ns)), some (.d (nD k)), some (.d (.int 150)), some (.d (.int 27720)), some (.d (.tup primes)), some (.d (.int c)), some (.d (.int (z / 27720))), some (.ob μ.length), some (.d (nD i)), some (.d (.int V))], _, rfl, ?_, bag ++ [V % 27720], z / 27720, _, _, by simp [hl], rfl, rfl⟩
      rw [List.map_append, List.map_cons, List.map_nil, ← st']
      generalize hQ : D.tup primes = Q at *
      generalize μ ++ [MO.lst (bag.map D.int)] = MU at *
      generalize bag.map D.int = BG at *
      generalize D.scr ns = SC at *
      unfold B1_u_law_draws
      refine (seq_nx (ρ' := [some (.d SC), some (.d (nD k)), some (.d (.int 150)), some (.d (.int 27720)), some (.d Q), some (.d (.int c)), some (.d (.int z)), some (.ob μ.length), some (.d (nD i)), some (.d (.int (c % p1 * (48271 + 2 * (i : Int) * i))))]) (μ' := MU) ?_).trans ?_
      · simp only [sAsg_eq, e2_eq, eV_eq, eC_eq]
        simp [a1, a2, -mulD_i, e1, e2', e3]
      refine (seq_nx (ρ' := [some (.d SC), some (.d (nD k)), some (.d (.int 150)), some (.d (.int 27720)), some (.d Q), some (.d (.int c)), some (.d (.int z)), some (.ob μ.length), some (.d (nD i)), some (.d (.int (c % p1 * (48271 + 2 * (i : Int) * i) + 7919 * ((i : Int) + 1) * ((i : Int) + 1) + 104729 * (k : Int))))]) (μ' := MU) ?_).trans ?_
      · simp [-mulD_i, e4, e5, e6]
      refine (seq_nx (ρ' := [some (.d SC), some (.d (nD k)), some (.d (.int 150)), some (.d (.int 27720)), some (.d Q), some (.d (.int c)), some (.d (.int z)), some (.ob μ.length), some (.d (nD i)), some (.d (.int M))]) (μ' := MU) ?_).trans ?_
      · rw [hM]
        simp [-mulD_i, e7, b1', b2]
      refine (seq_nx (ρ' := [some (.d SC), some (.d (nD k)), some (.d (.int 150)), some (.d (.int 27720)), some (.d Q), some (.d (.int c)), some (.d (.int z)), some (.ob μ.length), some (.d (nD i)), some (.d (.int (M * M * M % p3)))]) (μ' := MU) ?_).trans ?_
      · simp [-mulD_i, e8, e9, c1', c2]
      refine (seq_nx (ρ' := [some (.d SC), some (.d (nD k)), some (.d (.int 150)), some (.d (.int 27720)), some (.d Q), some (.d (.int c)), some (.d (.int z)), some (.ob μ.length), some (.d (nD i)), some (.d (.int V))]) (μ' := MU) ?_).trans ?_
      · rw [hV]
        by_cases q : z > 0
        · simp [q]
        · simp [q]
      · simp [ap', hlen]) ⟨[], R, none, none, rfl, rfl, rfl⟩
  subst g2 g3
  refine ⟨bag, fm_rt ?_⟩
  have r0 : rho0 6 [.d (.scr ns), .d (nD k), .d (.int 150), .d (.int 27720)] = [some (.d (.scr ns)), some (.d (nD k)), some (.d (.int 150)), some (.d (.int 27720)), none, none, none, none, none, none] := rfl
  rw [F_u_law_draws_eq, r0]
  refine (seq_nx (ρ' := [some (.d (.scr ns)), some (.d (nD k)), some (.d (.int 150)), some (.d (.int 27720)), some (.d (.tup primes)), none, none, none, none, none]) (μ' := μ) rfl).trans ?_
  refine (seq_nx (ρ' := [some (.d (.scr ns)), some (.d (nD k)), some (.d (.int 150)), some (.d (.int 27720)), some (.d (.tup primes)), some (.d (.int c)), none, none, none, none]) (μ' := μ) ?_).trans ?_
  · simp at hc
    simp [hc]
  refine (seq_nx (ρ' := [some (.d (.scr ns)), some (.d (nD k)), some (.d (.int 150)), some (.d (.int 27720)), some (.d (.tup primes)), some (.d (.int c)), some (.d (.int 0)), none, none, none]) (μ' := μ) rfl).trans ?_
  refine (seq_nx (ρ' := [some (.d (.scr ns)), some (.d (nD k)), some (.d (.int 150)), some (.d (.int 27720)), some (.d (.tup primes)), some (.d (.int c)), some (.d (.int R)), none, none, none]) (μ' := μ) ?_).trans ?_
  · have pw : powD (.int 10) (.int 18) = some (.int 1000000000000000000) := rfl
    rw [hR]
    by_cases q : c ≥ 1000000000000000000
    · simp [pw, q]
    · simp [pw, q]
  refine (seq_nx (ρ' := [some (.d (.scr ns)), some (.d (nD k)), some (.d (.int 150)), some (.d (.int 27720)), some (.d (.tup primes)), some (.d (.int c)), some (.d (.int R)), some (.ob μ.length), none, none]) (μ' := μ ++ [.lst []]) rfl).trans ?_
  refine (seq_nx (for_nx (ds := (List.range 150).map nD) (μ1 := μ ++ [.lst []]) ?_ f1)).trans ?_
  · have := rngR_n (μ := μ ++ [.lst []]) (n := 150) (by omega)
    simpa using this
  · rfl
theorem bag_eq {μ : Store} (ns : List Int) (k : Nat) (hk : k ≤ 100) : ∃ bag : List Int, m_u_law_bag [.d (.scr ns), .d (nD k)] μ = .ok (.ob μ.length) (μ ++ [.lst (bag.map .int)]) := by
  obtain ⟨bag, h⟩ := draws_eq (μ := μ) ns k hk
  refine ⟨bag, fm_rt ?_⟩
  simp at h
  simp [F_u_law_bag, rho0, h]
structure Dr (mo li : Nat) (many : Nat) (i j : Nat) (T : List Tl) : Prop where
  ok : TOk many T
  two : ∀ t, t ∈ T → t.2.2 ≤ li
  len : T.length ≤ mo
  srt : T.Pairwise lt2
  nxt : ∀ t, t ∈ T → t.1 < i ∨ (t.1 = i ∧ t.2.1 < j)
theorem Dr.mono {mo li many i j i' j' : Nat} {T : List Tl} (h : Dr mo li many i j T) (k : i < i' ∨ (i = i' ∧ j ≤ j')) : Dr mo li many i' j' T := ⟨h.ok, h.two, h.len, h.srt, fun t ht => by have := h.nxt t ht; omega⟩
def RT (mo li many b f : Nat) (i j : Nat) (ρ : Rho) (μ : Store) : Prop := ∃ (bag : List Int) (T : List Tl) (j5 j6 : Option Sl), ρ = [some (.ob b), some (.d (nD many)), some (.d (nD mo)), some (.d (nD li)), some (.ob f), j5, j6] ∧ μ[b]? = some (.lst (bag.map .int)) ∧ μ[f]? = some (.lst (T.map eT)) ∧ Dr mo li many i j T
theorem ties_step {mo li many b f i j : Nat} (hmo : mo ≤ 1000) (hli : 0 < li) (hbf : b ≠ f) (hij : i < j) (hj : j < many) {bag : List Int} {T : List Tl} {μ : Store} (h1 : μ[b]? = some (.lst (bag.map .int))) (h2 : μ[f]? = some (.lst (T.map eT))) (h3 : Dr mo li many i j T) :
    ∃ μ', B2_u_law_ties [some (.ob b), some (.d (nD many)), some (.d (nD mo)), some (.d (nD li)), some (.ob f), some (.d (nD i)), some (.d (nD j))] μ = .nx [some (.ob b), some (.d (nD many)), some (.d (nD mo)), some (.d (nD li)), some (.ob f), some (.d (nD i)), some (.d (nD j))] μ' ∧ RT mo li many b f i (j + 1) [some (.ob b), some (.d (nD many)), some (.d (nD mo)), some (.d (nD li)), some (.ob f), some (.d (nD i)), some (.d (nD j))] μ' := by
  have hb : b < μ.length := (List.getElem?_eq_some_iff.1 h1).1
  have hf : f < μ.length := (List.getElem?_eq_some_iff.1 h2).1
  by_cases q : T.length < mo
  · have t1 := take_eq (many := 3) h1 (by omega)
    have g1 : (μ.set b (.lst (bag.tail.map .int)))[b]? = some (.lst (bag.tail.map .int)) := get_set_eq hb
    have g2 : (μ.set b (.lst (bag.tail.map .int)))[f]? = some (.lst (T.map eT)) := by rw [get_set_ne hbf]; exact h2
    have g3 : f < (μ.set b (.lst (bag.tail.map .int))).length := by rw [List.length_set]; exact hf
    have g4 : b < (μ.set b (.lst (bag.tail.map .int))).length := by rw [List.length_set]; exact hb
    have q' : (T.length : Int) < mo := by omega
    by_cases q2 : tkR bag 3 > 0
    · generalize hMU : μ.set b (.lst (bag.tail.map D.int)) = MU at *
      have t2 := take_eq (many := (li : Int)) g1 (by omega)
      have u1 : (MU.set b (.lst (bag.tail.tail.map .int)))[b]? = some (.lst (bag.tail.tail.map .int)) := get_set_eq g4
      have u2 : (MU.set b (.lst (bag.tail.tail.map .int)))[f]? = some (.lst (T.map eT)) := by rw [get_set_ne hbf]; exact g2
      have u3 : f < (MU.set b (.lst (bag.tail.tail.map .int))).length := by rw [List.length_set]; exact g3
      obtain ⟨r1, r2⟩ := tkR_lt (bag := bag.tail) (many := (li : Int)) (by omega)
      generalize hNU : MU.set b (.lst (bag.tail.tail.map D.int)) = NU at *
      generalize hr : tkR bag.tail (li : Int) = r at *
      refine ⟨NU.set f (.lst ((T ++ [(i, j, 1 + r)]).map eT)), ?_, bag.tail.tail, T ++ [(i, j, 1 + r)], _, _, rfl, by rw [get_set_ne (Ne.symm hbf)]; exact u1, get_set_eq u3, ⟨fun t ht => ?_, fun t ht => ?_, by simp; omega, ?_, fun t ht => ?_⟩⟩
      · have hl : (T.map eT).length < 16777216 := by simp; omega
        have eT1 : eT (i, j, 1 + r) = .tup [.int i, .int j, .int (1 + r)] := rfl
        have hln : lenD [.lst (T.map eT)] = some (.int (T.length : Nat)) := by simp
        rw [List.map_append, List.map_cons, List.map_nil, eT1]
        generalize T.map eT = TT at *
        simp [B2_u_law_ties, h2, hln, q', t1, q2, g2, t2, u2, hl]
      · rcases List.mem_append.1 ht with k | k
        · exact h3.ok t k
        · rw [List.mem_singleton] at k; subst k; exact ⟨hij, hj, by show 0 < 1 + r; omega⟩
      · rcases List.mem_append.1 ht with k | k
        · exact h3.two t k
        · rw [List.mem_singleton] at k; subst k; show 1 + r ≤ (li : Int); omega
      · rw [List.pairwise_append]
        refine ⟨h3.srt, List.pairwise_singleton _ _, fun x hx y hy => ?_⟩
        rw [List.mem_singleton] at hy
        subst hy
        exact h3.nxt x hx
      · rcases List.mem_append.1 ht with k | k
        · have := h3.nxt t k; omega
        · rw [List.mem_singleton] at k; subst k; right; exact ⟨rfl, by show j < j + 1; omega⟩
    · refine ⟨μ.set b (.lst (bag.tail.map .int)), ?_, bag.tail, T, _, _, rfl, g1, g2, h3.mono (by omega)⟩
      have hln : lenD [.lst (T.map eT)] = some (.int (T.length : Nat)) := by simp
      generalize T.map eT = TT at *
      simp [B2_u_law_ties, h2, hln, q', t1, q2]
  · refine ⟨μ, ?_, bag, T, _, _, rfl, h1, h2, h3.mono (by omega)⟩
    have hln : lenD [.lst (T.map eT)] = some (.int (T.length : Nat)) := by simp
    have q' : ¬ (T.length : Int) < mo := by omega
    generalize T.map eT = TT at *
    simp [B2_u_law_ties, h2, hln, q']
theorem ties_eq {μ : Store} {mo li b many : Nat} (hmo : mo ≤ 1000) (hli : 0 < li) {bag : List Int} (hb : μ[b]? = some (.lst (bag.map .int))) (hm : many ≤ 10) : ∃ (T : List Tl) (bag' : List Int) (μ' : Store), m_u_law_ties [.ob b, .d (nD many), .d (nD mo), .d (nD li)] μ = .ok (.d (eTs T)) μ' ∧ μ'[b]? = some (.lst (bag'.map .int)) ∧ Dr mo li many many 0 T := by
  have hbl : b < μ.length := (List.getElem?_eq_some_iff.1 hb).1
  have hbf : b ≠ μ.length := by omega
  obtain ⟨ρ', μ', f1, bag', T, j5, j6, rfl, f2, f3, f4⟩ := for_idx (g := G1_u_law_ties) (body := B1_u_law_ties) nD (fun i ρ μ' => RT mo li many b μ.length i 0 ρ μ') (List.range many) 0 [some (.ob b), some (.d (nD many)), some (.d (nD mo)), some (.d (nD li)), some (.ob μ.length), none, none] (μ ++ [.lst []]) (by
    rintro i w hw ρ μ1 ⟨bag, T, j5, j6, rfl, h1, h2, h3⟩
    obtain ⟨hi, rfl⟩ : i < many ∧ i = w := by
      obtain ⟨h1, h2⟩ := List.getElem?_eq_some_iff.1 hw
      rw [List.getElem_range] at h2
      rw [List.length_range] at h1
      exact ⟨h1, h2⟩
    rw [Nat.zero_add] at h3 ⊢
    obtain ⟨ρ2, μ2, g1, ⟨bag2, T2, i5, i6, ge, g2, g3, g4⟩, i7, rfl⟩ := for_idx (g := G2_u_law_ties) (body := B2_u_law_ties) nD (fun k ρ μ' => RT mo li many b μ.length i (i + 1 + k) ρ μ' ∧ ∃ j6, ρ = [some (.ob b), some (.d (nD many)), some (.d (nD mo)), some (.d (nD li)), some (.ob μ.length), some (.d (nD i)), j6]) (List.range' (i + 1) (many - (i + 1))) 0 [some (.ob b), some (.d (nD many)), some (.d (nD mo)), some (.d (nD li)), some (.ob μ.length), some (.d (nD i)), j6] μ1 (by
      rintro k w hk ρ μ3 ⟨⟨bag, T, j5, j6, e1, h1, h2, h3⟩, j6', rfl⟩
      rw [Nat.zero_add] at h3 ⊢
      obtain ⟨hk1, hk2⟩ := List.getElem?_eq_some_iff.1 hk
      rw [List.getElem_range'] at hk2
      rw [List.length_range'] at hk1
      have hw : w = i + 1 + k := by omega
      subst hw
      obtain ⟨μ4, s1, s2⟩ := ties_step hmo hli hbf (show i < i + 1 + k by omega) (by omega) h1 h2 h3
      exact ⟨_, _, μ4, rfl, s1, s2, _, rfl⟩) ⟨⟨bag, T, _, _, rfl, h1, h2, h3.mono (.inr ⟨rfl, by omega⟩)⟩, _, rfl⟩
    refine ⟨[some (.ob b), some (.d (nD many)), some (.d (nD mo)), some (.d (nD li)), some (.ob μ.length), some (.d (nD i)), j6], [some (.ob b), some (.d (nD many)), some (.d (nD mo)), some (.d (nD li)), some (.ob μ.length), some (.d (nD i)), i7], μ2, rfl, ?_, bag2, T2, _, _, rfl, g2, g3, g4.mono (.inl (by omega))⟩
    refine for_nx (ds := (List.range' (i + 1) (many - (i + 1))).map nD) (μ1 := μ1) (rng2_n (lo := i + 1) (hi := many) ?_ rfl (by omega) (by omega)) g1
    simp) ⟨bag, [], _, _, rfl, by rw [List.getElem?_append_left hbl]; exact hb, by rw [List.getElem?_append_right (Nat.le_refl _)]; simp, ⟨fun _ h => (nomatch h), fun _ h => (nomatch h), by simp, List.Pairwise.nil, fun _ h => (nomatch h)⟩⟩
  refine ⟨T, bag', μ', fm_rt ?_, f2, ?_⟩
  · have r0 : rho0 3 [.ob b, .d (nD many), .d (nD mo), .d (nD li)] = [some (.ob b), some (.d (nD many)), some (.d (nD mo)), some (.d (nD li)), none, none, none] := rfl
    rw [F_u_law_ties_eq, r0]
    refine (seq_nx (ρ' := [some (.ob b), some (.d (nD many)), some (.d (nD mo)), some (.d (nD li)), some (.ob μ.length), none, none]) (μ' := μ ++ [.lst []]) rfl).trans ?_
    refine (seq_nx (for_nx (ds := (List.range many).map nD) (μ1 := μ ++ [.lst []]) ?_ f1)).trans ?_
    · have := rngR_n (μ := μ ++ [.lst []]) (n := many) (by omega)
      simp [this]
    · simp [f3, eTs]
  · rw [Nat.zero_add, List.length_range] at f4
    exact f4

theorem choice_eq {μ : Store} {b : Nat} {bag : List Int} {ds : List D} (hb : μ[b]? = some (.lst (bag.map .int))) (hd : ds ≠ []) : ∃ x, x ∈ ds ∧ m_u_law_choice [.ob b, .d (.lst ds)] μ = .ok (.d x) (μ.set b (.lst (bag.tail.map .int))) := by
  have hl : 0 < ds.length := List.length_pos_iff.2 hd
  have t := take_eq (many := (ds.length : Int)) hb (by omega)
  obtain ⟨h1, h2⟩ := tkR_lt (bag := bag) (many := (ds.length : Int)) (by omega)
  obtain ⟨k, hk⟩ : ∃ k : Nat, tkR bag (ds.length : Int) = k := ⟨(tkR bag (ds.length : Int)).toNat, by omega⟩
  have hk2 : k < ds.length := by omega
  refine ⟨ds[k], List.getElem_mem hk2, fm_rtx ?_⟩
  have r0 : rho0 0 [.ob b, .d (.lst ds)] = [some (.ob b), some (.d (.lst ds))] := rfl
  have g : ds[k]? = some ds[k] := List.getElem?_eq_getElem hk2
  rw [r0]
  rw [hk] at t
  generalize ds[k] = x at *
  simp [F_u_law_choice, t, g]

end Bt

set_option linter.all false
set_option maxRecDepth 100000
set_option maxHeartbeats 1000000
/-! K01P8: drawn webs are right webs -/
namespace DL
open PySem L2
/-- a comprehension whose items change the store -/
theorem lc_inv {γ δ : Type} {vs : List Nat} {g : GF} {e : EF} {ρ : Rho} (enc : γ → D) (out : δ → D) (R : Store → Prop) (Q : γ → δ → Prop) : ∀ (xs : List γ) (μ : Store), R μ → (∀ x, x ∈ xs → ∀ μ, R μ → ∃ ρ1 y μ', g (.d (enc x)) (wipeR ρ vs) = some ρ1 ∧ e ρ1 μ = .ok (.d (out y)) μ' ∧ Q x y ∧ R μ') →
    ∃ (ys : List δ) (μ' : Store), lcL vs g bYes e ρ (xs.map enc) μ = .ok (ys.map out) μ' ∧ R μ' ∧ ys.length = xs.length ∧ ∀ (i : Nat) (x : γ) (y : δ), xs[i]? = some x → ys[i]? = some y → Q x y
  | [], μ, h, _ => ⟨[], μ, rfl, h, rfl, fun _ _ _ h => by simp at h⟩
  | x :: xs, μ, h, st => by
    obtain ⟨ρ1, y, μ1, h1, h2, h3, h4⟩ := st x (List.mem_cons_self ..) μ h
    obtain ⟨ys, μ2, k1, k2, k3, k4⟩ := lc_inv (vs := vs) (g := g) (e := e) (ρ := ρ) enc out R Q xs μ1 h4 fun z hz => st z (List.mem_cons_of_mem _ hz)
    refine ⟨y :: ys, μ2, by simp only [List.map_cons, lcL, h1, bYes_eq, h2, k1], k2, by simp [k3], fun i a b ha hb => ?_⟩
    cases i with
    | zero => cases ha; cases hb; exact h3
    | succ i => exact k4 i a b ha hb
theorem fn_lst2 {ρ : Rho} {μ μ1 : Store} {q : List D → Option D} {fl : EF} {ds : List D} {d : D} (h : fl ρ μ = .ok (.d (.lst ds)) μ1) (hq : q [.lst ds] = some d) : eN q (aCons fl aNil) ρ μ = .ok (.d d) μ1 := by
  rw [eN_eq, aCons_eq, h]; simp [hq]
end DL
namespace Bt
open PySem DL LV
def RW (b f many : Nat) (T : List Tl) (nr : Int) (i : Nat) (ρ : Rho) (μ : Store) : Prop := ∃ (bag : List Int) (P : List Pl) (j5 j6 : Option Sl), ρ = [some (.ob b), some (.d (nD many)), some (.d (eTs T)), some (.ob f), some (.d (.int nr)), j5, j6] ∧ μ[b]? = some (.lst (bag.map .int)) ∧ μ[f]? = some (.lst (P.map eP)) ∧ P.length = i ∧ ∀ p, p ∈ P → 0 ≤ p.1 ∧ p.1 ≤ p.2 ∧ p.2 ≤ 5
theorem web_step {b f many i : Nat} {T : List Tl} {nr : Int} (hbf : b ≠ f) (hi : i ≤ 100) {bag : List Int} {P : List Pl} {j6 : Option Sl} {μ : Store} (h1 : μ[b]? = some (.lst (bag.map .int))) (h2 : μ[f]? = some (.lst (P.map eP))) (hl : P.length = i) (hp : ∀ p, p ∈ P → 0 ≤ p.1 ∧ p.1 ≤ p.2 ∧ p.2 ≤ 5) :
    ∃ ρ' μ', B1_u_law_web [some (.ob b), some (.d (nD many)), some (.d (eTs T)), some (.ob f), some (.d (.int nr)), some (.d (nD i)), j6] μ = .nx ρ' μ' ∧ RW b f many T nr (i + 1) ρ' μ' := by
  have hb : b < μ.length := (List.getElem?_eq_some_iff.1 h1).1
  have hf : f < μ.length := (List.getElem?_eq_some_iff.1 h2).1
  have t1 := take_eq (many := 4) h1 (by omega)
  have g1 : (μ.set b (.lst (bag.tail.map .int)))[b]? = some (.lst (bag.tail.map .int)) := get_set_eq hb
  have g2 : (μ.set b (.lst (bag.tail.map .int)))[f]? = some (.lst (P.map eP)) := by rw [get_set_ne hbf]; exact h2
  have g3 : f < (μ.set b (.lst (bag.tail.map .int))).length := by rw [List.length_set]; exact hf
  have g4 : b < (μ.set b (.lst (bag.tail.map .int))).length := by rw [List.length_set]; exact hb
  obtain ⟨l1, l2⟩ := tkR_lt (bag := bag) (many := 4) (by omega)
  generalize hMU : μ.set b (.lst (bag.tail.map D.int)) = MU at *
  generalize hl0 : tkR bag 4 = l at *
  have hlen : (P.map eP).length < 16777216 := by simp; omega
  -- what is added to the least
  have add : ∃ (r : Int) (bag2 : List Int) (NU : Store), eIf (bAnd (bV (e2 eqD (eV 4) (eC (.int 0)))) (bV (e2 gtD (eCallM 2 m_u_law_take (aCons (eV 0) (aCons (eC (.int 4)) (aNil)))) (eC (.int 0))))) (eC (.int 0)) (eCallM 2 m_u_law_take (aCons (eV 0) (aCons (eC (.int 3)) (aNil)))) [some (.ob b), some (.d (nD many)), some (.d (eTs T)), some (.ob f), some (.d (.int nr)), some (.d (nD i)), some (.d (.int l))] MU = .ok (.d (.int r)) NU ∧ 0 ≤ r ∧ r ≤ 2 ∧ NU[b]? = some (.lst (bag2.map .int)) ∧ NU[f]? = some (.lst (P.map eP)) ∧ f < NU.length := by
    by_cases q : nr = 0
    · have t2 := take_eq (many := 4) g1 (by omega)
      have u1 : (MU.set b (.lst (bag.tail.tail.map .int)))[b]? = some (.lst (bag.tail.tail.map .int)) := get_set_eq g4
      have u2 : (MU.set b (.lst (bag.tail.tail.map .int)))[f]? = some (.lst (P.map eP)) := by rw [get_set_ne hbf]; exact g2
      have u3 : f < (MU.set b (.lst (bag.tail.tail.map .int))).length := by rw [List.length_set]; exact g3
      have u4 : b < (MU.set b (.lst (bag.tail.tail.map .int))).length := by rw [List.length_set]; exact g4
      by_cases q2 : tkR bag.tail 4 > 0
      · refine ⟨0, bag.tail.tail, _, ?_, Int.le_refl _, by omega, u1, u2, u3⟩
        generalize eTs T = TT at *
        simp [q, t2, q2]
      · generalize hNU : MU.set b (.lst (bag.tail.tail.map D.int)) = NU at *
        have t3 := take_eq (many := 3) u1 (by omega)
        obtain ⟨r1, r2⟩ := tkR_lt (bag := bag.tail.tail) (many := 3) (by omega)
        refine ⟨tkR bag.tail.tail 3, bag.tail.tail.tail, NU.set b (.lst (bag.tail.tail.tail.map .int)), ?_, r1, by omega, get_set_eq u4, by rw [get_set_ne hbf]; exact u2, by rw [List.length_set]; exact u3⟩
        generalize eTs T = TT at *
        simp [q, t2, q2, t3]
    · have t3 := take_eq (many := 3) g1 (by omega)
      obtain ⟨r1, r2⟩ := tkR_lt (bag := bag.tail) (many := 3) (by omega)
      refine ⟨tkR bag.tail 3, bag.tail.tail, MU.set b (.lst (bag.tail.tail.map .int)), ?_, r1, by omega, get_set_eq g4, by rw [get_set_ne hbf]; exact g2, by rw [List.length_set]; exact g3⟩
      generalize eTs T = TT at *
      simp [q, t3]
  obtain ⟨r, bag2, NU, a1, a2, a3, a4, a5, a6⟩ := add
  refine ⟨[some (.ob b), some (.d (nD many)), some (.d (eTs T)), some (.ob f), some (.d (.int nr)), some (.d (nD i)), some (.d (.int l))], NU.set f (.lst ((P ++ [(l, l + r)]).map eP)), ?_, bag2, P ++ [(l, l + r)], _, _, rfl, by rw [get_set_ne (Ne.symm hbf)]; exact a4, get_set_eq a6, by simp [hl], fun p hp' => ?_⟩
  · unfold B1_u_law_web
    refine (seq_nx (ρ' := [some (.ob b), some (.d (nD many)), some (.d (eTs T)), some (.ob f), some (.d (.int nr)), some (.d (nD i)), some (.d (.int l))]) (μ' := MU) ?_).trans ?_
    · generalize eTs T = TT at *
      simp [t1]
    · have eP1 : eP (l, l + r) = .tup [.int l, .int (l + r)] := rfl
      rw [List.map_append, List.map_cons, List.map_nil, eP1]
      rw [sExp_eq, eApp_eq]
      generalize eIf (bAnd (bV (e2 eqD (eV 4) (eC (.int 0)))) (bV (e2 gtD (eCallM 2 m_u_law_take (aCons (eV 0) (aCons (eC (.int 4)) (aNil)))) (eC (.int 0))))) (eC (.int 0)) (eCallM 2 m_u_law_take (aCons (eV 0) (aCons (eC (.int 3)) (aNil)))) = EE at *
      generalize P.map eP = PP at *
      generalize eTs T = TT at *
      simp at a1
      simp [g2, a1, a5, hlen]
  · rcases List.mem_append.1 hp' with k | k
    · exact hp p k
    · rw [List.mem_singleton] at k
      subst k
      exact ⟨l1, by show l ≤ l + r; omega, by show l + r ≤ 5; omega⟩
theorem web_eq {μ : Store} {b : Nat} {bag : List Int} (hb : μ[b]? = some (.lst (bag.map .int))) : ∃ (P : List Pl) (T : List Tl) (bag' : List Int) (μ' : Store), m_u_law_web [.ob b] μ = .ok (.d (eW P T)) μ' ∧ μ'[b]? = some (.lst (bag'.map .int)) ∧ WebOk P T := by
  have hbl : b < μ.length := (List.getElem?_eq_some_iff.1 hb).1
  have t1 := take_eq (many := 4) hb (by omega)
  obtain ⟨m1, m2⟩ := tkR_lt (bag := bag) (many := 4) (by omega)
  have g1 : (μ.set b (.lst (bag.tail.map .int)))[b]? = some (.lst (bag.tail.map .int)) := get_set_eq hbl
  generalize hMU : μ.set b (.lst (bag.tail.map D.int)) = MU at *
  obtain ⟨many, hmany⟩ : ∃ many : Nat, (many : Int) = 1 + tkR bag 4 := ⟨(1 + tkR bag 4).toNat, by omega⟩
  obtain ⟨T, bag2, NU, t2, g2, hT⟩ := ties_eq (mo := 5) (li := 2) (by omega) (by omega) (many := many) g1 (by omega)
  have hbn : b < NU.length := (List.getElem?_eq_some_iff.1 g2).1
  have g3 : (NU ++ [MO.lst []])[b]? = some (.lst (bag2.map .int)) := by rw [List.getElem?_append_left hbn]; exact g2
  have g4 : (NU ++ [MO.lst []])[NU.length]? = some (.lst []) := by rw [List.getElem?_append_right (Nat.le_refl _)]; simp
  have t3 := take_eq (many := 2) g3 (by omega)
  have hbf : b ≠ NU.length := by omega
  have g5 : ((NU ++ [MO.lst []]).set b (.lst (bag2.tail.map .int)))[b]? = some (.lst (bag2.tail.map .int)) := get_set_eq (by simp; omega)
  have g6 : ((NU ++ [MO.lst []]).set b (.lst (bag2.tail.map .int)))[NU.length]? = some (.lst []) := by rw [get_set_ne hbf]; exact g4
  generalize hKU : (NU ++ [MO.lst []]).set b (.lst (bag2.tail.map D.int)) = KU at *
  generalize hnr : tkR bag2 2 = nr at *
  obtain ⟨ρ', μ', f1, bag3, P, j5, j6, rfl, f2, f3, f4, f5⟩ := for_idx (g := G1_u_law_web) (body := B1_u_law_web) nD (fun i ρ μ' => RW b NU.length many T nr i ρ μ') (List.range many) 0 [some (.ob b), some (.d (nD many)), some (.d (eTs T)), some (.ob NU.length), some (.d (.int nr)), none, none] KU (by
    rintro i w hw ρ μ1 ⟨bag, P, j5, j6, rfl, h1, h2, h3, h4⟩
    obtain ⟨hi, rfl⟩ : i < many ∧ i = w := by
      obtain ⟨h1, h2⟩ := List.getElem?_eq_some_iff.1 hw
      rw [List.getElem_range] at h2
      rw [List.length_range] at h1
      exact ⟨h1, h2⟩
    rw [Nat.zero_add] at h3 ⊢
    obtain ⟨ρ2, μ2, s1, s2⟩ := web_step (many := many) (T := T) (nr := nr) (j6 := j6) hbf (by omega) h1 h2 h3 h4
    exact ⟨_, ρ2, μ2, rfl, s1, s2⟩) ⟨bag2.tail, [], _, _, rfl, g5, g6, rfl, fun _ h => (nomatch h)⟩
  rw [Nat.zero_add, List.length_range] at f4
  refine ⟨P, T, bag3, μ', fm_rt ?_, f2, ⟨by omega, by omega, fun p hp => ?_, by have := hT.len; omega, by rw [f4]; exact hT.ok, fun t ht => ?_, pair_next2 hT.srt⟩⟩
  · have r0 : rho0 6 [.ob b] = [some (.ob b), none, none, none, none, none, none] := rfl
    rw [F_u_law_web_eq, r0]
    refine (seq_nx (ρ' := [some (.ob b), some (.d (nD many)), none, none, none, none, none]) (μ' := MU) ?_).trans ?_
    · simp [t1, hmany]
    refine (seq_nx (ρ' := [some (.ob b), some (.d (nD many)), some (.d (eTs T)), some (.ob NU.length), none, none, none]) (μ' := NU ++ [.lst []]) ?_).trans ?_
    · simp at t2
      simp [t2]
    refine (seq_nx (ρ' := [some (.ob b), some (.d (nD many)), some (.d (eTs T)), some (.ob NU.length), some (.d (.int nr)), none, none]) (μ' := KU) ?_).trans ?_
    · generalize NU ++ [MO.lst []] = LU at *
      simp [t3]
    refine (seq_nx (for_nx (ds := (List.range many).map nD) (μ1 := KU) ?_ f1)).trans ?_
    · have := rngR_n (μ := KU) (n := many) (by omega)
      simp [this]
    · simp [f3, eW, ePs]
  · have := f5 p hp
    exact ⟨this.1, this.2.1, by show p.2 ≤ 1000000000000000000000000000000; omega⟩
  · have := hT.two t ht
    show t.2.2 ≤ 1000000000000000000000000000000
    omega

/-! the bag goes on -/
structure Nxt (b : Nat) (μ μ' : Store) : Prop where
  bag : ∃ bag : List Int, μ'[b]? = some (.lst (bag.map .int))
  oth : ∀ f, f ≠ b → μ'[f]? = μ[f]?
  len : μ'.length = μ.length
def Bg (b : Nat) (μ : Store) : Prop := ∃ bag : List Int, μ[b]? = some (.lst (bag.map .int))
theorem Nxt.trans {b : Nat} {μ μ1 μ2 : Store} (h : Nxt b μ μ1) (k : Nxt b μ1 μ2) : Nxt b μ μ2 := ⟨k.bag, fun f hf => (k.oth f hf).trans (h.oth f hf), k.len.trans h.len⟩
theorem Nxt.of_set {b : Nat} {μ : Store} {bag bag' : List Int} (h : μ[b]? = some (.lst (bag.map .int))) : Nxt b μ (μ.set b (.lst (bag'.map .int))) := by
  have hb : b < μ.length := (List.getElem?_eq_some_iff.1 h).1
  exact ⟨⟨bag', get_set_eq hb⟩, fun f hf => get_set_ne (Ne.symm hf), List.length_set⟩
theorem take_x {b : Nat} {μ : Store} {many : Int} (h : Bg b μ) (hm : 0 < many) : ∃ (r : Int) (μ' : Store), m_u_law_take [.ob b, .d (.int many)] μ = .ok (.d (.int r)) μ' ∧ 0 ≤ r ∧ r < many ∧ Nxt b μ μ' := by
  obtain ⟨bag, hb⟩ := h
  obtain ⟨h1, h2⟩ := tkR_lt (bag := bag) hm
  exact ⟨_, _, take_eq hb hm, h1, h2, Nxt.of_set hb⟩
theorem choice_x {b : Nat} {μ : Store} {ds : List D} (h : Bg b μ) (hd : ds ≠ []) : ∃ (x : D) (μ' : Store), m_u_law_choice [.ob b, .d (.lst ds)] μ = .ok (.d x) μ' ∧ x ∈ ds ∧ Nxt b μ μ' := by
  obtain ⟨bag, hb⟩ := h
  obtain ⟨x, h1, h2⟩ := choice_eq hb hd
  exact ⟨x, _, h2, h1, Nxt.of_set hb⟩
theorem same_pairs : ∀ {T T' : List Tl}, T'.length = T.length → (∀ (i : Nat) (x y : Tl), T[i]? = some x → T'[i]? = some y → y.1 = x.1 ∧ y.2.1 = x.2.1) → T'.map (fun t => (t.1, t.2.1)) = T.map (fun t => (t.1, t.2.1))
  | [], [], _, _ => rfl
  | [], _ :: _, h, _ => by simp at h
  | _ :: _, [], h, _ => by simp at h
  | x :: T, y :: T', h, k => by
    have h0 := k 0 x y rfl rfl
    have := same_pairs (T := T) (T' := T') (by simpa using h) fun i a b ha hb => k (i + 1) a b ha hb
    simp only [List.map_cons, this, h0.1, h0.2]
theorem srt_map {T : List Tl} : T.Pairwise lt2 ↔ (T.map (fun t => (t.1, t.2.1))).Pairwise fun s t => s.1 < t.1 ∨ (s.1 = t.1 ∧ s.2 < t.2) := by
  rw [List.pairwise_map]; rfl
theorem get_out {T T' : List Tl} {y : Tl} (hl : T'.length = T.length) (hy : y ∈ T') : ∃ (i : Nat) (x : Tl), T[i]? = some x ∧ T'[i]? = some y ∧ x ∈ T := by
  obtain ⟨i, h1, h2⟩ := List.getElem_of_mem hy
  have hi : i < T.length := by omega
  exact ⟨i, T[i], List.getElem?_eq_getElem hi, by rw [List.getElem?_eq_getElem h1, h2], List.getElem_mem hi⟩
theorem pw29 : powD (.int 10) (.int 29) = some (.int 100000000000000000000000000000) := rfl
def RG (b f many : Nat) (T : List Tl) (u : Int) (j7 j8 j9 : Option Sl) (i : Nat) (ρ : Rho) (μ : Store) : Prop := ∃ (P : List Pl) (j5 j6 : Option Sl), ρ = [some (.ob b), some (.d (nD many)), some (.d (eTs T)), some (.d (.int u)), some (.ob f), j5, j6, j7, j8, j9] ∧ Bg b μ ∧ μ[f]? = some (.lst (P.map eP)) ∧ P.length = i ∧ ∀ p, p ∈ P → 0 ≤ p.1 ∧ p.1 ≤ p.2 ∧ p.2 ≤ far
theorem great_step {b f many i : Nat} {T : List Tl} {u : Int} (hu : 100000000000000000000000000000 ≤ u ∧ u ≤ 100000000000000000000000000999) (hbf : b ≠ f) (hi : i ≤ 100) {P : List Pl} {j6 j7 j8 j9 : Option Sl} {μ : Store} (h1 : Bg b μ) (h2 : μ[f]? = some (.lst (P.map eP))) (hl : P.length = i) (hp : ∀ p, p ∈ P → 0 ≤ p.1 ∧ p.1 ≤ p.2 ∧ p.2 ≤ far) :
    ∃ ρ' μ', B2_u_law_great_web [some (.ob b), some (.d (nD many)), some (.d (eTs T)), some (.d (.int u)), some (.ob f), some (.d (nD i)), j6, j7, j8, j9] μ = .nx ρ' μ' ∧ RG b f many T u j7 j8 j9 (i + 1) ρ' μ' := by
  obtain ⟨l, M1, t1, a1, a2, n1⟩ := take_x (many := 4) h1 (by omega)
  obtain ⟨r, M2, t2, b1, b2, n2⟩ := take_x (many := 3) n1.bag (by omega)
  obtain ⟨x, M3, t3, c1, n3⟩ := choice_x (ds := [.int 0, .int 0, .int 1, .int 2, .int u]) n2.bag (by simp)
  have hx : ∃ k : Int, x = .int k ∧ 0 ≤ k ∧ k ≤ u := by
    simp only [List.mem_cons, List.not_mem_nil, or_false] at c1
    rcases c1 with rfl | rfl | rfl | rfl | rfl
    · exact ⟨0, rfl, by omega, by omega⟩
    · exact ⟨0, rfl, by omega, by omega⟩
    · exact ⟨1, rfl, by omega, by omega⟩
    · exact ⟨2, rfl, by omega, by omega⟩
    · exact ⟨u, rfl, by omega, by omega⟩
  obtain ⟨k, rfl, k1, k2⟩ := hx
  have m1 := mul_l (i := l) (j := u) (by omega)
  have g2 : M2[f]? = some (.lst (P.map eP)) := by rw [n2.oth f (Ne.symm hbf), n1.oth f (Ne.symm hbf)]; exact h2
  have g3 : M3[f]? = some (.lst (P.map eP)) := by rw [n3.oth f (Ne.symm hbf)]; exact g2
  have hf : f < M3.length := (List.getElem?_eq_some_iff.1 g3).1
  have hlen : (P.map eP).length < 16777216 := by simp; omega
  obtain ⟨q, hq⟩ : ∃ q : Int, q = l * u := ⟨_, rfl⟩
  have q0 : 0 ≤ q := by rw [hq]; exact Int.mul_nonneg a1 (by omega)
  have q1 : q ≤ 3 * u := by rw [hq]; exact Int.mul_le_mul_of_nonneg_right (by omega) (by omega)
  rw [← hq] at m1
  refine ⟨[some (.ob b), some (.d (nD many)), some (.d (eTs T)), some (.d (.int u)), some (.ob f), some (.d (nD i)), some (.d (.int (q + r))), j7, j8, j9], M3.set f (.lst ((P ++ [(q + r, q + r + k)]).map eP)), ?_, P ++ [(q + r, q + r + k)], _, _, rfl, ?_, get_set_eq hf, by simp [hl], fun p hp' => ?_⟩
  · unfold B2_u_law_great_web
    refine (seq_nx (ρ' := [some (.ob b), some (.d (nD many)), some (.d (eTs T)), some (.d (.int u)), some (.ob f), some (.d (nD i)), some (.d (.int (q + r))), j7, j8, j9]) (μ' := M2) ?_).trans ?_
    · generalize eTs T = TT at *
      simp [t1, -mulD_i, m1, t2]
    · have eP1 : eP (q + r, q + r + k) = .tup [.int (q + r), .int (q + r + k)] := rfl
      rw [List.map_append, List.map_cons, List.map_nil, eP1]
      generalize P.map eP = PP at *
      generalize eTs T = TT at *
      simp [g2, t3, g3, hlen]
  · obtain ⟨bg, hb⟩ := n3.bag
    exact ⟨bg, by rw [get_set_ne (Ne.symm hbf)]; exact hb⟩
  · rcases List.mem_append.1 hp' with z | z
    · exact hp p z
    · rw [List.mem_singleton] at z
      subst z
      exact ⟨by show 0 ≤ q + r; omega, by show q + r ≤ q + r + k; omega, by show q + r + k ≤ 1000000000000000000000000000000; omega⟩
theorem great_eq {μ : Store} {b : Nat} (hb : Bg b μ) : ∃ (P : List Pl) (T : List Tl) (μ' : Store), m_u_law_great_web [.ob b] μ = .ok (.d (eW P T)) μ' ∧ Bg b μ' ∧ WebOk P T := by
  obtain ⟨k, MU, t1, k1, k2, n1⟩ := take_x (many := 3) hb (by omega)
  obtain ⟨many, hmany⟩ : ∃ many : Nat, (many : Int) = 2 + k := ⟨(2 + k).toNat, by omega⟩
  obtain ⟨bag1, hb1⟩ := n1.bag
  obtain ⟨T, bag2, NU, t2, g2, hT⟩ := ties_eq (mo := 4) (li := 3) (by omega) (by omega) (many := many) hb1 (by omega)
  obtain ⟨w, OU, t3, w1, w2, n3⟩ := take_x (b := b) (μ := NU) (many := 1000) ⟨_, g2⟩ (by omega)
  obtain ⟨u, hu⟩ : ∃ u : Int, u = 100000000000000000000000000000 + w := ⟨_, rfl⟩
  have hu2 : 100000000000000000000000000000 ≤ u ∧ u ≤ 100000000000000000000000000999 := by omega
  -- the ties made great
  obtain ⟨T2, PU, s1, s2, s3, s4⟩ := lc_inv (vs := [7, 8, 9]) (g := G1_u_law_great_web) (e := E1_u_law_great_web) (ρ := [some (.ob b), some (.d (nD many)), some (.d (eTs T)), some (.d (.int u)), none, none, none, none, none, none]) eT eT (fun μ => Bg b μ) (fun x y : Tl => y.1 = x.1 ∧ y.2.1 = x.2.1 ∧ 0 < y.2.2 ∧ y.2.2 ≤ far) T OU n3.bag (by
    rintro ⟨a, c, li⟩ ht μ hμ
    have h3 := hT.two _ ht
    have h4 := (hT.ok _ ht).2.2
    dsimp only at h3 h4
    have h3 : li ≤ 3 := h3
    obtain ⟨r, μ', t5, r1, r2, n5⟩ := take_x (many := 3) hμ (by omega)
    have m1 := mul_l (i := li) (j := u) (by omega)
    obtain ⟨q, hq⟩ : ∃ q : Int, q = li * u := ⟨_, rfl⟩
    have q0 : 1 * u ≤ q := by rw [hq]; exact Int.mul_le_mul_of_nonneg_right (by omega) (by omega)
    have q1 : q ≤ 3 * u := by rw [hq]; exact Int.mul_le_mul_of_nonneg_right (by omega) (by omega)
    rw [← hq] at m1
    refine ⟨[some (.ob b), some (.d (nD many)), some (.d (eTs T)), some (.d (.int u)), none, none, none, some (.d (nD a)), some (.d (nD c)), some (.d (.int li))], (a, c, q + r), μ', rfl, ?_, ⟨rfl, rfl, by show 0 < q + r; omega, by show q + r ≤ 1000000000000000000000000000000; omega⟩, n5.bag⟩
    have e1 : eT (a, c, q + r) = .tup [.int a, .int c, .int (q + r)] := rfl
    rw [e1]
    generalize eTs T = TT at *
    simp [E1_u_law_great_web, -mulD_i, m1, t5])
  have ht4 : T2.length ≤ 4 := by have := hT.len; omega
  have c1 : eFrz (lLc [7, 8, 9] (sSq (eV 2)) G1_u_law_great_web (bYes) E1_u_law_great_web) [some (.ob b), some (.d (nD many)), some (.d (eTs T)), some (.d (.int u)), none, none, none, none, none, none] OU = .ok (.d (.lst (T2.map eT))) PU := by
    rw [eFrz_eq, lLc_eq]
    have : sSq (eV 2) [some (.ob b), some (.d (nD many)), some (.d (eTs T)), some (.d (.int u)), none, none, none, none, none, none] OU = .ok (T.map eT) OU := by simp [eTs]
    rw [this, rbind_ok, s1, lcap_ok, List.length_map, if_pos (by omega)]; rfl
  obtain ⟨bag3, g3⟩ := s2
  have hbn : b < PU.length := (List.getElem?_eq_some_iff.1 g3).1
  have hbf : b ≠ PU.length := by omega
  have g4 : (PU ++ [MO.lst []])[b]? = some (.lst (bag3.map .int)) := by rw [List.getElem?_append_left hbn]; exact g3
  have g5 : (PU ++ [MO.lst []])[PU.length]? = some (.lst []) := by rw [List.getElem?_append_right (Nat.le_refl _)]; simp
  obtain ⟨ρ', μ', f1, P, j5, j6, rfl, f2, f3, f4, f5⟩ := for_idx (g := G2_u_law_great_web) (body := B2_u_law_great_web) nD (fun i ρ μ' => RG b PU.length many T2 u none none none i ρ μ') (List.range many) 0 [some (.ob b), some (.d (nD many)), some (.d (eTs T2)), some (.d (.int u)), some (.ob PU.length), none, none, none, none, none] (PU ++ [.lst []]) (by
    rintro i w hw ρ μ1 ⟨P, j5, j6, rfl, h1, h2, h3, h4⟩
    obtain ⟨hi, rfl⟩ : i < many ∧ i = w := by
      obtain ⟨h1, h2⟩ := List.getElem?_eq_some_iff.1 hw
      rw [List.getElem_range] at h2
      rw [List.length_range] at h1
      exact ⟨h1, h2⟩
    rw [Nat.zero_add] at h3 ⊢
    obtain ⟨ρ2, μ2, s1, s2⟩ := great_step (many := many) (T := T2) (u := u) (j6 := j6) (j7 := none) (j8 := none) (j9 := none) hu2 hbf (by omega) h1 h2 h3 h4
    exact ⟨_, ρ2, μ2, rfl, s1, s2⟩) ⟨[], _, _, rfl, ⟨_, g4⟩, g5, rfl, fun _ h => (nomatch h)⟩
  rw [Nat.zero_add, List.length_range] at f4
  refine ⟨P, T2, μ', fm_rt ?_, f2, ⟨by omega, by omega, fun p hp => f5 p hp, by omega, fun t ht => ?_, fun t ht => ?_, pair_next2 ?_⟩⟩
  · have r0 : rho0 9 [.ob b] = [some (.ob b), none, none, none, none, none, none, none, none, none] := rfl
    rw [F_u_law_great_web_eq, r0]
    refine (seq_nx (ρ' := [some (.ob b), some (.d (nD many)), none, none, none, none, none, none, none, none]) (μ' := MU) ?_).trans ?_
    · simp [t1, hmany]
    refine (seq_nx (ρ' := [some (.ob b), some (.d (nD many)), some (.d (eTs T)), some (.d (.int u)), none, none, none, none, none, none]) (μ' := OU) ?_).trans ?_
    · simp at t2
      rw [hu]
      simp [t2, pw29, t3]
    refine (seq_nx (ρ' := [some (.ob b), some (.d (nD many)), some (.d (eTs T2)), some (.d (.int u)), none, none, none, none, none, none]) (μ' := PU) ?_).trans ?_
    · rw [sAsg_eq, fn_lst2 c1 (d := eTs T2) rfl]; rfl
    refine (seq_nx (ρ' := [some (.ob b), some (.d (nD many)), some (.d (eTs T2)), some (.d (.int u)), some (.ob PU.length), none, none, none, none, none]) (μ' := PU ++ [.lst []]) rfl).trans ?_
    refine (seq_nx (for_nx (ds := (List.range many).map nD) (μ1 := PU ++ [.lst []]) ?_ f1)).trans ?_
    · have := rngR_n (μ := PU ++ [.lst []]) (n := many) (by omega)
      simp [this]
    · simp [f3, eW, ePs]
  · obtain ⟨i, x, h1, h2, h3⟩ := get_out s3 ht
    have h4 := s4 i x t h1 h2
    have h5 := hT.ok x h3
    rw [f4]
    exact ⟨by rw [h4.1, h4.2.1]; exact h5.1, by rw [h4.2.1]; exact h5.2.1, h4.2.2.1⟩
  · obtain ⟨i, x, h1, h2, h3⟩ := get_out s3 ht
    exact (s4 i x t h1 h2).2.2.2
  · rw [srt_map, same_pairs s3 fun i x y h1 h2 => ⟨(s4 i x y h1 h2).1, (s4 i x y h1 h2).2.1⟩, ← srt_map]
    exact hT.srt

end Bt

set_option linter.all false
set_option maxRecDepth 100000
set_option maxHeartbeats 1000000
/-! X1: texts cut at one sign and put together again -/
namespace Bt
open PySem DL LV L2 TL
/-- cut at each c -/
def sp (c : Nat) : List Nat → List (List Nat)
  | [] => [[]]
  | x :: r => if x = c then [] :: sp c r else match sp c r with
    | [] => [[x]]
    | p :: ps => (x :: p) :: ps
theorem sp_ne (c : Nat) : ∀ l, sp c l ≠ []
  | [] => by simp [sp]
  | x :: r => by
    unfold sp
    split
    · simp
    · split <;> simp
def addH (acc : List Nat) : List (List Nat) → List (List Nat)
  | [] => [acc]
  | p :: ps => (acc ++ p) :: ps
theorem addH_nil {L : List (List Nat)} (h : L ≠ []) : addH [] L = L := by
  cases L with
  | nil => exact absurd rfl h
  | cons p ps => rfl
theorem sp_hit (c : Nat) (r : List Nat) : sp c (c :: r) = [] :: sp c r := by simp [sp]
theorem sp_miss {c x : Nat} {r p : List Nat} {ps : List (List Nat)} (h : x ≠ c) (e : sp c r = p :: ps) : sp c (x :: r) = (x :: p) :: ps := by
  simp [sp, h, e]
theorem spl_sp (c : Nat) : ∀ (l acc : List Nat), spl [c] 0 acc l = addH acc (sp c l)
  | [], acc => by rw [spl_nil]; simp [sp, addH]
  | x :: r, acc => by
    by_cases h : x = c
    · subst h
      rw [spl_hit (by simp [pre]), sp_hit]
      show acc :: spl [x] 0 [] r = _
      rw [spl_sp x r [], addH_nil (sp_ne x r)]
      simp [addH]
    · rw [spl_miss (by simp [pre, h]), spl_sp c r (acc ++ [x])]
      cases e : sp c r with
      | nil => exact absurd e (sp_ne c r)
      | cons p ps => rw [sp_miss h e]; simp [addH]
theorem join_sp (c : Nat) : ∀ l, joinL [c] (sp c l) = l
  | [] => rfl
  | x :: r => by
    have ih := join_sp c r
    by_cases h : x = c
    · subst h
      rw [sp_hit]
      cases e : sp x r with
      | nil => exact absurd e (sp_ne x r)
      | cons p ps =>
        rw [e] at ih
        show [] ++ ([x] ++ joinL [x] (p :: ps)) = x :: r
        rw [ih]; rfl
    · cases e : sp c r with
      | nil => exact absurd e (sp_ne c r)
      | cons p ps =>
        rw [sp_miss h e]
        rw [e] at ih
        rw [← ih]
        cases ps with
        | nil => rfl
        | cons q qs => rfl
theorem sp_free (c : Nat) : ∀ (l : List Nat), ∀ p, p ∈ sp c l → c ∉ p
  | [], p, h => by
    simp [sp] at h; subst h; simp
  | x :: r, p, h => by
    by_cases k : x = c
    · subst k
      rw [sp_hit] at h
      rcases List.mem_cons.1 h with rfl | h
      · simp
      · exact sp_free x r p h
    · cases e : sp c r with
      | nil => exact absurd e (sp_ne c r)
      | cons q qs =>
        have ih := sp_free c r
        rw [e] at ih
        rw [sp_miss k e] at h
        rcases List.mem_cons.1 h with rfl | h
        · have := ih q (List.mem_cons_self ..)
          rw [List.mem_cons]
          rintro (z | z)
          · exact k z.symm
          · exact this z
        · exact ih p (List.mem_cons_of_mem _ h)
theorem sp_join {c : Nat} {parts : List (List Nat)} (h : parts ≠ []) (hp : ∀ p, p ∈ parts → c ∉ p) : sp c (joinL [c] parts) = parts := by
  have e := spl_join (s := c) (S := []) h hp
  rw [spl_sp, addH_nil (sp_ne _ _)] at e
  exact e
/-- each sign of a part is a sign of the whole -/
theorem sp_sub (c : Nat) : ∀ (l : List Nat), ∀ p, p ∈ sp c l → ∀ x, x ∈ p → x ∈ l
  | [], p, h, x, hx => by
    simp [sp] at h; subst h; cases hx
  | y :: r, p, h, x, hx => by
    by_cases k : y = c
    · subst k
      rw [sp_hit] at h
      rcases List.mem_cons.1 h with rfl | h
      · cases hx
      · exact List.mem_cons_of_mem _ (sp_sub y r p h x hx)
    · cases e : sp c r with
      | nil => exact absurd e (sp_ne c r)
      | cons q qs =>
        have ih := sp_sub c r
        rw [e] at ih
        rw [sp_miss k e] at h
        rcases List.mem_cons.1 h with rfl | h
        · rcases List.mem_cons.1 hx with rfl | hx
          · exact List.mem_cons_self ..
          · exact List.mem_cons_of_mem _ (ih q (List.mem_cons_self ..) x hx)
        · exact List.mem_cons_of_mem _ (ih p (List.mem_cons_of_mem _ h) x hx)
/-- how long all parts are, each with its end -/
def tot (ls : List (List Nat)) : Nat := (ls.map List.length).sum + ls.length
theorem tot_cons (p : List Nat) (ls : List (List Nat)) : tot (p :: ls) = p.length + 1 + tot ls := by
  unfold tot; simp; omega
theorem tot_app (a b : List (List Nat)) : tot (a ++ b) = tot a + tot b := by
  unfold tot; simp; omega
theorem tot_join (c : Nat) : ∀ {ls : List (List Nat)}, ls ≠ [] → tot ls = (joinL [c] ls).length + 1
  | [], h => absurd rfl h
  | [p], _ => by simp [tot, joinL]
  | p :: q :: r, _ => by
    rw [tot_cons, tot_join c (ls := q :: r) (by simp)]
    simp [joinL]
    omega
theorem tot_sp (c : Nat) (l : List Nat) : tot (sp c l) = l.length + 1 := by
  rw [tot_join c (sp_ne c l), join_sp]
theorem tot_rev (ls : List (List Nat)) : tot ls.reverse = tot ls := by
  unfold tot
  rw [List.length_reverse, List.map_reverse, List.sum_reverse]
theorem mem_tot {p : List Nat} : ∀ {ls : List (List Nat)}, p ∈ ls → p.length + 1 ≤ tot ls
  | q :: ls, h => by
    rw [tot_cons]
    rcases List.mem_cons.1 h with rfl | h
    · omega
    · have := mem_tot h; omega
def mk (l : List Nat) : Str := ⟨l.toArray⟩
theorem tl_mk' (l : List Nat) : tl (mk l) = l := rfl
theorem mk_tl' (s : Str) : mk (tl s) = s := mk_tl s
theorem mk_len (l : List Nat) : (mk l).length = l.length := by rw [len_tl]; rfl
theorem split_eq {x y : Str} {c : Nat} (h : tl y = [c]) (hc : c < 256) : Txt.split x y = (sp c (tl x)).map mk := by
  refine map_tl_inj ?_
  have k : y.cps.all (· < 256) = true := by
    rw [← mk_tl' y, h]
    simp [mk, hc]
  rw [split_spl x y (by rw [h]; simp) (kind_ok k), h, spl_sp, addH_nil (sp_ne _ _), List.map_map]
  symm
  exact (List.map_congr_left fun p _ => rfl).trans (List.map_id _)
theorem tl_nl : tl ("\n" : Str) = [10] := by decide +kernel
theorem tl_sp : tl (" " : Str) = [32] := by decide +kernel
/-- a text of plain signs -/
def Asc (l : List Nat) : Prop := ∀ c, c ∈ l → c < 256
theorem Asc.ok {l : List Nat} (h : Asc l) : PySem.PyData.strOk (mk l) = true := by
  unfold PySem.PyData.strOk mk
  rw [Array.all_eq_true']
  intro c hc
  have := h c (by simpa using hc)
  simp; omega
theorem Asc.part {c : Nat} {l p : List Nat} (h : Asc l) (hp : p ∈ sp c l) : Asc p := fun x hx => h x (sp_sub c l p hp x hx)
def encL (l : List Nat) : D := .str (mk l)
section
variable {ρ : Rho} {μ μ1 : Store} {f : EF}
theorem split_at {y : Str} {c : Nat} {l : List Nat} (hy : tl y = [c]) (hc : c < 256) (h : f ρ μ = .ok (.d (encL l)) μ1) (hl : l.length ≤ 1000000) : lSplit f (eC (.str y)) ρ μ = .ok ((sp c l).map encL) μ1 := by
  have e1 : ((y.length == 0) = false ∧ (mk l).length + 2 ≤ 16777216) := ⟨by rw [len_tl, hy]; rfl, by rw [mk_len]; omega⟩
  have e2 : Txt.split (mk l) y = (sp c l).map mk := split_eq hy hc
  simp only [lSplit_eq, h, rbind_ok, eC_eq, encL]
  rw [if_pos e1, e2, List.map_map]; rfl
theorem strs_of (ls : List (List Nat)) : strsOf (ls.map encL) = some (ls.map mk) := by
  induction ls with
  | nil => rfl
  | cons p r ih => show (strsOf (r.map encL)).map (mk p :: ·) = _; rw [ih]; rfl
theorem join_at {y : Str} {c : Nat} {ls : List (List Nat)} {s : Sl} (hy : tl y = [c]) (h : f ρ μ = .ok s μ1) (hd : dr μ1 s = some (.lst (ls.map encL))) (hl : tot ls ≤ 1000000) : eJoin (eC (.str y)) f ρ μ = .ok (.d (encL (joinL [c] ls))) μ1 := by
  have e1 : ((ls.map mk).map (·.length)).sum + (ls.map mk).length * y.length ≤ 16777216 := by
    have : (ls.map mk).map (fun x => x.length) = ls.map List.length := by
      rw [List.map_map]; exact List.map_congr_left fun p _ => mk_len p
    rw [this, len_tl, hy, List.length_map]
    unfold tot at hl
    simp; omega
  have e2 : Txt.join y (ls.map mk) = mk (joinL [c] ls) := by
    refine ext_tl ?_
    rw [join_eq, tl_join, hy, List.map_map]
    exact congrArg (joinL [c]) ((List.map_congr_left fun p _ => rfl).trans (List.map_id _))
  simp only [eJoin_eq, eC_eq, rbind_ok, h, hd, strs_of]
  rw [if_pos e1, e2]; rfl
end
end Bt

set_option linter.all false
set_option maxRecDepth 100000
set_option maxHeartbeats 1000000
/-! X2: numbers in texts; a line -/
namespace DL
open PySem L2
@[simp] theorem ltI_i (i j : Int) : ltI (.int i) (.int j) = some (.bl (decide (i < j))) := rfl
theorem shaped_s {a : Str} (h : PySem.PyData.strOk a = true) : (D.str a).shaped = true := by simp [D.shaped, D.cmpOk, D.deep, h]
theorem eqD_txt {a b : Str} (ha : PySem.PyData.strOk a = true) (hb : PySem.PyData.strOk b = true) : eqD (.str a) (.str b) = some (.bl (decide (a = b))) := by
  unfold eqD
  rw [if_pos ⟨shaped_s ha, shaped_s hb⟩]
  simp only [D.beq]
  rw [show (a == b) = decide (a = b) by rw [Bool.eq_iff_iff]; simp]
theorem neD_txt {a b : Str} (ha : PySem.PyData.strOk a = true) (hb : PySem.PyData.strOk b = true) : neD (.str a) (.str b) = some (.bl (!decide (a = b))) := by
  unfold neD
  rw [if_pos ⟨shaped_s ha, shaped_s hb⟩]
  simp only [D.beq]
  rw [show (a == b) = decide (a = b) by rw [Bool.eq_iff_iff]; simp]
theorem inSD_1 (c : Nat) (z : Str) : inSD (.str ⟨#[c]⟩) (.str z) = some (.bl (decide (c ∈ z.cps.toList))) := rfl
theorem ninSD_1 (c : Nat) (z : Str) : ninSD (.str ⟨#[c]⟩) (.str z) = some (.bl (!decide (c ∈ z.cps.toList))) := rfl
end DL
namespace Bt
open PySem DL LV L2 TL
theorem mk_inj {a b : List Nat} : mk a = mk b ↔ a = b := ⟨fun h => by rw [← tl_mk' a, h]; rfl, fun h => by rw [h]⟩
theorem eqD_L {a b : List Nat} (ha : Asc a) (hb : Asc b) : eqD (encL a) (encL b) = some (.bl (decide (a = b))) := by
  unfold encL
  rw [eqD_txt ha.ok hb.ok]
  congr 2
  rw [Bool.eq_iff_iff, decide_eq_true_iff, decide_eq_true_iff, mk_inj]
theorem neD_L {a b : List Nat} (ha : Asc a) (hb : Asc b) : neD (encL a) (encL b) = some (.bl (!decide (a = b))) := by
  unfold encL
  rw [neD_txt ha.ok hb.ok]
  congr 3
  rw [Bool.eq_iff_iff, decide_eq_true_iff, decide_eq_true_iff, mk_inj]
theorem str_of {s : Str} {l : List Nat} (h : tl s = l) : D.str s = encL l := by
  subst h; unfold encL; rw [mk_tl']
theorem dgs : ("0123456789" : Str).cps.toList = [48, 49, 50, 51, 52, 53, 54, 55, 56, 57] := by decide +kernel
theorem dg_mem (c : Nat) : decide (c ∈ ("0123456789" : Str).cps.toList) = (decide (48 ≤ c) && decide (c ≤ 57)) := by
  rw [dgs, Bool.eq_iff_iff]
  simp
  omega
/-- a number of few figures -/
def figB (w : List Nat) : Bool := decide (0 < w.length) && decide (w.length ≤ 31) && w.all fun c => decide (48 ≤ c) && decide (c ≤ 57)
theorem len_L {w : List Nat} (hl : w.length ≤ 1000000) : lenD [encL w] = some (.int (w.length : Nat)) := by
  show (if (mk w).length ≤ 16777216 then some (D.int ((mk w).length : Nat)) else none) = _
  rw [mk_len, if_pos (by omega)]
theorem figs_eq {w : List Nat} (hl : w.length ≤ 1000000) : p_is_figures [encL w] = .ok (.bl (figB w)) := by
  refine fn_rt (s := .d (.bl (figB w))) (μ := []) ?_ rfl
  have r0 : rho0 1 ([encL w].map Sl.d) = [some (.d (encL w)), none] := rfl
  rw [r0]
  have ll := len_L hl
  have al := all_lc (vs := [1]) (src := sStr (eV 0)) (g := gN 1) (e := e2 inSD (eV 1) (eC (.str "0123456789"))) (ρ := [some (.d (encL w)), none]) (μ := []) (fun c => D.str ⟨#[c]⟩) (fun c => decide (48 ≤ c) && decide (c ≤ 57)) w rfl (by omega) fun c _ => ⟨[some (.d (encL w)), some (.d (.str ⟨#[c]⟩))], rfl, by
    rw [← dg_mem c]
    generalize encL w = E
    generalize ("0123456789" : Str) = Z
    simp [inSD_1]⟩
  unfold F_is_figures
  generalize eN allD (aCons (eFrz (lLc [1] (sStr (eV 0)) (gN 1) bYes (e2 inSD (eV 1) (eC (.str "0123456789"))))) aNil) = AA at *
  unfold figB
  generalize encL w = E at *
  generalize (w.all fun c => decide (48 ≤ c) && decide (c ≤ 57)) = R at *
  by_cases a : 0 < w.length
  · by_cases b : w.length ≤ 31
    · have b' : (w.length : Int) ≤ 31 := by omega
      simp [ll, al, a, b, b']
    · have b' : ¬ (w.length : Int) ≤ 31 := by omega
      simp [ll, al, a, b, b']
  · have a' : w.length = 0 := by omega
    simp [ll, al, a']
/-- the number that a word writes as Python does -/
def numO (w : List Nat) : Option Nat := if (figB w && (decide (w = [48]) || decide (w.head? ≠ some 48))) = true then some (NumText.digitsVal w) else none
def numD : Option Nat → D
  | some n => nD n
  | none => .non
theorem fig_all {w : List Nat} (h : figB w = true) : NumText.AllDigits w ∧ w ≠ [] ∧ w.length ≤ 31 := by
  unfold figB at h
  simp only [Bool.and_eq_true, decide_eq_true_eq, List.all_eq_true] at h
  exact ⟨fun c hc => h.2 c hc, fun z => by rw [z] at h; simp at h, h.1.2⟩
theorem int_L {w : List Nat} (h : figB w = true) : intSD [encL w] = some (nD (NumText.digitsVal w)) := by
  obtain ⟨h1, h2, h3⟩ := fig_all h
  have k := PySem.intText_digits (x := mk w) h1 h2 (by rw [mk_len]; omega)
  show (if (mk w).length ≤ 640 then (PySem.intText? (mk w)).map D.int else none) = _
  rw [if_pos (by rw [mk_len]; omega), k]; rfl
theorem cmp_sgs : ∀ {L : List Nat}, Asc L → cmpOkL (L.map fun c => D.str ⟨#[c]⟩) = true
  | [], _ => rfl
  | c :: L, h => by
    have h1 : PySem.PyData.strOk ⟨#[c]⟩ = true := Asc.ok (l := [c]) fun x hx => h x (by rw [List.mem_singleton.1 hx]; exact List.mem_cons_self ..)
    simp only [List.map_cons, cmpOkL, D.cmpOk, h1, Bool.true_and]
    exact cmp_sgs fun x hx => h x (List.mem_cons_of_mem _ hx)
theorem deep_sgs : ∀ L : List Nat, deepL (L.map fun c => D.str ⟨#[c]⟩) = 0
  | [] => rfl
  | c :: L => by simp [deepL, D.deep, deep_sgs L]
theorem neD_sgs {L : List Nat} (h : Asc L) : neD (.lst (L.map fun c => D.str ⟨#[c]⟩)) (.lst []) = some (.bl (decide (L ≠ []))) := by
  unfold neD
  rw [if_pos ⟨by simp [D.shaped, D.cmpOk, D.deep, cmp_sgs h, deep_sgs], rfl⟩]
  cases L with
  | nil => rfl
  | cons x L => rfl
theorem tl_0 : tl ("0" : Str) = [48] := by decide +kernel
theorem tl_e : tl ("" : Str) = [] := by decide +kernel
theorem asc_l {l : List Nat} (h : l.all (fun c => decide (c < 256)) = true) : Asc l := fun c hc => by simpa using List.all_eq_true.1 h c hc
theorem number_eq {w : List Nat} (ha : Asc w) (hl : w.length ≤ 1000000) : p_u_law_number [encL w] = .ok (numD (numO w)) := by
  refine fn_rt (s := .d (numD (numO w))) (μ := []) ?_ rfl
  have r0 : rho0 1 ([encL w].map Sl.d) = [some (.d (encL w)), none] := rfl
  rw [r0]
  have s0 : D.str "0" = encL [48] := str_of tl_0
  have se : D.str "" = encL [] := str_of tl_e
  unfold F_u_law_number
  rw [s0, se]
  have q1 := eqD_L ha (b := []) (fun _ h => nomatch h)
  have ll := len_L hl
  cases w with
  | nil =>
    have : numO [] = none := rfl
    rw [this]
    generalize encL [] = E at *
    generalize encL [48] = Z at *
    simp [q1, numD]
  | cons x r =>
  have q2 := eqD_L ha (b := [48]) (asc_l rfl)
  have fl := frz_lcf (vs := [1]) (src := sStr (eV 0)) (g := gN 1) (t := bV (e2 ninSD (eV 1) (eC (.str "0123456789")))) (e := eV 1) (ρ := [some (.d (encL (x :: r))), none]) (μ := []) (fun c => D.str ⟨#[c]⟩) (fun c => !(decide (48 ≤ c) && decide (c ≤ 57))) (fun c => D.str ⟨#[c]⟩) (x :: r) rfl (by omega) fun c _ => ⟨[some (.d (encL (x :: r))), some (.d (.str ⟨#[c]⟩))], rfl, by
    rw [← dg_mem c]
    generalize encL (x :: r) = E
    generalize ("0123456789" : Str) = Z
    simp [ninSD_1], fun _ => rfl⟩
  have q3 := neD_sgs (L := (x :: r).filter fun c => !(decide (48 ≤ c) && decide (c ≤ 57))) fun y hy => ha y (List.mem_filter.1 hy).1
  have h0 : ixD (encL (x :: r)) (.int 0) = some (encL [x]) := by
    show (if (mk (x :: r)).length ≤ 16777216 then (L2.atI (mk (x :: r)).cps.toList ((0 : Nat) : Int)).map (fun c => D.str ⟨#[c]⟩) else none) = _
    rw [mk_len, if_pos (by omega), DL.atI_nat]; rfl
  have q4 := neD_L (a := [x]) (b := [48]) (fun y hy => ha y (List.mem_cons.2 (.inl (List.mem_singleton.1 hy)))) (asc_l rfl)
  have fg : figB (x :: r) = (decide ((x :: r).length ≤ 31) && decide (((x :: r).filter fun c => !(decide (48 ≤ c) && decide (c ≤ 57))) = [])) := by
    unfold figB
    rw [show decide (0 < (x :: r).length) = true by simp, Bool.true_and]
    congr 1
    rw [Bool.eq_iff_iff, List.all_eq_true, decide_eq_true_iff, List.filter_eq_nil_iff]
    simp
  have i1 : figB (x :: r) = true → intSD [encL (x :: r)] = some (nD (NumText.digitsVal (x :: r))) := int_L
  have hh : (x :: r).head? = some x := rfl
  generalize eFrz (lLc [1] (sStr (eV 0)) (gN 1) (bV (e2 ninSD (eV 1) (eC (.str "0123456789")))) (eV 1)) = AA at *
  generalize ((x :: r).filter fun c => !(decide (48 ≤ c) && decide (c ≤ 57))) = FL at *
  have ne : ¬ x :: r = [] := by simp
  rw [decide_eq_false ne] at q1
  unfold numO
  rw [fg, hh]
  rw [fg] at i1
  generalize NumText.digitsVal (x :: r) = V at *
  generalize encL [x] = Y at *
  have q5 : decide ([x] = [48]) = decide (x = 48) := by simp
  rw [q5] at q4
  have q6 : decide (some x ≠ some 48) = !decide (x = 48) := by
    by_cases d : x = 48 <;> simp [d]
  rw [q6]
  clear fg ha hh q5 q6
  generalize hw : x :: r = w at *
  generalize encL w = E at *
  generalize encL [48] = Z at *
  generalize encL [] = N at *
  by_cases b : w.length ≤ 31
  · have b' : ¬ (w.length : Int) > 31 := by omega
    have b2 : ¬ 31 < w.length := by omega
    by_cases c : FL = []
    · subst c
      have i2 := i1 (by simp [b])
      have q7 : neD (.lst []) (.lst []) = some (.bl false) := rfl
      have b4 : ¬ (31 : Int) < (w.length : Int) := by omega
      by_cases d : w = [48]
      · simp [q1, q2, q7, fl, ll, b, b2, b4, d, i2, numD]
      · by_cases d2 : x = 48
        · simp [q1, q2, q7, fl, ll, b, b2, b4, d, i2, numD, h0, q4, d2]
        · simp [q1, q2, q7, fl, ll, b, b2, b4, d, i2, numD, h0, q4, d2]
    · simp [q1, q3, fl, ll, b, b2, c, numD]
  · have b2 : 31 < w.length := by omega
    have b3 : ¬ w.length ≤ 31 := by omega
    have b5 : (31 : Int) < (w.length : Int) := by omega
    simp [q1, ll, b2, b3, b5, numD]
end Bt

set_option linter.all false
set_option maxRecDepth 100000
set_option maxHeartbeats 1000000
/-! X3: the text of a web -/
namespace Bt
open PySem DL LV L2 TL
def plW : List Nat := [112, 108, 97, 99, 101]
def tiW : List Nat := [116, 105, 101]
theorem tl_pl : tl ("place" : Str) = plW := by decide +kernel
theorem tl_ti : tl ("tie" : Str) = tiW := by decide +kernel
theorem tl_pl2 : tl ("place " : Str) = plW ++ [32] := by decide +kernel
theorem tl_ti2 : tl ("tie " : Str) = tiW ++ [32] := by decide +kernel
/-- a number's signs -/
def numW (n : Int) : List Nat := numL n.toNat
def Nu (n : Int) : Prop := 0 ≤ n ∧ n ≤ 1000000000000000000000000000000
theorem str_num {n : Int} (h : 0 ≤ n) : D.str (toString n) = encL (numW n) := by
  refine str_of ?_
  have e : n = ((n.toNat : Nat) : Int) := by omega
  show tl (Str.ofString (toString n)) = numL n.toNat
  rw [← tl_num, ← e]
theorem log_ok {n : Int} (h : Nu n) : n.natAbs.log2 < 1920 := by
  obtain ⟨h0, h1⟩ := h
  by_cases z : n.natAbs = 0
  · rw [z]; decide
  · rw [Nat.log2_lt z]
    exact Nat.lt_of_lt_of_le (show n.natAbs < 2 ^ 100 by omega) (Nat.pow_le_pow_right (by omega) (by omega))
theorem num_len {n : Int} (h : Nu n) : (numW n).length ≤ 31 := numL_len (by omega) (by have := h.1; have := h.2; omega)
theorem num_dig (n : Int) : NumText.AllDigits (numW n) := numL_digits _
theorem asc_dig {l : List Nat} (h : NumText.AllDigits l) : Asc l := fun c hc => by have := h c hc; omega
theorem strD_num {n : Int} (h : Nu n) : strD [.int n] = some (encL (numW n)) := by
  show (if n.natAbs.log2 < 1920 then some (D.str (toString n)) else none) = _
  rw [if_pos (log_ok h), str_num h.1]
def placeL (p : Pl) : List Nat := joinL [32] [plW, numW p.1, numW p.2]
def tieL (t : Tl) : List Nat := joinL [32] [tiW, numW (t.1 : Nat), numW (t.2.1 : Nat), numW t.2.2]
def asL (P : List Pl) (T : List Tl) : List Nat := joinL [10] (P.map placeL ++ T.map tieL)
theorem mk_app (a b : List Nat) : mk a ++ mk b = mk (a ++ b) := ext_tl (tl_append _ _)
section
variable {ρ : Rho} {μ : Store} {f : EF} {fs : List EF}
theorem fmt_int {i : Int} (h : f ρ μ = .ok (.d (.int i)) μ) (hi : Nu i) : eFmt f ρ μ = .ok (.d (encL (numW i))) μ := by
  unfold eFmt
  rw [h, rbind_ok]
  show (if i.natAbs.log2 < 1920 then Res.ok (Sl.d (.str (toString i))) μ else .no) = _
  rw [if_pos (log_ok hi), str_num hi.1]
theorem fs_cons {acc l : List Nat} {r : Res Sl} (h : f ρ μ = .ok (.d (encL l)) μ) (hl : (acc ++ l).length ≤ 1000000) (k : fsL fs (mk (acc ++ l)) ρ μ = r) : fsL (f :: fs) (mk acc) ρ μ = r := by
  rw [← k]
  show ((f ρ μ).bind fun x μ1 => match x with
    | .d (.str y) => if (mk acc ++ y).length ≤ 16777216 then fsL fs (mk acc ++ y) ρ μ1 else .no
    | _ => .no) = _
  rw [h, rbind_ok]
  show (if (mk acc ++ mk l).length ≤ 16777216 then fsL fs (mk acc ++ mk l) ρ μ else .no) = _
  rw [mk_app, if_pos (by rw [mk_len]; omega)]
end
theorem tot_le {k : Nat} : ∀ {ls : List (List Nat)}, (∀ p, p ∈ ls → p.length ≤ k) → tot ls ≤ ls.length * (k + 1)
  | [], _ => by simp [tot]
  | p :: ls, h => by
    have h1 := h p (List.mem_cons_self ..)
    have h2 := tot_le (ls := ls) fun q hq => h q (List.mem_cons_of_mem _ hq)
    rw [tot_cons, List.length_cons, Nat.add_mul]
    omega
theorem join_len (c : Nat) {ls : List (List Nat)} (h : ls ≠ []) : (joinL [c] ls).length + 1 = tot ls := (tot_join c h).symm
theorem place_len {p : Pl} (h1 : Nu p.1) (h2 : Nu p.2) : (placeL p).length ≤ 100 := by
  have a := num_len h1
  have b := num_len h2
  have := join_len 32 (ls := [plW, numW p.1, numW p.2]) (by simp)
  simp only [tot_cons] at this
  unfold placeL
  have e : plW.length = 5 := rfl
  have e2 : tot [] = 0 := rfl
  omega
theorem tie_len {t : Tl} (h1 : Nu (t.1 : Nat)) (h2 : Nu (t.2.1 : Nat)) (h3 : Nu t.2.2) : (tieL t).length ≤ 100 := by
  have a := num_len h1
  have b := num_len h2
  have c := num_len h3
  have := join_len 32 (ls := [tiW, numW (t.1 : Nat), numW (t.2.1 : Nat), numW t.2.2]) (by simp)
  simp only [tot_cons] at this
  unfold tieL
  have e : tiW.length = 3 := rfl
  have e2 : tot [] = 0 := rfl
  omega
section
variable {P : List Pl} {T : List Tl}
theorem web_nu (hw : WebOk P T) : (∀ p, p ∈ P → Nu p.1 ∧ Nu p.2) ∧ ∀ t, t ∈ T → Nu (t.1 : Nat) ∧ Nu (t.2.1 : Nat) ∧ Nu t.2.2 := by
  have hn := hw.n5
  refine ⟨fun p hp => ?_, fun t ht => ?_⟩
  · have k : 0 ≤ p.1 ∧ p.1 ≤ p.2 ∧ p.2 ≤ 1000000000000000000000000000000 := hw.p p hp
    exact ⟨⟨k.1, by omega⟩, ⟨by omega, k.2.2⟩⟩
  · have k := hw.t t ht
    have k2 : t.2.2 ≤ 1000000000000000000000000000000 := hw.far t ht
    exact ⟨⟨by omega, by omega⟩, ⟨by omega, by omega⟩, ⟨by omega, k2⟩⟩
theorem lines_len (hw : WebOk P T) : ∀ l, l ∈ P.map placeL ++ T.map tieL → l.length ≤ 100 := by
  obtain ⟨h1, h2⟩ := web_nu hw
  intro l hl
  rcases List.mem_append.1 hl with h | h
  · obtain ⟨p, hp, rfl⟩ := List.mem_map.1 h
    exact place_len (h1 p hp).1 (h1 p hp).2
  · obtain ⟨t, ht, rfl⟩ := List.mem_map.1 h
    exact tie_len (h2 t ht).1 (h2 t ht).2.1 (h2 t ht).2.2
theorem lines_tot (hw : WebOk P T) : tot (P.map placeL ++ T.map tieL) ≤ 1515 := by
  have h := tot_le (lines_len hw)
  have hn := hw.n5
  have hm := hw.m
  simp only [List.length_append, List.length_map] at h
  have : (P.length + T.length) * (100 + 1) ≤ 15 * 101 := Nat.mul_le_mul (by omega) (by omega)
  omega
theorem as_text_eq (hw : WebOk P T) : p_as_text [eW P T] = .ok (encL (asL P T)) := by
  obtain ⟨h1, h2⟩ := web_nu hw
  have hn := hw.n5
  have hm := hw.m
  have lt := lines_tot hw
  refine fn_rt (s := .d (encL (asL P T))) (μ := []) ?_ rfl
  have r0 : rho0 6 ([eW P T].map Sl.d) = [some (.d (eW P T)), none, none, none, none, none, none] := rfl
  rw [F_as_text_eq, r0]
  have i0 : ixD (eW P T) (.int 0) = some (ePs P) := rfl
  have i1 : ixD (eW P T) (.int 1) = some (eTs T) := rfl
  have s1 := frz_lc (vs := [2, 3]) (src := sSq (e2 ixD (eV 0) (eC (.int 0)))) (g := G1_as_text) (e := E1_as_text) (ρ := [some (.d (eW P T)), none, none, none, none, none, none]) (μ := []) eP (fun p => encL (placeL p)) P (by
    generalize eW P T = W at *
    simp [i0, ePs]) (by omega) fun p hp => ⟨[some (.d (eW P T)), none, some (.d (.int p.1)), some (.d (.int p.2)), none, none, none], rfl, by
    obtain ⟨k1, k2⟩ := h1 p hp
    have a := num_len k1
    have b := num_len k2
    show fsL _ (mk []) _ _ = _
    have e5 : plW.length = 5 := rfl
    refine fs_cons (l := plW ++ [32]) (by rw [eC_eq, str_of tl_pl2]) (by simp; omega) (fs_cons (fmt_int (i := p.1) (by rfl) k1) (by simp; omega) (fs_cons (l := [32]) (by rw [eC_eq, str_of tl_sp]) (by simp; omega) (fs_cons (fmt_int (i := p.2) (by rfl) k2) (by simp; omega) ?_)))
    show Res.ok (Sl.d (encL _)) [] = _
    unfold placeL
    simp [joinL]⟩
  have s2 := frz_lc (vs := [4, 5, 6]) (src := sSq (e2 ixD (eV 0) (eC (.int 1)))) (g := G2_as_text) (e := E2_as_text) (ρ := [some (.d (eW P T)), some (.d (.lst (P.map fun p => encL (placeL p)))), none, none, none, none, none]) (μ := []) eT (fun t => encL (tieL t)) T (by
    generalize eW P T = W at *
    simp [i1, eTs]) (by omega) fun t ht => ⟨[some (.d (eW P T)), some (.d (.lst (P.map fun p => encL (placeL p)))), none, none, some (.d (.int (t.1 : Nat))), some (.d (.int (t.2.1 : Nat))), some (.d (.int t.2.2))], rfl, by
    obtain ⟨k1, k2, k3⟩ := h2 t ht
    have a := num_len k1
    have b := num_len k2
    have c := num_len k3
    show fsL _ (mk []) _ _ = _
    have e5 : tiW.length = 3 := rfl
    refine fs_cons (l := tiW ++ [32]) (by rw [eC_eq, str_of tl_ti2]) (by simp; omega) (fs_cons (fmt_int (i := (t.1 : Nat)) (by rfl) k1) (by simp; omega) (fs_cons (l := [32]) (by rw [eC_eq, str_of tl_sp]) (by simp; omega) (fs_cons (fmt_int (i := (t.2.1 : Nat)) (by rfl) k2) (by simp; omega) (fs_cons (l := [32]) (by rw [eC_eq, str_of tl_sp]) (by simp; omega) (fs_cons (fmt_int (i := t.2.2) (by rfl) k3) (by simp; omega) ?_)))))
    show Res.ok (Sl.d (encL _)) [] = _
    unfold tieL
    simp [joinL]⟩
  refine (seq_nx (s_asg s1 rfl)).trans (s_ret (join_at (c := 10) (ls := P.map placeL ++ T.map tieL) (s := .d (.lst ((P.map placeL ++ T.map tieL).map encL))) tl_nl ?_ rfl (by omega)))
  have e : (P.map placeL ++ T.map tieL).map encL = (P.map fun p => encL (placeL p)) ++ T.map fun t => encL (tieL t) := by
    rw [List.map_append, List.map_map, List.map_map]; rfl
  rw [e]
  refine e_2 (x := .d (.lst (P.map fun p => encL (placeL p)))) (μ1 := []) rfl s2 ?_
  have cp : P.length + T.length ≤ 16777216 := by omega
  simp [cp]
theorem law_text_eq (hw : WebOk P T) : p_u_law_text [eW P T] = .ok (encL (asL P T)) := by
  obtain ⟨h1, h2⟩ := web_nu hw
  have hn := hw.n5
  have hm := hw.m
  have lt := lines_tot hw
  have i0 : ixD (eW P T) (.int 0) = some (ePs P) := rfl
  have i1 : ixD (eW P T) (.int 1) = some (eTs T) := rfl
  have s1 := lc_map (vs := [5, 6]) (g := G1_u_law_text) (e := E1_u_law_text) (ρ := [some (.d (eW P T)), none, none, none, none, none, none]) (μ := []) eP (fun p => encL (placeL p)) P fun p hp => ⟨[some (.d (eW P T)), none, none, none, none, some (.d (.int p.1)), some (.d (.int p.2))], rfl, by
    obtain ⟨k1, k2⟩ := h1 p hp
    have a := num_len k1
    have b := num_len k2
    have q1 := strD_num k1
    have q2 := strD_num k2
    have e5 : plW.length = 5 := rfl
    refine join_at (c := 32) (ls := [plW, numW p.1, numW p.2]) (s := .d (.lst [encL plW, encL (numW p.1), encL (numW p.2)])) tl_sp ?_ rfl (by simp [tot]; omega)
    rw [str_of tl_pl]
    generalize encL plW = A at *
    generalize encL (numW p.1) = B at *
    generalize encL (numW p.2) = C at *
    generalize eW P T = W at *
    simp [q1, q2]⟩
  obtain ⟨ρ', μ', f1, rfl, j2, j3, j4, rfl⟩ := for_idx (g := G2_u_law_text) (body := B2_u_law_text) eT (fun i ρ μ => μ = [.lst ((P.map fun p => encL (placeL p)) ++ (T.take i).map fun t => encL (tieL t))] ∧ ∃ j2 j3 j4, ρ = [some (.d (eW P T)), some (.ob 0), j2, j3, j4, none, none]) T 0 [some (.d (eW P T)), some (.ob 0), none, none, none, none, none] [.lst (P.map fun p => encL (placeL p))] (by
    rintro i t ht ρ μ ⟨rfl, j2, j3, j4, rfl⟩
    rw [Nat.zero_add]
    have hi := (List.getElem?_eq_some_iff.1 ht).1
    obtain ⟨k1, k2, k3⟩ := h2 t (List.mem_of_getElem? ht)
    have a := num_len k1
    have b := num_len k2
    have c := num_len k3
    have q1 := strD_num k1
    have q2 := strD_num k2
    have q3 := strD_num k3
    have e5 : tiW.length = 3 := rfl
    have jn := join_at (f := eFrz (lLst (aCons (eC (.str "tie")) (aCons (eN strD (aCons (eV 2) (aNil))) (aCons (eN strD (aCons (eV 3) (aNil))) (aCons (eN strD (aCons (eV 4) (aNil))) (aNil))))))) (ρ := [some (.d (eW P T)), some (.ob 0), some (.d (.int (t.1 : Nat))), some (.d (.int (t.2.1 : Nat))), some (.d (.int t.2.2)), none, none]) (μ := [.lst ((P.map fun p => encL (placeL p)) ++ (T.take i).map fun t => encL (tieL t))]) (μ1 := [.lst ((P.map fun p => encL (placeL p)) ++ (T.take i).map fun t => encL (tieL t))]) (c := 32) (ls := [tiW, numW (t.1 : Nat), numW (t.2.1 : Nat), numW t.2.2]) (s := .d (.lst [encL tiW, encL (numW (t.1 : Nat)), encL (numW (t.2.1 : Nat)), encL (numW t.2.2)])) tl_sp (by
      rw [str_of tl_ti]
      generalize ((P.map fun p => encL (placeL p)) ++ (T.take i).map fun t => encL (tieL t)) = LL
      generalize encL tiW = A at *
      generalize encL (numW (t.1 : Nat)) = B at *
      generalize encL (numW (t.2.1 : Nat)) = C at *
      generalize encL (numW t.2.2) = D0 at *
      generalize eW P T = W at *
      simp [q1, q2, q3]) rfl (by simp [tot]; omega)
    have jn2 : _ = Res.ok (Sl.d (encL (tieL t))) _ := jn
    have tk : (T.take (i + 1)).map (fun t => encL (tieL t)) = (T.take i).map (fun t => encL (tieL t)) ++ [encL (tieL t)] := by
      rw [List.take_add_one, ht]; simp
    have cp : ((P.map fun p => encL (placeL p)) ++ (T.take i).map fun t => encL (tieL t)).length < 16777216 := by simp; omega
    refine ⟨[some (.d (eW P T)), some (.ob 0), some (.d (.int (t.1 : Nat))), some (.d (.int (t.2.1 : Nat))), some (.d (.int t.2.2)), none, none], [some (.d (eW P T)), some (.ob 0), some (.d (.int (t.1 : Nat))), some (.d (.int (t.2.1 : Nat))), some (.d (.int t.2.2)), none, none], _, rfl, ?_, rfl, _, _, _, rfl⟩
    rw [tk, ← List.append_assoc]
    generalize ((P.map fun p => encL (placeL p)) ++ (T.take i).map fun t => encL (tieL t)) = LL at *
    unfold B2_u_law_text
    generalize eJoin (eC (.str " ")) (eFrz (lLst (aCons (eC (.str "tie")) (aCons (eN strD (aCons (eV 2) (aNil))) (aCons (eN strD (aCons (eV 3) (aNil))) (aCons (eN strD (aCons (eV 4) (aNil))) (aNil))))))) = EJ at *
    generalize encL (tieL t) = TT at *
    generalize eW P T = W at *
    simp [jn2, cp]) ⟨by simp, _, _, _, rfl⟩
  refine fn_rt (s := .d (encL (asL P T))) (μ := [.lst ((P.map fun p => encL (placeL p)) ++ T.map fun t => encL (tieL t))]) ?_ rfl
  have r0 : rho0 6 ([eW P T].map Sl.d) = [some (.d (eW P T)), none, none, none, none, none, none] := rfl
  rw [F_u_law_text_eq, r0]
  rw [Nat.zero_add, List.take_of_length_le (Nat.le_refl _)] at f1
  refine (seq_nx (ρ' := [some (.d (eW P T)), some (.ob 0), none, none, none, none, none]) (μ' := [.lst (P.map fun p => encL (placeL p))]) ?_).trans ?_
  · refine s_asg (s := .ob 0) ?_ rfl
    have sc : sSq (e2 ixD (eV 0) (eC (.int 0))) [some (.d (eW P T)), none, none, none, none, none, none] [] = .ok (P.map eP) [] := by
      generalize eW P T = W at *
      simp [i0, ePs]
    have c : P.length ≤ 16777216 := by omega
    rw [eNew_eq, lLc_eq, sc, rbind_ok, s1, lcap_ok, List.length_map, if_pos c]; rfl
  refine (seq_nx (for_nx (ds := T.map eT) (μ1 := [.lst (P.map fun p => encL (placeL p))]) (by
    generalize (P.map fun p => encL (placeL p)) = LL
    generalize eW P T = W at *
    simp [i1, eTs]) f1)).trans ?_
  refine s_ret (join_at (c := 10) (ls := P.map placeL ++ T.map tieL) (s := .ob 0) tl_nl rfl ?_ (by omega))
  have e : (P.map placeL ++ T.map tieL).map encL = (P.map fun p => encL (placeL p)) ++ T.map fun t => encL (tieL t) := by
    rw [List.map_append, List.map_map, List.map_map]; rfl
  rw [e]; rfl
end
end Bt

set_option linter.all false
set_option maxRecDepth 100000
set_option maxHeartbeats 1000000
/-! X4: a line read; the program's reader -/
namespace Bt
open PySem DL LV L2 TL
theorem kb4 : kitB "str" "str" = some true := by decide +kernel
@[simp] theorem isi_ss (l : List Nat) : isiD "str" (encL l) = some (.bl true) := by
  show isiD "str" (.str (mk l)) = _
  simp [isiD, tyD, kb4]
/-- the word ahead and the numbers of a line -/
def rowO : List (List Nat) → Option (List Nat × List Nat)
  | [] => none
  | w :: ws => if ws.all figB = true then some (w, ws.map NumText.digitsVal) else none
theorem rowO_cons (w : List Nat) (ws : List (List Nat)) : rowO (w :: ws) = if ws.all figB = true then some (w, ws.map NumText.digitsVal) else none := rfl
def nums (ns : List Nat) : D := .tup (ns.map nD)
def rowS (r : List Nat × List Nat) : D := .tup [encL r.1, nums r.2]
def rowD : Option (List Nat × List Nat) → D
  | some r => rowS r
  | none => .non
theorem row_in_eq {l : List Nat} (hl : l.length ≤ 100000) : p_row_in [encL l] = .ok (rowD (rowO (sp 32 l))) := by
  refine fn_rt (s := .d (rowD (rowO (sp 32 l)))) (μ := []) ?_ rfl
  have r0 : rho0 2 ([encL l].map Sl.d) = [some (.d (encL l)), none, none] := rfl
  rw [F_row_in_eq, r0]
  have s0 := split_at (ρ := [some (.d (encL l)), none, none]) (μ := []) (μ1 := []) (f := eV 0) (c := 32) (l := l) tl_sp (by omega) rfl (by omega)
  have tt := tot_sp 32 l
  cases e : sp 32 l with
  | nil => exact absurd e (sp_ne 32 l)
  | cons w ws =>
  rw [e] at s0 tt
  rw [tot_cons] at tt
  have wl : ws.length ≤ 1000000 := by unfold tot at tt; omega
  have wm : ∀ x, x ∈ ws → x.length ≤ 1000000 := fun x hx => by have := mem_tot hx; omega
  refine (seq_nx (ρ' := [some (.d (encL l)), some (.d (.lst ((w :: ws).map encL))), none]) (μ' := []) (s_asg (s := .d (.lst ((w :: ws).map encL))) (by rw [eFrz_eq, s0, rbind_ok]) rfl)).trans ?_
  have src : sSq (eSl (eV 1) (pSome (eC (.int 1))) pNone) [some (.d (encL l)), some (.d (.lst ((w :: ws).map encL))), none] [] = .ok (ws.map encL) [] := by
    have c1 : slD (.lst (encL w :: ws.map encL)) (some 1) none = some (.lst (ws.map encL)) := by
      show some (D.lst (cutD (encL w :: ws.map encL) (some ((1 : Nat) : Int)) none)) = _
      rw [cutD_from]; rfl
    generalize encL l = E at *
    simp [c1]
  have al := all_lc (vs := [2]) (src := sSq (eSl (eV 1) (pSome (eC (.int 1))) pNone)) (g := G1_row_in) (e := E1_row_in) (ρ := [some (.d (encL l)), some (.d (.lst ((w :: ws).map encL))), none]) (μ := []) encL figB ws src (by omega) fun x hx => ⟨[some (.d (encL l)), some (.d (.lst ((w :: ws).map encL))), some (.d (encL x))], rfl, by
    have := figs_eq (wm x hx)
    generalize (w :: ws).map encL = LL at *
    generalize encL l = E at *
    generalize encL x = X at *
    simp [E1_row_in, this]⟩
  rw [rowO_cons]
  by_cases q : ws.all figB = true
  · rw [if_pos q]
    rw [q] at al
    refine (seq_nx (ρ' := [some (.d (encL l)), some (.d (.lst ((w :: ws).map encL))), none]) (μ' := []) ((s_iff (b_not (b_v al))).trans rfl)).trans ?_
    have lc := frz_lc (vs := [2]) (src := sSq (eSl (eV 1) (pSome (eC (.int 1))) pNone)) (g := G2_row_in) (e := E2_row_in) (ρ := [some (.d (encL l)), some (.d (.lst ((w :: ws).map encL))), none]) (μ := []) encL (fun x => nD (NumText.digitsVal x)) ws src (by omega) fun x hx => ⟨[some (.d (encL l)), some (.d (.lst ((w :: ws).map encL))), some (.d (encL x))], rfl, by
      have := int_L (List.all_eq_true.1 q x hx)
      generalize (w :: ws).map encL = LL at *
      generalize encL l = E at *
      generalize encL x = X at *
      simp at this
      simp [E2_row_in, this]⟩
    have tu := fn_lst (q := tupleD) lc rfl
    have e2 : ws.map (fun x => nD (NumText.digitsVal x)) = (ws.map NumText.digitsVal).map nD := by rw [List.map_map]; rfl
    rw [e2] at tu
    have ix : ixD (.lst ((w :: ws).map encL)) (.int 0) = some (encL w) := by
      show L2.atI ((w :: ws).map encL) ((0 : Nat) : Int) = _
      rw [DL.atI_nat]; rfl
    generalize eN tupleD (aCons (eFrz (lLc [2] (sSq (eSl (eV 1) (pSome (eC (.int 1))) pNone)) G2_row_in bYes E2_row_in)) aNil) = TU at *
    show _ = Out.rt (Sl.d (.tup [encL w, .tup ((ws.map NumText.digitsVal).map nD)])) []
    generalize (w :: ws).map encL = LL at *
    generalize (ws.map NumText.digitsVal).map nD = NN at *
    generalize encL l = E at *
    generalize encL w = E2 at *
    simp [ix, tu]
  · rw [if_neg q]
    rw [Bool.not_eq_true] at q
    rw [q] at al
    exact seq_rt ((s_ift (b_not (b_v al))).trans rfl)
/-- what the program makes of the lines -/
def fnd (Rs : List (List Nat × List Nat)) : D := .tup [.tup ((Rs.filter fun r => decide (r.1 = plW)).map fun r => nums r.2), .tup ((Rs.filter fun r => decide (r.1 = tiW)).map fun r => nums r.2)]
theorem nums_pl (ns : List Nat) : (nums ns).pl = true := by
  show plL (ns.map nD) = true
  rw [plL_all, List.all_eq_true]
  intro x hx
  obtain ⟨n, _, rfl⟩ := List.mem_map.1 hx
  rfl
theorem numss_pl (Rs : List (List Nat × List Nat)) : plL (Rs.map fun r => nums r.2) = true := by
  rw [plL_all, List.all_eq_true]
  intro x hx
  obtain ⟨r, _, rfl⟩ := List.mem_map.1 hx
  exact nums_pl _
theorem fnd_pl (Rs : List (List Nat × List Nat)) : (fnd Rs).pl = true := by
  simp [fnd, D.pl, plL, numss_pl]
theorem cmp_nD (ns : List Nat) : cmpOkL (ns.map nD) = true := cmp_nl ns
theorem rows_cmp : ∀ {R : List (Option (List Nat × List Nat))}, (∀ r, some r ∈ R → Asc r.1) → cmpOkL (R.map rowD) = true ∧ deepL (R.map rowD) ≤ 2
  | [], _ => ⟨rfl, by simp [deepL]⟩
  | none :: R, h => by
    obtain ⟨h1, h2⟩ := rows_cmp (R := R) fun r hr => h r (List.mem_cons_of_mem _ hr)
    simp [rowD, cmpOkL, D.cmpOk, deepL, D.deep, h1]; omega
  | some r :: R, h => by
    obtain ⟨h1, h2⟩ := rows_cmp (R := R) fun r hr => h r (List.mem_cons_of_mem _ hr)
    have ha : PySem.PyData.strOk (mk r.1) = true := (h r (List.mem_cons_self ..)).ok
    simp [rowD, rowS, nums, encL, cmpOkL, D.cmpOk, deepL, D.deep, h1, ha, cmp_nl, deep_nl]; omega
theorem none_in {R : List (Option (List Nat × List Nat))} (h : ∀ r, some r ∈ R → Asc r.1) : inD .non (.lst (R.map rowD)) = some (.bl (R.any Option.isNone)) := by
  obtain ⟨h1, h2⟩ := rows_cmp h
  unfold inD
  show (if (D.non).shaped = true ∧ (D.lst (R.map rowD)).shaped = true then some ((R.map rowD).any fun z => D.beq z .non) else none).map D.bl = _
  rw [if_pos ⟨rfl, by simp [D.shaped, D.cmpOk, D.deep, h1]; omega⟩, List.any_map]
  show some (D.bl _) = _
  congr 2
  refine congrArg (fun p => List.any R p) (funext fun r => ?_)
  cases r with
  | none => rfl
  | some r => rfl
abbrev R7 (t : D) (j1 j2 j3 : Option Sl) : Rho := [some (.d t), j1, j2, j3, none, none, none]
def rws (l : List Nat) : List (Option (List Nat × List Nat)) := (sp 10 l).map fun x => rowO (sp 32 x)
theorem rws_asc {l : List Nat} (ha : Asc l) : ∀ r, some r ∈ rws l → Asc r.1 := by
  intro r hr
  obtain ⟨x, hx, e⟩ := List.mem_map.1 hr
  cases e2 : sp 32 x with
  | nil => exact absurd e2 (sp_ne 32 x)
  | cons w ws =>
    rw [e2, rowO_cons] at e
    split at e
    · cases e
      exact (ha.part hx).part (by rw [e2]; exact List.mem_cons_self ..)
    · cases e
theorem wi_str (l : List Nat) : sIf (bNot (bV (eIsI "str" (eV 0)))) (sRaise "InvalidText") (sNil) (R7 (encL l) none none none) [] = .nx (R7 (encL l) none none none) [] := by
  have := isi_ss l
  generalize encL l = E at *
  simp [this]
theorem wi_rows {l : List Nat} (hl : l.length ≤ 100000) : sAsg (eFrz (lLc [4] (sSq (eFrz (lSplit (eV 0) (eC (.str "\n"))))) G1_web_in (bYes) E1_web_in)) (gN 1) (R7 (encL l) none none none) [] = .nx (R7 (encL l) (some (.d (.lst ((rws l).map rowD)))) none none) [] := by
  have s0 := split_at (ρ := R7 (encL l) none none none) (μ := []) (μ1 := []) (f := eV 0) (c := 10) (l := l) tl_nl (by omega) rfl (by omega)
  have tt := tot_sp 10 l
  have wl : (sp 10 l).length ≤ 1000000 := by unfold tot at tt; omega
  have wm : ∀ x, x ∈ sp 10 l → x.length ≤ 100000 := fun x hx => by have := mem_tot hx; omega
  have s1 := frz_lc (vs := [4]) (src := sSq (eFrz (lSplit (eV 0) (eC (.str "\n"))))) (g := G1_web_in) (e := E1_web_in) (ρ := R7 (encL l) none none none) (μ := []) encL (fun x => rowD (rowO (sp 32 x))) (sp 10 l) (by
    have : eFrz (lSplit (eV 0) (eC (.str "\n"))) (R7 (encL l) none none none) [] = .ok (.d (.lst ((sp 10 l).map encL))) [] := by rw [eFrz_eq, s0, rbind_ok]
    unfold sSq
    rw [this, rbind_ok]) (by omega) fun x hx => ⟨[some (.d (encL l)), none, none, none, some (.d (encL x)), none, none], rfl, by
    have := row_in_eq (wm x hx)
    generalize rowD (rowO (sp 32 x)) = RR at *
    generalize encL l = E at *
    generalize encL x = X at *
    simp [E1_web_in, this]⟩
  have e : (sp 10 l).map (fun x => rowD (rowO (sp 32 x))) = (rws l).map rowD := by unfold rws; rw [List.map_map]; rfl
  rw [e] at s1
  exact s_asg s1 rfl
theorem web_in_none {l : List Nat} (ha : Asc l) (hl : l.length ≤ 100000) (h : (rws l).any Option.isNone = true) : p_web_in [encL l] = .ex ⟨"InvalidText", none⟩ := by
  have ni := none_in (rws_asc ha)
  rw [h] at ni
  refine fn_ex (ρ := R7 (encL l) (some (.d (.lst ((rws l).map rowD)))) none none) (μ := []) ?_
  have r0 : rho0 6 ([encL l].map Sl.d) = R7 (encL l) none none none := rfl
  rw [F_web_in_eq, r0]
  refine (seq_nx (wi_str l)).trans ((seq_nx (wi_rows hl)).trans ?_)
  generalize (rws l).map rowD = RR at *
  generalize encL l = E at *
  simp [ni]
def plcs (Rs : List (List Nat × List Nat)) : D := .tup ((Rs.filter fun r => decide (r.1 = plW)).map fun r => nums r.2)
theorem asc_pl : Asc plW := asc_l rfl
theorem asc_ti : Asc tiW := asc_l rfl
theorem web_pre {l : List Nat} {Rs : List (List Nat × List Nat)} (ha : Asc l) (hl : l.length ≤ 100000) (h : rws l = Rs.map some) : F_web_in (R7 (encL l) none none none) [] = sSeq (sIf (bOr (bNot (bV (eCall 1 p_fits_web (aCons (eV 3) (aNil))))) (bV (e2 neD (eCall 1 p_as_text (aCons (eV 3) (aNil))) (eV 0)))) (sRaise "InvalidText") (sNil)) (sRet (eV 3)) (R7 (encL l) (some (.d (.lst (Rs.map rowS)))) (some (.d (plcs Rs))) (some (.d (fnd Rs)))) [] := by
  have ni := none_in (rws_asc ha)
  have as := rws_asc ha
  have st := wi_rows hl
  have tt := tot_sp 10 l
  have wl : (rws l).length ≤ 1000000 := by unfold rws; rw [List.length_map]; unfold tot at tt; omega
  rw [h] at ni as st wl
  rw [List.length_map] at wl
  have as' : ∀ r, r ∈ Rs → Asc r.1 := fun r hr => as r (List.mem_map.2 ⟨r, hr, rfl⟩)
  have e1 : (Rs.map some).any Option.isNone = false := by rw [List.any_map]; simp
  have e2 : (Rs.map some).map rowD = Rs.map rowS := by rw [List.map_map]; rfl
  rw [e1, e2] at ni
  rw [e2] at st
  rw [F_web_in_eq]
  refine (seq_nx (wi_str l)).trans ((seq_nx st).trans ?_)
  refine (seq_nx (ρ' := R7 (encL l) (some (.d (.lst (Rs.map rowS)))) none none) (μ' := []) (by
    generalize Rs.map rowS = RR at *
    generalize encL l = E at *
    simp [ni])).trans ?_
  have c1 := frz_lcf (vs := [5, 6]) (src := sSq (eV 1)) (g := G2_web_in) (t := T2_web_in) (e := E2_web_in) (ρ := R7 (encL l) (some (.d (.lst (Rs.map rowS)))) none none) (μ := []) rowS (fun r => decide (r.1 = plW)) (fun r => nums r.2) Rs rfl (by omega) fun r hr => ⟨[some (.d (encL l)), some (.d (.lst (Rs.map rowS))), none, none, none, some (.d (encL r.1)), some (.d (nums r.2))], rfl, by
    have q := eqD_L (as' r hr) asc_pl
    rw [← str_of tl_pl] at q
    unfold T2_web_in
    generalize Rs.map rowS = RR at *
    generalize encL l = E at *
    generalize encL r.1 = E2 at *
    generalize nums r.2 = N2 at *
    simp [q], fun _ => rfl⟩
  refine (seq_nx (ρ' := R7 (encL l) (some (.d (.lst (Rs.map rowS)))) (some (.d (plcs Rs))) none) (μ' := []) (s_asg (fn_lst c1 rfl) rfl)).trans ?_
  have c2 := frz_lcf (vs := [5, 6]) (src := sSq (eV 1)) (g := G3_web_in) (t := T3_web_in) (e := E3_web_in) (ρ := R7 (encL l) (some (.d (.lst (Rs.map rowS)))) (some (.d (plcs Rs))) none) (μ := []) rowS (fun r => decide (r.1 = tiW)) (fun r => nums r.2) Rs rfl (by omega) fun r hr => ⟨[some (.d (encL l)), some (.d (.lst (Rs.map rowS))), some (.d (plcs Rs)), none, none, some (.d (encL r.1)), some (.d (nums r.2))], rfl, by
    have q := eqD_L (as' r hr) asc_ti
    rw [← str_of tl_ti] at q
    unfold T3_web_in
    generalize Rs.map rowS = RR at *
    generalize plcs Rs = PP at *
    generalize encL l = E at *
    generalize encL r.1 = E2 at *
    generalize nums r.2 = N2 at *
    simp [q], fun _ => rfl⟩
  have c3 := fn_lst (q := tupleD) c2 rfl
  have ef : fnd Rs = .tup [plcs Rs, .tup ((Rs.filter fun r => decide (r.1 = tiW)).map fun r => nums r.2)] := rfl
  rw [ef]
  generalize ((Rs.filter fun r => decide (r.1 = tiW)).map fun r => nums r.2) = TT at *
  generalize eN tupleD (aCons (eFrz (lLc [5, 6] (sSq (eV 1)) G3_web_in T3_web_in E3_web_in)) aNil) = EE at *
  refine (seq_nx (ρ' := R7 (encL l) (some (.d (.lst (Rs.map rowS)))) (some (.d (plcs Rs))) (some (.d (.tup [plcs Rs, .tup TT])))) (μ' := []) ?_)
  generalize Rs.map rowS = RR at *
  generalize plcs Rs = PP at *
  generalize encL l = E at *
  simp [c3]
end Bt

set_option linter.all false
set_option maxRecDepth 100000
set_option maxHeartbeats 1000000
/-! X5: the program reads the texts of webs, and nothing else -/
namespace Bt
open PySem DL LV L2 TL
theorem list_of {α : Type} (enc : α → D) (Q : α → Prop) : ∀ (ds : List D), (∀ d, d ∈ ds → ∃ a, d = enc a ∧ Q a) → ∃ as : List α, ds = as.map enc ∧ ∀ a, a ∈ as → Q a
  | [], _ => ⟨[], rfl, fun _ h => nomatch h⟩
  | d :: ds, h => by
    obtain ⟨a, e, q⟩ := h d (List.mem_cons_self ..)
    obtain ⟨as, e2, q2⟩ := list_of enc Q ds fun x hx => h x (List.mem_cons_of_mem _ hx)
    exact ⟨a :: as, by rw [e, e2]; rfl, fun x hx => (List.mem_cons.1 hx).elim (fun z => z ▸ q) (q2 x)⟩
theorem stB_get {d : D} (h : stB d = true) : ∃ p : Pl, d = eP p ∧ (0 ≤ p.1 ∧ p.1 ≤ p.2 ∧ p.2 ≤ far) := by
  unfold stB at h
  split at h
  · rename_i x b
    simp only [Bool.and_eq_true] at h
    obtain ⟨h1, h2⟩ := h
    obtain ⟨a, rfl, a1, a2⟩ := whB_int h1
    obtain ⟨b', eb, b1, b2⟩ := whB_int h2
    cases eb
    exact ⟨(a, b), rfl, a1, b1, b2⟩
  · cases h
theorem wbB_inv {ps ts : List D} (h : wbB (.tup [.tup ps, .tup ts]) = true) : ∃ (P : List Pl) (T : List Tl), ps = P.map eP ∧ ts = T.map eT ∧ WebOk P T := by
  unfold wbB at h
  simp only [Bool.and_eq_true, decide_eq_true_eq, List.all_eq_true] at h
  obtain ⟨⟨⟨⟨⟨h1, h2⟩, h3⟩, h4⟩, h5⟩, h6⟩ := h
  obtain ⟨P, rfl, hP⟩ := list_of eP _ ps fun d hd => stB_get (h3 d hd)
  obtain ⟨T, rfl, hT⟩ := list_of eT (fun t : Tl => (t.1 < t.2.1 ∧ t.2.1 < P.length ∧ 0 < t.2.2) ∧ t.2.2 ≤ far) ts fun d hd => by
    obtain ⟨a, b, c, rfl, k1, k2, k3, k4, k5⟩ := tiB_get (h5 d hd)
    rw [List.length_map] at k3
    refine ⟨(a.toNat, b.toNat, c), ?_, ⟨?_, ?_, ?_⟩, k5⟩
    · show D.tup [.int a, .int b, .int c] = .tup [.int (a.toNat : Nat), .int (b.toNat : Nat), .int c]
      rw [Int.toNat_of_nonneg k1, Int.toNat_of_nonneg (by omega)]
    · show a.toNat < b.toNat; omega
    · show b.toNat < P.length; omega
    · show 0 < c; omega
  rw [List.length_map] at h1 h2 h4
  refine ⟨P, T, rfl, rfl, h1, h2, hP, h4, fun t ht => (hT t ht).1, fun t ht => (hT t ht).2, fun q hq => ?_⟩
  have m : (eT q.1, eT q.2) ∈ (T.map eT).zip ((T.map eT).drop 1) := by
    rw [← List.map_drop, List.zip_map]
    exact List.mem_map.2 ⟨q, hq, rfl⟩
  have k := h6 _ m
  obtain ⟨⟨a, b, c⟩, a', b', c'⟩ := q
  have k : ltP ((a : Int), (b : Int)) ((a' : Int), (b' : Int)) = true := k
  unfold ltP at k
  simp only [Bool.or_eq_true, Bool.and_eq_true, decide_eq_true_eq] at k
  show a < a' ∨ (a = a' ∧ b < b')
  omega
theorem mem_join {c x : Nat} : ∀ {ls : List (List Nat)}, x ∈ joinL [c] ls → x = c ∨ ∃ p, p ∈ ls ∧ x ∈ p
  | [], h => by cases h
  | [p], h => .inr ⟨p, List.mem_cons_self .., h⟩
  | p :: q :: r, h => by
    have h : x ∈ p ++ ([c] ++ joinL [c] (q :: r)) := h
    rcases List.mem_append.1 h with h | h
    · exact .inr ⟨p, List.mem_cons_self .., h⟩
    · rcases List.mem_append.1 h with h | h
      · exact .inl (List.mem_singleton.1 h)
      · rcases mem_join h with h | ⟨z, h1, h2⟩
        · exact .inl h
        · exact .inr ⟨z, List.mem_cons_of_mem _ h1, h2⟩
/-- signs of a line: of the words, figures, blanks -/
def Ls (x : Nat) : Prop := x = 32 ∨ (97 ≤ x ∧ x ≤ 122) ∨ (48 ≤ x ∧ x ≤ 57)
theorem pl_ls : ∀ x, x ∈ plW → 97 ≤ x ∧ x ≤ 122 := by decide
theorem ti_ls : ∀ x, x ∈ tiW → 97 ≤ x ∧ x ≤ 122 := by decide
theorem place_ls (p : Pl) : ∀ x, x ∈ placeL p → Ls x := fun x hx => by
  rcases mem_join hx with h | ⟨w, hw, h⟩
  · exact .inl h
  · simp only [List.mem_cons, List.not_mem_nil, or_false] at hw
    rcases hw with rfl | rfl | rfl
    · exact .inr (.inl (pl_ls x h))
    · exact .inr (.inr (num_dig _ x h))
    · exact .inr (.inr (num_dig _ x h))
theorem tie_ls (t : Tl) : ∀ x, x ∈ tieL t → Ls x := fun x hx => by
  rcases mem_join hx with h | ⟨w, hw, h⟩
  · exact .inl h
  · simp only [List.mem_cons, List.not_mem_nil, or_false] at hw
    rcases hw with rfl | rfl | rfl | rfl
    · exact .inr (.inl (ti_ls x h))
    · exact .inr (.inr (num_dig _ x h))
    · exact .inr (.inr (num_dig _ x h))
    · exact .inr (.inr (num_dig _ x h))
section
variable {P : List Pl} {T : List Tl}
theorem lines_ls : ∀ l, l ∈ P.map placeL ++ T.map tieL → ∀ x, x ∈ l → Ls x := by
  intro l hl
  rcases List.mem_append.1 hl with h | h
  · obtain ⟨p, _, rfl⟩ := List.mem_map.1 h; exact place_ls p
  · obtain ⟨t, _, rfl⟩ := List.mem_map.1 h; exact tie_ls t
theorem lines_ne (hw : WebOk P T) : P.map placeL ++ T.map tieL ≠ [] := fun h => by
  have k := hw.n1
  have e := List.map_eq_nil_iff.1 (List.append_eq_nil_iff.1 h).1
  rw [e] at k
  exact absurd k (by simp)
theorem asL_lines (hw : WebOk P T) : sp 10 (asL P T) = P.map placeL ++ T.map tieL := sp_join (lines_ne hw) fun l hl h => by
  have := lines_ls l hl 10 h
  unfold Ls at this
  omega
theorem asL_asc : Asc (asL P T) := fun x hx => by
  rcases mem_join hx with h | ⟨l, hl, h⟩
  · omega
  · have := lines_ls l hl x h
    unfold Ls at this
    omega
theorem asL_len (hw : WebOk P T) : (asL P T).length ≤ 1515 := by
  have := join_len 10 (lines_ne hw)
  have := lines_tot hw
  unfold asL
  omega
theorem place_words (p : Pl) : sp 32 (placeL p) = [plW, numW p.1, numW p.2] := sp_join (by simp) fun w hw h => by
  simp only [List.mem_cons, List.not_mem_nil, or_false] at hw
  rcases hw with rfl | rfl | rfl
  · have := pl_ls 32 h; omega
  · have := num_dig _ 32 h; omega
  · have := num_dig _ 32 h; omega
theorem tie_words (t : Tl) : sp 32 (tieL t) = [tiW, numW (t.1 : Nat), numW (t.2.1 : Nat), numW t.2.2] := sp_join (by simp) fun w hw h => by
  simp only [List.mem_cons, List.not_mem_nil, or_false] at hw
  rcases hw with rfl | rfl | rfl | rfl
  · have := ti_ls 32 h; omega
  · have := num_dig _ 32 h; omega
  · have := num_dig _ 32 h; omega
  · have := num_dig _ 32 h; omega
theorem num_fig {n : Int} (h : Nu n) : figB (numW n) = true := by
  have a := num_len h
  have b : numW n ≠ [] := numL_ne _
  have c := num_dig n
  have d : 0 < (numW n).length := List.length_pos_iff.2 b
  unfold figB
  simp only [Bool.and_eq_true, decide_eq_true_eq, List.all_eq_true]
  exact ⟨⟨d, a⟩, fun x hx => c x hx⟩
theorem num_val (n : Int) : NumText.digitsVal (numW n) = n.toNat := numL_val _
def rP (p : Pl) : List Nat × List Nat := (plW, [p.1.toNat, p.2.toNat])
def rT (t : Tl) : List Nat × List Nat := (tiW, [t.1, t.2.1, t.2.2.toNat])
theorem place_row {p : Pl} (h1 : Nu p.1) (h2 : Nu p.2) : rowO (sp 32 (placeL p)) = some (rP p) := by
  rw [place_words, rowO_cons, if_pos (by simp [num_fig h1, num_fig h2])]
  simp [num_val, rP]
theorem tie_row {t : Tl} (h1 : Nu (t.1 : Nat)) (h2 : Nu (t.2.1 : Nat)) (h3 : Nu t.2.2) : rowO (sp 32 (tieL t)) = some (rT t) := by
  rw [tie_words, rowO_cons, if_pos (by simp [num_fig h1, num_fig h2, num_fig h3])]
  simp [num_val, rT]
theorem asL_rws (hw : WebOk P T) : rws (asL P T) = (P.map rP ++ T.map rT).map some := by
  obtain ⟨h1, h2⟩ := web_nu hw
  unfold rws
  rw [asL_lines hw, List.map_append, List.map_append, List.map_map, List.map_map, List.map_map, List.map_map]
  congr 1
  · exact List.map_congr_left fun p hp => place_row (h1 p hp).1 (h1 p hp).2
  · exact List.map_congr_left fun t ht => tie_row (h2 t ht).1 (h2 t ht).2.1 (h2 t ht).2.2
theorem fnd_eq (hw : WebOk P T) : fnd (P.map rP ++ T.map rT) = eW P T := by
  obtain ⟨h1, h2⟩ := web_nu hw
  have n1 : ¬ plW = tiW := by decide
  have n2 : ¬ tiW = plW := by decide
  have a : ((P.map rP ++ T.map rT).filter fun r => decide (r.1 = plW)) = P.map rP := by
    rw [List.filter_append, List.filter_eq_self.2 (fun r hr => by obtain ⟨p, _, rfl⟩ := List.mem_map.1 hr; simp [rP]), List.filter_eq_nil_iff.2 (fun r hr => by obtain ⟨t, _, rfl⟩ := List.mem_map.1 hr; simp [rT, n2]), List.append_nil]
  have b : ((P.map rP ++ T.map rT).filter fun r => decide (r.1 = tiW)) = T.map rT := by
    rw [List.filter_append, List.filter_eq_nil_iff.2 (fun r hr => by obtain ⟨p, _, rfl⟩ := List.mem_map.1 hr; simp [rP, n1]), List.filter_eq_self.2 (fun r hr => by obtain ⟨t, _, rfl⟩ := List.mem_map.1 hr; simp [rT]), List.nil_append]
  unfold fnd
  rw [a, b, List.map_map, List.map_map]
  show D.tup [.tup (P.map _), .tup (T.map _)] = .tup [.tup (P.map eP), .tup (T.map eT)]
  have c : P.map ((fun r => nums r.2) ∘ rP) = P.map eP := List.map_congr_left fun p hp => by
    obtain ⟨k1, k2⟩ := h1 p hp
    show D.tup [.int (p.1.toNat : Nat), .int (p.2.toNat : Nat)] = .tup [.int p.1, .int p.2]
    rw [Int.toNat_of_nonneg k1.1, Int.toNat_of_nonneg k2.1]
  have d : T.map ((fun r => nums r.2) ∘ rT) = T.map eT := List.map_congr_left fun t ht => by
    obtain ⟨k1, k2, k3⟩ := h2 t ht
    show D.tup [.int (t.1 : Nat), .int (t.2.1 : Nat), .int (t.2.2.toNat : Nat)] = .tup [.int (t.1 : Nat), .int (t.2.1 : Nat), .int t.2.2]
    rw [Int.toNat_of_nonneg k3.1]
  rw [c, d]
theorem web_in_t (hw : WebOk P T) : p_web_in [encL (asL P T)] = .ok (eW P T) := by
  have hl := asL_len hw
  have pre := web_pre asL_asc (by omega) (asL_rws hw)
  rw [fnd_eq hw] at pre
  refine fn_rt (s := .d (eW P T)) (μ := []) ?_ rfl
  have r0 : rho0 6 ([encL (asL P T)].map Sl.d) = R7 (encL (asL P T)) none none none := rfl
  rw [r0, pre]
  have f := fits_web_eq (eW_pl P T)
  rw [eW_wb hw] at f
  have t := as_text_eq hw
  have n := neD_L (asL_asc (P := P) (T := T)) (asL_asc (P := P) (T := T))
  generalize (P.map rP ++ T.map rT).map rowS = RR at *
  generalize plcs (P.map rP ++ T.map rT) = PP at *
  generalize eW P T = W at *
  generalize encL (asL P T) = E at *
  simp [f, t, n]
end
theorem all_some : ∀ (R : List (Option (List Nat × List Nat))), R.any Option.isNone = false → ∃ Rs : List (List Nat × List Nat), R = Rs.map some
  | [], _ => ⟨[], rfl⟩
  | none :: R, h => by simp at h
  | some r :: R, h => by
    obtain ⟨Rs, e⟩ := all_some R (by simpa using h)
    exact ⟨r :: Rs, by rw [e]; rfl⟩
theorem web_in_f {l : List Nat} (ha : Asc l) (hl : l.length ≤ 100000) (h : ∀ P T, WebOk P T → l ≠ asL P T) : p_web_in [encL l] = .ex ⟨"InvalidText", none⟩ := by
  cases q : (rws l).any Option.isNone with
  | true => exact web_in_none ha hl q
  | false =>
    obtain ⟨Rs, e⟩ := all_some _ q
    have pre := web_pre ha hl e
    refine fn_ex (ρ := R7 (encL l) (some (.d (.lst (Rs.map rowS)))) (some (.d (plcs Rs))) (some (.d (fnd Rs)))) (μ := []) ?_
    have r0 : rho0 6 ([encL l].map Sl.d) = R7 (encL l) none none none := rfl
    rw [r0, pre]
    have f := fits_web_eq (fnd_pl Rs)
    cases b : wbB (fnd Rs) with
    | false =>
      rw [b] at f
      generalize Rs.map rowS = RR at *
      generalize plcs Rs = PP at *
      generalize fnd Rs = W at *
      generalize encL l = E at *
      simp [f]
    | true =>
      rw [b] at f
      obtain ⟨P, T, e1, e2, hw⟩ := wbB_inv b
      have ef : fnd Rs = eW P T := by unfold fnd; rw [e1, e2]; rfl
      have t := as_text_eq hw
      have n := neD_L (asL_asc (P := P) (T := T)) ha
      rw [decide_eq_false fun z => h P T hw z.symm] at n
      rw [ef] at f ⊢
      generalize Rs.map rowS = RR at *
      generalize plcs Rs = PP at *
      generalize eW P T = W at *
      generalize encL (asL P T) = A at *
      generalize encL l = E at *
      simp [f, t, n]
theorem read_t {P : List Pl} {T : List Tl} (hw : WebOk P T) : p_read_web [encL (asL P T)] = .ok (eW P T) := by
  have := web_in_t hw
  refine fn_rt (s := .d (eW P T)) (μ := []) ?_ rfl
  generalize eW P T = W at *
  generalize encL (asL P T) = E at *
  simp [F_read_web, rho0, this]
theorem read_f {l : List Nat} (ha : Asc l) (hl : l.length ≤ 100000) (h : ∀ P T, WebOk P T → l ≠ asL P T) : p_read_web [encL l] = .ex ⟨"InvalidText", none⟩ := by
  have := web_in_f ha hl h
  refine fn_ex (ρ := [some (.d (encL l))]) (μ := []) ?_
  generalize encL l = E at *
  simp [F_read_web, rho0, this]
end Bt

set_option linter.all false
set_option maxRecDepth 100000
set_option maxHeartbeats 1000000
/-! X6: the law's reader, a line -/
namespace DL
open PySem L2
theorem lexGt2 (a b c d : Int) : lexGt [a, b] [c, d] = (decide (c < a) || (decide (a = c) && decide (d < b))) := by
  unfold lexGt
  simp only [List.length_cons, List.length_nil, Nat.min_self]
  rw [Ob.lexAt_succ, Ob.lexAt_succ, Ob.lexAt_zero]
  simp
  by_cases h : a = c
  · subst h
    by_cases k : b = d
    · subst k; simp
    · simp [k]
  · simp [h]
theorem gtT2 (a b c d : Int) : gtTD (.tup [.int a, .int b]) (.tup [.int c, .int d]) = some (.bl (decide (c < a) || (decide (a = c) && decide (d < b)))) := by
  rw [← lexGt2]; rfl
open Classical in
theorem frz_lco {γ : Type} {vs : List Nat} {f : EF} {g : GF} {t : BF} {e : EF} {ρ : Rho} {μ : Store} (n : Nat) (enc : γ → D) (p : γ → Bool) (h : γ → D) (xs : List γ) (hf : f ρ μ = .ok (.ob n) μ) (hm : μ[n]? = some (.lst (xs.map enc))) (hl : xs.length ≤ 16777216) (st : ∀ x, x ∈ xs → ∃ ρ1, g (.d (enc x)) (wipeR ρ vs) = some ρ1 ∧ t ρ1 μ = .ok (p x) μ ∧ (p x = true → e ρ1 μ = .ok (.d (h x)) μ)) : eFrz (lLcO vs f g t e) ρ μ = .ok (.d (.lst ((xs.filter p).map h))) μ := by
  have key : ∀ (ys : List γ), (∀ y, y ∈ ys → y ∈ xs) → lcK vs g t e ρ n (xs.map enc) (ys.map enc) μ = .ok ((ys.filter p).map h) μ := by
    intro ys
    induction ys with
    | nil =>
      intro _
      rw [List.map_nil]
      unfold lcK
      rw [if_pos hm]; rfl
    | cons y ys ih =>
      intro hy
      have h1 := lc_filter (vs := vs) (g := g) (t := t) (e := e) (ρ := ρ) (μ := μ) enc p h [y] fun x hx => st x (hy x (by rw [List.mem_singleton.1 hx]; exact List.mem_cons_self ..))
      have h2 := ih fun z hz => hy z (List.mem_cons_of_mem _ hz)
      rw [List.map_cons]
      unfold lcK
      rw [if_pos hm]
      have h1 : lcL vs g t e ρ [enc y] μ = .ok (([y].filter p).map h) μ := h1
      rw [h1, rbind_ok, h2, rbind_ok, ← List.map_append, ← List.filter_append]
      rfl
  have k := key xs fun _ h => h
  have fl := List.length_filter_le p xs
  rw [eFrz_eq]
  unfold lLcO
  rw [hf, rbind_ok]
  simp only [hm, k]
  unfold lCap
  simp only [List.length_map]
  rw [if_pos (by omega), rbind_ok]
end DL
namespace Bt
open PySem DL LV L2 TL
def allN : List (Option Nat) → Option (List Nat)
  | [] => some []
  | none :: _ => none
  | some n :: r => (allN r).map (n :: ·)
theorem allN_none : ∀ {L : List (Option Nat)}, allN L = none → L.any Option.isNone = true
  | none :: _, _ => rfl
  | some n :: r, h => by
    have : allN r = none := by simpa [allN] using h
    simpa using allN_none this
theorem allN_some : ∀ {L : List (Option Nat)} {ns : List Nat}, allN L = some ns → L = ns.map some
  | [], _, h => by cases h; rfl
  | some n :: r, ns, h => by
    simp only [allN, Option.map_eq_some_iff] at h
    obtain ⟨ms, h1, rfl⟩ := h
    rw [allN_some h1]; rfl
theorem allN_of (ns : List Nat) : allN (ns.map some) = some ns := by
  induction ns with
  | nil => rfl
  | cons n r ih => simp [allN, ih]
def befT (T : List Tl) : Int × Int := match T.getLast? with
  | none => (-1, -1)
  | some t => (((t.1 : Nat) : Int), ((t.2.1 : Nat) : Int))
def befD (T : List Tl) : D := .tup [.int (befT T).1, .int (befT T).2]
def gtP (p q : Int × Int) : Bool := decide (q.1 < p.1) || (decide (p.1 = q.1) && decide (q.2 < p.2))
def numsL (ws : List (List Nat)) : Option (List Nat) := match allN (ws.map numO) with
  | none => none
  | some ns => if (ns.any fun n => decide (1000000000000000000000000000000 < n)) = true then none else some ns
def stepW (st : List Pl × List Tl) (w : List Nat) : Option (List Nat) → Option (List Pl × List Tl)
  | some [a, b] => if w = plW ∧ st.2 = [] ∧ a ≤ b then some (st.1 ++ [(((a : Nat) : Int), ((b : Nat) : Int))], st.2) else none
  | some [a, b, c] => if w = tiW ∧ a < b ∧ 0 < c ∧ gtP (((a : Nat) : Int), ((b : Nat) : Int)) (befT st.2) = true then some (st.1, st.2 ++ [(a, b, ((c : Nat) : Int))]) else none
  | _ => none
def stepL (st : List Pl × List Tl) (l : List Nat) : Option (List Pl × List Tl) := match sp 32 l with
  | [] => none
  | w :: ws => stepW st w (numsL ws)
theorem none_inN (L : List (Option Nat)) : inD .non (.lst (L.map numD)) = some (.bl (L.any Option.isNone)) := by
  have h : ∀ L : List (Option Nat), cmpOkL (L.map numD) = true ∧ deepL (L.map numD) = 0 := fun L => by
    induction L with
    | nil => exact ⟨rfl, rfl⟩
    | cons x r ih => cases x <;> simp [numD, cmpOkL, D.cmpOk, deepL, D.deep, ih.1, ih.2]
  obtain ⟨h1, h2⟩ := h L
  unfold inD
  show (if (D.non).shaped = true ∧ (D.lst (L.map numD)).shaped = true then some ((L.map numD).any fun z => D.beq z .non) else none).map D.bl = _
  rw [if_pos ⟨rfl, by simp [D.shaped, D.cmpOk, D.deep, h1, h2]⟩, List.any_map]
  show some (D.bl _) = _
  congr 2
  refine congrArg (fun p => List.any L p) (funext fun r => ?_)
  cases r with
  | none => rfl
  | some r => rfl
theorem eqD_ties (T : List Tl) : eqD (.lst (T.map eT)) (.lst []) = some (.bl (decide (T = []))) := by
  have h : ∀ T : List Tl, cmpOkL (T.map eT) = true ∧ deepL (T.map eT) ≤ 1 := fun T => by
    induction T with
    | nil => exact ⟨rfl, by simp [deepL]⟩
    | cons x r ih =>
      obtain ⟨i1, i2⟩ := ih
      simp [eT, cmpOkL, D.cmpOk, deepL, D.deep, i1]; omega
  obtain ⟨h1, h2⟩ := h T
  unfold eqD
  rw [if_pos ⟨by simp [D.shaped, D.cmpOk, D.deep, h1]; omega, rfl⟩]
  cases T with
  | nil => rfl
  | cons x L => rfl
theorem befT_app (T : List Tl) (t : Tl) : befT (T ++ [t]) = (((t.1 : Nat) : Int), ((t.2.1 : Nat) : Int)) := by
  unfold befT; rw [List.getLast?_concat]
abbrev R9 (t : Sl) (B line : D) (j5 j6 : Option Sl) : Rho := [some t, some (.ob 0), some (.ob 1), some (.d B), some (.d line), j5, j6, none, none]
abbrev MU (P : List Pl) (T : List Tl) : Store := [.lst (P.map eP), .lst (T.map eT)]
theorem pw30' : powD (.int 10) (.int 30) = some (.int 1000000000000000000000000000000) := rfl
def outS (f : List Pl × List Tl → Out) (n : Out) : Option (List Pl × List Tl) → Out
  | some s => f s
  | none => n
theorem stepW_2 (st : List Pl × List Tl) (w : List Nat) (a b : Nat) : stepW st w (some [a, b]) = if w = plW ∧ st.2 = [] ∧ a ≤ b then some (st.1 ++ [(((a : Nat) : Int), ((b : Nat) : Int))], st.2) else none := rfl
theorem stepW_3 (st : List Pl × List Tl) (w : List Nat) (a b c : Nat) : stepW st w (some [a, b, c]) = if w = tiW ∧ a < b ∧ 0 < c ∧ gtP (((a : Nat) : Int), ((b : Nat) : Int)) (befT st.2) = true then some (st.1, st.2 ++ [(a, b, ((c : Nat) : Int))]) else none := rfl
/-- the last part of a turn -/
theorem turn_end {P : List Pl} {T : List Tl} {w : List Nat} {ns : List Nat} {t : Sl} {line : D} {LL : List D} (hw : Asc w) (hx : ixD (.lst LL) (.int 0) = some (encL w)) (c1 : P.length < 16777216) (c2 : T.length < 16777216) :
    sIf (bAnd (bV (e2 eqD (e2 ixD (eV 5) (eC (.int 0))) (eC (.str "place")))) (bAnd (bV (e2 eqD (eN lenD (aCons (eV 6) (aNil))) (eC (.int 2)))) (bAnd (bV (e2 eqD (eV 2) (eFrz (lLst (aNil))))) (bV (e2 leD (e2 ixD (eV 6) (eC (.int 0))) (e2 ixD (eV 6) (eC (.int 1)))))))) (sExp (eApp (eV 1) (eTup (aCons (e2 ixD (eV 6) (eC (.int 0))) (aCons (e2 ixD (eV 6) (eC (.int 1))) (aNil)))))) (sIf (bAnd (bV (e2 eqD (e2 ixD (eV 5) (eC (.int 0))) (eC (.str "tie")))) (bAnd (bV (e2 eqD (eN lenD (aCons (eV 6) (aNil))) (eC (.int 3)))) (bAnd (bV (e2 ltD (e2 ixD (eV 6) (eC (.int 0))) (e2 ixD (eV 6) (eC (.int 1))))) (bAnd (bV (e2 gtD (e2 ixD (eV 6) (eC (.int 2))) (eC (.int 0)))) (bV (e2 gtTD (eTup (aCons (e2 ixD (eV 6) (eC (.int 0))) (aCons (e2 ixD (eV 6) (eC (.int 1))) (aNil)))) (eV 3))))))) (sSeq (sAsg (eTup (aCons (e2 ixD (eV 6) (eC (.int 0))) (aCons (e2 ixD (eV 6) (eC (.int 1))) (aNil)))) (gN 3)) (sExp (eApp (eV 2) (eTup (aCons (e2 ixD (eV 6) (eC (.int 0))) (aCons (e2 ixD (eV 6) (eC (.int 1))) (aCons (e2 ixD (eV 6) (eC (.int 2))) (aNil)))))))) (sRet (eC .non))) (R9 t (befD T) line (some (.d (.lst LL))) (some (.d (.lst (ns.map nD))))) (MU P T) = outS (fun s => .nx (R9 t (befD s.2) line (some (.d (.lst LL))) (some (.d (.lst (ns.map nD))))) (MU s.1 s.2)) (.rt (.d .non) (MU P T)) (stepW (P, T) w (some ns)) := by
  have q1 := eqD_L hw asc_pl
  have q2 := eqD_L hw asc_ti
  rw [← str_of tl_pl] at q1
  rw [← str_of tl_ti] at q2
  have q3 := eqD_ties T
  have pt : ¬ plW = tiW := by decide
  have tp : ¬ tiW = plW := by decide
  have bd : befD T = .tup [.int (befT T).1, .int (befT T).2] := rfl
  rw [bd]
  have big : ∀ (a b c d : Nat) (r : List Nat), ((a :: b :: c :: d :: r).length : Int) ≠ 2 ∧ ((a :: b :: c :: d :: r).length : Int) ≠ 3 := fun a b c d r => by simp; omega
  match ns with
  | [] =>
    show _ = Out.rt (.d .non) (MU P T)
    generalize befT T = B at *
    generalize encL w = W at *
    by_cases h1 : w = plW
    · subst h1
      simp [hx, q1, q2, pt, lenD_l]
    · by_cases h2 : w = tiW
      · subst h2; simp [hx, q1, q2, h1, lenD_l]
      · simp [hx, q1, q2, h1, h2]
  | [a] =>
    show _ = Out.rt (.d .non) (MU P T)
    generalize befT T = B at *
    generalize encL w = W at *
    by_cases h1 : w = plW
    · subst h1
      simp [hx, q1, q2, pt, lenD_l]
    · by_cases h2 : w = tiW
      · subst h2; simp [hx, q1, q2, h1, lenD_l]
      · simp [hx, q1, q2, h1, h2]
  | a :: b :: c :: d :: r =>
    show _ = Out.rt (.d .non) (MU P T)
    have b1 := (big a b c d r).1
    have b2 := (big a b c d r).2
    have ll : ((a :: b :: c :: d :: r).map nD).length = (a :: b :: c :: d :: r).length := List.length_map ..
    generalize befT T = B at *
    generalize encL w = W at *
    generalize (a :: b :: c :: d :: r).map nD = NN at *
    rw [← ll] at b1 b2
    by_cases h1 : w = plW
    · subst h1
      simp [hx, q1, q2, pt, lenD_l, b1]
    · by_cases h2 : w = tiW
      · subst h2; simp [hx, q1, q2, h1, lenD_l, b2]
      · simp [hx, q1, q2, h1, h2]
  | [a, b] =>
    have i0 : ixD (.lst [nD a, nD b]) (.int 0) = some (nD a) := rfl
    have i1 : ixD (.lst [nD a, nD b]) (.int 1) = some (nD b) := rfl
    rw [stepW_2]
    by_cases h1 : w = plW
    · subst h1
      by_cases h2 : T = []
      · subst h2
        by_cases h3 : a ≤ b
        · rw [if_pos ⟨rfl, rfl, h3⟩]
          show _ = Out.nx (R9 t (befD []) line (some (.d (.lst LL))) (some (.d (.lst [nD a, nD b])))) (MU (P ++ [(((a : Nat) : Int), ((b : Nat) : Int))]) [])
          simp at q1 q3
          simp [hx, q1, lenD_l, q3, i0, i1, h3, c1, eP, befD]
        · rw [if_neg (fun h => h3 h.2.2)]
          show _ = Out.rt (.d .non) (MU P [])
          simp at q1 q2 q3
          simp [hx, q1, q2, pt, lenD_l, q3, i0, i1, h3]
      · rw [if_neg (fun h => h2 h.2.1)]
        show _ = Out.rt (.d .non) (MU P T)
        simp at q1 q2
        rw [decide_eq_false h2] at q3
        generalize befT T = B at *
        simp [hx, q1, q2, pt, lenD_l, q3, i0, i1]
    · rw [if_neg (fun h => h1 h.1)]
      show _ = Out.rt (.d .non) (MU P T)
      generalize befT T = B at *
      generalize encL w = W at *
      by_cases h2 : w = tiW
      · subst h2; simp [hx, q1, q2, h1, lenD_l]
      · simp [hx, q1, q2, h1, h2]
  | [a, b, c] =>
    have i0 : ixD (.lst [nD a, nD b, nD c]) (.int 0) = some (nD a) := rfl
    have i1 : ixD (.lst [nD a, nD b, nD c]) (.int 1) = some (nD b) := rfl
    have i2 : ixD (.lst [nD a, nD b, nD c]) (.int 2) = some (nD c) := rfl
    have g := gtT2 (a : Nat) (b : Nat) (befT T).1 (befT T).2
    rw [stepW_3]
    have gp : gtP (((a : Nat) : Int), ((b : Nat) : Int)) (befT T) = (decide ((befT T).1 < (a : Nat)) || (decide (((a : Nat) : Int) = (befT T).1) && decide ((befT T).2 < (b : Nat)))) := rfl
    rw [← gp] at g
    clear gp
    by_cases h1 : w = plW
    · subst h1
      rw [if_neg (fun h => pt h.1)]
      show _ = Out.rt (.d .non) (MU P T)
      generalize gtP (((a : Nat) : Int), ((b : Nat) : Int)) (befT T) = GG at *
      generalize befT T = B at *
      simp at q1 q2
      simp [hx, q1, q2, pt, lenD_l]
    · by_cases h2 : w = tiW
      · subst h2
        by_cases h3 : a < b
        · by_cases h4 : 0 < c
          · cases h5 : gtP (((a : Nat) : Int), ((b : Nat) : Int)) (befT T) with
            | true =>
              rw [h5] at g
              rw [if_pos ⟨rfl, h3, h4, rfl⟩]
              show _ = Out.nx (R9 t (befD (T ++ [(a, b, ((c : Nat) : Int))])) line (some (.d (.lst LL))) (some (.d (.lst [nD a, nD b, nD c])))) (MU P (T ++ [(a, b, ((c : Nat) : Int))]))
              have e : befD (T ++ [(a, b, ((c : Nat) : Int))]) = .tup [.int (a : Nat), .int (b : Nat)] := by unfold befD; rw [befT_app]
              rw [e]
              have e2 : (T ++ [(a, b, ((c : Nat) : Int))]).map eT = T.map eT ++ [.tup [.int (a : Nat), .int (b : Nat), .int (c : Nat)]] := by rw [List.map_append]; rfl
              show _ = Out.nx _ [.lst (P.map eP), .lst ((T ++ [(a, b, ((c : Nat) : Int))]).map eT)]
              rw [e2]
              have c3 : (T.map eT).length < 16777216 := by rw [List.length_map]; exact c2
              generalize befT T = B at *
              simp at q1 q2 g
              simp [hx, q1, q2, tp, lenD_l, i0, i1, i2, h3, h4, g, c2]
            | false =>
              rw [h5] at g
              rw [if_neg (fun h => nomatch h.2.2.2)]
              show _ = Out.rt (.d .non) (MU P T)
              generalize befT T = B at *
              simp at q1 q2 g
              simp [hx, q1, q2, tp, lenD_l, i0, i1, i2, h3, h4, g]
          · rw [if_neg (fun h => h4 h.2.2.1)]
            show _ = Out.rt (.d .non) (MU P T)
            have h4' : c = 0 := by omega
            generalize befT T = B at *
            simp at q1 q2
            simp [hx, q1, q2, tp, lenD_l, i0, i1, i2, h3, h4']
        · rw [if_neg (fun h => h3 h.2.1)]
          show _ = Out.rt (.d .non) (MU P T)
          generalize befT T = B at *
          simp at q1 q2
          simp [hx, q1, q2, tp, lenD_l, i0, i1, i2, h3]
      · rw [if_neg (fun h => h2 h.1)]
        show _ = Out.rt (.d .non) (MU P T)
        generalize befT T = B at *
        generalize encL w = W at *
        simp [hx, q1, q2, h1, h2]
end Bt

set_option linter.all false
set_option maxRecDepth 100000
set_option maxHeartbeats 1000000
/-! X7: the law's reader -/
namespace Bt
open PySem DL LV L2 TL
theorem stepL_len {P P' : List Pl} {T T' : List Tl} {l : List Nat} (h : stepL (P, T) l = some (P', T')) : P'.length + T'.length ≤ P.length + T.length + 1 := by
  unfold stepL at h
  split at h
  · cases h
  · rename_i w ws _
    cases e : numsL ws with
    | none => rw [e] at h; cases h
    | some ns =>
      rw [e] at h
      match ns with
      | [] => cases h
      | [_] => cases h
      | [a, b] =>
        rw [stepW_2] at h
        split at h
        · cases h; simp; omega
        · cases h
      | [a, b, c] =>
        rw [stepW_3] at h
        split at h
        · cases h; simp; omega
        · cases h
      | _ :: _ :: _ :: _ :: _ => cases h
theorem read_step {P : List Pl} {T : List Tl} {l : List Nat} {t : Sl} {j5 j6 : Option Sl} (ha : Asc l) (hl : l.length ≤ 100000) (c1 : P.length < 16777216) (c2 : T.length < 16777216) :
    ∃ k5 k6, B1_u_law_read (R9 t (befD T) (encL l) j5 j6) (MU P T) = outS (fun s => .nx (R9 t (befD s.2) (encL l) k5 k6) (MU s.1 s.2)) (.rt (.d .non) (MU P T)) (stepL (P, T) l) := by
  have s0 := split_at (ρ := R9 t (befD T) (encL l) j5 j6) (μ := MU P T) (μ1 := MU P T) (f := eV 4) (c := 32) (l := l) tl_sp (by omega) rfl (by omega)
  have tt := tot_sp 32 l
  unfold stepL
  cases e : sp 32 l with
  | nil => exact absurd e (sp_ne 32 l)
  | cons w ws =>
  show ∃ k5 k6, _ = outS _ _ (stepW (P, T) w (numsL ws))
  have aw : Asc w := ha.part (by rw [e]; exact List.mem_cons_self ..)
  have aws : ∀ x, x ∈ ws → Asc x := fun x hx => ha.part (by rw [e]; exact List.mem_cons_of_mem _ hx)
  rw [e] at s0 tt
  rw [tot_cons] at tt
  have wl : ws.length ≤ 1000000 := by unfold tot at tt; omega
  have wm : ∀ x, x ∈ ws → x.length ≤ 1000000 := fun x hx => by have := mem_tot hx; omega
  have st1 : sAsg (eFrz (lSplit (eV 4) (eC (.str " ")))) (gN 5) (R9 t (befD T) (encL l) j5 j6) (MU P T) = .nx (R9 t (befD T) (encL l) (some (.d (.lst ((w :: ws).map encL)))) j6) (MU P T) := s_asg (s := .d (.lst ((w :: ws).map encL))) (by rw [eFrz_eq, s0, rbind_ok]) rfl
  have src : sSq (eSl (eV 5) (pSome (eC (.int 1))) pNone) (R9 t (befD T) (encL l) (some (.d (.lst ((w :: ws).map encL)))) j6) (MU P T) = .ok (ws.map encL) (MU P T) := by
    have cc : slD (.lst (encL w :: ws.map encL)) (some 1) none = some (.lst (ws.map encL)) := by
      show some (D.lst (cutD (encL w :: ws.map encL) (some ((1 : Nat) : Int)) none)) = _
      rw [cutD_from]; rfl
    generalize encL l = E at *
    generalize befD T = B at *
    generalize MU P T = M at *
    simp [cc]
  have lc := frz_lc (vs := [7]) (src := sSq (eSl (eV 5) (pSome (eC (.int 1))) pNone)) (g := G2_u_law_read) (e := E2_u_law_read) (ρ := R9 t (befD T) (encL l) (some (.d (.lst ((w :: ws).map encL)))) j6) (μ := MU P T) encL (fun x => numD (numO x)) ws src (by omega) fun x hx => ⟨[some t, some (.ob 0), some (.ob 1), some (.d (befD T)), some (.d (encL l)), some (.d (.lst ((w :: ws).map encL))), j6, some (.d (encL x)), none], rfl, by
    have := number_eq (aws x hx) (wm x hx)
    generalize (w :: ws).map encL = LL at *
    generalize encL l = E at *
    generalize encL x = X at *
    generalize befD T = B at *
    generalize MU P T = M at *
    simp [E2_u_law_read, this]⟩
  have eN2 : ws.map (fun x => numD (numO x)) = (ws.map numO).map numD := by rw [List.map_map]; rfl
  rw [eN2] at lc
  have ni := none_inN (ws.map numO)
  have ix : ixD (.lst ((w :: ws).map encL)) (.int 0) = some (encL w) := by
    show L2.atI ((w :: ws).map encL) ((0 : Nat) : Int) = _
    rw [DL.atI_nat]; rfl
  refine ⟨some (.d (.lst ((w :: ws).map encL))), some (.d (.lst ((ws.map numO).map numD))), ?_⟩
  unfold B1_u_law_read
  refine (seq_nx st1).trans ((seq_nx (s_asg lc rfl)).trans ?_)
  unfold numsL
  cases q : allN (ws.map numO) with
  | none =>
    rw [allN_none q] at ni
    show _ = Out.rt (.d .non) (MU P T)
    refine seq_rt ((s_ift (b_ort (b_v (b := true) ?_))).trans rfl)
    generalize (ws.map numO).map numD = NN at *
    generalize (w :: ws).map encL = LL at *
    generalize encL l = E at *
    generalize befD T = B at *
    generalize MU P T = M at *
    simp [ni]
  | some ns =>
    have en := allN_some q
    have e3 : (ws.map numO).map numD = ns.map nD := by rw [en, List.map_map]; rfl
    rw [e3] at ni
    have an : (ws.map numO).any Option.isNone = false := by rw [en, List.any_map]; simp
    rw [an] at ni
    rw [e3]
    have nl : ns.length = ws.length := by
      have := congrArg List.length en
      simpa using this.symm
    have fl := frz_lcf (vs := [7]) (src := sSq (eV 6)) (g := G3_u_law_read) (t := T3_u_law_read) (e := E3_u_law_read) (ρ := R9 t (befD T) (encL l) (some (.d (.lst ((w :: ws).map encL)))) (some (.d (.lst (ns.map nD))))) (μ := MU P T) nD (fun n => decide (1000000000000000000000000000000 < n)) nD ns rfl (by omega) fun n _ => ⟨[some t, some (.ob 0), some (.ob 1), some (.d (befD T)), some (.d (encL l)), some (.d (.lst ((w :: ws).map encL))), some (.d (.lst (ns.map nD))), some (.d (nD n)), none], rfl, by
      have p := pw30'
      have k : decide ((n : Int) > 1000000000000000000000000000000) = decide (1000000000000000000000000000000 < n) := by
        rw [Bool.eq_iff_iff, decide_eq_true_iff, decide_eq_true_iff]; omega
      unfold T3_u_law_read
      generalize (w :: ws).map encL = LL at *
      generalize ns.map nD = NN at *
      generalize encL l = E at *
      generalize befD T = B at *
      generalize MU P T = M at *
      rw [← k]
      generalize (1000000000000000000000000000000 : Int) = FF at *
      simp [p], fun _ => rfl⟩
    have nn := neD_nil (ns.filter fun n => decide (1000000000000000000000000000000 < n))
    have fe : decide ((ns.filter fun n => decide (1000000000000000000000000000000 < n)) ≠ []) = ns.any fun n => decide (1000000000000000000000000000000 < n) := by
      rw [Bool.eq_iff_iff, decide_eq_true_iff, List.any_eq_true, ne_eq, List.filter_eq_nil_iff]
      simp
    rw [fe] at nn
    show _ = outS _ _ (stepW (P, T) w (if (ns.any fun n => decide (1000000000000000000000000000000 < n)) = true then none else some ns))
    have cd : bOr (bV (e2 inD (eC .non) (eV 6))) (bV (e2 neD (eFrz (lLc [7] (sSq (eV 6)) G3_u_law_read T3_u_law_read E3_u_law_read)) (eFrz (lLst aNil)))) (R9 t (befD T) (encL l) (some (.d (.lst ((w :: ws).map encL)))) (some (.d (.lst (ns.map nD))))) (MU P T) = .ok (ns.any fun n => decide (1000000000000000000000000000000 < n)) (MU P T) := by
      generalize eFrz (lLc [7] (sSq (eV 6)) G3_u_law_read T3_u_law_read E3_u_law_read) = EF0 at *
      generalize (ns.filter fun n => decide (1000000000000000000000000000000 < n)).map nD = FN at *
      generalize (ns.any fun n => decide (1000000000000000000000000000000 < n)) = AA at *
      generalize (w :: ws).map encL = LL at *
      generalize ns.map nD = NN at *
      generalize encL l = E at *
      generalize befD T = B at *
      generalize MU P T = M at *
      simp [ni, fl, nn]
    cases b : (ns.any fun n => decide (1000000000000000000000000000000 < n)) with
    | true =>
      rw [b] at cd
      rw [if_pos rfl]
      show _ = Out.rt (.d .non) (MU P T)
      exact seq_rt ((s_ift cd).trans rfl)
    | false =>
      rw [b] at cd
      rw [if_neg (by decide)]
      exact (seq_nx ((s_iff cd).trans rfl)).trans (turn_end aw ix c1 c2)
def readL : List (List Nat) → List Pl × List Tl → Option (List Pl × List Tl)
  | [], s => some s
  | l :: ls, s => (stepL s l).bind (readL ls)
theorem for_rt {g : GF} {body : SF} {d : D} {ds : List D} {ρ ρ1 : Rho} {μ μ' : Store} {s : Sl} (h1 : g (.d d) ρ = some ρ1) (h2 : body ρ1 μ = .rt s μ') : forL g body (d :: ds) ρ μ = .rt s μ' := by simp only [forL, h1, h2]
theorem for_on {g : GF} {body : SF} {d : D} {ds : List D} {ρ ρ1 ρ' : Rho} {μ μ' : Store} (h1 : g (.d d) ρ = some ρ1) (h2 : body ρ1 μ = .nx ρ' μ') : forL g body (d :: ds) ρ μ = forL g body ds ρ' μ' := by simp only [forL, h1, h2]
theorem read_loop {t : Sl} : ∀ (ls : List (List Nat)) (P : List Pl) (T : List Tl) (j4 j5 j6 : Option Sl), (∀ l, l ∈ ls → Asc l ∧ l.length ≤ 100000) → P.length + T.length + ls.length ≤ 1000000 →
    ∃ k4 k5 k6 μ', forL G1_u_law_read B1_u_law_read (ls.map encL) [some t, some (.ob 0), some (.ob 1), some (.d (befD T)), j4, j5, j6, none, none] (MU P T) = outS (fun s => .nx [some t, some (.ob 0), some (.ob 1), some (.d (befD s.2)), k4, k5, k6, none, none] (MU s.1 s.2)) (.rt (.d .non) μ') (readL ls (P, T))
  | [], P, T, j4, j5, j6, _, _ => ⟨j4, j5, j6, MU P T, rfl⟩
  | l :: ls, P, T, j4, j5, j6, h, hc => by
    obtain ⟨h1, h2⟩ := h l (List.mem_cons_self ..)
    rw [List.length_cons] at hc
    obtain ⟨k5, k6, st⟩ := read_step (t := t) (j5 := j5) (j6 := j6) (P := P) (T := T) h1 h2 (by omega) (by omega)
    have g1 : G1_u_law_read (.d (encL l)) [some t, some (.ob 0), some (.ob 1), some (.d (befD T)), j4, j5, j6, none, none] = some (R9 t (befD T) (encL l) j5 j6) := rfl
    cases e : stepL (P, T) l with
    | none =>
      rw [e] at st
      have er : readL (l :: ls) (P, T) = none := by show (stepL (P, T) l).bind _ = _; rw [e]; rfl
      rw [er]
      exact ⟨none, none, none, MU P T, by rw [List.map_cons]; exact for_rt g1 st⟩
    | some s =>
      obtain ⟨P', T'⟩ := s
      rw [e] at st
      have er : readL (l :: ls) (P, T) = readL ls (P', T') := by show (stepL (P, T) l).bind _ = _; rw [e]; rfl
      rw [er]
      have hl := stepL_len e
      obtain ⟨k4, k5', k6', μ', r⟩ := read_loop ls P' T' (some (.d (encL l))) k5 k6 (fun x hx => h x (List.mem_cons_of_mem _ hx)) (by omega)
      exact ⟨k4, k5', k6', μ', by rw [List.map_cons]; exact (for_on g1 st).trans r⟩
def okB (s : List Pl × List Tl) : Bool := decide (1 ≤ s.1.length) && decide (s.1.length ≤ 5) && decide (s.2.length ≤ 10) && s.2.all fun t => decide (t.2.1 < s.1.length)
def lawR (l : List Nat) : Option (List Pl × List Tl) := match readL (sp 10 l) ([], []) with
  | none => none
  | some s => if okB s = true then some s else none
def webD : Option (List Pl × List Tl) → D
  | some s => eW s.1 s.2
  | none => .non
theorem neD_ties (T : List Tl) : neD (.lst (T.map eT)) (.lst []) = some (.bl (decide (T ≠ []))) := by
  have h := eqD_ties T
  unfold eqD at h
  unfold neD
  split at h
  · rename_i hs
    rw [if_pos hs]
    have : D.beq (.lst (T.map eT)) (.lst []) = decide (T = []) := by simpa using h
    rw [this]; simp
  · cases h
theorem law_read_eq {l : List Nat} (ha : Asc l) (hl : l.length ≤ 100000) : p_u_law_read [encL l] = .ok (webD (lawR l)) := by
  have s0 := split_at (ρ := [some (.d (encL l)), some (.ob 0), some (.ob 1), some (.d (befD [])), none, none, none, none, none]) (μ := MU [] []) (μ1 := MU [] []) (f := eV 0) (c := 10) (l := l) tl_nl (by omega) rfl (by omega)
  have tt := tot_sp 10 l
  have wl : (sp 10 l).length ≤ 100001 := by unfold tot at tt; omega
  have wm : ∀ x, x ∈ sp 10 l → Asc x ∧ x.length ≤ 100000 := fun x hx => ⟨ha.part hx, by have := mem_tot hx; omega⟩
  obtain ⟨k4, k5, k6, μ', lp⟩ := read_loop (t := .d (encL l)) (sp 10 l) [] [] none none none wm (by simp; omega)
  have r0 : rho0 8 ([encL l].map Sl.d) = [some (.d (encL l)), none, none, none, none, none, none, none, none] := rfl
  have st0 : sPack [1, 2, 3] (aCons (eNew (lLst (aNil))) (aCons (eNew (lLst (aNil))) (aCons (eTup (aCons (e1 negD (eC (.int 1))) (aCons (e1 negD (eC (.int 1))) (aNil)))) (aNil)))) [some (.d (encL l)), none, none, none, none, none, none, none, none] [] = .nx [some (.d (encL l)), some (.ob 0), some (.ob 1), some (.d (befD [])), none, none, none, none, none] (MU [] []) := by
    generalize encL l = E
    rfl
  have src : sSq (eFrz (lSplit (eV 0) (eC (.str "\n")))) [some (.d (encL l)), some (.ob 0), some (.ob 1), some (.d (befD [])), none, none, none, none, none] (MU [] []) = .ok ((sp 10 l).map encL) (MU [] []) := by
    have : eFrz (lSplit (eV 0) (eC (.str "\n"))) [some (.d (encL l)), some (.ob 0), some (.ob 1), some (.d (befD [])), none, none, none, none, none] (MU [] []) = .ok (.d (.lst ((sp 10 l).map encL))) (MU [] []) := by rw [eFrz_eq, s0, rbind_ok]
    unfold sSq
    rw [this, rbind_ok]
  unfold lawR
  cases e : readL (sp 10 l) ([], []) with
  | none =>
    rw [e] at lp
    refine fn_rt (s := .d .non) (μ := μ') ?_ rfl
    rw [F_u_law_read_eq, r0]
    refine (seq_nx st0).trans (seq_rt ?_)
    unfold sFor
    rw [src]
    exact lp
  | some s =>
    obtain ⟨P, T⟩ := s
    rw [e] at lp
    refine fn_rt (s := .d (webD (if okB (P, T) = true then some (P, T) else none))) (μ := MU P T) ?_ rfl
    rw [F_u_law_read_eq, r0]
    refine (seq_nx st0).trans ((seq_nx (for_nx src lp)).trans ?_)
    show _ = Out.rt (Sl.d (webD (if (decide (1 ≤ P.length) && decide (P.length ≤ 5) && decide (T.length ≤ 10) && T.all fun t => decide (t.2.1 < P.length)) = true then some (P, T) else none))) (MU P T)
    show sSeq _ _ [some (.d (encL l)), some (.ob 0), some (.ob 1), some (.d (befD T)), k4, k5, k6, none, none] (MU P T) = _
    generalize encL l = E at *
    generalize befD T = B at *
    by_cases c1 : 1 ≤ P.length
    · by_cases c2 : P.length ≤ 5
      · by_cases c3 : T.length ≤ 10
        · have d2 : (P.length : Int) ≤ 5 := by omega
          have d3 : ¬ (T.length : Int) > 10 := by omega
          have d4 : ¬ 10 < T.length := by omega
          have d1 : (1 : Int) ≤ (P.length : Int) := by omega
          refine (seq_nx (ρ' := [some (.d E), some (.ob 0), some (.ob 1), some (.d B), k4, k5, k6, none, none]) (μ' := MU P T) (by simp [lenD_l, d1, d2, d3, d4])).trans ?_
          have fl := frz_lco (vs := [8]) (f := eV 2) (g := gN 8) (t := bV (e2 geD (e2 ixD (eV 8) (eC (.int 1))) (eN lenD (aCons (eV 1) (aNil))))) (e := eV 8) (ρ := [some (.d E), some (.ob 0), some (.ob 1), some (.d B), k4, k5, k6, none, none]) (μ := MU P T) 1 eT (fun t => decide (P.length ≤ t.2.1)) eT T rfl rfl (by omega) fun t ht => ⟨[some (.d E), some (.ob 0), some (.ob 1), some (.d B), k4, k5, k6, none, some (.d (eT t))], rfl, by
            have i1 : ixD (eT t) (.int 1) = some (.int (t.2.1 : Nat)) := rfl
            have k : decide (((t.2.1 : Nat) : Int) ≥ (P.length : Int)) = decide (P.length ≤ t.2.1) := by
              rw [Bool.eq_iff_iff, decide_eq_true_iff, decide_eq_true_iff]; omega
            generalize eT t = X at *
            simp [i1, lenD_l], fun _ => rfl⟩
          have nn := neD_ties (T.filter fun t => decide (P.length ≤ t.2.1))
          have fe : decide ((T.filter fun t => decide (P.length ≤ t.2.1)) ≠ []) = !(T.all fun t => decide (t.2.1 < P.length)) := by
            rw [Bool.eq_iff_iff]
            simp [List.filter_eq_nil_iff]
          rw [fe] at nn
          have hd : (decide (1 ≤ P.length) && decide (P.length ≤ 5) && decide (T.length ≤ 10)) = true := by simp [c1, c2, c3]
          rw [hd, Bool.true_and]
          generalize eFrz (lLcO [8] (eV 2) (gN 8) (bV (e2 geD (e2 ixD (eV 8) (eC (.int 1))) (eN lenD (aCons (eV 1) (aNil))))) (eV 8)) = FF at *
          generalize (T.filter fun t => decide (P.length ≤ t.2.1)).map eT = TT at *
          have ret : sRet (eTup (aCons (eN tupleD (aCons (eV 1) (aNil))) (aCons (eN tupleD (aCons (eV 2) (aNil))) (aNil)))) [some (.d E), some (.ob 0), some (.ob 1), some (.d B), k4, k5, k6, none, none] (MU P T) = .rt (.d (eW P T)) (MU P T) := rfl
          cases b : (T.all fun t => decide (t.2.1 < P.length)) with
          | true =>
            rw [b] at nn
            rw [if_pos rfl]
            refine (seq_nx (ρ' := [some (.d E), some (.ob 0), some (.ob 1), some (.d B), k4, k5, k6, none, none]) (μ' := MU P T) ?_).trans ret
            simp at nn
            simp [fl, nn]
          | false =>
            rw [b] at nn
            rw [if_neg (by decide)]
            show _ = Out.rt (.d .non) (MU P T)
            refine seq_rt ?_
            simp at nn
            simp [fl, nn]
        · have d4 : 10 < T.length := by omega
          have d3 : (10 : Int) < (T.length : Int) := by omega
          have d2 : (P.length : Int) ≤ 5 := by omega
          have d1 : (1 : Int) ≤ (P.length : Int) := by omega
          rw [if_neg (by simp [c3])]
          show _ = Out.rt (.d .non) (MU P T)
          exact seq_rt (by simp [lenD_l, d1, d2, d3, d4])
      · have d2 : ¬ (P.length : Int) ≤ 5 := by omega
        have d1 : (1 : Int) ≤ (P.length : Int) := by omega
        rw [if_neg (by simp [c2])]
        show _ = Out.rt (.d .non) (MU P T)
        exact seq_rt (by simp [lenD_l, d1, d2])
    · have d1 : P.length = 0 := by omega
      rw [if_neg (by simp [c1])]
      show _ = Out.rt (.d .non) (MU P T)
      exact seq_rt (by simp [lenD_l, d1])
end Bt

set_option linter.all false
set_option maxRecDepth 100000
set_option maxHeartbeats 1000000
/-! X8: what the law's reader reads are the texts of webs -/
namespace Bt
open PySem DL LV L2 TL
theorem val_app (u : List Nat) (c : Nat) : NumText.digitsVal (u ++ [c]) = NumText.digitsVal u * 10 + (c - 48) := by
  unfold NumText.digitsVal
  rw [List.foldl_append]; rfl
theorem canon : ∀ (n : Nat) (w : List Nat), w.length = n → NumText.AllDigits w → w ≠ [] → (w = [48] ∨ w.head? ≠ some 48) → numL (NumText.digitsVal w) = w
  | n, w, hn, hd, hne, hc => by
    rcases List.eq_nil_or_concat w with e | ⟨u, c, e⟩
    · exact absurd e hne
    · have e : w = u ++ [c] := by rw [e]; simp
      subst e
      have hcd := hd c (by simp)
      rw [val_app]
      by_cases hu : u = []
      · subst hu
        have : NumText.digitsVal [] = 0 := rfl
        rw [this, numL_lt (by omega)]
        simp; omega
      · have h1 : u.head? ≠ some 48 := by
          rcases hc with hc | hc
          · have := congrArg List.length hc
            have lu : 0 < u.length := List.length_pos_iff.2 hu
            rw [List.length_append] at this
            simp only [List.length_cons, List.length_nil] at this
            omega
          · cases u with
            | nil => exact absurd rfl hu
            | cons x r => simpa using hc
        have ih := canon u.length u rfl (fun x hx => hd x (List.mem_append_left _ hx)) hu (.inr h1)
        have pos : 0 < NumText.digitsVal u := by
          refine Nat.pos_of_ne_zero fun z => ?_
          rw [z] at ih
          rw [← ih] at h1
          exact h1 rfl
        have d1 : (NumText.digitsVal u * 10 + (c - 48)) / 10 = NumText.digitsVal u := by omega
        have d2 : (NumText.digitsVal u * 10 + (c - 48)) % 10 = c - 48 := by omega
        rw [numL_step (by omega), d1, d2, ih, show 48 + (c - 48) = c by omega]
  termination_by n => n
  decreasing_by
    have : (u ++ [c]).length = n := hn
    simp at this
    omega
theorem numO_some {w : List Nat} {n : Nat} (h : numO w = some n) : w = numL n := by
  unfold numO at h
  split at h
  · rename_i q
    cases h
    simp only [Bool.and_eq_true, Bool.or_eq_true, decide_eq_true_eq] at q
    obtain ⟨f1, f2, _⟩ := fig_all q.1
    exact (canon _ w rfl f1 f2 q.2).symm
  · cases h
theorem numO_num {n : Nat} (h : n ≤ 1000000000000000000000000000000) : numO (numL n) = some n := by
  have f : figB (numL n) = true := num_fig (n := (n : Int)) ⟨by omega, by omega⟩
  have v := numL_val n
  have c : (decide (numL n = [48]) || decide ((numL n).head? ≠ some 48)) = true := by
    rw [Bool.or_eq_true, decide_eq_true_iff, decide_eq_true_iff]
    by_cases z : n = 0
    · subst z; exact .inl rfl
    · refine .inr fun hh => ?_
      -- a number other than 0 begins with no 0
      have : ∀ m k : Nat, k ≤ m → 0 < k → (numL k).head? ≠ some 48 := by
        intro m
        induction m with
        | zero => intro k h1 h2; omega
        | succ m ih =>
          intro k h1 h2
          by_cases s : k < 10
          · rw [numL_lt s]; simp; omega
          · rw [numL_step (by omega)]
            have i := ih (k / 10) (by omega) (by omega)
            have ne := numL_ne (k / 10)
            cases e : numL (k / 10) with
            | nil => exact absurd e ne
            | cons x r => rw [e] at i; simpa using i
      exact this n n (Nat.le_refl _) (by omega) hh
  unfold numO
  rw [f, c, Bool.and_self, if_pos rfl, v]
theorem numsL_some {ws : List (List Nat)} {ns : List Nat} (h : numsL ws = some ns) : ws = ns.map numL ∧ ∀ n, n ∈ ns → n ≤ 1000000000000000000000000000000 := by
  unfold numsL at h
  split at h
  · cases h
  · rename_i ms e
    split at h
    · cases h
    · rename_i q
      cases h
      have en := allN_some e
      refine ⟨?_, fun n hn => ?_⟩
      · refine List.ext_getElem? fun i => ?_
        have gi := congrArg (fun l => l[i]?) en
        simp only [List.getElem?_map] at gi
        rw [List.getElem?_map]
        cases a : ws[i]? with
        | none => rw [a] at gi; cases b : ns[i]? with
          | none => rfl
          | some m => rw [b] at gi; cases gi
        | some w => rw [a] at gi; cases b : ns[i]? with
          | none => rw [b] at gi; cases gi
          | some m => rw [b] at gi; exact congrArg some (numO_some (Option.some.inj gi))
      · refine Nat.le_of_not_lt fun z => q ?_
        rw [List.any_eq_true]
        exact ⟨n, hn, by simpa using z⟩
theorem numsL_num {ns : List Nat} (h : ∀ n, n ∈ ns → n ≤ 1000000000000000000000000000000) : numsL (ns.map numL) = some ns := by
  have e : (ns.map numL).map numO = ns.map some := by
    rw [List.map_map]
    exact List.map_congr_left fun n hn => numO_num (h n hn)
  unfold numsL
  rw [e, allN_of]
  show (if (ns.any fun n => decide (1000000000000000000000000000000 < n)) = true then none else some ns) = _
  rw [if_neg]
  intro z
  rw [List.any_eq_true] at z
  obtain ⟨n, hn, q⟩ := z
  have := h n hn
  simp at q
  omega
theorem lt2_trans {a b c : Tl} (h : lt2 a b) (k : lt2 b c) : lt2 a c := by unfold lt2 at *; omega
theorem chain_pw : ∀ {T : List Tl}, (∀ q, q ∈ T.zip (T.drop 1) → lt2 q.1 q.2) → T.Pairwise lt2
  | [], _ => List.Pairwise.nil
  | [x], _ => by simp
  | x :: y :: r, h => by
    have h1 : lt2 x y := h (x, y) (by simp)
    have ih := chain_pw (T := y :: r) fun q hq => h q (by
      show q ∈ (x, y) :: ((y :: r).zip ((y :: r).drop 1))
      exact List.mem_cons_of_mem _ hq)
    refine List.pairwise_cons.2 ⟨fun z hz => ?_, ih⟩
    rcases List.mem_cons.1 hz with rfl | hz
    · exact h1
    · exact lt2_trans h1 ((List.pairwise_cons.1 ih).1 z hz)
/-- what holds of what was read so far -/
structure Rd (ls : List (List Nat)) (P : List Pl) (T : List Tl) : Prop where
  tx : ls = P.map placeL ++ T.map tieL
  p : ∀ p, p ∈ P → 0 ≤ p.1 ∧ p.1 ≤ p.2 ∧ p.2 ≤ 1000000000000000000000000000000
  t : ∀ t, t ∈ T → t.1 < t.2.1 ∧ 0 < t.2.2 ∧ t.2.2 ≤ 1000000000000000000000000000000
  srt : T.Pairwise lt2
theorem gtP_lt {T : List Tl} {a b : Nat} {c : Int} (hs : T.Pairwise lt2) : gtP ((a : Int), (b : Int)) (befT T) = true ↔ ∀ s, s ∈ T → lt2 s (a, b, c) := by
  unfold befT
  cases e : T.getLast? with
  | none =>
    have : T = [] := List.getLast?_eq_none_iff.1 e
    subst this
    unfold gtP
    simp
    omega
  | some t =>
    obtain ⟨T0, rfl⟩ := List.getLast?_eq_some_iff.1 e
    unfold gtP
    simp only [Bool.or_eq_true, Bool.and_eq_true, decide_eq_true_eq]
    constructor
    · intro h s hs'
      have lt : lt2 t (a, b, c) := by show t.1 < a ∨ (t.1 = a ∧ t.2.1 < b); omega
      rcases List.mem_append.1 hs' with h1 | h1
      · exact lt2_trans ((List.pairwise_append.1 hs).2.2 s h1 t (by simp)) lt
      · rw [List.mem_singleton.1 h1]; exact lt
    · intro h
      have lt : t.1 < a ∨ (t.1 = a ∧ t.2.1 < b) := h t (by simp)
      omega
theorem rd_step {ls : List (List Nat)} {P P' : List Pl} {T T' : List Tl} {l : List Nat} (r : Rd ls P T) (h : stepL (P, T) l = some (P', T')) : Rd (ls ++ [l]) P' T' := by
  have jl := join_sp 32 l
  unfold stepL at h
  split at h
  · cases h
  · rename_i w ws ew
    rw [ew] at jl
    cases e : numsL ws with
    | none => rw [e] at h; cases h
    | some ns =>
      rw [e] at h
      obtain ⟨e1, e2⟩ := numsL_some e
      match ns with
      | [] => cases h
      | [_] => cases h
      | [a, b] =>
        rw [stepW_2] at h
        split at h
        · rename_i q
          obtain ⟨q1, q2, q3⟩ := q
          cases h
          have q2 : T = [] := q2
          subst q1 q2
          have lp : l = placeL ((a : Nat), (b : Nat)) := by rw [← jl, e1]; rfl
          have ka := e2 a (by simp)
          have kb := e2 b (by simp)
          refine ⟨by rw [r.tx, lp]; simp, fun p hp => ?_, r.t, r.srt⟩
          rcases List.mem_append.1 hp with h1 | h1
          · exact r.p p h1
          · rw [List.mem_singleton.1 h1]
            show 0 ≤ (a : Int) ∧ (a : Int) ≤ (b : Int) ∧ (b : Int) ≤ 1000000000000000000000000000000
            omega
        · cases h
      | [a, b, c] =>
        rw [stepW_3] at h
        split at h
        · rename_i q
          obtain ⟨q1, q2, q3, q4⟩ := q
          cases h
          subst q1
          have lt : l = tieL (a, b, (c : Nat)) := by rw [← jl, e1]; rfl
          have kc := e2 c (by simp)
          have srt := (gtP_lt (c := ((c : Nat) : Int)) r.srt).1 q4
          refine ⟨by rw [r.tx, lt]; simp, r.p, fun t ht => ?_, List.pairwise_append.2 ⟨r.srt, by simp, fun s hs t ht => by rw [List.mem_singleton.1 ht]; exact srt s hs⟩⟩
          rcases List.mem_append.1 ht with h1 | h1
          · exact r.t t h1
          · rw [List.mem_singleton.1 h1]
            show a < b ∧ 0 < (c : Int) ∧ (c : Int) ≤ 1000000000000000000000000000000
            omega
        · cases h
      | _ :: _ :: _ :: _ :: _ => cases h
theorem rd_all : ∀ {ls done : List (List Nat)} {P P' : List Pl} {T T' : List Tl}, Rd done P T → readL ls (P, T) = some (P', T') → Rd (done ++ ls) P' T'
  | [], done, _, _, _, _, r, h => by cases h; rw [List.append_nil]; exact r
  | l :: ls, done, P, P', T, T', r, h => by
    have h : (stepL (P, T) l).bind (readL ls) = some (P', T') := h
    cases e : stepL (P, T) l with
    | none => rw [e] at h; cases h
    | some s =>
      obtain ⟨P1, T1⟩ := s
      rw [e] at h
      have := rd_all (rd_step r e) h
      rwa [List.append_assoc] at this
theorem lawR_some {l : List Nat} {P : List Pl} {T : List Tl} (h : lawR l = some (P, T)) : WebOk P T ∧ l = asL P T := by
  unfold lawR at h
  split at h
  · cases h
  · rename_i s e
    obtain ⟨P0, T0⟩ := s
    split at h
    · rename_i q
      cases h
      have r := rd_all (done := []) (P := []) (T := []) ⟨rfl, (fun _ h => nomatch h), (fun _ h => nomatch h), List.Pairwise.nil⟩ e
      rw [List.nil_append] at r
      unfold okB at q
      simp only [Bool.and_eq_true, decide_eq_true_eq, List.all_eq_true] at q
      obtain ⟨⟨⟨q1, q2⟩, q3⟩, q4⟩ := q
      refine ⟨⟨q1, q2, r.p, q3, fun t ht => ⟨(r.t t ht).1, q4 t ht, (r.t t ht).2.1⟩, fun t ht => (r.t t ht).2.2, pair_next2 r.srt⟩, ?_⟩
      unfold asL
      rw [← r.tx, join_sp]
    · cases h
theorem step_place {P : List Pl} {p : Pl} (h1 : Nu p.1) (h2 : Nu p.2) (h3 : p.1 ≤ p.2) : stepL (P, []) (placeL p) = some (P ++ [p], []) := by
  unfold stepL
  rw [place_words]
  show stepW (P, []) plW (numsL [numL p.1.toNat, numL p.2.toNat]) = _
  have k1 := h1.2
  have k2 := h2.2
  have z1 := h1.1
  have z2 := h2.1
  rw [show [numL p.1.toNat, numL p.2.toNat] = [p.1.toNat, p.2.toNat].map numL from rfl, numsL_num (fun n hn => by
    simp only [List.mem_cons, List.not_mem_nil, or_false] at hn
    rcases hn with rfl | rfl <;> omega), stepW_2, if_pos ⟨rfl, rfl, by omega⟩, Int.toNat_of_nonneg z1, Int.toNat_of_nonneg z2]
theorem step_tie {P : List Pl} {T : List Tl} {t : Tl} (h1 : Nu (t.1 : Nat)) (h2 : Nu (t.2.1 : Nat)) (h3 : Nu t.2.2) (h4 : t.1 < t.2.1) (h5 : 0 < t.2.2) (hs : T.Pairwise lt2) (h6 : ∀ s, s ∈ T → lt2 s t) : stepL (P, T) (tieL t) = some (P, T ++ [t]) := by
  obtain ⟨a, b, c⟩ := t
  have k1 : (a : Int) ≤ 1000000000000000000000000000000 := h1.2
  have k2 : (b : Int) ≤ 1000000000000000000000000000000 := h2.2
  have k3 : c ≤ 1000000000000000000000000000000 := h3.2
  have z3 : 0 < c := h5
  have z4 : a < b := h4
  unfold stepL
  rw [tie_words]
  show stepW (P, T) tiW (numsL [numL a, numL b, numL c.toNat]) = _
  rw [show [numL a, numL b, numL c.toNat] = [a, b, c.toNat].map numL from rfl, numsL_num (fun n hn => by
    simp only [List.mem_cons, List.not_mem_nil, or_false] at hn
    rcases hn with rfl | rfl | rfl <;> omega), stepW_3, if_pos ⟨rfl, z4, by omega, (gtP_lt (c := c) hs).2 h6⟩, Int.toNat_of_nonneg (by omega)]
theorem readL_app : ∀ (a b : List (List Nat)) (s : List Pl × List Tl), readL (a ++ b) s = (readL a s).bind (readL b)
  | [], b, s => rfl
  | l :: a, b, s => by
    show (stepL s l).bind (readL (a ++ b)) = ((stepL s l).bind (readL a)).bind (readL b)
    cases stepL s l with
    | none => rfl
    | some s1 => exact readL_app a b s1
theorem read_places : ∀ (Q P : List Pl), (∀ p, p ∈ Q → Nu p.1 ∧ Nu p.2 ∧ p.1 ≤ p.2) → readL (Q.map placeL) (P, []) = some (P ++ Q, [])
  | [], P, _ => by rw [List.append_nil]; rfl
  | p :: Q, P, h => by
    obtain ⟨h1, h2, h3⟩ := h p (List.mem_cons_self ..)
    show (stepL (P, []) (placeL p)).bind (readL (Q.map placeL)) = _
    rw [step_place h1 h2 h3]
    show readL (Q.map placeL) (P ++ [p], []) = _
    rw [read_places Q (P ++ [p]) fun q hq => h q (List.mem_cons_of_mem _ hq), List.append_assoc]; rfl
theorem read_ties {P : List Pl} : ∀ (U T : List Tl), (∀ t, t ∈ U → Nu (t.1 : Nat) ∧ Nu (t.2.1 : Nat) ∧ Nu t.2.2 ∧ t.1 < t.2.1 ∧ 0 < t.2.2) → (T ++ U).Pairwise lt2 → readL (U.map tieL) (P, T) = some (P, T ++ U)
  | [], T, _, _ => by rw [List.append_nil]; rfl
  | t :: U, T, h, hs => by
    obtain ⟨h1, h2, h3, h4, h5⟩ := h t (List.mem_cons_self ..)
    have pw := List.pairwise_append.1 hs
    show (stepL (P, T) (tieL t)).bind (readL (U.map tieL)) = _
    rw [step_tie h1 h2 h3 h4 h5 pw.1 fun s hs' => pw.2.2 s hs' t (List.mem_cons_self ..)]
    show readL (U.map tieL) (P, T ++ [t]) = _
    have e : (T ++ [t]) ++ U = T ++ t :: U := by simp
    rw [read_ties U (T ++ [t]) (fun s hs' => h s (List.mem_cons_of_mem _ hs')) (by rw [e]; exact hs), e]
theorem lawR_web {P : List Pl} {T : List Tl} (hw : WebOk P T) : lawR (asL P T) = some (P, T) := by
  obtain ⟨h1, h2⟩ := web_nu hw
  unfold lawR
  rw [asL_lines hw, readL_app, read_places P [] fun p hp => ⟨(h1 p hp).1, (h1 p hp).2, (hw.p p hp).2.1⟩]
  have rt := read_ties (P := [] ++ P) T [] (fun t ht => ⟨(h2 t ht).1, (h2 t ht).2.1, (h2 t ht).2.2, (hw.t t ht).1, (hw.t t ht).2.2⟩) (by rw [List.nil_append]; exact chain_pw hw.srt)
  rw [List.nil_append, List.nil_append] at rt
  show (match readL (T.map tieL) ([] ++ P, []) with
    | none => none
    | some s => if okB s = true then some s else none) = _
  rw [List.nil_append, rt]
  show (if okB (P, T) = true then some (P, T) else none) = _
  rw [if_pos]
  unfold okB
  have a := hw.n1
  have b := hw.n5
  have c := hw.m
  simp only [Bool.and_eq_true, decide_eq_true_eq, List.all_eq_true]
  exact ⟨⟨⟨a, b⟩, c⟩, fun t ht => (hw.t t ht).2.1⟩
/-- both readers agree -/
theorem readers {l : List Nat} (ha : Asc l) (hl : l.length ≤ 100000) : (∃ P T, WebOk P T ∧ lawR l = some (P, T) ∧ p_read_web [encL l] = .ok (eW P T)) ∨ (lawR l = none ∧ p_read_web [encL l] = .ex ⟨"InvalidText", none⟩) := by
  cases e : lawR l with
  | some s =>
    obtain ⟨P, T⟩ := s
    obtain ⟨hw, rfl⟩ := lawR_some e
    exact .inl ⟨P, T, hw, rfl, read_t hw⟩
  | none =>
    refine .inr ⟨rfl, read_f ha hl fun P T hw z => ?_⟩
    rw [z, lawR_web hw] at e
    cases e
end Bt

set_option linter.all false
set_option maxRecDepth 100000
set_option maxHeartbeats 1000000
/-! X9: bent texts -/
namespace DL
open PySem L2
theorem cutD_mid {ds : List D} {k : Nat} (h : k < ds.length) : cutD ds (some (k : Int)) (some ((k + 1 : Nat) : Int)) = (ds.drop k).take 1 := by
  unfold cutD
  rw [HT.sIx_nat, HT.sIx_nat, Nat.min_eq_left (by omega), Nat.min_eq_left (by omega)]
  congr 1
  omega
end DL
namespace Bt
open PySem DL LV L2 TL
theorem sl_to {l : List Nat} {k : Nat} (hl : l.length ≤ 1000000) : slD (encL l) none (some (k : Int)) = some (encL (l.take k)) := by
  show (if (mk l).length ≤ 16777216 then some (D.str (cutS (mk l) none (some (k : Int)))) else none) = _
  rw [mk_len, if_pos (by omega)]
  unfold cutS
  rw [HT.sIx_none, HT.sIx_nat, mk_len]
  show some (D.str (mk ((l.drop 0).take (min k l.length - 0)))) = _
  rw [List.drop_zero, Nat.sub_zero]
  rw [show l.take (min k l.length) = l.take k by rw [List.take_eq_take_min (i := k)]]
  rfl
theorem sl_from {l : List Nat} {k : Nat} (hl : l.length ≤ 1000000) : slD (encL l) (some (k : Int)) none = some (encL (l.drop k)) := by
  show (if (mk l).length ≤ 16777216 then some (D.str (cutS (mk l) (some (k : Int)) none)) else none) = _
  rw [mk_len, if_pos (by omega)]
  unfold cutS
  rw [HT.sIx_none, HT.sIx_nat, mk_len]
  show some (D.str (mk ((l.drop (min k l.length)).take (l.length - min k l.length)))) = _
  by_cases h : k ≤ l.length
  · rw [Nat.min_eq_left h, List.take_of_length_le (by simp)]; rfl
  · rw [Nat.min_eq_right (by omega), List.drop_of_length_le (Nat.le_refl _), List.drop_of_length_le (show l.length ≤ k by omega)]; simp [encL]
theorem add_L {a b : List Nat} (h : a.length + b.length ≤ 16777216) : addD (encL a) (encL b) = some (encL (a ++ b)) := by
  show (if (mk a).length + (mk b).length ≤ 16777216 then some (D.str (mk a ++ mk b)) else none) = _
  rw [mk_len, mk_len, if_pos h, mk_app]; rfl
theorem join_asc {c : Nat} (hc : c < 256) {ls : List (List Nat)} (h : ∀ p, p ∈ ls → Asc p) : Asc (joinL [c] ls) := fun x hx => by
  rcases mem_join hx with z | ⟨p, hp, z⟩
  · omega
  · exact h p hp x z
theorem join_le (c : Nat) (ls : List (List Nat)) : (joinL [c] ls).length ≤ tot ls := by
  cases ls with
  | nil => simp [joinL]
  | cons p r => have := tot_join c (ls := p :: r) (by simp); omega
theorem tot_take (k : Nat) (ls : List (List Nat)) : tot (ls.take k) + tot (ls.drop k) = tot ls := by
  rw [← tot_app, List.take_append_drop]
theorem Asc.sub {l m : List Nat} (h : Asc l) (k : ∀ x, x ∈ m → x ∈ l) : Asc m := fun x hx => h x (k x hx)
abbrev R8 (b : Nat) (l : List Nat) (k : Nat) (w : Int) (j4 j5 j6 j7 j8 : Option Sl) : Rho := [some (.ob b), some (.d (encL l)), some (.d (nD k)), some (.d (.int w)), j4, j5, j6, j7, j8]
def Res' (b : Nat) (l : List Nat) (μ : Store) (r : Out) : Prop := ∃ l' μ', r = .rt (.d (encL l')) μ' ∧ Nxt b μ μ' ∧ Asc l' ∧ l'.length ≤ 2 * l.length + 100
theorem ten_1 : tl ("0" : Str) = [48] := by decide +kernel
theorem ten_2 : tl ("1" : Str) = [49] := by decide +kernel
theorem ten_3 : tl ("-" : Str) = [45] := by decide +kernel
theorem ten_4 : tl ("x" : Str) = [120] := by decide +kernel
theorem ten_5 : tl ("9" : Str) = [57] := by decide +kernel
theorem ten_6 : tl ("2" : Str) = [50] := by decide +kernel
theorem ten_7 : tl ("4" : Str) = [52] := by decide +kernel
theorem ten_8 : tl ("01" : Str) = [48, 49] := by decide +kernel
theorem zer (n : Nat) (h1 : 2 ≤ n) (h2 : n ≤ 1000) : mulSD (encL [48]) (.int (n : Nat)) = some (encL (List.replicate n 48)) := by
  show (if 2 ≤ ((n : Nat) : Int) ∧ ((n : Nat) : Int) ≤ 1000 ∧ (mk [48]).length = 1 then some (D.str ⟨(List.replicate ((n : Nat) : Int).toNat (mk [48]).cps).foldl (· ++ ·) #[]⟩) else none) = _
  rw [if_pos ⟨by omega, by omega, rfl⟩, Int.toNat_natCast]
  have key : ∀ (n : Nat) (a : Array Nat), ((List.replicate n (mk [48]).cps).foldl (· ++ ·) a).toList = a.toList ++ List.replicate n 48 := by
    intro n
    induction n with
    | zero => intro a; simp
    | succ n ih =>
      intro a
      rw [List.replicate_succ, List.foldl_cons, ih, List.replicate_succ]
      simp [mk]
  refine congrArg some (str_of ?_)
  show ((List.replicate n (mk [48]).cps).foldl (· ++ ·) #[]).toList = _
  rw [key]; simp
section
variable {b k : Nat} {l : List Nat} {w : Int} {μ : Store}
theorem bent_0 (hg : Bg b μ) (ha : Asc l) (hl : l.length ≤ 100000) : Res' b l μ (sRet (e2 addD (e2 addD (eSl (eV 1) (pNone) (pSome (eV 2))) (eCallM 2 m_u_law_choice (aCons (eV 0) (aCons (eFrz (lLst (aCons (eC (.str " ")) (aCons (eC (.str "0")) (aCons (eC (.str "1")) (aCons (eC (.str "-")) (aCons (eC (.str "\n")) (aCons (eC (.str "x")) (aCons (eC (.str "9")) (aNil)))))))))) (aNil))))) (eSl (eV 1) (pSome (eV 2)) (pNone))) (R8 b l k w none none none none none) μ) := by
  obtain ⟨x, μ', c1, c2, c3⟩ := choice_x (ds := [encL [32], encL [48], encL [49], encL [45], encL [10], encL [120], encL [57]]) hg (by simp)
  have hx : ∃ c : Nat, x = encL [c] ∧ c < 256 := by
    simp only [List.mem_cons, List.not_mem_nil, or_false] at c2
    rcases c2 with rfl | rfl | rfl | rfl | rfl | rfl | rfl <;> exact ⟨_, rfl, by omega⟩
  obtain ⟨c, rfl, hc⟩ := hx
  have s1 := sl_to (l := l) (k := k) (by omega)
  have s2 := sl_from (l := l) (k := k) (by omega)
  have lt : (l.take k).length ≤ l.length := by rw [List.length_take]; omega
  have ld : (l.drop k).length ≤ l.length := by rw [List.length_drop]; omega
  have lk : (l.take k).length + (l.drop k).length = l.length := by rw [← List.length_append, List.take_append_drop]
  have a1 := add_L (a := l.take k) (b := [c]) (by simp; omega)
  have a2 := add_L (a := l.take k ++ [c]) (b := l.drop k) (by simp; omega)
  refine ⟨l.take k ++ [c] ++ l.drop k, μ', ?_, c3, fun y hy => ?_, by simp; omega⟩
  · rw [str_of tl_sp, str_of ten_1, str_of ten_2, str_of ten_3, str_of tl_nl, str_of ten_4, str_of ten_5]
    generalize encL (l.take k ++ [c] ++ l.drop k) = E1 at *
    generalize encL (l.take k ++ [c]) = E2 at *
    generalize encL (l.take k) = E3 at *
    generalize encL (l.drop k) = E4 at *
    simp [s1, s2, c1, a1, a2]
  · rcases List.mem_append.1 hy with h | h
    · rcases List.mem_append.1 h with h | h
      · exact ha y (List.mem_of_mem_take h)
      · rw [List.mem_singleton.1 h]; exact hc
    · exact ha y (List.mem_of_mem_drop h)
theorem bent_1 (hg : Bg b μ) (ha : Asc l) (hl : l.length ≤ 100000) : Res' b l μ (sRet (e2 addD (eSl (eV 1) (pNone) (pSome (eV 2))) (eSl (eV 1) (pSome (e2 addD (eV 2) (eC (.int 1)))) (pNone))) (R8 b l k w none none none none none) μ) := by
  have s1 := sl_to (l := l) (k := k) (by omega)
  have s2 := sl_from (l := l) (k := k + 1) (by omega)
  have lt : (l.take k).length ≤ l.length := by rw [List.length_take]; omega
  have ld : (l.drop (k + 1)).length ≤ l.length := by rw [List.length_drop]; omega
  have a2 := add_L (a := l.take k) (b := l.drop (k + 1)) (by omega)
  have ng : Nxt b μ μ := ⟨hg, fun _ _ => rfl, rfl⟩
  refine ⟨l.take k ++ l.drop (k + 1), μ, ?_, ng, fun y hy => ?_, by rw [List.length_append]; omega⟩
  · have e : ((k + 1 : Nat) : Int) = (k : Int) + 1 := by omega
    rw [e] at s2
    generalize encL (l.take k ++ l.drop (k + 1)) = E1 at *
    generalize encL (l.take k) = E3 at *
    generalize encL (l.drop (k + 1)) = E4 at *
    simp [s1, s2, a2]
  · rcases List.mem_append.1 hy with h | h
    · exact ha y (List.mem_of_mem_take h)
    · exact ha y (List.mem_of_mem_drop h)
/-- a result put together of lines -/
theorem lines_res {ls : List (List Nat)} {f : EF} {ρ : Rho} {μ' : Store} (hn : Nxt b μ μ') (ha : ∀ p, p ∈ ls → Asc p) (ht : tot ls ≤ 2 * l.length + 100) (hl : l.length ≤ 100000) (h : f ρ μ' = .ok (.d (.lst (ls.map encL))) μ') : Res' b l μ (sRet (eJoin (eC (.str "\n")) f) ρ μ') := by
  have j := join_at (c := 10) (ls := ls) tl_nl h rfl (by omega)
  have jl := join_le 10 ls
  exact ⟨joinL [10] ls, μ', s_ret j, hn, join_asc (by omega) ha, by omega⟩
end
end Bt

set_option linter.all false
set_option maxRecDepth 100000
set_option maxHeartbeats 1000000
/-! XA: bent texts: lines and words -/
namespace Bt
open PySem DL LV L2 TL
theorem slL_to (A : List (List Nat)) (s : Nat) : slD (.lst (A.map encL)) none (some (s : Int)) = some (.lst ((A.take s).map encL)) := by
  show some (D.lst (cutD _ _ _)) = _
  rw [cutD_to, List.map_take]
theorem slL_from (A : List (List Nat)) (s : Nat) : slD (.lst (A.map encL)) (some (s : Int)) none = some (.lst ((A.drop s).map encL)) := by
  show some (D.lst (cutD _ _ _)) = _
  rw [cutD_from, List.map_drop]
theorem slL_mid {A : List (List Nat)} {s : Nat} (h : s < A.length) : slD (.lst (A.map encL)) (some (s : Int)) (some ((s : Int) + 1)) = some (.lst (((A.drop s).take 1).map encL)) := by
  show some (D.lst (cutD _ _ _)) = _
  rw [show (s : Int) + 1 = ((s + 1 : Nat) : Int) by omega, cutD_mid (by rw [List.length_map]; exact h), List.map_take, List.map_drop]
theorem addLL {A B : List (List Nat)} (h : A.length + B.length ≤ 16777216) : addD (.lst (A.map encL)) (.lst (B.map encL)) = some (.lst ((A ++ B).map encL)) := by
  show (if (A.map encL).length + (B.map encL).length ≤ 16777216 then some (D.lst (A.map encL ++ B.map encL)) else none) = _
  rw [List.length_map, List.length_map, if_pos h, List.map_append]
theorem len_tot (A : List (List Nat)) : A.length ≤ tot A := by unfold tot; omega
section
variable {b k s : Nat} {l : List Nat} {w : Int} {μ μ' : Store} {A : List (List Nat)}
theorem bent_2 (hn : Nxt b μ μ') (hA : ∀ p, p ∈ A → Asc p) (ht : tot A = l.length + 1) (hl : l.length ≤ 100000) : Res' b l μ (sRet (eJoin (eC (.str "\n")) (e2 addD (eSl (eV 4) (pNone) (pSome (eV 5))) (eSl (eV 4) (pSome (e2 addD (eV 5) (eC (.int 1)))) (pNone)))) (R8 b l k w (some (.d (.lst (A.map encL)))) (some (.d (nD s))) none none none) μ') := by
  have t1 := tot_take s A
  have t2 := tot_take (s + 1) A
  have la := len_tot A
  have l1 : (A.take s).length ≤ A.length := by rw [List.length_take]; omega
  have l2 : (A.drop (s + 1)).length ≤ A.length := by rw [List.length_drop]; omega
  refine lines_res (ls := A.take s ++ A.drop (s + 1)) hn (fun p hp => ?_) (by rw [tot_app]; omega) hl ?_
  · rcases List.mem_append.1 hp with h | h
    · exact hA p (List.mem_of_mem_take h)
    · exact hA p (List.mem_of_mem_drop h)
  · have s1 := slL_to A s
    have s2 := slL_from A (s + 1)
    have e : ((s + 1 : Nat) : Int) = (s : Int) + 1 := by omega
    rw [e] at s2
    have a := addLL (A := A.take s) (B := A.drop (s + 1)) (by omega)
    generalize (A.take s ++ A.drop (s + 1)).map encL = E1 at *
    generalize (A.take s).map encL = E2 at *
    generalize (A.drop (s + 1)).map encL = E3 at *
    generalize A.map encL = E4 at *
    generalize encL l = E5 at *
    simp [s1, s2, a]
theorem bent_3 (hn : Nxt b μ μ') (hA : ∀ p, p ∈ A → Asc p) (ht : tot A = l.length + 1) (hl : l.length ≤ 100000) (hs : s < A.length) : Res' b l μ (sRet (eJoin (eC (.str "\n")) (e2 addD (e2 addD (eSl (eV 4) (pNone) (pSome (eV 5))) (eSl (eV 4) (pSome (eV 5)) (pSome (e2 addD (eV 5) (eC (.int 1)))))) (eSl (eV 4) (pSome (eV 5)) (pNone)))) (R8 b l k w (some (.d (.lst (A.map encL)))) (some (.d (nD s))) none none none) μ') := by
  have t1 := tot_take s A
  have t2 := tot_take 1 (A.drop s)
  have la := len_tot A
  have l1 : (A.take s).length ≤ A.length := by rw [List.length_take]; omega
  have l2 : (A.drop s).length ≤ A.length := by rw [List.length_drop]; omega
  have l3 : ((A.drop s).take 1).length ≤ A.length := by rw [List.length_take]; omega
  refine lines_res (ls := A.take s ++ (A.drop s).take 1 ++ A.drop s) hn (fun p hp => ?_) (by rw [tot_app, tot_app]; omega) hl ?_
  · rcases List.mem_append.1 hp with h | h
    · rcases List.mem_append.1 h with h | h
      · exact hA p (List.mem_of_mem_take h)
      · exact hA p (List.mem_of_mem_drop (List.mem_of_mem_take h))
    · exact hA p (List.mem_of_mem_drop h)
  · have s1 := slL_to A s
    have s2 := slL_from A s
    have s3 := slL_mid hs
    have a1 := addLL (A := A.take s) (B := (A.drop s).take 1) (by omega)
    have a2 := addLL (A := A.take s ++ (A.drop s).take 1) (B := A.drop s) (by rw [List.length_append]; omega)
    generalize (A.take s ++ (A.drop s).take 1 ++ A.drop s).map encL = E0 at *
    generalize (A.take s ++ (A.drop s).take 1).map encL = E1 at *
    generalize ((A.drop s).take 1).map encL = E6 at *
    generalize (A.take s).map encL = E2 at *
    generalize (A.drop s).map encL = E3 at *
    generalize A.map encL = E4 at *
    generalize encL l = E5 at *
    simp [s1, s2, s3, a1, a2]
theorem bent_4 (hn : Nxt b μ μ') (hA : ∀ p, p ∈ A → Asc p) (ht : tot A = l.length + 1) (hl : l.length ≤ 100000) : Res' b l μ (sRet (eJoin (eC (.str "\n")) (e1 revLD (eV 4))) (R8 b l k w (some (.d (.lst (A.map encL)))) (some (.d (nD s))) none none none) μ') := by
  refine lines_res (ls := A.reverse) hn (fun p hp => hA p (List.mem_reverse.1 hp)) (by rw [tot_rev]; omega) hl ?_
  have r : revLD (.lst (A.map encL)) = some (.lst (A.reverse.map encL)) := by
    show some (D.lst (A.map encL).reverse) = _
    rw [List.map_reverse]
  generalize A.reverse.map encL = E0 at *
  generalize A.map encL = E4 at *
  generalize encL l = E5 at *
  simp [r]
def NW : List (List Nat) := [plW, tiW, [48], [49], [50], [52], [48, 49], [49] ++ List.replicate 30 48, [49] ++ List.replicate 29 48 ++ [49]]
theorem NW_ok : ∀ p, p ∈ NW → Asc p ∧ p.length ≤ 31 := by
  have h : NW.all (fun p => p.all (fun c => decide (c < 256)) && decide (p.length ≤ 31)) = true := by decide +kernel
  intro p hp
  have := List.all_eq_true.1 h p hp
  simp only [Bool.and_eq_true, decide_eq_true_eq] at this
  exact ⟨asc_l this.1, this.2⟩
theorem near_eq {j6 j7 j8 j5 j4 : Option Sl} : sAsg (eFrz (lLst (aCons (eC (.str "place")) (aCons (eC (.str "tie")) (aCons (eC (.str "0")) (aCons (eC (.str "1")) (aCons (eC (.str "2")) (aCons (eC (.str "4")) (aCons (eC (.str "01")) (aCons (e2 addD (eC (.str "1")) (e2 mulSD (eC (.str "0")) (eC (.int 30)))) (aCons (e2 addD (e2 addD (eC (.str "1")) (e2 mulSD (eC (.str "0")) (eC (.int 29)))) (eC (.str "1"))) (aNil)))))))))))) (gN 8) (R8 b l k w j4 j5 j6 j7 j8) μ = .nx (R8 b l k w j4 j5 j6 j7 (some (.d (.lst (NW.map encL))))) μ := by
  have z1 : mulSD (encL [48]) (.int 30) = some (encL (List.replicate 30 48)) := zer 30 (by omega) (by omega)
  have z2 : mulSD (encL [48]) (.int 29) = some (encL (List.replicate 29 48)) := zer 29 (by omega) (by omega)
  have a1 := add_L (a := [49]) (b := List.replicate 30 48) (by simp)
  have a2 := add_L (a := [49]) (b := List.replicate 29 48) (by simp)
  have a3 := add_L (a := [49] ++ List.replicate 29 48) (b := [49]) (by simp)
  have e : NW.map encL = [encL plW, encL tiW, encL [48], encL [49], encL [50], encL [52], encL [48, 49], encL ([49] ++ List.replicate 30 48), encL ([49] ++ List.replicate 29 48 ++ [49])] := rfl
  rw [e, str_of tl_pl, str_of tl_ti, str_of ten_1, str_of ten_2, str_of ten_6, str_of ten_7, str_of ten_8]
  generalize encL ([49] ++ List.replicate 29 48 ++ [49]) = E1 at *
  generalize encL ([49] ++ List.replicate 29 48) = E2 at *
  generalize encL ([49] ++ List.replicate 30 48) = E3 at *
  generalize encL (List.replicate 30 48) = E4 at *
  generalize encL (List.replicate 29 48) = E5 at *
  simp [z1, z2, a1, a2, a3]
theorem bent_5 (hn : Nxt b μ μ') (hA : ∀ p, p ∈ A → Asc p) (ht : tot A = l.length + 1) (hl : l.length ≤ 100000) (hs : s < A.length) : Res' b l μ (sSeq (sAsg (eFrz (lSplit (e2 ixD (eV 4) (eV 5)) (eC (.str " ")))) (gN 6))
  (sSeq (sAsg (eCallM 2 m_u_law_take (aCons (eV 0) (aCons (eN lenD (aCons (eV 6) (aNil))) (aNil)))) (gN 7))
  (sSeq (sAsg (eFrz (lLst (aCons (eC (.str "place")) (aCons (eC (.str "tie")) (aCons (eC (.str "0")) (aCons (eC (.str "1")) (aCons (eC (.str "2")) (aCons (eC (.str "4")) (aCons (eC (.str "01")) (aCons (e2 addD (eC (.str "1")) (e2 mulSD (eC (.str "0")) (eC (.int 30)))) (aCons (e2 addD (e2 addD (eC (.str "1")) (e2 mulSD (eC (.str "0")) (eC (.int 29)))) (eC (.str "1"))) (aNil)))))))))))) (gN 8))
  (sSeq (sAsg (e2 addD (e2 addD (eSl (eV 6) (pNone) (pSome (eV 7))) (eFrz (lLst (aCons (eCallM 2 m_u_law_choice (aCons (eV 0) (aCons (eV 8) (aNil)))) (aNil))))) (eSl (eV 6) (pSome (e2 addD (eV 7) (eC (.int 1)))) (pNone))) (gN 6))
  (sRet (eJoin (eC (.str "\n")) (e2 addD (e2 addD (eSl (eV 4) (pNone) (pSome (eV 5))) (eFrz (lLst (aCons (eJoin (eC (.str " ")) (eV 6)) (aNil))))) (eSl (eV 4) (pSome (e2 addD (eV 5) (eC (.int 1)))) (pNone)))))))) (R8 b l k w (some (.d (.lst (A.map encL)))) (some (.d (nD s))) none none none) μ') := by
  have la := len_tot A
  have hq : A[s]? = some A[s] := List.getElem?_eq_getElem hs
  have mem : A[s] ∈ A := List.getElem_mem hs
  generalize A[s] = q at hq mem
  have lq := mem_tot mem
  have ix : ixD (.lst (A.map encL)) (nD s) = some (encL q) := by
    show L2.atI (A.map encL) (s : Int) = _
    rw [DL.atI_nat, List.getElem?_map, hq]; rfl
  have sp1 := split_at (f := e2 ixD (eV 4) (eV 5)) (ρ := R8 b l k w (some (.d (.lst (A.map encL)))) (some (.d (nD s))) none none none) (μ := μ') (μ1 := μ') (c := 32) (l := q) tl_sp (by omega) (by
    generalize A.map encL = E4 at *
    generalize encL l = E5 at *
    generalize encL q = E6 at *
    simp at ix
    simp [ix]) (by omega)
  have tw := tot_sp 32 q
  have nw := sp_ne 32 q
  have aw : ∀ p, p ∈ sp 32 q → Asc p := fun p hp => (hA q mem).part hp
  generalize sp 32 q = ws at *
  have lw := len_tot ws
  have wpos : 0 < ws.length := List.length_pos_iff.2 nw
  obtain ⟨r, μ2, t1, r0, r1, n2⟩ := take_x (many := (ws.length : Int)) hn.bag (by omega)
  obtain ⟨i, hi⟩ : ∃ i : Nat, (i : Int) = r := ⟨r.toNat, by omega⟩
  subst hi
  obtain ⟨x, μ3, c1, c2, n3⟩ := choice_x (ds := NW.map encL) n2.bag (by simp [NW])
  obtain ⟨y, hy, rfl⟩ := List.mem_map.1 c2
  obtain ⟨y1, y2⟩ := NW_ok y hy
  have u1 := tot_take i ws
  have u2 := tot_take (i + 1) ws
  have m1 : (ws.take i).length ≤ ws.length := by rw [List.length_take]; omega
  have m2 : (ws.drop (i + 1)).length ≤ ws.length := by rw [List.length_drop]; omega
  have nws : tot (ws.take i ++ [y] ++ ws.drop (i + 1)) ≤ q.length + 1 + 32 := by
    rw [tot_app, tot_app, show tot [y] = y.length + 1 by simp [tot]]
    have : tot (ws.take i) + tot (ws.drop (i + 1)) ≤ tot ws := by
      have z : tot (ws.take i) ≤ tot (ws.take (i + 1)) := by
        rw [List.take_add_one]
        rw [tot_app]; omega
      omega
    omega
  have anw : ∀ p, p ∈ ws.take i ++ [y] ++ ws.drop (i + 1) → Asc p := fun p hp => by
    rcases List.mem_append.1 hp with h | h
    · rcases List.mem_append.1 h with h | h
      · exact aw p (List.mem_of_mem_take h)
      · rw [List.mem_singleton.1 h]; exact y1
    · exact aw p (List.mem_of_mem_drop h)
  have jl := join_le 32 (ws.take i ++ [y] ++ ws.drop (i + 1))
  have ja := join_asc (c := 32) (by omega) anw
  -- the statements
  have st1 : sAsg (eFrz (lSplit (e2 ixD (eV 4) (eV 5)) (eC (.str " ")))) (gN 6) (R8 b l k w (some (.d (.lst (A.map encL)))) (some (.d (nD s))) none none none) μ' = .nx (R8 b l k w (some (.d (.lst (A.map encL)))) (some (.d (nD s))) (some (.d (.lst (ws.map encL)))) none none) μ' := s_asg (s := .d (.lst (ws.map encL))) (by rw [eFrz_eq, sp1, rbind_ok]) rfl
  have st2 : sAsg (eCallM 2 m_u_law_take (aCons (eV 0) (aCons (eN lenD (aCons (eV 6) (aNil))) (aNil)))) (gN 7) (R8 b l k w (some (.d (.lst (A.map encL)))) (some (.d (nD s))) (some (.d (.lst (ws.map encL)))) none none) μ' = .nx (R8 b l k w (some (.d (.lst (A.map encL)))) (some (.d (nD s))) (some (.d (.lst (ws.map encL)))) (some (.d (nD i))) none) μ2 := by
    have ll : lenD [.lst (ws.map encL)] = some (.int (ws.length : Nat)) := by rw [lenD_l, List.length_map]
    generalize ws.map encL = E3 at *
    generalize A.map encL = E4 at *
    generalize encL l = E5 at *
    simp [ll, t1, -lenD_l]
  have st4 : sAsg (e2 addD (e2 addD (eSl (eV 6) (pNone) (pSome (eV 7))) (eFrz (lLst (aCons (eCallM 2 m_u_law_choice (aCons (eV 0) (aCons (eV 8) (aNil)))) (aNil))))) (eSl (eV 6) (pSome (e2 addD (eV 7) (eC (.int 1)))) (pNone))) (gN 6) (R8 b l k w (some (.d (.lst (A.map encL)))) (some (.d (nD s))) (some (.d (.lst (ws.map encL)))) (some (.d (nD i))) (some (.d (.lst (NW.map encL))))) μ2 = .nx (R8 b l k w (some (.d (.lst (A.map encL)))) (some (.d (nD s))) (some (.d (.lst ((ws.take i ++ [y] ++ ws.drop (i + 1)).map encL)))) (some (.d (nD i))) (some (.d (.lst (NW.map encL))))) μ3 := by
    have s1 := slL_to ws i
    have s2 := slL_from ws (i + 1)
    have e : ((i + 1 : Nat) : Int) = (i : Int) + 1 := by omega
    rw [e] at s2
    have a1 := addLL (A := ws.take i) (B := [y]) (by simp; omega)
    have a2 := addLL (A := ws.take i ++ [y]) (B := ws.drop (i + 1)) (by simp; omega)
    rw [show ([y] : List (List Nat)).map encL = [encL y] from rfl] at a1
    generalize NW.map encL = E0 at *
    generalize (ws.take i ++ [y] ++ ws.drop (i + 1)).map encL = E1 at *
    generalize (ws.take i ++ [y]).map encL = E2 at *
    generalize (ws.take i).map encL = E6 at *
    generalize (ws.drop (i + 1)).map encL = E7 at *
    generalize ws.map encL = E3 at *
    generalize A.map encL = E4 at *
    generalize encL l = E5 at *
    generalize encL y = E8 at *
    simp [s1, s2, c1, a1, a2]
  have jw := join_at (f := eV 6) (ρ := R8 b l k w (some (.d (.lst (A.map encL)))) (some (.d (nD s))) (some (.d (.lst ((ws.take i ++ [y] ++ ws.drop (i + 1)).map encL)))) (some (.d (nD i))) (some (.d (.lst (NW.map encL))))) (μ := μ3) (μ1 := μ3) (c := 32) (ls := ws.take i ++ [y] ++ ws.drop (i + 1)) (s := .d (.lst ((ws.take i ++ [y] ++ ws.drop (i + 1)).map encL))) tl_sp rfl rfl (by omega)
  generalize hz : joinL [32] (ws.take i ++ [y] ++ ws.drop (i + 1)) = z at *
  have t1 := tot_take s A
  have t2 := tot_take (s + 1) A
  have tA : tot (A.take s) + q.length + 1 + tot (A.drop (s + 1)) = tot A := by
    rw [List.take_add_one, hq, tot_app] at t2
    simp only [Option.toList] at t2
    rw [show tot [q] = q.length + 1 by simp [tot]] at t2
    omega
  have l1 : (A.take s).length ≤ A.length := by rw [List.length_take]; omega
  have l2 : (A.drop (s + 1)).length ≤ A.length := by rw [List.length_drop]; omega
  have fin := lines_res (ls := A.take s ++ [z] ++ A.drop (s + 1)) (f := e2 addD (e2 addD (eSl (eV 4) (pNone) (pSome (eV 5))) (eFrz (lLst (aCons (eJoin (eC (.str " ")) (eV 6)) (aNil))))) (eSl (eV 4) (pSome (e2 addD (eV 5) (eC (.int 1)))) (pNone))) (ρ := R8 b l k w (some (.d (.lst (A.map encL)))) (some (.d (nD s))) (some (.d (.lst ((ws.take i ++ [y] ++ ws.drop (i + 1)).map encL)))) (some (.d (nD i))) (some (.d (.lst (NW.map encL))))) (l := l) ((hn.trans n2).trans n3) (fun p hp => by
    rcases List.mem_append.1 hp with h | h
    · rcases List.mem_append.1 h with h | h
      · exact hA p (List.mem_of_mem_take h)
      · rw [List.mem_singleton.1 h]; exact ja
    · exact hA p (List.mem_of_mem_drop h)) (by rw [tot_app, tot_app, show tot [z] = z.length + 1 by simp [tot]]; omega) hl (by
    have s1 := slL_to A s
    have s2 := slL_from A (s + 1)
    have e : ((s + 1 : Nat) : Int) = (s : Int) + 1 := by omega
    rw [e] at s2
    have a1 := addLL (A := A.take s) (B := [z]) (by simp; omega)
    have a2 := addLL (A := A.take s ++ [z]) (B := A.drop (s + 1)) (by simp; omega)
    rw [show ([z] : List (List Nat)).map encL = [encL z] from rfl] at a1
    generalize eJoin (eC (.str " ")) (eV 6) = JJ at *
    generalize NW.map encL = E0 at *
    generalize (ws.take i ++ [y] ++ ws.drop (i + 1)).map encL = F1 at *
    generalize (A.take s ++ [z] ++ A.drop (s + 1)).map encL = E1 at *
    generalize (A.take s ++ [z]).map encL = E2 at *
    generalize (A.take s).map encL = E6 at *
    generalize (A.drop (s + 1)).map encL = E7 at *
    generalize A.map encL = E4 at *
    generalize encL l = E5 at *
    generalize encL z = E8 at *
    simp at jw
    simp [s1, s2, jw, a1, a2])
  obtain ⟨l', μ4, f1, f2, f3, f4⟩ := fin
  exact ⟨l', μ4, (seq_nx st1).trans ((seq_nx st2).trans ((seq_nx near_eq).trans ((seq_nx st4).trans f1))), f2, f3, f4⟩
end
end Bt

set_option linter.all false
set_option maxRecDepth 100000
set_option maxHeartbeats 1000000
/-! XB: bent texts, whole; what refuses texts -/
namespace DL
open PySem L2
variable {ρ : Rho} {μ : Store}
theorem tryAs_rt {i : Nat} {ok : Exn → Bool} {body : SF} {suite : Exn → CTok → SF} {s : Sl} {μ' : Store} (hb : body ρ μ = .rt s μ') : sTryAs i ok body suite ρ μ = .rt s μ' := by
  unfold sTryAs
  rw [hb]
theorem callHD_eq {n : Nat} {g : CTok → MF → MF} {h m : Nat} {tbl : List (Str × PF)} {fa : AF} {ss : List Sl} {μ1 : Store} {x : Str} {φ : PF} {r : Res Sl} (ha : fa ρ μ = .ok ss μ1) (hs : ss[h]? = some (.d (.fn x))) (ht : tbl.lookup x = some φ) (hn : ss.length = n) (k : ∀ t, g t (liftP m φ) (ss.set h (.clo t)) μ1 = r) : eCallHD n g h m tbl fa ρ μ = r := by
  unfold eCallHD
  rw [ha, rbind_ok, hs]
  show (match tbl.lookup x with
    | some φ => if ss.length = n then uni fun t => g t (liftP m φ) (ss.set h (.clo t)) μ1 else .no
    | none => .no) = r
  rw [ht]
  show (if ss.length = n then uni fun t => g t (liftP m φ) (ss.set h (.clo t)) μ1 else .no) = r
  haveI : TabCtx := ⟨[]⟩
  rw [if_pos hn, uni_eq k]
theorem lift1 {g : PF} {d : D} {y : Exn} (h : g [d] = .ex y) : liftP 1 g [.d d] μ = .ex y μ := by
  show (if [d].length = 1 then (g [d]).res μ else .no) = _
  simp [h, PR.res]
end DL
namespace Bt
open PySem DL LV L2 TL
theorem resE {b : Nat} {l : List Nat} {μ : Store} {r r' : Out} (h : r = r') (k : Res' b l μ r') : Res' b l μ r := h ▸ k
theorem bent_eq {b : Nat} {l : List Nat} {μ : Store} (hg : Bg b μ) (ha : Asc l) (hl : l.length ≤ 100000) : ∃ l' μ', m_u_law_bent [.ob b, .d (encL l)] μ = .ok (.d (encL l')) μ' ∧ Nxt b μ μ' ∧ Asc l' ∧ l'.length ≤ 2 * l.length + 100 := by
  obtain ⟨r1, μ1, t1, r10, r11, n1⟩ := take_x (many := (l.length : Int) + 1) hg (by omega)
  obtain ⟨k, hk⟩ : ∃ k : Nat, (k : Int) = r1 := ⟨r1.toNat, by omega⟩
  subst hk
  obtain ⟨w, μ2, t2, w0, w6, n2⟩ := take_x (many := 6) n1.bag (by omega)
  have n12 := n1.trans n2
  have ll := len_L (w := l) (by omega)
  have st1 : sPar 2 3 (eCallM 2 m_u_law_take (aCons (eV 0) (aCons (e2 addD (eN lenD (aCons (eV 1) (aNil))) (eC (.int 1))) (aNil)))) (eCallM 2 m_u_law_take (aCons (eV 0) (aCons (eC (.int 6)) (aNil)))) (rho0 7 [.ob b, .d (encL l)]) μ = .nx (R8 b l k w none none none none none) μ2 := by
    have r0 : rho0 7 [.ob b, .d (encL l)] = [some (.ob b), some (.d (encL l)), none, none, none, none, none, none, none] := rfl
    rw [r0]
    simp [ll, t1, t2]
  have main : Res' b l μ (F_u_law_bent (rho0 7 [.ob b, .d (encL l)]) μ) := by
    have cd : ∀ (c : Int) (j4 j5 : Option Sl) (M : Store), bV (e2 eqD (eV 3) (eC (.int c))) (R8 b l k w j4 j5 none none none) M = .ok (decide (w = c)) M := fun c j4 j5 M => by
      generalize encL l = E
      simp
    unfold F_u_law_bent
    refine resE (seq_nx st1) ?_
    have lift : ∀ {r : Out}, Res' b l μ2 r → Res' b l μ r := fun ⟨l', μ', f1, f2, f3, f4⟩ => ⟨l', μ', f1, n12.trans f2, f3, f4⟩
    by_cases h0 : w = 0
    · obtain ⟨l', μ', f1, f2, f3, f4⟩ := lift (bent_0 (k := k) (w := w) n2.bag ha hl)
      exact ⟨l', μ', seq_rt ((s_ift (by rw [cd, decide_eq_true h0])).trans f1), f2, f3, f4⟩
    refine resE (seq_nx (ρ' := R8 b l k w none none none none none) (μ' := μ2) ((s_iff (by rw [cd, decide_eq_false h0])).trans rfl)) ?_
    by_cases h1 : w = 1
    · obtain ⟨l', μ', f1, f2, f3, f4⟩ := lift (bent_1 (k := k) (w := w) n2.bag ha hl)
      exact ⟨l', μ', seq_rt ((s_ift (by rw [cd, decide_eq_true h1])).trans f1), f2, f3, f4⟩
    refine resE (seq_nx (ρ' := R8 b l k w none none none none none) (μ' := μ2) ((s_iff (by rw [cd, decide_eq_false h1])).trans rfl)) ?_
    have s0 := split_at (f := eV 1) (ρ := R8 b l k w none none none none none) (μ := μ2) (μ1 := μ2) (c := 10) (l := l) tl_nl (by omega) rfl (by omega)
    have tt := tot_sp 10 l
    have ne := sp_ne 10 l
    have aA : ∀ p, p ∈ sp 10 l → Asc p := fun p hp => ha.part hp
    generalize sp 10 l = A at *
    refine resE (seq_nx (ρ' := R8 b l k w (some (.d (.lst (A.map encL)))) none none none none) (μ' := μ2) (s_asg (s := .d (.lst (A.map encL))) (by rw [eFrz_eq, s0, rbind_ok]) rfl)) ?_
    have lA := len_tot A
    have pA : 0 < A.length := List.length_pos_iff.2 ne
    obtain ⟨r3, μ3, t3, r30, r31, n3⟩ := take_x (many := (A.length : Int)) n2.bag (by omega)
    obtain ⟨s, hs⟩ : ∃ s : Nat, (s : Int) = r3 := ⟨r3.toNat, by omega⟩
    subst hs
    have n13 := n12.trans n3
    refine resE (seq_nx (ρ' := R8 b l k w (some (.d (.lst (A.map encL)))) (some (.d (nD s))) none none none) (μ' := μ3) (by
      have la : lenD [.lst (A.map encL)] = some (.int (A.length : Nat)) := by rw [lenD_l, List.length_map]
      simp [la, t3, -lenD_l])) ?_
    by_cases h2 : w = 2
    · obtain ⟨l', μ', f1, f2, f3, f4⟩ := bent_2 (k := k) (w := w) (s := s) n13 aA tt hl
      exact ⟨l', μ', seq_rt ((s_ift (by rw [cd, decide_eq_true h2])).trans f1), f2, f3, f4⟩
    refine resE (seq_nx (ρ' := R8 b l k w (some (.d (.lst (A.map encL)))) (some (.d (nD s))) none none none) (μ' := μ3) ((s_iff (by rw [cd, decide_eq_false h2])).trans rfl)) ?_
    by_cases h3 : w = 3
    · obtain ⟨l', μ', f1, f2, f3, f4⟩ := bent_3 (k := k) (w := w) (s := s) n13 aA tt hl (by omega)
      exact ⟨l', μ', seq_rt ((s_ift (by rw [cd, decide_eq_true h3])).trans f1), f2, f3, f4⟩
    refine resE (seq_nx (ρ' := R8 b l k w (some (.d (.lst (A.map encL)))) (some (.d (nD s))) none none none) (μ' := μ3) ((s_iff (by rw [cd, decide_eq_false h3])).trans rfl)) ?_
    by_cases h4 : w = 4
    · obtain ⟨l', μ', f1, f2, f3, f4⟩ := bent_4 (k := k) (w := w) (s := s) n13 aA tt hl
      exact ⟨l', μ', seq_rt ((s_ift (by rw [cd, decide_eq_true h4])).trans f1), f2, f3, f4⟩
    refine resE (seq_nx (ρ' := R8 b l k w (some (.d (.lst (A.map encL)))) (some (.d (nD s))) none none none) (μ' := μ3) ((s_iff (by rw [cd, decide_eq_false h4])).trans rfl)) ?_
    exact bent_5 (k := k) (w := w) (s := s) n13 aA tt hl (by omega)
  obtain ⟨l', μ', f1, f2, f3, f4⟩ := main
  exact ⟨l', μ', fm_rt f1, f2, f3, f4⟩
theorem told_ok {t : CTok} {φ : MF} {μ : Store} {v : D} (h : φ [] μ = .ok (.d v) μ) : h_u_law_told t φ [.clo t] μ = .ok (.d (.tup [v, .str ""])) μ := by
  refine fm_rtx ?_
  refine tryAs_rt ?_
  have := act_eq (ρ := [some (.clo t), none]) (μ := μ) (i := 0) (n := 0) (t := t) (f := φ) (fa := aNil) rfl
  show sRet (eTup (aCons (eAct 0 0 t φ aNil) (aCons (eC (.str "")) (aNil)))) [some (.clo t), none] μ = _
  have e : eAct 0 0 t φ aNil [some (.clo t), none] μ = .ok (.d v) μ := by
    rw [this, aNil_eq, rbind_ok]
    exact h
  generalize ("" : Str) = EM
  simp [e]
theorem told_ex {t : CTok} {φ : MF} {μ μ' : Store} {y : Exn} {l : Str} (h : φ [] μ = .ex y μ') (hl : labE y = some l) : h_u_law_told t φ [.clo t] μ = .ok (.d (.tup [.non, .str l])) μ' := by
  have ho : okE y = true := by
    unfold labE at hl
    split at hl
    · assumption
    · cases hl
  refine fm_rtx ?_
  refine tryAs_eq (x := y) (ρ' := [some (.clo t), none]) (μ' := μ') ?_ ho fun t' => ?_
  · have := act_eq (ρ := [some (.clo t), none]) (μ := μ) (i := 0) (n := 0) (t := t) (f := φ) (fa := aNil) rfl
    show sRet (eTup (aCons (eAct 0 0 t φ aNil) (aCons (eC (.str "")) (aNil)))) [some (.clo t), none] μ = _
    have e : eAct 0 0 t φ aNil [some (.clo t), none] μ = .ex y μ' := by
      rw [this, aNil_eq, rbind_ok]
      exact h
    simp [e]
  · show (sRet (eTup (aCons (eC .non) (aCons (eNm 1 t' (labE y)) (aNil)))) [some (.clo t), some (.clo t')] μ').rets = _
    rw [hl]
    have e := nm_at (ρ := [some (.clo t), some (.clo t')]) (μ := μ') (i := 1) (t := t') (l := l) rfl
    simp [e]
    rfl
theorem lab_text : labE ⟨"InvalidText", none⟩ = some "text" := by decide +kernel
theorem ok_text : PySem.PyData.strOk "text" = true := by decide +kernel
theorem read_none {l : List Nat} (ha : Asc l) (hl : l.length ≤ 100000) (h : lawR l = none) : p_read_web [encL l] = .ex ⟨"InvalidText", none⟩ := by
  rcases readers ha hl with ⟨P, T, _, e, _⟩ | ⟨_, e⟩
  · rw [h] at e; cases e
  · exact e
theorem read_nostr {d : D} (h : isiD "str" d = some (.bl false)) : p_read_web [d] = .ex ⟨"InvalidText", none⟩ := by
  have w : p_web_in [d] = .ex ⟨"InvalidText", none⟩ := by
    refine fn_ex (ρ := R7 d none none none) (μ := []) ?_
    have r0 : rho0 6 ([d].map Sl.d) = R7 d none none none := rfl
    rw [r0]
    simp [F_web_in, h]
  refine fn_ex (ρ := [some (.d d)]) (μ := []) ?_
  simp [F_read_web, rho0, w]
theorem join_last (c : Nat) : ∀ (ls : List (List Nat)) (p : List Nat), ∃ u, joinL [c] (ls ++ [p]) = u ++ p
  | [], p => ⟨[], rfl⟩
  | [q], p => ⟨q ++ [c], by simp [joinL]⟩
  | q :: r :: ls, p => by
    obtain ⟨u, h⟩ := join_last c (r :: ls) p
    refine ⟨q ++ ([c] ++ u), ?_⟩
    show q ++ ([c] ++ joinL [c] ((r :: ls) ++ [p])) = _
    rw [h]; simp
theorem place_tail (p : Pl) : ∃ u n, placeL p = u ++ numL n := ⟨plW ++ [32] ++ numW p.1 ++ [32], p.2.toNat, by simp [placeL, joinL, numW]⟩
theorem tie_tail (t : Tl) : ∃ u n, tieL t = u ++ numL n := ⟨tiW ++ [32] ++ numW (t.1 : Nat) ++ [32] ++ numW (t.2.1 : Nat) ++ [32], t.2.2.toNat, by simp [tieL, joinL, numW]⟩
section
variable {P : List Pl} {T : List Tl}
theorem asL_tail (hw : WebOk P T) : ∃ u n, asL P T = u ++ numL n := by
  rcases List.eq_nil_or_concat (P.map placeL ++ T.map tieL) with e | ⟨ls, p, e⟩
  · exact absurd e (lines_ne hw)
  · have e : P.map placeL ++ T.map tieL = ls ++ [p] := by rw [e]; simp
    obtain ⟨u, h⟩ := join_last 10 ls p
    have hp : p ∈ P.map placeL ++ T.map tieL := by rw [e]; simp
    have tail : ∃ v n, p = v ++ numL n := by
      rcases List.mem_append.1 hp with q | q
      · obtain ⟨x, _, rfl⟩ := List.mem_map.1 q; exact place_tail x
      · obtain ⟨x, _, rfl⟩ := List.mem_map.1 q; exact tie_tail x
    obtain ⟨v, n, rfl⟩ := tail
    exact ⟨u ++ v, n, by unfold asL; rw [e, h, List.append_assoc]⟩
theorem asL_last (hw : WebOk P T) {c : Nat} (hc : c < 48) (l : List Nat) : l ++ [c] ≠ asL P T := fun h => by
  obtain ⟨u, n, e⟩ := asL_tail hw
  have k := congrArg List.getLast? (h.trans e)
  rw [List.getLast?_concat, List.getLast?_append] at k
  cases q : (numL n).getLast? with
  | none => exact absurd (List.getLast?_eq_none_iff.1 q) (numL_ne n)
  | some d =>
    rw [q] at k
    have : c = d := by simpa using k
    have := numL_digits n d (List.mem_of_getLast? q)
    omega
theorem asL_head (hw : WebOk P T) {c : Nat} (hc : c ≠ 112) (l : List Nat) : c :: l ≠ asL P T := fun h => by
  have k := hw.n1
  cases P with
  | nil => exact absurd k (by simp)
  | cons p r =>
    have e : ∃ v, asL (p :: r) T = 112 :: v := by
      unfold asL
      rw [List.map_cons, List.cons_append]
      cases q : r.map placeL ++ T.map tieL with
      | nil => exact ⟨_, rfl⟩
      | cons x y => exact ⟨_, rfl⟩
    obtain ⟨v, e⟩ := e
    rw [e] at h
    exact hc (List.cons.inj h).1
def oddW : List Nat := [116, 105, 101, 32, 48, 32, 57, 32, 49]
theorem odd_words : sp 32 oddW = [tiW, [48], [57], [49]] := by decide +kernel
theorem asL_odd (hw : WebOk P T) {P' : List Pl} {T' : List Tl} (hw' : WebOk P' T') : asL P T ++ (10 :: oddW) ≠ asL P' T' := fun h => by
  have j : asL P T ++ (10 :: oddW) = joinL [10] (P.map placeL ++ T.map tieL ++ [oddW]) := by
    have key : ∀ (ls : List (List Nat)), ls ≠ [] → joinL [10] ls ++ (10 :: oddW) = joinL [10] (ls ++ [oddW]) := by
      intro ls
      induction ls with
      | nil => intro z; exact absurd rfl z
      | cons a r ih =>
        intro _
        cases r with
        | nil => rfl
        | cons b r =>
          have := ih (by simp)
          show (a ++ ([10] ++ joinL [10] (b :: r))) ++ (10 :: oddW) = a ++ ([10] ++ joinL [10] ((b :: r) ++ [oddW]))
          rw [← this]; simp
    exact key _ (lines_ne hw)
  have l1 : sp 10 (asL P' T') = P.map placeL ++ T.map tieL ++ [oddW] := by
    rw [← h, j]
    refine sp_join (by simp) fun p hp q => ?_
    rcases List.mem_append.1 hp with z | z
    · have := lines_ls p z 10 q
      unfold Ls at this
      omega
    · rw [List.mem_singleton.1 z] at q
      exact absurd q (by decide)
  rw [asL_lines hw'] at l1
  have m : oddW ∈ P'.map placeL ++ T'.map tieL := by rw [l1]; simp
  rcases List.mem_append.1 m with z | z
  · obtain ⟨p, _, e⟩ := List.mem_map.1 z
    have k := place_words p
    rw [e, odd_words] at k
    exact absurd (congrArg List.length k) (by simp)
  · obtain ⟨t, ht, e⟩ := List.mem_map.1 z
    have k := tie_words t
    rw [e, odd_words] at k
    have k2 := (List.cons.inj (List.cons.inj (List.cons.inj k).2).2).1
    have n9 : numL 9 = [57] := by decide +kernel
    have : numL 9 = numL t.2.1 := by rw [n9]; exact k2
    have e9 := numL_inj this
    have a := (hw'.t t ht).2.1
    have b := hw'.n5
    omega
end
end Bt

set_option linter.all false
set_option maxRecDepth 100000
set_option maxHeartbeats 1000000
/-! XC: the law: a lot of draws -/
namespace DL
open PySem L2
mutual
theorem beq_self : ∀ d : D, d.cmpOk = true → D.beq d d = true
  | .non, _ => rfl
  | .bl b, _ => by simp [D.beq]
  | .int i, _ => by simp [D.beq]
  | .str s, _ => by simp [D.beq]
  | .tup ds, h => by simp only [D.beq]; exact beqL_self ds (by simpa [D.cmpOk] using h)
  | .lst ds, h => by simp only [D.beq]; exact beqL_self ds (by simpa [D.cmpOk] using h)
  | .fn _, h => by simp [D.cmpOk] at h
  | .scr _, h => by simp [D.cmpOk] at h
theorem beqL_self : ∀ ds : List D, cmpOkL ds = true → beqL ds ds = true
  | [], _ => rfl
  | d :: r, h => by
    simp only [cmpOkL, Bool.and_eq_true] at h
    simp only [beqL, Bool.and_eq_true]
    exact ⟨beq_self d h.1, beqL_self r h.2⟩
end
theorem eqD_self {d : D} (h : d.shaped = true) : eqD d d = some (.bl true) := by
  unfold eqD
  rw [if_pos ⟨h, h⟩, beq_self d (by simp [D.shaped] at h; exact h.1)]
theorem neD_self {d : D} (h : d.shaped = true) : neD d d = some (.bl false) := by
  unfold neD
  rw [if_pos ⟨h, h⟩, beq_self d (by simp [D.shaped] at h; exact h.1)]; rfl
end DL
namespace Bt
open PySem DL LV L2 TL
section
variable {P : List Pl} {T : List Tl}
theorem eW_cd (P : List Pl) (T : List Tl) : (eW P T).cmpOk = true ∧ (eW P T).deep ≤ 3 := by
  have h1 : ∀ P : List Pl, cmpOkL (P.map eP) = true ∧ deepL (P.map eP) ≤ 1 := fun P => by
    induction P with
    | nil => exact ⟨rfl, by simp [deepL]⟩
    | cons x r ih =>
      obtain ⟨i1, i2⟩ := ih
      simp [eP, cmpOkL, D.cmpOk, deepL, D.deep, i1]; omega
  have h2 : ∀ T : List Tl, cmpOkL (T.map eT) = true ∧ deepL (T.map eT) ≤ 1 := fun T => by
    induction T with
    | nil => exact ⟨rfl, by simp [deepL]⟩
    | cons x r ih =>
      obtain ⟨i1, i2⟩ := ih
      simp [eT, cmpOkL, D.cmpOk, deepL, D.deep, i1]; omega
  obtain ⟨a1, a2⟩ := h1 P
  obtain ⟨b1, b2⟩ := h2 T
  simp [eW, ePs, eTs, cmpOkL, D.cmpOk, deepL, D.deep, a1, b1]; omega
theorem eW_sh : (eW P T).shaped = true := by
  obtain ⟨a, b⟩ := eW_cd P T
  simp [D.shaped, a]; omega
theorem ok_emp : PySem.PyData.strOk "" = true := by decide +kernel
theorem told_sh : (D.tup [eW P T, .str ""]).shaped = true := by
  obtain ⟨a, b⟩ := eW_cd P T
  simp [D.shaped, D.cmpOk, cmpOkL, D.deep, deepL, a, ok_emp]; omega
theorem ntold_sh : (D.tup [.non, .str "text"]).shaped = true := by
  simp [D.shaped, D.cmpOk, cmpOkL, D.deep, deepL, ok_text]
theorem web_text_eq (hw : WebOk P T) : p_web_text [eW P T] = .ok (encL (asL P T)) := by
  have n1 := need_web_t (eW_pl P T) (eW_wb hw)
  have n2 := as_text_eq hw
  refine fn_rt (s := .d (encL (asL P T))) (μ := []) ?_ rfl
  generalize eW P T = W at *
  generalize encL (asL P T) = E at *
  simp [F_web_text, rho0, n1, n2]
theorem web_text_f {d : D} (h : d.pl = true) (q : wbB d = false) : p_web_text [d] = .ex ⟨"InvalidWeb", none⟩ := by
  have n1 := need_web_f h q
  refine fn_ex (ρ := [some (.d d)]) (μ := []) ?_
  simp [F_web_text, rho0, n1]
end
abbrev RL (sc : D) (j1 j3 j4 j5 j6 j7 j8 j9 j10 : Option Sl) : Rho := [some (.d sc), j1, none, j3, j4, j5, j6, j7, j8, j9, j10]
section
variable {P : List Pl} {T : List Tl}
/-- one turn: a bent text -/
theorem turn_eq (hw : WebOk P T) {sc : D} {j1 j3 j6 j8 j9 j10 : Option Sl} {b i : Nat} {μ : Store} (hg : Bg b μ) : ∃ k3 k10 μ', B2_law (RL sc j1 j3 (some (.d (encL (asL P T)))) (some (.ob b)) j6 (some (.d (nD i))) j8 j9 j10) μ = .nx (RL sc j1 k3 (some (.d (encL (asL P T)))) (some (.ob b)) j6 (some (.d (nD i))) j8 j9 k10) μ' ∧ Nxt b μ μ' := by
  have hl := asL_len hw
  obtain ⟨x, μ1, b1, n1, x1, x2⟩ := bent_eq hg (asL_asc (P := P) (T := T)) (by omega)
  obtain ⟨y, μ2, b2, n2, y1, y2⟩ := bent_eq n1.bag x1 (by omega)
  have st : ∃ z μ', eIf (bV (e2 ltD (eV 7) (eC (.int 4)))) (eCallM 2 m_u_law_bent (aCons (eV 5) (aCons (eV 4) (aNil)))) (eCallM 2 m_u_law_bent (aCons (eV 5) (aCons (eCallM 2 m_u_law_bent (aCons (eV 5) (aCons (eV 4) (aNil)))) (aNil)))) (RL sc j1 j3 (some (.d (encL (asL P T)))) (some (.ob b)) j6 (some (.d (nD i))) j8 j9 j10) μ = .ok (.d (encL z)) μ' ∧ Nxt b μ μ' ∧ Asc z ∧ z.length ≤ 10000 := by
    by_cases q : i < 4
    · have q' : (i : Int) < 4 := by omega
      exact ⟨x, μ1, by simp [q, q', b1], n1, x1, by omega⟩
    · have q' : ¬ (i : Int) < 4 := by omega
      exact ⟨y, μ2, by simp [q, q', b1, b2], n1.trans n2, y1, by omega⟩
  obtain ⟨z, μ', s1, s2, s3, s4⟩ := st
  have r1 := law_read_eq s3 (by omega)
  refine ⟨some (.d (webD (lawR z))), some (.d (encL z)), μ', ?_, s2⟩
  unfold B2_law
  refine (seq_nx (s_asg s1 rfl)).trans ?_
  refine (seq_nx (ρ' := RL sc j1 (some (.d (webD (lawR z)))) (some (.d (encL (asL P T)))) (some (.ob b)) j6 (some (.d (nD i))) j8 j9 (some (.d (encL z)))) (μ' := μ') (by
    generalize webD (lawR z) = WD at *
    simp [r1])).trans ?_
  rcases readers s3 (by omega) with ⟨P', T', hw', e1, e2⟩ | ⟨e1, e2⟩
  · rw [e1]
    have c : eCallH 1 h_u_law_told (xLam (aNil)) 0 [10] (eCall 1 p_read_web (aCons (eV 0) (aNil))) (RL sc j1 (some (.d (webD (some (P', T'))))) (some (.d (encL (asL P T)))) (some (.ob b)) j6 (some (.d (nD i))) j8 j9 (some (.d (encL z)))) μ' = .ok (.d (.tup [eW P' T', .str ""])) μ' := by
      refine callH_eq (a := []) (b := []) (μ1 := μ') (xLam_eq rfl) rfl fun t => told_ok ?_
      show eCall 1 p_read_web (aCons (eV 0) (aNil)) [some (.d (encL z))] μ' = _
      generalize eW P' T' = W at *
      simp [e2]
    have ns := neD_self (told_sh (P := P') (T := T'))
    have wd : webD (some (P', T')) = eW P' T' := rfl
    rw [wd] at c ⊢
    have isn : isnD (eW P' T') .non = some (.bl true) := rfl
    generalize eCallH 1 h_u_law_told (xLam (aNil)) 0 [10] (eCall 1 p_read_web (aCons (eV 0) (aNil))) = CC at *
    generalize eW P' T' = W at *
    generalize encL (asL P T) = E1 at *
    generalize encL z = E2 at *
    generalize ("" : Str) = EM at *
    generalize (some (Sl.d (nD i)) : Option Sl) = J7 at *
    simp [c, isn, ns]
  · rw [e1]
    have c : eCallH 1 h_u_law_told (xLam (aNil)) 0 [10] (eCall 1 p_read_web (aCons (eV 0) (aNil))) (RL sc j1 (some (.d (webD none))) (some (.d (encL (asL P T)))) (some (.ob b)) j6 (some (.d (nD i))) j8 j9 (some (.d (encL z)))) μ' = .ok (.d (.tup [.non, .str "text"])) μ' := by
      refine callH_eq (a := []) (b := []) (μ1 := μ') (xLam_eq rfl) rfl fun t => told_ex (y := ⟨"InvalidText", none⟩) ?_ lab_text
      show eCall 1 p_read_web (aCons (eV 0) (aNil)) [some (.d (encL z))] μ' = _
      simp [e2]
    have ns := neD_self ntold_sh
    have wd : webD none = .non := rfl
    rw [wd] at c ⊢
    have isn : isnD .non .non = some (.bl false) := rfl
    generalize eCallH 1 h_u_law_told (xLam (aNil)) 0 [10] (eCall 1 p_read_web (aCons (eV 0) (aNil))) = CC at *
    generalize encL (asL P T) = E1 at *
    generalize encL z = E2 at *
    generalize ("text" : Str) = EM at *
    generalize (some (Sl.d (nD i)) : Option Sl) = J7 at *
    simp [c, isn, ns]
def oddsD (l : List Nat) : List D := [.non, .int 5, .lst [encL l], .bl true, encL [], encL [10], encL (l ++ [10]), encL (32 :: l), encL (l ++ [32]), encL (10 :: l), encL (l ++ (10 :: oddW))]
theorem kb5 : kitB "NoneType" "str" = some false ∧ kitB "int" "str" = some false ∧ kitB "list" "str" = some false ∧ kitB "bool" "str" = some false := by decide +kernel
theorem odds_f (hw : WebOk P T) {d : D} (h : d ∈ oddsD (asL P T)) : p_read_web [d] = .ex ⟨"InvalidText", none⟩ := by
  have hl := asL_len hw
  have ha := asL_asc (P := P) (T := T)
  have aa : ∀ {m : List Nat}, (∀ x, x ∈ m → x < 256 ∨ x ∈ asL P T) → Asc m := fun k x hx => (k x hx).elim id (ha x)
  simp only [oddsD, List.mem_cons, List.not_mem_nil, or_false] at h
  rcases h with rfl | rfl | rfl | rfl | rfl | rfl | rfl | rfl | rfl | rfl | rfl
  · exact read_nostr (by simp [isiD, tyD, kb5])
  · exact read_nostr (by simp [isiD, tyD, kb5])
  · exact read_nostr (by simp [isiD, tyD, kb5])
  · exact read_nostr (by simp [isiD, tyD, kb5])
  · exact read_none (asc_l rfl) (by simp) (by decide +kernel)
  · exact read_none (asc_l rfl) (by simp) (by decide +kernel)
  · exact read_f (aa fun x hx => by
      rcases List.mem_append.1 hx with q | q
      · exact .inr q
      · rw [List.mem_singleton.1 q]; exact .inl (by omega)) (by simp; omega) fun P' T' hw' => asL_last hw' (by omega) _
  · exact read_f (aa fun x hx => by
      rcases List.mem_cons.1 hx with q | q
      · exact .inl (by omega)
      · exact .inr q) (by simp; omega) fun P' T' hw' => asL_head hw' (by omega) _
  · exact read_f (aa fun x hx => by
      rcases List.mem_append.1 hx with q | q
      · exact .inr q
      · rw [List.mem_singleton.1 q]; exact .inl (by omega)) (by simp; omega) fun P' T' hw' => asL_last hw' (by omega) _
  · exact read_f (aa fun x hx => by
      rcases List.mem_cons.1 hx with q | q
      · exact .inl (by omega)
      · exact .inr q) (by simp; omega) fun P' T' hw' => asL_head hw' (by omega) _
  · exact read_f (aa fun x hx => by
      rcases List.mem_append.1 hx with q | q
      · exact .inr q
      · exact .inl ((asc_l (l := 10 :: oddW) rfl) x q)) (by simp [oddW]; omega) fun P' T' hw' => asL_odd hw hw'
theorem tl_odd : tl ("\ntie 0 9 1" : Str) = 10 :: oddW := by decide +kernel
theorem odd_step {sc : D} {j1 j3 j4 j5 j6 j7 j8 j10 : Option Sl} {d : D} {μ : Store} (h : p_read_web [d] = .ex ⟨"InvalidText", none⟩) : B3_law (RL sc j1 j3 j4 j5 j6 j7 j8 (some (.d d)) j10) μ = .nx (RL sc j1 j3 j4 j5 j6 j7 j8 (some (.d d)) j10) μ := by
  have c : eCallH 1 h_u_law_error (xLam (aNil)) 0 [9] (eCall 1 p_read_web (aCons (eV 0) (aNil))) (RL sc j1 j3 j4 j5 j6 j7 j8 (some (.d d)) j10) μ = .ok (.d (.str "text")) μ := by
    refine callH_eq (a := []) (b := []) (μ1 := μ) (xLam_eq rfl) rfl fun t => error_ex (y := ⟨"InvalidText", none⟩) ?_ lab_text
    show eCall 1 p_read_web (aCons (eV 0) (aNil)) [some (.d d)] μ = _
    simp [h]
  unfold B3_law
  exact (s_iff (b_v (e_2 c (y := .d (.str "text")) (μ2 := μ) rfl (by simp [neD_ss ok_text])))).trans rfl
end
end Bt

set_option linter.all false
set_option maxRecDepth 100000
set_option maxHeartbeats 1000000
/-! K09P: the law -/
namespace Bt
open PySem DL LV L2 TL
theorem tbW : ([("web_text" , p_web_text)] : List (Str × PF)).lookup ("web_text" : Str) = some p_web_text := rfl
theorem tbR : ([("read_web" , p_read_web)] : List (Str × PF)).lookup ("read_web" : Str) = some p_read_web := rfl
theorem Nxt.refl {b : Nat} {μ : Store} (h : Bg b μ) : Nxt b μ μ := ⟨h, fun _ _ => rfl, rfl⟩
/-- the web that is drawn -/
theorem one_eq {b : Nat} {μ : Store} (hg : Bg b μ) {ρ : Rho} (h5 : ρ[5]? = some (some (.ob b))) : ∃ (P : List Pl) (T : List Tl) (μ' : Store), eCallM 2 m_u_law_choice (aCons (eV 5) (aCons (eFrz (lLst (aCons (eCallM 1 m_u_law_web (aCons (eV 5) (aNil))) (aCons (eCallM 1 m_u_law_great_web (aCons (eV 5) (aNil))) (aNil))))) (aNil))) ρ μ = .ok (.d (eW P T)) μ' ∧ Bg b μ' ∧ WebOk P T := by
  obtain ⟨bag, hb⟩ := hg
  obtain ⟨P1, T1, bag1, μ1, a1, a2, a3⟩ := web_eq hb
  obtain ⟨P2, T2, μ2, b1, b2, b3⟩ := great_eq ⟨bag1, a2⟩
  obtain ⟨x, μ3, c1, c2, c3⟩ := choice_x (ds := [eW P1 T1, eW P2 T2]) b2 (by simp)
  have e : ∃ P T, x = eW P T ∧ WebOk P T := by
    simp only [List.mem_cons, List.not_mem_nil, or_false] at c2
    rcases c2 with rfl | rfl
    · exact ⟨P1, T1, rfl, a3⟩
    · exact ⟨P2, T2, rfl, b3⟩
  obtain ⟨P, T, rfl, hw⟩ := e
  refine ⟨P, T, μ3, ?_, c3.bag, hw⟩
  generalize eW P T = W at *
  generalize eW P1 T1 = W1 at *
  generalize eW P2 T2 = W2 at *
  simp [h5, a1, b1, c1]
theorem body_eq (ns : List Int) {i : Nat} (hi : i < 8) {j3 j4 j5 j6 j7 j8 j9 j10 : Option Sl} (μ : Store) : ∃ k3 k4 k5 k6 k7 k8 k9 k10 μ', B1_law (RL (.scr ns) (some (.d (nD i))) j3 j4 j5 j6 j7 j8 j9 j10) μ = .nx (RL (.scr ns) (some (.d (nD i))) k3 k4 k5 k6 k7 k8 k9 k10) μ' := by
  obtain ⟨bag, hb⟩ := bag_eq (μ := μ) ns i (by omega)
  have g0 : (μ ++ [MO.lst (bag.map D.int)])[μ.length]? = some (.lst (bag.map .int)) := by rw [List.getElem?_append_right (Nat.le_refl _)]; simp
  obtain ⟨P, T, μ1, o1, o2, hw⟩ := one_eq (b := μ.length) (μ := μ ++ [MO.lst (bag.map D.int)]) ⟨bag, g0⟩ (ρ := RL (.scr ns) (some (.d (nD i))) j3 j4 (some (.ob μ.length)) j6 j7 j8 j9 j10) rfl
  have lt := law_text_eq hw
  have wt := web_text_eq hw
  have rt := read_t hw
  have ha := asL_asc (P := P) (T := T)
  have hl := asL_len hw
  have nt := neD_L ha ha
  rw [decide_eq_true rfl] at nt
  have nw := neD_self (eW_sh (P := P) (T := T))
  have st1 : sAsg (eCallM 2 m_u_law_bag (aCons (eV 0) (aCons (eV 1) (aNil)))) (gN 5) (RL (.scr ns) (some (.d (nD i))) j3 j4 j5 j6 j7 j8 j9 j10) μ = .nx (RL (.scr ns) (some (.d (nD i))) j3 j4 (some (.ob μ.length)) j6 j7 j8 j9 j10) (μ ++ [MO.lst (bag.map D.int)]) := by
    simp at hb
    simp [hb]
  have st3 : sAsg (eCall 1 p_u_law_text (aCons (eV 6) (aNil))) (gN 4) (RL (.scr ns) (some (.d (nD i))) j3 j4 (some (.ob μ.length)) (some (.d (eW P T))) j7 j8 j9 j10) μ1 = .nx (RL (.scr ns) (some (.d (nD i))) j3 (some (.d (encL (asL P T)))) (some (.ob μ.length)) (some (.d (eW P T))) j7 j8 j9 j10) μ1 := by
    refine s_asg (s := .d (encL (asL P T))) ?_ rfl
    generalize eW P T = W at *
    generalize encL (asL P T) = E at *
    simp [lt]
  have st4 : sIf (bOr (bV (e2 neD (eCall 1 p_web_text (aCons (eV 6) (aNil))) (eV 4))) (bV (e2 neD (eCall 1 p_read_web (aCons (eV 4) (aNil))) (eV 6)))) (sRet (eC (.bl false))) (sNil) (RL (.scr ns) (some (.d (nD i))) j3 (some (.d (encL (asL P T)))) (some (.ob μ.length)) (some (.d (eW P T))) j7 j8 j9 j10) μ1 = .nx (RL (.scr ns) (some (.d (nD i))) j3 (some (.d (encL (asL P T)))) (some (.ob μ.length)) (some (.d (eW P T))) j7 j8 j9 j10) μ1 := by
    refine (s_iff ?_).trans rfl
    generalize eW P T = W at *
    generalize encL (asL P T) = E at *
    simp [wt, rt, nt, nw]
  obtain ⟨ρ2, μ2, f1, f2, k3, k7, k10, rfl⟩ := for_idx (g := G2_law) (body := B2_law) nD (fun _ ρ M => Bg μ.length M ∧ ∃ k3 k7 k10, ρ = RL (.scr ns) (some (.d (nD i))) k3 (some (.d (encL (asL P T)))) (some (.ob μ.length)) (some (.d (eW P T))) k7 j8 j9 k10) (List.range 6) 0 (RL (.scr ns) (some (.d (nD i))) j3 (some (.d (encL (asL P T)))) (some (.ob μ.length)) (some (.d (eW P T))) j7 j8 j9 j10) μ1 (by
    rintro q x hx ρ M ⟨hM, k3, k7, k10, rfl⟩
    obtain ⟨m3, m10, M', h1, h2⟩ := turn_eq hw (sc := .scr ns) (j1 := some (.d (nD i))) (j3 := k3) (j6 := some (.d (eW P T))) (j8 := j8) (j9 := j9) (j10 := k10) (i := x) hM
    exact ⟨_, _, M', rfl, h1, h2.bag, _, _, _, rfl⟩) ⟨o2, _, _, _, rfl⟩
  have st5 : sFor (sRng1 (eC (.int 6))) G2_law B2_law (RL (.scr ns) (some (.d (nD i))) j3 (some (.d (encL (asL P T)))) (some (.ob μ.length)) (some (.d (eW P T))) j7 j8 j9 j10) μ1 = .nx (RL (.scr ns) (some (.d (nD i))) k3 (some (.d (encL (asL P T)))) (some (.ob μ.length)) (some (.d (eW P T))) k7 j8 j9 k10) μ2 := by
    refine for_nx (ds := (List.range 6).map nD) (μ1 := μ1) ?_ f1
    have := rngR_n (μ := μ1) (n := 6) (by omega)
    simpa using this
  have a1 := add_L (a := asL P T) (b := [10]) (by simp; omega)
  have a2 := add_L (a := [32]) (b := asL P T) (by simp; omega)
  have a3 := add_L (a := asL P T) (b := [32]) (by simp; omega)
  have a4 := add_L (a := [10]) (b := asL P T) (by simp; omega)
  have a5 := add_L (a := asL P T) (b := 10 :: oddW) (by simp [oddW]; omega)
  have st6 : sAsg (eFrz (lLst (aCons (eC .non) (aCons (eC (.int 5)) (aCons (eFrz (lLst (aCons (eV 4) (aNil)))) (aCons (eC (.bl true)) (aCons (eC (.str "")) (aCons (eC (.str "\n")) (aCons (e2 addD (eV 4) (eC (.str "\n"))) (aCons (e2 addD (eC (.str " ")) (eV 4)) (aCons (e2 addD (eV 4) (eC (.str " "))) (aNil)))))))))))) (gN 8) (RL (.scr ns) (some (.d (nD i))) k3 (some (.d (encL (asL P T)))) (some (.ob μ.length)) (some (.d (eW P T))) k7 j8 j9 k10) μ2 = .nx (RL (.scr ns) (some (.d (nD i))) k3 (some (.d (encL (asL P T)))) (some (.ob μ.length)) (some (.d (eW P T))) k7 (some (.d (.lst ((oddsD (asL P T)).take 9)))) j9 k10) μ2 := by
    refine s_asg (s := .d (.lst ((oddsD (asL P T)).take 9))) ?_ rfl
    have e : (oddsD (asL P T)).take 9 = [.non, .int 5, .lst [encL (asL P T)], .bl true, encL [], encL [10], encL (asL P T ++ [10]), encL ([32] ++ asL P T), encL (asL P T ++ [32])] := rfl
    rw [e, str_of tl_e, str_of tl_nl, str_of tl_sp]
    generalize encL (asL P T ++ [10]) = E1 at *
    generalize encL ([32] ++ asL P T) = E2 at *
    generalize encL (asL P T ++ [32]) = E3 at *
    generalize encL (asL P T) = E at *
    generalize eW P T = W at *
    simp [a1, a2, a3]
  have st7 : ∃ k9, sFor (sSq (e2 addD (eV 8) (eFrz (lLst (aCons (e2 addD (eC (.str "\n")) (eV 4)) (aCons (e2 addD (eV 4) (eC (.str "\ntie 0 9 1"))) (aNil))))))) G3_law B3_law (RL (.scr ns) (some (.d (nD i))) k3 (some (.d (encL (asL P T)))) (some (.ob μ.length)) (some (.d (eW P T))) k7 (some (.d (.lst ((oddsD (asL P T)).take 9)))) j9 k10) μ2 = .nx (RL (.scr ns) (some (.d (nD i))) k3 (some (.d (encL (asL P T)))) (some (.ob μ.length)) (some (.d (eW P T))) k7 (some (.d (.lst ((oddsD (asL P T)).take 9)))) k9 k10) μ2 := by
    obtain ⟨ρ', g1, k9, rfl⟩ := for_fold (g := G3_law) (body := B3_law) (μ := μ2) id (fun (_ : Unit) ρ => ∃ k9, ρ = RL (.scr ns) (some (.d (nD i))) k3 (some (.d (encL (asL P T)))) (some (.ob μ.length)) (some (.d (eW P T))) k7 (some (.d (.lst ((oddsD (asL P T)).take 9)))) k9 k10) (fun s _ => s) (oddsD (asL P T)) () (RL (.scr ns) (some (.d (nD i))) k3 (some (.d (encL (asL P T)))) (some (.ob μ.length)) (some (.d (eW P T))) k7 (some (.d (.lst ((oddsD (asL P T)).take 9)))) j9 k10) (by
      rintro d hd _ ρ ⟨k9, rfl⟩
      exact ⟨_, _, rfl, odd_step (odds_f hw hd), _, rfl⟩) ⟨_, rfl⟩
    refine ⟨k9, for_nx (ds := (oddsD (asL P T)).map id) (μ1 := μ2) ?_ g1⟩
    have e : (oddsD (asL P T)).map id = (oddsD (asL P T)).take 9 ++ [encL ([10] ++ asL P T), encL (asL P T ++ (10 :: oddW))] := rfl
    have ln : ((oddsD (asL P T)).take 9).length = 9 := rfl
    rw [e, str_of tl_nl, str_of tl_odd]
    generalize (oddsD (asL P T)).take 9 = OO at *
    generalize encL ([10] ++ asL P T) = E1 at *
    generalize encL (asL P T ++ (10 :: oddW)) = E2 at *
    generalize encL (10 :: oddW) = E3 at *
    generalize encL (asL P T) = E at *
    generalize eW P T = W at *
    simp [a4, a5, ln]
  obtain ⟨k9, st7⟩ := st7
  refine ⟨k3, some (.d (encL (asL P T))), some (.ob μ.length), some (.d (eW P T)), k7, some (.d (.lst ((oddsD (asL P T)).take 9))), k9, k10, μ2, ?_⟩
  unfold B1_law
  refine (seq_nx st1).trans ((seq_nx (s_asg o1 rfl)).trans ((seq_nx st3).trans ((seq_nx st4).trans ((seq_nx st5).trans ((seq_nx st6).trans ((seq_nx st7).trans ?_))))))
  refine (s_iff (b_not (b := true) (b_v (callHD_eq (ss := [.d (.fn "web_text"), .d (.lst bads), .d (.str "web")]) (μ1 := μ2) (x := "web_text") (φ := p_web_text) ?_ rfl tbW rfl fun t => ?_)))).trans rfl
  · simp [bad_eq]
  · exact refused_t ok_web (by rw [bads_len]; omega) fun d hd => ⟨⟨"InvalidWeb", none⟩, lift1 (web_text_f (bad_f hd).1 (bad_f hd).2), lab_web⟩
theorem loop1 (ns : List Int) : ∃ k1 k3 k4 k5 k6 k7 k8 k9 k10 μ', sFor (sRng1 (eC (.int 8))) G1_law B1_law (RL (.scr ns) none none none none none none none none none) [] = .nx (RL (.scr ns) k1 k3 k4 k5 k6 k7 k8 k9 k10) μ' := by
  obtain ⟨ρ', μ', f1, k1, k3, k4, k5, k6, k7, k8, k9, k10, rfl⟩ := for_idx (g := G1_law) (body := B1_law) nD (fun _ ρ _ => ∃ k1 k3 k4 k5 k6 k7 k8 k9 k10, ρ = RL (.scr ns) k1 k3 k4 k5 k6 k7 k8 k9 k10) (List.range 8) 0 (RL (.scr ns) none none none none none none none none none) [] (by
    rintro i w hw ρ μ ⟨j1, j3, j4, j5, j6, j7, j8, j9, j10, rfl⟩
    obtain ⟨hi, rfl⟩ : i < 8 ∧ i = w := by
      obtain ⟨h1, h2⟩ := List.getElem?_eq_some_iff.1 hw
      rw [List.getElem_range] at h2
      rw [List.length_range] at h1
      exact ⟨h1, h2⟩
    obtain ⟨k3, k4, k5, k6, k7, k8, k9, k10, μ2, h⟩ := body_eq ns hi (j3 := j3) (j4 := j4) (j5 := j5) (j6 := j6) (j7 := j7) (j8 := j8) (j9 := j9) (j10 := j10) μ
    exact ⟨RL (.scr ns) (some (.d (nD i))) j3 j4 j5 j6 j7 j8 j9 j10, _, μ2, rfl, h, _, _, _, _, _, _, _, _, _, rfl⟩) ⟨_, _, _, _, _, _, _, _, _, rfl⟩
  refine ⟨k1, k3, k4, k5, k6, k7, k8, k9, k10, μ', for_nx (ds := (List.range 8).map nD) (μ1 := []) ?_ f1⟩
  have := rngR_n (μ := []) (n := 8) (by omega)
  simpa using this
def txs : List String := ["tie 0 1 1", "place 2 1", "place 0 1\ntie 0 1 1", "place 0 -1", "Place 0 1", "place 0  1", "place 0 1 2", "place 0 1\nplace 0 1\ntie 1 0 1", "place 0 1\ntie 0 1 1\nplace 0 1", "place 0 01", "place +0 1", "place 0 1\nplace 0 1\ntie 0 1 0", "places 0 1"]
theorem txs_no : txs.all (fun s => (tl (Str.ofString s)).all (fun c => decide (c < 256)) && decide ((tl (Str.ofString s)).length ≤ 100000) && (lawR (tl (Str.ofString s))).isNone) = true := by decide +kernel
theorem tx_f {d : D} (h : d ∈ txs.map fun s => D.str (Str.ofString s)) : p_read_web [d] = .ex ⟨"InvalidText", none⟩ := by
  obtain ⟨s, hs, rfl⟩ := List.mem_map.1 h
  have k := List.all_eq_true.1 txs_no s hs
  simp only [Bool.and_eq_true, decide_eq_true_eq, Option.isNone_iff_eq_none] at k
  rw [str_of (s := Str.ofString s) rfl]
  exact read_none (asc_l k.1.1) k.1.2 k.2
def P5 : List Pl := [(1, 1), (0, 1), (0, 1)]
def T5 : List Tl := [(0, 1, 1), (0, 2, 1)]
def PF1 : List Pl := [(0, 1000000000000000000000000000000)]
theorem ok_of (P : List Pl) (T : List Tl) (h : (decide (1 ≤ P.length) && decide (P.length ≤ 5) && P.all (fun p => decide (0 ≤ p.1) && decide (p.1 ≤ p.2) && decide (p.2 ≤ 100)) && decide (T.length ≤ 10) && T.all (fun t => decide (t.1 < t.2.1) && decide (t.2.1 < P.length) && decide (0 < t.2.2) && decide (t.2.2 ≤ 3)) && (T.zip (T.drop 1)).all (fun q => decide (q.1.1 < q.2.1) || (decide (q.1.1 = q.2.1) && decide (q.1.2.1 < q.2.2.1)))) = true) : WebOk P T := by
  simp only [Bool.and_eq_true, decide_eq_true_iff, List.all_eq_true, Bool.or_eq_true] at h
  obtain ⟨⟨⟨⟨⟨a, b⟩, c⟩, d⟩, e⟩, f⟩ := h
  exact ⟨a, b, fun p hp => by
    have := c p hp
    exact ⟨this.1.1, this.1.2, by show p.2 ≤ 1000000000000000000000000000000; omega⟩, d, fun t ht => by have := e t ht; exact ⟨this.1.1.1, this.1.1.2, this.1.2⟩, fun t ht => by
    have := e t ht
    show t.2.2 ≤ 1000000000000000000000000000000
    omega, fun q hq => f q hq⟩
theorem ok5 : WebOk P5 T5 := ok_of _ _ (by decide)
theorem okF : WebOk PF1 [] := ⟨by decide, by decide, fun p hp => by rw [List.mem_singleton.1 hp]; show (0 : Int) ≤ 0 ∧ (0 : Int) ≤ 1000000000000000000000000000000 ∧ (1000000000000000000000000000000 : Int) ≤ 1000000000000000000000000000000; omega, by decide, (fun _ h => nomatch h), (fun _ h => nomatch h), (fun _ h => nomatch h)⟩
theorem tl_5 : tl ("place 1 1\nplace 0 1\nplace 0 1\ntie 0 1 1\ntie 0 2 1" : Str) = asL P5 T5 := by decide +kernel
theorem tl_F0 : tl ("place 0 1" : Str) = plW ++ [32, 48, 32, 49] := by decide +kernel
theorem tl_F : plW ++ [32, 48, 32, 49] ++ List.replicate 30 48 = asL PF1 [] := by decide +kernel
theorem law_plain (ns : List Int) (hl : ns.length ≤ 63) : p_law [.scr ns] = .ok (.bl true) := by
  obtain ⟨k1, k3, k4, k5, k6, k7, k8, k9, k10, M, h1⟩ := loop1 ns
  refine fn_rt (s := .d (.bl true)) (μ := M) ?_ rfl
  have r0 : rho0 10 ([D.scr ns].map Sl.d) = RL (.scr ns) none none none none none none none none none := rfl
  rw [F_law_eq, r0]
  refine (seq_nx h1).trans ?_
  generalize D.scr ns = SC at *
  refine (seq_nx (ρ' := [some (.d SC), k1, some (.d (.lst ((txs.take 7).map fun s => D.str (Str.ofString s)))), k3, k4, k5, k6, k7, k8, k9, k10]) (μ' := M) rfl).trans ?_
  refine (seq_nx (ρ' := [some (.d SC), k1, some (.d (.lst ((txs.take 11).map fun s => D.str (Str.ofString s)))), k3, k4, k5, k6, k7, k8, k9, k10]) (μ' := M) rfl).trans ?_
  refine (seq_nx (ρ' := [some (.d SC), k1, some (.d (.lst ((txs.take 11).map fun s => D.str (Str.ofString s)))), k3, k4, k5, k6, k7, k8, k9, k10]) (μ' := M) ((s_iff (b_not (b := true) (b_v (callHD_eq (ss := [.d (.fn "read_web"), .d (.lst (txs.map fun s => D.str (Str.ofString s))), .d (.str "text")]) (μ1 := M) (x := "read_web") (φ := p_read_web) rfl rfl tbR rfl fun t => ?_)))).trans rfl)).trans ?_
  · exact refused_t ok_text (by simp [txs]) fun d hd => ⟨⟨"InvalidText", none⟩, lift1 (tx_f hd), lab_text⟩
  generalize D.lst ((txs.take 11).map fun s => D.str (Str.ofString s)) = LL
  refine (seq_nx (ρ' := [some (.d SC), k1, some (.d LL), some (.d (eW P5 T5)), k4, k5, k6, k7, k8, k9, k10]) (μ' := M) rfl).trans ?_
  refine (seq_nx (ρ' := [some (.d SC), k1, some (.d LL), some (.d (eW P5 T5)), some (.d (encL (asL P5 T5))), k5, k6, k7, k8, k9, k10]) (μ' := M) (s_asg (s := .d (encL (asL P5 T5))) (by rw [eC_eq, str_of tl_5]) rfl)).trans ?_
  have wt := web_text_eq ok5
  have rt := read_t ok5
  have nt := neD_L (asL_asc (P := P5) (T := T5)) (asL_asc (P := P5) (T := T5))
  rw [decide_eq_true rfl] at nt
  have nw := neD_self (eW_sh (P := P5) (T := T5))
  refine (seq_nx (ρ' := [some (.d SC), k1, some (.d LL), some (.d (eW P5 T5)), some (.d (encL (asL P5 T5))), k5, k6, k7, k8, k9, k10]) (μ' := M) (by
    generalize eW P5 T5 = W at *
    generalize encL (asL P5 T5) = E at *
    simp [wt, rt, nt, nw])).trans ?_
  have rf := read_t okF
  have eq := eqD_self (eW_sh (P := PF1) (T := []))
  have z : mulSD (encL [48]) (.int 30) = some (encL (List.replicate 30 48)) := zer 30 (by omega) (by omega)
  have ad := add_L (a := plW ++ [32, 48, 32, 49]) (b := List.replicate 30 48) (by simp [plW])
  rw [tl_F] at ad
  have p30 := pw30'
  have eF : eW PF1 [] = .tup [.tup [.tup [.int 0, .int 1000000000000000000000000000000]], .tup []] := rfl
  rw [eF] at rf eq
  rw [str_of tl_F0, str_of ten_1]
  generalize encL (plW ++ [32, 48, 32, 49]) = E1 at *
  generalize encL (List.replicate 30 48) = E2 at *
  generalize encL (asL PF1 []) = E3 at *
  generalize encL [48] = E4 at *
  generalize (1000000000000000000000000000000 : Int) = FF at *
  generalize eW P5 T5 = W at *
  generalize encL (asL P5 T5) = E at *
  simp [z, ad, p30, rf, eq]
end Bt

set_option Elab.async false
set_option linter.all false
set_option maxRecDepth 100000
open PySem PySem.W PyProof.Rows DL
@[reducible] def Bt.tcx (p0 p1 : Addr) : TabCtx := ⟨[(p0, ("_law_all_refused.<locals>." : Str) ++ "<lambda>"), (p1, ("law.<locals>." : Str) ++ "<lambda>")]⟩
theorem Bt.law_end {l : OpenLaw} {w : World} {K : Frag} {mg : Str → Option Value} {fa : Addr} {h : Heap} {ts : List Addr} {p0 p1 c0 c1 : Addr} (hfa : mg "law" = some (.ref fa)) (X : K.In h) (hts : ∀ P ∈ ts, h.get? P = some (tabObj #[]))
    {f0 : Addr} {oc0 : Value} {od0 od'0 : Option Addr} {fd0 : FuncData} {sl0 sl'0 : Array (Option Value)} {vs0 : Array Value} (na0 : nsIn K mainGlobals "_law_all_refused" = some (some (.ref f0))) (nl0 : K.lookup f0 = some ⟨oc0, od0, .func fd0, sl0⟩) (nk0 : fd0.code = .ref c0) (nc0 : K.lookup c0 = some ⟨.type "code", od'0, .fields vs0, sl'0⟩) (nv0 : (vs0[11]? : Option Value) = some (.ref p0)) (m0 : p0 ∈ ts) (nt0 : K.lookup p0 = none) (q0 : codeHdIn K c0 p0 = true)
    {f1 : Addr} {oc1 : Value} {od1 od'1 : Option Addr} {fd1 : FuncData} {sl1 sl'1 : Array (Option Value)} {vs1 : Array Value} (na1 : nsIn K mainGlobals "law" = some (some (.ref f1))) (nl1 : K.lookup f1 = some ⟨oc1, od1, .func fd1, sl1⟩) (nk1 : fd1.code = .ref c1) (nc1 : K.lookup c1 = some ⟨.type "code", od'1, .fields vs1, sl'1⟩) (nv1 : (vs1[11]? : Option Value) = some (.ref p1)) (m1 : p1 ∈ ts) (nt1 : K.lookup p1 = none) (q1 : codeHdIn K c1 p1 = true)
    (T : @Bt.Txt (Bt.tcx p0 p1) mg K) (ec0 : @Bt.Txt.cc_u_law_all_refused (Bt.tcx p0 p1) mg K T = c0) (ep0 : @Bt.Txt.pp_u_law_all_refused (Bt.tcx p0 p1) mg K T = p0) (ec1 : @Bt.Txt.cc_law (Bt.tcx p0 p1) mg K T = c1) (ep1 : @Bt.Txt.pp_law (Bt.tcx p0 p1) mg K T = p1) : LamX.LawAtS l w K (L2N.CX l.prog w) 12 63 "script" mg fa h := by
  letI := (Bt.tcx p0 p1)
  have e := hfa.symm.trans T.d_law.g
  cases e
  subst ec0 ec1
  refine ⟨T.d_law.fd, [(T.cc_u_law_all_refused, p0), (T.cc_law, p1)], DL.spLaw K, ?_, ?_, ?_, fun s v => .of_eq (T.d_law.bt [v] rfl), ?_, ?_⟩
  · intro p hp0
    simp only [List.mem_cons, List.not_mem_nil, or_false] at hp0
    rcases hp0 with rfl | rfl
    · exact hts _ m0
    · exact hts _ m1
  · intro p hp0
    simp only [List.mem_cons, List.not_mem_nil, or_false] at hp0
    rcases hp0 with rfl | rfl
    · exact nt0
    · exact nt1
  · intro p hp0
    simp only [List.mem_cons, List.not_mem_nil, or_false] at hp0
    rcases hp0 with rfl | rfl
    · exact codeHd_of_K X q0
    · exact codeHd_of_K X q1
  · intro H a ns hl _ hH hS
    refine ⟨a, ns, rfl, hS, hl, fun p hp0 => ?_, fun _ => rfl⟩
    change p ∈ [(p0, ("_law_all_refused.<locals>." : Str) ++ "<lambda>"), (p1, ("law.<locals>." : Str) ++ "<lambda>")] at hp0
    simp only [List.mem_cons, List.not_mem_nil, or_false] at hp0
    rcases hp0 with rfl | rfl
    · exact LamX.TabS.nil (hH _ (List.mem_cons_self))
    · exact LamX.TabS.nil (hH _ (List.mem_cons_of_mem _ (List.mem_cons_self)))
  · intro base hK hns TB
    have tb0 : LamX.TabB base mg T.cc_u_law_all_refused T.pp_u_law_all_refused := by
      rw [ep0]
      exact TB (T.cc_u_law_all_refused, p0) (by simp)
    have tb1 : LamX.TabB base mg T.cc_law T.pp_law := by
      rw [ep1]
      exact TB (T.cc_law, p1) (by simp)
    refine ⟨fun vs H Q E hh => by obtain ⟨a, ns, rfl, _⟩ := hh; rfl, fun A outer s H args us vs Q E hr e0 hb hv hh => ?_⟩
    exact ((Bt.ok_law T ⟨e0.mod, tb0, tb1⟩).imp (DL.spLaw_of Bt.law_plain)).run A outer s H args us vs Q E hr e0 hb hv hh
def Bt.mkExc {mg : Str → Option Value} {K : Frag} {x : Str} {C : Addr} (g : mg x = some (.ref C)) (q : excIn K C veMro "ValueError.__new__" = true) (kp : keepIn K (.ref C) = true) (s : subIn K (.ref C) (.type "BaseException") = some true) (t : typeIn K (.ref C) = some (.type "type")) : ExcOk mg K x := ⟨C, g, q, kp, s, t⟩
namespace Bt
variable [TabCtx]
def Txt.make {mg : Str → Option Value} {K : Frag} {cTie cn_InvalidWeb cn_InvalidChoice cn_InvalidLots cn_InvalidTie cn_InvalidPlace cn_InvalidNumber cn_InvalidPairs cn_InvalidText cn_Unlike cn_NoChoice cn_NothingToUndo cn_TooMany cc_u_law_all_refused pp_u_law_all_refused cc_law pp_law : Addr} (d_u_law_cell : DefOk mg K "_law_cell" s_u_law_cell a_u_law_cell) (d_u_law_draws : DefOk mg K "_law_draws" s_u_law_draws a_u_law_draws) (d_u_law_bag : DefOk mg K "_law_bag" s_u_law_bag a_u_law_bag) (d_u_law_take : DefOk mg K "_law_take" s_u_law_take a_u_law_take) (d_u_law_choice : DefOk mg K "_law_choice" s_u_law_choice a_u_law_choice) (d_u_law_text : DefOk mg K "_law_text" s_u_law_text a_u_law_text) (d_u_law_named_error : DefOk mg K "_law_named_error" s_u_law_named_error a_u_law_named_error) (d_u_law_error : DefOk mg K "_law_error" s_u_law_error a_u_law_error) (d_u_law_all_refused : DefOk mg K "_law_all_refused" s_u_law_all_refused a_u_law_all_refused) (d_is_figures : DefOk mg K "is_figures" s_is_figures a_is_figures) (d_row_in : DefOk mg K "row_in" s_row_in a_row_in) (d_is_whole : DefOk mg K "is_whole" s_is_whole a_is_whole) (d_fits_stretch : DefOk mg K "fits_stretch" s_fits_stretch a_fits_stretch) (d_fits_tie : DefOk mg K "fits_tie" s_fits_tie a_fits_tie) (d_fits_web : DefOk mg K "fits_web" s_fits_web a_fits_web) (d_as_text : DefOk mg K "as_text" s_as_text a_as_text) (d_web_in : DefOk mg K "web_in" s_web_in a_web_in) (d_read_web : DefOk mg K "read_web" s_read_web a_read_web) (d_u_law_number : DefOk mg K "_law_number" s_u_law_number a_u_law_number) (d_u_law_read : DefOk mg K "_law_read" s_u_law_read a_u_law_read) (d_need_web : DefOk mg K "need_web" s_need_web a_need_web) (d_web_text : DefOk mg K "web_text" s_web_text a_web_text) (d_u_law_ties : DefOk mg K "_law_ties" s_u_law_ties a_u_law_ties) (d_u_law_web : DefOk mg K "_law_web" s_u_law_web a_u_law_web) (d_u_law_great_web : DefOk mg K "_law_great_web" s_u_law_great_web a_u_law_great_web) (d_u_law_bent : DefOk mg K "_law_bent" s_u_law_bent a_u_law_bent) (d_u_law_told : DefOk mg K "_law_told" s_u_law_told a_u_law_told) (d_u_law_bad_webs : DefOk mg K "_law_bad_webs" s_u_law_bad_webs a_u_law_bad_webs) (d_law : DefOk mg K "law" s_law a_law) (m_ValueError : mg "ValueError" = none) (m_all : mg "all" = none) (m_bool : mg "bool" = none) (m_int : mg "int" = none) (m_isinstance : mg "isinstance" = none) (m_len : mg "len" = none) (m_list : mg "list" = none) (m_range : mg "range" = none) (m_str : mg "str" = none) (m_tuple : mg "tuple" = none) (m_zip : mg "zip" = none) (c_PLACES : ∃ t, mg "PLACES" = some (.int 5 t)) (c_TIES : ∃ t, mg "TIES" = some (.int 10 t)) (c_FAR : ∃ t, mg "FAR" = some (.int 1000000000000000000000000000000 t)) (c_SIGNS : ∃ t, mg "SIGNS" = some (.str "0123456789" t)) (c_LONGEST : ∃ t, mg "LONGEST" = some (.int 31 t)) (x_InvalidWeb : ExcOk mg K "InvalidWeb") (x_InvalidText : ExcOk mg K "InvalidText") (gTie : mg "TieError" = some (.ref cTie)) (g_InvalidWeb : mg "InvalidWeb" = some (.ref cn_InvalidWeb)) (g_InvalidChoice : mg "InvalidChoice" = some (.ref cn_InvalidChoice)) (g_InvalidLots : mg "InvalidLots" = some (.ref cn_InvalidLots)) (g_InvalidTie : mg "InvalidTie" = some (.ref cn_InvalidTie)) (g_InvalidPlace : mg "InvalidPlace" = some (.ref cn_InvalidPlace)) (g_InvalidNumber : mg "InvalidNumber" = some (.ref cn_InvalidNumber)) (g_InvalidPairs : mg "InvalidPairs" = some (.ref cn_InvalidPairs)) (g_InvalidText : mg "InvalidText" = some (.ref cn_InvalidText)) (g_Unlike : mg "Unlike" = some (.ref cn_Unlike)) (g_NoChoice : mg "NoChoice" = some (.ref cn_NoChoice)) (g_NothingToUndo : mg "NothingToUndo" = some (.ref cn_NothingToUndo)) (g_TooMany : mg "TooMany" = some (.ref cn_TooMany)) (ec_InvalidWeb : L2.ExcC K cn_InvalidWeb) (exm_InvalidWeb : PySem.W.exmOne K (.ref cn_InvalidWeb) (.ref cTie) = some true) (kv_InvalidWeb : PySem.W.kitOne K (.ref cn_InvalidWeb) (.type "ValueError") = some true) (kt_InvalidWeb_InvalidWeb : PySem.W.kitOne K (.ref cn_InvalidWeb) (.ref cn_InvalidWeb) = some true) (kt_InvalidWeb_InvalidChoice : PySem.W.kitOne K (.ref cn_InvalidWeb) (.ref cn_InvalidChoice) = some false) (kt_InvalidWeb_InvalidLots : PySem.W.kitOne K (.ref cn_InvalidWeb) (.ref cn_InvalidLots) = some false) (kt_InvalidWeb_InvalidTie : PySem.W.kitOne K (.ref cn_InvalidWeb) (.ref cn_InvalidTie) = some false) (kt_InvalidWeb_InvalidPlace : PySem.W.kitOne K (.ref cn_InvalidWeb) (.ref cn_InvalidPlace) = some false) (kt_InvalidWeb_InvalidNumber : PySem.W.kitOne K (.ref cn_InvalidWeb) (.ref cn_InvalidNumber) = some false) (kt_InvalidWeb_InvalidPairs : PySem.W.kitOne K (.ref cn_InvalidWeb) (.ref cn_InvalidPairs) = some false) (kt_InvalidWeb_InvalidText : PySem.W.kitOne K (.ref cn_InvalidWeb) (.ref cn_InvalidText) = some false) (kt_InvalidWeb_Unlike : PySem.W.kitOne K (.ref cn_InvalidWeb) (.ref cn_Unlike) = some false) (kt_InvalidWeb_NoChoice : PySem.W.kitOne K (.ref cn_InvalidWeb) (.ref cn_NoChoice) = some false) (kt_InvalidWeb_NothingToUndo : PySem.W.kitOne K (.ref cn_InvalidWeb) (.ref cn_NothingToUndo) = some false) (kt_InvalidWeb_TooMany : PySem.W.kitOne K (.ref cn_InvalidWeb) (.ref cn_TooMany) = some false) (ec_InvalidText : L2.ExcC K cn_InvalidText) (exm_InvalidText : PySem.W.exmOne K (.ref cn_InvalidText) (.ref cTie) = some true) (kv_InvalidText : PySem.W.kitOne K (.ref cn_InvalidText) (.type "ValueError") = some true) (kt_InvalidText_InvalidWeb : PySem.W.kitOne K (.ref cn_InvalidText) (.ref cn_InvalidWeb) = some false) (kt_InvalidText_InvalidChoice : PySem.W.kitOne K (.ref cn_InvalidText) (.ref cn_InvalidChoice) = some false) (kt_InvalidText_InvalidLots : PySem.W.kitOne K (.ref cn_InvalidText) (.ref cn_InvalidLots) = some false) (kt_InvalidText_InvalidTie : PySem.W.kitOne K (.ref cn_InvalidText) (.ref cn_InvalidTie) = some false) (kt_InvalidText_InvalidPlace : PySem.W.kitOne K (.ref cn_InvalidText) (.ref cn_InvalidPlace) = some false) (kt_InvalidText_InvalidNumber : PySem.W.kitOne K (.ref cn_InvalidText) (.ref cn_InvalidNumber) = some false) (kt_InvalidText_InvalidPairs : PySem.W.kitOne K (.ref cn_InvalidText) (.ref cn_InvalidPairs) = some false) (kt_InvalidText_InvalidText : PySem.W.kitOne K (.ref cn_InvalidText) (.ref cn_InvalidText) = some true) (kt_InvalidText_Unlike : PySem.W.kitOne K (.ref cn_InvalidText) (.ref cn_Unlike) = some false) (kt_InvalidText_NoChoice : PySem.W.kitOne K (.ref cn_InvalidText) (.ref cn_NoChoice) = some false) (kt_InvalidText_NothingToUndo : PySem.W.kitOne K (.ref cn_InvalidText) (.ref cn_NothingToUndo) = some false) (kt_InvalidText_TooMany : PySem.W.kitOne K (.ref cn_InvalidText) (.ref cn_TooMany) = some false) (hc_u_law_all_refused : d_u_law_all_refused.fd.code = .ref cc_u_law_all_refused) (mem_u_law_all_refused : (pp_u_law_all_refused, ("_law_all_refused.<locals>." : Str) ++ "<lambda>") ∈ TabCtx.T) (hu_u_law_all_refused : ∀ p ∈ TabCtx.T, p.1 = pp_u_law_all_refused → p.2 = ("_law_all_refused.<locals>." : Str) ++ "<lambda>") (hc_law : d_law.fd.code = .ref cc_law) (mem_law : (pp_law, ("law.<locals>." : Str) ++ "<lambda>") ∈ TabCtx.T) (hu_law : ∀ p ∈ TabCtx.T, p.1 = pp_law → p.2 = ("law.<locals>." : Str) ++ "<lambda>") : Txt mg K := { cTie := cTie, cn_InvalidWeb := cn_InvalidWeb, cn_InvalidChoice := cn_InvalidChoice, cn_InvalidLots := cn_InvalidLots, cn_InvalidTie := cn_InvalidTie, cn_InvalidPlace := cn_InvalidPlace, cn_InvalidNumber := cn_InvalidNumber, cn_InvalidPairs := cn_InvalidPairs, cn_InvalidText := cn_InvalidText, cn_Unlike := cn_Unlike, cn_NoChoice := cn_NoChoice, cn_NothingToUndo := cn_NothingToUndo, cn_TooMany := cn_TooMany, cc_u_law_all_refused := cc_u_law_all_refused, pp_u_law_all_refused := pp_u_law_all_refused, cc_law := cc_law, pp_law := pp_law, d_u_law_cell := d_u_law_cell, d_u_law_draws := d_u_law_draws, d_u_law_bag := d_u_law_bag, d_u_law_take := d_u_law_take, d_u_law_choice := d_u_law_choice, d_u_law_text := d_u_law_text, d_u_law_named_error := d_u_law_named_error, d_u_law_error := d_u_law_error, d_u_law_all_refused := d_u_law_all_refused, d_is_figures := d_is_figures, d_row_in := d_row_in, d_is_whole := d_is_whole, d_fits_stretch := d_fits_stretch, d_fits_tie := d_fits_tie, d_fits_web := d_fits_web, d_as_text := d_as_text, d_web_in := d_web_in, d_read_web := d_read_web, d_u_law_number := d_u_law_number, d_u_law_read := d_u_law_read, d_need_web := d_need_web, d_web_text := d_web_text, d_u_law_ties := d_u_law_ties, d_u_law_web := d_u_law_web, d_u_law_great_web := d_u_law_great_web, d_u_law_bent := d_u_law_bent, d_u_law_told := d_u_law_told, d_u_law_bad_webs := d_u_law_bad_webs, d_law := d_law, m_ValueError := m_ValueError, m_all := m_all, m_bool := m_bool, m_int := m_int, m_isinstance := m_isinstance, m_len := m_len, m_list := m_list, m_range := m_range, m_str := m_str, m_tuple := m_tuple, m_zip := m_zip, c_PLACES := c_PLACES, c_TIES := c_TIES, c_FAR := c_FAR, c_SIGNS := c_SIGNS, c_LONGEST := c_LONGEST, x_InvalidWeb := x_InvalidWeb, x_InvalidText := x_InvalidText, gTie := gTie, g_InvalidWeb := g_InvalidWeb, g_InvalidChoice := g_InvalidChoice, g_InvalidLots := g_InvalidLots, g_InvalidTie := g_InvalidTie, g_InvalidPlace := g_InvalidPlace, g_InvalidNumber := g_InvalidNumber, g_InvalidPairs := g_InvalidPairs, g_InvalidText := g_InvalidText, g_Unlike := g_Unlike, g_NoChoice := g_NoChoice, g_NothingToUndo := g_NothingToUndo, g_TooMany := g_TooMany, ec_InvalidWeb := ec_InvalidWeb, exm_InvalidWeb := exm_InvalidWeb, kv_InvalidWeb := kv_InvalidWeb, kt_InvalidWeb_InvalidWeb := kt_InvalidWeb_InvalidWeb, kt_InvalidWeb_InvalidChoice := kt_InvalidWeb_InvalidChoice, kt_InvalidWeb_InvalidLots := kt_InvalidWeb_InvalidLots, kt_InvalidWeb_InvalidTie := kt_InvalidWeb_InvalidTie, kt_InvalidWeb_InvalidPlace := kt_InvalidWeb_InvalidPlace, kt_InvalidWeb_InvalidNumber := kt_InvalidWeb_InvalidNumber, kt_InvalidWeb_InvalidPairs := kt_InvalidWeb_InvalidPairs, kt_InvalidWeb_InvalidText := kt_InvalidWeb_InvalidText, kt_InvalidWeb_Unlike := kt_InvalidWeb_Unlike, kt_InvalidWeb_NoChoice := kt_InvalidWeb_NoChoice, kt_InvalidWeb_NothingToUndo := kt_InvalidWeb_NothingToUndo, kt_InvalidWeb_TooMany := kt_InvalidWeb_TooMany, ec_InvalidText := ec_InvalidText, exm_InvalidText := exm_InvalidText, kv_InvalidText := kv_InvalidText, kt_InvalidText_InvalidWeb := kt_InvalidText_InvalidWeb, kt_InvalidText_InvalidChoice := kt_InvalidText_InvalidChoice, kt_InvalidText_InvalidLots := kt_InvalidText_InvalidLots, kt_InvalidText_InvalidTie := kt_InvalidText_InvalidTie, kt_InvalidText_InvalidPlace := kt_InvalidText_InvalidPlace, kt_InvalidText_InvalidNumber := kt_InvalidText_InvalidNumber, kt_InvalidText_InvalidPairs := kt_InvalidText_InvalidPairs, kt_InvalidText_InvalidText := kt_InvalidText_InvalidText, kt_InvalidText_Unlike := kt_InvalidText_Unlike, kt_InvalidText_NoChoice := kt_InvalidText_NoChoice, kt_InvalidText_NothingToUndo := kt_InvalidText_NothingToUndo, kt_InvalidText_TooMany := kt_InvalidText_TooMany, hc_u_law_all_refused := hc_u_law_all_refused, mem_u_law_all_refused := mem_u_law_all_refused, hu_u_law_all_refused := hu_u_law_all_refused, hc_law := hc_law, mem_law := mem_law, hu_law := hu_law }
end Bt
set_option maxHeartbeats 0 in
theorem PySem.Challenge.cw_betweenties_k09_texts_of_webs_holds : PySem.Challenge.rw_betweenties_k09_texts_of_webs.Holds := by
  w_on; o_law; k_head; (case hw => w_witness2)
  k_fill
  refine LamX.walk_ofTs (l := PySem.Challenge.rw_betweenties_k09_texts_of_webs) (n := 63) (k := 12) (x := "script") (CX := fun w => L2N.CX (PySem.Challenge.rw_betweenties_k09_texts_of_webs).prog w) rfl (by decide) rfl ⟨rfl, by decide, by decide⟩ (fun w h Y => km_in_of Y) ?F ?hCX
  case hCX =>
    intro w H s e s' hh
    obtain ⟨_, _, _, _, _, _, _, _, _, _, _, _, z⟩ := hh
    exact z
  case F =>
    intro w mg fa h Y KX G hmg
    refine' Bt.law_end (hfa := hmg) (X := KX) (hts := km_tabs_of Y) (p0 := ?pp0) (p1 := ?pp1) (na0 := ?na0) (nl0 := ?nl0) (nk0 := ?nk0) (nc0 := ?nc0) (nv0 := ?nv0) (m0 := ?m0) (nt0 := ?nt0) (q0 := ?q0) (ec0 := ?ec0) (ep0 := ?ep0) (na1 := ?na1) (nl1 := ?nl1) (nk1 := ?nk1) (nc1 := ?nc1) (nv1 := ?nv1) (m1 := ?m1) (nt1 := ?nt1) (q1 := ?q1) (ec1 := ?ec1) (ep1 := ?ep1) (T := ?T)
    (case na0 => k_is); (case nl0 => k_is); (case nk0 => rfl); (case nc0 => k_is); (case nv0 => rfl); (case m0 => decide); (case nt0 => kernel_rfl); (case q0 => kernel_rfl)
    (case na1 => k_is); (case nl1 => k_is); (case nk1 => rfl); (case nc1 => k_is); (case nv1 => rfl); (case m1 => decide); (case nt1 => kernel_rfl); (case q1 => kernel_rfl)
    case T =>
      clear hmg
      letI : TabCtx := Bt.tcx ?pp0 ?pp1
      refine' Bt.Txt.make (d_u_law_cell := mkDef KX G (fun _ _ _ _ _ _ us hl => match us, hl with | [_, _], _ => rfl) ?a_u_law_cell ?l_u_law_cell ?c_u_law_cell ?k_u_law_cell) (d_u_law_draws := mkDef KX G (fun _ _ _ _ _ _ us hl => match us, hl with | [_, _, _, _], _ => rfl) ?a_u_law_draws ?l_u_law_draws ?c_u_law_draws ?k_u_law_draws) (d_u_law_bag := mkDef KX G (fun _ _ _ _ _ _ us hl => match us, hl with | [_, _], _ => rfl) ?a_u_law_bag ?l_u_law_bag ?c_u_law_bag ?k_u_law_bag) (d_u_law_take := mkDef KX G (fun _ _ _ _ _ _ us hl => match us, hl with | [_, _], _ => rfl) ?a_u_law_take ?l_u_law_take ?c_u_law_take ?k_u_law_take) (d_u_law_choice := mkDef KX G (fun _ _ _ _ _ _ us hl => match us, hl with | [_, _], _ => rfl) ?a_u_law_choice ?l_u_law_choice ?c_u_law_choice ?k_u_law_choice) (d_u_law_text := mkDef KX G (fun _ _ _ _ _ _ us hl => match us, hl with | [_], _ => rfl) ?a_u_law_text ?l_u_law_text ?c_u_law_text ?k_u_law_text) (d_u_law_named_error := mkDef KX G (fun _ _ _ _ _ _ us hl => match us, hl with | [_], _ => rfl) ?a_u_law_named_error ?l_u_law_named_error ?c_u_law_named_error ?k_u_law_named_error) (d_u_law_error := mkDef KX G (fun _ _ _ _ _ _ us hl => match us, hl with | [_], _ => rfl) ?a_u_law_error ?l_u_law_error ?c_u_law_error ?k_u_law_error) (d_u_law_all_refused := mkDef KX G (fun _ _ _ _ _ _ us hl => match us, hl with | [_, _, _], _ => rfl) ?a_u_law_all_refused ?l_u_law_all_refused ?c_u_law_all_refused ?k_u_law_all_refused) (d_is_figures := mkDef KX G (fun _ _ _ _ _ _ us hl => match us, hl with | [_], _ => rfl) ?a_is_figures ?l_is_figures ?c_is_figures ?k_is_figures) (d_row_in := mkDef KX G (fun _ _ _ _ _ _ us hl => match us, hl with | [_], _ => rfl) ?a_row_in ?l_row_in ?c_row_in ?k_row_in) (d_is_whole := mkDef KX G (fun _ _ _ _ _ _ us hl => match us, hl with | [_, _, _], _ => rfl) ?a_is_whole ?l_is_whole ?c_is_whole ?k_is_whole) (d_fits_stretch := mkDef KX G (fun _ _ _ _ _ _ us hl => match us, hl with | [_], _ => rfl) ?a_fits_stretch ?l_fits_stretch ?c_fits_stretch ?k_fits_stretch) (d_fits_tie := mkDef KX G (fun _ _ _ _ _ _ us hl => match us, hl with | [_, _], _ => rfl) ?a_fits_tie ?l_fits_tie ?c_fits_tie ?k_fits_tie) (d_fits_web := mkDef KX G (fun _ _ _ _ _ _ us hl => match us, hl with | [_], _ => rfl) ?a_fits_web ?l_fits_web ?c_fits_web ?k_fits_web) (d_as_text := mkDef KX G (fun _ _ _ _ _ _ us hl => match us, hl with | [_], _ => rfl) ?a_as_text ?l_as_text ?c_as_text ?k_as_text) (d_web_in := mkDef KX G (fun _ _ _ _ _ _ us hl => match us, hl with | [_], _ => rfl) ?a_web_in ?l_web_in ?c_web_in ?k_web_in) (d_read_web := mkDef KX G (fun _ _ _ _ _ _ us hl => match us, hl with | [_], _ => rfl) ?a_read_web ?l_read_web ?c_read_web ?k_read_web) (d_u_law_number := mkDef KX G (fun _ _ _ _ _ _ us hl => match us, hl with | [_], _ => rfl) ?a_u_law_number ?l_u_law_number ?c_u_law_number ?k_u_law_number) (d_u_law_read := mkDef KX G (fun _ _ _ _ _ _ us hl => match us, hl with | [_], _ => rfl) ?a_u_law_read ?l_u_law_read ?c_u_law_read ?k_u_law_read) (d_need_web := mkDef KX G (fun _ _ _ _ _ _ us hl => match us, hl with | [_], _ => rfl) ?a_need_web ?l_need_web ?c_need_web ?k_need_web) (d_web_text := mkDef KX G (fun _ _ _ _ _ _ us hl => match us, hl with | [_], _ => rfl) ?a_web_text ?l_web_text ?c_web_text ?k_web_text) (d_u_law_ties := mkDef KX G (fun _ _ _ _ _ _ us hl => match us, hl with | [_, _, _, _], _ => rfl) ?a_u_law_ties ?l_u_law_ties ?c_u_law_ties ?k_u_law_ties) (d_u_law_web := mkDef KX G (fun _ _ _ _ _ _ us hl => match us, hl with | [_], _ => rfl) ?a_u_law_web ?l_u_law_web ?c_u_law_web ?k_u_law_web) (d_u_law_great_web := mkDef KX G (fun _ _ _ _ _ _ us hl => match us, hl with | [_], _ => rfl) ?a_u_law_great_web ?l_u_law_great_web ?c_u_law_great_web ?k_u_law_great_web) (d_u_law_bent := mkDef KX G (fun _ _ _ _ _ _ us hl => match us, hl with | [_, _], _ => rfl) ?a_u_law_bent ?l_u_law_bent ?c_u_law_bent ?k_u_law_bent) (d_u_law_told := mkDef KX G (fun _ _ _ _ _ _ us hl => match us, hl with | [_], _ => rfl) ?a_u_law_told ?l_u_law_told ?c_u_law_told ?k_u_law_told) (d_u_law_bad_webs := mkDef KX G (fun _ _ _ _ _ _ us hl => match us, hl with | [], _ => rfl) ?a_u_law_bad_webs ?l_u_law_bad_webs ?c_u_law_bad_webs ?k_u_law_bad_webs) (d_law := mkDef KX G (fun _ _ _ _ _ _ us hl => match us, hl with | [_], _ => rfl) ?a_law ?l_law ?c_law ?k_law) (m_ValueError := mg_none_of KX G ?z_ValueError) (m_all := mg_none_of KX G ?z_all) (m_bool := mg_none_of KX G ?z_bool) (m_int := mg_none_of KX G ?z_int) (m_isinstance := mg_none_of KX G ?z_isinstance) (m_len := mg_none_of KX G ?z_len) (m_list := mg_none_of KX G ?z_list) (m_range := mg_none_of KX G ?z_range) (m_str := mg_none_of KX G ?z_str) (m_tuple := mg_none_of KX G ?z_tuple) (m_zip := mg_none_of KX G ?z_zip) (c_PLACES := mkCon KX G ?v_PLACES) (c_TIES := mkCon KX G ?v_TIES) (c_FAR := mkCon KX G ?v_FAR) (c_SIGNS := mkConS KX G ?v_SIGNS) (c_LONGEST := mkCon KX G ?v_LONGEST) (x_InvalidWeb := Bt.mkExc (mg_of KX G ?xg_InvalidWeb) ?xq_InvalidWeb ?xk_InvalidWeb ?xs_InvalidWeb ?xt_InvalidWeb) (x_InvalidText := Bt.mkExc (mg_of KX G ?xg_InvalidText) ?xq_InvalidText ?xk_InvalidText ?xs_InvalidText ?xt_InvalidText) (gTie := mg_of KX G ?gTie) (g_InvalidWeb := mg_of KX G ?gn_InvalidWeb) (g_InvalidChoice := mg_of KX G ?gn_InvalidChoice) (g_InvalidLots := mg_of KX G ?gn_InvalidLots) (g_InvalidTie := mg_of KX G ?gn_InvalidTie) (g_InvalidPlace := mg_of KX G ?gn_InvalidPlace) (g_InvalidNumber := mg_of KX G ?gn_InvalidNumber) (g_InvalidPairs := mg_of KX G ?gn_InvalidPairs) (g_InvalidText := mg_of KX G ?gn_InvalidText) (g_Unlike := mg_of KX G ?gn_Unlike) (g_NoChoice := mg_of KX G ?gn_NoChoice) (g_NothingToUndo := mg_of KX G ?gn_NothingToUndo) (g_TooMany := mg_of KX G ?gn_TooMany) (ec_InvalidWeb := ⟨?ea_InvalidWeb, ?eb_InvalidWeb, ?ec_InvalidWeb, ?ed_InvalidWeb, ?ee_InvalidWeb, ?ef_InvalidWeb, ?eg_InvalidWeb, ?eh_InvalidWeb⟩) (exm_InvalidWeb := ?em_InvalidWeb) (kv_InvalidWeb := ?kv_InvalidWeb) (kt_InvalidWeb_InvalidWeb := ?kt_InvalidWeb_InvalidWeb) (kt_InvalidWeb_InvalidChoice := ?kt_InvalidWeb_InvalidChoice) (kt_InvalidWeb_InvalidLots := ?kt_InvalidWeb_InvalidLots) (kt_InvalidWeb_InvalidTie := ?kt_InvalidWeb_InvalidTie) (kt_InvalidWeb_InvalidPlace := ?kt_InvalidWeb_InvalidPlace) (kt_InvalidWeb_InvalidNumber := ?kt_InvalidWeb_InvalidNumber) (kt_InvalidWeb_InvalidPairs := ?kt_InvalidWeb_InvalidPairs) (kt_InvalidWeb_InvalidText := ?kt_InvalidWeb_InvalidText) (kt_InvalidWeb_Unlike := ?kt_InvalidWeb_Unlike) (kt_InvalidWeb_NoChoice := ?kt_InvalidWeb_NoChoice) (kt_InvalidWeb_NothingToUndo := ?kt_InvalidWeb_NothingToUndo) (kt_InvalidWeb_TooMany := ?kt_InvalidWeb_TooMany) (ec_InvalidText := ⟨?ea_InvalidText, ?eb_InvalidText, ?ec_InvalidText, ?ed_InvalidText, ?ee_InvalidText, ?ef_InvalidText, ?eg_InvalidText, ?eh_InvalidText⟩) (exm_InvalidText := ?em_InvalidText) (kv_InvalidText := ?kv_InvalidText) (kt_InvalidText_InvalidWeb := ?kt_InvalidText_InvalidWeb) (kt_InvalidText_InvalidChoice := ?kt_InvalidText_InvalidChoice) (kt_InvalidText_InvalidLots := ?kt_InvalidText_InvalidLots) (kt_InvalidText_InvalidTie := ?kt_InvalidText_InvalidTie) (kt_InvalidText_InvalidPlace := ?kt_InvalidText_InvalidPlace) (kt_InvalidText_InvalidNumber := ?kt_InvalidText_InvalidNumber) (kt_InvalidText_InvalidPairs := ?kt_InvalidText_InvalidPairs) (kt_InvalidText_InvalidText := ?kt_InvalidText_InvalidText) (kt_InvalidText_Unlike := ?kt_InvalidText_Unlike) (kt_InvalidText_NoChoice := ?kt_InvalidText_NoChoice) (kt_InvalidText_NothingToUndo := ?kt_InvalidText_NothingToUndo) (kt_InvalidText_TooMany := ?kt_InvalidText_TooMany) (hc_u_law_all_refused := ?hc_u_law_all_refused) (mem_u_law_all_refused := ?mm_u_law_all_refused) (hu_u_law_all_refused := ?hu_u_law_all_refused) (hc_law := ?hc_law) (mem_law := ?mm_law) (hu_law := ?hu_law)
      (case a_u_law_cell => k_is); (case l_u_law_cell => k_is); (case c_u_law_cell => k_is); (case k_u_law_cell => k_is); (case a_u_law_draws => k_is); (case l_u_law_draws => k_is); (case c_u_law_draws => k_is); (case k_u_law_draws => k_is); (case a_u_law_bag => k_is); (case l_u_law_bag => k_is); (case c_u_law_bag => k_is); (case k_u_law_bag => k_is); (case a_u_law_take => k_is); (case l_u_law_take => k_is); (case c_u_law_take => k_is); (case k_u_law_take => k_is); (case a_u_law_choice => k_is); (case l_u_law_choice => k_is); (case c_u_law_choice => k_is); (case k_u_law_choice => k_is); (case a_u_law_text => k_is); (case l_u_law_text => k_is); (case c_u_law_text => k_is); (case k_u_law_text => k_is); (case a_u_law_named_error => k_is); (case l_u_law_named_error => k_is); (case c_u_law_named_error => k_is); (case k_u_law_named_error => k_is); (case a_u_law_error => k_is); (case l_u_law_error => k_is); (case c_u_law_error => k_is); (case k_u_law_error => k_is); (case a_u_law_all_refused => k_is); (case l_u_law_all_refused => k_is); (case c_u_law_all_refused => k_is); (case k_u_law_all_refused => k_is); (case a_is_figures => k_is); (case l_is_figures => k_is); (case c_is_figures => k_is); (case k_is_figures => k_is); (case a_row_in => k_is); (case l_row_in => k_is); (case c_row_in => k_is); (case k_row_in => k_is); (case a_is_whole => k_is); (case l_is_whole => k_is); (case c_is_whole => k_is); (case k_is_whole => k_is); (case a_fits_stretch => k_is); (case l_fits_stretch => k_is); (case c_fits_stretch => k_is); (case k_fits_stretch => k_is); (case a_fits_tie => k_is); (case l_fits_tie => k_is); (case c_fits_tie => k_is); (case k_fits_tie => k_is); (case a_fits_web => k_is); (case l_fits_web => k_is); (case c_fits_web => k_is); (case k_fits_web => k_is); (case a_as_text => k_is); (case l_as_text => k_is); (case c_as_text => k_is); (case k_as_text => k_is); (case a_web_in => k_is); (case l_web_in => k_is); (case c_web_in => k_is); (case k_web_in => k_is); (case a_read_web => k_is); (case l_read_web => k_is); (case c_read_web => k_is); (case k_read_web => k_is); (case a_u_law_number => k_is); (case l_u_law_number => k_is); (case c_u_law_number => k_is); (case k_u_law_number => k_is); (case a_u_law_read => k_is); (case l_u_law_read => k_is); (case c_u_law_read => k_is); (case k_u_law_read => k_is); (case a_need_web => k_is); (case l_need_web => k_is); (case c_need_web => k_is); (case k_need_web => k_is); (case a_web_text => k_is); (case l_web_text => k_is); (case c_web_text => k_is); (case k_web_text => k_is); (case a_u_law_ties => k_is); (case l_u_law_ties => k_is); (case c_u_law_ties => k_is); (case k_u_law_ties => k_is); (case a_u_law_web => k_is); (case l_u_law_web => k_is); (case c_u_law_web => k_is); (case k_u_law_web => k_is); (case a_u_law_great_web => k_is); (case l_u_law_great_web => k_is); (case c_u_law_great_web => k_is); (case k_u_law_great_web => k_is); (case a_u_law_bent => k_is); (case l_u_law_bent => k_is); (case c_u_law_bent => k_is); (case k_u_law_bent => k_is); (case a_u_law_told => k_is); (case l_u_law_told => k_is); (case c_u_law_told => k_is); (case k_u_law_told => k_is); (case a_u_law_bad_webs => k_is); (case l_u_law_bad_webs => k_is); (case c_u_law_bad_webs => k_is); (case k_u_law_bad_webs => k_is); (case a_law => k_is); (case l_law => k_is); (case c_law => k_is); (case k_law => k_is); (case z_ValueError => k_is); (case z_all => k_is); (case z_bool => k_is); (case z_int => k_is); (case z_isinstance => k_is); (case z_len => k_is); (case z_list => k_is); (case z_range => k_is); (case z_str => k_is); (case z_tuple => k_is); (case z_zip => k_is); (case v_PLACES => k_is); (case v_TIES => k_is); (case v_FAR => k_is); (case v_SIGNS => k_is); (case v_LONGEST => k_is); (case xg_InvalidWeb => k_is); (case xq_InvalidWeb => kernel_rfl); (case xk_InvalidWeb => k_is); (case xs_InvalidWeb => k_is); (case xt_InvalidWeb => k_is); (case xg_InvalidText => k_is); (case xq_InvalidText => kernel_rfl); (case xk_InvalidText => k_is); (case xs_InvalidText => k_is); (case xt_InvalidText => k_is); (case gTie => k_is); (case gn_InvalidWeb => k_is); (case gn_InvalidChoice => k_is); (case gn_InvalidLots => k_is); (case gn_InvalidTie => k_is); (case gn_InvalidPlace => k_is); (case gn_InvalidNumber => k_is); (case gn_InvalidPairs => k_is); (case gn_InvalidText => k_is); (case gn_Unlike => k_is); (case gn_NoChoice => k_is); (case gn_NothingToUndo => k_is); (case gn_TooMany => k_is); (case ea_InvalidWeb => k_is); (case eb_InvalidWeb => k_is); (case ec_InvalidWeb => k_is); (case ed_InvalidWeb => k_is); (case ee_InvalidWeb => k_is); (case ef_InvalidWeb => k_is); (case eg_InvalidWeb => k_is); (case eh_InvalidWeb => k_is); (case em_InvalidWeb => kernel_rfl); (case kv_InvalidWeb => kernel_rfl); (case kt_InvalidWeb_InvalidWeb => kernel_rfl); (case kt_InvalidWeb_InvalidChoice => kernel_rfl); (case kt_InvalidWeb_InvalidLots => kernel_rfl); (case kt_InvalidWeb_InvalidTie => kernel_rfl); (case kt_InvalidWeb_InvalidPlace => kernel_rfl); (case kt_InvalidWeb_InvalidNumber => kernel_rfl); (case kt_InvalidWeb_InvalidPairs => kernel_rfl); (case kt_InvalidWeb_InvalidText => kernel_rfl); (case kt_InvalidWeb_Unlike => kernel_rfl); (case kt_InvalidWeb_NoChoice => kernel_rfl); (case kt_InvalidWeb_NothingToUndo => kernel_rfl); (case kt_InvalidWeb_TooMany => kernel_rfl); (case ea_InvalidText => k_is); (case eb_InvalidText => k_is); (case ec_InvalidText => k_is); (case ed_InvalidText => k_is); (case ee_InvalidText => k_is); (case ef_InvalidText => k_is); (case eg_InvalidText => k_is); (case eh_InvalidText => k_is); (case em_InvalidText => kernel_rfl); (case kv_InvalidText => kernel_rfl); (case kt_InvalidText_InvalidWeb => kernel_rfl); (case kt_InvalidText_InvalidChoice => kernel_rfl); (case kt_InvalidText_InvalidLots => kernel_rfl); (case kt_InvalidText_InvalidTie => kernel_rfl); (case kt_InvalidText_InvalidPlace => kernel_rfl); (case kt_InvalidText_InvalidNumber => kernel_rfl); (case kt_InvalidText_InvalidPairs => kernel_rfl); (case kt_InvalidText_InvalidText => kernel_rfl); (case kt_InvalidText_Unlike => kernel_rfl); (case kt_InvalidText_NoChoice => kernel_rfl); (case kt_InvalidText_NothingToUndo => kernel_rfl); (case kt_InvalidText_TooMany => kernel_rfl)
      (case hc_u_law_all_refused => rfl); (case mm_u_law_all_refused => exact List.mem_cons_self); (case hu_u_law_all_refused => decide +kernel); (case hc_law => rfl); (case mm_law => exact List.mem_cons_of_mem _ (List.mem_cons_self)); (case hu_law => decide +kernel)
    (case ec0 => rfl); (case ep0 => rfl)
    (case ec1 => rfl); (case ep1 => rfl)


import PyProof.Rows.All
import Wide.All
import OpenK.AllK
import Wide.FinOn
import Open.SpecLaws
import KE.OsGo
import KE.KExcHand
import KE.KExcStr
import HandS.ForSpec
import HandS.ForMost
import HandS.ExcCtx
import HandS.HotCalls
import HandS.Codes
import HandS.Conv
import HandS.FStr
import HandS.TupAny
import HandS.TupSets
import HandS.CallLocal
import HandS.CallSlots
import HandS.Style
import KE.DataMinMax
import HandS.SortKw
import HandS.Iter
import KE.KDictPairs
import HandS.Dict
import KE.SortData
import PySem.Challenge.RW_orderkeys_s01_answers
set_option Elab.async false
set_option linter.all false
set_option maxRecDepth 100000
set_option maxHeartbeats 4000000
/-- the row is well said: looked at first, while there is room (the kernel takes 5 GB for it) -/
theorem OK.said : PySem.Challenge.rw_orderkeys_s01_answers.wellSaid = true := by decide +kernel
/-! ### exceptions that bear one text: its args tuple is tracked, its address stands in the wish's second place -/
namespace OK
open PySem PySem.Spec PyProof.Rows L2
def Zm (cls : Value) (t : Addr) : Obj → Prop := fun o => o.cls = cls ∧ o.dict = none ∧ ∃ vs : Array Value, o.data = .fields vs ∧ vs[2]? = some .none ∧ vs[0]? = some (.ref t)
theorem Zm.steady {cls : Value} {t : Addr} : PXN.Steady1 (Zm cls t) := fun o v ⟨h1, h2, vs, h3, h4, h5⟩ =>
  ⟨PXN.steady_cls o v h1, PXN.steady_dict o v h2, vs.setIfInBounds 1 v, Obj.data_mapFields h3 _, (Array.getElem?_setIfInBounds_ne (by decide)).trans h4, (Array.getElem?_setIfInBounds_ne (by decide)).trans h5⟩
def CXm (P : Program) (w : World) : CXT := fun outer H s E u s' =>
  ∃ (a : Addr) (B : Heap) (H' : Hp) (cls : Value) (t : Addr), u = .ref a ∧ HandSPX.FlyingZ B outer a (Zm cls t) s'.heap ∧ HOk P w H' B ∧ UB (frs outer) H H' s.heap B s'.heap ∧ H' a = none ∧ s'.os = s.os ∧ AllBare s'.gens ∧ E cls (some t) H'
theorem CXm.none {P : Program} {w : World} {l : List Env} {H : Hp} {s s' : Shared} {u : Value} (c : CXm P w l H s (fun _ _ _ => False) u s') : False := by
  obtain ⟨_, _, _, _, _, _, _, _, _, _, _, _, z⟩ := c
  exact z
theorem passN {X : Cx} : Passes (CXm X.prog X.w) X (fun _ _ _ => False) := fun _ _ _ _ _ _ _ c => (CXm.none c).elim
theorem passNA {X : Cx} (σ : L2.St) : PassesAt (CXm X.prog X.w) X σ (fun _ _ _ => False) := fun _ _ _ _ _ _ c => (CXm.none c).elim
/-- the frame of a def of ours that may raise: what it wants of an exception -/
structure Rz (X : Cx) (E : XK) : Prop where
  hs : X.stack = X.env :: X.outer
  hf : X.env.frame = some X.env.locals
  hex : X.ex = []
  hx : ∃ E1, X.xe = fun e s' => wpAny (model X.prog X.w) X.A (leaving X.env e) (fun _ s'' => CXm X.prog X.w X.outer X.H_0 X.s_0 E e s'') E1 s'
section
variable {X : Cx} {E : XK}
theorem Rz.old (z : Rz X E) {pins : List (Addr × Obj)} {σ : L2.St} {H : Hp} {s : Shared} (I : Inv X pins σ H s) {b : Addr} {o : Obj} (e : X.s_0.heap.get? b = some o) (hb : b ∉ frs X.outer) : b ∉ frs X.stack := fun hm => by
  rcases List.mem_cons.mp (I.stkSub b hm) with q | q
  · have h1 : b < X.s_0.heap.objs.size := Heap.lt_size e
    have h2 := I.ok.above
    rw [q] at h1
    exact absurd (Nat.lt_of_lt_of_le h1 h2) (Nat.lt_irrefl _)
  · exact hb q
/-- what we leave behind, from what a callee left behind -/
theorem Rz.ub (z : Rz X E) {pins : List (Addr × Obj)} {σ : L2.St} {H H' : Hp} {s : Shared} {B h1 h2 : Heap} (I : Inv X pins σ H s) (u : UB (frs X.stack) H H' s.heap B h1) (up : h1.UpToSlots h2) : UB (frs X.outer) X.H_0 H' X.s_0.heap B h2 := by
  have nex : ∀ b : Addr, b ∉ X.ex := fun b hb => by rw [z.hex] at hb; cases hb
  have sub : ∀ b, b ∈ frs X.outer → b ∈ frs X.stack := fun b hb => by
    rw [z.hs]
    obtain ⟨e, he, q⟩ := List.mem_filterMap.mp hb
    exact List.mem_filterMap.mpr ⟨e, List.mem_cons_of_mem _ he, q⟩
  constructor
  · intro b o e n hb
    exact u.keep b o (I.base.keep b o e n hb (nex b)) (I.base.free b o e n (nex b)) (z.old I e hb)
  · intro b o e hb
    obtain ⟨_, o1, e1, nf⟩ := I.ok.funs.mem hb
    obtain rfl : o = o1 := Option.some.inj (e.symm.trans e1)
    obtain ⟨sl1, q1⟩ := I.base.slot b o e (I.ok.frf b hb) hb (nex b)
    obtain ⟨sl2, q2⟩ := u.slot b _ q1 (sub b hb)
    obtain ⟨sl3, q3⟩ := up b _ q2 nf
    exact ⟨sl3, q3⟩
  · intro b o e n
    obtain ⟨o1, e1⟩ := I.base.there b o e (nex b)
    exact u.free b o1 e1 (I.base.free b o e n (nex b))
  · intro b o e hb
    obtain ⟨o1, e1⟩ := I.base.there b o e (nex b)
    exact u.there b o1 e1 (z.old I e hb)
  · exact fun b xs q => u.tups b xs (I.base.tups b xs q)
  · exact fun b o xs q => u.frzs b o xs (I.base.frzs b o xs q)
  · intro b ps q
    obtain ⟨m1, e1⟩ := I.base.tbls b ps q
    obtain ⟨m2, e2⟩ := u.tbls b _ e1
    exact ⟨m1 ++ m2, by rw [e2, Array.append_assoc]⟩
/-- an exception of a callee goes on through our frame -/
theorem Rz.pass (z : Rz X E) : Passes (CXm X.prog X.w) X E := fun pins σ H s e s' I c => by
  obtain ⟨E1, hx⟩ := z.hx
  obtain ⟨a, B, H', cls, t, rfl, fl, hok, ub, na, os, ag, q⟩ := c
  rw [hx]
  have hfr : X.A.frames = some (X.env :: X.outer) := by rw [I.ok.frames, z.hs]
  have fl' : HandSPX.FlyingZ B (X.env :: X.outer) a (Zm cls t) s'.heap := by rw [← z.hs]; exact fl
  exact PXN.leaves_onZ Zm.steady hfr z.hf fl' fun h2 f2 up => ⟨a, B, H', cls, t, rfl, f2, hok, z.ub I ub up, na, os.trans I.os, ag, q⟩
theorem Rz.passA (z : Rz X E) (σ : L2.St) : PassesAt (CXm X.prog X.w) X σ E := fun pins H s e s' I c => z.pass pins σ H s e s' I c
end
/-- an exception that was made: sI is the state without it -/
def MkM (X : Cx) (pins : List (Addr × Obj)) (σ : L2.St) (Q : XK) (u : Value) (s' : Shared) : Prop :=
  ∃ (a t : Addr) (oe : Obj) (vs : Array Value) (sI : Shared) (H' : Hp) (cls : Value), u = .ref a ∧ Inv X pins σ H' sI ∧ (∀ b o, sI.heap.get? b = some o → s'.heap.get? b = some o) ∧ sI.heap.get? a = none ∧ s'.heap.get? a = some oe ∧ Zm cls t oe ∧
    oe.data = .fields vs ∧ vs[1]? = some .none ∧ H' a = none ∧ s'.os = sI.os ∧ AllBare s'.gens ∧ Raises X cls ∧ Q cls (some t) H'
def PMkM (X : Cx) (e : Expr) (t : L2.St → Hp → XK → Prop) : Prop :=
  ∀ (pins : List (Addr × Obj)) (s : Shared) (σ : L2.St) (H : Hp) (Q : XK), Inv X pins σ H s → t σ H Q → wpAny (model X.prog X.w) X.A (eval e X.env) (MkM X pins σ Q) X.xe s
theorem Rz.new {X : Cx} {E : XK} (z : Rz X E) {pins : List (Addr × Obj)} {σ : L2.St} {s' : Shared} {u : Value} (m : MkM X pins σ E u s') : X.xe u s' := by
  obtain ⟨a, t, oe, vs, sI, H', cls, rfl, J, k, hne, ha, hz, hd, h1, na, os, ag, r, q⟩ := m
  obtain ⟨E1, hx⟩ := z.hx
  rw [hx]
  have hfr : X.A.frames = some (X.env :: X.outer) := by rw [J.ok.frames, z.hs]
  have bs : ∀ b o, (PySem.W.hideAll sI.heap (frs X.stack)).get? b = some o → sI.heap.get? b = some o := fun b o e => PySem.W.of_hideAll _ e
  have ba : (PySem.W.hideAll sI.heap (frs X.stack)).get? a = none := by
    cases e : (PySem.W.hideAll sI.heap (frs X.stack)).get? a with
    | none => rfl
    | some o => exact absurd (hne.symm.trans (bs a o e)) (by simp)
  have ff : s'.heap.FunFrames (PySem.W.hideAll sI.heap (frs X.stack)) (X.env :: X.outer) := by
    rw [← z.hs]
    exact Heap.FunFrames.of_keeps (fun b o e _ => ⟨o, k b o e, rfl⟩) (funFrames_none J.stack fun b hb => PySem.W.hideAll_none _ hb)
  refine PXN.leaving_firstZ Zm.steady hfr ff z.hf ha (fun b o e => k b o (bs b o e)) ba hd h1 hz fun h2 f2 up => ?_
  have nb : ∀ b o, sI.heap.get? b = some o → b ∉ frs X.stack → (PySem.W.hideAll sI.heap (frs X.stack)).get? b = some o := fun b o e hb => PySem.W.hideAll_get _ e hb
  refine ⟨a, _, H', cls, t, rfl, f2, J.inGround nb, z.ub (H := H') J ?_ (h1 := s'.heap) up, na, os.trans J.os, ag, q⟩
  exact ⟨fun b o e _ hb => nb b o e hb, fun b o e _ => ⟨o.slots, k b o e⟩, fun _ _ _ n => n, fun b o e hb => ⟨o, nb b o e hb⟩, fun _ _ q => q, fun _ _ _ q => q, fun b ps q => ⟨#[], by rw [q]; simp⟩⟩
theorem ps_raiseM {X : Cx} {E : XK} {e : Expr} {t : L2.St → Hp → XK → Prop} {pos : Pos} (hc : X.calm = true) (z : Rz X E) (he : PMkM X e t) : PS X (.Raise (some e) none pos) (fun _ σ H => t σ H E) := by
  refine ⟨fun pins s σ H D I h => ?_⟩
  show wpAny _ _ (do standAt pos; raiseStmt X.env (some (do let v ← eval e X.env; standAt pos; pure v)) none) _ _ _
  refine wpAny_bind (wpAny_standAt (raise_made (I.ok.hd hc) (wpAny_bind (thn (he pins s σ H E I h) fun u s1 hu => wpAny_bind (wpAny_standAt (wpAny_pure ?_))))))
  have hm := hu
  obtain ⟨a, t, oe, vs, sI, H', cls, rfl, J, k, hne, ha, hz, hd, h1, na, os, ag, r, q⟩ := hu
  obtain ⟨r1, r2⟩ := r (model X.prog X.w) s1.heap (J.kIn.keeps k)
  exact ⟨a, oe, vs, cls, rfl, ha, hz.1, hd, h1, r1, r2, z.new hm⟩
/-- a new object is tracked -/
theorem laidN {X : Cx} {pins : List (Addr × Obj)} {σ : L2.St} {H : Hp} {s s' : Shared} {t : Addr} {o : HO} (I : Inv X pins σ H s) (hos : s'.os = s.os) (hg : AllBare s'.gens) (k : ∀ b u, s.heap.get? b = some u → s'.heap.get? b = some u) (ht : s.heap.get? t = none)
    (hn : ObjOk X.prog X.w (upd H t o) s'.heap t o) : Inv X pins σ (upd H t o) s' ∧ H t = none := by
  have hH : H t = none := I.hok.gone ht
  have ne : ∀ b u, s.heap.get? b = some u → b ≠ t := fun b u e z => by rw [z, ht] at e; cases e
  have nH : ∀ b u, H b = some u → b ≠ t := fun b u e z => by rw [z, hH] at e; cases e
  refine ⟨I.call' (ch := []) hos ⟨fun b u e _ _ _ => k b u e, fun b u e _ _ _ => ⟨u.slots, k b u e⟩, fun b u e n _ => (upd_ne (ne b u e)).trans n, fun b u e _ => ⟨u, k b u e⟩, fun b xs e => (upd_ne (nH b _ e)).trans e, fun b x xs e => (upd_ne (nH b _ e)).trans e,
    fun b ps e => ⟨#[], by rw [upd_ne (nH b _ e), e]; simp⟩⟩ (fun b u e => ?_) hg (fun _ z => nomatch z), hH⟩
  by_cases hb : b = t
  · subst hb
    rw [upd_same] at e
    cases e
    exact hn
  · rw [upd_ne hb] at e
    exact (I.hok b u e).stay (fun c v _ q => k c v q) (fun c q => (upd_ne (nH c _ q)).trans q) fun c xs q => (upd_ne (nH c _ q)).trans q
/-- C(e), e a text -/
theorem pmk_msg {X : Cx} {C : Addr} {bmB : List Value} {B newId initId : String} {x : Str} {e : Expr} {te : TE} {p pos : Pos} (F : ExcBaseFacts B newId initId bmB) (q : PySem.W.excIn X.K C bmB newId = true) (gC : X.mg x = some (.ref C)) (kC : PySem.W.keepIn X.K (.ref C) = true)
    (r : Raises X (.ref C)) (he : PE X e te) (hg : Gl X x := by rfl) (hs : starEach [e] X.env = (false, eval e X.env) :: starEach [] X.env := by rfl) (hdb : (x == ("__debug__" : Str)) = false := by decide) :
    PMkM X (.Call (.Name x p) [e] [] pos) (fun σ H Q => te σ H fun v H1 => ∃ m, v = .str m ∧ ∀ t, H1 t = none → Q (.ref C) (some t) (upd H1 t (.tup [.str m]))) := by
  intro pins s σ H Q I h
  refine wpAny_Call_Name_kw (ld_glob I hg gC ?_ hdb)
  refine PySem.W.callWith_K (h₀ := X.base) I.ok.mod.kin kC ?_ hs (by rfl)
  rw [hs]
  show wpAny _ _ (spliced ((false, eval e X.env) :: backTo pos (starEach [] X.env))) _ _ s
  refine Calls.spliced_cons (thn (he.run pins s σ H _ I h) fun u s1 hh => ?_)
  obtain ⟨v, H1, I1, r1, m, rfl, q1⟩ := hh
  refine Calls.spliced_nil ⟨I1.kIn, ?_⟩
  show wpAny _ _ (call (.ref C) [u]) _ _ _
  obtain ⟨bm, N, nm, qn, bs, hdct, sn, sub, ab, col, dd, k0, k1, k2, k3, k5, mN, hC, hN, hni, T⟩ := exc_obj I1.kIn q
  refine wpAny_call_exc_subT F T hC hN hni (fun h' a hm => ?_) (by show 1 ≤ sizeLine; rw [sizeLine_eq]; omega)
  obtain ⟨t, hta, ht0, htt⟩ := hm.there
  have hne : a ≠ t := fun z => by
    rw [z, htt] at hta
    cases hta
  obtain ⟨G, g1, g2⟩ := restrict h' fun b => decide (b ≠ a)
  have ga : G.get? a = none := g2 a (by simp)
  have gk : ∀ b, b ≠ a → G.get? b = h'.get? b := fun b hb => g1 b (decide_eq_true hb)
  have old : ∀ b o, s1.heap.get? b = some o → G.get? b = some o := fun b o e => by
    rw [gk b fun z => by rw [z, hm.new] at e; cases e]
    exact hm.keeps b o e
  have up : ∀ b o, G.get? b = some o → h'.get? b = some o := fun b o e => by
    rw [← gk b fun z => by rw [z, ga] at e; cases e]
    exact e
  have ob : ObjOk X.prog X.w (upd H1 t (.tup [.str m])) G t (.tup [.str m]) :=
    ⟨by show 1 ≤ sizeLine; rw [sizeLine_eq]; omega, [u], .cons r1 .nil, _, (gk t (Ne.symm hne)).trans htt, rfl, 0, rfl⟩
  obtain ⟨J, hH⟩ := laidN (s' := { s1 with heap := G }) I1 rfl I1.bare old ht0 ob
  exact ⟨a, t, _, _, { s1 with heap := G }, _, .ref C, rfl, J, up, ga, hta, ⟨rfl, rfl, _, rfl, rfl, rfl⟩, rfl, rfl, (upd_ne hne).trans (I1.hok.gone hm.new), rfl, I1.bare, r, q1 t hH⟩
end OK
/-! ### try with two clauses; str(e) in a suite -/
namespace OK
open PySem PySem.Spec PyProof.Rows L2
def bhd (D : Ends) (i : Nat) : Ends := { nx := fun σ' H' => D.nx (σ'.set i none) H', rt := D.rt, bk := fun σ' H' => D.bk (σ'.set i none) H', ct := fun σ' H' => D.ct (σ'.set i none) H' }
def wTwo (K : PySem.W.Frag) (c1 c2 : Value) (i1 i2 : Nat) (ts1 ts2 : Addr → Value → Addr → TS) (D : Ends) : WX := fun cls d σ H => ∃ t, d = some t ∧
  ((PySem.W.exmOne K cls c1 = some true ∧ ∀ a, H a = none → ts1 a cls t (bhd D i1) (σ.set i1 (some (.ref a))) H) ∨
   (PySem.W.exmOne K cls c1 = some false ∧ PySem.W.exmOne K cls c2 = some true ∧ ∀ a, H a = none → ts2 a cls t (bhd D i2) (σ.set i2 (some (.ref a))) H))
/-- an exception of a callee has come back to the frame that catches: the state is one of ours -/
theorem landM {X : Cx} {pins : List (Addr × Obj)} {σ : L2.St} {H H' : Hp} {s s' : Shared} {B h3 : Heap} (I : Inv X pins σ H s) (ub : UB (frs X.stack) H H' s.heap B s'.heap) (hok : HOk X.prog X.w H' B) (os : s'.os = s.os) (ag : AllBare s'.gens)
    (st : B.StaysIn h3) (up : s'.heap.UpToSlots h3) : Inv X pins σ H' { s' with heap := h3 } := by
  have sl : ∀ b o, s.heap.get? b = some o → b ∈ frs X.stack → ∃ z, h3.get? b = some { o with slots := z } := fun b o e hb => by
    obtain ⟨_, o1, e1, nf⟩ := I.stack.mem hb
    obtain rfl : o = o1 := Option.some.inj (e.symm.trans e1)
    obtain ⟨z1, q1⟩ := ub.slot b o e hb
    obtain ⟨z2, q2⟩ := up b _ q1 nf
    exact ⟨z2, q2⟩
  refine I.call' (s' := { s' with heap := h3 }) (ch := []) os ⟨fun b o e n hb _ => st b o (ub.keep b o e n hb), fun b o e _ hb _ => sl b o e hb, fun b o e n _ => ub.free b o e n, fun b o e _ => ?_, ub.tups, ub.frzs, ub.tbls⟩ (hok.kept st) ag (fun _ z => nomatch z)
  by_cases hb : b ∈ frs X.stack
  · obtain ⟨z, q⟩ := sl b o e hb
    exact ⟨_, q⟩
  · obtain ⟨o1, q⟩ := ub.there b o e hb
    exact ⟨o1, st b o1 q⟩
section
variable {X : Cx} {pins : List (Addr × Obj)} {σ : L2.St} {H : Hp} {s : Shared} {B : Heap} {a t : Addr} {cls c : Value} {x n : Str} {i : Nat} {b₀ : Stmt} {suite : List Stmt} {np pos : Pos} {rest : List ExceptHandler} {ts : Addr → Value → Addr → TS} {D : Ends}
/-- one clause 'except x as n', the exception landed -/
theorem clauseM (I : ∀ h3, B.StaysIn h3 → s.heap.UpToSlots h3 → Inv X pins σ H { s with heap := h3 }) (hs : X.stack = X.env :: X.outer) (hf : X.env.frame = some X.env.locals) (fl : HandSPX.FlyingZ B (X.env :: X.outer) a (Zm cls t) s.heap) (na : H a = none)
    (hN : X.N.Nodup) (hi : X.N[i]? = some n) (hln : X.env.kindOf n = some .local) (hc : Names X x c) (b : Bool) (hb : PySem.W.exmOne X.K cls c = some b)
    (hsu : ∀ (oe : Obj) (pn : List (Addr × Obj)), Zm cls t oe → PSs (X.suite a ((a, oe) :: pn)) (b₀ :: suite) (ts a cls t))
    (hy : b = true → ts a cls t (bhd D i) (σ.set i (some (.ref a))) H) (hn : b = false → wpAny (model X.prog X.w) X.A (handleBy (.ref a) X.env rest) (SP X pins D) X.xe s) :
    wpAny (model X.prog X.w) X.A (handleBy (.ref a) X.env (.ExceptHandler (some (.Name x np)) (some n) (b₀ :: suite) pos :: rest)) (SP X pins D) X.xe s := by
  have J : Inv X pins σ H s := I s.heap fl.1 (Heap.UpToSlots.refl _)
  have ok := J.ok
  have notFr : ∀ {h : Heap} {o : Obj} {vs : Array Value}, h.FunFrames B (X.env :: X.outer) → h.get? a = some o → o.data = .fields vs → a ∉ frs (X.env :: X.outer) := fun {h o vs} ff e dd hm => by
    obtain ⟨_, o', e', hnf⟩ := ff.mem hm
    obtain rfl : o = o' := Option.some.inj (e.symm.trans e')
    exact hnf _ dd
  obtain ⟨oe, vs, he, hz, hd⟩ := fl.there
  have nfr := notFr fl.2.2.1 he hd
  have nL : a ≠ X.env.locals := fun z => nfr (List.mem_filterMap.mpr ⟨X.env, List.mem_cons_self, by rw [hf, z]⟩)
  have nF : a ∉ X.fs := fun hm => by
    obtain ⟨e, he, q⟩ := List.mem_filterMap.mp hm
    exact nfr (List.mem_filterMap.mpr ⟨e, List.mem_cons_of_mem _ he, q⟩)
  have S := J.suite he hd na nL nF
  have LT : PySem.W.Looks (model X.prog X.w) s.heap (typeOf (.ref a)) cls := fun A Q E s k q => wpAny_typeOf_ref (k _ _ he) (by rw [hz.1]; exact q)
  have test : ∀ {Q : Value → Shared → Prop} {E : Value → Shared → Prop}, Q c s → wpAny (model X.prog X.w) (X.A.mark (some (.ref a))) (eval (.Name x np) X.env) Q E s := fun {Q E} q => by
    obtain ⟨hg, hdbg, hm | ⟨hm, hv, hnn⟩⟩ := hc
    · exact ld_glob (X := X.suite a ((a, oe) :: (X.pn ++ pins))) S hg hm q hdbg
    · exact ld_blt (X := X.suite a ((a, oe) :: (X.pn ++ pins))) S hg hm hv q hnn hdbg
  refine PySem.W.exc_clause_as (test ⟨b, PySem.W.exm_one (M := model X.prog X.w) J.kIn LT hb, ?_⟩)
  cases b with
  | false => exact hn rfl
  | true =>
    refine HandSPX.lands_againZ fl fun h4 fl4 up4 => ?_
    have J4 : Inv X pins σ H { s with heap := h4 } := I h4 fl4.1 up4
    obtain ⟨oe4, vs4, he4, hz4, hd4⟩ := fl4.there
    have S4 := J4.suite he4 hd4 na nL nF
    refine store_ok (X := X.suite a ((a, oe4) :: (X.pn ++ pins))) (v := .ref a) S4 hN hi (.inl hln) rfl (fun s5 S5 => ?_) (.inr hln)
    refine wpAny_mono ((hsu oe4 (X.pn ++ pins) hz4).run [] s5 _ H _ S5 (hy rfl)) (fun f s6 hsp => ?_) (fun _ _ z => False.elim z)
    cases f with
    | next =>
      obtain ⟨σ6, H6, S6, q6⟩ := hsp
      exact gone_ok (S6.unsuite ok) hN hi hln fun s7 J7 => ⟨_, _, J7, q6⟩
    | brk =>
      obtain ⟨σ6, H6, S6, q6⟩ := hsp
      exact gone_ok (S6.unsuite ok) hN hi hln fun s7 J7 => ⟨_, _, J7, q6⟩
    | cont =>
      obtain ⟨σ6, H6, S6, q6⟩ := hsp
      exact gone_ok (S6.unsuite ok) hN hi hln fun s7 J7 => ⟨_, _, J7, q6⟩
    | ret u =>
      obtain ⟨v6, σ6, H6, S6, r6, q6⟩ := hsp
      exact gone_ok (S6.unsuite ok) hN hi hln fun s7 J7 => ⟨_, _, _, J7, r6, q6⟩
end
section
variable {X : Cx} {x1 n1 x2 n2 : Str} {c1 c2 : Value} {i1 i2 : Nat} {body suite1 suite2 : List Stmt} {b1 b2 : Stmt} {np1 pos1 np2 pos2 pos : Pos} {tb : WX → TS} {ts1 ts2 : Addr → Value → Addr → TS}
theorem ps_try_two (hs : X.stack = X.env :: X.outer) (hf : X.env.frame = some X.env.locals) (hN : X.N.Nodup) (hi1 : X.N[i1]? = some n1) (hl1 : X.env.kindOf n1 = some .local) (hi2 : X.N[i2]? = some n2) (hl2 : X.env.kindOf n2 = some .local) (hc1 : Names X x1 c1) (hc2 : Names X x2 c2)
    (hb : ∀ (W : WX) (pn : List (Addr × Obj)) (xe : Value → Shared → Prop), (∀ σ, PassesAt (CXm X.prog X.w) (X.tr pn xe) σ (WE W σ)) → PSs (X.tr pn xe) body (tb W))
    (hs1 : ∀ (a t : Addr) (oe : Obj) (cls : Value) (pn : List (Addr × Obj)), Zm cls t oe → PSs (X.suite a ((a, oe) :: pn)) (b1 :: suite1) (ts1 a cls t))
    (hs2 : ∀ (a t : Addr) (oe : Obj) (cls : Value) (pn : List (Addr × Obj)), Zm cls t oe → PSs (X.suite a ((a, oe) :: pn)) (b2 :: suite2) (ts2 a cls t)) :
    PS X (.Try body [.ExceptHandler (some (.Name x1 np1)) (some n1) (b1 :: suite1) pos1, .ExceptHandler (some (.Name x2 np2)) (some n2) (b2 :: suite2) pos2] [] [] pos) (fun D σ H => tb (wTwo X.K c1 c2 i1 i2 ts1 ts2 D) D σ H) := by
  refine ⟨fun pins s σ H D I h => ?_⟩
  have ok := I.ok
  have hfr : X.A.frames = some (X.env :: X.outer) := by rw [ok.frames, hs]
  refine wpAny_Try_except ?_
  refine wpAny_mono ((hb (wTwo X.K c1 c2 i1 i2 ts1 ts2 D) (X.pn ++ pins) (fun e s₁ => wpAny (model X.prog X.w) X.A (noteFrame e X.env) (fun _ s₂ => wpAny (model X.prog X.w) X.A (setFlight e none) (fun _ s₃ =>
    wpAny (model X.prog X.w) X.A (handleBy e X.env [.ExceptHandler (some (.Name x1 np1)) (some n1) (b1 :: suite1) pos1, .ExceptHandler (some (.Name x2 np2)) (some n2) (b2 :: suite2) pos2]) (SP X pins D) X.xe s₃) X.xe s₂) X.xe s₁)
      (fun σ1 pins1 H1 s1 e s' I1 cm => ?_)).run [] s σ H D (I.toTry _) h) (fun f s1 hsp => ?_) (fun e s1 he => he)
  · have J : Inv X pins σ1 H1 s1 := I1.ofTry ok
    obtain ⟨a, B, H', cls, t, rfl, fl, hok, ub, na, os, ag, t', ht, hw⟩ := cm
    obtain rfl : t = t' := Option.some.inj ht
    have fl' : HandSPX.FlyingZ B (X.env :: X.outer) a (Zm cls t) s'.heap := by rw [← hs]; exact fl
    show wpAny (model X.prog X.w) X.A (noteFrame (.ref a) X.env) _ _ _
    refine PXN.looks_onZ Zm.steady hfr hf fl' fun h1 hh up1 => ?_
    refine HandSPX.landsZ (s := { s' with heap := h1 }) hh fun h2 f2 up2 => ?_
    have L : ∀ h3, B.StaysIn h3 → h2.UpToSlots h3 → Inv X pins σ1 H' { s' with heap := h3 } := fun h3 st up => landM J ub hok os ag st ((up1.trans up2).trans up)
    rcases hw with ⟨e1, k1⟩ | ⟨e1, e2, k2⟩
    · exact clauseM (s := { s' with heap := h2 }) L hs hf f2 na hN hi1 hl1 hc1 true e1 (fun oe pn hz => hs1 a t oe cls pn hz) (fun _ => k1 a na) (fun z => Bool.noConfusion z)
    · refine clauseM (s := { s' with heap := h2 }) L hs hf f2 na hN hi1 hl1 hc1 false e1 (fun oe pn hz => hs1 a t oe cls pn hz) (fun z => Bool.noConfusion z) fun _ => ?_
      exact clauseM (s := { s' with heap := h2 }) L hs hf f2 na hN hi2 hl2 hc2 true e2 (fun oe pn hz => hs2 a t oe cls pn hz) (fun _ => k2 a na) (fun z => Bool.noConfusion z)
  · cases f with
    | next =>
      obtain ⟨σ', H', J', q⟩ := hsp
      exact wpAny_execs_nil ⟨σ', H', J'.ofTry ok, q⟩
    | brk =>
      obtain ⟨σ', H', J', q⟩ := hsp
      exact ⟨σ', H', J'.ofTry ok, q⟩
    | cont =>
      obtain ⟨σ', H', J', q⟩ := hsp
      exact ⟨σ', H', J'.ofTry ok, q⟩
    | ret u =>
      obtain ⟨v, σ', H', J', r, q⟩ := hsp
      exact ⟨v, σ', H', J'.ofTry ok, r, q⟩
end
/-- the suite's exception is handled, its context is None -/
theorem hotM {X : Cx} {a t : Addr} {oe : Obj} {cls : Value} {pn : List (Addr × Obj)} (hz : Zm cls t oe) : L2H.HotC (X.suite a ((a, oe) :: pn)) := by
  obtain ⟨_, _, vs, hd, h2, _⟩ := hz
  exact ⟨(a, oe), ⟨rfl, vs, hd, h2⟩, List.mem_cons_self⟩
/-- str(e), e the exception that the suite holds -/
theorem call_strM {X : Cx} {a t C : Addr} {oe : Obj} {cls : Value} {pn : List (Addr × Obj)} (hz : Zm cls t oe) (hu : X.A.units + 2 < cLine) (hs : PySem.W.findIn X.K (.ref C) "__str__" = some (some (.builtin "BaseException.__str__"))) (hB : PySem.W.subIn X.K (.ref C) (.type "BaseException") = some true) :
    CallR (X.suite a ((a, oe) :: pn)) (.type "str") (fun xs H Q => ∃ m, xs = [.ref a] ∧ cls = .ref C ∧ H t = some (.tup [.str m]) ∧ Q (.str m) H) := by
  intro pins s σ H xs us Q I r h
  obtain ⟨m, rfl, rfl, ht, q⟩ := h
  obtain ⟨u, rfl, ru⟩ := vals1 r
  obtain rfl : u = Value.ref a := ru
  obtain ⟨hc, hd, vs, hv, h2, h0⟩ := hz
  obtain ⟨ha, _⟩ := I.pin (a, oe) (List.mem_append_left _ List.mem_cons_self)
  obtain ⟨_, its, rv, ot, hot, hcl, n, hdt⟩ : _ ∧ ∃ its : List Value, Vals [V.str m] its ∧ IsTup s.heap t its.toArray := I.hok t _ ht
  cases rv with
  | cons r1 r2 =>
    cases r2
    obtain ⟨tk, rfl⟩ := r1
    exact PySem.P.str_of_C_one (A := (X.suite a ((a, oe) :: pn)).A) hu ⟨I.kIn, oe, vs, ha, hc, hv, h0⟩ ⟨ot, n, hot, hcl, hdt⟩ hs hB ⟨.str m, H, I, ⟨tk, rfl⟩, q⟩
end OK
/-! ### the layer: values, heaps, calls -/
namespace OK
open PySem PySem.Spec PyProof.Rows L2
def top (i : Nat) : Stmt := PySem.Challenge.pw_orderkeys_s01_answers.main.body.getD i (.Pass ⟨0, 0, 0, 0⟩)
/-! #### heaps -/
theorem same_new {H : Hp} {p : Addr} {o : HO} (h : H p = none) : Same H (upd H p o) := fun b u q => (upd_ne (ne_of_none q h)).trans q
/-- what never changes -/
def Fzn : HO → Prop
  | .tup _ => True
  | .frz _ _ => True
  | _ => False
/-- tuples and frozen things stand -/
def Kp (H H' : Hp) : Prop := ∀ b o, Fzn o → H b = some o → H' b = some o
theorem Kp.refl (H : Hp) : Kp H H := fun _ _ _ q => q
theorem Kp.trans {H H1 H2 : Hp} (a : Kp H H1) (b : Kp H1 H2) : Kp H H2 := fun x o f q => b x o f (a x o f q)
theorem Kp.of {H H' : Hp} (s : Same H H') : Kp H H' := fun b o _ q => s b o q
/-- a change of one thing that may change -/
theorem Kp.mut {H : Hp} {p : Addr} {o o' : HO} (h : H p = some o) (n : ¬ Fzn o) : Kp H (upd H p o') := fun b u f q => (upd_ne fun z => by
  rw [z, h] at q
  cases q
  exact n f).trans q
theorem Kp.lst {H : Hp} {p : Addr} {xs : List V} {o' : HO} (h : H p = some (.lst xs)) : Kp H (upd H p o') := Kp.mut h fun z => z
/-- all but one address stands -/
def But (l : Addr) (H H' : Hp) : Prop := ∀ b o, b ≠ l → H b = some o → H' b = some o
theorem But.upd {l : Addr} {H : Hp} {o : HO} : But l H (L2.upd H l o) := fun b u n q => (upd_ne n).trans q
theorem But.of {l : Addr} {H H' : Hp} (s : Same H H') : But l H H' := fun b o _ q => s b o q
theorem But.trans {l : Addr} {H H1 H2 : Hp} (a : But l H H1) (b : But l H1 H2) : But l H H2 := fun x o n q => b x o n (a x o n q)
/-- what was not there when l was made -/
theorem But.same {l : Addr} {H H1 H2 : Hp} (s : Same H H1) (hn : H l = none) (b : But l H1 H2) : Same H H2 := fun x o q => b x o (ne_of_none q hn) (s x o q)
/-- a tuple of ints (a text, a key) -/
def Oc (H : Hp) (a : Addr) (l : List Int) : Prop := H a = some (.tup (l.map V.int))
theorem Oc.kp {H H' : Hp} {a : Addr} {l : List Int} (h : Oc H a l) (k : Kp H H') : Oc H' a l := k a _ trivial h
theorem Oc.t {K : PySem.W.Frag} {H : Hp} {a : Addr} {l : List Int} (h : Oc H a l) : SqT K H a (l.map V.int) := SqT.of h
/-- a frozen list -/
def Lf (H : Hp) (a : Addr) (xs : List V) : Prop := ∃ o, H a = some (.frz o (.lst xs))
theorem Lf.kp {H H' : Hp} {a : Addr} {xs : List V} (h : Lf H a xs) (k : Kp H H') : Lf H' a xs := let ⟨o, e⟩ := h; ⟨o, k a _ trivial e⟩
theorem Lf.l {K : PySem.W.Frag} {H : Hp} {a : Addr} {xs : List V} (h : Lf H a xs) : SqL K H a xs := .inl (.inr h)
/-- a tuple, tracked or of the module -/
theorem sqT_kp {K : PySem.W.Frag} {H H' : Hp} {a : Addr} {xs : List V} (k : Kp H H') (h : SqT K H a xs) : SqT K H' a xs := by
  rcases h with (h | ⟨o, h⟩) | h
  · exact .inl (.inl (k a _ trivial h))
  · exact .inl (.inr ⟨o, k a _ trivial h⟩)
  · exact .inr h
theorem sqT_same {K : PySem.W.Frag} {H H' : Hp} {a : Addr} {xs : List V} (s : Same H H') (h : SqT K H a xs) : SqT K H' a xs := sqT_kp (Kp.of s) h
theorem sz0 {n : Nat} (h : n ≤ 100000) : n ≤ sizeLine := Nat.le_trans h (by rw [sizeLine_eq]; decide)
theorem sz1 {n : Nat} (h : n ≤ 100000) : n < sizeLine := Nat.lt_of_le_of_lt h (by rw [sizeLine_eq]; decide)
/-! #### freezing -/
theorem frozen {X : Cx} {pins : List (Addr × Obj)} {σ : L2.St} {H : Hp} {s : Shared} {l : Addr} {xs : List V} (I : Inv X pins σ H s) (h : H l = some (.lst xs)) : ∃ o, Inv X pins σ (upd H l (.frz o (.lst xs))) s := by
  obtain ⟨hz, its, n, r, e⟩ : xs.length ≤ sizeLine ∧ ∃ (its : List Value) (n : Nat), Vals xs its ∧ s.heap.get? l = some { cls := .type "list", data := .seq its.toArray n } := I.hok l _ h
  have nl : ∀ b u, H b = some u → (∀ ys, u ≠ .lst ys) → b ≠ l := fun b u q d z => by
    rw [z, h] at q
    exact d xs (Option.some.inj q).symm
  have go : ∀ b u, H b = some u → (∀ ys, u ≠ .lst ys) → upd H l (.frz { cls := .type "list", data := .seq its.toArray n } (.lst xs)) b = some u := fun b u q d => (upd_ne (nl b u q d)).trans q
  refine ⟨{ cls := .type "list", data := .seq its.toArray n }, I.call' (ch := []) rfl ⟨fun b o e _ _ _ => e, fun b o e _ _ _ => ⟨o.slots, e⟩, fun b o _ n _ => (upd_ne fun z => by rw [z, h] at n; cases n).trans n, fun b o e _ => ⟨o, e⟩, fun b ys q => go b _ q fun _ z => (nomatch z),
    fun b o u q => go b _ q fun _ z => (nomatch z), fun b ps q => ⟨#[], by rw [go b _ q fun _ z => (nomatch z)]; simp⟩⟩ (fun b o q => ?_) I.bare (fun _ z => (nomatch z))⟩
  by_cases hb : b = l
  · subst hb
    rw [upd_same] at q
    cases q
    exact ⟨e, hz, its, n, r, e⟩
  · rw [upd_ne hb] at q
    exact (I.hok b o q).stay (fun c v _ z => z) (fun c z => go c _ z fun _ y => (nomatch y)) fun c ys z => go c _ z fun _ y => (nomatch y)
/-- what e hands over is a list that nobody changes any more -/
def tFz (te : TE) : TE := fun σ H Q => te σ H fun v H1 => ∃ l xs, v = .ref l ∧ H1 l = some (.lst xs) ∧ ∀ o, Q (.ref l) (upd H1 l (.frz o (.lst xs)))
theorem pe_fz {X : Cx} {e : Expr} {te : TE} (he : PE X e te) : PE X e (tFz te) := ⟨fun pins s σ H Q I h => thn (he.run pins s σ H _ I h) fun u s1 hh => by
  obtain ⟨v, H1, I1, r, l, xs, rfl, hl, q⟩ := hh
  obtain ⟨o, J⟩ := frozen I1 hl
  exact ⟨.ref l, _, J, r, q o⟩⟩
/-! #### calls -/
structure Ca (P : Program) (w : World) (K : PySem.W.Frag) (mg : Str → Option Value) (base : Heap) (k : Nat) (x : Str) (sp : Sp) : Prop where
  ex : ∃ (f : Addr) (fd : FuncData) (ps : List Str), FnOk P w K mg base (CXm P w) k f fd ps sp ∧ mg x = some (.ref f) ∧ PySem.W.keepIn K (.ref f) = true ∧ Binds K fd ps []
structure Df (K : PySem.W.Frag) (mg : Str → Option Value) (x : Str) (st : Stmt) (ps : List Str) : Prop where
  ex : ∃ (f : Addr) (fd : FuncData), Fun K x x st f fd ∧ mg x = some (.ref f) ∧ Binds K fd ps []
section
variable {P : Program} {w : World} {K : PySem.W.Frag} {mg : Str → Option Value} {base : Heap}
theorem ca_mk {x : Str} {st : Stmt} {N ps : List Str} {k : Nat} {sp : Sp} (F : Df K mg x st ps) (S : FnScope N ps (defScope st)) (len : ∀ vs H Q E, sp vs H Q E → vs.length = ps.length)
    (hbody : ∀ (f : Addr) (cdv : Value) (A : Around) (outer : List Env) (s : Shared) (H : Hp) (vs : List V) (Q : VK) (E : XK), Room k (A.deeper (envOfC x (defScope st) s.heap.objs.size f cdv)) → sp vs H Q E →
      ∃ t, PSs (cxOf (CXm P w) P w K mg base N x (defScope st) f cdv A outer s H E) (defBody st) t ∧ t { nx := fun _ H' => Q .non H', rt := Q } (start N vs) H) : Ca P w K mg base (k + 1) x sp := by
  obtain ⟨f, fd, ⟨⟨oc, od, kV, doc, pm, an, cdv, ct, osl, rfl, lk, hcd⟩, kp⟩, hm, hb⟩ := F.ex
  exact ⟨f, _, ps, fn_of lk hcd S len fun A outer s H vs Q E hr hsp => hbody f cdv A outer s H vs Q E hr hsp, hm, kp, hb⟩
theorem top_mk {x : Str} {st : Stmt} {N ps : List Str} {k : Nat} {sp : Sp} {fA : Addr} {fd : FuncData} (F : Fun K x x st fA fd) (S : FnScope N ps (defScope st)) (len : ∀ vs H Q E, sp vs H Q E → vs.length = ps.length)
    (hbody : ∀ (f : Addr) (cdv : Value) (A : Around) (outer : List Env) (s : Shared) (H : Hp) (vs : List V) (Q : VK) (E : XK), Room k (A.deeper (envOfC x (defScope st) s.heap.objs.size f cdv)) → sp vs H Q E →
      ∃ t, PSs (cxOf (CXm P w) P w K mg base N x (defScope st) f cdv A outer s H E) (defBody st) t ∧ t { nx := fun _ H' => Q .non H', rt := Q } (start N vs) H) : FnOk P w K mg base (CXm P w) (k + 1) fA fd ps sp := by
  obtain ⟨⟨oc, od, kV, doc, pm, an, cdv, ct, osl, rfl, lk, hcd⟩, kp⟩ := F
  exact fn_of lk hcd S len fun A outer s H vs Q E hr hsp => hbody fA cdv A outer s H vs Q E hr hsp
theorem Ca.mono {j k : Nat} {x : Str} {sp : Sp} (c : Ca P w K mg base j x sp) (h : j ≤ k) : Ca P w K mg base k x sp := by
  obtain ⟨f, fd, ps, F, r⟩ := c.ex
  exact ⟨f, fd, ps, F.mono h, r⟩
end
def tCa (sp : Sp) (E : XK) (t : TA) : TE := fun σ H Q => t σ H fun vs H1 => sp vs H1 Q E
abbrev EF : XK := fun _ _ _ => False
theorem pe_ca {X : Cx} {k j : Nat} {x : Str} {sp : Sp} {E : XK} {p pos : Pos} {e : Expr} {es : List Expr} {t : TA} (c : Ca X.prog X.w X.K X.mg X.base k x sp) (hr : Room j X.A) (hk : k ≤ j) (hx : Passes (CXm X.prog X.w) X E) (ha : PA X (e :: es) t) (hg : Gl X x := by rfl)
    (hdb : (x == ("__debug__" : Str)) = false := by decide) (he : starEach (e :: es) X.env = (false, eval e X.env) :: starEach es X.env := by rfl) (hpl : (backTo pos (starEach es X.env)).any (·.1) = false := by rfl) :
    PE X (.Call (.Name x p) (e :: es) [] pos) (tCa sp E t) := by
  obtain ⟨f, fd, ps, F, hm, hkp, hb⟩ := c.ex
  have q := pe_call (p := p) F (hr.mono hk) hg hm hkp hb .nil hx ha hdb he hpl
  have e1 : tCall sp [] E t = tCa sp E t := by
    funext σ H Q
    unfold tCall tCa
    simp only [List.append_nil]
  rw [← e1]
  exact q
theorem pe_gk {X : Cx} {x : Str} {v : V} {pos : Pos} (h : ∃ u, X.mg x = some u ∧ RelV v u) (hg : Gl X x := by rfl) (hd : (x == ("__debug__" : Str)) = false := by decide) : PE X (.Name x pos) (tC v) := by
  obtain ⟨u, hm, r⟩ := h
  exact pe_glob hg hm r hd
theorem rz {P : Program} {w : World} {K : PySem.W.Frag} {mg : Str → Option Value} {base : Heap} {N : List Str} {qual : Str} {scope : Scope} {f : Addr} {cd : Value} {A : Around} {outer : List Env} {s : Shared} {H : Hp} {E : XK} :
    Rz (cxOf (CXm P w) P w K mg base N qual scope f cd A outer s H E) E := ⟨rfl, rfl, rfl, _, rfl⟩
/-! #### readings, step by step -/
section
variable {K : PySem.W.Frag} {σ : L2.St} {H : Hp} {Q : VK} {D : Ends} {ta tb tc te : TE} {t u : TS} {c d : TT} {v x y : V}
theorem x_var {i : Nat} (h : σ[i]? = some (some v)) (q : Q v H) : tVar i σ H Q := ⟨v, h, q⟩
theorem x_c (q : Q v H) : tC v σ H Q := q
theorem x_op {r : R2} (q : ta σ H fun x H1 => tb σ H1 fun y H2 => r x y H2 Q) : tOp r ta tb σ H Q := q
theorem x_un {r : V → Hp → VK → Prop} (q : ta σ H fun x H1 => r x H1 Q) : tUn r ta σ H Q := q
theorem x_I0 {g : Int → Int → V} {i j : Int} (q : Q (g i j) H) : rI0 g (.int i) (.int j) H Q := ⟨i, j, rfl, rfl, q⟩
theorem x_I {C : Int → Int → Prop} {g : Int → Int → V} {i j : Int} (hc : C i j) (q : Q (g i j) H) : rI C g (.int i) (.int j) H Q := ⟨i, j, rfl, rfl, hc, q⟩
theorem x_U {g : Int → V} {i : Int} (q : Q (g i) H) : rU g (.int i) H Q := ⟨i, rfl, q⟩
theorem x_eqI {i j : Int} (q : Q (.bl (decide (i = j))) H) : rEq (.int i) (.int j) H Q := ⟨rfl, by
  have e : decide (V.int i = V.int j) = decide (i = j) := decide_eq_decide.mpr ⟨V.int.inj, congrArg V.int⟩
  rw [e]
  exact q⟩
theorem x_neI {i j : Int} (q : Q (.bl (!decide (i = j))) H) : rNe (.int i) (.int j) H Q := ⟨rfl, by
  have e : decide (V.int i = V.int j) = decide (i = j) := decide_eq_decide.mpr ⟨V.int.inj, congrArg V.int⟩
  rw [e]
  exact q⟩
theorem x_ixL {p : Addr} {xs : List V} {i : Int} (h : SqL K H p xs) (e : atI xs i = some v) (q : Q v H) : rIxL K (.ref p) (.int i) H Q := ⟨p, xs, i, v, rfl, rfl, h, e, q⟩
theorem x_ixT {p : Addr} {xs : List V} {i : Int} (h : SqT K H p xs) (e : atI xs i = some v) (q : Q v H) : rIxT K (.ref p) (.int i) H Q := ⟨p, xs, i, v, rfl, rfl, h, e, q⟩
theorem x_test {Q : Bool → Hp → Prop} (q : te σ H fun x H1 => ∃ k, x = .bl k ∧ Q k H1) : tTest te σ H Q := q
theorem x_B {Q : Bool → Hp → Prop} (q : te σ H fun x H1 => ∃ k, x = .bl k ∧ Q k H1) : tB te σ H Q := q
theorem x_bl {Q : Bool → Hp → Prop} {b : Bool} (q : Q b H) : ∃ k, V.bl b = .bl k ∧ Q k H := ⟨b, rfl, q⟩
theorem x_isN {Q : VK} (q : te σ H fun x H1 => Q (.bl (decide (x = .non))) H1) : tIsN te σ H Q := q
theorem x_notN {Q : VK} (q : te σ H fun x H1 => Q (.bl (!decide (x = .non))) H1) : tNotN te σ H Q := q
theorem x_not {Q : Bool → Hp → Prop} (q : c σ H fun b H1 => Q (!b) H1) : tNot c σ H Q := q
theorem x_and {Q : Bool → Hp → Prop} (q : c σ H fun b H1 => if b = true then d σ H1 Q else Q false H1) : tAnd c d σ H Q := q
theorem x_or {Q : Bool → Hp → Prop} (q : c σ H fun b H1 => if b = true then Q true H1 else d σ H1 Q) : tOr c d σ H Q := q
theorem x_andV (q : ta σ H fun x H1 => ∃ k, x = .bl k ∧ if k = true then tb σ H1 Q else Q (.bl false) H1) : tAndV ta tb σ H Q := q
theorem x_orV (q : ta σ H fun x H1 => ∃ k, x = .bl k ∧ if k = true then Q (.bl true) H1 else tb σ H1 Q) : tOrV ta tb σ H Q := q
theorem x_notV (q : ta σ H fun x H1 => ∃ k, x = .bl k ∧ Q (.bl (!k)) H1) : tNotV ta σ H Q := q
theorem x_ifE (q : c σ H fun b H1 => if b = true then ta σ H1 Q else tb σ H1 Q) : tIf c ta tb σ H Q := q
theorem x_chain {r r' : R2} (q : ta σ H fun x H1 => tb σ H1 fun y H2 => r x y H2 fun z H3 => ∃ k, z = .bl k ∧ (if k = true then tc σ H3 fun w' H4 => r' y w' H4 Q else Q (.bl false) H3)) : tChain r r' ta tb tc σ H Q := q
theorem x_cons {ta : TE} {t : TA} {Q : List V → Hp → Prop} (q : ta σ H fun x H1 => t σ H1 fun xs H2 => Q (x :: xs) H2) : tCons ta t σ H Q := q
theorem x_nil {Q : List V → Hp → Prop} (q : Q [] H) : tNil σ H Q := q
theorem x_tup {t : TA} (q : t σ H fun xs H1 => xs.length ≤ sizeLine ∧ ∀ p, H1 p = none → Q (.ref p) (upd H1 p (.tup xs))) : tTup t σ H Q := q
theorem x_lst {t : TA} (q : t σ H fun xs H1 => xs.length ≤ sizeLine ∧ ∀ p, H1 p = none → Q (.ref p) (upd H1 p (.lst xs))) : tLst t σ H Q := q
theorem x_ca {sp : Sp} {E : XK} {t : TA} (q : t σ H fun vs H1 => sp vs H1 Q E) : tCa sp E t σ H Q := q
theorem x_cb {r : List V → Hp → VK → Prop} {t : TA} (q : t σ H fun vs H1 => r vs H1 Q) : tCB r t σ H Q := q
theorem x_fz (q : te σ H fun v H1 => ∃ l xs, v = .ref l ∧ H1 l = some (.lst xs) ∧ ∀ o, Q (.ref l) (upd H1 l (.frz o (.lst xs)))) : tFz te σ H Q := q
theorem x_fld {f : Str} (q : ta σ H fun x H1 => ∃ a C dx fs v, x = .ref a ∧ H1 a = some (.ins C dx fs) ∧ Cls K C ∧ NoAttr K C f ∧ fs.lookup f = some v ∧ Q v H1) : tFld K ta f σ H Q := q
theorem x_seq (q : t { D with nx := u D } σ H) : tSeq t u D σ H := q
theorem x_asg {g : TG} (q : te σ H fun x H1 => g x σ H1 D.nx) : tAsg te g D σ H := q
theorem x_name {i : Nat} {Q : L2.St → Hp → Prop} (q : Q (σ.set i (some v)) H) : gName i v σ H Q := q
theorem x_gtup {n : Nat} {t : TGs} {a : Addr} {xs : List V} {Q : L2.St → Hp → Prop} (h : SqT K H a xs) (hn : xs.length = n) (q : t xs σ H Q) : gTup K n t (.ref a) σ H Q := ⟨a, xs, rfl, h, hn, q⟩
theorem x_gcons {t : TG} {u : TGs} {v : V} {r : List V} {Q : L2.St → Hp → Prop} (q : t v σ H fun σ' H' => u r σ' H' Q) : gCons t u (v :: r) σ H Q := ⟨v, r, rfl, q⟩
theorem x_gnil {Q : L2.St → Hp → Prop} (q : Q σ H) : gNil [] σ H Q := ⟨rfl, q⟩
theorem x_gsub {to ti : TE} {t : TSet} {Q : L2.St → Hp → Prop} (q : to σ H fun o H1 => ti σ H1 fun i H2 => t o i v H2 fun H3 => Q σ H3) : gSub to ti t v σ H Q := q
theorem x_ret (q : te σ H D.rt) : tRet te D σ H := q
theorem x_retN (q : D.rt .non H) : tRetN D σ H := q
theorem x_next (q : D.nx σ H) : tNext D σ H := q
theorem x_drop (q : te σ H fun _ H1 => D.nx σ H1) : tDrop te D σ H := q
theorem x_ifS (q : c σ H fun b H1 => if b = true then t D σ H1 else u D σ H1) : tIfS c t u D σ H := q
theorem x_aug {i : Nat} {ti : TIp} (h : σ[i]? = some (some v)) (q : te σ H fun y H1 => ti v y H1 fun z H2 => D.nx (σ.set i (some z)) H2) : tAug i te ti D σ H := ⟨v, h, q⟩
theorem x_ipI {f : Int → Int → Int} {i j : Int} (q : Q (.int (f i j)) H) : ipI f (.int i) (.int j) H Q := ⟨i, j, rfl, rfl, q⟩
theorem x_rng1 {ta : TA} {R : It → Hp → Prop} (q : ta σ H fun vs H1 => ∃ j : Int, vs = [.int j] ∧ -(2 ^ 62) ≤ j ∧ j < 2 ^ 62 ∧ R (Itr 0 j.toNat) H1) : iRng1 ta σ H R := q
theorem x_rng2 {ta : TA} {R : It → Hp → Prop} (q : ta σ H fun vs H1 => ∃ i j : Int, vs = [.int i, .int j] ∧ (-(2 ^ 62) ≤ i ∧ i < 2 ^ 62 ∧ -(2 ^ 62) ≤ j ∧ j < 2 ^ 62) ∧ R (Itr i (j - i).toNat) H1) : iRng2 ta σ H R := q
theorem x_il {R : It → Hp → Prop} (q : ta σ H fun x H1 => ∃ a, x = .ref a ∧ (∃ xs, SqL K H1 a xs) ∧ R (Itl K a) H1) : iList K ta σ H R := q
theorem x_it {R : It → Hp → Prop} (q : ta σ H fun x H1 => ∃ a, x = .ref a ∧ (∃ xs, SqT K H1 a xs) ∧ R (Itt K a) H1) : iTup K ta σ H R := q
end
end OK
/-! ### what the top has written -/
namespace OK
open PySem PySem.Spec PyProof.Rows L2
structure Ads where
  aN : Addr
  aU : Addr
  aD : Addr
  cW : Addr
  cO : Addr
  cB : Addr
  cG : Addr
  cS : Addr
structure Gb (K : PySem.W.Frag) (mg : Str → Option Value) (z : Ads) : Prop where
  len : mg "len" = none
  range : mg "range" = none
  tuple : mg "tuple" = none
  list : mg "list" = none
  ord : mg "ord" = none
  str : mg "str" = none
  enumerate : mg "enumerate" = none
  min : mg "min" = none
  max : mg "max" = none
  all : mg "all" = none
  set : mg "set" = none
  dict : mg "dict" = none
  sorted : mg "sorted" = none
  cLONGEST_BOUND : ∃ u, mg "LONGEST_BOUND" = some u ∧ RelV (.int 20) u
  cLONGEST_SPREAD : ∃ u, mg "LONGEST_SPREAD" = some u ∧ RelV (.int 22) u
  cNULL_KIND : ∃ u, mg "NULL_KIND" = some u ∧ RelV (.int 1) u
  cFALSE_KIND : ∃ u, mg "FALSE_KIND" = some u ∧ RelV (.int 2) u
  cTRUE_KIND : ∃ u, mg "TRUE_KIND" = some u ∧ RelV (.int 3) u
  cINTEGER : ∃ u, mg "INTEGER" = some u ∧ RelV (.int 4) u
  cTEXT : ∃ u, mg "TEXT" = some u ∧ RelV (.int 6) u
  cLIST : ∃ u, mg "LIST" = some u ∧ RelV (.int 7) u
  cRECORD : ∃ u, mg "RECORD" = some u ∧ RelV (.int 8) u
  cMOST_ARGUMENTS : ∃ u, mg "MOST_ARGUMENTS" = some u ∧ RelV (.int 5) u
  cNOTHING : ∃ u, mg "NOTHING" = some u ∧ RelV (.ref z.aN) u
  cNULL : ∃ u, mg "NULL" = some u ∧ RelV (.ref z.aU) u
  tN : ∀ H : Hp, SqT K H z.aN [.int 0, .int 0]
  tU : ∀ H : Hp, SqT K H z.aU [.int 1, .int 0]
  gBoard : mg "Board" = some (.ref z.cB)
  gGame : mg "Game" = some (.ref z.cG)
  gSlots : mg "Slots" = some (.ref z.cS)
  gWrongKind : mg "WrongKind" = some (.ref z.cW)
  gOutOfRange : mg "OutOfRange" = some (.ref z.cO)
  xWrongKind : PySem.W.excIn K z.cW [.type "Exception", .type "BaseException", .type "object"] "Exception.__new__" = true
  xOutOfRange : PySem.W.excIn K z.cO [.type "Exception", .type "BaseException", .type "object"] "Exception.__new__" = true
  kWrongKind : PySem.W.keepIn K (.ref z.cW) = true
  kOutOfRange : PySem.W.keepIn K (.ref z.cO) = true
  bWrongKind : PySem.W.subIn K (.ref z.cW) (.type "BaseException") = some true
  bOutOfRange : PySem.W.subIn K (.ref z.cO) (.type "BaseException") = some true
  tWrongKind : PySem.W.typeIn K (.ref z.cW) = some (.type "type")
  tOutOfRange : PySem.W.typeIn K (.ref z.cO) = some (.type "type")
  sWrongKind : PySem.W.findIn K (.ref z.cW) "__str__" = some (some (.builtin "BaseException.__str__"))
  sOutOfRange : PySem.W.findIn K (.ref z.cO) "__str__" = some (some (.builtin "BaseException.__str__"))
  eWW : PySem.W.exmOne K (.ref z.cW) (.ref z.cW) = some true
  eOW : PySem.W.exmOne K (.ref z.cO) (.ref z.cW) = some false
  eOO : PySem.W.exmOne K (.ref z.cO) (.ref z.cO) = some true
  clB : Cls K z.cB
  nBl : NoAttr K z.cB "limit"
  nBm : NoAttr K z.cB "middle"
  nBr : NoAttr K z.cB "row_keys"
  clG : Cls K z.cG
  nGb : NoAttr K z.cG "before"
  nGa : NoAttr K z.cG "after"
  nGl : NoAttr K z.cG "limit"
  nGn : NoAttr K z.cG "answered"
  clS : Cls K z.cS
  nSb : NoAttr K z.cS "boards"
  nSg : NoAttr K z.cS "games"
theorem hu0 {k : Nat} {A : Around} (r : Room k A) : A.units < cLine := r.units0
theorem rzp {P : Program} {w : World} {K : PySem.W.Frag} {mg : Str → Option Value} {base : Heap} {N : List Str} {qual : Str} {scope : Scope} {f : Addr} {cd : Value} {A : Around} {outer : List Env} {s : Shared} {H : Hp} {E : XK} :
    PassesOwn (model P w) (A.deeper (envOfC qual scope s.heap.objs.size f cd)) (envOfC qual scope s.heap.objs.size f cd) (cxOf (CXm P w) P w K mg base N qual scope f cd A outer s H E).xe := PassesOwn.leaving
theorem ite_t {c A B : Prop} [Decidable c] (hc : c) (h : A) : if c then A else B := by rw [if_pos hc]; exact h
theorem ite_f {c A B : Prop} [Decidable c] (hc : ¬ c) (h : B) : if c then A else B := by rw [if_neg hc]; exact h
/-- a test whose answer is open -/
theorem ite_d {p A B : Prop} [Decidable p] (h1 : p → A) (h2 : ¬ p → B) : if decide p = true then A else B := by
  by_cases h : p
  · rw [if_pos (decide_eq_true h)]; exact h1 h
  · rw [if_neg (by rw [decide_eq_false h]; exact Bool.false_ne_true)]; exact h2 h
theorem ite_nd {p A B : Prop} [Decidable p] (h1 : ¬ p → A) (h2 : p → B) : if (!decide p) = true then A else B := by
  by_cases h : p
  · rw [if_neg (by rw [decide_eq_true h]; exact Bool.false_ne_true)]; exact h2 h
  · rw [if_pos (by rw [decide_eq_false h]; rfl)]; exact h1 h
theorem ite_b {b : Bool} {A B : Prop} (h1 : b = true → A) (h2 : b = false → B) : if b = true then A else B := by
  cases b with
  | true => exact ite_t rfl (h1 rfl)
  | false => exact ite_f Bool.false_ne_true (h2 rfl)
theorem ite_nb {b : Bool} {A B : Prop} (h1 : b = false → A) (h2 : b = true → B) : if (!b) = true then A else B := by
  cases b with
  | true => exact ite_f (by decide) (h2 rfl)
  | false => exact ite_t rfl (h1 rfl)
theorem nat_ix {α : Type} {l : List α} {i : Nat} (h : i < l.length) : ∃ x, l[i]? = some x := ⟨l[i], List.getElem?_eq_getElem h⟩
theorem map_ix {l : List Int} {i : Nat} {y : V} (h : (l.map V.int)[i]? = some y) : ∃ x, l[i]? = some x ∧ y = V.int x := by
  rw [List.getElem?_map] at h
  cases e : l[i]? with
  | none => rw [e] at h; cases h
  | some x => rw [e] at h; exact ⟨x, rfl, (Option.some.inj h).symm⟩
theorem take_more {α : Type} {l : List α} {i : Nat} {x : α} (h : l[i]? = some x) : l.take (i + 1) = l.take i ++ [x] := by
  obtain ⟨hl, e⟩ := List.getElem?_eq_some_iff.mp h
  rw [List.take_succ, h]
  rfl
end OK
namespace OK
open PySem PySem.Spec PyProof.Rows L2
/-! ### built-ins of one argument, named readings -/
def rLen (K : PySem.W.Frag) : V → Hp → VK → Prop := fun x H Q => ∃ p ys, [x] = [V.ref p] ∧ (SqL K H p ys ∨ SqT K H p ys) ∧ Q (.int ys.length) H
def rTup (K : PySem.W.Frag) : V → Hp → VK → Prop := fun x H Q => ∃ p ys, [x] = [V.ref p] ∧ ((SqL K H p ys ∧ ∀ l, H l = none → Q (.ref l) (upd H l (.tup ys))) ∨ (SqT K H p ys ∧ Q (.ref p) H))
def rLst (K : PySem.W.Frag) : V → Hp → VK → Prop := fun x H Q => ∃ p ys, [x] = [V.ref p] ∧ (SqL K H p ys ∨ SqT K H p ys) ∧ ∀ l, H l = none → Q (.ref l) (upd H l (.lst ys))
def rOrd : V → Hp → VK → Prop := fun y H Q => ∃ x, [y] = [V.str x] ∧ x.length = 1 ∧ Q (.int (x.cps.getD 0 0 : Nat)) H
def rAllB (K : PySem.W.Frag) : V → Hp → VK → Prop := fun x H Q => rAll K [x] H Q
section
variable {X : Cx} {e : Expr} {te : TE} {p pos : Pos}
theorem pe_len (hm : X.mg "len" = none) (he : PE X e te) (hg : Gl X "len" := by rfl) (hs : starEach [e] X.env = (false, eval e X.env) :: starEach [] X.env := by rfl) : PE X (.Call (.Name "len" p) [e] [] pos) (tUn (rLen X.K) te) :=
  pe_callB call_len_seq hg hm PySem.boot_len (pa_cons he pa_nil hs) (he := hs)
theorem pe_tuple (hm : X.mg "tuple" = none) (he : PE X e te) (hg : Gl X "tuple" := by rfl) (hs : starEach [e] X.env = (false, eval e X.env) :: starEach [] X.env := by rfl) : PE X (.Call (.Name "tuple" p) [e] [] pos) (tUn (rTup X.K) te) :=
  pe_callTy call_tuple_of hg hm (by decide +kernel) (pa_cons he pa_nil hs) (he := hs)
theorem pe_listS (hm : X.mg "list" = none) (he : PE X e te) (hg : Gl X "list" := by rfl) (hs : starEach [e] X.env = (false, eval e X.env) :: starEach [] X.env := by rfl) : PE X (.Call (.Name "list" p) [e] [] pos) (tUn (rLst X.K) te) :=
  pe_callTy call_list_of hg hm (by decide +kernel) (pa_cons he pa_nil hs) (he := hs)
theorem pe_ord (hm : X.mg "ord" = none) (he : PE X e te) (hg : Gl X "ord" := by rfl) (hs : starEach [e] X.env = (false, eval e X.env) :: starEach [] X.env := by rfl) : PE X (.Call (.Name "ord" p) [e] [] pos) (tUn rOrd te) :=
  pe_callB call_ord hg hm (by decide +kernel) (pa_cons he pa_nil hs) (he := hs)
theorem pe_all (hc : X.calm = true) (hm : X.mg "all" = none) (he : PE X e te) (hg : Gl X "all" := by rfl) (hs : starEach [e] X.env = (false, eval e X.env) :: starEach [] X.env := by rfl) : PE X (.Call (.Name "all" p) [e] [] pos) (tUn (rAllB X.K) te) :=
  pe_callB (cr_all hc) hg hm (by decide +kernel) (pa_cons he pa_nil hs) (he := hs)
end
section
variable {K : PySem.W.Frag} {σ : L2.St} {H : Hp} {Q : VK} {v y : V} {p l : Addr} {xs ys : List V}
theorem x_lenL (h : SqL K H p xs) (q : Q (.int (xs.length : Int)) H) : rLen K (.ref p) H Q := ⟨p, xs, rfl, .inl h, q⟩
theorem x_lenT (h : SqT K H p xs) (q : Q (.int (xs.length : Int)) H) : rLen K (.ref p) H Q := ⟨p, xs, rfl, .inr h, q⟩
theorem x_tupL (h : SqL K H p ys) (q : ∀ l, H l = none → Q (.ref l) (upd H l (.tup ys))) : rTup K (.ref p) H Q := ⟨p, ys, rfl, .inl ⟨h, q⟩⟩
theorem x_lstL (h : SqL K H p ys) (q : ∀ l, H l = none → Q (.ref l) (upd H l (.lst ys))) : rLst K (.ref p) H Q := ⟨p, ys, rfl, .inl h, q⟩
theorem x_lstT (h : SqT K H p ys) (q : ∀ l, H l = none → Q (.ref l) (upd H l (.lst ys))) : rLst K (.ref p) H Q := ⟨p, ys, rfl, .inr h, q⟩
theorem x_ord {x : Str} (h : x.length = 1) (q : Q (.int (x.cps.getD 0 0 : Nat)) H) : rOrd (.str x) H Q := ⟨x, rfl, h, q⟩
theorem x_bk {Q : Bool → Prop} {b : Bool} (q : Q b) : ∃ k, V.bl b = .bl k ∧ Q k := ⟨b, rfl, q⟩
theorem x_ty {R : Prop} (h : H l = some (.lst xs)) (q : R) : tyV K "list" (.ref l) H ∧ R := ⟨.inl ⟨rfl, _, SqL.of h⟩, q⟩
theorem x_bm {T : String} {r : V → List V → Hp → VK → Prop} {to : TE} {t : TA} (q : to σ H fun x H1 => tyV K T x H1 ∧ t σ H1 fun xs H2 => r x xs H2 Q) : tBM K T r to t σ H Q := q
theorem x_bm0 {T : String} {r : V → List V → Hp → VK → Prop} {to : TE} (q : to σ H fun x H1 => tyV K T x H1 ∧ r x [] H1 Q) : tBM0 K T r to σ H Q := q
theorem x_app (h : H l = some (.lst xs)) (hz : xs.length < sizeLine) (q : Q .non (upd H l (.lst (xs ++ [y])))) : rAppend (.ref l) [y] H Q := ⟨l, xs, y, rfl, rfl, h, hz, q⟩
theorem x_ext {b : Addr} (h : H l = some (.lst xs)) (hb : H b = some (.lst ys)) (hz : xs.length + ys.length ≤ sizeLine) (q : Q .non (upd H l (.lst (xs ++ ys)))) : rExtend (.ref l) [.ref b] H Q := ⟨l, b, xs, ys, rfl, rfl, h, hb, hz, q⟩
theorem x_cat {b : Addr} (h : H l = some (.lst xs)) (hb : H b = some (.lst ys)) (hz : xs.length + ys.length ≤ sizeLine) (q : ∀ p, H p = none → Q (.ref p) (upd H p (.lst (xs ++ ys)))) : rCat (.ref l) (.ref b) H Q := ⟨l, b, xs, ys, rfl, rfl, h, hb, hz, q⟩
theorem x_sl {r : V → Option Int → Option Int → Hp → VK → Prop} {te : TE} {tl th : TO} (q : te σ H fun x H1 => tl σ H1 fun a H2 => th σ H2 fun b H3 => r x a b H3 Q) : tSl r te tl th σ H Q := q
theorem x_no {Q : Option Int → Hp → Prop} (q : Q none H) : tNoPart σ H Q := q
theorem x_part {te : TE} {Q : Option Int → Hp → Prop} (q : te σ H fun x H1 => ∃ i, x = .int i ∧ Q (some i) H1) : tPart te σ H Q := q
theorem x_ik {Q : Int → Prop} {i : Int} (q : Q i) : ∃ k, V.int i = .int k ∧ Q k := ⟨i, rfl, q⟩
theorem x_slL {lo hi : Option Int} (h : SqL K H p xs) (q : ∀ l, H l = none → Q (.ref l) (upd H l (.lst (cutV xs lo hi)))) : rSlL K (.ref p) lo hi H Q := ⟨p, xs, rfl, h, q⟩
theorem x_revL {te : TE} (q : te σ H fun x H1 => ∃ a xs, x = .ref a ∧ SqL K H1 a xs ∧ ∀ p, H1 p = none → Q (.ref p) (upd H1 p (.lst xs.reverse))) : tRevL K te σ H Q := q
end
end OK
namespace OK
open PySem PySem.Spec PyProof.Rows L2
/-! ### loops -/
section
variable {K : PySem.W.Frag} {g : TG} {tb : TS} {D : Ends} {σ : L2.St} {H : Hp}
theorem x_for {wi : TI} (q : wi σ H fun J H1 => ∃ W : Nat → Nat → L2.St → Hp → Prop, (∃ m, W 0 m σ H1) ∧ ∀ i m σ H, W i m σ H →
    (J.stop i H ∧ D.nx σ H) ∨ (J.go i H ∧ ∃ N : L2.St → Hp → Prop, (∀ σ' H', N σ' H' → ∃ m', m' < m ∧ W (i + 1) m' σ' H') ∧ ∀ x H', J.yld i H x H' → g x σ H' fun σ2 H2 => tb { D with nx := N, ct := N, bk := D.nx } σ2 H2)) : tFor wi g tb D σ H := q
/-- what a for wants of its iterator -/
abbrev ForQ (J : It) (g : TG) (tb : TS) (D : Ends) (σ : L2.St) (H1 : Hp) : Prop := ∃ W : Nat → Nat → L2.St → Hp → Prop, (∃ m, W 0 m σ H1) ∧ ∀ i m σ H, W i m σ H →
    (J.stop i H ∧ D.nx σ H) ∨ (J.go i H ∧ ∃ N : L2.St → Hp → Prop, (∀ σ' H', N σ' H' → ∃ m', m' < m ∧ W (i + 1) m' σ' H') ∧ ∀ x H', J.yld i H x H' → g x σ H' fun σ2 H2 => tb { D with nx := N, ct := N, bk := D.nx } σ2 H2)
theorem x_r1 {e : Int} (n : Nat) (he : e = (n : Int)) (hn : n ≤ 5000000000) (Pv : Nat → L2.St → Hp → Prop) (h0 : Pv 0 σ H) (hs : ∀ (i : Nat) σ H, i < n → Pv i σ H → g (.int (i : Int)) σ H fun σ2 H2 => tb { D with nx := Pv (i + 1), ct := Pv (i + 1), bk := D.nx } σ2 H2)
    (hd : ∀ σ H, Pv n σ H → D.nx σ H) : ∃ j : Int, [V.int e] = [.int j] ∧ -(2 ^ 62) ≤ j ∧ j < 2 ^ 62 ∧ ForQ (Itr 0 j.toNat) g tb D σ H := by
  subst he
  refine ⟨n, rfl, by omega, by omega, ?_⟩
  rw [Int.toNat_natCast]
  exact for_range (lo := 0) (n := n) Pv h0 (fun i σ H hi p => by rw [Int.zero_add]; exact hs i σ H hi p) hd
theorem x_r2 {e f : Int} (lo : Int) (n : Nat) (he : e = lo) (hf : (f - lo).toNat = n) (hb : -100000000000000000 ≤ lo ∧ lo ≤ 100000000000000000 ∧ -100000000000000000 ≤ f ∧ f ≤ 100000000000000000) (Pv : Nat → L2.St → Hp → Prop) (h0 : Pv 0 σ H)
    (hs : ∀ (i : Nat) σ H, i < n → Pv i σ H → g (.int (lo + (i : Int))) σ H fun σ2 H2 => tb { D with nx := Pv (i + 1), ct := Pv (i + 1), bk := D.nx } σ2 H2)
    (hd : ∀ σ H, Pv n σ H → D.nx σ H) : ∃ i j : Int, [V.int e, V.int f] = [.int i, .int j] ∧ (-(2 ^ 62) ≤ i ∧ i < 2 ^ 62 ∧ -(2 ^ 62) ≤ j ∧ j < 2 ^ 62) ∧ ForQ (Itr i (j - i).toNat) g tb D σ H := by
  subst he
  refine ⟨e, f, rfl, by omega, ?_⟩
  rw [hf]
  exact for_range (lo := e) (n := n) Pv h0 hs hd
theorem x_fl {a : Addr} {xs : List V} (hx : SqL K H a xs) (Pv : Nat → L2.St → Hp → Prop) (h0 : Pv 0 σ H) (hl : ∀ i σ H, i ≤ xs.length → Pv i σ H → SqL K H a xs)
    (hs : ∀ (i : Nat) x σ H, xs[i]? = some x → Pv i σ H → g x σ H fun σ2 H2 => tb { D with nx := Pv (i + 1), ct := Pv (i + 1), bk := D.nx } σ2 H2) (hd : ∀ σ H, Pv xs.length σ H → D.nx σ H) :
    ∃ b, V.ref a = .ref b ∧ (∃ xs, SqL K H b xs) ∧ ForQ (Itl K b) g tb D σ H := ⟨a, rfl, ⟨xs, hx⟩, for_list (xs := xs) Pv h0 hl hs hd⟩
theorem x_ft {a : Addr} {xs : List V} (hx : SqT K H a xs) (Pv : Nat → L2.St → Hp → Prop) (h0 : Pv 0 σ H) (hl : ∀ i σ H, i ≤ xs.length → Pv i σ H → SqT K H a xs)
    (hs : ∀ (i : Nat) x σ H, xs[i]? = some x → Pv i σ H → g x σ H fun σ2 H2 => tb { D with nx := Pv (i + 1), ct := Pv (i + 1), bk := D.nx } σ2 H2) (hd : ∀ σ H, Pv xs.length σ H → D.nx σ H) :
    ∃ b, V.ref a = .ref b ∧ (∃ xs, SqT K H b xs) ∧ ForQ (Itt K b) g tb D σ H := ⟨a, rfl, ⟨xs, hx⟩, for_tup (xs := xs) Pv h0 hl hs hd⟩
end
end OK
namespace OK
open PySem PySem.Spec PyProof.Rows L2
theorem atI_last1 {l : List Int} {x : Int} (h : l.getLast? = some x) : atI (l.map V.int) (-1) = some (V.int x) := by
  rcases List.eq_nil_or_concat l with e | ⟨r, y, e⟩
  · subst e
    cases h
  · subst e
    have hy : y = x := by
      rw [List.concat_eq_append, List.getLast?_concat] at h
      exact Option.some.inj h
    subst hy
    rw [List.concat_eq_append, List.map_append]
    exact atI_last _ _
theorem atI_int {l : List Int} {i : Nat} {x : Int} (h : l[i]? = some x) : atI (l.map V.int) (i : Int) = some (V.int x) := atI_nat (by rw [List.getElem?_map, h]; rfl)
theorem c_mul (i : Int) (j : Int) (h : -(2 ^ 64) < j ∧ j < 2 ^ 64) : CMul i j := .inr h
theorem c_div (i : Int) (j : Int) (h : 0 < j) (h2 : j < 1073741824) : CDiv i j := ⟨h, h2⟩
theorem len_map (l : List Int) : (l.map V.int).length = l.length := List.length_map _
end OK
namespace OK
open PySem PySem.Spec PyProof.Rows L2
theorem c_pow (i : Int) (j : Int) (h : 0 ≤ j ∧ j ≤ 1000000 ∧ i.natAbs < 2 ^ 64) : CPow i j := h
end OK
namespace OK
open PySem PySem.Spec PyProof.Rows L2
/-- a class that is made by its own __init__ -/
structure Dm (K : PySem.W.Frag) (C : Addr) (qual : Str) (st : Stmt) (ps : List Str) : Prop where
  ex : ∃ (f : Addr) (fd : FuncData), Fun K "__init__" qual st f fd ∧ Mk K C f ∧ Binds K fd ps []
end OK
namespace OK
open PySem PySem.Spec PyProof.Rows L2
/-- what the top has left of the defs -/
structure Dfs (K : PySem.W.Frag) (mg : Str → Option Value) (z : Ads) : Prop where
  d_digit_of : Df K mg "digit_of" (top 3) ["octet"]
  d_octet_of : Df K mg "octet_of" (top 4) ["digit"]
  d_is_key : Df K mg "is_key" (top 5) ["octets", "longest"]
  d_places_of : Df K mg "places_of" (top 6) ["length"]
  d_keys_in_all : Df K mg "keys_in_all" (top 7) ["limit"]
  d_number_of : Df K mg "number_of" (top 8) ["key", "length"]
  d_key_of : Df K mg "key_of" (top 9) ["number", "length"]
  d_lowest_number : Df K mg "lowest_number" (top 10) ["before", "length"]
  d_number_behind : Df K mg "number_behind" (top 11) ["after", "length"]
  d_room_between : Df K mg "room_between" (top 12) ["before", "after", "length"]
  d_is_between : Df K mg "is_between" (top 13) ["key", "before", "after"]
  d_middle_key : Df K mg "middle_key" (top 14) ["before", "after", "length"]
  d_least_length : Df K mg "least_length" (top 15) ["before", "after", "count"]
  d_shortest_key : Df K mg "shortest_key" (top 16) ["before", "after"]
  d_spread_keys : Df K mg "spread_keys" (top 17) ["before", "after", "count"]
  d_halvings : Df K mg "halvings" (top 18) ["room"]
  d_read_count : Df K mg "read_count" (top 37) ["octets", "at"]
  d_read_integer : Df K mg "read_integer" (top 38) ["octets", "at"]
  d_read_text : Df K mg "read_text" (top 39) ["octets", "at"]
  d_read_list : Df K mg "read_list" (top 40) ["octets", "at"]
  d_read_record : Df K mg "read_record" (top 41) ["octets", "at"]
  d_read_value : Df K mg "read_value" (top 42) ["octets", "at"]
  d_octets_of : Df K mg "octets_of" (top 29) ["word"]
  d_integer_value : Df K mg "integer_value" (top 30) ["number"]
  d_text_value : Df K mg "text_value" (top 31) ["octets"]
  d_list_value : Df K mg "list_value" (top 32) ["values"]
  d_texts_value : Df K mg "texts_value" (top 33) ["texts"]
  d_bound_value : Df K mg "bound_value" (top 34) ["bound"]
  d_record_value : Df K mg "record_value" (top 35) ["members"]
  d_member_of : Df K mg "member_of" (top 36) ["record", "word"]
  d_lowest_first : Df K mg "lowest_first" (top 43) ["number", "many"]
  d_written_text : Df K mg "written_text" (top 44) ["octets"]
  d_written_integer : Df K mg "written_integer" (top 45) ["number"]
  d_written_list : Df K mg "written_list" (top 46) ["values"]
  d_written_record : Df K mg "written_record" (top 47) ["members"]
  d_written_value : Df K mg "written_value" (top 48) ["value"]
  d_is_integer : Df K mg "is_integer" (top 52) ["value", "low", "high"]
  d_is_key_value : Df K mg "is_key_value" (top 53) ["value", "longest"]
  d_integer_of : Df K mg "integer_of" (top 54) ["value", "word", "low", "high"]
  d_limit_of : Df K mg "limit_of" (top 55) ["value"]
  d_bound_of : Df K mg "bound_of" (top 56) ["value", "word"]
  d_bounds_of : Df K mg "bounds_of" (top 57) ["first", "second"]
  d_ascend : Df K mg "ascend" (top 58) ["keys"]
  d_distinct : Df K mg "distinct" (top 59) ["names"]
  d_is_row : Df K mg "is_row" (top 60) ["value", "limit"]
  d_row_pairs : Df K mg "row_pairs" (top 61) ["value"]
  d_is_board : Df K mg "is_board" (top 62) ["value", "limit"]
  d_board_of : Df K mg "board_of" (top 63) ["value", "word", "limit"]
  d_height_of : Df K mg "height_of" (top 65) ["text", "at", "rows", "limit"]
  d_heights_of : Df K mg "heights_of" (top 66) ["texts", "limit"]
  d_longest_behind : Df K mg "longest_behind" (top 67) ["heights", "lengths", "at"]
  d_lengths_of : Df K mg "lengths_of" (top 68) ["heights"]
  d_kept_rows : Df K mg "kept_rows" (top 69) ["texts", "limit"]
  d_rekeyed : Df K mg "rekeyed" (top 70) ["texts", "limit"]
  d_keys_with_one_more : Df K mg "keys_with_one_more" (top 75) ["keys", "place", "limit", "middle"]
  d_changed_rows : Df K mg "changed_rows" (top 76) ["old", "new", "place"]
  d_insertion_value : Df K mg "insertion_value" (top 77) ["key", "changed"]
  d_row_index : Df K mg "row_index" (top 80) ["board", "value", "words"]
  d_insert_into : Df K mg "insert_into" (top 78) ["board", "keys", "place"]
  d_new_board_door : Df K mg "new_board_door" (top 73) ["slots", "given"]
  d_board_keys_door : Df K mg "board_keys_door" (top 74) ["slots", "given"]
  d_insert_row_door : Df K mg "insert_row_door" (top 79) ["slots", "given"]
  d_move_row_door : Df K mg "move_row_door" (top 81) ["slots", "given"]
  d_remove_row_door : Df K mg "remove_row_door" (top 82) ["slots", "given"]
  d_new_game_door : Df K mg "new_game_door" (top 85) ["slots", "given"]
  d_game_state_door : Df K mg "game_state_door" (top 86) ["slots", "given"]
  d_is_answer : Df K mg "is_answer" (top 87) ["game", "value"]
  d_answer_key_door : Df K mg "answer_key_door" (top 88) ["slots", "given"]
  d_shortest_key_door : Df K mg "shortest_key_door" (top 93) ["slots", "given"]
  d_many_keys_door : Df K mg "many_keys_door" (top 94) ["slots", "given"]
  d_middle_door : Df K mg "middle_door" (top 95) ["slots", "given"]
  d_room_door : Df K mg "room_door" (top 96) ["slots", "given"]
  d_insertions_door : Df K mg "insertions_door" (top 97) ["slots", "given"]
  d_some_keys_door : Df K mg "some_keys_door" (top 98) ["slots", "given"]
  d_is_list_of_texts : Df K mg "is_list_of_texts" (top 99) ["value"]
  d_rekey_door : Df K mg "rekey_door" (top 100) ["slots", "given"]
  d_bare : Df K mg "bare" (top 101) ["text"]
  d_row_value : Df K mg "row_value" (top 102) ["name", "key"]
  d_merged_key : Df K mg "merged_key" (top 90) ["base", "one", "other"]
  d_merged_rows : Df K mg "merged_rows" (top 91) ["base", "one", "other"]
  d_merge_door : Df K mg "merge_door" (top 104) ["slots", "given"]
  d_arguments_of : Df K mg "arguments_of" (top 109) ["request"]
  d_refusal : Df K mg "refusal" (top 110) ["sort", "words"]
  d_rows_door : Df K mg "rows_door" (top 103) ["slots", "given"]
  d_answer_to : Df K mg "answer_to" (top 111) ["slots", "request"]
  m_Board : Dm K z.cB "Board.__init__" (inClass (top 72) 0) ["self", "limit", "middle"]
  m_Game : Dm K z.cG "Game.__init__" (inClass (top 84) 0) ["self", "before", "after", "limit"]
  m_Slots : Dm K z.cS "Slots.__init__" (inClass (top 108) 0) ["self"]
section
variable {K : PySem.W.Frag} {h : Heap} {mg : Str → Option Value}
theorem df_mk {x : Str} {st : Stmt} {ps : List Str} {f : Addr} {oc : Value} {od an : Option Addr} {osl : Array (Option Value)} {kV doc pm cdv ct : Value} (X : K.In h) (G : h.Ns mainGlobals mg) (a : PySem.W.nsIn K mainGlobals x = some (some (.ref f)))
    (l : K.lookup f = some ⟨oc, od, .func (PySem.W.fnOf x x (defArgs st) (defBody st) (defScope st) .none kV doc pm an cdv ct), osl⟩) (c : PySem.W.codeIn K cdv x = true) (k : PySem.W.keepIn K (.ref f) = true)
    (b : ∀ (kV doc pm : Value) (an : Option Addr) (cdv ct : Value) (us : List Value), us.length = ps.length → bindArgs (PySem.W.fnOf x x (defArgs st) (defBody st) (defScope st) .none kV doc pm an cdv ct) ⟨us, []⟩ = pure (ps.zip us)) : Df K mg x st ps ∧ mg x = some (.ref f) :=
  ⟨⟨f, _, fun_mk l c k, PySem.W.mg_of X G a, (fun_mk (st := st) l c k).binds b⟩, PySem.W.mg_of X G a⟩
theorem dm_mk {C f : Addr} {x : Str} {st : Stmt} {ps : List Str} {oc : Value} {od an : Option Addr} {osl : Array (Option Value)} {kV doc pm cdv ct : Value} (i : PySem.W.findIn K (.ref C) "__init__" = some (some (.ref f)))
    (l : K.lookup f = some ⟨oc, od, .func (PySem.W.fnOf "__init__" x (defArgs st) (defBody st) (defScope st) .none kV doc pm an cdv ct), osl⟩) (c : PySem.W.codeIn K cdv x = true) (k : PySem.W.keepIn K (.ref f) = true) (m : PySem.W.makesIn K C = true) (n : PySem.W.isFn K (.ref f) = true) (q : PySem.W.keepIn K (.ref C) = true)
    (b : ∀ (kV doc pm : Value) (an : Option Addr) (cdv ct : Value) (us : List Value), us.length = ps.length → bindArgs (PySem.W.fnOf "__init__" x (defArgs st) (defBody st) (defScope st) .none kV doc pm an cdv ct) ⟨us, []⟩ = pure (ps.zip us)) : Dm K C x st ps :=
  ⟨f, _, fun_mk l c k, ⟨m, i, n, q⟩, (fun_mk (st := st) l c k).binds b⟩
theorem int_mk {x : Str} {i : Int} {t : Tok} (X : K.In h) (G : h.Ns mainGlobals mg) (a : PySem.W.nsIn K mainGlobals x = some (some (.int i t))) : ∃ u, mg x = some u ∧ RelV (.int i) u := ⟨_, PySem.W.mg_of X G a, _, rfl⟩
theorem ref_mk {x : Str} {f : Addr} (X : K.In h) (G : h.Ns mainGlobals mg) (a : PySem.W.nsIn K mainGlobals x = some (some (.ref f))) : ∃ u, mg x = some u ∧ RelV (.ref f) u := ⟨_, PySem.W.mg_of X G a, rfl⟩
theorem tup2_mk {f : Addr} {i j : Int} {t u : Tok} {od : Option Addr} {n : Nat} {sl : Array (Option Value)} (l : K.lookup f = some ⟨.type "tuple", od, .seq #[.int i t, .int j u] n, sl⟩) (H : Hp) : SqT K H f [.int i, .int j] :=
  .inr ⟨_, _, _, l, rfl, rfl, by show 2 ≤ _; rw [sizeLine_eq]; decide, .cons ⟨_, rfl⟩ (.cons ⟨_, rfl⟩ .nil)⟩
theorem refs_vals : ∀ fs : List Addr, Vals (fs.map V.ref) (fs.map Value.ref)
  | [] => .nil
  | _ :: fs => .cons rfl (refs_vals fs)
theorem tupR_mk {f : Addr} {fs : List Addr} {od : Option Addr} {n : Nat} {sl : Array (Option Value)} {its : Array Value} (l : K.lookup f = some ⟨.type "tuple", od, .seq its n, sl⟩) (e : its.toList = fs.map Value.ref) (z : its.size ≤ 1000) (H : Hp) : SqT K H f (fs.map V.ref) :=
  .inr ⟨_, _, _, l, rfl, rfl, Nat.le_trans z (by rw [sizeLine_eq]; decide), by rw [e]; exact refs_vals fs⟩
end
section
variable {K : PySem.W.Frag} {h : Heap} {mg : Str → Option Value} {C0 : Prop}
theorem fk_df {x : Str} {st : Stmt} {ps : List Str} {f : Addr} {oc : Value} {od an : Option Addr} {osl : Array (Option Value)} {kV doc pm cdv ct : Value} (X : K.In h) (G : h.Ns mainGlobals mg) (a : PySem.W.nsIn K mainGlobals x = some (some (.ref f)))
    (l : K.lookup f = some ⟨oc, od, .func (PySem.W.fnOf x x (defArgs st) (defBody st) (defScope st) .none kV doc pm an cdv ct), osl⟩) (c : PySem.W.codeIn K cdv x = true) (k : PySem.W.keepIn K (.ref f) = true)
    (b : ∀ (kV doc pm : Value) (an : Option Addr) (cdv ct : Value) (us : List Value), us.length = ps.length → bindArgs (PySem.W.fnOf x x (defArgs st) (defBody st) (defScope st) .none kV doc pm an cdv ct) ⟨us, []⟩ = pure (ps.zip us))
    (q : Df K mg x st ps → mg x = some (.ref f) → C0) : C0 := let ⟨d, g⟩ := df_mk X G a l c k b; q d g
theorem fk_dm {y : Str} {C f : Addr} {x : Str} {st : Stmt} {ps : List Str} {oc : Value} {od an : Option Addr} {osl : Array (Option Value)} {kV doc pm cdv ct : Value} (X : K.In h) (e : PySem.W.nsIn K mainGlobals y = some (some (.ref C))) (i : PySem.W.findIn K (.ref C) "__init__" = some (some (.ref f)))
    (l : K.lookup f = some ⟨oc, od, .func (PySem.W.fnOf "__init__" x (defArgs st) (defBody st) (defScope st) .none kV doc pm an cdv ct), osl⟩) (c : PySem.W.codeIn K cdv x = true) (k : PySem.W.keepIn K (.ref f) = true) (m : PySem.W.makesIn K C = true) (n : PySem.W.isFn K (.ref f) = true) (p : PySem.W.keepIn K (.ref C) = true)
    (b : ∀ (kV doc pm : Value) (an : Option Addr) (cdv ct : Value) (us : List Value), us.length = ps.length → bindArgs (PySem.W.fnOf "__init__" x (defArgs st) (defBody st) (defScope st) .none kV doc pm an cdv ct) ⟨us, []⟩ = pure (ps.zip us))
    (q : Dm K C x st ps → C0) : C0 := q (dm_mk i l c k m n p b)
/-- a class of ours -/
theorem fk_cls {y : Str} {C : Addr} (X : K.In h) (G : h.Ns mainGlobals mg) (e : PySem.W.nsIn K mainGlobals y = some (some (.ref C))) (pg : PySem.W.plainGet K C Str.empty = true) (hd : PySem.W.hasDictIn K C = true) (po : PySem.W.plainOver K C = true)
    (sa : PySem.W.findIn K (.ref C) "__setattr__" = some (some (.builtin "object.__setattr__"))) (q : mg y = some (.ref C) → Cls K C → C0) : C0 := q (PySem.W.mg_of X G e) ⟨pg, hd, po, sa⟩
/-- an error class of ours -/
structure Xc (K : PySem.W.Frag) (C : Addr) : Prop where
  x : PySem.W.excIn K C [.type "Exception", .type "BaseException", .type "object"] "Exception.__new__" = true
  k : PySem.W.keepIn K (.ref C) = true
  b : PySem.W.subIn K (.ref C) (.type "BaseException") = some true
  t : PySem.W.typeIn K (.ref C) = some (.type "type")
  s : PySem.W.findIn K (.ref C) "__str__" = some (some (.builtin "BaseException.__str__"))
  i : PySem.W.isClsIn K C = true
  o : PySem.W.subIn K (.ref C) (.ref C) = some true
theorem fk_exc {y : Str} {C : Addr} (X : K.In h) (G : h.Ns mainGlobals mg) (e : PySem.W.nsIn K mainGlobals y = some (some (.ref C))) (x : PySem.W.excIn K C [.type "Exception", .type "BaseException", .type "object"] "Exception.__new__" = true)
    (k : PySem.W.keepIn K (.ref C) = true) (b : PySem.W.subIn K (.ref C) (.type "BaseException") = some true) (t : PySem.W.typeIn K (.ref C) = some (.type "type")) (s : PySem.W.findIn K (.ref C) "__str__" = some (some (.builtin "BaseException.__str__")))
    (i : PySem.W.isClsIn K C = true) (o : PySem.W.subIn K (.ref C) (.ref C) = some true) (q : mg y = some (.ref C) → Xc K C → C0) : C0 := q (PySem.W.mg_of X G e) ⟨x, k, b, t, s, i, o⟩
theorem fk_int {x : Str} {i : Int} {t : Tok} (X : K.In h) (G : h.Ns mainGlobals mg) (a : PySem.W.nsIn K mainGlobals x = some (some (.int i t))) (q : (∃ u, mg x = some u ∧ RelV (.int i) u) → C0) : C0 := q (int_mk X G a)
theorem fk_bt {x : Str} (X : K.In h) (G : h.Ns mainGlobals mg) (a : PySem.W.nsIn K mainGlobals x = some none) (q : mg x = none → C0) : C0 := q (PySem.W.mg_none_of X G a)
theorem fk_tup {x : Str} {f : Addr} {i j : Int} {t u : Tok} {od : Option Addr} {n : Nat} {sl : Array (Option Value)} (X : K.In h) (G : h.Ns mainGlobals mg) (a : PySem.W.nsIn K mainGlobals x = some (some (.ref f)))
    (l : K.lookup f = some ⟨.type "tuple", od, .seq #[.int i t, .int j u] n, sl⟩) (q : (∃ u, mg x = some u ∧ RelV (.ref f) u) → (∀ H : Hp, SqT K H f [.int i, .int j]) → C0) : C0 := q (ref_mk X G a) (tup2_mk l)
theorem fk_no {y : Str} {C : Addr} (f : Str) (X : K.In h) (e : PySem.W.nsIn K mainGlobals y = some (some (.ref C))) (a : PySem.W.findIn K (.ref C) f = some none) (q : NoAttr K C f → C0) : C0 := q a
theorem fk_sub {y1 y2 : Str} {C D : Addr} {b : Bool} (X : K.In h) (e1 : PySem.W.nsIn K mainGlobals y1 = some (some (.ref C))) (e2 : PySem.W.nsIn K mainGlobals y2 = some (some (.ref D))) (s : PySem.W.subIn K (.ref C) (.ref D) = some b) (q : PySem.W.subIn K (.ref C) (.ref D) = some b → C0) : C0 := q s
theorem exm_one {S T : Addr} {b : Bool} (x : Xc K T) (h4 : PySem.W.subIn K (.ref S) (.ref T) = some b) : PySem.W.exmOne K (.ref S) (.ref T) = some b := by
  have e1 : (PySem.W.subIn K (.ref T) (.type "BaseException") == some true) = true := by rw [x.b]; rfl
  have e2 : ((PySem.W.clsIn K T).isSome && PySem.W.typeIn K (.ref T) == some (.type "type")) = true := by
    rw [show (PySem.W.clsIn K T).isSome = true from x.i, x.t]
    rfl
  show (if _ then (if _ then PySem.W.subIn K (.ref S) (.ref T) else none) else none) = some b
  rw [if_pos e1, if_pos e2]
  exact h4
theorem gb_of {aN aU cW cO cB cG cS : Addr} (b_len : mg "len" = none)
    (b_range : mg "range" = none)
    (b_tuple : mg "tuple" = none)
    (b_list : mg "list" = none)
    (b_ord : mg "ord" = none)
    (b_str : mg "str" = none)
    (b_enumerate : mg "enumerate" = none)
    (b_min : mg "min" = none)
    (b_max : mg "max" = none)
    (b_all : mg "all" = none)
    (b_set : mg "set" = none)
    (b_dict : mg "dict" = none)
    (b_sorted : mg "sorted" = none)
    (i_LONGEST_BOUND : ∃ u, mg "LONGEST_BOUND" = some u ∧ RelV (.int 20) u)
    (i_LONGEST_SPREAD : ∃ u, mg "LONGEST_SPREAD" = some u ∧ RelV (.int 22) u)
    (i_NULL_KIND : ∃ u, mg "NULL_KIND" = some u ∧ RelV (.int 1) u)
    (i_FALSE_KIND : ∃ u, mg "FALSE_KIND" = some u ∧ RelV (.int 2) u)
    (i_TRUE_KIND : ∃ u, mg "TRUE_KIND" = some u ∧ RelV (.int 3) u)
    (i_INTEGER : ∃ u, mg "INTEGER" = some u ∧ RelV (.int 4) u)
    (i_TEXT : ∃ u, mg "TEXT" = some u ∧ RelV (.int 6) u)
    (i_LIST : ∃ u, mg "LIST" = some u ∧ RelV (.int 7) u)
    (i_RECORD : ∃ u, mg "RECORD" = some u ∧ RelV (.int 8) u)
    (i_MOST_ARGUMENTS : ∃ u, mg "MOST_ARGUMENTS" = some u ∧ RelV (.int 5) u)
    (i_NOTHING : ∃ u, mg "NOTHING" = some u ∧ RelV (.ref aN) u)
    (t_NOTHING : ∀ H : Hp, SqT K H aN [.int 0, .int 0])
    (i_NULL : ∃ u, mg "NULL" = some u ∧ RelV (.ref aU) u)
    (t_NULL : ∀ H : Hp, SqT K H aU [.int 1, .int 0])
    (g_Board : mg "Board" = some (.ref cB))
    (g_Game : mg "Game" = some (.ref cG))
    (g_Slots : mg "Slots" = some (.ref cS))
    (g_WrongKind : mg "WrongKind" = some (.ref cW))
    (g_OutOfRange : mg "OutOfRange" = some (.ref cO))
    (x_WrongKind : Xc K cW)
    (x_OutOfRange : Xc K cO)
    (s_OW : PySem.W.subIn K (.ref cO) (.ref cW) = some false)
    (cl_Board : Cls K cB)
    (cl_Game : Cls K cG)
    (cl_Slots : Cls K cS)
    (n_Board_limit : NoAttr K cB "limit")
    (n_Board_middle : NoAttr K cB "middle")
    (n_Board_row_keys : NoAttr K cB "row_keys")
    (n_Game_before : NoAttr K cG "before")
    (n_Game_after : NoAttr K cG "after")
    (n_Game_limit : NoAttr K cG "limit")
    (n_Game_answered : NoAttr K cG "answered")
    (n_Slots_boards : NoAttr K cS "boards")
    (n_Slots_games : NoAttr K cS "games") :
    Gb K mg ⟨aN, aU, aN, cW, cO, cB, cG, cS⟩ :=
  { len := b_len, range := b_range, tuple := b_tuple, list := b_list, ord := b_ord, str := b_str, enumerate := b_enumerate, min := b_min, max := b_max, all := b_all, set := b_set, dict := b_dict, sorted := b_sorted, cLONGEST_BOUND := i_LONGEST_BOUND, cLONGEST_SPREAD := i_LONGEST_SPREAD, cNULL_KIND := i_NULL_KIND, cFALSE_KIND := i_FALSE_KIND, cTRUE_KIND := i_TRUE_KIND, cINTEGER := i_INTEGER, cTEXT := i_TEXT, cLIST := i_LIST, cRECORD := i_RECORD, cMOST_ARGUMENTS := i_MOST_ARGUMENTS, cNOTHING := i_NOTHING, cNULL := i_NULL, tN := t_NOTHING, tU := t_NULL, gBoard := g_Board, gGame := g_Game, gSlots := g_Slots, gWrongKind := g_WrongKind, gOutOfRange := g_OutOfRange, xWrongKind := x_WrongKind.x, kWrongKind := x_WrongKind.k, bWrongKind := x_WrongKind.b, tWrongKind := x_WrongKind.t, sWrongKind := x_WrongKind.s, xOutOfRange := x_OutOfRange.x, kOutOfRange := x_OutOfRange.k, bOutOfRange := x_OutOfRange.b, tOutOfRange := x_OutOfRange.t, sOutOfRange := x_OutOfRange.s, eWW := exm_one x_WrongKind x_WrongKind.o, eOW := exm_one x_WrongKind s_OW, eOO := exm_one x_OutOfRange x_OutOfRange.o, clB := cl_Board, clG := cl_Game, clS := cl_Slots, nBl := n_Board_limit, nBm := n_Board_middle, nBr := n_Board_row_keys, nGb := n_Game_before, nGa := n_Game_after, nGl := n_Game_limit, nGn := n_Game_answered, nSb := n_Slots_boards, nSg := n_Slots_games }
end
/-- the promise of the row's def -/
def spTop (K : PySem.W.Frag) : Sp := fun vs H Q _ => ∃ (a : Addr) (ns : List Int), vs = [.ref a] ∧ SqL K H a (ns.map V.int) ∧ PyZr09.answers_asked ns = true ∧ ∀ (H' : Hp) (p : Addr), H' p = some (.lst ((PyZr09.answers ns).map V.int)) → Q (.ref p) H'
/-- what the top has left, all of it -/
structure Pt (K : PySem.W.Frag) (mg : Str → Option Value) (fa : Addr) : Prop where
  ex : ∃ (z : Ads) (aD a_shortest_key_door a_many_keys_door a_middle_door a_room_door a_insertions_door a_some_keys_door a_rekey_door a_rows_door a_merge_door a_new_board_door a_board_keys_door a_insert_row_door a_move_row_door a_remove_row_door a_new_game_door a_game_state_door a_answer_key_door : Addr) (fd : FuncData), Dfs K mg z ∧ Gb K mg z ∧ ((∃ u, mg "DOORS" = some u ∧ RelV (.ref aD) u) ∧ ∀ H : Hp, SqT K H aD ([a_shortest_key_door, a_many_keys_door, a_middle_door, a_room_door, a_insertions_door, a_some_keys_door, a_rekey_door, a_rows_door, a_merge_door, a_new_board_door, a_board_keys_door, a_insert_row_door, a_move_row_door, a_remove_row_door, a_new_game_door, a_game_state_door, a_answer_key_door].map V.ref)) ∧ (mg "shortest_key_door" = some (.ref a_shortest_key_door) ∧ mg "many_keys_door" = some (.ref a_many_keys_door) ∧ mg "middle_door" = some (.ref a_middle_door) ∧ mg "room_door" = some (.ref a_room_door) ∧ mg "insertions_door" = some (.ref a_insertions_door) ∧ mg "some_keys_door" = some (.ref a_some_keys_door) ∧ mg "rekey_door" = some (.ref a_rekey_door) ∧ mg "rows_door" = some (.ref a_rows_door) ∧ mg "merge_door" = some (.ref a_merge_door) ∧ mg "new_board_door" = some (.ref a_new_board_door) ∧ mg "board_keys_door" = some (.ref a_board_keys_door) ∧ mg "insert_row_door" = some (.ref a_insert_row_door) ∧ mg "move_row_door" = some (.ref a_move_row_door) ∧ mg "remove_row_door" = some (.ref a_remove_row_door) ∧ mg "new_game_door" = some (.ref a_new_game_door) ∧ mg "game_state_door" = some (.ref a_game_state_door) ∧ mg "answer_key_door" = some (.ref a_answer_key_door)) ∧
    Fun K "answers" "answers" (top 112) fa fd ∧ ∀ (s : Shared) (us : List Value), us.length = (["calls"] : List Str).length → BindsTo s fd ⟨us, []⟩ ((["calls"] : List Str).zip us)
theorem pt_mk {K : PySem.W.Frag} {h : Heap} {mg : Str → Option Value} {z : Ads} {fa : Addr} {aD a_shortest_key_door a_many_keys_door a_middle_door a_room_door a_insertions_door a_some_keys_door a_rekey_door a_rows_door a_merge_door a_new_board_door a_board_keys_door a_insert_row_door a_move_row_door a_remove_row_door a_new_game_door a_game_state_door a_answer_key_door : Addr} (B : Gb K mg z) (D : Dfs K mg z) (X : K.In h) (G : h.Ns mainGlobals mg) (hfa : mg "answers" = some (.ref fa)) {f : Addr} {oc : Value} {od an : Option Addr} {osl : Array (Option Value)} {kV doc pm cdv ct : Value}
    {oD : Option Addr} {nD : Nat} {sD : Array (Option Value)} (nDOORS : PySem.W.nsIn K mainGlobals "DOORS" = some (some (.ref aD))) (lD : K.lookup aD = some ⟨.type "tuple", oD, .seq #[.ref a_shortest_key_door, .ref a_many_keys_door, .ref a_middle_door, .ref a_room_door, .ref a_insertions_door, .ref a_some_keys_door, .ref a_rekey_door, .ref a_rows_door, .ref a_merge_door, .ref a_new_board_door, .ref a_board_keys_door, .ref a_insert_row_door, .ref a_move_row_door, .ref a_remove_row_door, .ref a_new_game_door, .ref a_game_state_door, .ref a_answer_key_door] nD, sD⟩)
    (g : mg "shortest_key_door" = some (.ref a_shortest_key_door) ∧ mg "many_keys_door" = some (.ref a_many_keys_door) ∧ mg "middle_door" = some (.ref a_middle_door) ∧ mg "room_door" = some (.ref a_room_door) ∧ mg "insertions_door" = some (.ref a_insertions_door) ∧ mg "some_keys_door" = some (.ref a_some_keys_door) ∧ mg "rekey_door" = some (.ref a_rekey_door) ∧ mg "rows_door" = some (.ref a_rows_door) ∧ mg "merge_door" = some (.ref a_merge_door) ∧ mg "new_board_door" = some (.ref a_new_board_door) ∧ mg "board_keys_door" = some (.ref a_board_keys_door) ∧ mg "insert_row_door" = some (.ref a_insert_row_door) ∧ mg "move_row_door" = some (.ref a_move_row_door) ∧ mg "remove_row_door" = some (.ref a_remove_row_door) ∧ mg "new_game_door" = some (.ref a_new_game_door) ∧ mg "game_state_door" = some (.ref a_game_state_door) ∧ mg "answer_key_door" = some (.ref a_answer_key_door))
    (a : PySem.W.nsIn K mainGlobals "answers" = some (some (.ref f))) (l : K.lookup f = some ⟨oc, od, .func (PySem.W.fnOf "answers" "answers" (defArgs (top 112)) (defBody (top 112)) (defScope (top 112)) .none kV doc pm an cdv ct), osl⟩) (c : PySem.W.codeIn K cdv "answers" = true) (k : PySem.W.keepIn K (.ref f) = true) : Pt K mg fa := by
  have e := hfa.symm.trans (PySem.W.mg_of X G a)
  cases e
  exact ⟨z, aD, a_shortest_key_door, a_many_keys_door, a_middle_door, a_room_door, a_insertions_door, a_some_keys_door, a_rekey_door, a_rows_door, a_merge_door, a_new_board_door, a_board_keys_door, a_insert_row_door, a_move_row_door, a_remove_row_door, a_new_game_door, a_game_state_door, a_answer_key_door, _, D, B, ⟨ref_mk X G nDOORS, tupR_mk lD rfl (by show 17 ≤ 1000; decide)⟩, g, fun_mk (st := (top 112)) l c k, fun s us hu => match us, hu with | [_], _ => .of_eq rfl⟩
/-- the row's walk, where exceptions of ours are made within -/
theorem walk_M {r : PySem.W.OpenSpec} {k : Nat} {q : Program} {loose : List Str} {XP : (Str → Option Value) → Heap → Prop} {YP : World → Heap → Prop} {d : DefRec} {K : Params → PySem.W.Frag} {ps : List Str} {sp : PySem.W.Frag → Sp}
    (hwell : r.wellSaid = true) (hdf : d.params.defaults = []) (hlen : r.args.length = ps.length) (hr : Room k callerA) (hY : ∀ (w : World) (h : Heap), YP w h → (K w.params).In h)
    (F : ∀ (w : World) (mg : Str → Option Value) (fa : Addr) (h : Heap), YP w h → (K w.params).In h → h.Ns mainGlobals mg → mg d.name = some (.ref fa) →
      ∃ fd : FuncData, (∀ (s : Shared) (us : List Value), us.length = ps.length → BindsTo s fd ⟨us, []⟩ (ps.zip us)) ∧ ∀ (P : Program) (w' : World) (base : Heap), FnOk P w' (K w.params) mg base (CXm P w') k fa fd ps (sp (K w.params)))
    (S : ∀ (K : PySem.W.Frag) (H : Hp) (xs : List V) (a : PySem.W.Codec.denoteAll r.args), OnlyF H → PySem.W.Codec.withinAll r.args a = true → PySem.W.Codec.app r.args r.asked a = true → DwAll K H xs (PySem.W.Codec.encAll r.args a) →
      sp K xs H (fun v H' => Dw K H' v (r.ret.enc (PySem.W.Codec.app r.args r.f a))) fun _ _ _ => False) : PySem.W.WalkOS q loose XP YP r d [] (fun f vs => PySem.call f vs) :=
  walk_spec (K := K) (CX := fun w => CXm r.prog w) (sp := fun w => sp (K w.params)) hwell hdf hlen hr hY (fun w mg fa h Y KX G hmg => let ⟨fd, b, f⟩ := F w mg fa h Y KX G hmg; ⟨fd, b, fun base _ _ => f r.prog w base⟩)
    (fun w H xs a h1 h2 h3 h4 => S (K w.params) H xs a h1 h2 h3 h4) fun _ _ _ _ _ z => CXm.none z
end OK
namespace OK
open R7290f.Spec
/-! ### A. digits, keys, numbers -/
def dg (o : Int) : Int := if 48 ≤ o ∧ o ≤ 57 then o - 48 else if 97 ≤ o ∧ o ≤ 122 then o - 87 else -1
def oc (d : Int) : Int := if d < 10 then d + 48 else d + 87
def kI (k : List Nat) : List Int := k.map fun (d : Nat) => oc (d : Int)
def uI (u : List UInt16) : List Int := u.map fun (c : UInt16) => (c.toNat : Int)
def Dig (k : List Nat) : Prop := ∀ d ∈ k, d < 36
structure KeyOk (k : List Nat) : Prop where
  dig : Dig k
  ne : k ≠ []
  last : k.getLast? ≠ some 0
  le : k.length ≤ 20
theorem dg_oc {d : Nat} (h : d < 36) : dg (oc (d : Int)) = (d : Int) := by
  unfold dg oc
  split <;> split <;> (try split) <;> omega
theorem oc_inj {a b : Nat} (ha : a < 36) (hb : b < 36) (h : oc (a : Int) = oc (b : Int)) : a = b := by
  have h1 := dg_oc ha
  have h2 := dg_oc hb
  rw [h] at h1
  omega
theorem oc_lt {a b : Nat} (ha : a < 36) (hb : b < 36) : oc (a : Int) < oc (b : Int) ↔ a < b := by
  unfold oc
  split <;> split <;> omega
theorem digitOf_some {c : UInt16} {d : Nat} (h : digitOf c = some d) : (c.toNat : Int) = oc (d : Int) ∧ d < 36 := by
  unfold digitOf at h
  simp only [Bool.and_eq_true, decide_eq_true_eq, UInt16.le_iff_toNat_le] at h
  have e1 : (48 : UInt16).toNat = 48 := rfl
  have e2 : (57 : UInt16).toNat = 57 := rfl
  have e3 : (97 : UInt16).toNat = 97 := rfl
  have e4 : (122 : UInt16).toNat = 122 := rfl
  rw [e1, e2, e3, e4] at h
  unfold oc
  split at h
  · injection h with h
    split <;> omega
  · split at h
    · injection h with h
      split <;> omega
    · cases h
theorem digitOf_none {c : UInt16} (h : digitOf c = none) : dg (c.toNat : Int) < 0 := by
  unfold digitOf at h
  simp only [Bool.and_eq_true, decide_eq_true_eq, UInt16.le_iff_toNat_le] at h
  have e1 : (48 : UInt16).toNat = 48 := rfl
  have e2 : (57 : UInt16).toNat = 57 := rfl
  have e3 : (97 : UInt16).toNat = 97 := rfl
  have e4 : (122 : UInt16).toNat = 122 := rfl
  rw [e1, e2, e3, e4] at h
  unfold dg
  split at h
  · cases h
  · split at h
    · cases h
    · split
      · omega
      · split <;> omega
theorem allDigits_some : ∀ {u : List UInt16} {k : List Nat}, allDigits u = some k → uI u = kI k ∧ Dig k
  | [], k, h => by
    simp only [allDigits, Option.some.injEq] at h
    subst h
    exact ⟨rfl, fun d hd => by cases hd⟩
  | c :: r, k, h => by
    simp only [allDigits] at h
    cases e : digitOf c with
    | none => rw [e] at h; cases h
    | some d =>
      rw [e] at h
      cases q : allDigits r with
      | none => rw [q] at h; cases h
      | some t =>
        rw [q] at h
        simp only [Option.map_some, Option.some.injEq] at h
        subst h
        obtain ⟨h1, h2⟩ := allDigits_some q
        obtain ⟨h3, h4⟩ := digitOf_some e
        refine ⟨?_, fun x hx => ?_⟩
        · show (c.toNat : Int) :: uI r = oc (d : Int) :: kI t
          rw [h1, h3]
        · rcases List.mem_cons.mp hx with rfl | hx
          · exact h4
          · exact h2 x hx
theorem allDigits_none : ∀ {u : List UInt16}, allDigits u = none → ∃ o ∈ uI u, dg o < 0
  | [], h => by simp [allDigits] at h
  | c :: r, h => by
    simp only [allDigits] at h
    cases e : digitOf c with
    | none => exact ⟨_, List.mem_cons_self, digitOf_none e⟩
    | some d =>
      rw [e] at h
      cases q : allDigits r with
      | none =>
        obtain ⟨o, ho, hd⟩ := allDigits_none q
        exact ⟨o, List.mem_cons_of_mem _ ho, hd⟩
      | some t => rw [q] at h; cases h
theorem kI_len (k : List Nat) : (kI k).length = k.length := List.length_map _
theorem uI_len (u : List UInt16) : (uI u).length = u.length := List.length_map _
theorem kI_inj : ∀ {a b : List Nat}, Dig a → Dig b → kI a = kI b → a = b
  | [], [], _, _, _ => rfl
  | [], _ :: _, _, _, h => by cases h
  | _ :: _, [], _, _, h => by cases h
  | x :: a, y :: b, ha, hb, h => by
    have h1 : oc (x : Int) = oc (y : Int) := (List.cons.inj h).1
    have h2 : kI a = kI b := (List.cons.inj h).2
    rw [oc_inj (ha x List.mem_cons_self) (hb y List.mem_cons_self) h1, kI_inj (fun d hd => ha d (List.mem_cons_of_mem _ hd)) (fun d hd => hb d (List.mem_cons_of_mem _ hd)) h2]
/-- what is_key says -/
def isKeyI (l : List Int) (n : Int) : Bool := decide (1 ≤ (l.length : Int) ∧ (l.length : Int) ≤ n) && (l.all fun o => decide (0 ≤ dg o)) && !decide (l.getLast? = some 48)
theorem kI_all {k : List Nat} (h : Dig k) : ((kI k).all fun o => decide (0 ≤ dg o)) = true := by
  rw [List.all_eq_true]
  intro o ho
  obtain ⟨d, hd, rfl⟩ := List.mem_map.mp ho
  rw [dg_oc (h d hd)]
  exact decide_eq_true (Int.natCast_nonneg _)
theorem kI_last {k : List Nat} (h : Dig k) : decide ((kI k).getLast? = some 48) = decide (k.getLast? = some 0) := by
  unfold kI
  rw [List.getLast?_map]
  cases e : k.getLast? with
  | none => rfl
  | some d =>
    have hd : d < 36 := h d (List.mem_of_getLast? e)
    simp only [Option.map_some, Option.some.injEq]
    have z : (oc (d : Int) = 48) ↔ d = 0 := by
      unfold oc
      split <;> omega
    exact decide_eq_decide.mpr z
theorem isKeyI_text (u : List UInt16) (n : Nat) (hn : n ≤ 20) : isKeyI (uI u) (n : Int) = match keyOfText u with
    | some k => decide (k.length ≤ n)
    | none => false := by
  unfold keyOfText
  cases e : allDigits u with
  | none =>
    obtain ⟨o, ho, hd⟩ := allDigits_none e
    have h2 : ((uI u).all fun o => decide (0 ≤ dg o)) = false := by
      rw [List.all_eq_false]
      exact ⟨o, ho, by simp; omega⟩
    show isKeyI (uI u) (n : Int) = false
    unfold isKeyI
    rw [h2, Bool.and_false, Bool.false_and]
  | some k =>
    obtain ⟨h1, h2⟩ := allDigits_some e
    show isKeyI (uI u) (n : Int) = match (if isKey k then some k else none) with
      | some k => decide (k.length ≤ n)
      | none => false
    unfold isKeyI isKey
    rw [h1, kI_all h2, kI_last h2, kI_len, Bool.and_true]
    have e1 : (!decide (k.getLast? = some 0)) = (k.getLast? != some 0) := by
      cases hq : k.getLast? with
      | none => rfl
      | some d =>
        by_cases hd : d = 0
        · subst hd
          rfl
        · have : ¬ (some d = some 0) := fun z => hd (Option.some.inj z)
          rw [decide_eq_false this, bne_iff_ne.mpr this] <;> rfl
    rw [e1]
    cases hq : (k.getLast? != some 0) with
    | false =>
      simp
    | true =>
      by_cases h3 : 1 ≤ k.length ∧ k.length ≤ 20
      · have : (decide (1 ≤ k.length) && decide (k.length ≤ maxKeyLength) && true) = true := by
          simp [maxKeyLength, h3.1, h3.2]
        rw [if_pos this]
        simp only [Bool.and_true]
        exact decide_eq_decide.mpr (by omega)
      · have : ¬ (decide (1 ≤ k.length) && decide (k.length ≤ maxKeyLength) && true) = true := by
          intro z
          simp only [Bool.and_true, Bool.and_eq_true] at z
          exact h3 ⟨of_decide_eq_true z.1, of_decide_eq_true z.2⟩
        rw [if_neg this]
        simp only [Bool.and_true]
        exact decide_eq_false (by omega)
theorem keyOfText_some {u : List UInt16} {k : List Nat} (h : keyOfText u = some k) : uI u = kI k ∧ KeyOk k := by
  unfold keyOfText at h
  cases e : allDigits u with
  | none => rw [e] at h; cases h
  | some j =>
    rw [e] at h
    obtain ⟨h1, h2⟩ := allDigits_some e
    by_cases q : isKey j = true
    · have h' : (if isKey j = true then some j else none) = some k := h
      rw [if_pos q] at h'
      cases h'
      refine ⟨h1, h2, ?_, ?_, ?_⟩
      all_goals unfold isKey at q
      all_goals simp only [Bool.and_eq_true, bne_iff_ne] at q
      · intro z
        subst z
        exact absurd q.1.1 (by decide)
      · exact q.2
      · exact of_decide_eq_true q.1.2
    · have h' : (if isKey j = true then some j else none) = some k := h
      rw [if_neg q] at h'
      cases h'
theorem oc_unitOf {d : Nat} (h : d < 36) : ((unitOf d).toNat : Int) = oc (d : Int) := by
  unfold unitOf oc
  split
  · rw [UInt16.toNat_ofNat_of_lt' (by show _ < 65536; omega), if_pos (by omega)]
    omega
  · rw [UInt16.toNat_ofNat_of_lt' (by show _ < 65536; omega), if_neg (by omega)]
    omega
theorem uI_textOf {k : List Nat} (h : Dig k) : uI (textOf k) = kI k := by
  unfold uI textOf kI
  rw [List.map_map]
  exact List.map_congr_left fun d hd => oc_unitOf (h d hd)
/-! ### B. numbers of keys -/
theorem numberOf_snoc : ∀ (i : Nat) (k : List Nat), numberOf (i + 1) k = numberOf i k * 36 + k.getD i 0
  | 0, [] => rfl
  | 0, d :: r => by
    show d * base ^ 0 + numberOf 0 r = 0 * 36 + d
    simp [numberOf]
  | i + 1, [] => by simp [numberOf]
  | i + 1, d :: r => by
    have ih := numberOf_snoc i r
    show d * base ^ (i + 1) + numberOf (i + 1) r = (d * base ^ i + numberOf i r) * 36 + r.getD i 0
    rw [ih, Nat.pow_succ]
    show d * (base ^ i * 36) + (numberOf i r * 36 + r.getD i 0) = _
    rw [Nat.add_mul, Nat.mul_assoc]
    omega
theorem base_eq : base = 36 := rfl
theorem pow_pos36 (n : Nat) : 0 < 36 ^ n := Nat.pow_pos (by decide)
theorem numberOf_lt : ∀ (n : Nat) {k : List Nat}, Dig k → numberOf n k < 36 ^ n
  | 0, k, _ => by cases k <;> exact Nat.lt_succ_self 0
  | n + 1, [], _ => pow_pos36 _
  | n + 1, d :: r, h => by
    have ih := numberOf_lt n (k := r) fun x hx => h x (List.mem_cons_of_mem _ hx)
    have hd : d < 36 := h d List.mem_cons_self
    show d * 36 ^ n + numberOf n r < 36 ^ (n + 1)
    rw [Nat.pow_succ]
    have h2 : d * 36 ^ n ≤ 35 * 36 ^ n := Nat.mul_le_mul_right _ (by omega)
    omega
theorem numberOf_nil (n : Nat) : numberOf n [] = 0 := by cases n <;> rfl
theorem last_tail {d : Nat} {r : List Nat} (h : (d :: r).getLast? ≠ some 0) : r.getLast? ≠ some 0 := by
  cases r with
  | nil => simp
  | cons e s => rw [List.getLast?_cons_cons] at h; exact h
theorem numberOf_pos : ∀ (n : Nat) {k : List Nat}, k ≠ [] → k.getLast? ≠ some 0 → k.length ≤ n → 0 < numberOf n k
  | 0, k, h, _, hl => by
    exact absurd (List.length_eq_zero_iff.mp (Nat.le_zero.mp hl)) h
  | n + 1, [], h, _, _ => absurd rfl h
  | n + 1, d :: r, _, hl, hn => by
    show 0 < d * 36 ^ n + numberOf n r
    cases r with
    | nil =>
      have : d ≠ 0 := fun z => hl (by rw [z]; rfl)
      have h2 : 1 * 36 ^ n ≤ d * 36 ^ n := Nat.mul_le_mul_right _ (by omega)
      have := pow_pos36 n
      omega
    | cons e s =>
      have := numberOf_pos n (k := e :: s) (by simp) (last_tail hl) (by simpa using hn)
      omega
theorem lex_num {d e N x y : Nat} (hx : x < N) (hy : y < N) : (decide (d * N + x < e * N + y)) = (decide (d < e) || (d == e && decide (x < y))) := by
  rcases Nat.lt_trichotomy d e with h | h | h
  · have h2 : (d + 1) * N ≤ e * N := Nat.mul_le_mul_right _ (by omega)
    rw [Nat.add_mul] at h2
    rw [decide_eq_true h, Bool.true_or]
    exact decide_eq_true (by omega)
  · subst h
    simp
  · have h2 : (e + 1) * N ≤ d * N := Nat.mul_le_mul_right _ (by omega)
    rw [Nat.add_mul] at h2
    have h3 : (d == e) = false := beq_eq_false_iff_ne.mpr (by omega)
    rw [decide_eq_false (by omega : ¬ d < e), h3, Bool.false_and, Bool.or_false]
    exact decide_eq_false (by omega)
theorem lex_num_le {d e N x y : Nat} (hx : x < N) (hy : y < N) : (decide (d * N + x < e * N + y + 1)) = (decide (d < e) || (d == e && decide (x < y + 1))) := by
  rcases Nat.lt_trichotomy d e with h | h | h
  · have h2 : (d + 1) * N ≤ e * N := Nat.mul_le_mul_right _ (by omega)
    rw [Nat.add_mul] at h2
    rw [decide_eq_true h, Bool.true_or]
    exact decide_eq_true (by omega)
  · subst h
    simp only [BEq.rfl, Bool.true_and, Nat.lt_irrefl, decide_false, Bool.false_or]
    exact decide_eq_decide.mpr (by omega)
  · have h2 : (e + 1) * N ≤ d * N := Nat.mul_le_mul_right _ (by omega)
    rw [Nat.add_mul] at h2
    have h3 : (d == e) = false := beq_eq_false_iff_ne.mpr (by omega)
    rw [decide_eq_false (by omega : ¬ d < e), h3, Bool.false_and, Bool.or_false]
    exact decide_eq_false (by omega)
theorem Dig.tail {d : Nat} {r : List Nat} (h : Dig (d :: r)) : Dig r := fun x hx => h x (List.mem_cons_of_mem _ hx)
/-- a before x, x of at most n digits -/
theorem before_num : ∀ (n : Nat) {a x : List Nat}, Dig a → Dig x → x.getLast? ≠ some 0 → x.length ≤ n → isBefore a x = decide (numberOf n a < numberOf n x)
  | n, a, [], _, _, _, _ => by
    rw [numberOf_nil]
    cases a <;> simp [isBefore]
  | 0, a, e :: s, _, _, _, h => by simp at h
  | n + 1, [], e :: s, _, _, hl, hn => by
    have := numberOf_pos (n + 1) (k := e :: s) (by simp) hl hn
    rw [numberOf_nil]
    simp [isBefore, this]
  | n + 1, d :: r, e :: s, ha, hx, hl, hn => by
    have ih := before_num n (a := r) (x := s) ha.tail hx.tail (last_tail hl) (by simpa using hn)
    show (decide (d < e) || (d == e && isBefore r s)) = decide (d * 36 ^ n + numberOf n r < e * 36 ^ n + numberOf n s)
    rw [lex_num (numberOf_lt n ha.tail) (numberOf_lt n hx.tail), ih]
theorem before_long : ∀ (n : Nat) {x b : List Nat}, Dig x → Dig b → x.length ≤ n → n < b.length → isBefore x b = decide (numberOf n x < numberOf n b + 1)
  | n, x, [], _, _, _, h => by simp at h
  | 0, x, e :: s, _, _, h, _ => by
    have : x = [] := List.length_eq_zero_iff.mp (Nat.le_zero.mp h)
    subst this
    simp [isBefore, numberOf]
  | n + 1, [], e :: s, _, _, _, _ => by
    rw [numberOf_nil]
    simp [isBefore]
  | n + 1, d :: r, e :: s, hx, hb, h1, h2 => by
    have ih := before_long n (x := r) (b := s) hx.tail hb.tail (by simpa using h1) (by simpa using h2)
    show (decide (d < e) || (d == e && isBefore r s)) = decide (d * 36 ^ n + numberOf n r < e * 36 ^ n + numberOf n s + 1)
    rw [lex_num_le (numberOf_lt n hx.tail) (numberOf_lt n hb.tail), ih]
/-- x of at most n digits before b -/
theorem before_end (n : Nat) {x b : List Nat} (hx : Dig x) (hb : Dig b) (hl : b.getLast? ≠ some 0) (hn : x.length ≤ n) : isBefore x b = decide (numberOf n x < endNumber n (some b)) := by
  unfold endNumber
  by_cases h : b.length ≤ n
  · show isBefore x b = decide (numberOf n x < if b.length ≤ n then _ else _)
    rw [if_pos h]
    exact before_num n hx hb hl h
  · show isBefore x b = decide (numberOf n x < if b.length ≤ n then _ else _)
    rw [if_neg h]
    exact before_long n hx hb hn (by omega)
/-! ### C. keys of numbers -/
theorem dropZeros_cons (d : Nat) (r : List Nat) : dropZeros (d :: r) = if dropZeros r = [] ∧ d = 0 then [] else d :: dropZeros r := by
  unfold dropZeros
  rw [List.reverse_cons, List.dropWhile_append]
  cases e : r.reverse.dropWhile fun d => d == 0 with
  | nil =>
    simp only [List.isEmpty_nil, if_true, List.reverse_nil, true_and]
    by_cases h : d = 0
    · subst h
      simp
    · rw [if_neg h, List.dropWhile_cons, if_neg (by simpa using h)]
      simp
  | cons x y => simp
theorem dropZeros_nil : dropZeros [] = [] := rfl
theorem digitsOf_len : ∀ (n x : Nat), (digitsOf n x).length = n
  | 0, _ => rfl
  | n + 1, x => by
    show (digitsOf n (x % base ^ n)).length + 1 = n + 1
    rw [digitsOf_len n]
theorem digitsOf_dig : ∀ (n : Nat) {x : Nat}, x < 36 ^ n → Dig (digitsOf n x)
  | 0, _, _ => fun d hd => by cases hd
  | n + 1, x, h => fun d hd => by
    have hp := pow_pos36 n
    rcases List.mem_cons.mp hd with rfl | hd
    · show x / 36 ^ n < 36
      rw [Nat.pow_succ] at h
      exact Nat.div_lt_of_lt_mul h
    · exact digitsOf_dig n (Nat.mod_lt _ hp) d hd
theorem numberOf_digits : ∀ (n : Nat) {x : Nat}, x < 36 ^ n → numberOf n (digitsOf n x) = x
  | 0, x, h => by
    have : x = 0 := by simpa using h
    subst this
    rfl
  | n + 1, x, h => by
    have hp := pow_pos36 n
    show x / 36 ^ n * 36 ^ n + numberOf n (digitsOf n (x % 36 ^ n)) = x
    rw [numberOf_digits n (Nat.mod_lt _ hp), Nat.mul_comm]
    exact Nat.div_add_mod x (36 ^ n)
theorem numberOf_dropZeros : ∀ (n : Nat) (k : List Nat), numberOf n (dropZeros k) = numberOf n k
  | n, [] => rfl
  | 0, d :: r => by
    cases dropZeros (d :: r) <;> rfl
  | n + 1, d :: r => by
    have ih := numberOf_dropZeros n r
    rw [dropZeros_cons]
    split
    · rename_i h
      rw [h.1, numberOf_nil] at ih
      rw [h.2]
      show 0 = 0 * base ^ n + numberOf n r
      omega
    · show d * base ^ n + numberOf n (dropZeros r) = d * base ^ n + numberOf n r
      rw [ih]
theorem dropZeros_sub : ∀ (k : List Nat), (∀ d ∈ dropZeros k, d ∈ k) ∧ (dropZeros k).length ≤ k.length ∧ (dropZeros k).getLast? ≠ some 0
  | [] => ⟨fun d h => h, Nat.le_refl _, by simp [dropZeros]⟩
  | d :: r => by
    obtain ⟨h1, h2, h3⟩ := dropZeros_sub r
    rw [dropZeros_cons]
    split
    · exact ⟨fun d h => (List.not_mem_nil h).elim, Nat.zero_le _, (by simp)⟩
    · rename_i hn
      refine ⟨fun x hx => ?_, by simpa using h2, ?_⟩
      · rcases List.mem_cons.mp hx with rfl | hx
        · exact List.mem_cons_self
        · exact List.mem_cons_of_mem _ (h1 x hx)
      · cases e : dropZeros r with
        | nil =>
          rw [e] at hn
          simp only [true_and] at hn
          simpa using hn
        | cons a b =>
          rw [e] at h3
          rw [List.getLast?_cons_cons]
          exact h3
theorem keyOf_num {n x : Nat} (h : x < 36 ^ n) : numberOf n (keyOf n x) = x := (numberOf_dropZeros n _).trans (numberOf_digits n h)
theorem keyOf_dig {n x : Nat} (h : x < 36 ^ n) : Dig (keyOf n x) := fun d hd => digitsOf_dig n h d ((dropZeros_sub _).1 d hd)
theorem keyOf_len (n x : Nat) : (keyOf n x).length ≤ n := Nat.le_trans (dropZeros_sub _).2.1 (Nat.le_of_eq (digitsOf_len n x))
theorem keyOf_last (n x : Nat) : (keyOf n x).getLast? ≠ some 0 := (dropZeros_sub _).2.2
theorem keyOf_ne {n x : Nat} (h : x < 36 ^ n) (h0 : 0 < x) : keyOf n x ≠ [] := fun z => by
  have := keyOf_num h
  rw [z, numberOf_nil] at this
  omega
/-- one digit more, from below -/
theorem keyOf_step (i y : Nat) : keyOf (i + 1) (y % 36 ^ (i + 1)) = if y / 36 ^ i % 36 = 0 ∧ keyOf i (y % 36 ^ i) = [] then [] else y / 36 ^ i % 36 :: keyOf i (y % 36 ^ i) := by
  have e1 : y % 36 ^ (i + 1) / 36 ^ i = y / 36 ^ i % 36 := by
    rw [Nat.pow_succ, Nat.mod_mul_right_div_self]
  have e2 : y % 36 ^ (i + 1) % 36 ^ i = y % 36 ^ i := by
    rw [Nat.pow_succ]
    exact Nat.mod_mul_right_mod _ _ _
  unfold keyOf
  show dropZeros (y % 36 ^ (i + 1) / 36 ^ i :: digitsOf i (y % 36 ^ (i + 1) % 36 ^ i)) = _
  rw [e1, e2, dropZeros_cons]
  by_cases h : dropZeros (digitsOf i (y % 36 ^ i)) = [] ∧ y / 36 ^ i % 36 = 0
  · rw [if_pos h, if_pos ⟨h.2, h.1⟩]
  · rw [if_neg h, if_neg fun z => h ⟨z.2, z.1⟩]
end OK
namespace OK
open R7290f.Spec (numberOf keyOf firstNumber endNumber middleKey keyBetween keysBetween leastDigits isBefore isBetween capacity room lengthOf spread digitsOf dropZeros base)
/-! ### D. bounds, rooms -/
def BDig (b : Option (List Nat)) : Prop := ∀ k, b = some k → Dig k
def BOk (b : Option (List Nat)) : Prop := ∀ k, b = some k → KeyOk k
theorem BOk.dig {b : Option (List Nat)} (h : BOk b) : BDig b := fun k e => (h k e).dig
theorem BOk.none : BOk none := fun _ e => by cases e
theorem BOk.some {k : List Nat} (h : KeyOk k) : BOk (some k) := fun _ e => by cases e; exact h
/-- the first bound before the second one -/
def Ord : Option (List Nat) → Option (List Nat) → Prop
  | some j, some k => isBefore j k = true
  | _, _ => True
theorem end_le (n : Nat) {b : Option (List Nat)} (h : BDig b) : endNumber n b ≤ 36 ^ n := by
  unfold endNumber
  cases b with
  | none => exact Nat.le_refl _
  | some k =>
    have := numberOf_lt n (h k rfl)
    show (if k.length ≤ n then numberOf n k else numberOf n k + 1) ≤ _
    split <;> omega
theorem first_le (n : Nat) {b : Option (List Nat)} (h : BDig b) : 1 ≤ firstNumber n b ∧ firstNumber n b ≤ 36 ^ n := by
  unfold firstNumber
  cases b with
  | none => exact ⟨Nat.le_refl _, pow_pos36 n⟩
  | some k =>
    have := numberOf_lt n (h k rfl)
    show 1 ≤ numberOf n k + 1 ∧ numberOf n k + 1 ≤ _
    omega
theorem before_mono : ∀ (n : Nat) {j k : List Nat}, Dig j → Dig k → isBefore j k = true → numberOf n j ≤ numberOf n k
  | 0, j, k, _, _, _ => by cases j <;> cases k <;> exact Nat.le_refl _
  | n + 1, j, [], _, _, h => by cases j <;> simp [isBefore] at h
  | n + 1, [], e :: s, _, _, _ => Nat.zero_le _
  | n + 1, d :: r, e :: s, hj, hk, h => by
    have h' : (decide (d < e) || (d == e && isBefore r s)) = true := h
    rw [Bool.or_eq_true, Bool.and_eq_true, decide_eq_true_eq, beq_iff_eq] at h'
    show d * 36 ^ n + numberOf n r ≤ e * 36 ^ n + numberOf n s
    rcases h' with h' | ⟨rfl, h'⟩
    · have h2 : (d + 1) * 36 ^ n ≤ e * 36 ^ n := Nat.mul_le_mul_right _ (by omega)
      have := numberOf_lt n hj.tail
      rw [Nat.add_mul] at h2
      omega
    · have := before_mono n hj.tail hk.tail h'
      omega
theorem first_le_end (n : Nat) {a b : Option (List Nat)} (ha : BOk a) (hb : BOk b) (o : Ord a b) : firstNumber n a ≤ endNumber n b := by
  cases a with
  | none =>
    cases b with
    | none => exact pow_pos36 n
    | some k =>
      show 1 ≤ if k.length ≤ n then numberOf n k else numberOf n k + 1
      have hk := hb k rfl
      split
      · rename_i h
        exact numberOf_pos n hk.ne hk.last h
      · omega
  | some j =>
    have hj := ha j rfl
    cases b with
    | none => exact (first_le n ha.dig).2
    | some k =>
      have hk := hb k rfl
      have o' : isBefore j k = true := o
      show numberOf n j + 1 ≤ if k.length ≤ n then numberOf n k else numberOf n k + 1
      split
      · rename_i h
        rw [before_num n hj.dig hk.dig hk.last h] at o'
        have := of_decide_eq_true o'
        omega
      · have := before_mono n hj.dig hk.dig o'
        omega
theorem room_int (n : Nat) {a b : Option (List Nat)} (ha : BOk a) (hb : BOk b) (o : Ord a b) : ((room n a b : Nat) : Int) = (endNumber n b : Int) - (firstNumber n a : Int) := by
  have := first_le_end n ha hb o
  unfold room
  omega
/-! growth -/
theorem numberOf_grow : ∀ (n j : Nat) {k : List Nat}, k.length ≤ n → numberOf (n + j) k = numberOf n k * 36 ^ j
  | n, j, [], _ => by rw [numberOf_nil, numberOf_nil, Nat.zero_mul]
  | 0, j, d :: r, h => by simp at h
  | n + 1, j, d :: r, h => by
    have ih := numberOf_grow n j (k := r) (by simpa using h)
    have e : n + 1 + j = (n + j) + 1 := by omega
    rw [e]
    show d * 36 ^ (n + j) + numberOf (n + j) r = (d * 36 ^ n + numberOf n r) * 36 ^ j
    rw [ih, Nat.add_mul, Nat.pow_add, Nat.mul_assoc]
theorem room_grow (n j : Nat) {a b : Option (List Nat)} (ha : BOk a) (hb : BOk b) (o : Ord a b) (la : lengthOf a ≤ n) (lb : lengthOf b ≤ n) : 36 ^ j ≤ room (n + j) a b + 1 := by
  have hle := first_le_end n ha hb o
  have e1 : endNumber (n + j) b = endNumber n b * 36 ^ j := by
    cases b with
    | none => exact Nat.pow_add 36 n j
    | some k =>
      have lk : k.length ≤ n := lb
      show (if k.length ≤ n + j then numberOf (n + j) k else _) = (if k.length ≤ n then numberOf n k else _) * 36 ^ j
      rw [if_pos (by omega), if_pos lk, numberOf_grow n j lk]
  have e2 : ∃ m, firstNumber n a = m + 1 ∧ firstNumber (n + j) a = m * 36 ^ j + 1 := by
    cases a with
    | none => exact ⟨0, rfl, by simp [firstNumber]⟩
    | some k => exact ⟨numberOf n k, rfl, by
        show numberOf (n + j) k + 1 = _
        rw [numberOf_grow n j la]⟩
  obtain ⟨m, e2, e3⟩ := e2
  have h2 : (m + 1) * 36 ^ j ≤ endNumber n b * 36 ^ j := Nat.mul_le_mul_right _ (by omega)
  rw [Nat.add_mul] at h2
  unfold room
  rw [e1, e3]
  have := pow_pos36 j
  omega
theorem room_zero {a b : Option (List Nat)} (ha : BOk a) (hb : BOk b) : room 0 a b = 0 := by
  have h1 := end_le 0 hb.dig
  have h2 := (first_le 0 ha.dig).1
  unfold room
  omega
/-- what least_length finds -/
def LL (a b : Option (List Nat)) (m : Nat) : Nat := ((List.range 22).find? fun n => decide (1 ≤ n) && decide ((m : Int) ≤ (endNumber n b : Int) - (firstNumber n a : Int))).getD 22
theorem lenOf_le {a : Option (List Nat)} (h : BOk a) : lengthOf a ≤ 20 := by
  cases a with
  | none => exact Nat.zero_le _
  | some k => exact (h k rfl).le
theorem LL_of {a b : Option (List Nat)} {m i : Nat} (h1 : i + 1 < 22) (h : (m : Int) ≤ (endNumber (i + 1) b : Int) - (firstNumber (i + 1) a : Int))
    (hn : ∀ j, j < i → ¬ (m : Int) ≤ (endNumber (j + 1) b : Int) - (firstNumber (j + 1) a : Int)) : LL a b m = i + 1 := by
  unfold LL
  have e : (List.range 22).find? (fun n => decide (1 ≤ n) && decide ((m : Int) ≤ (endNumber n b : Int) - (firstNumber n a : Int))) = some (i + 1) := by
    rw [List.find?_range_eq_some]
    refine ⟨by simp only [Bool.and_eq_true, decide_eq_true_eq]; exact ⟨by omega, h⟩, List.mem_range.mpr h1, fun j hj => ?_⟩
    cases j with
    | zero => simp
    | succ j =>
      have := hn j (by omega)
      simp only [Bool.not_eq_true', Bool.and_eq_false_iff, decide_eq_false_iff_not]
      exact .inr this
  rw [e]
  rfl
theorem LL_none {a b : Option (List Nat)} {m : Nat} (hn : ∀ j, j < 21 → ¬ (m : Int) ≤ (endNumber (j + 1) b : Int) - (firstNumber (j + 1) a : Int)) : LL a b m = 22 := by
  unfold LL
  have e : (List.range 22).find? (fun n => decide (1 ≤ n) && decide ((m : Int) ≤ (endNumber n b : Int) - (firstNumber n a : Int))) = none := by
    rw [List.find?_eq_none]
    intro x hx
    have hx' := List.mem_range.mp hx
    simp only [Bool.and_eq_true, decide_eq_true_eq]
    rintro ⟨h1, h2⟩
    obtain ⟨j, rfl⟩ : ∃ j, x = j + 1 := ⟨x - 1, by omega⟩
    exact hn j (by omega) h2
  rw [e]
  rfl
theorem find_range {p : Nat → Bool} {n i : Nat} (hi : i < n) (hp : p i = true) (hn : ∀ j, j < i → p j = false) : (List.range n).find? p = some i := by
  rw [List.find?_range_eq_some]
  exact ⟨hp, List.mem_range.mpr hi, fun j hj => by rw [hn j hj]; rfl⟩
/-- the least number of digits -/
theorem least_spec {a b : Option (List Nat)} {m : Nat} (ha : BOk a) (hb : BOk b) (o : Ord a b) (h1 : 1 ≤ m) (h2 : m ≤ 1000) :
    leastDigits a b m = LL a b m ∧ 1 ≤ LL a b m ∧ LL a b m ≤ 22 ∧ m ≤ room (LL a b m) a b ∧ (∀ n, 1 ≤ n → m ≤ room n a b → LL a b m ≤ n) := by
  have la := lenOf_le ha
  have lb := lenOf_le hb
  have g1 := room_grow (max (lengthOf a) (lengthOf b)) 1 ha hb o (Nat.le_max_left _ _) (Nat.le_max_right _ _)
  have g2 := room_grow (max (lengthOf a) (lengthOf b)) 2 ha hb o (Nat.le_max_left _ _) (Nat.le_max_right _ _)
  have hmx : max (lengthOf a) (lengthOf b) ≤ 20 := Nat.max_le.mpr ⟨la, lb⟩
  -- some number of digits will do
  have ex : ∃ n, n ≤ 22 ∧ n < max (lengthOf a) (lengthOf b) + m + 2 ∧ m ≤ room n a b := by
    by_cases hm : m ≤ 35
    · exact ⟨max (lengthOf a) (lengthOf b) + 1, by omega, by omega, by omega⟩
    · exact ⟨max (lengthOf a) (lengthOf b) + 2, by omega, by omega, by omega⟩
  obtain ⟨n0, hn0, hn0', hr0⟩ := ex
  -- the least one
  have lst : ∃ n, n ≤ n0 ∧ m ≤ room n a b ∧ ∀ j, j < n → ¬ m ≤ room j a b := by
    clear hn0 hn0'
    induction n0 using Nat.strongRecOn with
    | _ n0 ih =>
      by_cases h : ∃ j, j < n0 ∧ m ≤ room j a b
      · obtain ⟨j, hj, hr⟩ := h
        obtain ⟨n, hn, h3, h4⟩ := ih j hj hr
        exact ⟨n, by omega, h3, h4⟩
      · exact ⟨n0, Nat.le_refl _, hr0, fun j hj hr => h ⟨j, hj, hr⟩⟩
  obtain ⟨n, hn, hr, hmin⟩ := lst
  have hpos : 1 ≤ n := by
    rcases Nat.eq_zero_or_pos n with rfl | h
    · rw [room_zero ha hb] at hr
      omega
    · exact h
  have e1 : leastDigits a b m = n := by
    unfold leastDigits
    rw [find_range (i := n) (by omega) (decide_eq_true hr) (fun j hj => decide_eq_false (hmin j hj))]
    rfl
  have e2 : LL a b m = n := by
    by_cases h22 : n = 22
    · rw [h22]
      refine LL_none fun j hj h => ?_
      rw [← room_int _ ha hb o] at h
      exact hmin (j + 1) (by omega) (by omega)
    · obtain ⟨i, rfl⟩ : ∃ i, n = i + 1 := ⟨n - 1, by omega⟩
      refine LL_of (by omega) (by rw [← room_int _ ha hb o]; omega) fun j hj h => ?_
      rw [← room_int _ ha hb o] at h
      exact hmin (j + 1) (by omega) (by omega)
  rw [e1, e2]
  refine ⟨rfl, hpos, by omega, hr, fun n' h1' h2' => ?_⟩
  by_cases h : n ≤ n'
  · exact h
  · exact absurd h2' (hmin n' (by omega))
/-! middle, spread: the numbers lie within -/
theorem middle_lt {n : Nat} {a b : Option (List Nat)} (hb : BDig b) (hr : 1 ≤ room n a b) : firstNumber n a + (room n a b - 1) / 2 < 36 ^ n := by
  have := end_le n hb
  have h2 : room n a b = endNumber n b - firstNumber n a := rfl
  omega
theorem spread_le {n m j : Nat} {a b : Option (List Nat)} (hr : m ≤ room n a b) (hj : j < m) : (j + 1) * (room n a b + 1) / (m + 1) ≤ room n a b := by
  refine Nat.le_of_lt_succ (Nat.div_lt_of_lt_mul ?_)
  have h1 : (j + 1) * (room n a b + 1) ≤ m * (room n a b + 1) := Nat.mul_le_mul_right _ (by omega)
  have h2 : (m + 1) * (room n a b + 1) = m * (room n a b + 1) + (room n a b + 1) := by rw [Nat.add_mul, Nat.one_mul]
  show _ < (m + 1) * (room n a b + 1)
  omega
theorem spread_lt {n m j : Nat} {a b : Option (List Nat)} (ha : BDig a) (hb : BDig b) (hr : m ≤ room n a b) (hj : j < m) : firstNumber n a - 1 + (j + 1) * (room n a b + 1) / (m + 1) < 36 ^ n := by
  have h1 := spread_le hr hj
  have h2 := end_le n hb
  have h3 := (first_le n ha).1
  have h4 : room n a b = endNumber n b - firstNumber n a := rfl
  omega
/-! order of texts -/
theorem Ord_none_l (b : Option (List Nat)) : Ord none b := by cases b <;> trivial
theorem Ord_none_r (a : Option (List Nat)) : Ord a none := by cases a <;> trivial
/-! log2 -/
theorem log2_step {n : Nat} (h : 2 ≤ n) : Nat.log2 n = Nat.log2 (n / 2) + 1 := by
  rw [Nat.log2_def, if_pos h]
theorem log2_one {n : Nat} (h : n < 2) : Nat.log2 n = 0 := by
  rw [Nat.log2_def, if_neg (by omega)]
end OK
/-! ### comprehensions: what is made of each item, one after the other -/
namespace OK
open PySem PySem.Spec PyProof.Rows L2
/-- n items, the i-th as R says -/
def Items (R : Hp → Nat → V → Prop) (H : Hp) (n : Nat) (vs : List V) : Prop := vs.length = n ∧ ∀ i v, vs[i]? = some v → R H i v
def StK (R : Hp → Nat → V → Prop) : Prop := ∀ H H' i v, Kp H H' → R H i v → R H' i v
theorem Items.kp {R : Hp → Nat → V → Prop} (st : StK R) {H H' : Hp} {n : Nat} {vs : List V} (h : Items R H n vs) (k : Kp H H') : Items R H' n vs := ⟨h.1, fun i v e => st H H' i v k (h.2 i v e)⟩
theorem Items.push {R : Hp → Nat → V → Prop} {H : Hp} {n : Nat} {vs : List V} {y : V} (h : Items R H n vs) (hy : R H n y) : Items R H (n + 1) (vs ++ [y]) := by
  refine ⟨by rw [List.length_append, h.1]; rfl, fun i v e => ?_⟩
  by_cases hi : i < vs.length
  · rw [List.getElem?_append_left hi] at e
    exact h.2 i v e
  · rw [List.getElem?_append_right (by omega)] at e
    have : i = n := by
      have := (List.getElem?_eq_some_iff.mp e).1
      simp at this
      have := h.1
      omega
    subst this
    rw [h.1, Nat.sub_self] at e
    cases e
    exact hy
abbrev LcQ (J : It) (g : TG) (tt : TT) (te : TE) (vs : List Nat) (σ : L2.St) (H1 : Hp) (Q : VK) : Prop := ∀ D, H1 D = none → ∃ W : Nat → Nat → Hp → Prop, (∃ m, W 0 m (upd H1 D (.lst []))) ∧ ∀ i m H, W i m H →
  (J.stop i H ∧ Q (.ref D) H) ∨ (J.go i H ∧ ∃ Nx : Hp → Prop, (∀ H', Nx H' → ∃ m', m' < m ∧ W (i + 1) m' H') ∧ ∀ x H', J.yld i H x H' → g x (wipe σ vs) H' fun σ2 H2 => wipe σ2 vs = wipe σ vs ∧ tt σ2 H2 fun b H3 =>
    if b = true then te σ2 H3 fun y H4 => ∃ acc, H4 D = some (.lst acc) ∧ acc.length < sizeLine ∧ Nx (upd H4 D (.lst (acc ++ [y]))) else Nx H3)
section
variable {K : PySem.W.Frag} {σ : L2.St} {H1 : Hp} {Q : VK} {g : TG} {te : TE} {vs : List Nat}
theorem x_lc {wi : TI} {tt : TT} {H : Hp} (q : wi σ H fun J H1 => LcQ J g tt te vs σ H1 Q) : tLc wi g tt te vs σ H Q := q
/-- one turn, for any wish -/
abbrev LcTurn (g : TG) (te : TE) (vs : List Nat) (σ : L2.St) (R : Hp → Nat → V → Prop) (i : Nat) (x : V) (H' : Hp) : Prop :=
  ∀ Q : VK, (∀ y H4, Same H' H4 → R H4 i y → Q y H4) → g x (wipe σ vs) H' fun σ2 H2 => wipe σ2 vs = wipe σ vs ∧ te σ2 H2 Q
theorem lc_master {J : It} (R : Hp → Nat → V → Prop) (st : StK R) (n : Nat) (hn : n ≤ 100000) (hstop : ∀ H, Same H1 H → J.stop n H) (hgo : ∀ i H, i < n → Same H1 H → J.go i H)
    (hg : ∀ (x : V) (H : Hp) (R1 R2 : L2.St → Hp → Prop), (∀ s h, R1 s h → R2 s h) → g x (wipe σ vs) H R1 → g x (wipe σ vs) H R2)
    (hturn : ∀ i H x H', i < n → Same H1 H → J.yld i H x H' → Same H H' ∧ LcTurn g te vs σ R i x H')
    (hd : ∀ D H' ys, H1 D = none → Same H1 H' → H' D = some (.lst ys) → Items R H' n ys → Q (.ref D) H') : LcQ J g tYes te vs σ H1 Q := by
  intro D hD
  refine ⟨fun i m H => m = n - i ∧ i ≤ n ∧ Same H1 H ∧ ∃ ys, H D = some (.lst ys) ∧ Items R H i ys, ⟨n, by simp, Nat.zero_le _, same_new hD, [], upd_same, rfl, fun i v e => by simp at e⟩, ?_⟩
  rintro i m H ⟨rfl, hi, s, ys, hy, it⟩
  by_cases hlt : i < n
  · refine .inr ⟨hgo i H hlt s, fun H' => i + 1 ≤ n ∧ Same H1 H' ∧ ∃ ys, H' D = some (.lst ys) ∧ Items R H' (i + 1) ys, fun H' p => ⟨n - (i + 1), by omega, rfl, p.1, p.2.1, p.2.2⟩, fun x H' y => ?_⟩
    obtain ⟨s2, t⟩ := hturn i H x H' hlt s y
    refine hg x H' _ _ (fun σ2 H2 q => ?_) (t (fun y H4 => ∃ acc, H4 D = some (.lst acc) ∧ acc.length < sizeLine ∧ (i + 1 ≤ n ∧ Same H1 (upd H4 D (.lst (acc ++ [y]))) ∧ ∃ ys, (upd H4 D (.lst (acc ++ [y]))) D = some (.lst ys) ∧ Items R (upd H4 D (.lst (acc ++ [y]))) (i + 1) ys)) fun y H4 s4 r => ?_)
    · refine ⟨q.1, ?_⟩
      exact q.2
    · have e4 : H4 D = some (.lst ys) := s4 _ _ (s2 _ _ hy)
      have kk : Kp H4 (upd H4 D (.lst (ys ++ [y]))) := Kp.lst e4
      refine ⟨ys, e4, sz1 ?_, hlt, ?_, _, upd_same, ?_⟩
      · have := it.1
        omega
      · exact But.same (s.trans (s2.trans s4)) hD But.upd
      · exact ((it.kp st ((Kp.of (s2.trans s4)).trans kk)).push (st _ _ _ _ kk r))
  · have e : i = n := by omega
    subst e
    exact .inl ⟨hstop H s, hd D H ys hD s hy it⟩
theorem sqL_same {H H' : Hp} {a : Addr} {xs : List V} (s : Same H H') (h : SqL K H a xs) : SqL K H' a xs := Same.seq s h
theorem gName_mono {j : Nat} (x : V) (s0 : L2.St) (H : Hp) (R1 R2 : L2.St → Hp → Prop) (h : ∀ s h, R1 s h → R2 s h) (q : gName j x s0 H R1) : gName j x s0 H R2 := h _ _ q
theorem gPair_mono {j k : Nat} (x : V) (s0 : L2.St) (H : Hp) (R1 R2 : L2.St → Hp → Prop) (h : ∀ s h, R1 s h → R2 s h) (q : gTup K 2 (gCons (gName j) (gCons (gName k) gNil)) x s0 H R1) : gTup K 2 (gCons (gName j) (gCons (gName k) gNil)) x s0 H R2 := by
  obtain ⟨a, xs, e1, e2, e3, v, r, e4, v2, r2, e5, e6, q⟩ := q
  exact ⟨a, xs, e1, e2, e3, v, r, e4, v2, r2, e5, e6, h _ _ q⟩
theorem x_lcr2 {e f : Int} (lo : Int) (n : Nat) (he : e = lo) (hf : (f - lo).toNat = n) (hb : -100000000000000000 ≤ lo ∧ lo ≤ 100000000000000000 ∧ -100000000000000000 ≤ f ∧ f ≤ 100000000000000000) (hn : n ≤ 100000) {j : Nat} (R : Hp → Nat → V → Prop) (st : StK R)
    (ht : ∀ (i : Nat) H', i < n → Same H1 H' → LcTurn (gName j) te vs σ R i (.int (lo + (i : Int))) H') (hd : ∀ D H' ys, H1 D = none → Same H1 H' → H' D = some (.lst ys) → Items R H' n ys → Q (.ref D) H') :
    ∃ i j' : Int, [V.int e, V.int f] = [.int i, .int j'] ∧ (-(2 ^ 62) ≤ i ∧ i < 2 ^ 62 ∧ -(2 ^ 62) ≤ j' ∧ j' < 2 ^ 62) ∧ LcQ (Itr i (j' - i).toNat) (gName j) tYes te vs σ H1 Q := by
  subst he
  refine ⟨e, f, rfl, by omega, ?_⟩
  rw [hf]
  refine lc_master R st n (by omega) (fun _ _ => Nat.le_refl n) (fun i _ h _ => h) (fun x H => gName_mono x _ H) (fun i H x H' hi s y => ?_) hd
  obtain ⟨rfl, rfl⟩ := y
  exact ⟨Same.refl _, ht i _ hi s⟩
theorem x_lcl {a : Addr} {xs : List V} (hx : SqL K H1 a xs) (hz : xs.length ≤ 100000) (R : Hp → Nat → V → Prop) (st : StK R) (hg : ∀ (x : V) (H : Hp) (R1 R2 : L2.St → Hp → Prop), (∀ s h, R1 s h → R2 s h) → g x (wipe σ vs) H R1 → g x (wipe σ vs) H R2)
    (ht : ∀ (i : Nat) x H', xs[i]? = some x → Same H1 H' → LcTurn g te vs σ R i x H') (hd : ∀ D H' ys, H1 D = none → Same H1 H' → H' D = some (.lst ys) → Items R H' xs.length ys → Q (.ref D) H') :
    ∃ b, V.ref a = .ref b ∧ (∃ xs, SqL K H1 b xs) ∧ LcQ (Itl K b) g tYes te vs σ H1 Q := by
  refine ⟨a, rfl, ⟨xs, hx⟩, lc_master R st xs.length (by omega) (fun H s => ⟨xs, sqL_same s hx, Nat.le_refl _⟩) (fun i H h s => ⟨xs, xs[i], sqL_same s hx, List.getElem?_eq_getElem h⟩) hg (fun i H x H' hi s y => ?_) hd⟩
  obtain ⟨rfl, y⟩ := y
  exact ⟨Same.refl _, ht i x _ (y xs (sqL_same s hx)) s⟩
theorem x_lce {a : Addr} {xs : List V} (hx : SqL K H1 a xs) (hz : xs.length ≤ 100000) (R : Hp → Nat → V → Prop) (st : StK R) (hg : ∀ (x : V) (H : Hp) (R1 R2 : L2.St → Hp → Prop), (∀ s h, R1 s h → R2 s h) → g x (wipe σ vs) H R1 → g x (wipe σ vs) H R2)
    (ht : ∀ (i : Nat) x T H', xs[i]? = some x → Same H1 H' → H' T = some (.tup [.int (i : Nat), x]) → LcTurn g te vs σ R i (.ref T) H') (hd : ∀ D H' ys, H1 D = none → Same H1 H' → H' D = some (.lst ys) → Items R H' xs.length ys → Q (.ref D) H') :
    ∃ b zs, [V.ref a] = [.ref b] ∧ SqL K H1 b zs ∧ LcQ (Ite K b) g tYes te vs σ H1 Q := by
  refine ⟨a, xs, rfl, hx, lc_master R st xs.length (by omega) (fun H s => ⟨xs, sqL_same s hx, Nat.le_refl _⟩) (fun i H h s => ⟨xs, xs[i], sqL_same s hx, List.getElem?_eq_getElem h⟩) hg (fun i H x H' hi s y => ?_) hd⟩
  obtain ⟨T, x, rfl, hT, rfl, y⟩ := y
  exact ⟨same_new hT, ht i x T _ (y xs (sqL_same s hx)) (s.trans (same_new hT)) upd_same⟩
theorem x_lcs {x : Str} (hz : x.cps.size ≤ 100000) {j : Nat} (R : Hp → Nat → V → Prop) (st : StK R)
    (ht : ∀ (i : Nat) c H', x.cps[i]? = some c → Same H1 H' → LcTurn (gName j) te vs σ R i (.str ⟨#[c]⟩) H') (hd : ∀ D H' ys, H1 D = none → Same H1 H' → H' D = some (.lst ys) → Items R H' x.cps.size ys → Q (.ref D) H') :
    ∃ y, V.str x = .str y ∧ LcQ (Its y) (gName j) tYes te vs σ H1 Q := by
  refine ⟨x, rfl, lc_master R st x.cps.size (by omega) (fun _ _ => Nat.le_refl _) (fun i _ h _ => h) (fun x H => gName_mono x _ H) (fun i H v H' hi s y => ?_) hd⟩
  obtain ⟨rfl, c, hc, rfl⟩ := y
  exact ⟨Same.refl _, ht i c _ hc s⟩
end
section
variable {K : PySem.W.Frag} {σ : L2.St} {H : Hp}
theorem x_enum {ta : TA} {R : It → Hp → Prop} (q : ta σ H fun vs H1 => ∃ a xs, vs = [.ref a] ∧ SqL K H1 a xs ∧ R (Ite K a) H1) : iEnum K ta σ H R := q
theorem x_istr {te : TE} {R : It → Hp → Prop} (q : te σ H fun v H1 => ∃ x, v = .str x ∧ R (Its x) H1) : iStr te σ H R := q
end
/-- a list of keys -/
def KAt (H : Hp) (v : V) (k : List Nat) : Prop := ∃ a, v = .ref a ∧ Oc H a (kI k)
theorem KAt.kp {H H' : Hp} {v : V} {k : List Nat} (h : KAt H v k) (q : Kp H H') : KAt H' v k := let ⟨a, e, o⟩ := h; ⟨a, e, o.kp q⟩
/-- values and what they stand for, item by item -/
def KL (H : Hp) (vs : List V) (ks : List (List Nat)) : Prop := vs.length = ks.length ∧ ∀ (i : Nat) v k, vs[i]? = some v → ks[i]? = some k → KAt H v k
theorem KL.kp {H H' : Hp} {vs : List V} {ks : List (List Nat)} (h : KL H vs ks) (q : Kp H H') : KL H' vs ks := ⟨h.1, fun i v k e1 e2 => (h.2 i v k e1 e2).kp q⟩
theorem KL.nil {H : Hp} : KL H [] [] := ⟨rfl, fun i v k e => by simp at e⟩
theorem KL.append {H : Hp} {vs ws : List V} {ks js : List (List Nat)} (h : KL H vs ks) (q : KL H ws js) : KL H (vs ++ ws) (ks ++ js) := by
  refine ⟨by rw [List.length_append, List.length_append, h.1, q.1], fun i v k e1 e2 => ?_⟩
  by_cases hi : i < vs.length
  · rw [List.getElem?_append_left hi] at e1
    rw [List.getElem?_append_left (by have := h.1; omega)] at e2
    exact h.2 i v k e1 e2
  · rw [List.getElem?_append_right (by omega)] at e1
    rw [List.getElem?_append_right (by have := h.1; omega), ← h.1] at e2
    exact q.2 _ v k e1 e2
theorem KL.one {H : Hp} {v : V} {k : List Nat} (h : KAt H v k) : KL H [v] [k] := ⟨rfl, fun i v' k' e1 e2 => by
  cases i with
  | zero =>
    cases e1
    cases e2
    exact h
  | succ n => simp at e1⟩
theorem KL.get {H : Hp} {vs : List V} {ks : List (List Nat)} (h : KL H vs ks) {i : Nat} (hi : i < ks.length) : ∃ v, vs[i]? = some v ∧ KAt H v ks[i] := by
  have hv : i < vs.length := by rw [h.1]; exact hi
  exact ⟨vs[i], List.getElem?_eq_getElem hv, h.2 i _ _ (List.getElem?_eq_getElem hv) (List.getElem?_eq_getElem hi)⟩
theorem KL.take {H : Hp} {vs : List V} {ks : List (List Nat)} (h : KL H vs ks) (n : Nat) : KL H (vs.take n) (ks.take n) := ⟨by rw [List.length_take, List.length_take, h.1], fun i v k e1 e2 => by
  rw [List.getElem?_take] at e1 e2
  split at e1
  · rename_i hi
    rw [if_pos hi] at e2
    exact h.2 i v k e1 e2
  · cases e1⟩
theorem KL.drop {H : Hp} {vs : List V} {ks : List (List Nat)} (h : KL H vs ks) (n : Nat) : KL H (vs.drop n) (ks.drop n) := ⟨by rw [List.length_drop, List.length_drop, h.1], fun i v k e1 e2 => by
  rw [List.getElem?_drop] at e1 e2
  exact h.2 _ v k e1 e2⟩
/-- a bound -/
def BAt (H : Hp) (v : V) (b : Option (List Nat)) : Prop := match b with
  | none => v = .non
  | some k => KAt H v k
theorem BAt.kp {H H' : Hp} {v : V} {b : Option (List Nat)} (h : BAt H v b) (q : Kp H H') : BAt H' v b := by
  cases b with
  | none => exact h
  | some k => exact KAt.kp (k := k) h q
end OK
/-! ### values of the document in the heap -/
namespace OK
open PySem PySem.Spec PyProof.Rows L2
open R7290f.Spec (Plain Units)
/-- a value: kind, and what it holds -/
def Tg (K : PySem.W.Frag) (H : Hp) (v : V) (k : Int) (x : V) : Prop := ∃ a, v = .ref a ∧ SqT K H a [.int k, x]
theorem Tg.kp {K : PySem.W.Frag} {H H' : Hp} {v x : V} {k : Int} (h : Tg K H v k x) (q : Kp H H') : Tg K H' v k x := let ⟨a, e, s⟩ := h; ⟨a, e, sqT_kp q s⟩
mutual
def VAt (K : PySem.W.Frag) (H : Hp) : Plain → V → Prop
  | .undef, v => Tg K H v 0 (.int 0)
  | .null, v => Tg K H v 1 (.int 0)
  | .bool b, v => Tg K H v (if b = true then 3 else 2) (.int 0)
  | .num x, v => ∃ i : Int, x = some i ∧ Tg K H v 4 (.int i)
  | .str u, v => ∃ a, Tg K H v 6 (.ref a) ∧ Oc H a (uI u)
  | .arr l, v => ∃ a xs, Tg K H v 7 (.ref a) ∧ Lf H a xs ∧ VsAt K H l xs
  | .obj fs, v => ∃ a xs, Tg K H v 8 (.ref a) ∧ Lf H a xs ∧ FsAt K H fs xs
  | .big _, _ => False
  | .deep, _ => False
def VsAt (K : PySem.W.Frag) (H : Hp) : List Plain → List V → Prop
  | [], xs => xs = []
  | p :: l, xs => ∃ x ys, xs = x :: ys ∧ VAt K H p x ∧ VsAt K H l ys
def FsAt (K : PySem.W.Frag) (H : Hp) : List (Units × Plain) → List V → Prop
  | [], xs => xs = []
  | p :: l, xs => ∃ x ys, xs = x :: ys ∧ (∃ a b y, x = .ref a ∧ SqT K H a [.ref b, y] ∧ Oc H b (uI p.1) ∧ VAt K H p.2 y) ∧ FsAt K H l ys
end
mutual
theorem VAt.kp {K : PySem.W.Frag} {H H' : Hp} (q : Kp H H') : ∀ {p : Plain} {v : V}, VAt K H p v → VAt K H' p v
  | .undef, v, h => Tg.kp h q
  | .null, v, h => Tg.kp h q
  | .bool b, v, h => Tg.kp h q
  | .num x, v, h => let ⟨i, e, t⟩ := h; ⟨i, e, t.kp q⟩
  | .str u, v, h => let ⟨a, t, o⟩ := h; ⟨a, t.kp q, o.kp q⟩
  | .arr l, v, h => let ⟨a, xs, t, f, s⟩ := h; ⟨a, xs, t.kp q, f.kp q, VsAt.kp q s⟩
  | .obj fs, v, h => let ⟨a, xs, t, f, s⟩ := h; ⟨a, xs, t.kp q, f.kp q, FsAt.kp q s⟩
  | .big _, v, h => h
  | .deep, v, h => h
theorem VsAt.kp {K : PySem.W.Frag} {H H' : Hp} (q : Kp H H') : ∀ {l : List Plain} {xs : List V}, VsAt K H l xs → VsAt K H' l xs
  | [], xs, h => h
  | p :: l, xs, h => let ⟨x, ys, e, a, b⟩ := h; ⟨x, ys, e, VAt.kp q a, VsAt.kp q b⟩
theorem FsAt.kp {K : PySem.W.Frag} {H H' : Hp} (q : Kp H H') : ∀ {l : List (Units × Plain)} {xs : List V}, FsAt K H l xs → FsAt K H' l xs
  | [], xs, h => h
  | p :: l, xs, h => let ⟨x, ys, e, ⟨a, b, y, e1, t, o, v⟩, r⟩ := h; ⟨x, ys, e, ⟨a, b, y, e1, sqT_kp q t, o.kp q, VAt.kp q v⟩, FsAt.kp q r⟩
end
/-- a member: a name and a value -/
def FAt (K : PySem.W.Frag) (H : Hp) (p : Units × Plain) (x : V) : Prop := ∃ a b y, x = .ref a ∧ SqT K H a [.ref b, y] ∧ Oc H b (uI p.1) ∧ VAt K H p.2 y
theorem FAt.kp {K : PySem.W.Frag} {H H' : Hp} {p : Units × Plain} {x : V} (h : FAt K H p x) (q : Kp H H') : FAt K H' p x := let ⟨a, b, y, e1, t, o, v⟩ := h; ⟨a, b, y, e1, sqT_kp q t, o.kp q, VAt.kp q v⟩
section
variable {K : PySem.W.Frag} {H : Hp}
theorem VsAt.len : ∀ {l : List Plain} {xs : List V}, VsAt K H l xs → xs.length = l.length
  | [], xs, h => by
    have e : xs = [] := h
    subst e
    rfl
  | p :: l, xs, h => by
    obtain ⟨x, ys, rfl, _, r⟩ := h
    rw [List.length_cons, List.length_cons, VsAt.len r]
theorem FsAt.len : ∀ {l : List (Units × Plain)} {xs : List V}, FsAt K H l xs → xs.length = l.length
  | [], xs, h => by
    have e : xs = [] := h
    subst e
    rfl
  | p :: l, xs, h => by
    obtain ⟨x, ys, rfl, _, r⟩ := h
    rw [List.length_cons, List.length_cons, FsAt.len r]
theorem VsAt.get : ∀ {l : List Plain} {xs : List V}, VsAt K H l xs → ∀ {i : Nat} {x : V}, xs[i]? = some x → ∃ p, l[i]? = some p ∧ VAt K H p x
  | [], xs, h, i, x, e => by
    have z : xs = [] := h
    subst z
    simp at e
  | p :: l, xs, h, i, x, e => by
    obtain ⟨y, ys, rfl, a, r⟩ := h
    cases i with
    | zero =>
      cases e
      exact ⟨p, rfl, a⟩
    | succ i => exact VsAt.get r e
theorem FsAt.get : ∀ {l : List (Units × Plain)} {xs : List V}, FsAt K H l xs → ∀ {i : Nat} {x : V}, xs[i]? = some x → ∃ p, l[i]? = some p ∧ FAt K H p x
  | [], xs, h, i, x, e => by
    have z : xs = [] := h
    subst z
    simp at e
  | p :: l, xs, h, i, x, e => by
    obtain ⟨y, ys, rfl, a, r⟩ := h
    cases i with
    | zero =>
      cases e
      exact ⟨p, rfl, a⟩
    | succ i => exact FsAt.get r e
theorem VsAt.of : ∀ {l : List Plain} {xs : List V}, xs.length = l.length → (∀ (i : Nat) p x, l[i]? = some p → xs[i]? = some x → VAt K H p x) → VsAt K H l xs
  | [], xs, e, h => List.length_eq_zero_iff.mp e
  | p :: l, [], e, h => by simp at e
  | p :: l, x :: xs, e, h => ⟨x, xs, rfl, h 0 p x rfl rfl, VsAt.of (by simpa using e) fun i p x e1 e2 => h (i + 1) p x e1 e2⟩
theorem FsAt.of : ∀ {l : List (Units × Plain)} {xs : List V}, xs.length = l.length → (∀ (i : Nat) p x, l[i]? = some p → xs[i]? = some x → FAt K H p x) → FsAt K H l xs
  | [], xs, e, h => List.length_eq_zero_iff.mp e
  | p :: l, [], e, h => by simp at e
  | p :: l, x :: xs, e, h => ⟨x, xs, rfl, h 0 p x rfl rfl, FsAt.of (by simpa using e) fun i p x e1 e2 => h (i + 1) p x e1 e2⟩
theorem VsAt.push : ∀ {l : List Plain} {xs : List V} {p : Plain} {x : V}, VsAt K H l xs → VAt K H p x → VsAt K H (l ++ [p]) (xs ++ [x])
  | [], xs, p, x, h, q => by
    have z : xs = [] := h
    subst z
    exact ⟨x, [], rfl, q, rfl⟩
  | p' :: l, xs, p, x, h, q => by
    obtain ⟨y, ys, rfl, a, r⟩ := h
    exact ⟨y, ys ++ [x], rfl, a, VsAt.push r q⟩
theorem FsAt.push : ∀ {l : List (Units × Plain)} {xs : List V} {p : Units × Plain} {x : V}, FsAt K H l xs → FAt K H p x → FsAt K H (l ++ [p]) (xs ++ [x])
  | [], xs, p, x, h, q => by
    have z : xs = [] := h
    subst z
    exact ⟨x, [], rfl, q, rfl⟩
  | p' :: l, xs, p, x, h, q => by
    obtain ⟨y, ys, rfl, a, r⟩ := h
    exact ⟨y, ys ++ [x], rfl, a, FsAt.push r q⟩
end
/-! #### what each kind says -/
def kindOf : Plain → Int
  | .undef => 0
  | .null => 1
  | .bool b => if b = true then 3 else 2
  | .num _ => 4
  | .str _ => 6
  | .arr _ => 7
  | .obj _ => 8
  | .big _ => 0
  | .deep => 0
/-- a value is a pair -/
theorem VAt.tg {K : PySem.W.Frag} {H : Hp} : ∀ {p : Plain} {v : V}, VAt K H p v → ∃ a y, v = .ref a ∧ SqT K H a [.int (kindOf p), y]
  | .undef, v, h => let ⟨a, e, s⟩ := h; ⟨a, _, e, s⟩
  | .null, v, h => let ⟨a, e, s⟩ := h; ⟨a, _, e, s⟩
  | .bool b, v, h => let ⟨a, e, s⟩ := h; ⟨a, _, e, s⟩
  | .num x, v, h => let ⟨i, _, a, e, s⟩ := h; ⟨a, _, e, s⟩
  | .str u, v, h => let ⟨b, ⟨a, e, s⟩, _⟩ := h; ⟨a, _, e, s⟩
  | .arr l, v, h => let ⟨b, xs, ⟨a, e, s⟩, _⟩ := h; ⟨a, _, e, s⟩
  | .obj l, v, h => let ⟨b, xs, ⟨a, e, s⟩, _⟩ := h; ⟨a, _, e, s⟩
  | .big _, v, h => h.elim
  | .deep, v, h => h.elim
end OK
/-! ### == of tuples of ints -/
namespace OK
open PySem PySem.Spec PyProof.Rows L2
open R7290f.Spec (Plain Units)
theorem dp_ints {K : PySem.W.Frag} {H : Hp} : ∀ l : List Int, DpAll K H (l.map V.int) (l.map PyData.int)
  | [] => .nil
  | i :: l => .cons (.int i) (dp_ints l)
theorem eqv_ints : ∀ l m : List Int, PyData.eqvAll (l.map PyData.int) (m.map PyData.int) = decide (l = m)
  | [], [] => rfl
  | [], _ :: _ => rfl
  | _ :: _, [] => rfl
  | i :: l, j :: m => by
    show (i == j && PyData.eqvAll (l.map PyData.int) (m.map PyData.int)) = decide (i :: l = j :: m)
    rw [eqv_ints l m]
    by_cases h : i = j <;> by_cases h2 : l = m <;> simp [h, h2]
theorem lay_ints : ∀ l : List Int, PyData.canLayAll0 (l.map PyData.int) = true
  | [] => rfl
  | i :: l => by
    show (true && PyData.canLayAll0 (l.map PyData.int)) = true
    rw [lay_ints l]
    rfl
theorem dep_ints : ∀ l : List Int, PyData.depthAll (l.map PyData.int) = 0
  | [] => rfl
  | i :: l => by
    show max (0) (PyData.depthAll (l.map PyData.int)) = 0
    rw [dep_ints l]
    rfl
theorem shaped_ints (l : List Int) : SeqAt.shaped (.tuple (l.map PyData.int)) = true := by
  show (PyData.canLayAll0 (l.map PyData.int) && decide (PyData.depthAll (l.map PyData.int) + 1 ≤ 64)) = true
  rw [lay_ints, dep_ints]
  rfl
section
variable {K : PySem.W.Frag} {H : Hp} {Q : VK} {a b : Addr} {l m : List Int}
theorem x_eqT (ha : SqT K H a (l.map V.int)) (hb : SqT K H b (m.map V.int)) (q : Q (.bl (decide (l = m))) H) : rEqD K (.ref a) (.ref b) H Q := ⟨_, _, .tup ha (dp_ints l), .tup hb (dp_ints m), shaped_ints l, shaped_ints m, by
  show Q (.bl (PyData.eqvAll _ _)) H
  rw [eqv_ints]
  exact q⟩
theorem x_neT (ha : SqT K H a (l.map V.int)) (hb : SqT K H b (m.map V.int)) (q : Q (.bl (!decide (l = m))) H) : rNeD K (.ref a) (.ref b) H Q := ⟨_, _, .tup ha (dp_ints l), .tup hb (dp_ints m), shaped_ints l, shaped_ints m, by
  show Q (.bl (!PyData.eqvAll _ _)) H
  rw [eqv_ints]
  exact q⟩
theorem kI_dec {j k : List Nat} (hj : Dig j) (hk : Dig k) : decide (kI j = kI k) = decide (j = k) := decide_eq_decide.mpr ⟨kI_inj hj hk, fun e => by rw [e]⟩
/-- two bounds -/
theorem x_eqB {x y : V} {c d : Option (List Nat)} (hx : BAt H x c) (hy : BAt H y d) (dc : BDig c) (dd : BDig d) (q : Q (.bl (decide (c = d))) H) : rEqD K x y H Q := by
  cases c with
  | none =>
    have e : x = .non := hx
    subst e
    cases d with
    | none =>
      have e : y = .non := hy
      subst e
      exact ⟨_, _, .non, .non, rfl, rfl, q⟩
    | some k =>
      obtain ⟨p, rfl, hp⟩ := hy
      exact ⟨_, _, .non, .tup hp.t (dp_ints _), rfl, shaped_ints _, q⟩
  | some j =>
    obtain ⟨p, rfl, hp⟩ := hx
    cases d with
    | none =>
      have e : y = .non := hy
      subst e
      exact ⟨_, _, .tup hp.t (dp_ints _), .non, shaped_ints _, rfl, q⟩
    | some k =>
      obtain ⟨p', rfl, hp'⟩ := hy
      refine x_eqT hp.t hp'.t ?_
      rw [kI_dec (dc j rfl) (dd k rfl)]
      have e : decide (some j = some k) = decide (j = k) := decide_eq_decide.mpr ⟨Option.some.inj, fun e => by rw [e]⟩
      rw [e] at q
      exact q
end
end OK
namespace OK
open PySem PySem.Spec PyProof.Rows L2
theorem cut_nat {i j : Nat} (xs : List V) (h : i ≤ j ∧ j ≤ xs.length) : cutV xs (some ((i : Nat) : Int)) (some ((j : Nat) : Int)) = (xs.drop i).take (j - i) := by
  unfold cutV
  rw [HT.sIx_nat, HT.sIx_nat, Nat.min_eq_left h.2, Nat.min_eq_left (Nat.le_trans h.1 h.2)]
theorem cut_to {j : Nat} (xs : List V) (h : j ≤ xs.length) : cutV xs none (some ((j : Nat) : Int)) = xs.take j := by
  unfold cutV
  rw [HT.sIx_nat, HT.sIx_none, Nat.min_eq_left h, List.drop_zero, Nat.sub_zero]
theorem cut_from {i : Nat} (xs : List V) (h : i ≤ xs.length) : cutV xs (some ((i : Nat) : Int)) none = xs.drop i := by
  unfold cutV
  rw [HT.sIx_nat, HT.sIx_none, Nat.min_eq_left h]
  exact List.take_of_length_le (by rw [List.length_drop]; exact Nat.le_refl _)
end OK
/-! ### reading octets: the plain law -/
namespace OK
open RWire
def bI (bs : List UInt8) : List Int := bs.map fun (b : UInt8) => (b.toNat : Int)
theorem bI_len (bs : List UInt8) : (bI bs).length = bs.length := List.length_map _
theorem bI_get {bs : List UInt8} {i : Nat} {b : UInt8} (h : bs[i]? = some b) : (bI bs)[i]? = some (b.toNat : Int) := by
  unfold bI
  rw [List.getElem?_map, h]
  rfl
theorem uI_unitOf (u : List UInt8) : uI (u.map Rust.unitOf) = bI u := by
  unfold uI bI
  rw [List.map_map]
  refine List.map_congr_left fun o _ => ?_
  show (((UInt16.ofNat o.toNat).toNat : Nat) : Int) = _
  have h := o.toNat_lt
  have : (UInt16.ofNat o.toNat).toNat = o.toNat := by
    rw [UInt16.toNat_ofNat']
    omega
  rw [this]
theorem front_some : ∀ {k : Nat} {b u r : List UInt8}, front k b = some (u, r) → u = b.take k ∧ r = b.drop k ∧ k ≤ b.length
  | 0, b, u, r, h => by
    cases h
    exact ⟨rfl, rfl, Nat.zero_le _⟩
  | k + 1, [], u, r, h => by cases h
  | k + 1, a :: b, u, r, h => by
    unfold front at h
    cases e : front k b with
    | none => rw [e] at h; cases h
    | some p =>
      rw [e] at h
      cases h
      obtain ⟨h1, h2, h3⟩ := front_some (u := p.1) (r := p.2) e
      exact ⟨by rw [h1]; rfl, by rw [h2]; rfl, Nat.succ_le_succ h3⟩
theorem readNum_some {k n : Nat} {b r : List UInt8} (h : readNum k b = some (n, r)) : n = numOf (b.take k) ∧ r = b.drop k ∧ k ≤ b.length := by
  unfold readNum at h
  cases e : front k b with
  | none => rw [e] at h; cases h
  | some p =>
    rw [e] at h
    cases h
    obtain ⟨h1, h2, h3⟩ := front_some (u := p.1) (r := p.2) e
    exact ⟨by rw [h1], h2, h3⟩
theorem readText_some {b u r : List UInt8} (h : readText b = some (u, r)) : 4 ≤ b.length ∧ u = (b.drop 4).take (numOf (b.take 4)) ∧ r = b.drop (4 + numOf (b.take 4)) ∧ 4 + numOf (b.take 4) ≤ b.length := by
  unfold readText at h
  cases e : readNum 4 b with
  | none => rw [e] at h; cases h
  | some p =>
    rw [e] at h
    obtain ⟨h1, h2, h3⟩ := readNum_some (n := p.1) (r := p.2) e
    obtain ⟨h4, h5, h6⟩ := front_some (k := p.1) (b := p.2) h
    rw [h2] at h4 h5 h6
    rw [h1] at h4 h5 h6
    refine ⟨h3, h4, by rw [h5, List.drop_drop], ?_⟩
    rw [List.length_drop] at h6
    omega
/-- the number of k octets from the last one on -/
theorem numOf_back {b : List UInt8} {k i : Nat} (hk : k ≤ b.length) (hi : i < k) : ∃ x, b[k - 1 - i]? = some x ∧ numOf ((b.take k).drop (k - (i + 1))) = numOf ((b.take k).drop (k - i)) * 256 + x.toNat := by
  have hl : k - 1 - i < (b.take k).length := by rw [List.length_take]; omega
  have hl2 : k - 1 - i < b.length := by omega
  refine ⟨b[k - 1 - i], List.getElem?_eq_getElem hl2, ?_⟩
  have e : k - (i + 1) = k - 1 - i := by omega
  rw [e, List.drop_eq_getElem_cons hl]
  have e2 : k - 1 - i + 1 = k - i := by omega
  rw [e2]
  show (b.take k)[k - 1 - i].toNat + 256 * numOf ((b.take k).drop (k - i)) = _
  rw [List.getElem_take]
  omega
theorem numOf_lt : ∀ (l : List UInt8), numOf l < 256 ^ l.length
  | [] => by decide
  | a :: l => by
    have h := numOf_lt l
    have h2 := a.toNat_lt
    show a.toNat + 256 * numOf l < 256 ^ (l.length + 1)
    rw [Nat.pow_succ]
    omega
theorem drop_all {α : Type} (l : List α) {n : Nat} (h : l.length ≤ n) : l.drop n = [] := List.drop_eq_nil_iff.mpr h
/-- kinds that this document has -/
def okV (v : Value) : Bool := noBig v && noOctets v && noWide v
def okVs (l : List Value) : Bool := noBigMany l && noOctetsMany l && noWideMany l
def okFs (l : List (Text × Value)) : Bool := noBigEntries l && noOctetsEntries l && noWideEntries l
theorem okVs_cons {v : Value} {l : List Value} (h : okVs (v :: l) = true) : okV v = true ∧ okVs l = true := by
  unfold okVs noBigMany noOctetsMany noWideMany at h
  unfold okVs okV
  simp at h ⊢
  simp [h]
theorem okFs_cons {v : Text × Value} {l : List (Text × Value)} (h : okFs (v :: l) = true) : okV v.2 = true ∧ okFs l = true := by
  unfold okFs noBigEntries noOctetsEntries noWideEntries at h
  unfold okFs okV
  simp at h ⊢
  simp [h]
theorem readMany_len {α : Type} {f : List UInt8 → Option (α × List UInt8)} : ∀ {n : Nat} {b : List UInt8} {l : List α} {r : List UInt8}, readMany f n b = some (l, r) → l.length = n
  | 0, b, l, r, h => by
    cases h
    rfl
  | n + 1, b, l, r, h => by
    unfold readMany at h
    cases e : f b with
    | none => rw [e] at h; cases h
    | some p =>
      rw [e] at h
      dsimp only at h
      cases e2 : readMany f n p.2 with
      | none => rw [e2] at h; cases h
      | some q =>
        rw [e2] at h
        cases h
        rw [List.length_cons, readMany_len (l := q.1) (r := q.2) e2]
theorem readMany_cons {α : Type} {f : List UInt8 → Option (α × List UInt8)} {n : Nat} {b : List UInt8} {l : List α} {r : List UInt8} (h : readMany f (n + 1) b = some (l, r)) :
    ∃ v r1 l1, f b = some (v, r1) ∧ readMany f n r1 = some (l1, r) ∧ l = v :: l1 := by
  unfold readMany at h
  cases e : f b with
  | none => rw [e] at h; cases h
  | some p =>
    rw [e] at h
    dsimp only at h
    cases e2 : readMany f n p.2 with
    | none => rw [e2] at h; cases h
    | some q =>
      rw [e2] at h
      cases h
      exact ⟨p.1, p.2, q.1, rfl, e2, rfl⟩
theorem readEntry_some {f : List UInt8 → Option (Value × List UInt8)} {b : List UInt8} {e : Text × Value} {r : List UInt8} (h : readEntry f b = some (e, r)) : ∃ r1, readText b = some (e.1, r1) ∧ f r1 = some (e.2, r) := by
  unfold readEntry at h
  cases e1 : readText b with
  | none => rw [e1] at h; cases h
  | some p =>
    rw [e1] at h
    dsimp only at h
    cases e2 : f p.2 with
    | none => rw [e2] at h; cases h
    | some q =>
      rw [e2] at h
      cases h
      exact ⟨p.2, rfl, e2⟩
theorem takenAll_append : ∀ (l m : List Value), Rust.takenAll (l ++ m) = Rust.takenAll l ++ Rust.takenAll m
  | [], m => rfl
  | v :: l, m => by
    show Rust.taken v :: Rust.takenAll (l ++ m) = _
    rw [takenAll_append l m]
    rfl
theorem takenFields_append : ∀ (l m : List (Text × Value)), Rust.takenFields (l ++ m) = Rust.takenFields l ++ Rust.takenFields m
  | [], m => rfl
  | (n, v) :: l, m => by
    show _ :: Rust.takenFields (l ++ m) = _
    rw [takenFields_append l m]
    rfl
theorem takenAll_len : ∀ (l : List Value), (Rust.takenAll l).length = l.length
  | [] => rfl
  | v :: l => by
    show (Rust.takenAll l).length + 1 = _
    rw [takenAll_len l]
    rfl
theorem readF_cons {n : Nat} {b : List UInt8} {v : Value} {r : List UInt8} (h : readF (n + 1) b = some (v, r)) : ∃ k b', b = k :: b' ∧ readKind (readF n) k.toNat b' = some (v, r) := by
  cases b with
  | nil => cases h
  | cons k b' => exact ⟨k, b', rfl, h⟩
theorem drop_cons {bs : List UInt8} {p : Nat} {k : UInt8} {b' : List UInt8} (h : bs.drop p = k :: b') : bs[p]? = some k ∧ b' = bs.drop (p + 1) ∧ p < bs.length := by
  have hp : p < bs.length := by
    by_cases c : p < bs.length
    · exact c
    · rw [List.drop_eq_nil_iff.mpr (by omega)] at h
      cases h
  rw [List.drop_eq_getElem_cons hp] at h
  injection h with h1 h2
  exact ⟨by rw [List.getElem?_eq_getElem hp, h1], h2.symm, hp⟩
theorem readInt_some {b : List UInt8} {v : Value} {r : List UInt8} (h : readInt b = some (v, r)) : v = .int (intOf (numOf (b.take 8))) ∧ r = b.drop 8 ∧ 8 ≤ b.length := by
  unfold readInt at h
  cases e : readNum 8 b with
  | none => rw [e] at h; cases h
  | some p =>
    rw [e] at h
    dsimp only at h
    obtain ⟨h1, h2, h3⟩ := readNum_some (n := p.1) (r := p.2) e
    split at h
    · cases h
      rw [h1]
      exact ⟨rfl, h2, h3⟩
    · cases h
theorem readWords_some {b : List UInt8} {v : Value} {r : List UInt8} (h : readWords b = some (v, r)) : ∃ u, v = .text u ∧ readText b = some (u, r) := by
  unfold readWords at h
  cases e : readText b with
  | none => rw [e] at h; cases h
  | some p =>
    rw [e] at h
    cases h
    exact ⟨p.1, rfl, rfl⟩
theorem readList_some {f : List UInt8 → Option (Value × List UInt8)} {b : List UInt8} {v : Value} {r : List UInt8} (h : readList f b = some (v, r)) : ∃ m r0 l, v = .list l ∧ readNum 4 b = some (m, r0) ∧ readMany f m r0 = some (l, r) := by
  unfold readList at h
  cases e : readNum 4 b with
  | none => rw [e] at h; cases h
  | some p =>
    rw [e] at h
    dsimp only at h
    cases e2 : readMany f p.1 p.2 with
    | none => rw [e2] at h; cases h
    | some q =>
      rw [e2] at h
      cases h
      exact ⟨p.1, p.2, q.1, rfl, rfl, e2⟩
theorem readRecord_some {f : List UInt8 → Option (Value × List UInt8)} {b : List UInt8} {v : Value} {r : List UInt8} (h : readRecord f b = some (v, r)) : ∃ m r0 l, v = .record l ∧ readNum 4 b = some (m, r0) ∧ readMany (readEntry f) m r0 = some (l, r) ∧ apart l = true := by
  unfold readRecord at h
  cases e : readNum 4 b with
  | none => rw [e] at h; cases h
  | some p =>
    rw [e] at h
    dsimp only at h
    cases e2 : readMany (readEntry f) p.1 p.2 with
    | none => rw [e2] at h; cases h
    | some q =>
      rw [e2] at h
      dsimp only at h
      split at h
      · rename_i ha
        cases h
        exact ⟨p.1, p.2, q.1, rfl, rfl, e2, ha⟩
      · cases h
/-- the other kinds -/
def plainOf (k : Nat) : Value := match k with
  | 0 => .nothing
  | 1 => .null
  | 2 => .bool false
  | _ => .bool true
theorem readKind_else {f : List UInt8 → Option (Value × List UInt8)} {k : Nat} {b : List UInt8} {v : Value} {r : List UInt8} (h : readKind f k b = some (v, r)) (n4 : k ≠ 4) (n6 : k ≠ 6) (n7 : k ≠ 7) (n8 : k ≠ 8) (ok : okV v = true) : k < 4 ∧ v = plainOf k ∧ r = b := by
  unfold readKind at h
  split at h
  · cases h; exact ⟨by decide, rfl, rfl⟩
  · cases h; exact ⟨by decide, rfl, rfl⟩
  · cases h; exact ⟨by decide, rfl, rfl⟩
  · cases h; exact ⟨by decide, rfl, rfl⟩
  · exact absurd rfl n4
  · exfalso
    unfold readBig at h
    split at h
    · cases h
    · split at h
      · cases h
      · split at h
        · cases h
        · split at h
          · cases h
          · cases h
            exact Bool.noConfusion ok
  · exact absurd rfl n6
  · exact absurd rfl n7
  · exact absurd rfl n8
  · exfalso
    unfold readOctets at h
    split at h
    · cases h
    · cases h
      exact Bool.noConfusion ok
  · exfalso
    unfold readWide at h
    split at h
    · cases h
    · split at h
      · cases h
      · split at h
        · cases h
          exact Bool.noConfusion ok
        · cases h
  · cases h
end OK
/-! ### writing octets: the plain law -/
namespace OK
open RWire
open R7290f.Spec (Plain Units)
theorem bI_append (a b : List UInt8) : bI (a ++ b) = bI a ++ bI b := List.map_append
theorem bI_low : ∀ (k n : Nat), bI (low (k + 1) n) = ((n % 256 : Nat) : Int) :: bI (low k (n / 256)) := fun k n => by
  show (((UInt8.ofNat n).toNat : Nat) : Int) :: bI (low k (n / 256)) = _
  have : (UInt8.ofNat n).toNat = n % 256 := by
    rw [UInt8.toNat_ofNat']
  rw [this]
theorem low_len : ∀ (k n : Nat), (low k n).length = k
  | 0, n => rfl
  | k + 1, n => by
    show (low k (n / 256)).length + 1 = k + 1
    rw [low_len k]
/-- the first i of them -/
theorem low_snoc : ∀ (i n : Nat), bI (low (i + 1) n) = bI (low i n) ++ [((n / 256 ^ i % 256 : Nat) : Int)]
  | 0, n => by
    rw [bI_low]
    show _ = [((n / 1 % 256 : Nat) : Int)]
    rw [Nat.div_one]
    rfl
  | i + 1, n => by
    rw [bI_low, low_snoc i, bI_low]
    rw [Nat.div_div_eq_div_mul, ← Nat.pow_succ', List.cons_append]
theorem narrow_uI {u : Units} (h : Rust.narrowText u = true) : bI (u.map Rust.octetOf) = uI u := by
  unfold bI uI
  rw [List.map_map]
  refine List.map_congr_left fun c hc => ?_
  have h1 := List.all_eq_true.mp h c hc
  have h2 : c.toNat < 256 := by
    have := Nat.blt_eq.mp h1
    exact this
  show (((UInt8.ofNat c.toNat).toNat : Nat) : Int) = _
  have : (UInt8.ofNat c.toNat).toNat = c.toNat := by
    rw [UInt8.toNat_ofNat']
    omega
  rw [this]
theorem givenAll_len : ∀ (l : List Plain), (Rust.givenAll l).length = l.length
  | [] => rfl
  | v :: l => by
    show (Rust.givenAll l).length + 1 = _
    rw [givenAll_len l]
    rfl
theorem givenFields_len : ∀ (l : List (Units × Plain)), (Rust.givenFields l).length = l.length
  | [] => rfl
  | (n, v) :: l => by
    show (Rust.givenFields l).length + 1 = _
    rw [givenFields_len l]
    rfl
theorem writeMany_append : ∀ (l m : List Value), writeMany (l ++ m) = writeMany l ++ writeMany m
  | [], m => rfl
  | v :: l, m => by
    show write v ++ writeMany (l ++ m) = (write v ++ writeMany l) ++ writeMany m
    rw [writeMany_append l m, List.append_assoc]
theorem writeEntries_append : ∀ (l m : List (Text × Value)), writeEntries (l ++ m) = writeEntries l ++ writeEntries m
  | [], m => rfl
  | v :: l, m => by
    show writeText v.1 ++ (write v.2 ++ writeEntries (l ++ m)) = (writeText v.1 ++ (write v.2 ++ writeEntries l)) ++ writeEntries m
    rw [writeEntries_append l m, List.append_assoc, List.append_assoc]
theorem givenAll_map : ∀ (l : List Plain), Rust.givenAll l = l.map Rust.given
  | [] => rfl
  | v :: l => by
    show Rust.given v :: Rust.givenAll l = _
    rw [givenAll_map l]
    rfl
theorem givenFields_map : ∀ (l : List (Units × Plain)), Rust.givenFields l = l.map fun f => (f.1.map Rust.octetOf, Rust.given f.2)
  | [] => rfl
  | (n, v) :: l => by
    show _ :: Rust.givenFields l = _
    rw [givenFields_map l]
    rfl
/-- what can be told, to this depth, of this size -/
structure Tell (n : Nat) (p : Plain) : Prop where
  nar : Rust.narrow p = true
  fin : fine (Rust.given p) = true
  dep : depth (Rust.given p) ≤ n
  siz : (write (Rust.given p)).length ≤ 70000
structure TellM (n : Nat) (l : List Plain) : Prop where
  nar : Rust.narrowAll l = true
  fin : fineMany (Rust.givenAll l) = true
  dep : depthMany (Rust.givenAll l) ≤ n
  siz : (writeMany (Rust.givenAll l)).length ≤ 70000
structure TellF (n : Nat) (l : List (Units × Plain)) : Prop where
  nar : Rust.narrowFields l = true
  fin : fineEntries (Rust.givenFields l) = true
  dep : depthEntries (Rust.givenFields l) ≤ n
  siz : (writeEntries (Rust.givenFields l)).length ≤ 70000
theorem Tell.arr {n : Nat} {l : List Plain} (h : Tell (n + 1) (.arr l)) : TellM n l := by
  refine ⟨h.nar, ?_, Nat.le_of_succ_le_succ h.dep, ?_⟩
  · have : (decide ((Rust.givenAll l).length < countMost) && fineMany (Rust.givenAll l)) = true := h.fin
    exact (Bool.and_eq_true_iff.mp this).2
  · have : (7 :: (writeCount (Rust.givenAll l).length ++ writeMany (Rust.givenAll l))).length ≤ 70000 := h.siz
    rw [List.length_cons, List.length_append] at this
    omega
theorem Tell.obj {n : Nat} {l : List (Units × Plain)} (h : Tell (n + 1) (.obj l)) : TellF n l := by
  refine ⟨h.nar, ?_, Nat.le_of_succ_le_succ h.dep, ?_⟩
  · have : (decide ((Rust.givenFields l).length < countMost) && (fineEntries (Rust.givenFields l) && apart (Rust.givenFields l))) = true := h.fin
    exact (Bool.and_eq_true_iff.mp (Bool.and_eq_true_iff.mp this).2).1
  · have : (8 :: (writeCount (Rust.givenFields l).length ++ writeEntries (Rust.givenFields l))).length ≤ 70000 := h.siz
    rw [List.length_cons, List.length_append] at this
    omega
theorem TellM.cons {n : Nat} {p : Plain} {l : List Plain} (h : TellM n (p :: l)) : Tell n p ∧ TellM n l := by
  have h1 : (Rust.narrow p && Rust.narrowAll l) = true := h.nar
  have h2 : (fine (Rust.given p) && fineMany (Rust.givenAll l)) = true := h.fin
  have h3 : max (depth (Rust.given p)) (depthMany (Rust.givenAll l)) ≤ n := h.dep
  have h4 : (write (Rust.given p) ++ writeMany (Rust.givenAll l)).length ≤ 70000 := h.siz
  rw [List.length_append] at h4
  rw [Bool.and_eq_true_iff] at h1 h2
  exact ⟨⟨h1.1, h2.1, by omega, by omega⟩, ⟨h1.2, h2.2, by omega, by omega⟩⟩
theorem TellF.cons {n : Nat} {p : Units × Plain} {l : List (Units × Plain)} (h : TellF n (p :: l)) : Rust.narrowText p.1 = true ∧ Tell n p.2 ∧ TellF n l ∧ (writeText (p.1.map Rust.octetOf)).length ≤ 70000 := by
  obtain ⟨m, p⟩ := p
  have h1 : (Rust.narrowText m && (Rust.narrow p && Rust.narrowFields l)) = true := h.nar
  have h2 : (fineText (m.map Rust.octetOf) && (fine (Rust.given p) && fineEntries (Rust.givenFields l))) = true := h.fin
  have h3 : max (depth (Rust.given p)) (depthEntries (Rust.givenFields l)) ≤ n := h.dep
  have h4 : (writeText (m.map Rust.octetOf) ++ (write (Rust.given p) ++ writeEntries (Rust.givenFields l))).length ≤ 70000 := h.siz
  rw [List.length_append, List.length_append] at h4
  rw [Bool.and_eq_true_iff, Bool.and_eq_true_iff] at h1 h2
  exact ⟨h1.1, ⟨h1.2.1, h2.2.1, by show depth (Rust.given p) ≤ n; omega, by show (write (Rust.given p)).length ≤ 70000; omega⟩, ⟨h1.2.2, h2.2.2, by omega, by omega⟩, by show (writeText (m.map Rust.octetOf)).length ≤ 70000; omega⟩
theorem TellM.get {n : Nat} : ∀ {l : List Plain}, TellM n l → ∀ {i : Nat} {p : Plain}, l[i]? = some p → Tell n p
  | [], _, i, p, e => by simp at e
  | q :: l, h, 0, p, e => by
    cases e
    exact h.cons.1
  | q :: l, h, i + 1, p, e => TellM.get h.cons.2 e
theorem TellF.get {n : Nat} : ∀ {l : List (Units × Plain)}, TellF n l → ∀ {i : Nat} {p : Units × Plain}, l[i]? = some p → Rust.narrowText p.1 = true ∧ Tell n p.2 ∧ (writeText (p.1.map Rust.octetOf)).length ≤ 70000
  | [], _, i, p, e => by simp at e
  | q :: l, h, 0, p, e => by
    cases e
    exact ⟨h.cons.1, h.cons.2.1, h.cons.2.2.2⟩
  | q :: l, h, i + 1, p, e => TellF.get h.cons.2.2.1 e
/-- the octets up to the i-th value -/
theorem many_take {l : List Plain} {i : Nat} {p : Plain} (e : l[i]? = some p) : writeMany (Rust.givenAll (l.take (i + 1))) = writeMany (Rust.givenAll (l.take i)) ++ write (Rust.given p) := by
  rw [take_more e, givenAll_map, List.map_append, writeMany_append, givenAll_map]
  show _ = _
  congr 1
  show write (Rust.given p) ++ [] = _
  rw [List.append_nil]
theorem ents_take {l : List (Units × Plain)} {i : Nat} {p : Units × Plain} (e : l[i]? = some p) : writeEntries (Rust.givenFields (l.take (i + 1))) = writeEntries (Rust.givenFields (l.take i)) ++ (writeText (p.1.map Rust.octetOf) ++ write (Rust.given p.2)) := by
  rw [take_more e, givenFields_map, List.map_append, writeEntries_append, givenFields_map]
  congr 1
  show writeText (p.1.map Rust.octetOf) ++ (write (Rust.given p.2) ++ []) = _
  rw [List.append_nil]
theorem many_le (l : List Plain) (i : Nat) : (writeMany (Rust.givenAll (l.take i))).length ≤ (writeMany (Rust.givenAll l)).length := by
  have e := List.take_append_drop i l
  have h : writeMany (Rust.givenAll l) = writeMany (Rust.givenAll (l.take i)) ++ writeMany (Rust.givenAll (l.drop i)) := by
    rw [← writeMany_append, givenAll_map, givenAll_map, givenAll_map, ← List.map_append, e]
  rw [h, List.length_append]
  omega
theorem ents_le (l : List (Units × Plain)) (i : Nat) : (writeEntries (Rust.givenFields (l.take i))).length ≤ (writeEntries (Rust.givenFields l)).length := by
  have e := List.take_append_drop i l
  have h : writeEntries (Rust.givenFields l) = writeEntries (Rust.givenFields (l.take i)) ++ writeEntries (Rust.givenFields (l.drop i)) := by
    rw [← writeEntries_append, givenFields_map, givenFields_map, givenFields_map, ← List.map_append, e]
  rw [h, List.length_append]
  omega
theorem count_lt {n : Nat} (h : n ≤ 70000) : n < 4294967296 := by omega
theorem many_len : ∀ (l : List Plain), l.length ≤ (writeMany (Rust.givenAll l)).length
  | [] => Nat.le_refl _
  | p :: l => by
    have h := many_len l
    show l.length + 1 ≤ (write (Rust.given p) ++ writeMany (Rust.givenAll l)).length
    rw [List.length_append]
    have h2 : 1 ≤ (write (Rust.given p)).length := by
      cases Rust.given p <;> (unfold write; simp)
    omega
theorem ents_len : ∀ (l : List (Units × Plain)), l.length ≤ (writeEntries (Rust.givenFields l)).length
  | [] => Nat.le_refl _
  | (m, p) :: l => by
    have h := ents_len l
    show l.length + 1 ≤ (writeText (m.map Rust.octetOf) ++ (write (Rust.given p) ++ writeEntries (Rust.givenFields l))).length
    rw [List.length_append, List.length_append]
    have h2 : 1 ≤ (write (Rust.given p)).length := by
      cases Rust.given p <;> (unfold write; simp)
    omega
end OK
/-! ### tables of sets: any mask whose round is full -/
namespace OK
open PySem PyProof.Rows L2
/-- from anywhere each slot is met within a round of i -> 5 i + 1 -/
def Full (m : Nat) : Prop := m % 2 = 1 ∧ ∀ i j, i ≤ m → j ≤ m → ∃ k, k ≤ m ∧ lcgI m i k = j
/-- the slots that the first n steps meet, as bits -/
def seenB (m : Nat) : Nat → Nat → Nat → Nat
  | 0, _, acc => acc
  | n + 1, x, acc => seenB m n ((x * 5 + 1) % (m + 1)) (acc ||| (1 <<< x))
def lastB (m : Nat) : Nat → Nat → Nat
  | 0, x => x
  | n + 1, x => lastB m n ((x * 5 + 1) % (m + 1))
theorem lcgI_front (m x : Nat) : ∀ k, lcgI m x (k + 1) = lcgI m ((x * 5 + 1) % (m + 1)) k
  | 0 => rfl
  | k + 1 => by
    show (lcgI m x (k + 1) * 5 + 1) % (m + 1) = (lcgI m ((x * 5 + 1) % (m + 1)) k * 5 + 1) % (m + 1)
    rw [lcgI_front m x k]
theorem lastB_eq (m : Nat) : ∀ n x, lastB m n x = lcgI m x n
  | 0, _ => rfl
  | n + 1, x => by
    show lastB m n _ = _
    rw [lastB_eq m n, lcgI_front]
theorem seenB_bit (m j : Nat) : ∀ n x acc, (seenB m n x acc).testBit j = true → acc.testBit j = true ∨ ∃ k, k < n ∧ lcgI m x k = j
  | 0, _, _, h => .inl h
  | n + 1, x, acc, h => by
    rcases seenB_bit m j n _ _ h with h1 | ⟨k, hk, e⟩
    · rw [Nat.testBit_or, Bool.or_eq_true_iff] at h1
      rcases h1 with h1 | h1
      · exact .inl h1
      · rw [Nat.one_shiftLeft, Nat.testBit_two_pow, decide_eq_true_eq] at h1
        exact .inr ⟨0, Nat.succ_pos _, h1⟩
    · exact .inr ⟨k + 1, Nat.succ_lt_succ hk, by rw [lcgI_front]; exact e⟩
theorem lcgI_add (m x a : Nat) : ∀ k, lcgI m (lcgI m x a) k = lcgI m x (a + k)
  | 0 => rfl
  | k + 1 => by
    show (lcgI m (lcgI m x a) k * 5 + 1) % (m + 1) = (lcgI m x (a + k) * 5 + 1) % (m + 1)
    rw [lcgI_add m x a k]
theorem full_of {m : Nat} (h2 : m % 2 = 1) (h : seenB m (m + 1) 0 0 = 2 ^ (m + 1) - 1) (hr : lastB m (m + 1) 0 = 0) : Full m := by
  have cover : ∀ j, j ≤ m → ∃ k, k ≤ m ∧ lcgI m 0 k = j := fun j hj => by
    have hb : (seenB m (m + 1) 0 0).testBit j = true := by
      rw [h, Nat.testBit_two_pow_sub_one]
      exact decide_eq_true (Nat.lt_succ_of_le hj)
    rcases seenB_bit m j _ _ _ hb with z | ⟨k, hk, e⟩
    · rw [Nat.zero_testBit] at z
      cases z
    · exact ⟨k, Nat.le_of_lt_succ hk, e⟩
  rw [lastB_eq] at hr
  refine ⟨h2, fun i j hi hj => ?_⟩
  obtain ⟨a, ha, ea⟩ := cover i hi
  obtain ⟨b, hb, eb⟩ := cover j hj
  rw [← ea]
  by_cases c : a ≤ b
  · refine ⟨b - a, by omega, ?_⟩
    rw [lcgI_add, show a + (b - a) = b by omega]
    exact eb
  · refine ⟨m + 1 - a + b, by omega, ?_⟩
    rw [lcgI_add, show a + (m + 1 - a + b) = m + 1 + b by omega, ← lcgI_add, hr]
    exact eb
theorem full7 : Full 7 := full_of (by decide) (by decide +kernel) (by decide +kernel)
theorem full31 : Full 31 := full_of (by decide) (by decide +kernel) (by decide +kernel)
theorem full127 : Full 127 := full_of (by decide) (by decide +kernel) (by decide +kernel)
theorem full511 : Full 511 := full_of (by decide) (by decide +kernel) (by decide +kernel)
theorem full2047 : Full 2047 := full_of (by decide) (by decide +kernel) (by decide +kernel)
/-- within the search's bound each slot is met -/
theorem Full.run {m : Nat} (F : Full m) (h : Int) {j : Nat} (hj : j ≤ m) : ∃ n, n ≤ m + 12 ∧ runI m (SetTable.bits h) n = j := by
  obtain ⟨k, hk, e⟩ := F.2 _ j (runI_le m (SetTable.bits h) 12) hj
  exact ⟨12 + k, by omega, (runI_tail (bits_lt h) k).trans e⟩
theorem Full.meet {m : Nat} (F : Full m) (h : Int) {j : Nat} (hj : j ≤ m) : ∃ k, k < 10 * SetTable.turns m ∧ way m h k = j := by
  obtain ⟨n, hn, e⟩ := F.run h hj
  obtain ⟨k, hk, e2⟩ := run_nth m (SetTable.bits h) n
  refine ⟨k, by unfold SetTable.turns; omega, ?_⟩
  show (nth m _ k).j = j
  rw [e2]
  exact e
theorem way_in (m : Nat) (h : Int) (k : Nat) : way m h k ≤ m := by
  have hi : SetTable.bits h % (m + 1) ≤ m := Nat.le_of_lt_succ (Nat.mod_lt _ (Nat.succ_pos _))
  have r := runEnd_bd hi
  have q := nth_in (m := m) k (runAt m (SetTable.bits h % (m + 1)) (SetTable.bits h)) (by
    show SetTable.bits h % (m + 1) + (SetTable.runEnd m (SetTable.bits h % (m + 1)) - SetTable.bits h % (m + 1)) ≤ m
    rw [Nat.add_sub_cancel' r.2.1]
    exact r.1)
  exact Nat.le_trans (Nat.le_add_right _ _) q
/-- j is on h's way, behind taken slots alone -/
def OnWay (m : Nat) (pl : List Nat) (q : Int × Nat) : Prop := ∃ k, way m q.1 k = q.2 ∧ ∀ k', k' < k → way m q.1 k' ∈ pl
structure Tb (t : SetTable) (hs : List Int) : Prop where
  ris : Ris t.place.toList
  dm : t.dummies = #[]
  sz : t.place.toList.length = hs.length
  full : Full t.mask
  bd : ∀ x ∈ t.place.toList, x ≤ t.mask
  on : ∀ q ∈ hs.zip t.place.toList, OnWay t.mask t.place.toList q
theorem zip_at {α β : Type} {l : List α} {m : List β} {i : Nat} {x : α} {y : β} (h1 : l[i]? = some x) (h2 : m[i]? = some y) : (x, y) ∈ l.zip m := by
  refine List.mem_of_getElem? (i := i) ?_
  rw [List.getElem?_zip_eq_some]
  exact ⟨h1, h2⟩
theorem zip_put {α β : Type} (l : List α) (m : List β) (n : l.length = m.length) (p : Nat) (x : α) (y : β) : (l.take p ++ x :: l.drop p).zip (m.take p ++ y :: m.drop p) = (l.zip m).take p ++ (x, y) :: (l.zip m).drop p := by
  rw [List.zip_append (by rw [List.length_take, List.length_take, n]), List.zip_cons_cons]
  show _ = (List.zipWith Prod.mk l m).take p ++ (x, y) :: (List.zipWith Prod.mk l m).drop p
  rw [List.take_zipWith, List.drop_zipWith]
  rfl
/-- the first free slot of a way -/
theorem Tb.free {t : SetTable} {hs : List Int} (T : Tb t hs) (hl : hs.length ≤ t.mask) (h : Int) : ∃ K, K < 10 * SetTable.turns t.mask ∧ way t.mask h K ∉ t.place.toList ∧ ∀ k, k < K → way t.mask h k ∈ t.place.toList := by
  obtain ⟨j, hj, hn⟩ := st_missing t.place.toList (t.mask + 1) (by rw [T.sz]; omega)
  obtain ⟨k, hk, e⟩ := T.full.meet h (Nat.le_of_lt_succ hj)
  obtain ⟨K, h1, h2, h3⟩ := st_least (p := fun k => way t.mask h k ∉ t.place.toList) k (by
    show way t.mask h k ∉ _
    rw [show way t.mask h k = j from e]
    exact hn)
  exact ⟨K, Nat.lt_of_le_of_lt h1 hk, h2, fun k' hk' => Classical.byContradiction fun c => h3 k' hk' c⟩
/-- what is in stands ahead of the first free slot -/
theorem Tb.ahead {t : SetTable} {hs : List Int} (T : Tb t hs) {h : Int} {K i j : Nat} (hK : way t.mask h K ∉ t.place.toList) (hi : hs[i]? = some h) (hj : t.place.toList[i]? = some j) : ∃ k, k < K ∧ way t.mask h k = j := by
  obtain ⟨k, e, hb⟩ := T.on _ (zip_at hi hj)
  refine ⟨k, Nat.lt_of_not_le fun c => ?_, e⟩
  rcases Nat.lt_or_eq_of_le c with c | c
  · exact hK (hb K c)
  · rw [c, e] at hK
    exact hK (List.mem_of_getElem? hj)
/-- one more -/
theorem Tb.more {t : SetTable} {hs : List Int} (T : Tb t hs) {h : Int} {K p : Nat} {t1 : SetTable} (e : t.put (way t.mask h K) = (t1, p)) (hK : way t.mask h K ∉ t.place.toList) (hb : ∀ k, k < K → way t.mask h k ∈ t.place.toList) :
    p ≤ hs.length ∧ Tb t1 (hs.take p ++ h :: hs.drop p) ∧ t1.mask = t.mask ∧ t1.led = t.led ∧ t1.plain = t.plain ∧ t1.fill = hs.length + 1 := by
  have hp : SetTable.below t.place (way t.mask h K) = p := congrArg Prod.snd e
  have pp := put_place t (way t.mask h K)
  have pd := put_dm T.dm (way t.mask h K)
  obtain ⟨c1, _, _⟩ := below_cut T.ris (way t.mask h K)
  have c1' : p ≤ t.place.toList.length := by rw [← hp]; exact c1
  have rs := ris_insert T.ris (fun z => hK (List.mem_of_getElem? (by rw [Array.getElem?_toList]; exact z)) : t.place[SetTable.below t.place (way t.mask h K)]? ≠ some (way t.mask h K))
  have hm : (t.put (way t.mask h K)).1.mask = t.mask := rfl
  have hl : (t.put (way t.mask h K)).1.led = t.led := rfl
  have hq : (t.put (way t.mask h K)).1.plain = t.plain := rfl
  have up : ∀ {x : Nat}, x ∈ t.place.toList → x ∈ (t.put (way t.mask h K)).1.place.toList := fun {x} hx => by
    rw [pp]
    exact mem_ins.2 (.inr hx)
  have hln : (t.put (way t.mask h K)).1.place.toList.length = hs.length + 1 := by
    rw [pp, hp, len_ins _ c1', T.sz]
  have hT : Tb (t.put (way t.mask h K)).1 (hs.take p ++ h :: hs.drop p) := by
    refine ⟨rs, pd, by rw [hln, len_ins _ (by rw [← T.sz]; exact c1')], T.full, fun x hx => ?_, fun q hq => ?_⟩
    · rw [pp] at hx
      rcases mem_ins.1 hx with z | z
      · rw [z]; exact way_in _ _ _
      · exact T.bd x z
    · rw [pp, hp, zip_put _ _ T.sz.symm] at hq
      rcases mem_ins.1 hq with z | z
      · rw [z]
        exact ⟨K, rfl, fun k' hk' => up (hb k' hk')⟩
      · obtain ⟨k, a, b⟩ := T.on q z
        exact ⟨k, a, fun k' hk' => up (b k' hk')⟩
  have hf : (t.put (way t.mask h K)).1.fill = hs.length + 1 := by
    unfold SetTable.fill
    rw [pd, ← Array.length_toList, hln]
    rfl
  rw [e] at hT hf
  rw [e] at hm hl hq
  exact ⟨by rw [← T.sz]; exact c1', hT, hm, hl, hq, hf⟩
/-! laying anew -/
theorem Full.find {m : Nat} (F : Full m) (ow : Array (Option Nat)) (h : Int) {j : Nat} (hj : j ≤ m) (hf : oAt ow j = none) :
    ∃ K, SetTable.layClean.free m ow (SetTable.turns m) (SetTable.bits h % (m + 1)) (SetTable.bits h) = some (way m h K) ∧ oAt ow (way m h K) = none ∧ ∀ k, k < K → oAt ow (way m h k) ≠ none := by
  obtain ⟨n, hn, e⟩ := F.run h hj
  have hw : way m h (off m (SetTable.bits h % (m + 1)) (SetTable.bits h) n) = j := by
    show (nth m _ _).j = j
    rw [nth_off, itL_run]
    exact e
  obtain ⟨K, k1, k2, k3⟩ := st_least (p := fun k => oAt ow (way m h k) = none) (off m (SetTable.bits h % (m + 1)) (SetTable.bits h) n) (by
    show oAt ow (way m h _) = none
    rw [hw]
    exact hf)
  refine ⟨K, free_spec m ow _ n _ _ K (by unfold SetTable.turns; omega) k1 (fun k hk => ?_) (by rw [Option.isNone_iff_eq_none]; exact k2), k2, k3⟩
  rw [Option.isNone_eq_false_iff, Option.isSome_iff_ne_none]
  exact k3 k hk
/-- who owns what, after some hashes were laid -/
structure Ow (m : Nat) (dn : List Int) (ow : Array (Option Nat)) : Prop where
  sz : ow.size = m + 1
  who : ∀ j k, j ≤ m → oAt ow j = some k → ∃ h K, dn[k]? = some h ∧ way m h K = j ∧ ∀ k', k' < K → oAt ow (way m h k') ≠ none
  all : ∀ k, k < dn.length → ∃ j, j ≤ m ∧ oAt ow j = some k
  few : ∃ ps : List Nat, ps.length = dn.length ∧ ∀ j, j ≤ m → oAt ow j ≠ none → j ∈ ps
theorem Ow.start (m : Nat) : Ow m [] (Array.replicate (m + 1) none) :=
  ⟨Array.size_replicate, fun j k hj e => (by rw [oAt_init hj] at e; cases e), fun k hk => absurd hk (Nat.not_lt_zero _), [], rfl, fun j hj e => absurd (oAt_init hj) e⟩
theorem Ow.next {m : Nat} (F : Full m) {dn : List Int} {ow : Array (Option Nat)} (W : Ow m dn ow) (hl : dn.length ≤ m) (h : Int) :
    ∃ j, SetTable.layClean.free m ow (SetTable.turns m) (SetTable.bits h % (m + 1)) (SetTable.bits h) = some j ∧ Ow m (dn ++ [h]) (ow.setIfInBounds j (some dn.length)) := by
  obtain ⟨ps, hps, hin⟩ := W.few
  obtain ⟨j0, h0, hn0⟩ := st_missing ps (m + 1) (by omega)
  obtain ⟨K, e1, e2, e3⟩ := F.find ow h (Nat.le_of_lt_succ h0) (Classical.byContradiction fun c => hn0 (hin j0 (Nat.le_of_lt_succ h0) c))
  have hjm := way_in m h K
  refine ⟨way m h K, e1, ?_⟩
  generalize hj : way m h K = j at e2 hjm
  have me : oAt (ow.setIfInBounds j (some dn.length)) j = some dn.length := oAt_set_self _ (by rw [W.sz]; exact Nat.lt_succ_of_le hjm)
  have ot : ∀ {i : Nat}, i ≠ j → oAt (ow.setIfInBounds j (some dn.length)) i = oAt ow i := fun c => oAt_set_ne _ c
  have up : ∀ {i : Nat}, oAt ow i ≠ none → oAt (ow.setIfInBounds j (some dn.length)) i ≠ none := fun {i} hi => by
    by_cases c : i = j
    · rw [c, me]; exact Option.some_ne_none _
    · rw [ot c]; exact hi
  refine ⟨by rw [Array.size_setIfInBounds]; exact W.sz, fun i k hi e => ?_, fun k hk => ?_, j :: ps, by rw [List.length_cons, List.length_append, hps]; rfl, fun i hi e => ?_⟩
  · by_cases c : i = j
    · rw [c, me] at e
      cases e
      exact ⟨h, K, List.getElem?_concat_length, hj.trans c.symm, fun k' hk' => up (e3 k' hk')⟩
    · rw [ot c] at e
      obtain ⟨h', K', a1, a2, a3⟩ := W.who i k hi e
      exact ⟨h', K', by rw [List.getElem?_append_left (List.getElem?_eq_some_iff.mp a1).1]; exact a1, a2, fun k' hk' => up (a3 k' hk')⟩
  · rw [List.length_append, List.length_singleton] at hk
    by_cases c : k = dn.length
    · rw [c]
      exact ⟨j, hjm, me⟩
    · obtain ⟨i, hi, e⟩ := W.all k (by omega)
      exact ⟨i, hi, (ot fun z => by rw [z, e2] at e; cases e).trans e⟩
  · by_cases c : i = j
    · rw [c]; exact List.mem_cons_self
    · rw [ot c] at e
      exact List.mem_cons_of_mem _ (hin i hi e)
theorem Ow.fold {m : Nat} (F : Full m) : ∀ (rest dn : List Int) (ow : Array (Option Nat)), Ow m dn ow → dn.length + rest.length ≤ m →
    ∃ ow', rest.foldl (stepF m) (some (ow, dn.length)) = some (ow', (dn ++ rest).length) ∧ Ow m (dn ++ rest) ow'
  | [], dn, ow, W, _ => ⟨ow, by rw [List.append_nil]; rfl, by rw [List.append_nil]; exact W⟩
  | h :: rest, dn, ow, W, hl => by
    rw [List.length_cons] at hl
    obtain ⟨j, e, W'⟩ := W.next F (by omega) h
    have hd : (dn ++ [h]).length = dn.length + 1 := by rw [List.length_append]; rfl
    obtain ⟨ow', f, W2⟩ := Ow.fold F rest (dn ++ [h]) _ W' (by omega)
    rw [List.append_assoc, hd] at f
    rw [List.append_assoc] at W2
    exact ⟨ow', by rw [List.foldl_cons, stepF_some e]; exact f, W2⟩
theorem lay_full {m : Nat} (F : Full m) {hs : Array Int} (hn : hs.size ≤ m) : ∃ ow, SetTable.layClean m hs = some ow ∧ Ow m hs.toList ow := by
  obtain ⟨ow, f, W⟩ := Ow.fold F hs.toList [] _ (Ow.start m) (by rw [Array.length_toList]; show 0 + hs.size ≤ m; omega)
  exact ⟨ow, by rw [layClean_eq, show hs.toList.foldl (stepF m) (some (Array.replicate (m + 1) none, 0)) = _ from f]; rfl, W⟩
theorem relaid_full (t : SetTable) {hs : Array Int} {wanted M : Nat} (hw : SetTable.sizeAbove wanted - 1 = M) (F : Full M) (hn : hs.size ≤ M) :
    ∃ t' order, t.relaid hs wanted = some (t', order) ∧ order.toList.Perm (List.range hs.size) ∧ Tb t' (order.toList.map fun i => hs.getD i 0) ∧ t'.mask = M ∧ t'.led = t.led ∧ t'.plain = t.plain := by
  obtain ⟨ow, e, W⟩ := lay_full F hn
  have hr : t.relaid hs wanted = some (tabOf t M ow, ((liveOf M ow).map (·.2)).toArray) := by
    rw [relaid_eq, hw, e]
    rfl
  have ris := ris_live (fun j => ow.getD j none) (List.range (M + 1)) (by
    unfold Ris
    first | exact List.pairwise_lt_range | exact List.pairwise_lt_range _)
  have r1 : Ris ((liveOf M ow).map (·.1)) := ris.1
  have r2 : ∀ x ∈ (liveOf M ow).map (·.1), x ∈ List.range (M + 1) := ris.2
  have live := fun (j k : Nat) => mem_live (j := j) (k := k) W.sz
  have all2 : ∀ k, k < hs.size → k ∈ (liveOf M ow).map (·.2) := fun k hk => by
    obtain ⟨j, b1, b2⟩ := W.all k (by rw [Array.length_toList]; exact hk)
    exact List.mem_map.mpr ⟨(j, k), (live j k).2 ⟨b1, b2⟩, rfl⟩
  have hlen : (liveOf M ow).length = hs.size := by
    obtain ⟨ps, p1, p2⟩ := W.few
    have p1 : ps.length = hs.size := p1
    have nd : ((liveOf M ow).map (·.1)).Nodup := by
      have r1' : ((liveOf M ow).map (·.1)).Pairwise (· < ·) := r1
      exact r1'.imp fun h => Nat.ne_of_lt h
    have a := nat_nodup_len ((liveOf M ow).map (·.1)) ps nd fun x hx => by
      obtain ⟨⟨y, k⟩, hq, rfl⟩ := List.mem_map.mp hx
      obtain ⟨b1, b2⟩ := (live y k).1 hq
      exact p2 y b1 (by rw [b2]; exact Option.some_ne_none _)
    have b := nat_nodup_len (List.range hs.size) ((liveOf M ow).map (·.2)) List.nodup_range fun k hk => all2 k (List.mem_range.mp hk)
    rw [List.length_map, p1] at a
    rw [List.length_map, List.length_range] at b
    omega
  refine ⟨tabOf t M ow, _, hr, perm_range hs.size _ ((List.length_map _).trans hlen) all2, ⟨r1, rfl, ?_, F, fun x hx => Nat.le_of_lt_succ (List.mem_range.mp (r2 x hx)), fun q hq => ?_⟩, rfl, rfl, rfl⟩
  · show ((liveOf M ow).map (·.1)).length = (((liveOf M ow).map (·.2)).map fun i => hs.getD i 0).length
    rw [List.length_map, List.length_map, List.length_map]
  · have hq' : q ∈ (((liveOf M ow).map (·.2)).map fun i => hs.getD i 0).zip ((liveOf M ow).map (·.1)) := hq
    rw [List.map_map, List.zip_map'] at hq'
    obtain ⟨⟨y, k⟩, hm, rfl⟩ := List.mem_map.mp hq'
    obtain ⟨b1, b2⟩ := (live y k).1 hm
    obtain ⟨h0, K, a1, a2, a3⟩ := W.who y k b1 b2
    have e0 : hs.getD k 0 = h0 := by
      rw [Array.getD_eq_getD_getElem?, ← Array.getElem?_toList, a1]
      rfl
    refine ⟨K, ?_, fun k' hk' => ?_⟩
    · show way M (hs.getD k 0) K = y
      rw [e0]
      exact a2
    · show way M (hs.getD k 0) k' ∈ (liveOf M ow).map (·.1)
      rw [e0]
      cases z : oAt ow (way M h0 k') with
      | none => exact absurd z (a3 k' hk')
      | some k2 => exact List.mem_map.mpr ⟨(way M h0 k', k2), (live _ _).2 ⟨way_in _ _ _, z⟩, rfl⟩
end OK
/-! ### sets of tuples of ints, up to a thousand -/
namespace OK
open PySem PySem.Spec PyProof.Rows L2
/-- the masks that come, each with the number at which its table is laid anew -/
def MaskL (m : Nat) : Prop := m = 7 ∨ m = 31 ∨ m = 127 ∨ m = 511 ∨ m = 2047
theorem MaskL.full {m : Nat} (h : MaskL m) : Full m := by
  rcases h with e | e | e | e | e <;> subst e
  · exact full7
  · exact full31
  · exact full127
  · exact full511
  · exact full2047
theorem MaskL.le {m : Nat} (h : MaskL m) : m ≤ 2047 := by
  rcases h with e | e | e | e | e <;> omega
/-- a table that is full at n becomes the next one -/
theorem MaskL.grow {m n : Nat} (h : MaskL m) (h1 : n * 5 < m * 3) (h2 : m * 3 ≤ (n + 1) * 5) (hn : n < 1000) : ∃ M, SetTable.sizeAbove (SetTable.grown (n + 1)) - 1 = M ∧ MaskL M ∧ SetTable.sizeAbove (SetTable.grown (n + 1)) ≤ 2048 ∧ (n + 1) * 5 < M * 3 := by
  have key : ∀ n' M, n = n' → SetTable.sizeAbove (SetTable.grown (n' + 1)) = M + 1 → MaskL M → (n' + 1) * 5 < M * 3 → ∃ M, SetTable.sizeAbove (SetTable.grown (n + 1)) - 1 = M ∧ MaskL M ∧ SetTable.sizeAbove (SetTable.grown (n + 1)) ≤ 2048 ∧ (n + 1) * 5 < M * 3 := fun n' M e a b c => by
    subst e
    exact ⟨M, by rw [a]; rfl, b, by rw [a]; have := b.le; omega, c⟩
  rcases h with e | e | e | e | e <;> subst e
  · exact key 4 31 (by omega) (by decide +kernel) (.inr (.inl rfl)) (by decide)
  · exact key 18 127 (by omega) (by decide +kernel) (.inr (.inr (.inl rfl))) (by decide)
  · exact key 76 511 (by omega) (by decide +kernel) (.inr (.inr (.inr (.inl rfl)))) (by decide)
  · exact key 306 2047 (by omega) (by decide +kernel) (.inr (.inr (.inr (.inr rfl)))) (by decide)
  · omega
/-- the set at a holds these tuples -/
structure SB (P : Program) (w : World) (h : Heap) (a : Addr) (L : List (Addr × List Int)) (o : Obj) (es : Array (Int × Value)) (ep : Nat) (t : SetTable) : Prop where
  ob : h.get? a = some o
  ex : o.ExactSet
  dt : o.data = .set es ep t
  rows : es.toList = rowsOf P w L
  tab : Tb t (L.map fun p => thash P w p.2)
  mask : MaskL t.mask
  nd : (L.map (·.2)).Nodup
  tup : ∀ p ∈ L, IsT P w h p.2 p.1
  plain : t.plain = true
  led : w.params.followText "set-order" = true ∨ t.led = true
  room : L.length * 5 < t.mask * 3
section
variable {P : Program} {w : World} {A : Around} {E : Value → Shared → Prop} {s : Shared} {a : Addr} {L : List (Addr × List Int)} {o : Obj} {es : Array (Int × Value)} {ep : Nat} {t : SetTable} {h : Heap}
theorem rows_len (e : es.toList = rowsOf P w L) : es.size = L.length := by
  have z := congrArg List.length e
  rwa [rowsOf, Array.length_toList, List.length_map] at z
theorem rows_at (e : es.toList = rowsOf P w L) {i : Nat} {p : Addr × List Int} (hp : L[i]? = some p) : es[i]? = some (thash P w p.2, Value.ref p.1) := by
  rw [← Array.getElem?_toList, e, rowsOf, List.getElem?_map, hp]
  rfl
theorem Tb.places {t : SetTable} {hs : List Int} (T : Tb t hs) : t.place.size = hs.length := T.sz
theorem fits_of {n : Nat} (h1 : t.place.size = n) (h2 : t.dummies = #[]) (h3 : n ≤ t.mask) : t.fits n = true := by
  unfold SetTable.fits SetTable.fill
  rw [h2, Bool.and_eq_true, beq_iff_eq, decide_eq_true_eq]
  exact ⟨h1, by rw [h1]; exact h3⟩
theorem SB.fits (R : SB P w h a L o es ep t) : t.fits es.size = true := by
  have h1 := R.tab.places
  rw [List.length_map] at h1
  have h2 := R.room
  rw [rows_len R.rows]
  exact fits_of h1 R.tab.dm (by omega)
theorem SB.here (R : SB P w h a L o es ep t) : ¬ t.gaveWay = true := by
  unfold SetTable.gaveWay
  rw [R.tab.full.1]
  decide
/-- the way's c-th state -/
abbrev stA (m : Nat) (h : Int) (c : Nat) : SetTable.Probe := nth m (runAt m (SetTable.bits h % (m + 1)) (SetTable.bits h)) c
theorem stA_add (m : Nat) (h : Int) (c q : Nat) : nth m (stA m h c) q = stA m h (c + q) := (nth_add m c _ q).symm
theorem stA_dummy (m : Nat) (h : Int) : ∀ c, (stA m h c).dummy = none
  | 0 => rfl
  | c + 1 => by
    show (nth m _ (c + 1)).dummy = none
    rw [nth_succ]
    unfold adv
    split <;> exact stA_dummy m h c
theorem SB.seek (R : SB P w s.heap a L o es ep t) {x : Addr} {k : List Int} (hx : IsT P w s.heap k x) (hu : A.units < cLine) {K : Nat} (hKf : K < 10 * SetTable.turns t.mask)
    (hK : way t.mask (thash P w k) K ∉ t.place.toList) (hKb : ∀ c, c < K → way t.mask (thash P w k) c ∈ t.place.toList) {Q : SetFound → Shared → Prop}
    (hin : k ∈ L.map (·.2) → Q (.there none) s) (hout : k ∉ L.map (·.2) → Q (.free (way t.mask (thash P w k) K) false) s) :
    ∀ (f c : Nat) (stand : Option SetTable.Probe), stand.getD (t.probeStart (thash P w k)) = stA t.mask (thash P w k) c → c ≤ K → K < c + f →
      (∀ (i : Nat) p, L[i]? = some p → p.2 = k → ∃ c', c ≤ c' ∧ c' < K ∧ t.place.toList[i]? = some (way t.mask (thash P w k) c')) →
      wpAny (model P w) A (setSearchFrom a (.ref x) (thash P w k) true f stand) Q E s
  | 0, c, stand, _, _, hf, _ => absurd hf (by omega)
  | f + 1, c, stand, hst, hc, hf, ahead => by
    rw [setSearchFrom_succ]
    refine wpAny_bind (wpAny_setState_of R.ob R.dt R.fits ?_)
    dsimp only
    refine wp_if_neg R.here ?_
    try refine wpAny_bind (wpAny_pure ?_)
    have hh : ∀ (i : Nat) p, L[i]? = some p → (fun i => (es[i]?.map (·.1)).getD 0) i = thash P w p.2 := fun i p hp => by
      show (es[i]?.map (·.1)).getD 0 = _
      rw [rows_at R.rows hp]
      rfl
    have wq : ∀ q, (nth t.mask (stA t.mask (thash P w k) c) q).j = way t.mask (thash P w k) (c + q) := fun q => congrArg SetTable.Probe.j (stA_add _ _ c q)
    rcases go_spec t R.tab.ris R.tab.dm (fun i => (es[i]?.map (·.1)).getD 0) (thash P w k) (10 * SetTable.turns t.mask) (K - c) _ (stA_dummy t.mask (thash P w k) c) (by omega)
      (fun q hq => by rw [wq]; exact hKb (c + q) (by omega)) (by rw [wq, show c + (K - c) = K by omega]; exact hK) with ⟨q, i, hq, hi, _, no, go⟩ | ⟨no, go⟩
    · have hp0 : t.probe (fun i => (es[i]?.map (·.1)).getD 0) (thash P w k) (stand.getD (t.probeStart (thash P w k))) = some (.candidate (way t.mask (thash P w k) (c + q)) i (stA t.mask (thash P w k) (c + (q + 1)))) := by
        rw [hst, ← wq, ← stA_add]
        exact go
      rw [hp0]
      dsimp only
      rw [wq] at hi
      have hil : i < L.length := by
        have := (List.getElem?_eq_some_iff.mp hi).1
        rw [R.tab.sz, List.length_map] at this
        exact this
      obtain ⟨p, hp⟩ : ∃ p, L[i]? = some p := ⟨_, List.getElem?_eq_getElem hil⟩
      have hm := List.mem_of_getElem? hp
      have sl : t.slot (way t.mask (thash P w k) (c + q)) = .live i := slot_live R.tab.ris hi
      have more : wpAny (model P w) A (searchRest a (.ref x) (thash P w k) true f es t (way t.mask (thash P w k) (c + q)) i (stA t.mask (thash P w k) (c + (q + 1)))) Q E s := by
        unfold searchRest
        rw [rows_at R.rows hp]
        dsimp only
        refine wpAny_bind (wpAny_holding (wpAny_eqBool_tuple hu (R.tup p hm) hx ?_))
        refine wpAny_bind (wpAny_setState_of R.ob R.dt R.fits ?_)
        dsimp only
        by_cases e : p.2 = k
        · exact wp_if_pos (by simp [e]) (wpAny_pure (hin (List.mem_map.mpr ⟨p, hm, e⟩)))
        · refine wp_if_neg (by simp [e]) ?_
          try refine wpAny_bind (wpAny_pure ?_)
          rw [sameMem]
          dsimp only
          simp only [if_true, sl, rows_at R.rows hp]
          refine wpAny_bind (wpAny_isSame_ref_self (wpAny_bind (wpAny_pure ?_)))
          simp only [if_true]
          refine wp_if_neg (by simp [e]) ?_
          refine SB.seek R hx hu hKf hK hKb hin hout f (c + (q + 1)) _ rfl (by omega) (by omega) fun i0 p0 h0 e0 => ?_
          obtain ⟨c', a1, a2, a3⟩ := ahead i0 p0 h0 e0
          refine ⟨c', Classical.byContradiction fun n => ?_, a2, a3⟩
          by_cases y : c' = c + q
          · rw [y] at a3
            have z := slot_live R.tab.ris a3
            rw [sl] at z
            cases z
            rw [hp] at h0
            cases h0
            exact e e0
          · exact no (c' - c) i0 (by omega) (by rw [wq, show c + (c' - c) = c' by omega]; exact a3) ((hh i0 p0 h0).trans (by rw [e0]))
      by_cases hl : t.led = true
      · refine wp_if_neg (by simp [hl]) ?_
        try refine wpAny_bind (wpAny_pure ?_)
        exact more
      · refine wp_if_pos (by simp [hl]) ?_
        refine wpAny_bind (seen_tup hx (fun y hy => ?_) ?_)
        · obtain ⟨e, he, rfl⟩ := List.mem_map.mp hy
          have he1 : e ∈ es ∧ e.1 = thash P w k := by simpa using he
          have he2 : e ∈ es.toList := by simpa using he1.1
          rw [R.rows] at he2
          obtain ⟨p2, hp2, rfl⟩ := List.mem_map.mp he2
          exact ⟨p2.2, p2.1, rfl, R.tup p2 hp2⟩
        · refine wp_if_neg (by decide) ?_
          try refine wpAny_bind (wpAny_pure ?_)
          exact more
    · have hp0 : t.probe (fun i => (es[i]?.map (·.1)).getD 0) (thash P w k) (stand.getD (t.probeStart (thash P w k))) = some (.empty (way t.mask (thash P w k) K) none) := by
        rw [hst, show way t.mask (thash P w k) K = (nth t.mask (stA t.mask (thash P w k) c) (K - c)).j by rw [wq, show c + (K - c) = K by omega]]
        exact go
      rw [hp0]
      dsimp only
      refine wpAny_pure (hout fun hm => ?_)
      obtain ⟨p0, h0, e0⟩ := List.mem_map.mp hm
      obtain ⟨i0, h00⟩ := List.mem_iff_getElem?.mp h0
      obtain ⟨c', a1, a2, a3⟩ := ahead i0 p0 h00 e0
      exact no (c' - c) i0 (by omega) (by rw [wq, show c + (c' - c) = c' by omega]; exact a3) ((hh i0 p0 h00).trans (by rw [e0]))
theorem SB.find (R : SB P w s.heap a L o es ep t) {x : Addr} {k : List Int} (hx : IsT P w s.heap k x) (hu : A.units < cLine) {Q : SetFound → Shared → Prop} (hin : k ∈ L.map (·.2) → Q (.there none) s)
    (hout : ∀ K, k ∉ L.map (·.2) → way t.mask (thash P w k) K ∉ t.place.toList → (∀ c, c < K → way t.mask (thash P w k) c ∈ t.place.toList) → Q (.free (way t.mask (thash P w k) K) false) s) :
    wpAny (model P w) A (setSearch a (.ref x) (thash P w k) true) Q E s := by
  have hr := R.room
  have hm := R.mask.le
  obtain ⟨K, hf, hK, hb⟩ := R.tab.free (by rw [List.length_map]; omega) (thash P w k)
  have hK2 : K < 100000 := by
    unfold SetTable.turns at hf
    omega
  unfold setSearch
  refine R.seek hx hu hf hK hb hin (fun n => hout K n hK hb) 100000 0 none rfl (Nat.zero_le _) (by omega) fun i p hp e => ?_
  have hi : (L.map fun p => thash P w p.2)[i]? = some (thash P w k) := by
    rw [List.getElem?_map, hp, ← e]
    rfl
  have hil : i < t.place.toList.length := by
    rw [R.tab.sz, List.length_map]
    exact (List.getElem?_eq_some_iff.mp hp).1
  obtain ⟨c, hc, ec⟩ := R.tab.ahead hK hi (List.getElem?_eq_getElem hil)
  exact ⟨c, Nat.zero_le _, hc, by rw [ec]; exact List.getElem?_eq_getElem hil⟩
/-- the table laid anew -/
theorem relay_B (ho : s.heap.get? a = some o) (hex : o.ExactSet) (hd : o.data = .set es ep t) (hrows : es.toList = rowsOf P w L) (T : Tb t (L.map fun p => thash P w p.2)) (hfl : L.length ≤ t.mask)
    (nd : (L.map (·.2)).Nodup) (tup : ∀ p ∈ L, IsT P w s.heap p.2 p.1) (pl : t.plain = true) (ld : w.params.followText "set-order" = true ∨ t.led = true) {wanted M : Nat}
    (hw : SetTable.sizeAbove wanted - 1 = M) (hM : MaskL M) (hw2 : SetTable.sizeAbove wanted ≤ 2048) (hn : L.length * 5 < M * 3) {Q : Unit → Shared → Prop}
    (hQ : ∀ h' L' o' es' ep' t', Heap.SameBut a s.heap h' → SB P w h' a L' o' es' ep' t' → L'.Perm L → Q () { s with heap := h' }) : wpAny (model P w) A (setRelay a wanted) Q E s := by
  have hsl := rows_len hrows
  have hp1 := T.places
  rw [List.length_map] at hp1
  obtain ⟨t', order, e, hp, T', em, el, ep'⟩ := relaid_full t (hs := es.map (·.1)) (wanted := wanted) hw hM.full (by rw [Array.size_map, hsl]; omega)
  rw [Array.size_map, hsl] at hp
  obtain ⟨L2, r1, r2, r3⟩ := order_rows L es order hrows hp
  rw [← r3] at T'
  have hs2 : (order.filterMap (es[·]?)).size = es.size := by rw [rows_len r1, r2.length_eq, hsl]
  rw [setRelay_eq]
  refine wpAny_bind (wpAny_setState_of ho hd (fits_of (hp1.trans hsl.symm) T.dm (by rw [hsl]; exact hfl)) ?_)
  dsimp only
  refine wp_if_neg (by rw [sizeLine_eq]; omega) ?_
  try refine wpAny_bind (wpAny_pure ?_)
  rw [e]
  dsimp only
  refine wpAny_bind ?_
  refine wp_if_neg (by rw [hs2]; simp) ?_
  try refine wpAny_bind (wpAny_pure ?_)
  refine wpAny_pure ?_
  dsimp only
  have hM2 := hM.le
  refine wpAny_storeSet_of ho hd ?_ (by rw [hs2, hsl, sizeLine_eq]; omega)
  have sb : Heap.SameBut a s.heap (s.heap.update a (Obj.putSet (order.filterMap (es[·]?)) t')) := Heap.SameBut.update ..
  refine hQ _ L2 _ (order.filterMap (es[·]?)) (ep + 1) t' sb ⟨store_at ho hd, ⟨hex.1, hex.2.1, hex.2.2⟩, rfl, r1, T', by rw [em]; exact hM, (r2.map (·.2)).nodup_iff.mpr nd, fun p hpm => isT_same (tup p (r2.mem_iff.mp hpm)) ho hd sb, by rw [ep']; exact pl, by rw [el]; exact ld, by rw [em, r2.length_eq]; exact hn⟩ r2
/-- one more tuple -/
theorem SB.add (R : SB P w s.heap a L o es ep t) {x : Addr} {k : List Int} (hx : IsT P w s.heap k x) (hu : A.units < cLine) (hfew : L.length < 1000) {Q : Bool → Shared → Prop}
    (hQ : ∀ b h' L' o' es' ep' t', Heap.SameBut a s.heap h' → SB P w h' a L' o' es' ep' t' → (k ∈ L.map (·.2) → L' = L) → (k ∉ L.map (·.2) → L'.Perm ((x, k) :: L)) → Q b { s with heap := h' }) :
    wpAny (model P w) A (setAddHashed a (.ref x) (thash P w k)) Q E s := by
  have hsl := rows_len R.rows
  have hr := R.room
  have hm2 := R.mask.le
  unfold setAddHashed
  refine wpAny_holding ?_
  rw [show (100000 : Nat) = 99999 + 1 from rfl, setAddHashedIn_succ]
  refine wpAny_bind (wpAny_setState_of R.ob R.dt R.fits ?_)
  dsimp only
  refine wp_if_neg (by simp [byScan, Value.scannable]) ?_
  try refine wpAny_bind (wpAny_pure ?_)
  refine wpAny_bind (R.find hx hu (fun hm => ?_) fun K hm hK hb => ?_)
  · dsimp only
    exact wpAny_pure (hQ false s.heap L o es ep t (Heap.SameBut.refl a s.heap) R (fun _ => rfl) fun z => absurd hm z)
  · dsimp only
    refine wpAny_bind (wpAny_setState_of R.ob R.dt R.fits ?_)
    dsimp only
    have hpl : (t.put (way t.mask (thash P w k) K)).1.plain = true := R.plain
    generalize hpt : t.put (way t.mask (thash P w k) K) = pt at hpl ⊢
    obtain ⟨t1, p⟩ := pt
    dsimp only at hpl ⊢
    obtain ⟨c1, T1, c2, c3, c4, c5⟩ := R.tab.more hpt hK hb
    first
      | (refine wpAny_bind ?_; refine wp_if_pos hpl ?_; refine hashBy_tup hx ?_)
      | refine wp_if_pos hpl (wpAny_bind (hashBy_tup hx ?_))
    simp only [if_true]
    have hin : (SetTable.insertAt es p (thash P w k, Value.ref x)).toList = rowsOf P w (L.take p ++ (x, k) :: L.drop p) := by
      rw [SetTable.toList_insertAt, rows_put, R.rows]
    have hhs : (L.take p ++ (x, k) :: L.drop p).map (fun p => thash P w p.2) = (L.map fun p => thash P w p.2).take p ++ thash P w k :: (L.map fun p => thash P w p.2).drop p := by
      rw [List.map_append, List.map_cons, List.map_take, List.map_drop]
    rw [← hhs] at T1
    have pm := put_perm L p (x, k)
    generalize SetTable.insertAt es p (thash P w k, Value.ref x) = es1 at hin ⊢
    generalize L.take p ++ (x, k) :: L.drop p = L1 at pm T1 hin
    have hlen : L1.length = L.length + 1 := pm.length_eq
    have hes : es1.size = L.length + 1 := (rows_len hin).trans hlen
    have nd1 : (L1.map (·.2)).Nodup := (pm.map (·.2)).nodup_iff.mpr (List.nodup_cons.mpr ⟨hm, R.nd⟩)
    refine wpAny_bind (wpAny_storeSet_of R.ob R.dt ?_ (by rw [hes, sizeLine_eq]; omega))
    have sb : Heap.SameBut a s.heap (s.heap.update a (Obj.putSet es1 t1)) := Heap.SameBut.update ..
    have ho1 := store_at (es' := es1) (t' := t1) R.ob R.dt
    generalize s.heap.update a (Obj.putSet es1 t1) = h1 at sb ho1 ⊢
    have tup1 : ∀ p ∈ L1, IsT P w h1 p.2 p.1 := fun p hp => by
      rcases List.mem_cons.mp (pm.mem_iff.mp hp) with e | hp
      · rw [e]; exact isT_same hx R.ob R.dt sb
      · exact isT_same (R.tup p hp) R.ob R.dt sb
    have ld1 : w.params.followText "set-order" = true ∨ t1.led = true := by rw [c3]; exact R.led
    rw [List.length_map] at c5
    have hex1 : Obj.ExactSet { o with data := .set es1 (ep + 1) t1 } := ⟨R.ex.1, R.ex.2.1, R.ex.2.2⟩
    by_cases hf : t1.tooFull = true
    · first
        | (refine wpAny_bind ?_; refine wp_if_pos (by simp [hf]) ?_)
        | (refine wp_if_pos (by simp [hf]) ?_; refine wpAny_bind ?_)
      have hfull : t.mask * 3 ≤ (L.length + 1) * 5 := by
        have z := hf
        unfold SetTable.tooFull at z
        rw [decide_eq_true_eq, c5, c2] at z
        exact z
      obtain ⟨M, g1, g2, g3, g4⟩ := R.mask.grow hr hfull hfew
      rw [hsl]
      refine relay_B (s := { s with heap := h1 }) ho1 hex1 rfl hin T1 (by rw [hlen, c2]; have := R.mask; unfold MaskL at this; omega) nd1 tup1 hpl ld1 g1 g2 g3 (by rw [hlen]; exact g4) ?_
      intro h2 L2 o2 es2 ep2 t2 sb2 R2 pm2
      exact wpAny_pure (hQ true h2 L2 o2 es2 ep2 t2 (sb.trans sb2) R2 (fun z => absurd z hm) fun _ => pm2.trans pm)
    · first
        | refine wp_if_neg (by simp [hf]) ?_
        | (refine wpAny_bind ?_; refine wp_if_neg (by simp [hf]) ?_; refine wpAny_pure ?_)
      refine wpAny_pure (hQ true h1 L1 _ es1 (ep + 1) t1 sb ⟨ho1, hex1, rfl, hin, T1, by rw [c2]; exact R.mask, nd1, tup1, hpl, ld1, ?_⟩ (fun z => absurd z hm) fun _ => pm)
      have z := hf
      unfold SetTable.tooFull at z
      rw [decide_eq_true_eq, c5] at z
      rw [hlen]
      omega
end
end OK
/-! ### the whole call -/
namespace OK
open PySem PySem.Spec PyProof.Rows L2
section
variable {P : Program} {w : World} {A : Around} {E : Value → Shared → Prop} {s : Shared}
/-- a set's object as it is made -/
abbrev set0 (w : World) : Obj := { cls := .type "set", dict := none, data := .set #[] 0 (.fresh 0 0 (!w.params.followText "set-order")) }
/-- the set at a holds these tuples, whatever its table -/
def SX (P : Program) (w : World) (h : Heap) (a : Addr) (L : List (Addr × List Int)) : Prop := ∃ o es ep t, SB P w h a L o es ep t
theorem SX.at {h h' : Heap} {a : Addr} {L : List (Addr × List Int)} (R : SX P w h a L)
    (ha : ∀ o, h.get? a = some o → h'.get? a = some o) (ht : ∀ p ∈ L, IsT P w h' p.2 p.1) : SX P w h' a L := by
  obtain ⟨o, es, ep, t, R⟩ := R
  exact ⟨o, es, ep, t, ha _ R.ob, R.ex, R.dt, R.rows, R.tab, R.mask, R.nd, ht, R.plain, R.led, R.room⟩
theorem SX.zero {h : Heap} {a : Addr} (ho : h.get? a = some (set0 w)) : SX P w h a [] := by
  refine ⟨_, _, _, _, ho, ⟨rfl, rfl, rfl⟩, rfl, rfl, ⟨List.Pairwise.nil, rfl, rfl, full7, fun x hx => (by cases hx), fun q hq => (by cases hq)⟩, .inl rfl, List.nodup_nil, fun p hp => (by cases hp), rfl, ?_, (by show 0 * 5 < 7 * 3; decide)⟩
  show _ ∨ (!w.params.followText "set-order") = true
  cases w.params.followText "set-order"
  · exact .inr rfl
  · exact .inl rfl
/-- what the loop keeps: nothing of the old heap is lost, and the set has the first i -/
structure Lp (P : Program) (w : World) (h0 : Heap) (S : Addr) (ks : List (Addr × List Int)) (i : Nat) (h : Heap) : Prop where
  old : ∀ b o, h0.get? b = some o → h.get? b = some o
  got : ∃ L, SX P w h S L ∧ Got ks i L
/-- the loop of set's update, for up to a thousand tuples -/
theorem bulk {I : Addr} {fp wr : List Addr} {G : Array GenState → Array GenState → Prop} {n : Nat} {Pv : Nat → Value → Prop} {St : Nat → Shared → Prop} {R : Result → Shared → Prop} {S : Addr} {ks : List (Addr × List Int)} {h0 : Heap}
    (W : WalksS P w A.in1 I fp wr G n Pv St) (out : S ∉ fp) (hn : ks.length = n) (few : n ≤ 999) (is : ∀ i v, Pv i v → ∃ p, ks[i]? = some p ∧ v = .ref p.1)
    (tup : ∀ p ∈ ks, IsT P w h0 p.2 p.1) (hS : h0.get? S = none) (hW : ∀ b ∈ wr, h0.get? b = none) (hu : A.in1.units < cLine)
    (fin : ∀ s' : Shared, Moved (S :: wr) G s s' → Lp P w h0 S ks n s'.heap → R (.ok (.ret .none)) s') :
    ∀ (m i : Nat) (s1 : Shared), i + m = n → St i s1 → Lp P w h0 S ks i s1.heap → Moved (S :: wr) G s s1 →
      codeAny (model P w) A (.builtin "set.update.loop" ⟨[.ref S, .ref I], []⟩) R s1 := by
  have in' : ∀ b ∈ wr, b ∈ S :: wr := fun b hb => List.mem_cons_of_mem _ hb
  have outW : S ∉ wr := fun z => out (W.sub _ z)
  have old' : ∀ {s1 s2 : Shared}, Moved wr G s1 s2 → (∀ b o, h0.get? b = some o → s1.heap.get? b = some o) →
      ∀ b o, h0.get? b = some o → s2.heap.get? b = some o := fun mv k b o e => mv.heap b o (fun z => by
    rw [hW b z] at e
    cases e) (k b o e)
  have next : ∀ {i : Nat} {s1 s2 : Shared}, Lp P w h0 S ks i s1.heap → Moved wr G s1 s2 → Lp P w h0 S ks i s2.heap := fun {i s1 s2} J mv => by
    obtain ⟨k, L, X, g⟩ := J
    have k2 := old' mv k
    exact ⟨k2, L, X.at (fun o e => mv.heap S o outW e) (fun p hp => isT_keep (tup p (List.mem_of_mem_take (g.sub p hp))) k2), g⟩
  intro m
  induction m with
  | zero =>
    intro i s1 hi st J mv
    obtain rfl : i = n := hi
    refine codeAny_builtin F.entry_set_update_loop ?_
    rw [Around.under_plainId F.plain_set_update_loop _]
    show wpAny _ A.in1 (pyNext (.ref I) >>= _) _ _ s1
    refine wpAny_bind (W.done s1 _ _ st fun s2 m2 => ?_)
    exact wpAny_pure (fin s2 (Moved.trans W.gtrans mv (m2.mono in')) (next J m2))
  | succ m ih =>
    intro i s1 hi st J mv
    refine codeAny_builtin F.entry_set_update_loop ?_
    rw [Around.under_plainId F.plain_set_update_loop _]
    show wpAny _ A.in1 (pyNext (.ref I) >>= _) _ _ s1
    refine wpAny_bind (W.item i s1 _ _ (by omega) st fun v s2 hv st2 m2 => ?_)
    obtain ⟨p, hp, rfl⟩ := is i v hv
    obtain ⟨k2, L, X, g⟩ := next J m2
    obtain ⟨o, es, ep, t, X⟩ := X
    have hx : IsT P w s2.heap p.2 p.1 := isT_keep (tup p (List.mem_of_getElem? hp)) k2
    show wpAny _ A.in1 (holding [Value.ref p.1] (setAdd S (.ref p.1)) >>= _) _ _ s2
    refine wpAny_bind (wpAny_holding ?_)
    unfold setAdd
    refine wpAny_holding (wpAny_bind (wpAny_pyHash_tuple hu hx ?_))
    refine SB.add (s := { s2 with toks := s2.toks + (p.2.length + 1) }) X hx hu (by have := g.len; omega) fun b h' L' o' es' ep' t' sb X' c1 c2 => ?_
    have g' : Got ks (i + 1) L' := by
      by_cases c : p.2 ∈ L.map (·.2)
      · rw [c1 c]; exact g.same hp c
      · exact g.more hp (c2 c)
    have k3 : ∀ b o, h0.get? b = some o → h'.get? b = some o := fun b o e => by
      rw [sb.2 b fun z => by rw [z, hS] at e; cases e]
      exact k2 b o e
    refine wpAny_pure ⟨plainId_quiet F.plain_set_update_loop _, ih (i + 1) _ (by omega) (W.frame _ s2 _ _ st2 (Nat.le_add_right _ _) fun b hb o e => ?_) ⟨k3, L', ⟨_, _, _, _, X'⟩, g'⟩ ?_⟩
    · rw [sb.2 b fun z : b = S => out (z ▸ hb)]
      exact e
    · refine Moved.trans W.gtrans mv ((m2.mono in').then_heap (Nat.le_add_right _ _) fun b o hb e => ?_)
      rw [sb.2 b fun z : b = S => hb (z ▸ List.mem_cons_self)]
      exact e
set_option maxRecDepth 100000 in
set_option maxHeartbeats 3200000 in
/-- set(x) of a list of tuples -/
theorem call_setB {l : Addr} {items : Array Value} {ks : List (Addr × List Int)} {Q : Value → Shared → Prop} (hh : A.handled = none) (hl : s.heap.IsList l items)
    (hit : items.toList = ks.map fun p => Value.ref p.1) (tup : ∀ p ∈ ks, IsT P w s.heap p.2 p.1) (few : ks.length ≤ 999) (hu : A.units + 3 < cLine)
    (q : ∀ (h' : Heap) (tk : Nat), Lp P w s.heap s.heap.objs.size ks ks.length h' → Q (.ref s.heap.objs.size) { s with heap := h', toks := tk }) :
    wpAny (model P w) A (call (.type "set") [.ref l]) Q E s := by
  have size : ks.length = items.size := by
    have e := congrArg List.length hit
    rw [Array.length_toList, List.length_map] at e
    exact e.symm
  have out0 : ∀ b, s.heap.objs.size ≤ b → s.heap.get? b = none := fun b hb => by
    cases e : s.heap.get? b with
    | none => rfl
    | some o => exact (Nat.lt_irrefl _ (Nat.lt_of_lt_of_le (Heap.lt_size e) hb)).elim
  obtain ⟨c, tl, hmro⟩ := F.called_set.mro
  have hmade := F.called_set.made
  have hsub := F.called_set.sub
  refine wpAny_call (codeAny_of_tree ?_)
  show wpAny _ _ (callAny (.type "set") _) _ _ _
  refine wpAny_pure ⟨Code.quiet_builtin _ (by decide +kernel), codeAny_builtin F.entry_type_call ?_⟩
  rw [Around.under_plain (weight_type_call_type "set" [.ref l] []) rfl]
  have h1 := F.called_set.notType
  have h2 := F.called_set.canCreate
  have hct := F.typeCall_set_1 (.ref l)
  repeat (any_goals (first | assumption | wp_step))
  refine codeAny_mono (code_set_led1 (.ref l) (E := E) (Q₁ := fun obj s1 => obj = .ref s.heap.objs.size ∧ s1 = { s with heap := s.heap.push (set0 w) }) ⟨rfl, rfl⟩) fun r s1 hr => ?_
  cases r with
  | error e => exact hr
  | ok fl =>
    cases fl with
    | ret obj =>
      obtain ⟨rfl, rfl⟩ := hr
      have gS : (s.heap.push (set0 w)).get? s.heap.objs.size = some (set0 w) := Heap.get?_push_size _ rfl
      have tS : Shared.TypeIs { s with heap := s.heap.push (set0 w) } (.ref s.heap.objs.size) "set" := ⟨_, gS, rfl⟩
      have hli := F.called_set.init.lookup
      have hbi := F.called_set.init.bind (.ref s.heap.objs.size)
      repeat (any_goals (first | assumption | wp_step))
      refine codeAny_mono (codeAny_call_builtin (R := wants (fun r s2 => r = .none ∧ ∃ h' tk, s2 = { s with heap := h', toks := tk } ∧ Lp P w s.heap s.heap.objs.size ks ks.length h') E)
        F.called_set.init.plain F.entry_set_init (check_set_init_1 tS ?_)) fun r2 s2 hr2 => ?_
      · obtain ⟨ol, hol, hcl, nl, hdl⟩ := hl
        obtain ⟨ocls, odict, odata, oslots⟩ := ol
        simp only at hcl hdl
        subst hcl; subst hdl
        have lS : (s.heap.push (set0 w)).IsList l items := ⟨_, Heap.get?_push_of_some _ hol, rfl, nl, rfl⟩
        have hsls := F.sub_list_set
        have hslf := F.sub_list_frozenset
        have hne : (Value.type "list" == Value.type "dict") = false := by decide
        have hol' := Heap.get?_push_of_some (set0 w) hol
        unfold Builtin.«set.__init__» noKeywords Builtin.Frozenset.updateFrom
        generalize hPI : pyIter = PI
        wp_walk
        subst hPI
        refine wpAny_pyIter_list lS ?_
        refine wpAny_bind (wpAny_runValue ?_)
        have ll : l < s.heap.objs.size := Heap.lt_size hol
        have sz1 : (s.heap.push (set0 w)).objs.size = s.heap.objs.size + 1 := Heap.size_push ..
        have hh3 : A.in1.in1.in1.handled = none := by simp [hh]
        have lI : l ≠ (s.heap.push (set0 w)).objs.size := sz1 ▸ Nat.ne_of_lt (Nat.lt_succ_of_lt ll)
        have fpS : s.heap.objs.size ∉ [(s.heap.push (set0 w)).objs.size, l] := by
          intro z
          rcases List.mem_cons.mp z with z | z
          · exact Nat.ne_of_lt (Nat.lt_succ_self _) (z.trans sz1)
          · exact Nat.ne_of_gt ll (List.mem_singleton.mp z)
        have is : ∀ (i : Nat) (v : Value), items[i]? = some v → ∃ p, ks[i]? = some p ∧ v = .ref p.1 := fun i v hv => by
          rw [← Array.getElem?_toList, hit, List.getElem?_map] at hv
          cases e : ks[i]? with
          | none => rw [e] at hv; cases hv
          | some p =>
            rw [e] at hv
            exact ⟨p, rfl, (Option.some.inj hv).symm⟩
        refine bulk (S := s.heap.objs.size) (ks := ks) (h0 := s.heap) (Walks.list hh3 _ l lI items).toS fpS size (by omega) is tup (out0 _ (Nat.le_refl _)) (fun b hb => out0 b (by
            rw [List.mem_singleton.mp hb]
            exact sz1 ▸ Nat.le_succ _)) hu (fun s2 mv J => ?_) items.size 0 _ (Nat.zero_add _) ⟨⟨_, Heap.get?_push_size _ rfl, rfl, rfl⟩, lS.push _⟩
          ⟨fun b o e => Heap.get?_push_of_some _ (Heap.get?_push_of_some _ e), [], SX.zero (Heap.get?_push_of_some _ gS), Got.zero ks⟩ (Moved.refl fun _ => rfl)
        obtain ⟨h', g2, d', tk', os'⟩ := s2
        obtain rfl : g2 = s.gens := mv.gens
        obtain rfl : d' = s.drawn := mv.drawn
        obtain rfl : os' = s.os := mv.os
        show wpAny _ _ _ _ _ _
        refine wpAny_pure ?_
        show wpAny _ _ (ret Value.none) _ _ _
        rw [← size] at J
        exact wpAny_pure ⟨rfl, h', tk', rfl, J⟩
      · cases r2 with
        | error e => exact hr2
        | ok fl2 =>
          cases fl2 with
          | ret r =>
            obtain ⟨rfl, h', tk, rfl, J⟩ := hr2
            repeat (any_goals (first | assumption | wp_step))
            exact q _ _ J
          | _ => exact hr2.elim
    | _ => exact hr.elim
end
end OK
/-! ### texts, refusals, len(set(x)) -/
namespace OK
open PySem PySem.Spec PyProof.Rows L2
open R7290f.Spec (Plain Units Err Cls units)
/-- the signs of a written word -/
def cI (w : Str) : List Int := w.cps.toList.map fun (c : Nat) => (c : Int)
theorem cI_len (w : Str) : (cI w).length = w.cps.size := by
  unfold cI
  rw [List.length_map, Array.length_toList]
theorem cI_app (a b : Str) : cI (a ++ b) = cI a ++ cI b := by
  show ((a.cps ++ b.cps).toList.map _) = _
  rw [Array.toList_append, List.map_append]
  rfl
def uM (s : String) : List Int := uI (units s)
theorem uM_app (a b : String) : uM (a ++ b) = uM a ++ uM b := by
  unfold uM units uI
  rw [String.toList_append, List.flatMap_append, List.map_append]
theorem cI_lit (s : String) (h : (s.toList.all fun c => decide (c.toNat < 65536)) = true) : cI (Str.ofString s) = uM s := by
  unfold cI uM units uI
  rw [Str.ofString_eq_toList]
  show (s.toList.map Char.toNat).map _ = _
  revert h
  generalize s.toList = l
  intro h
  induction l with
  | nil => rfl
  | cons c l ih =>
    rw [List.all_cons, Bool.and_eq_true_iff] at h
    have h1 := of_decide_eq_true h.1
    rw [List.flatMap_cons, List.map_append, ← ih h.2, if_pos h1]
    show ((c.toNat : Nat) : Int) :: _ = (((UInt16.ofNat c.toNat).toNat : Nat) : Int) :: ([] ++ _)
    rw [List.nil_append]
    have : (UInt16.ofNat c.toNat).toNat = c.toNat := by
      rw [UInt16.toNat_ofNat']
      omega
    rw [this]
theorem digits_ok : ∀ n : Nat, n < 101 → ((toString ((n : Nat) : Int)).toList.all fun c => decide (c.toNat < 65536)) = true := by decide +kernel
theorem digits_sz : ∀ n : Nat, n < 101 → (toString ((n : Nat) : Int)).toList.length ≤ 3 := by decide +kernel
theorem cI_num {n : Nat} (h : n < 101) : cI (Str.ofString (toString ((n : Nat) : Int))) = uM (toString n) := cI_lit _ (digits_ok n h)
theorem sz_lit (s : String) : (Str.ofString s).cps.size = s.toList.length := by
  rw [Str.ofString_eq_toList]
  show (s.toList.map Char.toNat).toArray.size = _
  rw [List.size_toArray, List.length_map]
theorem sz_app (a b : Str) : (a ++ b).cps.size = a.cps.size + b.cps.size := Array.size_append
/-! #### f-strings -/
section
variable {σ : L2.St} {H : Hp} {Q : VK}
theorem x_fmt {te : TE} (q : te σ H fun x H1 => (∃ y : Str, x = .str y ∧ y.length ≤ sizeLine ∧ Q (.str y) H1) ∨ ∃ i : Int, x = .int i ∧ i.natAbs.log2 < 1920 ∧ Q (.str (toString i)) H1) : tFmt te σ H Q := q
theorem x_fS {y : Str} {R : Str → Prop} (h : y.cps.size ≤ 1000) (q : R y) : (∃ y' : Str, V.str y = .str y' ∧ y'.length ≤ sizeLine ∧ R y') ∨ ∃ i : Int, V.str y = .int i ∧ i.natAbs.log2 < 1920 ∧ R (toString i) := .inl ⟨y, rfl, sz0 (Nat.le_trans h (by decide)), q⟩
theorem x_fI {i : Int} {R : Str → Prop} (h : i.natAbs < 1000) (q : R (toString i)) : (∃ y' : Str, V.int i = .str y' ∧ y'.length ≤ sizeLine ∧ R y') ∨ ∃ j : Int, V.int i = .int j ∧ j.natAbs.log2 < 1920 ∧ R (toString j) := by
  refine .inr ⟨i, rfl, ?_, q⟩
  by_cases h0 : i.natAbs = 0
  · rw [h0]; decide
  · exact (Nat.log2_lt h0).mpr (Nat.lt_of_lt_of_le h (Nat.le_trans (by decide : 1000 ≤ 2 ^ 10) (Nat.pow_le_pow_right (by decide) (by decide))))
theorem x_js {t : TE} {ts : List TE} {acc : Str} {R : Str → Hp → Prop} (q : t σ H fun x H1 => ∃ y : Str, x = .str y ∧ (acc ++ y).length ≤ sizeLine ∧ tJs ts (acc ++ y) σ H1 R) : tJs (t :: ts) acc σ H R := q
theorem x_j0 {acc : Str} {R : Str → Hp → Prop} (q : R acc H) : tJs [] acc σ H R := q
theorem x_jy {acc y : Str} {R : Str → Prop} (h : (acc ++ y).cps.size ≤ 1000) (q : R y) : ∃ y' : Str, V.str y = .str y' ∧ (acc ++ y').length ≤ sizeLine ∧ R y' := ⟨y, rfl, sz0 (Nat.le_trans h (by decide)), q⟩
end
/-! #### refusals -/
/-- what is promised to the handler: a message in the args tuple -/
def Er (z : Ads) (H : Hp) (E : XK) (e : Err) : Prop := ∀ (t : Addr) (H' : Hp) (m : Str), Same H H' → H' t = some (.tup [.str m]) → cI m = uI e.msg → m.cps.size ≤ 1000 → E (.ref (match e.cls with
  | .typeError => z.cW
  | .rangeError => z.cO)) (some t) H'
theorem Er.back {z : Ads} {H H1 : Hp} {E : XK} {e : Err} (h : Er z H E e) (s : Same H H1) : Er z H1 E e := fun t H' m s' ht hm hz => h t H' m (s.trans s') ht hm hz
/-! #### kinds -/
theorem kind0 {p : Plain} (h : kindOf p = 0) : p = .undef ∨ (∃ i, p = .big i) ∨ p = .deep := by
  cases p with
  | bool b => cases b <;> exact absurd h (by decide)
  | undef => exact .inl rfl
  | big i => exact .inr (.inl ⟨i, rfl⟩)
  | deep => exact .inr (.inr rfl)
  | _ => simp [kindOf] at h
theorem kind1 {p : Plain} (h : kindOf p = 1) : p = .null := by
  cases p with
  | bool b => cases b <;> exact absurd h (by decide)
  | null => rfl
  | _ => simp [kindOf] at h
theorem kind4 {p : Plain} (h : kindOf p = 4) : ∃ x, p = .num x := by
  cases p with
  | bool b => cases b <;> exact absurd h (by decide)
  | num x => exact ⟨x, rfl⟩
  | _ => simp [kindOf] at h
theorem kind6 {p : Plain} (h : kindOf p = 6) : ∃ u, p = .str u := by
  cases p with
  | bool b => cases b <;> exact absurd h (by decide)
  | str x => exact ⟨x, rfl⟩
  | _ => simp [kindOf] at h
theorem kind7 {p : Plain} (h : kindOf p = 7) : ∃ l, p = .arr l := by
  cases p with
  | bool b => cases b <;> exact absurd h (by decide)
  | arr x => exact ⟨x, rfl⟩
  | _ => simp [kindOf] at h
theorem kind8 {p : Plain} (h : kindOf p = 8) : ∃ l, p = .obj l := by
  cases p with
  | bool b => cases b <;> exact absurd h (by decide)
  | obj x => exact ⟨x, rfl⟩
  | _ => simp [kindOf] at h
theorem kind23 {p : Plain} (h : kindOf p = 2 ∨ kindOf p = 3) : ∃ b, p = .bool b := by
  cases p with
  | bool b => exact ⟨b, rfl⟩
  | _ => simp [kindOf] at h
/-! #### len(set(x)) of tuples of ints -/
theorem nodup_le {α : Type} [DecidableEq α] : ∀ {l D : List α}, l.Nodup → (∀ x ∈ l, x ∈ D) → l.length ≤ D.length
  | [], D, _, _ => Nat.zero_le _
  | x :: l, D, hn, hs => by
    obtain ⟨h1, h2⟩ := List.nodup_cons.mp hn
    have hx := hs x List.mem_cons_self
    have := nodup_le (D := D.erase x) h2 fun y hy => (List.mem_erase_of_ne (a := y) (b := x) fun e => h1 (by rw [← e]; exact hy)).mpr (hs y (List.mem_cons_of_mem _ hy))
    rw [List.length_erase_of_mem hx] at this
    have hp := List.length_pos_of_mem hx
    show l.length + 1 ≤ D.length
    omega
theorem not_nodup {α : Type} [DecidableEq α] : ∀ {D : List α}, ¬ D.Nodup → ∃ D' : List α, D'.length < D.length ∧ ∀ x ∈ D, x ∈ D'
  | [], h => absurd List.nodup_nil h
  | x :: D, h => by
    by_cases hx : x ∈ D
    · exact ⟨D, Nat.lt_succ_self _, fun y hy => by
        rcases List.mem_cons.mp hy with e | e
        · rw [e]; exact hx
        · exact e⟩
    · have hD : ¬ D.Nodup := fun z => h (List.nodup_cons.mpr ⟨hx, z⟩)
      obtain ⟨D', h1, h2⟩ := not_nodup hD
      exact ⟨x :: D', Nat.succ_lt_succ h1, fun y hy => by
        rcases List.mem_cons.mp hy with e | e
        · rw [e]; exact List.mem_cons_self
        · exact List.mem_cons_of_mem _ (h2 y e)⟩
theorem len_iff_nodup {α : Type} [DecidableEq α] {l D : List α} (hn : l.Nodup) (h1 : ∀ x ∈ l, x ∈ D) (h2 : ∀ x ∈ D, x ∈ l) : l.length = D.length ↔ D.Nodup := by
  constructor
  · intro e
    by_cases hD : D.Nodup
    · exact hD
    · obtain ⟨D', a, b⟩ := not_nodup hD
      have := nodup_le hn fun x hx => b x (h1 x hx)
      omega
  · intro hD
    have a := nodup_le hn h1
    have b := nodup_le hD h2
    omega
def tLenSetT (K : PySem.W.Frag) (ta : TE) : TE := fun σ H Q => ta σ H fun x H1 => ∃ (l : Addr) (ks : List (Addr × List Int)), x = V.ref l ∧ SqL K H1 l (ks.map fun p => V.ref p.1) ∧ (∀ p ∈ ks, SqT K H1 p.1 (p.2.map V.int)) ∧ ks.length ≤ 999 ∧ ∀ n : Nat, (n = ks.length ↔ (ks.map (·.2)).Nodup) → Q (.int (n : Int)) H1
theorem pe_lenSetT {X : Cx} {a : Expr} {ta : TE} {p p2 q pos : Pos} (hc : X.calm = true) (hu : X.A.units + 64 < cLine) (hm : X.mg "len" = none) (hm2 : X.mg "set" = none) (ha : PE X a ta) (hg : Gl X "len" := by rfl) (hg2 : Gl X "set" := by rfl)
    (na : starEach [a] X.env = (false, eval a X.env) :: starEach [] X.env := by rfl) : PE X (.Call (.Name "len" p) [.Call (.Name "set" p2) [a] [] q] [] pos) (tLenSetT X.K ta) := by
  refine ⟨fun pins s σ H Q I h => ?_⟩
  refine Call_ (ld_blt I hg hm PySem.boot_len ?_)
  refine PyProof.Rows.callWith_builtin1 (PyProof.Rows.args_cons ?_ rfl) rfl rfl
  refine Call_ (ld_blt I hg2 hm2 PyProof.Rows.boot_set ?_)
  refine PyProof.Rows.callWith_type1 (PyProof.Rows.args_cons (thn (ha.run pins s σ H _ I h) fun v s1 ⟨x, H1, I1, r1, q1⟩ => PyProof.Rows.args_nil ?_) na) na rfl
  obtain ⟨l, ks, rfl, hq, hk, h1, q1⟩ := q1
  cases r1
  obtain ⟨its, r, pl, hz⟩ := I1.list hq
  refine call_setB (P := X.prog) (w := X.w) (ks := ks) (I1.ok.hd hc) pl.isList (by simpa using refs_of_vals r) (fun p hp => I1.isT (hk p hp)) h1 (by omega) fun h' tk J => ?_
  refine PyProof.Rows.args_nil ?_
  obtain ⟨k, L, ⟨o, es, ep, t, R⟩, g⟩ := J
  have hs := rows_len R.rows
  have I2 : Inv X pins σ H1 { s1 with heap := h', toks := tk } := I1.kept fun b o e => k b o e
  have hfw := g.len
  refine call_len_set (s := { s1 with heap := h', toks := tk }) R.ob R.ex R.dt R.fits (by rw [hs] <;> omega) ⟨.int L.length, H1, I2.tok _, ⟨_, by rw [hs]⟩, q1 L.length ?_⟩
  have e := len_iff_nodup (l := L.map (·.2)) (D := ks.map (·.2)) R.nd (fun x hx => ?_) (fun x hx => ?_)
  · rw [List.length_map, List.length_map] at e
    exact e
  · obtain ⟨p, hp, rfl⟩ := List.mem_map.mp hx
    exact List.mem_map.mpr ⟨p, List.mem_of_mem_take (g.sub p hp), rfl⟩
  · obtain ⟨p, hp, rfl⟩ := List.mem_map.mp hx
    exact g.all p (by rw [List.take_length]; exact hp)
end OK
namespace OK
open PySem PySem.Spec PyProof.Rows L2
theorem x_lenSet {K : PySem.W.Frag} {σ : L2.St} {H : Hp} {Q : VK} {ta : TE} (q : ta σ H fun x H1 => ∃ (l : Addr) (ks : List (Addr × List Int)), x = V.ref l ∧ SqL K H1 l (ks.map fun p => V.ref p.1) ∧ (∀ p ∈ ks, SqT K H1 p.1 (p.2.map V.int)) ∧ ks.length ≤ 999 ∧ ∀ n : Nat, (n = ks.length ↔ (ks.map (·.2)).Nodup) → Q (.int (n : Int)) H1) : tLenSetT K ta σ H Q := q
end OK
namespace OK
open PySem PySem.Spec PyProof.Rows L2
theorem ixt_K {X : Cx} {K : PySem.W.Frag} (h : X.K = K := by rfl) : IxR X (rIxT K) := h ▸ ix_tup
theorem ixl_K {X : Cx} {K : PySem.W.Frag} (h : X.K = K := by rfl) : IxR X (rIxL K) := h ▸ ix_list
end OK
/-! ### rekeying: the plain law -/
namespace OK
open R7290f.Spec (Bound Key offsets longest chains keepFrom keptRows fillGaps keysBetween spread numberOf keyOf firstNumber endNumber leastDigits isBefore room lengthOf)
/-- which rows are kept, and that they may be -/
def KeepOk (lim total : Nat) : Nat → Nat → List (Bound × Bool) → Prop
  | _, _, [] => True
  | i, w, (_, false) :: r => KeepOk lim total (i + 1) w r
  | i, w, (b, true) :: r => ∃ k, b = some k ∧ k.length ≤ lim ∧ i + 1 ≤ numberOf lim k ∧ numberOf lim k + (total - i) ≤ 36 ^ lim ∧ w ≤ numberOf lim k - i ∧ KeepOk lim total (i + 1) (numberOf lim k - i) r
theorem offsets_cons (lim total i : Nat) (b : Bound) (r : List Bound) : ∃ o, offsets lim total i (b :: r) = o :: offsets lim total (i + 1) r ∧ ∀ w, o = some w → ∃ k, b = some k ∧ k.length ≤ lim ∧ i + 1 ≤ numberOf lim k ∧ numberOf lim k + (total - i) ≤ 36 ^ lim ∧ w = numberOf lim k - i := by
  cases b with
  | none => exact ⟨none, rfl, fun w h => by cases h⟩
  | some k =>
    refine ⟨_, rfl, fun w h => ?_⟩
    split at h
    · rename_i hc
      cases h
      rw [Bool.and_eq_true_iff, Bool.and_eq_true_iff, decide_eq_true_eq, decide_eq_true_eq, decide_eq_true_eq] at hc
      exact ⟨k, rfl, hc.1.1, hc.1.2, hc.2, rfl⟩
    · cases h
theorem chains_cons (o : Option Nat) (r : List (Option Nat)) : chains (o :: r) = o.map (fun w => (w, longest w (chains r) + 1)) :: chains r := by
  cases o <;> rfl
theorem keepOk_keep (lim total : Nat) : ∀ (rows : List Bound) (i w m : Nat), KeepOk lim total i w (rows.zip (keepFrom w m (chains (offsets lim total i rows))))
  | [], i, w, m => trivial
  | b :: r, i, w, m => by
    obtain ⟨o, e, ho⟩ := offsets_cons lim total i b r
    rw [e, chains_cons]
    cases o with
    | none =>
      show KeepOk lim total i w (List.zip (b :: r) (false :: keepFrom w m _))
      rw [List.zip_cons_cons]
      exact keepOk_keep lim total r (i + 1) w m
    | some v =>
      obtain ⟨k, hb, h1, h2, h3, rfl⟩ := ho v rfl
      show KeepOk lim total i w (List.zip (b :: r) (if w ≤ numberOf lim k - i ∧ _ = m then true :: keepFrom (numberOf lim k - i) (m - 1) _ else false :: keepFrom w m _))
      split
      · rename_i hc
        rw [List.zip_cons_cons]
        exact ⟨k, hb, h1, h2, h3, hc.1, keepOk_keep lim total r (i + 1) _ (m - 1)⟩
      · rw [List.zip_cons_cons]
        exact keepOk_keep lim total r (i + 1) w m
/-- the kept ones: index and key -/
def seg : Nat → List (Bound × Bool) → List (Nat × Key)
  | _, [] => []
  | i, (some k, true) :: r => (i, k) :: seg (i + 1) r
  | i, (_, false) :: r => seg (i + 1) r
  | i, (none, true) :: r => seg (i + 1) r
def SegOk (lim total : Nat) : Nat → Nat → List (Nat × Key) → Prop
  | _, _, [] => True
  | d, w, (t, k) :: r => d ≤ t ∧ t < total ∧ k.length ≤ lim ∧ w + t ≤ numberOf lim k ∧ numberOf lim k + (total - t) ≤ 36 ^ lim ∧ SegOk lim total (t + 1) (numberOf lim k - t) r
def fill3 (total : Nat) : Nat → Bound → List (Nat × Key) → List Key
  | d, a, [] => keysBetween a none (total - d)
  | d, a, (t, k) :: r => keysBetween a (some k) (t - d) ++ k :: fill3 total (t + 1) (some k) r
theorem SegOk.low {lim total d d' w : Nat} (h : d ≤ d') : ∀ {l : List (Nat × Key)}, SegOk lim total d' w l → SegOk lim total d w l
  | [], _ => trivial
  | (t, k) :: r, s => ⟨Nat.le_trans h s.1, s.2⟩
theorem segOk_of (lim total : Nat) : ∀ (l : List (Bound × Bool)) (i w : Nat), 1 ≤ w → i + l.length ≤ total → KeepOk lim total i w l → SegOk lim total i w (seg i l)
  | [], i, w, _, _, _ => trivial
  | (b, false) :: r, i, w, h1, ht, h => by
    have ih := segOk_of lim total r (i + 1) w h1 (by rw [List.length_cons] at ht; omega) h
    cases b <;> exact SegOk.low (Nat.le_succ i) ih
  | (b, true) :: r, i, w, h1, ht, h => by
    obtain ⟨k, rfl, a1, a2, a3, a4, a5⟩ := h
    rw [List.length_cons] at ht
    exact ⟨Nat.le_refl _, by omega, a1, by omega, a3, segOk_of lim total r (i + 1) _ (by omega) (by omega) a5⟩
theorem keepOk_one {lim total : Nat} : ∀ {l : List (Bound × Bool)} {i : Nat}, KeepOk lim total i 0 l → KeepOk lim total i 1 l
  | [], i, _ => trivial
  | (b, false) :: r, i, h => keepOk_one (l := r) h
  | (b, true) :: r, i, h => by
    obtain ⟨k, rfl, a1, a2, a3, a4, a5⟩ := h
    exact ⟨k, rfl, a1, a2, a3, by omega, a5⟩
theorem seg_gap : ∀ (g : List (Bound × Bool)) (i : Nat) (r : List (Bound × Bool)), (∀ e ∈ g, e.2 = false) → seg i (g ++ r) = seg (i + g.length) r
  | [], i, r, _ => rfl
  | (b, c) :: g, i, r, h => by
    have hc : c = false := h (b, c) List.mem_cons_self
    subst hc
    have ih := seg_gap g (i + 1) r fun e he => h e (List.mem_cons_of_mem _ he)
    have e : i + 1 + g.length = i + (g.length + 1) := by omega
    rw [e] at ih
    cases b <;> exact ih
theorem keepOk_gap {lim total w : Nat} : ∀ (g : List (Bound × Bool)) (i : Nat) (r : List (Bound × Bool)), (∀ e ∈ g, e.2 = false) → KeepOk lim total i w (g ++ r) → KeepOk lim total (i + g.length) w r
  | [], i, r, _, k => k
  | (b, c) :: g, i, r, h, k => by
    have hc : c = false := h (b, c) List.mem_cons_self
    subst hc
    have ih := keepOk_gap g (i + 1) r (fun e he => h e (List.mem_cons_of_mem _ he)) k
    have e : i + 1 + g.length = i + (g.length + 1) := by omega
    rw [e] at ih
    exact ih
theorem between0 (a b : Bound) : keysBetween a b 0 = [] := rfl
theorem takeWhile_split (l : List (Bound × Bool)) : (∀ e ∈ l.takeWhile (fun e => !e.2), e.2 = false) ∧ l = l.takeWhile (fun e => !e.2) ++ l.drop (l.takeWhile fun e => !e.2).length ∧
    (l.drop (l.takeWhile fun e => !e.2).length = [] ∨ ∃ b r, l.drop (l.takeWhile fun e => !e.2).length = (b, true) :: r) := by
  induction l with
  | nil => exact ⟨fun e h => (by cases h), rfl, .inl rfl⟩
  | cons x l ih =>
    obtain ⟨b, c⟩ := x
    cases c with
    | true => exact ⟨fun e h => (by cases h), rfl, .inr ⟨b, l, rfl⟩⟩
    | false =>
      obtain ⟨h1, h2, h3⟩ := ih
      have e : List.takeWhile (fun e => !e.2) ((b, false) :: l) = (b, false) :: List.takeWhile (fun e : Bound × Bool => !e.2) l := rfl
      rw [e]
      refine ⟨fun e he => ?_, ?_, h3⟩
      · rcases List.mem_cons.mp he with z | z
        · rw [z]
        · exact h1 e z
      · rw [List.length_cons, List.drop_succ_cons, List.cons_append, ← h2]
theorem fill_eq (lim total : Nat) : ∀ (n : Nat) (l : List (Bound × Bool)), l.length ≤ n → ∀ (f i w : Nat) (a : Bound), 2 * l.length + 1 ≤ f → i + l.length = total → KeepOk lim total i w l → fillGaps f a l = fill3 total i a (seg i l)
  | _, [], _, f, i, w, a, _, ht, _ => by
    have e : total - i = 0 := by
      rw [List.length_nil] at ht
      omega
    show fillGaps f a [] = keysBetween a none (total - i)
    rw [e, between0]
    cases f <;> rfl
  | 0, x :: l, hn, f, i, w, a, _, _, _ => absurd hn (Nat.not_succ_le_zero _)
  | n + 1, (b, true) :: l, hn, f, i, w, a, hf, ht, hk => by
    obtain ⟨k, rfl, a1, a2, a3, a4, a5⟩ := hk
    rw [List.length_cons] at hn hf ht
    obtain ⟨f, rfl⟩ : ∃ g, f = g + 1 := ⟨f - 1, by omega⟩
    show k :: fillGaps f (some k) l = keysBetween a (some k) (i - i) ++ k :: fill3 total (i + 1) (some k) (seg (i + 1) l)
    rw [Nat.sub_self, between0, List.nil_append, fill_eq lim total n l (by omega) f (i + 1) _ (some k) (by omega) (by omega) a5]
  | n + 1, (b, false) :: l, hn, f, i, w, a, hf, ht, hk => by
    obtain ⟨f, rfl⟩ : ∃ g, f = g + 1 := ⟨f - 1, by omega⟩
    have hfg : fillGaps (f + 1) a ((b, false) :: l) = keysBetween a (match ((b, false) :: l).drop (((b, false) :: l).takeWhile fun e => !e.2).length with
      | (some k, _) :: _ => some k
      | _ => none) (((b, false) :: l).takeWhile fun e => !e.2).length ++ fillGaps f a (((b, false) :: l).drop (((b, false) :: l).takeWhile fun e => !e.2).length) := by
      cases b <;> rfl
    obtain ⟨g, rest, eg, er, h1, h2, h3⟩ : ∃ g rest, ((b, false) :: l).takeWhile (fun e => !e.2) = g ∧ ((b, false) :: l).drop g.length = rest ∧ (∀ e ∈ g, e.2 = false) ∧ (b, false) :: l = g ++ rest ∧ (rest = [] ∨ ∃ b r, rest = (b, true) :: r) := by
      obtain ⟨h1, h2, h3⟩ := takeWhile_split ((b, false) :: l)
      exact ⟨_, _, rfl, rfl, h1, h2, h3⟩
    have hg1 : 1 ≤ g.length := by
      rw [← eg]
      exact Nat.succ_le_succ (Nat.zero_le _)
    rw [eg, er] at hfg
    rw [hfg]
    rw [h2] at hn hf ht hk ⊢
    rw [List.length_append] at hn hf ht
    rw [seg_gap g i rest h1]
    have hk2 := keepOk_gap g i rest h1 hk
    rcases h3 with e | ⟨c, r, e⟩
    · subst e
      rw [List.length_nil] at ht
      show keysBetween a none g.length ++ fillGaps f a [] = keysBetween a none (total - i)
      have e1 : fillGaps f a [] = [] := by cases f <;> rfl
      rw [e1, List.append_nil]
      congr 1
      omega
    · subst e
      obtain ⟨k, rfl, a1, a2, a3, a4, a5⟩ := hk2
      rw [List.length_cons] at hn hf ht
      obtain ⟨f, rfl⟩ : ∃ g, f = g + 1 := ⟨f - 1, by omega⟩
      show keysBetween a (some k) g.length ++ k :: fillGaps f (some k) r = keysBetween a (some k) (i + g.length - i) ++ k :: fill3 total (i + g.length + 1) (some k) (seg (i + g.length + 1) r)
      rw [fill_eq lim total n r (by omega) f (i + g.length + 1) _ (some k) (by omega) (by omega) a5, Nat.add_sub_cancel_left]
theorem offsets_len (lim t : Nat) : ∀ (rows : List Bound) (i : Nat), (offsets lim t i rows).length = rows.length
  | [], i => rfl
  | b :: r, i => by
    obtain ⟨o, e, _⟩ := offsets_cons lim t i b r
    rw [e, List.length_cons, List.length_cons, offsets_len lim t r]
theorem chains_len : ∀ (l : List (Option Nat)), (chains l).length = l.length
  | [] => rfl
  | o :: r => by rw [chains_cons, List.length_cons, List.length_cons, chains_len r]
theorem keepFrom_len : ∀ (l : List (Option (Nat × Nat))) (w m : Nat), (keepFrom w m l).length = l.length
  | [], w, m => rfl
  | none :: r, w, m => by
    show (keepFrom w m r).length + 1 = _
    rw [keepFrom_len r]
    rfl
  | some x :: r, w, m => by
    show (if w ≤ x.1 ∧ x.2 = m then true :: keepFrom x.1 (m - 1) r else false :: keepFrom w m r).length = _
    split
    · rw [List.length_cons, List.length_cons, keepFrom_len r]
    · rw [List.length_cons, List.length_cons, keepFrom_len r]
theorem kept_len (lim : Nat) (rows : List Bound) : (keptRows lim rows).length = rows.length := by
  show (keepFrom 0 _ (chains (offsets lim rows.length 0 rows))).length = _
  rw [keepFrom_len, chains_len, offsets_len]
/-- rekeying by the kept ones -/
theorem rekeyed_eq (lim : Nat) (rows : List Bound) : R7290f.Spec.rekeyed lim rows = fill3 rows.length 0 none (seg 0 (rows.zip (keptRows lim rows))) := by
  have hl := kept_len lim rows
  have hk := keepOk_keep lim rows.length rows 0 0 (longest 0 (chains (offsets lim rows.length 0 rows)))
  have hz : (rows.zip (keptRows lim rows)).length = rows.length := by rw [List.length_zip, hl, Nat.min_self]
  exact fill_eq lim rows.length rows.length _ (by omega) _ 0 0 none (by omega) (by omega) hk
end OK
/-! ### rekeying: what comes out is in order -/
namespace OK
open R7290f.Spec (Bound Key offsets longest chains keepFrom keptRows fillGaps keysBetween spread numberOf keyOf firstNumber endNumber leastDigits isBefore room lengthOf)
def AscB : Bound → List Key → Prop
  | _, [] => True
  | a, k :: r => Ord a (some k) ∧ AscB (some k) r
def KLim (lim : Nat) (ks : List Key) : Prop := ∀ k ∈ ks, KeyOk k ∧ k.length ≤ lim
theorem ascB_of : ∀ (l : List Key) (a : Bound), (∀ k, l[0]? = some k → Ord a (some k)) → (∀ (j : Nat) x y, l[j]? = some x → l[j + 1]? = some y → isBefore x y = true) → AscB a l
  | [], a, _, _ => trivial
  | k :: r, a, h, c => ⟨h k rfl, ascB_of r (some k) (fun x hx => c 0 k x rfl hx) fun j x y e1 e2 => c (j + 1) x y e1 e2⟩
theorem ascB_get : ∀ (l : List Key) (a : Bound), AscB a l → ∀ (j : Nat) x y, l[j]? = some x → l[j + 1]? = some y → isBefore x y = true
  | [], a, _, j, x, y, e, _ => by simp at e
  | k :: r, a, h, 0, x, y, e1, e2 => by
    cases e1
    cases r with
    | nil => cases e2
    | cons z r =>
      cases e2
      exact h.2.1
  | k :: r, a, h, j + 1, x, y, e1, e2 => ascB_get r (some k) h.2 j x y e1 e2
theorem ascB_app : ∀ (xs : List Key) (a : Bound) (k : Key) (r : List Key), AscB a xs → (∀ x ∈ xs, isBefore x k = true) → Ord a (some k) → AscB (some k) r → AscB a (xs ++ k :: r)
  | [], a, k, r, _, _, o, h => ⟨o, h⟩
  | x :: xs, a, k, r, h, hx, o, hr => ⟨h.1, ascB_app xs (some x) k r h.2 (fun y hy => hx y (List.mem_cons_of_mem _ hy)) (hx x List.mem_cons_self) hr⟩
theorem between_len {a b : Bound} {m : Nat} : (keysBetween a b m).length = m := by
  show ((List.range m).map _).length = m
  rw [List.length_map, List.length_range]
/-- the keys between: m of them, in order, of at most lim digits -/
theorem between_ok {lim : Nat} {a b : Bound} {m : Nat} (ha : BOk a) (hb : BOk b) (o : Ord a b) (hl : lim ≤ 20) (hm : m ≤ 1000) (hr : m ≤ room lim a b) :
    KLim lim (keysBetween a b m) ∧ AscB a (keysBetween a b m) ∧ ∀ k ∈ keysBetween a b m, Ord (some k) b ∧ Ord a (some k) := by
  by_cases h0 : m = 0
  · subst h0
    exact ⟨fun k hk => (by cases hk), trivial, fun k hk => (by cases hk)⟩
  have hlim : 1 ≤ lim := by
    by_cases h : lim = 0
    · subst h
      rw [room_zero ha hb] at hr
      omega
    · omega
  obtain ⟨e1, e2, e3, e4, e5⟩ := least_spec (m := m) ha hb o (by omega) hm
  have e6 := e5 lim hlim hr
  revert e1 e2 e3 e4 e6
  generalize LL a b m = n
  intro e1 e2 e3 e4 e6
  have f1 := (first_le n ha.dig).1
  have hget : ∀ (j : Nat) x, (keysBetween a b m)[j]? = some x → j < m ∧ x = keyOf n (firstNumber n a - 1 + (j + 1) * (room n a b + 1) / (m + 1)) := fun j x hx => by
    have hj : j < m := by
      have := (List.getElem?_eq_some_iff.mp hx).1
      rw [between_len] at this
      exact this
    refine ⟨hj, ?_⟩
    have : (keysBetween a b m)[j]? = some (keyOf n (firstNumber n a - 1 + (j + 1) * (room n a b + 1) / (m + 1))) := by
      show ((List.range m).map _)[j]? = _
      rw [List.getElem?_map, List.getElem?_range hj, e1]
      rfl
    rw [this] at hx
    cases hx
    rfl
  have hstep : ∀ j, j * (room n a b + 1) / (m + 1) + 1 ≤ (j + 1) * (room n a b + 1) / (m + 1) := fun j => by
    rw [← Nat.add_div_right _ (Nat.succ_pos m), Nat.succ_mul]
    exact Nat.div_le_div_right (Nat.add_le_add_left (Nat.succ_le_succ e4) _)
  have hlt : ∀ j, j < m → firstNumber n a - 1 + (j + 1) * (room n a b + 1) / (m + 1) < 36 ^ n := fun j hj => spread_lt ha.dig hb.dig e4 hj
  have hnum : ∀ j, j < m → numberOf n (keyOf n (firstNumber n a - 1 + (j + 1) * (room n a b + 1) / (m + 1))) = firstNumber n a - 1 + (j + 1) * (room n a b + 1) / (m + 1) := fun j hj => keyOf_num (hlt j hj)
  have hq : ∀ j, j < m → 1 ≤ (j + 1) * (room n a b + 1) / (m + 1) ∧ (j + 1) * (room n a b + 1) / (m + 1) ≤ room n a b := fun j hj => ⟨Nat.le_trans (Nat.le_add_left 1 _) (hstep j), spread_le e4 hj⟩
  have hok : ∀ j, j < m → KeyOk (keyOf n (firstNumber n a - 1 + (j + 1) * (room n a b + 1) / (m + 1))) := fun j hj => by
    have := hq j hj
    exact ⟨keyOf_dig (hlt j hj), keyOf_ne (hlt j hj) (by omega), keyOf_last _ _, Nat.le_trans (keyOf_len _ _) (by omega)⟩
  have hlen : ∀ x, (keyOf n x).length ≤ n := fun x => keyOf_len n x
  have ordA : ∀ j, j < m → Ord a (some (keyOf n (firstNumber n a - 1 + (j + 1) * (room n a b + 1) / (m + 1)))) := fun j hj => by
    cases a with
    | none => exact Ord_none_l _
    | some k =>
      show isBefore k _ = true
      rw [before_num n (ha k rfl).dig (hok j hj).dig (hok j hj).last (hlen _), hnum j hj, decide_eq_true_eq]
      have := hq j hj
      show numberOf n k < numberOf n k + 1 - 1 + _
      omega
  have ordB : ∀ j, j < m → Ord (some (keyOf n (firstNumber n a - 1 + (j + 1) * (room n a b + 1) / (m + 1)))) b := fun j hj => by
    cases b with
    | none => exact Ord_none_r _
    | some k =>
      show isBefore _ k = true
      rw [before_end n (hok j hj).dig (hb k rfl).dig (hb k rfl).last (hlen _), hnum j hj, decide_eq_true_eq]
      have := hq j hj
      have hR : room n a (some k) = endNumber n (some k) - firstNumber n a := rfl
      omega
  refine ⟨fun k hk => ?_, ascB_of _ _ (fun k hk => ?_) (fun j x y hx hy => ?_), fun k hk => ?_⟩
  · obtain ⟨j, hj⟩ := List.mem_iff_getElem?.mp hk
    obtain ⟨h1, rfl⟩ := hget j k hj
    exact ⟨hok j h1, Nat.le_trans (hlen _) e6⟩
  · obtain ⟨h1, rfl⟩ := hget 0 k hk
    exact ordA 0 h1
  · obtain ⟨h1, rfl⟩ := hget j x hx
    obtain ⟨h2, rfl⟩ := hget (j + 1) y hy
    rw [before_num n (hok j h1).dig (hok (j + 1) h2).dig (hok (j + 1) h2).last (hlen _), hnum j h1, hnum (j + 1) h2, decide_eq_true_eq]
    have := hstep (j + 1)
    omega
  · obtain ⟨j, hj⟩ := List.mem_iff_getElem?.mp hk
    obtain ⟨h1, rfl⟩ := hget j k hj
    exact ⟨ordB j h1, ordA j h1⟩
theorem seg_mem : ∀ (l : List (Bound × Bool)) (i t : Nat) (k : Key), (t, k) ∈ seg i l → ∃ j, t = i + j ∧ l[j]? = some (some k, true)
  | [], i, t, k, h => by cases h
  | (some x, true) :: r, i, t, k, h => by
    rcases List.mem_cons.mp h with e | e
    · cases e
      exact ⟨0, rfl, rfl⟩
    · obtain ⟨j, e1, e2⟩ := seg_mem r (i + 1) t k e
      exact ⟨j + 1, by omega, e2⟩
  | (none, true) :: r, i, t, k, h => by
    obtain ⟨j, e1, e2⟩ := seg_mem r (i + 1) t k h
    exact ⟨j + 1, by omega, e2⟩
  | (some x, false) :: r, i, t, k, h => by
    obtain ⟨j, e1, e2⟩ := seg_mem r (i + 1) t k h
    exact ⟨j + 1, by omega, e2⟩
  | (none, false) :: r, i, t, k, h => by
    obtain ⟨j, e1, e2⟩ := seg_mem r (i + 1) t k h
    exact ⟨j + 1, by omega, e2⟩
/-- what stands before the next kept row -/
structure Lead (lim total d w : Nat) (a : Bound) : Prop where
  ok : BOk a
  first : firstNumber lim a = w + d
  sum : w + total ≤ 36 ^ lim
theorem Lead.ord {lim total d w t : Nat} {a : Bound} {k : Key} (L : Lead lim total d w a) (hd : d ≤ t) (hk : KeyOk k) (hl : k.length ≤ lim) (hw : w + t ≤ numberOf lim k) : Ord a (some k) := by
  cases a with
  | none => exact Ord_none_l _
  | some j =>
    show isBefore j k = true
    rw [before_num lim (L.ok j rfl).dig hk.dig hk.last hl, decide_eq_true_eq]
    have : numberOf lim j + 1 = w + d := L.first
    omega
theorem Lead.room {lim total d w t : Nat} {a : Bound} {k : Key} (L : Lead lim total d w a) (hl : k.length ≤ lim) (hw : w + t ≤ numberOf lim k) : t - d ≤ R7290f.Spec.room lim a (some k) := by
  show t - d ≤ endNumber lim (some k) - firstNumber lim a
  rw [L.first, show endNumber lim (some k) = numberOf lim k from if_pos hl]
  omega
theorem Lead.last {lim total d w : Nat} {a : Bound} (L : Lead lim total d w a) : total - d ≤ R7290f.Spec.room lim a none := by
  show total - d ≤ 36 ^ lim - firstNumber lim a
  rw [L.first]
  have := L.sum
  omega
theorem Lead.next {lim total d w t : Nat} {a : Bound} {k : Key} (L : Lead lim total d w a) (hk : KeyOk k) (ht : t < total) (hw : w + t ≤ numberOf lim k) (h : numberOf lim k + (total - t) ≤ 36 ^ lim) : Lead lim total (t + 1) (numberOf lim k - t) (some k) :=
  ⟨BOk.some hk, by show numberOf lim k + 1 = _; omega, by omega⟩
theorem fill3_ok {lim total : Nat} (hl : lim ≤ 20) (ht : total ≤ 1000) : ∀ (l : List (Nat × Key)) (d w : Nat) (a : Bound), SegOk lim total d w l → Lead lim total d w a → (∀ e ∈ l, KeyOk e.2) → d ≤ total →
    KLim lim (fill3 total d a l) ∧ AscB a (fill3 total d a l) ∧ (fill3 total d a l).length = total - d
  | [], d, w, a, _, L, _, _ => by
    obtain ⟨h1, h2, _⟩ := between_ok L.ok BOk.none (Ord_none_r a) hl (by omega) L.last
    exact ⟨h1, h2, between_len⟩
  | (t, k) :: r, d, w, a, s, L, hk, hd => by
    obtain ⟨s1, s2, s3, s4, s5, s6⟩ := s
    have k1 := hk (t, k) List.mem_cons_self
    have o := L.ord s1 k1 s3 s4
    obtain ⟨h1, h2, h3⟩ := between_ok (m := t - d) L.ok (BOk.some k1) o hl (by omega) (L.room s3 s4)
    obtain ⟨g1, g2, g3⟩ := fill3_ok hl ht r (t + 1) _ (some k) s6 (L.next k1 s2 s4 s5) (fun e he => hk e (List.mem_cons_of_mem _ he)) (by omega)
    refine ⟨fun x hx => ?_, ascB_app _ _ _ _ h2 (fun x hx => (h3 x hx).1) o g2, ?_⟩
    · rcases List.mem_append.mp hx with z | z
      · exact h1 x z
      · rcases List.mem_cons.mp z with z | z
        · rw [z]
          exact ⟨k1, s3⟩
        · exact g1 x z
    · show (keysBetween a (some k) (t - d) ++ k :: fill3 total (t + 1) (some k) r).length = _
      rw [List.length_append, List.length_cons, between_len, g3]
      omega
/-- the kept ones of some rows -/
abbrev segs (lim : Nat) (rows : List Bound) : List (Nat × Key) := seg 0 (rows.zip (keptRows lim rows))
theorem segs_ok {lim : Nat} {rows : List Bound} : SegOk lim rows.length 0 1 (segs lim rows) := by
  have hk := keepOk_keep lim rows.length rows 0 0 (longest 0 (chains (offsets lim rows.length 0 rows)))
  have hz : (rows.zip (keptRows lim rows)).length = rows.length := by rw [List.length_zip, kept_len, Nat.min_self]
  exact segOk_of lim rows.length _ 0 1 (Nat.le_refl _) (by omega) (keepOk_one hk)
theorem segs_mem {lim : Nat} {rows : List Bound} {t : Nat} {k : Key} (h : (t, k) ∈ segs lim rows) : rows[t]? = some (some k) := by
  obtain ⟨j, e1, e2⟩ := seg_mem _ _ _ _ h
  rw [Nat.zero_add] at e1
  subst e1
  rw [List.getElem?_zip_eq_some] at e2
  exact e2.1
theorem lead0 {lim : Nat} {rows : List Bound} (h : rows.length < 36 ^ lim) : Lead lim rows.length 0 1 none := ⟨BOk.none, rfl, by omega⟩
theorem rekeyed_ok {lim : Nat} {rows : List Bound} (hl : lim ≤ 20) (hz : rows.length ≤ 1000) (h : rows.length < 36 ^ lim) (hk : ∀ k, some k ∈ rows → KeyOk k) :
    KLim lim (R7290f.Spec.rekeyed lim rows) ∧ AscB none (R7290f.Spec.rekeyed lim rows) ∧ (R7290f.Spec.rekeyed lim rows).length = rows.length := by
  rw [rekeyed_eq]
  obtain ⟨a, b, c⟩ := fill3_ok hl hz (segs lim rows) 0 1 none segs_ok (lead0 h) (fun e he => hk e.2 (List.mem_of_getElem? (segs_mem he))) (Nat.zero_le _)
  exact ⟨a, b, by rw [c, Nat.sub_zero]⟩
/-! #### heights and lengths -/
def hN (lim total i : Nat) (b : Bound) : Nat := match b with
  | none => 0
  | some k => if k.length ≤ lim && decide (i + 1 ≤ numberOf lim k) && decide (numberOf lim k + (total - i) ≤ 36 ^ lim) then numberOf lim k - i else 0
theorem offsets_hN (lim total : Nat) : ∀ (rows : List Bound) (i j : Nat) (b : Bound), rows[j]? = some b → ∃ o, (offsets lim total i rows)[j]? = some o ∧ o.getD 0 = hN lim total (i + j) b ∧ ∀ w, o = some w → 1 ≤ w
  | [], i, j, b, h => by simp at h
  | c :: r, i, 0, b, h => by
    cases h
    obtain ⟨o, e, ho⟩ := offsets_cons lim total i c r
    rw [e]
    refine ⟨o, rfl, ?_, fun w hw => ?_⟩
    · cases c with
      | none =>
        have : o = none := by
          have e2 : offsets lim total i (none :: r) = none :: offsets lim total (i + 1) r := rfl
          rw [e2] at e
          exact (List.cons.inj e).1.symm
        rw [this]
        rfl
      | some k =>
        have e2 : offsets lim total i (some k :: r) = (if k.length ≤ lim && decide (i + 1 ≤ numberOf lim k) && decide (numberOf lim k + (total - i) ≤ 36 ^ lim) then some (numberOf lim k - i) else none) :: offsets lim total (i + 1) r := rfl
        rw [e2] at e
        rw [← (List.cons.inj e).1]
        show _ = if (k.length ≤ lim && decide (i + 1 ≤ numberOf lim k) && decide (numberOf lim k + (total - i) ≤ 36 ^ lim)) = true then numberOf lim k - i else 0
        split <;> rfl
    · obtain ⟨k, _, _, h1, _, h2⟩ := ho w hw
      omega
  | c :: r, i, j + 1, b, h => by
    obtain ⟨o, e, _⟩ := offsets_cons lim total i c r
    rw [e]
    have := offsets_hN lim total r (i + 1) j b h
    have e2 : i + 1 + j = i + (j + 1) := by omega
    rw [e2] at this
    exact this
def lbF (h : Nat) (l : List (Nat × Nat)) : Nat := l.foldl (fun m e => if h ≤ e.1 ∧ m < e.2 then e.2 else m) 0
abbrev hlOf (e : Option (Nat × Nat)) : Nat × Nat := e.getD (0, 0)
theorem lbF_longest {h : Nat} (h1 : 1 ≤ h) (l : List (Option (Nat × Nat))) : lbF h (l.map hlOf) = longest h l := by
  unfold lbF longest
  generalize (0 : Nat) = m
  induction l generalizing m with
  | nil => rfl
  | cons e l ih =>
    rw [List.map_cons, List.foldl_cons, List.foldl_cons]
    cases e with
    | none =>
      have : ¬ (h ≤ (hlOf none).1 ∧ m < (hlOf none).2) := fun z => by
        have : h ≤ 0 := z.1
        omega
      rw [if_neg this]
      exact ih m
    | some x =>
      show List.foldl _ (if h ≤ x.1 ∧ m < x.2 then x.2 else m) _ = List.foldl _ (if h ≤ x.1 then max m x.2 else m) _
      have : (if h ≤ x.1 ∧ m < x.2 then x.2 else m) = (if h ≤ x.1 then max m x.2 else m) := by
        by_cases c : h ≤ x.1
        · rw [if_pos c]
          by_cases c2 : m < x.2
          · rw [if_pos ⟨c, c2⟩]; omega
          · rw [if_neg fun z => c2 z.2]; omega
        · rw [if_neg fun z => c z.1, if_neg c]
      rw [this]
      exact ih _
/-- the chain list: its heights, its lengths -/
theorem chains_fst : ∀ (l : List (Option Nat)), (chains l).map (fun e => (hlOf e).1) = l.map fun o => o.getD 0
  | [] => rfl
  | o :: r => by
    rw [chains_cons, List.map_cons, List.map_cons, chains_fst r]
    cases o <;> rfl
theorem chains_drop : ∀ (l : List (Option Nat)) (i : Nat), (chains l).drop i = chains (l.drop i)
  | l, 0 => rfl
  | [], i + 1 => rfl
  | o :: r, i + 1 => by
    rw [chains_cons, List.drop_succ_cons, List.drop_succ_cons, chains_drop r i]
theorem chains_at {l : List (Option Nat)} {i : Nat} {o : Option Nat} (h : l[i]? = some o) : (chains l)[i]? = some (o.map fun w => (w, longest w ((chains l).drop (i + 1)) + 1)) := by
  have e : l.drop i = o :: l.drop (i + 1) := by
    obtain ⟨hi, e⟩ := List.getElem?_eq_some_iff.mp h
    rw [List.drop_eq_getElem_cons hi, e]
  have e2 : ((chains l).drop i)[0]? = some (o.map fun w => (w, longest w (chains (l.drop (i + 1))) + 1)) := by
    rw [chains_drop, e, chains_cons]
    rfl
  rw [List.getElem?_drop, Nat.add_zero, ← chains_drop] at e2
  exact e2
end OK
/-! ### max(xs, default=0), range downwards, xs[i] = v, len in a comprehension -/
namespace OK
open PySem PySem.Spec PyProof.Rows L2
theorem pe_lenK {X : Cx} {K : PySem.W.Frag} {e : Expr} {te : TE} {p pos : Pos} (hm : X.mg "len" = none) (he : PE X e te) (hK : X.K = K := by rfl) (hg : Gl X "len" := by rfl) (hs : starEach [e] X.env = (false, eval e X.env) :: starEach [] X.env := by rfl) : PE X (.Call (.Name "len" p) [e] [] pos) (tUn (rLen K) te) := by
  rw [← hK]
  exact pe_len hm he hg hs
section
variable {K : PySem.W.Frag} {g : TG} {tb : TS} {D : Ends} {σ : L2.St} {H : Hp} {Q : VK}
theorem x_rng3 {ta : TA} {R : It → Hp → Prop} (q : ta σ H fun vs H1 => ∃ (i j c : Int) (n : Nat), vs = [.int i, .int j, .int c] ∧ RgC i j c n ∧ R (Itc i c n) H1) : iRng3 ta σ H R := q
theorem x_r3 {e f c : Int} (n : Nat) (he : e = (n : Int) - 1) (hf : f = -1) (hc : c = -1) (hn : n ≤ 1000000) (Pv : Nat → L2.St → Hp → Prop) (h0 : Pv 0 σ H)
    (hs : ∀ (i : Nat) σ H, i < n → Pv i σ H → g (.int ((n - 1 - i : Nat) : Int)) σ H fun σ2 H2 => tb { D with nx := Pv (i + 1), ct := Pv (i + 1), bk := D.nx } σ2 H2)
    (hd : ∀ σ H, Pv n σ H → D.nx σ H) : ∃ (i j c' : Int) (m : Nat), [V.int e, V.int f, V.int c] = [.int i, .int j, .int c'] ∧ RgC i j c' m ∧ ForQ (Itc i c' m) g tb D σ H := by
  subst he hf hc
  refine ⟨_, _, _, ((n : Int) - 1 - (-1)).toNat, rfl, RgC.neg (by omega) (by omega) (by omega) (by omega), ?_⟩
  have en : ((n : Int) - 1 - (-1)).toNat = n := by omega
  rw [en]
  refine ⟨fun i m σ H => m = n - i ∧ i ≤ n ∧ Pv i σ H, ⟨n, by simp, Nat.zero_le _, h0⟩, ?_⟩
  rintro i m σ H ⟨rfl, hi, p⟩
  by_cases hlt : i < n
  · refine .inr ⟨hlt, Pv (i + 1), fun σ' H' p' => ⟨n - (i + 1), by omega, rfl, hlt, p'⟩, fun x H' y => ?_⟩
    obtain ⟨rfl, rfl⟩ := y
    have e : (n : Int) - 1 + (i : Int) * -1 = ((n - 1 - i : Nat) : Int) := by omega
    rw [e]
    exact hs i σ _ hlt p
  · have e : i = n := by omega
    subst e
    exact .inl ⟨Nat.le_refl _, hd σ H p⟩
theorem x_setL {p : Addr} {xs : List V} {j : Nat} {v : V} {Q : Hp → Prop} (h : H p = some (.lst xs)) (hj : j < xs.length) (q : Q (upd H p (.lst (xs.set j v)))) : rSetL (.ref p) (.int (j : Int)) v H Q := ⟨p, xs, _, j, rfl, rfl, h, (by unfold ixN; rw [if_pos (by omega), if_pos (by omega)]; rfl), q⟩
end
theorem x_ckw {σ : L2.St} {H : Hp} {Q : VK} {r : List V → List V → Hp → VK → Prop} {t tk : TA} (q : t σ H fun vs H1 => tk σ H1 fun zs H2 => r vs zs H2 Q) : tCKw r t tk σ H Q := q
/-- what max of ints gives, 0 of none -/
def rMaxDef (K : PySem.W.Frag) : List V → List V → Hp → VK → Prop := fun vs zs H Q => ∃ (a : Addr) (ns : List Int), vs = [V.ref a] ∧ zs = [V.int 0] ∧ SqL K H a (ns.map V.int) ∧ ∀ m : Int, (ns = [] → m = 0) → (ns ≠ [] → m ∈ ns ∧ ∀ x ∈ ns, x ≤ m) → Q (.int m) H
theorem foldl_max : ∀ (l : List Int) (n : Int), (l.foldl max n ∈ n :: l) ∧ ∀ x ∈ n :: l, x ≤ l.foldl max n
  | [], n => ⟨List.mem_cons_self, fun x hx => by
      rcases List.mem_cons.mp hx with e | e
      · rw [e]; exact Int.le_refl _
      · cases e⟩
  | y :: l, n => by
    obtain ⟨h1, h2⟩ := foldl_max l (max n y)
    refine ⟨?_, fun x hx => ?_⟩
    · show l.foldl max (max n y) ∈ _
      rcases List.mem_cons.mp h1 with e | e
      · rw [e]
        by_cases c : n ≤ y
        · rw [Int.max_eq_right c]; exact List.mem_cons_of_mem _ List.mem_cons_self
        · rw [Int.max_eq_left (by omega)]; exact List.mem_cons_self
      · exact List.mem_cons_of_mem _ (List.mem_cons_of_mem _ e)
    · show x ≤ l.foldl max (max n y)
      have hm := h2 (max n y) List.mem_cons_self
      rcases List.mem_cons.mp hx with e | e
      · subst e
        exact Int.le_trans (Int.le_max_left _ _) hm
      · rcases List.mem_cons.mp e with e | e
        · subst e
          exact Int.le_trans (Int.le_max_right _ _) hm
        · exact h2 x (List.mem_cons_of_mem _ e)
theorem reads_int {h : Heap} {v : Value} {k : Int} {as : List Addr} (r : Reads h v (.int k) as) : ∃ t, v = .int k t := by
  cases r
  exact ⟨_, rfl⟩
theorem cr_maxDef {X : Cx} (hc : X.calm = true) (hu : X.A.units + 64 < cLine) : CallRK X (.builtin "max") [Str.ofString "default"] (rMaxDef X.K) := by
  intro pins s σ H xs zs us ws Q I r1 r2 h
  obtain ⟨a, ns, rfl, rfl, ha, q⟩ := h
  rw [Vals.ref1 r1]
  obtain ⟨d, rfl, t0, rfl⟩ := vals1 r2
  obtain ⟨its, rv, pl, hz⟩ := I.list ha
  obtain ⟨as, hr⟩ := Dp.readsAll I _ _ _ (dp_ints ns) rv
  have hlen : its.length = ns.length := by rw [← rv.length, List.length_map]
  refine PySem.W.max_list_default (I.ok.hd hc) pl.isList (vs := its.toArray) (by simpa using hr) ⟨fun x hx y hy => ?_, fun x hx => ?_⟩ (by rw [dep_ints]; omega) (fun h0 h' tk k => ?_) fun y ys i v h' tk bs e hv r k => ?_
  · obtain ⟨i, _, rfl⟩ := List.mem_map.mp hx
    obtain ⟨j, _, rfl⟩ := List.mem_map.mp hy
    rfl
  · obtain ⟨i, _, rfl⟩ := List.mem_map.mp hx
    intro z
    cases z
  · have e0 : ns = [] := by
      cases ns with
      | nil => rfl
      | cons _ _ => cases h0
    exact ⟨.int 0, H, I.kept fun b o e => k b o e, ⟨_, rfl⟩, q 0 (fun _ => rfl) fun z => absurd e0 z⟩
  · cases ns with
    | nil => cases e
    | cons n ns =>
      cases e
      rw [PySem.W.maxD_ints] at r
      obtain ⟨t, rfl⟩ := reads_int r
      obtain ⟨h1, h2⟩ := foldl_max ns n
      exact ⟨.int _, H, I.kept fun b o e => k b o e, ⟨t, rfl⟩, q _ (fun z => by cases z) fun _ => ⟨h1, h2⟩⟩
end OK
/-! ### instances, the world -/
namespace OK
open PySem PySem.Spec PyProof.Rows L2
open R7290f.Spec (Plain Units Bound)
structure Cm (P : Program) (w : World) (K : PySem.W.Frag) (mg : Str → Option Value) (base : Heap) (k : Nat) (C : Addr) (sp : Sp) : Prop where
  ex : ∃ (f : Addr) (fd : FuncData) (ps : List Str), FnOk P w K mg base (CXm P w) k f fd ps sp ∧ Mk K C f ∧ Binds K fd ps []
section
variable {P : Program} {w : World} {K : PySem.W.Frag} {mg : Str → Option Value} {base : Heap}
theorem cm_mk {C : Addr} {qual : Str} {st : Stmt} {N ps : List Str} {k : Nat} {sp : Sp} (F : Dm K C qual st ps) (S : FnScope N ps (defScope st)) (len : ∀ vs H Q E, sp vs H Q E → vs.length = ps.length)
    (hbody : ∀ (f : Addr) (cdv : Value) (A : Around) (outer : List Env) (s : Shared) (H : Hp) (vs : List V) (Q : VK) (E : XK), Room k (A.deeper (envOfC qual (defScope st) s.heap.objs.size f cdv)) → sp vs H Q E →
      ∃ t, PSs (cxOf (CXm P w) P w K mg base N qual (defScope st) f cdv A outer s H E) (defBody st) t ∧ t { nx := fun _ H' => Q .non H', rt := Q } (start N vs) H) : Cm P w K mg base (k + 1) C sp := by
  obtain ⟨f, fd, ⟨⟨oc, od, kV, doc, pm, an, cdv, ct, osl, rfl, lk, hcd⟩, kp⟩, hm, hb⟩ := F.ex
  exact ⟨f, _, ps, fn_of lk hcd S len fun A outer s H vs Q E hr hsp => hbody f cdv A outer s H vs Q E hr hsp, hm, hb⟩
end
def tMk (C : Addr) (sp : Sp) (t : TA) : TE := fun σ H Q => t σ H fun vs H1 => ∀ x dx, H1 x = none → H1 dx = none → dx ≠ x → sp (.ref x :: vs) (upd (upd H1 dx (.own x)) x (.ins C dx [])) (fun v H2 => v = .non ∧ Q (.ref x) H2) EF
theorem pe_mk {X : Cx} {k j : Nat} {C : Addr} {x : Str} {sp : Sp} {p pos : Pos} {e : Expr} {es : List Expr} {t : TA} (c : Cm X.prog X.w X.K X.mg X.base k C sp) (hm : X.mg x = some (.ref C)) (hr : Room j X.A) (hk : k + 1 ≤ j) (ha : PA X (e :: es) t) (hg : Gl X x := by rfl)
    (hdb : (x == ("__debug__" : Str)) = false := by decide) (he : starEach (e :: es) X.env = (false, eval e X.env) :: starEach es X.env := by rfl) (hpl : (backTo pos (starEach es X.env)).any (·.1) = false := by rfl) :
    PE X (.Call (.Name x p) (e :: es) [] pos) (tMk C sp t) := by
  obtain ⟨f, fd, ps, F, M, hb⟩ := c.ex
  have q := pe_make (p := p) (E := EF) M F (hr.mono hk) hg hm hb .nil passN ha hdb he hpl
  have e1 : tMake C sp [] EF t = tMk C sp t := by
    funext σ H Q
    unfold tMake tMk
    simp only [List.append_nil]
  rw [← e1]
  exact q
theorem pe_mk0 {X : Cx} {k j : Nat} {C : Addr} {x : Str} {sp : Sp} {p pos : Pos} (c : Cm X.prog X.w X.K X.mg X.base k C sp) (hm : X.mg x = some (.ref C)) (hr : Room j X.A) (hk : k + 1 ≤ j) (hg : Gl X x := by rfl)
    (hdb : (x == ("__debug__" : Str)) = false := by decide) : PE X (.Call (.Name x p) [] [] pos) (tMk C sp tNil) := by
  obtain ⟨f, fd, ps, F, M, hb⟩ := c.ex
  have q := pe_make0 (p := p) (pos := pos) (E := EF) M F (hr.mono hk) hg hm hb .nil passN hdb
  have e1 : tMake C sp [] EF tNil = tMk C sp tNil := by
    funext σ H Q
    unfold tMake tMk
    simp only [List.append_nil]
  rw [← e1]
  exact q
theorem x_mk {C : Addr} {sp : Sp} {t : TA} {σ : L2.St} {H : Hp} {Q : VK} (q : t σ H fun vs H1 => ∀ x dx, H1 x = none → H1 dx = none → dx ≠ x → sp (.ref x :: vs) (upd (upd H1 dx (.own x)) x (.ins C dx [])) (fun v H2 => v = .non ∧ Q (.ref x) H2) EF) : tMk C sp t σ H Q := q
section
variable {K : PySem.W.Frag} {σ : L2.St} {H : Hp} {D : Ends}
theorem x_sfld {ta tv : TE} {f : Str} (q : tv σ H fun y H1 => ta σ H1 fun x H2 => ∃ a C dx fs, x = .ref a ∧ H2 a = some (.ins C dx fs) ∧ Cls K C ∧ NoAttr K C f ∧ fs.length < 1000 ∧ D.nx σ (upd H2 a (.ins C dx (putF f y fs)))) : sFld K ta tv f D σ H := q
theorem x_sfa {ta tv : TE} {rd : V → V → Hp → VK → Prop} {f : Str} (q : ta σ H fun x H1 => ∃ a C dx fs v, x = .ref a ∧ H1 a = some (.ins C dx fs) ∧ Cls K C ∧ NoAttr K C f ∧ fs.lookup f = some v ∧
  tv σ H1 fun y H2 => rd v y H2 fun z H3 => ∃ dx' fs', H3 a = some (.ins C dx' fs') ∧ fs'.length < 1000 ∧ D.nx σ (upd H3 a (.ins C dx' (putF f z fs')))) : sFldAug K ta tv rd f D σ H := q
theorem x_add {i j : Int} {Q : VK} (q : Q (.int (i + j)) H) : rAdd (.int i) (.int j) H Q := ⟨i, j, rfl, rfl, q⟩
/-- reading a field -/
theorem x_fl1 {a C dx : Addr} {fs : List (Str × V)} {f : Str} {v : V} {R : V → Prop} (h : H a = some (.ins C dx fs)) (c : Cls K C) (n : NoAttr K C f) (l : fs.lookup f = some v) (q : R v) : ∃ a' C dx fs v', V.ref a = .ref a' ∧ H a' = some (.ins C dx fs) ∧ Cls K C ∧ NoAttr K C f ∧ fs.lookup f = some v' ∧ R v' :=
  ⟨a, C, dx, fs, v, rfl, h, c, n, l, q⟩
end
/-! #### boards, games -/
abbrev bdF (lim : Nat) (mid : Bool) (l : Addr) : List (Str × V) := [("limit", .int lim), ("middle", .bl mid), ("row_keys", .ref l)]
abbrev gmF (b a : V) (lim n : Nat) : List (Str × V) := [("before", b), ("after", a), ("limit", .int lim), ("answered", .int n)]
abbrev slF (lb lg : Addr) : List (Str × V) := [("boards", .ref lb), ("games", .ref lg)]
def BdAt (z : Ads) (H : Hp) (v : V) (b : R7290f.Spec.Board) : Prop := ∃ a dx l xs, v = .ref a ∧ H a = some (.ins z.cB dx (bdF b.limit b.middle l)) ∧ Lf H l xs ∧ KL H xs b.keys
def GmAt (z : Ads) (H : Hp) (v : V) (g : R7290f.Spec.Game) : Prop := ∃ a dx x y, v = .ref a ∧ H a = some (.ins z.cG dx (gmF x y g.limit g.answers)) ∧ BAt H x g.before ∧ BAt H y g.after
def OB (z : Ads) (H : Hp) (v : V) (b : Option R7290f.Spec.Board) : Prop := match b with
  | none => v = .non
  | some b => BdAt z H v b
def OG (z : Ads) (H : Hp) (v : V) (g : Option R7290f.Spec.Game) : Prop := match g with
  | none => v = .non
  | some g => GmAt z H v g
structure BdOk (b : R7290f.Spec.Board) : Prop where
  l1 : 1 ≤ b.limit
  l8 : b.limit ≤ 8
  ks : KLim b.limit b.keys
  asc : AscB none b.keys
  few : b.keys.length ≤ 60
  room : b.keys.length < 36 ^ b.limit
structure GmOk (g : R7290f.Spec.Game) : Prop where
  l1 : 1 ≤ g.limit
  l8 : g.limit ≤ 8
  ob : BOk g.before
  oa : BOk g.after
  oo : Ord g.before g.after
/-- the slots object s (its dict dx, its lists lb and lg) holds the world -/
structure Wd (z : Ads) (s dx lb lg : Addr) (H : Hp) (w : R7290f.Spec.World) (vb vg : List V) : Prop where
  hs : H s = some (.ins z.cS dx (slF lb lg))
  hb : H lb = some (.lst vb)
  hg : H lg = some (.lst vg)
  ne : lb ≠ lg
  n1 : vb.length = 2
  n2 : vg.length = 2
  m1 : w.boards.length = 2
  m2 : w.games.length = 2
  bd : ∀ (i : Nat) v b, vb[i]? = some v → w.boards[i]? = some b → OB z H v b
  gm : ∀ (i : Nat) v g, vg[i]? = some v → w.games[i]? = some g → OG z H v g
  ab : ∀ (i j : Nat) a, vb[i]? = some (.ref a) → vb[j]? = some (.ref a) → i = j
  ag : ∀ (i j : Nat) a, vg[i]? = some (.ref a) → vg[j]? = some (.ref a) → i = j
  okb : ∀ b, some b ∈ w.boards → BdOk b
  okg : ∀ g, some g ∈ w.games → GmOk g
/-- tuples, frozen things and the lists but these two stand -/
def KpL (lb lg : Addr) (H H' : Hp) : Prop := Kp H H' ∧ ∀ b xs, b ≠ lb → b ≠ lg → H b = some (.lst xs) → H' b = some (.lst xs)
theorem KpL.of {lb lg : Addr} {H H' : Hp} (s : Same H H') : KpL lb lg H H' := ⟨Kp.of s, fun b xs _ _ h => s b _ h⟩
theorem KpL.trans {lb lg : Addr} {H H1 H2 : Hp} (a : KpL lb lg H H1) (b : KpL lb lg H1 H2) : KpL lb lg H H2 := ⟨a.1.trans b.1, fun x xs n m h => b.2 x xs n m (a.2 x xs n m h)⟩
theorem KpL.ins {lb lg a C dx : Addr} {fs : List (Str × V)} {H : Hp} {o : HO} (h : H a = some (.ins C dx fs)) : KpL lb lg H (upd H a o) := ⟨Kp.mut h fun z => z, fun b xs _ _ hb => (upd_ne fun z => by
  rw [z, h] at hb
  cases hb).trans hb⟩
theorem KpL.lst {lb lg : Addr} {xs : List V} {H : Hp} {o : HO} (h : H lb = some (.lst xs)) : KpL lb lg H (upd H lb o) := ⟨Kp.lst h, fun b ys n _ hb => (upd_ne n).trans hb⟩
theorem KpL.lst2 {lb lg : Addr} {xs : List V} {H : Hp} {o : HO} (h : H lg = some (.lst xs)) : KpL lb lg H (upd H lg o) := ⟨Kp.lst h, fun b ys _ n hb => (upd_ne n).trans hb⟩
theorem BdAt.mono {z : Ads} {H H' : Hp} {v : V} {b : R7290f.Spec.Board} (h : BdAt z H v b) (k : Kp H H') (hi : ∀ a C dx fs, v = .ref a → H a = some (.ins C dx fs) → H' a = some (.ins C dx fs)) : BdAt z H' v b := by
  obtain ⟨a, dx, l, xs, e, h1, h2, h3⟩ := h
  exact ⟨a, dx, l, xs, e, hi a _ _ _ e h1, h2.kp k, h3.kp k⟩
theorem GmAt.mono {z : Ads} {H H' : Hp} {v : V} {g : R7290f.Spec.Game} (h : GmAt z H v g) (k : Kp H H') (hi : ∀ a C dx fs, v = .ref a → H a = some (.ins C dx fs) → H' a = some (.ins C dx fs)) : GmAt z H' v g := by
  obtain ⟨a, dx, x, y, e, h1, h2, h3⟩ := h
  exact ⟨a, dx, x, y, e, hi a _ _ _ e h1, h2.kp k, h3.kp k⟩
theorem OB.mono {z : Ads} {H H' : Hp} {v : V} {b : Option R7290f.Spec.Board} (h : OB z H v b) (k : Kp H H') (hi : ∀ a C dx fs, v = .ref a → H a = some (.ins C dx fs) → H' a = some (.ins C dx fs)) : OB z H' v b := by
  cases b with
  | none => exact h
  | some b => exact BdAt.mono (b := b) h k hi
theorem OG.mono {z : Ads} {H H' : Hp} {v : V} {g : Option R7290f.Spec.Game} (h : OG z H v g) (k : Kp H H') (hi : ∀ a C dx fs, v = .ref a → H a = some (.ins C dx fs) → H' a = some (.ins C dx fs)) : OG z H' v g := by
  cases g with
  | none => exact h
  | some g => exact GmAt.mono (g := g) h k hi
section
variable {z : Ads} {s dx lb lg : Addr} {H H' : Hp} {w : R7290f.Spec.World} {vb vg : List V}
theorem Wd.same (h : Wd z s dx lb lg H w vb vg) (k : Same H H') : Wd z s dx lb lg H' w vb vg :=
  { h with hs := k _ _ h.hs, hb := k _ _ h.hb, hg := k _ _ h.hg, bd := fun i v b e1 e2 => (h.bd i v b e1 e2).mono (Kp.of k) fun a C dx fs _ q => k _ _ q, gm := fun i v b e1 e2 => (h.gm i v b e1 e2).mono (Kp.of k) fun a C dx fs _ q => k _ _ q }
/-- two instances of other fields are not the same -/
theorem ins_ne {a b C D dx dy : Addr} {fs gs : List (Str × V)} (h1 : H a = some (.ins C dx fs)) (h2 : H b = some (.ins D dy gs)) (n : fs.map (·.1) ≠ gs.map (·.1)) : b ≠ a := fun e => by
  rw [e, h1] at h2
  cases h2
  exact n rfl
theorem bd_sl {lim : Nat} {mid : Bool} {l lb lg : Addr} : (bdF lim mid l).map (·.1) ≠ (slF lb lg).map (·.1) := by
  intro h
  exact absurd (congrArg List.length h) (by show ¬ 3 = 2; decide)
theorem gm_sl {x y : V} {lim n : Nat} {lb lg : Addr} : (gmF x y lim n).map (·.1) ≠ (slF lb lg).map (·.1) := by
  intro h
  exact absurd (congrArg List.length h) (by show ¬ 4 = 2; decide)
theorem bd_gm {lim : Nat} {mid : Bool} {l : Addr} {x y : V} {lim2 n : Nat} : (bdF lim mid l).map (·.1) ≠ (gmF x y lim2 n).map (·.1) := by
  intro h
  exact absurd (congrArg List.length h) (by show ¬ 3 = 4; decide)
/-- the board of a slot gets other keys -/
theorem Wd.board (h : Wd z s dx lb lg H w vb vg) {q : Nat} {a dy l : Addr} {b : R7290f.Spec.Board} {ks : List (List Nat)} {xs : List V} (hv : vb[q]? = some (.ref a)) (hq : w.boards[q]? = some (some b)) (ha : H a = some (.ins z.cB dy (bdF b.limit b.middle l)))
    {l' : Addr} (hl : Lf H l' xs) (hk : KL H xs ks) (ok : BdOk { b with keys := ks }) :
    Wd z s dx lb lg (upd H a (.ins z.cB dy (bdF b.limit b.middle l'))) (R7290f.Spec.setBoard w q { b with keys := ks }) vb vg := by
  have kk : Kp H (upd H a (.ins z.cB dy (bdF b.limit b.middle l'))) := Kp.mut ha fun z => z
  have nlst : ∀ {c : Addr} {ys : List V}, H c = some (.lst ys) → c ≠ a := fun e z => by
    rw [z, ha] at e
    cases e
  refine { h with hs := (upd_ne (ins_ne ha h.hs bd_sl)).trans h.hs, hb := (upd_ne (nlst h.hb)).trans h.hb, hg := (upd_ne (nlst h.hg)).trans h.hg, m1 := by show (w.boards.set q _).length = 2; rw [List.length_set]; exact h.m1, bd := fun i v c e1 e2 => ?_, gm := fun i v g e1 e2 => ?_, okb := fun c hc => ?_ }
  · have e2' : (w.boards.set q (some { b with keys := ks }))[i]? = some c := e2
    by_cases hi : i = q
    · subst hi
      have hlt := (List.getElem?_eq_some_iff.mp hq).1
      rw [List.getElem?_set_self hlt] at e2'
      cases e2'
      rw [hv] at e1
      cases e1
      exact ⟨a, dy, l', xs, rfl, upd_same, hl.kp kk, hk.kp kk⟩
    · rw [List.getElem?_set_ne (Ne.symm hi)] at e2'
      refine (h.bd i v c e1 e2').mono kk fun a' C dz fs ev q' => (upd_ne fun e => ?_).trans q'
      subst e
      subst ev
      exact hi (h.ab i q _ e1 hv)
  · refine (h.gm i v g e1 e2).mono kk fun a' C dz fs ev q' => ?_
    subst ev
    cases g with
    | none =>
      have := h.gm i _ none e1 e2
      cases (show V.ref a' = .non from this)
    | some g =>
      obtain ⟨a2, dx2, x, y, e, h1, _, _⟩ := (show GmAt z H (.ref a') g from h.gm i _ (some g) e1 e2)
      cases e
      exact (upd_ne (ins_ne ha h1 bd_gm)).trans q'
  · have hc' : some c ∈ w.boards.set q (some { b with keys := ks }) := hc
    rcases List.mem_or_eq_of_mem_set hc' with e | e
    · exact h.okb c e
    · cases e
      exact ok
/-- a new board in a slot -/
theorem Wd.putBoard (h : Wd z s dx lb lg H w vb vg) {q : Nat} (hq : q < 2) {a : Addr} {b : R7290f.Spec.Board} (hb : BdAt z H (.ref a) b) (ok : BdOk b) (hn : ∀ i : Nat, vb[i]? ≠ some (V.ref a)) : Wd z s dx lb lg (upd H lb (.lst (vb.set q (.ref a)))) (R7290f.Spec.setBoard w q b) (vb.set q (.ref a)) vg := by
  have kk : Kp H (upd H lb (.lst (vb.set q (.ref a)))) := Kp.lst h.hb
  have nins : ∀ {c C dy : Addr} {fs : List (Str × V)}, H c = some (.ins C dy fs) → c ≠ lb := fun e z => by
    rw [z, h.hb] at e
    cases e
  refine { h with hs := (upd_ne (nins h.hs)).trans h.hs, hb := upd_same, hg := (upd_ne (Ne.symm h.ne)).trans h.hg, n1 := by rw [List.length_set]; exact h.n1, m1 := by show (w.boards.set q _).length = 2; rw [List.length_set]; exact h.m1, bd := fun i v c e1 e2 => ?_, gm := fun i v g e1 e2 => (h.gm i v g e1 e2).mono kk fun a' C dz fs ev q' => (upd_ne (nins q')).trans q', ab := fun i j c e1 e2 => ?_, okb := fun c hc => ?_ }
  · have e2' : (w.boards.set q (some b))[i]? = some c := e2
    by_cases hi : i = q
    · subst hi
      rw [List.getElem?_set_self (by rw [h.n1]; exact hq)] at e1
      rw [List.getElem?_set_self (by rw [h.m1]; exact hq)] at e2'
      cases e1
      cases e2'
      exact BdAt.mono (b := b) hb kk fun a' C dz fs _ q' => (upd_ne (nins q')).trans q'
    · rw [List.getElem?_set_ne (Ne.symm hi)] at e1 e2'
      exact (h.bd i v c e1 e2').mono kk fun a' C dz fs _ q' => (upd_ne (nins q')).trans q'
  · by_cases hi : i = q
    · by_cases hj : j = q
      · rw [hi, hj]
      · subst hi
        rw [List.getElem?_set_self (by rw [h.n1]; exact hq)] at e1
        rw [List.getElem?_set_ne (Ne.symm hj)] at e2
        cases e1
        exact absurd e2 (hn j)
    · rw [List.getElem?_set_ne (Ne.symm hi)] at e1
      by_cases hj : j = q
      · subst hj
        rw [List.getElem?_set_self (by rw [h.n1]; exact hq)] at e2
        cases e2
        exact absurd e1 (hn i)
      · rw [List.getElem?_set_ne (Ne.symm hj)] at e2
        exact h.ab i j c e1 e2
  · have hc' : some c ∈ w.boards.set q (some b) := hc
    rcases List.mem_or_eq_of_mem_set hc' with e | e
    · exact h.okb c e
    · cases e
      exact ok
/-- the game of a slot goes on -/
theorem Wd.game (h : Wd z s dx lb lg H w vb vg) {q : Nat} {a dy : Addr} {g g' : R7290f.Spec.Game} {x y x' y' : V} {n : Nat} (hv : vg[q]? = some (.ref a)) (hq : w.games[q]? = some (some g)) (ha : H a = some (.ins z.cG dy (gmF x y g.limit n)))
    (hx : BAt H x' g'.before) (hy : BAt H y' g'.after) (ok : GmOk g') :
    Wd z s dx lb lg (upd H a (.ins z.cG dy (gmF x' y' g'.limit g'.answers))) (R7290f.Spec.setGame w q g') vb vg := by
  have kk : Kp H (upd H a (.ins z.cG dy (gmF x' y' g'.limit g'.answers))) := Kp.mut ha fun z => z
  have nlst : ∀ {c : Addr} {ys : List V}, H c = some (.lst ys) → c ≠ a := fun e z => by
    rw [z, ha] at e
    cases e
  refine { h with hs := (upd_ne (ins_ne ha h.hs gm_sl)).trans h.hs, hb := (upd_ne (nlst h.hb)).trans h.hb, hg := (upd_ne (nlst h.hg)).trans h.hg, m2 := by show (w.games.set q _).length = 2; rw [List.length_set]; exact h.m2, gm := fun i v c e1 e2 => ?_, bd := fun i v b e1 e2 => ?_, okg := fun c hc => ?_ }
  · refine (h.bd i v b e1 e2).mono kk fun a' C dz fs ev q' => ?_
    subst ev
    cases b with
    | none =>
      have := h.bd i _ none e1 e2
      cases (show V.ref a' = .non from this)
    | some b =>
      obtain ⟨a2, dx2, l, xs, e, h1, _, _⟩ := (show BdAt z H (.ref a') b from h.bd i _ (some b) e1 e2)
      cases e
      exact (upd_ne (ins_ne ha h1 (Ne.symm bd_gm))).trans q'
  · have e2' : (w.games.set q (some g'))[i]? = some c := e2
    by_cases hi : i = q
    · subst hi
      have hlt := (List.getElem?_eq_some_iff.mp hq).1
      rw [List.getElem?_set_self hlt] at e2'
      cases e2'
      rw [hv] at e1
      cases e1
      exact ⟨a, dy, x', y', rfl, upd_same, hx.kp kk, hy.kp kk⟩
    · rw [List.getElem?_set_ne (Ne.symm hi)] at e2'
      refine (h.gm i v c e1 e2').mono kk fun a' C dz fs ev q' => (upd_ne fun e => ?_).trans q'
      subst e
      subst ev
      exact hi (h.ag i q _ e1 hv)
  · have hc' : some c ∈ w.games.set q (some g') := hc
    rcases List.mem_or_eq_of_mem_set hc' with e | e
    · exact h.okg c e
    · cases e
      exact ok
theorem Wd.putGame (h : Wd z s dx lb lg H w vb vg) {q : Nat} (hq : q < 2) {a : Addr} {b : R7290f.Spec.Game} (hb : GmAt z H (.ref a) b) (ok : GmOk b) (hn : ∀ i : Nat, vg[i]? ≠ some (V.ref a)) : Wd z s dx lb lg (upd H lg (.lst (vg.set q (.ref a)))) (R7290f.Spec.setGame w q b) vb (vg.set q (.ref a)) := by
  have kk : Kp H (upd H lg (.lst (vg.set q (.ref a)))) := Kp.lst h.hg
  have nins : ∀ {c C dy : Addr} {fs : List (Str × V)}, H c = some (.ins C dy fs) → c ≠ lg := fun e z => by
    rw [z, h.hg] at e
    cases e
  refine { h with hs := (upd_ne (nins h.hs)).trans h.hs, hg := upd_same, hb := (upd_ne h.ne).trans h.hb, n2 := by rw [List.length_set]; exact h.n2, m2 := by show (w.games.set q _).length = 2; rw [List.length_set]; exact h.m2, gm := fun i v c e1 e2 => ?_, bd := fun i v g e1 e2 => (h.bd i v g e1 e2).mono kk fun a' C dz fs ev q' => (upd_ne (nins q')).trans q', ag := fun i j c e1 e2 => ?_, okg := fun c hc => ?_ }
  · have e2' : (w.games.set q (some b))[i]? = some c := e2
    by_cases hi : i = q
    · subst hi
      rw [List.getElem?_set_self (by rw [h.n2]; exact hq)] at e1
      rw [List.getElem?_set_self (by rw [h.m2]; exact hq)] at e2'
      cases e1
      cases e2'
      exact GmAt.mono (g := b) hb kk fun a' C dz fs _ q' => (upd_ne (nins q')).trans q'
    · rw [List.getElem?_set_ne (Ne.symm hi)] at e1 e2'
      exact (h.gm i v c e1 e2').mono kk fun a' C dz fs _ q' => (upd_ne (nins q')).trans q'
  · by_cases hi : i = q
    · by_cases hj : j = q
      · rw [hi, hj]
      · subst hi
        rw [List.getElem?_set_self (by rw [h.n2]; exact hq)] at e1
        rw [List.getElem?_set_ne (Ne.symm hj)] at e2
        cases e1
        exact absurd e2 (hn j)
    · rw [List.getElem?_set_ne (Ne.symm hi)] at e1
      by_cases hj : j = q
      · subst hj
        rw [List.getElem?_set_self (by rw [h.n2]; exact hq)] at e2
        cases e2
        exact absurd e1 (hn i)
      · rw [List.getElem?_set_ne (Ne.symm hj)] at e2
        exact h.ag i j c e1 e2
  · have hc' : some c ∈ w.games.set q (some b) := hc
    rcases List.mem_or_eq_of_mem_set hc' with e | e
    · exact h.okg c e
    · cases e
      exact ok
end
end OK
namespace OK
open PySem PySem.Spec PyProof.Rows L2
theorem sqL_ins {K : PySem.W.Frag} {a C dx kl : Addr} {fs : List (Str × V)} {H : Hp} {o : HO} {xs : List V} (h : H a = some (.ins C dx fs)) (hl : SqL K H kl xs) : SqL K (upd H a o) kl xs := by
  rcases hl with (hl | ⟨o', hl⟩) | hl
  · exact .inl (.inl ((upd_ne fun z => by rw [z, h] at hl; cases hl).trans hl))
  · exact .inl (.inr ⟨o', (upd_ne fun z => by rw [z, h] at hl; cases hl).trans hl⟩)
  · exact .inr hl
end OK
namespace OK
open PySem PySem.Spec PyProof.Rows L2
section
variable {K : PySem.W.Frag} {g : TG} {tb : TS} {D : Ends} {σ : L2.St} {H : Hp}
/-- for i, x in enumerate(xs) -/
theorem x_fe {a : Addr} {xs : List V} (hx : SqL K H a xs) (Pv : Nat → L2.St → Hp → Prop) (h0 : Pv 0 σ H) (hl : ∀ i σ H, i ≤ xs.length → Pv i σ H → SqL K H a xs)
    (hs : ∀ (i : Nat) x T σ H H', xs[i]? = some x → Pv i σ H → H T = none → H' = upd H T (.tup [.int (i : Nat), x]) → g (.ref T) σ H' fun σ2 H2 => tb { D with nx := Pv (i + 1), ct := Pv (i + 1), bk := D.nx } σ2 H2) (hd : ∀ σ H, Pv xs.length σ H → D.nx σ H) :
    ∃ b zs, [V.ref a] = [.ref b] ∧ SqL K H b zs ∧ ForQ (Ite K b) g tb D σ H := by
  refine ⟨a, xs, rfl, hx, fun i m σ H => m = xs.length - i ∧ i ≤ xs.length ∧ Pv i σ H, ⟨_, rfl, Nat.zero_le _, h0⟩, ?_⟩
  rintro i m σ H ⟨rfl, hi, p⟩
  have hq := hl i σ H hi p
  by_cases hlt : i < xs.length
  · refine .inr ⟨⟨xs, xs[i], hq, List.getElem?_eq_getElem hlt⟩, Pv (i + 1), fun σ' H' p' => ⟨xs.length - (i + 1), by omega, rfl, hlt, p'⟩, fun v H' y => ?_⟩
    obtain ⟨T, x, rfl, hT, e, y⟩ := y
    exact hs i x T σ H H' (y xs hq) p hT e
  · have e : i = xs.length := by omega
    subst e
    exact .inl ⟨⟨xs, hq, Nat.le_refl _⟩, hd σ H p⟩
theorem x_pop {l : Addr} {xs : List V} {y : V} {Q : VK} (h : H l = some (.lst xs)) (e : xs[xs.length - 1]? = some y) (q : Q y (upd H l (.lst xs.dropLast))) : rPop (.ref l) [] H Q := ⟨l, xs, y, rfl, rfl, h, e, q⟩
end
end OK
/-! ### dict(pairs), keys that are tuples of ints -/
namespace OK
open PySem PySem.Spec PyProof.Rows L2
abbrev Quad := Addr × Addr × List Int × V
def tk (l : List Int) : List L2.Key := l.map Sum.inl
theorem tk_kV (l : List Int) : (tk l).map kV = l.map V.int := by
  unfold tk
  rw [List.map_map]
  rfl
theorem tk_inj : ∀ {a b : List Int}, tk a = tk b → a = b
  | [], [], _ => rfl
  | [], _ :: _, h => by cases h
  | _ :: _, [], h => by cases h
  | x :: a, y :: b, h => by
    have h' : Sum.inl x :: tk a = (Sum.inl y : L2.Key) :: tk b := h
    injection h' with h1 h2
    injection h1 with h1
    rw [h1, tk_inj h2]
/-- dict(xs), xs a list of pairs of apart keys -/
def rDictT (K : PySem.W.Frag) : List V → Hp → VK → Prop := fun vs H Q => ∃ (l : Addr) (ps : List Quad), vs = [.ref l] ∧ SqL K H l (ps.map fun p => V.ref p.1) ∧ (∀ p ∈ ps, SqT K H p.1 [.ref p.2.1, p.2.2.2] ∧ Oc H p.2.1 p.2.2.1) ∧ (ps.map fun p => p.2.2.1).Nodup ∧ ps.length ≤ 1000 ∧
  ∀ d, H d = none → Q (.ref d) (upd H d (.dT (ps.map fun p => (tk p.2.2.1, p.2.2.2))))
theorem storedAll_nodup {K : Type} [DecidableEq K] : ∀ (ps acc : List (K × Addr × Value)), ((acc ++ ps).map (·.1)).Nodup → storedAllH acc ps = acc ++ ps
  | [], acc, _ => by
    show acc = acc ++ []
    rw [List.append_nil]
  | p :: ps, acc, h => by
    have hn : atKey acc p.1 = none := by
      cases e : atKey acc p.1 with
      | none => rfl
      | some q =>
        exfalso
        have hm : p.1 ∈ acc.map (·.1) := by
          unfold atKey at e
          cases e2 : acc.find? (fun x => decide (x.1 = p.1)) with
          | none => rw [e2] at e; cases e
          | some y =>
            have h1 := List.find?_some e2
            have h2 := List.mem_of_find?_eq_some e2
            exact List.mem_map.mpr ⟨y, h2, of_decide_eq_true h1⟩
        rw [List.map_append, List.map_cons] at h
        exact (List.nodup_append.mp h).2.2 _ hm _ List.mem_cons_self rfl
    show storedAllH (storedH acc p.1 p.2.1 p.2.2) ps = _
    rw [storedH_new hn, storedAll_nodup ps _ (by rw [List.append_assoc]; exact h), List.append_assoc]
    rfl
theorem paired_of {α β : Type} {F : α → β → Prop} : ∀ {l : List α} {m : List β}, l.length = m.length → (∀ (j : Nat) a b, l[j]? = some a → m[j]? = some b → F a b) → Paired F l m
  | [], [], _, _ => .nil
  | [], _ :: _, h, _ => by cases h
  | _ :: _, [], h, _ => by cases h
  | a :: l, b :: m, h, k => .cons (k 0 a b rfl rfl) (paired_of (by simpa using h) fun j x y e1 e2 => k (j + 1) x y e1 e2)
theorem pget' {α β : Type} {F : α → β → Prop} : ∀ {l : List α} {m : List β}, Paired F l m → ∀ {j : Nat} {b : β}, m[j]? = some b → ∃ a, l[j]? = some a ∧ F a b
  | _, _, .nil, j, b, e => by simp at e
  | _, _, .cons h t, 0, b, e => by
    cases e
    exact ⟨_, rfl, h⟩
  | _, _, .cons h t, j + 1, b, e => pget' t e
theorem quads_vals {X : Cx} {pins : List (Addr × Obj)} {σ : L2.St} {H : Hp} {s : Shared} (I : Inv X pins σ H s) : ∀ (ps : List Quad), (∀ p ∈ ps, SqT X.K H p.1 [.ref p.2.1, p.2.2.2] ∧ Oc H p.2.1 p.2.2.1) →
    ∃ us : List Value, us.length = ps.length ∧ ∀ (j : Nat) p u, ps[j]? = some p → us[j]? = some u → RelV p.2.2.2 u ∧ s.heap.IsTuple p.1 #[.ref p.2.1, u]
  | [], _ => ⟨[], rfl, fun j p u e _ => by simp at e⟩
  | p :: ps, h => by
    obtain ⟨us, h1, h2⟩ := quads_vals I ps fun q hq => h q (List.mem_cons_of_mem _ hq)
    obtain ⟨its, rv, pt, _⟩ := I.tuple (h p List.mem_cons_self).1
    obtain ⟨a, b, rfl, ra, rb⟩ := vals2 rv
    cases ra
    refine ⟨b :: us, by rw [List.length_cons, List.length_cons, h1], fun j q u e1 e2 => ?_⟩
    cases j with
    | zero =>
      cases e1
      cases e2
      exact ⟨rb, pt⟩
    | succ j => exact h2 j q u e1 e2
theorem cr_dictT {X : Cx} (hc : X.calm = true) (hu : X.A.units + 64 < cLine) : CallR X (.type "dict") (rDictT X.K) := by
  intro pins s σ H vs us Q I r h
  obtain ⟨l, ps, rfl, hl, hp, hn, hz, q⟩ := h
  rw [Vals.ref1 r]
  obtain ⟨its, rv, pl, _⟩ := I.list hl
  obtain ⟨ws, hw1, hw2⟩ := quads_vals I ps hp
  have hits : its = ps.map fun p => Value.ref p.1 := by
    have := refs_of_vals (ks := ps.map fun p => (p.1, p.2.2.1)) (us := its) (by rw [List.map_map]; exact rv)
    rw [this, List.map_map]
    rfl
  let kv : List (Value × Value) := (ps.zip ws).map fun z => (Value.ref z.1.2.1, z.2)
  let xs : List (List L2.Key × Addr × Value) := (ps.zip ws).map fun z => (tk z.1.2.2.1, z.1.2.1, z.2)
  have hzl : (ps.zip ws).length = ps.length := by rw [List.length_zip, hw1, Nat.min_self]
  have hget : ∀ (j : Nat) z, (ps.zip ws)[j]? = some z → ps[j]? = some z.1 ∧ ws[j]? = some z.2 := fun j z e => List.getElem?_zip_eq_some.mp e
  have P := PairArg.list (prog := X.prog) (w := X.w) l its.toArray (fun j => (ps.map (·.1)).getD j 0) kv
  have okl : PlainSeq "list" s.heap l its.toArray ∧ PairItems s.heap its.toArray (fun j => (ps.map (·.1)).getD j 0) kv := by
    refine ⟨pl, by rw [List.size_toArray, hits, List.length_map, List.length_map, hzl], fun j k v e => ?_⟩
    rw [List.getElem?_map] at e
    cases e2 : (ps.zip ws)[j]? with
    | none => rw [e2] at e; cases e
    | some z =>
      rw [e2] at e
      cases e
      obtain ⟨e3, e4⟩ := hget j z e2
      have e5 : (ps.map (·.1)).getD j 0 = z.1.1 := by
        rw [List.getD_eq_getElem?_getD, List.getElem?_map, e3]
        rfl
      show its.toArray[j]? = some (Value.ref ((ps.map (·.1)).getD j 0)) ∧ PairAt s.heap ((ps.map (·.1)).getD j 0) (Value.ref z.1.2.1) z.2
      rw [e5]
      refine ⟨?_, .inl (hw2 j _ _ e3 e4).2⟩
      rw [List.getElem?_toArray, hits, List.getElem?_map, e3]
      rfl
  have hxs : ∀ (j : Nat) z, (ps.zip ws)[j]? = some z → xs[j]? = some (tk z.1.2.2.1, z.1.2.1, z.2) := fun j z e => by
    show ((ps.zip ws).map _)[j]? = _
    rw [List.getElem?_map, e]
    rfl
  have hKT : KT H (ps.map fun p => (tk p.2.2.1, p.2.2.2)) xs := by
    refine paired_of (by rw [List.length_map]; show _ = ((ps.zip ws).map _).length; rw [List.length_map, hzl]) fun j a b e1 e2 => ?_
    rw [List.getElem?_map] at e1
    have e2' : ((ps.zip ws).map fun z => (tk z.1.2.2.1, z.1.2.1, z.2))[j]? = some b := e2
    rw [List.getElem?_map] at e2'
    cases e3 : (ps.zip ws)[j]? with
    | none => rw [e3] at e2'; cases e2'
    | some z =>
      rw [e3] at e2'
      cases e2'
      obtain ⟨e4, e5⟩ := hget j z e3
      rw [e4] at e1
      cases e1
      refine ⟨rfl, ?_, (hw2 j _ _ e4 e5).1⟩
      rw [tk_kV]
      exact (hp _ (List.mem_of_getElem? e4)).2
  have hkeys : xs.map (·.1) = ps.map fun p => tk p.2.2.1 := by
    show ((ps.zip ws).map fun z => (tk z.1.2.2.1, z.1.2.1, z.2)).map (·.1) = _
    rw [List.map_map]
    have : (ps.zip ws).map Prod.fst = ps := List.map_fst_zip (by omega)
    calc (ps.zip ws).map ((fun x : List L2.Key × Addr × Value => x.1) ∘ fun z => (tk z.1.2.2.1, z.1.2.1, z.2)) = ((ps.zip ws).map Prod.fst).map fun p => tk p.2.2.1 := by rw [List.map_map]; rfl
      _ = _ := by rw [this]
  have hnd : (xs.map (·.1)).Nodup := by
    rw [hkeys]
    have e : (ps.map fun p => tk p.2.2.1) = (ps.map fun p => p.2.2.1).map tk := by rw [List.map_map]; rfl
    rw [e]
    exact (List.pairwise_map).mpr (hn.imp fun hne h => hne (tk_inj h))
  have hall : storedAllH [] xs = xs := storedAll_nodup xs [] hnd
  have his : ∀ x ∈ xs, (tupleKind (mixKind X.prog X.w)).is s.heap x.1 x.2.1 := fun x hx => by
    obtain ⟨j, hj⟩ := List.mem_iff_getElem?.mp hx
    obtain ⟨a, e1, e2⟩ : ∃ a, (ps.map fun p => (tk p.2.2.1, p.2.2.2))[j]? = some a ∧ (a.1 = x.1 ∧ H x.2.1 = some (.tup (a.1.map kV)) ∧ RelV a.2 x.2.2) := pget' hKT hj
    have := key_of (P := X.prog) (w := X.w) I.hok e2.2.1
    rw [e2.1] at this
    exact this
  have hsz : kv.length = ps.length := by
    show ((ps.zip ws).map _).length = _
    rw [List.length_map, hzl]
  refine call_dict_pairsH (knd := tupleKind (mixKind X.prog X.w)) (ps := xs) P (I.ok.hd hc) (by show X.A.units + 1 + 1 < cLine; omega) okl ⟨?_, fun i key v hr => ?_⟩ (fun h' hk x hx => ?_) (by rw [hsz]; exact sz0 (by omega)) fun h' tkk hd hk => ?_
  · show ((ps.zip ws).map _).length = ((ps.zip ws).map _).length
    rw [List.length_map, List.length_map]
  · have hr' : ((ps.zip ws).map fun z => (Value.ref z.1.2.1, z.2))[i]? = some (key, v) := hr
    rw [List.getElem?_map] at hr'
    cases e2 : (ps.zip ws)[i]? with
    | none => rw [e2] at hr'; cases hr'
    | some z =>
      rw [e2] at hr'
      cases hr'
      exact ⟨tk z.1.2.2.1, z.1.2.1, hxs i z e2, rfl⟩
  · obtain ⟨o, its', n', ho, hc', hd', hi'⟩ := his x hx
    exact ⟨o, its', n', hk _ _ (fun z => by rw [z] at ho; exact absurd (Heap.lt_size ho) (Nat.lt_irrefl _)) (fun z => by cases z) ho, hc', hd', hi'⟩
  · rw [hall] at hd
    have keep : ∀ b o, s.heap.get? b = some o → h'.get? b = some o := fun b o e => hk b o (fun z => by cases z) e
    have hH : H s.heap.objs.size = none := I.hok.fresh (Nat.le_refl _)
    obtain ⟨o, es, ep, h1, h2, h3, h4, h5, h6⟩ := hd
    have ne : ∀ b ys, H b = some (.tup ys) → b ≠ s.heap.objs.size := fun b ys e z => by rw [z, hH] at e; cases e
    refine ⟨.ref s.heap.objs.size, _, I.laid (t' := tkk) (o := .dT (ps.map fun p => (tk p.2.2.1, p.2.2.2))) keep (Nat.le_refl _) ⟨by rw [List.length_map]; exact sz0 (by omega), beq_eq_false_iff_ne.mpr (Ne.symm (Nat.ne_of_lt I.big)), xs, hKT.keeps fun b ys e => (upd_ne (ne b ys e)).trans e, o, es, ep, h1, h2, h3, h4, h6⟩, rfl, q _ hH⟩
theorem pe_dictT {X : Cx} {e : Expr} {te : TE} {p pos : Pos} (hc : X.calm = true) (hu : X.A.units + 64 < cLine) (hm : X.mg "dict" = none) (he : PE X e te) (hg : Gl X "dict" := by rfl) (hs : starEach [e] X.env = (false, eval e X.env) :: starEach [] X.env := by rfl) : PE X (.Call (.Name "dict" p) [e] [] pos) (tCB (rDictT X.K) (tCons te tNil)) :=
  pe_callTy (cr_dictT hc hu) hg hm (by decide +kernel) (pa_cons he pa_nil hs) (he := hs)
end OK
/-! ### sorted(xs), xs a list of pairs of tuples of ints -/
namespace OK
open PySem PySem.Spec PyProof.Rows L2 PySem.W
abbrev Tri := V × List Int × List Int
def encP (b : Tri) : PyData := .tuple [.tuple (b.2.1.map PyData.int), .tuple (b.2.2.map PyData.int)]
def PairAtH (K : PySem.W.Frag) (H : Hp) (b : Tri) : Prop := ∃ t a c, b.1 = .ref t ∧ SqT K H t [.ref a, .ref c] ∧ Oc H a b.2.1 ∧ Oc H c b.2.2
def rSortP (K : PySem.W.Frag) : List V → Hp → VK → Prop := fun vs H Q => ∃ (l : Addr) (bs : List Tri), vs = [.ref l] ∧ SqL K H l (bs.map (·.1)) ∧ (∀ b ∈ bs, PairAtH K H b) ∧ bs.length ≤ 1000 ∧
  ∀ p, H p = none → Q (.ref p) (upd H p (.lst ((bs.mergeSort (dataLe false encP)).map (·.1))))
theorem alike_int2 : ∀ xs ys : List Int, alike (.tuple (xs.map PyData.int)) (.tuple (ys.map PyData.int)) = true := fun xs ys => alike_ints xs ys
theorem alikeP (b c : Tri) : alike (encP b) (encP c) = true := by
  show (alike _ _ && (alike _ _ && true)) = true
  rw [alike_int2, alike_int2]
  rfl
theorem dp_encP {K : PySem.W.Frag} {H : Hp} {b : Tri} (h : PairAtH K H b) : Dp K H b.1 (encP b) := by
  obtain ⟨t, a, c, e, ht, ha, hc⟩ := h
  rw [e]
  exact .tup ht (.cons (.tup ha.t (dp_ints _)) (.cons (.tup hc.t (dp_ints _)) .nil))
theorem depthP (b : Tri) : (encP b).depth ≤ 3 := by
  show max (PyData.depthAll (b.2.1.map PyData.int) + 1) (max (PyData.depthAll (b.2.2.map PyData.int) + 1) 0) + 1 ≤ 3
  rw [dep_ints, dep_ints]
  decide
theorem eachR : ∀ {bs : List Tri} {us : List Value}, Vals (bs.map (·.1)) us → EachIs (fun (v : Value) (b : Tri) => RelV b.1 v) us bs
  | [], us, h => by
    cases h
    exact .nil
  | b :: bs, us, h => by
    cases h with
    | cons a r => exact .cons a (eachR r)
theorem eachV : ∀ {bs : List Tri} {us : List Value}, EachIs (fun (v : Value) (b : Tri) => RelV b.1 v) us bs → Vals (bs.map (·.1)) us
  | [], us, h => by
    cases h
    exact .nil
  | b :: bs, us, h => by
    cases h with
    | cons a r => exact .cons a (eachV r)
theorem cr_sortP {X : Cx} (hu : X.A.units + 64 < cLine) : CallR X (.builtin "sorted") (rSortP X.K) := by
  intro pins s σ H vs us Q I r h
  obtain ⟨l, bs, rfl, hl, hb, hz, q⟩ := h
  rw [Vals.ref1 r]
  obtain ⟨its, rv, pl, _⟩ := I.list hl
  have er : ∀ {bs : List Tri} {us : List Value}, (∀ b ∈ bs, PairAtH X.K H b) → Vals (bs.map (·.1)) us → EachIs (fun v b => ∃ as, Reads s.heap v (encP b) as) us bs := by
    intro bs
    induction bs with
    | nil => intro us _ h; cases h; exact .nil
    | cons b bs ih =>
      intro us hb h
      cases h with
      | cons a r => exact .cons (Dp.reads I _ _ _ (dp_encP (hb b List.mem_cons_self)) a) (ih (fun c hc => hb c (List.mem_cons_of_mem _ hc)) r)
  refine sorted_data (R := fun (v : Value) (b : Tri) => RelV b.1 v) (enc := encP) pl.isList (eachR rv) (er hb rv) (AllAlike.of alikeP) (Sortable.tuples fun b => ⟨_, _, rfl⟩) (sz0 (by omega)) (fun b _ => by have := depthP b; omega) fun out ho he => ?_
  obtain ⟨ep, he'⟩ := PyProof.Rows.sortedAll_at s.heap its (List.toArray out)
  have rl := eachV he
  have hlen : (bs.mergeSort (dataLe false encP)).length = bs.length := List.length_mergeSort bs
  exact ⟨.ref _, _, I.laid (t' := s.toks) (a := s.heap.objs.size + 1) (o := .lst ((bs.mergeSort (dataLe false encP)).map (·.1))) (fun _ _ => PyProof.Rows.sortedAll_old) (Nat.le_succ _) ⟨by rw [List.length_map, hlen]; exact sz0 (by omega), _, ep, rl, he'⟩, rfl, q _ (I.hok.fresh (Nat.le_succ _))⟩
/-- the order -/
def ltP (p q : Tri) : Bool := decide (p.2.1 < q.2.1 ∨ (p.2.1 = q.2.1 ∧ p.2.2 < q.2.2))
theorem dataLtP (p q : Tri) : dataLt (encP p) (encP q) = ltP p q := by
  unfold encP ltP
  rw [dataLt_pair (alike_int2 _ _) (alike_int2 _ _), dataLt_tuple, dataLt_tuple]
  have e1 : PyData.eqv (.tuple (p.2.1.map PyData.int)) (.tuple (q.2.1.map PyData.int)) = decide (p.2.1 = q.2.1) := eqv_ints _ _
  have e2 : PyData.eqv (.tuple (p.2.2.map PyData.int)) (.tuple (q.2.2.map PyData.int)) = decide (p.2.2 = q.2.2) := eqv_ints _ _
  have f1 := dataLt_ints p.2.1 q.2.1
  have f2 := dataLt_ints p.2.2 q.2.2
  unfold rowLt at f1 f2
  rw [e1, e2, f1, f2]
  by_cases h1 : p.2.1 = q.2.1
  · rw [h1]
    by_cases h2 : p.2.2 = q.2.2
    · rw [h2]
      simp [List.lt_irrefl]
    · simp [h2, List.lt_irrefl]
  · simp [h1]
theorem dataLeP : dataLe false encP = fun p q => !ltP q p := by
  rw [dataLe_eq]
  funext p q
  show (!dataLt (encP q) (encP p)) = _
  rw [dataLtP]
theorem pe_sortP {X : Cx} {e : Expr} {te : TE} {p pos : Pos} (hu : X.A.units + 64 < cLine) (hm : X.mg "sorted" = none) (he : PE X e te) (hg : Gl X "sorted" := by rfl) (hs : starEach [e] X.env = (false, eval e X.env) :: starEach [] X.env := by rfl) : PE X (.Call (.Name "sorted" p) [e] [] pos) (tCB (rSortP X.K) (tCons te tNil)) :=
  pe_callB (cr_sortP hu) hg hm (by decide +kernel) (pa_cons he pa_nil hs) (he := hs)
end OK
namespace OK
open PySem PySem.Spec PyProof.Rows L2
theorem x_dg {td ty : TE} {σ : L2.St} {H : Hp} {Q : VK} (q : td σ H fun x H1 => ∃ a, x = .ref a ∧ IsD H1 a ∧ ty σ H1 fun y H2 => ∃ o, DGet H2 a y o ∧ Q (o.getD .non) H2) : tDGet1 td ty σ H Q := q
theorem x_dp {td ty tv : TE} {σ : L2.St} {H : Hp} {D : Ends} (q : tv σ H fun v H1 => td σ H1 fun x H2 => ty σ H2 fun y H3 => ∃ a H4, x = .ref a ∧ DPut H3 a y v H4 ∧ D.nx σ H4) : sDPut td ty tv D σ H := q
theorem x_dn {σ : L2.St} {H : Hp} {Q : VK} (q : ∀ p, H p = none → Q (.ref p) (upd H p (.dT []))) : tDNewT σ H Q := q
end OK
/-! ### merging: the plain law -/
namespace OK
open PySem PySem.Spec PyProof.Rows L2
open R7290f.Spec (Units Bound isBefore isTextBefore isRowBefore insertRow idsOf mergedKey keyOfId mergedRows)
abbrev RRow := R7290f.Spec.Row
theorem before_total : ∀ (j k : List Nat), j ≠ k → isBefore j k = !isBefore k j
  | [], [], h => absurd rfl h
  | [], _ :: _, _ => rfl
  | _ :: _, [], _ => rfl
  | x :: r, y :: s, h => by
    show (decide (x < y) || (x == y && isBefore r s)) = !(decide (y < x) || (y == x && isBefore s r))
    by_cases h1 : x < y
    · have h2 : ¬ y < x := by omega
      have h3 : ¬ y = x := by omega
      simp [h1, h2, h3]
    · by_cases h2 : y < x
      · have h3 : ¬ x = y := by omega
        simp [h1, h2, h3]
      · have h3 : x = y := by omega
        subst h3
        have : r ≠ s := fun e => h (by rw [e])
        simp [before_total r s this]
theorem before_irr : ∀ (k : List Nat), isBefore k k = false
  | [] => rfl
  | x :: r => by
    show (decide (x < x) || (x == x && isBefore r r)) = false
    simp [before_irr r]
theorem text_total : ∀ (j k : Units), j ≠ k → isTextBefore j k = !isTextBefore k j
  | [], [], h => absurd rfl h
  | [], _ :: _, _ => rfl
  | _ :: _, [], _ => rfl
  | x :: r, y :: s, h => by
    show (decide (x < y) || (x == y && isTextBefore r s)) = !(decide (y < x) || (y == x && isTextBefore s r))
    by_cases h1 : x < y
    · have h2 : ¬ y < x := UInt16.not_lt.mpr (UInt16.le_of_lt h1)
      have h3 : ¬ y = x := fun e => by rw [e] at h1; exact UInt16.lt_irrefl _ h1
      simp [h1, h2, h3]
    · by_cases h2 : y < x
      · have h3 : ¬ x = y := fun e => by rw [e] at h2; exact UInt16.lt_irrefl _ h2
        simp [h1, h2, h3]
      · have h3 : x = y := UInt16.le_antisymm (UInt16.not_lt.mp h2) (UInt16.not_lt.mp h1)
        subst h3
        have : r ≠ s := fun e => h (by rw [e])
        simp [text_total r s this]
theorem lex_lt_ints : ∀ (a b : List Int), decide (a < b) = HT.lexLt a b
  | [], [] => by simp [HT.lexLt]
  | [], _ :: _ => by simp [HT.lexLt]
  | _ :: _, [] => by simp [HT.lexLt]
  | x :: r, y :: s => by
    have ih := lex_lt_ints r s
    simp only [List.cons_lt_cons_iff, HT.lexLt]
    rw [← ih]
    by_cases h1 : x < y
    · have h2 : ¬ x = y := by omega
      simp [h1, h2]
    · by_cases h2 : x = y
      · simp [h2]
      · simp [h1, h2]
theorem before_tr : ∀ (a b c : List Nat), isBefore a b = true → isBefore b c = true → isBefore a c = true
  | [], [], _, h, _ => by cases h
  | _ :: _, [], _, h, _ => by cases h
  | _, _ :: _, [], _, h => by cases h
  | [], _ :: _, _ :: _, _, _ => rfl
  | x :: a, y :: b, z :: c, h1, h2 => by
    have h1' : (decide (x < y) || (x == y && isBefore a b)) = true := h1
    have h2' : (decide (y < z) || (y == z && isBefore b c)) = true := h2
    show (decide (x < z) || (x == z && isBefore a c)) = true
    simp only [Bool.or_eq_true, decide_eq_true_eq, Bool.and_eq_true, beq_iff_eq] at h1' h2' ⊢
    rcases h1' with h1' | ⟨e1, h1'⟩
    · rcases h2' with h2' | ⟨e2, h2'⟩
      · exact .inl (by omega)
      · exact .inl (by omega)
    · rcases h2' with h2' | ⟨e2, h2'⟩
      · exact .inl (by omega)
      · exact .inr ⟨by omega, before_tr a b c h1' h2'⟩
theorem text_tr : ∀ (a b c : Units), isTextBefore a b = true → isTextBefore b c = true → isTextBefore a c = true
  | [], [], _, h, _ => by cases h
  | _ :: _, [], _, h, _ => by cases h
  | _, _ :: _, [], _, h => by cases h
  | [], _ :: _, _ :: _, _, _ => rfl
  | x :: a, y :: b, z :: c, h1, h2 => by
    have h1' : (decide (x < y) || (x == y && isTextBefore a b)) = true := h1
    have h2' : (decide (y < z) || (y == z && isTextBefore b c)) = true := h2
    show (decide (x < z) || (x == z && isTextBefore a c)) = true
    simp only [Bool.or_eq_true, decide_eq_true_eq, Bool.and_eq_true, beq_iff_eq] at h1' h2' ⊢
    rcases h1' with h1' | ⟨e1, h1'⟩
    · rcases h2' with h2' | ⟨e2, h2'⟩
      · exact .inl (UInt16.lt_trans h1' h2')
      · exact .inl (e2 ▸ h1')
    · rcases h2' with h2' | ⟨e2, h2'⟩
      · exact .inl (e1 ▸ h2')
      · exact .inr ⟨e1.trans e2, text_tr a b c h1' h2'⟩
theorem row_eq {r s : RRow} (h1 : r.key = s.key) (h2 : r.id = s.id) : r = s := by
  cases r
  cases s
  cases h1
  cases h2
  rfl
theorem row_def (r s : RRow) : isRowBefore r s = (isBefore r.key s.key || (r.key == s.key && isTextBefore r.id s.id)) := rfl
theorem row_total {r s : RRow} (h : r ≠ s) : isRowBefore r s = !isRowBefore s r := by
  rw [row_def, row_def]
  by_cases hk : r.key = s.key
  · rw [hk, before_irr]
    have : r.id ≠ s.id := fun e => h (row_eq hk e)
    simp [text_total r.id s.id this]
  · have h3 : ¬ s.key = r.key := fun e => hk e.symm
    have b1 : (r.key == s.key) = false := beq_eq_false_iff_ne.mpr hk
    have b2 : (s.key == r.key) = false := beq_eq_false_iff_ne.mpr h3
    rw [before_total r.key s.key hk, b1, b2]
    simp
theorem row_tr {r s t : RRow} (h1 : isRowBefore r s = true) (h2 : isRowBefore s t = true) : isRowBefore r t = true := by
  rw [row_def] at *
  simp only [Bool.or_eq_true, Bool.and_eq_true, beq_iff_eq] at *
  rcases h1 with h1 | ⟨e1, h1⟩
  · rcases h2 with h2 | ⟨e2, h2⟩
    · exact .inl (before_tr _ _ _ h1 h2)
    · exact .inl (e2 ▸ h1)
  · rcases h2 with h2 | ⟨e2, h2⟩
    · exact .inl (e1 ▸ h2)
    · exact .inr ⟨e1.trans e2, text_tr _ _ _ h1 h2⟩
theorem text_irr : ∀ (k : Units), isTextBefore k k = false
  | [] => rfl
  | x :: r => by
    show (decide (x < x) || (x == x && isTextBefore r r)) = false
    rw [text_irr r, Bool.and_false, Bool.or_false]
    exact decide_eq_false (UInt16.lt_irrefl x)
theorem row_irr (r : RRow) : isRowBefore r r = false := by
  rw [row_def, before_irr, text_irr]
  simp
def leR (r s : RRow) : Bool := !isRowBefore s r
theorem leR_total (r s : RRow) : (leR r s || leR s r) = true := by
  unfold leR
  by_cases h : r = s
  · subst h
    rw [row_irr]
    rfl
  · rw [row_total h]
    cases isRowBefore s r <;> rfl
theorem leR_anti {r s : RRow} (h1 : leR r s = true) (h2 : leR s r = true) : r = s := by
  by_cases h : r = s
  · exact h
  · unfold leR at h1 h2
    rw [row_total h] at h2
    cases e : isRowBefore s r <;> rw [e] at h1 h2 <;> cases h1 <;> cases h2
theorem leR_tr (r s t : RRow) (h1 : leR r s = true) (h2 : leR s t = true) : leR r t = true := by
  by_cases e1 : r = s
  · rw [e1]; exact h2
  by_cases e2 : s = t
  · rw [← e2]; exact h1
  have b1 : isRowBefore r s = true := by
    rw [row_total e1]; exact h1
  have b2 : isRowBefore s t = true := by
    rw [row_total e2]; exact h2
  have b3 := row_tr b1 b2
  unfold leR
  by_cases e3 : r = t
  · rw [e3, row_irr] at b3
    cases b3
  · rw [row_total e3] at b3
    exact b3
theorem insert_perm (r : RRow) : ∀ (l : List RRow), (insertRow r l).Perm (r :: l)
  | [] => List.Perm.refl _
  | s :: l => by
    show (if isRowBefore r s then r :: s :: l else s :: insertRow r l).Perm _
    split
    · exact List.Perm.refl _
    · exact ((insert_perm r l).cons s).trans (List.Perm.swap r s l)
theorem insert_sorted (r : RRow) : ∀ (l : List RRow), l.Pairwise (fun a b => leR a b = true) → (insertRow r l).Pairwise (fun a b => leR a b = true)
  | [], _ => List.pairwise_singleton _ _
  | s :: l, h => by
    obtain ⟨h1, h2⟩ := List.pairwise_cons.mp h
    show (if isRowBefore r s then r :: s :: l else s :: insertRow r l).Pairwise _
    split
    · rename_i hb
      have hrs : leR r s = true := by
        by_cases e : r = s
        · rw [e]; unfold leR; rw [row_irr]; rfl
        · rw [row_total e] at hb
          exact hb
      refine List.pairwise_cons.mpr ⟨fun x hx => ?_, h⟩
      rcases List.mem_cons.mp hx with e | e
      · rw [e]; exact hrs
      · exact leR_tr _ _ _ hrs (h1 x e)
    · rename_i hb
      have hsr : leR s r = true := by
        unfold leR
        rw [Bool.not_eq_true] at hb
        rw [hb]
        rfl
      refine List.pairwise_cons.mpr ⟨fun x hx => ?_, insert_sorted r l h2⟩
      rcases List.mem_cons.mp ((insert_perm r l).mem_iff.mp hx) with e | e
      · rw [e]; exact hsr
      · exact h1 x e
theorem foldr_perm : ∀ (l : List RRow), (l.foldr insertRow []).Perm l
  | [] => List.Perm.refl _
  | r :: l => (insert_perm r _).trans ((foldr_perm l).cons r)
theorem foldr_sorted : ∀ (l : List RRow), (l.foldr insertRow []).Pairwise (fun a b => leR a b = true)
  | [] => List.Pairwise.nil
  | r :: l => insert_sorted r _ (foldr_sorted l)
theorem sort_rows (l : List RRow) : l.mergeSort leR = l.foldr insertRow [] :=
  List.Perm.eq_of_pairwise (le := fun a b => leR a b = true) (fun a b _ _ h1 h2 => leR_anti h1 h2) (List.pairwise_mergeSort leR_tr leR_total l) (foldr_sorted l) ((List.mergeSort_perm l leR).trans (foldr_perm l).symm)
end OK
/-! ### in a handler: a comprehension over a text -/
namespace OK
open PySem PySem.Spec PyProof.Rows L2 L2H HotX
theorem ascii_end_hot {prog : Program} {w : World} {A : Around} {E : Value → Shared → Prop} {s : Shared} {it x1 : Addr} {x : Str} {t : Tok} {i : Nat} {Q : Option Value → Shared → Prop} (hot : HotAt A x1 s.heap) (hit : s.heap.IsStrIter it "str_ascii_iterator" x t i) (hne : x1 ≠ it)
    (hx : x.cps[i]? = none) (hQ : ∀ h', Heap.ExtBut it s.heap h' → Q none { s with heap := h' }) : wpAny (model prog w) A (pyNext (.ref it)) Q E s := by
  obtain ⟨hh, o1, vs1, h1, d1, c1⟩ := hot
  obtain ⟨o, ho, hc, hd⟩ := id hit
  unfold pyNext
  refine wpAny_bind (wpAny_attempt (wpAny_callSpecial?_slot (name := Str.ofString "__next__") hit.typeIs F.slot_str_ascii_iterator_next
    (wpAny_call_entry F.slot_str_ascii_iterator_next hit.typeIs F.entry_str_ascii_iterator_next ?_ (F.args_str_ascii_iterator_next_1 _))))
  show wpAny _ _ (field (.ref it) 0 >>= _) _ _ s
  refine wpAny_bind (wpAny_field ho hd (x := .str x t) rfl ?_)
  show wpAny _ _ (field (.ref it) 1 >>= _) _ _ s
  refine wpAny_bind (wpAny_field ho hd (x := .int i 0) rfl ?_)
  simp only [Int.toNat_natCast, hx]
  refine wpAny_bind (wpAny_rule (wpAny_bind (wpAny_setField ho hd (by simp) (wpAny_bind (wpAny_letGo ?_)))))
  show wpAny _ _ (newExc (.type "StopIteration") [] >>= _) _ _ _
  refine wpAny_bind ?_
  simp only [newExc, newTuple]
  refine wpAny_bind (wpAny_newObj_type ?_ (by size_fits))
  refine wpAny_bind (m := firstArgMember _ _) (wpAny_of_eq (a := Value.none) (by first | rfl | (simp only [firstArgMember]; rfl)) ?_)
  refine wpAny_newObj_type ?_ (by size_fits)
  generalize hh1 : s.heap.update it _ = hA
  have old : ∀ b o, b ≠ it → s.heap.get? b = some o → ∀ o1 o2, ((hA.push o1).push o2).get? b = some o := fun b o nb e o1 o2 => Heap.get?_push_of_some _ (Heap.get?_push_of_some _ (by rw [← hh1]; exact (Heap.get?_update_other _ _ (Ne.symm nb)).trans e))
  have lt1 : ∀ (o1 : Obj), x1 < (hA.push o1).objs.size := fun o1 => Heap.lt_size (Heap.get?_push_of_some _ (by rw [← hh1]; exact (Heap.get?_update_other _ _ (Ne.symm hne)).trans h1))
  refine raiseNew_hot ⟨hh, _, vs1, old x1 _ hne h1 _ _, d1, c1⟩ (Nat.ne_of_lt (lt1 _)) (Heap.get?_push_size _ rfl) rfl (by first | (simp; done) | (simp; omega) | (simp only [Array.size_append]; simp; omega)) ?_
  refine wpAny_bind (wpAny_isInstance (T := "StopIteration") (b := true) ⟨_, Heap.get?_update_self _ (Heap.get?_push_size _ rfl) rfl, rfl⟩ isSubtype_stop ?_)
  refine wpAny_pure (hQ _ fun b o nb e => ?_)
  have lt2 : ∀ (o1 : Obj), b < (hA.push o1).objs.size := fun o1 => Heap.lt_size (Heap.get?_push_of_some _ (by rw [← hh1]; exact (Heap.get?_update_other _ _ (Ne.symm nb)).trans e))
  rw [Heap.get?_update_other _ _ (Nat.ne_of_gt (lt2 _))]
  exact old b o nb e _ _
theorem wide_end_hot {prog : Program} {w : World} {A : Around} {E : Value → Shared → Prop} {s : Shared} {it x1 : Addr} {x : Str} {t : Tok} {i : Nat} {Q : Option Value → Shared → Prop} (hot : HotAt A x1 s.heap) (hit : s.heap.IsStrIter it "str_iterator" x t i) (hne : x1 ≠ it)
    (hx : x.cps[i]? = none) (hQ : ∀ h', Heap.ExtBut it s.heap h' → Q none { s with heap := h' }) : wpAny (model prog w) A (pyNext (.ref it)) Q E s := by
  obtain ⟨hh, o1, vs1, h1, d1, c1⟩ := hot
  obtain ⟨o, ho, hc, hd⟩ := id hit
  unfold pyNext
  refine wpAny_bind (wpAny_attempt (wpAny_callSpecial?_slot (name := Str.ofString "__next__") hit.typeIs F.slot_str_iterator_next
    (wpAny_call_entry F.slot_str_iterator_next hit.typeIs F.entry_str_iterator_next ?_ (F.args_str_iterator_next_1 _))))
  show wpAny _ _ (field (.ref it) 0 >>= _) _ _ s
  refine wpAny_bind (wpAny_field ho hd (x := .str x t) rfl ?_)
  show wpAny _ _ (field (.ref it) 1 >>= _) _ _ s
  refine wpAny_bind (wpAny_field ho hd (x := .int i 0) rfl ?_)
  simp only [Int.toNat_natCast, hx]
  refine wpAny_bind (wpAny_rule (wpAny_bind (wpAny_setField ho hd (by simp) (wpAny_bind (wpAny_letGo ?_)))))
  show wpAny _ _ (newExc (.type "StopIteration") [] >>= _) _ _ _
  refine wpAny_bind ?_
  simp only [newExc, newTuple]
  refine wpAny_bind (wpAny_newObj_type ?_ (by size_fits))
  refine wpAny_bind (m := firstArgMember _ _) (wpAny_of_eq (a := Value.none) (by first | rfl | (simp only [firstArgMember]; rfl)) ?_)
  refine wpAny_newObj_type ?_ (by size_fits)
  generalize hh1 : s.heap.update it _ = hA
  have old : ∀ b o, b ≠ it → s.heap.get? b = some o → ∀ o1 o2, ((hA.push o1).push o2).get? b = some o := fun b o nb e o1 o2 => Heap.get?_push_of_some _ (Heap.get?_push_of_some _ (by rw [← hh1]; exact (Heap.get?_update_other _ _ (Ne.symm nb)).trans e))
  have lt1 : ∀ (o1 : Obj), x1 < (hA.push o1).objs.size := fun o1 => Heap.lt_size (Heap.get?_push_of_some _ (by rw [← hh1]; exact (Heap.get?_update_other _ _ (Ne.symm hne)).trans h1))
  refine raiseNew_hot ⟨hh, _, vs1, old x1 _ hne h1 _ _, d1, c1⟩ (Nat.ne_of_lt (lt1 _)) (Heap.get?_push_size _ rfl) rfl (by first | (simp; done) | (simp; omega) | (simp only [Array.size_append]; simp; omega)) ?_
  refine wpAny_bind (wpAny_isInstance (T := "StopIteration") (b := true) ⟨_, Heap.get?_update_self _ (Heap.get?_push_size _ rfl) rfl, rfl⟩ isSubtype_stop ?_)
  refine wpAny_pure (hQ _ fun b o nb e => ?_)
  have lt2 : ∀ (o1 : Obj), b < (hA.push o1).objs.size := fun o1 => Heap.lt_size (Heap.get?_push_of_some _ (by rw [← hh1]; exact (Heap.get?_update_other _ _ (Ne.symm nb)).trans e))
  rw [Heap.get?_update_other _ _ (Nat.ne_of_gt (lt2 _))]
  exact old b o nb e _ _
/-- the two kinds of a text's iterator -/
def TyS (ty : String) : Prop := ty = "str_ascii_iterator" ∨ ty = "str_iterator"
section
variable {prog : Program} {w : World} {A : Around} {E : Value → Shared → Prop} {s : Shared} {it : Addr} {x : Str} {t : Tok} {ty : String}
theorem str_iter (x : Str) : ∃ ty, TyS ty ∧ ∀ {prog : Program} {w : World} {A : Around} {E : Value → Shared → Prop} {s : Shared} {t : Tok} {Q : Value → Shared → Prop}, Q (.ref s.heap.objs.size) { s with heap := s.heap.push { cls := .type ty, data := .fields #[.str x t, .int 0 0] } } → wpAny (model prog w) A (pyIter (.str x t)) Q E s := by
  cases ha : x.cps.all (· < 128) with
  | true => exact ⟨"str_ascii_iterator", .inl rfl, fun q => wpAny_pyIter_ascii ha q⟩
  | false => exact ⟨"str_iterator", .inr rfl, fun q => wpAny_pyIter_wide ha q⟩
theorem str_end_hot (hty : TyS ty) {x1 : Addr} {i : Nat} {Q : Option Value → Shared → Prop} (hot : HotAt A x1 s.heap) (hit : s.heap.IsStrIter it ty x t i) (hne : x1 ≠ it) (hx : x.cps[i]? = none) (hQ : ∀ h', Heap.ExtBut it s.heap h' → Q none { s with heap := h' }) :
    wpAny (model prog w) A (pyNext (.ref it)) Q E s := by
  rcases hty with e | e
  · rw [e] at hit
    exact ascii_end_hot hot hit hne hx hQ
  · rw [e] at hit
    exact wide_end_hot hot hit hne hx hQ
theorem str_item (hty : TyS ty) {i c : Nat} {Q : Option Value → Shared → Prop} (hit : s.heap.IsStrIter it ty x t i) (hx : x.cps[i]? = some c)
    (hQ : ∀ h', h'.IsStrIter it ty x t (i + 1) → Heap.ExtBut it s.heap h' → Q (some (.str ⟨#[c]⟩ s.toks)) { s with heap := h', toks := s.toks + 1 }) : wpAny (model prog w) A (pyNext (.ref it)) Q E s := by
  rcases hty with e | e
  · subst e
    exact wpAny_pyNext_ascii_item hit hx fun h' a b => hQ h' a b.extBut
  · subst e
    exact wpAny_pyNext_wide_item hit hx fun h' a b => hQ h' a b.extBut
theorem str_self (hty : TyS ty) {i : Nat} {Q : Value → Shared → Prop} (hit : s.heap.IsStrIter it ty x t i) (h : Q (.ref it) s) : wpAny (model prog w) A (pyIter (.ref it)) Q E s := by
  rcases hty with e | e
  · subst e
    exact wpAny_pyIter_striter_ascii hit h
  · subst e
    exact wpAny_pyIter_striter_wide hit h
theorem str_plain (hty : TyS ty) : ["enumerate", "zip", "dict_itemiterator", "dict_reverseitemiterator", "odict_iterator", "itertools.zip_longest", "itertools.pairwise"].contains ty = false := by
  rcases hty with e | e
  · subst e
    decide
  · subst e
    decide
end
end OK
namespace OK
open PySem PySem.Spec PyProof.Rows L2 L2H HotX
/-- a text as what is walked over -/
def iStrA (te : TE) : TI := fun σ H R => te σ H fun v H1 => ∃ x, v = .str x ∧ R (Its x) H1
theorem pe_lcH {X : Cx} {elt tg iter : Expr} {scope : Scope} {own : List (Str × Nat)} {pos : Pos} {te0 te : TE} {g : TG} (hot : HotC X) (hN : X.N.Nodup) (he0 : PE X iter te0) (ok : BlkOk X.N X.env.scope scope own)
    (hg : ∀ (s : Shared) (H : Hp) (C : Addr) (cl : List (Str × Addr)) (fp : List Addr), PG (X.blk s H scope (compEnvC scope cl C X.env) fp) tg g) (he : ∀ (s : Shared) (H : Hp) (C : Addr) (cl : List (Str × Addr)) (fp : List Addr), PE (X.blk s H scope (compEnvC scope cl C X.env) fp) elt te)
    (hs : ∀ x, foldedSetIterable iter X.env x = pure x := by intro _; rfl) : PE X (.ListComp elt [⟨tg, iter, [], 0⟩] scope pos) (tLc (iStrA te0) g tYes te (own.map (·.2))) := by
  refine ⟨fun pins s σ H Q I h => ?_⟩
  rw [eval_ListComp]
  have hfree : ∀ y ∈ scope.names, y.2 = .free → ∃ c, X.env.cells.lookup y.1 = some c := fun y hy e => by
    rcases ok.free y hy e with k | k
    · exact I.ok.has _ (.inl k)
    · exact I.ok.has _ (.inr k)
  obtain ⟨px, ⟨hh, pvs, pd, pc⟩, hpx⟩ := hot
  refine wpAny_comprehension_free (use := none) rfl hs (closure_ok hfree) ok.kind (fun y hy e => by rw [ok.uniq y hy, e]) (thn (he0.run pins s σ H _ I h) fun xv s1 hx => ?_)
  obtain ⟨v, H2, I1, r1, x, rfl, q⟩ := hx
  obtain ⟨t, rfl⟩ := r1
  obtain ⟨ty, hty, rule⟩ := str_iter x
  refine rule ?_
  -- the iterator, the new list, the block
  generalize hit : s1.heap.objs.size = it
  generalize hs2 : ({ s1 with heap := s1.heap.push { cls := .type ty, data := .fields #[.str x t, .int 0 0] } } : Shared) = s2
  have h2 : s2.heap = s1.heap.push { cls := .type ty, data := .fields #[.str x t, .int 0 0] } := by rw [← hs2]
  have I2 : Inv X pins σ H2 s2 := by
    rw [← hs2]
    exact I1.kept (t' := s1.toks) fun b o e => Heap.get?_push_of_some _ e
  have st2 : s2.heap.IsStrIter it ty x t 0 := by
    rw [h2, ← hit]
    exact ⟨_, Heap.get?_push_size _ rfl, rfl, rfl⟩
  have f2 : FpOk X pins H2 it := by
    rw [← hit]
    exact I1.fpOk (Nat.le_refl _) (I1.hok.fresh (Nat.le_refl _))
  refine wpAny_newObj_type (newEnv_comp ?_) (by show 0 ≤ sizeLine; decide)
  generalize hD : s2.heap.objs.size = D
  have hDn : H2 D = none := I2.hok.fresh (Nat.le_of_eq hD)
  obtain ⟨W, ⟨m0, w0⟩, turn⟩ := q D hDn
  generalize hs3 : ({ s2 with heap := s2.heap.push { cls := .type "list", data := .seq ([] : List Value).toArray } } : Shared) = s3
  have h3 : s3.heap = s2.heap.push { cls := .type "list", data := .seq ([] : List Value).toArray } := by rw [← hs3]
  have I3 : Inv X pins σ (upd H2 D (.lst [])) s3 := by
    rw [← hs3]
    refine I2.laid (t' := s2.toks) (fun b o e => Heap.get?_push_of_some _ e) (Nat.le_of_eq hD) ⟨Nat.zero_le _, [], 0, .nil, ?_⟩
    rw [← hD]
    exact Heap.get?_push_size _ rfl
  have lt2 : it < s2.heap.objs.size := by
    obtain ⟨o, e, _⟩ := st2
    exact Heap.lt_size e
  have nD : it ≠ D := by rw [← hD]; exact Nat.ne_of_lt lt2
  have f3 : ∀ b ∈ [it], FpOk X pins (upd H2 D (.lst [])) b ∧ b < s3.heap.objs.size := fun b hb => by
    have e : b = it := by simpa using hb
    subst e
    exact ⟨⟨(upd_ne nD).trans f2.1, f2.2⟩, by rw [h3, Heap.size_push]; exact Nat.lt_succ_of_lt lt2⟩
  have st3 : s3.heap.IsStrIter it ty x t 0 := by
    obtain ⟨o, e, r⟩ := st2
    exact ⟨o, by rw [h3]; exact Heap.get?_push_of_some _ e, r⟩
  have I4 := block_start I3 ok hN f3
  have pg := hg s3 (upd H2 D (.lst [])) s3.heap.objs.size (cellsFrom (s3.heap.objs.size + 1) scope.names (cloFrom X.env.cells scope.names [])) [it]
  have pe := he s3 (upd H2 D (.lst [])) s3.heap.objs.size (cellsFrom (s3.heap.objs.size + 1) scope.names (cloFrom X.env.cells scope.names [])) [it]
  show codeAny _ _ (.compStart (.ListComp elt [⟨tg, iter, [], 0⟩] scope pos) 0 (.ref it) (.ref D) (compEnvC scope (cellsFrom (s3.heap.objs.size + 1) scope.names (cloFrom X.env.cells scope.names [])) s3.heap.objs.size X.env)) _ { s3 with heap := pushCells (s3.heap.push { cls := .type "dict", data := .dict #[] }) scope.names }
  have nfp : (upd H2 D (.lst [])) it = none := (f3 it (by simp)).1.1
  generalize hce : compEnvC scope (cellsFrom (s3.heap.objs.size + 1) scope.names (cloFrom X.env.cells scope.names [])) s3.heap.objs.size X.env = ce at I4 pg pe ⊢
  have cL : ce.locals = s3.heap.objs.size := by subst hce; rfl
  generalize hH3 : upd H2 D (.lst []) = H3 at I3 I4 pg pe w0 nfp f3
  generalize hs4 : ({ s3 with heap := pushCells (s3.heap.push { cls := .type "dict", data := .dict #[] }) scope.names } : Shared) = s4 at I4 ⊢
  have st4 : s4.heap.IsStrIter it ty x t 0 := by
    obtain ⟨o, e, r⟩ := st3
    exact ⟨o, by rw [← hs4]; exact pushCells_keeps _ _ _ _ (Heap.get?_push_of_some _ e), r⟩
  -- the handled exception stands throughout the block
  obtain ⟨x1g, x1n, x1l, x1f, _⟩ := I3.pin px (List.mem_append_left _ hpx)
  have x1it : px.1 ≠ it := (f3 it (by simp)).1.2.2.2.2.2 px (List.mem_append_left _ hpx)
  have stat : ∀ {σ' : L2.St} {H' : Hp} {s' : Shared}, Inv (X.blk s3 H3 scope ce [it]) [] σ' H' s' → H' it = none → FpOk (X.blk s3 H3 scope ce [it]) [] H' it := fun {σ' H' s'} I' hn =>
    ⟨hn, (I'.ok.exf it (by simp)).1, I'.ok.exfs it (by simp), .inl (by simp), fun x c e => (I'.ok.exf it (by simp)).2 x c e, fun p hp => absurd (show p ∈ ([] : List (Addr × Obj)) ++ [] from hp) (by simp)⟩
  have hotAt : ∀ {σ' : L2.St} {H' : Hp} {s' : Shared}, Inv (X.blk s3 H3 scope ce [it]) [] σ' H' s' → HotAt X.A px.1 s'.heap := fun {σ' H' s'} I' =>
    ⟨hh, px.2, pvs, I'.base.keep px.1 px.2 x1g x1n (by
      show px.1 ∉ frs X.stack
      intro hm
      rcases List.mem_cons.mp (I3.stkSub _ hm) with q | q
      · exact x1l q
      · exact x1f q) (by simpa using x1it), pd, pc⟩
  have loop : codeAny (model X.prog X.w) X.A (.compLoop (.ListComp elt [⟨tg, iter, [], 0⟩] scope pos) 0 (.ref it) (.ref D) ce) (compPost (model X.prog X.w) X.A X.xe none (EP X pins σ Q) (.ref D) s3.heap.objs.size) s4 := by
    refine compLoop_any (fun n s' => ∃ i H', Inv (X.blk s3 H3 scope ce [it]) [] (wipe σ (own.map (·.2))) H' s' ∧ s'.heap.IsStrIter it ty x t i ∧ H' it = none ∧ W i n H') ?_ m0 ⟨0, H3, I4, st4, nfp, w0⟩
    rintro n s5 ⟨i, H5, I5, st5, n5, w5⟩
    have f5 := stat I5 n5
    obtain ⟨q0, q1, q2, q3, q4, q5⟩ := f5
    rcases turn i n H5 w5 with ⟨stop, qq⟩ | ⟨go, Nx, hNx, step⟩
    · have hx : x.cps[i]? = none := Array.getElem?_eq_none stop
      refine str_end_hot hty (hotAt I5) st5 x1it hx fun h' eb => ?_
      have I6 : Inv (X.blk s3 H3 scope ce [it]) [] (wipe σ (own.map (·.2))) H5 { s5 with heap := h' } := I5.turned (t' := s5.toks) (fun b o hb e => eb b o hb e) q0 q1 q3 q4 q5
      have I7 : Inv X pins σ H5 { s5 with heap := h' } := I3.call' (ch := [it]) I6.os I6.base I6.hok I6.bare fun b hb => ⟨(f3 b hb).1.2.2.2.1, (f3 b hb).1.2.1, (f3 b hb).1.2.2.2.2.1, (f3 b hb).1.2.2.2.2.2⟩
      have nC : H5 s3.heap.objs.size = none := by
        have z : H5 ce.locals = none := I6.free
        rw [cL] at z
        exact z
      obtain ⟨m, hn, _⟩ := I6.loc
      have hn : h'.Ns ce.locals m := hn
      rw [cL] at hn
      obtain ⟨f0, f1, f2', f3', f4, f5⟩ := I3.fpOk (Nat.le_refl _) nC
      refine ⟨m, hn, fun h'' sb => ?_⟩
      exact ⟨.ref D, H5, I7.turned (t' := s5.toks) (fun b o hb e => (sb.2 b hb).trans e) f0 f1 f3' f4 f5, rfl, qq⟩
    · have hi : i < x.cps.size := go
      have hci : x.cps[i]? = some x.cps[i] := Array.getElem?_eq_getElem hi
      refine str_item hty st5 (c := x.cps[i]) hci fun h' st7 hs' => ?_
      have I7 : Inv (X.blk s3 H3 scope ce [it]) [] (wipe σ (own.map (·.2))) H5 { s5 with heap := h', toks := s5.toks + 1 } := I5.turned (fun b o hb e => hs' b o hb e) q0 q1 q3 q4 q5
      obtain ⟨oi, e1, e2, e3⟩ := id st7
      refine go_of (s := { s5 with heap := h', toks := s5.toks + 1 }) (n := ty) e1 e2 e3 (str_plain hty) ?_
      have obj : ∀ b ∈ [it], ∃ o, h'.get? b = some o ∧ ∀ v, o.data ≠ .cell v := fun b hb => by
        have e : b = it := by simpa using hb
        subst e
        exact ⟨oi, e1, fun v z => by rw [e3] at z; cases z⟩
      have I7' := I7.pinned (fp := [it]) (fun b hb => by
        have e : b = it := by simpa using hb
        subst e
        exact stat I7 n5) obj
      refine thnF (pg.run _ { s5 with heap := h', toks := s5.toks + 1 } _ H5 (.str ⟨#[x.cps[i]]⟩) _ _ I7' ⟨_, rfl⟩ (step (.str ⟨#[x.cps[i]]⟩) H5 ⟨rfl, x.cps[i], hci, rfl⟩)) fun _ s8 ⟨σ8, H8, I8, hw8, q8⟩ => ?_
      refine thnF ((pts_nil (X := X.blk s3 H3 scope ce [it])).run _ s8 σ8 H8 _ I8 q8) fun b s9 ⟨H9, I9, q9⟩ => ?_
      have fin : ∀ {s' : Shared} {H' : Hp}, Inv (X.blk s3 H3 scope ce [it]) ([] ++ pinsAt [it] h') σ8 H' s' → Nx H' → ∃ m, m < n ∧ ∃ i H', Inv (X.blk s3 H3 scope ce [it]) [] (wipe σ (own.map (·.2))) H' s' ∧ s'.heap.IsStrIter it ty x t i ∧ H' it = none ∧ W i m H' := fun {s' H'} I' nx => by
        obtain ⟨m', hm, w'⟩ := hNx H' nx
        obtain ⟨z1, z2, _⟩ := I'.pin (it, oi) (List.mem_append_right _ (List.mem_append_right _ (mem_pinsAt (by simp) e1)))
        have hl : (wipe σ (own.map (·.2))).length = σ8.length := by rw [← hw8, wipe_length]
        refine ⟨m', hm, i + 1, H', (I'.unpinned (pins := [])).weak hl (fun j v e => ?_), ⟨oi, z1, e2, e3⟩, z2, w'⟩
        rw [← hw8] at e
        exact (wipe_some e).1
      cases b with
      | false =>
        simp only [Bool.false_eq_true, if_false] at q9 ⊢
        exact fin I9 q9
      | true =>
        simp only [if_true] at q9 ⊢
        refine thnF (pe.run _ s9 σ8 H9 _ I9 q9) fun z s10 ⟨yv, H10, I10, r10, acc, hD10, hz10, nx⟩ => ?_
        exact app_ok (X := X.blk s3 H3 scope ce [it]) I10 hD10 hz10 r10 fun s11 I11 => fin I11 nx
  exact codeAny_compStart_list loop (str_self hty st4 loop)
end OK
namespace OK
open PySem PySem.Spec PyProof.Rows L2 L2H HotX
structure CaH (P : Program) (w : World) (K : PySem.W.Frag) (mg : Str → Option Value) (base : Heap) (k : Nat) (x : Str) (sp : Sp) : Prop where
  ex : ∃ (f : Addr) (fd : FuncData) (ps : List Str), FnH P w K mg base (CXm P w) k f fd ps sp ∧ mg x = some (.ref f) ∧ PySem.W.keepIn K (.ref f) = true ∧ Binds K fd ps []
section
variable {P : Program} {w : World} {K : PySem.W.Frag} {mg : Str → Option Value} {base : Heap}
theorem cah_mk {x : Str} {st : Stmt} {N ps : List Str} {k : Nat} {sp : Sp} (F : Df K mg x st ps) (S : FnScope N ps (defScope st)) (len : ∀ vs H Q E, sp vs H Q E → vs.length = ps.length)
    (hbody : ∀ (f : Addr) (cdv : Value) (A : Around) (outer : List Env) (s : Shared) (H : Hp) (vs : List V) (Q : VK) (E : XK) (p : Addr × Obj), HotC (cxH (CXm P w) P w K mg base N x (defScope st) f cdv A outer s H E p) → RoomH k (A.deeper (envOfC x (defScope st) s.heap.objs.size f cdv)) → sp vs H Q E →
      ∃ t, PSs (cxH (CXm P w) P w K mg base N x (defScope st) f cdv A outer s H E p) (defBody st) t ∧ t { nx := fun _ H' => Q .non H', rt := Q } (start N vs) H) : CaH P w K mg base (k + 1) x sp := by
  obtain ⟨f, fd, ⟨⟨oc, od, kV, doc, pm, an, cdv, ct, osl, rfl, lk, hcd⟩, kp⟩, hm, hb⟩ := F.ex
  exact ⟨f, _, ps, fn_ofH lk hcd S len fun A outer s H vs Q E p hot hr hsp => hbody f cdv A outer s H vs Q E p ⟨p, hot, List.mem_singleton.mpr rfl⟩ hr hsp, hm, kp, hb⟩
end
def tCaH (sp : Sp) (t : TA) : TE := fun σ H Q => t σ H fun vs H1 => sp vs H1 Q EF
theorem x_caH {sp : Sp} {t : TA} {σ : L2.St} {H : Hp} {Q : VK} (q : t σ H fun vs H1 => sp vs H1 Q EF) : tCaH sp t σ H Q := q
theorem FnH.mono' {P : Program} {w : World} {K : PySem.W.Frag} {mg : Str → Option Value} {base : Heap} {CX : CXT} {j k : Nat} {f : Addr} {fd : FuncData} {ps : List Str} {sp : Sp} (F : FnH P w K mg base CX j f fd ps sp) (h : j ≤ k) : FnH P w K mg base CX k f fd ps sp :=
  ⟨F.len, fun A outer s H args us vs Q E p hr => F.run A outer s H args us vs Q E p (hr.mono h)⟩
theorem pe_caH {X : Cx} {k j : Nat} {x : Str} {sp : Sp} {p pos : Pos} {e : Expr} {es : List Expr} {t : TA} (c : CaH X.prog X.w X.K X.mg X.base k x sp) (hot : HotC X) (hr : RoomH j X.A) (hk : k ≤ j) (ha : PA X (e :: es) t) (hg : Gl X x := by rfl)
    (hdb : (x == ("__debug__" : Str)) = false := by decide) (he : starEach (e :: es) X.env = (false, eval e X.env) :: starEach es X.env := by rfl) (hpl : (backTo pos (starEach es X.env)).any (·.1) = false := by rfl) :
    PE X (.Call (.Name x p) (e :: es) [] pos) (tCaH sp t) := by
  obtain ⟨f, fd, ps, F, hm, hkp, hb⟩ := c.ex
  exact pe_callH (q := p) (E := fun _ => EF) F (hr.mono hk) hot hg hm hkp hb passNA ha hdb he hpl
theorem rzpH {P : Program} {w : World} {K : PySem.W.Frag} {mg : Str → Option Value} {base : Heap} {N : List Str} {qual : Str} {scope : Scope} {f : Addr} {cd : Value} {A : Around} {outer : List Env} {s : Shared} {H : Hp} {E : XK} {p : Addr × Obj} :
    PassesOwn (model P w) (A.deeper (envOfC qual scope s.heap.objs.size f cd)) (envOfC qual scope s.heap.objs.size f cd) (cxH (CXm P w) P w K mg base N qual scope f cd A outer s H E p).xe := PassesOwn.leaving
theorem x_istrA {te : TE} {σ : L2.St} {H : Hp} {R : It → Hp → Prop} (q : te σ H fun v H1 => ∃ x, v = .str x ∧ R (Its x) H1) : iStrA te σ H R := q
end OK
/-! ### the desk: a call of a local that holds a def, within a try -/
namespace OK
open PySem PySem.Spec PyProof.Rows L2
structure HeldM (P : Program) (w : World) (K : PySem.W.Frag) (mg : Str → Option Value) (base : Heap) (k : Nat) (f : Addr) (sp : Sp) : Prop where
  ex : ∃ (fd : FuncData) (ps : List Str), FnOk P w K mg base (CXm P w) k f fd ps sp ∧ PySem.W.keepIn K (.ref f) = true ∧ Binds K fd ps []
theorem Ca.held {P : Program} {w : World} {K : PySem.W.Frag} {mg : Str → Option Value} {base : Heap} {k j : Nat} {x : Str} {sp : Sp} {f : Addr} (c : Ca P w K mg base j x sp) (h : mg x = some (.ref f)) (hk : j ≤ k) : HeldM P w K mg base k f sp := by
  obtain ⟨f', fd, ps, F, hm, hkp, hb⟩ := c.ex
  rw [h] at hm
  cases hm
  exact ⟨fd, ps, F.mono hk, hkp, hb⟩
/-- the i-th slot holds a def of those that S names -/
def tCallM (i : Nat) (S : Addr → Sp → Prop) (E : L2.St → XK) (t : TA) : TE := fun σ H Q => ∃ f sp, σ[i]? = some (some (.ref f)) ∧ S f sp ∧ t σ H fun vs H1 => sp vs H1 Q (E σ)
theorem pe_callM {X : Cx} {k i : Nat} {x : Str} {p pos : Pos} {e : Expr} {es : List Expr} {t : TA} {S : Addr → Sp → Prop} {E : L2.St → XK} (A : ∀ f sp, S f sp → HeldM X.prog X.w X.K X.mg X.base k f sp) (hr : Room k X.A) (hN : X.N[i]? = some x) (hv : Vis X.env.scope x) (hx : ∀ σ, PassesAt (CXm X.prog X.w) X σ (E σ)) (ha : PA X (e :: es) t)
    (hdb : (x == ("__debug__" : Str)) = false := by decide) (hcd : (x == ("__classdict__" : Str)) = false := by decide)
    (he : starEach (e :: es) X.env = (false, eval e X.env) :: starEach es X.env := by rfl) (hpl : (backTo pos (starEach es X.env)).any (·.1) = false := by rfl) : PE X (.Call (.Name x p) (e :: es) [] pos) (tCallM i S E t) := by
  refine ⟨fun pins s σ H Q I h => ?_⟩
  obtain ⟨f, sp, hs, hS, ht⟩ := h
  obtain ⟨fd, ps, F, hk, hb⟩ := (A f sp hS).ex
  refine wpAny_Call_Name_kw (thn ((pe_var (pos := p) hN hv hdb hcd).run pins s σ H (fun v H1 => v = .ref f ∧ H1 = H) I ⟨.ref f, hs, rfl, rfl⟩) fun u s1 ⟨v, H1, I1, r1, q1⟩ => ?_)
  obtain ⟨rfl, rfl⟩ := q1
  cases r1
  refine PySem.W.callWith_K (h₀ := X.base) I.ok.mod.kin hk (thn (ha.run pos pins s1 σ _ _ I1 ht) fun us s2 ⟨vs, H2, I2, r, q⟩ => ⟨I2.kIn, ?_⟩) he hpl
  exact run_fnSD (E := E) (dvs := []) (ds := []) F hr hb .nil (hx σ) I2 r (by rw [List.append_nil]; exact q)
theorem x_callM {i : Nat} {S : Addr → Sp → Prop} {E : L2.St → XK} {t : TA} {σ : L2.St} {H : Hp} {Q : VK} {f : Addr} {sp : Sp} (h : σ[i]? = some (some (.ref f))) (hS : S f sp) (q : t σ H fun vs H1 => sp vs H1 Q (E σ)) : tCallM i S E t σ H Q := ⟨f, sp, h, hS, q⟩
/-- what the desk wants of the two classes -/
structure Gx (K : PySem.W.Frag) (z : Ads) : Prop where
  ww : PySem.W.exmOne K (.ref z.cW) (.ref z.cW) = some true
  ow : PySem.W.exmOne K (.ref z.cO) (.ref z.cW) = some false
  oo : PySem.W.exmOne K (.ref z.cO) (.ref z.cO) = some true
  sw : PySem.W.findIn K (.ref z.cW) "__str__" = some (some (.builtin "BaseException.__str__"))
  so : PySem.W.findIn K (.ref z.cO) "__str__" = some (some (.builtin "BaseException.__str__"))
end OK
/-! ### a session: the flat list and the world (plain law) -/
namespace OK
open PySem
/-- the rows of a flat list of calls -/
inductive Fl : List Int → List (List Int) → Prop
  | nil : Fl [] []
  | cons {row rest : List Int} {cs : List (List Int)} (h : Fl rest cs) : Fl (0 :: (row.length : Int) :: (row ++ rest)) (row :: cs)
theorem shape_some {p : Int} {n k : Nat} (h : PyZr09.shape p = some (n, k)) : p = 0 ∧ n = 0 ∧ k = 1 := by
  unfold PyZr09.shape at h
  split at h
  · cases h
    exact ⟨by assumption, rfl, rfl⟩
  · cases h
theorem row_some {l x s : List Int} (h : PyFlat.row l = some (x, s)) : l = (x.length : Int) :: (x ++ s) := by
  cases l with
  | nil => cases h
  | cons n r =>
    unfold PyFlat.row at h
    dsimp only at h
    split at h
    · rename_i hc
      cases h
      rw [List.length_take, Nat.min_eq_left hc.2, List.take_append_drop]
      congr 1
      omega
    · cases h
theorem call_some {l : List Int} {c : List (List Int)} {t : List Int} (h : PyFlat.call PyZr09.shape l = some (c, t)) : ∃ x : List Int, l = 0 :: (x.length : Int) :: (x ++ t) ∧ c = [[0], x] := by
  cases l with
  | nil => cases h
  | cons p r =>
    unfold PyFlat.call at h
    dsimp only at h
    split at h
    · cases h
    · rename_i n k hs
      obtain ⟨rfl, rfl, rfl⟩ := shape_some hs
      split at h
      · cases h
      · split at h
        · cases h
        · rename_i xs t' hr
          cases h
          unfold PyFlat.rows at hr
          split at hr
          · cases hr
          · rename_i x s hrow
            split at hr
            · cases hr
            · rename_i ys t2 hr2
              cases hr
              cases hr2
              have e := row_some hrow
              rw [List.drop_zero] at e
              exact ⟨x, by rw [e], rfl⟩
theorem calls_some : ∀ (f : Nat) {l : List Int} {cs : List (List (List Int))}, PyFlat.calls PyZr09.shape f l = some cs → ∃ rows, Fl l rows ∧ cs = rows.map fun r => [[0], r]
  | f, [], cs, h => by
    have h' : some [] = some cs := by cases f <;> exact h
    cases h'
    exact ⟨[], .nil, rfl⟩
  | 0, _ :: _, _, h => by cases h
  | f + 1, p :: r, cs, h => by
    unfold PyFlat.calls at h
    split at h
    · cases h
    · rename_i c t hc
      split at h
      · cases h
      · rename_i cs' hcs
        cases h
        obtain ⟨rows, h1, h2⟩ := calls_some f hcs
        obtain ⟨x, e, hx⟩ := call_some hc
        rw [e, hx, h2]
        exact ⟨x :: rows, .cons h1, rfl⟩
theorem pcalls_some {l : List Int} {cs : List (List (List Int))} (h : PyZr09.calls l = some cs) : ∃ rows, Fl l rows ∧ cs = rows.map fun r => [r] := by
  unfold PyZr09.calls at h
  split at h
  · cases h
  · rename_i cs' hc
    cases h
    obtain ⟨rows, h1, rfl⟩ := calls_some _ hc
    refine ⟨rows, h1, ?_⟩
    rw [List.map_map]
    rfl
/-- the answers of a session from a state -/
def outs : Rust.St → List (List UInt8) → List Int
  | _, [] => []
  | w, b :: r => ((Rust.step w b).2.length : Int) :: (Zr09Neutral.numbersOf (Rust.step w b).2 ++ outs (Rust.step w b).1 r)
theorem told_outs : ∀ (rows : List (List Int)) (w : Rust.St), PyFlat.told (PyFlat.played (fun s c => Zr09Neutral.step s (c.headD [])) w (rows.map fun r => [r])) = outs w (rows.map Zr09Neutral.bytesOf)
  | [], w => rfl
  | x :: rows, w => by
    have ih := told_outs rows (Rust.step w (Zr09Neutral.bytesOf x)).1
    show ((Zr09Neutral.numbersOf (Rust.step w (Zr09Neutral.bytesOf x)).2).length : Int) :: (Zr09Neutral.numbersOf (Rust.step w (Zr09Neutral.bytesOf x)).2 ++ PyFlat.told (PyFlat.played (fun s c => Zr09Neutral.step s (c.headD [])) (Rust.step w (Zr09Neutral.bytesOf x)).1 (rows.map fun r => [r]))) = _
    rw [ih]
    show _ = ((Rust.step w (Zr09Neutral.bytesOf x)).2.length : Int) :: _
    unfold Zr09Neutral.numbersOf
    rw [List.length_map]
/-- what is asked, unpacked -/
theorem asked_rows {ns : List Int} (h : PyZr09.answers_asked ns = true) : ∃ rows, Fl ns rows ∧ PyZr09.answers ns = outs Rust.start (rows.map Zr09Neutral.bytesOf) ∧ rows.length ≤ 200 ∧ (∀ r ∈ rows, NeutralIO.bytes r = true ∧ r.length ≤ 60000) ∧ Rust.goes Rust.start 4000000 (rows.map Zr09Neutral.bytesOf) = true ∧ (PyZr09.answers ns).length ≤ 10000000 := by
  unfold PyZr09.answers_asked at h
  split at h
  · cases h
  · rename_i cs hc
    obtain ⟨rows, hF, rfl⟩ := pcalls_some hc
    have e1 : (rows.map fun r => [r]).map (fun c => c.headD []) = rows := by
      rw [List.map_map]
      exact List.map_id' rows
    rw [e1] at h
    have h1 := Bool.and_eq_true_iff.mp h
    have h2 := Bool.and_eq_true_iff.mp h1.1
    have h3 : rows.length ≤ 200 := by
      have z : decide ((rows.map fun r => [r]).length ≤ 200) = true := h2.1
      have z2 := of_decide_eq_true z
      rwa [List.length_map] at z2
    have h4 : (rows.all Zr09Neutral.asked1 && (decide (1 ≤ rows.length) && Rust.fits (rows.map Zr09Neutral.bytesOf))) = true := h2.2
    have h5 := Bool.and_eq_true_iff.mp h4
    have h6 := (Bool.and_eq_true_iff.mp h5.2).2
    have h7 := Bool.and_eq_true_iff.mp (show (Nat.ble (rows.map Zr09Neutral.bytesOf).length 200 && (rows.map Zr09Neutral.bytesOf).all (fun b => Nat.ble b.length 60000) && Nat.ble (Rust.octetsIn (rows.map Zr09Neutral.bytesOf)) 1000000 && Rust.goes Rust.start 4000000 (rows.map Zr09Neutral.bytesOf)) = true from h6)
    have h8 := Bool.and_eq_true_iff.mp h7.1
    have h9 := Bool.and_eq_true_iff.mp h8.1
    refine ⟨rows, hF, ?_, h3, fun r hr => ⟨?_, ?_⟩, h7.2, of_decide_eq_true h1.2⟩
    · unfold PyZr09.answers
      rw [hc]
      exact told_outs rows _
    · exact List.all_eq_true.mp h5.1 r hr
    · have z := Nat.le_of_ble_eq_true (List.all_eq_true.mp h9.2 _ (List.mem_map_of_mem hr))
      unfold Zr09Neutral.bytesOf at z
      rwa [List.length_map] at z
end OK
section
open OK L2 PySem
local macro_rules | `(tactic| walk_at "sq") => `(tactic| first | assumption | (with_reducible exact SqT.of upd_same) | (with_reducible exact SqL.of upd_same) | (exact Oc.t (by assumption)) | (exact Lf.l (by assumption)) | (exact SqL.of (by assumption)) | (exact SqT.of (by assumption)))
local macro_rules | `(tactic| walk_at "sl") => `(tactic| first | assumption | exact upd_same)
local macro_rules | `(tactic| walk_at "ex") => `(tactic| repeat (first
  | ((with_reducible refine' x_var ?xvh ?_); (case xvh => exact rfl))
  | with_reducible refine x_c ?_
  | with_reducible refine x_op ?_
  | with_reducible refine x_un ?_
  | with_reducible refine x_I0 ?_
  | ((with_reducible refine' x_I ?xc ?_); (case xc => first | exact c_mul _ _ (by omega) | exact c_div _ _ (by omega) (by omega) | exact c_pow _ _ (by decide) | (refine (?_ : (0 : Int) < _); omega)))
  | with_reducible refine x_U ?_
  | with_reducible refine x_eqI ?_
  | with_reducible refine x_neI ?_
  | ((with_reducible refine' x_ixT ?xth ?xte ?_); (case xth => walk_at "sq"); (case xte => exact rfl))
  | ((with_reducible refine' x_ixL ?xth ?xte ?_); (case xth => walk_at "sq"); (case xte => exact rfl))
  | with_reducible refine x_test ?_
  | with_reducible refine x_B ?_
  | with_reducible refine x_bk ?_
  | with_reducible refine x_ik ?_
  | with_reducible refine x_isN ?_
  | with_reducible refine x_notN ?_
  | with_reducible refine x_not ?_
  | with_reducible refine x_and ?_
  | with_reducible refine x_or ?_
  | with_reducible refine x_andV ?_
  | with_reducible refine x_orV ?_
  | with_reducible refine x_notV ?_
  | with_reducible refine x_ifE ?_
  | with_reducible refine x_chain ?_
  | with_reducible refine x_cons ?_
  | with_reducible refine x_nil ?_
  | with_reducible refine x_tup ?_
  | with_reducible refine x_lst ?_
  | with_reducible refine x_ca ?_
  | with_reducible refine x_cb ?_
  | with_reducible refine x_fz ?_
  | with_reducible refine x_fld ?_
  | with_reducible refine x_seq ?_
  | with_reducible refine x_asg ?_
  | with_reducible refine x_name ?_
  | ((with_reducible refine' x_gtup ?xgh ?xgn ?_); (case xgh => walk_at "sq"); (case xgn => exact rfl))
  | with_reducible refine x_gcons ?_
  | with_reducible refine x_gnil ?_
  | with_reducible refine x_gsub ?_
  | with_reducible refine x_ret ?_
  | with_reducible refine x_retN ?_
  | with_reducible refine x_next ?_
  | with_reducible refine x_drop ?_
  | with_reducible refine x_ifS ?_
  | ((with_reducible refine' x_aug ?xvh ?_); (case xvh => exact rfl))
  | with_reducible refine x_ipI ?_
  | ((with_reducible refine' x_lenL ?xlh ?_); (case xlh => walk_at "sq"))
  | ((with_reducible refine' x_lenT ?xlh ?_); (case xlh => walk_at "sq"))
  | ((with_reducible refine' x_tupL ?xlh ?_); (case xlh => walk_at "sq"))
  | ((with_reducible refine' x_lstL ?xlh ?_); (case xlh => walk_at "sq"))
  | ((with_reducible refine' x_lstT ?xlh ?_); (case xlh => walk_at "sq"))
  | with_reducible refine x_bm ?_
  | with_reducible refine x_bm0 ?_
  | ((with_reducible refine' x_ty ?xlh ?_); (case xlh => walk_at "sl"))
  | with_reducible refine x_sl ?_
  | with_reducible refine x_no ?_
  | with_reducible refine x_part ?_
  | ((with_reducible refine' x_slL ?xlh ?_); (case xlh => walk_at "sq"))
  | with_reducible refine x_revL ?_
  | with_reducible refine x_for ?_
  | with_reducible refine x_lc ?_
  | with_reducible refine x_enum ?_
  | with_reducible refine x_istr ?_
  | with_reducible refine x_rng1 ?_
  | with_reducible refine x_rng2 ?_
  | with_reducible refine x_rng3 ?_
  | with_reducible refine x_ckw ?_
  | with_reducible refine x_mk ?_
  | with_reducible refine x_sfld ?_
  | with_reducible refine x_sfa ?_
  | with_reducible refine x_add ?_
  | with_reducible refine x_dg ?_
  | with_reducible refine x_dp ?_
  | with_reducible refine x_dn ?_
  | with_reducible refine x_caH ?_
  | with_reducible refine x_istrA ?_
  | with_reducible refine x_il ?_
  | with_reducible refine x_it ?_
  | with_reducible refine x_js ?_
  | with_reducible refine x_j0 ?_
  | with_reducible refine x_fmt ?_
  | with_reducible refine x_lenSet ?_))
namespace OK
open PySem PySem.Spec PyProof.Rows L2
open R7290f.Spec (numberOf keyOf firstNumber endNumber middleKey keyBetween keysBetween leastDigits isBefore isBetween capacity)
/-! digit_of -/
abbrev s_digit_of : Stmt := top 3
abbrev N_digit_of : List Str := ["octet"]
theorem sc_digit_of : FnScope N_digit_of ["octet"] (defScope s_digit_of) := ⟨rfl, rfl, rfl, by decide +kernel, rfl, by decide +kernel, by decide +kernel⟩
def sp_digit_of (_ : PySem.W.Frag) : Sp := fun vs H Q _ => ∃ o : Int, vs = [.int o] ∧ Q (.int (dg o)) H
section
variable {P : Program} {w : World} {K : PySem.W.Frag} {mg : Str → Option Value} {base : Heap}
theorem ca_digit_of (F : Df K mg "digit_of" s_digit_of ["octet"]) {z : Ads} (T : Gb K mg z)   : Ca P w K mg base 1 "digit_of" (sp_digit_of K) := by
  refine ca_mk F sc_digit_of (fun vs H Q E h => by
    obtain ⟨o, rfl, _⟩ := h
    rfl
    ) (fun f cdv A outer s H vs Q E hr h => ?_)
  refine ⟨_, pss_cons (ps_if (pt_chain op_le op_le pe_int (pv 0) pe_int) (pss_one (ps_ret (pe_op op_sub (pv 0) pe_int))) pss_nil) (pss_cons (ps_if (pt_chain op_le op_le pe_int (pv 0) pe_int) (pss_one (ps_ret (pe_op op_sub (pv 0) pe_int))) pss_nil) (pss_one (ps_ret (pe_un un_neg pe_int)))), ?_⟩
  obtain ⟨o, rfl, q⟩ := h
  unfold dg at q
  walk_at "ex"
  refine ite_d (fun c1 => ?_) (fun c1 => ?_)
  · walk_at "ex"
    refine ite_d (fun c2 => ?_) (fun c2 => ?_)
    · rw [if_pos ⟨c1, c2⟩] at q
      walk_at "ex"
      exact q
    · rw [if_neg (by omega)] at q
      walk_at "ex"
      refine ite_d (fun c3 => ?_) (fun c3 => ?_)
      · walk_at "ex"
        refine ite_d (fun c4 => ?_) (fun c4 => ?_)
        · rw [if_pos ⟨c3, c4⟩] at q
          walk_at "ex"
          exact q
        · rw [if_neg (by omega)] at q
          walk_at "ex"
          exact q
      · rw [if_neg (by omega)] at q
        walk_at "ex"
        refine ite_f Bool.false_ne_true ?_
        walk_at "ex"
        exact q
  · rw [if_neg (by omega), if_neg (by omega)] at q
    walk_at "ex"
    refine ite_f Bool.false_ne_true ?_
    walk_at "ex"
    refine ite_d (fun c3 => absurd c3 (by omega)) (fun c3 => ?_)
    walk_at "ex"
    refine ite_f Bool.false_ne_true ?_
    walk_at "ex"
    exact q
end
/-! octet_of -/
abbrev s_octet_of : Stmt := top 4
abbrev N_octet_of : List Str := ["digit"]
theorem sc_octet_of : FnScope N_octet_of ["digit"] (defScope s_octet_of) := ⟨rfl, rfl, rfl, by decide +kernel, rfl, by decide +kernel, by decide +kernel⟩
def sp_octet_of (_ : PySem.W.Frag) : Sp := fun vs H Q _ => ∃ d : Int, vs = [.int d] ∧ Q (.int (oc d)) H
section
variable {P : Program} {w : World} {K : PySem.W.Frag} {mg : Str → Option Value} {base : Heap}
theorem ca_octet_of (F : Df K mg "octet_of" s_octet_of ["digit"]) {z : Ads} (T : Gb K mg z)   : Ca P w K mg base 1 "octet_of" (sp_octet_of K) := by
  refine ca_mk F sc_octet_of (fun vs H Q E h => by
    obtain ⟨o, rfl, _⟩ := h
    rfl
    ) (fun f cdv A outer s H vs Q E hr h => ?_)
  refine ⟨_, pss_cons (ps_if (pt_cmpR op_lt (pv 0) pe_int (nomark _)) (pss_one (ps_ret (pe_op op_add (pv 0) pe_int))) pss_nil) (pss_one (ps_ret (pe_op op_add (pv 0) pe_int))), ?_⟩
  obtain ⟨d, rfl, q⟩ := h
  unfold oc at q
  walk_at "ex"
  refine ite_d (fun c => ?_) (fun c => ?_)
  · walk_at "ex"
    rw [if_pos c] at q
    exact q
  · walk_at "ex"
    rw [if_neg c] at q
    exact q
end
/-! is_key -/
abbrev s_is_key : Stmt := top 5
abbrev N_is_key : List Str := ["octets", "longest", "octet"]
theorem sc_is_key : FnScope N_is_key ["octets", "longest"] (defScope s_is_key) := ⟨rfl, rfl, rfl, by decide +kernel, rfl, by decide +kernel, by decide +kernel⟩
def sp_is_key (K : PySem.W.Frag) : Sp := fun vs H Q _ => ∃ (a : Addr) (l : List Int) (n : Int), vs = [.ref a, .int n] ∧ SqT K H a (l.map V.int) ∧ Q (.bl (isKeyI l n)) H
section
variable {P : Program} {w : World} {K : PySem.W.Frag} {mg : Str → Option Value} {base : Heap}
theorem ca_is_key (F : Df K mg "is_key" s_is_key ["octets", "longest"]) {z : Ads} (T : Gb K mg z)  (c_digit_of : Ca P w K mg base 1 "digit_of" (sp_digit_of K)) : Ca P w K mg base 2 "is_key" (sp_is_key K) := by
  refine ca_mk F sc_is_key (fun vs H Q E h => by
    obtain ⟨a, l, n, rfl, _⟩ := h
    rfl
    ) (fun f cdv A outer s H vs Q E hr h => ?_)
  refine ⟨_, pss_cons (ps_if (pt_not (pt_chain op_le op_le pe_int (pe_len T.len (pv 0)) (pv 1))) (pss_one (ps_ret pe_bl)) pss_nil) (pss_cons (ps_for rzp rfl (pi_tup (pv 0)) (pg_name (i := 2) sc_is_key.nd rfl (Or.inl rfl)) (pss_one (ps_if (pt_cmpR op_lt (pe_ca c_digit_of hr (by first | decide | omega) passN (pa_cons (pv 2) pa_nil)) pe_int (nomark _)) (pss_one (ps_ret pe_bl)) pss_nil))) (pss_one (ps_ret (pe_cmpR op_ne (pe_ix ix_tup (pv 0) (pe_un un_neg pe_int) (fun _ _ => rfl)) pe_int (nomark _))))), ?_⟩
  obtain ⟨a, l, n, rfl, hl, q⟩ := h
  walk_at "ex"
  rw [len_map]
  refine ite_d (fun c1 => ?_) (fun c1 => ?_)
  · walk_at "ex"
    refine ite_nd (fun c2 => ?_) (fun c2 => ?_)
    · walk_at "ex"
      have e : isKeyI l n = false := by
        unfold isKeyI
        rw [decide_eq_false (by omega), Bool.false_and, Bool.false_and]
      rw [e] at q
      exact q
    · walk_at "ex"
      refine x_ft hl (fun i σ H' => H' = H ∧ ((l.take i).all fun o => decide (0 ≤ dg o)) = true ∧ ∃ o, σ = [some (.ref a), some (.int n), o]) ⟨rfl, rfl, none, rfl⟩ (fun i σ H' _ p => p.1 ▸ hl) (fun i x σ H' hi p => ?_) (fun σ H' p => ?_)
      · obtain ⟨rfl, ha, o, rfl⟩ := p
        obtain ⟨y, hy, rfl⟩ := map_ix hi
        walk_at "ex"
        refine ⟨y, rfl, ?_⟩
        walk_at "ex"
        refine ite_d (fun c3 => ?_) (fun c3 => ?_)
        · walk_at "ex"
          have e : isKeyI l n = false := by
            unfold isKeyI
            have e2 : (l.all fun o => decide (0 ≤ dg o)) = false := by
              rw [List.all_eq_false]
              exact ⟨y, List.mem_of_getElem? hy, by simp; omega⟩
            rw [e2, Bool.and_false, Bool.false_and]
          rw [e] at q
          exact q
        · walk_at "ex"
          refine ⟨rfl, ?_, _, rfl⟩
          rw [take_more hy, List.all_append, ha]
          simp
          omega
      · obtain ⟨rfl, ha, o, rfl⟩ := p
        rw [len_map, List.take_length] at ha
        cases e : l.getLast? with
        | none =>
          rw [List.getLast?_eq_none_iff] at e
          subst e
          exact absurd c1 (by decide)
        | some x =>
          walk_at "ex"
          refine x_ixT hl (atI_last1 e) ?_
          walk_at "ex"
          have e2 : isKeyI l n = !decide (x = 48) := by
            unfold isKeyI
            rw [ha, e, decide_eq_true ⟨c1, c2⟩]
            simp
          rw [e2] at q
          exact q
  · walk_at "ex"
    refine ite_t rfl ?_
    walk_at "ex"
    have e : isKeyI l n = false := by
      unfold isKeyI
      rw [decide_eq_false (by omega), Bool.false_and, Bool.false_and]
    rw [e] at q
    exact q
end
/-! places_of -/
abbrev s_places_of : Stmt := top 6
abbrev N_places_of : List Str := ["length", "product", "step"]
theorem sc_places_of : FnScope N_places_of ["length"] (defScope s_places_of) := ⟨rfl, rfl, rfl, by decide +kernel, rfl, by decide +kernel, by decide +kernel⟩
def sp_places_of (_ : PySem.W.Frag) : Sp := fun vs H Q _ => ∃ n : Nat, vs = [.int n] ∧ n ≤ 100 ∧ Q (.int ((36 ^ n : Nat) : Int)) H
section
variable {P : Program} {w : World} {K : PySem.W.Frag} {mg : Str → Option Value} {base : Heap}
theorem ca_places_of (F : Df K mg "places_of" s_places_of ["length"]) {z : Ads} (T : Gb K mg z)   : Ca P w K mg base 1 "places_of" (sp_places_of K) := by
  refine ca_mk F sc_places_of (fun vs H Q E h => by
    obtain ⟨o, rfl, _⟩ := h
    rfl
    ) (fun f cdv A outer s H vs Q E hr h => ?_)
  refine ⟨_, pss_cons (ps_set (i := 1) sc_places_of.nd rfl (Or.inl rfl) pe_int) (pss_cons (ps_for rzp rfl (pi_range1 (by rfl) T.range (pa_cons (pv 0) pa_nil)) (pg_name (i := 2) sc_places_of.nd rfl (Or.inl rfl)) (pss_one (ps_aug (i := 1) sc_places_of.nd rfl (Or.inl rfl) pe_int iop_mul))) (pss_one (ps_ret (pv 1)))), ?_⟩
  obtain ⟨n, rfl, hn, q⟩ := h
  walk_at "ex"
  refine x_r1 n rfl (by omega) (fun i σ H' => H' = H ∧ ∃ o, σ = [some (.int (n : Int)), some (.int ((36 ^ i : Nat) : Int)), o]) ⟨rfl, none, rfl⟩ (fun i σ H' hi hp => ?_) (fun σ H' hp => ?_)
  · obtain ⟨rfl, o, rfl⟩ := hp
    walk_at "ex"
    refine ⟨rfl, some (.int i), ?_⟩
    rw [Nat.pow_succ, Int.natCast_mul]
    rfl
  · obtain ⟨rfl, o, rfl⟩ := hp
    walk_at "ex"
    exact q
end
/-! keys_in_all -/
abbrev s_keys_in_all : Stmt := top 7
abbrev N_keys_in_all : List Str := ["limit"]
theorem sc_keys_in_all : FnScope N_keys_in_all ["limit"] (defScope s_keys_in_all) := ⟨rfl, rfl, rfl, by decide +kernel, rfl, by decide +kernel, by decide +kernel⟩
def sp_keys_in_all (_ : PySem.W.Frag) : Sp := fun vs H Q _ => ∃ n : Nat, vs = [.int n] ∧ n ≤ 100 ∧ Q (.int (((36 ^ n : Nat) : Int) - 1)) H
section
variable {P : Program} {w : World} {K : PySem.W.Frag} {mg : Str → Option Value} {base : Heap}
theorem ca_keys_in_all (F : Df K mg "keys_in_all" s_keys_in_all ["limit"]) {z : Ads} (T : Gb K mg z)  (c_places_of : Ca P w K mg base 1 "places_of" (sp_places_of K)) : Ca P w K mg base 2 "keys_in_all" (sp_keys_in_all K) := by
  refine ca_mk F sc_keys_in_all (fun vs H Q E h => by
    obtain ⟨o, rfl, _⟩ := h
    rfl
    ) (fun f cdv A outer s H vs Q E hr h => ?_)
  refine ⟨_, pss_one (ps_ret (pe_op op_sub (pe_ca c_places_of hr (by first | decide | omega) passN (pa_cons (pv 0) pa_nil)) pe_int)), ?_⟩
  obtain ⟨n, rfl, hn, q⟩ := h
  walk_at "ex"
  refine ⟨n, rfl, hn, ?_⟩
  walk_at "ex"
  exact q
end
/-! number_of -/
abbrev s_number_of : Stmt := top 8
abbrev N_number_of : List Str := ["key", "length", "number", "at"]
theorem sc_number_of : FnScope N_number_of ["key", "length"] (defScope s_number_of) := ⟨rfl, rfl, rfl, by decide +kernel, rfl, by decide +kernel, by decide +kernel⟩
def sp_number_of (K : PySem.W.Frag) : Sp := fun vs H Q _ => ∃ (a : Addr) (k : List Nat) (n : Nat), vs = [.ref a, .int n] ∧ SqT K H a ((kI k).map V.int) ∧ Dig k ∧ n ≤ 100 ∧ Q (.int ((numberOf n k : Nat) : Int)) H
section
variable {P : Program} {w : World} {K : PySem.W.Frag} {mg : Str → Option Value} {base : Heap}
theorem ca_number_of (F : Df K mg "number_of" s_number_of ["key", "length"]) {z : Ads} (T : Gb K mg z)  (c_digit_of : Ca P w K mg base 1 "digit_of" (sp_digit_of K)) : Ca P w K mg base 2 "number_of" (sp_number_of K) := by
  refine ca_mk F sc_number_of (fun vs H Q E h => by
    obtain ⟨_, _, _, rfl, _⟩ := h
    rfl
    ) (fun f cdv A outer s H vs Q E hr h => ?_)
  refine ⟨_, pss_cons (ps_set (i := 2) sc_number_of.nd rfl (Or.inl rfl) pe_int) (pss_cons (ps_for rzp rfl (pi_range1 (by rfl) T.range (pa_cons (pv 1) pa_nil)) (pg_name (i := 3) sc_number_of.nd rfl (Or.inl rfl)) (pss_cons (ps_aug (i := 2) sc_number_of.nd rfl (Or.inl rfl) pe_int iop_mul) (pss_one (ps_if (pt_cmpR op_lt (pv 3) (pe_len T.len (pv 0)) (nomark _)) (pss_one (ps_aug (i := 2) sc_number_of.nd rfl (Or.inl rfl) (pe_ca c_digit_of hr (by first | decide | omega) passN (pa_cons (pe_ix ix_tup (pv 0) (pv 3) (fun _ _ => rfl)) pa_nil)) ip_add)) pss_nil)))) (pss_one (ps_ret (pv 2)))), ?_⟩
  obtain ⟨a, k, n, rfl, hl, hd, hn, q⟩ := h
  walk_at "ex"
  refine x_r1 n rfl (by omega) (fun i σ H' => H' = H ∧ ∃ o, σ = [some (.ref a), some (.int (n : Int)), some (.int ((numberOf i k : Nat) : Int)), o]) ⟨rfl, none, by rw [show numberOf 0 k = 0 by cases k <;> rfl]; rfl⟩ (fun i σ H' hi hp => ?_) (fun σ H' hp => ?_)
  · obtain ⟨rfl, o, rfl⟩ := hp
    walk_at "ex"
    rw [len_map, kI_len]
    refine ite_d (fun c => ?_) (fun c => ?_)
    · walk_at "ex"
      have hi' : i < k.length := by omega
      have hk : (kI k)[i]? = some (oc ((k[i] : Nat) : Int)) := by
        unfold kI
        rw [List.getElem?_map, List.getElem?_eq_getElem hi']
        rfl
      refine x_ixT hl (atI_int hk) ?_
      walk_at "ex"
      refine ⟨_, rfl, ?_⟩
      walk_at "ex"
      refine ⟨rfl, some (.int i), ?_⟩
      rw [numberOf_snoc, dg_oc (hd _ (List.getElem_mem hi')), List.getD_eq_getElem?_getD, List.getElem?_eq_getElem hi', Int.natCast_add, Int.natCast_mul]
      rfl
    · walk_at "ex"
      refine ⟨rfl, some (.int i), ?_⟩
      rw [numberOf_snoc, List.getD_eq_getElem?_getD, List.getElem?_eq_none (by omega), Int.natCast_add, Int.natCast_mul]
      show _ = [_, _, some (V.int ((numberOf i k : Int) * 36 + 0)), _]
      rw [Int.add_zero]
      rfl
  · obtain ⟨rfl, o, rfl⟩ := hp
    walk_at "ex"
    exact q

end
end OK
namespace OK
open PySem PySem.Spec PyProof.Rows L2
open R7290f.Spec (numberOf keyOf firstNumber endNumber middleKey keyBetween keysBetween leastDigits isBefore isBetween capacity room spread)
theorem lexLt_kI : ∀ {a b : List Nat}, Dig a → Dig b → HT.lexLt (kI a) (kI b) = isBefore a b
  | [], [], _, _ => rfl
  | [], _ :: _, _, _ => rfl
  | _ :: _, [], _, _ => rfl
  | x :: a, y :: b, ha, hb => by
    have ih := lexLt_kI ha.tail hb.tail
    have hx := ha x List.mem_cons_self
    have hy := hb y List.mem_cons_self
    show (if oc (x : Int) = oc (y : Int) then HT.lexLt (kI a) (kI b) else decide (oc (x : Int) < oc (y : Int))) = (decide (x < y) || (x == y && isBefore a b))
    by_cases e : x = y
    · subst e
      rw [if_pos rfl, ih]
      simp
    · rw [if_neg fun q => e (oc_inj hx hy q)]
      have e2 : (x == y) = false := beq_eq_false_iff_ne.mpr e
      rw [e2, Bool.false_and, Bool.or_false]
      exact decide_eq_decide.mpr (oc_lt hx hy)
theorem x_ltT {K : PySem.W.Frag} {H : Hp} {Q : VK} {a b : Addr} {j k : List Nat} (ha : Oc H a (kI j)) (hb : Oc H b (kI k)) (dj : Dig j) (dk : Dig k) (q : Q (.bl (isBefore j k)) H) : rLtT K (.ref a) (.ref b) H Q :=
  ⟨a, b, _, _, rfl, rfl, ha.t, hb.t, by rw [lexLt_kI dj dk]; exact q⟩
def aft (a : Option (List Nat)) (k : List Nat) : Bool := match a with
  | none => true
  | some x => isBefore x k
def bef (b : Option (List Nat)) (k : List Nat) : Bool := match b with
  | none => true
  | some y => isBefore k y
theorem isBetween_eq (a b : Option (List Nat)) (k : List Nat) : isBetween a b k = (aft a k && bef b k) := rfl
theorem nn_dec {a : Addr} : decide (V.ref a = V.non) = false := rfl
/-! key_of -/
abbrev s_key_of : Stmt := top 9
abbrev N_key_of : List Str := ["number", "length", "octets", "rest", "step", "digit"]
theorem sc_key_of : FnScope N_key_of ["number", "length"] (defScope s_key_of) := ⟨rfl, rfl, rfl, by decide +kernel, rfl, by decide +kernel, by decide +kernel⟩
def sp_key_of (_ : PySem.W.Frag) : Sp := fun vs H Q _ => ∃ x n : Nat, vs = [.int x, .int n] ∧ x < 36 ^ n ∧ n ≤ 100 ∧ ∀ p H', Same H H' → Oc H' p (kI (keyOf n x)) → Q (.ref p) H'
section
variable {P : Program} {w : World} {K : PySem.W.Frag} {mg : Str → Option Value} {base : Heap}
theorem ca_key_of (F : Df K mg "key_of" s_key_of ["number", "length"]) {z : Ads} (T : Gb K mg z)  (c_octet_of : Ca P w K mg base 1 "octet_of" (sp_octet_of K)) : Ca P w K mg base 2 "key_of" (sp_key_of K) := by
  refine ca_mk F sc_key_of (fun vs H Q E h => by
    obtain ⟨_, _, rfl, _⟩ := h
    rfl
    ) (fun f cdv A outer s H vs Q E hr h => ?_)
  refine ⟨_, pss_cons (ps_set (i := 2) sc_key_of.nd rfl (Or.inl rfl) (pe_lst pa_nil)) (pss_cons (ps_set (i := 3) sc_key_of.nd rfl (Or.inl rfl) (pv 0)) (pss_cons (ps_for rzp rfl (pi_range1 (by rfl) T.range (pa_cons (pv 1) pa_nil)) (pg_name (i := 4) sc_key_of.nd rfl (Or.inl rfl)) (pss_cons (ps_set (i := 5) sc_key_of.nd rfl (Or.inl rfl) (pe_op op_mod (pv 3) pe_int)) (pss_cons (ps_aug (i := 3) sc_key_of.nd rfl (Or.inl rfl) pe_int iop_fdiv) (pss_one (ps_if (PW.pt (pw_or (pt_cmpR op_gt (pv 5) pe_int (nomark _)) (pw_or1 (pt_cmpR op_gt (pe_len T.len (pv 2)) pe_int (nomark _))))) (pss_one (ps_expr (pe_bm PySem.F.plainAttrs_list PySem.F.slot_list_append PySem.F.type_list_append mt_append (pv 2) (pa_cons (pe_ca c_octet_of hr (by first | decide | omega) passN (pa_cons (pv 5) pa_nil)) pa_nil)))) pss_nil))))) (pss_one (ps_ret (pe_tuple T.tuple (pe_revL (pv 2))))))), ?_⟩
  obtain ⟨x, n, rfl, hx, hn, q⟩ := h
  walk_at "ex"
  refine ⟨sz0 (by simp), fun l hl => ?_⟩
  walk_at "ex"
  refine x_r1 n rfl (by omega) (fun i σ H' => H' = upd H l (.lst ((kI (keyOf i (x % 36 ^ i))).reverse.map V.int)) ∧ ∃ o1 o2, σ = [some (.int x), some (.int n), some (.ref l), some (.int ((x / 36 ^ i : Nat) : Int)), o1, o2])
    ⟨by rw [show kI (keyOf 0 (x % 36 ^ 0)) = [] from rfl]; rfl, none, none, by rw [Nat.pow_zero, Nat.div_one]; rfl⟩ (fun i σ H' hi hp => ?_) (fun σ H' hp => ?_)
  · obtain ⟨rfl, o1, o2, rfl⟩ := hp
    walk_at "ex"
    have em : ((x / 36 ^ i : Nat) : Int) % 36 = ((x / 36 ^ i % 36 : Nat) : Int) := rfl
    have ed : ((x / 36 ^ i : Nat) : Int) / 36 = ((x / 36 ^ (i + 1) : Nat) : Int) := by
      rw [Nat.pow_succ, ← Nat.div_div_eq_div_mul]
      rfl
    have dl : x / 36 ^ i % 36 < 36 := Nat.mod_lt _ (by decide)
    rw [em, ed]
    have st := keyOf_step i x
    refine ite_d (fun c => ?_) (fun c => ?_)
    · refine ite_t rfl ?_
      walk_at "ex"
      refine ⟨_, rfl, ?_⟩
      walk_at "ex"
      refine x_app upd_same (sz1 (by rw [len_map, List.length_reverse, kI_len]; have := keyOf_len i (x % 36 ^ i); omega)) ?_
      walk_at "ex"
      refine ⟨?_, _, _, rfl⟩
      rw [upd_upd, st, if_neg (fun z => by omega)]
      show upd H l _ = upd H l (.lst ((oc _ :: kI _).reverse.map V.int))
      rw [List.reverse_cons, List.map_append]
      rfl
    · walk_at "ex"
      rw [len_map, List.length_reverse, kI_len]
      refine ite_d (fun c2 => ?_) (fun c2 => ?_)
      · walk_at "ex"
        refine ⟨_, rfl, ?_⟩
        walk_at "ex"
        refine x_app upd_same (sz1 (by rw [len_map, List.length_reverse, kI_len]; have := keyOf_len i (x % 36 ^ i); omega)) ?_
        walk_at "ex"
        refine ⟨?_, _, _, rfl⟩
        rw [upd_upd, st, if_neg (fun z => by rw [z.2] at c2; exact absurd c2 (by decide))]
        show upd H l _ = upd H l (.lst ((oc _ :: kI _).reverse.map V.int))
        rw [List.reverse_cons, List.map_append]
        rfl
      · walk_at "ex"
        refine ⟨?_, _, _, rfl⟩
        have e : keyOf i (x % 36 ^ i) = [] := List.eq_nil_of_length_eq_zero (by omega)
        rw [st, if_pos ⟨by omega, e⟩, e]
  · obtain ⟨rfl, o1, o2, rfl⟩ := hp
    walk_at "ex"
    refine ⟨l, _, rfl, SqL.of upd_same, fun p hp => ?_⟩
    walk_at "ex"
    intro p2 hp2
    have e : x % 36 ^ n = x := Nat.mod_eq_of_lt hx
    refine q p2 _ ((same_new hl).trans ((same_new hp).trans (same_new hp2))) ?_
    show upd _ p2 _ p2 = _
    rw [upd_same, e, List.map_reverse, List.reverse_reverse]
end
/-! lowest_number -/
abbrev s_lowest_number : Stmt := top 10
abbrev N_lowest_number : List Str := ["before", "length"]
theorem sc_lowest_number : FnScope N_lowest_number ["before", "length"] (defScope s_lowest_number) := ⟨rfl, rfl, rfl, by decide +kernel, rfl, by decide +kernel, by decide +kernel⟩
def sp_lowest_number (_ : PySem.W.Frag) : Sp := fun vs H Q _ => ∃ (v : V) (b : Option (List Nat)) (n : Nat), vs = [v, .int n] ∧ BAt H v b ∧ BDig b ∧ n ≤ 100 ∧ Q (.int ((firstNumber n b : Nat) : Int)) H
section
variable {P : Program} {w : World} {K : PySem.W.Frag} {mg : Str → Option Value} {base : Heap}
theorem ca_lowest_number (F : Df K mg "lowest_number" s_lowest_number ["before", "length"]) {z : Ads} (T : Gb K mg z)  (c_number_of : Ca P w K mg base 2 "number_of" (sp_number_of K)) : Ca P w K mg base 3 "lowest_number" (sp_lowest_number K) := by
  refine ca_mk F sc_lowest_number (fun vs H Q E h => by
    obtain ⟨_, _, _, rfl, _⟩ := h
    rfl
    ) (fun f cdv A outer s H vs Q E hr h => ?_)
  refine ⟨_, pss_cons (ps_if (pt_cmp (pc_isN (pv 0))) (pss_one (ps_ret pe_int)) pss_nil) (pss_one (ps_ret (pe_op op_add (pe_ca c_number_of hr (by first | decide | omega) passN (pa_cons (pv 0) (pa_cons (pv 1) pa_nil))) pe_int))), ?_⟩
  obtain ⟨v, b, n, rfl, hv, hd, hn, q⟩ := h
  cases b with
  | none =>
    obtain rfl : v = .non := hv
    walk_at "ex"
    refine ite_t rfl ?_
    walk_at "ex"
    exact q
  | some k =>
    obtain ⟨a, rfl, ha⟩ := hv
    walk_at "ex"
    refine ite_f Bool.false_ne_true ?_
    walk_at "ex"
    refine ⟨a, k, n, rfl, ha.t, hd k rfl, hn, ?_⟩
    walk_at "ex"
    exact q
end
/-! number_behind -/
abbrev s_number_behind : Stmt := top 11
abbrev N_number_behind : List Str := ["after", "length"]
theorem sc_number_behind : FnScope N_number_behind ["after", "length"] (defScope s_number_behind) := ⟨rfl, rfl, rfl, by decide +kernel, rfl, by decide +kernel, by decide +kernel⟩
def sp_number_behind (_ : PySem.W.Frag) : Sp := fun vs H Q _ => ∃ (v : V) (b : Option (List Nat)) (n : Nat), vs = [v, .int n] ∧ BAt H v b ∧ BDig b ∧ n ≤ 100 ∧ Q (.int ((endNumber n b : Nat) : Int)) H
section
variable {P : Program} {w : World} {K : PySem.W.Frag} {mg : Str → Option Value} {base : Heap}
theorem ca_number_behind (F : Df K mg "number_behind" s_number_behind ["after", "length"]) {z : Ads} (T : Gb K mg z)  (c_number_of : Ca P w K mg base 2 "number_of" (sp_number_of K)) (c_places_of : Ca P w K mg base 1 "places_of" (sp_places_of K)) : Ca P w K mg base 3 "number_behind" (sp_number_behind K) := by
  refine ca_mk F sc_number_behind (fun vs H Q E h => by
    obtain ⟨_, _, _, rfl, _⟩ := h
    rfl
    ) (fun f cdv A outer s H vs Q E hr h => ?_)
  refine ⟨_, pss_cons (ps_if (pt_cmp (pc_isN (pv 0))) (pss_one (ps_ret (pe_ca c_places_of hr (by first | decide | omega) passN (pa_cons (pv 1) pa_nil)))) pss_nil) (pss_cons (ps_if (pt_cmpR op_gt (pe_len T.len (pv 0)) (pv 1) (nomark _)) (pss_one (ps_ret (pe_op op_add (pe_ca c_number_of hr (by first | decide | omega) passN (pa_cons (pv 0) (pa_cons (pv 1) pa_nil))) pe_int))) pss_nil) (pss_one (ps_ret (pe_ca c_number_of hr (by first | decide | omega) passN (pa_cons (pv 0) (pa_cons (pv 1) pa_nil)))))), ?_⟩
  obtain ⟨v, b, n, rfl, hv, hd, hn, q⟩ := h
  cases b with
  | none =>
    obtain rfl : v = .non := hv
    walk_at "ex"
    refine ite_t rfl ?_
    walk_at "ex"
    refine ⟨n, rfl, hn, ?_⟩
    walk_at "ex"
    exact q
  | some k =>
    obtain ⟨a, rfl, ha⟩ := hv
    have q' : Q (.int (((if k.length ≤ n then numberOf n k else numberOf n k + 1 : Nat)) : Int)) H := q
    walk_at "ex"
    refine ite_f Bool.false_ne_true ?_
    walk_at "ex"
    rw [len_map, kI_len]
    refine ite_d (fun c => ?_) (fun c => ?_)
    · walk_at "ex"
      refine ⟨a, k, n, rfl, ha.t, hd k rfl, hn, ?_⟩
      walk_at "ex"
      rw [if_neg (by omega)] at q'
      exact q'
    · walk_at "ex"
      refine ⟨a, k, n, rfl, ha.t, hd k rfl, hn, ?_⟩
      walk_at "ex"
      rw [if_pos (by omega)] at q'
      exact q'
end
/-! room_between -/
abbrev s_room_between : Stmt := top 12
abbrev N_room_between : List Str := ["before", "after", "length"]
theorem sc_room_between : FnScope N_room_between ["before", "after", "length"] (defScope s_room_between) := ⟨rfl, rfl, rfl, by decide +kernel, rfl, by decide +kernel, by decide +kernel⟩
def sp_room_between (_ : PySem.W.Frag) : Sp := fun vs H Q _ => ∃ (v1 v2 : V) (a b : Option (List Nat)) (n : Nat), vs = [v1, v2, .int n] ∧ BAt H v1 a ∧ BAt H v2 b ∧ BDig a ∧ BDig b ∧ n ≤ 100 ∧ Q (.int ((endNumber n b : Int) - (firstNumber n a : Int))) H
section
variable {P : Program} {w : World} {K : PySem.W.Frag} {mg : Str → Option Value} {base : Heap}
theorem ca_room_between (F : Df K mg "room_between" s_room_between ["before", "after", "length"]) {z : Ads} (T : Gb K mg z)  (c_number_behind : Ca P w K mg base 3 "number_behind" (sp_number_behind K)) (c_lowest_number : Ca P w K mg base 3 "lowest_number" (sp_lowest_number K)) : Ca P w K mg base 4 "room_between" (sp_room_between K) := by
  refine ca_mk F sc_room_between (fun vs H Q E h => by
    obtain ⟨_, _, _, _, _, rfl, _⟩ := h
    rfl
    ) (fun f cdv A outer s H vs Q E hr h => ?_)
  refine ⟨_, pss_one (ps_ret (pe_op op_sub (pe_ca c_number_behind hr (by first | decide | omega) passN (pa_cons (pv 1) (pa_cons (pv 2) pa_nil))) (pe_ca c_lowest_number hr (by first | decide | omega) passN (pa_cons (pv 0) (pa_cons (pv 2) pa_nil))))), ?_⟩
  obtain ⟨v1, v2, a, b, n, rfl, h1, h2, da, db, hn, q⟩ := h
  walk_at "ex"
  refine ⟨v2, b, n, rfl, h2, db, hn, ?_⟩
  walk_at "ex"
  refine ⟨v1, a, n, rfl, h1, da, hn, ?_⟩
  walk_at "ex"
  exact q
end
/-! is_between -/
abbrev s_is_between : Stmt := top 13
abbrev N_is_between : List Str := ["key", "before", "after"]
theorem sc_is_between : FnScope N_is_between ["key", "before", "after"] (defScope s_is_between) := ⟨rfl, rfl, rfl, by decide +kernel, rfl, by decide +kernel, by decide +kernel⟩
def sp_is_between (_ : PySem.W.Frag) : Sp := fun vs H Q _ => ∃ (v v1 v2 : V) (k : List Nat) (a b : Option (List Nat)), vs = [v, v1, v2] ∧ KAt H v k ∧ Dig k ∧ BAt H v1 a ∧ BAt H v2 b ∧ BDig a ∧ BDig b ∧ Q (.bl (isBetween a b k)) H
section
variable {P : Program} {w : World} {K : PySem.W.Frag} {mg : Str → Option Value} {base : Heap}
theorem ca_is_between (F : Df K mg "is_between" s_is_between ["key", "before", "after"]) {z : Ads} (T : Gb K mg z)   : Ca P w K mg base 1 "is_between" (sp_is_between K) := by
  refine ca_mk F sc_is_between (fun vs H Q E h => by
    obtain ⟨_, _, _, _, _, _, rfl, _⟩ := h
    rfl
    ) (fun f cdv A outer s H vs Q E hr h => ?_)
  refine ⟨_, pss_cons (ps_if (PW.pt (pw_and (pt_cmp (pc_notN (pv 1))) (pw_and1 (pt_not (pt_cmpR (op_ltT (hu0 hr)) (pv 1) (pv 0) (nomark _)))))) (pss_one (ps_ret pe_bl)) pss_nil) (pss_one (ps_ret (pe_or (pe_cmp (pc_isN (pv 2))) (pe_one (pe_cmpR (op_ltT (hu0 hr)) (pv 0) (pv 2) (nomark _)))))), ?_⟩
  obtain ⟨v, v1, v2, k, a, b, rfl, ⟨p, rfl, hp⟩, dk, h1, h2, da, db, q⟩ := h
  have fin : aft a k = true → tRet (tOrV (tIsN (tVar 2)) (tOp (rLtT K) (tVar 0) (tVar 2))) { nx := fun x H' => Q V.non H', rt := Q } (L2.start N_is_between [V.ref p, v1, v2]) H := fun ea => by
    rw [isBetween_eq, ea, Bool.true_and] at q
    cases b with
    | none =>
      obtain rfl : v2 = .non := h2
      walk_at "ex"
      refine ite_t rfl ?_
      exact q
    | some j =>
      obtain ⟨c, rfl, hc⟩ := h2
      walk_at "ex"
      refine ite_f Bool.false_ne_true ?_
      walk_at "ex"
      exact x_ltT hp hc dk (db j rfl) q
  cases a with
  | none =>
    obtain rfl : v1 = .non := h1
    walk_at "ex"
    refine ite_f Bool.false_ne_true ?_
    refine ite_f Bool.false_ne_true ?_
    refine x_next ?_
    exact fin rfl
  | some j =>
    obtain ⟨c, rfl, hc⟩ := h1
    walk_at "ex"
    refine ite_t rfl ?_
    walk_at "ex"
    refine x_ltT hc hp (da j rfl) dk ?_
    walk_at "ex"
    refine ite_nb (fun e => ?_) (fun e => ?_)
    · walk_at "ex"
      have e2 : isBetween (some j) b k = false := by
        rw [isBetween_eq]
        show (isBefore j k && _) = false
        rw [e, Bool.false_and]
      rw [e2] at q
      exact q
    · refine x_next ?_
      exact fin e
end
/-! middle_key -/
abbrev s_middle_key : Stmt := top 14
abbrev N_middle_key : List Str := ["before", "after", "length", "room"]
theorem sc_middle_key : FnScope N_middle_key ["before", "after", "length"] (defScope s_middle_key) := ⟨rfl, rfl, rfl, by decide +kernel, rfl, by decide +kernel, by decide +kernel⟩
def sp_middle_key (_ : PySem.W.Frag) : Sp := fun vs H Q _ => ∃ (v1 v2 : V) (a b : Option (List Nat)) (n : Nat), vs = [v1, v2, .int n] ∧ BAt H v1 a ∧ BAt H v2 b ∧ BOk a ∧ BOk b ∧ Ord a b ∧ n ≤ 100 ∧ 1 ≤ room n a b ∧ ∀ p H', Same H H' → Oc H' p (kI (middleKey n a b)) → Q (.ref p) H'
section
variable {P : Program} {w : World} {K : PySem.W.Frag} {mg : Str → Option Value} {base : Heap}
theorem ca_middle_key (F : Df K mg "middle_key" s_middle_key ["before", "after", "length"]) {z : Ads} (T : Gb K mg z)  (c_key_of : Ca P w K mg base 2 "key_of" (sp_key_of K)) (c_lowest_number : Ca P w K mg base 3 "lowest_number" (sp_lowest_number K)) (c_room_between : Ca P w K mg base 4 "room_between" (sp_room_between K)) : Ca P w K mg base 5 "middle_key" (sp_middle_key K) := by
  refine ca_mk F sc_middle_key (fun vs H Q E h => by
    obtain ⟨_, _, _, _, _, rfl, _⟩ := h
    rfl
    ) (fun f cdv A outer s H vs Q E hr h => ?_)
  refine ⟨_, pss_cons (ps_set (i := 3) sc_middle_key.nd rfl (Or.inl rfl) (pe_ca c_room_between hr (by first | decide | omega) passN (pa_cons (pv 0) (pa_cons (pv 1) (pa_cons (pv 2) pa_nil))))) (pss_one (ps_ret (pe_ca c_key_of hr (by first | decide | omega) passN (pa_cons (pe_op op_add (pe_ca c_lowest_number hr (by first | decide | omega) passN (pa_cons (pv 0) (pa_cons (pv 2) pa_nil))) (pe_op op_fdiv (pe_op op_sub (pv 3) pe_int) pe_int)) (pa_cons (pv 2) pa_nil))))), ?_⟩
  obtain ⟨v1, v2, a, b, n, rfl, h1, h2, da, db, o, hn, hr, q⟩ := h
  walk_at "ex"
  refine ⟨v1, v2, a, b, n, rfl, h1, h2, da.dig, db.dig, hn, ?_⟩
  walk_at "ex"
  refine ⟨v1, a, n, rfl, h1, da.dig, hn, ?_⟩
  walk_at "ex"
  refine ⟨firstNumber n a + (room n a b - 1) / 2, n, ?_, middle_lt db.dig hr, hn, q⟩
  rw [← room_int n da db o]
  have e : ((room n a b : Nat) : Int) - 1 = ((room n a b - 1 : Nat) : Int) := by omega
  rw [e]
  rfl

end
end OK
namespace OK
open PySem PySem.Spec PyProof.Rows L2
open R7290f.Spec (numberOf keyOf firstNumber endNumber middleKey keyBetween keysBetween leastDigits isBefore isBetween capacity room spread)
theorem LL_le (a b : Option (List Nat)) (m : Nat) : LL a b m ≤ 22 := by
  unfold LL
  cases e : (List.range 22).find? (fun n => decide (1 ≤ n) && decide ((m : Int) ≤ (endNumber n b : Int) - (firstNumber n a : Int))) with
  | none => exact Nat.le_refl _
  | some n =>
    have := List.mem_range.mp (List.mem_of_find?_eq_some e)
    show n ≤ 22
    omega
theorem cast_one (i : Nat) : (1 : Int) + (i : Int) = ((1 + i : Nat) : Int) := rfl
/-! least_length -/
abbrev s_least_length : Stmt := top 15
abbrev N_least_length : List Str := ["before", "after", "count", "length"]
theorem sc_least_length : FnScope N_least_length ["before", "after", "count"] (defScope s_least_length) := ⟨rfl, rfl, rfl, by decide +kernel, rfl, by decide +kernel, by decide +kernel⟩
def sp_least_length (_ : PySem.W.Frag) : Sp := fun vs H Q _ => ∃ (v1 v2 : V) (a b : Option (List Nat)) (m : Nat), vs = [v1, v2, .int m] ∧ BAt H v1 a ∧ BAt H v2 b ∧ BDig a ∧ BDig b ∧ Q (.int ((LL a b m : Nat) : Int)) H
section
variable {P : Program} {w : World} {K : PySem.W.Frag} {mg : Str → Option Value} {base : Heap}
theorem ca_least_length (F : Df K mg "least_length" s_least_length ["before", "after", "count"]) {z : Ads} (T : Gb K mg z)  (c_room_between : Ca P w K mg base 4 "room_between" (sp_room_between K)) : Ca P w K mg base 5 "least_length" (sp_least_length K) := by
  refine ca_mk F sc_least_length (fun vs H Q E h => by
    obtain ⟨_, _, _, _, _, rfl, _⟩ := h
    rfl
    ) (fun f cdv A outer s H vs Q E hr h => ?_)
  refine ⟨_, pss_cons (ps_for rzp rfl (pi_range2 (by rfl) T.range (pa_cons pe_int (pa_cons (pe_gk T.cLONGEST_SPREAD) pa_nil))) (pg_name (i := 3) sc_least_length.nd rfl (Or.inl rfl)) (pss_one (ps_if (pt_cmpR op_ge (pe_ca c_room_between hr (by first | decide | omega) passN (pa_cons (pv 0) (pa_cons (pv 1) (pa_cons (pv 3) pa_nil)))) (pv 2) (nomark _)) (pss_one (ps_ret (pv 3))) pss_nil))) (pss_one (ps_ret (pe_gk T.cLONGEST_SPREAD))), ?_⟩
  obtain ⟨v1, v2, a, b, m, rfl, h1, h2, da, db, q⟩ := h
  walk_at "ex"
  refine x_r2 1 21 rfl rfl (by omega) (fun i σ H' => H' = H ∧ (∀ j, j < i → ¬ (m : Int) ≤ (endNumber (j + 1) b : Int) - (firstNumber (j + 1) a : Int)) ∧ ∃ o, σ = [some v1, some v2, some (.int (m : Int)), o])
    ⟨rfl, fun j hj => absurd hj (Nat.not_lt_zero _), none, rfl⟩ (fun i σ H' hi hp => ?_) (fun σ H' hp => ?_)
  · obtain ⟨rfl, hn, o, rfl⟩ := hp
    walk_at "ex"
    refine ⟨v1, v2, a, b, 1 + i, rfl, h1, h2, da, db, by omega, ?_⟩
    walk_at "ex"
    refine ite_d (fun c => ?_) (fun c => ?_)
    · walk_at "ex"
      rw [Nat.add_comm 1 i] at c
      rw [LL_of (by omega) c hn] at q
      have e : (1 : Int) + (i : Int) = ((i + 1 : Nat) : Int) := by omega
      show Q (.int (1 + (i : Int))) H'
      rw [e]
      exact q
    · walk_at "ex"
      refine ⟨rfl, fun j hj => ?_, _, rfl⟩
      rcases Nat.lt_succ_iff_lt_or_eq.mp hj with h | h
      · exact hn j h
      · subst h
        rw [Nat.add_comm 1 j] at c
        exact c
  · obtain ⟨rfl, hn, o, rfl⟩ := hp
    walk_at "ex"
    rw [LL_none hn] at q
    exact q
end
/-! shortest_key -/
abbrev s_shortest_key : Stmt := top 16
abbrev N_shortest_key : List Str := ["before", "after"]
theorem sc_shortest_key : FnScope N_shortest_key ["before", "after"] (defScope s_shortest_key) := ⟨rfl, rfl, rfl, by decide +kernel, rfl, by decide +kernel, by decide +kernel⟩
def sp_shortest_key (_ : PySem.W.Frag) : Sp := fun vs H Q _ => ∃ (v1 v2 : V) (a b : Option (List Nat)), vs = [v1, v2] ∧ BAt H v1 a ∧ BAt H v2 b ∧ BOk a ∧ BOk b ∧ Ord a b ∧ ∀ p H', Same H H' → Oc H' p (kI (keyBetween a b)) → Q (.ref p) H'
section
variable {P : Program} {w : World} {K : PySem.W.Frag} {mg : Str → Option Value} {base : Heap}
theorem ca_shortest_key (F : Df K mg "shortest_key" s_shortest_key ["before", "after"]) {z : Ads} (T : Gb K mg z)  (c_middle_key : Ca P w K mg base 5 "middle_key" (sp_middle_key K)) (c_least_length : Ca P w K mg base 5 "least_length" (sp_least_length K)) : Ca P w K mg base 6 "shortest_key" (sp_shortest_key K) := by
  refine ca_mk F sc_shortest_key (fun vs H Q E h => by
    obtain ⟨_, _, _, _, rfl, _⟩ := h
    rfl
    ) (fun f cdv A outer s H vs Q E hr h => ?_)
  refine ⟨_, pss_one (ps_ret (pe_ca c_middle_key hr (by first | decide | omega) passN (pa_cons (pv 0) (pa_cons (pv 1) (pa_cons (pe_ca c_least_length hr (by first | decide | omega) passN (pa_cons (pv 0) (pa_cons (pv 1) (pa_cons pe_int pa_nil)))) pa_nil))))), ?_⟩
  obtain ⟨v1, v2, a, b, rfl, h1, h2, da, db, o, q⟩ := h
  obtain ⟨e1, e2, e3, e4, _⟩ := least_spec (m := 1) da db o (Nat.le_refl _) (by decide)
  walk_at "ex"
  refine ⟨v1, v2, a, b, 1, rfl, h1, h2, da.dig, db.dig, ?_⟩
  walk_at "ex"
  refine ⟨v1, v2, a, b, LL a b 1, rfl, h1, h2, da, db, o, by omega, e4, fun p H' s hp => q p H' s ?_⟩
  unfold R7290f.Spec.keyBetween
  rw [e1]
  exact hp
end
/-! spread_keys -/
abbrev s_spread_keys : Stmt := top 17
abbrev N_spread_keys : List Str := ["before", "after", "count", "length", "room", "first", "turn"]
theorem sc_spread_keys : FnScope N_spread_keys ["before", "after", "count"] (defScope s_spread_keys) := ⟨rfl, rfl, rfl, by decide +kernel, rfl, by decide +kernel, by decide +kernel⟩
def sp_spread_keys (_ : PySem.W.Frag) : Sp := fun vs H Q _ => ∃ (v1 v2 : V) (a b : Option (List Nat)) (m : Nat), vs = [v1, v2, .int m] ∧ BAt H v1 a ∧ BAt H v2 b ∧ BOk a ∧ BOk b ∧ Ord a b ∧ m ≤ 1000 ∧
  ∀ l H' ys, H l = none → Same H H' → H' l = some (.lst ys) → KL H' ys (keysBetween a b m) → Q (.ref l) H'
section
variable {P : Program} {w : World} {K : PySem.W.Frag} {mg : Str → Option Value} {base : Heap}
theorem ca_spread_keys (F : Df K mg "spread_keys" s_spread_keys ["before", "after", "count"]) {z : Ads} (T : Gb K mg z)  (c_key_of : Ca P w K mg base 2 "key_of" (sp_key_of K)) (c_lowest_number : Ca P w K mg base 3 "lowest_number" (sp_lowest_number K)) (c_room_between : Ca P w K mg base 4 "room_between" (sp_room_between K)) (c_least_length : Ca P w K mg base 5 "least_length" (sp_least_length K)) : Ca P w K mg base 6 "spread_keys" (sp_spread_keys K) := by
  refine ca_mk F sc_spread_keys (fun vs H Q E h => by
    obtain ⟨_, _, _, _, _, rfl, _⟩ := h
    rfl
    ) (fun f cdv A outer s H vs Q E hr h => ?_)
  refine ⟨_, pss_cons (ps_set (i := 3) sc_spread_keys.nd rfl (Or.inr rfl) (pe_ca c_least_length hr (by first | decide | omega) passN (pa_cons (pv 0) (pa_cons (pv 1) (pa_cons (pv 2) pa_nil))))) (pss_cons (ps_set (i := 4) sc_spread_keys.nd rfl (Or.inr rfl) (pe_ca c_room_between hr (by first | decide | omega) passN (pa_cons (pv 0) (pa_cons (pv 1) (pa_cons (pv 3) pa_nil))))) (pss_cons (ps_set (i := 5) sc_spread_keys.nd rfl (Or.inr rfl) (pe_ca c_lowest_number hr (by first | decide | omega) passN (pa_cons (pv 0) (pa_cons (pv 3) pa_nil)))) (pss_one (ps_ret (pe_lc (own := [("turn", 6)]) (g := (gName 6)) (tt := tYes) rfl sc_spread_keys.nd (pi_range2 (by rfl) T.range (pa_cons pe_int (pa_cons (pe_op op_add (pv 2) pe_int) pa_nil))) (blkOk_by (own := [("turn", 6)]) (N := N_spread_keys) (sc := defScope s_spread_keys) (by decide +kernel)) (fun _ _ _ _ _ => (pg_name (i := 6) sc_spread_keys.nd rfl (Or.inl rfl))) (fun _ _ _ _ _ => pts_nil) (fun _ _ _ _ _ => (pe_ca c_key_of hr (by first | decide | omega) passN (pa_cons (pe_op op_add (pe_op op_sub (pv 5) pe_int) (pe_op op_fdiv (pe_op op_mul (pv 6) (pe_op op_add (pv 4) pe_int)) (pe_op op_add (pv 2) pe_int))) (pa_cons (pv 3) pa_nil))))))))), ?_⟩
  obtain ⟨v1, v2, a, b, m, rfl, h1, h2, da, db, o, hm, q⟩ := h
  have hL := LL_le a b m
  walk_at "ex"
  refine ⟨v1, v2, a, b, m, rfl, h1, h2, da.dig, db.dig, ?_⟩
  walk_at "ex"
  refine ⟨v1, v2, a, b, LL a b m, rfl, h1, h2, da.dig, db.dig, by omega, ?_⟩
  walk_at "ex"
  refine ⟨v1, a, LL a b m, rfl, h1, da.dig, by omega, ?_⟩
  walk_at "ex"
  refine x_lcr2 1 m rfl (by omega) (by omega) (by omega) (fun H i v => KAt H v (keyOf (LL a b m) (firstNumber (LL a b m) a - 1 + (i + 1) * (room (LL a b m) a b + 1) / (m + 1)))) (fun H H' i v k h => h.kp k) (fun i H' hi s Q' hQ => ?_) (fun D H' ys hD s hy it => ?_)
  · obtain ⟨_, e2, e3, e4, _⟩ := least_spec (m := m) da db o (by omega) hm
    walk_at "ex"
    refine ⟨rfl, ?_⟩
    walk_at "ex"
    refine x_I (Or.inl ⟨by omega, by omega⟩) ?_
    walk_at "ex"
    refine ⟨_, LL a b m, ?_, spread_lt da.dig db.dig e4 hi, by omega, fun p H4 s4 hp => hQ _ _ s4 ⟨p, rfl, hp⟩⟩
    rw [← room_int _ da db o]
    have f1 := (first_le (LL a b m) da.dig).1
    have e : ((firstNumber (LL a b m) a : Nat) : Int) - 1 = ((firstNumber (LL a b m) a - 1 : Nat) : Int) := by omega
    rw [e, cast_one, Nat.add_comm 1 i]
    rfl
  · refine q D H' ys hD s hy ⟨?_, fun i v k e1 e2 => ?_⟩
    · rw [it.1]
      unfold R7290f.Spec.keysBetween R7290f.Spec.spread
      rw [List.length_map, List.length_range]
    · have hi : i < m := by
        have := (List.getElem?_eq_some_iff.mp e1).1
        rw [it.1] at this
        exact this
      obtain ⟨e3, _⟩ := least_spec (m := m) da db o (by omega) hm
      unfold R7290f.Spec.keysBetween R7290f.Spec.spread at e2
      rw [List.getElem?_map, List.getElem?_range hi, e3] at e2
      cases e2
      exact it.2 i v e1
end
/-! halvings -/
abbrev s_halvings : Stmt := top 18
abbrev N_halvings : List Str := ["room", "left", "many"]
theorem sc_halvings : FnScope N_halvings ["room"] (defScope s_halvings) := ⟨rfl, rfl, rfl, by decide +kernel, rfl, by decide +kernel, by decide +kernel⟩
def sp_halvings (_ : PySem.W.Frag) : Sp := fun vs H Q _ => ∃ r : Nat, vs = [.int r] ∧ Q (.int ((Nat.log2 (r + 1) : Nat) : Int)) H
section
variable {P : Program} {w : World} {K : PySem.W.Frag} {mg : Str → Option Value} {base : Heap}
theorem ca_halvings (F : Df K mg "halvings" s_halvings ["room"]) {z : Ads} (T : Gb K mg z)   : Ca P w K mg base 1 "halvings" (sp_halvings K) := by
  refine ca_mk F sc_halvings (fun vs H Q E h => by
    obtain ⟨_, rfl, _⟩ := h
    rfl
    ) (fun f cdv A outer s H vs Q E hr h => ?_)
  refine ⟨_, pss_cons (ps_set (i := 1) sc_halvings.nd rfl (Or.inl rfl) (pe_op op_add (pv 0) pe_int)) (pss_cons (ps_set (i := 2) sc_halvings.nd rfl (Or.inl rfl) pe_int) (pss_cons (ps_while rzp (pt_cmpR op_gt (pv 1) pe_int (nomark _)) (pss_cons (ps_aug (i := 1) sc_halvings.nd rfl (Or.inl rfl) pe_int iop_fdiv) (pss_one (ps_aug (i := 2) sc_halvings.nd rfl (Or.inl rfl) pe_int ip_add)))) (pss_one (ps_ret (pv 2))))), ?_⟩
  obtain ⟨r, rfl, q⟩ := h
  walk_at "ex"
  refine ⟨fun m σ H' => H' = H ∧ ∃ l c : Nat, m = l ∧ 1 ≤ l ∧ c + Nat.log2 l = Nat.log2 (r + 1) ∧ σ = [some (.int r), some (.int l), some (.int c)], ⟨r + 1, rfl, r + 1, 0, rfl, by omega, by omega, rfl⟩, fun m σ H' hp => ?_⟩
  obtain ⟨rfl, l, c, rfl, hl, hc, rfl⟩ := hp
  walk_at "ex"
  refine ite_d (fun c1 => ?_) (fun c1 => ?_)
  · refine ⟨fun σ' H2 => H2 = H' ∧ ∃ c' : Nat, c' + Nat.log2 (m / 2) = Nat.log2 (r + 1) ∧ σ' = [some (.int r), some (.int ((m / 2 : Nat) : Int)), some (.int c')], fun σ' H2 h2 => ⟨m / 2, by omega, h2.1, m / 2, ?_⟩, ?_⟩
    · obtain ⟨c', e1, e2⟩ := h2.2
      exact ⟨c', rfl, by omega, e1, e2⟩
    · walk_at "ex"
      refine ⟨rfl, c + 1, ?_, rfl⟩
      have := log2_step (n := m) (by omega)
      omega
  · walk_at "ex"
    have : m = 1 := by omega
    subst this
    have e : Nat.log2 1 = 0 := by decide
    rw [e, Nat.add_zero] at hc
    rw [← hc] at q
    exact q

end
end OK
namespace OK
open PySem PySem.Spec PyProof.Rows L2
open R7290f.Spec (Plain Units)
theorem drop_ix {bs : List UInt8} {p j : Nat} {x : UInt8} (h : (bs.drop p)[j]? = some x) : (bI bs)[p + j]? = some (x.toNat : Int) := by
  rw [List.getElem?_drop] at h
  exact bI_get h
/-! read_count -/
abbrev s_read_count : Stmt := top 37
abbrev N_read_count : List Str := ["octets", "at", "number", "step"]
theorem sc_read_count : FnScope N_read_count ["octets", "at"] (defScope s_read_count) := ⟨rfl, rfl, rfl, by decide +kernel, rfl, by decide +kernel, by decide +kernel⟩
def sp_read_count (K : PySem.W.Frag) : Sp := fun vs H Q _ => ∃ (a : Addr) (p : Nat) (bs : List UInt8), vs = [.ref a, .int p] ∧ SqL K H a ((bI bs).map V.int) ∧ 4 ≤ (bs.drop p).length ∧ Q (.int ((RWire.numOf ((bs.drop p).take 4) : Nat) : Int)) H
section
variable {P : Program} {w : World} {K : PySem.W.Frag} {mg : Str → Option Value} {base : Heap}
theorem ca_read_count (F : Df K mg "read_count" s_read_count ["octets", "at"]) {z : Ads} (T : Gb K mg z)   : Ca P w K mg base 1 "read_count" (sp_read_count K) := by
  refine ca_mk F sc_read_count (fun vs H Q E h => by
    obtain ⟨_, _, _, rfl, _⟩ := h
    rfl
    ) (fun f cdv A outer s H vs Q E hr h => ?_)
  refine ⟨_, pss_cons (ps_set (i := 2) sc_read_count.nd rfl (Or.inl rfl) pe_int) (pss_cons (ps_for rzp rfl (pi_range1 (by rfl) T.range (pa_cons pe_int pa_nil)) (pg_name (i := 3) sc_read_count.nd rfl (Or.inl rfl)) (pss_one (ps_set (i := 2) sc_read_count.nd rfl (Or.inl rfl) (pe_op op_add (pe_op op_mul (pv 2) pe_int) (pe_ix ix_list (pv 0) (pe_op op_sub (pe_op op_add (pv 1) pe_int) (pv 3)) (fun _ _ => rfl)))))) (pss_one (ps_ret (pv 2)))), ?_⟩
  obtain ⟨a, p, bs, rfl, hl, hb, q⟩ := h
  walk_at "ex"
  refine x_r1 4 rfl (by omega) (fun i σ H' => H' = H ∧ ∃ o, σ = [some (.ref a), some (.int (p : Int)), some (.int ((RWire.numOf (((bs.drop p).take 4).drop (4 - i)) : Nat) : Int)), o]) ⟨rfl, none, ?_⟩ (fun i σ H' hi hp => ?_) (fun σ H' hp => ?_)
  · rw [drop_all _ (by rw [List.length_take]; omega)]
    rfl
  · obtain ⟨rfl, o, rfl⟩ := hp
    obtain ⟨x, hx, e⟩ := numOf_back hb hi
    walk_at "ex"
    have e1 : (p : Int) + 3 - (i : Int) = ((p + (4 - 1 - i) : Nat) : Int) := by omega
    rw [e1]
    refine x_ixL hl (atI_int (drop_ix hx)) ?_
    walk_at "ex"
    refine ⟨rfl, some (.int i), ?_⟩
    rw [e, Int.natCast_add, Int.natCast_mul]
    rfl
  · obtain ⟨rfl, o, rfl⟩ := hp
    walk_at "ex"
    exact q
end
/-! read_integer -/
abbrev s_read_integer : Stmt := top 38
abbrev N_read_integer : List Str := ["octets", "at", "number", "step"]
theorem sc_read_integer : FnScope N_read_integer ["octets", "at"] (defScope s_read_integer) := ⟨rfl, rfl, rfl, by decide +kernel, rfl, by decide +kernel, by decide +kernel⟩
def sp_read_integer (K : PySem.W.Frag) : Sp := fun vs H Q _ => ∃ (a : Addr) (p : Nat) (bs : List UInt8), vs = [.ref a, .int p] ∧ SqL K H a ((bI bs).map V.int) ∧ 8 ≤ (bs.drop p).length ∧ Q (.int (RWire.intOf (RWire.numOf ((bs.drop p).take 8)))) H
section
variable {P : Program} {w : World} {K : PySem.W.Frag} {mg : Str → Option Value} {base : Heap}
theorem ca_read_integer (F : Df K mg "read_integer" s_read_integer ["octets", "at"]) {z : Ads} (T : Gb K mg z)   : Ca P w K mg base 1 "read_integer" (sp_read_integer K) := by
  refine ca_mk F sc_read_integer (fun vs H Q E h => by
    obtain ⟨_, _, _, rfl, _⟩ := h
    rfl
    ) (fun f cdv A outer s H vs Q E hr h => ?_)
  refine ⟨_, pss_cons (ps_set (i := 2) sc_read_integer.nd rfl (Or.inl rfl) pe_int) (pss_cons (ps_for rzp rfl (pi_range1 (by rfl) T.range (pa_cons pe_int pa_nil)) (pg_name (i := 3) sc_read_integer.nd rfl (Or.inl rfl)) (pss_one (ps_set (i := 2) sc_read_integer.nd rfl (Or.inl rfl) (pe_op op_add (pe_op op_mul (pv 2) pe_int) (pe_ix ix_list (pv 0) (pe_op op_sub (pe_op op_add (pv 1) pe_int) (pv 3)) (fun _ _ => rfl)))))) (pss_cons (ps_if (pt_cmpR op_ge (pv 2) (pe_op op_pow pe_int pe_int) (nomark _)) (pss_one (ps_ret (pe_op op_sub (pv 2) (pe_op op_pow pe_int pe_int)))) pss_nil) (pss_one (ps_ret (pv 2))))), ?_⟩
  obtain ⟨a, p, bs, rfl, hl, hb, q⟩ := h
  walk_at "ex"
  refine x_r1 8 rfl (by omega) (fun i σ H' => H' = H ∧ ∃ o, σ = [some (.ref a), some (.int (p : Int)), some (.int ((RWire.numOf (((bs.drop p).take 8).drop (8 - i)) : Nat) : Int)), o]) ⟨rfl, none, ?_⟩ (fun i σ H' hi hp => ?_) (fun σ H' hp => ?_)
  · rw [drop_all _ (by rw [List.length_take]; omega)]
    rfl
  · obtain ⟨rfl, o, rfl⟩ := hp
    obtain ⟨x, hx, e⟩ := numOf_back hb hi
    walk_at "ex"
    have e1 : (p : Int) + 7 - (i : Int) = ((p + (8 - 1 - i) : Nat) : Int) := by omega
    rw [e1]
    refine x_ixL hl (atI_int (drop_ix hx)) ?_
    walk_at "ex"
    refine ⟨rfl, some (.int i), ?_⟩
    rw [e, Int.natCast_add, Int.natCast_mul]
    rfl
  · obtain ⟨rfl, o, rfl⟩ := hp
    unfold RWire.intOf at q
    walk_at "ex"
    refine ite_d (fun c => ?_) (fun c => ?_)
    · walk_at "ex"
      rw [decide_eq_false (by have c' : (9223372036854775808 : Int) ≤ _ := c; simp at c' ⊢; omega)] at q
      exact q
    · walk_at "ex"
      rw [decide_eq_true (by have c' : ¬ (9223372036854775808 : Int) ≤ _ := c; simp at c' ⊢; omega)] at q
      exact q
end
/-! read_text -/
abbrev s_read_text : Stmt := top 39
abbrev N_read_text : List Str := ["octets", "at", "first", "behind"]
theorem sc_read_text : FnScope N_read_text ["octets", "at"] (defScope s_read_text) := ⟨rfl, rfl, rfl, by decide +kernel, rfl, by decide +kernel, by decide +kernel⟩
def sp_read_text (K : PySem.W.Frag) : Sp := fun vs H Q _ => ∃ (a : Addr) (p : Nat) (bs u r : List UInt8), vs = [.ref a, .int p] ∧ SqL K H a ((bI bs).map V.int) ∧ RWire.readText (bs.drop p) = some (u, r) ∧ bs.length ≤ 60000 ∧
  ∀ T t p' H', Same H H' → H' T = some (.tup [.ref t, .int ((p' : Nat) : Int)]) → Oc H' t (bI u) → r = bs.drop p' → p < p' → p' ≤ bs.length → Q (.ref T) H'
section
variable {P : Program} {w : World} {K : PySem.W.Frag} {mg : Str → Option Value} {base : Heap}
theorem ca_read_text (F : Df K mg "read_text" s_read_text ["octets", "at"]) {z : Ads} (T : Gb K mg z)  (c_read_count : Ca P w K mg base 1 "read_count" (sp_read_count K)) : Ca P w K mg base 2 "read_text" (sp_read_text K) := by
  refine ca_mk F sc_read_text (fun vs H Q E h => by
    obtain ⟨_, _, _, _, _, rfl, _⟩ := h
    rfl
    ) (fun f cdv A outer s H vs Q E hr h => ?_)
  refine ⟨_, pss_cons (ps_set (i := 2) sc_read_text.nd rfl (Or.inl rfl) (pe_op op_add (pv 1) pe_int)) (pss_cons (ps_set (i := 3) sc_read_text.nd rfl (Or.inl rfl) (pe_op op_add (pv 2) (pe_ca c_read_count hr (by first | decide | omega) passN (pa_cons (pv 0) (pa_cons (pv 1) pa_nil))))) (pss_one (ps_ret (pe_tup (pa_cons (pe_tuple T.tuple (pe_slice sl_list (pv 0) (po_some (pv 2)) (po_some (pv 3)))) (pa_cons (pv 3) pa_nil)))))), ?_⟩
  obtain ⟨a, p, bs, u, r, rfl, hl, hr1, hz, q⟩ := h
  obtain ⟨h4, hu, hrr, hle⟩ := readText_some hr1
  have hle' : p + (4 + RWire.numOf ((bs.drop p).take 4)) ≤ bs.length := by
    rw [List.length_drop] at hle h4
    omega
  walk_at "ex"
  refine ⟨a, p, bs, rfl, hl, h4, ?_⟩
  walk_at "ex"
  refine fun l hlf => ?_
  walk_at "ex"
  refine fun t ht => ?_
  walk_at "ex"
  refine ⟨by show 2 ≤ sizeLine; rw [sizeLine_eq]; decide, fun T hT => ?_⟩
  have s1 := same_new (o := .lst (cutV ((bI bs).map V.int) (some ((p : Int) + 4)) (some ((p : Int) + 4 + ((RWire.numOf ((bs.drop p).take 4) : Nat) : Int))))) hlf
  refine q T t (p + (4 + RWire.numOf ((bs.drop p).take 4))) _ (s1.trans ((same_new ht).trans (same_new hT))) (by rw [upd_same, Int.natCast_add, Int.natCast_add, Int.add_assoc]; rfl) ?_ ?_ (by omega) hle'
  · have e : cutV ((bI bs).map V.int) (some ((p : Int) + 4)) (some ((p : Int) + 4 + ((RWire.numOf ((bs.drop p).take 4) : Nat) : Int))) = (bI u).map V.int := by
      refine (cut_nat (i := p + 4) (j := p + 4 + RWire.numOf ((bs.drop p).take 4)) ((bI bs).map V.int) (by rw [List.length_map, bI_len]; omega)).trans ?_
      rw [hu]
      unfold bI
      rw [List.drop_drop, List.map_take, List.map_take, List.map_drop, List.map_drop]
      congr 1
      omega
    refine same_new hT t _ ?_
    rw [upd_same, e]
  · rw [hrr, List.drop_drop]

end
end OK
namespace OK
open PySem PySem.Spec PyProof.Rows L2
open R7290f.Spec (Plain Units)
def sp_read_value (n : Nat) (K : PySem.W.Frag) : Sp := fun vs H Q _ => ∃ (a : Addr) (p : Nat) (bs : List UInt8) (v : RWire.Value) (r : List UInt8), vs = [.ref a, .int p] ∧ SqL K H a ((bI bs).map V.int) ∧ RWire.readF n (bs.drop p) = some (v, r) ∧ okV v = true ∧ bs.length ≤ 60000 ∧
  ∀ T x p' H', Same H H' → H' T = some (.tup [x, .int ((p' : Nat) : Int)]) → VAt K H' (Rust.taken v) x → r = bs.drop p' → p < p' → p' ≤ bs.length → Q (.ref T) H'
def sp_read_list (n : Nat) (K : PySem.W.Frag) : Sp := fun vs H Q _ => ∃ (a : Addr) (p : Nat) (bs : List UInt8) (m : Nat) (r0 r : List UInt8) (l : List RWire.Value), vs = [.ref a, .int p] ∧ SqL K H a ((bI bs).map V.int) ∧ RWire.readNum 4 (bs.drop p) = some (m, r0) ∧ RWire.readMany (RWire.readF n) m r0 = some (l, r) ∧ okVs l = true ∧ bs.length ≤ 60000 ∧
  ∀ T t xs p' H', Same H H' → H' T = some (.tup [.ref t, .int ((p' : Nat) : Int)]) → Lf H' t xs → VsAt K H' (Rust.takenAll l) xs → r = bs.drop p' → p < p' → p' ≤ bs.length → Q (.ref T) H'
def sp_read_record (n : Nat) (K : PySem.W.Frag) : Sp := fun vs H Q _ => ∃ (a : Addr) (p : Nat) (bs : List UInt8) (m : Nat) (r0 r : List UInt8) (l : List (RWire.Text × RWire.Value)), vs = [.ref a, .int p] ∧ SqL K H a ((bI bs).map V.int) ∧ RWire.readNum 4 (bs.drop p) = some (m, r0) ∧ RWire.readMany (RWire.readEntry (RWire.readF n)) m r0 = some (l, r) ∧ okFs l = true ∧ bs.length ≤ 60000 ∧
  ∀ T t xs p' H', Same H H' → H' T = some (.tup [.ref t, .int ((p' : Nat) : Int)]) → Lf H' t xs → FsAt K H' (Rust.takenFields l) xs → r = bs.drop p' → p < p' → p' ≤ bs.length → Q (.ref T) H'
theorem num4_lt (b : List UInt8) : RWire.numOf (b.take 4) ≤ 4294967296 := by
  have h := numOf_lt (b.take 4)
  have h2 : (b.take 4).length ≤ 4 := by rw [List.length_take]; omega
  have h3 : 256 ^ (b.take 4).length ≤ 256 ^ 4 := Nat.pow_le_pow_right (by decide) h2
  omega
/-! read_list -/
abbrev s_read_list : Stmt := top 40
abbrev N_read_list : List Str := ["octets", "at", "many", "values", "place", "step", "value"]
theorem sc_read_list : FnScope N_read_list ["octets", "at"] (defScope s_read_list) := ⟨rfl, rfl, rfl, by decide +kernel, rfl, by decide +kernel, by decide +kernel⟩
section
variable {P : Program} {w : World} {K : PySem.W.Frag} {mg : Str → Option Value} {base : Heap}
theorem ca_read_list (F : Df K mg "read_list" s_read_list ["octets", "at"]) {z : Ads} (T : Gb K mg z)  {n c : Nat} (hc : 1 ≤ c) (c_read_value : Ca P w K mg base c "read_value" (sp_read_value n K)) (c_read_count : Ca P w K mg base 1 "read_count" (sp_read_count K)) : Ca P w K mg base (c + 1) "read_list" (sp_read_list n K) := by
  refine ca_mk F sc_read_list (fun vs H Q E h => by
    obtain ⟨_, _, _, _, _, _, _, rfl, _⟩ := h
    rfl
    ) (fun f cdv A outer s H vs Q E hr h => ?_)
  refine ⟨_, pss_cons (ps_set (i := 2) sc_read_list.nd rfl (Or.inl rfl) (pe_ca c_read_count hr (by first | decide | omega) passN (pa_cons (pv 0) (pa_cons (pv 1) pa_nil)))) (pss_cons (ps_set (i := 3) sc_read_list.nd rfl (Or.inl rfl) (pe_lst pa_nil)) (pss_cons (ps_set (i := 4) sc_read_list.nd rfl (Or.inl rfl) (pe_op op_add (pv 1) pe_int)) (pss_cons (ps_for rzp rfl (pi_range1 (by rfl) T.range (pa_cons (pv 2) pa_nil)) (pg_name (i := 5) sc_read_list.nd rfl (Or.inl rfl)) (pss_cons (ps_asg (pe_ca c_read_value hr (by first | decide | omega) passN (pa_cons (pv 0) (pa_cons (pv 4) pa_nil))) (pg_tup rfl (pgs_cons (pg_name (i := 6) sc_read_list.nd rfl (Or.inl rfl)) (pgs_cons (pg_name (i := 4) sc_read_list.nd rfl (Or.inl rfl)) pgs_nil)))) (pss_one (ps_expr (pe_bm PySem.F.plainAttrs_list PySem.F.slot_list_append PySem.F.type_list_append mt_append (pv 3) (pa_cons (pv 6) pa_nil)))))) (pss_one (ps_ret (pe_tup (pa_cons (pe_fz (pv 3)) (pa_cons (pv 4) pa_nil)))))))), ?_⟩
  obtain ⟨a, p, bs, m, r0, r, l, rfl, hl, hn, hm, ok, hz, q⟩ := h
  obtain ⟨e1, e2, e3⟩ := readNum_some hn
  have hml := readMany_len hm
  rw [List.length_drop] at e3
  walk_at "ex"
  refine ⟨a, p, bs, rfl, hl, by rw [List.length_drop]; exact e3, ?_⟩
  rw [← e1]
  walk_at "ex"
  refine ⟨by show 0 ≤ sizeLine; exact Nat.zero_le _, fun D hD => ?_⟩
  walk_at "ex"
  have hl1 : SqL K (upd H D (.lst [])) a ((bI bs).map V.int) := sqL_same (same_new hD) hl
  refine x_r1 m rfl (by rw [e1]; exact Nat.le_trans (num4_lt _) (by decide)) (fun i σ H' => Same H H' ∧ ∃ (q : Nat) (ys : List V) (o1 o2 : Option V), σ = [some (.ref a), some (.int p), some (.int m), some (.ref D), some (.int q), o1, o2] ∧ H' D = some (.lst ys) ∧ VsAt K H' (Rust.takenAll (l.take i)) ys ∧
    RWire.readMany (RWire.readF n) (m - i) (bs.drop q) = some (l.drop i, r) ∧ p + 4 + i ≤ q ∧ q ≤ bs.length ∧ okVs (l.drop i) = true) ⟨same_new hD, p + 4, [], none, none, rfl, upd_same, rfl, by rw [Nat.sub_zero, ← List.drop_drop, ← e2]; exact hm, Nat.le_refl _, by omega, ok⟩ (fun i σ H' hi hp => ?_) (fun σ H' hp => ?_)
  · obtain ⟨s, qq, ys, o1, o2, rfl, hy, hv, hr, hq, hq2, okr⟩ := hp
    have hl2 := sqL_same s hl
    have em : m - i = (m - (i + 1)) + 1 := by omega
    rw [em] at hr
    obtain ⟨v, r1, l1, f1, f2, f3⟩ := readMany_cons hr
    rw [f3] at okr
    obtain ⟨ok1, ok2⟩ := okVs_cons okr
    have hyl := hv.len
    rw [takenAll_len, List.length_take] at hyl
    walk_at "ex"
    refine ⟨a, qq, bs, v, r1, rfl, hl2, f1, ok1, hz, fun T x p' H2 s2 hT hx hr1 hlt hle => ?_⟩
    have hy2 := s2 _ _ hy
    walk_at "ex"
    refine x_app hy2 (sz1 (by omega)) ?_
    walk_at "ex"
    have kk : Kp H2 (upd H2 D (.lst (ys ++ [x]))) := Kp.lst hy2
    have el : l[i]? = some v := by
      have := congrArg List.head? f3
      rw [List.head?_drop] at this
      exact this
    refine ⟨But.same (s.trans s2) hD But.upd, p', _, _, _, rfl, upd_same, ?_, ?_, by omega, hle, ?_⟩
    · rw [take_more el, takenAll_append]
      exact VsAt.push (VsAt.kp ((Kp.of s2).trans kk) hv) (VAt.kp kk hx)
    · rw [← hr1, f2]
      have := congrArg List.tail f3
      rw [List.tail_drop] at this
      rw [this]
      rfl
    · have := congrArg List.tail f3
      rw [List.tail_drop] at this
      rw [this]
      exact ok2
  · obtain ⟨s, qq, ys, o1, o2, rfl, hy, hv, hr, hq, hq2, okr⟩ := hp
    rw [Nat.sub_self] at hr
    rw [← hml, List.take_length] at hv
    have hrr : r = bs.drop qq := (congrArg Prod.snd (Option.some.inj (show some ([], bs.drop qq) = some (_, r) from hr))).symm
    walk_at "ex"
    refine ⟨D, ys, rfl, hy, fun o => ?_⟩
    walk_at "ex"
    refine ⟨by show 2 ≤ sizeLine; rw [sizeLine_eq]; decide, fun T hT => ?_⟩
    have kk : Kp H' (upd H' D (.frz o (.lst ys))) := Kp.lst hy
    have s2 : Same H (upd H' D (.frz o (.lst ys))) := But.same s hD But.upd
    refine q T D ys qq _ (s2.trans (same_new hT)) upd_same ⟨o, same_new hT _ _ upd_same⟩ (VsAt.kp (kk.trans (Kp.of (same_new hT))) hv) hrr (by omega) hq2
end
/-! read_record -/
abbrev s_read_record : Stmt := top 41
abbrev N_read_record : List Str := ["octets", "at", "many", "members", "place", "step", "name", "value"]
theorem sc_read_record : FnScope N_read_record ["octets", "at"] (defScope s_read_record) := ⟨rfl, rfl, rfl, by decide +kernel, rfl, by decide +kernel, by decide +kernel⟩
section
variable {P : Program} {w : World} {K : PySem.W.Frag} {mg : Str → Option Value} {base : Heap}
theorem ca_read_record (F : Df K mg "read_record" s_read_record ["octets", "at"]) {z : Ads} (T : Gb K mg z)  {n c : Nat} (hc : 2 ≤ c) (c_read_value : Ca P w K mg base c "read_value" (sp_read_value n K)) (c_read_text : Ca P w K mg base 2 "read_text" (sp_read_text K)) (c_read_count : Ca P w K mg base 1 "read_count" (sp_read_count K)) : Ca P w K mg base (c + 1) "read_record" (sp_read_record n K) := by
  refine ca_mk F sc_read_record (fun vs H Q E h => by
    obtain ⟨_, _, _, _, _, _, _, rfl, _⟩ := h
    rfl
    ) (fun f cdv A outer s H vs Q E hr h => ?_)
  refine ⟨_, pss_cons (ps_set (i := 2) sc_read_record.nd rfl (Or.inl rfl) (pe_ca c_read_count hr (by first | decide | omega) passN (pa_cons (pv 0) (pa_cons (pv 1) pa_nil)))) (pss_cons (ps_set (i := 3) sc_read_record.nd rfl (Or.inl rfl) (pe_lst pa_nil)) (pss_cons (ps_set (i := 4) sc_read_record.nd rfl (Or.inl rfl) (pe_op op_add (pv 1) pe_int)) (pss_cons (ps_for rzp rfl (pi_range1 (by rfl) T.range (pa_cons (pv 2) pa_nil)) (pg_name (i := 5) sc_read_record.nd rfl (Or.inl rfl)) (pss_cons (ps_asg (pe_ca c_read_text hr (by first | decide | omega) passN (pa_cons (pv 0) (pa_cons (pv 4) pa_nil))) (pg_tup rfl (pgs_cons (pg_name (i := 6) sc_read_record.nd rfl (Or.inl rfl)) (pgs_cons (pg_name (i := 4) sc_read_record.nd rfl (Or.inl rfl)) pgs_nil)))) (pss_cons (ps_asg (pe_ca c_read_value hr (by first | decide | omega) passN (pa_cons (pv 0) (pa_cons (pv 4) pa_nil))) (pg_tup rfl (pgs_cons (pg_name (i := 7) sc_read_record.nd rfl (Or.inl rfl)) (pgs_cons (pg_name (i := 4) sc_read_record.nd rfl (Or.inl rfl)) pgs_nil)))) (pss_one (ps_expr (pe_bm PySem.F.plainAttrs_list PySem.F.slot_list_append PySem.F.type_list_append mt_append (pv 3) (pa_cons (pe_tup (pa_cons (pv 6) (pa_cons (pv 7) pa_nil))) pa_nil))))))) (pss_one (ps_ret (pe_tup (pa_cons (pe_fz (pv 3)) (pa_cons (pv 4) pa_nil)))))))), ?_⟩
  obtain ⟨a, p, bs, m, r0, r, l, rfl, hl, hn, hm, ok, hz, q⟩ := h
  obtain ⟨e1, e2, e3⟩ := readNum_some hn
  have hml := readMany_len hm
  rw [List.length_drop] at e3
  walk_at "ex"
  refine ⟨a, p, bs, rfl, hl, by rw [List.length_drop]; exact e3, ?_⟩
  rw [← e1]
  walk_at "ex"
  refine ⟨by show 0 ≤ sizeLine; exact Nat.zero_le _, fun D hD => ?_⟩
  walk_at "ex"
  have hl1 : SqL K (upd H D (.lst [])) a ((bI bs).map V.int) := sqL_same (same_new hD) hl
  refine x_r1 m rfl (by rw [e1]; exact Nat.le_trans (num4_lt _) (by decide)) (fun i σ H' => Same H H' ∧ ∃ (q : Nat) (ys : List V) (o1 o2 o3 : Option V), σ = [some (.ref a), some (.int p), some (.int m), some (.ref D), some (.int q), o1, o2, o3] ∧ H' D = some (.lst ys) ∧ FsAt K H' (Rust.takenFields (l.take i)) ys ∧ ys.length = i ∧
    RWire.readMany (RWire.readEntry (RWire.readF n)) (m - i) (bs.drop q) = some (l.drop i, r) ∧ p + 4 + i ≤ q ∧ q ≤ bs.length ∧ okFs (l.drop i) = true) ⟨same_new hD, p + 4, [], none, none, none, rfl, upd_same, rfl, rfl, by rw [Nat.sub_zero, ← List.drop_drop, ← e2]; exact hm, Nat.le_refl _, by omega, ok⟩ (fun i σ H' hi hp => ?_) (fun σ H' hp => ?_)
  · obtain ⟨s, qq, ys, o1, o2, o3, rfl, hy, hv, hyl, hr, hq, hq2, okr⟩ := hp
    have hl2 := sqL_same s hl
    have em : m - i = (m - (i + 1)) + 1 := by omega
    rw [em] at hr
    obtain ⟨v, r1, l1, f1, f2, f3⟩ := readMany_cons hr
    rw [f3] at okr
    obtain ⟨ok1, ok2⟩ := okFs_cons okr
    obtain ⟨r2, g1, g2⟩ := readEntry_some f1
    walk_at "ex"
    refine ⟨a, qq, bs, v.1, r2, rfl, hl2, g1, hz, fun T t p1 H2 s2 hT ht hr1 hlt hle => ?_⟩
    have hy2 := s2 _ _ hy
    have hl3 := sqL_same s2 hl2
    walk_at "ex"
    rw [hr1] at g2
    refine ⟨a, p1, bs, v.2, r1, rfl, hl3, g2, ok1, hz, fun T2 x p' H3 s3 hT2 hx hr2 hlt2 hle2 => ?_⟩
    have hy3 := s3 _ _ hy2
    walk_at "ex"
    refine ⟨by show 2 ≤ sizeLine; rw [sizeLine_eq]; decide, fun T3 hT3 => ?_⟩
    have hy4 := same_new (o := .tup [.ref t, x]) hT3 _ _ hy3
    walk_at "ex"
    refine x_app hy4 (sz1 (by omega)) ?_
    walk_at "ex"
    have kk : Kp (upd H3 T3 (.tup [.ref t, x])) (upd (upd H3 T3 (.tup [.ref t, x])) D (.lst (ys ++ [.ref T3]))) := Kp.lst hy4
    have k3 : Kp H3 (upd (upd H3 T3 (.tup [.ref t, x])) D (.lst (ys ++ [.ref T3]))) := (Kp.of (same_new hT3)).trans kk
    have el : l[i]? = some v := by
      have := congrArg List.head? f3
      rw [List.head?_drop] at this
      exact this
    refine ⟨But.same (s.trans (s2.trans (s3.trans (same_new hT3)))) hD But.upd, p', _, _, _, _, rfl, upd_same, ?_, by rw [List.length_append, hyl]; rfl, ?_, by omega, hle2, ?_⟩
    · rw [take_more el, takenFields_append]
      refine FsAt.push (FsAt.kp ((Kp.of (s2.trans s3)).trans k3) hv) ⟨T3, t, x, rfl, SqT.of (kk _ _ trivial upd_same), ?_, VAt.kp k3 hx⟩
      show Oc _ t (uI (v.1.map Rust.unitOf))
      rw [uI_unitOf]
      exact ht.kp ((Kp.of s3).trans k3)
    · rw [← hr2, f2]
      have := congrArg List.tail f3
      rw [List.tail_drop] at this
      rw [this]
      rfl
    · have := congrArg List.tail f3
      rw [List.tail_drop] at this
      rw [this]
      exact ok2
  · obtain ⟨s, qq, ys, o1, o2, o3, rfl, hy, hv, hyl, hr, hq, hq2, okr⟩ := hp
    rw [Nat.sub_self] at hr
    rw [← hml, List.take_length] at hv
    have hrr : r = bs.drop qq := (congrArg Prod.snd (Option.some.inj (show some ([], bs.drop qq) = some (_, r) from hr))).symm
    walk_at "ex"
    refine ⟨D, ys, rfl, hy, fun o => ?_⟩
    walk_at "ex"
    refine ⟨by show 2 ≤ sizeLine; rw [sizeLine_eq]; decide, fun T hT => ?_⟩
    have kk : Kp H' (upd H' D (.frz o (.lst ys))) := Kp.lst hy
    have s2 : Same H (upd H' D (.frz o (.lst ys))) := But.same s hD But.upd
    refine q T D ys qq _ (s2.trans (same_new hT)) upd_same ⟨o, same_new hT _ _ upd_same⟩ (FsAt.kp (kk.trans (Kp.of (same_new hT))) hv) hrr (by omega) hq2
end
/-! read_value -/
abbrev s_read_value : Stmt := top 42
abbrev N_read_value : List Str := ["octets", "at", "kind", "held", "place"]
theorem sc_read_value : FnScope N_read_value ["octets", "at"] (defScope s_read_value) := ⟨rfl, rfl, rfl, by decide +kernel, rfl, by decide +kernel, by decide +kernel⟩
section
variable {P : Program} {w : World} {K : PySem.W.Frag} {mg : Str → Option Value} {base : Heap}
theorem ca_read_value (F : Df K mg "read_value" s_read_value ["octets", "at"]) {z : Ads} (T : Gb K mg z)  {n c : Nat} (hc : 2 ≤ c) (c_read_record : Ca P w K mg base c "read_record" (sp_read_record n K)) (c_read_list : Ca P w K mg base c "read_list" (sp_read_list n K)) (c_read_text : Ca P w K mg base 2 "read_text" (sp_read_text K)) (c_read_integer : Ca P w K mg base 1 "read_integer" (sp_read_integer K)) : Ca P w K mg base (c + 1) "read_value" (sp_read_value (n+1) K) := by
  refine ca_mk F sc_read_value (fun vs H Q E h => by
    obtain ⟨_, _, _, _, _, rfl, _⟩ := h
    rfl
    ) (fun f cdv A outer s H vs Q E hr h => ?_)
  refine ⟨_, pss_cons (ps_set (i := 2) sc_read_value.nd rfl (Or.inl rfl) (pe_ix ix_list (pv 0) (pv 1) (fun _ _ => rfl))) (pss_cons (ps_if (pt_cmpR op_eq (pv 2) (pe_gk T.cINTEGER) (nomark _)) (pss_one (ps_ret (pe_tup (pa_cons (pe_tup (pa_cons (pe_gk T.cINTEGER) (pa_cons (pe_ca c_read_integer hr (by first | decide | omega) passN (pa_cons (pv 0) (pa_cons (pe_op op_add (pv 1) pe_int) pa_nil))) pa_nil))) (pa_cons (pe_op op_add (pv 1) pe_int) pa_nil))))) pss_nil) (pss_cons (ps_if (pt_cmpR op_eq (pv 2) (pe_gk T.cTEXT) (nomark _)) (pss_cons (ps_asg (pe_ca c_read_text hr (by first | decide | omega) passN (pa_cons (pv 0) (pa_cons (pe_op op_add (pv 1) pe_int) pa_nil))) (pg_tup rfl (pgs_cons (pg_name (i := 3) sc_read_value.nd rfl (Or.inl rfl)) (pgs_cons (pg_name (i := 4) sc_read_value.nd rfl (Or.inl rfl)) pgs_nil)))) (pss_one (ps_ret (pe_tup (pa_cons (pe_tup (pa_cons (pe_gk T.cTEXT) (pa_cons (pv 3) pa_nil))) (pa_cons (pv 4) pa_nil)))))) pss_nil) (pss_cons (ps_if (pt_cmpR op_eq (pv 2) (pe_gk T.cLIST) (nomark _)) (pss_cons (ps_asg (pe_ca c_read_list hr (by first | decide | omega) passN (pa_cons (pv 0) (pa_cons (pe_op op_add (pv 1) pe_int) pa_nil))) (pg_tup rfl (pgs_cons (pg_name (i := 3) sc_read_value.nd rfl (Or.inl rfl)) (pgs_cons (pg_name (i := 4) sc_read_value.nd rfl (Or.inl rfl)) pgs_nil)))) (pss_one (ps_ret (pe_tup (pa_cons (pe_tup (pa_cons (pe_gk T.cLIST) (pa_cons (pv 3) pa_nil))) (pa_cons (pv 4) pa_nil)))))) pss_nil) (pss_cons (ps_if (pt_cmpR op_eq (pv 2) (pe_gk T.cRECORD) (nomark _)) (pss_cons (ps_asg (pe_ca c_read_record hr (by first | decide | omega) passN (pa_cons (pv 0) (pa_cons (pe_op op_add (pv 1) pe_int) pa_nil))) (pg_tup rfl (pgs_cons (pg_name (i := 3) sc_read_value.nd rfl (Or.inl rfl)) (pgs_cons (pg_name (i := 4) sc_read_value.nd rfl (Or.inl rfl)) pgs_nil)))) (pss_one (ps_ret (pe_tup (pa_cons (pe_tup (pa_cons (pe_gk T.cRECORD) (pa_cons (pv 3) pa_nil))) (pa_cons (pv 4) pa_nil)))))) pss_nil) (pss_one (ps_ret (pe_tup (pa_cons (pe_tup (pa_cons (pv 2) (pa_cons pe_int pa_nil))) (pa_cons (pe_op op_add (pv 1) pe_int) pa_nil))))))))), ?_⟩
  obtain ⟨a, p, bs, v, r, rfl, hl, hr0, ok, hz, q⟩ := h
  obtain ⟨k, b', hb, hk⟩ := readF_cons hr0
  obtain ⟨hk0, rfl, hp⟩ := drop_cons hb
  have hkt := k.toNat_lt
  walk_at "ex"
  refine x_ixL hl (atI_int (bI_get hk0)) ?_
  walk_at "ex"
  refine ite_d (fun c => ?_) (fun c4 => ?_)
  · have e : k.toNat = 4 := by omega
    rw [e] at hk
    obtain ⟨rfl, rfl, h8⟩ := readInt_some (v := v) (r := r) hk
    walk_at "ex"
    refine ⟨a, p + 1, bs, rfl, hl, h8, ?_⟩
    walk_at "ex"
    refine ⟨by show 2 ≤ sizeLine; rw [sizeLine_eq]; decide, fun t ht => ?_⟩
    walk_at "ex"
    refine ⟨by show 2 ≤ sizeLine; rw [sizeLine_eq]; decide, fun T hT => ?_⟩
    rw [List.length_drop] at h8
    exact q T (.ref t) (p + 9) _ ((same_new ht).trans (same_new hT)) upd_same ⟨_, rfl, t, rfl, SqT.of (same_new hT _ _ upd_same)⟩ (by rw [List.drop_drop]) (by omega) (by omega)
  walk_at "ex"
  refine ite_d (fun c => ?_) (fun c6 => ?_)
  · have e : k.toNat = 6 := by omega
    rw [e] at hk
    obtain ⟨u, rfl, hu⟩ := readWords_some (v := v) (r := r) hk
    walk_at "ex"
    refine ⟨a, p + 1, bs, u, r, rfl, hl, hu, hz, fun T t p' H' s hT ht hr1 hlt hle => ?_⟩
    walk_at "ex"
    refine ⟨by show 2 ≤ sizeLine; rw [sizeLine_eq]; decide, fun t2 ht2 => ?_⟩
    walk_at "ex"
    refine ⟨by show 2 ≤ sizeLine; rw [sizeLine_eq]; decide, fun T2 hT2 => ?_⟩
    have k2 := Kp.of ((same_new (o := .tup [.int 6, .ref t]) ht2).trans (same_new (o := .tup [.ref t2, .int p']) hT2))
    refine q T2 (.ref t2) p' _ (s.trans ((same_new ht2).trans (same_new hT2))) upd_same ⟨t, ⟨t2, rfl, SqT.of (same_new hT2 _ _ upd_same)⟩, ?_⟩ hr1 (by omega) hle
    rw [uI_unitOf]
    exact ht.kp k2
  walk_at "ex"
  refine ite_d (fun c => ?_) (fun c7 => ?_)
  · have e : k.toNat = 7 := by omega
    rw [e] at hk
    obtain ⟨m, r0, l, rfl, h1, h2⟩ := readList_some (v := v) (r := r) hk
    walk_at "ex"
    refine ⟨a, p + 1, bs, m, r0, r, l, rfl, hl, h1, h2, ok, hz, fun T t xs p' H' s hT ht hv hr1 hlt hle => ?_⟩
    walk_at "ex"
    refine ⟨by show 2 ≤ sizeLine; rw [sizeLine_eq]; decide, fun t2 ht2 => ?_⟩
    walk_at "ex"
    refine ⟨by show 2 ≤ sizeLine; rw [sizeLine_eq]; decide, fun T2 hT2 => ?_⟩
    have k2 := Kp.of ((same_new (o := .tup [.int 7, .ref t]) ht2).trans (same_new (o := .tup [.ref t2, .int p']) hT2))
    exact q T2 (.ref t2) p' _ (s.trans ((same_new ht2).trans (same_new hT2))) upd_same ⟨t, xs, ⟨t2, rfl, SqT.of (same_new hT2 _ _ upd_same)⟩, ht.kp k2, VsAt.kp k2 hv⟩ hr1 (by omega) hle
  walk_at "ex"
  refine ite_d (fun c => ?_) (fun c8 => ?_)
  · have e : k.toNat = 8 := by omega
    rw [e] at hk
    obtain ⟨m, r0, l, rfl, h1, h2, _⟩ := readRecord_some (v := v) (r := r) hk
    walk_at "ex"
    refine ⟨a, p + 1, bs, m, r0, r, l, rfl, hl, h1, h2, ok, hz, fun T t xs p' H' s hT ht hv hr1 hlt hle => ?_⟩
    walk_at "ex"
    refine ⟨by show 2 ≤ sizeLine; rw [sizeLine_eq]; decide, fun t2 ht2 => ?_⟩
    walk_at "ex"
    refine ⟨by show 2 ≤ sizeLine; rw [sizeLine_eq]; decide, fun T2 hT2 => ?_⟩
    have k2 := Kp.of ((same_new (o := .tup [.int 8, .ref t]) ht2).trans (same_new (o := .tup [.ref t2, .int p']) hT2))
    exact q T2 (.ref t2) p' _ (s.trans ((same_new ht2).trans (same_new hT2))) upd_same ⟨t, xs, ⟨t2, rfl, SqT.of (same_new hT2 _ _ upd_same)⟩, ht.kp k2, FsAt.kp k2 hv⟩ hr1 (by omega) hle
  obtain ⟨g1, g2, g3⟩ := readKind_else hk (by omega) (by omega) (by omega) (by omega) ok
  walk_at "ex"
  refine ⟨by show 2 ≤ sizeLine; rw [sizeLine_eq]; decide, fun t ht => ?_⟩
  walk_at "ex"
  refine ⟨by show 2 ≤ sizeLine; rw [sizeLine_eq]; decide, fun T hT => ?_⟩
  refine q T (.ref t) (p + 1) _ ((same_new ht).trans (same_new hT)) upd_same ?_ g3 (by omega) (by omega)
  have ht3 : upd (upd H t (.tup [.int (k.toNat : Int), .int 0])) T (.tup [.ref t, .int ((p + 1 : Nat) : Int)]) t = some (.tup [.int (k.toNat : Int), .int 0]) := same_new hT _ _ upd_same
  rw [g2]
  have hc : k.toNat = 0 ∨ k.toNat = 1 ∨ k.toNat = 2 ∨ k.toNat = 3 := by omega
  rcases hc with e | e | e | e <;> rw [e] at ht3 ⊢ <;> exact ⟨t, rfl, SqT.of ht3⟩
end
section
variable {P : Program} {w : World} {K : PySem.W.Frag} {mg : Str → Option Value} {base : Heap}
theorem rv_all (Fv : Df K mg "read_value" s_read_value ["octets", "at"]) (Fl : Df K mg "read_list" s_read_list ["octets", "at"]) (Fr : Df K mg "read_record" s_read_record ["octets", "at"]) {z : Ads} (T : Gb K mg z)
    (c_read_count : Ca P w K mg base 1 "read_count" (sp_read_count K)) (c_read_text : Ca P w K mg base 2 "read_text" (sp_read_text K)) (c_read_integer : Ca P w K mg base 1 "read_integer" (sp_read_integer K)) : ∀ n, Ca P w K mg base (2 * n + 3) "read_value" (sp_read_value n K)
  | 0 => ca_mk (k := 2) Fv sc_read_value (fun vs H Q E h => by obtain ⟨_, _, _, _, _, rfl, _⟩ := h; rfl) (fun f cdv A outer s H vs Q E hr h => by
    obtain ⟨_, _, _, _, _, _, _, z, _⟩ := h
    cases z)
  | n + 1 => by
    have ih := rv_all Fv Fl Fr T c_read_count c_read_text c_read_integer n
    have h1 := ca_read_list Fl T (by omega) ih c_read_count
    have h2 := ca_read_record Fr T (by omega) ih c_read_text c_read_count
    have h3 := ca_read_value Fv T (by omega) h2 h1 c_read_text c_read_integer
    exact h3.mono (by omega)
end
end OK
namespace OK
open PySem PySem.Spec PyProof.Rows L2
open R7290f.Spec (Plain Units boundValue keyValue textOf)
theorem items_ints {H : Hp} {ys : List V} {l : List Int} (h : Items (fun _ i v => ∃ c, l[i]? = some c ∧ v = V.int c) H l.length ys) : ys = l.map V.int := by
  refine List.ext_getElem? fun i => ?_
  rw [List.getElem?_map]
  cases e : l[i]? with
  | none => exact List.getElem?_eq_none (by rw [h.1]; exact List.getElem?_eq_none_iff.mp e)
  | some c =>
    have hi : i < ys.length := by
      rw [h.1]
      exact (List.getElem?_eq_some_iff.mp e).1
    obtain ⟨c', e1, e2⟩ := h.2 i _ (List.getElem?_eq_getElem hi)
    rw [List.getElem?_eq_getElem hi, e2]
    rw [e] at e1
    cases e1
    rfl
theorem two_le : 2 ≤ sizeLine := by rw [sizeLine_eq]; decide
theorem one_le : 1 ≤ sizeLine := by rw [sizeLine_eq]; decide
/-- texts, item by item -/
def UL (H : Hp) (vs : List V) (us : List Units) : Prop := vs.length = us.length ∧ ∀ (i : Nat) v u, vs[i]? = some v → us[i]? = some u → ∃ a, v = .ref a ∧ Oc H a (uI u)
theorem UL.kp {H H' : Hp} {vs : List V} {us : List Units} (h : UL H vs us) (q : Kp H H') : UL H' vs us := ⟨h.1, fun i v u e1 e2 => let ⟨a, e, o⟩ := h.2 i v u e1 e2; ⟨a, e, o.kp q⟩⟩
theorem KL.ul {H : Hp} {vs : List V} {ks : List (List Nat)} (h : KL H vs ks) (d : ∀ k ∈ ks, Dig k) : UL H vs (ks.map textOf) := by
  refine ⟨by rw [List.length_map]; exact h.1, fun i v u e1 e2 => ?_⟩
  rw [List.getElem?_map] at e2
  cases e : ks[i]? with
  | none => rw [e] at e2; cases e2
  | some k =>
    rw [e] at e2
    cases e2
    rw [uI_textOf (d k (List.mem_of_getElem? e))]
    exact h.2 i v k e1 e
/-! octets_of -/
abbrev s_octets_of : Stmt := top 29
abbrev N_octets_of : List Str := ["word", "sign"]
theorem sc_octets_of : FnScope N_octets_of ["word"] (defScope s_octets_of) := ⟨rfl, rfl, rfl, by decide +kernel, rfl, by decide +kernel, by decide +kernel⟩
def sp_octets_of (_ : PySem.W.Frag) : Sp := fun vs H Q _ => ∃ w : Str, vs = [.str w] ∧ w.cps.size ≤ 1000 ∧ ∀ p H', Same H H' → Oc H' p (cI w) → Q (.ref p) H'
section
variable {P : Program} {w : World} {K : PySem.W.Frag} {mg : Str → Option Value} {base : Heap}
theorem ca_octets_of (F : Df K mg "octets_of" s_octets_of ["word"]) {z : Ads} (T : Gb K mg z)   : Ca P w K mg base 1 "octets_of" (sp_octets_of K) := by
  refine ca_mk F sc_octets_of (fun vs H Q E h => by
    obtain ⟨_, rfl, _⟩ := h
    rfl
    ) (fun f cdv A outer s H vs Q E hr h => ?_)
  refine ⟨_, pss_one (ps_ret (pe_tuple T.tuple (pe_lc (own := [("sign", 1)]) (g := (gName 1)) (tt := tYes) rfl sc_octets_of.nd (pi_str (pv 0)) (blkOk_by (own := [("sign", 1)]) (N := N_octets_of) (sc := defScope s_octets_of) (by decide +kernel)) (fun _ _ _ _ _ => (pg_name (i := 1) sc_octets_of.nd rfl (Or.inl rfl))) (fun _ _ _ _ _ => pts_nil) (fun _ _ _ _ _ => (pe_ord T.ord (pv 1)))))), ?_⟩
  obtain ⟨w, rfl, hz, q⟩ := h
  walk_at "ex"
  refine x_lcs (by omega) (fun _ i v => ∃ c, (cI w)[i]? = some c ∧ v = V.int c) (fun _ _ _ _ _ h => h) (fun i c H' hc s Q' hQ => ?_) (fun D H' ys hD s hy it => ?_)
  · walk_at "ex"
    refine ⟨rfl, ?_⟩
    walk_at "ex"
    refine x_ord rfl (hQ _ _ (Same.refl _) ⟨(c : Int), ?_, rfl⟩)
    unfold cI
    rw [List.getElem?_map, Array.getElem?_toList, hc]
    rfl
  · walk_at "ex"
    refine fun l hl => q l _ (s.trans (same_new hl)) ?_
    rw [← cI_len] at it
    rw [items_ints it]
    exact upd_same
end
/-! integer_value -/
abbrev s_integer_value : Stmt := top 30
abbrev N_integer_value : List Str := ["number"]
theorem sc_integer_value : FnScope N_integer_value ["number"] (defScope s_integer_value) := ⟨rfl, rfl, rfl, by decide +kernel, rfl, by decide +kernel, by decide +kernel⟩
def sp_integer_value (K : PySem.W.Frag) : Sp := fun vs H Q _ => ∃ i : Int, vs = [.int i] ∧ ∀ x H', Same H H' → VAt K H' (.num (some i)) x → Q x H'
section
variable {P : Program} {w : World} {K : PySem.W.Frag} {mg : Str → Option Value} {base : Heap}
theorem ca_integer_value (F : Df K mg "integer_value" s_integer_value ["number"]) {z : Ads} (T : Gb K mg z)   : Ca P w K mg base 1 "integer_value" (sp_integer_value K) := by
  refine ca_mk F sc_integer_value (fun vs H Q E h => by
    obtain ⟨_, rfl, _⟩ := h
    rfl
    ) (fun f cdv A outer s H vs Q E hr h => ?_)
  refine ⟨_, pss_one (ps_ret (pe_tup (pa_cons (pe_gk T.cINTEGER) (pa_cons (pv 0) pa_nil)))), ?_⟩
  obtain ⟨i, rfl, q⟩ := h
  walk_at "ex"
  refine ⟨two_le, fun t ht => q _ _ (same_new ht) ⟨i, rfl, t, rfl, SqT.of upd_same⟩⟩
end
/-! text_value -/
abbrev s_text_value : Stmt := top 31
abbrev N_text_value : List Str := ["octets"]
theorem sc_text_value : FnScope N_text_value ["octets"] (defScope s_text_value) := ⟨rfl, rfl, rfl, by decide +kernel, rfl, by decide +kernel, by decide +kernel⟩
def sp_text_value (K : PySem.W.Frag) : Sp := fun vs H Q _ => ∃ (a : Addr) (u : Units), vs = [.ref a] ∧ Oc H a (uI u) ∧ ∀ x H', Same H H' → VAt K H' (.str u) x → Q x H'
section
variable {P : Program} {w : World} {K : PySem.W.Frag} {mg : Str → Option Value} {base : Heap}
theorem ca_text_value (F : Df K mg "text_value" s_text_value ["octets"]) {z : Ads} (T : Gb K mg z)   : Ca P w K mg base 1 "text_value" (sp_text_value K) := by
  refine ca_mk F sc_text_value (fun vs H Q E h => by
    obtain ⟨_, _, rfl, _⟩ := h
    rfl
    ) (fun f cdv A outer s H vs Q E hr h => ?_)
  refine ⟨_, pss_one (ps_ret (pe_tup (pa_cons (pe_gk T.cTEXT) (pa_cons (pv 0) pa_nil)))), ?_⟩
  obtain ⟨a, u, rfl, ho, q⟩ := h
  walk_at "ex"
  refine ⟨two_le, fun t ht => q _ _ (same_new ht) ⟨a, ⟨t, rfl, SqT.of upd_same⟩, ho.kp (Kp.of (same_new ht))⟩⟩
end
/-! list_value -/
abbrev s_list_value : Stmt := top 32
abbrev N_list_value : List Str := ["values"]
theorem sc_list_value : FnScope N_list_value ["values"] (defScope s_list_value) := ⟨rfl, rfl, rfl, by decide +kernel, rfl, by decide +kernel, by decide +kernel⟩
def sp_list_value (K : PySem.W.Frag) : Sp := fun vs H Q _ => ∃ (a : Addr) (xs : List V) (l : List Plain), vs = [.ref a] ∧ Lf H a xs ∧ VsAt K H l xs ∧ ∀ x H', Same H H' → VAt K H' (.arr l) x → Q x H'
section
variable {P : Program} {w : World} {K : PySem.W.Frag} {mg : Str → Option Value} {base : Heap}
theorem ca_list_value (F : Df K mg "list_value" s_list_value ["values"]) {z : Ads} (T : Gb K mg z)   : Ca P w K mg base 1 "list_value" (sp_list_value K) := by
  refine ca_mk F sc_list_value (fun vs H Q E h => by
    obtain ⟨_, _, _, rfl, _⟩ := h
    rfl
    ) (fun f cdv A outer s H vs Q E hr h => ?_)
  refine ⟨_, pss_one (ps_ret (pe_tup (pa_cons (pe_gk T.cLIST) (pa_cons (pv 0) pa_nil)))), ?_⟩
  obtain ⟨a, xs, l, rfl, ho, hv, q⟩ := h
  walk_at "ex"
  refine ⟨two_le, fun t ht => q _ _ (same_new ht) ⟨a, xs, ⟨t, rfl, SqT.of upd_same⟩, ho.kp (Kp.of (same_new ht)), VsAt.kp (Kp.of (same_new ht)) hv⟩⟩
end
/-! texts_value -/
abbrev s_texts_value : Stmt := top 33
abbrev N_texts_value : List Str := ["texts", "octets"]
theorem sc_texts_value : FnScope N_texts_value ["texts"] (defScope s_texts_value) := ⟨rfl, rfl, rfl, by decide +kernel, rfl, by decide +kernel, by decide +kernel⟩
def sp_texts_value (K : PySem.W.Frag) : Sp := fun vs H Q _ => ∃ (a : Addr) (xs : List V) (us : List Units), vs = [.ref a] ∧ SqL K H a xs ∧ UL H xs us ∧ us.length ≤ 1000 ∧ ∀ x H', Same H H' → VAt K H' (.arr (us.map Plain.str)) x → Q x H'
section
variable {P : Program} {w : World} {K : PySem.W.Frag} {mg : Str → Option Value} {base : Heap}
theorem ca_texts_value (F : Df K mg "texts_value" s_texts_value ["texts"]) {z : Ads} (T : Gb K mg z)   : Ca P w K mg base 1 "texts_value" (sp_texts_value K) := by
  refine ca_mk F sc_texts_value (fun vs H Q E h => by
    obtain ⟨_, _, _, rfl, _⟩ := h
    rfl
    ) (fun f cdv A outer s H vs Q E hr h => ?_)
  refine ⟨_, pss_one (ps_ret (pe_tup (pa_cons (pe_gk T.cLIST) (pa_cons (pe_fz (pe_lc (own := [("octets", 1)]) (g := (gName 1)) (tt := tYes) rfl sc_texts_value.nd (pi_list (pv 0)) (blkOk_by (own := [("octets", 1)]) (N := N_texts_value) (sc := defScope s_texts_value) (by decide +kernel)) (fun _ _ _ _ _ => (pg_name (i := 1) sc_texts_value.nd rfl (Or.inl rfl))) (fun _ _ _ _ _ => pts_nil) (fun _ _ _ _ _ => (pe_tup (pa_cons (pe_gk T.cTEXT) (pa_cons (pv 1) pa_nil)))))) pa_nil)))), ?_⟩
  obtain ⟨a, xs, us, rfl, hl, hu, hz, q⟩ := h
  walk_at "ex"
  refine x_lcl hl (by rw [hu.1]; omega) (fun H i v => ∃ u, us[i]? = some u ∧ VAt K H (.str u) v) (fun H H' i v k h => let ⟨u, e, o⟩ := h; ⟨u, e, VAt.kp k o⟩) (fun x H => gName_mono x _ H) (fun i x H' hx s Q' hQ => ?_) (fun D H' ys hD s hy it => ?_)
  · have hi : i < us.length := by
      rw [← hu.1]
      exact (List.getElem?_eq_some_iff.mp hx).1
    obtain ⟨b, rfl, ho⟩ := hu.2 i x _ hx (List.getElem?_eq_getElem hi)
    walk_at "ex"
    refine ⟨rfl, ?_⟩
    walk_at "ex"
    refine ⟨two_le, fun t ht => hQ _ _ (same_new ht) ⟨us[i], List.getElem?_eq_getElem hi, b, ⟨t, rfl, SqT.of upd_same⟩, ?_⟩⟩
    exact ho.kp (Kp.of (s.trans (same_new ht)))
  · refine ⟨D, ys, rfl, hy, fun o => ?_⟩
    walk_at "ex"
    refine ⟨two_le, fun t ht => ?_⟩
    have kk : Kp H' (upd H' D (.frz o (.lst ys))) := Kp.lst hy
    have s2 : Same H (upd H' D (.frz o (.lst ys))) := But.same s hD But.upd
    refine q _ _ (s2.trans (same_new ht)) ⟨D, ys, ⟨t, rfl, SqT.of upd_same⟩, ⟨o, same_new ht _ _ upd_same⟩, VsAt.kp (kk.trans (Kp.of (same_new ht))) (VsAt.of ?_ fun i p x e1 e2 => ?_)⟩
    · rw [it.1, hu.1, List.length_map]
    · obtain ⟨u, e3, hv⟩ := it.2 i x e2
      rw [List.getElem?_map, e3] at e1
      cases e1
      exact hv
end
/-! bound_value -/
abbrev s_bound_value : Stmt := top 34
abbrev N_bound_value : List Str := ["bound"]
theorem sc_bound_value : FnScope N_bound_value ["bound"] (defScope s_bound_value) := ⟨rfl, rfl, rfl, by decide +kernel, rfl, by decide +kernel, by decide +kernel⟩
def sp_bound_value (K : PySem.W.Frag) : Sp := fun vs H Q _ => ∃ (v : V) (b : Option (List Nat)), vs = [v] ∧ BAt H v b ∧ BDig b ∧ ∀ x H', Same H H' → VAt K H' (boundValue b) x → Q x H'
section
variable {P : Program} {w : World} {K : PySem.W.Frag} {mg : Str → Option Value} {base : Heap}
theorem ca_bound_value (F : Df K mg "bound_value" s_bound_value ["bound"]) {z : Ads} (T : Gb K mg z)   : Ca P w K mg base 1 "bound_value" (sp_bound_value K) := by
  refine ca_mk F sc_bound_value (fun vs H Q E h => by
    obtain ⟨_, _, rfl, _⟩ := h
    rfl
    ) (fun f cdv A outer s H vs Q E hr h => ?_)
  refine ⟨_, pss_cons (ps_if (pt_cmp (pc_isN (pv 0))) (pss_one (ps_ret (pe_gk T.cNULL))) pss_nil) (pss_one (ps_ret (pe_tup (pa_cons (pe_gk T.cTEXT) (pa_cons (pv 0) pa_nil))))), ?_⟩
  obtain ⟨v, b, rfl, hb, hd, q⟩ := h
  cases b with
  | none =>
    have e : v = .non := hb
    subst e
    walk_at "ex"
    refine ite_t rfl ?_
    walk_at "ex"
    exact q _ _ (Same.refl _) ⟨z.aU, rfl, T.tU H⟩
  | some k =>
    obtain ⟨a, rfl, ho⟩ := hb
    walk_at "ex"
    refine ite_f (fun h => nomatch of_decide_eq_true h) ?_
    walk_at "ex"
    refine ⟨two_le, fun t ht => q _ _ (same_new ht) ⟨a, ⟨t, rfl, SqT.of upd_same⟩, ?_⟩⟩
    rw [uI_textOf (hd k rfl)]
    exact ho.kp (Kp.of (same_new ht))
end
/-! record_value -/
abbrev s_record_value : Stmt := top 35
abbrev N_record_value : List Str := ["members", "word", "value"]
theorem sc_record_value : FnScope N_record_value ["members"] (defScope s_record_value) := ⟨rfl, rfl, rfl, by decide +kernel, rfl, by decide +kernel, by decide +kernel⟩
def sp_record_value (K : PySem.W.Frag) : Sp := fun vs H Q _ => ∃ (a : Addr) (xs : List V) (fs : List (Units × Plain)), vs = [.ref a] ∧ SqL K H a xs ∧ xs.length = fs.length ∧ fs.length ≤ 1000 ∧
  (∀ (i : Nat) x f, xs[i]? = some x → fs[i]? = some f → ∃ t w y, x = .ref t ∧ SqT K H t [.str w, y] ∧ w.cps.size ≤ 1000 ∧ cI w = uI f.1 ∧ VAt K H f.2 y) ∧ ∀ x H', Same H H' → VAt K H' (.obj fs) x → Q x H'
section
variable {P : Program} {w : World} {K : PySem.W.Frag} {mg : Str → Option Value} {base : Heap}
theorem ca_record_value (F : Df K mg "record_value" s_record_value ["members"]) {z : Ads} (T : Gb K mg z)  (c_octets_of : Ca P w K mg base 1 "octets_of" (sp_octets_of K)) : Ca P w K mg base 2 "record_value" (sp_record_value K) := by
  refine ca_mk F sc_record_value (fun vs H Q E h => by
    obtain ⟨_, _, _, rfl, _⟩ := h
    rfl
    ) (fun f cdv A outer s H vs Q E hr h => ?_)
  refine ⟨_, pss_one (ps_ret (pe_tup (pa_cons (pe_gk T.cRECORD) (pa_cons (pe_fz (pe_lc (own := [("word", 1), ("value", 2)]) (g := (gTup K 2 (gCons (gName 1) (gCons (gName 2) gNil)))) (tt := tYes) rfl sc_record_value.nd (pi_list (pv 0)) (blkOk_by (own := [("word", 1), ("value", 2)]) (N := N_record_value) (sc := defScope s_record_value) (by decide +kernel)) (fun _ _ _ _ _ => (pg_tup rfl (pgs_cons (pg_name (i := 1) sc_record_value.nd rfl (Or.inl rfl)) (pgs_cons (pg_name (i := 2) sc_record_value.nd rfl (Or.inl rfl)) pgs_nil)))) (fun _ _ _ _ _ => pts_nil) (fun _ _ _ _ _ => (pe_tup (pa_cons (pe_ca c_octets_of hr (by first | decide | omega) passN (pa_cons (pv 1) pa_nil)) (pa_cons (pv 2) pa_nil)))))) pa_nil)))), ?_⟩
  obtain ⟨a, xs, fs, rfl, hl, hn, hz, hx, q⟩ := h
  walk_at "ex"
  refine x_lcl hl (by omega) (fun H i v => ∃ f, fs[i]? = some f ∧ FAt K H f v) (fun H H' i v k h => let ⟨u, e, o⟩ := h; ⟨u, e, o.kp k⟩) (fun x H => gPair_mono x _ H) (fun i x H' hxi s Q' hQ => ?_) (fun D H' ys hD s hy it => ?_)
  · have hi : i < fs.length := by
      rw [← hn]
      exact (List.getElem?_eq_some_iff.mp hxi).1
    obtain ⟨t, w, y, rfl, ht, hw, hc, hv⟩ := hx i x _ hxi (List.getElem?_eq_getElem hi)
    have ht2 := sqT_same s ht
    walk_at "ex"
    refine ⟨rfl, ?_⟩
    walk_at "ex"
    refine ⟨w, rfl, hw, fun p H2 s2 hp => ?_⟩
    walk_at "ex"
    refine ⟨two_le, fun t2 ht2 => hQ _ _ (s2.trans (same_new ht2)) ⟨fs[i], List.getElem?_eq_getElem hi, t2, p, y, rfl, SqT.of upd_same, ?_, ?_⟩⟩
    · rw [← hc]
      exact hp.kp (Kp.of (same_new ht2))
    · exact VAt.kp (Kp.of (s.trans (s2.trans (same_new ht2)))) hv
  · refine ⟨D, ys, rfl, hy, fun o => ?_⟩
    walk_at "ex"
    refine ⟨two_le, fun t ht => ?_⟩
    have kk : Kp H' (upd H' D (.frz o (.lst ys))) := Kp.lst hy
    have s2 : Same H (upd H' D (.frz o (.lst ys))) := But.same s hD But.upd
    refine q _ _ (s2.trans (same_new ht)) ⟨D, ys, ⟨t, rfl, SqT.of upd_same⟩, ⟨o, same_new ht _ _ upd_same⟩, FsAt.kp (kk.trans (Kp.of (same_new ht))) (FsAt.of ?_ fun i p x e1 e2 => ?_)⟩
    · rw [it.1, hn]
    · obtain ⟨f, e3, hv⟩ := it.2 i x e2
      rw [e3] at e1
      cases e1
      exact hv
end
/-! member_of -/
abbrev s_member_of : Stmt := top 36
abbrev N_member_of : List Str := ["record", "word", "wanted", "name", "value"]
theorem sc_member_of : FnScope N_member_of ["record", "word"] (defScope s_member_of) := ⟨rfl, rfl, rfl, by decide +kernel, rfl, by decide +kernel, by decide +kernel⟩
theorem uI_inj : ∀ {a b : List UInt16}, uI a = uI b → a = b
  | [], [], _ => rfl
  | [], _ :: _, h => by cases h
  | _ :: _, [], h => by cases h
  | x :: a, y :: b, h => by
    injection h with h1 h2
    rw [uI_inj h2, UInt16.toNat_inj.mp (Int.ofNat.inj h1)]
def sp_member_of (K : PySem.W.Frag) : Sp := fun vs H Q _ => ∃ (v : V) (w : Str) (fs : List (Units × Plain)) (u : Units), vs = [v, .str w] ∧ VAt K H (.obj fs) v ∧ w.cps.size ≤ 1000 ∧ cI w = uI u ∧ ∀ x H', Same H H' → VAt K H' (((fs.find? fun f => f.1 == u).map fun f => f.2).getD .undef) x → Q x H'
section
variable {P : Program} {w : World} {K : PySem.W.Frag} {mg : Str → Option Value} {base : Heap}
theorem ca_member_of (F : Df K mg "member_of" s_member_of ["record", "word"]) {z : Ads} (T : Gb K mg z)  (c_octets_of : Ca P w K mg base 1 "octets_of" (sp_octets_of K)) : Ca P w K mg base 2 "member_of" (sp_member_of K) := by
  refine ca_mk F sc_member_of (fun vs H Q E h => by
    obtain ⟨_, _, _, _, rfl, _⟩ := h
    rfl
    ) (fun f cdv A outer s H vs Q E hr h => ?_)
  refine ⟨_, pss_cons (ps_set (i := 2) sc_member_of.nd rfl (Or.inl rfl) (pe_ca c_octets_of hr (by first | decide | omega) passN (pa_cons (pv 1) pa_nil))) (pss_cons (ps_for rzp rfl (pi_list (pe_ix ix_tup (pv 0) pe_int (fun _ _ => rfl))) (pg_tup rfl (pgs_cons (pg_name (i := 3) sc_member_of.nd rfl (Or.inl rfl)) (pgs_cons (pg_name (i := 4) sc_member_of.nd rfl (Or.inl rfl)) pgs_nil))) (pss_one (ps_if (pt_cmpR (op_eqD hr.units) (pv 3) (pv 2) (nomark _)) (pss_one (ps_ret (pv 4))) pss_nil))) (pss_one (ps_ret (pe_gk T.cNOTHING)))), ?_⟩
  obtain ⟨v, w, fs, u, rfl, hv, hw, hc, q⟩ := h
  obtain ⟨l, xs, ⟨a, rfl, ht⟩, hl, hf⟩ := hv
  walk_at "ex"
  refine ⟨w, rfl, hw, fun p H1 s1 hp => ?_⟩
  have ht1 := sqT_same s1 ht
  have hl1 : Lf H1 l xs := hl.kp (Kp.of s1)
  have hf1 : FsAt K H1 fs xs := FsAt.kp (Kp.of s1) hf
  walk_at "ex"
  refine x_fl hl1.l (fun i σ H' => H' = H1 ∧ (∀ f ∈ fs.take i, ¬ f.1 = u) ∧ ∃ o1 o2, σ = [some (.ref a), some (.str w), some (.ref p), o1, o2]) ⟨rfl, fun f hf => by simp at hf, none, none, rfl⟩ (fun i σ H' _ p => p.1 ▸ hl1.l) (fun i x σ H' hi hp' => ?_) (fun σ H' hp' => ?_)
  · obtain ⟨rfl, hn, o1, o2, rfl⟩ := hp'
    obtain ⟨f, hfi, t, b, y, rfl, htt, hb, hy⟩ := hf1.get hi
    walk_at "ex"
    refine x_eqT hb.t hp.t ?_
    walk_at "ex"
    rw [hc]
    refine ite_d (fun c => ?_) (fun c => ?_)
    · walk_at "ex"
      refine q _ _ s1 ?_
      have e : fs.find? (fun f => f.1 == u) = some f := by
        rw [List.find?_eq_some_iff_getElem]
        refine ⟨by simp [uI_inj c], i, (List.getElem?_eq_some_iff.mp hfi).1, (List.getElem?_eq_some_iff.mp hfi).2, fun j hj => ?_⟩
        have hji : j < fs.length := by have := (List.getElem?_eq_some_iff.mp hfi).1; omega
        have := hn fs[j] (List.mem_take_iff_getElem.mpr ⟨j, by omega, rfl⟩)
        simp [this]
      rw [e]
      exact hy
    · walk_at "ex"
      refine ⟨rfl, fun g hg => ?_, _, _, rfl⟩
      rw [take_more hfi, List.mem_append] at hg
      rcases hg with hg | hg
      · exact hn g hg
      · cases List.mem_singleton.mp hg
        exact fun z => c (by rw [z])
  · obtain ⟨rfl, hn, o1, o2, rfl⟩ := hp'
    rw [hf1.len, List.take_length] at hn
    walk_at "ex"
    refine q _ _ s1 ?_
    have e : fs.find? (fun f => f.1 == u) = none := by
      rw [List.find?_eq_none]
      exact fun f hf => by simp [hn f hf]
    rw [e]
    exact ⟨z.aN, rfl, T.tN H'⟩

end
end OK
namespace OK
open PySem PySem.Spec PyProof.Rows L2
open R7290f.Spec (Plain Units)
theorem same_none {H H1 : Hp} {p : Addr} (s : Same H H1) (h : H1 p = none) : H p = none := by
  cases e : H p with
  | none => rfl
  | some o =>
    rw [s _ _ e] at h
    cases h
/-- a new list of octets -/
abbrev NewO (H : Hp) (Q : VK) (l : List UInt8) : Prop := ∀ (a : Addr) (H' : Hp), H a = none → Same H H' → H' a = some (.lst ((bI l).map V.int)) → Q (.ref a) H'
/-! lowest_first -/
abbrev s_lowest_first : Stmt := top 43
abbrev N_lowest_first : List Str := ["number", "many", "octets", "rest", "step"]
theorem sc_lowest_first : FnScope N_lowest_first ["number", "many"] (defScope s_lowest_first) := ⟨rfl, rfl, rfl, by decide +kernel, rfl, by decide +kernel, by decide +kernel⟩
def sp_lowest_first (_ : PySem.W.Frag) : Sp := fun vs H Q _ => ∃ n k : Nat, vs = [.int n, .int k] ∧ k ≤ 100 ∧ NewO H Q (RWire.low k n)
section
variable {P : Program} {w : World} {K : PySem.W.Frag} {mg : Str → Option Value} {base : Heap}
theorem ca_lowest_first (F : Df K mg "lowest_first" s_lowest_first ["number", "many"]) {z : Ads} (T : Gb K mg z)   : Ca P w K mg base 1 "lowest_first" (sp_lowest_first K) := by
  refine ca_mk F sc_lowest_first (fun vs H Q E h => by
    obtain ⟨_, _, rfl, _⟩ := h
    rfl
    ) (fun f cdv A outer s H vs Q E hr h => ?_)
  refine ⟨_, pss_cons (ps_set (i := 2) sc_lowest_first.nd rfl (Or.inl rfl) (pe_lst pa_nil)) (pss_cons (ps_set (i := 3) sc_lowest_first.nd rfl (Or.inl rfl) (pv 0)) (pss_cons (ps_for rzp rfl (pi_range1 (by rfl) T.range (pa_cons (pv 1) pa_nil)) (pg_name (i := 4) sc_lowest_first.nd rfl (Or.inl rfl)) (pss_cons (ps_expr (pe_bm PySem.F.plainAttrs_list PySem.F.slot_list_append PySem.F.type_list_append mt_append (pv 2) (pa_cons (pe_op op_mod (pv 3) pe_int) pa_nil))) (pss_one (ps_aug (i := 3) sc_lowest_first.nd rfl (Or.inl rfl) pe_int iop_fdiv)))) (pss_one (ps_ret (pv 2))))), ?_⟩
  obtain ⟨n, k, rfl, hk, q⟩ := h
  walk_at "ex"
  refine ⟨by show 0 ≤ sizeLine; exact Nat.zero_le _, fun D hD => ?_⟩
  walk_at "ex"
  refine x_r1 k rfl (by omega) (fun i σ H' => Same H H' ∧ H' D = some (.lst ((bI (RWire.low i n)).map V.int)) ∧ ∃ o, σ = [some (.int n), some (.int k), some (.ref D), some (.int ((n / 256 ^ i : Nat) : Int)), o]) ⟨same_new hD, upd_same, none, by rw [Nat.pow_zero, Nat.div_one]; rfl⟩ (fun i σ H' hi hp => ?_) (fun σ H' hp => ?_)
  · obtain ⟨s, hy, o, rfl⟩ := hp
    walk_at "ex"
    refine x_app hy (sz1 (by rw [List.length_map, bI_len, low_len]; omega)) ?_
    walk_at "ex"
    refine ⟨But.same s hD But.upd, ?_, some (.int (i : Int)), ?_⟩
    · rw [upd_same, low_snoc, List.map_append]
      rfl
    · rw [Nat.pow_succ, ← Nat.div_div_eq_div_mul]
      rfl
  · obtain ⟨s, hy, o, rfl⟩ := hp
    walk_at "ex"
    exact q D H' hD s hy
end
/-! written_text -/
abbrev s_written_text : Stmt := top 44
abbrev N_written_text : List Str := ["octets"]
theorem sc_written_text : FnScope N_written_text ["octets"] (defScope s_written_text) := ⟨rfl, rfl, rfl, by decide +kernel, rfl, by decide +kernel, by decide +kernel⟩
def sp_written_text (K : PySem.W.Frag) : Sp := fun vs H Q _ => ∃ (a : Addr) (u : List UInt8), vs = [.ref a] ∧ SqT K H a ((bI u).map V.int) ∧ u.length ≤ 70000 ∧ NewO H Q (RWire.writeText u)
section
variable {P : Program} {w : World} {K : PySem.W.Frag} {mg : Str → Option Value} {base : Heap}
theorem ca_written_text (F : Df K mg "written_text" s_written_text ["octets"]) {z : Ads} (T : Gb K mg z)  (c_lowest_first : Ca P w K mg base 1 "lowest_first" (sp_lowest_first K)) : Ca P w K mg base 2 "written_text" (sp_written_text K) := by
  refine ca_mk F sc_written_text (fun vs H Q E h => by
    obtain ⟨_, _, rfl, _⟩ := h
    rfl
    ) (fun f cdv A outer s H vs Q E hr h => ?_)
  refine ⟨_, pss_one (ps_ret (pe_op op_cat (pe_ca c_lowest_first hr (by first | decide | omega) passN (pa_cons (pe_len T.len (pv 0)) (pa_cons pe_int pa_nil))) (pe_listS T.list (pv 0)))), ?_⟩
  obtain ⟨a, u, rfl, hu, hz, q⟩ := h
  walk_at "ex"
  refine ⟨u.length, 4, by rw [List.length_map, bI_len]; rfl, by decide, fun l H1 hl s1 h1 => ?_⟩
  have hu1 := sqT_same s1 hu
  walk_at "ex"
  refine fun l2 hl2 => ?_
  have s2 : Same H1 (upd H1 l2 (.lst ((bI u).map V.int))) := same_new hl2
  walk_at "ex"
  refine x_cat (s2 _ _ h1) upd_same (by rw [List.length_map, List.length_map, bI_len, bI_len, low_len]; exact sz0 (by omega)) fun p hp => ?_
  refine q p _ (same_none (s1.trans s2) hp) (s1.trans (s2.trans (same_new hp))) ?_
  rw [upd_same, ← List.map_append, ← bI_append]
  rfl
end
/-! written_integer -/
abbrev s_written_integer : Stmt := top 45
abbrev N_written_integer : List Str := ["number"]
theorem sc_written_integer : FnScope N_written_integer ["number"] (defScope s_written_integer) := ⟨rfl, rfl, rfl, by decide +kernel, rfl, by decide +kernel, by decide +kernel⟩
def sp_written_integer (_ : PySem.W.Frag) : Sp := fun vs H Q _ => ∃ i : Int, vs = [.int i] ∧ i.natAbs ≤ RWire.intMost ∧ NewO H Q (RWire.writeInt i)
section
variable {P : Program} {w : World} {K : PySem.W.Frag} {mg : Str → Option Value} {base : Heap}
theorem ca_written_integer (F : Df K mg "written_integer" s_written_integer ["number"]) {z : Ads} (T : Gb K mg z)  (c_lowest_first : Ca P w K mg base 1 "lowest_first" (sp_lowest_first K)) : Ca P w K mg base 2 "written_integer" (sp_written_integer K) := by
  refine ca_mk F sc_written_integer (fun vs H Q E h => by
    obtain ⟨_, rfl, _⟩ := h
    rfl
    ) (fun f cdv A outer s H vs Q E hr h => ?_)
  refine ⟨_, pss_cons (ps_if (pt_cmpR op_lt (pv 0) pe_int (nomark _)) (pss_one (ps_ret (pe_ca c_lowest_first hr (by first | decide | omega) passN (pa_cons (pe_op op_add (pv 0) (pe_op op_pow pe_int pe_int)) (pa_cons pe_int pa_nil))))) pss_nil) (pss_one (ps_ret (pe_ca c_lowest_first hr (by first | decide | omega) passN (pa_cons (pv 0) (pa_cons pe_int pa_nil))))), ?_⟩
  obtain ⟨i, rfl, hi, q⟩ := h
  unfold RWire.intMost at hi
  walk_at "ex"
  refine ite_d (fun c => ?_) (fun c => ?_)
  · walk_at "ex"
    have e : i + 2 ^ Int.toNat 64 = (((i % RWire.wordMost).toNat : Nat) : Int) := by
      show i + 18446744073709551616 = _
      unfold RWire.wordMost
      omega
    refine ⟨(i % RWire.wordMost).toNat, 8, by rw [← e]; rfl, by decide, fun l H1 hl s1 h1 => ?_⟩
    exact q l H1 hl s1 h1
  · walk_at "ex"
    have e : i = (((i % RWire.wordMost).toNat : Nat) : Int) := by
      unfold RWire.wordMost
      omega
    refine ⟨(i % RWire.wordMost).toNat, 8, by rw [← e]; rfl, by decide, fun l H1 hl s1 h1 => ?_⟩
    exact q l H1 hl s1 h1
end
def sp_written_value (n : Nat) (K : PySem.W.Frag) : Sp := fun vs H Q _ => ∃ (v : V) (p : Plain), vs = [v] ∧ VAt K H p v ∧ Tell n p ∧ NewO H Q (RWire.write (Rust.given p))
def sp_written_list (n : Nat) (K : PySem.W.Frag) : Sp := fun vs H Q _ => ∃ (a : Addr) (xs : List V) (l : List Plain), vs = [.ref a] ∧ Lf H a xs ∧ VsAt K H l xs ∧ TellM n l ∧ NewO H Q (RWire.writeCount l.length ++ RWire.writeMany (Rust.givenAll l))
def sp_written_record (n : Nat) (K : PySem.W.Frag) : Sp := fun vs H Q _ => ∃ (a : Addr) (xs : List V) (l : List (Units × Plain)), vs = [.ref a] ∧ Lf H a xs ∧ FsAt K H l xs ∧ TellF n l ∧ NewO H Q (RWire.writeCount l.length ++ RWire.writeEntries (Rust.givenFields l))
/-! written_list -/
abbrev s_written_list : Stmt := top 46
abbrev N_written_list : List Str := ["values", "octets", "value"]
theorem sc_written_list : FnScope N_written_list ["values"] (defScope s_written_list) := ⟨rfl, rfl, rfl, by decide +kernel, rfl, by decide +kernel, by decide +kernel⟩
section
variable {P : Program} {w : World} {K : PySem.W.Frag} {mg : Str → Option Value} {base : Heap}
theorem ca_written_list (F : Df K mg "written_list" s_written_list ["values"]) {z : Ads} (T : Gb K mg z)  {n c : Nat} (hc : 1 ≤ c) (c_written_value : Ca P w K mg base c "written_value" (sp_written_value n K)) (c_lowest_first : Ca P w K mg base 1 "lowest_first" (sp_lowest_first K)) : Ca P w K mg base (c + 1) "written_list" (sp_written_list n K) := by
  refine ca_mk F sc_written_list (fun vs H Q E h => by
    obtain ⟨_, _, _, rfl, _⟩ := h
    rfl
    ) (fun f cdv A outer s H vs Q E hr h => ?_)
  refine ⟨_, pss_cons (ps_set (i := 1) sc_written_list.nd rfl (Or.inl rfl) (pe_ca c_lowest_first hr (by first | decide | omega) passN (pa_cons (pe_len T.len (pv 0)) (pa_cons pe_int pa_nil)))) (pss_cons (ps_for rzp rfl (pi_list (pv 0)) (pg_name (i := 2) sc_written_list.nd rfl (Or.inl rfl)) (pss_one (ps_expr (pe_bm PySem.F.plainAttrs_list PySem.F.slot_list_extend PySem.F.type_list_extend mt_extend (pv 1) (pa_cons (pe_ca c_written_value hr (by first | decide | omega) passN (pa_cons (pv 2) pa_nil)) pa_nil))))) (pss_one (ps_ret (pv 1)))), ?_⟩
  obtain ⟨a, xs, l, rfl, hf, hv, ht, q⟩ := h
  have hsl : SqL K H a xs := hf.l
  have hxl := hv.len
  have hml := many_len l
  have htz := ht.siz
  walk_at "ex"
  refine ⟨l.length, 4, by rw [hxl]; rfl, by decide, fun D H1 hD s1 h1 => ?_⟩
  have hf1 : Lf H1 a xs := hf.kp (Kp.of s1)
  walk_at "ex"
  refine x_fl hf1.l (fun i σ H' => Same H H' ∧ Lf H' a xs ∧ H' D = some (.lst ((bI (RWire.writeCount l.length ++ RWire.writeMany (Rust.givenAll (l.take i)))).map V.int)) ∧ ∃ o, σ = [some (.ref a), some (.ref D), o]) ⟨s1, hf1, by rw [List.take_zero]; show _ = some (HO.lst ((bI (_ ++ [])).map V.int)); rw [List.append_nil]; exact h1, none, rfl⟩ (fun i σ H' _ p => p.2.1.l) (fun i x σ H' hi hp => ?_) (fun σ H' hp => ?_)
  · obtain ⟨s, hf2, hy, o, rfl⟩ := hp
    obtain ⟨p, hp, hvp⟩ := hv.get hi
    have hvp2 := VAt.kp (Kp.of s) hvp
    walk_at "ex"
    refine ⟨x, p, rfl, hvp2, ht.get hp, fun b H2 hb s2 h2 => ?_⟩
    have hy2 := s2 _ _ hy
    have hle := many_le l (i + 1)
    rw [many_take hp, List.length_append] at hle
    walk_at "ex"
    refine x_ext hy2 h2 (by rw [List.length_map, List.length_map, bI_len, bI_len, List.length_append]; show (RWire.low 4 _).length + _ + _ ≤ _; rw [low_len]; exact sz0 (by omega)) ?_
    walk_at "ex"
    refine ⟨But.same (s.trans s2) hD But.upd, hf2.kp ((Kp.of s2).trans (Kp.lst hy2)), ?_, _, rfl⟩
    rw [upd_same, many_take hp, ← List.map_append, ← bI_append, List.append_assoc]
  · obtain ⟨s, hf2, hy, o, rfl⟩ := hp
    rw [hxl, List.take_length] at hy
    walk_at "ex"
    exact q D H' hD s hy
end
/-! written_record -/
abbrev s_written_record : Stmt := top 47
abbrev N_written_record : List Str := ["members", "octets", "name", "value"]
theorem sc_written_record : FnScope N_written_record ["members"] (defScope s_written_record) := ⟨rfl, rfl, rfl, by decide +kernel, rfl, by decide +kernel, by decide +kernel⟩
section
variable {P : Program} {w : World} {K : PySem.W.Frag} {mg : Str → Option Value} {base : Heap}
theorem ca_written_record (F : Df K mg "written_record" s_written_record ["members"]) {z : Ads} (T : Gb K mg z)  {n c : Nat} (hc : 2 ≤ c) (c_written_value : Ca P w K mg base c "written_value" (sp_written_value n K)) (c_written_text : Ca P w K mg base 2 "written_text" (sp_written_text K)) (c_lowest_first : Ca P w K mg base 1 "lowest_first" (sp_lowest_first K)) : Ca P w K mg base (c + 1) "written_record" (sp_written_record n K) := by
  refine ca_mk F sc_written_record (fun vs H Q E h => by
    obtain ⟨_, _, _, rfl, _⟩ := h
    rfl
    ) (fun f cdv A outer s H vs Q E hr h => ?_)
  refine ⟨_, pss_cons (ps_set (i := 1) sc_written_record.nd rfl (Or.inl rfl) (pe_ca c_lowest_first hr (by first | decide | omega) passN (pa_cons (pe_len T.len (pv 0)) (pa_cons pe_int pa_nil)))) (pss_cons (ps_for rzp rfl (pi_list (pv 0)) (pg_tup rfl (pgs_cons (pg_name (i := 2) sc_written_record.nd rfl (Or.inl rfl)) (pgs_cons (pg_name (i := 3) sc_written_record.nd rfl (Or.inl rfl)) pgs_nil))) (pss_cons (ps_expr (pe_bm PySem.F.plainAttrs_list PySem.F.slot_list_extend PySem.F.type_list_extend mt_extend (pv 1) (pa_cons (pe_ca c_written_text hr (by first | decide | omega) passN (pa_cons (pv 2) pa_nil)) pa_nil))) (pss_one (ps_expr (pe_bm PySem.F.plainAttrs_list PySem.F.slot_list_extend PySem.F.type_list_extend mt_extend (pv 1) (pa_cons (pe_ca c_written_value hr (by first | decide | omega) passN (pa_cons (pv 3) pa_nil)) pa_nil)))))) (pss_one (ps_ret (pv 1)))), ?_⟩
  obtain ⟨a, xs, l, rfl, hf, hv, ht, q⟩ := h
  have hsl : SqL K H a xs := hf.l
  have hxl := hv.len
  have hml := ents_len l
  have htz := ht.siz
  walk_at "ex"
  refine ⟨l.length, 4, by rw [hxl]; rfl, by decide, fun D H1 hD s1 h1 => ?_⟩
  have hf1 : Lf H1 a xs := hf.kp (Kp.of s1)
  walk_at "ex"
  refine x_fl hf1.l (fun i σ H' => Same H H' ∧ Lf H' a xs ∧ H' D = some (.lst ((bI (RWire.writeCount l.length ++ RWire.writeEntries (Rust.givenFields (l.take i)))).map V.int)) ∧ ∃ o1 o2, σ = [some (.ref a), some (.ref D), o1, o2]) ⟨s1, hf1, by rw [List.take_zero]; show _ = some (HO.lst ((bI (_ ++ [])).map V.int)); rw [List.append_nil]; exact h1, none, none, rfl⟩ (fun i σ H' _ p => p.2.1.l) (fun i x σ H' hi hp => ?_) (fun σ H' hp => ?_)
  · obtain ⟨s, hf2, hy, o1, o2, rfl⟩ := hp
    obtain ⟨p, hp, t, b, y, rfl, htt, hb, hvp⟩ := hv.get hi
    have htt2 := sqT_same s htt
    have hb2 := hb.kp (Kp.of s)
    have hvp2 := VAt.kp (Kp.of s) hvp
    obtain ⟨t1, t2, t3⟩ := ht.get hp
    have hle := ents_le l (i + 1)
    rw [ents_take hp, List.length_append, List.length_append] at hle
    have hul : (p.1.map Rust.octetOf).length ≤ 70000 := by
      have e : (RWire.writeText (p.1.map Rust.octetOf)).length = (RWire.low 4 (p.1.map Rust.octetOf).length).length + (p.1.map Rust.octetOf).length := List.length_append
      omega
    walk_at "ex"
    refine ⟨b, p.1.map Rust.octetOf, rfl, by rw [narrow_uI t1]; exact hb2.t, hul, fun c H2 hc s2 h2 => ?_⟩
    have hy2 := s2 _ _ hy
    walk_at "ex"
    refine x_ext hy2 h2 (by rw [List.length_map, List.length_map, bI_len, bI_len, List.length_append]; show (RWire.low 4 _).length + _ + _ ≤ _; rw [low_len]; exact sz0 (by omega)) ?_
    walk_at "ex"
    have k2 : Kp H2 (upd H2 D (.lst ((bI (RWire.writeCount l.length ++ RWire.writeEntries (Rust.givenFields (l.take i)))).map V.int ++ (bI (RWire.writeText (p.1.map Rust.octetOf))).map V.int))) := Kp.lst hy2
    refine ⟨y, p.2, rfl, VAt.kp ((Kp.of s2).trans k2) hvp2, t2, fun c3 H3 hc3 s3 h3 => ?_⟩
    have hy3 := s3 _ _ upd_same
    walk_at "ex"
    refine x_ext hy3 h3 (by rw [List.length_append, List.length_map, List.length_map, List.length_map, bI_len, bI_len, bI_len, List.length_append]; show (RWire.low 4 _).length + _ + _ + _ ≤ _; rw [low_len]; exact sz0 (by omega)) ?_
    walk_at "ex"
    refine ⟨But.same s hD (But.trans (But.of s2) (But.trans But.upd (But.trans (But.of s3) But.upd))), hf2.kp ((Kp.of s2).trans (k2.trans ((Kp.of s3).trans (Kp.lst hy3)))), ?_, _, _, rfl⟩
    rw [upd_same, ents_take hp, ← List.map_append, ← List.map_append, ← bI_append, ← bI_append, List.append_assoc, List.append_assoc]
  · obtain ⟨s, hf2, hy, o1, o2, rfl⟩ := hp
    rw [hxl, List.take_length] at hy
    walk_at "ex"
    exact q D H' hD s hy
end
/-! written_value -/
abbrev s_written_value : Stmt := top 48
abbrev N_written_value : List Str := ["value", "kind", "held"]
theorem sc_written_value : FnScope N_written_value ["value"] (defScope s_written_value) := ⟨rfl, rfl, rfl, by decide +kernel, rfl, by decide +kernel, by decide +kernel⟩
section
variable {P : Program} {w : World} {K : PySem.W.Frag} {mg : Str → Option Value} {base : Heap}
theorem ca_written_value (F : Df K mg "written_value" s_written_value ["value"]) {z : Ads} (T : Gb K mg z)  {n c : Nat} (hc : 2 ≤ c) (c_written_record : Ca P w K mg base c "written_record" (sp_written_record n K)) (c_written_list : Ca P w K mg base c "written_list" (sp_written_list n K)) (c_written_text : Ca P w K mg base 2 "written_text" (sp_written_text K)) (c_written_integer : Ca P w K mg base 2 "written_integer" (sp_written_integer K)) : Ca P w K mg base (c + 1) "written_value" (sp_written_value (n+1) K) := by
  refine ca_mk F sc_written_value (fun vs H Q E h => by
    obtain ⟨_, _, rfl, _⟩ := h
    rfl
    ) (fun f cdv A outer s H vs Q E hr h => ?_)
  refine ⟨_, pss_cons (ps_asg (pv 0) (pg_tup rfl (pgs_cons (pg_name (i := 1) sc_written_value.nd rfl (Or.inl rfl)) (pgs_cons (pg_name (i := 2) sc_written_value.nd rfl (Or.inl rfl)) pgs_nil)))) (pss_cons (ps_if (pt_cmpR op_eq (pv 1) (pe_gk T.cINTEGER) (nomark _)) (pss_one (ps_ret (pe_op op_cat (pe_lst (pa_cons (pv 1) pa_nil)) (pe_ca c_written_integer hr (by first | decide | omega) passN (pa_cons (pv 2) pa_nil))))) pss_nil) (pss_cons (ps_if (pt_cmpR op_eq (pv 1) (pe_gk T.cTEXT) (nomark _)) (pss_one (ps_ret (pe_op op_cat (pe_lst (pa_cons (pv 1) pa_nil)) (pe_ca c_written_text hr (by first | decide | omega) passN (pa_cons (pv 2) pa_nil))))) pss_nil) (pss_cons (ps_if (pt_cmpR op_eq (pv 1) (pe_gk T.cLIST) (nomark _)) (pss_one (ps_ret (pe_op op_cat (pe_lst (pa_cons (pv 1) pa_nil)) (pe_ca c_written_list hr (by first | decide | omega) passN (pa_cons (pv 2) pa_nil))))) pss_nil) (pss_cons (ps_if (pt_cmpR op_eq (pv 1) (pe_gk T.cRECORD) (nomark _)) (pss_one (ps_ret (pe_op op_cat (pe_lst (pa_cons (pv 1) pa_nil)) (pe_ca c_written_record hr (by first | decide | omega) passN (pa_cons (pv 2) pa_nil))))) pss_nil) (pss_one (ps_ret (pe_lst (pa_cons (pv 1) pa_nil)))))))), ?_⟩
  obtain ⟨v, p, rfl, hv, ht, q⟩ := h
  cases p with
  | undef =>
    obtain ⟨a, rfl, ha⟩ := hv
    walk_at "ex"
    refine ite_f (by decide) ?_
    walk_at "ex"
    refine ite_f (by decide) ?_
    walk_at "ex"
    refine ite_f (by decide) ?_
    walk_at "ex"
    refine ite_f (by decide) ?_
    walk_at "ex"
    exact ⟨one_le, fun D hD => q D _ hD (same_new hD) upd_same⟩
  | null =>
    obtain ⟨a, rfl, ha⟩ := hv
    walk_at "ex"
    refine ite_f (by decide) ?_
    walk_at "ex"
    refine ite_f (by decide) ?_
    walk_at "ex"
    refine ite_f (by decide) ?_
    walk_at "ex"
    refine ite_f (by decide) ?_
    walk_at "ex"
    exact ⟨one_le, fun D hD => q D _ hD (same_new hD) upd_same⟩
  | bool b =>
    cases b with
    | true =>
      obtain ⟨a, rfl, ha⟩ : Tg K H v 3 (.int 0) := hv
      walk_at "ex"
      refine ite_f (by decide) ?_
      walk_at "ex"
      refine ite_f (by decide) ?_
      walk_at "ex"
      refine ite_f (by decide) ?_
      walk_at "ex"
      refine ite_f (by decide) ?_
      walk_at "ex"
      exact ⟨one_le, fun D hD => q D _ hD (same_new hD) upd_same⟩
    | false =>
      obtain ⟨a, rfl, ha⟩ : Tg K H v 2 (.int 0) := hv
      walk_at "ex"
      refine ite_f (by decide) ?_
      walk_at "ex"
      refine ite_f (by decide) ?_
      walk_at "ex"
      refine ite_f (by decide) ?_
      walk_at "ex"
      refine ite_f (by decide) ?_
      walk_at "ex"
      exact ⟨one_le, fun D hD => q D _ hD (same_new hD) upd_same⟩
  | num x =>
    obtain ⟨i, rfl, a, rfl, ha⟩ := hv
    walk_at "ex"
    refine ite_t rfl ?_
    walk_at "ex"
    refine ⟨one_le, fun D hD => ?_⟩
    walk_at "ex"
    refine ⟨i, rfl, Nat.le_of_ble_eq_true ht.fin, fun b H1 hb s1 h1 => ?_⟩
    refine x_cat (s1 _ _ upd_same) h1 (sz0 (by rw [List.length_map, bI_len]; show 1 + (RWire.low 8 _).length ≤ _; rw [low_len]; decide)) fun p hp => ?_
    refine q p _ (same_none ((same_new hD).trans s1) hp) ((same_new hD).trans (s1.trans (same_new hp))) ?_
    rw [upd_same]
    rfl
  | str u =>
    obtain ⟨b, ⟨a, rfl, ha⟩, hb⟩ := hv
    have hn : Rust.narrowText u = true := ht.nar
    have hz : (6 :: (RWire.low 4 (u.map Rust.octetOf).length ++ u.map Rust.octetOf)).length ≤ 70000 := ht.siz
    rw [List.length_cons, List.length_append, low_len] at hz
    walk_at "ex"
    refine ite_f (by decide) ?_
    walk_at "ex"
    refine ite_t rfl ?_
    walk_at "ex"
    refine ⟨one_le, fun D hD => ?_⟩
    walk_at "ex"
    refine ⟨b, u.map Rust.octetOf, rfl, ?_, by omega, fun c H1 hc s1 h1 => ?_⟩
    · rw [narrow_uI hn]
      exact (hb.kp (Kp.of (same_new hD))).t
    refine x_cat (s1 _ _ upd_same) h1 (sz0 (by rw [List.length_map, bI_len]; show 1 + (RWire.low 4 (u.map Rust.octetOf).length ++ u.map Rust.octetOf).length ≤ _; rw [List.length_append, low_len]; omega)) fun p hp => ?_
    refine q p _ (same_none ((same_new hD).trans s1) hp) ((same_new hD).trans (s1.trans (same_new hp))) ?_
    rw [upd_same]
    rfl
  | arr l =>
    obtain ⟨b, xs, ⟨a, rfl, ha⟩, hb, hvs⟩ := hv
    have hz : (7 :: (RWire.low 4 (Rust.givenAll l).length ++ RWire.writeMany (Rust.givenAll l))).length ≤ 70000 := ht.siz
    rw [List.length_cons, List.length_append, low_len] at hz
    walk_at "ex"
    refine ite_f (by decide) ?_
    walk_at "ex"
    refine ite_f (by decide) ?_
    walk_at "ex"
    refine ite_t rfl ?_
    walk_at "ex"
    refine ⟨one_le, fun D hD => ?_⟩
    walk_at "ex"
    have k1 := Kp.of (same_new (o := .lst [.int 7]) hD)
    refine ⟨b, xs, l, rfl, hb.kp k1, VsAt.kp k1 hvs, ht.arr, fun c H1 hc s1 h1 => ?_⟩
    refine x_cat (s1 _ _ upd_same) h1 (sz0 (by rw [List.length_map, bI_len, List.length_append]; show 1 + ((RWire.low 4 l.length).length + _) ≤ _; rw [low_len]; omega)) fun p hp => ?_
    refine q p _ (same_none ((same_new hD).trans s1) hp) ((same_new hD).trans (s1.trans (same_new hp))) ?_
    rw [upd_same, ← givenAll_len l]
    rfl
  | obj l =>
    obtain ⟨b, xs, ⟨a, rfl, ha⟩, hb, hvs⟩ := hv
    have hz : (8 :: (RWire.low 4 (Rust.givenFields l).length ++ RWire.writeEntries (Rust.givenFields l))).length ≤ 70000 := ht.siz
    rw [List.length_cons, List.length_append, low_len] at hz
    walk_at "ex"
    refine ite_f (by decide) ?_
    walk_at "ex"
    refine ite_f (by decide) ?_
    walk_at "ex"
    refine ite_f (by decide) ?_
    walk_at "ex"
    refine ite_t rfl ?_
    walk_at "ex"
    refine ⟨one_le, fun D hD => ?_⟩
    walk_at "ex"
    have k1 := Kp.of (same_new (o := .lst [.int 8]) hD)
    refine ⟨b, xs, l, rfl, hb.kp k1, FsAt.kp k1 hvs, ht.obj, fun c H1 hc s1 h1 => ?_⟩
    refine x_cat (s1 _ _ upd_same) h1 (sz0 (by rw [List.length_map, bI_len, List.length_append]; show 1 + ((RWire.low 4 l.length).length + _) ≤ _; rw [low_len]; omega)) fun p hp => ?_
    refine q p _ (same_none ((same_new hD).trans s1) hp) ((same_new hD).trans (s1.trans (same_new hp))) ?_
    rw [upd_same, ← givenFields_len l]
    rfl
  | big i => exact hv.elim
  | deep => exact hv.elim
end
section
variable {P : Program} {w : World} {K : PySem.W.Frag} {mg : Str → Option Value} {base : Heap}
theorem wv_all (Fv : Df K mg "written_value" s_written_value ["value"]) (Fl : Df K mg "written_list" s_written_list ["values"]) (Fr : Df K mg "written_record" s_written_record ["members"]) {z : Ads} (T : Gb K mg z)
    (c_lowest_first : Ca P w K mg base 1 "lowest_first" (sp_lowest_first K)) (c_written_text : Ca P w K mg base 2 "written_text" (sp_written_text K)) (c_written_integer : Ca P w K mg base 2 "written_integer" (sp_written_integer K)) : ∀ n, Ca P w K mg base (2 * n + 3) "written_value" (sp_written_value n K)
  | 0 => ca_mk (k := 2) Fv sc_written_value (fun vs H Q E h => by obtain ⟨_, _, rfl, _⟩ := h; rfl) (fun f cdv A outer s H vs Q E hr h => by
    obtain ⟨_, p, _, _, ht, _⟩ := h
    have := ht.dep
    exfalso
    cases e : Rust.given p <;> rw [e] at this <;> exact absurd this (Nat.not_succ_le_zero _))
  | n + 1 => by
    have ih := wv_all Fv Fl Fr T c_lowest_first c_written_text c_written_integer n
    have h1 := ca_written_list Fl T (by omega) ih c_lowest_first
    have h2 := ca_written_record Fr T (by omega) ih c_written_text c_lowest_first
    have h3 := ca_written_value Fv T (by omega) h2 h1 c_written_text c_written_integer
    exact h3.mono (by omega)
end
end OK
namespace OK
open PySem PySem.Spec PyProof.Rows L2
open R7290f.Spec (Plain Units Err Res Cls units rangeInt rangeIn whole integerArgument limitArgument boundArgument boundsArgument inOrder ascendingKeys distinctNames property keyOfText isBefore beyond wrong)
/-- a key of at most n digits -/
def keyV (n : Nat) (p : Plain) : Option (List Nat) := match p with
  | .str u => (match keyOfText u with
    | some k => if k.length ≤ n then some k else none
    | none => none)
  | _ => none
theorem keyV_str {n : Nat} (hn : n ≤ 20) (u : Units) : isKeyI (uI u) (n : Int) = (keyV n (.str u)).isSome := by
  rw [isKeyI_text u n hn]
  show _ = (match keyOfText u with
    | some k => if k.length ≤ n then some k else none
    | none => none : Option (List Nat)).isSome
  cases keyOfText u with
  | none => rfl
  | some k =>
    show decide _ = (if _ then some k else none).isSome
    by_cases h : k.length ≤ n
    · rw [decide_eq_true h, if_pos h]; rfl
    · rw [decide_eq_false h, if_neg h]; rfl
theorem keyV_some {n : Nat} {p : Plain} {k : List Nat} (h : keyV n p = some k) : ∃ u, p = .str u ∧ keyOfText u = some k ∧ uI u = kI k ∧ KeyOk k ∧ k.length ≤ n := by
  cases p with
  | str u =>
    unfold keyV at h
    dsimp only at h
    cases e : keyOfText u with
    | none => rw [e] at h; cases h
    | some j =>
      rw [e] at h
      dsimp only at h
      split at h
      · rename_i hl
        cases h
        obtain ⟨a, b⟩ := keyOfText_some e
        exact ⟨u, rfl, e, a, b, hl⟩
      · cases h
  | _ => cases h
theorem keyV_20 (u : Units) : keyV 20 (.str u) = keyOfText u := by
  unfold keyV
  dsimp only
  cases e : keyOfText u with
  | none => rfl
  | some k =>
    dsimp only
    rw [if_pos (keyOfText_some e).2.le]
/-! is_integer -/
abbrev s_is_integer : Stmt := top 52
abbrev N_is_integer : List Str := ["value", "low", "high"]
theorem sc_is_integer : FnScope N_is_integer ["value", "low", "high"] (defScope s_is_integer) := ⟨rfl, rfl, rfl, by decide +kernel, rfl, by decide +kernel, by decide +kernel⟩
def sp_is_integer (K : PySem.W.Frag) : Sp := fun vs H Q _ => ∃ (v : V) (p : Plain) (a b : Int), vs = [v, .int a, .int b] ∧ VAt K H p v ∧ Q (.bl (rangeInt a b p).isSome) H
section
variable {P : Program} {w : World} {K : PySem.W.Frag} {mg : Str → Option Value} {base : Heap}
theorem ca_is_integer (F : Df K mg "is_integer" s_is_integer ["value", "low", "high"]) {z : Ads} (T : Gb K mg z)   : Ca P w K mg base 1 "is_integer" (sp_is_integer K) := by
  refine ca_mk F sc_is_integer (fun vs H Q E h => by
    obtain ⟨_, _, _, _, rfl, _⟩ := h
    rfl
    ) (fun f cdv A outer s H vs Q E hr h => ?_)
  refine ⟨_, pss_one (ps_ret (pe_and (pe_cmpR op_eq (pe_ix ix_tup (pv 0) pe_int (fun _ _ => rfl)) (pe_gk T.cINTEGER) (nomark _)) (pe_one (pe_chain op_le op_le (pv 1) (pe_ix ix_tup (pv 0) pe_int (fun _ _ => rfl)) (pv 2))))), ?_⟩
  obtain ⟨v, p, a, b, rfl, hv, q⟩ := h
  obtain ⟨t, y, rfl, ht⟩ := hv.tg
  walk_at "ex"
  refine ite_d (fun c => ?_) (fun c => ?_)
  · obtain ⟨x, rfl⟩ := kind4 c
    obtain ⟨i, rfl, t2, e, ht2⟩ := hv
    cases e
    walk_at "ex"
    have e0 : rangeInt a b (.num (some i)) = if a ≤ i ∧ i ≤ b then some i else none := rfl
    rw [e0] at q
    refine ite_d (fun c1 => ?_) (fun c1 => ?_)
    · walk_at "ex"
      by_cases c2 : i ≤ b
      · rw [if_pos ⟨c1, c2⟩] at q
        rw [decide_eq_true c2]
        exact q
      · rw [if_neg fun z => c2 z.2] at q
        rw [decide_eq_false c2]
        exact q
    · rw [if_neg fun z => c1 z.1] at q
      exact q
  · have e0 : rangeInt a b p = none := by
      cases p with
      | num x => exact absurd rfl c
      | _ => rfl
    rw [e0] at q
    exact q
end
/-! is_key_value -/
abbrev s_is_key_value : Stmt := top 53
abbrev N_is_key_value : List Str := ["value", "longest"]
theorem sc_is_key_value : FnScope N_is_key_value ["value", "longest"] (defScope s_is_key_value) := ⟨rfl, rfl, rfl, by decide +kernel, rfl, by decide +kernel, by decide +kernel⟩
def sp_is_key_value (K : PySem.W.Frag) : Sp := fun vs H Q _ => ∃ (v : V) (p : Plain) (n : Nat), vs = [v, .int n] ∧ VAt K H p v ∧ n ≤ 20 ∧ Q (.bl (keyV n p).isSome) H
section
variable {P : Program} {w : World} {K : PySem.W.Frag} {mg : Str → Option Value} {base : Heap}
theorem ca_is_key_value (F : Df K mg "is_key_value" s_is_key_value ["value", "longest"]) {z : Ads} (T : Gb K mg z)  (c_is_key : Ca P w K mg base 2 "is_key" (sp_is_key K)) : Ca P w K mg base 3 "is_key_value" (sp_is_key_value K) := by
  refine ca_mk F sc_is_key_value (fun vs H Q E h => by
    obtain ⟨_, _, _, rfl, _⟩ := h
    rfl
    ) (fun f cdv A outer s H vs Q E hr h => ?_)
  refine ⟨_, pss_one (ps_ret (pe_and (pe_cmpR op_eq (pe_ix ix_tup (pv 0) pe_int (fun _ _ => rfl)) (pe_gk T.cTEXT) (nomark _)) (pe_one (pe_ca c_is_key hr (by first | decide | omega) passN (pa_cons (pe_ix ix_tup (pv 0) pe_int (fun _ _ => rfl)) (pa_cons (pv 1) pa_nil)))))), ?_⟩
  obtain ⟨v, p, n, rfl, hv, hn, q⟩ := h
  obtain ⟨t, y, rfl, ht⟩ := hv.tg
  walk_at "ex"
  refine ite_d (fun c => ?_) (fun c => ?_)
  · obtain ⟨u, rfl⟩ := kind6 c
    obtain ⟨b, ⟨t2, e, ht2⟩, hb⟩ := hv
    cases e
    walk_at "ex"
    refine ⟨b, uI u, n, rfl, hb.t, ?_⟩
    rw [keyV_str hn]
    exact q
  · have e0 : keyV n p = none := by
      cases p with
      | str x => exact absurd rfl c
      | _ => rfl
    rw [e0] at q
    exact q
end
/-! integer_of -/
abbrev s_integer_of : Stmt := top 54
abbrev N_integer_of : List Str := ["value", "word", "low", "high"]
theorem sc_integer_of : FnScope N_integer_of ["value", "word", "low", "high"] (defScope s_integer_of) := ⟨rfl, rfl, rfl, by decide +kernel, rfl, by decide +kernel, by decide +kernel⟩
def sp_integer_of (z : Ads) (K : PySem.W.Frag) : Sp := fun vs H Q E => ∃ (v : V) (p : Plain) (w : Str) (name : String) (a b : Nat), vs = [v, .str w, .int a, .int b] ∧ VAt K H p v ∧ cI w = uM name ∧ w.cps.size ≤ 100 ∧ a ≤ 100 ∧ b ≤ 100 ∧
  (∀ n : Nat, integerArgument name a b p = .ok n → a ≤ n → n ≤ b → p = .num (some (n : Int)) → Q (.int n) H) ∧ ∀ e, integerArgument name a b p = .error e → Er z H E e
section
variable {P : Program} {w : World} {K : PySem.W.Frag} {mg : Str → Option Value} {base : Heap}
theorem ca_integer_of (F : Df K mg "integer_of" s_integer_of ["value", "word", "low", "high"]) {z : Ads} (T : Gb K mg z)  (c_is_integer : Ca P w K mg base 1 "is_integer" (sp_is_integer K)) : Ca P w K mg base 2 "integer_of" (sp_integer_of z K) := by
  refine ca_mk F sc_integer_of (fun vs H Q E h => by
    obtain ⟨_, _, _, _, _, _, rfl, _⟩ := h
    rfl
    ) (fun f cdv A outer s H vs Q E hr h => ?_)
  refine ⟨_, pss_cons (ps_if (pt_not (pt_val (pe_ca c_is_integer hr (by first | decide | omega) passN (pa_cons (pv 0) (pa_cons (pv 2) (pa_cons (pv 3) pa_nil)))))) (pss_one (ps_raiseM rfl rz (by exact (pmk_msg PySem.F.excBase_Exception T.xOutOfRange T.gOutOfRange T.kOutOfRange (raises_own T.bOutOfRange T.tOutOfRange) (pe_joined (PJ.cons (pe_fmt (pv 1)) (PJ.cons pe_str (PJ.cons (pe_fmt (pv 2)) (PJ.cons pe_str (PJ.cons (pe_fmt (pv 3)) PJ.nil)))))))))) pss_nil) (pss_one (ps_ret (pe_ix ix_tup (pv 0) pe_int (fun _ _ => rfl)))), ?_⟩
  obtain ⟨v, p, w, name, a, b, rfl, hv, hw, hwz, ha, hb, q, qe⟩ := h
  walk_at "ex"
  refine ⟨v, p, a, b, rfl, hv, ?_⟩
  walk_at "ex"
  cases e : rangeInt (a : Int) (b : Int) p with
  | none =>
    have e2 : integerArgument name a b p = .error (beyond (name ++ " must be an integer from " ++ toString a ++ " to " ++ toString b)) := by
      unfold integerArgument rangeIn
      rw [show rangeInt (Int.ofNat a) (Int.ofNat b) p = none from e]
      rfl
    refine ite_t rfl ?_
    walk_at "ex"
    refine x_fS (by omega) ?_
    refine x_jy (by rw [sz_app]; show 0 + _ ≤ _; omega) ?_
    walk_at "ex"
    have z1 : (Str.ofString " must be an integer from ").cps.size ≤ 100 := by rw [sz_lit]; decide +kernel
    have z2 : (Str.ofString " to ").cps.size ≤ 100 := by rw [sz_lit]; decide +kernel
    have z3 : (Str.ofString (toString ((a : Nat) : Int))).cps.size ≤ 3 := by rw [sz_lit]; exact digits_sz a (by omega)
    have z4 : (Str.ofString (toString ((b : Nat) : Int))).cps.size ≤ 3 := by rw [sz_lit]; exact digits_sz b (by omega)
    have z0 : Str.empty.cps.size = 0 := rfl
    refine x_jy (by rw [sz_app, sz_app]; omega) ?_
    walk_at "ex"
    refine x_fI (by omega) ?_
    refine x_jy (by rw [sz_app, sz_app, sz_app]; omega) ?_
    walk_at "ex"
    refine x_jy (by rw [sz_app, sz_app, sz_app, sz_app]; omega) ?_
    walk_at "ex"
    refine x_fI (by omega) ?_
    refine x_jy (by rw [sz_app, sz_app, sz_app, sz_app, sz_app]; omega) ?_
    walk_at "ex"
    refine ⟨_, rfl, fun t ht => qe _ e2 t _ _ (same_new ht) upd_same ?_ (by rw [sz_app, sz_app, sz_app, sz_app, sz_app]; omega)⟩
    rw [cI_app, cI_app, cI_app, cI_app, cI_app, hw, cI_num (by omega), cI_num (by omega), cI_lit " must be an integer from " (by decide +kernel), cI_lit " to " (by decide +kernel)]
    show _ = uM (name ++ " must be an integer from " ++ toString a ++ " to " ++ toString b)
    rw [uM_app, uM_app, uM_app, uM_app]
    rfl
  | some i =>
    obtain ⟨x, rfl⟩ : ∃ x, p = .num x := by
      cases p with
      | num x => exact ⟨x, rfl⟩
      | _ => cases e
    obtain ⟨j, rfl, t, rfl, ht⟩ := hv
    have e0 : rangeInt (a : Int) (b : Int) (.num (some j)) = if (a : Int) ≤ j ∧ j ≤ (b : Int) then some j else none := rfl
    rw [e0] at e
    split at e
    · rename_i hc
      cases e
      refine ite_f Bool.false_ne_true ?_
      walk_at "ex"
      obtain ⟨n, rfl⟩ : ∃ n : Nat, i = (n : Int) := ⟨i.toNat, by omega⟩
      refine q n ?_ (by omega) (by omega) rfl
      unfold integerArgument rangeIn
      rw [show rangeInt (Int.ofNat a) (Int.ofNat b) (.num (some ((n : Nat) : Int))) = some ((n : Nat) : Int) from e0.trans (if_pos hc)]
      rfl
    · cases e
end
/-! limit_of -/
abbrev s_limit_of : Stmt := top 55
abbrev N_limit_of : List Str := ["value"]
theorem sc_limit_of : FnScope N_limit_of ["value"] (defScope s_limit_of) := ⟨rfl, rfl, rfl, by decide +kernel, rfl, by decide +kernel, by decide +kernel⟩
def sp_limit_of (z : Ads) (K : PySem.W.Frag) : Sp := fun vs H Q E => ∃ (v : V) (p : Plain), vs = [v] ∧ VAt K H p v ∧ (∀ n : Nat, limitArgument p = .ok n → 1 ≤ n → n ≤ 8 → Q (.int n) H) ∧ ∀ e, limitArgument p = .error e → Er z H E e
section
variable {P : Program} {w : World} {K : PySem.W.Frag} {mg : Str → Option Value} {base : Heap}
theorem ca_limit_of (F : Df K mg "limit_of" s_limit_of ["value"]) {z : Ads} (T : Gb K mg z)  (c_integer_of : Ca P w K mg base 2 "integer_of" (sp_integer_of z K)) : Ca P w K mg base 3 "limit_of" (sp_limit_of z K) := by
  refine ca_mk F sc_limit_of (fun vs H Q E h => by
    obtain ⟨_, _, rfl, _⟩ := h
    rfl
    ) (fun f cdv A outer s H vs Q E hr h => ?_)
  refine ⟨_, pss_one (ps_ret (pe_ca c_integer_of hr (by first | decide | omega) rz.pass (pa_cons (pv 0) (pa_cons pe_str (pa_cons pe_int (pa_cons pe_int pa_nil)))))), ?_⟩
  obtain ⟨v, p, rfl, hv, q, qe⟩ := h
  walk_at "ex"
  exact ⟨v, p, _, "limit", 1, 8, rfl, hv, cI_lit "limit" (by decide +kernel), by rw [sz_lit]; decide +kernel, by decide, by decide, fun n e h1 h2 _ => q n e h1 h2, fun e h => qe e h⟩
end
/-! bound_of -/
abbrev s_bound_of : Stmt := top 56
abbrev N_bound_of : List Str := ["value", "word"]
theorem sc_bound_of : FnScope N_bound_of ["value", "word"] (defScope s_bound_of) := ⟨rfl, rfl, rfl, by decide +kernel, rfl, by decide +kernel, by decide +kernel⟩
def sp_bound_of (z : Ads) (K : PySem.W.Frag) : Sp := fun vs H Q E => ∃ (v : V) (p : Plain) (w : Str) (name : String), vs = [v, .str w] ∧ VAt K H p v ∧ cI w = uM name ∧ w.cps.size ≤ 100 ∧
  (∀ (b : Option (List Nat)) x, boundArgument name p = .ok b → BOk b → BAt H x b → Q x H) ∧ ∀ e, boundArgument name p = .error e → Er z H E e
section
variable {P : Program} {w : World} {K : PySem.W.Frag} {mg : Str → Option Value} {base : Heap}
theorem ca_bound_of (F : Df K mg "bound_of" s_bound_of ["value", "word"]) {z : Ads} (T : Gb K mg z)  (c_is_key_value : Ca P w K mg base 3 "is_key_value" (sp_is_key_value K)) : Ca P w K mg base 4 "bound_of" (sp_bound_of z K) := by
  refine ca_mk F sc_bound_of (fun vs H Q E h => by
    obtain ⟨_, _, _, _, rfl, _⟩ := h
    rfl
    ) (fun f cdv A outer s H vs Q E hr h => ?_)
  refine ⟨_, pss_cons (ps_if (pt_cmpR op_eq (pe_ix ix_tup (pv 0) pe_int (fun _ _ => rfl)) (pe_gk T.cNULL_KIND) (nomark _)) (pss_one (ps_ret pe_non)) pss_nil) (pss_cons (ps_if (pt_not (pt_val (pe_ca c_is_key_value hr (by first | decide | omega) passN (pa_cons (pv 0) (pa_cons (pe_gk T.cLONGEST_BOUND) pa_nil))))) (pss_one (ps_raiseM rfl rz (by exact (pmk_msg PySem.F.excBase_Exception T.xWrongKind T.gWrongKind T.kWrongKind (raises_own T.bWrongKind T.tWrongKind) (pe_joined (PJ.cons (pe_fmt (pv 1)) (PJ.cons pe_str PJ.nil))))))) pss_nil) (pss_one (ps_ret (pe_ix ix_tup (pv 0) pe_int (fun _ _ => rfl))))), ?_⟩
  obtain ⟨v, p, w, name, rfl, hv, hw, hwz, q, qe⟩ := h
  obtain ⟨t, y, rfl, ht⟩ := hv.tg
  walk_at "ex"
  refine ite_d (fun c => ?_) (fun c => ?_)
  · have := kind1 c
    subst this
    walk_at "ex"
    exact q none _ rfl BOk.none rfl
  walk_at "ex"
  refine ⟨_, p, 20, rfl, hv, by decide, ?_⟩
  walk_at "ex"
  cases e : keyV 20 p with
  | none =>
    have e1 : R7290f.Spec.boundIn p = none := by
      cases p with
      | null => exact absurd rfl c
      | str u =>
        rw [keyV_20] at e
        show (keyOfText u).map some = none
        rw [e]
        rfl
      | _ => rfl
    have e2 : boundArgument name p = .error (wrong (name ++ " must be a key or null")) := by
      unfold boundArgument
      rw [e1]
      rfl
    refine ite_t rfl ?_
    walk_at "ex"
    refine x_fS (by omega) ?_
    refine x_jy (by rw [sz_app]; show 0 + _ ≤ _; omega) ?_
    walk_at "ex"
    have z1 : (Str.ofString " must be a key or null").cps.size ≤ 100 := by rw [sz_lit]; decide +kernel
    have z0 : Str.empty.cps.size = 0 := rfl
    refine x_jy (by rw [sz_app, sz_app]; omega) ?_
    walk_at "ex"
    refine ⟨_, rfl, fun t ht => qe _ e2 t _ _ (same_new ht) upd_same ?_ (by rw [sz_app, sz_app]; omega)⟩
    rw [cI_app, cI_app, hw, cI_lit " must be a key or null" (by decide +kernel)]
    show _ = uM (name ++ " must be a key or null")
    rw [uM_app]
    rfl
  | some k =>
    obtain ⟨u, rfl, hk, hu, ok, _⟩ := keyV_some e
    obtain ⟨b, ⟨t2, e2, ht2⟩, hb⟩ := hv
    cases e2
    refine ite_f Bool.false_ne_true ?_
    walk_at "ex"
    refine q (some k) _ ?_ (BOk.some ok) ⟨b, rfl, ?_⟩
    · have e1 : R7290f.Spec.boundIn (.str u) = some (some k) := by
        show (keyOfText u).map some = _
        rw [hk]
        rfl
      unfold boundArgument
      rw [e1]
    · rw [← hu]
      exact hb
end
/-! bounds_of -/
abbrev s_bounds_of : Stmt := top 57
abbrev N_bounds_of : List Str := ["first", "second", "before", "after"]
theorem sc_bounds_of : FnScope N_bounds_of ["first", "second"] (defScope s_bounds_of) := ⟨rfl, rfl, rfl, by decide +kernel, rfl, by decide +kernel, by decide +kernel⟩
def sp_bounds_of (z : Ads) (K : PySem.W.Frag) : Sp := fun vs H Q E => ∃ (v1 v2 : V) (p1 p2 : Plain), vs = [v1, v2] ∧ VAt K H p1 v1 ∧ VAt K H p2 v2 ∧
  (∀ (a b : Option (List Nat)) T x y H', boundsArgument p1 p2 = .ok (a, b) → BOk a → BOk b → Ord a b → Same H H' → H' T = some (.tup [x, y]) → BAt H' x a → BAt H' y b → Q (.ref T) H') ∧ ∀ e, boundsArgument p1 p2 = .error e → Er z H E e
section
variable {P : Program} {w : World} {K : PySem.W.Frag} {mg : Str → Option Value} {base : Heap}
theorem ca_bounds_of (F : Df K mg "bounds_of" s_bounds_of ["first", "second"]) {z : Ads} (T : Gb K mg z)  (c_bound_of : Ca P w K mg base 4 "bound_of" (sp_bound_of z K)) : Ca P w K mg base 5 "bounds_of" (sp_bounds_of z K) := by
  refine ca_mk F sc_bounds_of (fun vs H Q E h => by
    obtain ⟨_, _, _, _, rfl, _⟩ := h
    rfl
    ) (fun f cdv A outer s H vs Q E hr h => ?_)
  refine ⟨_, pss_cons (ps_set (i := 2) sc_bounds_of.nd rfl (Or.inl rfl) (pe_ca c_bound_of hr (by first | decide | omega) rz.pass (pa_cons (pv 0) (pa_cons pe_str pa_nil)))) (pss_cons (ps_set (i := 3) sc_bounds_of.nd rfl (Or.inl rfl) (pe_ca c_bound_of hr (by first | decide | omega) rz.pass (pa_cons (pv 1) (pa_cons pe_str pa_nil)))) (pss_cons (ps_if (PW.pt (pw_and (pt_cmp (pc_notN (pv 2))) (pw_and (pt_cmp (pc_notN (pv 3))) (pw_and1 (pt_not (pt_cmpR (op_ltT (hu0 hr)) (pv 2) (pv 3) (nomark _))))))) (pss_one (ps_raiseM rfl rz (by exact (pmk_msg PySem.F.excBase_Exception T.xOutOfRange T.gOutOfRange T.kOutOfRange (raises_own T.bOutOfRange T.tOutOfRange) pe_str)))) pss_nil) (pss_one (ps_ret (pe_tup (pa_cons (pv 2) (pa_cons (pv 3) pa_nil))))))), ?_⟩
  obtain ⟨v1, v2, p1, p2, rfl, h1, h2, q, qe⟩ := h
  walk_at "ex"
  refine ⟨v1, p1, _, "before", rfl, h1, cI_lit "before" (by decide +kernel), by rw [sz_lit]; decide +kernel, fun a x ea oa xa => ?_, fun e he => qe e (by unfold boundsArgument; rw [he]; rfl)⟩
  walk_at "ex"
  refine ⟨v2, p2, _, "after", rfl, h2, cI_lit "after" (by decide +kernel), by rw [sz_lit]; decide +kernel, fun b y eb ob yb => ?_, fun e he => qe e (by unfold boundsArgument; rw [ea]; show R7290f.Spec.andThen (boundArgument "after" p2) _ = _; rw [he]; rfl)⟩
  have er : boundsArgument p1 p2 = if inOrder a b = true then .ok (a, b) else R7290f.Spec.bad "before must come before after" := by
    unfold boundsArgument
    rw [ea]
    show R7290f.Spec.andThen (boundArgument "after" p2) _ = _
    rw [eb]
    rfl
  have fin : inOrder a b = true → Ord a b → 2 ≤ sizeLine ∧ ∀ T, H T = none → Q (.ref T) (upd H T (.tup [x, y])) := fun ho hor => ⟨two_le, fun T hT => q a b T x y _ (by rw [er, if_pos ho]) oa ob hor (same_new hT) upd_same (xa.kp (Kp.of (same_new hT))) (yb.kp (Kp.of (same_new hT)))⟩
  walk_at "ex"
  cases a with
  | none =>
    have e : x = .non := xa
    subst e
    refine ite_f (by decide) ?_
    refine ite_f (by decide) ?_
    walk_at "ex"
    exact fin rfl (Ord_none_l b)
  | some j =>
    obtain ⟨pj, rfl, hj⟩ := xa
    refine ite_t rfl ?_
    walk_at "ex"
    cases b with
    | none =>
      have e : y = .non := yb
      subst e
      refine ite_f (by decide) ?_
      refine ite_f (by decide) ?_
      walk_at "ex"
      exact fin rfl (Ord_none_r _)
    | some k =>
      obtain ⟨pk, rfl, hk⟩ := yb
      refine ite_t rfl ?_
      walk_at "ex"
      refine x_ltT hj hk (oa j rfl).dig (ob k rfl).dig ?_
      walk_at "ex"
      cases e : isBefore j k with
      | true =>
        refine ite_f Bool.false_ne_true ?_
        walk_at "ex"
        exact fin e e
      | false =>
        refine ite_t rfl ?_
        walk_at "ex"
        refine ⟨_, rfl, fun t ht => qe (beyond "before must come before after") ?_ t _ _ (same_new ht) upd_same (cI_lit "before must come before after" (by decide +kernel)) (by rw [sz_lit]; decide +kernel)⟩
        rw [er, if_neg (by rw [show inOrder (some j) (some k) = isBefore j k from rfl, e]; exact Bool.false_ne_true)]
        rfl

end
end OK
namespace OK
open PySem PySem.Spec PyProof.Rows L2
open R7290f.Spec (Plain Units Err Res Cls units ascendingKeys distinctNames property keyOfText isBefore wrong rowIn rowsIn rowsArgument allSome distinctIds)
theorem asc_iff : ∀ (ks : List (List Nat)), ascendingKeys ks = true ↔ ∀ (j : Nat) a b, ks[j]? = some a → ks[j + 1]? = some b → isBefore a b = true
  | [] => ⟨fun _ j a b e => by simp at e, fun _ => rfl⟩
  | [k] => ⟨fun _ j a b _ e => by simp at e, fun _ => rfl⟩
  | j :: k :: r => by
    show (isBefore j k && ascendingKeys (k :: r)) = true ↔ _
    rw [Bool.and_eq_true_iff, asc_iff (k :: r)]
    constructor
    · rintro ⟨h1, h2⟩ i a b ea eb
      cases i with
      | zero =>
        cases ea
        cases eb
        exact h1
      | succ i => exact h2 i a b ea eb
    · intro h
      exact ⟨h 0 j k rfl rfl, fun i a b ea eb => h (i + 1) a b ea eb⟩
theorem dist_iff : ∀ (us : List Units), distinctNames us = true ↔ us.Nodup
  | [] => ⟨fun _ => List.nodup_nil, fun _ => rfl⟩
  | x :: r => by
    show (!r.contains x && distinctNames r) = true ↔ _
    rw [Bool.and_eq_true_iff, dist_iff r, List.nodup_cons]
    simp
abbrev pid (p : Plain) : Plain := (property "id" p).getD .undef
abbrev pkey (p : Plain) : Plain := (property "key" p).getD .undef
theorem keyV_of {n : Nat} {v : Units} {k : List Nat} (hk : keyOfText v = some k) (hl : k.length ≤ n) : keyV n (.str v) = some k := by
  show (match keyOfText v with
    | some k => if k.length ≤ n then some k else none
    | none => none) = _
  rw [hk]
  exact if_pos hl
theorem rowIn_iff {n : Nat} {p : Plain} {r : R7290f.Spec.Row} : rowIn n p = some r ↔ (∃ fs, p = .obj fs) ∧ pid p = .str r.id ∧ 1 ≤ r.id.length ∧ r.id.length ≤ 20 ∧ keyV n (pkey p) = some r.key := by
  constructor
  · intro h
    unfold rowIn at h
    split at h
    · rename_i u v e1 e2
      split at h
      · rename_i hl
        split at h
        · rename_i k hk
          split at h
          · rename_i hkl
            cases h
            refine ⟨?_, by unfold pid; rw [e1]; rfl, hl.1, hl.2, by unfold pkey; rw [e2]; exact keyV_of hk hkl⟩
            cases p with
            | obj fs => exact ⟨fs, rfl⟩
            | _ => cases e1
          · cases h
        · cases h
      · cases h
    · cases h
  · rintro ⟨⟨fs, rfl⟩, h1, h2, h3, h4⟩
    obtain ⟨v, e, hk, _, _, hl⟩ := keyV_some h4
    have e1 : property "id" (.obj fs) = some (.str r.id) := by
      unfold pid at h1
      cases e : property "id" (.obj fs) with
      | none => rw [e] at h1; cases h1
      | some q => rw [e] at h1; rw [show q = .str r.id from h1]
    have e2 : property "key" (.obj fs) = some (.str v) := by
      unfold pkey at e
      cases e3 : property "key" (.obj fs) with
      | none => rw [e3] at e; cases e
      | some q => rw [e3] at e; rw [show q = .str v from e]
    unfold rowIn
    rw [e1, e2]
    show (if 1 ≤ r.id.length ∧ r.id.length ≤ 20 then _ else _) = _
    rw [if_pos ⟨h2, h3⟩]
    show (match keyOfText v with
      | some k => if k.length ≤ n then some (R7290f.Spec.Row.mk r.id k) else none
      | none => none) = _
    rw [hk]
    show (if _ then _ else _) = _
    rw [if_pos hl]
theorem allSome_iff {α : Type} : ∀ (l : List (Option α)) (rs : List α), allSome l = some rs ↔ l = rs.map some
  | [], rs => by
    show some [] = some rs ↔ _
    constructor
    · intro h
      cases h
      rfl
    · intro h
      cases rs with
      | nil => rfl
      | cons _ _ => cases h
  | none :: l, rs => by
    show none = some rs ↔ _
    constructor
    · intro h
      cases h
    · intro h
      cases rs with
      | nil => cases h
      | cons _ _ => cases h
  | some x :: l, rs => by
    show (allSome l).map (fun l => x :: l) = some rs ↔ _
    cases rs with
    | nil =>
      constructor
      · intro h
        cases e : allSome l with
        | none => rw [e] at h; cases h
        | some q => rw [e] at h; cases h
      · intro h
        cases h
    | cons y rs =>
      rw [List.map_cons, List.cons_eq_cons, ← allSome_iff l rs]
      cases e : allSome l with
      | none => simp
      | some q => simp
theorem allSome_isSome {α : Type} : ∀ (l : List (Option α)), (allSome l).isSome = l.all Option.isSome
  | [] => rfl
  | none :: l => rfl
  | some x :: l => by
    show ((allSome l).map (fun l => x :: l)).isSome = _
    rw [Option.isSome_map, allSome_isSome l]
    rfl
/-- a row: its id and its key -/
def RAt (K : PySem.W.Frag) (H : Hp) (r : R7290f.Spec.Row) (v : V) : Prop := ∃ t a b, v = .ref t ∧ SqT K H t [.ref a, .ref b] ∧ Oc H a (uI r.id) ∧ Oc H b (kI r.key)
theorem RAt.kp {K : PySem.W.Frag} {H H' : Hp} {r : R7290f.Spec.Row} {v : V} (h : RAt K H r v) (q : Kp H H') : RAt K H' r v := let ⟨t, a, b, e, s, o1, o2⟩ := h; ⟨t, a, b, e, sqT_kp q s, o1.kp q, o2.kp q⟩
def RL (K : PySem.W.Frag) (H : Hp) (xs : List V) (rs : List R7290f.Spec.Row) : Prop := xs.length = rs.length ∧ ∀ (i : Nat) v r, xs[i]? = some v → rs[i]? = some r → RAt K H r v
theorem RL.kp {K : PySem.W.Frag} {H H' : Hp} {xs : List V} {rs : List R7290f.Spec.Row} (h : RL K H xs rs) (q : Kp H H') : RL K H' xs rs := ⟨h.1, fun i v r e1 e2 => (h.2 i v r e1 e2).kp q⟩
theorem uI_inj' {a b : Units} : uI a = uI b ↔ a = b := ⟨uI_inj, fun e => by rw [e]⟩
theorem nodup_uI (us : List Units) : (us.map uI).Nodup ↔ us.Nodup := by
  induction us with
  | nil => simp
  | cons u us ih =>
    rw [List.map_cons, List.nodup_cons, List.nodup_cons, ih]
    refine and_congr_left fun _ => not_congr ?_
    rw [List.mem_map]
    exact ⟨fun ⟨x, hx, e⟩ => uI_inj e ▸ hx, fun h => ⟨u, h, rfl⟩⟩
/-! ascend -/
abbrev s_ascend : Stmt := top 58
abbrev N_ascend : List Str := ["keys", "at"]
theorem sc_ascend : FnScope N_ascend ["keys"] (defScope s_ascend) := ⟨rfl, rfl, rfl, by decide +kernel, rfl, by decide +kernel, by decide +kernel⟩
def sp_ascend (K : PySem.W.Frag) : Sp := fun vs H Q _ => ∃ (a : Addr) (xs : List V) (ks : List (List Nat)), vs = [.ref a] ∧ SqL K H a xs ∧ KL H xs ks ∧ (∀ k ∈ ks, Dig k) ∧ ks.length ≤ 1000 ∧ Q (.bl (ascendingKeys ks)) H
section
variable {P : Program} {w : World} {K : PySem.W.Frag} {mg : Str → Option Value} {base : Heap}
theorem ca_ascend (F : Df K mg "ascend" s_ascend ["keys"]) {z : Ads} (T : Gb K mg z)   : Ca P w K mg base 1 "ascend" (sp_ascend K) := by
  refine ca_mk F sc_ascend (fun vs H Q E h => by
    obtain ⟨_, _, _, rfl, _⟩ := h
    rfl
    ) (fun f cdv A outer s H vs Q E hr h => ?_)
  refine ⟨_, pss_cons (ps_for rzp rfl (pi_range2 (by rfl) T.range (pa_cons pe_int (pa_cons (pe_len T.len (pv 0)) pa_nil))) (pg_name (i := 1) sc_ascend.nd rfl (Or.inl rfl)) (pss_one (ps_if (pt_not (pt_cmpR (op_ltT (hu0 hr)) (pe_ix ix_list (pv 0) (pe_op op_sub (pv 1) pe_int) (fun _ _ => rfl)) (pe_ix ix_list (pv 0) (pv 1) (fun _ _ => rfl)) (nomark _))) (pss_one (ps_ret pe_bl)) pss_nil))) (pss_one (ps_ret pe_bl)), ?_⟩
  obtain ⟨a, xs, ks, rfl, hl, hk, hd, hz, q⟩ := h
  have hx := hk.1
  walk_at "ex"
  refine x_r2 1 (ks.length - 1) rfl (by omega) (by omega) (fun i σ H' => H' = H ∧ (∀ (j : Nat) a b, j < i → ks[j]? = some a → ks[j + 1]? = some b → isBefore a b = true) ∧ ∃ o, σ = [some (.ref a), o]) ⟨rfl, fun j _ _ h => absurd h (Nat.not_lt_zero _), none, rfl⟩ (fun i σ H' hi hp => ?_) (fun σ H' hp => ?_)
  · obtain ⟨rfl, hj, o, rfl⟩ := hp
    obtain ⟨v1, e1, p1, rfl, h1⟩ := hk.get (i := i) (by omega)
    obtain ⟨v2, e2, p2, rfl, h2⟩ := hk.get (i := i + 1) (by omega)
    have d1 := hd _ (List.getElem_mem (by omega : i < ks.length))
    have d2 := hd _ (List.getElem_mem (by omega : i + 1 < ks.length))
    walk_at "ex"
    have c1 : (1 : Int) + (i : Int) - 1 = ((i : Nat) : Int) := by omega
    have c2 : (1 : Int) + (i : Int) = ((i + 1 : Nat) : Int) := by omega
    rw [c1, c2]
    refine x_ixL hl (atI_nat e1) ?_
    walk_at "ex"
    refine x_ixL hl (atI_nat e2) ?_
    refine x_ltT h1 h2 d1 d2 ?_
    walk_at "ex"
    cases e : isBefore ks[i] ks[i + 1] with
    | true =>
      refine ite_f Bool.false_ne_true ?_
      walk_at "ex"
      refine ⟨rfl, fun j a b hlt ea eb => ?_, _, rfl⟩
      rcases Nat.lt_succ_iff_lt_or_eq.mp hlt with h | h
      · exact hj j a b h ea eb
      · subst h
        rw [List.getElem?_eq_getElem (by omega)] at ea eb
        cases ea
        cases eb
        exact e
    | false =>
      refine ite_t rfl ?_
      walk_at "ex"
      have : ascendingKeys ks = false := by
        rw [Bool.eq_false_iff]
        intro z
        have := (asc_iff ks).mp z i _ _ (List.getElem?_eq_getElem (by omega)) (List.getElem?_eq_getElem (by omega))
        rw [e] at this
        cases this
      rw [this] at q
      exact q
  · obtain ⟨rfl, hj, o, rfl⟩ := hp
    walk_at "ex"
    have : ascendingKeys ks = true := (asc_iff ks).mpr fun j a b ea eb => hj j a b (by have := (List.getElem?_eq_some_iff.mp eb).1; omega) ea eb
    rw [this] at q
    exact q
end
/-! distinct -/
abbrev s_distinct : Stmt := top 59
abbrev N_distinct : List Str := ["names"]
theorem sc_distinct : FnScope N_distinct ["names"] (defScope s_distinct) := ⟨rfl, rfl, rfl, by decide +kernel, rfl, by decide +kernel, by decide +kernel⟩
def sp_distinct (K : PySem.W.Frag) : Sp := fun vs H Q _ => ∃ (a : Addr) (xs : List V) (us : List Units), vs = [.ref a] ∧ SqL K H a xs ∧ UL H xs us ∧ us.length ≤ 999 ∧ Q (.bl (distinctNames us)) H
section
variable {P : Program} {w : World} {K : PySem.W.Frag} {mg : Str → Option Value} {base : Heap}
theorem ca_distinct (F : Df K mg "distinct" s_distinct ["names"]) {z : Ads} (T : Gb K mg z)   : Ca P w K mg base 1 "distinct" (sp_distinct K) := by
  refine ca_mk F sc_distinct (fun vs H Q E h => by
    obtain ⟨_, _, _, rfl, _⟩ := h
    rfl
    ) (fun f cdv A outer s H vs Q E hr h => ?_)
  refine ⟨_, pss_one (ps_ret (pe_cmpR op_eq (pe_lenSetT rfl hr.units T.len T.set (pv 0)) (pe_len T.len (pv 0)) (nomark _))), ?_⟩
  obtain ⟨a, xs, us, rfl, hl, hu, hz, q⟩ := h
  obtain ⟨ks, ek, hks, ek2⟩ : ∃ ks : List (Addr × List Int), xs = ks.map (fun p => V.ref p.1) ∧ (∀ p ∈ ks, SqT K H p.1 (p.2.map V.int)) ∧ ks.map (·.2) = us.map uI := by
    clear hl hz q
    revert xs
    induction us with
    | nil =>
      intro xs hu
      exact ⟨[], List.length_eq_zero_iff.mp hu.1, (fun p hp => by cases hp), rfl⟩
    | cons u us ih =>
      intro xs hu
      cases xs with
      | nil => exact absurd hu.1 (by simp)
      | cons x xs =>
        obtain ⟨ks, e1, e2, e3⟩ := ih xs ⟨by have := hu.1; simpa using this, fun i v u e1 e2 => hu.2 (i + 1) v u e1 e2⟩
        obtain ⟨b, rfl, hb⟩ := hu.2 0 x u rfl rfl
        refine ⟨(b, uI u) :: ks, by rw [e1]; rfl, fun p hp => ?_, by rw [List.map_cons, e3]; rfl⟩
        rcases List.mem_cons.mp hp with e | e
        · subst e
          exact hb.t
        · exact e2 p e
  have hkl : ks.length = us.length := by
    have := congrArg List.length ek2
    rw [List.length_map, List.length_map] at this
    exact this
  have hxl : xs.length = us.length := hu.1
  walk_at "ex"
  refine ⟨a, ks, rfl, ek ▸ hl, hks, by omega, fun n hn => ?_⟩
  walk_at "ex"
  rw [ek2, nodup_uI, hkl] at hn
  have : distinctNames us = decide ((n : Int) = (xs.length : Int)) := by
    rw [Bool.eq_iff_iff, dist_iff, ← hn, decide_eq_true_eq, hxl]
    omega
  rw [this] at q
  exact q
end
/-! is_row -/
abbrev s_is_row : Stmt := top 60
abbrev N_is_row : List Str := ["value", "limit", "name"]
theorem sc_is_row : FnScope N_is_row ["value", "limit"] (defScope s_is_row) := ⟨rfl, rfl, rfl, by decide +kernel, rfl, by decide +kernel, by decide +kernel⟩
def sp_is_row (K : PySem.W.Frag) : Sp := fun vs H Q _ => ∃ (v : V) (p : Plain) (n : Nat), vs = [v, .int n] ∧ VAt K H p v ∧ n ≤ 20 ∧ ∀ H', Same H H' → Q (.bl (rowIn n p).isSome) H'
section
variable {P : Program} {w : World} {K : PySem.W.Frag} {mg : Str → Option Value} {base : Heap}
theorem ca_is_row (F : Df K mg "is_row" s_is_row ["value", "limit"]) {z : Ads} (T : Gb K mg z)  (c_is_key_value : Ca P w K mg base 3 "is_key_value" (sp_is_key_value K)) (c_member_of : Ca P w K mg base 2 "member_of" (sp_member_of K)) : Ca P w K mg base 4 "is_row" (sp_is_row K) := by
  refine ca_mk F sc_is_row (fun vs H Q E h => by
    obtain ⟨_, _, _, rfl, _⟩ := h
    rfl
    ) (fun f cdv A outer s H vs Q E hr h => ?_)
  refine ⟨_, pss_cons (ps_if (pt_cmpR op_ne (pe_ix ix_tup (pv 0) pe_int (fun _ _ => rfl)) (pe_gk T.cRECORD) (nomark _)) (pss_one (ps_ret pe_bl)) pss_nil) (pss_cons (ps_set (i := 2) sc_is_row.nd rfl (Or.inl rfl) (pe_ca c_member_of hr (by first | decide | omega) passN (pa_cons (pv 0) (pa_cons pe_str pa_nil)))) (pss_cons (ps_if (PW.pt (pw_or (pt_cmpR op_ne (pe_ix ix_tup (pv 2) pe_int (fun _ _ => rfl)) (pe_gk T.cTEXT) (nomark _)) (pw_or1 (pt_not (pt_chain op_le op_le pe_int (pe_len T.len (pe_ix ix_tup (pv 2) pe_int (fun _ _ => rfl))) pe_int))))) (pss_one (ps_ret pe_bl)) pss_nil) (pss_one (ps_ret (pe_ca c_is_key_value hr (by first | decide | omega) passN (pa_cons (pe_ca c_member_of hr (by first | decide | omega) passN (pa_cons (pv 0) (pa_cons pe_str pa_nil))) (pa_cons (pv 1) pa_nil))))))), ?_⟩
  obtain ⟨v, p, n, rfl, hv, hn, q⟩ := h
  obtain ⟨t, y, rfl, ht⟩ := hv.tg
  have nope : (∀ r, rowIn n p ≠ some r) → (rowIn n p).isSome = false := fun h => by
    cases e : rowIn n p with
    | none => rfl
    | some r => exact absurd e (h r)
  walk_at "ex"
  refine ite_nd (fun c => ?_) (fun c => ?_)
  · walk_at "ex"
    rw [nope fun r h => by obtain ⟨⟨fs, e⟩, _⟩ := rowIn_iff.mp h; subst e; exact c rfl] at q
    exact q _ (Same.refl _)
  obtain ⟨fs, rfl⟩ := kind8 c
  walk_at "ex"
  refine ⟨_, _, fs, units "id", rfl, hv, by rw [sz_lit]; decide +kernel, cI_lit "id" (by decide +kernel), fun x H1 s1 hx => ?_⟩
  have hx' : VAt K H1 (pid (.obj fs)) x := hx
  obtain ⟨t1, y1, rfl, ht1⟩ := hx'.tg
  walk_at "ex"
  refine ite_nd (fun c1 => ?_) (fun c1 => ?_)
  · refine ite_t rfl ?_
    walk_at "ex"
    rw [nope fun r h => by obtain ⟨_, e, _⟩ := rowIn_iff.mp h; rw [e] at c1; exact c1 rfl] at q
    exact q _ s1
  obtain ⟨u, eu⟩ := kind6 c1
  rw [eu] at hx'
  obtain ⟨b, ⟨t2, e2, ht2⟩, hb⟩ := hx'
  cases e2
  walk_at "ex"
  have hbt := hb.t (K := K)
  walk_at "ex"
  rw [len_map, uI_len]
  have bad : ¬ (1 ≤ u.length ∧ u.length ≤ 20) → Q (.bl false) H1 := fun hb => by
    rw [nope fun r h => by obtain ⟨_, e, l1, l2, _⟩ := rowIn_iff.mp h; rw [eu] at e; cases e; exact hb ⟨l1, l2⟩] at q
    exact q _ s1
  refine ite_d (fun c2 => ?_) (fun c2 => ?_)
  · walk_at "ex"
    refine ite_nd (fun c3 => ?_) (fun c3 => ?_)
    · walk_at "ex"
      exact bad (by omega)
    · walk_at "ex"
      have l1 : 1 ≤ u.length := by omega
      have l2 : u.length ≤ 20 := by omega
      have hv1 := VAt.kp (Kp.of s1) hv
      refine ⟨_, _, fs, units "key", rfl, hv1, by rw [sz_lit]; decide +kernel, cI_lit "key" (by decide +kernel), fun x H2 s2 hx2 => ?_⟩
      walk_at "ex"
      have hx3 : VAt K H2 (pkey (.obj fs)) x := hx2
      refine ⟨x, _, n, rfl, hx3, hn, ?_⟩
      have : (rowIn n (.obj fs)).isSome = (keyV n (pkey (.obj fs))).isSome := by
        cases e : keyV n (pkey (.obj fs)) with
        | none =>
          rw [nope fun r h => by obtain ⟨_, _, _, _, e3⟩ := rowIn_iff.mp h; rw [e] at e3; cases e3]
          rfl
        | some k =>
          rw [(rowIn_iff (r := ⟨u, k⟩)).mpr ⟨⟨fs, rfl⟩, eu, l1, l2, e⟩]
          rfl
      rw [← this]
      exact q _ (s1.trans s2)
  · walk_at "ex"
    refine ite_t rfl ?_
    walk_at "ex"
    exact bad (by omega)

end
end OK
namespace OK
open PySem PySem.Spec PyProof.Rows L2
open R7290f.Spec (Plain Units Err Res Cls units ascendingKeys distinctNames property keyOfText isBefore wrong rowIn rowsIn rowsArgument allSome distinctIds)
theorem x_allB {K : PySem.W.Frag} {H : Hp} {Q : VK} {a : Addr} {bs : List Bool} (h : SqL K H a (bs.map V.bl)) (q : Q (.bl (bs.all id)) H) : rAllB K (.ref a) H Q := ⟨a, bs, rfl, h, q⟩
theorem items_bl {H : Hp} {ys : List V} {l : List Bool} (h : Items (fun _ i v => ∃ c, l[i]? = some c ∧ v = V.bl c) H l.length ys) : ys = l.map V.bl := by
  refine List.ext_getElem? fun i => ?_
  rw [List.getElem?_map]
  cases e : l[i]? with
  | none => exact List.getElem?_eq_none (by rw [h.1]; exact List.getElem?_eq_none_iff.mp e)
  | some c =>
    have hi : i < ys.length := by
      rw [h.1]
      exact (List.getElem?_eq_some_iff.mp e).1
    obtain ⟨c', e1, e2⟩ := h.2 i _ (List.getElem?_eq_getElem hi)
    rw [List.getElem?_eq_getElem hi, e2]
    rw [e] at e1
    cases e1
    rfl
/-- the rows of a list of records -/
abbrev rowsOf (n : Nat) (l : List Plain) (rs : List R7290f.Spec.Row) : Prop := l.map (rowIn n) = rs.map some
theorem rowsOf_get {n : Nat} {l : List Plain} {rs : List R7290f.Spec.Row} (h : rowsOf n l rs) {i : Nat} {p : Plain} (e : l[i]? = some p) : ∃ r, rs[i]? = some r ∧ rowIn n p = some r := by
  have := congrArg (fun x => x[i]?) h
  rw [List.getElem?_map, List.getElem?_map, e] at this
  cases e2 : rs[i]? with
  | none => rw [e2] at this; cases this
  | some r => rw [e2] at this; exact ⟨r, rfl, Option.some.inj this⟩
theorem rowsOf_len {n : Nat} {l : List Plain} {rs : List R7290f.Spec.Row} (h : rowsOf n l rs) : l.length = rs.length := by
  have := congrArg List.length h
  rw [List.length_map, List.length_map] at this
  exact this
theorem rowsIn_arr (n : Nat) (l : List Plain) : rowsIn n (.arr l) = if l.length ≤ 60 then (match allSome (l.map (rowIn n)) with
    | some s => if ascendingKeys (s.map fun r => r.key) && distinctIds s then some s else none
    | none => none) else none := rfl
theorem rowsIn_some {n : Nat} {p : Plain} {rs : List R7290f.Spec.Row} (h : rowsIn n p = some rs) : ∃ l, p = .arr l ∧ l.length ≤ 60 ∧ rowsOf n l rs ∧ ascendingKeys (rs.map fun r => r.key) = true ∧ distinctIds rs = true := by
  cases p with
  | arr l =>
    rw [rowsIn_arr] at h
    split at h
    · rename_i hl
      cases e : allSome (l.map (rowIn n)) with
      | none => rw [e] at h; cases h
      | some s =>
        rw [e] at h
        dsimp only at h
        split at h
        · rename_i hc
          cases h
          rw [Bool.and_eq_true_iff] at hc
          exact ⟨l, rfl, hl, (allSome_iff _ _).mp e, hc.1, hc.2⟩
        · cases h
    · cases h
  | _ => cases h
/-! row_pairs -/
abbrev s_row_pairs : Stmt := top 61
abbrev N_row_pairs : List Str := ["value", "row"]
theorem sc_row_pairs : FnScope N_row_pairs ["value"] (defScope s_row_pairs) := ⟨rfl, rfl, rfl, by decide +kernel, rfl, by decide +kernel, by decide +kernel⟩
def sp_row_pairs (K : PySem.W.Frag) : Sp := fun vs H Q _ => ∃ (v : V) (l : List Plain) (n : Nat) (rs : List R7290f.Spec.Row), vs = [v] ∧ VAt K H (.arr l) v ∧ rowsOf n l rs ∧ l.length ≤ 60 ∧ ∀ D H' ys, H D = none → Same H H' → H' D = some (.lst ys) → RL K H' ys rs → Q (.ref D) H'
section
variable {P : Program} {w : World} {K : PySem.W.Frag} {mg : Str → Option Value} {base : Heap}
theorem ca_row_pairs (F : Df K mg "row_pairs" s_row_pairs ["value"]) {z : Ads} (T : Gb K mg z)  (c_member_of : Ca P w K mg base 2 "member_of" (sp_member_of K)) : Ca P w K mg base 3 "row_pairs" (sp_row_pairs K) := by
  refine ca_mk F sc_row_pairs (fun vs H Q E h => by
    obtain ⟨_, _, _, _, rfl, _⟩ := h
    rfl
    ) (fun f cdv A outer s H vs Q E hr h => ?_)
  refine ⟨_, pss_one (ps_ret (pe_lc (own := [("row", 1)]) (g := (gName 1)) (tt := tYes) rfl sc_row_pairs.nd (pi_list (pe_ix ix_tup (pv 0) pe_int (fun _ _ => rfl))) (blkOk_by (own := [("row", 1)]) (N := N_row_pairs) (sc := defScope s_row_pairs) (by decide +kernel)) (fun _ _ _ _ _ => (pg_name (i := 1) sc_row_pairs.nd rfl (Or.inl rfl))) (fun _ _ _ _ _ => pts_nil) (fun _ _ _ _ _ => (pe_tup (pa_cons (pe_ix (ixt_K (K := K)) (pe_ca c_member_of hr (by first | decide | omega) passN (pa_cons (pv 1) (pa_cons pe_str pa_nil))) pe_int (fun _ _ => rfl)) (pa_cons (pe_ix (ixt_K (K := K)) (pe_ca c_member_of hr (by first | decide | omega) passN (pa_cons (pv 1) (pa_cons pe_str pa_nil))) pe_int (fun _ _ => rfl)) pa_nil)))))), ?_⟩
  obtain ⟨v, l, n, rs, rfl, hv, hr, hz, q⟩ := h
  obtain ⟨a, xs, ⟨t, rfl, ht⟩, hl, hvs⟩ := hv
  have hxl := hvs.len
  have hrl := rowsOf_len hr
  walk_at "ex"
  refine x_lcl hl.l (by omega) (fun H i v => ∃ r, rs[i]? = some r ∧ RAt K H r v) (fun H H' i v k h => let ⟨u, e, o⟩ := h; ⟨u, e, o.kp k⟩) (fun x H => gName_mono x _ H) (fun i x H' hx s Q' hQ => ?_) (fun D H' ys hD s hy it => ?_)
  · obtain ⟨p, hp, hpx⟩ := hvs.get hx
    obtain ⟨r, hri, hrow⟩ := rowsOf_get hr hp
    obtain ⟨⟨fs, rfl⟩, hid, l1, l2, hkey⟩ := rowIn_iff.mp hrow
    have hpx2 := VAt.kp (Kp.of s) hpx
    walk_at "ex"
    refine ⟨rfl, ?_⟩
    walk_at "ex"
    refine ⟨_, _, fs, units "id", rfl, hpx2, by rw [sz_lit]; decide +kernel, cI_lit "id" (by decide +kernel), fun y H1 s1 hy => ?_⟩
    have hy' : VAt K H1 (pid (.obj fs)) y := hy
    rw [hid] at hy'
    obtain ⟨b, ⟨t1, rfl, ht1⟩, hb⟩ := hy'
    have hpx3 := VAt.kp (Kp.of s1) hpx2
    walk_at "ex"
    refine ⟨_, _, fs, units "key", rfl, hpx3, by rw [sz_lit]; decide +kernel, cI_lit "key" (by decide +kernel), fun y2 H2 s2 hy2 => ?_⟩
    obtain ⟨kv, ek, _, hku, ok, _⟩ := keyV_some hkey
    have hy3 : VAt K H2 (pkey (.obj fs)) y2 := hy2
    rw [ek] at hy3
    obtain ⟨b2, ⟨t2, rfl, ht2⟩, hb2⟩ := hy3
    walk_at "ex"
    refine ⟨two_le, fun T hT => hQ _ _ (s1.trans (s2.trans (same_new hT))) ⟨r, hri, T, b, b2, rfl, SqT.of upd_same, hb.kp (Kp.of (s2.trans (same_new hT))), ?_⟩⟩
    rw [← hku]
    exact hb2.kp (Kp.of (same_new hT))
  · refine q D H' ys hD s hy ⟨by rw [it.1, hxl, hrl], fun i v r e1 e2 => ?_⟩
    obtain ⟨r', e3, h3⟩ := it.2 i v e1
    rw [e2] at e3
    cases e3
    exact h3
end
/-! is_board -/
abbrev s_is_board : Stmt := top 62
abbrev N_is_board : List Str := ["value", "limit", "rows", "row", "name", "key"]
theorem sc_is_board : FnScope N_is_board ["value", "limit"] (defScope s_is_board) := ⟨rfl, rfl, rfl, by decide +kernel, rfl, by decide +kernel, by decide +kernel⟩
def sp_is_board (K : PySem.W.Frag) : Sp := fun vs H Q _ => ∃ (v : V) (p : Plain) (n : Nat), vs = [v, .int n] ∧ VAt K H p v ∧ n ≤ 20 ∧ ∀ H', Same H H' → Q (.bl (rowsIn n p).isSome) H'
section
variable {P : Program} {w : World} {K : PySem.W.Frag} {mg : Str → Option Value} {base : Heap}
theorem ca_is_board (F : Df K mg "is_board" s_is_board ["value", "limit"]) {z : Ads} (T : Gb K mg z)  (c_ascend : Ca P w K mg base 1 "ascend" (sp_ascend K)) (c_distinct : Ca P w K mg base 1 "distinct" (sp_distinct K)) (c_row_pairs : Ca P w K mg base 3 "row_pairs" (sp_row_pairs K)) (c_is_row : Ca P w K mg base 4 "is_row" (sp_is_row K)) : Ca P w K mg base 5 "is_board" (sp_is_board K) := by
  refine ca_mk F sc_is_board (fun vs H Q E h => by
    obtain ⟨_, _, _, rfl, _⟩ := h
    rfl
    ) (fun f cdv A outer s H vs Q E hr h => ?_)
  refine ⟨_, pss_cons (ps_if (PW.pt (pw_or (pt_cmpR op_ne (pe_ix ix_tup (pv 0) pe_int (fun _ _ => rfl)) (pe_gk T.cLIST) (nomark _)) (pw_or1 (pt_cmpR op_gt (pe_len T.len (pe_ix ix_tup (pv 0) pe_int (fun _ _ => rfl))) pe_int (nomark _))))) (pss_one (ps_ret pe_bl)) pss_nil) (pss_cons (ps_if (pt_not (pt_val (pe_all rfl T.all (pe_lc (own := [("row", 3)]) (g := (gName 3)) (tt := tYes) rfl sc_is_board.nd (pi_list (pe_ix ix_tup (pv 0) pe_int (fun _ _ => rfl))) (blkOk_by (own := [("row", 3)]) (N := N_is_board) (sc := defScope s_is_board) (by decide +kernel)) (fun _ _ _ _ _ => (pg_name (i := 3) sc_is_board.nd rfl (Or.inl rfl))) (fun _ _ _ _ _ => pts_nil) (fun _ _ _ _ _ => (pe_ca c_is_row hr (by first | decide | omega) passN (pa_cons (pv 3) (pa_cons (pv 1) pa_nil)))))))) (pss_one (ps_ret pe_bl)) pss_nil) (pss_cons (ps_set (i := 2) sc_is_board.nd rfl (Or.inl rfl) (pe_ca c_row_pairs hr (by first | decide | omega) passN (pa_cons (pv 0) pa_nil))) (pss_one (ps_ret (pe_and (pe_ca c_ascend hr (by first | decide | omega) passN (pa_cons (pe_lc (own := [("name", 4), ("key", 5)]) (g := (gTup K 2 (gCons (gName 4) (gCons (gName 5) gNil)))) (tt := tYes) rfl sc_is_board.nd (pi_list (pv 2)) (blkOk_by (own := [("name", 4), ("key", 5)]) (N := N_is_board) (sc := defScope s_is_board) (by decide +kernel)) (fun _ _ _ _ _ => (pg_tup rfl (pgs_cons (pg_name (i := 4) sc_is_board.nd rfl (Or.inl rfl)) (pgs_cons (pg_name (i := 5) sc_is_board.nd rfl (Or.inl rfl)) pgs_nil)))) (fun _ _ _ _ _ => pts_nil) (fun _ _ _ _ _ => (pv 5))) pa_nil)) (pe_one (pe_ca c_distinct hr (by first | decide | omega) passN (pa_cons (pe_lc (own := [("name", 4), ("key", 5)]) (g := (gTup K 2 (gCons (gName 4) (gCons (gName 5) gNil)))) (tt := tYes) rfl sc_is_board.nd (pi_list (pv 2)) (blkOk_by (own := [("name", 4), ("key", 5)]) (N := N_is_board) (sc := defScope s_is_board) (by decide +kernel)) (fun _ _ _ _ _ => (pg_tup rfl (pgs_cons (pg_name (i := 4) sc_is_board.nd rfl (Or.inl rfl)) (pgs_cons (pg_name (i := 5) sc_is_board.nd rfl (Or.inl rfl)) pgs_nil)))) (fun _ _ _ _ _ => pts_nil) (fun _ _ _ _ _ => (pv 4))) pa_nil)))))))), ?_⟩
  obtain ⟨v, p, n, rfl, hv, hn, q⟩ := h
  obtain ⟨t, y, rfl, ht⟩ := hv.tg
  have nope : (∀ rs, rowsIn n p ≠ some rs) → ∀ H', Same H H' → Q (.bl false) H' := fun h H' s => by
    have e : (rowsIn n p).isSome = false := by
      cases e : rowsIn n p with
      | none => rfl
      | some r => exact absurd e (h r)
    rw [← e]
    exact q H' s
  walk_at "ex"
  refine ite_nd (fun c => ?_) (fun c => ?_)
  · refine ite_t rfl ?_
    walk_at "ex"
    exact nope (fun rs h => by obtain ⟨l, e, _⟩ := rowsIn_some h; subst e; exact c rfl) _ (Same.refl _)
  obtain ⟨l, rfl⟩ := kind7 c
  obtain ⟨a, xs, ⟨t, e, ht⟩, hl, hvs⟩ := hv
  cases e
  have hsl : SqL K H a xs := hl.l
  have hxl := hvs.len
  walk_at "ex"
  refine ite_d (fun c1 => ?_) (fun c1 => ?_)
  · walk_at "ex"
    exact nope (fun rs h => by obtain ⟨l', e, hl', _⟩ := rowsIn_some h; cases e; omega) _ (Same.refl _)
  have hz : l.length ≤ 60 := by omega
  walk_at "ex"
  refine x_lcl hsl (by omega) (fun _ i v => ∃ c, (l.map fun p => (rowIn n p).isSome)[i]? = some c ∧ v = V.bl c) (fun _ _ _ _ _ h => h) (fun x H => gName_mono x _ H) (fun i x H' hx s Q' hQ => ?_) (fun D H' ys hD s hy it => ?_)
  · obtain ⟨p, hp, hpx⟩ := hvs.get hx
    have hpx2 := VAt.kp (Kp.of s) hpx
    walk_at "ex"
    refine ⟨rfl, ?_⟩
    walk_at "ex"
    refine ⟨x, p, n, rfl, hpx2, hn, fun H2 s2 => hQ _ _ s2 ⟨_, ?_, rfl⟩⟩
    rw [List.getElem?_map, hp]
    rfl
  have ey : ys = (l.map fun p => (rowIn n p).isSome).map V.bl := items_bl (by rw [List.length_map, ← hxl]; exact it)
  walk_at "ex"
  refine x_allB (ey ▸ SqL.of hy) ?_
  walk_at "ex"
  have eall : (l.map fun p => (rowIn n p).isSome).all id = (allSome (l.map (rowIn n))).isSome := by
    rw [allSome_isSome, List.all_map, List.all_map]
    rfl
  rw [eall]
  cases ea : allSome (l.map (rowIn n)) with
  | none =>
    refine ite_t rfl ?_
    walk_at "ex"
    exact nope (fun rs h => by obtain ⟨l', e, hl', hr, _⟩ := rowsIn_some h; cases e; rw [(allSome_iff _ _).mpr hr] at ea; cases ea) _ s
  | some rs =>
    have hr : rowsOf n l rs := (allSome_iff _ _).mp ea
    have hrl := rowsOf_len hr
    have er : (rowsIn n (.arr l)).isSome = (ascendingKeys (rs.map fun r => r.key) && distinctNames (rs.map fun r => r.id)) := by
      rw [rowsIn_arr, if_pos hz, ea]
      dsimp only
      show (if (ascendingKeys (rs.map fun r => r.key) && distinctNames (rs.map fun r => r.id)) = true then some rs else none).isSome = _
      cases (ascendingKeys (rs.map fun r => r.key) && distinctNames (rs.map fun r => r.id)) <;> rfl
    rw [er] at q
    have dkeys : ∀ k ∈ rs.map (fun r => r.key), Dig k := fun k hk => by
      obtain ⟨r, hr', rfl⟩ := List.mem_map.mp hk
      obtain ⟨i, hi⟩ := List.mem_iff_getElem?.mp hr'
      have : i < l.length := by
        rw [hrl]
        exact (List.getElem?_eq_some_iff.mp hi).1
      obtain ⟨r2, e1, e2⟩ := rowsOf_get hr (List.getElem?_eq_getElem this)
      rw [hi] at e1
      cases e1
      obtain ⟨_, _, _, _, hk2⟩ := rowIn_iff.mp e2
      obtain ⟨_, _, _, _, ok, _⟩ := keyV_some hk2
      exact ok.dig
    refine ite_f Bool.false_ne_true ?_
    have hv1 : VAt K H' (.arr l) (.ref t) := ⟨a, xs, ⟨t, rfl, sqT_same s ht⟩, hl.kp (Kp.of s), VsAt.kp (Kp.of s) hvs⟩
    walk_at "ex"
    refine ⟨_, l, n, rs, rfl, hv1, hr, hz, fun D2 H2 zs hD2 s2 hz2 hrl2 => ?_⟩
    have hzl := hrl2.1
    walk_at "ex"
    refine x_lcl (SqL.of hz2) (by omega) (fun H i v => ∃ k, (rs.map fun r => r.key)[i]? = some k ∧ KAt H v k) (fun H H' i v k h => let ⟨u, e, o⟩ := h; ⟨u, e, o.kp k⟩) (fun x H => gPair_mono x _ H) (fun i x H3 hx s3 Q' hQ => ?_) (fun D3 H3 ws hD3 s3 hw it3 => ?_)
    · have hi : i < rs.length := by rw [← hzl]; exact (List.getElem?_eq_some_iff.mp hx).1
      obtain ⟨tt, b1, b2, rfl, htt, ho1, ho2⟩ := hrl2.2 i x _ hx (List.getElem?_eq_getElem hi)
      have htt2 := sqT_same s3 htt
      walk_at "ex"
      refine ⟨rfl, ?_⟩
      walk_at "ex"
      refine hQ _ _ (Same.refl _) ⟨_, ?_, b2, rfl, ho2.kp (Kp.of s3)⟩
      rw [List.getElem?_map, List.getElem?_eq_getElem hi]
      rfl
    walk_at "ex"
    refine ⟨D3, ws, rs.map fun r => r.key, rfl, SqL.of hw, ⟨by rw [it3.1, List.length_map]; exact hzl, fun i v k e1 e2 => ?_⟩, dkeys, by rw [List.length_map]; omega, ?_⟩
    · obtain ⟨k', e3, h3⟩ := it3.2 i v e1
      rw [e2] at e3
      cases e3
      exact h3
    walk_at "ex"
    have hz3 := s3 _ _ hz2
    have hrl3 := hrl2.kp (Kp.of s3)
    cases e4 : ascendingKeys (rs.map fun r => r.key) with
    | false =>
      refine ite_f Bool.false_ne_true ?_
      rw [e4] at q
      exact q _ (s.trans (s2.trans s3))
    | true =>
      rw [e4, Bool.true_and] at q
      refine ite_t rfl ?_
      walk_at "ex"
      refine x_lcl (SqL.of hz3) (by omega) (fun H i v => ∃ r, rs[i]? = some r ∧ ∃ b, v = .ref b ∧ Oc H b (uI r.id)) (fun H H' i v k h => let ⟨u, e, b, e2, o⟩ := h; ⟨u, e, b, e2, o.kp k⟩) (fun x H => gPair_mono x _ H) (fun i x H4 hx s4 Q' hQ => ?_) (fun D4 H4 ws4 hD4 s4 hw4 it4 => ?_)
      · have hi : i < rs.length := by rw [← hzl]; exact (List.getElem?_eq_some_iff.mp hx).1
        obtain ⟨tt, b1, b2, rfl, htt, ho1, ho2⟩ := hrl3.2 i x _ hx (List.getElem?_eq_getElem hi)
        have htt2 := sqT_same s4 htt
        walk_at "ex"
        refine ⟨rfl, ?_⟩
        walk_at "ex"
        exact hQ _ _ (Same.refl _) ⟨_, List.getElem?_eq_getElem hi, b1, rfl, ho1.kp (Kp.of s4)⟩
      walk_at "ex"
      refine ⟨D4, ws4, rs.map fun r => r.id, rfl, SqL.of hw4, ⟨by rw [it4.1, List.length_map]; exact hzl, fun i v k e1 e2 => ?_⟩, by rw [List.length_map]; omega, q _ (s.trans (s2.trans (s3.trans s4)))⟩
      obtain ⟨r', e3, b, e5, h3⟩ := it4.2 i v e1
      rw [List.getElem?_map, e3] at e2
      cases e2
      exact ⟨b, e5, h3⟩
end
/-! board_of -/
abbrev s_board_of : Stmt := top 63
abbrev N_board_of : List Str := ["value", "word", "limit"]
theorem sc_board_of : FnScope N_board_of ["value", "word", "limit"] (defScope s_board_of) := ⟨rfl, rfl, rfl, by decide +kernel, rfl, by decide +kernel, by decide +kernel⟩
def sp_board_of (z : Ads) (K : PySem.W.Frag) : Sp := fun vs H Q E => ∃ (v : V) (p : Plain) (w : Str) (name : String) (n : Nat), vs = [v, .str w, .int n] ∧ VAt K H p v ∧ cI w = uM name ∧ w.cps.size ≤ 100 ∧ n ≤ 20 ∧
  (∀ rs D H' ys, rowsArgument name n p = .ok rs → rowsIn n p = some rs → H D = none → Same H H' → H' D = some (.lst ys) → RL K H' ys rs → Q (.ref D) H') ∧ ∀ e, rowsArgument name n p = .error e → Er z H E e
section
variable {P : Program} {w : World} {K : PySem.W.Frag} {mg : Str → Option Value} {base : Heap}
theorem ca_board_of (F : Df K mg "board_of" s_board_of ["value", "word", "limit"]) {z : Ads} (T : Gb K mg z)  (c_row_pairs : Ca P w K mg base 3 "row_pairs" (sp_row_pairs K)) (c_is_board : Ca P w K mg base 5 "is_board" (sp_is_board K)) : Ca P w K mg base 6 "board_of" (sp_board_of z K) := by
  refine ca_mk F sc_board_of (fun vs H Q E h => by
    obtain ⟨_, _, _, _, _, rfl, _⟩ := h
    rfl
    ) (fun f cdv A outer s H vs Q E hr h => ?_)
  refine ⟨_, pss_cons (ps_if (pt_not (pt_val (pe_ca c_is_board hr (by first | decide | omega) passN (pa_cons (pv 0) (pa_cons (pv 2) pa_nil))))) (pss_one (ps_raiseM rfl rz (by exact (pmk_msg PySem.F.excBase_Exception T.xWrongKind T.gWrongKind T.kWrongKind (raises_own T.bWrongKind T.tWrongKind) (pe_joined (PJ.cons (pe_fmt (pv 1)) (PJ.cons pe_str PJ.nil))))))) pss_nil) (pss_one (ps_ret (pe_ca c_row_pairs hr (by first | decide | omega) passN (pa_cons (pv 0) pa_nil)))), ?_⟩
  obtain ⟨v, p, w, name, n, rfl, hv, hw, hwz, hn, q, qe⟩ := h
  walk_at "ex"
  refine ⟨v, p, n, rfl, hv, hn, fun H1 s1 => ?_⟩
  walk_at "ex"
  cases e : rowsIn n p with
  | none =>
    have e2 : rowsArgument name n p = .error (wrong (name ++ " must be a list of at most 60 rows with ascending keys")) := by
      unfold rowsArgument
      rw [e]
      rfl
    refine ite_t rfl ?_
    walk_at "ex"
    refine x_fS (by omega) ?_
    refine x_jy (by rw [sz_app]; show 0 + _ ≤ _; omega) ?_
    walk_at "ex"
    have z1 : (Str.ofString " must be a list of at most 60 rows with ascending keys").cps.size ≤ 100 := by rw [sz_lit]; decide +kernel
    have z0 : Str.empty.cps.size = 0 := rfl
    refine x_jy (by rw [sz_app, sz_app]; omega) ?_
    walk_at "ex"
    refine ⟨_, rfl, fun t ht => qe _ e2 t _ _ (s1.trans (same_new ht)) upd_same ?_ (by rw [sz_app, sz_app]; omega)⟩
    rw [cI_app, cI_app, hw, cI_lit " must be a list of at most 60 rows with ascending keys" (by decide +kernel)]
    show _ = uM (name ++ " must be a list of at most 60 rows with ascending keys")
    rw [uM_app]
    rfl
  | some rs =>
    obtain ⟨l, rfl, hl, hr, _⟩ := rowsIn_some e
    refine ite_f Bool.false_ne_true ?_
    walk_at "ex"
    refine ⟨v, l, n, rs, rfl, VAt.kp (Kp.of s1) hv, hr, hl, fun D H2 ys hD s2 hy hrl => q rs D H2 ys ?_ e (same_none s1 hD) (s1.trans s2) hy hrl⟩
    unfold rowsArgument
    rw [e]

end
end OK
namespace OK
open PySem PySem.Spec PyProof.Rows L2
open R7290f.Spec (Units Bound Key keyOfText numberOf offsets chains longest keepFrom keptRows keysBetween)
/-- a text of a row: its key, if it is one -/
def TxAt (H : Hp) (v : V) (b : Bound) : Prop := match b with
  | some k => KAt H v k ∧ KeyOk k
  | none => v = .non ∨ ∃ a u, v = .ref a ∧ Oc H a (uI u) ∧ keyOfText u = none
theorem TxAt.kp {H H' : Hp} {v : V} {b : Bound} (h : TxAt H v b) (q : Kp H H') : TxAt H' v b := by
  cases b with
  | some k => exact ⟨KAt.kp (k := k) h.1 q, h.2⟩
  | none =>
    rcases h with e | ⟨a, u, e, o, n⟩
    · exact .inl e
    · exact .inr ⟨a, u, e, o.kp q, n⟩
def TL (H : Hp) (xs : List V) (rows : List Bound) : Prop := xs.length = rows.length ∧ ∀ (i : Nat) v b, xs[i]? = some v → rows[i]? = some b → TxAt H v b
theorem TL.kp {H H' : Hp} {xs : List V} {rows : List Bound} (h : TL H xs rows) (q : Kp H H') : TL H' xs rows := ⟨h.1, fun i v b e1 e2 => (h.2 i v b e1 e2).kp q⟩
theorem TL.get {H : Hp} {xs : List V} {rows : List Bound} (h : TL H xs rows) {i : Nat} {b : Bound} (e : rows[i]? = some b) : ∃ x, xs[i]? = some x ∧ TxAt H x b := by
  have hi : i < xs.length := by
    rw [h.1]
    exact (List.getElem?_eq_some_iff.mp e).1
  exact ⟨xs[i], List.getElem?_eq_getElem hi, h.2 i _ b (List.getElem?_eq_getElem hi) e⟩
abbrev nI (l : List Nat) : List Int := l.map fun (n : Nat) => (n : Int)
theorem nI_get {l : List Nat} {i : Nat} {n : Nat} (h : l[i]? = some n) : (nI l)[i]? = some (n : Int) := by
  unfold nI
  rw [List.getElem?_map, h]
  rfl
theorem isKeyI_kI {k : List Nat} (h : KeyOk k) (n : Nat) : isKeyI (kI k) (n : Int) = decide (k.length ≤ n) := by
  unfold isKeyI
  rw [kI_all h.dig, kI_last h.dig, decide_eq_false h.last, kI_len]
  have h1 : 1 ≤ k.length := List.length_pos_iff.mpr h.ne
  have : decide (1 ≤ (k.length : Int) ∧ (k.length : Int) ≤ (n : Int)) = decide (k.length ≤ n) := decide_eq_decide.mpr ⟨fun z => by omega, fun z => by omega⟩
  rw [this]
  simp
/-- the rows' heights, and their lengths -/
abbrev offs (lim : Nat) (rows : List Bound) : List (Option Nat) := offsets lim rows.length 0 rows
abbrev htsOf (lim : Nat) (rows : List Bound) : List Nat := (offs lim rows).map fun o => o.getD 0
abbrev lensOf (lim : Nat) (rows : List Bound) : List Nat := (chains (offs lim rows)).map fun e => (hlOf e).2
/-! height_of -/
abbrev s_height_of : Stmt := top 65
abbrev N_height_of : List Str := ["text", "at", "rows", "limit", "height"]
theorem sc_height_of : FnScope N_height_of ["text", "at", "rows", "limit"] (defScope s_height_of) := ⟨rfl, rfl, rfl, by decide +kernel, rfl, by decide +kernel, by decide +kernel⟩
def sp_height_of (_ : PySem.W.Frag) : Sp := fun vs H Q _ => ∃ (v : V) (b : Bound) (i total lim : Nat), vs = [v, .int i, .int total, .int lim] ∧ TxAt H v b ∧ i < total ∧ lim ≤ 20 ∧ Q (.int ((hN lim total i b : Nat) : Int)) H
section
variable {P : Program} {w : World} {K : PySem.W.Frag} {mg : Str → Option Value} {base : Heap}
theorem ca_height_of (F : Df K mg "height_of" s_height_of ["text", "at", "rows", "limit"]) {z : Ads} (T : Gb K mg z)  (c_places_of : Ca P w K mg base 1 "places_of" (sp_places_of K)) (c_number_of : Ca P w K mg base 2 "number_of" (sp_number_of K)) (c_is_key : Ca P w K mg base 2 "is_key" (sp_is_key K)) : Ca P w K mg base 3 "height_of" (sp_height_of K) := by
  refine ca_mk F sc_height_of (fun vs H Q E h => by
    obtain ⟨_, _, _, _, _, rfl, _⟩ := h
    rfl
    ) (fun f cdv A outer s H vs Q E hr h => ?_)
  refine ⟨_, pss_cons (ps_if (PW.pt (pw_or (pt_cmp (pc_isN (pv 0))) (pw_or1 (pt_not (pt_val (pe_ca c_is_key hr (by first | decide | omega) passN (pa_cons (pv 0) (pa_cons (pv 3) pa_nil)))))))) (pss_one (ps_ret pe_int)) pss_nil) (pss_cons (ps_set (i := 4) sc_height_of.nd rfl (Or.inl rfl) (pe_op op_sub (pe_ca c_number_of hr (by first | decide | omega) passN (pa_cons (pv 0) (pa_cons (pv 3) pa_nil))) (pv 1))) (pss_cons (ps_if (pt_chain op_le op_le pe_int (pv 4) (pe_op op_sub (pe_ca c_places_of hr (by first | decide | omega) passN (pa_cons (pv 3) pa_nil)) (pv 2))) (pss_one (ps_ret (pv 4))) pss_nil) (pss_one (ps_ret pe_int)))), ?_⟩
  obtain ⟨v, b, i, total, lim, rfl, hv, hi, hl, q⟩ := h
  cases b with
  | none =>
    have e0 : hN lim total i none = 0 := rfl
    rw [e0] at q
    rcases hv with rfl | ⟨a, u, rfl, ho, hn⟩
    · walk_at "ex"
      refine ite_t rfl ?_
      refine ite_t rfl ?_
      walk_at "ex"
      exact q
    · walk_at "ex"
      refine ite_f (fun h => nomatch of_decide_eq_true h) ?_
      walk_at "ex"
      refine ⟨a, uI u, lim, rfl, ho.t, ?_⟩
      walk_at "ex"
      rw [isKeyI_text u lim hl, hn]
      refine ite_t rfl ?_
      walk_at "ex"
      exact q
  | some k =>
    obtain ⟨⟨a, rfl, ho⟩, ok⟩ := hv
    walk_at "ex"
    refine ite_f (fun h => nomatch of_decide_eq_true h) ?_
    walk_at "ex"
    refine ⟨a, kI k, lim, rfl, ho.t, ?_⟩
    walk_at "ex"
    rw [isKeyI_kI ok]
    have e0 : hN lim total i (some k) = if (k.length ≤ lim && decide (i + 1 ≤ numberOf lim k) && decide (numberOf lim k + (total - i) ≤ 36 ^ lim)) = true then numberOf lim k - i else 0 := rfl
    rw [e0] at q
    refine ite_nd (fun c => ?_) (fun c => ?_)
    · walk_at "ex"
      rw [if_neg (by simp; intro z; exact absurd z c)] at q
      exact q
    walk_at "ex"
    refine ⟨a, k, lim, rfl, ho.t, ok.dig, by omega, ?_⟩
    walk_at "ex"
    refine ite_d (fun c1 => ?_) (fun c1 => ?_)
    · walk_at "ex"
      refine ⟨lim, rfl, by omega, ?_⟩
      walk_at "ex"
      refine ite_d (fun c2 => ?_) (fun c2 => ?_)
      · walk_at "ex"
        rw [if_pos (by simp; exact ⟨⟨c, by omega⟩, by omega⟩)] at q
        have e1 : ((numberOf lim k : Nat) : Int) - (i : Int) = ((numberOf lim k - i : Nat) : Int) := by omega
        rw [e1]
        exact q
      · walk_at "ex"
        rw [if_neg (by simp; intro _ _; omega)] at q
        exact q
    · rw [if_neg (by simp; intro _ z; omega)] at q
      walk_at "ex"
      refine ite_f Bool.false_ne_true ?_
      walk_at "ex"
      exact q
end
/-! heights_of -/
abbrev s_heights_of : Stmt := top 66
abbrev N_heights_of : List Str := ["texts", "limit", "at", "text"]
theorem sc_heights_of : FnScope N_heights_of ["texts", "limit"] (defScope s_heights_of) := ⟨rfl, rfl, rfl, by decide +kernel, rfl, by decide +kernel, by decide +kernel⟩
def sp_heights_of (K : PySem.W.Frag) : Sp := fun vs H Q _ => ∃ (a : Addr) (xs : List V) (rows : List Bound) (lim : Nat), vs = [.ref a, .int lim] ∧ SqL K H a xs ∧ TL H xs rows ∧ rows.length ≤ 1000 ∧ lim ≤ 20 ∧
  ∀ D H', H D = none → Same H H' → H' D = some (.lst ((nI (htsOf lim rows)).map V.int)) → Q (.ref D) H'
section
variable {P : Program} {w : World} {K : PySem.W.Frag} {mg : Str → Option Value} {base : Heap}
theorem ca_heights_of (F : Df K mg "heights_of" s_heights_of ["texts", "limit"]) {z : Ads} (T : Gb K mg z)  (c_height_of : Ca P w K mg base 3 "height_of" (sp_height_of K)) : Ca P w K mg base 4 "heights_of" (sp_heights_of K) := by
  refine ca_mk F sc_heights_of (fun vs H Q E h => by
    obtain ⟨_, _, _, _, rfl, _⟩ := h
    rfl
    ) (fun f cdv A outer s H vs Q E hr h => ?_)
  refine ⟨_, pss_one (ps_ret (pe_lc (own := [("at", 2), ("text", 3)]) (g := (gTup K 2 (gCons (gName 2) (gCons (gName 3) gNil)))) (tt := tYes) rfl sc_heights_of.nd (pi_enum (by rfl) T.enumerate (pa_cons (pv 0) pa_nil)) (blkOk_by (own := [("at", 2), ("text", 3)]) (N := N_heights_of) (sc := defScope s_heights_of) (by decide +kernel)) (fun _ _ _ _ _ => (pg_tup rfl (pgs_cons (pg_name (i := 2) sc_heights_of.nd rfl (Or.inl rfl)) (pgs_cons (pg_name (i := 3) sc_heights_of.nd rfl (Or.inl rfl)) pgs_nil)))) (fun _ _ _ _ _ => pts_nil) (fun _ _ _ _ _ => (pe_ca c_height_of hr (by first | decide | omega) passN (pa_cons (pv 3) (pa_cons (pv 2) (pa_cons (pe_lenK (K := K) T.len (pv 0)) (pa_cons (pv 1) pa_nil)))))))), ?_⟩
  obtain ⟨a, xs, rows, lim, rfl, hl, ht, hz, hlim, q⟩ := h
  have hx := ht.1
  have hol := offsets_len lim rows.length rows 0
  walk_at "ex"
  refine x_lce hl (by omega) (fun _ i v => ∃ c, (nI (htsOf lim rows))[i]? = some c ∧ v = V.int c) (fun _ _ _ _ _ h => h) (fun x H => gPair_mono x _ H) (fun i x T H' hxi s hTt Q' hQ => ?_) (fun D H' ys hD s hy it => ?_)
  · have hi := (List.getElem?_eq_some_iff.mp hxi).1
    have hb : rows[i]? = some rows[i] := List.getElem?_eq_getElem (by omega)
    have hTx := (ht.2 i x _ hxi hb).kp (Kp.of s)
    have hl2 : SqL K H' a xs := sqL_same s hl
    walk_at "ex"
    refine ⟨rfl, ?_⟩
    walk_at "ex"
    refine ⟨x, _, i, rows.length, lim, by rw [← hx], hTx, by omega, hlim, hQ _ _ (Same.refl _) ⟨_, ?_, rfl⟩⟩
    obtain ⟨o, e1, e2, _⟩ := offsets_hN lim rows.length rows 0 i _ hb
    rw [Nat.zero_add] at e2
    refine nI_get ?_
    rw [List.getElem?_map, e1, ← e2]
    rfl
  · refine q D H' hD s ?_
    have e : ys = (nI (htsOf lim rows)).map V.int := items_ints (by
      have : (nI (htsOf lim rows)).length = xs.length := by
        unfold nI htsOf
        rw [List.length_map, List.length_map, hol, hx]
      rw [this]
      exact it)
    rw [hy, e]
end
/-! longest_behind -/
abbrev s_longest_behind : Stmt := top 67
abbrev N_longest_behind : List Str := ["heights", "lengths", "at", "longest", "later"]
theorem sc_longest_behind : FnScope N_longest_behind ["heights", "lengths", "at"] (defScope s_longest_behind) := ⟨rfl, rfl, rfl, by decide +kernel, rfl, by decide +kernel, by decide +kernel⟩
def sp_longest_behind (K : PySem.W.Frag) : Sp := fun vs H Q _ => ∃ (a b : Addr) (hs ls : List Nat) (i h0 : Nat), vs = [.ref a, .ref b, .int i] ∧ SqL K H a ((nI hs).map V.int) ∧ SqL K H b ((nI ls).map V.int) ∧ hs.length = ls.length ∧ hs.length ≤ 1000 ∧ hs[i]? = some h0 ∧
  Q (.int ((lbF h0 ((hs.zip ls).drop (i + 1)) : Nat) : Int)) H
section
variable {P : Program} {w : World} {K : PySem.W.Frag} {mg : Str → Option Value} {base : Heap}
theorem ca_longest_behind (F : Df K mg "longest_behind" s_longest_behind ["heights", "lengths", "at"]) {z : Ads} (T : Gb K mg z)   : Ca P w K mg base 1 "longest_behind" (sp_longest_behind K) := by
  refine ca_mk F sc_longest_behind (fun vs H Q E h => by
    obtain ⟨_, _, _, _, _, _, rfl, _⟩ := h
    rfl
    ) (fun f cdv A outer s H vs Q E hr h => ?_)
  refine ⟨_, pss_cons (ps_set (i := 3) sc_longest_behind.nd rfl (Or.inl rfl) pe_int) (pss_cons (ps_for rzp rfl (pi_range2 (by rfl) T.range (pa_cons (pe_op op_add (pv 2) pe_int) (pa_cons (pe_len T.len (pv 0)) pa_nil))) (pg_name (i := 4) sc_longest_behind.nd rfl (Or.inl rfl)) (pss_one (ps_if (PW.pt (pw_and (pt_cmpR op_ge (pe_ix ix_list (pv 0) (pv 4) (fun _ _ => rfl)) (pe_ix ix_list (pv 0) (pv 2) (fun _ _ => rfl)) (nomark _)) (pw_and1 (pt_cmpR op_gt (pe_ix ix_list (pv 1) (pv 4) (fun _ _ => rfl)) (pv 3) (nomark _))))) (pss_one (ps_set (i := 3) sc_longest_behind.nd rfl (Or.inl rfl) (pe_ix ix_list (pv 1) (pv 4) (fun _ _ => rfl)))) pss_nil))) (pss_one (ps_ret (pv 3)))), ?_⟩
  obtain ⟨a, b, hs, ls, i, h0, rfl, ha, hb, hn, hz, hi, q⟩ := h
  have hil := (List.getElem?_eq_some_iff.mp hi).1
  have hal : ((nI hs).map V.int).length = hs.length := by rw [List.length_map, List.length_map]
  walk_at "ex"
  refine x_r2 ((i : Int) + 1) (hs.length - (i + 1)) rfl (by omega) (by omega) (fun j σ H' => H' = H ∧ ∃ o, σ = [some (.ref a), some (.ref b), some (.int i), some (.int ((lbF h0 (((hs.zip ls).drop (i + 1)).take j) : Nat) : Int)), o]) ⟨rfl, none, rfl⟩ (fun j σ H' hj hp => ?_) (fun σ H' hp => ?_)
  · obtain ⟨rfl, o, rfl⟩ := hp
    have e1 : hs[i + 1 + j]? = some hs[i + 1 + j] := List.getElem?_eq_getElem (by omega)
    have e2 : ls[i + 1 + j]? = some ls[i + 1 + j] := List.getElem?_eq_getElem (by omega)
    have ez : ((hs.zip ls).drop (i + 1))[j]? = some (hs[i + 1 + j], ls[i + 1 + j]) := by
      rw [List.getElem?_drop, List.getElem?_zip_eq_some]
      exact ⟨e1, e2⟩
    have et : lbF h0 (((hs.zip ls).drop (i + 1)).take (j + 1)) = if h0 ≤ hs[i + 1 + j] ∧ lbF h0 (((hs.zip ls).drop (i + 1)).take j) < ls[i + 1 + j] then ls[i + 1 + j] else lbF h0 (((hs.zip ls).drop (i + 1)).take j) := by
      rw [take_more ez]
      unfold lbF
      rw [List.foldl_append]
      rfl
    have ei : (i : Int) + 1 + (j : Int) = ((i + 1 + j : Nat) : Int) := rfl
    walk_at "ex"
    rw [ei]
    refine x_ixL ha (atI_int (nI_get e1)) ?_
    walk_at "ex"
    refine x_ixL ha (atI_int (nI_get hi)) ?_
    walk_at "ex"
    refine ite_d (fun c1 => ?_) (fun c1 => ?_)
    · walk_at "ex"
      refine x_ixL hb (atI_int (nI_get e2)) ?_
      walk_at "ex"
      refine ite_d (fun c2 => ?_) (fun c2 => ?_)
      · walk_at "ex"
        refine x_ixL hb (atI_int (nI_get e2)) ?_
        walk_at "ex"
        refine ⟨rfl, some (.int ((i + 1 + j : Nat) : Int)), ?_⟩
        rw [et, if_pos ⟨by omega, by omega⟩]
        rfl
      · walk_at "ex"
        refine ⟨rfl, some (.int ((i + 1 + j : Nat) : Int)), ?_⟩
        rw [et, if_neg (by omega)]
        rfl
    · walk_at "ex"
      refine ite_f Bool.false_ne_true ?_
      walk_at "ex"
      refine ⟨rfl, some (.int ((i + 1 + j : Nat) : Int)), ?_⟩
      rw [et, if_neg (by omega)]
      rfl
  · obtain ⟨rfl, o, rfl⟩ := hp
    have el : ((hs.zip ls).drop (i + 1)).take (hs.length - (i + 1)) = (hs.zip ls).drop (i + 1) := List.take_of_length_le (by rw [List.length_drop, List.length_zip]; omega)
    rw [el]
    walk_at "ex"
    exact q

end
end OK
namespace OK
open PySem PySem.Spec PyProof.Rows L2
open R7290f.Spec (Units Bound Key keyOfText numberOf offsets chains longest keepFrom keptRows keysBetween)
theorem zip_drop {α β : Type} (l : List α) (m : List β) (n : Nat) : (l.zip m).drop n = (l.drop n).zip (m.drop n) := by
  unfold List.zip
  rw [List.drop_zipWith]
theorem items_zero {H : Hp} {ys : List V} {n : Nat} (h : Items (fun _ _ v => v = V.int 0) H n ys) : ys = (nI (List.replicate n 0)).map V.int := by
  refine items_ints (H := H) ⟨by rw [h.1]; simp, fun i v e => ⟨0, ?_, h.2 i v e⟩⟩
  have hi : i < n := by
    rw [← h.1]
    exact (List.getElem?_eq_some_iff.mp e).1
  refine nI_get (n := 0) ?_
  rw [List.getElem?_replicate, if_pos hi]
theorem set_nI (l : List Nat) (j n : Nat) : ((nI l).map V.int).set j (V.int (n : Int)) = (nI (l.set j n)).map V.int := by
  unfold nI
  rw [List.map_set, List.map_set]
theorem fill_step (ls : List Nat) (i : Nat) (hi : i < ls.length) (v : Nat) (hv : ls[ls.length - 1 - i]? = some v) : (List.replicate (ls.length - i) 0 ++ ls.drop (ls.length - i)).set (ls.length - 1 - i) v = List.replicate (ls.length - (i + 1)) 0 ++ ls.drop (ls.length - (i + 1)) := by
  have e1 : ls.length - i = (ls.length - 1 - i) + 1 := by omega
  have e2 : ls.length - (i + 1) = ls.length - 1 - i := by omega
  have hlt : ls.length - 1 - i < ls.length := by omega
  rw [List.getElem?_eq_getElem hlt] at hv
  rw [e1, e2, List.drop_eq_getElem_cons hlt, Option.some.inj hv, List.replicate_succ', List.append_assoc, List.set_append_right _ _ (by simp)]
  simp
theorem zero_step (ls : List Nat) (i : Nat) (hi : i < ls.length) (hv : ls[ls.length - 1 - i]? = some 0) : List.replicate (ls.length - i) 0 ++ ls.drop (ls.length - i) = List.replicate (ls.length - (i + 1)) 0 ++ ls.drop (ls.length - (i + 1)) := by
  have e1 : ls.length - i = (ls.length - 1 - i) + 1 := by omega
  have e2 : ls.length - (i + 1) = ls.length - 1 - i := by omega
  have hlt : ls.length - 1 - i < ls.length := by omega
  rw [List.getElem?_eq_getElem hlt] at hv
  rw [e1, e2, List.drop_eq_getElem_cons hlt, Option.some.inj hv, List.replicate_succ', List.append_assoc]
  rfl
theorem hts_len (lim : Nat) (rows : List Bound) : (htsOf lim rows).length = rows.length := by
  unfold htsOf
  rw [List.length_map, offsets_len]
theorem lens_len (lim : Nat) (rows : List Bound) : (lensOf lim rows).length = rows.length := by
  unfold lensOf
  rw [List.length_map, chains_len, offsets_len]
/-- row i: none, or its height and its length -/
theorem row_cases {lim : Nat} {rows : List Bound} {i : Nat} (hi : i < rows.length) :
    ((chains (offs lim rows))[i]? = some none ∧ (htsOf lim rows)[i]? = some 0 ∧ (lensOf lim rows)[i]? = some 0) ∨
    ∃ w, 1 ≤ w ∧ (chains (offs lim rows))[i]? = some (some (w, longest w ((chains (offs lim rows)).drop (i + 1)) + 1)) ∧ (htsOf lim rows)[i]? = some w ∧ (lensOf lim rows)[i]? = some (longest w ((chains (offs lim rows)).drop (i + 1)) + 1) := by
  obtain ⟨o, e1, e2, e3⟩ := offsets_hN lim rows.length rows 0 i rows[i] (List.getElem?_eq_getElem hi)
  have e4 := chains_at e1
  cases o with
  | none =>
    refine .inl ⟨e4, ?_, ?_⟩
    · unfold htsOf
      rw [List.getElem?_map, e1]
      rfl
    · unfold lensOf
      rw [List.getElem?_map, e4]
      rfl
  | some w =>
    refine .inr ⟨w, e3 w rfl, e4, ?_, ?_⟩
    · unfold htsOf
      rw [List.getElem?_map, e1]
      rfl
    · unfold lensOf
      rw [List.getElem?_map, e4]
      rfl
theorem hl_zip (lim : Nat) (rows : List Bound) : (htsOf lim rows).zip (lensOf lim rows) = (chains (offs lim rows)).map hlOf := by
  unfold htsOf lensOf
  rw [← chains_fst, List.zip_map']
/-! lengths_of -/
abbrev s_lengths_of : Stmt := top 68
abbrev N_lengths_of : List Str := ["heights", "lengths", "at", "height"]
theorem sc_lengths_of : FnScope N_lengths_of ["heights"] (defScope s_lengths_of) := ⟨rfl, rfl, rfl, by decide +kernel, rfl, by decide +kernel, by decide +kernel⟩
def sp_lengths_of (K : PySem.W.Frag) : Sp := fun vs H Q _ => ∃ (a : Addr) (rows : List Bound) (lim : Nat), vs = [.ref a] ∧ SqL K H a ((nI (htsOf lim rows)).map V.int) ∧ rows.length ≤ 1000 ∧
  ∀ D H', H D = none → Same H H' → H' D = some (.lst ((nI (lensOf lim rows)).map V.int)) → Q (.ref D) H'
section
variable {P : Program} {w : World} {K : PySem.W.Frag} {mg : Str → Option Value} {base : Heap}
theorem ca_lengths_of (F : Df K mg "lengths_of" s_lengths_of ["heights"]) {z : Ads} (T : Gb K mg z)  (c_longest_behind : Ca P w K mg base 1 "longest_behind" (sp_longest_behind K)) : Ca P w K mg base 2 "lengths_of" (sp_lengths_of K) := by
  refine ca_mk F sc_lengths_of (fun vs H Q E h => by
    obtain ⟨_, _, _, rfl, _⟩ := h
    rfl
    ) (fun f cdv A outer s H vs Q E hr h => ?_)
  refine ⟨_, pss_cons (ps_setLc (i := 1) (own := [("height", 3)]) (g := (gName 3)) (tt := tYes) rfl sc_lengths_of.nd rfl rfl (sw_true rfl rfl rfl (by decide +kernel)) (pi_list (pv 0)) (blkOk_by (own := [("height", 3)]) (N := N_lengths_of) (sc := defScope s_lengths_of) (by decide +kernel)) (fun _ _ _ _ _ => (pg_name (i := 3) sc_lengths_of.nd rfl (Or.inl rfl))) (fun _ _ _ _ _ => pts_nil) (fun _ _ _ _ _ => pe_int)) (pss_cons (ps_for rzp rfl (pi_range3 (by rfl) T.range (pa_cons (pe_op op_sub (pe_len T.len (pv 0)) pe_int) (pa_cons (pe_un un_neg pe_int) (pa_cons (pe_un un_neg pe_int) pa_nil)))) (pg_name (i := 2) sc_lengths_of.nd rfl (Or.inl rfl)) (pss_one (ps_if (pt_cmpR op_gt (pe_ix ix_list (pv 0) (pv 2) (fun _ _ => rfl)) pe_int (nomark _)) (pss_one (ps_asg (pe_op op_add pe_int (pe_ca c_longest_behind hr (by first | decide | omega) passN (pa_cons (pv 0) (pa_cons (pv 1) (pa_cons (pv 2) pa_nil))))) (pg_sub (pv 1) (pv 2) set_list))) pss_nil))) (pss_one (ps_ret (pv 1)))), ?_⟩
  obtain ⟨a, rows, lim, rfl, hl, hz, q⟩ := h
  have hhl := hts_len lim rows
  have hll := lens_len lim rows
  have hxl : ((nI (htsOf lim rows)).map V.int).length = rows.length := by rw [List.length_map, List.length_map, hhl]
  walk_at "ex"
  refine x_lcl hl (by omega) (fun _ _ v => v = V.int 0) (fun _ _ _ _ _ h => h) (fun x H => gName_mono x _ H) (fun i x H' hx s Q' hQ => ?_) (fun D H1 ys hD s1 hy it => ?_)
  · walk_at "ex"
    refine ⟨rfl, ?_⟩
    walk_at "ex"
    exact hQ _ _ (Same.refl _) rfl
  rw [hxl] at it
  have ey := items_zero it
  subst ey
  have hl1 := sqL_same s1 hl
  walk_at "ex"
  refine x_r3 rows.length (by rw [hxl]) rfl rfl (by omega) (fun i σ H' => Same H H' ∧ H' D = some (.lst ((nI (List.replicate (rows.length - i) 0 ++ (lensOf lim rows).drop (rows.length - i))).map V.int)) ∧ ∃ o1 o2, σ = [some (.ref a), some (.ref D), o1, o2])
    ⟨s1, by rw [Nat.sub_zero, drop_all _ (by omega), List.append_nil]; exact hy, none, none, rfl⟩ (fun i σ H' hi hp => ?_) (fun σ H' hp => ?_)
  · obtain ⟨s, hD', o1, o2, rfl⟩ := hp
    have hl2 := sqL_same s hl
    have hj : rows.length - 1 - i < rows.length := by omega
    walk_at "ex"
    rcases row_cases (lim := lim) hj with ⟨c1, c2, c3⟩ | ⟨w, hw, c1, c2, c3⟩
    · refine x_ixL hl2 (atI_int (nI_get c2)) ?_
      walk_at "ex"
      refine ite_f (by decide) ?_
      walk_at "ex"
      refine ⟨s, ?_, _, _, rfl⟩
      have := zero_step (lensOf lim rows) i (by omega) (by rw [hll]; exact c3)
      rw [hll] at this
      rw [hD', this]
    · refine x_ixL hl2 (atI_int (nI_get c2)) ?_
      walk_at "ex"
      refine ite_t (decide_eq_true (by omega)) ?_
      walk_at "ex"
      refine ⟨a, D, _, _, _, w, rfl, hl2, SqL.of hD', ?_, by rw [hhl]; exact hz, c2, ?_⟩
      · rw [hhl, List.length_append, List.length_replicate, List.length_drop, hll]
        omega
      have ed : ((htsOf lim rows).zip (List.replicate (rows.length - i) 0 ++ (lensOf lim rows).drop (rows.length - i))).drop (rows.length - 1 - i + 1) = ((chains (offs lim rows)).drop (rows.length - 1 - i + 1)).map hlOf := by
        have en : rows.length - 1 - i + 1 = rows.length - i := by omega
        rw [en, List.map_drop, ← hl_zip, zip_drop, zip_drop, List.drop_left' (by simp)]
      rw [ed, lbF_longest hw]
      walk_at "ex"
      have hlen2 : ((nI (List.replicate (rows.length - i) 0 ++ (lensOf lim rows).drop (rows.length - i))).map V.int).length = rows.length := by
        rw [List.length_map, List.length_map, List.length_append, List.length_replicate, List.length_drop, hll]
        omega
      refine x_setL hD' (by rw [hlen2]; exact hj) ?_
      refine ⟨But.same s hD But.upd, ?_, _, _, rfl⟩
      have := fill_step (lensOf lim rows) i (by omega) _ (by rw [hll]; exact c3)
      rw [hll] at this
      have ec : (1 : Int) + ((longest w ((chains (offs lim rows)).drop (rows.length - 1 - i + 1)) : Nat) : Int) = ((longest w ((chains (offs lim rows)).drop (rows.length - 1 - i + 1)) + 1 : Nat) : Int) := by omega
      rw [upd_same, ec, set_nI, this]
  · obtain ⟨s, hD', o1, o2, rfl⟩ := hp
    rw [Nat.sub_self, List.replicate_zero, List.nil_append, List.drop_zero] at hD'
    walk_at "ex"
    exact q D H' hD s hD'

end
end OK
namespace OK
open PySem PySem.Spec PyProof.Rows L2
open R7290f.Spec (Units Bound Key keyOfText numberOf offsets chains longest keepFrom keptRows keysBetween)
theorem seg_app : ∀ (a : List (Bound × Bool)) (i : Nat) (b : List (Bound × Bool)), seg i (a ++ b) = seg i a ++ seg (i + a.length) b
  | [], i, b => rfl
  | (x, c) :: a, i, b => by
    have ih := seg_app a (i + 1) b
    have e : i + 1 + a.length = i + (a.length + 1) := by omega
    rw [e] at ih
    cases c with
    | false => cases x <;> exact ih
    | true =>
      cases x with
      | none => exact ih
      | some k =>
        show (i, k) :: seg (i + 1) (a ++ b) = (i, k) :: seg (i + 1) a ++ _
        rw [ih]
        rfl
def lg0 (m : Nat) (e : Option (Nat × Nat)) : Nat := match e with
  | some x => if 0 ≤ x.1 then max m x.2 else m
  | none => m
theorem longest0 : ∀ (l : List (Option (Nat × Nat))) (m : Nat), m ≤ l.foldl lg0 m ∧ (∀ e ∈ l, (hlOf e).2 ≤ l.foldl lg0 m) ∧ (l.foldl lg0 m = m ∨ ∃ e ∈ l, (hlOf e).2 = l.foldl lg0 m)
  | [], m => ⟨Nat.le_refl _, fun e h => (by cases h), .inl rfl⟩
  | none :: l, m => by
    obtain ⟨h1, h2, h3⟩ := longest0 l m
    refine ⟨h1, fun e he => ?_, ?_⟩
    · rcases List.mem_cons.mp he with z | z
      · rw [z]
        exact Nat.zero_le _
      · exact h2 e z
    · rcases h3 with z | ⟨e, he, z⟩
      · exact .inl z
      · exact .inr ⟨e, List.mem_cons_of_mem _ he, z⟩
  | some x :: l, m => by
    have e0 : (some x :: l).foldl lg0 m = l.foldl lg0 (max m x.2) := rfl
    rw [e0]
    obtain ⟨h1, h2, h3⟩ := longest0 l (max m x.2)
    refine ⟨Nat.le_trans (Nat.le_max_left _ _) h1, fun e he => ?_, ?_⟩
    · rcases List.mem_cons.mp he with z | z
      · rw [z]
        exact Nat.le_trans (Nat.le_max_right m x.2) h1
      · exact h2 e z
    · rcases h3 with z | ⟨e, he, z⟩
      · by_cases c : m ≤ x.2
        · refine .inr ⟨some x, List.mem_cons_self, ?_⟩
          rw [z]
          show x.2 = max m x.2
          omega
        · refine .inl ?_
          rw [z]
          omega
      · exact .inr ⟨e, List.mem_cons_of_mem _ he, z⟩
theorem max_longest {lim : Nat} {rows : List Bound} {m : Int} (h0 : nI (lensOf lim rows) = [] → m = 0) (h1 : nI (lensOf lim rows) ≠ [] → m ∈ nI (lensOf lim rows) ∧ ∀ x ∈ nI (lensOf lim rows), x ≤ m) : m = ((longest 0 (chains (offs lim rows)) : Nat) : Int) := by
  obtain ⟨g1, g2, g3⟩ := longest0 (chains (offs lim rows)) 0
  have hr : longest 0 (chains (offs lim rows)) = (chains (offs lim rows)).foldl lg0 0 := rfl
  rw [← hr] at g2 g3
  by_cases c : nI (lensOf lim rows) = []
  · rw [h0 c]
    rcases g3 with z | ⟨e, he, z⟩
    · rw [z]; rfl
    · unfold nI lensOf at c
      rw [List.map_eq_nil_iff, List.map_eq_nil_iff] at c
      rw [c] at he
      cases he
  · obtain ⟨k1, k2⟩ := h1 c
    obtain ⟨n, hn, rfl⟩ := List.mem_map.mp k1
    obtain ⟨e, he, rfl⟩ := List.mem_map.mp hn
    have a1 := g2 e he
    have a2 : ((longest 0 (chains (offs lim rows)) : Nat) : Int) ≤ (((hlOf e).2 : Nat) : Int) := by
      rcases g3 with z | ⟨e', he', z⟩
      · rw [z]
        exact Int.natCast_nonneg _
      · refine k2 _ (List.mem_map.mpr ⟨_, List.mem_map.mpr ⟨e', he', rfl⟩, ?_⟩)
        rw [z]
    omega
theorem keep_none {w m : Nat} {r : List (Option (Nat × Nat))} : keepFrom w m (none :: r) = false :: keepFrom w m r := rfl
theorem keep_some {w m : Nat} {x : Nat × Nat} {r : List (Option (Nat × Nat))} : keepFrom w m (some x :: r) = if w ≤ x.1 ∧ x.2 = m then true :: keepFrom x.1 (m - 1) r else false :: keepFrom w m r := rfl
theorem row_key {lim : Nat} {rows : List Bound} {i w : Nat} (hw : 1 ≤ w) (h : (htsOf lim rows)[i]? = some w) : ∃ k, rows[i]? = some (some k) := by
  have hi : i < rows.length := by
    rw [← hts_len lim rows]
    exact (List.getElem?_eq_some_iff.mp h).1
  obtain ⟨o, e1, e2, _⟩ := offsets_hN lim rows.length rows 0 i rows[i] (List.getElem?_eq_getElem hi)
  unfold htsOf at h
  rw [List.getElem?_map, e1] at h
  have e3 : o.getD 0 = w := Option.some.inj h
  cases e4 : rows[i] with
  | none =>
    rw [e4] at e2
    have : o.getD 0 = 0 := e2
    omega
  | some k => exact ⟨k, by rw [List.getElem?_eq_getElem hi, e4]⟩
theorem drop_head {α : Type} {l : List α} {i : Nat} {x : α} (h : l[i]? = some x) : l.drop i = x :: l.drop (i + 1) := by
  obtain ⟨hi, e⟩ := List.getElem?_eq_some_iff.mp h
  rw [List.drop_eq_getElem_cons hi, e]
theorem head_drop {α : Type} {l r : List α} {i : Nat} {x : α} (h : l.drop i = x :: r) : l[i]? = some x ∧ l.drop (i + 1) = r := by
  have h1 := congrArg List.head? h
  rw [List.head?_drop] at h1
  have h2 := congrArg List.tail h
  rw [List.tail_drop] at h2
  exact ⟨h1, h2⟩
/-! kept_rows -/
abbrev s_kept_rows : Stmt := top 69
abbrev N_kept_rows : List Str := ["texts", "limit", "heights", "lengths", "wanted", "least", "kept", "at"]
theorem sc_kept_rows : FnScope N_kept_rows ["texts", "limit"] (defScope s_kept_rows) := ⟨rfl, rfl, rfl, by decide +kernel, rfl, by decide +kernel, by decide +kernel⟩
def sp_kept_rows (K : PySem.W.Frag) : Sp := fun vs H Q _ => ∃ (a : Addr) (xs : List V) (rows : List Bound) (lim : Nat), vs = [.ref a, .int lim] ∧ SqL K H a xs ∧ TL H xs rows ∧ rows.length ≤ 1000 ∧ lim ≤ 20 ∧
  ∀ D H', H D = none → Same H H' → H' D = some (.lst ((nI ((segs lim rows).map (·.1))).map V.int)) → Q (.ref D) H'
section
variable {P : Program} {w : World} {K : PySem.W.Frag} {mg : Str → Option Value} {base : Heap}
theorem ca_kept_rows (F : Df K mg "kept_rows" s_kept_rows ["texts", "limit"]) {z : Ads} (T : Gb K mg z)  (c_lengths_of : Ca P w K mg base 2 "lengths_of" (sp_lengths_of K)) (c_heights_of : Ca P w K mg base 4 "heights_of" (sp_heights_of K)) : Ca P w K mg base 5 "kept_rows" (sp_kept_rows K) := by
  refine ca_mk F sc_kept_rows (fun vs H Q E h => by
    obtain ⟨_, _, _, _, rfl, _⟩ := h
    rfl
    ) (fun f cdv A outer s H vs Q E hr h => ?_)
  refine ⟨_, pss_cons (ps_set (i := 2) sc_kept_rows.nd rfl (Or.inl rfl) (pe_ca c_heights_of hr (by first | decide | omega) passN (pa_cons (pv 0) (pa_cons (pv 1) pa_nil)))) (pss_cons (ps_set (i := 3) sc_kept_rows.nd rfl (Or.inl rfl) (pe_ca c_lengths_of hr (by first | decide | omega) passN (pa_cons (pv 2) pa_nil))) (pss_cons (ps_set (i := 4) sc_kept_rows.nd rfl (Or.inl rfl) (pe_callBK (cr_maxDef rfl hr.units) (by rfl) T.max (by decide +kernel) (pa_cons (pv 3) pa_nil) (pk_cons pe_int pk_nil))) (pss_cons (ps_set (i := 5) sc_kept_rows.nd rfl (Or.inl rfl) pe_int) (pss_cons (ps_set (i := 6) sc_kept_rows.nd rfl (Or.inl rfl) (pe_lst pa_nil)) (pss_cons (ps_for rzp rfl (pi_range1 (by rfl) T.range (pa_cons (pe_len T.len (pv 0)) pa_nil)) (pg_name (i := 7) sc_kept_rows.nd rfl (Or.inl rfl)) (pss_one (ps_if (PW.pt (pw_and (pt_cmpR op_gt (pv 4) pe_int (nomark _)) (pw_and (pt_cmpR op_eq (pe_ix ix_list (pv 3) (pv 7) (fun _ _ => rfl)) (pv 4) (nomark _)) (pw_and1 (pt_cmpR op_ge (pe_ix ix_list (pv 2) (pv 7) (fun _ _ => rfl)) (pv 5) (nomark _)))))) (pss_cons (ps_expr (pe_bm PySem.F.plainAttrs_list PySem.F.slot_list_append PySem.F.type_list_append mt_append (pv 6) (pa_cons (pv 7) pa_nil))) (pss_cons (ps_set (i := 5) sc_kept_rows.nd rfl (Or.inl rfl) (pe_ix ix_list (pv 2) (pv 7) (fun _ _ => rfl))) (pss_one (ps_aug (i := 4) sc_kept_rows.nd rfl (Or.inl rfl) pe_int ip_sub)))) pss_nil))) (pss_one (ps_ret (pv 6)))))))), ?_⟩
  obtain ⟨a, xs, rows, lim, rfl, hl, ht, hz, hlim, q⟩ := h
  have hx := ht.1
  have hkl := kept_len lim rows
  have hcl : (chains (offs lim rows)).length = rows.length := by rw [chains_len, offsets_len]
  walk_at "ex"
  refine ⟨a, xs, rows, lim, rfl, hl, ht, hz, hlim, fun Dh H1 hDh s1 h1 => ?_⟩
  walk_at "ex"
  refine ⟨Dh, rows, lim, rfl, SqL.of h1, hz, fun Dl H2 hDl s2 h2 => ?_⟩
  have h1' := s2 _ _ h1
  walk_at "ex"
  refine ⟨Dl, nI (lensOf lim rows), rfl, rfl, SqL.of h2, fun m0 g0 g1 => ?_⟩
  have em := max_longest g0 g1
  subst em
  have hl2 : SqL K H2 a xs := sqL_same (s1.trans s2) hl
  walk_at "ex"
  refine ⟨Nat.zero_le _, fun D hD => ?_⟩
  have s3 : Same H2 (upd H2 D (.lst [])) := same_new hD
  have hl3 := sqL_same s3 hl2
  walk_at "ex"
  refine x_r1 rows.length (by rw [hx]) (by omega) (fun i σ H' => Same H2 H' ∧ ∃ (m w : Nat) (o : Option V), H' D = some (.lst ((nI ((seg 0 ((rows.zip (keptRows lim rows)).take i)).map (·.1))).map V.int)) ∧ (keptRows lim rows).drop i = keepFrom w m ((chains (offs lim rows)).drop i) ∧ (seg 0 ((rows.zip (keptRows lim rows)).take i)).length ≤ i ∧
    σ = [some (.ref a), some (.int lim), some (.ref Dh), some (.ref Dl), some (.int m), some (.int ((max w 1 : Nat) : Int)), some (.ref D), o]) ⟨s3, longest 0 (chains (offs lim rows)), 0, none, upd_same, rfl, Nat.le_refl _, rfl⟩ (fun i σ H' hi hp => ?_) (fun σ H' hp => ?_)
  · obtain ⟨s, m, w, o, hy, hk, hsz, rfl⟩ := hp
    have hh := s _ _ h1'
    have hll := s _ _ h2
    have hzip : ∀ b, (keptRows lim rows)[i]? = some b → (rows.zip (keptRows lim rows)).take (i + 1) = (rows.zip (keptRows lim rows)).take i ++ [(rows[i], b)] := fun b hb => take_more (by rw [List.getElem?_zip_eq_some]; exact ⟨List.getElem?_eq_getElem hi, hb⟩)
    have htl : ((rows.zip (keptRows lim rows)).take i).length = i := by rw [List.length_take, List.length_zip, hkl]; omega
    have hno : ∀ r : List Bool, (keptRows lim rows).drop i = false :: r → seg 0 ((rows.zip (keptRows lim rows)).take (i + 1)) = seg 0 ((rows.zip (keptRows lim rows)).take i) := fun r e => by
      rw [hzip false (head_drop e).1, seg_app]
      cases rows[i] <;> exact List.append_nil _
    walk_at "ex"
    rcases row_cases (lim := lim) hi with ⟨c1, c2, c3⟩ | ⟨v, hv, c1, c2, c3⟩
    · rw [drop_head c1, keep_none] at hk
      have e1 := hno _ hk
      have fin : ∃ (m' w' : Nat) (o' : Option V), H' D = some (.lst ((nI ((seg 0 ((rows.zip (keptRows lim rows)).take (i + 1))).map (·.1))).map V.int)) ∧ (keptRows lim rows).drop (i + 1) = keepFrom w' m' ((chains (offs lim rows)).drop (i + 1)) ∧ (seg 0 ((rows.zip (keptRows lim rows)).take (i + 1))).length ≤ i + 1 ∧
          [some (V.ref a), some (.int lim), some (.ref Dh), some (.ref Dl), some (.int m), some (.int ((max w 1 : Nat) : Int)), some (.ref D), some (.int (i : Int))] = [some (V.ref a), some (.int lim), some (.ref Dh), some (.ref Dl), some (.int m'), some (.int ((max w' 1 : Nat) : Int)), some (.ref D), o'] :=
        ⟨m, w, _, by rw [e1]; exact hy, (head_drop hk).2, by rw [e1]; omega, rfl⟩
      refine ite_d (fun d1 => ?_) (fun d1 => ?_)
      · walk_at "ex"
        refine x_ixL (SqL.of hll) (atI_int (nI_get c3)) ?_
        walk_at "ex"
        refine ite_f (by intro z; have := of_decide_eq_true z; omega) ?_
        refine ite_f Bool.false_ne_true ?_
        walk_at "ex"
        exact ⟨s, fin⟩
      · refine ite_f Bool.false_ne_true ?_
        walk_at "ex"
        exact ⟨s, fin⟩
    · rw [drop_head c1, keep_some] at hk
      have nfin : ¬ (w ≤ v ∧ longest v ((chains (offs lim rows)).drop (i + 1)) + 1 = m) → ∃ (m' w' : Nat) (o' : Option V), H' D = some (.lst ((nI ((seg 0 ((rows.zip (keptRows lim rows)).take (i + 1))).map (·.1))).map V.int)) ∧ (keptRows lim rows).drop (i + 1) = keepFrom w' m' ((chains (offs lim rows)).drop (i + 1)) ∧ (seg 0 ((rows.zip (keptRows lim rows)).take (i + 1))).length ≤ i + 1 ∧
          [some (V.ref a), some (.int lim), some (.ref Dh), some (.ref Dl), some (.int m), some (.int ((max w 1 : Nat) : Int)), some (.ref D), some (.int (i : Int))] = [some (V.ref a), some (.int lim), some (.ref Dh), some (.ref Dl), some (.int m'), some (.int ((max w' 1 : Nat) : Int)), some (.ref D), o'] := fun hc => by
        rw [if_neg hc] at hk
        have e1 := hno _ hk
        exact ⟨m, w, _, by rw [e1]; exact hy, (head_drop hk).2, by rw [e1]; omega, rfl⟩
      refine ite_d (fun d1 => ?_) (fun d1 => ?_)
      · walk_at "ex"
        refine x_ixL (SqL.of hll) (atI_int (nI_get c3)) ?_
        walk_at "ex"
        refine ite_d (fun d2 => ?_) (fun d2 => ?_)
        · walk_at "ex"
          refine x_ixL (SqL.of hh) (atI_int (nI_get c2)) ?_
          walk_at "ex"
          refine ite_d (fun d3 => ?_) (fun d3 => ?_)
          · rw [if_pos ⟨by omega, by omega⟩] at hk
            obtain ⟨k, hrk⟩ := row_key hv c2
            have e1 : seg 0 ((rows.zip (keptRows lim rows)).take (i + 1)) = seg 0 ((rows.zip (keptRows lim rows)).take i) ++ [(i, k)] := by
              rw [hzip true (head_drop hk).1, seg_app, htl, Nat.zero_add]
              rw [List.getElem?_eq_getElem hi] at hrk
              rw [Option.some.inj hrk]
              rfl
            walk_at "ex"
            refine x_app hy (sz1 (by rw [List.length_map, List.length_map, List.length_map]; omega)) ?_
            have kk : Same H2 (upd H' D (.lst ((nI ((seg 0 ((rows.zip (keptRows lim rows)).take i)).map (·.1))).map V.int ++ [.int (i : Int)]))) := But.same s hD But.upd
            have hh2 := kk _ _ h1'
            walk_at "ex"
            refine x_ixL (SqL.of hh2) (atI_int (nI_get c2)) ?_
            walk_at "ex"
            refine ⟨kk, m - 1, v, some (.int (i : Int)), ?_, (head_drop hk).2, ?_, ?_⟩
            · rw [upd_same, e1]
              unfold nI
              rw [List.map_append, List.map_append, List.map_append]
              rfl
            · rw [e1, List.length_append]
              show _ + 1 ≤ _
              omega
            · have e2 : (m : Int) - 1 = ((m - 1 : Nat) : Int) := by omega
              have e3 : max v 1 = v := by omega
              rw [e3]
              show [_, _, _, _, some (V.int ((m : Int) - 1)), _, _, _] = _
              rw [e2]
          · walk_at "ex"
            exact ⟨s, nfin (by omega)⟩
        · walk_at "ex"
          refine ite_f Bool.false_ne_true ?_
          walk_at "ex"
          exact ⟨s, nfin (by omega)⟩
      · refine ite_f Bool.false_ne_true ?_
        walk_at "ex"
        exact ⟨s, nfin (by omega)⟩
  · obtain ⟨s, m, w, o, hy, hk, hsz, rfl⟩ := hp
    rw [List.take_of_length_le (by rw [List.length_zip, hkl]; omega)] at hy
    walk_at "ex"
    exact q D H' (same_none (s1.trans s2) hD) ((s1.trans s2).trans s) hy

end
end OK
namespace OK
open PySem PySem.Spec PyProof.Rows L2
open R7290f.Spec (Units Bound Key keyOfText numberOf keysBetween)
/-! rekeyed -/
abbrev s_rekeyed : Stmt := top 70
abbrev N_rekeyed : List Str := ["texts", "limit", "keys", "before", "at"]
theorem sc_rekeyed : FnScope N_rekeyed ["texts", "limit"] (defScope s_rekeyed) := ⟨rfl, rfl, rfl, by decide +kernel, rfl, by decide +kernel, by decide +kernel⟩
def sp_rekeyed (K : PySem.W.Frag) : Sp := fun vs H Q _ => ∃ (a : Addr) (xs : List V) (rows : List Bound) (lim : Nat), vs = [.ref a, .int lim] ∧ SqL K H a xs ∧ TL H xs rows ∧ rows.length ≤ 200 ∧ lim ≤ 20 ∧ rows.length < 36 ^ lim ∧
  ∀ D H' ys, H D = none → Same H H' → H' D = some (.lst ys) → KL H' ys (R7290f.Spec.rekeyed lim rows) → Q (.ref D) H'
section
variable {P : Program} {w : World} {K : PySem.W.Frag} {mg : Str → Option Value} {base : Heap}
theorem ca_rekeyed (F : Df K mg "rekeyed" s_rekeyed ["texts", "limit"]) {z : Ads} (T : Gb K mg z)  (c_spread_keys : Ca P w K mg base 6 "spread_keys" (sp_spread_keys K)) (c_kept_rows : Ca P w K mg base 5 "kept_rows" (sp_kept_rows K)) : Ca P w K mg base 7 "rekeyed" (sp_rekeyed K) := by
  refine ca_mk F sc_rekeyed (fun vs H Q E h => by
    obtain ⟨_, _, _, _, rfl, _⟩ := h
    rfl
    ) (fun f cdv A outer s H vs Q E hr h => ?_)
  refine ⟨_, pss_cons (ps_set (i := 2) sc_rekeyed.nd rfl (Or.inl rfl) (pe_lst pa_nil)) (pss_cons (ps_set (i := 3) sc_rekeyed.nd rfl (Or.inl rfl) pe_non) (pss_cons (ps_for rzp rfl (pi_list (pe_ca c_kept_rows hr (by first | decide | omega) passN (pa_cons (pv 0) (pa_cons (pv 1) pa_nil)))) (pg_name (i := 4) sc_rekeyed.nd rfl (Or.inl rfl)) (pss_cons (ps_expr (pe_bm PySem.F.plainAttrs_list PySem.F.slot_list_extend PySem.F.type_list_extend mt_extend (pv 2) (pa_cons (pe_ca c_spread_keys hr (by first | decide | omega) passN (pa_cons (pv 3) (pa_cons (pe_ix ix_list (pv 0) (pv 4) (fun _ _ => rfl)) (pa_cons (pe_op op_sub (pv 4) (pe_len T.len (pv 2))) pa_nil)))) pa_nil))) (pss_cons (ps_expr (pe_bm PySem.F.plainAttrs_list PySem.F.slot_list_append PySem.F.type_list_append mt_append (pv 2) (pa_cons (pe_ix ix_list (pv 0) (pv 4) (fun _ _ => rfl)) pa_nil))) (pss_one (ps_set (i := 3) sc_rekeyed.nd rfl (Or.inl rfl) (pe_ix ix_list (pv 0) (pv 4) (fun _ _ => rfl))))))) (pss_cons (ps_expr (pe_bm PySem.F.plainAttrs_list PySem.F.slot_list_extend PySem.F.type_list_extend mt_extend (pv 2) (pa_cons (pe_ca c_spread_keys hr (by first | decide | omega) passN (pa_cons (pv 3) (pa_cons pe_non (pa_cons (pe_op op_sub (pe_len T.len (pv 0)) (pe_len T.len (pv 2))) pa_nil)))) pa_nil))) (pss_one (ps_ret (pv 2)))))), ?_⟩
  obtain ⟨a, xs, rows, lim, rfl, hl, ht, hz, hlim, hroom, q⟩ := h
  have hx := ht.1
  have hkeys : ∀ (i : Nat) k, rows[i]? = some (some k) → KeyOk k := fun i k e => by
    obtain ⟨x, _, hx⟩ := ht.get e
    exact hx.2
  have so : SegOk lim rows.length 0 1 (segs lim rows) := segs_ok
  walk_at "ex"
  refine ⟨Nat.zero_le _, fun D hD => ?_⟩
  have s0 : Same H (upd H D (.lst [])) := same_new hD
  have hl0 := sqL_same s0 hl
  walk_at "ex"
  refine ⟨a, xs, rows, lim, rfl, hl0, ht.kp (Kp.of s0), by omega, hlim, fun T H1 hT s1 hT1 => ?_⟩
  have sH1 := s0.trans s1
  have hy0 : upd H D (.lst []) D = some (.lst []) := upd_same
  have hy1 := s1 _ _ hy0
  have hTD : T ≠ D := fun z => by
    rw [z] at hT
    rw [upd_same] at hT
    cases hT
  walk_at "ex"
  refine x_fl (SqL.of hT1) (fun i σ H' => Same H H' ∧ H' T = some (.lst ((nI ((segs lim rows).map (·.1))).map V.int)) ∧ ∃ (d w : Nat) (b : Bound) (pre : List (List Nat)) (ys : List V) (vb : V) (o : Option V), σ = [some (.ref a), some (.int lim), some (.ref D), some vb, o] ∧ H' D = some (.lst ys) ∧ KL H' ys pre ∧ pre.length = d ∧ BAt H' vb b ∧
    pre ++ fill3 rows.length d b ((segs lim rows).drop i) = R7290f.Spec.rekeyed lim rows ∧ Lead lim rows.length d w b ∧ SegOk lim rows.length d w ((segs lim rows).drop i) ∧ d ≤ rows.length)
    ⟨sH1, hT1, 0, 1, none, [], [], .non, none, rfl, hy1, KL.nil, rfl, rfl, (rekeyed_eq lim rows).symm, lead0 hroom, so, Nat.zero_le _⟩ (fun i σ H' _ p => SqL.of p.2.1) (fun i x σ H' hi hp => ?_) (fun σ H' hp => ?_)
  · obtain ⟨s, hTl, d, w, b, pre, ys, vb, o, rfl, hy, hk, hd, hb, hpre, L, sg, hdl⟩ := hp
    obtain ⟨t', ht', rfl⟩ := map_ix hi
    unfold nI at ht'
    rw [List.getElem?_map, List.getElem?_map] at ht'
    cases e : (segs lim rows)[i]? with
    | none => rw [e] at ht'; cases ht'
    | some tk =>
      obtain ⟨t, k⟩ := tk
      rw [e] at ht'
      cases ht'
      rw [drop_head e] at hpre sg
      obtain ⟨g1, g2, g3, g4, g5, g6⟩ := sg
      have hrow := segs_mem (List.mem_of_getElem? e)
      have hok := hkeys t k hrow
      obtain ⟨x, hxt, hxk⟩ := (ht.kp (Kp.of s)).get hrow
      obtain ⟨⟨pk, rfl, hpk⟩, _⟩ := hxk
      have hl2 := sqL_same s hl
      have hyl := hk.1
      have ho : Ord b (some k) := L.ord g1 hok g3 g4
      walk_at "ex"
      refine x_ixL hl2 (atI_nat hxt) ?_
      walk_at "ex"
      have ec : (t : Int) - (ys.length : Int) = ((t - d : Nat) : Int) := by omega
      rw [ec]
      refine ⟨vb, .ref pk, b, some k, t - d, rfl, hb, ⟨pk, rfl, hpk⟩, L.ok, BOk.some hok, ho, by omega, fun l H2 zs hl0 s2 hz2 hkz => ?_⟩
      have hy2 := s2 _ _ hy
      have hkl : zs.length = t - d := by rw [hkz.1, between_len]
      walk_at "ex"
      refine x_ext hy2 hz2 (sz0 (by omega)) ?_
      have sA : Same H (upd H2 D (.lst (ys ++ zs))) := But.same (s.trans s2) hD But.upd
      have hl3 := sqL_same sA hl
      have kA : Kp H2 (upd H2 D (.lst (ys ++ zs))) := Kp.lst hy2
      walk_at "ex"
      refine x_ixL hl3 (atI_nat hxt) ?_
      walk_at "ex"
      refine x_app upd_same (sz1 (by rw [List.length_append]; omega)) ?_
      have kB : Kp (upd H2 D (.lst (ys ++ zs))) (upd (upd H2 D (.lst (ys ++ zs))) D (.lst (ys ++ zs ++ [.ref pk]))) := Kp.lst upd_same
      have sB : Same H (upd (upd H2 D (.lst (ys ++ zs))) D (.lst (ys ++ zs ++ [.ref pk]))) := But.same sA hD But.upd
      have hl4 := sqL_same sB hl
      walk_at "ex"
      refine x_ixL hl4 (atI_nat hxt) ?_
      walk_at "ex"
      have kAll : Kp H' (upd (upd H2 D (.lst (ys ++ zs))) D (.lst (ys ++ zs ++ [.ref pk]))) := (Kp.of s2).trans (kA.trans kB)
      have hka : KAt (upd (upd H2 D (.lst (ys ++ zs))) D (.lst (ys ++ zs ++ [.ref pk]))) (.ref pk) k := ⟨pk, rfl, hpk.kp kAll⟩
      have hT2 : (upd (upd H2 D (.lst (ys ++ zs))) D (.lst (ys ++ zs ++ [.ref pk]))) T = some (.lst ((nI ((segs lim rows).map (·.1))).map V.int)) := by
        rw [upd_ne hTD, upd_ne hTD]
        exact s2 _ _ hTl
      refine ⟨sB, hT2, t + 1, numberOf lim k - t, some k, pre ++ keysBetween b (some k) (t - d) ++ [k], _, .ref pk, some (.int (t : Int)), rfl, upd_same, ((hk.kp kAll).append (hkz.kp (kA.trans kB))).append (KL.one hka), ?_, hka, ?_, L.next hok g2 g4 g5, g6, by omega⟩
      · rw [List.length_append, List.length_append, between_len, hd]
        show d + (t - d) + 1 = t + 1
        omega
      · rw [← hpre]
        show _ = pre ++ (keysBetween b (some k) (t - d) ++ k :: fill3 rows.length (t + 1) (some k) ((segs lim rows).drop (i + 1)))
        rw [List.append_assoc, List.append_assoc]
        rfl
  · obtain ⟨s, hTl, d, w, b, pre, ys, vb, o, rfl, hy, hk, hd, hb, hpre, L, sg, hdl⟩ := hp
    rw [drop_all _ (by unfold nI; rw [List.length_map, List.length_map, List.length_map]; exact Nat.le_refl _)] at hpre
    have hl2 := sqL_same s hl
    have hyl := hk.1
    walk_at "ex"
    have ec : (xs.length : Int) - (ys.length : Int) = ((rows.length - d : Nat) : Int) := by omega
    rw [ec]
    refine ⟨vb, .non, b, none, rows.length - d, rfl, hb, rfl, L.ok, BOk.none, Ord_none_r b, by omega, fun l H2 zs hl0 s2 hz2 hkz => ?_⟩
    have hy2 := s2 _ _ hy
    have hkl : zs.length = rows.length - d := by rw [hkz.1, between_len]
    walk_at "ex"
    refine x_ext hy2 hz2 (sz0 (by omega)) ?_
    have sA : Same H (upd H2 D (.lst (ys ++ zs))) := But.same (s.trans s2) hD But.upd
    have kA : Kp H2 (upd H2 D (.lst (ys ++ zs))) := Kp.lst hy2
    walk_at "ex"
    refine q D _ _ hD sA upd_same ?_
    rw [← hpre]
    exact (hk.kp ((Kp.of s2).trans kA)).append (hkz.kp kA)

end
end OK
namespace OK
open PySem PySem.Spec PyProof.Rows L2
open R7290f.Spec (Plain Units Bound units boundBefore boundAfter insertKey changedRows keyValue nats record isBefore room keyBetween middleKey)
theorem bb_get {ks : List (List Nat)} {i : Nat} {k : List Nat} (h : boundBefore ks i = some k) : 1 ≤ i ∧ ks[i - 1]? = some k := by
  unfold boundBefore at h
  split at h
  · cases h
  · exact ⟨by omega, h⟩
theorem KLim.bb {lim : Nat} {ks : List (List Nat)} (h : KLim lim ks) (i : Nat) : BOk (boundBefore ks i) := fun k e => (h k (List.mem_of_getElem? (bb_get e).2)).1
theorem KLim.ba {lim : Nat} {ks : List (List Nat)} (h : KLim lim ks) (i : Nat) : BOk (boundAfter ks i) := fun k e => (h k (List.mem_of_getElem? e)).1
theorem asc_ord {ks : List (List Nat)} (h : AscB none ks) (i : Nat) : Ord (boundBefore ks i) (boundAfter ks i) := by
  cases e1 : boundBefore ks i with
  | none => exact Ord_none_l _
  | some j =>
    cases e2 : boundAfter ks i with
    | none => exact Ord_none_r _
    | some k =>
      obtain ⟨h1, h2⟩ := bb_get e1
      have e3 : i - 1 + 1 = i := by omega
      exact ascB_get ks none h (i - 1) j k h2 (by rw [e3]; exact e2)
theorem KL.bb {H : Hp} {xs : List V} {ks : List (List Nat)} (h : KL H xs ks) {i : Nat} {v : V} (hi : 1 ≤ i) (e : xs[i - 1]? = some v) : BAt H v (boundBefore ks i) := by
  have hl := (List.getElem?_eq_some_iff.mp e).1
  rw [h.1] at hl
  have e2 : ks[i - 1]? = some ks[i - 1] := List.getElem?_eq_getElem hl
  have : boundBefore ks i = some ks[i - 1] := by
    unfold boundBefore
    rw [if_neg (by omega), e2]
  rw [this]
  exact h.2 _ _ _ e e2
/-- the rows around a new one -/
def rowsAt (ks : List (List Nat)) (i : Nat) : List Bound := (ks.take i).map some ++ none :: (ks.drop i).map some
theorem TL.keys {lim : Nat} {H : Hp} {xs : List V} {ks : List (List Nat)} (h : KL H xs ks) (hk : KLim lim ks) : TL H xs (ks.map some) := ⟨by rw [List.length_map]; exact h.1, fun i v b e1 e2 => by
  rw [List.getElem?_map] at e2
  cases e : ks[i]? with
  | none => rw [e] at e2; cases e2
  | some k =>
    rw [e] at e2
    cases e2
    exact ⟨h.2 i v k e1 e, (hk k (List.mem_of_getElem? e)).1⟩⟩
theorem TL.append {H : Hp} {xs ys : List V} {a b : List Bound} (h : TL H xs a) (q : TL H ys b) : TL H (xs ++ ys) (a ++ b) := by
  refine ⟨by rw [List.length_append, List.length_append, h.1, q.1], fun i v k e1 e2 => ?_⟩
  by_cases hi : i < xs.length
  · rw [List.getElem?_append_left hi] at e1
    rw [List.getElem?_append_left (by have := h.1; omega)] at e2
    exact h.2 i v k e1 e2
  · rw [List.getElem?_append_right (by omega)] at e1
    rw [List.getElem?_append_right (by have := h.1; omega), ← h.1] at e2
    exact q.2 _ v k e1 e2
theorem TL.one_none {H : Hp} : TL H [.non] [none] := ⟨rfl, fun i v b e1 e2 => by
  cases i with
  | zero =>
    cases e1
    cases e2
    exact .inl rfl
  | succ n => simp at e1⟩
theorem KLim.take {lim : Nat} {ks : List (List Nat)} (h : KLim lim ks) (i : Nat) : KLim lim (ks.take i) := fun k hk => h k (List.mem_of_mem_take hk)
theorem KLim.drop {lim : Nat} {ks : List (List Nat)} (h : KLim lim ks) (i : Nat) : KLim lim (ks.drop i) := fun k hk => h k (List.mem_of_mem_drop hk)
theorem ifE_ix {σ : L2.St} {H : Hp} {Q : VK} {c : Prop} [Decidable c] {ta : TE} (Pv : V → Prop) (h : ∀ v, Pv v → Q v H) (ht : c → ∃ v, Pv v ∧ (Q v H → ta σ H Q)) (hf : ¬ c → Pv .non) : if decide c = true then ta σ H Q else tC .non σ H Q := by
  by_cases hc : c
  · obtain ⟨v, hv, k⟩ := ht hc
    exact ite_t (decide_eq_true hc) (k (h v hv))
  · exact ite_f (by simpa using hc) (h .non (hf hc))
/-! keys_with_one_more -/
abbrev s_keys_with_one_more : Stmt := top 75
abbrev N_keys_with_one_more : List Str := ["keys", "place", "limit", "middle", "before", "after"]
theorem sc_keys_with_one_more : FnScope N_keys_with_one_more ["keys", "place", "limit", "middle"] (defScope s_keys_with_one_more) := ⟨rfl, rfl, rfl, by decide +kernel, rfl, by decide +kernel, by decide +kernel⟩
def sp_keys_with_one_more (K : PySem.W.Frag) : Sp := fun vs H Q _ => ∃ (a : Addr) (xs : List V) (ks : List (List Nat)) (i lim : Nat) (mid : Bool), vs = [.ref a, .int i, .int lim, .bl mid] ∧ SqL K H a xs ∧ KL H xs ks ∧ KLim lim ks ∧ AscB none ks ∧ i ≤ ks.length ∧ lim ≤ 20 ∧ ks.length ≤ 100 ∧ ks.length + 1 < 36 ^ lim ∧
  ∀ D H' ys, H D = none → Same H H' → H' D = some (.lst ys) → KL H' ys (insertKey ⟨lim, mid, ks⟩ i) → Q (.ref D) H'
section
variable {P : Program} {w : World} {K : PySem.W.Frag} {mg : Str → Option Value} {base : Heap}
theorem ca_keys_with_one_more (F : Df K mg "keys_with_one_more" s_keys_with_one_more ["keys", "place", "limit", "middle"]) {z : Ads} (T : Gb K mg z)  (c_shortest_key : Ca P w K mg base 6 "shortest_key" (sp_shortest_key K)) (c_middle_key : Ca P w K mg base 5 "middle_key" (sp_middle_key K)) (c_room_between : Ca P w K mg base 4 "room_between" (sp_room_between K)) (c_rekeyed : Ca P w K mg base 7 "rekeyed" (sp_rekeyed K)) : Ca P w K mg base 8 "keys_with_one_more" (sp_keys_with_one_more K) := by
  refine ca_mk F sc_keys_with_one_more (fun vs H Q E h => by
    obtain ⟨_, _, _, _, _, _, rfl, _⟩ := h
    rfl
    ) (fun f cdv A outer s H vs Q E hr h => ?_)
  refine ⟨_, pss_cons (ps_set (i := 4) sc_keys_with_one_more.nd rfl (Or.inl rfl) (pe_ifExp (pt_cmpR op_gt (pv 1) pe_int (nomark _)) (pe_ix ix_list (pv 0) (pe_op op_sub (pv 1) pe_int) (fun _ _ => rfl)) pe_non)) (pss_cons (ps_set (i := 5) sc_keys_with_one_more.nd rfl (Or.inl rfl) (pe_ifExp (pt_cmpR op_lt (pv 1) (pe_len T.len (pv 0)) (nomark _)) (pe_ix ix_list (pv 0) (pv 1) (fun _ _ => rfl)) pe_non)) (pss_cons (ps_if (pt_cmpR op_eq (pe_ca c_room_between hr (by first | decide | omega) passN (pa_cons (pv 4) (pa_cons (pv 5) (pa_cons (pv 2) pa_nil)))) pe_int (nomark _)) (pss_one (ps_ret (pe_ca c_rekeyed hr (by first | decide | omega) passN (pa_cons (pe_op op_cat (pe_op op_cat (pe_slice sl_list (pv 0) po_none (po_some (pv 1))) (pe_lst (pa_cons pe_non pa_nil))) (pe_slice sl_list (pv 0) (po_some (pv 1)) po_none)) (pa_cons (pv 2) pa_nil))))) pss_nil) (pss_cons (ps_if (pt_val (pv 3)) (pss_one (ps_ret (pe_op op_cat (pe_op op_cat (pe_slice sl_list (pv 0) po_none (po_some (pv 1))) (pe_lst (pa_cons (pe_ca c_middle_key hr (by first | decide | omega) passN (pa_cons (pv 4) (pa_cons (pv 5) (pa_cons (pv 2) pa_nil)))) pa_nil))) (pe_slice sl_list (pv 0) (po_some (pv 1)) po_none)))) pss_nil) (pss_one (ps_ret (pe_op op_cat (pe_op op_cat (pe_slice sl_list (pv 0) po_none (po_some (pv 1))) (pe_lst (pa_cons (pe_ca c_shortest_key hr (by first | decide | omega) passN (pa_cons (pv 4) (pa_cons (pv 5) pa_nil))) pa_nil))) (pe_slice sl_list (pv 0) (po_some (pv 1)) po_none))))))), ?_⟩
  obtain ⟨a, xs, ks, i, lim, mid, rfl, hl, hk, hkl, hasc, hi, hlim, hz, hroom, q⟩ := h
  have hx := hk.1
  have ob := hkl.bb i
  have oa := hkl.ba i
  have oo := asc_ord hasc i
  have hri := room_int lim ob oa oo
  have eins : insertKey ⟨lim, mid, ks⟩ i = if room lim (boundBefore ks i) (boundAfter ks i) = 0 then R7290f.Spec.rekeyed lim (rowsAt ks i) else ks.take i ++ (if mid = true then middleKey lim (boundBefore ks i) (boundAfter ks i) else keyBetween (boundBefore ks i) (boundAfter ks i)) :: ks.drop i := rfl
  have e1 : cutV xs none (some (i : Int)) = xs.take i := cut_to xs (by omega)
  have e2 : cutV xs (some (i : Int)) none = xs.drop i := cut_from xs (by omega)
  have z1 := cutV_length xs none (some (i : Int))
  have z2 := cutV_length xs (some (i : Int)) none
  walk_at "ex"
  refine ifE_ix (fun v => BAt H v (boundBefore ks i)) (fun vb hb => ?_) (fun c => ?_) (fun c => ?_)
  rotate_left
  · have hx1 : xs[i - 1]? = some xs[i - 1] := List.getElem?_eq_getElem (by omega)
    refine ⟨xs[i - 1], hk.bb (by omega) hx1, fun q => ?_⟩
    walk_at "ex"
    have ec : (i : Int) - 1 = ((i - 1 : Nat) : Int) := by omega
    rw [ec]
    exact x_ixL hl (atI_nat hx1) q
  · have : boundBefore ks i = none := if_pos (by omega)
    rw [this]
    rfl
  walk_at "ex"
  refine ifE_ix (fun v => BAt H v (boundAfter ks i)) (fun va ha => ?_) (fun c => ?_) (fun c => ?_)
  rotate_left
  · obtain ⟨v, hv, hkv⟩ := hk.get (i := i) (by omega)
    refine ⟨v, ?_, fun q => ?_⟩
    · have : boundAfter ks i = some ks[i] := List.getElem?_eq_getElem (by omega)
      rw [this]
      exact hkv
    · walk_at "ex"
      exact x_ixL hl (atI_nat hv) q
  · have : boundAfter ks i = none := List.getElem?_eq_none (by omega)
    rw [this]
    rfl
  walk_at "ex"
  refine ⟨vb, va, _, _, lim, rfl, hb, ha, ob.dig, oa.dig, by omega, ?_⟩
  rw [← hri]
  walk_at "ex"
  refine ite_d (fun c => ?_) (fun c => ?_)
  · have c0 : room lim (boundBefore ks i) (boundAfter ks i) = 0 := by omega
    rw [eins, if_pos c0] at q
    walk_at "ex"
    refine fun D1 hD1 => ?_
    have s1 := same_new (o := .lst (cutV xs none (some (i : Int)))) hD1
    walk_at "ex"
    refine ⟨one_le, fun D2 hD2 => ?_⟩
    have s2 := same_new (o := .lst [.non]) hD2
    have g0 : upd H D1 (.lst (cutV xs none (some (i : Int)))) D1 = some (.lst (cutV xs none (some (i : Int)))) := upd_same
    have g1 := s2 _ _ g0
    refine x_cat g1 upd_same (sz0 (by show _ + 1 ≤ _; omega)) fun D3 hD3 => ?_
    have s3 := same_new (o := .lst (cutV xs none (some (i : Int)) ++ [.non])) hD3
    have hl3 := sqL_same (s1.trans (s2.trans s3)) hl
    walk_at "ex"
    refine fun D4 hD4 => ?_
    have s4 := same_new (o := .lst (cutV xs (some (i : Int)) none)) hD4
    have g2 : upd (upd (upd H D1 (.lst (cutV xs none (some (i : Int))))) D2 (.lst [.non])) D3 (.lst (cutV xs none (some (i : Int)) ++ [.non])) D3 = some (.lst (cutV xs none (some (i : Int)) ++ [.non])) := upd_same
    have g3 := s4 _ _ g2
    refine x_cat g3 upd_same (sz0 (by rw [List.length_append]; show _ + 1 + _ ≤ _; omega)) fun D5 hD5 => ?_
    have s5 := same_new (o := .lst (cutV xs none (some (i : Int)) ++ [.non] ++ cutV xs (some (i : Int)) none)) hD5
    have sA := s1.trans (s2.trans (s3.trans (s4.trans s5)))
    walk_at "ex"
    refine ⟨D5, _, rowsAt ks i, lim, rfl, SqL.of upd_same, ?_, ?_, hlim, ?_, fun D H' ys hD s hy hkl' => q D H' ys (same_none sA hD) (sA.trans s) hy hkl'⟩
    · rw [e1, e2] at sA ⊢
      have t1 : TL H (xs.take i ++ [.non] ++ xs.drop i) ((ks.take i).map some ++ [none] ++ (ks.drop i).map some) := ((TL.keys (hk.take i) (hkl.take i)).append TL.one_none).append (TL.keys (hk.drop i) (hkl.drop i))
      have e : (ks.take i).map some ++ [none] ++ (ks.drop i).map some = rowsAt ks i := by
        unfold rowsAt
        rw [List.append_assoc]
        rfl
      rw [e] at t1
      exact t1.kp (Kp.of sA)
    · unfold rowsAt
      rw [List.length_append, List.length_cons, List.length_map, List.length_map, List.length_take, List.length_drop]
      omega
    · unfold rowsAt
      rw [List.length_append, List.length_cons, List.length_map, List.length_map, List.length_take, List.length_drop]
      omega
  · have c0 : ¬ room lim (boundBefore ks i) (boundAfter ks i) = 0 := by omega
    rw [eins, if_neg c0] at q
    walk_at "ex"
    cases mid with
    | true =>
      refine ite_t rfl ?_
      walk_at "ex"
      refine fun D1 hD1 => ?_
      have s1 := same_new (o := .lst (cutV xs none (some (i : Int)))) hD1
      walk_at "ex"
      refine ⟨vb, va, _, _, lim, rfl, hb.kp (Kp.of s1), ha.kp (Kp.of s1), ob, oa, oo, by omega, by omega, fun p H1 sp hp => ?_⟩
      walk_at "ex"
      refine ⟨one_le, fun D2 hD2 => ?_⟩
      have s2 := same_new (o := .lst [.ref p]) hD2
      have g0 : upd H D1 (.lst (cutV xs none (some (i : Int)))) D1 = some (.lst (cutV xs none (some (i : Int)))) := upd_same
      have g1 := s2 _ _ (sp _ _ g0)
      refine x_cat g1 upd_same (sz0 (by show _ + 1 ≤ _; omega)) fun D3 hD3 => ?_
      have s3 := same_new (o := .lst (cutV xs none (some (i : Int)) ++ [.ref p])) hD3
      have hl3 := sqL_same (s1.trans (sp.trans (s2.trans s3))) hl
      walk_at "ex"
      refine fun D4 hD4 => ?_
      have s4 := same_new (o := .lst (cutV xs (some (i : Int)) none)) hD4
      have g2 : upd (upd H1 D2 (.lst [.ref p])) D3 (.lst (cutV xs none (some (i : Int)) ++ [.ref p])) D3 = some (.lst (cutV xs none (some (i : Int)) ++ [.ref p])) := upd_same
      have g3 := s4 _ _ g2
      refine x_cat g3 upd_same (sz0 (by rw [List.length_append]; show _ + 1 + _ ≤ _; omega)) fun D5 hD5 => ?_
      have s5 := same_new (o := .lst (cutV xs none (some (i : Int)) ++ [.ref p] ++ cutV xs (some (i : Int)) none)) hD5
      have sB := s2.trans (s3.trans (s4.trans s5))
      have sA := s1.trans (sp.trans sB)
      refine q D5 _ _ (same_none (s1.trans (sp.trans (s2.trans (s3.trans s4)))) hD5) sA upd_same ?_
      rw [e1, e2] at sA sB ⊢
      have t0 := (((hk.take i).kp (Kp.of sA)).append (KL.one ⟨p, rfl, hp.kp (Kp.of sB)⟩)).append ((hk.drop i).kp (Kp.of sA))
      rw [List.append_assoc (ks.take i)] at t0
      exact t0
    | false =>
      refine ite_f Bool.false_ne_true ?_
      walk_at "ex"
      refine fun D1 hD1 => ?_
      have s1 := same_new (o := .lst (cutV xs none (some (i : Int)))) hD1
      walk_at "ex"
      refine ⟨vb, va, _, _, rfl, hb.kp (Kp.of s1), ha.kp (Kp.of s1), ob, oa, oo, fun p H1 sp hp => ?_⟩
      walk_at "ex"
      refine ⟨one_le, fun D2 hD2 => ?_⟩
      have s2 := same_new (o := .lst [.ref p]) hD2
      have g0 : upd H D1 (.lst (cutV xs none (some (i : Int)))) D1 = some (.lst (cutV xs none (some (i : Int)))) := upd_same
      have g1 := s2 _ _ (sp _ _ g0)
      refine x_cat g1 upd_same (sz0 (by show _ + 1 ≤ _; omega)) fun D3 hD3 => ?_
      have s3 := same_new (o := .lst (cutV xs none (some (i : Int)) ++ [.ref p])) hD3
      have hl3 := sqL_same (s1.trans (sp.trans (s2.trans s3))) hl
      walk_at "ex"
      refine fun D4 hD4 => ?_
      have s4 := same_new (o := .lst (cutV xs (some (i : Int)) none)) hD4
      have g2 : upd (upd H1 D2 (.lst [.ref p])) D3 (.lst (cutV xs none (some (i : Int)) ++ [.ref p])) D3 = some (.lst (cutV xs none (some (i : Int)) ++ [.ref p])) := upd_same
      have g3 := s4 _ _ g2
      refine x_cat g3 upd_same (sz0 (by rw [List.length_append]; show _ + 1 + _ ≤ _; omega)) fun D5 hD5 => ?_
      have s5 := same_new (o := .lst (cutV xs none (some (i : Int)) ++ [.ref p] ++ cutV xs (some (i : Int)) none)) hD5
      have sB := s2.trans (s3.trans (s4.trans s5))
      have sA := s1.trans (sp.trans sB)
      refine q D5 _ _ (same_none (s1.trans (sp.trans (s2.trans (s3.trans s4)))) hD5) sA upd_same ?_
      rw [e1, e2] at sA sB ⊢
      have t0 := (((hk.take i).kp (Kp.of sA)).append (KL.one ⟨p, rfl, hp.kp (Kp.of sB)⟩)).append ((hk.drop i).kp (Kp.of sA))
      rw [List.append_assoc (ks.take i)] at t0
      exact t0

end
end OK
namespace OK
open PySem PySem.Spec PyProof.Rows L2
open R7290f.Spec (Plain Units Bound units changedRows keyValue nats record textOf)
/-- the rows up to the now-th, filtered -/
abbrev chP (old new : List (List Nat)) (i : Nat) (j : Nat) : Bool := j != i && new[j]? != (if j < i then old[j]? else old[j - 1]?)
theorem chP_self (old new : List (List Nat)) (i : Nat) : chP old new i i = false := by
  unfold chP
  simp
theorem filt_step (P : Nat → Bool) (n : Nat) : (List.range (n + 1)).filter P = (List.range n).filter P ++ (if P n then [n] else []) := by
  rw [List.range_succ, List.filter_append]
  congr 1
  cases h : P n <;> simp [h]
def nowN (i at' : Nat) : Nat := if at' < i then at' else at' + 1
/-- how far the numbers are looked at when at' rows have been looked at -/
def upto (i at' : Nat) : Nat := if at' ≤ i then at' else at' + 1
theorem upto_step (old new : List (List Nat)) (i at' : Nat) : (List.range (upto i (at' + 1))).filter (chP old new i) = (List.range (upto i at')).filter (chP old new i) ++ (if chP old new i (nowN i at') then [nowN i at'] else []) := by
  unfold upto nowN
  by_cases h : at' < i
  · rw [if_pos h, if_pos (by omega), if_pos (by omega), filt_step]
  · rw [if_neg h, if_neg (by omega)]
    by_cases h2 : at' = i
    · subst h2
      rw [if_pos (Nat.le_refl _), filt_step, filt_step, chP_self]
      simp
    · rw [if_neg (by omega), filt_step]
theorem upto_end (old new : List (List Nat)) (i : Nat) (hi : i ≤ old.length) (hn : new.length = old.length + 1) : (List.range (upto i old.length)).filter (chP old new i) = changedRows old i new := by
  show _ = (List.range new.length).filter (chP old new i)
  rw [hn]
  unfold upto
  by_cases h : old.length ≤ i
  · have : i = old.length := by omega
    subst this
    rw [if_pos (Nat.le_refl _), filt_step, chP_self]
    simp
  · rw [if_neg h]
/-! changed_rows -/
abbrev s_changed_rows : Stmt := top 76
abbrev N_changed_rows : List Str := ["old", "new", "place", "changed", "at", "now"]
theorem sc_changed_rows : FnScope N_changed_rows ["old", "new", "place"] (defScope s_changed_rows) := ⟨rfl, rfl, rfl, by decide +kernel, rfl, by decide +kernel, by decide +kernel⟩
def sp_changed_rows (K : PySem.W.Frag) : Sp := fun vs H Q _ => ∃ (a b : Addr) (xs ys : List V) (old new : List (List Nat)) (i : Nat), vs = [.ref a, .ref b, .int i] ∧ SqL K H a xs ∧ SqL K H b ys ∧ KL H xs old ∧ KL H ys new ∧ (∀ k ∈ old, Dig k) ∧ (∀ k ∈ new, Dig k) ∧ new.length = old.length + 1 ∧ i ≤ old.length ∧ old.length ≤ 100 ∧
  ∀ D H', H D = none → Same H H' → H' D = some (.lst ((nI (changedRows old i new)).map V.int)) → Q (.ref D) H'
section
variable {P : Program} {w : World} {K : PySem.W.Frag} {mg : Str → Option Value} {base : Heap}
theorem ca_changed_rows (F : Df K mg "changed_rows" s_changed_rows ["old", "new", "place"]) {z : Ads} (T : Gb K mg z)   : Ca P w K mg base 1 "changed_rows" (sp_changed_rows K) := by
  refine ca_mk F sc_changed_rows (fun vs H Q E h => by
    obtain ⟨_, _, _, _, _, _, _, rfl, _⟩ := h
    rfl
    ) (fun f cdv A outer s H vs Q E hr h => ?_)
  refine ⟨_, pss_cons (ps_set (i := 3) sc_changed_rows.nd rfl (Or.inl rfl) (pe_lst pa_nil)) (pss_cons (ps_for rzp rfl (pi_range1 (by rfl) T.range (pa_cons (pe_len T.len (pv 0)) pa_nil)) (pg_name (i := 4) sc_changed_rows.nd rfl (Or.inl rfl)) (pss_cons (ps_set (i := 5) sc_changed_rows.nd rfl (Or.inl rfl) (pe_ifExp (pt_cmpR op_lt (pv 4) (pv 2) (nomark _)) (pv 4) (pe_op op_add (pv 4) pe_int))) (pss_one (ps_if (pt_cmpR (op_neD hr.units) (pe_ix ix_list (pv 1) (pv 5) (fun _ _ => rfl)) (pe_ix ix_list (pv 0) (pv 4) (fun _ _ => rfl)) (nomark _)) (pss_one (ps_expr (pe_bm PySem.F.plainAttrs_list PySem.F.slot_list_append PySem.F.type_list_append mt_append (pv 3) (pa_cons (pv 5) pa_nil)))) pss_nil)))) (pss_one (ps_ret (pv 3)))), ?_⟩
  obtain ⟨a, b, xs, ys, old, new, i, rfl, ha, hb, ho, hn, dold, dnew, hln, hi, hz, q⟩ := h
  have hx := ho.1
  walk_at "ex"
  refine ⟨Nat.zero_le _, fun D hD => ?_⟩
  have s0 : Same H (upd H D (.lst [])) := same_new hD
  walk_at "ex"
  have ha0 := sqL_same s0 ha
  walk_at "ex"
  refine x_r1 old.length (by rw [hx]) (by omega) (fun j σ H' => Same H H' ∧ H' D = some (.lst ((nI ((List.range (upto i j)).filter (chP old new i))).map V.int)) ∧ ((List.range (upto i j)).filter (chP old new i)).length ≤ j ∧ ∃ o1 o2, σ = [some (.ref a), some (.ref b), some (.int i), some (.ref D), o1, o2])
    ⟨s0, by rw [show upto i 0 = 0 from if_pos (Nat.zero_le _)]; exact upd_same, by rw [show upto i 0 = 0 from if_pos (Nat.zero_le _)]; exact Nat.le_refl _, none, none, rfl⟩ (fun j σ H' hj hp => ?_) (fun σ H' hp => ?_)
  · obtain ⟨s, hy, hsz, o1, o2, rfl⟩ := hp
    have ha2 := sqL_same s ha
    have hb2 := sqL_same s hb
    obtain ⟨v1, e1, k1⟩ := (ho.kp (Kp.of s)).get hj
    have hnow : nowN i j < new.length := by
      unfold nowN
      split <;> omega
    obtain ⟨v2, e2, k2⟩ := (hn.kp (Kp.of s)).get hnow
    obtain ⟨p1, rfl, g1⟩ := k1
    obtain ⟨p2, rfl, g2⟩ := k2
    have hP : chP old new i (nowN i j) = !decide (kI new[nowN i j] = kI old[j]) := by
      have n1 : nowN i j ≠ i := by
        unfold nowN
        split <;> omega
      have n2 : (if nowN i j < i then old[nowN i j]? else old[nowN i j - 1]?) = old[j]? := by
        unfold nowN
        by_cases c : j < i
        · rw [if_pos c, if_pos c]
        · rw [if_neg c, if_neg (by omega), Nat.add_sub_cancel]
      unfold chP
      rw [n2, List.getElem?_eq_getElem hnow, List.getElem?_eq_getElem hj, kI_dec (dnew _ (List.getElem_mem hnow)) (dold _ (List.getElem_mem hj))]
      have : (nowN i j != i) = true := by simp [n1]
      rw [this, Bool.true_and]
      by_cases c : new[nowN i j] = old[j] <;> simp [c]
    walk_at "ex"
    have fin : ∀ (H2 : Hp), Same H H2 → H2 D = some (.lst ((nI ((List.range (upto i (j + 1))).filter (chP old new i))).map V.int)) → Same H H2 ∧ H2 D = some (.lst ((nI ((List.range (upto i (j + 1))).filter (chP old new i))).map V.int)) ∧ ((List.range (upto i (j + 1))).filter (chP old new i)).length ≤ j + 1 := fun H2 s2 e => by
      refine ⟨s2, e, ?_⟩
      rw [upto_step, List.length_append]
      split <;> simp <;> omega
    refine ite_d (fun c => ?_) (fun c => ?_)
    · have en : nowN i j = j := if_pos (by omega)
      walk_at "ex"
      refine x_ixL hb2 (atI_nat (by rw [← en]; exact e2)) ?_
      walk_at "ex"
      refine x_ixL ha2 (atI_nat e1) ?_
      refine x_neT g2.t g1.t ?_
      walk_at "ex"
      rw [← hP]
      refine ite_b (fun c2 => ?_) (fun c2 => ?_)
      · walk_at "ex"
        refine x_app hy (sz1 (by rw [List.length_map, List.length_map]; omega)) ?_
        walk_at "ex"
        obtain ⟨f1, f2, f3⟩ := fin (upd H' D (.lst ((nI ((List.range (upto i j)).filter (chP old new i))).map V.int ++ [.int (j : Int)]))) (But.same s hD But.upd) (by
          rw [upd_same, upto_step, c2, if_pos rfl, en]
          unfold nI
          rw [List.map_append, List.map_append]
          rfl)
        exact ⟨f1, f2, f3, _, _, rfl⟩
      · walk_at "ex"
        obtain ⟨f1, f2, f3⟩ := fin H' s (by rw [hy, upto_step, c2, if_neg Bool.false_ne_true, List.append_nil])
        exact ⟨f1, f2, f3, _, _, rfl⟩
    · have en : nowN i j = j + 1 := if_neg (by omega)
      walk_at "ex"
      have ec : (j : Int) + 1 = ((j + 1 : Nat) : Int) := rfl
      rw [ec]
      refine x_ixL hb2 (atI_nat (by rw [← en]; exact e2)) ?_
      walk_at "ex"
      refine x_ixL ha2 (atI_nat e1) ?_
      refine x_neT g2.t g1.t ?_
      walk_at "ex"
      rw [← hP]
      refine ite_b (fun c2 => ?_) (fun c2 => ?_)
      · walk_at "ex"
        refine x_app hy (sz1 (by rw [List.length_map, List.length_map]; omega)) ?_
        walk_at "ex"
        obtain ⟨f1, f2, f3⟩ := fin (upd H' D (.lst ((nI ((List.range (upto i j)).filter (chP old new i))).map V.int ++ [.int ((j + 1 : Nat) : Int)]))) (But.same s hD But.upd) (by
          rw [upd_same, upto_step, c2, if_pos rfl, en]
          unfold nI
          rw [List.map_append, List.map_append]
          rfl)
        exact ⟨f1, f2, f3, _, _, rfl⟩
      · walk_at "ex"
        obtain ⟨f1, f2, f3⟩ := fin H' s (by rw [hy, upto_step, c2, if_neg Bool.false_ne_true, List.append_nil])
        exact ⟨f1, f2, f3, _, _, rfl⟩
  · obtain ⟨s, hy, hsz, o1, o2, rfl⟩ := hp
    rw [upto_end old new i hi hln] at hy
    walk_at "ex"
    exact q D H' hD s hy
end
/-! insertion_value -/
abbrev s_insertion_value : Stmt := top 77
abbrev N_insertion_value : List Str := ["key", "changed", "numbers", "at"]
theorem sc_insertion_value : FnScope N_insertion_value ["key", "changed"] (defScope s_insertion_value) := ⟨rfl, rfl, rfl, by decide +kernel, rfl, by decide +kernel, by decide +kernel⟩
def sp_insertion_value (K : PySem.W.Frag) : Sp := fun vs H Q _ => ∃ (v : V) (a : Addr) (k : List Nat) (ns : List Nat), vs = [v, .ref a] ∧ KAt H v k ∧ Dig k ∧ SqL K H a ((nI ns).map V.int) ∧ ns.length ≤ 100 ∧ ∀ x H', Same H H' → VAt K H' (record [("key", keyValue k), ("changed", nats ns)]) x → Q x H'
section
variable {P : Program} {w : World} {K : PySem.W.Frag} {mg : Str → Option Value} {base : Heap}
theorem ca_insertion_value (F : Df K mg "insertion_value" s_insertion_value ["key", "changed"]) {z : Ads} (T : Gb K mg z)  (c_record_value : Ca P w K mg base 2 "record_value" (sp_record_value K)) (c_list_value : Ca P w K mg base 1 "list_value" (sp_list_value K)) (c_text_value : Ca P w K mg base 1 "text_value" (sp_text_value K)) (c_integer_value : Ca P w K mg base 1 "integer_value" (sp_integer_value K)) : Ca P w K mg base 3 "insertion_value" (sp_insertion_value K) := by
  refine ca_mk F sc_insertion_value (fun vs H Q E h => by
    obtain ⟨_, _, _, _, rfl, _⟩ := h
    rfl
    ) (fun f cdv A outer s H vs Q E hr h => ?_)
  refine ⟨_, pss_cons (ps_setLc (i := 2) (own := [("at", 3)]) (g := (gName 3)) (tt := tYes) rfl sc_insertion_value.nd rfl rfl (sw_true rfl rfl rfl (by decide +kernel)) (pi_list (pv 1)) (blkOk_by (own := [("at", 3)]) (N := N_insertion_value) (sc := defScope s_insertion_value) (by decide +kernel)) (fun _ _ _ _ _ => (pg_name (i := 3) sc_insertion_value.nd rfl (Or.inl rfl))) (fun _ _ _ _ _ => pts_nil) (fun _ _ _ _ _ => (pe_ca c_integer_value hr (by first | decide | omega) passN (pa_cons (pv 3) pa_nil)))) (pss_one (ps_ret (pe_ca c_record_value hr (by first | decide | omega) passN (pa_cons (pe_lst (pa_cons (pe_tup (pa_cons pe_str (pa_cons (pe_ca c_text_value hr (by first | decide | omega) passN (pa_cons (pv 0) pa_nil)) pa_nil))) (pa_cons (pe_tup (pa_cons pe_str (pa_cons (pe_ca c_list_value hr (by first | decide | omega) passN (pa_cons (pe_fz (pv 2)) pa_nil)) pa_nil))) pa_nil))) pa_nil)))), ?_⟩
  obtain ⟨v, a, k, ns, rfl, ⟨p, rfl, hp⟩, hd, ha, hz, q⟩ := h
  walk_at "ex"
  refine x_lcl ha (by rw [List.length_map, List.length_map]; omega) (fun H i v => ∃ n, ns[i]? = some n ∧ VAt K H (.num (some (n : Int))) v) (fun H H' i v k h => let ⟨u, e, o⟩ := h; ⟨u, e, VAt.kp k o⟩) (fun x H => gName_mono x _ H) (fun i x H' hx s Q' hQ => ?_) (fun D H1 ys hD s hy it => ?_)
  · obtain ⟨y, hyi, rfl⟩ := map_ix hx
    unfold nI at hyi
    rw [List.getElem?_map] at hyi
    cases e : ns[i]? with
    | none => rw [e] at hyi; cases hyi
    | some n =>
      rw [e] at hyi
      cases hyi
      walk_at "ex"
      refine ⟨rfl, ?_⟩
      walk_at "ex"
      exact ⟨_, rfl, fun x H2 s2 hx2 => hQ _ _ s2 ⟨n, e, hx2⟩⟩
  have hns : VsAt K H1 (ns.map R7290f.Spec.nat) ys := VsAt.of (by rw [it.1, List.length_map, List.length_map, List.length_map]) fun i p x e1 e2 => by
    obtain ⟨n, e3, hv⟩ := it.2 i x e2
    rw [List.getElem?_map, e3] at e1
    cases e1
    exact hv
  walk_at "ex"
  refine ⟨p, textOf k, rfl, by rw [uI_textOf hd]; exact hp.kp (Kp.of s), fun x H2 s2 hx2 => ?_⟩
  walk_at "ex"
  refine ⟨two_le, fun T hT => ?_⟩
  have s3 := same_new (o := .tup [.str "key", x]) hT
  have hy3 := s3 _ _ (s2 _ _ hy)
  walk_at "ex"
  refine ⟨D, ys, rfl, hy3, fun o => ?_⟩
  walk_at "ex"
  have kF : Kp (upd H2 T (.tup [.str "key", x])) (upd (upd H2 T (.tup [.str "key", x])) D (.frz o (.lst ys))) := Kp.lst hy3
  have bF : Same H (upd (upd H2 T (.tup [.str "key", x])) D (.frz o (.lst ys))) := But.same (s.trans (s2.trans s3)) hD But.upd
  refine ⟨D, ys, ns.map R7290f.Spec.nat, rfl, ⟨o, upd_same⟩, VsAt.kp ((Kp.of (s2.trans s3)).trans kF) hns, fun x2 H3 s4 hx3 => ?_⟩
  walk_at "ex"
  refine ⟨two_le, fun T2 hT2 => ?_⟩
  have s5 := same_new (o := .tup [.str "changed", x2]) hT2
  walk_at "ex"
  refine ⟨two_le, fun L hL => ?_⟩
  have s6 := same_new (o := .lst [.ref T, .ref T2]) hL
  walk_at "ex"
  have k46 := (Kp.of (s4.trans (s5.trans s6)))
  refine ⟨L, [.ref T, .ref T2], [(units "key", keyValue k), (units "changed", nats ns)], rfl, SqL.of upd_same, rfl, (by show 2 ≤ 1000; decide), fun i x' f e1 e2 => ?_, fun y H4 s7 hy4 => q y H4 (bF.trans (s4.trans (s5.trans (s6.trans s7)))) hy4⟩
  have kT : Kp (upd H2 T (.tup [.str "key", x])) (upd (upd H3 T2 (.tup [.str "changed", x2])) L (.lst [.ref T, .ref T2])) := kF.trans k46
  match i, e1, e2 with
  | 0, e1, e2 =>
    cases e1
    cases e2
    refine ⟨T, _, x, rfl, SqT.of (kT _ _ trivial upd_same), by rw [sz_lit]; decide +kernel, cI_lit "key" (by decide +kernel), VAt.kp ((Kp.of s3).trans kT) hx2⟩
  | 1, e1, e2 =>
    cases e1
    cases e2
    refine ⟨T2, _, x2, rfl, SqT.of (s6 _ _ upd_same), by rw [sz_lit]; decide +kernel, cI_lit "changed" (by decide +kernel), VAt.kp (Kp.of (s5.trans s6)) hx3⟩
  | n + 2, e1, e2 => simp at e1

end
end OK
namespace OK
open PySem PySem.Spec PyProof.Rows L2
open R7290f.Spec (Plain Units Bound Err units beyond indexArgument rangeInt rangeIn insertKey insertedValue changedRows room keyBetween middleKey isBefore firstNumber endNumber keyOf numberOf leastDigits boundBefore boundAfter orNull)
theorem kLR : ¬ (("limit" : Str) = "row_keys") := by decide +kernel
theorem kMR : ¬ (("middle" : Str) = "row_keys") := by decide +kernel
theorem kLM : ¬ (("limit" : Str) = "middle") := by decide +kernel
theorem kBA : ¬ (("before" : Str) = "after") := by decide +kernel
theorem kBL : ¬ (("before" : Str) = "limit") := by decide +kernel
theorem kAL : ¬ (("after" : Str) = "limit") := by decide +kernel
theorem kBN : ¬ (("before" : Str) = "answered") := by decide +kernel
theorem kAN : ¬ (("after" : Str) = "answered") := by decide +kernel
theorem kLN : ¬ (("limit" : Str) = "answered") := by decide +kernel
theorem kSB : ¬ (("boards" : Str) = "games") := by decide +kernel
theorem put_nil (f : Str) (v : V) : putF f v [] = [(f, v)] := rfl
theorem put_hit {f : Str} {v x : V} {r : List (Str × V)} : putF f v ((f, x) :: r) = (f, v) :: r := if_pos rfl
theorem put_miss {f g : Str} {v x : V} {r : List (Str × V)} (h : ¬ g = f) : putF f v ((g, x) :: r) = (g, x) :: putF f v r := if_neg h
theorem put_row {lim : Nat} {mid : Bool} {l l' : Addr} : putF "row_keys" (.ref l') (bdF lim mid l) = bdF lim mid l' := by
  unfold bdF
  rw [put_miss kLR, put_miss kMR, put_hit]
theorem put_before {x y x' : V} {lim n : Nat} : putF "before" x' (gmF x y lim n) = gmF x' y lim n := put_hit
theorem put_after {x y y' : V} {lim n : Nat} : putF "after" y' (gmF x y lim n) = gmF x y' lim n := by
  unfold gmF
  rw [put_miss kBA, put_hit]
theorem put_answered {x y : V} {lim n : Nat} {m : Nat} : putF "answered" (.int (m : Int)) (gmF x y lim n) = gmF x y lim m := by
  unfold gmF
  rw [put_miss kBN, put_miss kAN, put_miss kLN, put_hit]
theorem look_hit {f : Str} {x : V} {r : List (Str × V)} : ((f, x) :: r).lookup f = some x := by simp
theorem look_miss {f g : Str} {x : V} {r : List (Str × V)} (h : ¬ g = f) : ((g, x) :: r).lookup f = r.lookup f := by
  rw [List.lookup_cons]
  have : (f == g) = false := by simpa using fun e => h e.symm
  rw [this]
theorem bd_lim {lim : Nat} {mid : Bool} {l : Addr} : (bdF lim mid l).lookup ("limit" : Str) = some (V.int lim) := look_hit
theorem bd_mid {lim : Nat} {mid : Bool} {l : Addr} : (bdF lim mid l).lookup ("middle" : Str) = some (V.bl mid) := (look_miss kLM).trans look_hit
theorem bd_row {lim : Nat} {mid : Bool} {l : Addr} : (bdF lim mid l).lookup ("row_keys" : Str) = some (V.ref l) := (look_miss kLR).trans ((look_miss kMR).trans look_hit)
theorem gm_bef {x y : V} {lim n : Nat} : (gmF x y lim n).lookup ("before" : Str) = some x := look_hit
theorem gm_aft {x y : V} {lim n : Nat} : (gmF x y lim n).lookup ("after" : Str) = some y := (look_miss kBA).trans look_hit
theorem gm_lim {x y : V} {lim n : Nat} : (gmF x y lim n).lookup ("limit" : Str) = some (V.int lim) := (look_miss kBL).trans ((look_miss kAL).trans look_hit)
theorem gm_ans {x y : V} {lim n : Nat} : (gmF x y lim n).lookup ("answered" : Str) = some (V.int n) := (look_miss kBN).trans ((look_miss kAN).trans ((look_miss kLN).trans look_hit))
theorem sl_bds {lb lg : Addr} : (slF lb lg).lookup ("boards" : Str) = some (V.ref lb) := look_hit
theorem sl_gms {lb lg : Addr} : (slF lb lg).lookup ("games" : Str) = some (V.ref lg) := (look_miss kSB).trans look_hit
/-! #### the middle key stands between -/
theorem middle_ok {n : Nat} {a b : Bound} (ha : BOk a) (hb : BOk b) (hn : n ≤ 20) (hr : 1 ≤ room n a b) : KeyOk (middleKey n a b) ∧ (middleKey n a b).length ≤ n ∧ Ord a (some (middleKey n a b)) ∧ Ord (some (middleKey n a b)) b := by
  have hlt := middle_lt (a := a) hb.dig hr
  have f1 := (first_le n ha.dig).1
  have hnum : numberOf n (middleKey n a b) = firstNumber n a + (room n a b - 1) / 2 := keyOf_num hlt
  have ok : KeyOk (middleKey n a b) := ⟨keyOf_dig hlt, keyOf_ne hlt (by omega), keyOf_last _ _, Nat.le_trans (keyOf_len _ _) hn⟩
  refine ⟨ok, keyOf_len _ _, ?_, ?_⟩
  · cases a with
    | none => exact Ord_none_l _
    | some k =>
      show isBefore k _ = true
      rw [before_num n (ha k rfl).dig ok.dig ok.last (keyOf_len _ _), hnum, decide_eq_true_eq]
      show numberOf n k < numberOf n k + 1 + _
      omega
  · cases b with
    | none => exact Ord_none_r _
    | some k =>
      show isBefore _ k = true
      rw [before_end n ok.dig (hb k rfl).dig (hb k rfl).last (keyOf_len _ _), hnum, decide_eq_true_eq]
      have hR : room n a (some k) = endNumber n (some k) - firstNumber n a := rfl
      omega
theorem ins_get {α : Type} (l : List α) {p : Nat} (hp : p ≤ l.length) (x : α) (i : Nat) : (l.take p ++ x :: l.drop p)[i]? = if i < p then l[i]? else if i = p then some x else l[i - 1]? := by
  by_cases h : i < p
  · rw [if_pos h, List.getElem?_append_left (by rw [List.length_take]; omega), List.getElem?_take, if_pos h]
  · rw [if_neg h, List.getElem?_append_right (by rw [List.length_take]; omega), List.length_take, Nat.min_eq_left hp]
    by_cases h2 : i = p
    · rw [if_pos h2, h2, Nat.sub_self]
      rfl
    · rw [if_neg h2]
      obtain ⟨m, hm⟩ : ∃ m, i - p = m + 1 := ⟨i - p - 1, by omega⟩
      rw [hm, List.getElem?_cons_succ, List.getElem?_drop]
      congr 1
      omega
theorem insertKey_ok {lim : Nat} {mid : Bool} {ks : List (List Nat)} {i : Nat} (hk : KLim lim ks) (ha : AscB none ks) (hi : i ≤ ks.length) (hl : lim ≤ 20) (hz : ks.length ≤ 100) (hroom : ks.length + 1 < 36 ^ lim) :
    KLim lim (insertKey ⟨lim, mid, ks⟩ i) ∧ AscB none (insertKey ⟨lim, mid, ks⟩ i) ∧ (insertKey ⟨lim, mid, ks⟩ i).length = ks.length + 1 := by
  have ob := hk.bb i
  have oa := hk.ba i
  have oo := asc_ord ha i
  have eins : insertKey ⟨lim, mid, ks⟩ i = if room lim (boundBefore ks i) (boundAfter ks i) = 0 then R7290f.Spec.rekeyed lim (rowsAt ks i) else ks.take i ++ (if mid = true then middleKey lim (boundBefore ks i) (boundAfter ks i) else keyBetween (boundBefore ks i) (boundAfter ks i)) :: ks.drop i := rfl
  have hrl : (rowsAt ks i).length = ks.length + 1 := by
    unfold rowsAt
    rw [List.length_append, List.length_cons, List.length_map, List.length_map, List.length_take, List.length_drop]
    omega
  rw [eins]
  by_cases c : room lim (boundBefore ks i) (boundAfter ks i) = 0
  · rw [if_pos c]
    obtain ⟨h1, h2, h3⟩ := rekeyed_ok (lim := lim) (rows := rowsAt ks i) hl (by omega) (by omega) fun k hm => by
      unfold rowsAt at hm
      rcases List.mem_append.mp hm with e | e
      · obtain ⟨k', hk', e2⟩ := List.mem_map.mp e
        cases e2
        exact (hk k (List.mem_of_mem_take hk')).1
      · rcases List.mem_cons.mp e with e | e
        · cases e
        · obtain ⟨k', hk', e2⟩ := List.mem_map.mp e
          cases e2
          exact (hk k (List.mem_of_mem_drop hk')).1
    exact ⟨h1, h2, by rw [h3, hrl]⟩
  · rw [if_neg c]
    obtain ⟨g1, g2, g3, g4⟩ : KeyOk (if mid = true then middleKey lim (boundBefore ks i) (boundAfter ks i) else keyBetween (boundBefore ks i) (boundAfter ks i)) ∧ (if mid = true then middleKey lim (boundBefore ks i) (boundAfter ks i) else keyBetween (boundBefore ks i) (boundAfter ks i)).length ≤ lim ∧
        Ord (boundBefore ks i) (some (if mid = true then middleKey lim (boundBefore ks i) (boundAfter ks i) else keyBetween (boundBefore ks i) (boundAfter ks i))) ∧ Ord (some (if mid = true then middleKey lim (boundBefore ks i) (boundAfter ks i) else keyBetween (boundBefore ks i) (boundAfter ks i))) (boundAfter ks i) := by
      cases mid with
      | true => exact middle_ok ob oa hl (by omega)
      | false =>
        have hlim : 1 ≤ lim := by
          by_cases h : lim = 0
          · subst h
            rw [room_zero ob oa] at c
            exact absurd rfl c
          · omega
        obtain ⟨e1, e2, e3, e4, e5⟩ := least_spec (m := 1) ob oa oo (Nat.le_refl _) (by decide)
        have e6 := e5 lim hlim (by omega)
        have ek : keyBetween (boundBefore ks i) (boundAfter ks i) = middleKey (LL (boundBefore ks i) (boundAfter ks i) 1) (boundBefore ks i) (boundAfter ks i) := by
          unfold R7290f.Spec.keyBetween
          rw [e1]
        obtain ⟨m1, m2, m3, m4⟩ := middle_ok ob oa (Nat.le_trans e6 hl) e4
        show KeyOk (keyBetween _ _) ∧ (keyBetween _ _).length ≤ lim ∧ Ord _ (some (keyBetween _ _)) ∧ Ord (some (keyBetween _ _)) _
        rw [ek]
        exact ⟨m1, Nat.le_trans m2 e6, m3, m4⟩
    revert g1 g2 g3 g4
    generalize (if mid = true then middleKey lim (boundBefore ks i) (boundAfter ks i) else keyBetween (boundBefore ks i) (boundAfter ks i)) = k
    intro g1 g2 g3 g4
    refine ⟨fun x hx => ?_, ascB_of _ _ (fun x _ => Ord_none_l _) fun j x y hx hy => ?_, by rw [List.length_append, List.length_cons, List.length_take, List.length_drop]; omega⟩
    · rcases List.mem_append.mp hx with e | e
      · exact hk x (List.mem_of_mem_take e)
      · rcases List.mem_cons.mp e with e | e
        · rw [e]
          exact ⟨g1, g2⟩
        · exact hk x (List.mem_of_mem_drop e)
    · rw [ins_get ks hi] at hx hy
      by_cases c1 : j + 1 < i
      · rw [if_pos (by omega)] at hx
        rw [if_pos c1] at hy
        exact ascB_get ks none ha j x y hx hy
      · rw [if_neg c1] at hy
        by_cases c2 : j + 1 = i
        · rw [if_pos (by omega)] at hx
          rw [if_pos c2] at hy
          cases hy
          have : boundBefore ks i = some x := by
            unfold R7290f.Spec.boundBefore
            rw [if_neg (by omega)]
            have : i - 1 = j := by omega
            rw [this]
            exact hx
          rw [this] at g3
          exact g3
        · rw [if_neg c2, Nat.add_sub_cancel] at hy
          rw [if_neg (by omega)] at hx
          by_cases c3 : j = i
          · rw [if_pos c3] at hx
            cases hx
            subst c3
            have : boundAfter ks j = some y := hy
            rw [this] at g4
            exact g4
          · rw [if_neg c3] at hx
            obtain ⟨m, rfl⟩ : ∃ m, j = m + 1 := ⟨j - 1, by omega⟩
            exact ascB_get ks none ha m x y hx hy
/-! Board.__init__ -/
abbrev s_Board_init : Stmt := inClass (top 72) 0
abbrev N_Board_init : List Str := ["self", "limit", "middle"]
theorem sc_Board_init : FnScope N_Board_init ["self", "limit", "middle"] (defScope s_Board_init) := ⟨rfl, rfl, rfl, by decide +kernel, rfl, by decide +kernel, by decide +kernel⟩
def sp_Board_init (z : Ads) (_ : PySem.W.Frag) : Sp := fun vs H Q _ => ∃ (x dx : Addr) (lim : Nat) (m : Bool), vs = [.ref x, .int lim, .bl m] ∧ H x = some (.ins z.cB dx []) ∧ ∀ H' l, But x H H' → H' x = some (.ins z.cB dx (bdF lim m l)) → Lf H' l [] → Q .non H'
section
variable {P : Program} {w : World} {K : PySem.W.Frag} {mg : Str → Option Value} {base : Heap}
theorem cm_Board {z : Ads} (F : Dm K z.cB "Board.__init__" s_Board_init ["self", "limit", "middle"]) (T : Gb K mg z) : Cm P w K mg base 1 z.cB (sp_Board_init z K) := by
  refine cm_mk F sc_Board_init (fun vs H Q E h => by
    obtain ⟨_, _, _, _, rfl, _⟩ := h
    rfl
    ) (fun f cdv A outer s H vs Q E hr h => ?_)
  refine ⟨_, pss_cons (ps_fld (pv 0) (pv 1) rfl) (pss_cons (ps_fld (pv 0) (pv 2) rfl) (pss_one (ps_fld (pv 0) (pe_fz (pe_lst pa_nil)) rfl))), ?_⟩
  obtain ⟨x, dx, lim, m, rfl, hx, q⟩ := h
  walk_at "ex"
  refine ⟨x, z.cB, dx, _, rfl, hx, T.clB, T.nBl, by decide, ?_⟩
  walk_at "ex"
  refine ⟨x, z.cB, dx, _, rfl, upd_same, T.clB, T.nBm, by show 1 < 1000; decide, ?_⟩
  walk_at "ex"
  refine ⟨Nat.zero_le _, fun l hl => ⟨l, [], rfl, upd_same, fun o => ?_⟩⟩
  have nl : l ≠ x := fun e => by
    rw [e, upd_same] at hl
    cases hl
  walk_at "ex"
  refine ⟨x, z.cB, dx, _, rfl, (upd_ne (Ne.symm nl)).trans ((upd_ne (Ne.symm nl)).trans upd_same), T.clB, T.nBr, ?_, ?_⟩
  · rw [put_nil, put_miss kLM, put_nil]
    show 2 < 1000
    decide
  refine q _ l (fun b o nb hb => ?_) ?_ ⟨o, (upd_ne nl).trans upd_same⟩
  · have nb2 : b ≠ l := fun e => by
      rw [e] at hb nb
      rw [upd_ne nb, upd_ne nb, hb] at hl
      cases hl
    rw [upd_ne nb, upd_ne nb2, upd_ne nb2, upd_ne nb, upd_ne nb]
    exact hb
  · rw [upd_same, put_nil, put_miss kLM, put_nil, put_miss kLR, put_miss kMR, put_nil]
end
/-! Game.__init__ -/
abbrev s_Game_init : Stmt := inClass (top 84) 0
abbrev N_Game_init : List Str := ["self", "before", "after", "limit"]
theorem sc_Game_init : FnScope N_Game_init ["self", "before", "after", "limit"] (defScope s_Game_init) := ⟨rfl, rfl, rfl, by decide +kernel, rfl, by decide +kernel, by decide +kernel⟩
def sp_Game_init (z : Ads) (_ : PySem.W.Frag) : Sp := fun vs H Q _ => ∃ (x dx : Addr) (b a : V) (lim : Nat), vs = [.ref x, b, a, .int lim] ∧ H x = some (.ins z.cG dx []) ∧ ∀ H', But x H H' → H' x = some (.ins z.cG dx (gmF b a lim 0)) → Q .non H'
section
variable {P : Program} {w : World} {K : PySem.W.Frag} {mg : Str → Option Value} {base : Heap}
theorem cm_Game {z : Ads} (F : Dm K z.cG "Game.__init__" s_Game_init ["self", "before", "after", "limit"]) (T : Gb K mg z) : Cm P w K mg base 1 z.cG (sp_Game_init z K) := by
  refine cm_mk F sc_Game_init (fun vs H Q E h => by
    obtain ⟨_, _, _, _, _, rfl, _⟩ := h
    rfl
    ) (fun f cdv A outer s H vs Q E hr h => ?_)
  refine ⟨_, pss_cons (ps_fld (pv 0) (pv 1) rfl) (pss_cons (ps_fld (pv 0) (pv 2) rfl) (pss_cons (ps_fld (pv 0) (pv 3) rfl) (pss_one (ps_fld (pv 0) pe_int rfl)))), ?_⟩
  obtain ⟨x, dx, b, a, lim, rfl, hx, q⟩ := h
  walk_at "ex"
  refine ⟨x, z.cG, dx, _, rfl, hx, T.clG, T.nGb, by decide, ?_⟩
  walk_at "ex"
  refine ⟨x, z.cG, dx, _, rfl, upd_same, T.clG, T.nGa, by show 1 < 1000; decide, ?_⟩
  walk_at "ex"
  refine ⟨x, z.cG, dx, _, rfl, upd_same, T.clG, T.nGl, by rw [put_nil, put_miss kBA, put_nil]; show 2 < 1000; decide, ?_⟩
  walk_at "ex"
  refine ⟨x, z.cG, dx, _, rfl, upd_same, T.clG, T.nGn, by rw [put_nil, put_miss kBA, put_nil, put_miss kBL, put_miss kAL, put_nil]; show 3 < 1000; decide, ?_⟩
  refine q _ (But.trans But.upd (But.trans But.upd (But.trans But.upd But.upd))) ?_
  rw [upd_same, put_nil, put_miss kBA, put_nil, put_miss kBL, put_miss kAL, put_nil, put_miss kBN, put_miss kAN, put_miss kLN, put_nil]
  rfl
end
/-! Slots.__init__ -/
abbrev s_Slots_init : Stmt := inClass (top 108) 0
abbrev N_Slots_init : List Str := ["self"]
theorem sc_Slots_init : FnScope N_Slots_init ["self"] (defScope s_Slots_init) := ⟨rfl, rfl, rfl, by decide +kernel, rfl, by decide +kernel, by decide +kernel⟩
def sp_Slots_init (z : Ads) (_ : PySem.W.Frag) : Sp := fun vs H Q _ => ∃ (x dx : Addr), vs = [.ref x] ∧ H x = some (.ins z.cS dx []) ∧ ∀ H' lb lg, But x H H' → H' x = some (.ins z.cS dx (slF lb lg)) → H' lb = some (.lst [.non, .non]) → H' lg = some (.lst [.non, .non]) → lb ≠ lg → Q .non H'
section
variable {P : Program} {w : World} {K : PySem.W.Frag} {mg : Str → Option Value} {base : Heap}
theorem cm_Slots {z : Ads} (F : Dm K z.cS "Slots.__init__" s_Slots_init ["self"]) (T : Gb K mg z) : Cm P w K mg base 1 z.cS (sp_Slots_init z K) := by
  refine cm_mk F sc_Slots_init (fun vs H Q E h => by
    obtain ⟨_, _, rfl, _⟩ := h
    rfl
    ) (fun f cdv A outer s H vs Q E hr h => ?_)
  refine ⟨_, pss_cons (ps_fld (pv 0) (pe_lst (pa_cons pe_non (pa_cons pe_non pa_nil))) rfl) (pss_one (ps_fld (pv 0) (pe_lst (pa_cons pe_non (pa_cons pe_non pa_nil))) rfl)), ?_⟩
  obtain ⟨x, dx, rfl, hx, q⟩ := h
  walk_at "ex"
  refine ⟨two_le, fun lb hlb => ?_⟩
  have n1 : x ≠ lb := fun e => by
    rw [← e, hx] at hlb
    cases hlb
  walk_at "ex"
  refine ⟨x, z.cS, dx, _, rfl, (upd_ne n1).trans hx, T.clS, T.nSb, by decide, ?_⟩
  walk_at "ex"
  refine ⟨two_le, fun lg hlg => ?_⟩
  have n2 : x ≠ lg := fun e => by
    rw [← e, upd_same] at hlg
    cases hlg
  have n3 : lb ≠ lg := fun e => by
    rw [← e, upd_ne (Ne.symm n1), upd_same] at hlg
    cases hlg
  walk_at "ex"
  refine ⟨x, z.cS, dx, _, rfl, (upd_ne n2).trans upd_same, T.clS, T.nSg, by show 1 < 1000; decide, ?_⟩
  refine q _ lb lg (fun b o nb hb => ?_) ?_ ?_ ?_ n3
  · have nb2 : b ≠ lb := fun e => by
      rw [e, hlb] at hb
      cases hb
    have nb3 : b ≠ lg := fun e => by
      rw [← e, upd_ne nb, upd_ne nb2, hb] at hlg
      cases hlg
    rw [upd_ne nb, upd_ne nb3, upd_ne nb, upd_ne nb2]
    exact hb
  · rw [upd_same, put_nil, put_miss kSB, put_nil]
  · rw [upd_ne (Ne.symm n1), upd_ne n3, upd_ne (Ne.symm n1), upd_same]
  · rw [upd_ne (Ne.symm n2), upd_same]

end
end OK
namespace OK
open PySem PySem.Spec PyProof.Rows L2
open R7290f.Spec (Plain Units Bound Err units beyond indexArgument rangeInt rangeIn insertKey insertedValue changedRows orNull keyValue)
theorem index_none {name : String} {n : Nat} {p : Plain} (hn : n ≤ 61) (h : rangeInt 0 ((n : Int) - 1) p = none) : indexArgument name n p = .error (beyond ("unknown " ++ name)) := by
  unfold indexArgument
  cases e : rangeIn 0 R7290f.Spec.maxRows p with
  | none => rfl
  | some i =>
    dsimp only
    by_cases c : i < n
    · exfalso
      unfold rangeIn at e
      cases e2 : rangeInt (Int.ofNat 0) (Int.ofNat R7290f.Spec.maxRows) p with
      | none => rw [e2] at e; cases e
      | some j =>
        rw [e2] at e
        cases e
        cases p with
        | num x =>
          have a1 : rangeInt (Int.ofNat 0) (Int.ofNat R7290f.Spec.maxRows) (.num x) = (R7290f.Spec.whole (.num x)).bind fun i => if Int.ofNat 0 ≤ i ∧ i ≤ Int.ofNat R7290f.Spec.maxRows then some i else none := rfl
          have a2 : rangeInt 0 ((n : Int) - 1) (.num x) = (R7290f.Spec.whole (.num x)).bind fun i => if 0 ≤ i ∧ i ≤ (n : Int) - 1 then some i else none := rfl
          cases e3 : R7290f.Spec.whole (.num x) with
          | none => rw [a1, e3] at e2; cases e2
          | some k =>
            rw [a1, e3] at e2
            rw [a2, e3] at h
            have e2' : (if Int.ofNat 0 ≤ k ∧ k ≤ Int.ofNat R7290f.Spec.maxRows then some k else none) = some j := e2
            have h' : (if 0 ≤ k ∧ k ≤ (n : Int) - 1 then some k else none) = none := h
            split at e2'
            · rename_i hc
              cases e2'
              split at h'
              · cases h'
              · rename_i hd
                have : (Int.ofNat 0 : Int) = 0 := rfl
                rw [this] at hc
                exact hd ⟨hc.1, by omega⟩
            · cases e2'
        | _ => cases e2
    · rw [if_neg c]
      rfl
theorem index_some {name : String} {n : Nat} {p : Plain} {j : Int} (hn : n ≤ 61) (h : rangeInt 0 ((n : Int) - 1) p = some j) : ∃ i : Nat, j = (i : Int) ∧ i < n ∧ indexArgument name n p = .ok i ∧ ∀ x, p = .num x → x = some j ∨ x = none := by
  cases p with
  | num x =>
    have a2 : rangeInt 0 ((n : Int) - 1) (.num x) = (R7290f.Spec.whole (.num x)).bind fun i => if 0 ≤ i ∧ i ≤ (n : Int) - 1 then some i else none := rfl
    cases x with
    | none =>
      have e3 : R7290f.Spec.whole (.num none) = none := rfl
      rw [a2, e3] at h
      cases h
    | some k =>
      have e3 : R7290f.Spec.whole (.num (some k)) = some k := rfl
      rw [a2, e3] at h
      have h' : (if 0 ≤ k ∧ k ≤ (n : Int) - 1 then some k else none) = some j := h
      split at h'
      · rename_i hc
        cases h'
        obtain ⟨i, rfl⟩ : ∃ i : Nat, j = (i : Int) := ⟨j.toNat, by omega⟩
        refine ⟨i, rfl, by omega, ?_, fun x hx => by cases hx; exact .inl rfl⟩
        have e4 : rangeIn 0 R7290f.Spec.maxRows (.num (some (i : Int))) = some i := by
          unfold rangeIn
          have a1 : rangeInt (Int.ofNat 0) (Int.ofNat R7290f.Spec.maxRows) (.num (some (i : Int))) = if Int.ofNat 0 ≤ (i : Int) ∧ (i : Int) ≤ Int.ofNat R7290f.Spec.maxRows then some (i : Int) else none := rfl
          rw [a1, if_pos ⟨Int.natCast_nonneg _, by show (i : Int) ≤ ((60 : Nat) : Int); omega⟩]
          rfl
        unfold indexArgument
        rw [e4]
        dsimp only
        rw [if_pos (by omega)]
      · cases h'
  | _ => cases h
/-! row_index -/
abbrev s_row_index : Stmt := top 80
abbrev N_row_index : List Str := ["board", "value", "words"]
theorem sc_row_index : FnScope N_row_index ["board", "value", "words"] (defScope s_row_index) := ⟨rfl, rfl, rfl, by decide +kernel, rfl, by decide +kernel, by decide +kernel⟩
def sp_row_index (z : Ads) (K : PySem.W.Frag) : Sp := fun vs H Q E => ∃ (a v : V) (b : R7290f.Spec.Board) (p : Plain) (w : Str) (name : String), vs = [a, v, .str w] ∧ BdAt z H a b ∧ b.keys.length ≤ 60 ∧ VAt K H p v ∧ cI w = uM ("unknown " ++ name) ∧ w.cps.size ≤ 100 ∧
  (∀ n : Nat, n < b.keys.length → indexArgument name b.keys.length p = .ok n → Q (.int n) H) ∧ ∀ e, indexArgument name b.keys.length p = .error e → Er z H E e
section
variable {P : Program} {w : World} {K : PySem.W.Frag} {mg : Str → Option Value} {base : Heap}
theorem ca_row_index (F : Df K mg "row_index" s_row_index ["board", "value", "words"]) {z : Ads} (T : Gb K mg z)  (c_is_integer : Ca P w K mg base 1 "is_integer" (sp_is_integer K)) : Ca P w K mg base 2 "row_index" (sp_row_index z K) := by
  refine ca_mk F sc_row_index (fun vs H Q E h => by
    obtain ⟨_, _, _, _, _, _, rfl, _⟩ := h
    rfl
    ) (fun f cdv A outer s H vs Q E hr h => ?_)
  refine ⟨_, pss_cons (ps_if (pt_not (pt_val (pe_ca c_is_integer hr (by first | decide | omega) passN (pa_cons (pv 1) (pa_cons pe_int (pa_cons (pe_op op_sub (pe_len T.len (pe_fld (pv 0) rfl)) pe_int) pa_nil)))))) (pss_one (ps_raiseM rfl rz (by exact (pmk_msg PySem.F.excBase_Exception T.xOutOfRange T.gOutOfRange T.kOutOfRange (raises_own T.bOutOfRange T.tOutOfRange) (pv 2))))) pss_nil) (pss_one (ps_ret (pe_ix ix_tup (pv 1) pe_int (fun _ _ => rfl)))), ?_⟩
  obtain ⟨_, v, b, p, w, name, rfl, ⟨a, dx, l, xs, rfl, ha, hl, hk⟩, hz, hv, hw, hwz, q, qe⟩ := h
  have hlq : SqL K H l xs := hl.l
  walk_at "ex"
  refine x_fl1 ha T.clB T.nBr bd_row ?_
  walk_at "ex"
  have hx := hk.1
  rw [hx]
  refine ⟨v, p, 0, _, rfl, hv, ?_⟩
  walk_at "ex"
  cases e : rangeInt 0 ((b.keys.length : Int) - 1) p with
  | none =>
    refine ite_t rfl ?_
    walk_at "ex"
    exact ⟨w, rfl, fun t ht => qe _ (index_none (by omega) e) t _ _ (same_new ht) upd_same hw (by omega)⟩
  | some j =>
    obtain ⟨i, rfl, hi, hok, hp⟩ := index_some (name := name) (by omega) e
    refine ite_f Bool.false_ne_true ?_
    obtain ⟨x, rfl⟩ : ∃ x, p = .num x := by
      cases p with
      | num x => exact ⟨x, rfl⟩
      | _ => cases e
    obtain ⟨k, rfl, t, rfl, ht⟩ := hv
    rcases hp _ rfl with e2 | e2
    · cases e2
      walk_at "ex"
      exact q i hi hok
    · cases e2
end
/-! insert_into -/
abbrev s_insert_into : Stmt := top 78
abbrev N_insert_into : List Str := ["board", "keys", "place", "new"]
theorem sc_insert_into : FnScope N_insert_into ["board", "keys", "place"] (defScope s_insert_into) := ⟨rfl, rfl, rfl, by decide +kernel, rfl, by decide +kernel, by decide +kernel⟩
def sp_insert_into (z : Ads) (K : PySem.W.Frag) : Sp := fun vs H Q _ => ∃ (s dx lb lg : Addr) (w : R7290f.Spec.World) (vb vg : List V) (j : Nat) (a kl : Addr) (b : R7290f.Spec.Board) (xs : List V) (ks : List (List Nat)) (i : Nat), vs = [.ref a, .ref kl, .int i] ∧ Wd z s dx lb lg H w vb vg ∧ vb[j]? = some (.ref a) ∧ w.boards[j]? = some (some b) ∧
  SqL K H kl xs ∧ KL H xs ks ∧ KLim b.limit ks ∧ AscB none ks ∧ i ≤ ks.length ∧ ks.length ≤ 59 ∧ ks.length + 1 < 36 ^ b.limit ∧
  ∀ v H', KpL lb lg H H' → Wd z s dx lb lg H' (R7290f.Spec.setBoard w j { b with keys := insertKey ⟨b.limit, b.middle, ks⟩ i }) vb vg → VAt K H' (insertedValue ks i (insertKey ⟨b.limit, b.middle, ks⟩ i)) v → Q v H'
section
variable {P : Program} {w : World} {K : PySem.W.Frag} {mg : Str → Option Value} {base : Heap}
theorem ca_insert_into (F : Df K mg "insert_into" s_insert_into ["board", "keys", "place"]) {z : Ads} (T : Gb K mg z)  (c_insertion_value : Ca P w K mg base 3 "insertion_value" (sp_insertion_value K)) (c_changed_rows : Ca P w K mg base 1 "changed_rows" (sp_changed_rows K)) (c_keys_with_one_more : Ca P w K mg base 8 "keys_with_one_more" (sp_keys_with_one_more K)) : Ca P w K mg base 9 "insert_into" (sp_insert_into z K) := by
  refine ca_mk F sc_insert_into (fun vs H Q E h => by
    obtain ⟨_, _, _, _, _, _, _, _, _, _, _, _, _, _, rfl, _⟩ := h
    rfl
    ) (fun f cdv A outer s H vs Q E hr h => ?_)
  refine ⟨_, pss_cons (ps_set (i := 3) sc_insert_into.nd rfl (Or.inl rfl) (pe_ca c_keys_with_one_more hr (by first | decide | omega) passN (pa_cons (pv 1) (pa_cons (pv 2) (pa_cons (pe_fld (pv 0) rfl) (pa_cons (pe_fld (pv 0) rfl) pa_nil)))))) (pss_cons (ps_fld (pv 0) (pe_fz (pv 3)) rfl) (pss_one (ps_ret (pe_ca c_insertion_value hr (by first | decide | omega) passN (pa_cons (pe_ix ix_list (pv 3) (pv 2) (fun _ _ => rfl)) (pa_cons (pe_ca c_changed_rows hr (by first | decide | omega) passN (pa_cons (pv 1) (pa_cons (pv 3) (pa_cons (pv 2) pa_nil)))) pa_nil)))))), ?_⟩
  obtain ⟨s, dx, lb, lg, w, vb, vg, j, a, kl, b, xs, ks, i, rfl, W, hvb, hwb, hl, hk, hkl, hasc, hi, hz, hroom, q⟩ := h
  obtain ⟨a', dy, l0, xs0, ea, ha, hl0, hk0⟩ := (show BdAt z H (.ref a) b from W.bd j _ (some b) hvb hwb)
  cases ea
  have bok := W.okb b (List.mem_of_getElem? hwb)
  obtain ⟨n1, n2, n3⟩ := insertKey_ok (mid := b.middle) hkl hasc hi (by have := bok.l8; omega) (by omega) hroom
  walk_at "ex"
  refine x_fl1 ha T.clB T.nBl bd_lim ?_
  walk_at "ex"
  refine x_fl1 ha T.clB T.nBm bd_mid ?_
  walk_at "ex"
  refine ⟨kl, xs, ks, i, b.limit, b.middle, rfl, hl, hk, hkl, hasc, hi, by have := bok.l8; omega, by omega, hroom, fun D H1 ys hD s1 hy hkn => ?_⟩
  walk_at "ex"
  refine ⟨D, ys, rfl, hy, fun o => ?_⟩
  walk_at "ex"
  have nD : a ≠ D := fun e => by
    rw [e] at ha
    rw [ha] at hD
    cases hD
  have sF : Same H (upd H1 D (.frz o (.lst ys))) := But.same s1 hD But.upd
  have kF : Kp H1 (upd H1 D (.frz o (.lst ys))) := Kp.lst hy
  have ha2 := sF _ _ ha
  have W2 := W.same sF
  refine ⟨a, z.cB, dy, _, rfl, ha2, T.clB, T.nBr, by show 3 < 1000; decide, ?_⟩
  rw [put_row]
  have hlD : Lf (upd H1 D (.frz o (.lst ys))) D ys := ⟨o, upd_same⟩
  have W3 := W2.board (ks := insertKey ⟨b.limit, b.middle, ks⟩ i) hvb hwb ha2 hlD (hkn.kp kF) ⟨bok.l1, bok.l8, n1, n2, by show (insertKey ⟨b.limit, b.middle, ks⟩ i).length ≤ 60; omega, by show (insertKey ⟨b.limit, b.middle, ks⟩ i).length < 36 ^ b.limit; omega⟩
  have k3 : KpL lb lg H (upd (upd H1 D (.frz o (.lst ys))) a (.ins z.cB dy (bdF b.limit b.middle D))) := (KpL.of sF).trans (KpL.ins ha2)
  have kk : Kp (upd H1 D (.frz o (.lst ys))) (upd (upd H1 D (.frz o (.lst ys))) a (.ins z.cB dy (bdF b.limit b.middle D))) := Kp.mut ha2 fun z => z
  have hlD3 := hlD.kp kk
  have hkn3 := hkn.kp (kF.trans kk)
  have hl3 : SqL K (upd (upd H1 D (.frz o (.lst ys))) a (.ins z.cB dy (bdF b.limit b.middle D))) kl xs := by
    have h2 := sqL_same sF hl
    exact sqL_ins ha2 h2
  have hkn' : KL (upd (upd H1 D (.frz o (.lst ys))) a (.ins z.cB dy (bdF b.limit b.middle D))) xs ks := hk.kp k3.1
  obtain ⟨v, hv, hvk⟩ := hkn3.get (i := i) (by omega)
  walk_at "ex"
  refine x_ixL hlD3.l (atI_nat hv) ?_
  walk_at "ex"
  refine ⟨kl, D, xs, ys, ks, _, i, rfl, hl3, hlD3.l, hkn', hkn3, fun k hk => (hkl k hk).1.dig, fun k hk => (n1 k hk).1.dig, n3, hi, by omega, fun C H4 hC s4 hC4 => ?_⟩
  walk_at "ex"
  refine ⟨v, C, _, changedRows ks i (insertKey ⟨b.limit, b.middle, ks⟩ i), rfl, KAt.kp hvk (Kp.of s4), (n1 _ (List.getElem_mem _)).1.dig, SqL.of hC4, ?_, fun x H5 s5 hx5 => ?_⟩
  · have : (changedRows ks i (insertKey ⟨b.limit, b.middle, ks⟩ i)).length ≤ (List.range (insertKey ⟨b.limit, b.middle, ks⟩ i).length).length := List.length_filter_le _ _
    rw [List.length_range] at this
    omega
  · refine q x H5 (k3.trans (KpL.of (s4.trans s5))) (W3.same (s4.trans s5)) ?_
    unfold R7290f.Spec.insertedValue
    rw [List.getElem?_eq_getElem (by omega)]
    exact hx5

end
end OK
namespace OK
open PySem PySem.Spec PyProof.Rows L2
open R7290f.Spec (Plain Units Bound Err units beyond wrong Call Ans perform limitArgument booleanArgument newBoardFn setBoard undef boardAt orThrow withSlot actOn insertFn moveFn removeFn indexArgument insertKey insertedValue keysValue keyValue boardState isFull removeKey record nats orNull)
/-- what a door promises -/
def DoorSp (z : Ads) (K : PySem.W.Frag) (d : Nat) : Sp := fun vs H Q E => ∃ (s g dx lb lg : Addr) (w : R7290f.Spec.World) (vb vg xs : List V) (l : List Plain) (c : Call), vs = [.ref s, .ref g] ∧ Wd z s dx lb lg H w vb vg ∧ SqL K H g xs ∧ (∀ i : Nat, i < 5 → ∃ x, xs[i]? = some x ∧ VAt K H (Rust.argAt l i) x) ∧ Rust.callOf d l = some c ∧ R7290f.Spec.input w c = true ∧
  (∀ w' p, perform w c = (w', .ret p) → ∀ v H' vb' vg', KpL lb lg H H' → Wd z s dx lb lg H' w' vb' vg' → VAt K H' p v → Q v H') ∧ (∀ w' e, perform w c = (w', .fail e) → Er z H E e)
theorem taking_some {n : Nat} {l : List Plain} {o : Option Call} {c : Call} (h : Rust.taking n l o = some c) : o = some c := by
  unfold Rust.taking at h
  split at h
  · exact h
  · cases h
theorem slotOf_some {last q : Nat} {p : Plain} (h : Rust.slotOf last p = some q) : p = .num (some ((q : Nat) : Int)) ∧ q ≤ last := by
  cases p with
  | num x =>
    cases x with
    | none => cases h
    | some k =>
      have h' : (if (decide (0 ≤ k) && Nat.ble k.toNat last) = true then some k.toNat else none) = some q := h
      split at h'
      · rename_i hc
        cases h'
        rw [Bool.and_eq_true_iff, decide_eq_true_eq] at hc
        have : k = ((k.toNat : Nat) : Int) := by omega
        exact ⟨by rw [← this], Nat.le_of_ble_eq_true hc.2⟩
      · cases h'
  | _ => cases h
theorem bind_slot {l : List Plain} {i last : Nat} {f : Nat → Option Call} {c : Call} (h : (Rust.slotAt l i last).bind f = some c) : ∃ q : Nat, Rust.argAt l i = .num (some ((q : Nat) : Int)) ∧ q ≤ last ∧ f q = some c := by
  cases e : Rust.slotAt l i last with
  | none => rw [e] at h; cases h
  | some q =>
    rw [e] at h
    obtain ⟨h1, h2⟩ := slotOf_some e
    exact ⟨q, h1, h2, h⟩
theorem getD_some {α : Type} {l : List (Option α)} {q : Nat} {b : α} (h : l.getD q none = some b) : l[q]? = some (some b) := by
  rw [List.getD_eq_getElem?_getD] at h
  cases e : l[q]? with
  | none => rw [e] at h; cases h
  | some x => rw [e] at h; rw [show x = some b from h]
theorem hasBoard_some {w : R7290f.Spec.World} {q : Nat} (h : R7290f.Spec.hasBoard w q = true) : q < 2 ∧ ∃ b, w.boards[q]? = some (some b) ∧ boardAt w q = some b := by
  unfold R7290f.Spec.hasBoard at h
  rw [Bool.and_eq_true_iff, decide_eq_true_eq] at h
  obtain ⟨h1, h2⟩ := h
  cases e : boardAt w q with
  | none => rw [e] at h2; cases h2
  | some b => exact ⟨h1, b, getD_some e, rfl⟩
theorem hasGame_some {w : R7290f.Spec.World} {q : Nat} (h : R7290f.Spec.hasGame w q = true) : q < 2 ∧ ∃ b, w.games[q]? = some (some b) ∧ R7290f.Spec.gameAt w q = some b := by
  unfold R7290f.Spec.hasGame at h
  rw [Bool.and_eq_true_iff, decide_eq_true_eq] at h
  obtain ⟨h1, h2⟩ := h
  cases e : R7290f.Spec.gameAt w q with
  | none => rw [e] at h2; cases h2
  | some b => exact ⟨h1, b, getD_some e, rfl⟩
theorem Wd.getB {z : Ads} {s dx lb lg : Addr} {H : Hp} {w : R7290f.Spec.World} {vb vg : List V} (W : Wd z s dx lb lg H w vb vg) {q : Nat} {b : R7290f.Spec.Board} (h : w.boards[q]? = some (some b)) : ∃ a, vb[q]? = some (.ref a) ∧ BdAt z H (.ref a) b ∧ BdOk b := by
  have hq : q < vb.length := by
    rw [W.n1, ← W.m1]
    exact (List.getElem?_eq_some_iff.mp h).1
  have e := List.getElem?_eq_getElem hq
  obtain ⟨a, dy, l, xs, ea, r⟩ := (show BdAt z H vb[q] b from W.bd q _ (some b) e h)
  exact ⟨a, by rw [e, ea], ⟨a, dy, l, xs, rfl, r⟩, W.okb b (List.mem_of_getElem? h)⟩
theorem Wd.getG {z : Ads} {s dx lb lg : Addr} {H : Hp} {w : R7290f.Spec.World} {vb vg : List V} (W : Wd z s dx lb lg H w vb vg) {q : Nat} {b : R7290f.Spec.Game} (h : w.games[q]? = some (some b)) : ∃ a, vg[q]? = some (.ref a) ∧ GmAt z H (.ref a) b ∧ GmOk b := by
  have hq : q < vg.length := by
    rw [W.n2, ← W.m2]
    exact (List.getElem?_eq_some_iff.mp h).1
  have e := List.getElem?_eq_getElem hq
  obtain ⟨a, dy, x, y, ea, r⟩ := (show GmAt z H vg[q] b from W.gm q _ (some b) e h)
  exact ⟨a, by rw [e, ea], ⟨a, dy, x, y, rfl, r⟩, W.okg b (List.mem_of_getElem? h)⟩
theorem x_in {K : PySem.W.Frag} {H : Hp} {Q : VK} {neg : Bool} {i : Int} {p : Addr} {xs : List V} (h : SqT K H p xs) (hf : xs.all flatV = true) (q : Q (.bl (if neg then !inV (.int i) xs else inV (.int i) xs)) H) : rIn K neg (.int i) (.ref p) H Q := ⟨p, xs, rfl, .inr h, rfl, hf, q⟩
theorem undefAt {z : Ads} {K : PySem.W.Frag} {mg : Str → Option Value} (T : Gb K mg z) (H : Hp) : VAt K H .undef (.ref z.aN) := ⟨z.aN, rfl, T.tN H⟩
abbrev sp_new_board_door (z : Ads) (K : PySem.W.Frag) : Sp := DoorSp z K 9
abbrev sp_board_keys_door (z : Ads) (K : PySem.W.Frag) : Sp := DoorSp z K 10
abbrev sp_insert_row_door (z : Ads) (K : PySem.W.Frag) : Sp := DoorSp z K 11
abbrev sp_move_row_door (z : Ads) (K : PySem.W.Frag) : Sp := DoorSp z K 12
abbrev sp_remove_row_door (z : Ads) (K : PySem.W.Frag) : Sp := DoorSp z K 13
theorem not_mem_fresh {H : Hp} {l : List V} {a : Addr} (hz : ∀ i : Nat, l[i]? = some (.ref a) → ∃ o, H a = some o) (h : H a = none) : ∀ i : Nat, l[i]? ≠ some (V.ref a) := fun i e => by
  obtain ⟨o, e2⟩ := hz i e
  rw [h] at e2
  cases e2
theorem Wd.liveB {z : Ads} {s dx lb lg : Addr} {H : Hp} {w : R7290f.Spec.World} {vb vg : List V} (W : Wd z s dx lb lg H w vb vg) {a : Addr} (i : Nat) (e : vb[i]? = some (.ref a)) : ∃ o, H a = some o := by
  have hi : i < w.boards.length := by
    rw [W.m1, ← W.n1]
    exact (List.getElem?_eq_some_iff.mp e).1
  have h := W.bd i _ w.boards[i] e (List.getElem?_eq_getElem hi)
  cases e2 : w.boards[i] with
  | none => rw [e2] at h; cases (show V.ref a = .non from h)
  | some b =>
    rw [e2] at h
    obtain ⟨a', dy, l, xs, ea, h1, _⟩ := (show BdAt z H (.ref a) b from h)
    cases ea
    exact ⟨_, h1⟩
theorem Wd.liveG {z : Ads} {s dx lb lg : Addr} {H : Hp} {w : R7290f.Spec.World} {vb vg : List V} (W : Wd z s dx lb lg H w vb vg) {a : Addr} (i : Nat) (e : vg[i]? = some (.ref a)) : ∃ o, H a = some o := by
  have hi : i < w.games.length := by
    rw [W.m2, ← W.n2]
    exact (List.getElem?_eq_some_iff.mp e).1
  have h := W.gm i _ w.games[i] e (List.getElem?_eq_getElem hi)
  cases e2 : w.games[i] with
  | none => rw [e2] at h; cases (show V.ref a = .non from h)
  | some b =>
    rw [e2] at h
    obtain ⟨a', dy, x, y, ea, h1, _⟩ := (show GmAt z H (.ref a) b from h)
    cases ea
    exact ⟨_, h1⟩
/-! new_board_door -/
abbrev s_new_board_door : Stmt := top 73
abbrev N_new_board_door : List Str := ["slots", "given", "limit"]
theorem sc_new_board_door : FnScope N_new_board_door ["slots", "given"] (defScope s_new_board_door) := ⟨rfl, rfl, rfl, by decide +kernel, rfl, by decide +kernel, by decide +kernel⟩
section
variable {P : Program} {w : World} {K : PySem.W.Frag} {mg : Str → Option Value} {base : Heap}
theorem ca_new_board_door (F : Df K mg "new_board_door" s_new_board_door ["slots", "given"]) {z : Ads} (T : Gb K mg z)  (c_limit_of : Ca P w K mg base 3 "limit_of" (sp_limit_of z K)) (cm_Board : Cm P w K mg base 1 z.cB (sp_Board_init z K)) : Ca P w K mg base 4 "new_board_door" (sp_new_board_door z K) := by
  refine ca_mk F sc_new_board_door (fun vs H Q E h => by
    obtain ⟨_, _, _, _, _, _, _, _, _, _, _, rfl, _⟩ := h
    rfl
    ) (fun f cdv A outer s H vs Q E hr h => ?_)
  refine ⟨_, pss_cons (ps_set (i := 2) sc_new_board_door.nd rfl (Or.inl rfl) (pe_ca c_limit_of hr (by first | decide | omega) rz.pass (pa_cons (pe_ix ix_list (pv 1) pe_int (fun _ _ => rfl)) pa_nil))) (pss_cons (ps_if (pt_cmpR op_notIn_seq (pe_ix ix_tup (pe_ix ix_list (pv 1) pe_int (fun _ _ => rfl)) pe_int (fun _ _ => rfl)) (pe_tup (pa_cons (pe_gk T.cFALSE_KIND) (pa_cons (pe_gk T.cTRUE_KIND) pa_nil))) rfl) (pss_one (ps_raiseM rfl rz (by exact (pmk_msg PySem.F.excBase_Exception T.xWrongKind T.gWrongKind T.kWrongKind (raises_own T.bWrongKind T.tWrongKind) pe_str)))) pss_nil) (pss_cons (ps_asg (pe_mk cm_Board T.gBoard hr (by first | decide | omega) (pa_cons (pv 2) (pa_cons (pe_cmpR op_eq (pe_ix ix_tup (pe_ix ix_list (pv 1) pe_int (fun _ _ => rfl)) pe_int (fun _ _ => rfl)) (pe_gk T.cTRUE_KIND) (nomark _)) pa_nil))) (pg_sub (pe_fld (pv 0) rfl) (pe_ix ix_tup (pe_ix ix_list (pv 1) pe_int (fun _ _ => rfl)) pe_int (fun _ _ => rfl)) set_list)) (pss_one (ps_ret (pe_gk T.cNOTHING))))), ?_⟩
  obtain ⟨sA, g, dx, lb, lg, w0, vb, vg, xs, l, c, rfl, W, hg, hx, hc, hin, q, qe⟩ := h
  obtain ⟨sl, hs1, hs2, hs3⟩ := bind_slot (taking_some (show Rust.taking 3 l ((Rust.slotAt l 0 1).bind fun s0 => some (.board1 s0 (Rust.argAt l 1) (Rust.argAt l 2))) = some c from hc))
  cases hs3
  obtain ⟨x0, e0, h0⟩ := hx 0 (by decide)
  obtain ⟨x1, e1, h1⟩ := hx 1 (by decide)
  obtain ⟨x2, e2, h2⟩ := hx 2 (by decide)
  rw [hs1] at h0
  obtain ⟨k0, ek0, t0, rfl, ht0⟩ := h0
  cases ek0
  walk_at "ex"
  refine x_ixL hg (atI_nat e1) ?_
  walk_at "ex"
  refine ⟨x1, _, rfl, h1, fun n en n1 n8 => ?_, fun e he => qe w0 e (by
    show orThrow w0 (newBoardFn _ _) _ = _
    unfold R7290f.Spec.newBoardFn
    rw [he]
    rfl)⟩
  obtain ⟨t2, y2, ex2, ht2⟩ := h2.tg
  subst ex2
  walk_at "ex"
  refine x_ixL hg (atI_nat e2) ?_
  walk_at "ex"
  refine ⟨two_le, fun TT hTT => ?_⟩
  have sT := same_new (o := .tup [.int 2, .int 3]) hTT
  refine x_in (SqT.of upd_same) rfl ?_
  have hgT := sqL_same sT hg
  have ht2T := sqT_same sT ht2
  have hnb : ∀ m, booleanArgument "middle" (Rust.argAt l 2) = .ok m → newBoardFn (Rust.argAt l 1) (Rust.argAt l 2) = .ok ⟨n, m, []⟩ := fun m hm => by
    unfold R7290f.Spec.newBoardFn
    rw [en]
    show R7290f.Spec.andThen (booleanArgument "middle" _) _ = _
    rw [hm]
    rfl
  have inV2 : inV (.int (kindOf (Rust.argAt l 2))) [.int 2, .int 3] = decide (kindOf (Rust.argAt l 2) = 2 ∨ kindOf (Rust.argAt l 2) = 3) := by
    by_cases c1 : kindOf (Rust.argAt l 2) = 2
    · rw [c1]; rfl
    · by_cases c2 : kindOf (Rust.argAt l 2) = 3
      · rw [c2]; rfl
      · rw [decide_eq_false (by omega)]
        have d1 : ¬ (2 : Int) = kindOf (Rust.argAt l 2) := fun e => c1 e.symm
        have d2 : ¬ (3 : Int) = kindOf (Rust.argAt l 2) := fun e => c2 e.symm
        simp [inV, eqV, d1, d2]
  rw [inV2]
  walk_at "ex"
  refine ite_nd (fun cc => ?_) (fun cc => ?_)
  · walk_at "ex"
    refine ⟨_, rfl, fun t ht => (qe w0 (wrong "middle must be a boolean") ?_) t _ _ (sT.trans (same_new ht)) upd_same (cI_lit "middle must be a boolean" (by decide +kernel)) (by rw [sz_lit]; decide +kernel)⟩
    show orThrow w0 (newBoardFn _ _) _ = _
    have : booleanArgument "middle" (Rust.argAt l 2) = .error (wrong "middle must be a boolean") := by
      cases e : Rust.argAt l 2 with
      | bool b => exact absurd (show kindOf (Rust.argAt l 2) = 2 ∨ kindOf (Rust.argAt l 2) = 3 by rw [e]; cases b; exact .inl rfl; exact .inr rfl) cc
      | _ => rfl
    unfold R7290f.Spec.newBoardFn
    rw [en]
    show orThrow w0 (R7290f.Spec.andThen (booleanArgument "middle" _) _) _ = _
    rw [this]
    rfl
  obtain ⟨bb, eb⟩ := kind23 cc
  have hb2 := hnb bb (by rw [eb]; rfl)
  walk_at "ex"
  refine x_ixL hgT (atI_nat e2) ?_
  walk_at "ex"
  have kb : decide (kindOf (Rust.argAt l 2) = 3) = bb := by rw [eb]; cases bb <;> rfl
  rw [kb]
  intro x dd hxn hdn hne
  have nx1 : ∀ {b o}, upd H TT (.tup [.int 2, .int 3]) b = some o → b ≠ x := fun e z => by rw [z, hxn] at e; cases e
  have nd1 : ∀ {b o}, upd H TT (.tup [.int 2, .int 3]) b = some o → b ≠ dd := fun e z => by rw [z, hdn] at e; cases e
  refine ⟨x, dd, n, bb, rfl, upd_same, fun H2 ll hbut hins hlf => ⟨rfl, ?_⟩⟩
  have sB : Same (upd H TT (.tup [.int 2, .int 3])) H2 := fun b o hb => hbut b o (nx1 hb) ((upd_ne (nx1 hb)).trans ((upd_ne (nd1 hb)).trans hb))
  have sC := sT.trans sB
  have W2 := W.same sC
  have hg2 := sqL_same sC hg
  have ht02 := sqT_same sC ht0
  walk_at "ex"
  refine x_fl1 W2.hs T.clS T.nSb sl_bds ?_
  walk_at "ex"
  refine x_ixL hg2 (atI_nat e0) ?_
  walk_at "ex"
  refine x_setL W2.hb (by rw [W2.n1]; omega) ?_
  have hfr : ∀ i : Nat, vb[i]? ≠ some (V.ref x) := not_mem_fresh (fun i e => (W.same sT).liveB i e) hxn
  have ok0 : BdOk ⟨n, bb, []⟩ := ⟨n1, n8, fun k hk => (by cases hk), trivial, Nat.zero_le _, Nat.pow_pos (by decide)⟩
  have W3 := W2.putBoard (q := sl) (by omega) (b := ⟨n, bb, []⟩) ⟨x, dd, ll, [], rfl, hins, hlf, KL.nil⟩ ok0 hfr
  walk_at "ex"
  exact q (setBoard w0 sl ⟨n, bb, []⟩) .undef (by
    show orThrow w0 (newBoardFn _ _) _ = _
    rw [hb2]
    rfl) _ _ _ _ ((KpL.of sC).trans (KpL.lst W2.hb)) W3 (undefAt T _)
end
/-! board_keys_door -/
abbrev s_board_keys_door : Stmt := top 74
abbrev N_board_keys_door : List Str := ["slots", "given", "board"]
theorem sc_board_keys_door : FnScope N_board_keys_door ["slots", "given"] (defScope s_board_keys_door) := ⟨rfl, rfl, rfl, by decide +kernel, rfl, by decide +kernel, by decide +kernel⟩
section
variable {P : Program} {w : World} {K : PySem.W.Frag} {mg : Str → Option Value} {base : Heap}
theorem ca_board_keys_door (F : Df K mg "board_keys_door" s_board_keys_door ["slots", "given"]) {z : Ads} (T : Gb K mg z)  (c_texts_value : Ca P w K mg base 1 "texts_value" (sp_texts_value K)) : Ca P w K mg base 2 "board_keys_door" (sp_board_keys_door z K) := by
  refine ca_mk F sc_board_keys_door (fun vs H Q E h => by
    obtain ⟨_, _, _, _, _, _, _, _, _, _, _, rfl, _⟩ := h
    rfl
    ) (fun f cdv A outer s H vs Q E hr h => ?_)
  refine ⟨_, pss_cons (ps_set (i := 2) sc_board_keys_door.nd rfl (Or.inl rfl) (pe_ix ix_list (pe_fld (pv 0) rfl) (pe_ix ix_tup (pe_ix ix_list (pv 1) pe_int (fun _ _ => rfl)) pe_int (fun _ _ => rfl)) (fun _ _ => rfl))) (pss_one (ps_ret (pe_ca c_texts_value hr (by first | decide | omega) passN (pa_cons (pe_listS T.list (pe_fld (pv 2) rfl)) pa_nil)))), ?_⟩
  obtain ⟨sA, g, dx, lb, lg, w0, vb, vg, xs, l, c, rfl, W, hg, hx, hc, hin, q, qe⟩ := h
  obtain ⟨sl, hs1, hs2, hs3⟩ := bind_slot (taking_some (show Rust.taking 1 l ((Rust.slotAt l 0 1).bind fun s0 => some (.boardState1 s0)) = some c from hc))
  cases hs3
  obtain ⟨hq, b, hwb, hba⟩ := hasBoard_some (show R7290f.Spec.hasBoard w0 sl = true from hin)
  obtain ⟨a, hvb, ⟨a', dy, l0, ys, ea, ha, hl0, hk0⟩, bok⟩ := W.getB hwb
  cases ea
  obtain ⟨x0, e0, h0⟩ := hx 0 (by decide)
  rw [hs1] at h0
  obtain ⟨k0, ek0, t0, rfl, ht0⟩ := h0
  cases ek0
  walk_at "ex"
  refine x_fl1 W.hs T.clS T.nSb sl_bds ?_
  walk_at "ex"
  refine x_ixL hg (atI_nat e0) ?_
  walk_at "ex"
  refine x_ixL (SqL.of W.hb) (atI_nat hvb) ?_
  walk_at "ex"
  refine x_fl1 ha T.clB T.nBr bd_row ?_
  have hlq : SqL K H l0 ys := hl0.l
  walk_at "ex"
  refine fun D hD => ?_
  have s1 := same_new (o := .lst ys) hD
  walk_at "ex"
  refine ⟨D, ys, b.keys.map R7290f.Spec.textOf, rfl, SqL.of upd_same, (hk0.kp (Kp.of s1)).ul fun k hk => (bok.ks k hk).1.dig, by rw [List.length_map]; have := bok.few; omega, fun x H2 s2 hx2 => ?_⟩
  refine q w0 (boardState b) ?_ x H2 vb vg (KpL.of (s1.trans s2)) (W.same (s1.trans s2)) ?_
  · show withSlot w0 (boardAt w0 sl) _ = _
    rw [hba]
    rfl
  · show VAt K H2 (.arr (b.keys.map keyValue)) x
    rw [List.map_map] at hx2
    exact hx2

end
end OK
namespace OK
open PySem PySem.Spec PyProof.Rows L2
open R7290f.Spec (Plain Units Bound Err units beyond wrong Call Ans perform setBoard undef boardAt orThrow withSlot actOn insertFn moveFn removeFn indexArgument insertKey insertedValue keyValue isFull removeKey record nats orNull rangeInt isBefore numberOf)
theorem before_trans {a b c : List Nat} (ha : Dig a) (hb : KeyOk b) (hc : KeyOk c) (h1 : isBefore a b = true) (h2 : isBefore b c = true) : isBefore a c = true := by
  rw [before_num 20 ha hb.dig hb.last hb.le, decide_eq_true_eq] at h1
  rw [before_num 20 hb.dig hc.dig hc.last hc.le, decide_eq_true_eq] at h2
  rw [before_num 20 ha hc.dig hc.last hc.le, decide_eq_true_eq]
  omega
theorem erase_ok {lim : Nat} {ks : List (List Nat)} (hk : KLim lim ks) (ha : AscB none ks) (i : Nat) : KLim lim (ks.eraseIdx i) ∧ AscB none (ks.eraseIdx i) := by
  refine ⟨fun k hm => hk k (List.mem_of_mem_eraseIdx hm), ascB_of _ _ (fun k _ => Ord_none_l _) fun j x y hx hy => ?_⟩
  rw [List.getElem?_eraseIdx] at hx hy
  by_cases c1 : j + 1 < i
  · rw [if_pos (by omega)] at hx
    rw [if_pos c1] at hy
    exact ascB_get ks none ha j x y hx hy
  · rw [if_neg c1] at hy
    by_cases c2 : j < i
    · rw [if_pos c2] at hx
      have hj : j + 1 < ks.length := by
        have := (List.getElem?_eq_some_iff.mp hy).1
        omega
      have em := List.getElem?_eq_getElem hj
      have b1 := ascB_get ks none ha j x _ hx em
      have b2 := ascB_get ks none ha (j + 1) _ y em hy
      exact before_trans (hk x (List.mem_of_getElem? hx)).1.dig (hk _ (List.getElem_mem hj)).1 (hk y (List.mem_of_getElem? hy)).1 b1 b2
    · rw [if_neg c2] at hx
      exact ascB_get ks none ha (j + 1) x y hx hy
theorem erase_len {α : Type} {l : List α} {i : Nat} (h : i < l.length) : (l.eraseIdx i).length = l.length - 1 := List.length_eraseIdx_of_lt h
theorem KL.erase {H : Hp} {xs : List V} {ks : List (List Nat)} (h : KL H xs ks) (i : Nat) : KL H (xs.take i ++ xs.drop (i + 1)) (ks.eraseIdx i) := by
  rw [List.eraseIdx_eq_take_drop_succ]
  exact (h.take i).append (h.drop (i + 1))
theorem set_self {w : R7290f.Spec.World} {q : Nat} {b : R7290f.Spec.Board} (h : w.boards[q]? = some (some b)) : setBoard w q b = w := by
  have : w.boards.set q (some b) = w.boards := by
    refine List.ext_getElem? fun i => ?_
    by_cases hi : i = q
    · subst hi
      rw [List.getElem?_set_self (List.getElem?_eq_some_iff.mp h).1, h]
    · rw [List.getElem?_set_ne (Ne.symm hi)]
  show ({ w with boards := w.boards.set q (some b) } : R7290f.Spec.World) = w
  rw [this]
/-! insert_row_door -/
abbrev s_insert_row_door : Stmt := top 79
abbrev N_insert_row_door : List Str := ["slots", "given", "board", "many"]
theorem sc_insert_row_door : FnScope N_insert_row_door ["slots", "given"] (defScope s_insert_row_door) := ⟨rfl, rfl, rfl, by decide +kernel, rfl, by decide +kernel, by decide +kernel⟩
section
variable {P : Program} {w : World} {K : PySem.W.Frag} {mg : Str → Option Value} {base : Heap}
theorem ca_insert_row_door (F : Df K mg "insert_row_door" s_insert_row_door ["slots", "given"]) {z : Ads} (T : Gb K mg z)  (c_insert_into : Ca P w K mg base 9 "insert_into" (sp_insert_into z K)) (c_keys_in_all : Ca P w K mg base 2 "keys_in_all" (sp_keys_in_all K)) (c_is_integer : Ca P w K mg base 1 "is_integer" (sp_is_integer K)) : Ca P w K mg base 10 "insert_row_door" (sp_insert_row_door z K) := by
  refine ca_mk F sc_insert_row_door (fun vs H Q E h => by
    obtain ⟨_, _, _, _, _, _, _, _, _, _, _, rfl, _⟩ := h
    rfl
    ) (fun f cdv A outer s H vs Q E hr h => ?_)
  refine ⟨_, pss_cons (ps_set (i := 2) sc_insert_row_door.nd rfl (Or.inl rfl) (pe_ix ix_list (pe_fld (pv 0) rfl) (pe_ix ix_tup (pe_ix ix_list (pv 1) pe_int (fun _ _ => rfl)) pe_int (fun _ _ => rfl)) (fun _ _ => rfl))) (pss_cons (ps_set (i := 3) sc_insert_row_door.nd rfl (Or.inl rfl) (pe_len T.len (pe_fld (pv 2) rfl))) (pss_cons (ps_if (pt_not (pt_val (pe_ca c_is_integer hr (by first | decide | omega) passN (pa_cons (pe_ix ix_list (pv 1) pe_int (fun _ _ => rfl)) (pa_cons pe_int (pa_cons (pv 3) pa_nil)))))) (pss_one (ps_raiseM rfl rz (by exact (pmk_msg PySem.F.excBase_Exception T.xOutOfRange T.gOutOfRange T.kOutOfRange (raises_own T.bOutOfRange T.tOutOfRange) pe_str)))) pss_nil) (pss_cons (ps_if (PW.pt (pw_or (pt_cmpR op_ge (pv 3) pe_int (nomark _)) (pw_or1 (pt_cmpR op_ge (pv 3) (pe_ca c_keys_in_all hr (by first | decide | omega) passN (pa_cons (pe_fld (pv 2) rfl) pa_nil)) (nomark _))))) (pss_one (ps_raiseM rfl rz (by exact (pmk_msg PySem.F.excBase_Exception T.xOutOfRange T.gOutOfRange T.kOutOfRange (raises_own T.bOutOfRange T.tOutOfRange) pe_str)))) pss_nil) (pss_one (ps_ret (pe_ca c_insert_into hr (by first | decide | omega) passN (pa_cons (pv 2) (pa_cons (pe_listS T.list (pe_fld (pv 2) rfl)) (pa_cons (pe_ix ix_tup (pe_ix ix_list (pv 1) pe_int (fun _ _ => rfl)) pe_int (fun _ _ => rfl)) pa_nil))))))))), ?_⟩
  obtain ⟨sA, g, dx, lb, lg, w0, vb, vg, xs, l, c, rfl, W, hg, hx, hc, hin, q, qe⟩ := h
  obtain ⟨sl, hs1, hs2, hs3⟩ := bind_slot (taking_some (show Rust.taking 2 l ((Rust.slotAt l 0 1).bind fun s0 => some (.insert1 s0 (Rust.argAt l 1))) = some c from hc))
  cases hs3
  obtain ⟨hq, b, hwb, hba⟩ := hasBoard_some (Bool.and_eq_true_iff.mp (show (R7290f.Spec.hasBoard w0 sl && R7290f.Spec.fits _) = true from hin)).1
  obtain ⟨a, hvb, ⟨a', dy, l0, ys, ea, ha, hl0, hk0⟩, bok⟩ := W.getB hwb
  cases ea
  obtain ⟨x0, e0, h0⟩ := hx 0 (by decide)
  obtain ⟨x1, e1, h1⟩ := hx 1 (by decide)
  rw [hs1] at h0
  obtain ⟨k0, ek0, t0, rfl, ht0⟩ := h0
  cases ek0
  have hyl := hk0.1
  have hlq : SqL K H l0 ys := hl0.l
  have hper : ∀ r, insertFn b (Rust.argAt l 1) = r → perform w0 (.insert1 sl (Rust.argAt l 1)) = orThrow w0 r fun a => (setBoard w0 sl a.1, .ret a.2) := fun r hr => by
    show withSlot w0 (boardAt w0 sl) _ = _
    rw [hba]
    show orThrow w0 (insertFn b _) _ = _
    rw [hr]
  walk_at "ex"
  refine x_fl1 W.hs T.clS T.nSb sl_bds ?_
  walk_at "ex"
  refine x_ixL hg (atI_nat e0) ?_
  walk_at "ex"
  refine x_ixL (SqL.of W.hb) (atI_nat hvb) ?_
  walk_at "ex"
  refine x_fl1 ha T.clB T.nBr bd_row ?_
  walk_at "ex"
  refine x_ixL hg (atI_nat e1) ?_
  walk_at "ex"
  refine ⟨x1, _, 0, _, rfl, h1, ?_⟩
  walk_at "ex"
  have ei : (ys.length : Int) = (((b.keys.length + 1 : Nat)) : Int) - 1 := by omega
  rw [ei]
  have hfew := bok.few
  cases e : rangeInt 0 (((b.keys.length + 1 : Nat) : Int) - 1) (Rust.argAt l 1) with
  | none =>
    refine ite_t rfl ?_
    walk_at "ex"
    have e2 := index_none (name := "place") (by omega) e
    refine ⟨_, rfl, fun t ht => qe w0 (beyond "unknown place") ?_ t _ _ (same_new ht) upd_same (cI_lit "unknown place" (by decide +kernel)) (by rw [sz_lit]; decide +kernel)⟩
    rw [hper (.error (beyond "unknown place")) (by
      unfold R7290f.Spec.insertFn
      rw [e2]
      rfl)]
    rfl
  | some j =>
    obtain ⟨i, rfl, hi, hok, hp⟩ := index_some (name := "place") (by omega) e
    refine ite_f Bool.false_ne_true ?_
    walk_at "ex"
    rw [← ei]
    have full : (60 ≤ b.keys.length ∨ 36 ^ b.limit ≤ b.keys.length + 1) → perform w0 (.insert1 sl (Rust.argAt l 1)) = (w0, .fail (beyond "too many rows")) := fun hf => by
      rw [hper (.error (beyond "too many rows")) (by
        unfold R7290f.Spec.insertFn
        rw [hok]
        have : isFull b = true := by
          show (decide (60 ≤ b.keys.length) || decide (36 ^ b.limit ≤ b.keys.length + 1)) = true
          rw [Bool.or_eq_true, decide_eq_true_eq, decide_eq_true_eq]
          exact hf
        show (if isFull b = true then _ else _) = _
        rw [if_pos this]
        rfl)]
      rfl
    have fullE : (60 ≤ b.keys.length ∨ 36 ^ b.limit ≤ b.keys.length + 1) → ∃ m, V.str "too many rows" = .str m ∧ ∀ t, H t = none → E (.ref z.cO) (some t) (upd H t (.tup [.str m])) := fun hf =>
      ⟨_, rfl, fun t ht => qe w0 (beyond "too many rows") (full hf) t _ _ (same_new ht) upd_same (cI_lit "too many rows" (by decide +kernel)) (by rw [sz_lit]; decide +kernel)⟩
    refine ite_d (fun c1 => ?_) (fun c1 => ?_)
    · refine ite_t rfl ?_
      walk_at "ex"
      exact fullE (.inl (by omega))
    · walk_at "ex"
      refine x_fl1 ha T.clB T.nBl bd_lim ?_
      walk_at "ex"
      refine ⟨b.limit, rfl, by have := bok.l8; omega, ?_⟩
      walk_at "ex"
      refine ite_d (fun c2 => ?_) (fun c2 => ?_)
      · walk_at "ex"
        exact fullE (.inr (by omega))
      · walk_at "ex"
        refine x_fl1 ha T.clB T.nBr bd_row ?_
        walk_at "ex"
        refine fun D hD => ?_
        have s1 := same_new (o := .lst ys) hD
        have hg1 := sqL_same s1 hg
        walk_at "ex"
        refine x_ixL hg1 (atI_nat e1) ?_
        obtain ⟨xn, hxn⟩ : ∃ x, Rust.argAt l 1 = .num x := by
          cases e3 : Rust.argAt l 1 with
          | num x => exact ⟨x, rfl⟩
          | _ => rw [e3] at e; cases e
        rw [hxn] at h1
        obtain ⟨k, ek, t1, rfl, ht1⟩ := h1
        have ekk : k = (i : Int) := by
          rcases hp _ hxn with e4 | e4
          · rw [ek] at e4
            exact Option.some.inj e4
          · rw [ek] at e4
            cases e4
        subst ekk
        have ht1' := sqT_same s1 ht1
        walk_at "ex"
        refine ⟨sA, dx, lb, lg, w0, vb, vg, sl, a, D, b, ys, b.keys, i, rfl, W.same s1, hvb, hwb, SqL.of upd_same, hk0.kp (Kp.of s1), bok.ks, bok.asc, by omega, by omega, by omega, fun v H' kp W' hv => ?_⟩
        refine q _ _ ?_ v H' vb vg ((KpL.of s1).trans kp) W' hv
        rw [hper (.ok ({ b with keys := insertKey b i }, insertedValue b.keys i (insertKey b i))) (by
          unfold R7290f.Spec.insertFn
          rw [hok]
          have : isFull b = false := by
            show (decide (60 ≤ b.keys.length) || decide (36 ^ b.limit ≤ b.keys.length + 1)) = false
            rw [decide_eq_false (by omega), decide_eq_false (by omega)]
            rfl
          show (if isFull b = true then _ else _) = _
          rw [if_neg (by rw [this]; exact Bool.false_ne_true)])]
        rfl
end
/-! move_row_door -/
abbrev s_move_row_door : Stmt := top 81
abbrev N_move_row_door : List Str := ["slots", "given", "board", "row", "place", "keys"]
theorem sc_move_row_door : FnScope N_move_row_door ["slots", "given"] (defScope s_move_row_door) := ⟨rfl, rfl, rfl, by decide +kernel, rfl, by decide +kernel, by decide +kernel⟩
section
variable {P : Program} {w : World} {K : PySem.W.Frag} {mg : Str → Option Value} {base : Heap}
theorem ca_move_row_door (F : Df K mg "move_row_door" s_move_row_door ["slots", "given"]) {z : Ads} (T : Gb K mg z)  (c_insert_into : Ca P w K mg base 9 "insert_into" (sp_insert_into z K)) (c_insertion_value : Ca P w K mg base 3 "insertion_value" (sp_insertion_value K)) (c_row_index : Ca P w K mg base 2 "row_index" (sp_row_index z K)) : Ca P w K mg base 10 "move_row_door" (sp_move_row_door z K) := by
  refine ca_mk F sc_move_row_door (fun vs H Q E h => by
    obtain ⟨_, _, _, _, _, _, _, _, _, _, _, rfl, _⟩ := h
    rfl
    ) (fun f cdv A outer s H vs Q E hr h => ?_)
  refine ⟨_, pss_cons (ps_set (i := 2) sc_move_row_door.nd rfl (Or.inl rfl) (pe_ix ix_list (pe_fld (pv 0) rfl) (pe_ix ix_tup (pe_ix ix_list (pv 1) pe_int (fun _ _ => rfl)) pe_int (fun _ _ => rfl)) (fun _ _ => rfl))) (pss_cons (ps_set (i := 3) sc_move_row_door.nd rfl (Or.inl rfl) (pe_ca c_row_index hr (by first | decide | omega) rz.pass (pa_cons (pv 2) (pa_cons (pe_ix ix_list (pv 1) pe_int (fun _ _ => rfl)) (pa_cons pe_str pa_nil))))) (pss_cons (ps_set (i := 4) sc_move_row_door.nd rfl (Or.inl rfl) (pe_ca c_row_index hr (by first | decide | omega) rz.pass (pa_cons (pv 2) (pa_cons (pe_ix ix_list (pv 1) pe_int (fun _ _ => rfl)) (pa_cons pe_str pa_nil))))) (pss_cons (ps_set (i := 5) sc_move_row_door.nd rfl (Or.inl rfl) (pe_listS T.list (pe_fld (pv 2) rfl))) (pss_cons (ps_if (pt_cmpR op_eq (pv 3) (pv 4) (nomark _)) (pss_one (ps_ret (pe_ca c_insertion_value hr (by first | decide | omega) passN (pa_cons (pe_ix ix_list (pv 5) (pv 3) (fun _ _ => rfl)) (pa_cons (pe_lst pa_nil) pa_nil))))) pss_nil) (pss_one (ps_ret (pe_ca c_insert_into hr (by first | decide | omega) passN (pa_cons (pv 2) (pa_cons (pe_op op_cat (pe_slice sl_list (pv 5) po_none (po_some (pv 3))) (pe_slice sl_list (pv 5) (po_some (pe_op op_add (pv 3) pe_int)) po_none)) (pa_cons (pv 4) pa_nil)))))))))), ?_⟩
  obtain ⟨sA, g, dx, lb, lg, w0, vb, vg, xs, l, c, rfl, W, hg, hx, hc, hin, q, qe⟩ := h
  obtain ⟨sl, hs1, hs2, hs3⟩ := bind_slot (taking_some (show Rust.taking 3 l ((Rust.slotAt l 0 1).bind fun s0 => some (.move1 s0 (Rust.argAt l 1) (Rust.argAt l 2))) = some c from hc))
  cases hs3
  obtain ⟨hq, b, hwb, hba⟩ := hasBoard_some (Bool.and_eq_true_iff.mp (show (R7290f.Spec.hasBoard w0 sl && R7290f.Spec.fits _) = true from hin)).1
  obtain ⟨a, hvb, ⟨a', dy, l0, ys, ea, ha, hl0, hk0⟩, bok⟩ := W.getB hwb
  cases ea
  have hBd : BdAt z H (.ref a) b := ⟨a, dy, l0, ys, rfl, ha, hl0, hk0⟩
  obtain ⟨x0, e0, h0⟩ := hx 0 (by decide)
  obtain ⟨x1, e1, h1⟩ := hx 1 (by decide)
  obtain ⟨x2, e2, h2⟩ := hx 2 (by decide)
  rw [hs1] at h0
  obtain ⟨k0, ek0, t0, rfl, ht0⟩ := h0
  cases ek0
  have hyl := hk0.1
  have hlq : SqL K H l0 ys := hl0.l
  have hper : ∀ r, moveFn b (Rust.argAt l 1) (Rust.argAt l 2) = r → perform w0 (.move1 sl (Rust.argAt l 1) (Rust.argAt l 2)) = orThrow w0 r fun a => (setBoard w0 sl a.1, .ret a.2) := fun r hr => by
    show withSlot w0 (boardAt w0 sl) _ = _
    rw [hba]
    show orThrow w0 (moveFn b _ _) _ = _
    rw [hr]
  walk_at "ex"
  refine x_fl1 W.hs T.clS T.nSb sl_bds ?_
  walk_at "ex"
  refine x_ixL hg (atI_nat e0) ?_
  walk_at "ex"
  refine x_ixL (SqL.of W.hb) (atI_nat hvb) ?_
  walk_at "ex"
  refine x_ixL hg (atI_nat e1) ?_
  walk_at "ex"
  refine ⟨_, x1, b, _, _, "row", rfl, hBd, bok.few, h1, cI_lit "unknown row" (by decide +kernel), by rw [sz_lit]; decide +kernel, fun i hi eqi => ?_, fun er he => qe w0 er (by
    rw [hper (.error er) (by unfold R7290f.Spec.moveFn; rw [he]; rfl)]
    rfl)⟩
  walk_at "ex"
  refine x_ixL hg (atI_nat e2) ?_
  walk_at "ex"
  refine ⟨_, x2, b, _, _, "place", rfl, hBd, bok.few, h2, cI_lit "unknown place" (by decide +kernel), by rw [sz_lit]; decide +kernel, fun j hj eqj => ?_, fun er he => qe w0 er (by
    rw [hper (.error er) (by unfold R7290f.Spec.moveFn; rw [eqi]; show R7290f.Spec.andThen (indexArgument "place" _ _) _ = _; rw [he]; rfl)]
    rfl)⟩
  have emove : moveFn b (Rust.argAt l 1) (Rust.argAt l 2) = if i = j then .ok (b, record [("key", orNull keyValue b.keys[i]?), ("changed", .arr [])]) else .ok ({ b with keys := insertKey { b with keys := removeKey b.keys i } j }, insertedValue (removeKey b.keys i) j (insertKey { b with keys := removeKey b.keys i } j)) := by
    unfold R7290f.Spec.moveFn
    rw [eqi]
    show R7290f.Spec.andThen (indexArgument "place" _ _) _ = _
    rw [eqj]
    rfl
  walk_at "ex"
  refine x_fl1 ha T.clB T.nBr bd_row ?_
  walk_at "ex"
  refine fun D hD => ?_
  have s1 := same_new (o := .lst ys) hD
  have hD1 : upd H D (.lst ys) D = some (.lst ys) := upd_same
  walk_at "ex"
  refine ite_d (fun cc => ?_) (fun cc => ?_)
  · have eij : i = j := by omega
    obtain ⟨v, hv, hkv⟩ := hk0.get (i := i) hi
    walk_at "ex"
    refine x_ixL (SqL.of hD1) (atI_nat hv) ?_
    walk_at "ex"
    refine ⟨Nat.zero_le _, fun D2 hD2 => ?_⟩
    have s2 := same_new (o := .lst []) hD2
    walk_at "ex"
    refine ⟨v, D2, b.keys[i], [], rfl, hkv.kp (Kp.of (s1.trans s2)), (bok.ks _ (List.getElem_mem hi)).1.dig, SqL.of upd_same, Nat.zero_le _, fun x H3 s3 hx3 => ?_⟩
    have sA := s1.trans (s2.trans s3)
    refine q w0 (record [("key", keyValue b.keys[i]), ("changed", nats [])]) ?_ x H3 vb vg (KpL.of sA) (W.same sA) hx3
    rw [hper _ (emove.trans (if_pos eij)), List.getElem?_eq_getElem hi]
    show (setBoard w0 sl b, _) = _
    rw [set_self hwb]
    rfl
  · have eij : ¬ i = j := by omega
    walk_at "ex"
    refine fun D2 hD2 => ?_
    have s2 := same_new (o := .lst (cutV ys none (some (i : Int)))) hD2
    have hD1' := s2 _ _ hD1
    walk_at "ex"
    refine fun D3 hD3 => ?_
    have s3 := same_new (o := .lst (cutV ys (some ((i : Int) + 1)) none)) hD3
    have c1 : cutV ys none (some (i : Int)) = ys.take i := cut_to ys (by omega)
    have c2 : cutV ys (some ((i : Int) + 1)) none = ys.drop (i + 1) := cut_from (i := i + 1) ys (by omega)
    have g0 : upd (upd H D (.lst ys)) D2 (.lst (cutV ys none (some (i : Int)))) D2 = some (.lst (cutV ys none (some (i : Int)))) := upd_same
    have z1 := cutV_length ys none (some (i : Int))
    have z2 := cutV_length ys (some ((i : Int) + 1)) none
    have hfew := bok.few
    refine x_cat (s3 _ _ g0) upd_same (sz0 (by omega)) fun D4 hD4 => ?_
    have s4 := same_new (o := .lst (cutV ys none (some (i : Int)) ++ cutV ys (some ((i : Int) + 1)) none)) hD4
    have sZ := s1.trans (s2.trans (s3.trans s4))
    walk_at "ex"
    obtain ⟨k1, k2⟩ := erase_ok bok.ks bok.asc i
    have kl := erase_len hi
    have hroom := bok.room
    refine ⟨sA, dx, lb, lg, w0, vb, vg, sl, a, D4, b, _, b.keys.eraseIdx i, j, rfl, W.same sZ, hvb, hwb, SqL.of upd_same, ?_, k1, k2, by omega, by omega, by omega, fun v H' kp W' hv => ?_⟩
    · rw [c1, c2] at sZ ⊢
      exact (hk0.erase i).kp (Kp.of sZ)
    · refine q _ _ ?_ v H' vb vg ((KpL.of sZ).trans kp) W' hv
      rw [hper _ (emove.trans (if_neg eij))]
      rfl
end
/-! remove_row_door -/
abbrev s_remove_row_door : Stmt := top 82
abbrev N_remove_row_door : List Str := ["slots", "given", "board", "row", "keys"]
theorem sc_remove_row_door : FnScope N_remove_row_door ["slots", "given"] (defScope s_remove_row_door) := ⟨rfl, rfl, rfl, by decide +kernel, rfl, by decide +kernel, by decide +kernel⟩
section
variable {P : Program} {w : World} {K : PySem.W.Frag} {mg : Str → Option Value} {base : Heap}
theorem ca_remove_row_door (F : Df K mg "remove_row_door" s_remove_row_door ["slots", "given"]) {z : Ads} (T : Gb K mg z)  (c_row_index : Ca P w K mg base 2 "row_index" (sp_row_index z K)) : Ca P w K mg base 3 "remove_row_door" (sp_remove_row_door z K) := by
  refine ca_mk F sc_remove_row_door (fun vs H Q E h => by
    obtain ⟨_, _, _, _, _, _, _, _, _, _, _, rfl, _⟩ := h
    rfl
    ) (fun f cdv A outer s H vs Q E hr h => ?_)
  refine ⟨_, pss_cons (ps_set (i := 2) sc_remove_row_door.nd rfl (Or.inl rfl) (pe_ix ix_list (pe_fld (pv 0) rfl) (pe_ix ix_tup (pe_ix ix_list (pv 1) pe_int (fun _ _ => rfl)) pe_int (fun _ _ => rfl)) (fun _ _ => rfl))) (pss_cons (ps_set (i := 3) sc_remove_row_door.nd rfl (Or.inl rfl) (pe_ca c_row_index hr (by first | decide | omega) rz.pass (pa_cons (pv 2) (pa_cons (pe_ix ix_list (pv 1) pe_int (fun _ _ => rfl)) (pa_cons pe_str pa_nil))))) (pss_cons (ps_set (i := 4) sc_remove_row_door.nd rfl (Or.inl rfl) (pe_listS T.list (pe_fld (pv 2) rfl))) (pss_cons (ps_fld (pv 2) (pe_fz (pe_op op_cat (pe_slice sl_list (pv 4) po_none (po_some (pv 3))) (pe_slice sl_list (pv 4) (po_some (pe_op op_add (pv 3) pe_int)) po_none))) rfl) (pss_one (ps_ret (pe_gk T.cNOTHING)))))), ?_⟩
  obtain ⟨sA, g, dx, lb, lg, w0, vb, vg, xs, l, c, rfl, W, hg, hx, hc, hin, q, qe⟩ := h
  obtain ⟨sl, hs1, hs2, hs3⟩ := bind_slot (taking_some (show Rust.taking 2 l ((Rust.slotAt l 0 1).bind fun s0 => some (.remove1 s0 (Rust.argAt l 1))) = some c from hc))
  cases hs3
  obtain ⟨hq, b, hwb, hba⟩ := hasBoard_some (Bool.and_eq_true_iff.mp (show (R7290f.Spec.hasBoard w0 sl && R7290f.Spec.fits _) = true from hin)).1
  obtain ⟨a, hvb, ⟨a', dy, l0, ys, ea, ha, hl0, hk0⟩, bok⟩ := W.getB hwb
  cases ea
  have hBd : BdAt z H (.ref a) b := ⟨a, dy, l0, ys, rfl, ha, hl0, hk0⟩
  obtain ⟨x0, e0, h0⟩ := hx 0 (by decide)
  obtain ⟨x1, e1, h1⟩ := hx 1 (by decide)
  rw [hs1] at h0
  obtain ⟨k0, ek0, t0, rfl, ht0⟩ := h0
  cases ek0
  have hyl := hk0.1
  have hlq : SqL K H l0 ys := hl0.l
  have hper : ∀ r, removeFn b (Rust.argAt l 1) = r → perform w0 (.remove1 sl (Rust.argAt l 1)) = orThrow w0 r fun a => (setBoard w0 sl a.1, .ret a.2) := fun r hr => by
    show withSlot w0 (boardAt w0 sl) _ = _
    rw [hba]
    show orThrow w0 (removeFn b _) _ = _
    rw [hr]
  walk_at "ex"
  refine x_fl1 W.hs T.clS T.nSb sl_bds ?_
  walk_at "ex"
  refine x_ixL hg (atI_nat e0) ?_
  walk_at "ex"
  refine x_ixL (SqL.of W.hb) (atI_nat hvb) ?_
  walk_at "ex"
  refine x_ixL hg (atI_nat e1) ?_
  walk_at "ex"
  refine ⟨_, x1, b, _, _, "row", rfl, hBd, bok.few, h1, cI_lit "unknown row" (by decide +kernel), by rw [sz_lit]; decide +kernel, fun i hi eqi => ?_, fun er he => qe w0 er (by
    rw [hper (.error er) (by unfold R7290f.Spec.removeFn; rw [he]; rfl)]
    rfl)⟩
  walk_at "ex"
  refine x_fl1 ha T.clB T.nBr bd_row ?_
  walk_at "ex"
  refine fun D hD => ?_
  have s1 := same_new (o := .lst ys) hD
  have hD1 : upd H D (.lst ys) D = some (.lst ys) := upd_same
  walk_at "ex"
  refine fun D2 hD2 => ?_
  have s2 := same_new (o := .lst (cutV ys none (some (i : Int)))) hD2
  have hD1' := s2 _ _ hD1
  walk_at "ex"
  refine fun D3 hD3 => ?_
  have s3 := same_new (o := .lst (cutV ys (some ((i : Int) + 1)) none)) hD3
  have c1 : cutV ys none (some (i : Int)) = ys.take i := cut_to ys (by omega)
  have c2 : cutV ys (some ((i : Int) + 1)) none = ys.drop (i + 1) := cut_from (i := i + 1) ys (by omega)
  have g0 : upd (upd H D (.lst ys)) D2 (.lst (cutV ys none (some (i : Int)))) D2 = some (.lst (cutV ys none (some (i : Int)))) := upd_same
  have z1 := cutV_length ys none (some (i : Int))
  have z2 := cutV_length ys (some ((i : Int) + 1)) none
  have hfew := bok.few
  refine x_cat (s3 _ _ g0) upd_same (sz0 (by omega)) fun D4 hD4 => ?_
  have s4 := same_new (o := .lst (cutV ys none (some (i : Int)) ++ cutV ys (some ((i : Int) + 1)) none)) hD4
  have s04 := s1.trans (s2.trans s3)
  rw [c1, c2] at *
  refine ⟨D4, _, rfl, upd_same, fun o => ?_⟩
  have nD4 : D4 ≠ a := fun e => by
    rw [e, s04 _ _ ha] at hD4
    cases hD4
  have sF : Same H (upd (upd (upd (upd (upd H D (.lst ys)) D2 (.lst (ys.take i))) D3 (.lst (ys.drop (i + 1)))) D4 (.lst (ys.take i ++ ys.drop (i + 1)))) D4 (.frz o (.lst (ys.take i ++ ys.drop (i + 1))))) := But.same s04 (same_none s04 hD4) (But.trans But.upd But.upd)
  have ha2 := sF _ _ ha
  walk_at "ex"
  refine ⟨a, z.cB, dy, _, rfl, ha2, T.clB, T.nBr, by show 3 < 1000; decide, ?_⟩
  rw [put_row]
  obtain ⟨k1, k2⟩ := erase_ok bok.ks bok.asc i
  have kl := erase_len hi
  have hroom := bok.room
  have W3 := (W.same sF).board (ks := b.keys.eraseIdx i) (xs := ys.take i ++ ys.drop (i + 1)) (l' := D4) hvb hwb ha2 ⟨o, upd_same⟩ ((hk0.erase i).kp (Kp.of sF)) ⟨bok.l1, bok.l8, k1, k2, by show (b.keys.eraseIdx i).length ≤ 60; omega, by show (b.keys.eraseIdx i).length < 36 ^ b.limit; omega⟩
  walk_at "ex"
  refine q _ .undef ?_ _ _ vb vg ((KpL.of sF).trans (KpL.ins ha2)) W3 (undefAt T _)
  rw [hper (.ok ({ b with keys := removeKey b.keys i }, .undef)) (by
    unfold R7290f.Spec.removeFn
    rw [eqi]
    rfl)]
  rfl

end
end OK
namespace OK
open PySem PySem.Spec PyProof.Rows L2
open R7290f.Spec (Plain Units Bound Err units beyond wrong Call Ans perform setGame undef gameAt orThrow withSlot newGameFn gameState answerFn answerIn answerWith roomOf keyOfText isBetween isBefore limitArgument boundsArgument keyValue boundValue record room firstNumber endNumber)
theorem upd_twice {H : Hp} {a : Addr} {o o' : HO} : upd (upd H a o) a o' = upd H a o' := by
  funext b
  by_cases h : b = a
  · subst h
    rw [upd_same, upd_same]
  · rw [upd_ne h, upd_ne h, upd_ne h]
theorem between_ord {a b : Bound} {k : List Nat} (h : isBetween a b k = true) : Ord a (some k) ∧ Ord (some k) b := by
  have h' := h
  unfold R7290f.Spec.isBetween at h'
  rw [Bool.and_eq_true_iff] at h'
  constructor
  · cases a with
    | none => exact Ord_none_l _
    | some x => exact h'.1
  · cases b with
    | none => exact Ord_none_r _
    | some y => exact h'.2
theorem answerIn_some {g : R7290f.Spec.Game} {p : Plain} (hl : g.limit ≤ 20) : answerIn g p = match keyV g.limit p with
    | some k => if isBetween g.before g.after k = true then some k else none
    | none => none := by
  cases p with
  | str u =>
    show (match keyOfText u with
      | some k => if (decide (k.length ≤ g.limit) && isBetween g.before g.after k) = true then some k else none
      | none => none) = match (match keyOfText u with
      | some k => if k.length ≤ g.limit then some k else none
      | none => none : Option (List Nat)) with
      | some k => if isBetween g.before g.after k = true then some k else none
      | none => none
    cases keyOfText u with
    | none => rfl
    | some k =>
      dsimp only
      by_cases c : k.length ≤ g.limit
      · rw [decide_eq_true c, if_pos c, Bool.true_and]
      · rw [decide_eq_false c, if_neg c, Bool.false_and]
        rfl
  | _ => rfl
abbrev sp_new_game_door (z : Ads) (K : PySem.W.Frag) : Sp := DoorSp z K 14
abbrev sp_game_state_door (z : Ads) (K : PySem.W.Frag) : Sp := DoorSp z K 15
abbrev sp_answer_key_door (z : Ads) (K : PySem.W.Frag) : Sp := DoorSp z K 16
/-! new_game_door -/
abbrev s_new_game_door : Stmt := top 85
abbrev N_new_game_door : List Str := ["slots", "given", "before", "after", "limit"]
theorem sc_new_game_door : FnScope N_new_game_door ["slots", "given"] (defScope s_new_game_door) := ⟨rfl, rfl, rfl, by decide +kernel, rfl, by decide +kernel, by decide +kernel⟩
section
variable {P : Program} {w : World} {K : PySem.W.Frag} {mg : Str → Option Value} {base : Heap}
theorem ca_new_game_door (F : Df K mg "new_game_door" s_new_game_door ["slots", "given"]) {z : Ads} (T : Gb K mg z)  (c_limit_of : Ca P w K mg base 3 "limit_of" (sp_limit_of z K)) (c_bounds_of : Ca P w K mg base 5 "bounds_of" (sp_bounds_of z K)) (cm_Game : Cm P w K mg base 1 z.cG (sp_Game_init z K)) : Ca P w K mg base 6 "new_game_door" (sp_new_game_door z K) := by
  refine ca_mk F sc_new_game_door (fun vs H Q E h => by
    obtain ⟨_, _, _, _, _, _, _, _, _, _, _, rfl, _⟩ := h
    rfl
    ) (fun f cdv A outer s H vs Q E hr h => ?_)
  refine ⟨_, pss_cons (ps_asg (pe_ca c_bounds_of hr (by first | decide | omega) rz.pass (pa_cons (pe_ix ix_list (pv 1) pe_int (fun _ _ => rfl)) (pa_cons (pe_ix ix_list (pv 1) pe_int (fun _ _ => rfl)) pa_nil))) (pg_tup rfl (pgs_cons (pg_name (i := 2) sc_new_game_door.nd rfl (Or.inl rfl)) (pgs_cons (pg_name (i := 3) sc_new_game_door.nd rfl (Or.inl rfl)) pgs_nil)))) (pss_cons (ps_set (i := 4) sc_new_game_door.nd rfl (Or.inl rfl) (pe_ca c_limit_of hr (by first | decide | omega) rz.pass (pa_cons (pe_ix ix_list (pv 1) pe_int (fun _ _ => rfl)) pa_nil))) (pss_cons (ps_asg (pe_mk cm_Game T.gGame hr (by first | decide | omega) (pa_cons (pv 2) (pa_cons (pv 3) (pa_cons (pv 4) pa_nil)))) (pg_sub (pe_fld (pv 0) rfl) (pe_ix ix_tup (pe_ix ix_list (pv 1) pe_int (fun _ _ => rfl)) pe_int (fun _ _ => rfl)) set_list)) (pss_one (ps_ret (pe_gk T.cNOTHING))))), ?_⟩
  obtain ⟨sA, g, dx, lb, lg, w0, vb, vg, xs, l, c, rfl, W, hg, hx, hc, hin, q, qe⟩ := h
  obtain ⟨sl, hs1, hs2, hs3⟩ := bind_slot (taking_some (show Rust.taking 4 l ((Rust.slotAt l 0 1).bind fun s0 => some (.game1 s0 (Rust.argAt l 1) (Rust.argAt l 2) (Rust.argAt l 3))) = some c from hc))
  cases hs3
  obtain ⟨x0, e0, h0⟩ := hx 0 (by decide)
  obtain ⟨x1, e1, h1⟩ := hx 1 (by decide)
  obtain ⟨x2, e2, h2⟩ := hx 2 (by decide)
  obtain ⟨x3, e3, h3⟩ := hx 3 (by decide)
  rw [hs1] at h0
  obtain ⟨k0, ek0, t0, rfl, ht0⟩ := h0
  cases ek0
  walk_at "ex"
  refine x_ixL hg (atI_nat e1) ?_
  walk_at "ex"
  refine x_ixL hg (atI_nat e2) ?_
  walk_at "ex"
  refine ⟨x1, x2, _, _, rfl, h1, h2, fun a b TT y1 y2 H1 hab oa ob oo s1 hTT hy1 hy2 => ?_, fun er he => qe w0 er (by
    show orThrow w0 (newGameFn _ _ _) _ = _
    unfold R7290f.Spec.newGameFn
    rw [he]
    rfl)⟩
  have hg1 := sqL_same s1 hg
  walk_at "ex"
  refine x_ixL hg1 (atI_nat e3) ?_
  walk_at "ex"
  refine ⟨x3, _, rfl, VAt.kp (Kp.of s1) h3, fun n en n1 n8 => ?_, fun er he => (qe w0 er (by
    show orThrow w0 (newGameFn _ _ _) _ = _
    unfold R7290f.Spec.newGameFn
    rw [hab]
    show orThrow w0 (R7290f.Spec.andThen (limitArgument _) _) _ = _
    rw [he]
    rfl)).back s1⟩
  walk_at "ex"
  intro x dd hxn hdn hne
  have nx1 : ∀ {b o}, H1 b = some o → b ≠ x := fun e z => by rw [z, hxn] at e; cases e
  have nd1 : ∀ {b o}, H1 b = some o → b ≠ dd := fun e z => by rw [z, hdn] at e; cases e
  refine ⟨x, dd, y1, y2, n, rfl, upd_same, fun H2 hbut hins => ⟨rfl, ?_⟩⟩
  have sB : Same H1 H2 := fun b o hb => hbut b o (nx1 hb) ((upd_ne (nx1 hb)).trans ((upd_ne (nd1 hb)).trans hb))
  have sC := s1.trans sB
  have W2 := W.same sC
  have hg2 := sqL_same sC hg
  have ht02 := sqT_same sC ht0
  walk_at "ex"
  refine x_fl1 W2.hs T.clS T.nSg sl_gms ?_
  walk_at "ex"
  refine x_ixL hg2 (atI_nat e0) ?_
  walk_at "ex"
  refine x_setL W2.hg (by rw [W2.n2]; omega) ?_
  have hfr : ∀ i : Nat, vg[i]? ≠ some (V.ref x) := not_mem_fresh (fun i e => (W.same s1).liveG i e) hxn
  have ok0 : GmOk ⟨n, a, b, 0⟩ := ⟨n1, n8, oa, ob, oo⟩
  have W3 := W2.putGame (q := sl) (by omega) (b := ⟨n, a, b, 0⟩) ⟨x, dd, y1, y2, rfl, hins, hy1.kp (Kp.of sB), hy2.kp (Kp.of sB)⟩ ok0 hfr
  walk_at "ex"
  exact q (setGame w0 sl ⟨n, a, b, 0⟩) .undef (by
    show orThrow w0 (newGameFn _ _ _) _ = _
    unfold R7290f.Spec.newGameFn
    rw [hab]
    show orThrow w0 (R7290f.Spec.andThen (limitArgument _) _) _ = _
    rw [en]
    rfl) _ _ _ _ ((KpL.of sC).trans (KpL.lst2 W2.hg)) W3 (undefAt T _)
end
/-! game_state_door -/
abbrev s_game_state_door : Stmt := top 86
abbrev N_game_state_door : List Str := ["slots", "given", "game", "room"]
theorem sc_game_state_door : FnScope N_game_state_door ["slots", "given"] (defScope s_game_state_door) := ⟨rfl, rfl, rfl, by decide +kernel, rfl, by decide +kernel, by decide +kernel⟩
section
variable {P : Program} {w : World} {K : PySem.W.Frag} {mg : Str → Option Value} {base : Heap}
theorem ca_game_state_door (F : Df K mg "game_state_door" s_game_state_door ["slots", "given"]) {z : Ads} (T : Gb K mg z)  (c_record_value : Ca P w K mg base 2 "record_value" (sp_record_value K)) (c_integer_value : Ca P w K mg base 1 "integer_value" (sp_integer_value K)) (c_bound_value : Ca P w K mg base 1 "bound_value" (sp_bound_value K)) (c_room_between : Ca P w K mg base 4 "room_between" (sp_room_between K)) : Ca P w K mg base 5 "game_state_door" (sp_game_state_door z K) := by
  refine ca_mk F sc_game_state_door (fun vs H Q E h => by
    obtain ⟨_, _, _, _, _, _, _, _, _, _, _, rfl, _⟩ := h
    rfl
    ) (fun f cdv A outer s H vs Q E hr h => ?_)
  refine ⟨_, pss_cons (ps_set (i := 2) sc_game_state_door.nd rfl (Or.inl rfl) (pe_ix ix_list (pe_fld (pv 0) rfl) (pe_ix ix_tup (pe_ix ix_list (pv 1) pe_int (fun _ _ => rfl)) pe_int (fun _ _ => rfl)) (fun _ _ => rfl))) (pss_cons (ps_set (i := 3) sc_game_state_door.nd rfl (Or.inl rfl) (pe_ca c_room_between hr (by first | decide | omega) passN (pa_cons (pe_fld (pv 2) rfl) (pa_cons (pe_fld (pv 2) rfl) (pa_cons (pe_fld (pv 2) rfl) pa_nil))))) (pss_one (ps_ret (pe_ca c_record_value hr (by first | decide | omega) passN (pa_cons (pe_lst (pa_cons (pe_tup (pa_cons pe_str (pa_cons (pe_ca c_bound_value hr (by first | decide | omega) passN (pa_cons (pe_fld (pv 2) rfl) pa_nil)) pa_nil))) (pa_cons (pe_tup (pa_cons pe_str (pa_cons (pe_ca c_bound_value hr (by first | decide | omega) passN (pa_cons (pe_fld (pv 2) rfl) pa_nil)) pa_nil))) (pa_cons (pe_tup (pa_cons pe_str (pa_cons (pe_ca c_integer_value hr (by first | decide | omega) passN (pa_cons (pe_fld (pv 2) rfl) pa_nil)) pa_nil))) (pa_cons (pe_tup (pa_cons pe_str (pa_cons (pe_ca c_integer_value hr (by first | decide | omega) passN (pa_cons (pv 3) pa_nil)) pa_nil))) pa_nil))))) pa_nil))))), ?_⟩
  obtain ⟨sA, g, dx, lb, lg, w0, vb, vg, xs, l, c, rfl, W, hg, hx, hc, hin, q, qe⟩ := h
  obtain ⟨sl, hs1, hs2, hs3⟩ := bind_slot (taking_some (show Rust.taking 1 l ((Rust.slotAt l 0 1).bind fun s0 => some (.gameState1 s0)) = some c from hc))
  cases hs3
  obtain ⟨hq, b, hwb, hba⟩ := hasGame_some (show R7290f.Spec.hasGame w0 sl = true from hin)
  obtain ⟨a, hvb, ⟨a', dy, y1, y2, ea, ha, hb1, hb2⟩, bok⟩ := W.getG hwb
  cases ea
  obtain ⟨x0, e0, h0⟩ := hx 0 (by decide)
  rw [hs1] at h0
  obtain ⟨k0, ek0, t0, rfl, ht0⟩ := h0
  cases ek0
  walk_at "ex"
  refine x_fl1 W.hs T.clS T.nSg sl_gms ?_
  walk_at "ex"
  refine x_ixL hg (atI_nat e0) ?_
  walk_at "ex"
  refine x_ixL (SqL.of W.hg) (atI_nat hvb) ?_
  walk_at "ex"
  refine x_fl1 ha T.clG T.nGb gm_bef ?_
  walk_at "ex"
  refine x_fl1 ha T.clG T.nGa gm_aft ?_
  walk_at "ex"
  refine x_fl1 ha T.clG T.nGl gm_lim ?_
  walk_at "ex"
  refine ⟨y1, y2, _, _, b.limit, rfl, hb1, hb2, bok.ob.dig, bok.oa.dig, by have := bok.l8; omega, ?_⟩
  rw [← room_int b.limit bok.ob bok.oa bok.oo]
  walk_at "ex"
  refine x_fl1 ha T.clG T.nGb gm_bef ?_
  walk_at "ex"
  refine ⟨y1, _, rfl, hb1, bok.ob.dig, fun v1 H1 s1 hv1 => ?_⟩
  walk_at "ex"
  refine ⟨two_le, fun T1 hT1 => ?_⟩
  have s2 := same_new (o := .tup [.str "before", v1]) hT1
  have sA2 := s1.trans s2
  have ha2 := sA2 _ _ ha
  walk_at "ex"
  refine x_fl1 ha2 T.clG T.nGa gm_aft ?_
  walk_at "ex"
  refine ⟨y2, _, rfl, hb2.kp (Kp.of sA2), bok.oa.dig, fun v2 H3 s3 hv2 => ?_⟩
  walk_at "ex"
  refine ⟨two_le, fun T2 hT2 => ?_⟩
  have s4 := same_new (o := .tup [.str "after", v2]) hT2
  have sA4 := sA2.trans (s3.trans s4)
  have ha4 := sA4 _ _ ha
  walk_at "ex"
  refine x_fl1 ha4 T.clG T.nGn gm_ans ?_
  walk_at "ex"
  refine ⟨_, rfl, fun v3 H5 s5 hv3 => ?_⟩
  walk_at "ex"
  refine ⟨two_le, fun T3 hT3 => ?_⟩
  have s6 := same_new (o := .tup [.str "answers", v3]) hT3
  walk_at "ex"
  refine ⟨_, rfl, fun v4 H7 s7 hv4 => ?_⟩
  walk_at "ex"
  refine ⟨two_le, fun T4 hT4 => ?_⟩
  have s8 := same_new (o := .tup [.str "room", v4]) hT4
  walk_at "ex"
  refine ⟨by show 4 ≤ sizeLine; rw [sizeLine_eq]; decide, fun L hL => ?_⟩
  have s9 := same_new (o := .lst [.ref T1, .ref T2, .ref T3, .ref T4]) hL
  have g1 : (upd H1 T1 (.tup [.str "before", v1])) T1 = some (.tup [.str "before", v1]) := upd_same
  have g2 : (upd H3 T2 (.tup [.str "after", v2])) T2 = some (.tup [.str "after", v2]) := upd_same
  have g3 : (upd H5 T3 (.tup [.str "answers", v3])) T3 = some (.tup [.str "answers", v3]) := upd_same
  have g4 : (upd H7 T4 (.tup [.str "room", v4])) T4 = some (.tup [.str "room", v4]) := upd_same
  walk_at "ex"
  refine ⟨L, [.ref T1, .ref T2, .ref T3, .ref T4], [(units "before", boundValue b.before), (units "after", boundValue b.after), (units "answers", R7290f.Spec.nat b.answers), (units "room", R7290f.Spec.nat (roomOf b))], rfl, SqL.of upd_same, rfl, (by show 4 ≤ 1000; decide), fun i x' f e1 e2 => ?_, fun y H9 s10 hy => ?_⟩
  · match i, e1, e2 with
    | 0, e1, e2 =>
      cases e1
      cases e2
      exact ⟨T1, _, v1, rfl, SqT.of ((s3.trans (s4.trans (s5.trans (s6.trans (s7.trans (s8.trans s9)))))) _ _ g1), by rw [sz_lit]; decide +kernel, cI_lit "before" (by decide +kernel), VAt.kp (Kp.of (s2.trans (s3.trans (s4.trans (s5.trans (s6.trans (s7.trans (s8.trans s9)))))))) hv1⟩
    | 1, e1, e2 =>
      cases e1
      cases e2
      exact ⟨T2, _, v2, rfl, SqT.of ((s5.trans (s6.trans (s7.trans (s8.trans s9)))) _ _ g2), by rw [sz_lit]; decide +kernel, cI_lit "after" (by decide +kernel), VAt.kp (Kp.of (s4.trans (s5.trans (s6.trans (s7.trans (s8.trans s9)))))) hv2⟩
    | 2, e1, e2 =>
      cases e1
      cases e2
      exact ⟨T3, _, v3, rfl, SqT.of ((s7.trans (s8.trans s9)) _ _ g3), by rw [sz_lit]; decide +kernel, cI_lit "answers" (by decide +kernel), VAt.kp (Kp.of (s6.trans (s7.trans (s8.trans s9)))) hv3⟩
    | 3, e1, e2 =>
      cases e1
      cases e2
      exact ⟨T4, _, v4, rfl, SqT.of (s9 _ _ g4), by rw [sz_lit]; decide +kernel, cI_lit "room" (by decide +kernel), VAt.kp (Kp.of (s8.trans s9)) hv4⟩
    | n + 4, e1, e2 => simp at e1
  · have sZ := sA4.trans (s5.trans (s6.trans (s7.trans (s8.trans (s9.trans s10)))))
    refine q w0 (gameState b) ?_ y H9 vb vg (KpL.of sZ) (W.same sZ) hy
    show withSlot w0 (gameAt w0 sl) _ = _
    rw [hba]
    rfl
end
/-! is_answer -/
abbrev s_is_answer : Stmt := top 87
abbrev N_is_answer : List Str := ["game", "value"]
theorem sc_is_answer : FnScope N_is_answer ["game", "value"] (defScope s_is_answer) := ⟨rfl, rfl, rfl, by decide +kernel, rfl, by decide +kernel, by decide +kernel⟩
def sp_is_answer (z : Ads) (K : PySem.W.Frag) : Sp := fun vs H Q _ => ∃ (gv v : V) (g : R7290f.Spec.Game) (p : Plain), vs = [gv, v] ∧ GmAt z H gv g ∧ GmOk g ∧ VAt K H p v ∧ Q (.bl (answerIn g p).isSome) H
section
variable {P : Program} {w : World} {K : PySem.W.Frag} {mg : Str → Option Value} {base : Heap}
theorem ca_is_answer (F : Df K mg "is_answer" s_is_answer ["game", "value"]) {z : Ads} (T : Gb K mg z)  (c_is_between : Ca P w K mg base 1 "is_between" (sp_is_between K)) (c_is_key_value : Ca P w K mg base 3 "is_key_value" (sp_is_key_value K)) : Ca P w K mg base 4 "is_answer" (sp_is_answer z K) := by
  refine ca_mk F sc_is_answer (fun vs H Q E h => by
    obtain ⟨_, _, _, _, rfl, _⟩ := h
    rfl
    ) (fun f cdv A outer s H vs Q E hr h => ?_)
  refine ⟨_, pss_cons (ps_if (pt_not (pt_val (pe_ca c_is_key_value hr (by first | decide | omega) passN (pa_cons (pv 1) (pa_cons (pe_fld (pv 0) rfl) pa_nil))))) (pss_one (ps_ret pe_bl)) pss_nil) (pss_one (ps_ret (pe_ca c_is_between hr (by first | decide | omega) passN (pa_cons (pe_ix ix_tup (pv 1) pe_int (fun _ _ => rfl)) (pa_cons (pe_fld (pv 0) rfl) (pa_cons (pe_fld (pv 0) rfl) pa_nil)))))), ?_⟩
  obtain ⟨_, v, g, p, rfl, ⟨a, dy, y1, y2, rfl, ha, hb1, hb2⟩, ok, hv, q⟩ := h
  have hl20 : g.limit ≤ 20 := by have := ok.l8; omega
  rw [answerIn_some hl20] at q
  walk_at "ex"
  refine x_fl1 ha T.clG T.nGl gm_lim ?_
  walk_at "ex"
  refine ⟨v, p, g.limit, rfl, hv, hl20, ?_⟩
  walk_at "ex"
  cases e : keyV g.limit p with
  | none =>
    rw [e] at q
    refine ite_t rfl ?_
    walk_at "ex"
    exact q
  | some k =>
    rw [e] at q
    obtain ⟨u, rfl, hk, hu, okk, hlk⟩ := keyV_some e
    obtain ⟨b, ⟨t, rfl, ht⟩, hb⟩ := hv
    refine ite_f Bool.false_ne_true ?_
    walk_at "ex"
    refine x_fl1 ha T.clG T.nGb gm_bef ?_
    walk_at "ex"
    refine x_fl1 ha T.clG T.nGa gm_aft ?_
    walk_at "ex"
    refine ⟨.ref b, y1, y2, k, _, _, rfl, ⟨b, rfl, by rw [← hu]; exact hb⟩, okk.dig, hb1, hb2, ok.ob.dig, ok.oa.dig, ?_⟩
    have : (if isBetween g.before g.after k = true then some k else none).isSome = isBetween g.before g.after k := by
      cases isBetween g.before g.after k <;> rfl
    dsimp only at q
    rw [this] at q
    exact q
end
/-! answer_key_door -/
abbrev s_answer_key_door : Stmt := top 88
abbrev N_answer_key_door : List Str := ["slots", "given", "game", "key", "front", "back"]
theorem sc_answer_key_door : FnScope N_answer_key_door ["slots", "given"] (defScope s_answer_key_door) := ⟨rfl, rfl, rfl, by decide +kernel, rfl, by decide +kernel, by decide +kernel⟩
section
variable {P : Program} {w : World} {K : PySem.W.Frag} {mg : Str → Option Value} {base : Heap}
theorem ca_answer_key_door (F : Df K mg "answer_key_door" s_answer_key_door ["slots", "given"]) {z : Ads} (T : Gb K mg z)  (c_integer_value : Ca P w K mg base 1 "integer_value" (sp_integer_value K)) (c_room_between : Ca P w K mg base 4 "room_between" (sp_room_between K)) (c_is_answer : Ca P w K mg base 4 "is_answer" (sp_is_answer z K)) : Ca P w K mg base 5 "answer_key_door" (sp_answer_key_door z K) := by
  refine ca_mk F sc_answer_key_door (fun vs H Q E h => by
    obtain ⟨_, _, _, _, _, _, _, _, _, _, _, rfl, _⟩ := h
    rfl
    ) (fun f cdv A outer s H vs Q E hr h => ?_)
  refine ⟨_, pss_cons (ps_set (i := 2) sc_answer_key_door.nd rfl (Or.inl rfl) (pe_ix ix_list (pe_fld (pv 0) rfl) (pe_ix ix_tup (pe_ix ix_list (pv 1) pe_int (fun _ _ => rfl)) pe_int (fun _ _ => rfl)) (fun _ _ => rfl))) (pss_cons (ps_if (pt_cmpR op_eq (pe_ca c_room_between hr (by first | decide | omega) passN (pa_cons (pe_fld (pv 2) rfl) (pa_cons (pe_fld (pv 2) rfl) (pa_cons (pe_fld (pv 2) rfl) pa_nil)))) pe_int (nomark _)) (pss_one (ps_raiseM rfl rz (by exact (pmk_msg PySem.F.excBase_Exception T.xOutOfRange T.gOutOfRange T.kOutOfRange (raises_own T.bOutOfRange T.tOutOfRange) pe_str)))) pss_nil) (pss_cons (ps_if (pt_not (pt_val (pe_ca c_is_answer hr (by first | decide | omega) passN (pa_cons (pv 2) (pa_cons (pe_ix ix_list (pv 1) pe_int (fun _ _ => rfl)) pa_nil))))) (pss_one (ps_raiseM rfl rz (by exact (pmk_msg PySem.F.excBase_Exception T.xOutOfRange T.gOutOfRange T.kOutOfRange (raises_own T.bOutOfRange T.tOutOfRange) (pe_joined (PJ.cons pe_str (PJ.cons (pe_fmt (pe_fld (pv 2) rfl)) (PJ.cons pe_str PJ.nil)))))))) pss_nil) (pss_cons (ps_set (i := 3) sc_answer_key_door.nd rfl (Or.inl rfl) (pe_ix ix_tup (pe_ix ix_list (pv 1) pe_int (fun _ _ => rfl)) pe_int (fun _ _ => rfl))) (pss_cons (ps_set (i := 4) sc_answer_key_door.nd rfl (Or.inl rfl) (pe_ca c_room_between hr (by first | decide | omega) passN (pa_cons (pe_fld (pv 2) rfl) (pa_cons (pv 3) (pa_cons (pe_fld (pv 2) rfl) pa_nil))))) (pss_cons (ps_set (i := 5) sc_answer_key_door.nd rfl (Or.inl rfl) (pe_ca c_room_between hr (by first | decide | omega) passN (pa_cons (pv 3) (pa_cons (pe_fld (pv 2) rfl) (pa_cons (pe_fld (pv 2) rfl) pa_nil))))) (pss_cons (ps_fldaug (pv 2) pe_int in_add) (pss_cons (ps_if (pt_cmpR op_le (pv 4) (pv 5) (nomark _)) (pss_cons (ps_fld (pv 2) (pv 3) rfl) (pss_one (ps_ret (pe_ca c_integer_value hr (by first | decide | omega) passN (pa_cons (pv 4) pa_nil))))) pss_nil) (pss_cons (ps_fld (pv 2) (pv 3) rfl) (pss_one (ps_ret (pe_ca c_integer_value hr (by first | decide | omega) passN (pa_cons (pv 5) pa_nil)))))))))))), ?_⟩
  obtain ⟨sA, g, dx, lb, lg, w0, vb, vg, xs, l, c, rfl, W, hg, hx, hc, hin, q, qe⟩ := h
  obtain ⟨sl, hs1, hs2, hs3⟩ := bind_slot (taking_some (show Rust.taking 2 l ((Rust.slotAt l 0 1).bind fun s0 => some (.answer1 s0 (Rust.argAt l 1))) = some c from hc))
  cases hs3
  obtain ⟨hq, b, hwb, hba⟩ := hasGame_some (Bool.and_eq_true_iff.mp (show (R7290f.Spec.hasGame w0 sl && R7290f.Spec.fits _) = true from hin)).1
  obtain ⟨a, hvb, ⟨a', dy, y1, y2, ea, ha, hb1, hb2⟩, bok⟩ := W.getG hwb
  cases ea
  have hGm : GmAt z H (.ref a) b := ⟨a, dy, y1, y2, rfl, ha, hb1, hb2⟩
  obtain ⟨x0, e0, h0⟩ := hx 0 (by decide)
  obtain ⟨x1, e1, h1⟩ := hx 1 (by decide)
  rw [hs1] at h0
  obtain ⟨k0, ek0, t0, rfl, ht0⟩ := h0
  cases ek0
  have hl8 := bok.l8
  have hper : ∀ r, answerFn b (Rust.argAt l 1) = r → perform w0 (.answer1 sl (Rust.argAt l 1)) = orThrow w0 r fun a => (setGame w0 sl a.1, .ret a.2) := fun r hr => by
    show withSlot w0 (gameAt w0 sl) _ = _
    rw [hba]
    show orThrow w0 (answerFn b _) _ = _
    rw [hr]
  have hri := room_int b.limit bok.ob bok.oa bok.oo
  walk_at "ex"
  refine x_fl1 W.hs T.clS T.nSg sl_gms ?_
  walk_at "ex"
  refine x_ixL hg (atI_nat e0) ?_
  walk_at "ex"
  refine x_ixL (SqL.of W.hg) (atI_nat hvb) ?_
  walk_at "ex"
  refine x_fl1 ha T.clG T.nGb gm_bef ?_
  walk_at "ex"
  refine x_fl1 ha T.clG T.nGa gm_aft ?_
  walk_at "ex"
  refine x_fl1 ha T.clG T.nGl gm_lim ?_
  walk_at "ex"
  refine ⟨y1, y2, _, _, b.limit, rfl, hb1, hb2, bok.ob.dig, bok.oa.dig, by omega, ?_⟩
  rw [← hri]
  walk_at "ex"
  refine ite_d (fun c => ?_) (fun c => ?_)
  · have c0 : roomOf b = 0 := by
      show room b.limit b.before b.after = 0
      omega
    walk_at "ex"
    refine ⟨_, rfl, fun t ht => qe w0 (beyond "the game is over") ?_ t _ _ (same_new ht) upd_same (cI_lit "the game is over" (by decide +kernel)) (by rw [sz_lit]; decide +kernel)⟩
    rw [hper (.error (beyond "the game is over")) (by
      unfold R7290f.Spec.answerFn
      rw [if_pos c0]
      rfl)]
    rfl
  have c0 : ¬ roomOf b = 0 := by
    show ¬ room b.limit b.before b.after = 0
    omega
  walk_at "ex"
  refine x_ixL hg (atI_nat e1) ?_
  walk_at "ex"
  refine ⟨_, x1, b, _, rfl, hGm, bok, h1, ?_⟩
  walk_at "ex"
  cases e : answerIn b (Rust.argAt l 1) with
  | none =>
    refine ite_t rfl ?_
    walk_at "ex"
    have z1 : (Str.ofString "key must be a key of at most ").cps.size ≤ 100 := by rw [sz_lit]; decide +kernel
    have z2 : (Str.ofString " characters between the bounds").cps.size ≤ 100 := by rw [sz_lit]; decide +kernel
    have z3 : (Str.ofString (toString ((b.limit : Nat) : Int))).cps.size ≤ 3 := by rw [sz_lit]; exact digits_sz b.limit (by omega)
    have z0 : Str.empty.cps.size = 0 := rfl
    refine x_jy (by rw [sz_app]; omega) ?_
    walk_at "ex"
    refine x_fl1 ha T.clG T.nGl gm_lim ?_
    refine x_fI (by omega) ?_
    refine x_jy (by rw [sz_app, sz_app]; omega) ?_
    walk_at "ex"
    refine x_jy (by rw [sz_app, sz_app, sz_app]; omega) ?_
    walk_at "ex"
    refine ⟨_, rfl, fun t ht => qe w0 (beyond ("key must be a key of at most " ++ toString b.limit ++ " characters between the bounds")) ?_ t _ _ (same_new ht) upd_same ?_ (by rw [sz_app, sz_app, sz_app]; omega)⟩
    · rw [hper (.error (beyond ("key must be a key of at most " ++ toString b.limit ++ " characters between the bounds"))) (by
        unfold R7290f.Spec.answerFn
        rw [if_neg c0, e]
        rfl)]
      rfl
    · rw [cI_app, cI_app, cI_app, cI_num (by omega), cI_lit "key must be a key of at most " (by decide +kernel), cI_lit " characters between the bounds" (by decide +kernel)]
      show _ = uM ("key must be a key of at most " ++ toString b.limit ++ " characters between the bounds")
      rw [uM_app, uM_app]
      rfl
  | some k =>
    have hl20 : b.limit ≤ 20 := by omega
    have eA : perform w0 (.answer1 sl (Rust.argAt l 1)) = (setGame w0 sl (answerWith b k), .ret (R7290f.Spec.nat (roomOf (answerWith b k)))) := by
      rw [hper (.ok (answerWith b k, R7290f.Spec.nat (roomOf (answerWith b k)))) (by
        unfold R7290f.Spec.answerFn
        rw [if_neg c0, e])]
      rfl
    rw [answerIn_some hl20] at e
    cases ek : keyV b.limit (Rust.argAt l 1) with
    | none => rw [ek] at e; cases e
    | some k' =>
      rw [ek] at e
      dsimp only at e
      split at e
      · rename_i hbt
        cases e
        obtain ⟨u, eu, hk, hu, okk, hlk⟩ := keyV_some ek
        rw [eu] at h1
        obtain ⟨pk, ⟨t1, rfl, ht1⟩, hpk⟩ := h1
        rw [hu] at hpk
        have hkA : KAt H (.ref pk) k := ⟨pk, rfl, hpk⟩
        obtain ⟨o1, o2⟩ := between_ord hbt
        have hr1 := room_int b.limit bok.ob (BOk.some okk) o1
        have hr2 := room_int b.limit (BOk.some okk) bok.oa o2
        refine ite_f Bool.false_ne_true ?_
        walk_at "ex"
        refine x_ixL hg (atI_nat e1) ?_
        walk_at "ex"
        refine x_fl1 ha T.clG T.nGb gm_bef ?_
        walk_at "ex"
        refine x_fl1 ha T.clG T.nGl gm_lim ?_
        walk_at "ex"
        refine ⟨y1, .ref pk, _, some k, b.limit, rfl, hb1, hkA, bok.ob.dig, (BOk.some okk).dig, by omega, ?_⟩
        rw [← hr1]
        walk_at "ex"
        refine x_fl1 ha T.clG T.nGa gm_aft ?_
        walk_at "ex"
        refine x_fl1 ha T.clG T.nGl gm_lim ?_
        walk_at "ex"
        refine ⟨.ref pk, y2, some k, _, b.limit, rfl, hkA, hb2, (BOk.some okk).dig, bok.oa.dig, by omega, ?_⟩
        rw [← hr2]
        walk_at "ex"
        refine ⟨a, z.cG, dy, _, _, rfl, ha, T.clG, T.nGn, gm_ans, ?_⟩
        walk_at "ex"
        refine ⟨dy, _, ha, by show 4 < 1000; decide, ?_⟩
        have ea1 : ((b.answers : Nat) : Int) + 1 = ((b.answers + 1 : Nat) : Int) := rfl
        rw [ea1, put_answered]
        walk_at "ex"
        refine ite_d (fun c2 => ?_) (fun c2 => ?_)
        · have eW : answerWith b k = { b with after := some k, answers := b.answers + 1 } := if_pos (by omega)
          rw [eW] at eA
          walk_at "ex"
          refine ⟨a, z.cG, dy, _, rfl, upd_same, T.clG, T.nGa, by show 4 < 1000; decide, ?_⟩
          rw [put_after, upd_twice]
          have W3 := W.game (g' := { b with after := some k, answers := b.answers + 1 }) (x' := y1) (y' := .ref pk) hvb hwb ha hb1 hkA ⟨bok.l1, bok.l8, bok.ob, BOk.some okk, o1⟩
          walk_at "ex"
          refine ⟨_, rfl, fun x H5 s5 hx5 => ?_⟩
          exact q _ _ eA x H5 vb vg ((KpL.ins ha).trans (KpL.of s5)) (W3.same s5) hx5
        · have eW : answerWith b k = { b with before := some k, answers := b.answers + 1 } := if_neg (by omega)
          rw [eW] at eA
          walk_at "ex"
          refine ⟨a, z.cG, dy, _, rfl, upd_same, T.clG, T.nGb, by show 4 < 1000; decide, ?_⟩
          rw [put_before, upd_twice]
          have W3 := W.game (g' := { b with before := some k, answers := b.answers + 1 }) (x' := .ref pk) (y' := y2) hvb hwb ha hkA hb2 ⟨bok.l1, bok.l8, BOk.some okk, bok.oa, o2⟩
          walk_at "ex"
          refine ⟨_, rfl, fun x H5 s5 hx5 => ?_⟩
          exact q _ _ eA x H5 vb vg ((KpL.ins ha).trans (KpL.of s5)) (W3.same s5) hx5
      · cases e

end
end OK
namespace OK
open PySem PySem.Spec PyProof.Rows L2
open R7290f.Spec (Plain Units Bound Err units beyond wrong Call Ans perform limitArgument boundsArgument integerArgument keyValue keysValue room firstNumber endNumber keyBetween keysBetween middleKey keyOf leastDigits capacity keyBetweenFn keysBetweenFn middleKeyFn roomFn insertionsFn allKeysFn someKeys answer textOf)
theorem middle_dig {n : Nat} {a b : Bound} (hb : BOk b) (hr : 1 ≤ room n a b) : Dig (middleKey n a b) := keyOf_dig (middle_lt hb.dig hr)
theorem between_dig {a b : Bound} (ha : BOk a) (hb : BOk b) (o : Ord a b) : Dig (keyBetween a b) := by
  obtain ⟨e1, e2, e3, e4, _⟩ := least_spec (m := 1) ha hb o (Nat.le_refl _) (by decide)
  unfold R7290f.Spec.keyBetween
  rw [e1]
  exact middle_dig hb e4
theorem spread_dig {a b : Bound} {m : Nat} (ha : BOk a) (hb : BOk b) (o : Ord a b) (hm : m ≤ 1000) : ∀ k ∈ keysBetween a b m, Dig k := fun k hk => by
  by_cases h0 : m = 0
  · subst h0
    cases hk
  · obtain ⟨e1, e2, e3, e4, _⟩ := least_spec (m := m) ha hb o (by omega) hm
    have hk' : k ∈ (List.range m).map fun j => keyOf (leastDigits a b m) (firstNumber (leastDigits a b m) a - 1 + (j + 1) * (room (leastDigits a b m) a b + 1) / (m + 1)) := hk
    rw [e1] at hk'
    obtain ⟨j, hj, rfl⟩ := List.mem_map.mp hk'
    exact keyOf_dig (spread_lt ha.dig hb.dig e4 (List.mem_range.mp hj))
abbrev sp_shortest_key_door (z : Ads) (K : PySem.W.Frag) : Sp := DoorSp z K 0
abbrev sp_many_keys_door (z : Ads) (K : PySem.W.Frag) : Sp := DoorSp z K 1
abbrev sp_middle_door (z : Ads) (K : PySem.W.Frag) : Sp := DoorSp z K 2
abbrev sp_room_door (z : Ads) (K : PySem.W.Frag) : Sp := DoorSp z K 3
abbrev sp_insertions_door (z : Ads) (K : PySem.W.Frag) : Sp := DoorSp z K 4
abbrev sp_some_keys_door (z : Ads) (K : PySem.W.Frag) : Sp := DoorSp z K 5
/-! shortest_key_door -/
abbrev s_shortest_key_door : Stmt := top 93
abbrev N_shortest_key_door : List Str := ["slots", "given", "before", "after"]
theorem sc_shortest_key_door : FnScope N_shortest_key_door ["slots", "given"] (defScope s_shortest_key_door) := ⟨rfl, rfl, rfl, by decide +kernel, rfl, by decide +kernel, by decide +kernel⟩
section
variable {P : Program} {w : World} {K : PySem.W.Frag} {mg : Str → Option Value} {base : Heap}
theorem ca_shortest_key_door (F : Df K mg "shortest_key_door" s_shortest_key_door ["slots", "given"]) {z : Ads} (T : Gb K mg z)  (c_text_value : Ca P w K mg base 1 "text_value" (sp_text_value K)) (c_shortest_key : Ca P w K mg base 6 "shortest_key" (sp_shortest_key K)) (c_bounds_of : Ca P w K mg base 5 "bounds_of" (sp_bounds_of z K)) : Ca P w K mg base 7 "shortest_key_door" (sp_shortest_key_door z K) := by
  refine ca_mk F sc_shortest_key_door (fun vs H Q E h => by
    obtain ⟨_, _, _, _, _, _, _, _, _, _, _, rfl, _⟩ := h
    rfl
    ) (fun f cdv A outer s H vs Q E hr h => ?_)
  refine ⟨_, pss_cons (ps_asg (pe_ca c_bounds_of hr (by first | decide | omega) rz.pass (pa_cons (pe_ix ix_list (pv 1) pe_int (fun _ _ => rfl)) (pa_cons (pe_ix ix_list (pv 1) pe_int (fun _ _ => rfl)) pa_nil))) (pg_tup rfl (pgs_cons (pg_name (i := 2) sc_shortest_key_door.nd rfl (Or.inl rfl)) (pgs_cons (pg_name (i := 3) sc_shortest_key_door.nd rfl (Or.inl rfl)) pgs_nil)))) (pss_one (ps_ret (pe_ca c_text_value hr (by first | decide | omega) passN (pa_cons (pe_ca c_shortest_key hr (by first | decide | omega) passN (pa_cons (pv 2) (pa_cons (pv 3) pa_nil))) pa_nil)))), ?_⟩
  obtain ⟨sA, g, dx, lb, lg, w0, vb, vg, xs, l, c, rfl, W, hg, hx, hc, hin, q, qe⟩ := h
  have hs3 := taking_some (show Rust.taking 2 l (some (.keyBetween1 (Rust.argAt l 0) (Rust.argAt l 1))) = some c from hc)
  cases hs3
  obtain ⟨x0, e0, h0⟩ := hx 0 (by decide)
  obtain ⟨x1, e1, h1⟩ := hx 1 (by decide)
  walk_at "ex"
  refine x_ixL hg (atI_nat e0) ?_
  walk_at "ex"
  refine x_ixL hg (atI_nat e1) ?_
  walk_at "ex"
  refine ⟨x0, x1, _, _, rfl, h0, h1, fun a b TT y1 y2 H1 hab oa ob oo s1 hTT hy1 hy2 => ?_, fun er he => qe w0 er (by
    show (w0, answer id (keyBetweenFn _ _)) = _
    unfold R7290f.Spec.keyBetweenFn
    rw [he]
    rfl)⟩
  walk_at "ex"
  refine ⟨y1, y2, a, b, rfl, hy1, hy2, oa, ob, oo, fun p H2 s2 hp => ?_⟩
  walk_at "ex"
  refine ⟨p, textOf (keyBetween a b), rfl, by rw [uI_textOf (between_dig oa ob oo)]; exact hp, fun x H3 s3 hx3 => ?_⟩
  have sZ := s1.trans (s2.trans s3)
  refine q w0 (keyValue (keyBetween a b)) (by
    show (w0, answer id (keyBetweenFn _ _)) = _
    unfold R7290f.Spec.keyBetweenFn
    rw [hab]
    rfl) x H3 vb vg (KpL.of sZ) (W.same sZ) hx3
end
/-! many_keys_door -/
abbrev s_many_keys_door : Stmt := top 94
abbrev N_many_keys_door : List Str := ["slots", "given", "before", "after", "count"]
theorem sc_many_keys_door : FnScope N_many_keys_door ["slots", "given"] (defScope s_many_keys_door) := ⟨rfl, rfl, rfl, by decide +kernel, rfl, by decide +kernel, by decide +kernel⟩
section
variable {P : Program} {w : World} {K : PySem.W.Frag} {mg : Str → Option Value} {base : Heap}
theorem ca_many_keys_door (F : Df K mg "many_keys_door" s_many_keys_door ["slots", "given"]) {z : Ads} (T : Gb K mg z)  (c_texts_value : Ca P w K mg base 1 "texts_value" (sp_texts_value K)) (c_spread_keys : Ca P w K mg base 6 "spread_keys" (sp_spread_keys K)) (c_integer_of : Ca P w K mg base 2 "integer_of" (sp_integer_of z K)) (c_bounds_of : Ca P w K mg base 5 "bounds_of" (sp_bounds_of z K)) : Ca P w K mg base 7 "many_keys_door" (sp_many_keys_door z K) := by
  refine ca_mk F sc_many_keys_door (fun vs H Q E h => by
    obtain ⟨_, _, _, _, _, _, _, _, _, _, _, rfl, _⟩ := h
    rfl
    ) (fun f cdv A outer s H vs Q E hr h => ?_)
  refine ⟨_, pss_cons (ps_asg (pe_ca c_bounds_of hr (by first | decide | omega) rz.pass (pa_cons (pe_ix ix_list (pv 1) pe_int (fun _ _ => rfl)) (pa_cons (pe_ix ix_list (pv 1) pe_int (fun _ _ => rfl)) pa_nil))) (pg_tup rfl (pgs_cons (pg_name (i := 2) sc_many_keys_door.nd rfl (Or.inl rfl)) (pgs_cons (pg_name (i := 3) sc_many_keys_door.nd rfl (Or.inl rfl)) pgs_nil)))) (pss_cons (ps_set (i := 4) sc_many_keys_door.nd rfl (Or.inl rfl) (pe_ca c_integer_of hr (by first | decide | omega) rz.pass (pa_cons (pe_ix ix_list (pv 1) pe_int (fun _ _ => rfl)) (pa_cons pe_str (pa_cons pe_int (pa_cons pe_int pa_nil)))))) (pss_one (ps_ret (pe_ca c_texts_value hr (by first | decide | omega) passN (pa_cons (pe_ca c_spread_keys hr (by first | decide | omega) passN (pa_cons (pv 2) (pa_cons (pv 3) (pa_cons (pv 4) pa_nil)))) pa_nil))))), ?_⟩
  obtain ⟨sA, g, dx, lb, lg, w0, vb, vg, xs, l, c, rfl, W, hg, hx, hc, hin, q, qe⟩ := h
  have hs3 := taking_some (show Rust.taking 3 l (some (.keysBetween1 (Rust.argAt l 0) (Rust.argAt l 1) (Rust.argAt l 2))) = some c from hc)
  cases hs3
  obtain ⟨x0, e0, h0⟩ := hx 0 (by decide)
  obtain ⟨x1, e1, h1⟩ := hx 1 (by decide)
  obtain ⟨x2, e2, h2⟩ := hx 2 (by decide)
  walk_at "ex"
  refine x_ixL hg (atI_nat e0) ?_
  walk_at "ex"
  refine x_ixL hg (atI_nat e1) ?_
  walk_at "ex"
  refine ⟨x0, x1, _, _, rfl, h0, h1, fun a b TT y1 y2 H1 hab oa ob oo s1 hTT hy1 hy2 => ?_, fun er he => qe w0 er (by
    show (w0, answer id (keysBetweenFn _ _ _)) = _
    unfold R7290f.Spec.keysBetweenFn
    rw [he]
    rfl)⟩
  have hg1 := sqL_same s1 hg
  walk_at "ex"
  refine x_ixL hg1 (atI_nat e2) ?_
  walk_at "ex"
  refine ⟨x2, _, _, "count", 0, 60, rfl, VAt.kp (Kp.of s1) h2, cI_lit "count" (by decide +kernel), by rw [sz_lit]; decide +kernel, by decide, by decide, fun n en n0 n60 _ => ?_, fun er he => (qe w0 er (by
    show (w0, answer id (keysBetweenFn _ _ _)) = _
    unfold R7290f.Spec.keysBetweenFn
    rw [hab]
    show (w0, answer id (R7290f.Spec.andThen (integerArgument "count" 0 60 _) _)) = _
    rw [he]
    rfl)).back s1⟩
  walk_at "ex"
  refine ⟨y1, y2, a, b, n, rfl, hy1, hy2, oa, ob, oo, by omega, fun D H2 ys hD s2 hy hk => ?_⟩
  walk_at "ex"
  refine ⟨D, ys, (keysBetween a b n).map textOf, rfl, SqL.of hy, hk.ul (spread_dig oa ob oo (by omega)), by rw [List.length_map, between_len]; omega, fun x H3 s3 hx3 => ?_⟩
  have sZ := s1.trans (s2.trans s3)
  refine q w0 (keysValue (keysBetween a b n)) (by
    show (w0, answer id (keysBetweenFn _ _ _)) = _
    unfold R7290f.Spec.keysBetweenFn
    rw [hab]
    show (w0, answer id (R7290f.Spec.andThen (integerArgument "count" 0 60 _) _)) = _
    rw [en]
    rfl) x H3 vb vg (KpL.of sZ) (W.same sZ) ?_
  rw [List.map_map] at hx3
  exact hx3
end
/-! middle_door -/
abbrev s_middle_door : Stmt := top 95
abbrev N_middle_door : List Str := ["slots", "given", "before", "after", "limit"]
theorem sc_middle_door : FnScope N_middle_door ["slots", "given"] (defScope s_middle_door) := ⟨rfl, rfl, rfl, by decide +kernel, rfl, by decide +kernel, by decide +kernel⟩
section
variable {P : Program} {w : World} {K : PySem.W.Frag} {mg : Str → Option Value} {base : Heap}
theorem ca_middle_door (F : Df K mg "middle_door" s_middle_door ["slots", "given"]) {z : Ads} (T : Gb K mg z)  (c_text_value : Ca P w K mg base 1 "text_value" (sp_text_value K)) (c_middle_key : Ca P w K mg base 5 "middle_key" (sp_middle_key K)) (c_room_between : Ca P w K mg base 4 "room_between" (sp_room_between K)) (c_limit_of : Ca P w K mg base 3 "limit_of" (sp_limit_of z K)) (c_bounds_of : Ca P w K mg base 5 "bounds_of" (sp_bounds_of z K)) : Ca P w K mg base 6 "middle_door" (sp_middle_door z K) := by
  refine ca_mk F sc_middle_door (fun vs H Q E h => by
    obtain ⟨_, _, _, _, _, _, _, _, _, _, _, rfl, _⟩ := h
    rfl
    ) (fun f cdv A outer s H vs Q E hr h => ?_)
  refine ⟨_, pss_cons (ps_asg (pe_ca c_bounds_of hr (by first | decide | omega) rz.pass (pa_cons (pe_ix ix_list (pv 1) pe_int (fun _ _ => rfl)) (pa_cons (pe_ix ix_list (pv 1) pe_int (fun _ _ => rfl)) pa_nil))) (pg_tup rfl (pgs_cons (pg_name (i := 2) sc_middle_door.nd rfl (Or.inl rfl)) (pgs_cons (pg_name (i := 3) sc_middle_door.nd rfl (Or.inl rfl)) pgs_nil)))) (pss_cons (ps_set (i := 4) sc_middle_door.nd rfl (Or.inl rfl) (pe_ca c_limit_of hr (by first | decide | omega) rz.pass (pa_cons (pe_ix ix_list (pv 1) pe_int (fun _ _ => rfl)) pa_nil))) (pss_cons (ps_if (pt_cmpR op_eq (pe_ca c_room_between hr (by first | decide | omega) passN (pa_cons (pv 2) (pa_cons (pv 3) (pa_cons (pv 4) pa_nil)))) pe_int (nomark _)) (pss_one (ps_ret (pe_gk T.cNULL))) pss_nil) (pss_one (ps_ret (pe_ca c_text_value hr (by first | decide | omega) passN (pa_cons (pe_ca c_middle_key hr (by first | decide | omega) passN (pa_cons (pv 2) (pa_cons (pv 3) (pa_cons (pv 4) pa_nil)))) pa_nil)))))), ?_⟩
  obtain ⟨sA, g, dx, lb, lg, w0, vb, vg, xs, l, c, rfl, W, hg, hx, hc, hin, q, qe⟩ := h
  have hs3 := taking_some (show Rust.taking 3 l (some (.middleKey1 (Rust.argAt l 0) (Rust.argAt l 1) (Rust.argAt l 2))) = some c from hc)
  cases hs3
  obtain ⟨x0, e0, h0⟩ := hx 0 (by decide)
  obtain ⟨x1, e1, h1⟩ := hx 1 (by decide)
  obtain ⟨x2, e2, h2⟩ := hx 2 (by decide)
  walk_at "ex"
  refine x_ixL hg (atI_nat e0) ?_
  walk_at "ex"
  refine x_ixL hg (atI_nat e1) ?_
  walk_at "ex"
  refine ⟨x0, x1, _, _, rfl, h0, h1, fun a b TT y1 y2 H1 hab oa ob oo s1 hTT hy1 hy2 => ?_, fun er he => qe w0 er (by
    show (w0, answer id (middleKeyFn _ _ _)) = _
    unfold R7290f.Spec.middleKeyFn
    rw [he]
    rfl)⟩
  have hg1 := sqL_same s1 hg
  walk_at "ex"
  refine x_ixL hg1 (atI_nat e2) ?_
  walk_at "ex"
  refine ⟨x2, _, rfl, VAt.kp (Kp.of s1) h2, fun n en n1 n8 => ?_, fun er he => (qe w0 er (by
    show (w0, answer id (middleKeyFn _ _ _)) = _
    unfold R7290f.Spec.middleKeyFn
    rw [hab]
    show (w0, answer id (R7290f.Spec.andThen (limitArgument _) _)) = _
    rw [he]
    rfl)).back s1⟩
  have eP : perform w0 (.middleKey1 (Rust.argAt l 0) (Rust.argAt l 1) (Rust.argAt l 2)) = (w0, .ret (if room n a b = 0 then .null else keyValue (middleKey n a b))) := by
    show (w0, answer id (middleKeyFn _ _ _)) = _
    unfold R7290f.Spec.middleKeyFn
    rw [hab]
    show (w0, answer id (R7290f.Spec.andThen (limitArgument _) _)) = _
    rw [en]
    rfl
  have hri := room_int n oa ob oo
  walk_at "ex"
  refine ⟨y1, y2, a, b, n, rfl, hy1, hy2, oa.dig, ob.dig, by omega, ?_⟩
  rw [← hri]
  walk_at "ex"
  refine ite_d (fun c => ?_) (fun c => ?_)
  · rw [if_pos (by omega)] at eP
    walk_at "ex"
    exact q w0 _ eP _ _ vb vg (KpL.of s1) (W.same s1) ⟨z.aU, rfl, T.tU H1⟩
  · rw [if_neg (by omega)] at eP
    walk_at "ex"
    refine ⟨y1, y2, a, b, n, rfl, hy1, hy2, oa, ob, oo, by omega, by omega, fun p H2 s2 hp => ?_⟩
    walk_at "ex"
    refine ⟨p, textOf (middleKey n a b), rfl, by rw [uI_textOf (middle_dig ob (by omega))]; exact hp, fun x H3 s3 hx3 => ?_⟩
    have sZ := s1.trans (s2.trans s3)
    exact q w0 _ eP x H3 vb vg (KpL.of sZ) (W.same sZ) hx3
end
/-! room_door -/
abbrev s_room_door : Stmt := top 96
abbrev N_room_door : List Str := ["slots", "given", "before", "after", "limit"]
theorem sc_room_door : FnScope N_room_door ["slots", "given"] (defScope s_room_door) := ⟨rfl, rfl, rfl, by decide +kernel, rfl, by decide +kernel, by decide +kernel⟩
section
variable {P : Program} {w : World} {K : PySem.W.Frag} {mg : Str → Option Value} {base : Heap}
theorem ca_room_door (F : Df K mg "room_door" s_room_door ["slots", "given"]) {z : Ads} (T : Gb K mg z)  (c_integer_value : Ca P w K mg base 1 "integer_value" (sp_integer_value K)) (c_room_between : Ca P w K mg base 4 "room_between" (sp_room_between K)) (c_limit_of : Ca P w K mg base 3 "limit_of" (sp_limit_of z K)) (c_bounds_of : Ca P w K mg base 5 "bounds_of" (sp_bounds_of z K)) : Ca P w K mg base 6 "room_door" (sp_room_door z K) := by
  refine ca_mk F sc_room_door (fun vs H Q E h => by
    obtain ⟨_, _, _, _, _, _, _, _, _, _, _, rfl, _⟩ := h
    rfl
    ) (fun f cdv A outer s H vs Q E hr h => ?_)
  refine ⟨_, pss_cons (ps_asg (pe_ca c_bounds_of hr (by first | decide | omega) rz.pass (pa_cons (pe_ix ix_list (pv 1) pe_int (fun _ _ => rfl)) (pa_cons (pe_ix ix_list (pv 1) pe_int (fun _ _ => rfl)) pa_nil))) (pg_tup rfl (pgs_cons (pg_name (i := 2) sc_room_door.nd rfl (Or.inl rfl)) (pgs_cons (pg_name (i := 3) sc_room_door.nd rfl (Or.inl rfl)) pgs_nil)))) (pss_cons (ps_set (i := 4) sc_room_door.nd rfl (Or.inl rfl) (pe_ca c_limit_of hr (by first | decide | omega) rz.pass (pa_cons (pe_ix ix_list (pv 1) pe_int (fun _ _ => rfl)) pa_nil))) (pss_one (ps_ret (pe_ca c_integer_value hr (by first | decide | omega) passN (pa_cons (pe_ca c_room_between hr (by first | decide | omega) passN (pa_cons (pv 2) (pa_cons (pv 3) (pa_cons (pv 4) pa_nil)))) pa_nil))))), ?_⟩
  obtain ⟨sA, g, dx, lb, lg, w0, vb, vg, xs, l, c, rfl, W, hg, hx, hc, hin, q, qe⟩ := h
  have hs3 := taking_some (show Rust.taking 3 l (some (.room1 (Rust.argAt l 0) (Rust.argAt l 1) (Rust.argAt l 2))) = some c from hc)
  cases hs3
  obtain ⟨x0, e0, h0⟩ := hx 0 (by decide)
  obtain ⟨x1, e1, h1⟩ := hx 1 (by decide)
  obtain ⟨x2, e2, h2⟩ := hx 2 (by decide)
  walk_at "ex"
  refine x_ixL hg (atI_nat e0) ?_
  walk_at "ex"
  refine x_ixL hg (atI_nat e1) ?_
  walk_at "ex"
  refine ⟨x0, x1, _, _, rfl, h0, h1, fun a b TT y1 y2 H1 hab oa ob oo s1 hTT hy1 hy2 => ?_, fun er he => qe w0 er (by
    show (w0, answer id (roomFn _ _ _)) = _
    unfold R7290f.Spec.roomFn
    rw [he]
    rfl)⟩
  have hg1 := sqL_same s1 hg
  walk_at "ex"
  refine x_ixL hg1 (atI_nat e2) ?_
  walk_at "ex"
  refine ⟨x2, _, rfl, VAt.kp (Kp.of s1) h2, fun n en n1 n8 => ?_, fun er he => (qe w0 er (by
    show (w0, answer id (roomFn _ _ _)) = _
    unfold R7290f.Spec.roomFn
    rw [hab]
    show (w0, answer id (R7290f.Spec.andThen (limitArgument _) _)) = _
    rw [he]
    rfl)).back s1⟩
  have hri := room_int n oa ob oo
  walk_at "ex"
  refine ⟨y1, y2, a, b, n, rfl, hy1, hy2, oa.dig, ob.dig, by omega, ?_⟩
  rw [← hri]
  walk_at "ex"
  refine ⟨_, rfl, fun x H3 s3 hx3 => ?_⟩
  have sZ := s1.trans s3
  exact q w0 (R7290f.Spec.nat (room n a b)) (by
    show (w0, answer id (roomFn _ _ _)) = _
    unfold R7290f.Spec.roomFn
    rw [hab]
    show (w0, answer id (R7290f.Spec.andThen (limitArgument _) _)) = _
    rw [en]
    rfl) x H3 vb vg (KpL.of sZ) (W.same sZ) hx3
end
/-! insertions_door -/
abbrev s_insertions_door : Stmt := top 97
abbrev N_insertions_door : List Str := ["slots", "given", "before", "after", "limit"]
theorem sc_insertions_door : FnScope N_insertions_door ["slots", "given"] (defScope s_insertions_door) := ⟨rfl, rfl, rfl, by decide +kernel, rfl, by decide +kernel, by decide +kernel⟩
section
variable {P : Program} {w : World} {K : PySem.W.Frag} {mg : Str → Option Value} {base : Heap}
theorem ca_insertions_door (F : Df K mg "insertions_door" s_insertions_door ["slots", "given"]) {z : Ads} (T : Gb K mg z)  (c_integer_value : Ca P w K mg base 1 "integer_value" (sp_integer_value K)) (c_halvings : Ca P w K mg base 1 "halvings" (sp_halvings K)) (c_room_between : Ca P w K mg base 4 "room_between" (sp_room_between K)) (c_limit_of : Ca P w K mg base 3 "limit_of" (sp_limit_of z K)) (c_bounds_of : Ca P w K mg base 5 "bounds_of" (sp_bounds_of z K)) : Ca P w K mg base 6 "insertions_door" (sp_insertions_door z K) := by
  refine ca_mk F sc_insertions_door (fun vs H Q E h => by
    obtain ⟨_, _, _, _, _, _, _, _, _, _, _, rfl, _⟩ := h
    rfl
    ) (fun f cdv A outer s H vs Q E hr h => ?_)
  refine ⟨_, pss_cons (ps_asg (pe_ca c_bounds_of hr (by first | decide | omega) rz.pass (pa_cons (pe_ix ix_list (pv 1) pe_int (fun _ _ => rfl)) (pa_cons (pe_ix ix_list (pv 1) pe_int (fun _ _ => rfl)) pa_nil))) (pg_tup rfl (pgs_cons (pg_name (i := 2) sc_insertions_door.nd rfl (Or.inl rfl)) (pgs_cons (pg_name (i := 3) sc_insertions_door.nd rfl (Or.inl rfl)) pgs_nil)))) (pss_cons (ps_set (i := 4) sc_insertions_door.nd rfl (Or.inl rfl) (pe_ca c_limit_of hr (by first | decide | omega) rz.pass (pa_cons (pe_ix ix_list (pv 1) pe_int (fun _ _ => rfl)) pa_nil))) (pss_one (ps_ret (pe_ca c_integer_value hr (by first | decide | omega) passN (pa_cons (pe_ca c_halvings hr (by first | decide | omega) passN (pa_cons (pe_ca c_room_between hr (by first | decide | omega) passN (pa_cons (pv 2) (pa_cons (pv 3) (pa_cons (pv 4) pa_nil)))) pa_nil)) pa_nil))))), ?_⟩
  obtain ⟨sA, g, dx, lb, lg, w0, vb, vg, xs, l, c, rfl, W, hg, hx, hc, hin, q, qe⟩ := h
  have hs3 := taking_some (show Rust.taking 3 l (some (.insertions1 (Rust.argAt l 0) (Rust.argAt l 1) (Rust.argAt l 2))) = some c from hc)
  cases hs3
  obtain ⟨x0, e0, h0⟩ := hx 0 (by decide)
  obtain ⟨x1, e1, h1⟩ := hx 1 (by decide)
  obtain ⟨x2, e2, h2⟩ := hx 2 (by decide)
  walk_at "ex"
  refine x_ixL hg (atI_nat e0) ?_
  walk_at "ex"
  refine x_ixL hg (atI_nat e1) ?_
  walk_at "ex"
  refine ⟨x0, x1, _, _, rfl, h0, h1, fun a b TT y1 y2 H1 hab oa ob oo s1 hTT hy1 hy2 => ?_, fun er he => qe w0 er (by
    show (w0, answer id (insertionsFn _ _ _)) = _
    unfold R7290f.Spec.insertionsFn
    rw [he]
    rfl)⟩
  have hg1 := sqL_same s1 hg
  walk_at "ex"
  refine x_ixL hg1 (atI_nat e2) ?_
  walk_at "ex"
  refine ⟨x2, _, rfl, VAt.kp (Kp.of s1) h2, fun n en n1 n8 => ?_, fun er he => (qe w0 er (by
    show (w0, answer id (insertionsFn _ _ _)) = _
    unfold R7290f.Spec.insertionsFn
    rw [hab]
    show (w0, answer id (R7290f.Spec.andThen (limitArgument _) _)) = _
    rw [he]
    rfl)).back s1⟩
  have hri := room_int n oa ob oo
  walk_at "ex"
  refine ⟨y1, y2, a, b, n, rfl, hy1, hy2, oa.dig, ob.dig, by omega, ?_⟩
  rw [← hri]
  walk_at "ex"
  refine ⟨room n a b, rfl, ?_⟩
  walk_at "ex"
  refine ⟨_, rfl, fun x H3 s3 hx3 => ?_⟩
  have sZ := s1.trans s3
  exact q w0 (R7290f.Spec.nat (capacity (room n a b))) (by
    show (w0, answer id (insertionsFn _ _ _)) = _
    unfold R7290f.Spec.insertionsFn
    rw [hab]
    show (w0, answer id (R7290f.Spec.andThen (limitArgument _) _)) = _
    rw [en]
    rfl) x H3 vb vg (KpL.of sZ) (W.same sZ) hx3
end
/-! some_keys_door -/
abbrev s_some_keys_door : Stmt := top 98
abbrev N_some_keys_door : List Str := ["slots", "given", "before", "after", "limit", "first", "behind", "number"]
theorem sc_some_keys_door : FnScope N_some_keys_door ["slots", "given"] (defScope s_some_keys_door) := ⟨rfl, rfl, rfl, by decide +kernel, rfl, by decide +kernel, by decide +kernel⟩
section
variable {P : Program} {w : World} {K : PySem.W.Frag} {mg : Str → Option Value} {base : Heap}
theorem ca_some_keys_door (F : Df K mg "some_keys_door" s_some_keys_door ["slots", "given"]) {z : Ads} (T : Gb K mg z)  (c_texts_value : Ca P w K mg base 1 "texts_value" (sp_texts_value K)) (c_key_of : Ca P w K mg base 2 "key_of" (sp_key_of K)) (c_number_behind : Ca P w K mg base 3 "number_behind" (sp_number_behind K)) (c_lowest_number : Ca P w K mg base 3 "lowest_number" (sp_lowest_number K)) (c_limit_of : Ca P w K mg base 3 "limit_of" (sp_limit_of z K)) (c_bounds_of : Ca P w K mg base 5 "bounds_of" (sp_bounds_of z K)) : Ca P w K mg base 6 "some_keys_door" (sp_some_keys_door z K) := by
  refine ca_mk F sc_some_keys_door (fun vs H Q E h => by
    obtain ⟨_, _, _, _, _, _, _, _, _, _, _, rfl, _⟩ := h
    rfl
    ) (fun f cdv A outer s H vs Q E hr h => ?_)
  refine ⟨_, pss_cons (ps_asg (pe_ca c_bounds_of hr (by first | decide | omega) rz.pass (pa_cons (pe_ix ix_list (pv 1) pe_int (fun _ _ => rfl)) (pa_cons (pe_ix ix_list (pv 1) pe_int (fun _ _ => rfl)) pa_nil))) (pg_tup rfl (pgs_cons (pg_name (i := 2) sc_some_keys_door.nd rfl (Or.inl rfl)) (pgs_cons (pg_name (i := 3) sc_some_keys_door.nd rfl (Or.inl rfl)) pgs_nil)))) (pss_cons (ps_set (i := 4) sc_some_keys_door.nd rfl (Or.inr rfl) (pe_ca c_limit_of hr (by first | decide | omega) rz.pass (pa_cons (pe_ix ix_list (pv 1) pe_int (fun _ _ => rfl)) pa_nil))) (pss_cons (ps_set (i := 5) sc_some_keys_door.nd rfl (Or.inl rfl) (pe_op op_add (pe_ca c_lowest_number hr (by first | decide | omega) passN (pa_cons (pv 2) (pa_cons (pv 4) pa_nil))) (pe_ix ix_tup (pe_ix ix_list (pv 1) pe_int (fun _ _ => rfl)) pe_int (fun _ _ => rfl)))) (pss_cons (ps_set (i := 6) sc_some_keys_door.nd rfl (Or.inl rfl) (pe_callB (call_min2 rfl) (by rfl) T.min (by decide +kernel) (pa_cons (pe_ca c_number_behind hr (by first | decide | omega) passN (pa_cons (pv 3) (pa_cons (pv 4) pa_nil))) (pa_cons (pe_op op_add (pv 5) (pe_ix ix_tup (pe_ix ix_list (pv 1) pe_int (fun _ _ => rfl)) pe_int (fun _ _ => rfl))) pa_nil)))) (pss_one (ps_ret (pe_ca c_texts_value hr (by first | decide | omega) passN (pa_cons (pe_lc (own := [("number", 7)]) (g := (gName 7)) (tt := tYes) rfl sc_some_keys_door.nd (pi_range2 (by rfl) T.range (pa_cons (pv 5) (pa_cons (pv 6) pa_nil))) (blkOk_by (own := [("number", 7)]) (N := N_some_keys_door) (sc := defScope s_some_keys_door) (by decide +kernel)) (fun _ _ _ _ _ => (pg_name (i := 7) sc_some_keys_door.nd rfl (Or.inl rfl))) (fun _ _ _ _ _ => pts_nil) (fun _ _ _ _ _ => (pe_ca c_key_of hr (by first | decide | omega) passN (pa_cons (pv 7) (pa_cons (pv 4) pa_nil))))) pa_nil))))))), ?_⟩
  obtain ⟨sA, g, dx, lb, lg, w0, vb, vg, xs, l, c, rfl, W, hg, hx, hc, hin, q, qe⟩ := h
  obtain ⟨skip, ha3, hk3, hs4⟩ := bind_slot (taking_some (show Rust.taking 5 l ((Rust.slotAt l 3 1000).bind fun s3 => (Rust.slotAt l 4 60).bind fun s4 => some (.allKeys1 (Rust.argAt l 0) (Rust.argAt l 1) (Rust.argAt l 2) s3 s4)) = some c from hc))
  obtain ⟨count, ha4, hk4, hs5⟩ := bind_slot hs4
  cases hs5
  obtain ⟨x0, e0, h0⟩ := hx 0 (by decide)
  obtain ⟨x1, e1, h1⟩ := hx 1 (by decide)
  obtain ⟨x2, e2, h2⟩ := hx 2 (by decide)
  obtain ⟨x3, e3, h3⟩ := hx 3 (by decide)
  obtain ⟨x4, e4, h4⟩ := hx 4 (by decide)
  rw [ha3] at h3
  obtain ⟨k3, ek3, t3, rfl, ht3⟩ := h3
  cases ek3
  rw [ha4] at h4
  obtain ⟨k4, ek4, t4, rfl, ht4⟩ := h4
  cases ek4
  walk_at "ex"
  refine x_ixL hg (atI_nat e0) ?_
  walk_at "ex"
  refine x_ixL hg (atI_nat e1) ?_
  walk_at "ex"
  refine ⟨x0, x1, _, _, rfl, h0, h1, fun a b TT y1 y2 H1 hab oa ob oo s1 hTT hy1 hy2 => ?_, fun er he => qe w0 er (by
    show (w0, answer id (allKeysFn _ _ _ _ _)) = _
    unfold R7290f.Spec.allKeysFn
    rw [he]
    rfl)⟩
  have hg1 := sqL_same s1 hg
  have ht3' := sqT_same s1 ht3
  have ht4' := sqT_same s1 ht4
  walk_at "ex"
  refine x_ixL hg1 (atI_nat e2) ?_
  walk_at "ex"
  refine ⟨x2, _, rfl, VAt.kp (Kp.of s1) h2, fun n en n1 n8 => ?_, fun er he => (qe w0 er (by
    show (w0, answer id (allKeysFn _ _ _ _ _)) = _
    unfold R7290f.Spec.allKeysFn
    rw [hab]
    show (w0, answer id (R7290f.Spec.andThen (limitArgument _) _)) = _
    rw [he]
    rfl)).back s1⟩
  have hri := room_int n oa ob oo
  have hend := end_le n ob.dig
  have hfst := first_le n oa.dig
  have hpw : 36 ^ n ≤ 36 ^ 8 := Nat.pow_le_pow_right (by decide) n8
  walk_at "ex"
  refine ⟨y1, a, n, rfl, hy1, oa.dig, by omega, ?_⟩
  walk_at "ex"
  refine x_ixL hg1 (atI_nat e3) ?_
  walk_at "ex"
  refine ⟨y2, b, n, rfl, hy2, ob.dig, by omega, ?_⟩
  walk_at "ex"
  refine x_ixL hg1 (atI_nat e4) ?_
  walk_at "ex"
  refine ⟨_, _, rfl, ?_⟩
  have hroom : room n a b = endNumber n b - firstNumber n a := rfl
  walk_at "ex"
  refine x_lcr2 ((firstNumber n a : Int) + (skip : Int)) (min count (room n a b - skip)) rfl ?_ ?_ (by omega) (fun H i v => KAt H v (keyOf n (firstNumber n a + skip + i))) (fun H H' i v k h => h.kp k) (fun i H' hi s Q' hQ => ?_) (fun D H' ys hD s hy it => ?_)
  · split <;> omega
  · split <;> omega
  · walk_at "ex"
    refine ⟨rfl, ?_⟩
    walk_at "ex"
    exact ⟨firstNumber n a + skip + i, n, rfl, by omega, by omega, fun p H4 s4 hp => hQ _ _ s4 ⟨p, rfl, hp⟩⟩
  walk_at "ex"
  have hkl : KL H' ys (someKeys n a b skip count) := by
    refine ⟨by rw [it.1]; show _ = ((List.range _).map _).length; rw [List.length_map, List.length_range], fun i v k f1 f2 => ?_⟩
    have hi : i < min count (room n a b - skip) := by
      rw [← it.1]
      exact (List.getElem?_eq_some_iff.mp f1).1
    have f3 : ((List.range (min count (room n a b - skip))).map fun j => keyOf n (firstNumber n a + skip + j))[i]? = some k := f2
    rw [List.getElem?_map, List.getElem?_range hi] at f3
    cases f3
    exact it.2 i v f1
  refine ⟨D, ys, (someKeys n a b skip count).map textOf, rfl, SqL.of hy, hkl.ul (fun k hk => ?_), ?_, fun x H3 s3 hx3 => ?_⟩
  · have hk' : k ∈ (List.range (min count (room n a b - skip))).map fun j => keyOf n (firstNumber n a + skip + j) := hk
    obtain ⟨j, hj, rfl⟩ := List.mem_map.mp hk'
    have := List.mem_range.mp hj
    exact keyOf_dig (by omega)
  · rw [List.length_map]
    show ((List.range _).map _).length ≤ _
    rw [List.length_map, List.length_range]
    omega
  · have sZ := s1.trans (s.trans s3)
    refine q w0 (keysValue (someKeys n a b skip count)) (by
      show (w0, answer id (allKeysFn _ _ _ _ _)) = _
      unfold R7290f.Spec.allKeysFn
      rw [hab]
      show (w0, answer id (R7290f.Spec.andThen (limitArgument _) _)) = _
      rw [en]
      rfl) x H3 vb vg (KpL.of sZ) (W.same sZ) ?_
    rw [List.map_map] at hx3
    exact hx3

end
end OK
namespace OK
open PySem PySem.Spec PyProof.Rows L2
open R7290f.Spec (Plain Units Bound Err units beyond wrong Call Ans perform limitArgument textsArgument textIn rekeyFn rekey keysValue keyValue keyOfText allSome isBlank trimmed rowValue record answer textOf orNull)
def isTexts (p : Plain) : Bool := match p with
  | .arr l => decide (l.length ≤ 60) && l.all fun q => decide (kindOf q = 6)
  | _ => false
theorem texts_of {p : Plain} (h : isTexts p = true) : ∃ us : List Units, p = .arr (us.map Plain.str) ∧ us.length ≤ 60 := by
  cases p with
  | arr l =>
    have h' : (decide (l.length ≤ 60) && l.all fun q => decide (kindOf q = 6)) = true := h
    rw [Bool.and_eq_true_iff, decide_eq_true_eq] at h'
    obtain ⟨h1, h2⟩ := h'
    obtain ⟨us, e⟩ : ∃ us : List Units, l = us.map Plain.str := by
      clear h h1
      induction l with
      | nil => exact ⟨[], rfl⟩
      | cons q l ih =>
        rw [List.all_cons, Bool.and_eq_true_iff, decide_eq_true_eq] at h2
        obtain ⟨us, e⟩ := ih h2.2
        obtain ⟨u, e2⟩ := kind6 h2.1
        exact ⟨u :: us, by rw [e, e2]; rfl⟩
    subst e
    rw [List.length_map] at h1
    exact ⟨us, rfl, h1⟩
  | _ => cases h
theorem texts_arg (us : List Units) (h : us.length ≤ 60) : textsArgument (.arr (us.map Plain.str)) = .ok us := by
  show (if (us.map Plain.str).length ≤ 60 then (match allSome ((us.map Plain.str).map textIn) with
    | some s => Except.ok s
    | none => R7290f.Spec.kind "keys must be a list of at most 60 texts") else R7290f.Spec.kind "keys must be a list of at most 60 texts") = _
  rw [if_pos (by rw [List.length_map]; exact h), List.map_map]
  have : allSome (us.map (textIn ∘ Plain.str)) = some us := (allSome_iff _ _).mpr rfl
  rw [this]
theorem texts_bad {p : Plain} (h : isTexts p = false) : textsArgument p = .error (wrong "keys must be a list of at most 60 texts") := by
  cases p with
  | arr l =>
    have h' : (decide (l.length ≤ 60) && l.all fun q => decide (kindOf q = 6)) = false := h
    show (if l.length ≤ 60 then (match allSome (l.map textIn) with
      | some s => Except.ok s
      | none => R7290f.Spec.kind "keys must be a list of at most 60 texts") else R7290f.Spec.kind "keys must be a list of at most 60 texts") = _
    by_cases c : l.length ≤ 60
    · rw [if_pos c]
      rw [decide_eq_true c, Bool.true_and] at h'
      cases e : allSome (l.map textIn) with
      | none => rfl
      | some s =>
        exfalso
        rw [allSome_iff] at e
        have : (l.all fun q => decide (kindOf q = 6)) = true := by
          rw [List.all_eq_true]
          intro q hq
          have hm : textIn q ∈ l.map textIn := List.mem_map.mpr ⟨q, hq, rfl⟩
          rw [e] at hm
          obtain ⟨u, _, hu⟩ := List.mem_map.mp hm
          cases q with
          | str u => rfl
          | _ => cases hu
        rw [this] at h'
        cases h'
    · rw [if_neg c]
      rfl
  | _ => rfl
theorem txAt_str {K : PySem.W.Frag} {H : Hp} {u : Units} {a : Addr} (h : Oc H a (uI u)) : TxAt H (.ref a) (keyOfText u) := by
  cases e : keyOfText u with
  | none => exact .inr ⟨a, u, rfl, h, e⟩
  | some k =>
    obtain ⟨h1, h2⟩ := keyOfText_some e
    rw [h1] at h
    exact ⟨⟨a, rfl, h⟩, h2⟩
abbrev sp_rekey_door (z : Ads) (K : PySem.W.Frag) : Sp := DoorSp z K 6
/-! blanks -/
theorem tw_iff {α : Type} (p : α → Bool) : ∀ (l : List α) (i : Nat), i ≤ (l.takeWhile p).length → ((∃ x, l[i]? = some x ∧ p x = true) ↔ i < (l.takeWhile p).length)
  | [], i, h => ⟨fun ⟨x, e, _⟩ => by simp at e, fun h2 => absurd h2 (Nat.not_lt_zero _)⟩
  | y :: l, i, h => by
    cases c : p y with
    | false =>
      have e : List.takeWhile p (y :: l) = [] := by simp [c]
      rw [e] at h ⊢
      have : i = 0 := Nat.le_zero.mp h
      subst this
      constructor
      · rintro ⟨x, ex, px⟩
        cases ex
        rw [c] at px
        cases px
      · intro z
        exact absurd z (Nat.not_lt_zero _)
    | true =>
      have e : List.takeWhile p (y :: l) = y :: List.takeWhile p l := by simp [c]
      rw [e, List.length_cons] at h ⊢
      cases i with
      | zero => exact ⟨fun _ => Nat.succ_pos _, fun _ => ⟨y, rfl, c⟩⟩
      | succ i =>
        have := tw_iff p l i (by omega)
        rw [Nat.add_lt_add_iff_right]
        exact this
theorem dw_drop {α : Type} (p : α → Bool) : ∀ (l : List α), l.dropWhile p = l.drop (l.takeWhile p).length
  | [] => rfl
  | y :: l => by
    cases c : p y with
    | false => simp [c]
    | true => simp [c, dw_drop p l]
theorem tw_len {α : Type} (p : α → Bool) (l : List α) : (l.takeWhile p).length ≤ l.length := by
  have := congrArg List.length (List.takeWhile_append_dropWhile (p := p) (l := l))
  rw [List.length_append] at this
  omega
def lead (u : Units) : Nat := (u.takeWhile isBlank).length
def trail (u : Units) : Nat := ((u.dropWhile isBlank).reverse.takeWhile isBlank).length
theorem trim_len (u : Units) : lead u + trail u ≤ u.length := by
  have h1 := tw_len isBlank u
  have h2 := tw_len isBlank (u.dropWhile isBlank).reverse
  rw [List.length_reverse, dw_drop, List.length_drop] at h2
  unfold lead trail
  rw [dw_drop] at *
  omega
theorem trim_eq (u : Units) : trimmed u = (u.drop (lead u)).take (u.length - trail u - lead u) := by
  have h := trim_len u
  unfold R7290f.Spec.trimmed
  rw [dw_drop isBlank (u.dropWhile isBlank).reverse]
  show ((u.dropWhile isBlank).reverse.drop (trail u)).reverse = _
  rw [dw_drop isBlank u]
  show ((u.drop (lead u)).reverse.drop (trail u)).reverse = _
  rw [List.drop_reverse, List.reverse_reverse, List.length_drop]
  congr 1
  omega
theorem blank_int (c : UInt16) : isBlank c = decide (((c.toNat : Nat) : Int) = 32 ∨ ((c.toNat : Nat) : Int) = 10) := by
  show ((c == 32) || (c == 10)) = _
  rw [Bool.eq_iff_iff, Bool.or_eq_true, beq_iff_eq, beq_iff_eq, decide_eq_true_eq, ← UInt16.toNat_inj, ← UInt16.toNat_inj]
  show c.toNat = 32 ∨ c.toNat = 10 ↔ _
  omega
theorem in_blank (c : UInt16) : inV (.int ((c.toNat : Nat) : Int)) [.int 32, .int 10] = isBlank c := by
  rw [blank_int]
  by_cases c1 : ((c.toNat : Nat) : Int) = 32
  · rw [c1]; rfl
  · by_cases c2 : ((c.toNat : Nat) : Int) = 10
    · rw [c2]; rfl
    · rw [decide_eq_false (by omega)]
      have d1 : ¬ (32 : Int) = ((c.toNat : Nat) : Int) := fun e => c1 e.symm
      have d2 : ¬ (10 : Int) = ((c.toNat : Nat) : Int) := fun e => c2 e.symm
      simp [inV, eqV, d1, d2]
theorem uI_at {u : Units} {i : Nat} {c : UInt16} (h : u[i]? = some c) : (uI u)[i]? = some ((c.toNat : Nat) : Int) := by
  unfold uI
  rw [List.getElem?_map, h]
  rfl
/-- the sign before the j-th last -/
theorem back_at (u : Units) {j : Nat} (hj : j < u.length - lead u) : (u.dropWhile isBlank).reverse[j]? = u[u.length - 1 - j]? := by
  rw [dw_drop, List.getElem?_reverse (by rw [List.length_drop]; exact hj), List.length_drop, List.getElem?_drop]
  congr 1
  show lead u + (u.length - lead u - 1 - j) = _
  omega
/-! is_list_of_texts -/
abbrev s_is_list_of_texts : Stmt := top 99
abbrev N_is_list_of_texts : List Str := ["value", "text"]
theorem sc_is_list_of_texts : FnScope N_is_list_of_texts ["value"] (defScope s_is_list_of_texts) := ⟨rfl, rfl, rfl, by decide +kernel, rfl, by decide +kernel, by decide +kernel⟩
def sp_is_list_of_texts (K : PySem.W.Frag) : Sp := fun vs H Q _ => ∃ (v : V) (p : Plain), vs = [v] ∧ VAt K H p v ∧ ∀ H', Same H H' → Q (.bl (isTexts p)) H'
section
variable {P : Program} {w : World} {K : PySem.W.Frag} {mg : Str → Option Value} {base : Heap}
theorem ca_is_list_of_texts (F : Df K mg "is_list_of_texts" s_is_list_of_texts ["value"]) {z : Ads} (T : Gb K mg z)   : Ca P w K mg base 1 "is_list_of_texts" (sp_is_list_of_texts K) := by
  refine ca_mk F sc_is_list_of_texts (fun vs H Q E h => by
    obtain ⟨_, _, rfl, _⟩ := h
    rfl
    ) (fun f cdv A outer s H vs Q E hr h => ?_)
  refine ⟨_, pss_cons (ps_if (PW.pt (pw_or (pt_cmpR op_ne (pe_ix ix_tup (pv 0) pe_int (fun _ _ => rfl)) (pe_gk T.cLIST) (nomark _)) (pw_or1 (pt_cmpR op_gt (pe_len T.len (pe_ix ix_tup (pv 0) pe_int (fun _ _ => rfl))) pe_int (nomark _))))) (pss_one (ps_ret pe_bl)) pss_nil) (pss_one (ps_ret (pe_all rfl T.all (pe_lc (own := [("text", 1)]) (g := (gName 1)) (tt := tYes) rfl sc_is_list_of_texts.nd (pi_list (pe_ix ix_tup (pv 0) pe_int (fun _ _ => rfl))) (blkOk_by (own := [("text", 1)]) (N := N_is_list_of_texts) (sc := defScope s_is_list_of_texts) (by decide +kernel)) (fun _ _ _ _ _ => (pg_name (i := 1) sc_is_list_of_texts.nd rfl (Or.inl rfl))) (fun _ _ _ _ _ => pts_nil) (fun _ _ _ _ _ => (pe_cmpR op_eq (pe_ix (ixt_K (K := K)) (pv 1) pe_int (fun _ _ => rfl)) (pe_gk T.cTEXT) (nomark _))))))), ?_⟩
  obtain ⟨v, p, rfl, hv, q⟩ := h
  obtain ⟨t, y, rfl, ht⟩ := hv.tg
  walk_at "ex"
  refine ite_nd (fun c => ?_) (fun c => ?_)
  · refine ite_t rfl ?_
    walk_at "ex"
    have : isTexts p = false := by
      cases p with
      | arr l => exact absurd rfl c
      | _ => rfl
    rw [this] at q
    exact q _ (Same.refl _)
  obtain ⟨l, rfl⟩ := kind7 c
  obtain ⟨a, xs, ⟨t, e, ht⟩, hl, hvs⟩ := hv
  cases e
  have hsl : SqL K H a xs := hl.l
  have hxl := hvs.len
  have e0 : isTexts (.arr l) = (decide (l.length ≤ 60) && l.all fun q => decide (kindOf q = 6)) := rfl
  walk_at "ex"
  refine ite_d (fun c1 => ?_) (fun c1 => ?_)
  · walk_at "ex"
    rw [e0, decide_eq_false (by omega), Bool.false_and] at q
    exact q _ (Same.refl _)
  rw [e0, decide_eq_true (by omega), Bool.true_and] at q
  walk_at "ex"
  refine x_lcl hsl (by omega) (fun _ i v => ∃ c, (l.map fun p => decide (kindOf p = 6))[i]? = some c ∧ v = V.bl c) (fun _ _ _ _ _ h => h) (fun x H => gName_mono x _ H) (fun i x H' hx s Q' hQ => ?_) (fun D H' ys hD s hy it => ?_)
  · obtain ⟨p, hp, hpx⟩ := hvs.get hx
    obtain ⟨t3, y3, rfl, ht3⟩ := (VAt.kp (Kp.of s) hpx).tg
    walk_at "ex"
    refine ⟨rfl, ?_⟩
    walk_at "ex"
    refine hQ _ _ (Same.refl _) ⟨_, ?_, rfl⟩
    rw [List.getElem?_map, hp]
    rfl
  have ey : ys = (l.map fun p => decide (kindOf p = 6)).map V.bl := items_bl (by rw [List.length_map, ← hxl]; exact it)
  walk_at "ex"
  refine x_allB (ey ▸ SqL.of hy) ?_
  have : (l.map fun p => decide (kindOf p = 6)).all id = l.all fun q => decide (kindOf q = 6) := by
    rw [List.all_map]
    rfl
  rw [this]
  exact q _ s
end
/-! rekey_door -/
abbrev s_rekey_door : Stmt := top 100
abbrev N_rekey_door : List Str := ["slots", "given", "limit", "texts", "text"]
theorem sc_rekey_door : FnScope N_rekey_door ["slots", "given"] (defScope s_rekey_door) := ⟨rfl, rfl, rfl, by decide +kernel, rfl, by decide +kernel, by decide +kernel⟩
section
variable {P : Program} {w : World} {K : PySem.W.Frag} {mg : Str → Option Value} {base : Heap}
theorem ca_rekey_door (F : Df K mg "rekey_door" s_rekey_door ["slots", "given"]) {z : Ads} (T : Gb K mg z)  (c_texts_value : Ca P w K mg base 1 "texts_value" (sp_texts_value K)) (c_rekeyed : Ca P w K mg base 7 "rekeyed" (sp_rekeyed K)) (c_keys_in_all : Ca P w K mg base 2 "keys_in_all" (sp_keys_in_all K)) (c_limit_of : Ca P w K mg base 3 "limit_of" (sp_limit_of z K)) (c_is_list_of_texts : Ca P w K mg base 1 "is_list_of_texts" (sp_is_list_of_texts K)) : Ca P w K mg base 8 "rekey_door" (sp_rekey_door z K) := by
  refine ca_mk F sc_rekey_door (fun vs H Q E h => by
    obtain ⟨_, _, _, _, _, _, _, _, _, _, _, rfl, _⟩ := h
    rfl
    ) (fun f cdv A outer s H vs Q E hr h => ?_)
  refine ⟨_, pss_cons (ps_if (pt_not (pt_val (pe_ca c_is_list_of_texts hr (by first | decide | omega) passN (pa_cons (pe_ix ix_list (pv 1) pe_int (fun _ _ => rfl)) pa_nil)))) (pss_one (ps_raiseM rfl rz (by exact (pmk_msg PySem.F.excBase_Exception T.xWrongKind T.gWrongKind T.kWrongKind (raises_own T.bWrongKind T.tWrongKind) pe_str)))) pss_nil) (pss_cons (ps_set (i := 2) sc_rekey_door.nd rfl (Or.inl rfl) (pe_ca c_limit_of hr (by first | decide | omega) rz.pass (pa_cons (pe_ix ix_list (pv 1) pe_int (fun _ _ => rfl)) pa_nil))) (pss_cons (ps_setLc (i := 3) (own := [("text", 4)]) (g := (gName 4)) (tt := tYes) rfl sc_rekey_door.nd rfl rfl (sw_true rfl rfl rfl (by decide +kernel)) (pi_list (pe_ix ix_tup (pe_ix ix_list (pv 1) pe_int (fun _ _ => rfl)) pe_int (fun _ _ => rfl))) (blkOk_by (own := [("text", 4)]) (N := N_rekey_door) (sc := defScope s_rekey_door) (by decide +kernel)) (fun _ _ _ _ _ => (pg_name (i := 4) sc_rekey_door.nd rfl (Or.inl rfl))) (fun _ _ _ _ _ => pts_nil) (fun _ _ _ _ _ => (pe_ix (ixt_K (K := K)) (pv 4) pe_int (fun _ _ => rfl)))) (pss_cons (ps_if (pt_cmpR op_gt (pe_len T.len (pv 3)) (pe_ca c_keys_in_all hr (by first | decide | omega) passN (pa_cons (pv 2) pa_nil)) (nomark _)) (pss_one (ps_ret (pe_gk T.cNULL))) pss_nil) (pss_one (ps_ret (pe_ca c_texts_value hr (by first | decide | omega) passN (pa_cons (pe_ca c_rekeyed hr (by first | decide | omega) passN (pa_cons (pv 3) (pa_cons (pv 2) pa_nil))) pa_nil))))))), ?_⟩
  obtain ⟨sA, g, dx, lb, lg, w0, vb, vg, xs, l, c, rfl, W, hg, hx, hc, hin, q, qe⟩ := h
  have hs3 := taking_some (show Rust.taking 2 l (some (.rekey1 (Rust.argAt l 0) (Rust.argAt l 1))) = some c from hc)
  cases hs3
  obtain ⟨x0, e0, h0⟩ := hx 0 (by decide)
  obtain ⟨x1, e1, h1⟩ := hx 1 (by decide)
  walk_at "ex"
  refine x_ixL hg (atI_nat e0) ?_
  walk_at "ex"
  refine ⟨x0, _, rfl, h0, fun H1 s1 => ?_⟩
  walk_at "ex"
  refine ite_nb (fun ct => ?_) (fun ct => ?_)
  · walk_at "ex"
    refine ⟨_, rfl, fun t ht => qe w0 (wrong "keys must be a list of at most 60 texts") (by
      show (w0, answer id (rekeyFn _ _)) = _
      unfold R7290f.Spec.rekeyFn
      rw [texts_bad ct]
      rfl) t _ _ (s1.trans (same_new ht)) upd_same (cI_lit "keys must be a list of at most 60 texts" (by decide +kernel)) (by rw [sz_lit]; decide +kernel)⟩
  obtain ⟨us, eu, hus⟩ := texts_of ct
  rw [eu] at h0
  obtain ⟨a, ys, ⟨t, rfl, ht⟩, hl, hvs⟩ := VAt.kp (Kp.of s1) h0
  have hyl := hvs.len
  rw [List.length_map] at hyl
  have hg1 := sqL_same s1 hg
  walk_at "ex"
  refine x_ixL hg1 (atI_nat e1) ?_
  walk_at "ex"
  refine ⟨x1, _, rfl, VAt.kp (Kp.of s1) h1, fun n en n1 n8 => ?_, fun er he => (qe w0 er (by
    show (w0, answer id (rekeyFn _ _)) = _
    unfold R7290f.Spec.rekeyFn
    rw [eu, texts_arg us hus]
    show (w0, answer id (R7290f.Spec.andThen (limitArgument _) _)) = _
    rw [he]
    rfl)).back s1⟩
  have eP : perform w0 (.rekey1 (Rust.argAt l 0) (Rust.argAt l 1)) = (w0, .ret (orNull keysValue (rekey n (us.map keyOfText)))) := by
    show (w0, answer id (rekeyFn _ _)) = _
    unfold R7290f.Spec.rekeyFn
    rw [eu, texts_arg us hus]
    show (w0, answer id (R7290f.Spec.andThen (limitArgument _) _)) = _
    rw [en]
    rfl
  walk_at "ex"
  refine x_ixL hg1 (atI_nat e0) ?_
  walk_at "ex"
  refine x_lcl hl.l (by omega) (fun H i v => ∃ u, us[i]? = some u ∧ ∃ b, v = .ref b ∧ Oc H b (uI u)) (fun H H' i v k h => let ⟨u, e, b, e2, o⟩ := h; ⟨u, e, b, e2, o.kp k⟩) (fun x H => gName_mono x _ H) (fun i x H' hx2 s Q' hQ => ?_) (fun D H2 zs hD s2 hz it => ?_)
  · obtain ⟨p, hp, hpx⟩ := hvs.get hx2
    rw [List.getElem?_map] at hp
    cases e : us[i]? with
    | none => rw [e] at hp; cases hp
    | some u =>
      rw [e] at hp
      cases hp
      obtain ⟨b, ⟨t3, rfl, ht3⟩, hb⟩ := VAt.kp (Kp.of s) hpx
      walk_at "ex"
      refine ⟨rfl, ?_⟩
      walk_at "ex"
      exact hQ _ _ (Same.refl _) ⟨u, e, b, rfl, hb⟩
  have hzl : zs.length = us.length := by rw [it.1, hyl]
  have hTL : TL H2 zs (us.map keyOfText) := ⟨by rw [List.length_map]; exact hzl, fun i v b e2 e3 => by
    obtain ⟨u, e4, bb, rfl, ho⟩ := it.2 i v e2
    rw [List.getElem?_map, e4] at e3
    cases e3
    exact txAt_str (K := K) ho⟩
  have hrk : rekey n (us.map keyOfText) = if (us.map keyOfText).length < 36 ^ n then some (R7290f.Spec.rekeyed n (us.map keyOfText)) else none := rfl
  rw [hrk, List.length_map] at eP
  walk_at "ex"
  refine ⟨n, rfl, by omega, ?_⟩
  walk_at "ex"
  rw [hzl]
  refine ite_d (fun c2 => ?_) (fun c2 => ?_)
  · rw [if_neg (by omega)] at eP
    walk_at "ex"
    exact q w0 _ eP _ _ vb vg (KpL.of (s1.trans s2)) (W.same (s1.trans s2)) ⟨z.aU, rfl, T.tU H2⟩
  · rw [if_pos (by omega)] at eP
    walk_at "ex"
    refine ⟨D, zs, us.map keyOfText, n, rfl, SqL.of hz, hTL, by rw [List.length_map]; omega, by omega, by rw [List.length_map]; omega, fun D2 H3 ws hD2 s3 hw hkl => ?_⟩
    obtain ⟨r1, r2, r3⟩ := rekeyed_ok (lim := n) (rows := us.map keyOfText) (by omega) (by rw [List.length_map]; omega) (by rw [List.length_map]; omega) fun k hk => by
      obtain ⟨u, _, hu⟩ := List.mem_map.mp hk
      exact (keyOfText_some hu).2
    rw [List.length_map] at r3
    walk_at "ex"
    refine ⟨D2, ws, (R7290f.Spec.rekeyed n (us.map keyOfText)).map textOf, rfl, SqL.of hw, hkl.ul fun k hk => (r1 k hk).1.dig, by rw [List.length_map, r3]; omega, fun x H4 s4 hx4 => ?_⟩
    have sZ := s1.trans (s2.trans (s3.trans s4))
    refine q w0 _ eP x H4 vb vg (KpL.of sZ) (W.same sZ) ?_
    rw [List.map_map] at hx4
    exact hx4
end
theorem x_split {c : Prop} [Decidable c] {X B : Prop} {R : Hp → Prop} (H : Hp) (lc : Prop) (hr : lc → ∀ H2, Same H H2 → R H2) (hx : (lc → ∀ H2, Same H H2 → R H2) → c → X) (hn : ¬ c → lc) : if decide c = true then X else (if false = true then B else R H) := by
  by_cases h : c
  · exact ite_t (decide_eq_true h) (hx hr h)
  · exact ite_f (by simpa using h) (ite_f Bool.false_ne_true (hr (hn h) H (Same.refl _)))
/-! bare -/
abbrev s_bare : Stmt := top 101
abbrev N_bare : List Str := ["text", "start", "behind"]
theorem sc_bare : FnScope N_bare ["text"] (defScope s_bare) := ⟨rfl, rfl, rfl, by decide +kernel, rfl, by decide +kernel, by decide +kernel⟩
def sp_bare (_ : PySem.W.Frag) : Sp := fun vs H Q _ => ∃ (a : Addr) (u : Units), vs = [.ref a] ∧ Oc H a (uI u) ∧ ∀ p H', Same H H' → Oc H' p (uI (trimmed u)) → Q (.ref p) H'
section
variable {P : Program} {w : World} {K : PySem.W.Frag} {mg : Str → Option Value} {base : Heap}
theorem ca_bare (F : Df K mg "bare" s_bare ["text"]) {z : Ads} (T : Gb K mg z)   : Ca P w K mg base 1 "bare" (sp_bare K) := by
  refine ca_mk F sc_bare (fun vs H Q E h => by
    obtain ⟨_, _, rfl, _⟩ := h
    rfl
    ) (fun f cdv A outer s H vs Q E hr h => ?_)
  refine ⟨_, pss_cons (ps_set (i := 1) sc_bare.nd rfl (Or.inl rfl) pe_int) (pss_cons (ps_while rzp (PW.pt (pw_and (pt_cmpR op_lt (pv 1) (pe_len T.len (pv 0)) (nomark _)) (pw_and1 (pt_cmpR op_in_seq (pe_ix ix_tup (pv 0) (pv 1) (fun _ _ => rfl)) (pe_tup (pa_cons pe_int (pa_cons pe_int pa_nil))) rfl)))) (pss_one (ps_aug (i := 1) sc_bare.nd rfl (Or.inl rfl) pe_int ip_add))) (pss_cons (ps_set (i := 2) sc_bare.nd rfl (Or.inl rfl) (pe_len T.len (pv 0))) (pss_cons (ps_while rzp (PW.pt (pw_and (pt_cmpR op_gt (pv 2) (pv 1) (nomark _)) (pw_and1 (pt_cmpR op_in_seq (pe_ix ix_tup (pv 0) (pe_op op_sub (pv 2) pe_int) (fun _ _ => rfl)) (pe_tup (pa_cons pe_int (pa_cons pe_int pa_nil))) rfl)))) (pss_one (ps_aug (i := 2) sc_bare.nd rfl (Or.inl rfl) pe_int ip_sub))) (pss_one (ps_ret (pe_slice sl_tupA (pv 0) (po_some (pv 1)) (po_some (pv 2)))))))), ?_⟩
  obtain ⟨a, u, rfl, ha, q⟩ := h
  have hL := trim_len u
  have hlen : ((uI u).map V.int).length = u.length := by rw [List.length_map, uI_len]
  walk_at "ex"
  have test1 : ∀ {H' : Hp} {i : Nat}, i ≤ lead u → i < u.length → ∃ c, u[i]? = some c ∧ (isBlank c = true ↔ i < lead u) := fun {H' i} hi hc => by
    have hci : u[i]? = some u[i] := List.getElem?_eq_getElem hc
    refine ⟨u[i], hci, ?_⟩
    rw [show lead u = (u.takeWhile isBlank).length from rfl, ← tw_iff isBlank u i hi]
    exact ⟨fun h => ⟨_, hci, h⟩, fun ⟨x, e, h⟩ => by
      rw [hci] at e
      cases e
      exact h⟩
  have test2 : ∀ {j : Nat}, j ≤ trail u → j < u.length - lead u → ∃ c, u[u.length - 1 - j]? = some c ∧ (isBlank c = true ↔ j < trail u) := fun {j} hj hc => by
    have hci : u[u.length - 1 - j]? = some u[u.length - 1 - j] := List.getElem?_eq_getElem (by omega)
    refine ⟨_, hci, ?_⟩
    rw [show trail u = ((u.dropWhile isBlank).reverse.takeWhile isBlank).length from rfl, ← tw_iff isBlank _ j hj, back_at u hc]
    exact ⟨fun h => ⟨_, hci, h⟩, fun ⟨x, e, h⟩ => by
      rw [hci] at e
      cases e
      exact h⟩
  refine ⟨fun m σ H' => Same H H' ∧ ∃ (i : Nat), m = lead u - i ∧ i ≤ lead u ∧ σ = [some (.ref a), some (.int i), none], ⟨lead u, Same.refl _, 0, rfl, Nat.zero_le _, rfl⟩, fun m σ H' hp => ?_⟩
  obtain ⟨s, i, rfl, hi, rfl⟩ := hp
  have hat : SqT K H' a ((uI u).map V.int) := (ha.kp (Kp.of s)).t
  walk_at "ex"
  rw [hlen]
  refine x_split H' (i = lead u) (fun hil H2 s2 => ?_) (fun hR c => ?_) (fun c => ?_)
  rotate_left
  · obtain ⟨ch, hci, hiff⟩ := test1 (H' := H') hi (by omega)
    walk_at "ex"
    refine x_ixT hat (atI_int (uI_at hci)) ?_
    walk_at "ex"
    refine ⟨two_le, fun T hT => ?_⟩
    have sT := same_new (o := .tup [.int 32, .int 10]) hT
    refine x_in (SqT.of upd_same) rfl ?_
    rw [in_blank]
    walk_at "ex"
    refine ite_b (fun cb => ?_) (fun cb => ?_)
    · refine ⟨fun σ' H2 => Same H H2 ∧ σ' = [some (.ref a), some (.int ((i + 1 : Nat) : Int)), none], fun σ' H2 h2 => ⟨lead u - (i + 1), ?_, h2.1, i + 1, rfl, ?_, h2.2⟩, ?_⟩
      · have := hiff.mp cb
        omega
      · exact hiff.mp cb
      · walk_at "ex"
        exact ⟨s.trans sT, rfl⟩
    · refine hR ?_ _ sT
      have : ¬ i < lead u := fun z => by
        rw [hiff.mpr z] at cb
        cases cb
      omega
  · omega
  subst hil
  have s3 := s.trans s2
  have ha2 := ha.kp (Kp.of s3)
  have hat2 : SqT K H2 a ((uI u).map V.int) := ha2.t
  walk_at "ex"
  rw [hlen]
  refine ⟨fun m σ H' => Same H H' ∧ ∃ (j : Nat), m = trail u - j ∧ j ≤ trail u ∧ σ = [some (.ref a), some (.int (lead u)), some (.int ((u.length - j : Nat) : Int))], ⟨trail u, s3, 0, rfl, Nat.zero_le _, rfl⟩, fun m σ H' hp => ?_⟩
  obtain ⟨s, j, rfl, hj, rfl⟩ := hp
  have hat : SqT K H' a ((uI u).map V.int) := (ha.kp (Kp.of s)).t
  walk_at "ex"
  refine x_split H' (j = trail u) (fun hil H2 s2 => ?_) (fun hR c => ?_) (fun c => ?_)
  rotate_left
  · obtain ⟨ch, hci, hiff⟩ := test2 hj (by omega)
    walk_at "ex"
    have ec : ((u.length - j : Nat) : Int) - 1 = ((u.length - 1 - j : Nat) : Int) := by omega
    rw [ec]
    refine x_ixT hat (atI_int (uI_at hci)) ?_
    walk_at "ex"
    refine ⟨two_le, fun T hT => ?_⟩
    have sT := same_new (o := .tup [.int 32, .int 10]) hT
    refine x_in (SqT.of upd_same) rfl ?_
    rw [in_blank]
    walk_at "ex"
    refine ite_b (fun cb => ?_) (fun cb => ?_)
    · refine ⟨fun σ' H2 => Same H H2 ∧ σ' = [some (.ref a), some (.int (lead u)), some (.int ((u.length - (j + 1) : Nat) : Int))], fun σ' H2 h2 => ⟨trail u - (j + 1), ?_, h2.1, j + 1, rfl, ?_, h2.2⟩, ?_⟩
      · have := hiff.mp cb
        omega
      · exact hiff.mp cb
      · walk_at "ex"
        refine ⟨s.trans sT, ?_⟩
        have e2 : ((u.length - j : Nat) : Int) - 1 = ((u.length - (j + 1) : Nat) : Int) := by omega
        show [_, _, some (V.int (((u.length - j : Nat) : Int) - 1))] = _
        rw [e2]
    · refine hR ?_ _ sT
      have : ¬ j < trail u := fun z => by
        rw [hiff.mpr z] at cb
        cases cb
      omega
  · omega
  subst hil
  have s5 := s.trans s2
  have ha3 := ha.kp (Kp.of s5)
  have hat3 : SqT K H2 a ((uI u).map V.int) := ha3.t
  walk_at "ex"
  refine ⟨a, _, rfl, hat3, fun hw => ?_, fun hw p hp => ?_⟩
  · rw [HT.sIx_nat, HT.sIx_nat, hlen] at hw
    refine q a H2 s5 ?_
    have e : trimmed u = u := by
      rw [trim_eq]
      have h1 : lead u = 0 := by omega
      have h2 : trail u = 0 := by omega
      rw [h1, h2, List.drop_zero]
      exact List.take_of_length_le (by omega)
    rw [e]
    exact ha3
  · refine q p _ (s5.trans (same_new hp)) ?_
    have e := cut_nat (i := lead u) (j := u.length - trail u) ((uI u).map V.int) ⟨by omega, by rw [hlen]; omega⟩
    rw [e]
    show upd H2 p _ p = some (.tup ((uI (trimmed u)).map V.int))
    rw [upd_same, trim_eq]
    unfold uI
    rw [List.map_take, List.map_take, List.map_drop, List.map_drop]
end
/-! row_value -/
abbrev s_row_value : Stmt := top 102
abbrev N_row_value : List Str := ["name", "key"]
theorem sc_row_value : FnScope N_row_value ["name", "key"] (defScope s_row_value) := ⟨rfl, rfl, rfl, by decide +kernel, rfl, by decide +kernel, by decide +kernel⟩
def sp_row_value (K : PySem.W.Frag) : Sp := fun vs H Q _ => ∃ (a b : Addr) (u : Units) (k : List Nat), vs = [.ref a, .ref b] ∧ Oc H a (uI u) ∧ Oc H b (kI k) ∧ Dig k ∧ ∀ x H', Same H H' → VAt K H' (rowValue ⟨u, k⟩) x → Q x H'
section
variable {P : Program} {w : World} {K : PySem.W.Frag} {mg : Str → Option Value} {base : Heap}
theorem ca_row_value (F : Df K mg "row_value" s_row_value ["name", "key"]) {z : Ads} (T : Gb K mg z)  (c_record_value : Ca P w K mg base 2 "record_value" (sp_record_value K)) (c_text_value : Ca P w K mg base 1 "text_value" (sp_text_value K)) : Ca P w K mg base 3 "row_value" (sp_row_value K) := by
  refine ca_mk F sc_row_value (fun vs H Q E h => by
    obtain ⟨_, _, _, _, rfl, _⟩ := h
    rfl
    ) (fun f cdv A outer s H vs Q E hr h => ?_)
  refine ⟨_, pss_one (ps_ret (pe_ca c_record_value hr (by first | decide | omega) passN (pa_cons (pe_lst (pa_cons (pe_tup (pa_cons pe_str (pa_cons (pe_ca c_text_value hr (by first | decide | omega) passN (pa_cons (pv 0) pa_nil)) pa_nil))) (pa_cons (pe_tup (pa_cons pe_str (pa_cons (pe_ca c_text_value hr (by first | decide | omega) passN (pa_cons (pv 1) pa_nil)) pa_nil))) pa_nil))) pa_nil))), ?_⟩
  obtain ⟨a, b, u, k, rfl, ha, hb, hd, q⟩ := h
  walk_at "ex"
  refine ⟨a, u, rfl, ha, fun v1 H1 s1 hv1 => ?_⟩
  walk_at "ex"
  refine ⟨two_le, fun T1 hT1 => ?_⟩
  have s2 := same_new (o := .tup [.str "id", v1]) hT1
  have g1 : (upd H1 T1 (.tup [.str "id", v1])) T1 = some (.tup [.str "id", v1]) := upd_same
  walk_at "ex"
  refine ⟨b, textOf k, rfl, by rw [uI_textOf hd]; exact hb.kp (Kp.of (s1.trans s2)), fun v2 H3 s3 hv2 => ?_⟩
  walk_at "ex"
  refine ⟨two_le, fun T2 hT2 => ?_⟩
  have s4 := same_new (o := .tup [.str "key", v2]) hT2
  have g2 : (upd H3 T2 (.tup [.str "key", v2])) T2 = some (.tup [.str "key", v2]) := upd_same
  walk_at "ex"
  refine ⟨two_le, fun L hL => ?_⟩
  have s5 := same_new (o := .lst [.ref T1, .ref T2]) hL
  walk_at "ex"
  refine ⟨L, [.ref T1, .ref T2], [(units "id", .str u), (units "key", keyValue k)], rfl, SqL.of upd_same, rfl, (by show 2 ≤ 1000; decide), fun i x' f e1 e2 => ?_, fun y H9 s10 hy => q y H9 (s1.trans (s2.trans (s3.trans (s4.trans (s5.trans s10))))) hy⟩
  match i, e1, e2 with
  | 0, e1, e2 =>
    cases e1
    cases e2
    exact ⟨T1, _, v1, rfl, SqT.of ((s3.trans (s4.trans s5)) _ _ g1), by rw [sz_lit]; decide +kernel, cI_lit "id" (by decide +kernel), VAt.kp (Kp.of (s2.trans (s3.trans (s4.trans s5)))) hv1⟩
  | 1, e1, e2 =>
    cases e1
    cases e2
    exact ⟨T2, _, v2, rfl, SqT.of (s5 _ _ g2), by rw [sz_lit]; decide +kernel, cI_lit "key" (by decide +kernel), VAt.kp (Kp.of (s4.trans s5)) hv2⟩
  | n + 2, e1, e2 => simp at e1

end
end OK
namespace OK
open PySem PySem.Spec PyProof.Rows L2
open R7290f.Spec (Units Bound isBefore isTextBefore isRowBefore insertRow idsOf mergedKey keyOfId mergedRows)
/-! merged_key -/
abbrev s_merged_key : Stmt := top 90
abbrev N_merged_key : List Str := ["base", "one", "other"]
theorem sc_merged_key : FnScope N_merged_key ["base", "one", "other"] (defScope s_merged_key) := ⟨rfl, rfl, rfl, by decide +kernel, rfl, by decide +kernel, by decide +kernel⟩
def sp_merged_key (_ : PySem.W.Frag) : Sp := fun vs H Q _ => ∃ (v1 v2 v3 : V) (a b c : Bound), vs = [v1, v2, v3] ∧ BAt H v1 a ∧ BAt H v2 b ∧ BAt H v3 c ∧ BDig a ∧ BDig b ∧ BDig c ∧ ∀ v, BAt H v (mergedKey a b c) → Q v H
section
variable {P : Program} {w : World} {K : PySem.W.Frag} {mg : Str → Option Value} {base : Heap}
theorem ca_merged_key (F : Df K mg "merged_key" s_merged_key ["base", "one", "other"]) {z : Ads} (T : Gb K mg z)   : Ca P w K mg base 1 "merged_key" (sp_merged_key K) := by
  refine ca_mk F sc_merged_key (fun vs H Q E h => by
    obtain ⟨_, _, _, _, _, _, rfl, _⟩ := h
    rfl
    ) (fun f cdv A outer s H vs Q E hr h => ?_)
  refine ⟨_, pss_cons (ps_if (pt_cmpR (op_eqD hr.units) (pv 1) (pv 2) (nomark _)) (pss_one (ps_ret (pv 1))) pss_nil) (pss_cons (ps_if (pt_cmpR (op_eqD hr.units) (pv 1) (pv 0) (nomark _)) (pss_one (ps_ret (pv 2))) pss_nil) (pss_cons (ps_if (pt_cmpR (op_eqD hr.units) (pv 2) (pv 0) (nomark _)) (pss_one (ps_ret (pv 1))) pss_nil) (pss_cons (ps_if (pt_cmp (pc_isN (pv 1))) (pss_one (ps_ret (pv 2))) pss_nil) (pss_cons (ps_if (pt_cmp (pc_isN (pv 2))) (pss_one (ps_ret (pv 1))) pss_nil) (pss_cons (ps_if (pt_cmpR (op_ltT (hu0 hr)) (pv 1) (pv 2) (nomark _)) (pss_one (ps_ret (pv 1))) pss_nil) (pss_one (ps_ret (pv 2)))))))), ?_⟩
  obtain ⟨v1, v2, v3, a, b, c, rfl, h1, h2, h3, d1, d2, d3, q⟩ := h
  unfold R7290f.Spec.mergedKey at q
  walk_at "ex"
  refine x_eqB h2 h3 d2 d3 ?_
  walk_at "ex"
  refine ite_d (fun e => ?_) (fun e1 => ?_)
  · rw [if_pos e] at q
    walk_at "ex"
    exact q _ h2
  rw [if_neg e1] at q
  walk_at "ex"
  refine x_eqB h2 h1 d2 d1 ?_
  walk_at "ex"
  refine ite_d (fun e => ?_) (fun e2 => ?_)
  · rw [if_pos e] at q
    walk_at "ex"
    exact q _ h3
  rw [if_neg e2] at q
  walk_at "ex"
  refine x_eqB h3 h1 d3 d1 ?_
  walk_at "ex"
  refine ite_d (fun e => ?_) (fun e3 => ?_)
  · rw [if_pos e] at q
    walk_at "ex"
    exact q _ h2
  rw [if_neg e3] at q
  cases b with
  | none =>
    have e : v2 = .non := h2
    subst e
    walk_at "ex"
    refine ite_t rfl ?_
    walk_at "ex"
    exact q _ h3
  | some j =>
    obtain ⟨pj, rfl, hj⟩ := h2
    walk_at "ex"
    refine ite_f (fun h => nomatch of_decide_eq_true h) ?_
    cases c with
    | none =>
      have e : v3 = .non := h3
      subst e
      walk_at "ex"
      refine ite_t rfl ?_
      walk_at "ex"
      exact q _ ⟨pj, rfl, hj⟩
    | some k =>
      obtain ⟨pk, rfl, hk⟩ := h3
      walk_at "ex"
      refine ite_f (fun h => nomatch of_decide_eq_true h) ?_
      walk_at "ex"
      refine x_ltT hj hk (d2 j rfl) (d3 k rfl) ?_
      walk_at "ex"
      have hne : j ≠ k := fun e => e1 (by rw [e])
      have ht := before_total j k hne
      have q' : ∀ v, BAt H v (if isBefore k j = true then some k else some j) → Q v H := q
      refine ite_b (fun e => ?_) (fun e => ?_)
      · walk_at "ex"
        rw [e] at ht
        have : isBefore k j = false := by
          cases h : isBefore k j with
          | false => rfl
          | true => rw [h] at ht; cases ht
        rw [this, if_neg Bool.false_ne_true] at q'
        exact q' _ ⟨pj, rfl, hj⟩
      · walk_at "ex"
        rw [e] at ht
        have : isBefore k j = true := by
          cases h : isBefore k j with
          | true => rfl
          | false => rw [h] at ht; cases ht
        rw [this, if_pos rfl] at q'
        exact q' _ ⟨pk, rfl, hk⟩

end
end OK
namespace OK
open PySem PySem.Spec PyProof.Rows L2
open R7290f.Spec (Units Bound isBefore isTextBefore isRowBefore insertRow idsOf mergedKey keyOfId mergedRows)
/-- the pairs of a list of rows -/
structure QR (K : PySem.W.Frag) (H : Hp) (xs : List V) (rs : List RRow) (ps : List Quad) : Prop where
  xs : xs = ps.map fun p => V.ref p.1
  at' : ∀ p ∈ ps, SqT K H p.1 [.ref p.2.1, p.2.2.2] ∧ Oc H p.2.1 p.2.2.1
  len : ps.length = rs.length
  row : ∀ (i : Nat) p r, ps[i]? = some p → rs[i]? = some r → p.2.2.1 = uI r.id ∧ KAt H p.2.2.2 r.key
theorem qr_of {K : PySem.W.Frag} {H : Hp} : ∀ {xs : List V} {rs : List RRow}, RL K H xs rs → ∃ ps, QR K H xs rs ps
  | [], [], _ => ⟨[], rfl, fun p h => (by cases h), rfl, fun i p r e => by simp at e⟩
  | [], _ :: _, h => absurd h.1 (by simp)
  | _ :: _, [], h => absurd h.1 (by simp)
  | x :: xs, r :: rs, h => by
    obtain ⟨ps, q⟩ := qr_of (xs := xs) (rs := rs) ⟨by have := h.1; simpa using this, fun i v r e1 e2 => h.2 (i + 1) v r e1 e2⟩
    obtain ⟨t, a, b, rfl, ht, ha, hb⟩ := h.2 0 x r rfl rfl
    refine ⟨(t, a, uI r.id, .ref b) :: ps, by rw [q.xs]; rfl, fun p hp => ?_, by rw [List.length_cons, List.length_cons, q.len], fun i p r' e1 e2 => ?_⟩
    · rcases List.mem_cons.mp hp with e | e
      · subst e
        exact ⟨ht, ha⟩
      · exact q.at' p e
    · cases i with
      | zero =>
        cases e1
        cases e2
        exact ⟨rfl, b, rfl, hb⟩
      | succ i => exact q.row i p r' e1 e2
theorem QR.ids {K : PySem.W.Frag} {H : Hp} {xs : List V} {rs : List RRow} {ps : List Quad} (q : QR K H xs rs ps) : ps.map (fun p => p.2.2.1) = rs.map fun r => uI r.id := by
  refine List.ext_getElem? fun i => ?_
  rw [List.getElem?_map, List.getElem?_map]
  cases e : ps[i]? with
  | none =>
    have : rs[i]? = none := List.getElem?_eq_none (by rw [← q.len]; exact List.getElem?_eq_none_iff.mp e)
    rw [this]
    rfl
  | some p =>
    have hi := (List.getElem?_eq_some_iff.mp e).1
    have e2 := List.getElem?_eq_getElem (l := rs) (i := i) (by rw [← q.len]; exact hi)
    rw [e2, Option.map_some, Option.map_some, (q.row i p _ e e2).1]
abbrev qd (ps : List Quad) : List (List L2.Key × V) := ps.map fun p => (tk p.2.2.1, p.2.2.2)
theorem val_row {H : Hp} (u : Units) : ∀ (ps : List Quad) (rs : List RRow), ps.length = rs.length → (∀ (i : Nat) p r, ps[i]? = some p → rs[i]? = some r → p.2.2.1 = uI r.id ∧ KAt H p.2.2.2 r.key) → BAt H ((valV (qd ps) (tk (uI u))).getD .non) (keyOfId rs u)
  | [], [], _, _ => rfl
  | [], _ :: _, h, _ => by cases h
  | _ :: _, [], h, _ => by cases h
  | p :: ps, r :: rs, hl, h => by
    obtain ⟨h1, h2⟩ := h 0 p r rfl rfl
    have ih := val_row u ps rs (by simpa using hl) fun i p r e1 e2 => h (i + 1) p r e1 e2
    by_cases e : r.id = u
    · have e1 : valV (qd (p :: ps)) (tk (uI u)) = some p.2.2.2 := valV_pos (by show tk p.2.2.1 = _; rw [h1, e])
      have e2 : keyOfId (r :: rs) u = some r.key := by
        show ((r :: rs).find? fun r => r.id == u).map (fun r => r.key) = _
        rw [List.find?_cons_of_pos (by simp [e])]
        rfl
      rw [e1, e2]
      exact h2
    · have e1 : valV (qd (p :: ps)) (tk (uI u)) = valV (qd ps) (tk (uI u)) := valV_neg fun z => e (uI_inj (by rw [← h1]; exact tk_inj z))
      have e2 : keyOfId (r :: rs) u = keyOfId rs u := by
        show ((r :: rs).find? fun r => r.id == u).map (fun r => r.key) = (rs.find? fun r => r.id == u).map (fun r => r.key)
        rw [List.find?_cons_of_neg (by simp [e])]
      rw [e1, e2]
      exact ih
abbrev nmD (ids : List Units) : List (List L2.Key × V) := ids.map fun u => (tk (uI u), V.bl true)
theorem tk_uI {a b : Units} : tk (uI a) = tk (uI b) ↔ a = b := ⟨fun h => uI_inj (tk_inj h), fun h => by rw [h]⟩
theorem put_name (ids : List Units) (u : Units) : putK (nmD ids) (tk (uI u)) (.bl true) = nmD (if ids.contains u then ids else ids ++ [u]) := by
  unfold putK
  have e : ((nmD ids).any fun kv => decide (kv.1 = tk (uI u))) = ids.contains u := by
    rw [List.any_map, Bool.eq_iff_iff, List.any_eq_true, List.contains_iff_mem]
    constructor
    · rintro ⟨x, hx, h⟩
      have h' : tk (uI x) = tk (uI u) := of_decide_eq_true h
      rw [tk_uI] at h'
      rw [← h']
      exact hx
    · intro h
      exact ⟨u, h, decide_eq_true rfl⟩
  rw [e]
  cases ids.contains u with
  | true =>
    rw [if_pos rfl, if_pos rfl, List.map_map]
    refine List.map_congr_left fun x _ => ?_
    show (if tk (uI x) = tk (uI u) then (tk (uI x), V.bl true) else (tk (uI x), V.bl true)) = _
    split <;> rfl
  | false =>
    rw [if_neg Bool.false_ne_true, if_neg Bool.false_ne_true]
    show nmD ids ++ _ = (ids ++ [u]).map _
    rw [List.map_append]
    rfl
/-- a row, key first -/
def KRAt (K : PySem.W.Frag) (H : Hp) (r : RRow) (v : V) : Prop := ∃ t a b, v = .ref t ∧ SqT K H t [.ref a, .ref b] ∧ Oc H a (kI r.key) ∧ Oc H b (uI r.id)
theorem KRAt.kp {K : PySem.W.Frag} {H H' : Hp} {r : RRow} {v : V} (h : KRAt K H r v) (q : Kp H H') : KRAt K H' r v := let ⟨t, a, b, e, s, o1, o2⟩ := h; ⟨t, a, b, e, sqT_kp q s, o1.kp q, o2.kp q⟩
def KRL (K : PySem.W.Frag) (H : Hp) (xs : List V) (rs : List RRow) : Prop := xs.length = rs.length ∧ ∀ (i : Nat) v r, xs[i]? = some v → rs[i]? = some r → KRAt K H r v
theorem KRL.kp {K : PySem.W.Frag} {H H' : Hp} {xs : List V} {rs : List RRow} (h : KRL K H xs rs) (q : Kp H H') : KRL K H' xs rs := ⟨h.1, fun i v r e1 e2 => (h.2 i v r e1 e2).kp q⟩
theorem lexLt_uI : ∀ (a b : Units), HT.lexLt (uI a) (uI b) = isTextBefore a b
  | [], [] => rfl
  | [], _ :: _ => rfl
  | _ :: _, [] => rfl
  | x :: a, y :: b => by
    have ih := lexLt_uI a b
    show (if ((x.toNat : Nat) : Int) = ((y.toNat : Nat) : Int) then HT.lexLt (uI a) (uI b) else decide (((x.toNat : Nat) : Int) < ((y.toNat : Nat) : Int))) = (decide (x < y) || (x == y && isTextBefore a b))
    by_cases e : x = y
    · subst e
      rw [if_pos rfl, ih, decide_eq_false (UInt16.lt_irrefl x)]
      simp
    · have e1 : ¬ ((x.toNat : Nat) : Int) = ((y.toNat : Nat) : Int) := fun h => e (UInt16.toNat_inj.mp (Int.ofNat.inj h))
      have e2 : (x == y) = false := beq_eq_false_iff_ne.mpr e
      rw [if_neg e1, e2, Bool.false_and, Bool.or_false]
      exact decide_eq_decide.mpr ⟨fun h => UInt16.lt_iff_toNat_lt.mpr (by omega), fun h => by have := UInt16.lt_iff_toNat_lt.mp h; omega⟩
abbrev triOf (z : V × RRow) : Tri := (z.1, kI z.2.key, uI z.2.id)
theorem le_tri {a b : V × RRow} (da : Dig a.2.key) (db : Dig b.2.key) : leR a.2 b.2 = PySem.W.dataLe false encP (triOf a) (triOf b) := by
  rw [dataLeP]
  show (!isRowBefore b.2 a.2) = !decide (kI b.2.key < kI a.2.key ∨ (kI b.2.key = kI a.2.key ∧ uI b.2.id < uI a.2.id))
  congr 1
  rw [row_def, ← lexLt_kI db da, ← lexLt_uI, ← lex_lt_ints, ← lex_lt_ints]
  have e : (b.2.key == a.2.key) = decide (kI b.2.key = kI a.2.key) := by
    rw [kI_dec db da, Bool.eq_iff_iff, beq_iff_eq, decide_eq_true_eq]
  rw [e]
  simp [Bool.decide_or, Bool.decide_and]
/-- the rows after both changes, not yet in order -/
abbrev mrF (a b c : List RRow) (u : Units) : Option RRow := (mergedKey (keyOfId a u) (keyOfId b u) (keyOfId c u)).map fun k => ⟨u, k⟩
theorem keyOfId_dig {rs : List RRow} (h : ∀ r ∈ rs, Dig r.key) (u : Units) : BDig (keyOfId rs u) := fun k e => by
  have e' : (rs.find? fun r => r.id == u).map (fun r => r.key) = some k := e
  cases e2 : rs.find? (fun r => r.id == u) with
  | none => rw [e2] at e'; cases e'
  | some r =>
    rw [e2] at e'
    cases e'
    exact h r (List.mem_of_find?_eq_some e2)
theorem mergedKey_cases (a b c : Bound) : mergedKey a b c = b ∨ mergedKey a b c = c := by
  unfold R7290f.Spec.mergedKey
  split
  · exact .inl rfl
  · split
    · exact .inr rfl
    · split
      · exact .inl rfl
      · cases b with
        | none => exact .inr rfl
        | some j =>
          cases c with
          | none => exact .inl rfl
          | some k =>
            show (if isBefore k j = true then some k else some j) = _ ∨ (if isBefore k j = true then some k else some j) = _
            split
            · exact .inr rfl
            · exact .inl rfl
theorem mergedKey_dig {a b c : Bound} (h1 : BDig b) (h2 : BDig c) : BDig (mergedKey a b c) := by
  rcases mergedKey_cases a b c with e | e <;> rw [e] <;> assumption
theorem ids_le (l : List RRow) : ∀ (acc : List Units), (l.foldl (fun l r => if l.contains r.id then l else l ++ [r.id]) acc).length ≤ acc.length + l.length := by
  induction l with
  | nil => intro acc; exact Nat.le_refl _
  | cons r l ih =>
    intro acc
    rw [List.foldl_cons, List.length_cons]
    have := ih (if acc.contains r.id then acc else acc ++ [r.id])
    have h2 : (if acc.contains r.id then acc else acc ++ [r.id]).length ≤ acc.length + 1 := by
      split
      · omega
      · rw [List.length_append]; exact Nat.le_refl _
    omega
abbrev idF (l : List RRow) : List Units := l.foldl (fun l r => if l.contains r.id then l else l ++ [r.id]) []
theorem idF_step {l : List RRow} {i : Nat} {r : RRow} (e : l[i]? = some r) : idF (l.take (i + 1)) = if (idF (l.take i)).contains r.id then idF (l.take i) else idF (l.take i) ++ [r.id] := by
  unfold idF
  rw [take_more e, List.foldl_append]
  rfl
theorem RL.append {K : PySem.W.Frag} {H : Hp} {xs ys : List V} {a b : List RRow} (h : RL K H xs a) (q : RL K H ys b) : RL K H (xs ++ ys) (a ++ b) := by
  refine ⟨by rw [List.length_append, List.length_append, h.1, q.1], fun i v k e1 e2 => ?_⟩
  by_cases hi : i < xs.length
  · rw [List.getElem?_append_left hi] at e1
    rw [List.getElem?_append_left (by have := h.1; omega)] at e2
    exact h.2 i v k e1 e2
  · rw [List.getElem?_append_right (by omega)] at e1
    rw [List.getElem?_append_right (by have := h.1; omega), ← h.1] at e2
    exact q.2 _ v k e1 e2
theorem QR.kp {K : PySem.W.Frag} {H H' : Hp} {xs : List V} {rs : List RRow} {ps : List Quad} (h : QR K H xs rs ps) (q : Kp H H') : QR K H' xs rs ps := ⟨h.xs, fun p hp => ⟨sqT_kp q (h.at' p hp).1, (h.at' p hp).2.kp q⟩, h.len, fun i p r e1 e2 => ⟨(h.row i p r e1 e2).1, KAt.kp (h.row i p r e1 e2).2 q⟩⟩
theorem isKeys_get {H : Hp} {kvs : List (List L2.Key × V)} {bs : List Addr} (h : IsKeys H kvs bs) : bs.length = kvs.length ∧ ∀ (i : Nat) p b, kvs[i]? = some p → bs[i]? = some b → H b = some (.tup (p.1.map kV)) := by
  unfold IsKeys at h
  induction h with
  | nil => exact ⟨rfl, fun i p b e => by simp at e⟩
  | cons h1 t ih =>
    refine ⟨by rw [List.length_cons, List.length_cons, ih.1], fun i p b e1 e2 => ?_⟩
    cases i with
    | zero =>
      cases e1
      cases e2
      exact h1
    | succ i => exact ih.2 i p b e1 e2
/-! merged_rows -/
abbrev s_merged_rows : Stmt := top 91
abbrev N_merged_rows : List Str := ["base", "one", "other", "base_keys", "one_keys", "other_keys", "names", "name", "key", "rows"]
theorem sc_merged_rows : FnScope N_merged_rows ["base", "one", "other"] (defScope s_merged_rows) := ⟨rfl, rfl, rfl, by decide +kernel, rfl, by decide +kernel, by decide +kernel⟩
def sp_merged_rows (K : PySem.W.Frag) : Sp := fun vs H Q _ => ∃ (l1 l2 l3 : Addr) (x1 x2 x3 : List V) (a b c : List RRow), vs = [.ref l1, .ref l2, .ref l3] ∧ H l1 = some (.lst x1) ∧ H l2 = some (.lst x2) ∧ H l3 = some (.lst x3) ∧ RL K H x1 a ∧ RL K H x2 b ∧ RL K H x3 c ∧
  (a.map (·.id)).Nodup ∧ (b.map (·.id)).Nodup ∧ (c.map (·.id)).Nodup ∧ (∀ r ∈ a, Dig r.key) ∧ (∀ r ∈ b, Dig r.key) ∧ (∀ r ∈ c, Dig r.key) ∧ a.length ≤ 60 ∧ b.length ≤ 60 ∧ c.length ≤ 60 ∧
  ∀ D H' ys, H D = none → Same H H' → H' D = some (.lst ys) → KRL K H' ys (mergedRows a b c) → Q (.ref D) H'
section
variable {P : Program} {w : World} {K : PySem.W.Frag} {mg : Str → Option Value} {base : Heap}
theorem ca_merged_rows (F : Df K mg "merged_rows" s_merged_rows ["base", "one", "other"]) {z : Ads} (T : Gb K mg z)  (c_merged_key : Ca P w K mg base 1 "merged_key" (sp_merged_key K)) : Ca P w K mg base 2 "merged_rows" (sp_merged_rows K) := by
  refine ca_mk F sc_merged_rows (fun vs H Q E h => by
    obtain ⟨_, _, _, _, _, _, _, _, _, rfl, _⟩ := h
    rfl
    ) (fun f cdv A outer s H vs Q E hr h => ?_)
  refine ⟨_, pss_cons (ps_set (i := 3) sc_merged_rows.nd rfl (Or.inl rfl) (pe_dictT rfl hr.units T.dict (pv 0))) (pss_cons (ps_set (i := 4) sc_merged_rows.nd rfl (Or.inl rfl) (pe_dictT rfl hr.units T.dict (pv 1))) (pss_cons (ps_set (i := 5) sc_merged_rows.nd rfl (Or.inl rfl) (pe_dictT rfl hr.units T.dict (pv 2))) (pss_cons (ps_set (i := 6) sc_merged_rows.nd rfl (Or.inl rfl) pe_dnewT) (pss_cons (ps_for rzp rfl (pi_list (pe_op op_cat (pe_op op_cat (pv 0) (pv 1)) (pv 2))) (pg_tup rfl (pgs_cons (pg_name (i := 7) sc_merged_rows.nd rfl (Or.inl rfl)) (pgs_cons (pg_name (i := 8) sc_merged_rows.nd rfl (Or.inl rfl)) pgs_nil))) (pss_one (ps_dput (hu_of hr) (pv 6) (pv 7) pe_bl rfl))) (pss_cons (ps_set (i := 9) sc_merged_rows.nd rfl (Or.inl rfl) (pe_lst pa_nil)) (pss_cons (ps_for rzp rfl (pi_list (pe_callTy (call_list_dT rfl) (by rfl) T.list (by decide +kernel) (pa_cons (pv 6) pa_nil))) (pg_name (i := 7) sc_merged_rows.nd rfl (Or.inl rfl)) (pss_cons (ps_set (i := 8) sc_merged_rows.nd rfl (Or.inl rfl) (pe_ca c_merged_key hr (by first | decide | omega) passN (pa_cons (pe_dget1 (hu_of hr) (pv 3) (pv 7) ⟨rfl, rfl, rfl, rfl⟩) (pa_cons (pe_dget1 (hu_of hr) (pv 4) (pv 7) ⟨rfl, rfl, rfl, rfl⟩) (pa_cons (pe_dget1 (hu_of hr) (pv 5) (pv 7) ⟨rfl, rfl, rfl, rfl⟩) pa_nil))))) (pss_one (ps_if (pt_cmp (pc_notN (pv 8))) (pss_one (ps_expr (pe_bm PySem.F.plainAttrs_list PySem.F.slot_list_append PySem.F.type_list_append mt_append (pv 9) (pa_cons (pe_tup (pa_cons (pv 8) (pa_cons (pv 7) pa_nil))) pa_nil)))) pss_nil)))) (pss_one (ps_ret (pe_sortP hr.units T.sorted (pv 9)))))))))), ?_⟩
  obtain ⟨l1, l2, l3, x1, x2, x3, a, b, c, rfl, g1, g2, g3, r1, r2, r3, n1, n2, n3, d1, d2, d3, z1, z2, z3, q⟩ := h
  obtain ⟨p1, q1⟩ := qr_of r1
  obtain ⟨p2, q2⟩ := qr_of r2
  obtain ⟨p3, q3⟩ := qr_of r3
  have nd : ∀ {rs : List RRow} {xs : List V} {ps : List Quad}, QR K H xs rs ps → (rs.map (·.id)).Nodup → (ps.map fun p => p.2.2.1).Nodup := fun {rs xs ps} q h => by
    rw [q.ids]
    have e : (rs.map fun r => uI r.id) = (rs.map (·.id)).map uI := by rw [List.map_map]; rfl
    rw [e]
    exact (nodup_uI _).mpr h
  walk_at "ex"
  refine ⟨l1, p1, rfl, by rw [← q1.xs]; exact SqL.of g1, q1.at', nd q1 n1, by rw [q1.len]; omega, fun D1 hD1 => ?_⟩
  have s1 := same_new (o := .dT (qd p1)) hD1
  have q2' := q2.kp (Kp.of s1)
  walk_at "ex"
  refine ⟨l2, p2, rfl, by rw [← q2.xs]; exact SqL.of (s1 _ _ g2), q2'.at', nd q2 n2, by rw [q2.len]; omega, fun D2 hD2 => ?_⟩
  have s2 := same_new (o := .dT (qd p2)) hD2
  have q3' := q3.kp (Kp.of (s1.trans s2))
  walk_at "ex"
  refine ⟨l3, p3, rfl, by rw [← q3.xs]; exact SqL.of (s2 _ _ (s1 _ _ g3)), q3'.at', nd q3 n3, by rw [q3.len]; omega, fun D3 hD3 => ?_⟩
  have s3 := same_new (o := .dT (qd p3)) hD3
  walk_at "ex"
  intro D4 hD4
  have s4 := same_new (o := .dT []) hD4
  have sA : Same H _ := s1.trans (s2.trans (s3.trans s4))
  have f1 : upd H D1 (.dT (qd p1)) D1 = some (.dT (qd p1)) := upd_same
  have f2 : upd (upd H D1 (.dT (qd p1))) D2 (.dT (qd p2)) D2 = some (.dT (qd p2)) := upd_same
  have f3 : upd (upd (upd H D1 (.dT (qd p1))) D2 (.dT (qd p2))) D3 (.dT (qd p3)) D3 = some (.dT (qd p3)) := upd_same
  walk_at "ex"
  have hx1 := r1.1
  have hx2 := r2.1
  have hx3 := r3.1
  refine x_cat (sA _ _ g1) (sA _ _ g2) (sz0 (by omega)) fun L1 hL1 => ?_
  have s5 := same_new (o := .lst (x1 ++ x2)) hL1
  walk_at "ex"
  refine x_cat upd_same (s5 _ _ (sA _ _ g3)) (sz0 (by rw [List.length_append]; omega)) fun L2 hL2 => ?_
  have s6 := same_new (o := .lst (x1 ++ x2 ++ x3)) hL2
  have sB := sA.trans (s5.trans s6)
  have hL2e : upd (upd (upd (upd (upd (upd H D1 (.dT (qd p1))) D2 (.dT (qd p2))) D3 (.dT (qd p3))) D4 (.dT [])) L1 (.lst (x1 ++ x2))) L2 (.lst (x1 ++ x2 ++ x3)) L2 = some (.lst (x1 ++ x2 ++ x3)) := upd_same
  have hRL : RL K H (x1 ++ x2 ++ x3) (a ++ b ++ c) := (r1.append r2).append r3
  have hlen : (a ++ b ++ c).length ≤ 180 := by
    rw [List.length_append, List.length_append]
    omega
  have nL2 : L2 ≠ D4 := fun e => by
    have h4 : upd (upd (upd (upd H D1 (.dT (qd p1))) D2 (.dT (qd p2))) D3 (.dT (qd p3))) D4 (.dT []) D4 = some (.dT []) := upd_same
    have h5 := s5 _ _ h4
    rw [e, h5] at hL2
    cases hL2
  have hD4H : H D4 = none := same_none (s1.trans (s2.trans s3)) hD4
  have hf1 := s3 _ _ (s2 _ _ f1)
  have hf2 := s3 _ _ f2
  have s03 := s1.trans (s2.trans s3)
  -- the names
  refine x_fl (SqL.of hL2e) (fun i σ H' => Same (upd (upd (upd H D1 (.dT (qd p1))) D2 (.dT (qd p2))) D3 (.dT (qd p3))) H' ∧ H' L2 = some (.lst (x1 ++ x2 ++ x3)) ∧ H' D4 = some (.dT (nmD (idF ((a ++ b ++ c).take i)))) ∧ ∃ o1 o2, σ = [some (.ref l1), some (.ref l2), some (.ref l3), some (.ref D1), some (.ref D2), some (.ref D3), some (.ref D4), o1, o2, none])
    ⟨s4.trans (s5.trans s6), hL2e, (s5.trans s6) _ _ upd_same, none, none, rfl⟩ (fun i σ H' _ p => SqL.of p.2.1) (fun i x σ H' hi hp => ?_) (fun σ H' hp => ?_)
  · obtain ⟨s, hl2, hd4, o1, o2, rfl⟩ := hp
    have hil : i < (a ++ b ++ c).length := by
      rw [← hRL.1]
      exact (List.getElem?_eq_some_iff.mp hi).1
    have er := List.getElem?_eq_getElem hil
    obtain ⟨t, ta, tb, rfl, ht, ha, hb⟩ := (hRL.2 i x _ hi er).kp (Kp.of (s03.trans s))
    walk_at "ex"
    have hsz : (idF ((a ++ b ++ c).take i)).length ≤ 180 := by
      have h1 := ids_le ((a ++ b ++ c).take i) []
      have h2 : ((a ++ b ++ c).take i).length ≤ (a ++ b ++ c).length := by rw [List.length_take]; omega
      have h3 : ([] : List Units).length = 0 := rfl
      show (List.foldl _ [] _).length ≤ _
      omega
    refine ⟨D4, _, rfl, DPut.t hd4 (k := tk (uI (a ++ b ++ c)[i].id)) (by rw [tk_kV]; exact ha) (sz1 (by show ((idF _).map _).length ≤ _; rw [List.length_map]; omega)), ?_⟩
    refine ⟨But.same s hD4 But.upd, (upd_ne nL2).trans hl2, ?_, _, _, rfl⟩
    rw [upd_same, put_name, idF_step er]
  obtain ⟨s, hl2, hd4, o1, o2, rfl⟩ := hp
  rw [hRL.1, List.take_length] at hd4
  have sC : Same H H' := s03.trans s
  walk_at "ex"
  refine ⟨Nat.zero_le _, fun Lr hLr => ?_⟩
  have t1 := same_new (o := .lst []) hLr
  walk_at "ex"
  refine ⟨D4, _, rfl, Rd.of (t1 _ _ hd4), fun Ln bs hLn hbs => ?_⟩
  have t2 := same_new (o := .lst (bs.map V.ref)) hLn
  obtain ⟨bl, bg⟩ := isKeys_get hbs
  have hnl : (nmD (idF (a ++ b ++ c))).length = (idF (a ++ b ++ c)).length := List.length_map _
  have hids : (idF (a ++ b ++ c)).length ≤ 180 := by
    have h1 := ids_le (a ++ b ++ c) []
    have h3 : ([] : List Units).length = 0 := rfl
    show (List.foldl _ [] _).length ≤ _
    omega
  have hLr0 : upd H' Lr (.lst []) Lr = some (.lst []) := upd_same
  have nLnr : Ln ≠ Lr := fun e => by
    rw [e, upd_same] at hLn
    cases hLn
  have sD : Same H' (upd (upd H' Lr (.lst [])) Ln (.lst (bs.map V.ref))) := t1.trans t2
  walk_at "ex"
  refine x_fl (SqL.of upd_same) (fun i σ H2 => Same H' H2 ∧ H2 Ln = some (.lst (bs.map V.ref)) ∧ (∃ zs : List (V × RRow), H2 Lr = some (.lst (zs.map (·.1))) ∧ zs.map (·.2) = ((idF (a ++ b ++ c)).take i).filterMap (mrF a b c) ∧ (∀ z ∈ zs, KRAt K H2 z.2 z.1) ∧ zs.length ≤ i) ∧ ∃ o1 o2, σ = [some (.ref l1), some (.ref l2), some (.ref l3), some (.ref D1), some (.ref D2), some (.ref D3), some (.ref D4), o1, o2, some (.ref Lr)])
    ⟨sD, upd_same, ⟨[], t2 _ _ hLr0, rfl, fun z hz => (by cases hz), Nat.zero_le _⟩, o1, o2, rfl⟩ (fun i σ H2 _ p => SqL.of p.2.1) (fun i x σ H2 hi hp => ?_) (fun σ H2 hp => ?_)
  · obtain ⟨v, hln, ⟨zs, hzl, hzr, hzk, hzn⟩, o1, o2, rfl⟩ := hp
    rw [List.getElem?_map] at hi
    cases ebi : bs[i]? with
    | none => rw [ebi] at hi; cases hi
    | some bi =>
      rw [ebi] at hi
      cases hi
      have hil : i < (idF (a ++ b ++ c)).length := by
        rw [← hnl, ← bl]
        exact (List.getElem?_eq_some_iff.mp ebi).1
      have eu := List.getElem?_eq_getElem hil
      have hbi0 := bg i _ bi (by rw [List.getElem?_map, eu]; rfl) ebi
      have hbi1 : upd H' Lr (.lst []) bi = some (.tup ((uI (idF (a ++ b ++ c))[i]).map V.int)) := by
        rw [hbi0]
        show some (HO.tup ((tk _).map kV)) = _
        rw [tk_kV]
      have nbr : bi ≠ Lr := fun e => by
        rw [e, upd_same] at hbi1
        cases hbi1
      have hbi : Oc H2 bi (uI (idF (a ++ b ++ c))[i]) := v _ _ ((upd_ne nbr).symm.trans hbi1)
      have hname : H2 bi = some (.tup ((tk (uI (idF (a ++ b ++ c))[i])).map kV)) := by
        rw [tk_kV]
        exact hbi
      have sH2 : Same (upd (upd (upd H D1 (.dT (qd p1))) D2 (.dT (qd p2))) D3 (.dT (qd p3))) H2 := s.trans v
      have h1 := sH2 _ _ hf1
      have h2 := sH2 _ _ hf2
      have h3 := sH2 _ _ f3
      have kH : Kp H H2 := Kp.of (s03.trans sH2)
      have v1 := val_row (H := H2) (idF (a ++ b ++ c))[i] p1 a (q1.kp kH).len (q1.kp kH).row
      have v2 := val_row (H := H2) (idF (a ++ b ++ c))[i] p2 b (q2.kp kH).len (q2.kp kH).row
      have v3 := val_row (H := H2) (idF (a ++ b ++ c))[i] p3 c (q3.kp kH).len (q3.kp kH).row
      walk_at "ex"
      refine ⟨D1, rfl, .inr ⟨_, .inl h1⟩, ?_⟩
      walk_at "ex"
      refine ⟨_, DGet.t h1 hname, ?_⟩
      walk_at "ex"
      refine ⟨D2, rfl, .inr ⟨_, .inl h2⟩, ?_⟩
      walk_at "ex"
      refine ⟨_, DGet.t h2 hname, ?_⟩
      walk_at "ex"
      refine ⟨D3, rfl, .inr ⟨_, .inl h3⟩, ?_⟩
      walk_at "ex"
      refine ⟨_, DGet.t h3 hname, ?_⟩
      walk_at "ex"
      refine ⟨_, _, _, _, _, _, rfl, v1, v2, v3, keyOfId_dig d1 _, keyOfId_dig d2 _, keyOfId_dig d3 _, fun kv hkv => ?_⟩
      walk_at "ex"
      cases em : mergedKey (keyOfId a (idF (a ++ b ++ c))[i]) (keyOfId b (idF (a ++ b ++ c))[i]) (keyOfId c (idF (a ++ b ++ c))[i]) with
      | none =>
        rw [em] at hkv
        have e : kv = .non := hkv
        subst e
        have eF : mrF a b c (idF (a ++ b ++ c))[i] = none := by
          unfold mrF
          rw [em]
          rfl
        refine ite_f (by decide) ?_
        walk_at "ex"
        refine ⟨v, hln, ⟨zs, hzl, ?_, hzk, by omega⟩, _, _, rfl⟩
        rw [hzr, take_more eu, List.filterMap_append, List.filterMap_cons_none eF, List.filterMap_nil, List.append_nil]
      | some k =>
        rw [em] at hkv
        obtain ⟨pk, rfl, hpk⟩ := hkv
        have eF : mrF a b c (idF (a ++ b ++ c))[i] = some ⟨(idF (a ++ b ++ c))[i], k⟩ := by
          unfold mrF
          rw [em]
          rfl
        refine ite_t (by simp) ?_
        walk_at "ex"
        refine ⟨two_le, fun T hT => ?_⟩
        have sT := same_new (o := .tup [.ref pk, .ref bi]) hT
        have hzl2 := sT _ _ hzl
        walk_at "ex"
        refine x_app hzl2 (sz1 (by rw [List.length_map]; omega)) ?_
        walk_at "ex"
        have kk : Kp (upd H2 T (.tup [.ref pk, .ref bi])) (upd (upd H2 T (.tup [.ref pk, .ref bi])) Lr (.lst (zs.map (·.1) ++ [.ref T]))) := Kp.lst hzl2
        have kA : Kp H2 (upd (upd H2 T (.tup [.ref pk, .ref bi])) Lr (.lst (zs.map (·.1) ++ [.ref T]))) := (Kp.of sT).trans kk
        refine ⟨But.same (v.trans sT) hLr But.upd, (upd_ne nLnr).trans (sT _ _ hln), ⟨zs ++ [(.ref T, ⟨(idF (a ++ b ++ c))[i], k⟩)], ?_, ?_, fun z hz => ?_, by rw [List.length_append]; show _ + 1 ≤ _; omega⟩, _, _, rfl⟩
        · rw [upd_same, List.map_append]
          rfl
        · rw [List.map_append, hzr, take_more eu, List.filterMap_append, List.filterMap_cons_some eF, List.filterMap_nil]
          rfl
        · rcases List.mem_append.mp hz with e | e
          · exact (hzk z e).kp kA
          · rw [List.mem_singleton.mp e]
            exact ⟨T, pk, bi, rfl, SqT.of (kk _ _ trivial upd_same), hpk.kp kA, hbi.kp kA⟩
  obtain ⟨v, hln, ⟨zs, hzl, hzr, hzk, hzn⟩, o1, o2, rfl⟩ := hp
  have hzz : zs.length ≤ 180 := by
    rw [List.length_map, bl, hnl] at hzn
    omega
  rw [List.length_map, bl, hnl, List.take_length] at hzr
  have hdig : ∀ z ∈ zs, Dig z.2.key := fun z hz => by
    have hm : z.2 ∈ (idF (a ++ b ++ c)).filterMap (mrF a b c) := by
      rw [← hzr]
      exact List.mem_map.mpr ⟨z, hz, rfl⟩
    obtain ⟨u, _, hu⟩ := List.mem_filterMap.mp hm
    unfold mrF at hu
    cases em : mergedKey (keyOfId a u) (keyOfId b u) (keyOfId c u) with
    | none => rw [em] at hu; cases hu
    | some k =>
      rw [em] at hu
      rw [← Option.some.inj hu]
      exact mergedKey_dig (keyOfId_dig d2 u) (keyOfId_dig d3 u) k em
  walk_at "ex"
  refine ⟨Lr, zs.map triOf, rfl, by rw [List.map_map]; exact SqL.of hzl, fun t ht => ?_, by rw [List.length_map]; omega, fun p hp => ?_⟩
  · obtain ⟨z, hz, rfl⟩ := List.mem_map.mp ht
    obtain ⟨t, ta, tb, e, h1, h2, h3⟩ := hzk z hz
    exact ⟨t, ta, tb, e, h1, h2, h3⟩
  have hm := List.map_mergeSort (r := fun p q : V × RRow => leR p.2 q.2) (s := PySem.W.dataLe false encP) (f := triOf) (l := zs) fun p hp q hq => le_tri (hdig p hp) (hdig q hq)
  have hm2 := List.map_mergeSort (r := fun p q : V × RRow => leR p.2 q.2) (s := leR) (f := Prod.snd) (l := zs) fun p _ q _ => rfl
  have sp := same_new (o := .lst (((zs.map triOf).mergeSort (PySem.W.dataLe false encP)).map (·.1))) hp
  have sE : Same H H2 := sC.trans v
  refine q p _ _ (same_none sE hp) (sE.trans sp) upd_same ?_
  have emr : mergedRows a b c = (zs.mergeSort fun p q => leR p.2 q.2).map Prod.snd := by
    rw [hm2]
    show ((idF (a ++ b ++ c)).filterMap (mrF a b c)).foldr insertRow [] = (zs.map (·.2)).mergeSort leR
    rw [hzr, sort_rows]
  rw [← hm, emr, List.map_map]
  refine ⟨by rw [List.length_map, List.length_map], fun i w r e1 e2 => ?_⟩
  rw [List.getElem?_map] at e1 e2
  cases ez : (zs.mergeSort fun p q => leR p.2 q.2)[i]? with
  | none => rw [ez] at e1; cases e1
  | some z =>
    rw [ez] at e1 e2
    cases e1
    cases e2
    have hz : z ∈ zs := (List.mergeSort_perm zs _).mem_iff.mp (List.mem_of_getElem? ez)
    exact (hzk z hz).kp (Kp.of (same_new hp))

end
end OK
namespace OK
open PySem PySem.Spec PyProof.Rows L2
open R7290f.Spec (Plain Units Bound Err units beyond wrong Call Ans perform limitArgument rowsArgument rowsIn rowIn mergeFn mergedRows merged changedIds mergedKey keyOfId rowValue record keyValue answer distinctIds insertRow)
theorem rowsIn_facts {n : Nat} {p : Plain} {rs : List RRow} (h : rowsIn n p = some rs) : rs.length ≤ 60 ∧ (rs.map (·.id)).Nodup ∧ ∀ r ∈ rs, KeyOk r.key := by
  obtain ⟨l, rfl, hl, hr, _, hd⟩ := rowsIn_some h
  have hrl := rowsOf_len hr
  refine ⟨by omega, (dist_iff _).mp hd, fun r hm => ?_⟩
  obtain ⟨i, hi⟩ := List.mem_iff_getElem?.mp hm
  have : i < l.length := by
    rw [hrl]
    exact (List.getElem?_eq_some_iff.mp hi).1
  obtain ⟨r2, e1, e2⟩ := rowsOf_get hr (List.getElem?_eq_getElem this)
  rw [hi] at e1
  cases e1
  obtain ⟨_, _, _, _, hk2⟩ := rowIn_iff.mp e2
  obtain ⟨_, _, _, _, ok, _⟩ := keyV_some hk2
  exact ok
theorem keyOfId_ok {rs : List RRow} (h : ∀ r ∈ rs, KeyOk r.key) (u : Units) : BOk (keyOfId rs u) := fun k e => by
  have e' : (rs.find? fun r => r.id == u).map (fun r => r.key) = some k := e
  cases e2 : rs.find? (fun r => r.id == u) with
  | none => rw [e2] at e'; cases e'
  | some r =>
    rw [e2] at e'
    cases e'
    exact h r (List.mem_of_find?_eq_some e2)
theorem merged_ok {a b c : List RRow} (h2 : ∀ r ∈ b, KeyOk r.key) (h3 : ∀ r ∈ c, KeyOk r.key) : ∀ r ∈ mergedRows a b c, KeyOk r.key := fun r hr => by
  have hr' : r ∈ ((idF (a ++ b ++ c)).filterMap (mrF a b c)).foldr insertRow [] := hr
  have hm := (foldr_perm _).mem_iff.mp hr'
  obtain ⟨u, _, hu⟩ := List.mem_filterMap.mp hm
  unfold mrF at hu
  cases em : mergedKey (keyOfId a u) (keyOfId b u) (keyOfId c u) with
  | none => rw [em] at hu; cases hu
  | some k =>
    rw [em] at hu
    rw [← Option.some.inj hu]
    rcases mergedKey_cases (keyOfId a u) (keyOfId b u) (keyOfId c u) with e | e
    · rw [e] at em
      exact keyOfId_ok h2 u k em
    · rw [e] at em
      exact keyOfId_ok h3 u k em
theorem merged_few {a b c : List RRow} (h1 : a.length ≤ 60) (h2 : b.length ≤ 60) (h3 : c.length ≤ 60) : (mergedRows a b c).length ≤ 180 := by
  have e : (mergedRows a b c).length = ((idF (a ++ b ++ c)).filterMap (mrF a b c)).length := (foldr_perm ((idF (a ++ b ++ c)).filterMap (mrF a b c))).length_eq
  have h4 := List.length_filterMap_le (mrF a b c) (idF (a ++ b ++ c))
  have h5 := ids_le (a ++ b ++ c) []
  have h6 : ([] : List Units).length = 0 := rfl
  rw [List.length_append, List.length_append] at h5
  have h7 : (idF (a ++ b ++ c)).length ≤ 180 := by
    show (List.foldl _ [] _).length ≤ _
    omega
  omega
theorem UL.append {H : Hp} {vs ws : List V} {us js : List Units} (h : UL H vs us) (q : UL H ws js) : UL H (vs ++ ws) (us ++ js) := by
  refine ⟨by rw [List.length_append, List.length_append, h.1, q.1], fun i v k e1 e2 => ?_⟩
  by_cases hi : i < vs.length
  · rw [List.getElem?_append_left hi] at e1
    rw [List.getElem?_append_left (by have := h.1; omega)] at e2
    exact h.2 i v k e1 e2
  · rw [List.getElem?_append_right (by omega)] at e1
    rw [List.getElem?_append_right (by have := h.1; omega), ← h.1] at e2
    exact q.2 _ v k e1 e2
abbrev sp_merge_door (z : Ads) (K : PySem.W.Frag) : Sp := DoorSp z K 8
/-! merge_door -/
abbrev s_merge_door : Stmt := top 104
abbrev N_merge_door : List Str := ["slots", "given", "limit", "base", "one", "other", "merged", "keys", "rows", "changed", "at", "key", "name"]
theorem sc_merge_door : FnScope N_merge_door ["slots", "given"] (defScope s_merge_door) := ⟨rfl, rfl, rfl, by decide +kernel, rfl, by decide +kernel, by decide +kernel⟩
section
variable {P : Program} {w : World} {K : PySem.W.Frag} {mg : Str → Option Value} {base : Heap}
theorem ca_merge_door (F : Df K mg "merge_door" s_merge_door ["slots", "given"]) {z : Ads} (T : Gb K mg z)  (c_record_value : Ca P w K mg base 2 "record_value" (sp_record_value K)) (c_texts_value : Ca P w K mg base 1 "texts_value" (sp_texts_value K)) (c_list_value : Ca P w K mg base 1 "list_value" (sp_list_value K)) (c_row_value : Ca P w K mg base 3 "row_value" (sp_row_value K)) (c_rekeyed : Ca P w K mg base 7 "rekeyed" (sp_rekeyed K)) (c_keys_in_all : Ca P w K mg base 2 "keys_in_all" (sp_keys_in_all K)) (c_merged_rows : Ca P w K mg base 2 "merged_rows" (sp_merged_rows K)) (c_board_of : Ca P w K mg base 6 "board_of" (sp_board_of z K)) (c_limit_of : Ca P w K mg base 3 "limit_of" (sp_limit_of z K)) : Ca P w K mg base 8 "merge_door" (sp_merge_door z K) := by
  refine ca_mk F sc_merge_door (fun vs H Q E h => by
    obtain ⟨_, _, _, _, _, _, _, _, _, _, _, rfl, _⟩ := h
    rfl
    ) (fun f cdv A outer s H vs Q E hr h => ?_)
  refine ⟨_, pss_cons (ps_set (i := 2) sc_merge_door.nd rfl (Or.inl rfl) (pe_ca c_limit_of hr (by first | decide | omega) rz.pass (pa_cons (pe_ix ix_list (pv 1) pe_int (fun _ _ => rfl)) pa_nil))) (pss_cons (ps_set (i := 3) sc_merge_door.nd rfl (Or.inl rfl) (pe_ca c_board_of hr (by first | decide | omega) rz.pass (pa_cons (pe_ix ix_list (pv 1) pe_int (fun _ _ => rfl)) (pa_cons pe_str (pa_cons (pv 2) pa_nil))))) (pss_cons (ps_set (i := 4) sc_merge_door.nd rfl (Or.inl rfl) (pe_ca c_board_of hr (by first | decide | omega) rz.pass (pa_cons (pe_ix ix_list (pv 1) pe_int (fun _ _ => rfl)) (pa_cons pe_str (pa_cons (pv 2) pa_nil))))) (pss_cons (ps_set (i := 5) sc_merge_door.nd rfl (Or.inl rfl) (pe_ca c_board_of hr (by first | decide | omega) rz.pass (pa_cons (pe_ix ix_list (pv 1) pe_int (fun _ _ => rfl)) (pa_cons pe_str (pa_cons (pv 2) pa_nil))))) (pss_cons (ps_set (i := 6) sc_merge_door.nd rfl (Or.inl rfl) (pe_ca c_merged_rows hr (by first | decide | omega) passN (pa_cons (pv 3) (pa_cons (pv 4) (pa_cons (pv 5) pa_nil))))) (pss_cons (ps_if (pt_cmpR op_gt (pe_len T.len (pv 6)) (pe_ca c_keys_in_all hr (by first | decide | omega) passN (pa_cons (pv 2) pa_nil)) (nomark _)) (pss_one (ps_raiseM rfl rz (by exact (pmk_msg PySem.F.excBase_Exception T.xOutOfRange T.gOutOfRange T.kOutOfRange (raises_own T.bOutOfRange T.tOutOfRange) pe_str)))) pss_nil) (pss_cons (ps_set (i := 7) sc_merge_door.nd rfl (Or.inl rfl) (pe_ca c_rekeyed hr (by first | decide | omega) passN (pa_cons (pe_lc (own := [("key", 11), ("name", 12)]) (g := (gTup K 2 (gCons (gName 11) (gCons (gName 12) gNil)))) (tt := tYes) rfl sc_merge_door.nd (pi_list (pv 6)) (blkOk_by (own := [("key", 11), ("name", 12)]) (N := N_merge_door) (sc := defScope s_merge_door) (by decide +kernel)) (fun _ _ _ _ _ => (pg_tup rfl (pgs_cons (pg_name (i := 11) sc_merge_door.nd rfl (Or.inl rfl)) (pgs_cons (pg_name (i := 12) sc_merge_door.nd rfl (Or.inl rfl)) pgs_nil)))) (fun _ _ _ _ _ => pts_nil) (fun _ _ _ _ _ => (pv 11))) (pa_cons (pv 2) pa_nil)))) (pss_cons (ps_set (i := 8) sc_merge_door.nd rfl (Or.inl rfl) (pe_lst pa_nil)) (pss_cons (ps_set (i := 9) sc_merge_door.nd rfl (Or.inl rfl) (pe_lst pa_nil)) (pss_cons (ps_for rzp rfl (pi_enum (by rfl) T.enumerate (pa_cons (pv 6) pa_nil)) (pg_tup rfl (pgs_cons (pg_name (i := 10) sc_merge_door.nd rfl (Or.inl rfl)) (pgs_cons (pg_tup rfl (pgs_cons (pg_name (i := 11) sc_merge_door.nd rfl (Or.inl rfl)) (pgs_cons (pg_name (i := 12) sc_merge_door.nd rfl (Or.inl rfl)) pgs_nil))) pgs_nil))) (pss_cons (ps_expr (pe_bm PySem.F.plainAttrs_list PySem.F.slot_list_append PySem.F.type_list_append mt_append (pv 8) (pa_cons (pe_ca c_row_value hr (by first | decide | omega) passN (pa_cons (pv 12) (pa_cons (pe_ix ix_list (pv 7) (pv 10) (fun _ _ => rfl)) pa_nil))) pa_nil))) (pss_one (ps_if (pt_cmpR (op_neD hr.units) (pe_ix ix_list (pv 7) (pv 10) (fun _ _ => rfl)) (pv 11) (nomark _)) (pss_one (ps_expr (pe_bm PySem.F.plainAttrs_list PySem.F.slot_list_append PySem.F.type_list_append mt_append (pv 9) (pa_cons (pv 12) pa_nil)))) pss_nil)))) (pss_one (ps_ret (pe_ca c_record_value hr (by first | decide | omega) passN (pa_cons (pe_lst (pa_cons (pe_tup (pa_cons pe_str (pa_cons (pe_ca c_list_value hr (by first | decide | omega) passN (pa_cons (pe_fz (pv 8)) pa_nil)) pa_nil))) (pa_cons (pe_tup (pa_cons pe_str (pa_cons (pe_ca c_texts_value hr (by first | decide | omega) passN (pa_cons (pv 9) pa_nil)) pa_nil))) pa_nil))) pa_nil))))))))))))), ?_⟩
  obtain ⟨sO, g, dx, lb, lg, w0, vb, vg, xs, l, c, rfl, W, hg, hx, hc, hin, q, qe⟩ := h
  have hs3 := taking_some (show Rust.taking 4 l (some (.merge1 (Rust.argAt l 0) (Rust.argAt l 1) (Rust.argAt l 2) (Rust.argAt l 3))) = some c from hc)
  cases hs3
  obtain ⟨x0, e0, h0⟩ := hx 0 (by decide)
  obtain ⟨x1, e1, h1⟩ := hx 1 (by decide)
  obtain ⟨x2, e2, h2⟩ := hx 2 (by decide)
  obtain ⟨x3, e3, h3⟩ := hx 3 (by decide)
  walk_at "ex"
  refine x_ixL hg (atI_nat e3) ?_
  walk_at "ex"
  refine ⟨x3, _, rfl, h3, fun n en n1 n8 => ?_, fun er he => qe w0 er (by
    show (w0, answer id (mergeFn _ _ _ _)) = _
    unfold R7290f.Spec.mergeFn
    rw [he]
    rfl)⟩
  walk_at "ex"
  refine x_ixL hg (atI_nat e0) ?_
  walk_at "ex"
  refine ⟨x0, _, _, "base", n, rfl, h0, cI_lit "base" (by decide +kernel), by rw [sz_lit]; decide +kernel, by omega, fun ra D1 H1 y1 ea ia hD1 s1 hy1 rl1 => ?_, fun er he => qe w0 er (by
    show (w0, answer id (mergeFn _ _ _ _)) = _
    unfold R7290f.Spec.mergeFn
    rw [en]
    show (w0, answer id (R7290f.Spec.andThen (rowsArgument "base" n _) _)) = _
    rw [he]
    rfl)⟩
  have hg1 := sqL_same s1 hg
  walk_at "ex"
  refine x_ixL hg1 (atI_nat e1) ?_
  walk_at "ex"
  refine ⟨x1, _, _, "one", n, rfl, VAt.kp (Kp.of s1) h1, cI_lit "one" (by decide +kernel), by rw [sz_lit]; decide +kernel, by omega, fun rb D2 H2 y2 eb ib hD2 s2 hy2 rl2 => ?_, fun er he => (qe w0 er (by
    show (w0, answer id (mergeFn _ _ _ _)) = _
    unfold R7290f.Spec.mergeFn
    rw [en]
    show (w0, answer id (R7290f.Spec.andThen (rowsArgument "base" n _) _)) = _
    rw [ea]
    show (w0, answer id (R7290f.Spec.andThen (rowsArgument "one" n _) _)) = _
    rw [he]
    rfl)).back s1⟩
  have hg2 := sqL_same s2 hg1
  walk_at "ex"
  refine x_ixL hg2 (atI_nat e2) ?_
  walk_at "ex"
  refine ⟨x2, _, _, "other", n, rfl, VAt.kp (Kp.of (s1.trans s2)) h2, cI_lit "other" (by decide +kernel), by rw [sz_lit]; decide +kernel, by omega, fun rc D3 H3 y3 ec ic hD3 s3 hy3 rl3 => ?_, fun er he => (qe w0 er (by
    show (w0, answer id (mergeFn _ _ _ _)) = _
    unfold R7290f.Spec.mergeFn
    rw [en]
    show (w0, answer id (R7290f.Spec.andThen (rowsArgument "base" n _) _)) = _
    rw [ea]
    show (w0, answer id (R7290f.Spec.andThen (rowsArgument "one" n _) _)) = _
    rw [eb]
    show (w0, answer id (R7290f.Spec.andThen (rowsArgument "other" n _) _)) = _
    rw [he]
    rfl)).back (s1.trans s2)⟩
  have eP : perform w0 (.merge1 (Rust.argAt l 0) (Rust.argAt l 1) (Rust.argAt l 2) (Rust.argAt l 3)) = (w0, answer id (if (mergedRows ra rb rc).length < 36 ^ n then .ok (record [("rows", .arr ((merged n ra rb rc).map rowValue)), ("changed", .arr ((changedIds (mergedRows ra rb rc) (merged n ra rb rc)).map Plain.str))]) else R7290f.Spec.bad "too many rows")) := by
    show (w0, answer id (mergeFn _ _ _ _)) = _
    unfold R7290f.Spec.mergeFn
    rw [en]
    show (w0, answer id (R7290f.Spec.andThen (rowsArgument "base" n _) _)) = _
    rw [ea]
    show (w0, answer id (R7290f.Spec.andThen (rowsArgument "one" n _) _)) = _
    rw [eb]
    show (w0, answer id (R7290f.Spec.andThen (rowsArgument "other" n _) _)) = _
    rw [ec]
    rfl
  obtain ⟨fa1, fa2, fa3⟩ := rowsIn_facts ia
  obtain ⟨fb1, fb2, fb3⟩ := rowsIn_facts ib
  obtain ⟨fc1, fc2, fc3⟩ := rowsIn_facts ic
  have hM := merged_few fa1 fb1 fc1
  have hMok := merged_ok (a := ra) fb3 fc3
  walk_at "ex"
  refine ⟨D1, D2, D3, y1, y2, y3, ra, rb, rc, rfl, s3 _ _ (s2 _ _ hy1), s3 _ _ hy2, hy3, rl1.kp (Kp.of (s2.trans s3)), rl2.kp (Kp.of s3), rl3, fa2, fb2, fc2, fun r h => (fa3 r h).dig, fun r h => (fb3 r h).dig, fun r h => (fc3 r h).dig, fa1, fb1, fc1, fun D4 H4 ms hD4 s4 hy4 kr => ?_⟩
  revert eP hM hMok kr
  generalize hMe : mergedRows ra rb rc = M
  intro eP hM hMok kr
  have hml := kr.1
  walk_at "ex"
  refine ⟨n, rfl, by omega, ?_⟩
  walk_at "ex"
  have sA := s1.trans (s2.trans (s3.trans s4))
  refine ite_d (fun c1 => ?_) (fun c1 => ?_)
  · rw [if_neg (by omega)] at eP
    walk_at "ex"
    exact ⟨_, rfl, fun t ht => qe w0 (beyond "too many rows") eP t _ _ (sA.trans (same_new ht)) upd_same (cI_lit "too many rows" (by decide +kernel)) (by rw [sz_lit]; decide +kernel)⟩
  have hlt : M.length < 36 ^ n := by omega
  rw [if_pos hlt] at eP
  walk_at "ex"
  refine x_lcl (SqL.of hy4) (by omega) (fun H i v => ∃ r, M[i]? = some r ∧ KAt H v r.key) (fun H H' i v k h => let ⟨u, e, o⟩ := h; ⟨u, e, o.kp k⟩) (fun x H => gPair_mono x _ H) (fun i x H' hxi s Q' hQ => ?_) (fun D5 H5 ws hD5 s5 hw it => ?_)
  · have hi : i < M.length := by rw [← hml]; exact (List.getElem?_eq_some_iff.mp hxi).1
    obtain ⟨t, ta, tb, rfl, ht, ha, hb⟩ := (kr.2 i x _ hxi (List.getElem?_eq_getElem hi)).kp (Kp.of s)
    walk_at "ex"
    refine ⟨rfl, ?_⟩
    walk_at "ex"
    exact hQ _ _ (Same.refl _) ⟨_, List.getElem?_eq_getElem hi, ta, rfl, ha⟩
  have hTL : TL H5 ws (M.map fun r => some r.key) := ⟨by rw [it.1, List.length_map]; exact hml, fun i v b f1 f2 => by
    obtain ⟨r, f3, f4⟩ := it.2 i v f1
    rw [List.getElem?_map, f3] at f2
    cases f2
    exact ⟨f4, hMok r (List.mem_of_getElem? f3)⟩⟩
  walk_at "ex"
  refine ⟨D5, ws, M.map fun r => some r.key, n, rfl, SqL.of hw, hTL, by rw [List.length_map]; omega, by omega, by rw [List.length_map]; exact hlt, fun D6 H6 zs hD6 s6 hz6 hkl => ?_⟩
  obtain ⟨k1, k2, k3⟩ := rekeyed_ok (lim := n) (rows := M.map fun r => some r.key) (by omega) (by rw [List.length_map]; omega) (by rw [List.length_map]; exact hlt) fun k hk => by
    obtain ⟨r, hr, e⟩ := List.mem_map.mp hk
    cases e
    exact hMok r hr
  have hN : merged n ra rb rc = (M.zip (R7290f.Spec.rekeyed n (M.map fun r => some r.key))).map fun e => ⟨e.1.id, e.2⟩ := by
    show ((mergedRows ra rb rc).zip _).map _ = _
    rw [hMe]
  rw [hN] at eP
  revert k1 k2 k3 hkl eP
  generalize R7290f.Spec.rekeyed n (M.map fun r => some r.key) = ks
  intro eP hkl k1 k2 k3
  rw [List.length_map] at k3
  generalize hNe : ((M.zip ks).map fun e => (⟨e.1.id, e.2⟩ : RRow)) = N at eP
  have hNl : N.length = M.length := by rw [← hNe, List.length_map, List.length_zip, k3, Nat.min_self]
  have hNi : ∀ (i : Nat) (r : RRow) (k : List Nat), M[i]? = some r → ks[i]? = some k → N[i]? = some ⟨r.id, k⟩ := fun i r k f1 f2 => by
    have hzz : (M.zip ks)[i]? = some (r, k) := List.getElem?_zip_eq_some.mpr ⟨f1, f2⟩
    rw [← hNe, List.getElem?_map, hzz]
    rfl
  have kr6 := kr.kp (Kp.of (s5.trans s6))
  have hy6 := s6 _ _ (s5 _ _ hy4)
  walk_at "ex"
  refine ⟨Nat.zero_le _, fun R hR => ?_⟩
  have t1 := same_new (o := .lst []) hR
  walk_at "ex"
  refine ⟨Nat.zero_le _, fun C hC => ?_⟩
  have t2 := same_new (o := .lst []) hC
  have hR0 : upd H6 R (.lst []) R = some (.lst []) := upd_same
  have nRC : C ≠ R := fun e => by
    rw [e, upd_same] at hC
    cases hC
  have nDR : D4 ≠ R := fun e => by
    rw [e] at hy6
    rw [hy6] at hR
    cases hR
  have sT := t1.trans t2
  have hlM : SqL K (upd (upd H6 R (.lst [])) C (.lst [])) D4 ms := SqL.of (sT _ _ hy6)
  walk_at "ex"
  refine x_fe hlM (fun i σ H' => Same H6 H' ∧ (∃ ys, H' R = some (.lst ys) ∧ VsAt K H' ((N.take i).map rowValue) ys ∧ ys.length = i) ∧ (∃ us, H' C = some (.lst us) ∧ UL H' us ((((M.zip N).take i).filter fun e => e.1.key != e.2.key).map fun e => e.1.id) ∧ us.length ≤ i) ∧
    ∃ o1 o2 o3, σ = [some (.ref sO), some (.ref g), some (.int (n : Int)), some (.ref D1), some (.ref D2), some (.ref D3), some (.ref D4), some (.ref D6), some (.ref R), some (.ref C), o1, o2, o3])
    ⟨sT, ⟨[], t2 _ _ hR0, rfl, rfl⟩, ⟨[], upd_same, ⟨rfl, fun i v u e => by simp at e⟩, Nat.le_refl _⟩, none, none, none, rfl⟩ (fun i σ H' _ p => SqL.of (p.1 _ _ hy6)) (fun i x TT σ H0 H' hxi hp hTT eH => ?_) (fun σ H' hp => ?_)
  · obtain ⟨s, ⟨ys, hr, hv, hyl⟩, ⟨us, hcc, hu, hul⟩, o1, o2, o3, rfl⟩ := hp
    have hi : i < M.length := by rw [← hml]; exact (List.getElem?_eq_some_iff.mp hxi).1
    have eM := List.getElem?_eq_getElem hi
    have eK : ks[i]? = some ks[i] := List.getElem?_eq_getElem (by omega)
    have eN := hNi i _ _ eM eK
    have sTT : Same H0 H' := by rw [eH]; exact same_new hTT
    have hTt : H' TT = some (.tup [.int (i : Nat), x]) := by rw [eH]; exact upd_same
    have sZ := s.trans sTT
    obtain ⟨t, ta, tb, rfl, ht, ha, hb⟩ := (kr6.2 i x _ hxi eM).kp (Kp.of sZ)
    obtain ⟨kv, hkv, pk, rfl, hpk⟩ := hkl.get (i := i) (by omega)
    have hz := sZ _ _ hz6
    have hpk' := hpk.kp (Kp.of sZ)
    have hr' := sTT _ _ hr
    have hc' := sTT _ _ hcc
    walk_at "ex"
    refine x_ixL (SqL.of hz) (atI_nat hkv) ?_
    walk_at "ex"
    refine ⟨tb, pk, M[i].id, ks[i], rfl, hb, hpk', (k1 _ (List.getElem_mem _)).1.dig, fun y H7 s7 hy7 => ?_⟩
    have hr7 := s7 _ _ hr'
    walk_at "ex"
    refine x_app hr7 (sz1 (by omega)) ?_
    have kR : Kp H7 (upd H7 R (.lst (ys ++ [y]))) := Kp.lst hr7
    have sR : Same H6 (upd H7 R (.lst (ys ++ [y]))) := But.same (sZ.trans s7) hR But.upd
    have hz8 := sR _ _ hz6
    walk_at "ex"
    refine x_ixL (SqL.of hz8) (atI_nat hkv) ?_
    walk_at "ex"
    refine x_neT (hpk.kp (Kp.of sR)).t (ha.kp ((Kp.of s7).trans kR)).t ?_
    walk_at "ex"
    have eb : (!decide (kI ks[i] = kI M[i].key)) = (M[i].key != ks[i]) := by
      rw [kI_dec (k1 _ (List.getElem_mem _)).1.dig (hMok _ (List.getElem_mem _)).dig]
      by_cases e : ks[i] = M[i].key
      · simp [e]
      · have e' : ¬ M[i].key = ks[i] := fun h => e h.symm
        simp [e, e']
    rw [eb]
    have eZ : (M.zip N)[i]? = some (M[i], ⟨M[i].id, ks[i]⟩) := List.getElem?_zip_eq_some.mpr ⟨eM, eN⟩
    have hv2 : VsAt K (upd H7 R (.lst (ys ++ [y]))) ((N.take (i + 1)).map rowValue) (ys ++ [y]) := by
      rw [take_more eN, List.map_append]
      exact VsAt.push (VsAt.kp ((Kp.of (sTT.trans s7)).trans kR) hv) (VAt.kp kR hy7)
    have hu2 : UL (upd H7 R (.lst (ys ++ [y]))) us ((((M.zip N).take i).filter fun e => e.1.key != e.2.key).map fun e => e.1.id) := hu.kp ((Kp.of (sTT.trans s7)).trans kR)
    have hc8 : (upd H7 R (.lst (ys ++ [y]))) C = some (.lst us) := (upd_ne nRC).trans (s7 _ _ hc')
    refine ite_b (fun c2 => ?_) (fun c2 => ?_)
    · walk_at "ex"
      refine x_app hc8 (sz1 (by omega)) ?_
      walk_at "ex"
      have kC : Kp (upd H7 R (.lst (ys ++ [y]))) (upd (upd H7 R (.lst (ys ++ [y]))) C (.lst (us ++ [.ref tb]))) := Kp.lst hc8
      refine ⟨But.same sR (same_none t1 hC) But.upd, ⟨ys ++ [y], (upd_ne (Ne.symm nRC)).trans upd_same, VsAt.kp kC hv2, by rw [List.length_append, hyl]; rfl⟩, ⟨us ++ [.ref tb], upd_same, ?_, by rw [List.length_append]; show _ + 1 ≤ _; omega⟩, _, _, _, rfl⟩
      rw [take_more eZ, List.filter_append, List.map_append]
      have e1 : ([(M[i], (⟨M[i].id, ks[i]⟩ : RRow))].filter fun e => e.1.key != e.2.key) = [(M[i], ⟨M[i].id, ks[i]⟩)] := by
        exact List.filter_cons_of_pos (p := fun e : RRow × RRow => e.1.key != e.2.key) (a := (M[i], ⟨M[i].id, ks[i]⟩)) (l := []) c2
      rw [e1]
      exact UL.append (hu2.kp kC) ⟨rfl, fun j v u f1 f2 => by
        cases j with
        | zero =>
          cases f1
          cases f2
          exact ⟨tb, rfl, hb.kp ((Kp.of s7).trans (kR.trans kC))⟩
        | succ j => simp at f1⟩
    · walk_at "ex"
      refine ⟨sR, ⟨ys ++ [y], upd_same, hv2, by rw [List.length_append, hyl]; rfl⟩, ⟨us, hc8, ?_, by omega⟩, _, _, _, rfl⟩
      rw [take_more eZ, List.filter_append, List.map_append]
      have e1 : ([(M[i], (⟨M[i].id, ks[i]⟩ : RRow))].filter fun e => e.1.key != e.2.key) = [] := by
        exact List.filter_cons_of_neg (p := fun e : RRow × RRow => e.1.key != e.2.key) (a := (M[i], ⟨M[i].id, ks[i]⟩)) (l := []) (by rw [Bool.not_eq_true]; exact c2)
      rw [e1, List.map_nil, List.append_nil]
      exact hu2
  obtain ⟨s, ⟨ys, hr, hv, hyl⟩, ⟨us, hcc, hu, hul⟩, o1, o2, o3, rfl⟩ := hp
  rw [hml, List.take_of_length_le (by omega)] at hv
  rw [hml, List.take_of_length_le (by rw [List.length_zip]; omega)] at hu
  walk_at "ex"
  refine ⟨R, ys, rfl, hr, fun o => ?_⟩
  have kF : Kp H' (upd H' R (.frz o (.lst ys))) := Kp.lst hr
  have sF : Same H6 (upd H' R (.frz o (.lst ys))) := But.same s hR But.upd
  walk_at "ex"
  refine ⟨R, ys, N.map rowValue, rfl, ⟨o, upd_same⟩, VsAt.kp kF hv, fun v1 H7 s7 hv1 => ?_⟩
  walk_at "ex"
  refine ⟨two_le, fun T1 hT1 => ?_⟩
  have s8 := same_new (o := .tup [.str "rows", v1]) hT1
  have g1 : (upd H7 T1 (.tup [.str "rows", v1])) T1 = some (.tup [.str "rows", v1]) := upd_same
  have hc9 := s8 _ _ (s7 _ _ ((upd_ne nRC).trans hcc : (upd H' R (.frz o (.lst ys))) C = some (.lst us)))
  walk_at "ex"
  refine ⟨C, us, changedIds M N, rfl, SqL.of hc9, hu.kp (kF.trans (Kp.of (s7.trans s8))), ?_, fun v2 H9 s9 hv2 => ?_⟩
  · show (((M.zip N).filter _).map _).length ≤ _
    rw [List.length_map]
    exact Nat.le_trans (List.length_filter_le _ _) (by rw [List.length_zip]; omega)
  walk_at "ex"
  refine ⟨two_le, fun T2 hT2 => ?_⟩
  have s10 := same_new (o := .tup [.str "changed", v2]) hT2
  have g2 : (upd H9 T2 (.tup [.str "changed", v2])) T2 = some (.tup [.str "changed", v2]) := upd_same
  walk_at "ex"
  refine ⟨two_le, fun L hL => ?_⟩
  have s11 := same_new (o := .lst [.ref T1, .ref T2]) hL
  walk_at "ex"
  refine ⟨L, [.ref T1, .ref T2], [(units "rows", .arr (N.map rowValue)), (units "changed", .arr ((changedIds M N).map Plain.str))], rfl, SqL.of upd_same, rfl, (by show 2 ≤ 1000; decide), fun i x' f f1 f2 => ?_, fun y H12 s12 hy => ?_⟩
  · match i, f1, f2 with
    | 0, f1, f2 =>
      cases f1
      cases f2
      exact ⟨T1, _, v1, rfl, SqT.of ((s9.trans (s10.trans s11)) _ _ g1), by rw [sz_lit]; decide +kernel, cI_lit "rows" (by decide +kernel), VAt.kp (Kp.of (s8.trans (s9.trans (s10.trans s11)))) hv1⟩
    | 1, f1, f2 =>
      cases f1
      cases f2
      exact ⟨T2, _, v2, rfl, SqT.of (s11 _ _ g2), by rw [sz_lit]; decide +kernel, cI_lit "changed" (by decide +kernel), VAt.kp (Kp.of (s10.trans s11)) hv2⟩
    | n + 2, f1, f2 => simp at f1
  · have sZ := sA.trans (s5.trans (s6.trans (sF.trans (s7.trans (s8.trans (s9.trans (s10.trans (s11.trans s12))))))))
    exact q w0 _ eP y H12 vb vg (KpL.of sZ) (W.same sZ) hy

end
end OK
namespace OK
open PySem PySem.Spec PyProof.Rows L2
open R7290f.Spec (Plain Units Call)
theorem drop3 {a b n : UInt8} {r bs : List UInt8} (h : bs = a :: b :: n :: r) : bs.drop 3 = r ∧ bs[0]? = some a ∧ bs[1]? = some b ∧ bs[2]? = some n ∧ bs.length = r.length + 3 := by
  subst h
  exact ⟨rfl, rfl, rfl, rfl, rfl⟩
theorem ofKinds_ok {l : List RWire.Value} (h : Rust.ofKinds l = true) : okVs l = true := by
  have h' : ((false || RWire.noBigMany l) && (false || RWire.noOctetsMany l) && (false || RWire.noWideMany l)) = true := h
  unfold okVs
  simpa using h'
theorem argAt_end {l : List Plain} {i : Nat} (h : l.length ≤ i) : Rust.argAt l i = .undef := by
  show l.getD i .undef = _
  rw [List.getD_eq_getElem?_getD, List.getElem?_eq_none h]
  rfl
theorem argAt_get {l : List Plain} {i : Nat} {p : Plain} (h : l[i]? = some p) : Rust.argAt l i = p := by
  show l.getD i .undef = _
  rw [List.getD_eq_getElem?_getD, h]
  rfl
/-! arguments_of -/
abbrev s_arguments_of : Stmt := top 109
abbrev N_arguments_of : List Str := ["request", "given", "at", "step", "value"]
theorem sc_arguments_of : FnScope N_arguments_of ["request"] (defScope s_arguments_of) := ⟨rfl, rfl, rfl, by decide +kernel, rfl, by decide +kernel, by decide +kernel⟩
def sp_arguments_of (K : PySem.W.Frag) : Sp := fun vs H Q _ => ∃ (a : Addr) (bs r : List UInt8) (b0 b1 n : UInt8) (l : List RWire.Value), vs = [.ref a] ∧ SqL K H a ((bI bs).map V.int) ∧ bs = b0 :: b1 :: n :: r ∧ RWire.readMany (RWire.readF 32) n.toNat r = some (l, []) ∧ okVs l = true ∧ n.toNat ≤ 5 ∧ bs.length ≤ 60000 ∧
  ∀ D H' xs, H D = none → Same H H' → H' D = some (.lst xs) → xs.length = 5 → (∀ i : Nat, i < 5 → ∃ x, xs[i]? = some x ∧ VAt K H' (Rust.argAt (Rust.takenAll l) i) x) → Q (.ref D) H'
section
variable {P : Program} {w : World} {K : PySem.W.Frag} {mg : Str → Option Value} {base : Heap}
theorem ca_arguments_of (F : Df K mg "arguments_of" s_arguments_of ["request"]) {z : Ads} (T : Gb K mg z)  (c_read_value : Ca P w K mg base 67 "read_value" (sp_read_value 32 K)) : Ca P w K mg base 68 "arguments_of" (sp_arguments_of K) := by
  refine ca_mk F sc_arguments_of (fun vs H Q E h => by
    obtain ⟨_, _, _, _, _, _, _, rfl, _⟩ := h
    rfl
    ) (fun f cdv A outer s H vs Q E hr h => ?_)
  refine ⟨_, pss_cons (ps_set (i := 1) sc_arguments_of.nd rfl (Or.inl rfl) (pe_lst pa_nil)) (pss_cons (ps_set (i := 2) sc_arguments_of.nd rfl (Or.inl rfl) pe_int) (pss_cons (ps_for rzp rfl (pi_range1 (by rfl) T.range (pa_cons (pe_ix ix_list (pv 0) pe_int (fun _ _ => rfl)) pa_nil)) (pg_name (i := 3) sc_arguments_of.nd rfl (Or.inl rfl)) (pss_cons (ps_asg (pe_ca c_read_value hr (by first | decide | omega) passN (pa_cons (pv 0) (pa_cons (pv 2) pa_nil))) (pg_tup rfl (pgs_cons (pg_name (i := 4) sc_arguments_of.nd rfl (Or.inl rfl)) (pgs_cons (pg_name (i := 2) sc_arguments_of.nd rfl (Or.inl rfl)) pgs_nil)))) (pss_one (ps_expr (pe_bm PySem.F.plainAttrs_list PySem.F.slot_list_append PySem.F.type_list_append mt_append (pv 1) (pa_cons (pv 4) pa_nil)))))) (pss_cons (ps_for rzp rfl (pi_range1 (by rfl) T.range (pa_cons (pe_op op_sub (pe_gk T.cMOST_ARGUMENTS) (pe_ix ix_list (pv 0) pe_int (fun _ _ => rfl))) pa_nil)) (pg_name (i := 3) sc_arguments_of.nd rfl (Or.inl rfl)) (pss_one (ps_expr (pe_bm PySem.F.plainAttrs_list PySem.F.slot_list_append PySem.F.type_list_append mt_append (pv 1) (pa_cons (pe_gk T.cNOTHING) pa_nil))))) (pss_one (ps_ret (pv 1)))))), ?_⟩
  obtain ⟨a, bs, r, b0, b1, n, l, rfl, hl, hb, hm, ok, hn, hz, q⟩ := h
  obtain ⟨g1, g2, g3, g4, g5⟩ := drop3 hb
  have hml := readMany_len hm
  walk_at "ex"
  refine ⟨Nat.zero_le _, fun D hD => ?_⟩
  have s0 := same_new (o := .lst []) hD
  have hl0 := sqL_same s0 hl
  walk_at "ex"
  refine x_ixL hl0 (atI_int (bI_get g4)) ?_
  walk_at "ex"
  refine x_r1 n.toNat rfl (by omega) (fun i σ H' => Same H H' ∧ ∃ (q : Nat) (ys : List V) (o1 o2 : Option V), σ = [some (.ref a), some (.ref D), some (.int (q : Int)), o1, o2] ∧ H' D = some (.lst ys) ∧ VsAt K H' (Rust.takenAll (l.take i)) ys ∧
    RWire.readMany (RWire.readF 32) (n.toNat - i) (bs.drop q) = some (l.drop i, []) ∧ okVs (l.drop i) = true) ⟨s0, 3, [], none, none, rfl, upd_same, rfl, by rw [Nat.sub_zero, g1]; exact hm, ok⟩ (fun i σ H' hi hp => ?_) (fun σ H' hp => ?_)
  · obtain ⟨s, qq, ys, o1, o2, rfl, hy, hv, hr, okr⟩ := hp
    have hl2 := sqL_same s hl
    have em : n.toNat - i = (n.toNat - (i + 1)) + 1 := by omega
    rw [em] at hr
    obtain ⟨v, r1, l1, f1, f2, f3⟩ := readMany_cons hr
    rw [f3] at okr
    obtain ⟨ok1, ok2⟩ := okVs_cons okr
    have hyl := hv.len
    rw [takenAll_len, List.length_take] at hyl
    walk_at "ex"
    refine ⟨a, qq, bs, v, r1, rfl, hl2, f1, ok1, hz, fun T x p' H2 s2 hT hx hr1 hlt hle => ?_⟩
    have hy2 := s2 _ _ hy
    walk_at "ex"
    refine x_app hy2 (sz1 (by omega)) ?_
    walk_at "ex"
    have kk : Kp H2 (upd H2 D (.lst (ys ++ [x]))) := Kp.lst hy2
    have el : l[i]? = some v := by
      have := congrArg List.head? f3
      rw [List.head?_drop] at this
      exact this
    have et := congrArg List.tail f3
    rw [List.tail_drop] at et
    refine ⟨But.same (s.trans s2) hD But.upd, p', _, _, _, rfl, upd_same, ?_, ?_, ?_⟩
    · rw [take_more el, takenAll_append]
      exact VsAt.push (VsAt.kp ((Kp.of s2).trans kk) hv) (VAt.kp kk hx)
    · rw [← hr1, f2, et]
      rfl
    · rw [et]
      exact ok2
  obtain ⟨s, qq, ys, o1, o2, rfl, hy, hv, hr, okr⟩ := hp
  rw [← hml, List.take_length] at hv
  have hyl := hv.len
  rw [takenAll_len, hml] at hyl
  have hl2 := sqL_same s hl
  walk_at "ex"
  refine x_ixL hl2 (atI_int (bI_get g4)) ?_
  walk_at "ex"
  refine x_r1 (5 - n.toNat) (by omega) (by omega) (fun i σ H2 => Same H H2 ∧ ∃ (ys2 : List V) (o1 o2 o3 : Option V), σ = [some (.ref a), some (.ref D), o1, o2, o3] ∧ H2 D = some (.lst ys2) ∧ ys2.length = n.toNat + i ∧ ∀ j : Nat, j < n.toNat + i → ∃ x, ys2[j]? = some x ∧ VAt K H2 (Rust.argAt (Rust.takenAll l) j) x)
    ⟨s, ys, _, _, _, rfl, hy, hyl, fun j hj => ?_⟩ (fun i σ H2 hi hp => ?_) (fun σ H2 hp => ?_)
  · have e1 := List.getElem?_eq_getElem (l := ys) (i := j) (by omega)
    obtain ⟨p, hp, hpx⟩ := hv.get e1
    exact ⟨_, e1, by rw [argAt_get hp]; exact hpx⟩
  · obtain ⟨s2, ys2, o1, o2, o3, rfl, hy2, hl2', hall⟩ := hp
    walk_at "ex"
    refine x_app hy2 (sz1 (by omega)) ?_
    walk_at "ex"
    have kk : Kp H2 (upd H2 D (.lst (ys2 ++ [.ref z.aN]))) := Kp.lst hy2
    refine ⟨But.same s2 hD But.upd, _, _, _, _, rfl, upd_same, by rw [List.length_append, hl2']; rfl, fun j hj => ?_⟩
    by_cases c : j < n.toNat + i
    · obtain ⟨x, f1, f2⟩ := hall j c
      exact ⟨x, by rw [List.getElem?_append_left (by omega)]; exact f1, VAt.kp kk f2⟩
    · have ej : j = ys2.length := by omega
      refine ⟨.ref z.aN, by rw [ej, List.getElem?_append_right (Nat.le_refl _), Nat.sub_self]; rfl, ?_⟩
      rw [argAt_end (by rw [takenAll_len, hml]; omega)]
      exact undefAt T _
  · obtain ⟨s2, ys2, o1, o2, o3, rfl, hy2, hl2', hall⟩ := hp
    walk_at "ex"
    exact q D H2 ys2 hD s2 hy2 (by omega) fun i hi => hall i (by omega)

end
end OK
namespace OK
open PySem PySem.Spec PyProof.Rows L2 L2H HotX
/-! lowest_first -/
abbrev sph_lowest_first (K : PySem.W.Frag) : Sp := sp_lowest_first K
section
variable {P : Program} {w : World} {K : PySem.W.Frag} {mg : Str → Option Value} {base : Heap}
theorem cah_lowest_first (F : Df K mg "lowest_first" s_lowest_first ["number", "many"]) {z : Ads} (T : Gb K mg z)  : CaH P w K mg base 1 "lowest_first" (sph_lowest_first K) := by
  refine cah_mk F sc_lowest_first (fun vs H Q E h => by
    obtain ⟨_, _, rfl, _⟩ := h
    rfl
    ) (fun f cdv A outer s H vs Q E p hot hr h => ?_)
  refine ⟨_, pss_cons (ps_set (i := 2) sc_lowest_first.nd rfl (Or.inl rfl) (pe_lst pa_nil)) (pss_cons (ps_set (i := 3) sc_lowest_first.nd rfl (Or.inl rfl) (pv 0)) (pss_cons (ps_forH rzpH hot (pi_range1H (by rfl) T.range (pa_cons (pv 1) pa_nil)) (pg_name (i := 4) sc_lowest_first.nd rfl (Or.inl rfl)) (pss_cons (ps_expr (pe_bm PySem.F.plainAttrs_list PySem.F.slot_list_append PySem.F.type_list_append mt_append (pv 2) (pa_cons (pe_op op_mod (pv 3) pe_int) pa_nil))) (pss_one (ps_aug (i := 3) sc_lowest_first.nd rfl (Or.inl rfl) pe_int iop_fdiv)))) (pss_one (ps_ret (pv 2))))), ?_⟩
  obtain ⟨n, k, rfl, hk, q⟩ := h
  walk_at "ex"
  refine ⟨by show 0 ≤ sizeLine; exact Nat.zero_le _, fun D hD => ?_⟩
  walk_at "ex"
  refine x_r1 k rfl (by omega) (fun i σ H' => Same H H' ∧ H' D = some (.lst ((bI (RWire.low i n)).map V.int)) ∧ ∃ o, σ = [some (.int n), some (.int k), some (.ref D), some (.int ((n / 256 ^ i : Nat) : Int)), o]) ⟨same_new hD, upd_same, none, by rw [Nat.pow_zero, Nat.div_one]; rfl⟩ (fun i σ H' hi hp => ?_) (fun σ H' hp => ?_)
  · obtain ⟨s, hy, o, rfl⟩ := hp
    walk_at "ex"
    refine x_app hy (sz1 (by rw [List.length_map, bI_len, low_len]; omega)) ?_
    walk_at "ex"
    refine ⟨But.same s hD But.upd, ?_, some (.int (i : Int)), ?_⟩
    · rw [upd_same, low_snoc, List.map_append]
      rfl
    · rw [Nat.pow_succ, ← Nat.div_div_eq_div_mul]
      rfl
  · obtain ⟨s, hy, o, rfl⟩ := hp
    walk_at "ex"
    exact q D H' hD s hy
end
/-! octets_of -/
def sph_octets_of (_ : PySem.W.Frag) : Sp := fun vs H Q _ => ∃ w : Str, vs = [.str w] ∧ w.cps.size ≤ 1000 ∧ ∀ p H', Same H H' → Oc H' p (cI w) → Q (.ref p) H'
section
variable {P : Program} {w : World} {K : PySem.W.Frag} {mg : Str → Option Value} {base : Heap}
theorem cah_octets_of (F : Df K mg "octets_of" s_octets_of ["word"]) {z : Ads} (T : Gb K mg z)  : CaH P w K mg base 1 "octets_of" (sph_octets_of K) := by
  refine cah_mk F sc_octets_of (fun vs H Q E h => by
    obtain ⟨_, rfl, _⟩ := h
    rfl
    ) (fun f cdv A outer s H vs Q E p hot hr h => ?_)
  refine ⟨_, pss_one (ps_ret (pe_tuple T.tuple (pe_lcH (own := [("sign", 1)]) (g := (gName 1)) hot sc_octets_of.nd (pv 0) (blkOk_by (own := [("sign", 1)]) (N := N_octets_of) (sc := defScope s_octets_of) (by decide +kernel)) (fun _ _ _ _ _ => (pg_name (i := 1) sc_octets_of.nd rfl (Or.inl rfl))) (fun _ _ _ _ _ => (pe_ord T.ord (pv 1)))))), ?_⟩
  obtain ⟨w, rfl, hz, q⟩ := h
  walk_at "ex"
  refine ⟨w, rfl, ?_⟩
  have hh := fun (cont : LcQ (Its w) (gName 1) tYes (tUn rOrd (tVar 1)) [1] (L2.start N_octets_of [V.str w]) H (fun v H' => rTup K v H' Q)) => cont
  obtain ⟨y, ey, hy⟩ := x_lcs (x := w) (H1 := H) (σ := L2.start N_octets_of [V.str w]) (Q := fun v H' => rTup K v H' Q) (te := tUn rOrd (tVar 1)) (vs := [1]) (j := 1) (by omega) (fun _ i v => ∃ c, (cI w)[i]? = some c ∧ v = V.int c) (fun _ _ _ _ _ h => h) (fun i c H' hc s Q' hQ => by
    walk_at "ex"
    refine ⟨rfl, ?_⟩
    walk_at "ex"
    refine x_ord rfl (hQ _ _ (Same.refl _) ⟨(c : Int), ?_, rfl⟩)
    unfold cI
    rw [List.getElem?_map, Array.getElem?_toList, hc]
    rfl) (fun D H' ys hD s hy it => by
    refine x_tupL (SqL.of hy) fun l hl => q l _ (s.trans (same_new hl)) ?_
    rw [← cI_len] at it
    rw [items_ints it]
    exact upd_same)
  cases ey
  exact hy
end
/-! written_text -/
abbrev sph_written_text (K : PySem.W.Frag) : Sp := sp_written_text K
section
variable {P : Program} {w : World} {K : PySem.W.Frag} {mg : Str → Option Value} {base : Heap}
theorem cah_written_text (F : Df K mg "written_text" s_written_text ["octets"]) {z : Ads} (T : Gb K mg z) (ch_lowest_first : CaH P w K mg base 1 "lowest_first" (sph_lowest_first K)) : CaH P w K mg base 2 "written_text" (sph_written_text K) := by
  refine cah_mk F sc_written_text (fun vs H Q E h => by
    obtain ⟨_, _, rfl, _⟩ := h
    rfl
    ) (fun f cdv A outer s H vs Q E p hot hr h => ?_)
  refine ⟨_, pss_one (ps_ret (pe_op op_cat (pe_caH ch_lowest_first hot hr (by first | decide | omega) (pa_cons (pe_len T.len (pv 0)) (pa_cons pe_int pa_nil))) (pe_listS T.list (pv 0)))), ?_⟩
  obtain ⟨a, u, rfl, hu, hz, q⟩ := h
  walk_at "ex"
  refine ⟨u.length, 4, by rw [List.length_map, bI_len]; rfl, by decide, fun l H1 hl s1 h1 => ?_⟩
  have hu1 := sqT_same s1 hu
  walk_at "ex"
  refine fun l2 hl2 => ?_
  have s2 : Same H1 (upd H1 l2 (.lst ((bI u).map V.int))) := same_new hl2
  walk_at "ex"
  refine x_cat (s2 _ _ h1) upd_same (by rw [List.length_map, List.length_map, bI_len, bI_len, low_len]; exact sz0 (by omega)) fun p hp => ?_
  refine q p _ (same_none (s1.trans s2) hp) (s1.trans (s2.trans (same_new hp))) ?_
  rw [upd_same, ← List.map_append, ← bI_append]
  rfl
end
/-! refusal -/
abbrev s_refusal : Stmt := top 110
abbrev N_refusal : List Str := ["sort", "words"]
theorem sc_refusal : FnScope N_refusal ["sort", "words"] (defScope s_refusal) := ⟨rfl, rfl, rfl, by decide +kernel, rfl, by decide +kernel, by decide +kernel⟩
def sph_refusal (_ : PySem.W.Frag) : Sp := fun vs H Q _ => ∃ (n : Nat) (w : Str) (u : List UInt8), vs = [.int n, .str w] ∧ w.cps.size ≤ 1000 ∧ cI w = bI u ∧ n < 256 ∧ NewO H Q (1 :: UInt8.ofNat n :: RWire.writeText u)
section
variable {P : Program} {w : World} {K : PySem.W.Frag} {mg : Str → Option Value} {base : Heap}
theorem cah_refusal (F : Df K mg "refusal" s_refusal ["sort", "words"]) {z : Ads} (T : Gb K mg z) (ch_written_text : CaH P w K mg base 2 "written_text" (sph_written_text K)) (ch_octets_of : CaH P w K mg base 1 "octets_of" (sph_octets_of K)) : CaH P w K mg base 3 "refusal" (sph_refusal K) := by
  refine cah_mk F sc_refusal (fun vs H Q E h => by
    obtain ⟨_, _, _, rfl, _⟩ := h
    rfl
    ) (fun f cdv A outer s H vs Q E p hot hr h => ?_)
  refine ⟨_, pss_one (ps_ret (pe_op op_cat (pe_lst (pa_cons pe_int (pa_cons (pv 0) pa_nil))) (pe_caH ch_written_text hot hr (by first | decide | omega) (pa_cons (pe_caH ch_octets_of hot hr (by first | decide | omega) (pa_cons (pv 1) pa_nil)) pa_nil)))), ?_⟩
  obtain ⟨n, w, u, rfl, hz, hc, hn, q⟩ := h
  have hul : u.length = w.cps.size := by rw [← cI_len, hc, bI_len]
  walk_at "ex"
  refine ⟨two_le, fun D hD => ?_⟩
  have s0 := same_new (o := .lst [.int 1, .int n]) hD
  walk_at "ex"
  refine ⟨w, rfl, hz, fun p H1 s1 hp => ?_⟩
  walk_at "ex"
  rw [hc] at hp
  refine ⟨p, u, rfl, hp.t, by omega, fun l H2 hl s2 h2 => ?_⟩
  have hD2 := s2 _ _ (s1 _ _ (upd_same (H := H) (a := D) (o := .lst [.int 1, .int n])))
  refine x_cat hD2 h2 (sz0 (by rw [List.length_map, bI_len]; show 2 + ((RWire.low 4 u.length) ++ u).length ≤ _; rw [List.length_append, low_len]; omega)) fun r hr => ?_
  refine q r _ (same_none (s0.trans (s1.trans s2)) hr) (s0.trans (s1.trans (s2.trans (same_new hr)))) ?_
  rw [upd_same]
  show some (HO.lst ([V.int 1, V.int n] ++ (bI (RWire.writeText u)).map V.int)) = some (HO.lst ((bI (1 :: UInt8.ofNat n :: RWire.writeText u)).map V.int))
  have e1 : ((UInt8.ofNat n).toNat : Int) = (n : Int) := by
    rw [UInt8.toNat_ofNat']
    omega
  show some (HO.lst (V.int 1 :: V.int n :: (bI (RWire.writeText u)).map V.int)) = some (HO.lst (V.int 1 :: V.int ((UInt8.ofNat n).toNat : Int) :: (bI (RWire.writeText u)).map V.int))
  rw [e1]

end
end OK
namespace OK
open PySem PySem.Spec PyProof.Rows L2
open R7290f.Spec (Plain Units Call Ans perform)
theorem un2 {k : Nat} {A : Around} (h : Room k A) : A.units + 2 < cLine := by
  have := h.un
  omega
theorem ot_fail {α : Type} {w w' : R7290f.Spec.World} {e : R7290f.Spec.Err} {x : Except R7290f.Spec.Err α} {f : α → R7290f.Spec.World × Ans} (hf : ∀ a, ∃ w1 p, f a = (w1, .ret p)) (h : R7290f.Spec.orThrow w x f = (w', .fail e)) : w' = w := by
  cases x with
  | error e1 =>
    have h' : (w, Ans.fail e1) = (w', .fail e) := h
    exact (congrArg Prod.fst h').symm
  | ok a =>
    have h' : f a = (w', .fail e) := h
    obtain ⟨w1, p, q⟩ := hf a
    rw [q] at h'
    cases h'
theorem ws_fail {α : Type} {w w' : R7290f.Spec.World} {e : R7290f.Spec.Err} {o : Option α} {f : α → R7290f.Spec.World × Ans} (hf : ∀ a, f a = (w', .fail e) → w' = w) (h : R7290f.Spec.withSlot w o f = (w', .fail e)) : w' = w := by
  cases o with
  | none =>
    have h' : (w, R7290f.Spec.undef) = (w', .fail e) := h
    exact (congrArg Prod.fst h').symm
  | some a => exact hf a h
theorem perform_fail {w w' : R7290f.Spec.World} {c : Call} {e : R7290f.Spec.Err} (h : perform w c = (w', .fail e)) : w' = w := by
  cases c with
  | board1 q x y => exact ot_fail (fun b => ⟨_, _, rfl⟩) h
  | boardState1 q => exact ws_fail (fun b h => (congrArg Prod.fst h).symm) h
  | insert1 q x => exact ws_fail (fun b h => ot_fail (fun b => ⟨_, _, rfl⟩) h) h
  | move1 q x y => exact ws_fail (fun b h => ot_fail (fun b => ⟨_, _, rfl⟩) h) h
  | remove1 q x => exact ws_fail (fun b h => ot_fail (fun b => ⟨_, _, rfl⟩) h) h
  | game1 q x y v => exact ot_fail (fun b => ⟨_, _, rfl⟩) h
  | gameState1 q => exact ws_fail (fun b h => (congrArg Prod.fst h).symm) h
  | answer1 q x => exact ws_fail (fun b h => ot_fail (fun b => ⟨_, _, rfl⟩) h) h
  | _ => exact (congrArg Prod.fst h).symm
theorem taking_len {n : Nat} {l : List Plain} {o : Option Call} {c : Call} (h : Rust.taking n l o = some c) (hn : n ≤ 5) : l.length ≤ 5 := by
  unfold Rust.taking at h
  split at h
  · rename_i hl
    exact Nat.le_trans (Nat.le_of_ble_eq_true hl) hn
  · cases h
theorem callOf_bd : ∀ (d : Nat) {l : List Plain} {c : Call}, Rust.callOf d l = some c → d < 17 ∧ l.length ≤ 5
  | 0, _, _, h => ⟨by decide, taking_len (n := 2) h (by decide)⟩
  | 1, _, _, h => ⟨by decide, taking_len (n := 3) h (by decide)⟩
  | 2, _, _, h => ⟨by decide, taking_len (n := 3) h (by decide)⟩
  | 3, _, _, h => ⟨by decide, taking_len (n := 3) h (by decide)⟩
  | 4, _, _, h => ⟨by decide, taking_len (n := 3) h (by decide)⟩
  | 5, _, _, h => ⟨by decide, taking_len (n := 5) h (by decide)⟩
  | 6, _, _, h => ⟨by decide, taking_len (n := 2) h (by decide)⟩
  | 7, _, _, h => ⟨by decide, taking_len (n := 2) h (by decide)⟩
  | 8, _, _, h => ⟨by decide, taking_len (n := 4) h (by decide)⟩
  | 9, _, _, h => ⟨by decide, taking_len (n := 3) h (by decide)⟩
  | 10, _, _, h => ⟨by decide, taking_len (n := 1) h (by decide)⟩
  | 11, _, _, h => ⟨by decide, taking_len (n := 2) h (by decide)⟩
  | 12, _, _, h => ⟨by decide, taking_len (n := 3) h (by decide)⟩
  | 13, _, _, h => ⟨by decide, taking_len (n := 2) h (by decide)⟩
  | 14, _, _, h => ⟨by decide, taking_len (n := 4) h (by decide)⟩
  | 15, _, _, h => ⟨by decide, taking_len (n := 1) h (by decide)⟩
  | 16, _, _, h => ⟨by decide, taking_len (n := 2) h (by decide)⟩
  | n + 17, l, c, h => by
    exfalso
    unfold Rust.callOf at h
    split at h
    · rename_i e
      omega
    · unfold Rust.calls1 at h
      split at h
      · rename_i e
        omega
      · cases h
    · cases h
theorem asked_some {bs : List UInt8} {c : Call} (h : Rust.asked bs = some c) : ∃ (b0 b1 n : UInt8) (r : List UInt8) (l : List RWire.Value), bs = b0 :: b1 :: n :: r ∧ RWire.readMany (RWire.readF 32) n.toNat r = some (l, []) ∧ okVs l = true ∧ Rust.callOf (b0.toNat + 256 * b1.toNat) (Rust.takenAll l) = some c ∧ n.toNat ≤ 5 ∧ b0.toNat + 256 * b1.toNat < 17 := by
  unfold Rust.asked at h
  split at h
  · rename_i d l hr
    split at h
    · rename_i hk
      unfold RWire.readRequest at hr
      split at hr
      · rename_i a b n r
        split at hr
        · cases hr
        · rename_i l' hl
          cases hr
          unfold RWire.readArgs at hl
          split at hl
          · rename_i l2 hm
            cases hl
            obtain ⟨h1, h2⟩ := callOf_bd _ h
            rw [takenAll_len] at h2
            exact ⟨a, b, n, r, _, rfl, hm, ofKinds_ok hk, h, by rw [← readMany_len hm]; exact h2, h1⟩
          · cases hl
      · cases hr
    · cases h
  · cases h
/-! answer_to -/
abbrev s_answer_to : Stmt := top 111
abbrev N_answer_to : List Str := ["slots", "request", "deed", "given", "value", "wrong", "beyond"]
theorem sc_answer_to : FnScope N_answer_to ["slots", "request"] (defScope s_answer_to) := ⟨rfl, rfl, rfl, by decide +kernel, rfl, by decide +kernel, by decide +kernel⟩
def sp_answer_to (z : Ads) (K : PySem.W.Frag) : Sp := fun vs H Q _ => ∃ (s g dx lb lg : Addr) (w : R7290f.Spec.World) (vb vg : List V) (bs : List UInt8) (c : Call), vs = [.ref s, .ref g] ∧ Wd z s dx lb lg H w vb vg ∧ SqL K H g ((bI bs).map V.int) ∧ Rust.asked bs = some c ∧ R7290f.Spec.input w c = true ∧ Rust.tellable (perform w c).2 = true ∧
  (RWire.writeAnswer (Rust.answerOf (perform w c).2)).length ≤ 65536 ∧ bs.length ≤ 60000 ∧ ∀ H0 vb' vg', KpL lb lg H H0 → Wd z s dx lb lg H0 (perform w c).1 vb' vg' → NewO H0 Q (RWire.writeAnswer (Rust.answerOf (perform w c).2))
section
variable {P : Program} {w : World} {K : PySem.W.Frag} {mg : Str → Option Value} {base : Heap}
theorem ca_answer_to (F : Df K mg "answer_to" s_answer_to ["slots", "request"]) {z : Ads} (T : Gb K mg z) (U : Gx K z) {aD : Addr} {fs : List Addr} (hDOORS : ∃ u, mg "DOORS" = some u ∧ RelV (.ref aD) u) (tD : ∀ H : Hp, SqT K H aD (fs.map V.ref)) (hfs : fs.length = 17) (hD : ∀ f sp, (∃ d : Nat, fs[d]? = some f ∧ sp = DoorSp z K d) → HeldM P w K mg base 68 f sp) (ch_refusal : CaH P w K mg base 3 "refusal" (sph_refusal K)) (c_written_value : Ca P w K mg base 67 "written_value" (sp_written_value 32 K)) (c_arguments_of : Ca P w K mg base 68 "arguments_of" (sp_arguments_of K)) : Ca P w K mg base 69 "answer_to" (sp_answer_to z K) := by
  refine ca_mk F sc_answer_to (fun vs H Q E h => by
    obtain ⟨_, _, _, _, _, _, _, _, _, _, rfl, _⟩ := h
    rfl
    ) (fun f cdv A outer s H vs Q E hr h => ?_)
  refine ⟨_, pss_cons (ps_set (i := 2) sc_answer_to.nd rfl (Or.inl rfl) (pe_ix ix_tup (pe_gk hDOORS) (pe_op op_add (pe_ix ix_list (pv 1) pe_int (fun _ _ => rfl)) (pe_op op_mul pe_int (pe_ix ix_list (pv 1) pe_int (fun _ _ => rfl)))) (fun _ _ => rfl))) (pss_cons (ps_set (i := 3) sc_answer_to.nd rfl (Or.inl rfl) (pe_ca c_arguments_of hr (by first | decide | omega) passN (pa_cons (pv 1) pa_nil))) (pss_cons (ps_try_two rfl rfl sc_answer_to.nd (i1 := 5) rfl rfl (i2 := 6) rfl rfl ⟨rfl, by decide, .inl T.gWrongKind⟩ ⟨rfl, by decide, .inl T.gOutOfRange⟩ (fun W pn xe hx => (pss_one (ps_set (i := 4) sc_answer_to.nd rfl (Or.inl rfl) (pe_callM (i := 2) (E := WE W) hD hr rfl (.inl rfl) hx (pa_cons (pv 0) (pa_cons (pv 3) pa_nil)))))) (fun a t oe cls pn hz => (pss_one (ps_ret (pe_caH ch_refusal (hotM hz) (show L2H.RoomH 68 _ from ⟨hr.dp, hr.un⟩) (by decide) (pa_cons pe_int (pa_cons (pe_callTy (call_strM (C := z.cW) hz (un2 hr) U.sw T.bWrongKind) (by rfl) T.str (by decide +kernel) (pa_cons (pv 5) pa_nil)) pa_nil)))))) (fun a t oe cls pn hz => (pss_one (ps_ret (pe_caH ch_refusal (hotM hz) (show L2H.RoomH 68 _ from ⟨hr.dp, hr.un⟩) (by decide) (pa_cons pe_int (pa_cons (pe_callTy (call_strM (C := z.cO) hz (un2 hr) U.so T.bOutOfRange) (by rfl) T.str (by decide +kernel) (pa_cons (pv 6) pa_nil)) pa_nil))))))) (pss_one (ps_ret (pe_op op_cat (pe_lst (pa_cons pe_int pa_nil)) (pe_ca c_written_value hr (by first | decide | omega) passN (pa_cons (pv 4) pa_nil))))))), ?_⟩
  obtain ⟨sA, g, dx, lb, lg, w0, vb, vg, bs, c, rfl, W, hg, hc, hin, ht, hz, hbz, q⟩ := h
  obtain ⟨b0, b1, n, r, l, hb, hm, ok, hcall, hn, hd⟩ := asked_some hc
  obtain ⟨g1, g2, g3, g4, g5⟩ := drop3 hb
  have hf := List.getElem?_eq_getElem (show b0.toNat + 256 * b1.toNat < fs.length by rw [hfs]; exact hd)
  generalize fs[b0.toNat + 256 * b1.toNat]'_ = f0 at hf
  walk_at "ex"
  refine x_ixL hg (atI_int (bI_get g2)) ?_
  walk_at "ex"
  refine x_ixL hg (atI_int (bI_get g3)) ?_
  walk_at "ex"
  refine x_ixT (tD _) (v := .ref f0) (by
    rw [show ((b0.toNat : Int) + 256 * (b1.toNat : Int)) = ((b0.toNat + 256 * b1.toNat : Nat) : Int) by omega]
    exact atI_nat (by rw [List.getElem?_map, hf]; rfl)) ?_
  walk_at "ex"
  refine ⟨g, bs, r, b0, b1, n, l, rfl, hg, hb, hm, ok, hn, hbz, fun D H1 xs hD s1 h1 hxl hxs => ?_⟩
  walk_at "ex"
  refine x_callM rfl ⟨_, hf, rfl⟩ ?_
  walk_at "ex"
  refine ⟨sA, D, dx, lb, lg, w0, vb, vg, xs, Rust.takenAll l, c, rfl, W.same s1, SqL.of h1, hxs, hcall, hin, fun w' p hp v H2 vb' vg' k2 W2 hv => ?_, fun w' e hp t H2 m s2 htt hmm hmz => ?_⟩
  · rw [hp] at q ht hz
    have hnw := (Bool.and_eq_true_iff.mp (show (Rust.narrow p && RWire.writable (Rust.given p)) = true from ht))
    have hwr := Bool.and_eq_true_iff.mp (show (RWire.fine (Rust.given p) && decide (RWire.depth (Rust.given p) ≤ RWire.nestMost)) = true from hnw.2)
    have hz' : (RWire.write (Rust.given p)).length + 1 ≤ 65536 := hz
    walk_at "ex"
    refine ⟨one_le, fun D2 hD2 => ?_⟩
    have s3 := same_new (o := .lst [.int 0]) hD2
    walk_at "ex"
    refine ⟨v, p, rfl, VAt.kp (Kp.of s3) hv, ⟨hnw.1, hwr.1, of_decide_eq_true hwr.2, by omega⟩, fun a H4 ha s4 h4 => ?_⟩
    refine x_cat (s4 _ _ upd_same) h4 (sz0 (by rw [List.length_map, bI_len]; show 1 + _ ≤ _; omega)) fun r hr => ?_
    refine q H2 vb' vg' ((KpL.of s1).trans k2) W2 r _ (same_none (s3.trans s4) hr) (s3.trans (s4.trans (same_new hr))) ?_
    rw [upd_same]
    rfl
  · cases perform_fail hp
    rw [hp] at q ht
    have hnw := (Bool.and_eq_true_iff.mp (show (Rust.narrowText e.msg && RWire.fineText (e.msg.map Rust.octetOf)) = true from ht))
    have hci : cI m = bI (e.msg.map Rust.octetOf) := hmm.trans (narrow_uI hnw.1).symm
    have q2 := q H2 vb vg (KpL.of (s1.trans s2)) (W.same (s1.trans s2))
    refine ⟨t, rfl, ?_⟩
    cases e with
    | mk cls msg =>
      cases cls with
      | typeError =>
        refine .inl ⟨U.ww, fun a ha => ?_⟩
        walk_at "ex"
        refine ⟨m, rfl, rfl, htt, ?_⟩
        exact ⟨1, m, msg.map Rust.octetOf, rfl, hmz, hci, by decide, q2⟩
      | rangeError =>
        refine .inr ⟨U.ow, U.oo, fun a ha => ?_⟩
        walk_at "ex"
        refine ⟨m, rfl, rfl, htt, ?_⟩
        exact ⟨2, m, msg.map Rust.octetOf, rfl, hmz, hci, by decide, q2⟩

end
end OK
namespace OK
open PySem PySem.Spec PyProof.Rows L2
open R7290f.Spec (Plain Units Call Ans perform)
section
variable {z : Ads} {s dx lb lg : Addr} {H H' : Hp} {w : R7290f.Spec.World} {vb vg : List V}
theorem Wd.made (h : Wd z s dx lb lg H w vb vg) (n : Nat) : Wd z s dx lb lg H { w with made := n } vb vg :=
  ⟨h.hs, h.hb, h.hg, h.ne, h.n1, h.n2, h.m1, h.m2, h.bd, h.gm, h.ab, h.ag, h.okb, h.okg⟩
/-- another list grows -/
theorem Wd.put (h : Wd z s dx lb lg H w vb vg) {D : Addr} {xs : List V} {o : HO} (hD : H D = some (.lst xs)) (n1 : D ≠ lb) (n2 : D ≠ lg) : Wd z s dx lb lg (upd H D o) w vb vg := by
  have k : Kp H (upd H D o) := Kp.lst hD
  have hi : ∀ (a C dx : Addr) (fs : List (Str × V)), H a = some (.ins C dx fs) → upd H D o a = some (.ins C dx fs) := fun a C dx fs q => (upd_ne fun e => by
    rw [e, hD] at q
    cases q).trans q
  exact { h with hs := hi _ _ _ _ h.hs, hb := (upd_ne (Ne.symm n1)).trans h.hb, hg := (upd_ne (Ne.symm n2)).trans h.hg, bd := fun i v b e1 e2 => (h.bd i v b e1 e2).mono k fun a C dx fs _ q => hi _ _ _ _ q, gm := fun i v b e1 e2 => (h.gm i v b e1 e2).mono k fun a C dx fs _ q => hi _ _ _ _ q }
end
theorem wd_start {z : Ads} {s dx lb lg : Addr} {H : Hp} (hs : H s = some (.ins z.cS dx (slF lb lg))) (hb : H lb = some (.lst [.non, .non])) (hg : H lg = some (.lst [.non, .non])) (ne : lb ≠ lg) : Wd z s dx lb lg H Rust.start [.non, .non] [.non, .non] := by
  have f1 : ∀ (i : Nat) (v : V) (b : Option R7290f.Spec.Board), ([.non, .non] : List V)[i]? = some v → ([none, none] : List (Option R7290f.Spec.Board))[i]? = some b → OB z H v b := fun i v b e1 e2 => by
    match i, e1, e2 with
    | 0, e1, e2 => cases e1; cases e2; exact rfl
    | 1, e1, e2 => cases e1; cases e2; exact rfl
    | n + 2, e1, _ => cases e1
  have f2 : ∀ (i : Nat) (v : V) (b : Option R7290f.Spec.Game), ([.non, .non] : List V)[i]? = some v → ([none, none] : List (Option R7290f.Spec.Game))[i]? = some b → OG z H v b := fun i v b e1 e2 => by
    match i, e1, e2 with
    | 0, e1, e2 => cases e1; cases e2; exact rfl
    | 1, e1, e2 => cases e1; cases e2; exact rfl
    | n + 2, e1, _ => cases e1
  have f3 : ∀ (i j : Nat) (a : Addr), ([.non, .non] : List V)[i]? = some (.ref a) → ([.non, .non] : List V)[j]? = some (.ref a) → i = j := fun i j a e1 e2 => by
    match i, e1 with
    | 0, e1 => cases e1
    | 1, e1 => cases e1
    | n + 2, e1 => cases e1
  have f4 : ∀ (b : R7290f.Spec.Board), some b ∈ ([none, none] : List (Option R7290f.Spec.Board)) → BdOk b := fun b h => by simp at h
  have f5 : ∀ (b : R7290f.Spec.Game), some b ∈ ([none, none] : List (Option R7290f.Spec.Game)) → GmOk b := fun b h => by simp at h
  exact ⟨hs, hb, hg, ne, rfl, rfl, rfl, rfl, f1, f2, f3, f3, f4, f5⟩
/-- the input stays, whatever is done to these three lists -/
def AL (K : PySem.W.Frag) (lb lg D a : Addr) (xs : List V) : Prop := (∀ H : Hp, SqL K H a xs) ∨ (a ≠ lb ∧ a ≠ lg ∧ a ≠ D)
theorem AL.keep {K : PySem.W.Frag} {lb lg D a : Addr} {xs : List V} {H H' : Hp} (h : AL K lb lg D a xs) (k : KpL lb lg H H') (q : SqL K H a xs) : SqL K H' a xs := by
  rcases h with h | ⟨n1, n2, _⟩
  · exact h H'
  · rcases q with (q | ⟨o, q⟩) | q
    · exact .inl (.inl (k.2 a xs n1 n2 q))
    · exact .inl (.inr ⟨o, k.1 _ _ (by first | trivial | exact True.intro | exact ⟨_, rfl⟩ | exact .inr ⟨_, _, rfl⟩ | simp [Fzn]) q⟩)
    · exact .inr q
theorem AL.put {K : PySem.W.Frag} {lb lg D a : Addr} {xs : List V} {H : Hp} {o : HO} (h : AL K lb lg D a xs) (q : SqL K H a xs) : SqL K (upd H D o) a xs := by
  rcases h with h | ⟨_, _, n3⟩
  · exact h _
  · rcases q with (q | ⟨o', q⟩) | q
    · exact .inl (.inl ((upd_ne n3).trans q))
    · exact .inl (.inr ⟨o', (upd_ne n3).trans q⟩)
    · exact .inr q
theorem bI_bytes : ∀ {r : List Int}, NeutralIO.bytes r = true → bI (Zr09Neutral.bytesOf r) = r
  | [], _ => rfl
  | n :: r, h => by
    have h1 := Bool.and_eq_true_iff.mp (show ((decide (0 ≤ n) && decide (n ≤ 255)) && NeutralIO.bytes r) = true from h)
    have h2 := Bool.and_eq_true_iff.mp h1.1
    have h3 := of_decide_eq_true h2.1
    have h4 := of_decide_eq_true h2.2
    show ((UInt8.ofNat n.toNat).toNat : Int) :: bI (Zr09Neutral.bytesOf r) = _
    rw [bI_bytes h1.2, UInt8.toNat_ofNat']
    congr 1
    omega
theorem goes_cons {w : Rust.St} {left : Nat} {b : List UInt8} {r : List (List UInt8)} (h : Rust.goes w left (b :: r) = true) : ∃ c, Rust.asked b = some c ∧ R7290f.Spec.input w c = true ∧ Rust.tellable (perform w c).2 = true ∧ (RWire.writeAnswer (Rust.answerOf (perform w c).2)).length ≤ 65536 ∧
    Rust.step w b = ({ (perform w c).1 with made := w.made + R7290f.Spec.makes c }, RWire.writeAnswer (Rust.answerOf (perform w c).2)) ∧ ∃ left', Rust.goes (Rust.step w b).1 left' r = true := by
  unfold Rust.goes at h
  split at h
  · cases h
  · rename_i c hc
    have h1 := Bool.and_eq_true_iff.mp h
    have h2 := Bool.and_eq_true_iff.mp h1.1
    have h3 := Bool.and_eq_true_iff.mp h2.1
    have h4 := Bool.and_eq_true_iff.mp h3.1
    have h5 := Bool.and_eq_true_iff.mp (show (R7290f.Spec.within w c && true) = true from h4.1)
    have h6 := Bool.and_eq_true_iff.mp (show (R7290f.Spec.input w c && _) = true from h5.1)
    have es : Rust.step w b = ({ (perform w c).1 with made := w.made + R7290f.Spec.makes c }, RWire.writeAnswer (Rust.answerOf (perform w c).2)) := by
      unfold Rust.step
      rw [hc]
      dsimp only
      rw [if_pos h4.1]
      rfl
    have h7 := Nat.le_of_ble_eq_true h3.2
    rw [es] at h7
    have e1 : (Rust.step w b).1 = (R7290f.Spec.step w c).1 := by
      rw [es]
      rfl
    refine ⟨c, hc, h6.1, h4.2, h7, es, left - (Rust.step w b).2.length, ?_⟩
    rw [e1]
    exact h1.2
/-! answers -/
abbrev s_answers : Stmt := top 112
abbrev N_answers : List Str := ["calls", "slots", "numbers", "at", "behind", "answer"]
theorem sc_answers : FnScope N_answers ["calls"] (defScope s_answers) := ⟨rfl, rfl, rfl, by decide +kernel, rfl, by decide +kernel, by decide +kernel⟩
def sp_answers (z : Ads) (K : PySem.W.Frag) : Sp := fun vs H Q _ => ∃ (a : Addr) (ns : List Int), vs = [.ref a] ∧ SqL K H a (ns.map V.int) ∧ PyZr09.answers_asked ns = true ∧ ∀ (H' : Hp) (p : Addr), H' p = some (.lst ((PyZr09.answers ns).map V.int)) → Q (.ref p) H'
section
variable {P : Program} {w : World} {K : PySem.W.Frag} {mg : Str → Option Value} {base : Heap}
theorem top_answers {f : Addr} {fd : FuncData} (F : Fun K "answers" "answers" s_answers f fd) {z : Ads} (T : Gb K mg z)  (c_answer_to : Ca P w K mg base 69 "answer_to" (sp_answer_to z K)) (cm_Slots : Cm P w K mg base 1 z.cS (sp_Slots_init z K)) : FnOk P w K mg base (CXm P w) 70 f fd ["calls"] (sp_answers z K) := by
  refine top_mk F sc_answers (fun vs H Q E h => by
    obtain ⟨_, _, rfl, _⟩ := h
    rfl
    ) (fun f cdv A outer s H vs Q E hr h => ?_)
  refine ⟨_, pss_cons (ps_set (i := 1) sc_answers.nd rfl (Or.inl rfl) (pe_mk0 cm_Slots T.gSlots hr (by first | decide | omega))) (pss_cons (ps_set (i := 2) sc_answers.nd rfl (Or.inl rfl) (pe_lst pa_nil)) (pss_cons (ps_set (i := 3) sc_answers.nd rfl (Or.inl rfl) pe_int) (pss_cons (ps_while rzp (pt_cmpR op_lt (pv 3) (pe_len T.len (pv 0)) (nomark _)) (pss_cons (ps_set (i := 4) sc_answers.nd rfl (Or.inl rfl) (pe_op op_add (pe_op op_add (pv 3) pe_int) (pe_ix ix_list (pv 0) (pe_op op_add (pv 3) pe_int) (fun _ _ => rfl)))) (pss_cons (ps_set (i := 5) sc_answers.nd rfl (Or.inl rfl) (pe_ca c_answer_to hr (by first | decide | omega) passN (pa_cons (pv 1) (pa_cons (pe_slice sl_list (pv 0) (po_some (pe_op op_add (pv 3) pe_int)) (po_some (pv 4))) pa_nil)))) (pss_cons (ps_expr (pe_bm PySem.F.plainAttrs_list PySem.F.slot_list_append PySem.F.type_list_append mt_append (pv 2) (pa_cons (pe_len T.len (pv 5)) pa_nil))) (pss_cons (ps_expr (pe_bm PySem.F.plainAttrs_list PySem.F.slot_list_extend PySem.F.type_list_extend mt_extend (pv 2) (pa_cons (pv 5) pa_nil))) (pss_one (ps_set (i := 3) sc_answers.nd rfl (Or.inl rfl) (pv 4)))))))) (pss_one (ps_ret (pv 2)))))), ?_⟩
  obtain ⟨a, ns, rfl, ha, hask, q⟩ := h
  obtain ⟨rows, hF, ho, hn, hrow, hgo, hlen⟩ := asked_rows hask
  walk_at "ex"
  intro sA dx hsA hdx hne
  refine ⟨sA, dx, rfl, upd_same, fun H1 lb lg b1 h1 h1b h1g n1 => ⟨rfl, ?_⟩⟩
  walk_at "ex"
  refine ⟨Nat.zero_le _, fun D hD => ?_⟩
  walk_at "ex"
  have hW : Wd z sA dx lb lg (upd H1 D (.lst [])) Rust.start [.non, .non] [.non, .non] := (wd_start h1 h1b h1g n1).same (same_new hD)
  have d1 : D ≠ lb := fun e => by rw [e, h1b] at hD; cases hD
  have d2 : D ≠ lg := fun e => by rw [e, h1g] at hD; cases hD
  have nl : ns.map V.int ≠ [.non, .non] := fun e => by
    match ns, e with
    | [], e => cases e
    | _ :: _, e => cases e
  have hx : a ≠ sA ∨ ∀ H' : Hp, SqL K H' a (ns.map V.int) := by
    rcases ha with (ha | ⟨o, ha⟩) | ha
    · exact .inl fun e => by rw [e, hsA] at ha; cases ha
    · exact .inl fun e => by rw [e, hsA] at ha; cases ha
    · exact .inr fun H' => .inr ha
  have ha1 : SqL K H1 a (ns.map V.int) := by
    rcases hx with hx | hx
    · rcases ha with (ha | ⟨o, ha⟩) | ha
      · exact .inl (.inl (b1 _ _ hx ((upd_ne hx).trans ((upd_ne fun e => by rw [e, hdx] at ha; cases ha).trans ha))))
      · exact .inl (.inr ⟨o, b1 _ _ hx ((upd_ne hx).trans ((upd_ne fun e => by rw [e, hdx] at ha; cases ha).trans ha))⟩)
      · exact .inr ha
    · exact hx _
  have hal : AL K lb lg D a (ns.map V.int) := by
    rcases ha1 with (ha | ⟨o, ha⟩) | ha
    · exact .inr ⟨fun e => (by rw [e, h1b] at ha; exact nl (HO.lst.inj (Option.some.inj ha)).symm), fun e => (by rw [e, h1g] at ha; exact nl (HO.lst.inj (Option.some.inj ha)).symm), fun e => (by rw [e, hD] at ha; cases ha)⟩
    · exact .inr ⟨fun e => (by rw [e, h1b] at ha; cases ha), fun e => (by rw [e, h1g] at ha; cases ha), fun e => (by rw [e, hD] at ha; cases ha)⟩
    · exact .inl fun H' => .inr ha
  have ha2 := hal.put (o := .lst []) ha1
  refine ⟨fun m σ H' => ∃ (i : Nat) (rows : List (List Int)) (w : Rust.St) (left : Nat) (out : List Int) (vb vg : List V) (o4 o5 : Option V), m = rows.length ∧ σ = [some (.ref a), some (.ref sA), some (.ref D), some (.int (i : Int)), o4, o5] ∧ Fl (ns.drop i) rows ∧ i ≤ ns.length ∧ Rust.goes w left (rows.map Zr09Neutral.bytesOf) = true ∧
    (∀ r ∈ rows, NeutralIO.bytes r = true ∧ r.length ≤ 60000) ∧ Wd z sA dx lb lg H' w vb vg ∧ SqL K H' a (ns.map V.int) ∧ H' D = some (.lst (out.map V.int)) ∧ out ++ outs w (rows.map Zr09Neutral.bytesOf) = PyZr09.answers ns,
    ⟨_, 0, rows, Rust.start, 4000000, [], _, _, none, none, rfl, rfl, hF, Nat.zero_le _, hgo, hrow, hW, ha2, upd_same, ho.symm⟩, fun m σ H' hm => ?_⟩
  obtain ⟨i, rows, w, left, out, vb, vg, o4, o5, rfl, rfl, hF, hi, hgo, hrow, W, ha, hD, hout⟩ := hm
  walk_at "ex"
  cases hF' : rows with
  | nil =>
    subst hF'
    have e0 : ns.length ≤ i := by
      generalize hl : ns.drop i = l at hF
      cases hF
      exact List.drop_eq_nil_iff.mp hl
    rw [if_neg (by rw [List.length_map, decide_eq_true_eq]; omega)]
    walk_at "ex"
    refine q _ D ?_
    rw [hD, ← hout]
    show _ = some (HO.lst ((out ++ []).map V.int))
    rw [List.append_nil]
  | cons row rest =>
    subst hF'
    generalize hl : ns.drop i = l at hF
    cases hF with
    | @cons _ tl _ hF =>
    have hll := congrArg List.length hl
    rw [List.length_drop, List.length_cons, List.length_cons, List.length_append] at hll
    have e1 : ns[i + 1]? = some (row.length : Int) := by
      rw [← List.getElem?_drop, hl]
      rfl
    have e2 : (ns.drop (i + 2)) = row ++ tl := by
      rw [← List.drop_drop, hl]
      rfl
    have e3 : ns.drop (i + 2 + row.length) = tl := by
      rw [← List.drop_drop, e2, List.drop_left']
      rfl
    have ec : cutV (ns.map V.int) (some ((i : Int) + 2)) (some ((i : Int) + 2 + (row.length : Int))) = row.map V.int := by
      have z := cut_nat (i := i + 2) (j := i + 2 + row.length) (ns.map V.int) ⟨by omega, by rw [List.length_map]; omega⟩
      rw [show ((i : Int) + 2) = ((i + 2 : Nat) : Int) by omega, show (((i + 2 : Nat) : Int) + (row.length : Int)) = ((i + 2 + row.length : Nat) : Int) by omega, z, ← List.map_drop, e2, ← List.map_take, show i + 2 + row.length - (i + 2) = row.length by omega, List.take_left']
      rfl
    rw [if_pos (by rw [List.length_map, decide_eq_true_eq]; omega)]
    refine ⟨_, fun _ _ h => h, ?_⟩
    obtain ⟨c, hc, hin, ht, hz, es, left', hg'⟩ := goes_cons hgo
    obtain ⟨hr1, hr2⟩ := hrow row List.mem_cons_self
    walk_at "ex"
    refine x_ixL ha (by
      rw [show ((i : Int) + 1) = ((i + 1 : Nat) : Int) by omega]
      exact atI_int e1) ?_
    walk_at "ex"
    refine fun l hl0 => ?_
    rw [ec]
    have s1 := same_new (o := .lst (row.map V.int)) hl0
    walk_at "ex"
    refine ⟨sA, l, dx, lb, lg, w, vb, vg, Zr09Neutral.bytesOf row, c, rfl, W.same s1, SqL.of (by rw [upd_same, bI_bytes hr1]), hc, hin, ht, hz, by unfold Zr09Neutral.bytesOf; rw [List.length_map]; exact hr2, fun H0 vb' vg' k2 W2 p H3 hp s3 h3 => ?_⟩
    have hD3 := s3 _ _ (k2.2 D _ d1 d2 (s1 _ _ hD))
    have np : p ≠ D := fun e => by
      rw [e, k2.2 D _ d1 d2 (s1 _ _ hD)] at hp
      cases hp
    have ho2 : out ++ [((RWire.writeAnswer (Rust.answerOf (perform w c).2)).length : Int)] ++ bI (RWire.writeAnswer (Rust.answerOf (perform w c).2)) ++ outs (Rust.step w (Zr09Neutral.bytesOf row)).1 (rest.map Zr09Neutral.bytesOf) = PyZr09.answers ns := by
      rw [← hout]
      show _ = out ++ (((Rust.step w (Zr09Neutral.bytesOf row)).2.length : Int) :: (Zr09Neutral.numbersOf (Rust.step w (Zr09Neutral.bytesOf row)).2 ++ outs (Rust.step w (Zr09Neutral.bytesOf row)).1 (rest.map Zr09Neutral.bytesOf)))
      rw [es, List.append_assoc, List.append_assoc]
      rfl
    have hl2 := congrArg List.length ho2
    rw [List.length_append, List.length_append, List.length_append, bI_len, List.length_singleton] at hl2
    have hcast : ((i + 2 + row.length : Nat) : Int) = (i : Int) + 2 + (row.length : Int) := by omega
    walk_at "ex"
    refine x_app hD3 (by rw [List.length_map, sizeLine_eq]; omega) ?_
    walk_at "ex"
    refine x_ext upd_same ((upd_ne np).trans h3) (by rw [List.length_append, List.length_map, List.length_map, bI_len, List.length_singleton, sizeLine_eq]; omega) ?_
    walk_at "ex"
    refine ⟨rest.length, by rw [List.length_cons]; omega, i + 2 + row.length, rest, (Rust.step w (Zr09Neutral.bytesOf row)).1, left', _, vb', vg', _, _, rfl, (by rw [hcast]; rfl), by rw [e3]; exact hF, by omega, hg', fun r hr => hrow r (List.mem_cons_of_mem _ hr), ?_, hal.put (hal.put (sqL_same s3 (hal.keep k2 (sqL_same s1 ha)))), ?_, ho2⟩
    · rw [es]
      exact (((W2.same s3).made _).put hD3 d1 d2).put upd_same d1 d2
    · rw [upd_same, List.length_map, bI_len, List.map_append, List.map_append]
      rfl

end
end OK
namespace OK
open PySem PySem.Spec PyProof.Rows L2
open R7290f.Spec (Plain Units Bound Err units beyond wrong Call Ans perform textIn keyOfText isBlank trimmed rowsFn templateRow templateRows textsOf listOf isTemplate rowValue keyValue answer textOf ascendingKeys distinctNames distinctIds)
theorem dgt8 : ∀ n : Nat, n < 800 → ((Nat.toDigits 10 n).all fun c => decide (c.toNat < 65536)) = true ∧ (Nat.toDigits 10 n).length ≤ 3 := by decide +kernel
theorem str8 (n : Nat) : (toString ((n : Nat) : Int)).toList = Nat.toDigits 10 n := by
  show (Nat.repr n).toList = _
  unfold Nat.repr
  first | exact String.toList_ofList | simp
theorem digits8 (n : Nat) (h : n < 800) : ((toString ((n : Nat) : Int)).toList.all fun c => decide (c.toNat < 65536)) = true ∧ (toString ((n : Nat) : Int)).toList.length ≤ 3 := by
  rw [str8]
  exact dgt8 n h
theorem tr_eq (u : Units) (x : Plain) : templateRow u x = if 1 ≤ (trimmed u).length ∧ (trimmed u).length ≤ 20 then (keyV 20 x).map fun k => (⟨trimmed u, k⟩ : RRow) else none := by
  unfold R7290f.Spec.templateRow
  show (if 1 ≤ (trimmed u).length ∧ (trimmed u).length ≤ 20 then _ else _) = _
  by_cases c : 1 ≤ (trimmed u).length ∧ (trimmed u).length ≤ 20
  · rw [if_pos c, if_pos c]
    cases x with
    | str v => rw [keyV_20]
    | _ => rfl
  · rw [if_neg c, if_neg c]
theorem tr_some {u : Units} {x : Plain} {r : RRow} (h : templateRow u x = some r) : r.id = trimmed u ∧ 1 ≤ (trimmed u).length ∧ (trimmed u).length ≤ 20 ∧ keyV 20 x = some r.key := by
  rw [tr_eq] at h
  split at h
  · rename_i c
    cases e : keyV 20 x with
    | none => rw [e] at h; cases h
    | some k =>
      rw [e] at h
      cases h
      exact ⟨rfl, c.1, c.2, rfl⟩
  · cases h
theorem tr_bad : ∀ (i k : Nat) (us : List Units) (xs : List Plain), (∀ (j : Nat) u x, j < i → us[j]? = some u → xs[j]? = some x → ∃ r, templateRow u x = some r) → ∀ u x, us[i]? = some u → xs[i]? = some x → templateRow u x = none →
    templateRows k us xs = .error (wrong ("row " ++ toString (k + i) ++ " is invalid"))
  | 0, k, us, xs, _, u, x, e1, e2, e3 => by
    cases us with
    | nil => cases e1
    | cons u' us =>
      cases xs with
      | nil => cases e2
      | cons x' xs =>
        cases e1
        cases e2
        unfold R7290f.Spec.templateRows
        rw [e3]
        rfl
  | i + 1, k, us, xs, h, u, x, e1, e2, e3 => by
    cases us with
    | nil => cases e1
    | cons u' us =>
      cases xs with
      | nil => cases e2
      | cons x' xs =>
        obtain ⟨r, hr⟩ := h 0 u' x' (Nat.succ_pos _) rfl rfl
        have ih := tr_bad i (k + 1) us xs (fun j u x hj a b => h (j + 1) u x (Nat.succ_lt_succ hj) a b) u x e1 e2 e3
        unfold R7290f.Spec.templateRows
        rw [hr]
        show R7290f.Spec.andThen (templateRows (k + 1) us xs) _ = _
        rw [ih, show k + 1 + i = k + (i + 1) by omega]
        rfl
theorem tr_all : ∀ (k : Nat) (us : List Units) (xs : List Plain) (tail : List Units), us.length = xs.length → (∀ (j : Nat) u x, us[j]? = some u → xs[j]? = some x → ∃ r, templateRow u x = some r) →
    ∃ rs : List RRow, rs.length = xs.length ∧ (∀ (j : Nat) u x, us[j]? = some u → xs[j]? = some x → ∃ r, rs[j]? = some r ∧ templateRow u x = some r) ∧ templateRows k (us ++ tail) xs = if (tail.all fun u => u.all isBlank) = true then .ok rs else .error (wrong "text after the last row")
  | k, [], [], tail, _, _ => by
    refine ⟨[], rfl, fun j u x e => (by cases e), ?_⟩
    cases tail with
    | nil => rfl
    | cons t tail => rfl
  | k, [], x :: xs, _, hl, _ => by cases hl
  | k, u :: us, [], _, hl, _ => by cases hl
  | k, u :: us, x :: xs, tail, hl, h => by
    obtain ⟨r, hr⟩ := h 0 u x rfl rfl
    obtain ⟨rs, h1, h2, h3⟩ := tr_all (k + 1) us xs tail (Nat.succ.inj hl) fun j u x a b => h (j + 1) u x a b
    refine ⟨r :: rs, by rw [List.length_cons, h1]; rfl, fun j u' x' a b => ?_, ?_⟩
    · cases j with
      | zero =>
        cases a
        cases b
        exact ⟨r, rfl, hr⟩
      | succ j => exact h2 j u' x' a b
    · rw [List.cons_append]
      unfold R7290f.Spec.templateRows
      rw [hr]
      show R7290f.Spec.andThen (templateRows (k + 1) (us ++ tail) xs) _ = _
      rw [h3]
      by_cases c : (tail.all fun u => u.all isBlank) = true
      · rw [if_pos c, if_pos c]
        rfl
      · rw [if_neg c, if_neg c]
        rfl
theorem dw_nil {α : Type} (p : α → Bool) : ∀ l : List α, l.dropWhile p = [] ↔ l.all p = true
  | [] => ⟨fun _ => rfl, fun _ => rfl⟩
  | x :: l => by
    cases c : p x with
    | true => simp [c, dw_nil p l]
    | false => simp [c]
theorem dw_head {α : Type} (p : α → Bool) : ∀ (l : List α) (x : α) (r : List α), l.dropWhile p = x :: r → p x = false
  | [], _, _, h => by cases h
  | y :: l, x, r, h => by
    cases c : p y with
    | true =>
      rw [List.dropWhile_cons_of_pos c] at h
      exact dw_head p l x r h
    | false =>
      rw [List.dropWhile_cons_of_neg (by rw [c]; decide)] at h
      cases h
      exact c
theorem trim_nil (u : Units) : (trimmed u).length = 0 ↔ u.all isBlank = true := by
  unfold R7290f.Spec.trimmed
  rw [List.length_reverse, List.length_eq_zero_iff, dw_nil, List.all_reverse]
  cases e : u.dropWhile isBlank with
  | nil => exact ⟨fun _ => (dw_nil _ _).mp e, fun _ => rfl⟩
  | cons x r =>
    have hx := dw_head _ _ _ _ e
    constructor
    · intro h
      rw [List.all_cons, hx] at h
      cases h
    · intro h
      rw [(dw_nil _ _).mpr h] at e
      cases e
theorem trim_le (u : Units) : (trimmed u).length ≤ u.length := by
  rw [trim_eq, List.length_take, List.length_drop]
  omega
theorem sum_len : ∀ l : List Nat, (∀ x ∈ l, 1 ≤ x) → l.length ≤ l.sum
  | [], _ => Nat.le_refl _
  | x :: l, h => by
    have h1 := h x List.mem_cons_self
    have h2 := sum_len l fun y hy => h y (List.mem_cons_of_mem _ hy)
    rw [List.length_cons, List.sum_cons]
    omega
theorem sum_two : ∀ (l : List Nat) (i : Nat), i ≤ l.length → (∀ (j : Nat) x, j < i → l[j]? = some x → 2 ≤ x) → 2 * i ≤ l.sum
  | l, 0, _, _ => Nat.zero_le _
  | [], i + 1, hl, _ => absurd hl (Nat.not_succ_le_zero _)
  | x :: l, i + 1, hl, h => by
    have h1 := h 0 x (Nat.succ_pos _) rfl
    have h2 := sum_two l i (Nat.le_of_succ_le_succ hl) fun j y hj e => h (j + 1) y (Nat.succ_lt_succ hj) e
    rw [List.sum_cons]
    omega
theorem size_pos : ∀ (n : Nat) (p : Plain), 1 ≤ R7290f.Spec.Plain.size n p
  | 0, p => by cases p <;> first | exact Nat.succ_pos _ | exact Nat.le_refl _
  | n + 1, p => by cases p <;> first | exact Nat.succ_pos _ | exact Nat.le_refl _
theorem size_str (n : Nat) (u : Units) : R7290f.Spec.Plain.size n (.str u) = u.length + 1 := by cases n <;> rfl
theorem size_arr (n : Nat) (l : List Plain) : R7290f.Spec.Plain.size (n + 1) (.arr l) = (l.map (R7290f.Spec.Plain.size n)).sum + 1 := rfl
theorem texts_all : ∀ {ps : List Plain}, (ps.all fun p => (textIn p).isSome) = true → ∃ us : List Units, ps = us.map Plain.str
  | [], _ => ⟨[], rfl⟩
  | p :: ps, h => by
    rw [List.all_cons, Bool.and_eq_true_iff] at h
    obtain ⟨us, e⟩ := texts_all h.2
    cases p with
    | str u => exact ⟨u :: us, by rw [e]; rfl⟩
    | _ => cases h.1
/-- a template, unpacked -/
theorem tmpl_of {x y : Plain} (h : (isTemplate x y && R7290f.Spec.fits [x, y]) = true) : ∃ (vs : List Units) (u : Units) (qs : List Plain), x = .arr ((vs ++ [u]).map Plain.str) ∧ y = .arr qs ∧ vs.length = qs.length ∧ qs.length ≤ 3000 ∧
    ∀ i : Nat, i ≤ qs.length → (∀ (j : Nat) u x, j < i → vs[j]? = some u → qs[j]? = some x → ∃ r, templateRow u x = some r) → i ≤ 749 := by
  obtain ⟨h1, h2⟩ := Bool.and_eq_true_iff.mp h
  have h1' : (((R7290f.Spec.isList x && R7290f.Spec.isList y) && decide ((listOf x).length = (listOf y).length + 1)) && (listOf x).all fun p => (textIn p).isSome) = true := h1
  obtain ⟨h3, h4⟩ := Bool.and_eq_true_iff.mp h1'
  obtain ⟨h5, h6⟩ := Bool.and_eq_true_iff.mp h3
  obtain ⟨h7, h8⟩ := Bool.and_eq_true_iff.mp h5
  have h6 := of_decide_eq_true h6
  have h9 := of_decide_eq_true (Bool.and_eq_true_iff.mp h2).2
  cases x with
  | arr ps =>
    cases y with
    | arr qs =>
      have h6 : ps.length = qs.length + 1 := h6
      have h4 : (ps.all fun p => (textIn p).isSome) = true := h4
      have h9 : (([Plain.arr ps, Plain.arr qs] : List Plain).map (R7290f.Spec.Plain.size 8)).sum ≤ 3000 := h9
      obtain ⟨us, eu⟩ := texts_all h4
      subst eu
      rw [List.length_map] at h6
      rcases List.eq_nil_or_concat us with e | ⟨vs, u, e⟩
      · subst e
        cases h6
      rw [List.concat_eq_append] at e
      subst e
      rw [List.length_append, List.length_singleton] at h6
      have hv : vs.length = qs.length := by omega
      rw [List.map_cons, List.map_cons, List.map_nil, List.sum_cons, List.sum_cons, List.sum_nil, size_arr, size_arr, List.map_map, List.map_append, List.sum_append] at h9
      have hq := sum_len (qs.map (R7290f.Spec.Plain.size 7)) fun x hx => by
        obtain ⟨p, _, rfl⟩ := List.mem_map.mp hx
        exact size_pos 7 p
      rw [List.length_map] at hq
      refine ⟨vs, u, qs, rfl, rfl, hv, by omega, fun i hi hr => ?_⟩
      have s1 := sum_two (vs.map (R7290f.Spec.Plain.size 7 ∘ Plain.str)) i (by rw [List.length_map]; omega) fun j x hj e => by
        rw [List.getElem?_map] at e
        cases e1 : vs[j]? with
        | none => rw [e1] at e; cases e
        | some v =>
          rw [e1] at e
          cases e
          obtain ⟨r, e3⟩ := hr j v _ hj e1 (List.getElem?_eq_getElem (by omega : j < qs.length))
          obtain ⟨_, l1, _, _⟩ := tr_some e3
          have := trim_le v
          show 2 ≤ R7290f.Spec.Plain.size 7 (.str v)
          rw [size_str]
          omega
      have s2 := sum_two (qs.map (R7290f.Spec.Plain.size 7)) i (by rw [List.length_map]; omega) fun j x hj e => by
        rw [List.getElem?_map] at e
        cases e1 : qs[j]? with
        | none => rw [e1] at e; cases e
        | some p =>
          rw [e1] at e
          cases e
          obtain ⟨r, e3⟩ := hr j _ p hj (List.getElem?_eq_getElem (by omega : j < vs.length)) e1
          obtain ⟨_, _, _, e4⟩ := tr_some e3
          obtain ⟨t, rfl, _, e5, ok, _⟩ := keyV_some e4
          have hl := congrArg List.length e5
          rw [uI_len] at hl
          rw [size_str]
          have := List.length_pos_iff.mpr ok.ne
          have hk : (kI r.key).length = r.key.length := List.length_map _
          omega
      omega
    | _ => cases h8
  | _ => cases h7
abbrev sp_rows_door (z : Ads) (K : PySem.W.Frag) : Sp := DoorSp z K 7
theorem texts_str (us : List Units) : textsOf (.arr (us.map Plain.str)) = us := by
  show (us.map Plain.str).map _ = us
  rw [List.map_map]
  exact List.map_id' us
theorem row_msg {z : Ads} {H H1 : Hp} {E : XK} {σ : L2.St} {i : Nat} (hi : i ≤ 749) (h5 : σ[5]? = some (some (.int (i : Nat)))) (s : Same H H1) (h : Er z H E (wrong ("row " ++ toString i ++ " is invalid"))) :
    tJs [tC (.str (Str.ofString "row ")), tFmt (tVar 5), tC (.str (Str.ofString " is invalid"))] Str.empty σ H1 fun out H1 =>
      (fun v H1 => ∃ m, v = V.str m ∧ ∀ (t : Addr), H1 t = none → E (Value.ref z.cW) (some t) (upd H1 t (.tup [.str m]))) (V.str out) H1 := by
  have z1 : (Str.ofString "row ").cps.size ≤ 100 := by rw [sz_lit]; decide +kernel
  have z2 : (Str.ofString " is invalid").cps.size ≤ 100 := by rw [sz_lit]; decide +kernel
  have z3 : (Str.ofString (toString ((i : Nat) : Int))).cps.size ≤ 3 := by rw [sz_lit]; exact (digits8 i (by omega)).2
  have z0 : Str.empty.cps.size = 0 := rfl
  walk_at "ex"
  refine x_jy (by rw [sz_app]; omega) ?_
  refine x_js (x_fmt ⟨_, h5, ?_⟩)
  refine x_fI (by omega) ?_
  refine x_jy (by rw [sz_app, sz_app]; omega) ?_
  walk_at "ex"
  refine x_jy (by rw [sz_app, sz_app, sz_app]; omega) ?_
  walk_at "ex"
  refine ⟨_, rfl, fun t ht => h t _ _ (s.trans (same_new ht)) upd_same ?_ (by rw [sz_app, sz_app, sz_app]; omega)⟩
  rw [cI_app, cI_app, cI_app, cI_lit "row " (by decide +kernel), cI_lit " is invalid" (by decide +kernel), cI_lit (toString ((i : Nat) : Int)) (digits8 i (by omega)).1]
  show _ = uM ("row " ++ toString i ++ " is invalid")
  rw [uM_app, uM_app]
  rfl
/-! rows_door -/
abbrev s_rows_door : Stmt := top 103
abbrev N_rows_door : List Str := ["slots", "given", "names", "last", "keys", "at", "name", "text", "key"]
theorem sc_rows_door : FnScope N_rows_door ["slots", "given"] (defScope s_rows_door) := ⟨rfl, rfl, rfl, by decide +kernel, rfl, by decide +kernel, by decide +kernel⟩
section
variable {P : Program} {w : World} {K : PySem.W.Frag} {mg : Str → Option Value} {base : Heap}
theorem ca_rows_door (F : Df K mg "rows_door" s_rows_door ["slots", "given"]) {z : Ads} (T : Gb K mg z)  (c_list_value : Ca P w K mg base 1 "list_value" (sp_list_value K)) (c_row_value : Ca P w K mg base 3 "row_value" (sp_row_value K)) (c_distinct : Ca P w K mg base 1 "distinct" (sp_distinct K)) (c_ascend : Ca P w K mg base 1 "ascend" (sp_ascend K)) (c_is_key_value : Ca P w K mg base 3 "is_key_value" (sp_is_key_value K)) (c_bare : Ca P w K mg base 1 "bare" (sp_bare K)) : Ca P w K mg base 4 "rows_door" (sp_rows_door z K) := by
  refine ca_mk F sc_rows_door (fun vs H Q E h => by
    obtain ⟨_, _, _, _, _, _, _, _, _, _, _, rfl, _⟩ := h
    rfl
    ) (fun f cdv A outer s H vs Q E hr h => ?_)
  refine ⟨_, pss_cons (ps_setLc (i := 2) (own := [("text", 7)]) (g := (gName 7)) (tt := tYes) rfl sc_rows_door.nd rfl rfl (sw_true rfl rfl rfl (by decide +kernel)) (pi_list (pe_ix ix_tup (pe_ix ix_list (pv 1) pe_int (fun _ _ => rfl)) pe_int (fun _ _ => rfl))) (blkOk_by (own := [("text", 7)]) (N := N_rows_door) (sc := defScope s_rows_door) (by decide +kernel)) (fun _ _ _ _ _ => (pg_name (i := 7) sc_rows_door.nd rfl (Or.inl rfl))) (fun _ _ _ _ _ => pts_nil) (fun _ _ _ _ _ => (pe_ca c_bare hr (by first | decide | omega) passN (pa_cons (pe_ix (ixt_K (K := K)) (pv 7) pe_int (fun _ _ => rfl)) pa_nil)))) (pss_cons (ps_set (i := 3) sc_rows_door.nd rfl (Or.inl rfl) (pe_bm0 PySem.F.plainAttrs_list PySem.F.slot_list_pop PySem.F.type_list_pop mt_pop (pv 2))) (pss_cons (ps_set (i := 4) sc_rows_door.nd rfl (Or.inr rfl) (pe_ix ix_tup (pe_ix ix_list (pv 1) pe_int (fun _ _ => rfl)) pe_int (fun _ _ => rfl))) (pss_cons (ps_for rzp rfl (pi_enum (by rfl) T.enumerate (pa_cons (pv 2) pa_nil)) (pg_tup rfl (pgs_cons (pg_name (i := 5) sc_rows_door.nd rfl (Or.inl rfl)) (pgs_cons (pg_name (i := 6) sc_rows_door.nd rfl (Or.inl rfl)) pgs_nil))) (pss_one (ps_if (PW.pt (pw_or (pt_not (pt_chain op_le op_le pe_int (pe_len T.len (pv 6)) pe_int)) (pw_or1 (pt_not (pt_val (pe_ca c_is_key_value hr (by first | decide | omega) passN (pa_cons (pe_ix ix_list (pv 4) (pv 5) (fun _ _ => rfl)) (pa_cons (pe_gk T.cLONGEST_BOUND) pa_nil)))))))) (pss_one (ps_raiseM rfl rz (by exact (pmk_msg PySem.F.excBase_Exception T.xWrongKind T.gWrongKind T.kWrongKind (raises_own T.bWrongKind T.tWrongKind) (pe_joined (PJ.cons pe_str (PJ.cons (pe_fmt (pv 5)) (PJ.cons pe_str PJ.nil)))))))) pss_nil))) (pss_cons (ps_if (pt_cmpR op_gt (pe_len T.len (pv 3)) pe_int (nomark _)) (pss_one (ps_raiseM rfl rz (by exact (pmk_msg PySem.F.excBase_Exception T.xWrongKind T.gWrongKind T.kWrongKind (raises_own T.bWrongKind T.tWrongKind) pe_str)))) pss_nil) (pss_cons (ps_if (pt_not (pt_val (pe_ca c_ascend hr (by first | decide | omega) passN (pa_cons (pe_lc (own := [("key", 8)]) (g := (gName 8)) (tt := tYes) rfl sc_rows_door.nd (pi_list (pv 4)) (blkOk_by (own := [("key", 8)]) (N := N_rows_door) (sc := defScope s_rows_door) (by decide +kernel)) (fun _ _ _ _ _ => (pg_name (i := 8) sc_rows_door.nd rfl (Or.inl rfl))) (fun _ _ _ _ _ => pts_nil) (fun _ _ _ _ _ => (pe_ix (ixt_K (K := K)) (pv 8) pe_int (fun _ _ => rfl)))) pa_nil)))) (pss_one (ps_raiseM rfl rz (by exact (pmk_msg PySem.F.excBase_Exception T.xOutOfRange T.gOutOfRange T.kOutOfRange (raises_own T.bOutOfRange T.tOutOfRange) pe_str)))) pss_nil) (pss_cons (ps_if (pt_not (pt_val (pe_ca c_distinct hr (by first | decide | omega) passN (pa_cons (pv 2) pa_nil)))) (pss_one (ps_raiseM rfl rz (by exact (pmk_msg PySem.F.excBase_Exception T.xOutOfRange T.gOutOfRange T.kOutOfRange (raises_own T.bOutOfRange T.tOutOfRange) pe_str)))) pss_nil) (pss_one (ps_ret (pe_ca c_list_value hr (by first | decide | omega) passN (pa_cons (pe_fz (pe_lc (own := [("at", 5), ("name", 6)]) (g := (gTup K 2 (gCons (gName 5) (gCons (gName 6) gNil)))) (tt := tYes) rfl sc_rows_door.nd (pi_enum (by rfl) T.enumerate (pa_cons (pv 2) pa_nil)) (blkOk_by (own := [("at", 5), ("name", 6)]) (N := N_rows_door) (sc := defScope s_rows_door) (by decide +kernel)) (fun _ _ _ _ _ => (pg_tup rfl (pgs_cons (pg_name (i := 5) sc_rows_door.nd rfl (Or.inl rfl)) (pgs_cons (pg_name (i := 6) sc_rows_door.nd rfl (Or.inl rfl)) pgs_nil)))) (fun _ _ _ _ _ => pts_nil) (fun _ _ _ _ _ => (pe_ca c_row_value hr (by first | decide | omega) passN (pa_cons (pv 6) (pa_cons (pe_ix (ixt_K (K := K)) (pe_ix (ixl_K (K := K)) (pv 4) (pv 5) (fun _ _ => rfl)) pe_int (fun _ _ => rfl)) pa_nil)))))) pa_nil)))))))))), ?_⟩
  obtain ⟨sA, g, dx, lb, lg, w0, vb, vg, xs, l, c, rfl, W, hg, hx, hc, hin, q, qe⟩ := h
  have hs3 := taking_some (show Rust.taking 2 l (some (.rows1 (Rust.argAt l 0) (Rust.argAt l 1))) = some c from hc)
  cases hs3
  obtain ⟨x0, e0, h0⟩ := hx 0 (by decide)
  obtain ⟨x1, e1, h1⟩ := hx 1 (by decide)
  obtain ⟨vs, uz, qs, ea, eb, hvl, hql, hbd⟩ := tmpl_of (show (isTemplate (Rust.argAt l 0) (Rust.argAt l 1) && R7290f.Spec.fits [Rust.argAt l 0, Rust.argAt l 1]) = true from hin)
  have eP : perform w0 (.rows1 (Rust.argAt l 0) (Rust.argAt l 1)) = (w0, answer id (R7290f.Spec.andThen (templateRows 0 (vs ++ [uz]) qs) fun l => if (!ascendingKeys (l.map fun r => r.key)) = true then R7290f.Spec.bad "keys must ascend" else if (!distinctIds l) = true then R7290f.Spec.bad "ids must be distinct" else .ok (.arr (l.map rowValue)))) := by
    show (w0, answer id (rowsFn (textsOf (Rust.argAt l 0)) (listOf (Rust.argAt l 1)))) = _
    rw [ea, eb, texts_str]
    rfl
  rw [ea] at h0
  rw [eb] at h1
  obtain ⟨a0, ys, ⟨t0, rfl, ht0⟩, hl0, hv0⟩ := h0
  obtain ⟨a1, zs, ⟨t1, rfl, ht1⟩, hl1, hv1⟩ := h1
  have hyl := hv0.len
  have hzl := hv1.len
  rw [List.length_map, List.length_append, List.length_singleton] at hyl
  walk_at "ex"
  refine x_ixL hg (atI_nat e0) ?_
  walk_at "ex"
  refine x_lcl hl0.l (by omega) (fun H i v => ∃ u, (vs ++ [uz])[i]? = some u ∧ ∃ b, v = .ref b ∧ Oc H b (uI (trimmed u))) (fun H H' i v k h => let ⟨u, e, b, e2, o⟩ := h; ⟨u, e, b, e2, o.kp k⟩) (fun x H => gName_mono x _ H) (fun i x H' hx2 s Q' hQ => ?_) (fun D H1 ns hD s1 hn it => ?_)
  · obtain ⟨p, hp, hpx⟩ := hv0.get hx2
    rw [List.getElem?_map] at hp
    cases e : (vs ++ [uz])[i]? with
    | none => rw [e] at hp; cases hp
    | some u =>
      rw [e] at hp
      cases hp
      obtain ⟨b, ⟨t3, rfl, ht3⟩, hb⟩ := VAt.kp (Kp.of s) hpx
      walk_at "ex"
      refine ⟨rfl, ?_⟩
      walk_at "ex"
      exact ⟨b, u, rfl, hb, fun p H3 s3 hp => hQ _ _ s3 ⟨u, e, p, rfl, hp⟩⟩
  have hnl : ns.length = vs.length + 1 := by rw [it.1]; exact hyl
  obtain ⟨bz, ez, oz⟩ : ∃ b, ns[ns.length - 1]? = some (.ref b) ∧ Oc H1 b (uI (trimmed uz)) := by
    have hi : ns.length - 1 < ns.length := by omega
    obtain ⟨u, eu, b, e2, o⟩ := it.2 _ _ (List.getElem?_eq_getElem hi)
    rw [show ns.length - 1 = vs.length by omega, List.getElem?_concat_length] at eu
    cases eu
    exact ⟨b, by rw [List.getElem?_eq_getElem hi, e2], o⟩
  walk_at "ex"
  refine x_pop hn ez ?_
  have k2 : Kp H1 (upd H1 D (.lst ns.dropLast)) := Kp.lst hn
  have s2 : Same H (upd H1 D (.lst ns.dropLast)) := But.same s1 hD But.upd
  have hD2 : (upd H1 D (.lst ns.dropLast)) D = some (.lst ns.dropLast) := upd_same
  have hU : UL (upd H1 D (.lst ns.dropLast)) ns.dropLast (vs.map trimmed) := ⟨by rw [List.length_dropLast, List.length_map]; omega, fun i v u f1 f2 => by
    have hi : i < vs.length := by
      have := (List.getElem?_eq_some_iff.mp f2).1
      rwa [List.length_map] at this
    rw [List.getElem?_dropLast, if_pos (by omega)] at f1
    obtain ⟨u', f3, b, f4, o⟩ := it.2 _ _ f1
    rw [List.getElem?_append_left hi] at f3
    rw [List.getElem?_map, f3] at f2
    cases f2
    exact ⟨b, f4, o.kp k2⟩⟩
  have oz2 := oz.kp k2
  have hnd : ns.dropLast.length = qs.length := by rw [List.length_dropLast]; omega
  generalize ns.dropLast = nm at k2 s2 hD2 hU oz2 hnd ⊢
  generalize upd H1 D (.lst nm) = H2 at k2 s2 hD2 hU oz2 ⊢
  have hg2 := sqL_same s2 hg
  have ht1' := sqT_same s2 ht1
  walk_at "ex"
  refine x_ixL hg2 (atI_nat e1) ?_
  walk_at "ex"
  refine x_fe (SqL.of hD2) (fun i σ H' => Same H2 H' ∧ (∀ (j : Nat) u x, j < i → vs[j]? = some u → qs[j]? = some x → ∃ r, templateRow u x = some r) ∧
    ∃ o1 o2, σ = [some (.ref sA), some (.ref g), some (.ref D), some (.ref bz), some (.ref a1), o1, o2, none, none])
    ⟨Same.refl _, fun j u x h => absurd h (Nat.not_lt_zero _), none, none, rfl⟩ (fun i σ H' _ p => SqL.of (p.1 _ _ hD2)) (fun i x TT σ H0 H' hxi hp hTT eH => ?_) (fun σ H' hp => ?_)
  · obtain ⟨s, hj, o1, o2, rfl⟩ := hp
    have hi : i < qs.length := by rw [← hnd]; exact (List.getElem?_eq_some_iff.mp hxi).1
    have eV := List.getElem?_eq_getElem (by omega : i < vs.length)
    have eQ := List.getElem?_eq_getElem hi
    have hi7 := hbd i (by omega) hj
    have sTT : Same H0 H' := by rw [eH]; exact same_new hTT
    have hTt : H' TT = some (.tup [.int (i : Nat), x]) := by rw [eH]; exact upd_same
    have sZ := s.trans sTT
    obtain ⟨b, rfl, ob⟩ := hU.2 i x (trimmed vs[i]) hxi (by rw [List.getElem?_map, eV]; rfl)
    have ob' := ob.kp (Kp.of sZ)
    have obt := ob'.t (K := K)
    have hzi : ∃ y, zs[i]? = some y := ⟨_, List.getElem?_eq_getElem (by omega : i < zs.length)⟩
    obtain ⟨y, ey⟩ := hzi
    obtain ⟨p, ep, hpy⟩ := hv1.get ey
    rw [eQ] at ep
    cases ep
    have hpy' := VAt.kp (Kp.of (s2.trans sZ)) hpy
    have hl1' := (hl1.kp (Kp.of (s2.trans sZ))).l (K := K)
    have hrm : templateRow vs[i] qs[i] = none → Er z H' E (wrong ("row " ++ toString i ++ " is invalid")) := fun hb => (qe w0 _ (by
      rw [eP, tr_bad i 0 (vs ++ [uz]) qs (fun j u x h f1 f2 => hj j u x h (by rw [List.getElem?_append_left (by omega)] at f1; exact f1) f2) vs[i] qs[i] (by rw [List.getElem?_append_left (by omega)]; exact eV) eQ hb, Nat.zero_add]
      rfl)).back (s2.trans sZ)
    walk_at "ex"
    rw [len_map, uI_len]
    refine ite_d (fun c2 => ?_) (fun c2 => ?_)
    · walk_at "ex"
      refine ite_nd (fun c3 => ?_) (fun c3 => ?_)
      · refine ite_t rfl ?_
        refine row_msg (i := i) hi7 rfl (Same.refl _) (hrm ?_)
        rw [tr_eq, if_neg (by omega)]
      · walk_at "ex"
        refine x_ixL hl1' (atI_nat ey) ?_
        walk_at "ex"
        refine ⟨y, qs[i], 20, rfl, hpy', by omega, ?_⟩
        walk_at "ex"
        refine ite_nb (fun c4 => ?_) (fun c4 => ?_)
        · refine row_msg (i := i) hi7 rfl (Same.refl _) (hrm ?_)
          rw [tr_eq, if_pos (by omega)]
          cases e : keyV 20 qs[i] with
          | none => rfl
          | some k => rw [e] at c4; cases c4
        · walk_at "ex"
          refine ⟨sZ, fun j u x h f1 f2 => ?_, _, _, rfl⟩
          rcases Nat.lt_succ_iff_lt_or_eq.mp h with h | h
          · exact hj j u x h f1 f2
          · subst h
            rw [eV] at f1
            rw [eQ] at f2
            cases f1
            cases f2
            rw [tr_eq, if_pos (by omega)]
            cases e : keyV 20 qs[j] with
            | none => rw [e] at c4; cases c4
            | some k => exact ⟨_, rfl⟩
    · walk_at "ex"
      refine ite_t rfl ?_
      refine row_msg (i := i) hi7 rfl (Same.refl _) (hrm ?_)
      rw [tr_eq, if_neg (by omega)]
  obtain ⟨s, hj, o1, o2, rfl⟩ := hp
  rw [hnd] at hj
  obtain ⟨rs, r1, r2, r3⟩ := tr_all 0 vs qs [uz] hvl fun j u x f1 f2 => hj j u x (List.getElem?_eq_some_iff.mp f2).1 f1 f2
  have h749 := hbd qs.length (Nat.le_refl _) hj
  have s3 := s2.trans s
  rw [r3] at eP
  have ozt := (oz2.kp (Kp.of s)).t (K := K)
  walk_at "ex"
  rw [len_map, uI_len]
  refine ite_d (fun c1 => ?_) (fun c1 => ?_)
  · walk_at "ex"
    refine ⟨_, rfl, fun t ht => qe w0 (wrong "text after the last row") ?_ t _ _ (s3.trans (same_new ht)) upd_same (cI_lit "text after the last row" (by decide +kernel)) (by rw [sz_lit]; decide +kernel)⟩
    rw [eP, if_neg]
    · rfl
    · intro c
      rw [List.all_cons, List.all_nil, Bool.and_true, ← trim_nil] at c
      omega
  rw [if_pos (by rw [List.all_cons, List.all_nil, Bool.and_true, ← trim_nil]; omega)] at eP
  have eP : perform w0 (.rows1 (Rust.argAt l 0) (Rust.argAt l 1)) = (w0, answer id (if (!ascendingKeys (rs.map fun r => r.key)) = true then R7290f.Spec.bad "keys must ascend" else if (!distinctIds rs) = true then R7290f.Spec.bad "ids must be distinct" else .ok (.arr (rs.map rowValue)))) := eP
  have rget : ∀ (i : Nat) (h : i < qs.length), ∃ r, rs[i]? = some r ∧ r.id = trimmed vs[i] ∧ keyV 20 qs[i] = some r.key := fun i h => by
    obtain ⟨r, f1, f2⟩ := r2 i _ _ (List.getElem?_eq_getElem (by omega : i < vs.length)) (List.getElem?_eq_getElem h)
    obtain ⟨f3, _, _, f4⟩ := tr_some f2
    exact ⟨r, f1, f3, f4⟩
  have hks : ∀ r ∈ rs, KeyOk r.key := fun r hr => by
    obtain ⟨i, hi⟩ := List.mem_iff_getElem?.mp hr
    have hlt : i < qs.length := by rw [← r1]; exact (List.getElem?_eq_some_iff.mp hi).1
    obtain ⟨r', f1, _, f2⟩ := rget i hlt
    rw [hi] at f1
    cases f1
    obtain ⟨_, _, _, _, ok, _⟩ := keyV_some f2
    exact ok
  have hl3 := hl1.kp (Kp.of s3)
  have hv3 := VsAt.kp (Kp.of s3) hv1
  walk_at "ex"
  refine x_lcl hl3.l (by omega) (fun H i v => ∃ r, rs[i]? = some r ∧ KAt H v r.key) (fun H H' i v k h => let ⟨u, e, o⟩ := h; ⟨u, e, o.kp k⟩) (fun x H => gName_mono x _ H) (fun i x H4 hx2 s4 Q' hQ => ?_) (fun D5 H5 ws hD5 s5 hw it5 => ?_)
  · obtain ⟨p, hp, hpx⟩ := hv3.get hx2
    obtain ⟨r, f1, _, f2⟩ := rget i (List.getElem?_eq_some_iff.mp hp).1
    rw [List.getElem?_eq_getElem (List.getElem?_eq_some_iff.mp hp).1] at hp
    obtain ⟨u, eu, _, e4, _, _⟩ := keyV_some f2
    rw [← Option.some.inj hp, eu] at hpx
    obtain ⟨b, ⟨t3, rfl, ht3⟩, hb⟩ := VAt.kp (Kp.of s4) hpx
    walk_at "ex"
    refine ⟨rfl, ?_⟩
    walk_at "ex"
    rw [e4] at hb
    exact hQ _ _ (Same.refl _) ⟨r, f1, b, rfl, hb⟩
  have hwl : ws.length = rs.length := by rw [it5.1, r1]; exact hzl
  walk_at "ex"
  refine ⟨D5, ws, rs.map fun r => r.key, rfl, SqL.of hw, ⟨by rw [List.length_map]; exact hwl, fun i v k f1 f2 => ?_⟩, fun k hk => ?_, by rw [List.length_map]; omega, ?_⟩
  · obtain ⟨r, f3, f4⟩ := it5.2 i v f1
    rw [List.getElem?_map, f3] at f2
    cases f2
    exact f4
  · obtain ⟨r, hr, rfl⟩ := List.mem_map.mp hk
    exact (hks r hr).dig
  have s6 := s3.trans s5
  have hD6 := s5 _ _ (s _ _ hD2)
  walk_at "ex"
  refine ite_nb (fun c2 => ?_) (fun c2 => ?_)
  · walk_at "ex"
    refine ⟨_, rfl, fun t ht => qe w0 (beyond "keys must ascend") ?_ t _ _ (s6.trans (same_new ht)) upd_same (cI_lit "keys must ascend" (by decide +kernel)) (by rw [sz_lit]; decide +kernel)⟩
    rw [eP, c2]
    rfl
  rw [c2] at eP
  have eP : perform w0 (.rows1 (Rust.argAt l 0) (Rust.argAt l 1)) = (w0, answer id (if (!distinctIds rs) = true then R7290f.Spec.bad "ids must be distinct" else .ok (.arr (rs.map rowValue)))) := eP
  walk_at "ex"
  refine ⟨D, nm, rs.map fun r => r.id, rfl, SqL.of hD6, ⟨by rw [List.length_map]; omega, fun i v u f1 f2 => ?_⟩, by rw [List.length_map]; omega, ?_⟩
  · have hi : i < qs.length := by rw [← hnd]; exact (List.getElem?_eq_some_iff.mp f1).1
    obtain ⟨r, f3, f4, _⟩ := rget i hi
    rw [List.getElem?_map, f3] at f2
    cases f2
    obtain ⟨b, f5, f6⟩ := hU.2 i v (trimmed vs[i]) f1 (by rw [List.getElem?_map, List.getElem?_eq_getElem (by omega : i < vs.length)]; rfl)
    rw [← f4] at f6
    exact ⟨b, f5, f6.kp (Kp.of (s.trans s5))⟩
  have edi : distinctNames (rs.map fun r => r.id) = distinctIds rs := rfl
  rw [edi]
  walk_at "ex"
  refine ite_nb (fun c3 => ?_) (fun c3 => ?_)
  · walk_at "ex"
    refine ⟨_, rfl, fun t ht => qe w0 (beyond "ids must be distinct") ?_ t _ _ (s6.trans (same_new ht)) upd_same (cI_lit "ids must be distinct" (by decide +kernel)) (by rw [sz_lit]; decide +kernel)⟩
    rw [eP, c3]
    rfl
  rw [c3] at eP
  have eP : perform w0 (.rows1 (Rust.argAt l 0) (Rust.argAt l 1)) = (w0, .ret (.arr (rs.map rowValue))) := eP
  walk_at "ex"
  refine x_lce (SqL.of hD6) (by omega) (fun H i v => ∃ r, rs[i]? = some r ∧ VAt K H (rowValue r) v) (fun H H' i v k h => let ⟨r, e, o⟩ := h; ⟨r, e, VAt.kp k o⟩) (fun x H => gPair_mono x _ H) (fun i x TT H7 hxi s7 hTt Q' hQ => ?_) (fun D8 H8 us hD8 s8 hu8 it8 => ?_)
  · have hi : i < qs.length := by rw [← hnd]; exact (List.getElem?_eq_some_iff.mp hxi).1
    have s9 := s6.trans s7
    obtain ⟨r, f3, f4, f5⟩ := rget i hi
    obtain ⟨b, rfl, ob⟩ := hU.2 i x (trimmed vs[i]) hxi (by rw [List.getElem?_map, List.getElem?_eq_getElem (by omega : i < vs.length)]; rfl)
    have ob' := ob.kp (Kp.of (s.trans (s5.trans s7)))
    rw [← f4] at ob'
    obtain ⟨y, ey⟩ : ∃ y, zs[i]? = some y := ⟨_, List.getElem?_eq_getElem (by omega : i < zs.length)⟩
    obtain ⟨p, ep, hpy⟩ := hv1.get ey
    rw [List.getElem?_eq_getElem hi] at ep
    obtain ⟨u, eu, _, e4, ok, _⟩ := keyV_some f5
    rw [← Option.some.inj ep, eu] at hpy
    obtain ⟨k, ⟨t3, rfl, ht3⟩, hk⟩ := VAt.kp (Kp.of s9) hpy
    rw [e4] at hk
    have hl9 := (hl1.kp (Kp.of s9)).l (K := K)
    walk_at "ex"
    refine ⟨rfl, ?_⟩
    walk_at "ex"
    refine x_ixL hl9 (atI_nat ey) ?_
    walk_at "ex"
    exact ⟨b, k, r.id, r.key, rfl, ob', hk, ok.dig, fun x H9 s10 hx9 => hQ _ _ s10 ⟨r, f3, hx9⟩⟩
  walk_at "ex"
  refine ⟨D8, us, rfl, hu8, fun o => ?_⟩
  have kF : Kp H8 (upd H8 D8 (.frz o (.lst us))) := Kp.lst hu8
  have sF : Same H5 (upd H8 D8 (.frz o (.lst us))) := But.same s8 hD8 But.upd
  walk_at "ex"
  refine ⟨D8, us, rs.map rowValue, rfl, ⟨o, upd_same⟩, VsAt.of (by rw [it8.1, List.length_map]; omega) fun i p x f1 f2 => ?_, fun y H9 s9 hy => ?_⟩
  · obtain ⟨r, f3, f4⟩ := it8.2 i x f2
    rw [List.getElem?_map, f3] at f1
    cases f1
    exact VAt.kp kF f4
  · have sZ := s6.trans (sF.trans s9)
    exact q w0 _ eP y H9 vb vg (KpL.of sZ) (W.same sZ) hy

end
end OK
namespace OK
open PySem PySem.Spec PyProof.Rows L2
section
variable {P : Program} {w : World} {K : PySem.W.Frag} {mg : Str → Option Value} {base : Heap}
theorem all_top {z : Ads} (D : Dfs K mg z) (T : Gb K mg z) (U : Gx K z) {aD a_shortest_key_door a_many_keys_door a_middle_door a_room_door a_insertions_door a_some_keys_door a_rekey_door a_rows_door a_merge_door a_new_board_door a_board_keys_door a_insert_row_door a_move_row_door a_remove_row_door a_new_game_door a_game_state_door a_answer_key_door : Addr} (hDOORS : ∃ u, mg "DOORS" = some u ∧ RelV (.ref aD) u) (tD : ∀ H : Hp, SqT K H aD ([a_shortest_key_door, a_many_keys_door, a_middle_door, a_room_door, a_insertions_door, a_some_keys_door, a_rekey_door, a_rows_door, a_merge_door, a_new_board_door, a_board_keys_door, a_insert_row_door, a_move_row_door, a_remove_row_door, a_new_game_door, a_game_state_door, a_answer_key_door].map V.ref))
    (g_shortest_key_door : mg "shortest_key_door" = some (.ref a_shortest_key_door))
    (g_many_keys_door : mg "many_keys_door" = some (.ref a_many_keys_door))
    (g_middle_door : mg "middle_door" = some (.ref a_middle_door))
    (g_room_door : mg "room_door" = some (.ref a_room_door))
    (g_insertions_door : mg "insertions_door" = some (.ref a_insertions_door))
    (g_some_keys_door : mg "some_keys_door" = some (.ref a_some_keys_door))
    (g_rekey_door : mg "rekey_door" = some (.ref a_rekey_door))
    (g_rows_door : mg "rows_door" = some (.ref a_rows_door))
    (g_merge_door : mg "merge_door" = some (.ref a_merge_door))
    (g_new_board_door : mg "new_board_door" = some (.ref a_new_board_door))
    (g_board_keys_door : mg "board_keys_door" = some (.ref a_board_keys_door))
    (g_insert_row_door : mg "insert_row_door" = some (.ref a_insert_row_door))
    (g_move_row_door : mg "move_row_door" = some (.ref a_move_row_door))
    (g_remove_row_door : mg "remove_row_door" = some (.ref a_remove_row_door))
    (g_new_game_door : mg "new_game_door" = some (.ref a_new_game_door))
    (g_game_state_door : mg "game_state_door" = some (.ref a_game_state_door))
    (g_answer_key_door : mg "answer_key_door" = some (.ref a_answer_key_door))
    {f : Addr} {fd : FuncData} (FA : Fun K "answers" "answers" s_answers f fd) : FnOk P w K mg base (CXm P w) 70 f fd ["calls"] (sp_answers z K) := by
  have c_digit_of := ca_digit_of (P := P) (w := w) (base := base) D.d_digit_of T 
  have c_octet_of := ca_octet_of (P := P) (w := w) (base := base) D.d_octet_of T 
  have c_is_key := ca_is_key (P := P) (w := w) (base := base) D.d_is_key T c_digit_of
  have c_places_of := ca_places_of (P := P) (w := w) (base := base) D.d_places_of T 
  have c_keys_in_all := ca_keys_in_all (P := P) (w := w) (base := base) D.d_keys_in_all T c_places_of
  have c_number_of := ca_number_of (P := P) (w := w) (base := base) D.d_number_of T c_digit_of
  have c_key_of := ca_key_of (P := P) (w := w) (base := base) D.d_key_of T c_octet_of
  have c_lowest_number := ca_lowest_number (P := P) (w := w) (base := base) D.d_lowest_number T c_number_of
  have c_number_behind := ca_number_behind (P := P) (w := w) (base := base) D.d_number_behind T c_number_of c_places_of
  have c_room_between := ca_room_between (P := P) (w := w) (base := base) D.d_room_between T c_number_behind c_lowest_number
  have c_is_between := ca_is_between (P := P) (w := w) (base := base) D.d_is_between T 
  have c_middle_key := ca_middle_key (P := P) (w := w) (base := base) D.d_middle_key T c_key_of c_lowest_number c_room_between
  have c_least_length := ca_least_length (P := P) (w := w) (base := base) D.d_least_length T c_room_between
  have c_shortest_key := ca_shortest_key (P := P) (w := w) (base := base) D.d_shortest_key T c_middle_key c_least_length
  have c_spread_keys := ca_spread_keys (P := P) (w := w) (base := base) D.d_spread_keys T c_key_of c_lowest_number c_room_between c_least_length
  have c_halvings := ca_halvings (P := P) (w := w) (base := base) D.d_halvings T 
  have c_read_count := ca_read_count (P := P) (w := w) (base := base) D.d_read_count T 
  have c_read_integer := ca_read_integer (P := P) (w := w) (base := base) D.d_read_integer T 
  have c_read_text := ca_read_text (P := P) (w := w) (base := base) D.d_read_text T c_read_count
  have c_read_value := rv_all (P := P) (w := w) (base := base) D.d_read_value D.d_read_list D.d_read_record T c_read_count c_read_text c_read_integer 32
  have c_octets_of := ca_octets_of (P := P) (w := w) (base := base) D.d_octets_of T 
  have c_integer_value := ca_integer_value (P := P) (w := w) (base := base) D.d_integer_value T 
  have c_text_value := ca_text_value (P := P) (w := w) (base := base) D.d_text_value T 
  have c_list_value := ca_list_value (P := P) (w := w) (base := base) D.d_list_value T 
  have c_texts_value := ca_texts_value (P := P) (w := w) (base := base) D.d_texts_value T 
  have c_bound_value := ca_bound_value (P := P) (w := w) (base := base) D.d_bound_value T 
  have c_record_value := ca_record_value (P := P) (w := w) (base := base) D.d_record_value T c_octets_of
  have c_member_of := ca_member_of (P := P) (w := w) (base := base) D.d_member_of T c_octets_of
  have c_lowest_first := ca_lowest_first (P := P) (w := w) (base := base) D.d_lowest_first T 
  have c_written_text := ca_written_text (P := P) (w := w) (base := base) D.d_written_text T c_lowest_first
  have c_written_integer := ca_written_integer (P := P) (w := w) (base := base) D.d_written_integer T c_lowest_first
  have c_written_value := wv_all (P := P) (w := w) (base := base) D.d_written_value D.d_written_list D.d_written_record T c_lowest_first c_written_text c_written_integer 32
  have c_is_integer := ca_is_integer (P := P) (w := w) (base := base) D.d_is_integer T 
  have c_is_key_value := ca_is_key_value (P := P) (w := w) (base := base) D.d_is_key_value T c_is_key
  have c_integer_of := ca_integer_of (P := P) (w := w) (base := base) D.d_integer_of T c_is_integer
  have c_limit_of := ca_limit_of (P := P) (w := w) (base := base) D.d_limit_of T c_integer_of
  have c_bound_of := ca_bound_of (P := P) (w := w) (base := base) D.d_bound_of T c_is_key_value
  have c_bounds_of := ca_bounds_of (P := P) (w := w) (base := base) D.d_bounds_of T c_bound_of
  have c_ascend := ca_ascend (P := P) (w := w) (base := base) D.d_ascend T 
  have c_distinct := ca_distinct (P := P) (w := w) (base := base) D.d_distinct T 
  have c_is_row := ca_is_row (P := P) (w := w) (base := base) D.d_is_row T c_is_key_value c_member_of
  have c_row_pairs := ca_row_pairs (P := P) (w := w) (base := base) D.d_row_pairs T c_member_of
  have c_is_board := ca_is_board (P := P) (w := w) (base := base) D.d_is_board T c_ascend c_distinct c_row_pairs c_is_row
  have c_board_of := ca_board_of (P := P) (w := w) (base := base) D.d_board_of T c_row_pairs c_is_board
  have c_height_of := ca_height_of (P := P) (w := w) (base := base) D.d_height_of T c_places_of c_number_of c_is_key
  have c_heights_of := ca_heights_of (P := P) (w := w) (base := base) D.d_heights_of T c_height_of
  have c_longest_behind := ca_longest_behind (P := P) (w := w) (base := base) D.d_longest_behind T 
  have c_lengths_of := ca_lengths_of (P := P) (w := w) (base := base) D.d_lengths_of T c_longest_behind
  have c_kept_rows := ca_kept_rows (P := P) (w := w) (base := base) D.d_kept_rows T c_lengths_of c_heights_of
  have c_rekeyed := ca_rekeyed (P := P) (w := w) (base := base) D.d_rekeyed T c_spread_keys c_kept_rows
  have c_keys_with_one_more := ca_keys_with_one_more (P := P) (w := w) (base := base) D.d_keys_with_one_more T c_shortest_key c_middle_key c_room_between c_rekeyed
  have c_changed_rows := ca_changed_rows (P := P) (w := w) (base := base) D.d_changed_rows T 
  have c_insertion_value := ca_insertion_value (P := P) (w := w) (base := base) D.d_insertion_value T c_record_value c_list_value c_text_value c_integer_value
  have cm_Board := cm_Board (P := P) (w := w) (base := base) (mg := mg) D.m_Board T
  have cm_Game := cm_Game (P := P) (w := w) (base := base) (mg := mg) D.m_Game T
  have cm_Slots := cm_Slots (P := P) (w := w) (base := base) (mg := mg) D.m_Slots T
  have c_row_index := ca_row_index (P := P) (w := w) (base := base) D.d_row_index T c_is_integer
  have c_insert_into := ca_insert_into (P := P) (w := w) (base := base) D.d_insert_into T c_insertion_value c_changed_rows c_keys_with_one_more
  have c_new_board_door := ca_new_board_door (P := P) (w := w) (base := base) D.d_new_board_door T c_limit_of cm_Board
  have c_board_keys_door := ca_board_keys_door (P := P) (w := w) (base := base) D.d_board_keys_door T c_texts_value
  have c_insert_row_door := ca_insert_row_door (P := P) (w := w) (base := base) D.d_insert_row_door T c_insert_into c_keys_in_all c_is_integer
  have c_move_row_door := ca_move_row_door (P := P) (w := w) (base := base) D.d_move_row_door T c_insert_into c_insertion_value c_row_index
  have c_remove_row_door := ca_remove_row_door (P := P) (w := w) (base := base) D.d_remove_row_door T c_row_index
  have c_new_game_door := ca_new_game_door (P := P) (w := w) (base := base) D.d_new_game_door T c_limit_of c_bounds_of cm_Game
  have c_game_state_door := ca_game_state_door (P := P) (w := w) (base := base) D.d_game_state_door T c_record_value c_integer_value c_bound_value c_room_between
  have c_is_answer := ca_is_answer (P := P) (w := w) (base := base) D.d_is_answer T c_is_between c_is_key_value
  have c_answer_key_door := ca_answer_key_door (P := P) (w := w) (base := base) D.d_answer_key_door T c_integer_value c_room_between c_is_answer
  have c_shortest_key_door := ca_shortest_key_door (P := P) (w := w) (base := base) D.d_shortest_key_door T c_text_value c_shortest_key c_bounds_of
  have c_many_keys_door := ca_many_keys_door (P := P) (w := w) (base := base) D.d_many_keys_door T c_texts_value c_spread_keys c_integer_of c_bounds_of
  have c_middle_door := ca_middle_door (P := P) (w := w) (base := base) D.d_middle_door T c_text_value c_middle_key c_room_between c_limit_of c_bounds_of
  have c_room_door := ca_room_door (P := P) (w := w) (base := base) D.d_room_door T c_integer_value c_room_between c_limit_of c_bounds_of
  have c_insertions_door := ca_insertions_door (P := P) (w := w) (base := base) D.d_insertions_door T c_integer_value c_halvings c_room_between c_limit_of c_bounds_of
  have c_some_keys_door := ca_some_keys_door (P := P) (w := w) (base := base) D.d_some_keys_door T c_texts_value c_key_of c_number_behind c_lowest_number c_limit_of c_bounds_of
  have c_is_list_of_texts := ca_is_list_of_texts (P := P) (w := w) (base := base) D.d_is_list_of_texts T 
  have c_rekey_door := ca_rekey_door (P := P) (w := w) (base := base) D.d_rekey_door T c_texts_value c_rekeyed c_keys_in_all c_limit_of c_is_list_of_texts
  have c_bare := ca_bare (P := P) (w := w) (base := base) D.d_bare T 
  have c_row_value := ca_row_value (P := P) (w := w) (base := base) D.d_row_value T c_record_value c_text_value
  have c_merged_key := ca_merged_key (P := P) (w := w) (base := base) D.d_merged_key T 
  have c_merged_rows := ca_merged_rows (P := P) (w := w) (base := base) D.d_merged_rows T c_merged_key
  have c_merge_door := ca_merge_door (P := P) (w := w) (base := base) D.d_merge_door T c_record_value c_texts_value c_list_value c_row_value c_rekeyed c_keys_in_all c_merged_rows c_board_of c_limit_of
  have c_arguments_of := ca_arguments_of (P := P) (w := w) (base := base) D.d_arguments_of T c_read_value
  have ch_lowest_first := cah_lowest_first (P := P) (w := w) (base := base) D.d_lowest_first T 
  have ch_octets_of := cah_octets_of (P := P) (w := w) (base := base) D.d_octets_of T 
  have ch_written_text := cah_written_text (P := P) (w := w) (base := base) D.d_written_text T ch_lowest_first
  have ch_refusal := cah_refusal (P := P) (w := w) (base := base) D.d_refusal T ch_written_text ch_octets_of
  have c_rows_door := ca_rows_door (P := P) (w := w) (base := base) D.d_rows_door T c_list_value c_row_value c_distinct c_ascend c_is_key_value c_bare
  have hD : ∀ f sp, (∃ d : Nat, [a_shortest_key_door, a_many_keys_door, a_middle_door, a_room_door, a_insertions_door, a_some_keys_door, a_rekey_door, a_rows_door, a_merge_door, a_new_board_door, a_board_keys_door, a_insert_row_door, a_move_row_door, a_remove_row_door, a_new_game_door, a_game_state_door, a_answer_key_door][d]? = some f ∧ sp = DoorSp z K d) → HeldM P w K mg base 68 f sp := fun f sp ⟨d, hd, e⟩ => by
    subst e
    match d, hd with
    | 0, hd => exact Option.some.inj hd ▸ Ca.held c_shortest_key_door g_shortest_key_door (by decide)
    | 1, hd => exact Option.some.inj hd ▸ Ca.held c_many_keys_door g_many_keys_door (by decide)
    | 2, hd => exact Option.some.inj hd ▸ Ca.held c_middle_door g_middle_door (by decide)
    | 3, hd => exact Option.some.inj hd ▸ Ca.held c_room_door g_room_door (by decide)
    | 4, hd => exact Option.some.inj hd ▸ Ca.held c_insertions_door g_insertions_door (by decide)
    | 5, hd => exact Option.some.inj hd ▸ Ca.held c_some_keys_door g_some_keys_door (by decide)
    | 6, hd => exact Option.some.inj hd ▸ Ca.held c_rekey_door g_rekey_door (by decide)
    | 7, hd => exact Option.some.inj hd ▸ Ca.held c_rows_door g_rows_door (by decide)
    | 8, hd => exact Option.some.inj hd ▸ Ca.held c_merge_door g_merge_door (by decide)
    | 9, hd => exact Option.some.inj hd ▸ Ca.held c_new_board_door g_new_board_door (by decide)
    | 10, hd => exact Option.some.inj hd ▸ Ca.held c_board_keys_door g_board_keys_door (by decide)
    | 11, hd => exact Option.some.inj hd ▸ Ca.held c_insert_row_door g_insert_row_door (by decide)
    | 12, hd => exact Option.some.inj hd ▸ Ca.held c_move_row_door g_move_row_door (by decide)
    | 13, hd => exact Option.some.inj hd ▸ Ca.held c_remove_row_door g_remove_row_door (by decide)
    | 14, hd => exact Option.some.inj hd ▸ Ca.held c_new_game_door g_new_game_door (by decide)
    | 15, hd => exact Option.some.inj hd ▸ Ca.held c_game_state_door g_game_state_door (by decide)
    | 16, hd => exact Option.some.inj hd ▸ Ca.held c_answer_key_door g_answer_key_door (by decide)
    | n + 17, hd => simp at hd
  have c_answer_to := ca_answer_to (P := P) (w := w) (base := base) D.d_answer_to T U hDOORS tD rfl hD ch_refusal c_written_value c_arguments_of
  exact top_answers FA T c_answer_to cm_Slots
end
theorem pt_top {K : PySem.W.Frag} {mg : Str → Option Value} {fa : Addr} (q : Pt K mg fa) : ∃ fd : FuncData, (∀ (s : Shared) (us : List Value), us.length = (["calls"] : List Str).length → BindsTo s fd ⟨us, []⟩ ((["calls"] : List Str).zip us)) ∧
    ∀ (P : Program) (w' : World) (base : Heap), FnOk P w' K mg base (CXm P w') 70 fa fd ["calls"] (spTop K) := by
  obtain ⟨z, aD, a_shortest_key_door, a_many_keys_door, a_middle_door, a_room_door, a_insertions_door, a_some_keys_door, a_rekey_door, a_rows_door, a_merge_door, a_new_board_door, a_board_keys_door, a_insert_row_door, a_move_row_door, a_remove_row_door, a_new_game_door, a_game_state_door, a_answer_key_door, fd, D, B, ⟨d1, d2⟩, ⟨g_shortest_key_door, g_many_keys_door, g_middle_door, g_room_door, g_insertions_door, g_some_keys_door, g_rekey_door, g_rows_door, g_merge_door, g_new_board_door, g_board_keys_door, g_insert_row_door, g_move_row_door, g_remove_row_door, g_new_game_door, g_game_state_door, g_answer_key_door⟩, FA, b⟩ := q.ex
  exact ⟨fd, b, fun P w' base => all_top D B ⟨B.eWW, B.eOW, B.eOO, B.sWrongKind, B.sOutOfRange⟩ d1 d2 g_shortest_key_door g_many_keys_door g_middle_door g_room_door g_insertions_door g_some_keys_door g_rekey_door g_rows_door g_merge_door g_new_board_door g_board_keys_door g_insert_row_door g_move_row_door g_remove_row_door g_new_game_door g_game_state_door g_answer_key_door FA⟩
end OK
end
section
open PySem PySem.W PyProof.Rows
set_option maxRecDepth 100000 in
set_option maxHeartbeats 0 in
theorem PySem.Challenge.cw_orderkeys_s01_answers_holds : PySem.Challenge.rw_orderkeys_s01_answers.Holds := by
  w_on
  have said := OK.said
  k_headS; (case hw => exact ⟨[.list [.int 0, .int 3, .int 0, .int 0, .int 0]], by decide +kernel, by decide +kernel⟩)
  k_fillS
  refine OK.walk_M (r := PySem.Challenge.rw_orderkeys_s01_answers) (k := 70) (ps := ["calls"]) (sp := OK.spTop) (by decide +kernel) rfl rfl ⟨rfl, by decide, by decide⟩ (fun w h Y => PySem.W.kIn_of Y) ?F ?S
  case F =>
    intro w mg fa h Y KX G hmg
    refine OK.pt_top ?_
    refine' OK.fk_df (x := "digit_of") (st := (OK.top 3)) (ps := ["octet"]) KX G ?qqa ?qql ?qqc ?qqk (fun _ _ _ _ _ _ us hl => match us, hl with | [_], _ => rfl) ?_
    (case qqa => k_is); (case qql => k_is); (case qqc => k_is); (case qqk => k_is)
    intro d_digit_of g_digit_of
    refine' OK.fk_df (x := "octet_of") (st := (OK.top 4)) (ps := ["digit"]) KX G ?qqa ?qql ?qqc ?qqk (fun _ _ _ _ _ _ us hl => match us, hl with | [_], _ => rfl) ?_
    (case qqa => k_is); (case qql => k_is); (case qqc => k_is); (case qqk => k_is)
    intro d_octet_of g_octet_of
    refine' OK.fk_df (x := "is_key") (st := (OK.top 5)) (ps := ["octets", "longest"]) KX G ?qqa ?qql ?qqc ?qqk (fun _ _ _ _ _ _ us hl => match us, hl with | [_, _], _ => rfl) ?_
    (case qqa => k_is); (case qql => k_is); (case qqc => k_is); (case qqk => k_is)
    intro d_is_key g_is_key
    refine' OK.fk_df (x := "places_of") (st := (OK.top 6)) (ps := ["length"]) KX G ?qqa ?qql ?qqc ?qqk (fun _ _ _ _ _ _ us hl => match us, hl with | [_], _ => rfl) ?_
    (case qqa => k_is); (case qql => k_is); (case qqc => k_is); (case qqk => k_is)
    intro d_places_of g_places_of
    refine' OK.fk_df (x := "keys_in_all") (st := (OK.top 7)) (ps := ["limit"]) KX G ?qqa ?qql ?qqc ?qqk (fun _ _ _ _ _ _ us hl => match us, hl with | [_], _ => rfl) ?_
    (case qqa => k_is); (case qql => k_is); (case qqc => k_is); (case qqk => k_is)
    intro d_keys_in_all g_keys_in_all
    refine' OK.fk_df (x := "number_of") (st := (OK.top 8)) (ps := ["key", "length"]) KX G ?qqa ?qql ?qqc ?qqk (fun _ _ _ _ _ _ us hl => match us, hl with | [_, _], _ => rfl) ?_
    (case qqa => k_is); (case qql => k_is); (case qqc => k_is); (case qqk => k_is)
    intro d_number_of g_number_of
    refine' OK.fk_df (x := "key_of") (st := (OK.top 9)) (ps := ["number", "length"]) KX G ?qqa ?qql ?qqc ?qqk (fun _ _ _ _ _ _ us hl => match us, hl with | [_, _], _ => rfl) ?_
    (case qqa => k_is); (case qql => k_is); (case qqc => k_is); (case qqk => k_is)
    intro d_key_of g_key_of
    refine' OK.fk_df (x := "lowest_number") (st := (OK.top 10)) (ps := ["before", "length"]) KX G ?qqa ?qql ?qqc ?qqk (fun _ _ _ _ _ _ us hl => match us, hl with | [_, _], _ => rfl) ?_
    (case qqa => k_is); (case qql => k_is); (case qqc => k_is); (case qqk => k_is)
    intro d_lowest_number g_lowest_number
    refine' OK.fk_df (x := "number_behind") (st := (OK.top 11)) (ps := ["after", "length"]) KX G ?qqa ?qql ?qqc ?qqk (fun _ _ _ _ _ _ us hl => match us, hl with | [_, _], _ => rfl) ?_
    (case qqa => k_is); (case qql => k_is); (case qqc => k_is); (case qqk => k_is)
    intro d_number_behind g_number_behind
    refine' OK.fk_df (x := "room_between") (st := (OK.top 12)) (ps := ["before", "after", "length"]) KX G ?qqa ?qql ?qqc ?qqk (fun _ _ _ _ _ _ us hl => match us, hl with | [_, _, _], _ => rfl) ?_
    (case qqa => k_is); (case qql => k_is); (case qqc => k_is); (case qqk => k_is)
    intro d_room_between g_room_between
    refine' OK.fk_df (x := "is_between") (st := (OK.top 13)) (ps := ["key", "before", "after"]) KX G ?qqa ?qql ?qqc ?qqk (fun _ _ _ _ _ _ us hl => match us, hl with | [_, _, _], _ => rfl) ?_
    (case qqa => k_is); (case qql => k_is); (case qqc => k_is); (case qqk => k_is)
    intro d_is_between g_is_between
    refine' OK.fk_df (x := "middle_key") (st := (OK.top 14)) (ps := ["before", "after", "length"]) KX G ?qqa ?qql ?qqc ?qqk (fun _ _ _ _ _ _ us hl => match us, hl with | [_, _, _], _ => rfl) ?_
    (case qqa => k_is); (case qql => k_is); (case qqc => k_is); (case qqk => k_is)
    intro d_middle_key g_middle_key
    refine' OK.fk_df (x := "least_length") (st := (OK.top 15)) (ps := ["before", "after", "count"]) KX G ?qqa ?qql ?qqc ?qqk (fun _ _ _ _ _ _ us hl => match us, hl with | [_, _, _], _ => rfl) ?_
    (case qqa => k_is); (case qql => k_is); (case qqc => k_is); (case qqk => k_is)
    intro d_least_length g_least_length
    refine' OK.fk_df (x := "shortest_key") (st := (OK.top 16)) (ps := ["before", "after"]) KX G ?qqa ?qql ?qqc ?qqk (fun _ _ _ _ _ _ us hl => match us, hl with | [_, _], _ => rfl) ?_
    (case qqa => k_is); (case qql => k_is); (case qqc => k_is); (case qqk => k_is)
    intro d_shortest_key g_shortest_key
    refine' OK.fk_df (x := "spread_keys") (st := (OK.top 17)) (ps := ["before", "after", "count"]) KX G ?qqa ?qql ?qqc ?qqk (fun _ _ _ _ _ _ us hl => match us, hl with | [_, _, _], _ => rfl) ?_
    (case qqa => k_is); (case qql => k_is); (case qqc => k_is); (case qqk => k_is)
    intro d_spread_keys g_spread_keys
    refine' OK.fk_df (x := "halvings") (st := (OK.top 18)) (ps := ["room"]) KX G ?qqa ?qql ?qqc ?qqk (fun _ _ _ _ _ _ us hl => match us, hl with | [_], _ => rfl) ?_
    (case qqa => k_is); (case qql => k_is); (case qqc => k_is); (case qqk => k_is)
    intro d_halvings g_halvings
    refine' OK.fk_df (x := "read_count") (st := (OK.top 37)) (ps := ["octets", "at"]) KX G ?qqa ?qql ?qqc ?qqk (fun _ _ _ _ _ _ us hl => match us, hl with | [_, _], _ => rfl) ?_
    (case qqa => k_is); (case qql => k_is); (case qqc => k_is); (case qqk => k_is)
    intro d_read_count g_read_count
    refine' OK.fk_df (x := "read_integer") (st := (OK.top 38)) (ps := ["octets", "at"]) KX G ?qqa ?qql ?qqc ?qqk (fun _ _ _ _ _ _ us hl => match us, hl with | [_, _], _ => rfl) ?_
    (case qqa => k_is); (case qql => k_is); (case qqc => k_is); (case qqk => k_is)
    intro d_read_integer g_read_integer
    refine' OK.fk_df (x := "read_text") (st := (OK.top 39)) (ps := ["octets", "at"]) KX G ?qqa ?qql ?qqc ?qqk (fun _ _ _ _ _ _ us hl => match us, hl with | [_, _], _ => rfl) ?_
    (case qqa => k_is); (case qql => k_is); (case qqc => k_is); (case qqk => k_is)
    intro d_read_text g_read_text
    refine' OK.fk_df (x := "read_list") (st := (OK.top 40)) (ps := ["octets", "at"]) KX G ?qqa ?qql ?qqc ?qqk (fun _ _ _ _ _ _ us hl => match us, hl with | [_, _], _ => rfl) ?_
    (case qqa => k_is); (case qql => k_is); (case qqc => k_is); (case qqk => k_is)
    intro d_read_list g_read_list
    refine' OK.fk_df (x := "read_record") (st := (OK.top 41)) (ps := ["octets", "at"]) KX G ?qqa ?qql ?qqc ?qqk (fun _ _ _ _ _ _ us hl => match us, hl with | [_, _], _ => rfl) ?_
    (case qqa => k_is); (case qql => k_is); (case qqc => k_is); (case qqk => k_is)
    intro d_read_record g_read_record
    refine' OK.fk_df (x := "read_value") (st := (OK.top 42)) (ps := ["octets", "at"]) KX G ?qqa ?qql ?qqc ?qqk (fun _ _ _ _ _ _ us hl => match us, hl with | [_, _], _ => rfl) ?_
    (case qqa => k_is); (case qql => k_is); (case qqc => k_is); (case qqk => k_is)
    intro d_read_value g_read_value
    refine' OK.fk_df (x := "octets_of") (st := (OK.top 29)) (ps := ["word"]) KX G ?qqa ?qql ?qqc ?qqk (fun _ _ _ _ _ _ us hl => match us, hl with | [_], _ => rfl) ?_
    (case qqa => k_is); (case qql => k_is); (case qqc => k_is); (case qqk => k_is)
    intro d_octets_of g_octets_of
    refine' OK.fk_df (x := "integer_value") (st := (OK.top 30)) (ps := ["number"]) KX G ?qqa ?qql ?qqc ?qqk (fun _ _ _ _ _ _ us hl => match us, hl with | [_], _ => rfl) ?_
    (case qqa => k_is); (case qql => k_is); (case qqc => k_is); (case qqk => k_is)
    intro d_integer_value g_integer_value
    refine' OK.fk_df (x := "text_value") (st := (OK.top 31)) (ps := ["octets"]) KX G ?qqa ?qql ?qqc ?qqk (fun _ _ _ _ _ _ us hl => match us, hl with | [_], _ => rfl) ?_
    (case qqa => k_is); (case qql => k_is); (case qqc => k_is); (case qqk => k_is)
    intro d_text_value g_text_value
    refine' OK.fk_df (x := "list_value") (st := (OK.top 32)) (ps := ["values"]) KX G ?qqa ?qql ?qqc ?qqk (fun _ _ _ _ _ _ us hl => match us, hl with | [_], _ => rfl) ?_
    (case qqa => k_is); (case qql => k_is); (case qqc => k_is); (case qqk => k_is)
    intro d_list_value g_list_value
    refine' OK.fk_df (x := "texts_value") (st := (OK.top 33)) (ps := ["texts"]) KX G ?qqa ?qql ?qqc ?qqk (fun _ _ _ _ _ _ us hl => match us, hl with | [_], _ => rfl) ?_
    (case qqa => k_is); (case qql => k_is); (case qqc => k_is); (case qqk => k_is)
    intro d_texts_value g_texts_value
    refine' OK.fk_df (x := "bound_value") (st := (OK.top 34)) (ps := ["bound"]) KX G ?qqa ?qql ?qqc ?qqk (fun _ _ _ _ _ _ us hl => match us, hl with | [_], _ => rfl) ?_
    (case qqa => k_is); (case qql => k_is); (case qqc => k_is); (case qqk => k_is)
    intro d_bound_value g_bound_value
    refine' OK.fk_df (x := "record_value") (st := (OK.top 35)) (ps := ["members"]) KX G ?qqa ?qql ?qqc ?qqk (fun _ _ _ _ _ _ us hl => match us, hl with | [_], _ => rfl) ?_
    (case qqa => k_is); (case qql => k_is); (case qqc => k_is); (case qqk => k_is)
    intro d_record_value g_record_value
    refine' OK.fk_df (x := "member_of") (st := (OK.top 36)) (ps := ["record", "word"]) KX G ?qqa ?qql ?qqc ?qqk (fun _ _ _ _ _ _ us hl => match us, hl with | [_, _], _ => rfl) ?_
    (case qqa => k_is); (case qql => k_is); (case qqc => k_is); (case qqk => k_is)
    intro d_member_of g_member_of
    refine' OK.fk_df (x := "lowest_first") (st := (OK.top 43)) (ps := ["number", "many"]) KX G ?qqa ?qql ?qqc ?qqk (fun _ _ _ _ _ _ us hl => match us, hl with | [_, _], _ => rfl) ?_
    (case qqa => k_is); (case qql => k_is); (case qqc => k_is); (case qqk => k_is)
    intro d_lowest_first g_lowest_first
    refine' OK.fk_df (x := "written_text") (st := (OK.top 44)) (ps := ["octets"]) KX G ?qqa ?qql ?qqc ?qqk (fun _ _ _ _ _ _ us hl => match us, hl with | [_], _ => rfl) ?_
    (case qqa => k_is); (case qql => k_is); (case qqc => k_is); (case qqk => k_is)
    intro d_written_text g_written_text
    refine' OK.fk_df (x := "written_integer") (st := (OK.top 45)) (ps := ["number"]) KX G ?qqa ?qql ?qqc ?qqk (fun _ _ _ _ _ _ us hl => match us, hl with | [_], _ => rfl) ?_
    (case qqa => k_is); (case qql => k_is); (case qqc => k_is); (case qqk => k_is)
    intro d_written_integer g_written_integer
    refine' OK.fk_df (x := "written_list") (st := (OK.top 46)) (ps := ["values"]) KX G ?qqa ?qql ?qqc ?qqk (fun _ _ _ _ _ _ us hl => match us, hl with | [_], _ => rfl) ?_
    (case qqa => k_is); (case qql => k_is); (case qqc => k_is); (case qqk => k_is)
    intro d_written_list g_written_list
    refine' OK.fk_df (x := "written_record") (st := (OK.top 47)) (ps := ["members"]) KX G ?qqa ?qql ?qqc ?qqk (fun _ _ _ _ _ _ us hl => match us, hl with | [_], _ => rfl) ?_
    (case qqa => k_is); (case qql => k_is); (case qqc => k_is); (case qqk => k_is)
    intro d_written_record g_written_record
    refine' OK.fk_df (x := "written_value") (st := (OK.top 48)) (ps := ["value"]) KX G ?qqa ?qql ?qqc ?qqk (fun _ _ _ _ _ _ us hl => match us, hl with | [_], _ => rfl) ?_
    (case qqa => k_is); (case qql => k_is); (case qqc => k_is); (case qqk => k_is)
    intro d_written_value g_written_value
    refine' OK.fk_df (x := "is_integer") (st := (OK.top 52)) (ps := ["value", "low", "high"]) KX G ?qqa ?qql ?qqc ?qqk (fun _ _ _ _ _ _ us hl => match us, hl with | [_, _, _], _ => rfl) ?_
    (case qqa => k_is); (case qql => k_is); (case qqc => k_is); (case qqk => k_is)
    intro d_is_integer g_is_integer
    refine' OK.fk_df (x := "is_key_value") (st := (OK.top 53)) (ps := ["value", "longest"]) KX G ?qqa ?qql ?qqc ?qqk (fun _ _ _ _ _ _ us hl => match us, hl with | [_, _], _ => rfl) ?_
    (case qqa => k_is); (case qql => k_is); (case qqc => k_is); (case qqk => k_is)
    intro d_is_key_value g_is_key_value
    refine' OK.fk_df (x := "integer_of") (st := (OK.top 54)) (ps := ["value", "word", "low", "high"]) KX G ?qqa ?qql ?qqc ?qqk (fun _ _ _ _ _ _ us hl => match us, hl with | [_, _, _, _], _ => rfl) ?_
    (case qqa => k_is); (case qql => k_is); (case qqc => k_is); (case qqk => k_is)
    intro d_integer_of g_integer_of
    refine' OK.fk_df (x := "limit_of") (st := (OK.top 55)) (ps := ["value"]) KX G ?qqa ?qql ?qqc ?qqk (fun _ _ _ _ _ _ us hl => match us, hl with | [_], _ => rfl) ?_
    (case qqa => k_is); (case qql => k_is); (case qqc => k_is); (case qqk => k_is)
    intro d_limit_of g_limit_of
    refine' OK.fk_df (x := "bound_of") (st := (OK.top 56)) (ps := ["value", "word"]) KX G ?qqa ?qql ?qqc ?qqk (fun _ _ _ _ _ _ us hl => match us, hl with | [_, _], _ => rfl) ?_
    (case qqa => k_is); (case qql => k_is); (case qqc => k_is); (case qqk => k_is)
    intro d_bound_of g_bound_of
    refine' OK.fk_df (x := "bounds_of") (st := (OK.top 57)) (ps := ["first", "second"]) KX G ?qqa ?qql ?qqc ?qqk (fun _ _ _ _ _ _ us hl => match us, hl with | [_, _], _ => rfl) ?_
    (case qqa => k_is); (case qql => k_is); (case qqc => k_is); (case qqk => k_is)
    intro d_bounds_of g_bounds_of
    refine' OK.fk_df (x := "ascend") (st := (OK.top 58)) (ps := ["keys"]) KX G ?qqa ?qql ?qqc ?qqk (fun _ _ _ _ _ _ us hl => match us, hl with | [_], _ => rfl) ?_
    (case qqa => k_is); (case qql => k_is); (case qqc => k_is); (case qqk => k_is)
    intro d_ascend g_ascend
    refine' OK.fk_df (x := "distinct") (st := (OK.top 59)) (ps := ["names"]) KX G ?qqa ?qql ?qqc ?qqk (fun _ _ _ _ _ _ us hl => match us, hl with | [_], _ => rfl) ?_
    (case qqa => k_is); (case qql => k_is); (case qqc => k_is); (case qqk => k_is)
    intro d_distinct g_distinct
    refine' OK.fk_df (x := "is_row") (st := (OK.top 60)) (ps := ["value", "limit"]) KX G ?qqa ?qql ?qqc ?qqk (fun _ _ _ _ _ _ us hl => match us, hl with | [_, _], _ => rfl) ?_
    (case qqa => k_is); (case qql => k_is); (case qqc => k_is); (case qqk => k_is)
    intro d_is_row g_is_row
    refine' OK.fk_df (x := "row_pairs") (st := (OK.top 61)) (ps := ["value"]) KX G ?qqa ?qql ?qqc ?qqk (fun _ _ _ _ _ _ us hl => match us, hl with | [_], _ => rfl) ?_
    (case qqa => k_is); (case qql => k_is); (case qqc => k_is); (case qqk => k_is)
    intro d_row_pairs g_row_pairs
    refine' OK.fk_df (x := "is_board") (st := (OK.top 62)) (ps := ["value", "limit"]) KX G ?qqa ?qql ?qqc ?qqk (fun _ _ _ _ _ _ us hl => match us, hl with | [_, _], _ => rfl) ?_
    (case qqa => k_is); (case qql => k_is); (case qqc => k_is); (case qqk => k_is)
    intro d_is_board g_is_board
    refine' OK.fk_df (x := "board_of") (st := (OK.top 63)) (ps := ["value", "word", "limit"]) KX G ?qqa ?qql ?qqc ?qqk (fun _ _ _ _ _ _ us hl => match us, hl with | [_, _, _], _ => rfl) ?_
    (case qqa => k_is); (case qql => k_is); (case qqc => k_is); (case qqk => k_is)
    intro d_board_of g_board_of
    refine' OK.fk_df (x := "height_of") (st := (OK.top 65)) (ps := ["text", "at", "rows", "limit"]) KX G ?qqa ?qql ?qqc ?qqk (fun _ _ _ _ _ _ us hl => match us, hl with | [_, _, _, _], _ => rfl) ?_
    (case qqa => k_is); (case qql => k_is); (case qqc => k_is); (case qqk => k_is)
    intro d_height_of g_height_of
    refine' OK.fk_df (x := "heights_of") (st := (OK.top 66)) (ps := ["texts", "limit"]) KX G ?qqa ?qql ?qqc ?qqk (fun _ _ _ _ _ _ us hl => match us, hl with | [_, _], _ => rfl) ?_
    (case qqa => k_is); (case qql => k_is); (case qqc => k_is); (case qqk => k_is)
    intro d_heights_of g_heights_of
    refine' OK.fk_df (x := "longest_behind") (st := (OK.top 67)) (ps := ["heights", "lengths", "at"]) KX G ?qqa ?qql ?qqc ?qqk (fun _ _ _ _ _ _ us hl => match us, hl with | [_, _, _], _ => rfl) ?_
    (case qqa => k_is); (case qql => k_is); (case qqc => k_is); (case qqk => k_is)
    intro d_longest_behind g_longest_behind
    refine' OK.fk_df (x := "lengths_of") (st := (OK.top 68)) (ps := ["heights"]) KX G ?qqa ?qql ?qqc ?qqk (fun _ _ _ _ _ _ us hl => match us, hl with | [_], _ => rfl) ?_
    (case qqa => k_is); (case qql => k_is); (case qqc => k_is); (case qqk => k_is)
    intro d_lengths_of g_lengths_of
    refine' OK.fk_df (x := "kept_rows") (st := (OK.top 69)) (ps := ["texts", "limit"]) KX G ?qqa ?qql ?qqc ?qqk (fun _ _ _ _ _ _ us hl => match us, hl with | [_, _], _ => rfl) ?_
    (case qqa => k_is); (case qql => k_is); (case qqc => k_is); (case qqk => k_is)
    intro d_kept_rows g_kept_rows
    refine' OK.fk_df (x := "rekeyed") (st := (OK.top 70)) (ps := ["texts", "limit"]) KX G ?qqa ?qql ?qqc ?qqk (fun _ _ _ _ _ _ us hl => match us, hl with | [_, _], _ => rfl) ?_
    (case qqa => k_is); (case qql => k_is); (case qqc => k_is); (case qqk => k_is)
    intro d_rekeyed g_rekeyed
    refine' OK.fk_df (x := "keys_with_one_more") (st := (OK.top 75)) (ps := ["keys", "place", "limit", "middle"]) KX G ?qqa ?qql ?qqc ?qqk (fun _ _ _ _ _ _ us hl => match us, hl with | [_, _, _, _], _ => rfl) ?_
    (case qqa => k_is); (case qql => k_is); (case qqc => k_is); (case qqk => k_is)
    intro d_keys_with_one_more g_keys_with_one_more
    refine' OK.fk_df (x := "changed_rows") (st := (OK.top 76)) (ps := ["old", "new", "place"]) KX G ?qqa ?qql ?qqc ?qqk (fun _ _ _ _ _ _ us hl => match us, hl with | [_, _, _], _ => rfl) ?_
    (case qqa => k_is); (case qql => k_is); (case qqc => k_is); (case qqk => k_is)
    intro d_changed_rows g_changed_rows
    refine' OK.fk_df (x := "insertion_value") (st := (OK.top 77)) (ps := ["key", "changed"]) KX G ?qqa ?qql ?qqc ?qqk (fun _ _ _ _ _ _ us hl => match us, hl with | [_, _], _ => rfl) ?_
    (case qqa => k_is); (case qql => k_is); (case qqc => k_is); (case qqk => k_is)
    intro d_insertion_value g_insertion_value
    refine' OK.fk_df (x := "row_index") (st := (OK.top 80)) (ps := ["board", "value", "words"]) KX G ?qqa ?qql ?qqc ?qqk (fun _ _ _ _ _ _ us hl => match us, hl with | [_, _, _], _ => rfl) ?_
    (case qqa => k_is); (case qql => k_is); (case qqc => k_is); (case qqk => k_is)
    intro d_row_index g_row_index
    refine' OK.fk_df (x := "insert_into") (st := (OK.top 78)) (ps := ["board", "keys", "place"]) KX G ?qqa ?qql ?qqc ?qqk (fun _ _ _ _ _ _ us hl => match us, hl with | [_, _, _], _ => rfl) ?_
    (case qqa => k_is); (case qql => k_is); (case qqc => k_is); (case qqk => k_is)
    intro d_insert_into g_insert_into
    refine' OK.fk_df (x := "new_board_door") (st := (OK.top 73)) (ps := ["slots", "given"]) KX G ?qqa ?qql ?qqc ?qqk (fun _ _ _ _ _ _ us hl => match us, hl with | [_, _], _ => rfl) ?_
    (case qqa => k_is); (case qql => k_is); (case qqc => k_is); (case qqk => k_is)
    intro d_new_board_door g_new_board_door
    refine' OK.fk_df (x := "board_keys_door") (st := (OK.top 74)) (ps := ["slots", "given"]) KX G ?qqa ?qql ?qqc ?qqk (fun _ _ _ _ _ _ us hl => match us, hl with | [_, _], _ => rfl) ?_
    (case qqa => k_is); (case qql => k_is); (case qqc => k_is); (case qqk => k_is)
    intro d_board_keys_door g_board_keys_door
    refine' OK.fk_df (x := "insert_row_door") (st := (OK.top 79)) (ps := ["slots", "given"]) KX G ?qqa ?qql ?qqc ?qqk (fun _ _ _ _ _ _ us hl => match us, hl with | [_, _], _ => rfl) ?_
    (case qqa => k_is); (case qql => k_is); (case qqc => k_is); (case qqk => k_is)
    intro d_insert_row_door g_insert_row_door
    refine' OK.fk_df (x := "move_row_door") (st := (OK.top 81)) (ps := ["slots", "given"]) KX G ?qqa ?qql ?qqc ?qqk (fun _ _ _ _ _ _ us hl => match us, hl with | [_, _], _ => rfl) ?_
    (case qqa => k_is); (case qql => k_is); (case qqc => k_is); (case qqk => k_is)
    intro d_move_row_door g_move_row_door
    refine' OK.fk_df (x := "remove_row_door") (st := (OK.top 82)) (ps := ["slots", "given"]) KX G ?qqa ?qql ?qqc ?qqk (fun _ _ _ _ _ _ us hl => match us, hl with | [_, _], _ => rfl) ?_
    (case qqa => k_is); (case qql => k_is); (case qqc => k_is); (case qqk => k_is)
    intro d_remove_row_door g_remove_row_door
    refine' OK.fk_df (x := "new_game_door") (st := (OK.top 85)) (ps := ["slots", "given"]) KX G ?qqa ?qql ?qqc ?qqk (fun _ _ _ _ _ _ us hl => match us, hl with | [_, _], _ => rfl) ?_
    (case qqa => k_is); (case qql => k_is); (case qqc => k_is); (case qqk => k_is)
    intro d_new_game_door g_new_game_door
    refine' OK.fk_df (x := "game_state_door") (st := (OK.top 86)) (ps := ["slots", "given"]) KX G ?qqa ?qql ?qqc ?qqk (fun _ _ _ _ _ _ us hl => match us, hl with | [_, _], _ => rfl) ?_
    (case qqa => k_is); (case qql => k_is); (case qqc => k_is); (case qqk => k_is)
    intro d_game_state_door g_game_state_door
    refine' OK.fk_df (x := "is_answer") (st := (OK.top 87)) (ps := ["game", "value"]) KX G ?qqa ?qql ?qqc ?qqk (fun _ _ _ _ _ _ us hl => match us, hl with | [_, _], _ => rfl) ?_
    (case qqa => k_is); (case qql => k_is); (case qqc => k_is); (case qqk => k_is)
    intro d_is_answer g_is_answer
    refine' OK.fk_df (x := "answer_key_door") (st := (OK.top 88)) (ps := ["slots", "given"]) KX G ?qqa ?qql ?qqc ?qqk (fun _ _ _ _ _ _ us hl => match us, hl with | [_, _], _ => rfl) ?_
    (case qqa => k_is); (case qql => k_is); (case qqc => k_is); (case qqk => k_is)
    intro d_answer_key_door g_answer_key_door
    refine' OK.fk_df (x := "shortest_key_door") (st := (OK.top 93)) (ps := ["slots", "given"]) KX G ?qqa ?qql ?qqc ?qqk (fun _ _ _ _ _ _ us hl => match us, hl with | [_, _], _ => rfl) ?_
    (case qqa => k_is); (case qql => k_is); (case qqc => k_is); (case qqk => k_is)
    intro d_shortest_key_door g_shortest_key_door
    refine' OK.fk_df (x := "many_keys_door") (st := (OK.top 94)) (ps := ["slots", "given"]) KX G ?qqa ?qql ?qqc ?qqk (fun _ _ _ _ _ _ us hl => match us, hl with | [_, _], _ => rfl) ?_
    (case qqa => k_is); (case qql => k_is); (case qqc => k_is); (case qqk => k_is)
    intro d_many_keys_door g_many_keys_door
    refine' OK.fk_df (x := "middle_door") (st := (OK.top 95)) (ps := ["slots", "given"]) KX G ?qqa ?qql ?qqc ?qqk (fun _ _ _ _ _ _ us hl => match us, hl with | [_, _], _ => rfl) ?_
    (case qqa => k_is); (case qql => k_is); (case qqc => k_is); (case qqk => k_is)
    intro d_middle_door g_middle_door
    refine' OK.fk_df (x := "room_door") (st := (OK.top 96)) (ps := ["slots", "given"]) KX G ?qqa ?qql ?qqc ?qqk (fun _ _ _ _ _ _ us hl => match us, hl with | [_, _], _ => rfl) ?_
    (case qqa => k_is); (case qql => k_is); (case qqc => k_is); (case qqk => k_is)
    intro d_room_door g_room_door
    refine' OK.fk_df (x := "insertions_door") (st := (OK.top 97)) (ps := ["slots", "given"]) KX G ?qqa ?qql ?qqc ?qqk (fun _ _ _ _ _ _ us hl => match us, hl with | [_, _], _ => rfl) ?_
    (case qqa => k_is); (case qql => k_is); (case qqc => k_is); (case qqk => k_is)
    intro d_insertions_door g_insertions_door
    refine' OK.fk_df (x := "some_keys_door") (st := (OK.top 98)) (ps := ["slots", "given"]) KX G ?qqa ?qql ?qqc ?qqk (fun _ _ _ _ _ _ us hl => match us, hl with | [_, _], _ => rfl) ?_
    (case qqa => k_is); (case qql => k_is); (case qqc => k_is); (case qqk => k_is)
    intro d_some_keys_door g_some_keys_door
    refine' OK.fk_df (x := "is_list_of_texts") (st := (OK.top 99)) (ps := ["value"]) KX G ?qqa ?qql ?qqc ?qqk (fun _ _ _ _ _ _ us hl => match us, hl with | [_], _ => rfl) ?_
    (case qqa => k_is); (case qql => k_is); (case qqc => k_is); (case qqk => k_is)
    intro d_is_list_of_texts g_is_list_of_texts
    refine' OK.fk_df (x := "rekey_door") (st := (OK.top 100)) (ps := ["slots", "given"]) KX G ?qqa ?qql ?qqc ?qqk (fun _ _ _ _ _ _ us hl => match us, hl with | [_, _], _ => rfl) ?_
    (case qqa => k_is); (case qql => k_is); (case qqc => k_is); (case qqk => k_is)
    intro d_rekey_door g_rekey_door
    refine' OK.fk_df (x := "bare") (st := (OK.top 101)) (ps := ["text"]) KX G ?qqa ?qql ?qqc ?qqk (fun _ _ _ _ _ _ us hl => match us, hl with | [_], _ => rfl) ?_
    (case qqa => k_is); (case qql => k_is); (case qqc => k_is); (case qqk => k_is)
    intro d_bare g_bare
    refine' OK.fk_df (x := "row_value") (st := (OK.top 102)) (ps := ["name", "key"]) KX G ?qqa ?qql ?qqc ?qqk (fun _ _ _ _ _ _ us hl => match us, hl with | [_, _], _ => rfl) ?_
    (case qqa => k_is); (case qql => k_is); (case qqc => k_is); (case qqk => k_is)
    intro d_row_value g_row_value
    refine' OK.fk_df (x := "merged_key") (st := (OK.top 90)) (ps := ["base", "one", "other"]) KX G ?qqa ?qql ?qqc ?qqk (fun _ _ _ _ _ _ us hl => match us, hl with | [_, _, _], _ => rfl) ?_
    (case qqa => k_is); (case qql => k_is); (case qqc => k_is); (case qqk => k_is)
    intro d_merged_key g_merged_key
    refine' OK.fk_df (x := "merged_rows") (st := (OK.top 91)) (ps := ["base", "one", "other"]) KX G ?qqa ?qql ?qqc ?qqk (fun _ _ _ _ _ _ us hl => match us, hl with | [_, _, _], _ => rfl) ?_
    (case qqa => k_is); (case qql => k_is); (case qqc => k_is); (case qqk => k_is)
    intro d_merged_rows g_merged_rows
    refine' OK.fk_df (x := "merge_door") (st := (OK.top 104)) (ps := ["slots", "given"]) KX G ?qqa ?qql ?qqc ?qqk (fun _ _ _ _ _ _ us hl => match us, hl with | [_, _], _ => rfl) ?_
    (case qqa => k_is); (case qql => k_is); (case qqc => k_is); (case qqk => k_is)
    intro d_merge_door g_merge_door
    refine' OK.fk_df (x := "arguments_of") (st := (OK.top 109)) (ps := ["request"]) KX G ?qqa ?qql ?qqc ?qqk (fun _ _ _ _ _ _ us hl => match us, hl with | [_], _ => rfl) ?_
    (case qqa => k_is); (case qql => k_is); (case qqc => k_is); (case qqk => k_is)
    intro d_arguments_of g_arguments_of
    refine' OK.fk_df (x := "refusal") (st := (OK.top 110)) (ps := ["sort", "words"]) KX G ?qqa ?qql ?qqc ?qqk (fun _ _ _ _ _ _ us hl => match us, hl with | [_, _], _ => rfl) ?_
    (case qqa => k_is); (case qql => k_is); (case qqc => k_is); (case qqk => k_is)
    intro d_refusal g_refusal
    refine' OK.fk_df (x := "rows_door") (st := (OK.top 103)) (ps := ["slots", "given"]) KX G ?qqa ?qql ?qqc ?qqk (fun _ _ _ _ _ _ us hl => match us, hl with | [_, _], _ => rfl) ?_
    (case qqa => k_is); (case qql => k_is); (case qqc => k_is); (case qqk => k_is)
    intro d_rows_door g_rows_door
    refine' OK.fk_df (x := "answer_to") (st := (OK.top 111)) (ps := ["slots", "request"]) KX G ?qqa ?qql ?qqc ?qqk (fun _ _ _ _ _ _ us hl => match us, hl with | [_, _], _ => rfl) ?_
    (case qqa => k_is); (case qql => k_is); (case qqc => k_is); (case qqk => k_is)
    intro d_answer_to g_answer_to
    refine' OK.fk_cls (y := "Board") KX G ?qqe ?qqpg ?qqhd ?qqpo ?qqsa ?_
    (case qqe => k_is); (case qqpg => k_is); (case qqhd => k_is); (case qqpo => k_is); (case qqsa => k_is)
    intro g_Board cl_Board
    refine' OK.fk_dm (y := "Board") (x := "Board.__init__") (st := (L2.inClass (OK.top 72) 0)) (ps := ["self", "limit", "middle"]) KX ?qqe ?qqi ?qql ?qqc ?qqk ?qqm ?qqn ?qqp (fun _ _ _ _ _ _ us hl => match us, hl with | [_, _, _], _ => rfl) ?_
    (case qqe => k_is); (case qqi => k_is); (case qql => k_is); (case qqc => k_is); (case qqk => k_is); (case qqm => k_is); (case qqn => k_is); (case qqp => k_is)
    intro m_Board
    refine' OK.fk_cls (y := "Game") KX G ?qqe ?qqpg ?qqhd ?qqpo ?qqsa ?_
    (case qqe => k_is); (case qqpg => k_is); (case qqhd => k_is); (case qqpo => k_is); (case qqsa => k_is)
    intro g_Game cl_Game
    refine' OK.fk_dm (y := "Game") (x := "Game.__init__") (st := (L2.inClass (OK.top 84) 0)) (ps := ["self", "before", "after", "limit"]) KX ?qqe ?qqi ?qql ?qqc ?qqk ?qqm ?qqn ?qqp (fun _ _ _ _ _ _ us hl => match us, hl with | [_, _, _, _], _ => rfl) ?_
    (case qqe => k_is); (case qqi => k_is); (case qql => k_is); (case qqc => k_is); (case qqk => k_is); (case qqm => k_is); (case qqn => k_is); (case qqp => k_is)
    intro m_Game
    refine' OK.fk_cls (y := "Slots") KX G ?qqe ?qqpg ?qqhd ?qqpo ?qqsa ?_
    (case qqe => k_is); (case qqpg => k_is); (case qqhd => k_is); (case qqpo => k_is); (case qqsa => k_is)
    intro g_Slots cl_Slots
    refine' OK.fk_dm (y := "Slots") (x := "Slots.__init__") (st := (L2.inClass (OK.top 108) 0)) (ps := ["self"]) KX ?qqe ?qqi ?qql ?qqc ?qqk ?qqm ?qqn ?qqp (fun _ _ _ _ _ _ us hl => match us, hl with | [_], _ => rfl) ?_
    (case qqe => k_is); (case qqi => k_is); (case qql => k_is); (case qqc => k_is); (case qqk => k_is); (case qqm => k_is); (case qqn => k_is); (case qqp => k_is)
    intro m_Slots
    refine' OK.fk_exc (y := "WrongKind") KX G ?qqe ?qqx ?qqk ?qqb ?qqt ?qqs ?qqi ?qqo ?_
    (case qqe => k_is); (case qqx => k_exc); (case qqk => k_is); (case qqb => k_is); (case qqt => k_is); (case qqs => k_is); (case qqi => k_is); (case qqo => first | k_is | rfl)
    intro g_WrongKind x_WrongKind
    refine' OK.fk_exc (y := "OutOfRange") KX G ?qqe ?qqx ?qqk ?qqb ?qqt ?qqs ?qqi ?qqo ?_
    (case qqe => k_is); (case qqx => k_exc); (case qqk => k_is); (case qqb => k_is); (case qqt => k_is); (case qqs => k_is); (case qqi => k_is); (case qqo => first | k_is | rfl)
    intro g_OutOfRange x_OutOfRange
    refine' OK.fk_int (x := "LONGEST_BOUND") (i := 20) KX G ?qqa ?_
    (case qqa => k_is)
    intro i_LONGEST_BOUND
    refine' OK.fk_int (x := "LONGEST_SPREAD") (i := 22) KX G ?qqa ?_
    (case qqa => k_is)
    intro i_LONGEST_SPREAD
    refine' OK.fk_int (x := "NULL_KIND") (i := 1) KX G ?qqa ?_
    (case qqa => k_is)
    intro i_NULL_KIND
    refine' OK.fk_int (x := "FALSE_KIND") (i := 2) KX G ?qqa ?_
    (case qqa => k_is)
    intro i_FALSE_KIND
    refine' OK.fk_int (x := "TRUE_KIND") (i := 3) KX G ?qqa ?_
    (case qqa => k_is)
    intro i_TRUE_KIND
    refine' OK.fk_int (x := "INTEGER") (i := 4) KX G ?qqa ?_
    (case qqa => k_is)
    intro i_INTEGER
    refine' OK.fk_int (x := "TEXT") (i := 6) KX G ?qqa ?_
    (case qqa => k_is)
    intro i_TEXT
    refine' OK.fk_int (x := "LIST") (i := 7) KX G ?qqa ?_
    (case qqa => k_is)
    intro i_LIST
    refine' OK.fk_int (x := "RECORD") (i := 8) KX G ?qqa ?_
    (case qqa => k_is)
    intro i_RECORD
    refine' OK.fk_int (x := "MOST_ARGUMENTS") (i := 5) KX G ?qqa ?_
    (case qqa => k_is)
    intro i_MOST_ARGUMENTS
    refine' OK.fk_bt (x := "len") KX G ?qqa ?_
    (case qqa => k_is)
    intro b_len
    refine' OK.fk_bt (x := "range") KX G ?qqa ?_
    (case qqa => k_is)
    intro b_range
    refine' OK.fk_bt (x := "tuple") KX G ?qqa ?_
    (case qqa => k_is)
    intro b_tuple
    refine' OK.fk_bt (x := "list") KX G ?qqa ?_
    (case qqa => k_is)
    intro b_list
    refine' OK.fk_bt (x := "ord") KX G ?qqa ?_
    (case qqa => k_is)
    intro b_ord
    refine' OK.fk_bt (x := "str") KX G ?qqa ?_
    (case qqa => k_is)
    intro b_str
    refine' OK.fk_bt (x := "enumerate") KX G ?qqa ?_
    (case qqa => k_is)
    intro b_enumerate
    refine' OK.fk_bt (x := "min") KX G ?qqa ?_
    (case qqa => k_is)
    intro b_min
    refine' OK.fk_bt (x := "max") KX G ?qqa ?_
    (case qqa => k_is)
    intro b_max
    refine' OK.fk_bt (x := "all") KX G ?qqa ?_
    (case qqa => k_is)
    intro b_all
    refine' OK.fk_bt (x := "set") KX G ?qqa ?_
    (case qqa => k_is)
    intro b_set
    refine' OK.fk_bt (x := "dict") KX G ?qqa ?_
    (case qqa => k_is)
    intro b_dict
    refine' OK.fk_bt (x := "sorted") KX G ?qqa ?_
    (case qqa => k_is)
    intro b_sorted
    refine' OK.fk_tup (x := "NOTHING") (i := 0) (j := 0) KX G ?qqa ?qql ?_
    (case qqa => k_is); (case qql => k_is)
    intro i_NOTHING t_NOTHING
    refine' OK.fk_tup (x := "NULL") (i := 1) (j := 0) KX G ?qqa ?qql ?_
    (case qqa => k_is); (case qql => k_is)
    intro i_NULL t_NULL
    refine' OK.fk_no (y := "Board") "limit" KX ?qqe ?qqa ?_
    (case qqe => k_is); (case qqa => k_is)
    intro n_Board_limit
    refine' OK.fk_no (y := "Board") "middle" KX ?qqe ?qqa ?_
    (case qqe => k_is); (case qqa => k_is)
    intro n_Board_middle
    refine' OK.fk_no (y := "Board") "row_keys" KX ?qqe ?qqa ?_
    (case qqe => k_is); (case qqa => k_is)
    intro n_Board_row_keys
    refine' OK.fk_no (y := "Game") "before" KX ?qqe ?qqa ?_
    (case qqe => k_is); (case qqa => k_is)
    intro n_Game_before
    refine' OK.fk_no (y := "Game") "after" KX ?qqe ?qqa ?_
    (case qqe => k_is); (case qqa => k_is)
    intro n_Game_after
    refine' OK.fk_no (y := "Game") "limit" KX ?qqe ?qqa ?_
    (case qqe => k_is); (case qqa => k_is)
    intro n_Game_limit
    refine' OK.fk_no (y := "Game") "answered" KX ?qqe ?qqa ?_
    (case qqe => k_is); (case qqa => k_is)
    intro n_Game_answered
    refine' OK.fk_no (y := "Slots") "boards" KX ?qqe ?qqa ?_
    (case qqe => k_is); (case qqa => k_is)
    intro n_Slots_boards
    refine' OK.fk_no (y := "Slots") "games" KX ?qqe ?qqa ?_
    (case qqe => k_is); (case qqa => k_is)
    intro n_Slots_games
    refine' OK.fk_sub (y1 := "OutOfRange") (y2 := "WrongKind") KX ?qqe1 ?qqe2 ?qqs ?_
    (case qqe1 => k_is); (case qqe2 => k_is); (case qqs => k_is)
    intro s_OW
    have gb := OK.gb_of b_len b_range b_tuple b_list b_ord b_str b_enumerate b_min b_max b_all b_set b_dict b_sorted i_LONGEST_BOUND i_LONGEST_SPREAD i_NULL_KIND i_FALSE_KIND i_TRUE_KIND i_INTEGER i_TEXT i_LIST i_RECORD i_MOST_ARGUMENTS i_NOTHING t_NOTHING i_NULL t_NULL g_Board g_Game g_Slots g_WrongKind g_OutOfRange x_WrongKind x_OutOfRange s_OW cl_Board cl_Game cl_Slots n_Board_limit n_Board_middle n_Board_row_keys n_Game_before n_Game_after n_Game_limit n_Game_answered n_Slots_boards n_Slots_games
    refine' OK.pt_mk gb ⟨d_digit_of, d_octet_of, d_is_key, d_places_of, d_keys_in_all, d_number_of, d_key_of, d_lowest_number, d_number_behind, d_room_between, d_is_between, d_middle_key, d_least_length, d_shortest_key, d_spread_keys, d_halvings, d_read_count, d_read_integer, d_read_text, d_read_list, d_read_record, d_read_value, d_octets_of, d_integer_value, d_text_value, d_list_value, d_texts_value, d_bound_value, d_record_value, d_member_of, d_lowest_first, d_written_text, d_written_integer, d_written_list, d_written_record, d_written_value, d_is_integer, d_is_key_value, d_integer_of, d_limit_of, d_bound_of, d_bounds_of, d_ascend, d_distinct, d_is_row, d_row_pairs, d_is_board, d_board_of, d_height_of, d_heights_of, d_longest_behind, d_lengths_of, d_kept_rows, d_rekeyed, d_keys_with_one_more, d_changed_rows, d_insertion_value, d_row_index, d_insert_into, d_new_board_door, d_board_keys_door, d_insert_row_door, d_move_row_door, d_remove_row_door, d_new_game_door, d_game_state_door, d_is_answer, d_answer_key_door, d_shortest_key_door, d_many_keys_door, d_middle_door, d_room_door, d_insertions_door, d_some_keys_door, d_is_list_of_texts, d_rekey_door, d_bare, d_row_value, d_merged_key, d_merged_rows, d_merge_door, d_arguments_of, d_refusal, d_rows_door, d_answer_to, m_Board, m_Game, m_Slots⟩ KX G hmg ?qqnD ?qqlD ⟨g_shortest_key_door, g_many_keys_door, g_middle_door, g_room_door, g_insertions_door, g_some_keys_door, g_rekey_door, g_rows_door, g_merge_door, g_new_board_door, g_board_keys_door, g_insert_row_door, g_move_row_door, g_remove_row_door, g_new_game_door, g_game_state_door, g_answer_key_door⟩ ?qqa ?qql ?qqc ?qqk
    (case qqnD => k_is); (case qqlD => k_is); (case qqa => k_is); (case qql => k_is); (case qqc => k_is); (case qqk => k_is)
  case S =>
    intro K H xs a hO hwi hask hx
    cases hx with
    | cons h1 h2 =>
      cases h2
      cases h1 with
      | lst hs ha =>
        have e := L2.ints_dw a.1 _ ha
        subst e
        exact ⟨_, a.1, rfl, hs, hask, fun H' p hp => .lst (L2.SqL.of hp) (L2.dw_ints _)⟩
end

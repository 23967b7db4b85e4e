import PyProof.Rows.All
import Wide.All
import OpenK.AllK
import Wide.FinOn
import KE.KExcRaise
import HandS.ForMost
import HandS.Exc
import HandS.ExcOwn
import HandS.TryOnly
import HandS.TryMany
import HandS.ExcCtx
import HandS.Hot
import HandS.HotCalls
import HandS.SuiteRaise
import KE.KExcSuper
import HandS.ExcInit
import HandS.Star
import HandS.Codes
import HandS.Defaults
import HandS.More
import HandS.ClsMeth
import HandS.Words
import HandS.WordsList
import HandS.WordsExc
import HandS.Flow
import HandS.Text
import HandS.IsInst
import HandS.Walk
import PySem.Challenge.RW_jumblepost_k87_rows_of_the_desk_and_colu
import HandS.Ends
import HandS.AnyAll
import HandS.ExcField
import HandS.NamedTupGet
import HandS.Style
import HandS.Deep
import PyProof.ReprRoads
import PyProof.StrLawsRepr
import PyProof.ReprLen
import HandS.StrMore
import HandS.RaiseMore
import HandS.ExcIs
import HandS.ExcValue
import HandS.Lambda
import HandS.Zip
import KE.KStateDown
import HandS.Head0
import HandS.Head1
import HandS.Head2
import HandS.HeadHook1
import HandS.HeadHook2
import HandS.HeadHook3
import HandS.HeadHook4
import HandS.HeadNt
import Wide.Once
import HandS.EndBits
import HandS.EndTab
set_option Elab.async false
set_option linter.all false
set_option maxRecDepth 100000
set_option maxHeartbeats 2000000
namespace Q7
open PySem PySem.Spec PyProof.Rows L2 HotX
/-! ### chains of contexts -/
/-- the record's context is c -/
def CtxIs (c : Value) (o : Obj) : Prop := ∀ ws : Array Value, o.data = .fields ws → ws[2]? = some c
theorem CtxIs.kept {c : Value} : PXN.Steady1 (CtxIs c) := by
  intro o v h
  obtain ⟨oc, od, dt, osl⟩ := o
  cases dt with
  | fields ws0 =>
    intro ws e
    obtain rfl : ws0.setIfInBounds 1 v = ws := Data.fields.inj e
    rw [show (ws0.setIfInBounds 1 v)[2]? = ws0[2]? by simp [Array.getElem?_setIfInBounds]]
    exact h ws0 rfl
  | _ => exact fun ws e => by cases e
/-- the first one's reference, None for the empty chain -/
def topOf : List (Addr × Obj) → Value
  | [] => .none
  | q :: _ => .ref q.1
/-- each one's context is the next one, the last one's None -/
def Chained : List (Addr × Obj) → Prop
  | [] => True
  | q :: r => (∃ ws : Array Value, q.2.data = .fields ws) ∧ CtxIs (topOf r) q.2 ∧ (∀ p ∈ r, p.1 ≠ q.1) ∧ Chained r
/-- what is kept of an exception: class, dict, context -/
def Zk (cls : Value) (d : Option Addr) (l : List (Addr × Obj)) : Obj → Prop := fun o => o.cls = cls ∧ o.dict = d ∧ CtxIs (topOf l) o
theorem Zk.kept {cls : Value} {d : Option Addr} {l : List (Addr × Obj)} : PXN.Steady1 (Zk cls d l) := fun o v h => ⟨PXN.steady_cls o v h.1, PXN.steady_dict o v h.2.1, CtxIs.kept o v h.2.2⟩
theorem Zk.zc {cls : Value} {d : Option Addr} {l : List (Addr × Obj)} {o : Obj} (h : Zk cls d l o) : Zc cls d o := ⟨h.1, h.2.1⟩
/-- what is handled: nothing, or the first of a chain of pinned exceptions -/
def Hands (X : Cx) (l : List (Addr × Obj)) : Prop := X.A.handled = (match l with
  | [] => none
  | q :: _ => some (.ref q.1)) ∧ Chained l ∧ l.length ≤ 2 ∧ ∀ q ∈ l, q ∈ X.pn
section
variable {prog : Program} {w : World} {A : Around} {E : Value → Shared → Prop} {s : Shared}
theorem unchain1 {x1 a : Addr} {o1 : Obj} {ws1 : Array Value} {Q : Value → Shared → Prop} (g1 : s.heap.get? x1 = some o1) (f1 : o1.data = .fields ws1) (c1 : ws1[2]? = some .none) (q : Q .none s) :
    wpAny (model prog w) A (holding [Value.ref a] (runValue (.builtin "proto.unchain" ⟨[.ref a, .ref x1, .ref x1, .bool false], []⟩))) Q E s := HotX.unchained g1 f1 c1 q
theorem unchain2 {x1 x2 a : Addr} {o1 o2 : Obj} {ws1 ws2 : Array Value} {Q : Value → Shared → Prop} (g1 : s.heap.get? x1 = some o1) (f1 : o1.data = .fields ws1) (c1 : ws1[2]? = some (.ref x2))
    (g2 : s.heap.get? x2 = some o2) (f2 : o2.data = .fields ws2) (c2 : ws2[2]? = some .none) (n1 : x2 ≠ a) (n2 : x2 ≠ x1) (q : Q .none s) :
    wpAny (model prog w) A (holding [Value.ref a] (runValue (.builtin "proto.unchain" ⟨[.ref a, .ref x1, .ref x1, .bool false], []⟩))) Q E s := by
  refine wpAny_holding (wpAny_runValue (codeAny_builtin HotX.entry_unchain ?_))
  show wpAny _ _ (field (.ref x1) 2 >>= _) _ _ s
  refine wpAny_bind (wpAny_field g1 f1 c1 ?_)
  have e0 : (Value.ref x2 == Value.none) = false := rfl
  have e1 : (Value.ref x2 == Value.ref a) = false := by simp [n1]
  have e2 : (Value.ref x2 == Value.ref x1) = false := by simp [n2]
  simp only [e0, e1, e2, Bool.false_eq_true, if_false]
  refine wpAny_bind (wpAny_pure ?_)
  refine wpAny_pure ?_
  refine ⟨Code.quiet_builtin _ (by decide +kernel), codeAny_builtin HotX.entry_unchain ?_⟩
  show wpAny _ _ (field (.ref x2) 2 >>= _) _ _ s
  refine wpAny_bind (wpAny_field g2 f2 c2 ?_)
  rw [if_pos (show (Value.none == Value.none) = true from rfl)]
  first
  | exact wpAny_bind (wpAny_pure (wpAny_pure q))
  | exact wpAny_pure q
end
end Q7
set_option maxHeartbeats 2000000
namespace Q7
open PySem PySem.Spec PyProof.Rows L2 HotX
/-! ### exceptions in the air, their chains told -/
/-- the chain l of an exception at a: pinned to the ground B, out of what is tracked and of the base -/
structure Tail (n : Nat) (base B : Heap) (H : Hp) (a : Addr) (l : List (Addr × Obj)) : Prop where
  ch : Chained l
  len : l.length ≤ n
  at_ : ∀ q ∈ l, B.get? q.1 = some q.2
  un : ∀ q ∈ l, H q.1 = none
  ba : ∀ q ∈ l, base.get? q.1 = none
  ne : ∀ q ∈ l, q.1 ≠ a
  bz : base.get? a = none
theorem Tail.mono {n m : Nat} {base B : Heap} {H : Hp} {a : Addr} {l : List (Addr × Obj)} (t : Tail n base B H a l) (h : n ≤ m) : Tail m base B H a l := ⟨t.ch, Nat.le_trans t.len h, t.at_, t.un, t.ba, t.ne, t.bz⟩
def XEk (n : Nat) (X : Cx) (W : WX) (u : Value) (s' : Shared) : Prop :=
  ∃ (a : Addr) (B : Heap) (sI : Shared) (pins : List (Addr × Obj)) (σ : L2.St) (H : Hp) (cls : Value) (d : Option Addr) (l : List (Addr × Obj)),
    (u = .ref a ∧ Inv X pins σ H sI ∧ (∀ b o, sI.heap.get? b = some o → b ∉ frs X.stack → B.get? b = some o)) ∧ (sI.heap.UpToSlots s'.heap ∧ Sky B X.stack a (Zk cls d l) X.env.locals s'.heap) ∧
      (H a = none ∧ s'.os = sI.os ∧ AllBare s'.gens) ∧ W cls d σ H ∧ Tail n X.base B H a l
def TakesK (n : Nat) (X : Cx) (W : WX) : Prop := ∀ u s', XEk n X W u s' → X.xe u s'
theorem sky_imp {B h : Heap} {l : List Env} {a L : Addr} {Z Z' : Obj → Prop} (z : ∀ o, Z o → Z' o) (x : Sky B l a Z L h) : Sky B l a Z' L h := by
  rcases x with ⟨h1, h2, h3, oe, vs, e, y, r⟩ | x | ⟨h1, h2, h3, x⟩
  · exact .inl ⟨h1, h2, h3, oe, vs, e, z _ y, r⟩
  · exact .inr (.inl (L2H.flyingZ_imp z x))
  · exact .inr (.inr ⟨h1, h2, h3, L2H.tracedZ_imp z x⟩)
theorem TakesK.of {n : Nat} {X : Cx} {W : WX} (t : L2.Takes X W) : TakesK n X W := by
  rintro u s' ⟨a, B, sI, pins, σ, H, cls, d, l, ⟨e, I, nb⟩, ⟨up, sky⟩, ⟨na, os, ag⟩, w, _⟩
  exact t u s' ⟨a, B, sI, pins, σ, H, cls, d, e, I, nb, up, sky_imp (fun _ z => z.zc) sky, na, os, ag, w⟩
theorem TakesK.imp {n m : Nat} {X : Cx} {W W' : WX} (t : TakesK n X W) (hm : m ≤ n) (h : ∀ c d σ H, W' c d σ H → W c d σ H) : TakesK m X W' := by
  rintro u s' ⟨a, B, sI, pins, σ, H, cls, d, l, q1, q2, q3, w, t1⟩
  exact t u s' ⟨a, B, sI, pins, σ, H, cls, d, l, q1, q2, q3, h _ _ _ _ w, t1.mono hm⟩
/-- behind a call that let an exception out -/
def CXk (P : Program) (w : World) (base : Heap) (n : Nat) : CXT := fun outer H s E u s' =>
  ∃ (a : Addr) (B : Heap) (H' : Hp) (cls : Value) (d : Option Addr) (l : List (Addr × Obj)), (u = .ref a ∧ HandSPX.FlyingZ B outer a (Zk cls d l) s'.heap) ∧ (HOk P w H' B ∧ UB (frs outer) H H' s.heap B s'.heap) ∧
    (H' a = none ∧ s'.os = s.os ∧ AllBare s'.gens) ∧ E cls d H' ∧ Tail n base B H' a l
section
variable {X : Cx} {pins : List (Addr × Obj)} {σ : L2.St} {H : Hp} {sI s s' : Shared} {B : Heap} {W : WX} {E : XK} {n : Nat}
theorem XEk.call {base : Heap} (I : Inv X pins σ H s) (hb : base = X.base) (hW : ∀ cls d H', E cls d H' → W cls d σ H') {u : Value} (c : CXk X.prog X.w base n X.stack H s E u s') : XEk n X W u s' := by
  subst hb
  obtain ⟨a, B, H', cls, d, l, ⟨eu, fl⟩, ⟨hok, ub⟩, ⟨na, os, ag⟩, hE, tl⟩ := c
  have stay : ∀ b o, B.get? b = some o → s'.heap.get? b = some o := fl.1
  obtain ⟨G, gin, gout⟩ := restrict s'.heap fun b => (B.get? b).isSome || decide (b ∈ frs X.stack)
  have GB : ∀ b o, B.get? b = some o → G.get? b = some o := fun b o q => (gin b (by rw [q]; rfl)).trans (stay b o q)
  have GF : ∀ b, b ∈ frs X.stack → G.get? b = s'.heap.get? b := fun b q => gin b (by rw [decide_eq_true q, Bool.or_true])
  have GO : ∀ b o, G.get? b = some o → s'.heap.get? b = some o ∧ (b ∉ frs X.stack → B.get? b = some o) := fun b o q => by
    have q1 : s'.heap.get? b = some o := by
      cases z : ((B.get? b).isSome || decide (b ∈ frs X.stack)) with
      | true => rw [← gin b z]; exact q
      | false => rw [gout b z] at q; cases q
    refine ⟨q1, fun nm => ?_⟩
    cases z : B.get? b with
    | some o2 =>
      have q2 := stay b o2 z
      rw [q1] at q2
      rw [q2]
    | none =>
      rw [gout b (by rw [z, decide_eq_false nm]; rfl)] at q
      cases q
  refine ⟨a, B, { s with heap := G, gens := s'.gens, drawn := s'.drawn, toks := s'.toks }, pins, σ, H', cls, d, l, ⟨eu, ?_, fun b o q nm => (GO b o q).2 nm⟩, ⟨Heap.UpToSlots.of_keeps fun b o q => (GO b o q).1, .inr (.inl fl)⟩, ⟨na, os, ag⟩, hW _ _ _ hE, tl⟩
  refine I.call (ch := []) { keep := fun b o q h1 h2 _ => GB b o (ub.keep b o q h1 h2), slot := fun b o q _ h2 _ => ?_, free := fun b o q h1 _ => ub.free b o q h1, there := fun b o q _ => ?_, tups := ub.tups, frzs := ub.frzs, tbls := ub.tbls } (hok.kept GB) ag (fun _ z => by cases z)
  · obtain ⟨sl, z⟩ := ub.slot b o q h2
    exact ⟨sl, (GF b h2).trans z⟩
  · by_cases hm : b ∈ frs X.stack
    · obtain ⟨sl, z⟩ := ub.slot b o q hm
      exact ⟨_, (GF b hm).trans z⟩
    · obtain ⟨o2, z⟩ := ub.there b o q hm
      exact ⟨o2, GB b o2 z⟩
/-- a new exception is in the air -/
theorem XEk.made {a : Addr} {oe : Obj} {vs : Array Value} {cls : Value} {d : Option Addr} {l : List (Addr × Obj)} (I : Inv X pins σ H sI) (k : ∀ b o, sI.heap.get? b = some o → s'.heap.get? b = some o) (hne : sI.heap.get? a = none) (he : s'.heap.get? a = some oe)
    (hz : Zk cls d l oe) (hd : oe.data = .fields vs) (h1 : vs[1]? = some .none) (na : H a = none) (os : s'.os = sI.os) (ag : AllBare s'.gens) (w : W cls d σ H)
    (ch : Chained l) (len : l.length ≤ n) (hl : ∀ q ∈ l, q ∈ X.pn) (hba : ∀ q ∈ l, X.base.get? q.1 = none) : XEk n X W (.ref a) s' := by
  have hide : ∀ {b o}, (PySem.W.hideAll sI.heap (frs X.stack)).get? b = some o → sI.heap.get? b = some o := fun q => PySem.W.of_hideAll _ q
  have pin : ∀ q ∈ l, sI.heap.get? q.1 = some q.2 ∧ H q.1 = none ∧ q.1 ≠ X.env.locals ∧ q.1 ∉ X.fs := fun q hq =>
    let z := I.pin q (List.mem_append_left _ (hl q hq))
    ⟨z.1, z.2.1, z.2.2.1, z.2.2.2.1⟩
  have none_of : ∀ g : Heap, (∀ o, g.get? a = some o → sI.heap.get? a = some o) → g.get? a = none := fun g hg => by
    cases q : g.get? a with
    | none => rfl
    | some o =>
      have z := hg o q
      rw [hne] at z
      cases z
  refine ⟨a, PySem.W.hideAll sI.heap (frs X.stack), sI, pins, σ, H, cls, d, l, ⟨rfl, I, fun b o q nm => PySem.W.hideAll_get _ q nm⟩, ⟨Heap.UpToSlots.of_keeps k, .inl ⟨fun b o q => k b o (hide q), none_of _ fun _ => hide, ?_, oe, vs, he, hz, hd, h1⟩⟩, ⟨na, os, ag⟩, w,
    { ch := ch, len := len, at_ := fun q hq => PySem.W.hideAll_get _ (pin q hq).1 fun hm => ?_, un := fun q hq => (pin q hq).2.1, ba := hba, ne := fun q hq z => ?_, bz := none_of _ fun o q => I.bk a o q }⟩
  · exact Heap.FunFrames.of_keeps (fun b o q _ => ⟨o, k b o q, rfl⟩) (funFrames_none I.stack fun b hb => PySem.W.hideAll_none _ hb)
  · exact (List.mem_cons.mp (I.stkSub q.1 hm)).elim (pin q hq).2.2.1 (pin q hq).2.2.2
  · have z1 := (pin q hq).1
    rw [z, hne] at z1
    cases z1
/-- it flies over the callers' frames -/
theorem flown {a : Addr} {cls : Value} {d : Option Addr} {l : List (Addr × Obj)} {m : Nat} {h' : Heap} (hs : X.stack = X.env :: X.outer) (hf : X.env.frame = some X.env.locals) (hex : X.ex = []) (I : Inv X pins σ H sI) (nb : ∀ b o, sI.heap.get? b = some o → b ∉ frs X.stack → B.get? b = some o)
    (up : ∀ b o, b ≠ X.env.locals → sI.heap.get? b = some o → (∀ ws, o.data ≠ .fields ws) → ∃ sl, s'.heap.get? b = some { o with slots := sl }) (fl : HandSPX.FlyingZ B X.outer a (Zk cls d l) h') (up' : s'.heap.UpToSlots h')
    (na : H a = none) (os : s'.os = sI.os) (ag : AllBare s'.gens) (w : E cls d H) (tl : Tail m X.base B H a l) : CXk X.prog X.w X.base m X.outer X.H_0 X.s_0 E (.ref a) { s' with heap := h' } := by
  have noX : ∀ b, b ∉ X.ex := fun b hb => by rw [hex] at hb; cases hb
  have old : ∀ b o, X.s_0.heap.get? b = some o → b ≠ X.env.locals := fun b o q => Nat.ne_of_lt (Nat.lt_of_lt_of_le (Heap.lt_size q) I.ok.above)
  have off : ∀ b o, X.s_0.heap.get? b = some o → b ∉ X.fs → b ∉ frs X.stack := fun b o q nm hm => (List.mem_cons.mp (I.stkSub b hm)).elim (old b o q) nm
  refine ⟨a, B, H, cls, d, l, ⟨rfl, fl⟩, ⟨I.inGround nb, ?_⟩, ⟨na, os.trans I.os, ag⟩, w, tl⟩
  refine { keep := fun b o q h1 h2 => nb b o (I.base.keep b o q h1 h2 (noX b)) (off b o q h2), slot := fun b o q hm => ?_, free := fun b o q h1 => I.base.free b o q h1 (noX b), there := fun b o q h2 => ?_, tups := I.base.tups, frzs := I.base.frzs, tbls := I.base.tbls }
  · obtain ⟨_, o2, q2, nf⟩ := I.ok.funs.mem hm
    rw [q] at q2
    obtain rfl := Option.some.inj q2
    obtain ⟨s1, r1⟩ := I.base.slot b o q (I.ok.frf b hm) hm (noX b)
    obtain ⟨s2, r2⟩ := up b _ (old b o q) r1 nf
    obtain ⟨s3, r3⟩ := up' b _ r2 nf
    exact ⟨s3, r3⟩
  · obtain ⟨o2, r⟩ := I.base.there b o q (noX b)
    exact ⟨o2, nb b o2 r (off b o q h2)⟩
/-- noted at the frame, whatever it was -/
theorem sky_note {M : Model} {A : Around} {E₁ : Value → Shared → Prop} {env : Env} {outer : List Env} {L a : Addr} {Z : Obj → Prop} {Q : Unit → Shared → Prop} (hZ : PXN.Steady1 Z) (hfr : A.frames = some (env :: outer)) (hf : env.frame = some L)
    (x : Sky B (env :: outer) a Z L s.heap) (hQ : ∀ h', HandSPX.HeldZ B (env :: outer) a Z L h' → s.heap.UpToSlots h' → Q () { s with heap := h' }) : wpAny M A (noteFrame (.ref a) env) Q E₁ s := by
  rcases x with ⟨hB, hn, hl, oe, vs, he, hz, hd, h1⟩ | fl | hh
  · exact PXN.look_newZ hZ hfr hl hf he hB hn hd h1 hz hQ
  · exact PXN.looks_onZ hZ hfr hf fl hQ
  · exact HandSPX.againZ hf hh.2.2.2 (hQ s.heap hh (Heap.UpToSlots.refl _))
theorem XEk.leave (hs : X.stack = X.env :: X.outer) (hf : X.env.frame = some X.env.locals) (hex : X.ex = []) {E₁ : Value → Shared → Prop} (hW : ∀ cls d σ H, W cls d σ H → E cls d H) {u : Value} (x : XEk n X W u s') :
    wpAny (model X.prog X.w) X.A (leaving X.env u) (fun _ s'' => CXk X.prog X.w X.base n X.outer X.H_0 X.s_0 E u s'') E₁ s' := by
  obtain ⟨a, B, sI, pins, σ, H, cls, d, l, ⟨eu, I, nb⟩, ⟨up, sky⟩, ⟨na, os, ag⟩, w, tl⟩ := x
  subst eu
  have hfr : X.A.frames = some (X.env :: X.outer) := by rw [I.ok.frames, hs]
  rw [hs] at sky
  have fin : ∀ h', HandSPX.FlyingZ B X.outer a (Zk cls d l) h' → s'.heap.UpToSlots h' → CXk X.prog X.w X.base n X.outer X.H_0 X.s_0 E (.ref a) { s' with heap := h' } := fun h' fl up' =>
    flown hs hf hex I nb (fun b o _ q nf => up b o q nf) fl up' na os ag (hW _ _ _ _ w) tl
  rcases sky with ⟨hB, hn, hl, oe, vs, he, hz, hd, h1⟩ | fl | hh
  · exact PXN.leaving_firstZ Zk.kept hfr hl hf he hB hn hd h1 hz fin
  · exact PXN.leaves_onZ Zk.kept hfr hf fl fin
  · exact HandSPX.leaves_heldZ hf hh fin
/-- a def's own wish -/
theorem takesK_of (hs : X.stack = X.env :: X.outer) (hf : X.env.frame = some X.env.locals) (hex : X.ex = []) {E₁ : Value → Shared → Prop}
    (hx : X.xe = fun e s' => wpAny (model X.prog X.w) X.A (leaving X.env e) (fun _ s'' => CXk X.prog X.w X.base n X.outer X.H_0 X.s_0 E e s'') E₁ s') : TakesK n X (fun cls d _ H => E cls d H) := by
  intro u s' x
  rw [hx]
  exact XEk.leave (W := fun cls d _ H => E cls d H) (E := E) hs hf hex (fun _ _ _ _ q => q) x
/-- what a callee lets out is taken -/
theorem passK {base : Heap} {E : L2.St → XK} (tk : TakesK n X W) (hb : base = X.base) (hW : ∀ cls d σ H, E σ cls d H → W cls d σ H) : ∀ σ, PassesAt (CXk X.prog X.w base n) X σ (E σ) :=
  fun σ _ _ _ e s' I c => tk e s' (XEk.call I hb (fun cls d H' q => hW cls d σ H' q) c)
end
end Q7
set_option maxHeartbeats 2000000
namespace Q7
open PySem PySem.Spec PyProof.Rows L2 HotX
/-! ### raising -/
/-- an expression that makes an exception: nothing of it is known to anybody yet -/
def MkE (X : Cx) (pins : List (Addr × Obj)) (σ : L2.St) (Q : XK) (u : Value) (s' : Shared) : Prop :=
  ∃ (a : Addr) (oe : Obj) (vs : Array Value) (sI : Shared) (H' : Hp) (cls : Value) (d : Option Addr),
    (u = .ref a ∧ Inv X pins σ H' sI ∧ (∀ b o, sI.heap.get? b = some o → s'.heap.get? b = some o) ∧ sI.heap.get? a = none) ∧ (s'.heap.get? a = some oe ∧ Zk cls d [] oe ∧ oe.data = .fields vs ∧ vs[1]? = some .none ∧ 4 < vs.size) ∧
      (H' a = none ∧ s'.os = sI.os ∧ AllBare s'.gens) ∧ Raises X cls ∧ Q cls d H'
def PMkE (X : Cx) (e : Expr) (t : L2.St → Hp → XK → Prop) : Prop :=
  ∀ (pins : List (Addr × Obj)) (s : Shared) (σ : L2.St) (H : Hp) (Q : XK), Inv X pins σ H s → t σ H Q → wpAny (model X.prog X.w) X.A (eval e X.env) (MkE X pins σ Q) X.xe s
theorem set_at {vs : Array Value} {i j : Nat} {x : Value} (h : i ≠ j) : (vs.setIfInBounds i x)[j]? = vs[j]? := by simp [Array.getElem?_setIfInBounds, h]
theorem set_here {vs : Array Value} {i : Nat} {x : Value} (h : i < vs.size) : (vs.setIfInBounds i x)[i]? = some x := by simp [h]
/-- the record a with some fields other than 1 set -/
theorem raiseNew_hands {X : Cx} {l : List (Addr × Obj)} {pins : List (Addr × Obj)} {σ : L2.St} {H : Hp} {sI s : Shared} {a : Addr} {oe : Obj} {vs : Array Value} {cls : Value} {d : Option Addr} {E : Value → Shared → Prop} {Q : Flow → Shared → Prop} (hh : Hands X l) (I : Inv X pins σ H sI) (k : ∀ b o, sI.heap.get? b = some o → s.heap.get? b = some o)
    (hne : sI.heap.get? a = none) (ha : s.heap.get? a = some oe) (hd : oe.data = .fields vs) (hi : 2 < vs.size) (hz : Zk cls d [] oe)
    (hE : ∀ (h' : Heap) (oe' : Obj) (vs' : Array Value), (∀ b o, sI.heap.get? b = some o → h'.get? b = some o) → h'.get? a = some oe' → Zk cls d l oe' → oe'.data = .fields vs' → vs'[1]? = vs[1]? → E (.ref a) { s with heap := h' }) :
    wpAny (model X.prog X.w) X.A (raiseNew (.ref a) : Sem Flow) Q E s := by
  obtain ⟨h0, hch, hlen, hpin⟩ := hh
  cases l with
  | nil => exact raiseNew_none' (.inl h0) (hE s.heap oe vs k ha hz hd rfl)
  | cons p r =>
    obtain ⟨⟨ws, fd⟩, cx, nx, chr⟩ := hch
    have at_ : ∀ q, q ∈ p :: r → s.heap.get? q.1 = some q.2 := fun q hq => k _ _ (I.pin q (List.mem_append_left _ (hpin q hq))).1
    have na : ∀ q, q ∈ p :: r → q.1 ≠ a := fun q hq z => by
      have z1 := (I.pin q (List.mem_append_left _ (hpin q hq))).1
      rw [z, hne] at z1
      cases z1
    have nab : ∀ {b o}, sI.heap.get? b = some o → a ≠ b := fun {b o} q z => by
      rw [← z, hne] at q
      cases q
    have fin : E (.ref a) { s with heap := s.heap.update a (Obj.mapFields (·.setIfInBounds 2 (.ref p.1))) } := by
      refine hE _ (oe.mapFields (·.setIfInBounds 2 (.ref p.1))) (vs.setIfInBounds 2 (.ref p.1)) (fun b o q => (Heap.get?_update_other _ _ (nab q)).trans (k b o q)) (Heap.get?_update_self _ ha (Obj.isFreed_of_fields (Obj.data_mapFields hd _)))
        ⟨(Obj.cls_mapFields ..).trans hz.1, (HandSPX.dict_mapFields ..).trans hz.2.1, fun ws' q => ?_⟩ (Obj.data_mapFields hd _) (set_at (by decide))
      have e := Obj.data_mapFields hd (·.setIfInBounds 2 (Value.ref p.1))
      rw [e] at q
      obtain rfl := Data.fields.inj q
      exact set_here hi
    have un : ∀ {Q' : Value → Shared → Prop}, Q' .none s → wpAny (model X.prog X.w) X.A (holding [Value.ref a] (runValue (.builtin "proto.unchain" ⟨[.ref a, .ref p.1, .ref p.1, .bool false], []⟩))) Q' E s := by
      intro Q' q
      match r, cx, nx, chr, hlen, at_, na with
      | [], cx, _, _, _, at_, _ => exact unchain1 (at_ p List.mem_cons_self) fd (cx ws fd) q
      | [p2], cx, nx, chr, _, at_, na =>
        obtain ⟨⟨ws2, fd2⟩, cx2, _, _⟩ := chr
        have m2 : p2 ∈ [p, p2] := List.mem_cons_of_mem _ List.mem_cons_self
        exact unchain2 (at_ p List.mem_cons_self) fd (cx ws fd) (at_ p2 m2) fd2 (cx2 ws2 fd2) (na p2 m2) (nx p2 List.mem_cons_self) q
      | _ :: _ :: _, _, _, _, hlen, _, _ =>
        simp only [List.length_cons] at hlen
        omega
    unfold raiseNew
    refine wpAny_bind (wpAny_handled ?_)
    rw [h0]
    have hb : (Value.ref p.1 != Value.ref a) = true := ref_bne (na p List.mem_cons_self)
    first
    | (show wpAny _ _ (if (Value.ref p.1 != Value.ref a) = true then _ else _) _ _ _
       rw [if_pos hb]
       first
       | exact wpAny_bind (un (wpAny_bind (chained ha hd hi (wpAny_throw fin))))
       | exact wpAny_bind (wpAny_bind (un (chained ha hd hi (wpAny_throw fin)))))
    | (refine wpAny_bind ?_
       show wpAny _ _ (if (Value.ref p.1 != Value.ref a) = true then _ else _) _ _ _
       rw [if_pos hb]
       exact wpAny_bind (un (chained ha hd hi (wpAny_throw fin))))
section
variable {X : Cx} {W : WX} {e : Expr} {t : L2.St → Hp → XK → Prop} {pos : Pos} {n : Nat} {l : List (Addr × Obj)}
/-- raise C(..), whatever is handled -/
theorem ps_raiseK (hh : Hands X l) (hb : ∀ q ∈ l, X.base.get? q.1 = none) (hn : l.length ≤ n) (tk : TakesK n X W) (he : PMkE X e t) : PS X (.Raise (some e) none pos) (fun _ σ H => t σ H fun cls d H' => W cls d σ H') := by
  refine ⟨fun pins s σ H D I h => ?_⟩
  refine wpAny_Raise_value (wpAny_mono (he pins s σ H _ I h) (fun u s1 hu => ?_) fun _ _ y => y)
  obtain ⟨a, oe, vs, sI, H', cls, d, ⟨eu, J, k, hne⟩, ⟨ha, hz, hd, h1, h4⟩, ⟨na, os, ag⟩, r, q⟩ := hu
  subst eu
  obtain ⟨r1, r2⟩ := r (model X.prog X.w) sI.heap J.kIn
  refine raise_value_tree (h₀ := sI.heap) ⟨ha, hz.1, hd, k, hne, r1, r2⟩ (setFlight_fresh ha hd h1 (raiseNew_hands hh J k hne ha hd (Nat.lt_trans (by decide) h4) hz fun h' oe' vs' k' ha' hz' hd' e1 => ?_))
  exact tk _ _ (XEk.made (s' := { s1 with heap := h' }) J k' hne ha' hz' hd' (e1.trans h1) na os ag q hh.2.1 hn hh.2.2.2 hb)
/-- a name of the def: nothing moves -/
theorem name_here {i : Nat} {x : Str} {npos : Pos} {pins : List (Addr × Obj)} {σ : L2.St} {H : Hp} {s : Shared} {v : V} {Q : Value → Shared → Prop} {E : Value → Shared → Prop} {A : Around} (I : Inv X pins σ H s) (hN : X.N[i]? = some x) (hv : Vis X.env.scope x) (hσ : σ[i]? = some (some v)) (h : ∀ u, RelV v u → Q u s)
    (hd : (x == ("__debug__" : Str)) = false := by decide) (hcd : (x == ("__classdict__" : Str)) = false := by decide) : wpAny (model X.prog X.w) A (eval (.Name x npos) X.env) Q E s := by
  obtain ⟨m, hn, hl⟩ := I.loc
  obtain ⟨u, r, look⟩ := hl i x v hN hσ hv
  rcases look with ⟨hk, hm⟩ | ⟨hk | hk, c, hc, hcell⟩
  · exact wpAny_Name (wpAny_loadName_local I.ok.kind hk hn hm (h u r)) hd
  · exact wpAny_Name (wpAny_loadName_cell I.ok.kind hk hc hcell (h u r)) hd
  · exact wpAny_Name (wpAny_loadName_free I.ok.kind hk hc hcell (h u r) hcd) hd
/-- the class may be raised -/
def RaisesK (K : PySem.W.Frag) (cls : Value) : Prop := ∀ (M : Model) (h : Heap), K.In h → PySem.W.Looks M h (isSubtype cls (.type "BaseException")) true ∧ PySem.W.Looks M h (typeOf cls) (.type "type")
/-- raise C(..) from x, x the name of the exception that is handled -/
theorem ps_raiseFromK {i : Nat} {x : Str} {xpos : Pos} {p : Addr × Obj} {clb : Value} (hh : Hands X (p :: l)) (hb : ∀ q ∈ p :: l, X.base.get? q.1 = none) (hn : (p :: l).length ≤ n) (tk : TakesK n X W) (he : PMkE X e t) (hN : X.N[i]? = some x) (hv : Vis X.env.scope x) (hc : p.2.cls = clb)
    (hd : (x == ("__debug__" : Str)) = false := by decide) (hcd : (x == ("__classdict__" : Str)) = false := by decide) :
    PS X (.Raise (some e) (some (.Name x xpos)) pos) (fun _ σ H => RaisesK X.K clb ∧ σ[i]? = some (some (.ref p.1)) ∧ t σ H fun cls d H' => W cls d σ H') := by
  refine ⟨fun pins s σ H D I ⟨rb, hσ, h⟩ => ?_⟩
  refine wpAny_Raise_from (wpAny_mono (he pins s σ H _ I h) (fun u s1 hu => ?_) fun _ _ y => y)
  obtain ⟨a, oe, vs, sI, H', cls, d, ⟨eu, J, k, hne⟩, ⟨ha, hz, hdt, h1, h4⟩, ⟨na, os, ag⟩, r, q⟩ := hu
  subst eu
  have J1 : Inv X pins σ H' s1 := J.call' (ch := []) os (Un.kept k) (J.hok.kept k) ag fun _ z => by cases z
  have pinH : ∀ q, q ∈ p :: l → q ∈ X.pn := hh.2.2.2
  have P1 := J1.pin p (List.mem_append_left _ (pinH p List.mem_cons_self))
  refine name_here J1 hN hv hσ (fun cv rv => ?_) hd hcd
  obtain rfl : cv = Value.ref p.1 := rv
  obtain ⟨⟨ws, fd⟩, _⟩ := hh.2.1
  have base_none : X.base.get? a = none := by
    cases z : X.base.get? a with
    | none => rfl
    | some o =>
      have y := J.bk a o z
      rw [hne] at y
      cases y
  obtain ⟨r1, r2⟩ := r (model X.prog X.w) X.base J.ok.mod.kin
  obtain ⟨b1, b2⟩ := rb (model X.prog X.w) X.base J.ok.mod.kin
  have HA : RaiseAt (model X.prog X.w) X.base s1.heap a oe vs cls := ⟨ha, hz.1, hdt, J1.bk, base_none, r1, r2⟩
  have HB : RaiseAt (model X.prog X.w) X.base s1.heap p.1 p.2 ws clb := ⟨P1.1, hc, fd, J1.bk, hb p List.mem_cons_self, b1, b2⟩
  have G2 := (HA.set 3 (.ref p.1)).set 4 (.bool true)
  have nab : ∀ {b o}, sI.heap.get? b = some o → a ≠ b := fun {b o} q z => by
    rw [← z, hne] at q
    cases q
  have e1 : ((vs.setIfInBounds 3 (Value.ref p.1)).setIfInBounds 4 (Value.bool true))[1]? = some Value.none := (set_at (by decide)).trans ((set_at (by decide)).trans h1)
  have hz2 : Zk cls d [] ((oe.mapFields (·.setIfInBounds 3 (Value.ref p.1))).mapFields (·.setIfInBounds 4 (Value.bool true))) := by
    refine ⟨G2.cl, ?_, fun ws' q => ?_⟩
    · rw [HandSPX.dict_mapFields, HandSPX.dict_mapFields]
      exact hz.2.1
    · rw [G2.dat] at q
      obtain rfl := Data.fields.inj q
      exact (set_at (by decide)).trans ((set_at (by decide)).trans (hz.2.2 vs hdt))
  refine raise_from_tree HA h4 (.inr ⟨p.1, p.2, ws, clb, rfl, X.base, HB⟩) ?_
  refine setFlight_fresh (s := { s1 with heap := (s1.heap.update a (Obj.mapFields (·.setIfInBounds 3 (Value.ref p.1)))).update a (Obj.mapFields (·.setIfInBounds 4 (.bool true))) }) G2.at_ G2.dat e1 ?_
  refine raiseNew_hands (s := { s1 with heap := (s1.heap.update a (Obj.mapFields (·.setIfInBounds 3 (Value.ref p.1)))).update a (Obj.mapFields (·.setIfInBounds 4 (.bool true))) }) hh J (fun b o q => ?_) hne G2.at_ G2.dat (by rw [Array.size_setIfInBounds, Array.size_setIfInBounds]; omega) hz2 fun h' oe' vs' k' ha' hz' hd' e2 => ?_
  · exact (Heap.get?_update_other _ _ (nab q)).trans ((Heap.get?_update_other _ _ (nab q)).trans (k b o q))
  · exact tk _ _ (XEk.made (s' := { s1 with heap := h' }) J k' hne ha' hz' hd' (e2.trans e1) na os ag q hh.2.1 hn hh.2.2.2 hb)
end
end Q7
set_option maxHeartbeats 2000000
namespace Q7
open PySem PySem.Spec PyProof.Rows L2 HotX
/-! ### suites that may raise -/
/-- within an except suite: a is handled, pn stand still, xe is wanted of what leaves it -/
abbrev suiteQ (X : Cx) (a : Addr) (pn : List (Addr × Obj)) (xe : Value → Shared → Prop) : Cx := { X with A := X.A.mark (some (.ref a)), calm := false, pn := pn, xe := xe }
section
variable {X : Cx} {pins : List (Addr × Obj)} {σ : L2.St} {H : Hp} {s : Shared} {n m : Nat}
theorem suiteQ_in {a : Addr} {pn : List (Addr × Obj)} {xe : Value → Shared → Prop} (I : Inv X pins σ H s) (hp : ∀ q ∈ pn, s.heap.get? q.1 = some q.2 ∧ H q.1 = none ∧ q.1 ≠ X.env.locals ∧ q.1 ∉ X.fs ∧ ∀ v, q.2.data ≠ .cell v) : Inv (suiteQ X a (pn ++ (X.pn ++ pins)) xe) [] σ H s := by
  have ok := I.ok
  exact ⟨⟨ok.mod, ok.kind, ok.glob, ok.blt, ok.above, ok.inj, ok.has, ok.cab, fun z => Bool.noConfusion z, ok.frames, ok.stk, ok.exf, ok.bs, ok.bsz, ok.noex, ok.exfs, ok.funs, ok.frf⟩, I.os, I.bare, I.base, I.loc, I.cell, I.free, I.freeC,
    fun q hq => (List.mem_append.mp (show q ∈ pn ++ (X.pn ++ pins) by simpa using hq)).elim (hp q) (I.pin q), I.hok, I.len⟩
theorem suiteQ_out {a : Addr} {pn pn' : List (Addr × Obj)} {xe : Value → Shared → Prop} (I : Inv (suiteQ X a (pn ++ (X.pn ++ pins)) xe) pn' σ H s) (ok : X.Ok) : Inv X pins σ H s :=
  ⟨ok, I.os, I.bare, I.base, I.loc, I.cell, I.free, I.freeC, fun q hq => I.pin q (List.mem_append_left _ (List.mem_append_right _ hq)), I.hok, I.len⟩
theorem suiteQ_xe {a : Addr} {pn pn' : List (Addr × Obj)} {xe xe' : Value → Shared → Prop} (I : Inv (suiteQ X a pn xe) pn' σ H s) : Inv (suiteQ X a pn xe') pn' σ H s := by
  have ok := I.ok
  exact ⟨⟨ok.mod, ok.kind, ok.glob, ok.blt, ok.above, ok.inj, ok.has, ok.cab, fun z => Bool.noConfusion z, ok.frames, ok.stk, ok.exf, ok.bs, ok.bsz, ok.noex, ok.exfs, ok.funs, ok.frf⟩, I.os, I.bare, I.base, I.loc, I.cell, I.free, I.freeC, I.pin, I.hok, I.len⟩
/-- what a suite's exceptions lie under lies under the try -/
theorem suiteQ_takes {a : Addr} {pn : List (Addr × Obj)} {W : WX} (tk : TakesK m X W) (ok : X.Ok) : TakesK m (suiteQ X a (pn ++ (X.pn ++ pins)) X.xe) W := by
  rintro u s' ⟨a2, B, sI, pn2, σ2, H2, cls, d, l, ⟨e, I, nb⟩, q2, q3, w, tl⟩
  exact tk u s' ⟨a2, B, sI, pins, σ2, H2, cls, d, l, ⟨e, suiteQ_out I ok, nb⟩, q2, q3, w, tl⟩
/-- what is asked of an exception of the body: the clause names it, the suite runs -/
def wHit (K : PySem.W.Frag) (c : Value) (ts : Addr → Value → Option Addr → TS) (D : Ends) : WX := fun cls d σ H => PySem.W.exmOne K cls c = some true ∧ ∀ a, H a = none → ts a cls d D σ H
def wHitAs (K : PySem.W.Frag) (c : Value) (i : Nat) (ts : Addr → Value → Option Addr → TS) (D : Ends) : WX := wHit K c (fun a cls d D σ H =>
  ts a cls d { nx := fun σ' H' => D.nx (σ'.set i none) H', rt := D.rt, bk := fun σ' H' => D.bk (σ'.set i none) H', ct := fun σ' H' => D.ct (σ'.set i none) H' } (σ.set i (some (.ref a))) H) D
/-- the catch, up to the suite -/
theorem catchK {x : Str} {c : Value} {np pos' : Pos} {nm : Option Str} {body : List Stmt} {W : WX} {xe : Value → Shared → Prop} {u : Value} {s' : Shared} {Q : Flow → Shared → Prop} (hs : X.stack = X.env :: X.outer) (hf : X.env.frame = some X.env.locals) (hc : Names X x c) (ok : X.Ok)
    (xx : XEk n (X.tr (X.pn ++ pins) xe) W u s') (hW : ∀ cls d σ H, W cls d σ H → PySem.W.exmOne X.K cls c = some true)
    (hgo : ∀ (a : Addr) (h3 : Heap) (σ' : L2.St) (H' : Hp) (cls : Value) (d : Option Addr) (l : List (Addr × Obj)), u = .ref a → W cls d σ' H' → H' a = none → l.length ≤ n →
      (∀ (Q₁ : Unit → Shared → Prop) (E₁ : Value → Shared → Prop), (∀ (h4 : Heap) (oe : Obj), Zk cls d l oe → Hands (suiteQ X a (((a, oe) :: l) ++ (X.pn ++ pins)) X.xe) ((a, oe) :: l) → (∀ q ∈ (a, oe) :: l, X.base.get? q.1 = none) →
        (∀ xe, Inv (suiteQ X a (((a, oe) :: l) ++ (X.pn ++ pins)) xe) [] σ' H' { s' with heap := h4 }) → Q₁ () { s' with heap := h4 }) → wpAny (model X.prog X.w) (X.A.mark (some (.ref a))) (setFlight (.ref a) none) Q₁ E₁ { s' with heap := h3 }) →
      codeAny (model X.prog X.w) (X.A.mark (some (.ref a))) (.handlers (.ref a) [.ExceptHandler none nm body pos'] X.env) (fun r s₂ => match r with
          | .ok f => (match nm with
            | none => Q f s₂
            | some n => wpAny (model X.prog X.w) X.A (do bindName X.env n .none; unbindBehindTheSuite X.env n pos') (fun _ s₃ => Q f s₃) X.xe s₂)
          | .error x => cameBackBy (model X.prog X.w) X.A X.env X.xe x s₂) { s' with heap := h3 })
    (hn : n ≤ 1) :
    wpAny (model X.prog X.w) X.A (noteFrame u X.env) (fun _ s₂ => wpAny (model X.prog X.w) X.A (setFlight u none) (fun _ s₃ => wpAny (model X.prog X.w) X.A (handleBy u X.env [.ExceptHandler (some (.Name x np)) nm body pos']) Q X.xe s₃) X.xe s₂) X.xe s' := by
  obtain ⟨a, B, sI, pins', σ', H', cls, d, l, ⟨eu, J', nb⟩, ⟨up, sky⟩, ⟨na, os, ag⟩, w, tl⟩ := xx
  subst eu
  have hfr : X.A.frames = some (X.env :: X.outer) := by rw [ok.frames, hs]
  have J : Inv X pins σ' H' sI := J'.ofTry ok
  have sky' : Sky B (X.env :: X.outer) a (Zk cls d l) X.env.locals s'.heap := by rw [← hs]; exact sky
  have hb1 := hW _ _ _ _ w
  refine L2N.Sky.land Zk.kept hfr hf sky' fun h3 fl3 up3 => ?_
  have J3 : Inv X pins σ' H' { s' with heap := h3 } := J.landed nb fl3.1 (up.trans up3) os ag
  obtain ⟨oe3, vs3, he3, hz3, hd3⟩ := fl3.there
  have offF : ∀ {h : Heap} {o : Obj} {ws : Array Value} {b : Addr}, h.FunFrames B (X.env :: X.outer) → h.get? b = some o → o.data = .fields ws → b ≠ X.env.locals ∧ b ∉ X.fs := fun {h o ws b} ff e dd => by
    have nf : b ∉ frs (X.env :: X.outer) := fun hm => by
      obtain ⟨_, o', e', z⟩ := ff.mem hm
      rw [e] at e'
      cases e'
      exact z _ dd
    refine ⟨fun z => nf (List.mem_filterMap.mpr ⟨X.env, List.mem_cons_self, by rw [hf, z]⟩), fun hm => ?_⟩
    obtain ⟨v, hv, q⟩ := List.mem_filterMap.mp hm
    exact nf (List.mem_filterMap.mpr ⟨v, List.mem_cons_of_mem _ hv, q⟩)
  obtain ⟨nL, nF⟩ := offF fl3.2.2.1 he3 hd3
  have S3 := J3.suite he3 hd3 na nL nF
  refine wpAny_handleBy_cons (codeAny_handlers_test ?_) (by intro q; cases q)
  have itsCls : PySem.W.Looks (model X.prog X.w) h3 (typeOf (.ref a)) cls := fun _ _ _ _ kp z => wpAny_typeOf_ref (kp _ _ he3) (by rw [hz3.1]; exact z)
  have isOne := PySem.W.exm_one (M := model X.prog X.w) (J3.kIn) itsCls hb1
  have named : ∀ {R : Value → Shared → Prop} {O : Value → Shared → Prop}, R c { s' with heap := h3 } → wpAny (model X.prog X.w) (X.A.mark (some (.ref a))) (eval (.Name x np) X.env) R O { s' with heap := h3 } := fun {R O} z => by
    rcases hc with ⟨hg, hdbg, hm | ⟨hm, hv, hnn⟩⟩
    · exact ld_glob (X := X.suite a ((a, oe3) :: (X.pn ++ pins))) S3 hg hm z hdbg
    · exact ld_blt (X := X.suite a ((a, oe3) :: (X.pn ++ pins))) S3 hg hm hv z hnn hdbg
  refine named (isOne.here ?_)
  show codeAny _ _ _ _ _
  refine hgo a h3 σ' H' cls d l rfl w na tl.len fun Q₁ E₁ hq => ?_
  refine HandSPX.lands_againZ fl3 fun h4 fl4 up4 => ?_
  have J4 : Inv X pins σ' H' { s' with heap := h4 } := J.landed nb fl4.1 ((up.trans up3).trans up4) os ag
  obtain ⟨oe4, vs4, he4, hz4, hd4⟩ := fl4.there
  have at4 : ∀ q ∈ l, h4.get? q.1 = some q.2 := fun q hq => fl4.1 _ _ (tl.at_ q hq)
  have fields : ∀ l : List (Addr × Obj), Chained l → ∀ q ∈ l, ∃ ws : Array Value, q.2.data = .fields ws := fun l => by
    induction l with
    | nil => exact fun _ q hq => by cases hq
    | cons p r ih => exact fun hch q hq => (List.mem_cons.mp hq).elim (fun z => by rw [z]; exact hch.1) (ih hch.2.2.2 q)
  refine hq h4 oe4 hz4 ⟨rfl, ⟨⟨vs4, hd4⟩, hz4.2.2, fun p hp => tl.ne p hp, tl.ch⟩, by have := tl.len; simp only [List.length_cons]; omega, fun q hq => List.mem_append_left _ hq⟩ (fun q hq => (List.mem_cons.mp hq).elim (fun z => by rw [z]; exact tl.bz) (tl.ba q)) fun xe => suiteQ_in J4 fun q hq => ?_
  rcases List.mem_cons.mp hq with z | z
  · subst z
    exact ⟨he4, na, nL, nF, fun v z => by have z2 : oe4.data = .cell v := z; rw [hd4] at z2; cases z2⟩
  · obtain ⟨ws, fd⟩ := fields l tl.ch q z
    obtain ⟨n1, n2⟩ := offF fl4.2.2.1 (at4 q z) fd
    exact ⟨at4 q z, tl.un q z, n1, n2, fun v y => by rw [fd] at y; cases y⟩
/-- what stands behind a try whose body runs through -/
theorem try_through {D : Ends} {f : Flow} {s1 : Shared} {xe : Value → Shared → Prop} (ok : X.Ok) (hsp : SP (X.tr (X.pn ++ pins) xe) [] D f s1) : match f with | .next => wpAny (model X.prog X.w) X.A (execs [] X.env) (SP X pins D) X.xe s1 | f => SP X pins D f s1 := by
  cases f with
  | next =>
    obtain ⟨σ', H', J', q⟩ := hsp
    exact wpAny_execs_nil ⟨σ', H', J'.ofTry ok, q⟩
  | brk =>
    obtain ⟨σ', H', J', q⟩ := hsp
    exact ⟨σ', H', J'.ofTry ok, q⟩
  | cont =>
    obtain ⟨σ', H', J', q⟩ := hsp
    exact ⟨σ', H', J'.ofTry ok, q⟩
  | ret u =>
    obtain ⟨v, σ', H', J', r, q⟩ := hsp
    exact ⟨v, σ', H', J'.ofTry ok, r, q⟩
end
section
variable {X : Cx} {x nm : Str} {c : Value} {body suite : List Stmt} {b₀ : Stmt} {np pos pos' : Pos} {tb : WX → TS} {ts : Addr → Value → Option Addr → TS} {n : Nat}
theorem ps_try_onlyK (hs : X.stack = X.env :: X.outer) (hf : X.env.frame = some X.env.locals) (hc : Names X x c) (hpa : ∀ hd : Option Value, PassesOwnAt (model X.prog X.w) (X.A.mark hd) X.A X.env X.xe) (hn : n ≤ 1)
    (hb : ∀ (W : WX) (pn : List (Addr × Obj)) (xe : Value → Shared → Prop), TakesK n (X.tr pn xe) W → PassesOwn (model X.prog X.w) X.A X.env xe → PSs (X.tr pn xe) body (tb W))
    (hsu : ∀ (a : Addr) (oe : Obj) (cls : Value) (d : Option Addr) (l pn : List (Addr × Obj)), Zk cls d l oe → l.length ≤ n → Hands (suiteQ X a (((a, oe) :: l) ++ pn) X.xe) ((a, oe) :: l) → (∀ q ∈ (a, oe) :: l, X.base.get? q.1 = none) →
      (∀ m W, TakesK m X W → TakesK m (suiteQ X a (((a, oe) :: l) ++ pn) X.xe) W) → PSs (suiteQ X a (((a, oe) :: l) ++ pn) X.xe) (b₀ :: suite) (ts a cls d)) :
    PS X (.Try body [.ExceptHandler (some (.Name x np)) none (b₀ :: suite) pos'] [] [] pos) (fun D σ H => tb (wHit X.K c ts D) D σ H) := by
  refine ⟨fun pins s σ H D I h => ?_⟩
  have ok := I.ok
  refine wpAny_Try_except (wpAny_mono ((hb (wHit X.K c ts D) (X.pn ++ pins) (fun e s₁ => wpAny (model X.prog X.w) X.A (noteFrame e X.env) (fun _ s₂ => wpAny (model X.prog X.w) X.A (setFlight e none) (fun _ s₃ =>
    wpAny (model X.prog X.w) X.A (handleBy e X.env [.ExceptHandler (some (.Name x np)) none (b₀ :: suite) pos']) (SP X pins D) X.xe s₃) X.xe s₂) X.xe s₁) (fun u s' xx => ?_) PassesOwn.looking).run [] s σ H D (I.toTry _) h) (fun f s1 hsp => by cases f <;> exact try_through ok hsp) fun _ _ he => he)
  refine catchK hs hf hc ok xx (fun _ _ _ _ w => w.1) (fun a h3 σ' H' cls d l eu w na hl hgo => ?_) hn
  refine codeAny_handlers_suite (hgo _ _ fun h4 oe hz hands hba hI => ?_)
  refine wpAny_mono ((hsu a oe cls d l (X.pn ++ pins) hz hl hands hba fun m W tk => suiteQ_takes tk ok).run [] _ σ' H' D (hI X.xe) (w.2 a na)) (fun f s6 hsp => ?_) fun e6 s6 z => hpa (some (.ref a)) e6 s6 z
  cases f with
  | next =>
    obtain ⟨σ6, H6, S6, q6⟩ := hsp
    exact ⟨_, _, suiteQ_out S6 ok, q6⟩
  | brk =>
    obtain ⟨σ6, H6, S6, q6⟩ := hsp
    exact ⟨_, _, suiteQ_out S6 ok, q6⟩
  | cont =>
    obtain ⟨σ6, H6, S6, q6⟩ := hsp
    exact ⟨_, _, suiteQ_out S6 ok, q6⟩
  | ret u =>
    obtain ⟨v6, σ6, H6, S6, r6, q6⟩ := hsp
    exact ⟨_, _, _, suiteQ_out S6 ok, r6, q6⟩
/-- behind the first look at an exception that leaves a suite «as n»: the name goes, it is passed on -/
theorem as_tail {A' : Around} {L a : Addr} {B : Heap} {Z : Obj → Prop} {m : Str → Option Value} {E₂ : Value → Shared → Prop} {s : Shared} (hf : X.env.frame = some L) (hL : X.env.locals = L) (hh : HandSPX.HeldZ B (X.env :: X.outer) a Z L s.heap) (hn : s.heap.Ns L m) (hlo : X.env.kindOf nm = some .local)
    (hp : (X.env.scope.kind == .class || (X.env.scope.kind == .module && X.env.locals != X.env.globals)) = false)
    (hQ : ∀ h', HandSPX.HeldZ B (X.env :: X.outer) a Z L h' → (∀ b o, s.heap.get? b = some o → b ≠ L → (∀ ws, o.data ≠ .fields ws) → ∃ sl, h'.get? b = some { o with slots := sl }) → X.xe (.ref a) { s with heap := h', toks := s.toks + 1 }) :
    wpAny (model X.prog X.w) A' (do bindName X.env nm .none; unbindBehindTheSuite X.env nm pos')
      (fun _ s₂ => wpAny (model X.prog X.w) A' (PySem.passOn "try.except-as" (.ref a) X.env : Sem Flow) (fun _ _ => False) (notedBy (model X.prog X.w) A' X.env (cameBackBy (model X.prog X.w) X.A X.env X.xe)) s₂) E₂ s := by
  obtain ⟨b1, b0, f1, t1⟩ := hh
  have bL : B.get? L = none := by
    obtain ⟨_, ⟨L', _, hf', hb', _⟩, _⟩ := f1
    rw [hf] at hf'
    rw [Option.some.inj hf']
    exact hb'
  refine wpAny_nameGoes_keeps hlo (by rw [hL]; exact hn) hp fun h₂ v₂ hn₂ hs₂ => ?_
  rw [hL] at hn₂ hs₂
  have b2 : B.StaysIn h₂ := fun b o hb => (hs₂.2 b fun q => by rw [q, bL] at hb; cases hb).trans (b1 b o hb)
  have f2 : h₂.FunFrames B (X.env :: X.outer) := Heap.FunFrames.sameBut hs₂ hn₂ f1
  have t2 : HandSPX.TracedZ h₂ B a Z (rawInt L) := by
    obtain ⟨oe, vs, T, oT, ts, he, hz, hd, h1, hnT, hTe, hT, hdT, h3⟩ := t1
    obtain ⟨oL, es, ep, hoL, hdL, _⟩ := hn
    have off : ∀ {b : Addr} {o : Obj} {ws : Array Value}, s.heap.get? b = some o → o.data = .fields ws → b ≠ L := fun {b o ws} e dd q => by
      rw [q, hoL] at e
      obtain rfl := Option.some.inj e
      rw [hdL] at dd
      cases dd
    exact ⟨oe, vs, T, oT, ts, (hs₂.2 a (off he hd)).trans he, hz, hd, h1, hnT, hTe, (hs₂.2 T (off hT hdT)).trans hT, hdT, h3⟩
  obtain ⟨oe, vs, T, oT, ts, he, hz, hd, h1, r⟩ := id t2
  unfold PySem.passOn
  refine wpAny_bind (wpAny_field he hd h1 ?_)
  rw [if_neg (show ¬ ((Value.ref T == Value.none) = true) from by simp)]
  rw [hf]
  refine wpAny_bind (HandSPX.setFlight_anyZ (fr := some L) (l := X.env :: X.outer) b2 f2 t2 fun h₃ b3 f3 t3 k3 => ?_)
  refine wpAny_throw ?_
  show wpAny _ A' (noteFrame (.ref a) X.env) _ _ _
  refine HandSPX.againZ hf t3 ?_
  obtain ⟨oe', vs', T', oT', ts', he', hz', hd', h1', r'⟩ := id t3
  show wpAny _ X.A (do
    if (← field (.ref a) 1) == .none then unsupported "frame.own-activation:exception-without-traceback"
    setFlight (.ref a) X.env.frame) _ _ _
  refine wpAny_bind (wpAny_field he' hd' h1' ?_)
  rw [if_neg (show ¬ ((Value.ref T' == Value.none) = true) from by simp)]
  rw [hf]
  refine HandSPX.setFlight_anyZ (fr := some L) (l := X.env :: X.outer) b3 f3 t3 fun h₄ b4 f4 t4 k4 => ?_
  exact hQ h₄ ⟨b4, b0, f4, t4⟩ fun b o hb hbL nf => (k3.trans k4) b o ((hs₂.2 b hbL).trans hb) nf
/-- except x as n: suite; the suite may raise (it leaves the def) -/
theorem ps_try_asK {i m : Nat} {E : XK} {Kx : Value → Shared → Prop} {E₁ : Value → Shared → Prop} (hs : X.stack = X.env :: X.outer) (hf : X.env.frame = some X.env.locals) (hex : X.ex = []) (hN : X.N.Nodup) (hi : X.N[i]? = some nm) (hln : X.env.kindOf nm = some .local) (hc : Names X x c)
    (hx : X.xe = fun e s' => wpAny (model X.prog X.w) X.A (leaving X.env e) (fun _ s'' => Kx e s'') E₁ s') (hK : ∀ u s'', CXk X.prog X.w X.base m X.outer X.H_0 X.s_0 E u s'' → Kx u s'') (hn : n ≤ 1)
    (hb : ∀ (W : WX) (pn : List (Addr × Obj)) (xe : Value → Shared → Prop), TakesK n (X.tr pn xe) W → PassesOwn (model X.prog X.w) X.A X.env xe → PSs (X.tr pn xe) body (tb W))
    (hsu : ∀ (a : Addr) (oe : Obj) (cls : Value) (d : Option Addr) (l pn : List (Addr × Obj)) (xe : Value → Shared → Prop), Zk cls d l oe → l.length ≤ n → Hands (suiteQ X a (((a, oe) :: l) ++ pn) xe) ((a, oe) :: l) → (∀ q ∈ (a, oe) :: l, X.base.get? q.1 = none) →
      TakesK m (suiteQ X a (((a, oe) :: l) ++ pn) xe) (fun cls d _ H => E cls d H) → PSs (suiteQ X a (((a, oe) :: l) ++ pn) xe) (b₀ :: suite) (ts a cls d)) :
    PS X (.Try body [.ExceptHandler (some (.Name x np)) (some nm) (b₀ :: suite) pos'] [] [] pos) (fun D σ H => tb (wHitAs X.K c i ts D) D σ H) := by
  refine ⟨fun pins s σ H D I h => ?_⟩
  have ok := I.ok
  refine wpAny_Try_except (wpAny_mono ((hb (wHitAs X.K c i ts D) (X.pn ++ pins) (fun e s₁ => wpAny (model X.prog X.w) X.A (noteFrame e X.env) (fun _ s₂ => wpAny (model X.prog X.w) X.A (setFlight e none) (fun _ s₃ =>
    wpAny (model X.prog X.w) X.A (handleBy e X.env [.ExceptHandler (some (.Name x np)) (some nm) (b₀ :: suite) pos']) (SP X pins D) X.xe s₃) X.xe s₂) X.xe s₁) (fun u s' xx => ?_) PassesOwn.looking).run [] s σ H D (I.toTry _) h) (fun f s1 hsp => by cases f <;> exact try_through ok hsp) fun _ _ he => he)
  refine catchK hs hf hc ok xx (fun _ _ _ _ w => w.1) (fun a h3 σ' H' cls d l eu w na hl hgo => ?_) hn
  refine codeAny_handlers_suite_as (hgo _ _ fun h4 oe hz hands hba hI => ?_)
  have hcls : (X.env.scope.kind == .class || (X.env.scope.kind == .module && X.env.locals != X.env.globals)) = false := by rw [ok.kind]; rfl
  refine store_ok (X := suiteQ X a (((a, oe) :: l) ++ (X.pn ++ pins)) X.xe) (v := .ref a) (hI _) hN hi (.inl hln) rfl (fun s5 S5 => ?_) (.inr hln)
  have key : ∀ xe : Value → Shared → Prop, TakesK m (suiteQ X a (((a, oe) :: l) ++ (X.pn ++ pins)) xe) (fun cls d _ H => E cls d H) → wpAny (model X.prog X.w) (X.A.mark (some (.ref a))) (execs (b₀ :: suite) X.env)
      (SP (suiteQ X a (((a, oe) :: l) ++ (X.pn ++ pins)) xe) [] { nx := fun σ' H' => D.nx (σ'.set i none) H', rt := D.rt, bk := fun σ' H' => D.bk (σ'.set i none) H', ct := fun σ' H' => D.ct (σ'.set i none) H' }) xe s5 := fun xe tk =>
    (hsu a oe cls d l (X.pn ++ pins) xe hz hl ⟨hands.1, hands.2.1, hands.2.2⟩ hba tk).run [] s5 _ H' _ (suiteQ_xe S5) (w.2 a na)
  refine wpAny_mono (key _ ?_) (fun f s6 hsp => ?_) fun _ _ z => z
  · rintro u2 s2 ⟨a2, B2, sI2, pn2, σ2, H2, cls2, d2, l2, ⟨e2, I2, nb2⟩, ⟨up2, sky2⟩, ⟨na2, os2, ag2⟩, w2, tl2⟩
    subst e2
    have fr2 : (X.A.mark (some (.ref a))).frames = some (X.env :: X.outer) := by rw [I2.ok.frames]; exact congrArg some hs
    have sky3 : Sky B2 (X.env :: X.outer) a2 (Zk cls2 d2 l2) X.env.locals s2.heap := by rw [← hs]; exact sky2
    obtain ⟨m2, hns, _⟩ := I2.loc
    refine sky_note Zk.kept fr2 hf sky3 fun h5 hh5 up5 => ?_
    refine as_tail (s := { s2 with heap := h5 }) (nm := nm) hf rfl hh5 (Heap.UpToSlots.ns (up2.trans up5) hns) hln hcls fun h6 hh6 k6 => ?_
    rw [hx]
    refine HandSPX.leaves_heldZ hf hh6 fun h7 fl7 up7 => hK _ _ ?_
    exact flown (s' := { s2 with heap := h6, toks := s2.toks + 1 }) hs hf hex (suiteQ_out I2 ok) nb2 (fun b o hbL q nf => by
      obtain ⟨sl, q2⟩ := (up2.trans up5) b o q nf
      obtain ⟨sl2, q3⟩ := k6 b _ q2 hbL nf
      exact ⟨sl2, q3⟩) fl7 up7 na2 os2 ag2 w2 tl2
  · have end_ : ∀ {σ6 : L2.St} {H6 : Hp} {Q : Shared → Prop}, Inv X pins σ6 H6 s6 → (∀ s7, Inv X pins (σ6.set i none) H6 s7 → Q s7) → wpAny (model X.prog X.w) X.A (do bindName X.env nm .none; unbindBehindTheSuite X.env nm pos') (fun _ s7 => Q s7) X.xe s6 := fun {σ6 H6 Q} S6 hq => gone_ok S6 hN hi hln hq
    cases f with
    | next =>
      obtain ⟨σ6, H6, S6, q6⟩ := hsp
      exact end_ (suiteQ_out S6 ok) fun s7 J7 => ⟨_, _, J7, q6⟩
    | brk =>
      obtain ⟨σ6, H6, S6, q6⟩ := hsp
      exact end_ (suiteQ_out S6 ok) fun s7 J7 => ⟨_, _, J7, q6⟩
    | cont =>
      obtain ⟨σ6, H6, S6, q6⟩ := hsp
      exact end_ (suiteQ_out S6 ok) fun s7 J7 => ⟨_, _, J7, q6⟩
    | ret u =>
      obtain ⟨v6, σ6, H6, S6, r6, q6⟩ := hsp
      exact end_ (suiteQ_out S6 ok) fun s7 J7 => ⟨_, _, _, J7, r6, q6⟩
end
end Q7
set_option maxHeartbeats 4000000
namespace Q7
open PySem PySem.Spec PyProof.Rows L2
/-! ### super().__init__(..) of own exceptions, at the heap's level -/
/-- an __init__ that says super(), as it stands behind the top: D its class -/
structure SupTxt (K : PySem.W.Frag) (prog : Program) (qual : Str) (params : Arguments) (body : List Stmt) (scope : Scope) (D f : Addr) : Prop where
  fn : ∃ (oc : Value) (od : Option Addr) (kV doc pm : Value) (an : Option Addr) (cda : Addr) (ct : Value) (cc : Addr) (osl : Array (Option Value)),
    K.lookup f = some ⟨oc, od, .func (PySem.W.ksFn "__init__" qual params body scope .none kV doc pm an (.ref cda) ct cc), osl⟩ ∧ PySem.W.codeIn K (.ref cda) qual = true ∧
      (∃ ccl cdd vs ccs file tf, K.lookup cda = some ⟨ccl, cdd, .fields vs, ccs⟩ ∧ vs[2]? = some (.str file tf) ∧ ((prog.main.file : Str) == file) = true) ∧ ∃ cl cld csl, K.lookup cc = some ⟨cl, cld, .cell (some (.ref D)), csl⟩
  cls : ∃ cd, PySem.W.clsIn K D = some cd
/-- what the names and the boot say, for any __init__ of this kind -/
structure SupScope (prog : Program) (params : Arguments) (scope : Scope) : Prop where
  sup : scope.names.lookup ("super" : Str) = some .globalImplicit
  cell : scope.names.lookup ("__class__" : Str) = some .free
  self : scope.names.lookup ("self" : Str) = some .local
  kind : scope.kind = .function
  co : scope.isCoroutine = false
  gen : scope.isGenerator = false
  nc : ∀ y ∈ scope.names, y.2 ≠ .cell
  par : ∃ ar, (params.posonlyargs ++ params.args).head? = some ar ∧ ar.arg = "self"
  top : (prog.main.scope.names.lookup ("super" : Str)).isSome = false
section
variable {prog : Program} {w : World} {A : Around} {E : Value → Shared → Prop} {s : Shared} {K : PySem.W.Frag} {mg : Str → Option Value} {base : Heap} {qual : Str} {params : Arguments} {body : List Stmt} {scope : Scope} {C D f x L : Addr} {m : Str → Option Value} {ox : Obj}
/-- the object super() -/
theorem sup_obj {cda cc : Addr} {p0 p1 : Pos} {whole : Sem Value} {Q : Value → Shared → Prop} {oc : Value} {od : Option Addr} {fd : FuncData} {osl : Array (Option Value)} (M : Mod K mg base) (bk : ∀ b o, base.get? b = some o → s.heap.get? b = some o) (SS : SupScope prog params scope)
    (lk : K.lookup f = some ⟨oc, od, .func fd, osl⟩) (hfp : fd.params = params) (hcode : ∃ ccl cdd vs ccs file tf, K.lookup cda = some ⟨ccl, cdd, .fields vs, ccs⟩ ∧ vs[2]? = some (.str file tf) ∧ ((prog.main.file : Str) == file) = true)
    (hcell : ∃ cl cld csl, K.lookup cc = some ⟨cl, cld, .cell (some (.ref D)), csl⟩) (hcl : ∃ cd, PySem.W.clsIn K D = some cd) (gs : mg "super" = none)
    (hn : s.heap.Ns L m) (hm : m "self" = some (.ref x)) (hx : s.heap.get? x = some ox) (hxc : ox.cls = .ref C) (hnc : ∀ c, ox.data ≠ .cls c) (hsub : PySem.W.mroIn K C (.ref D) = some true)
    (h : ∀ h', (∀ y o, s.heap.get? y = some o → h'.get? y = some o) → h'.get? s.heap.objs.size = some (PySem.W.ks_superObj D x C) → Q (.ref s.heap.objs.size) { s with heap := h' }) :
    _root_.PySem.wpAt (model prog w) A (.func body (PySem.W.ksEnv qual scope L f (.ref cda) cc)) (attributeBase (.Call (.Name "super" p0) [] [] p1) "__init__" (PySem.W.ksEnv qual scope L f (.ref cda) cc) whole) Q E s := by
  obtain ⟨ccl, cdd, vs, ccs, file, tf, hcda, hvs, hfile⟩ := hcode
  obtain ⟨cl, cld, csl, hcc⟩ := hcell
  obtain ⟨cdD, hD⟩ := hcl
  obtain ⟨ar, hp, har⟩ := SS.par
  have X : K.In s.heap := M.kin.keeps bk
  obtain ⟨mb, hb1, hb2⟩ := M.blt
  obtain ⟨hh, g, d, t, os⟩ := s
  obtain ⟨oD, hD1, hD2⟩ : ∃ oD, hh.get? D = some oD ∧ oD.data = .cls cdD := by
    unfold PySem.W.clsIn at hD
    split at hD
    · rename_i c d cd' sl ho
      cases hD
      exact ⟨_, X _ _ ho, rfl⟩
    · cases hD
  refine PySem.ks_wpAt_super_base (env := PySem.W.ksEnv qual scope L f (.ref cda) cc) SS.sup SS.cell (by decide) rfl (X _ _ lk) rfl (by rw [hfp]; exact hp) rfl (X _ _ hcda) rfl hvs hfile SS.top ?_
  refine PySem.W.ks_loadName_global SS.kind SS.sup (PySem.Calls.loadGlobal_builtin (env := PySem.W.ksEnv qual scope L f (.ref cda) cc) (M.glob.keeps bk) gs (hb1.keeps bk) ((hb2 _ (by decide)).trans (by decide +kernel)) ⟨rfl, ?_⟩)
  refine wpAny_loadName_free SS.kind SS.cell rfl ⟨_, X _ _ hcc, rfl⟩ ?_
  rw [har]
  refine wpAny_loadName_local SS.kind SS.self hn hm ?_
  refine PySem.ks_wpAny_isType_cls hD1 hD2 ⟨rfl, ?_⟩
  exact PySem.ks_wpAny_call_super hD1 hD2 hx hxc hnc (PySem.W.looks_mroIn X hsub) fun h' e k => h h' k e
/-- the call of the bound ValueError.__init__ -/
theorem ve_called {u t0 : Addr} {hp : Heap} {g : Array GenState} {dr : Drawn} {tk : Nat} {os : OsState} {rest : List Value} {Q : Value → Shared → Prop} {nm q : Str} {N : Addr} {bs bm : List Value} {hdct : Bool} {sn : List Str} {sub : List Value} {ab : Bool} {col : Option Bool} {dd : Option Addr} {k0 k1 k2 k3 k5 : Option Value}
    (hC : hp.get? C = some (excClassObj nm q C N bs bm hdct sn sub ab col dd k0 k1 k2 k3 k5 "ValueError.__new__")) (hbm : PySem.HandSPX.refsVE bm = true) (hu : hp.get? u = some (PySem.W.kxs_mw "ValueError.__init__" x)) (hx : hp.get? x = some (PySem.HandSPX.excO C t0)) (hz : rest.length ≤ sizeLine)
    (h : ∀ h' t1, (∀ b o, b ≠ x → hp.get? b = some o → h'.get? b = some o) → h'.get? x = some (PySem.HandSPX.excO C t1) → Q .none ⟨h', g, dr, tk, os⟩) : wpAny (model prog w) A (call (.ref u) rest) Q E ⟨hp, g, dr, tk, os⟩ := by
  refine wpAny_call (codeAny_of_tree ?_)
  show wpAny _ A.in1 (callAny (.ref u) ⟨rest, []⟩) _ _ _
  simp only [callAny]
  refine wpAny_bind (wpAny_load hu ?_)
  simp only [PySem.W.kxs_mw, show (Value.type "method-wrapper" == Value.type "method" || Value.type "method-wrapper" == Value.type "builtin_function_or_method" || Value.type "method-wrapper" == Value.type "method-wrapper") = true by decide, if_true]
  refine PySem.W.KFB.if_so (by decide) ?_
  refine wpAny_bind (PySem.W.check_bound_init F.excBase_ValueError.toExcCallFacts hC hx rfl ?_)
  refine wpAny_bind (wpAny_pure (wpAny_pure ?_))
  refine ⟨plainId_quiet F.excBase_ValueError.init.plain _, codeAny_builtin F.excBase_ValueError.initEntry ?_⟩
  exact PySem.W.exc_init_tree (cls := .ref C) (t0 := t0) (dv := none) (c2 := .none) (c3 := .none) (b4 := .bool false) hx hz fun h' k e _ => h h' _ k e
/-- super().__init__('msg') where ValueError.__init__ is next -/
theorem sup_ve {pl : Sem Bool} {cda cc t0 : Addr} {p0 p1 p2 p3 p4 : Pos} {msg : Str} {j : Nat} {Q : Value → Shared → Prop} {oc : Value} {od : Option Addr} {fd : FuncData} {osl : Array (Option Value)} {nm q : Str} {N : Addr} {bs bm : List Value} {hdct : Bool} {sn : List Str} {sub : List Value} {ab : Bool} {col : Option Bool} {dd : Option Addr} {k0 k1 k2 k3 k5 : Option Value}
    (M : Mod K mg base) (bk : ∀ b o, base.get? b = some o → s.heap.get? b = some o) (SS : SupScope prog params scope)
    (lk : K.lookup f = some ⟨oc, od, .func fd, osl⟩) (hfp : fd.params = params) (hcode : ∃ ccl cdd vs ccs file tf, K.lookup cda = some ⟨ccl, cdd, .fields vs, ccs⟩ ∧ vs[2]? = some (.str file tf) ∧ ((prog.main.file : Str) == file) = true)
    (hcell : ∃ cl cld csl, K.lookup cc = some ⟨cl, cld, .cell (some (.ref D)), csl⟩) (hcl : ∃ cd, PySem.W.clsIn K D = some cd) (gs : mg "super" = none)
    (hn : s.heap.Ns L m) (hm : m "self" = some (.ref x)) (hx : s.heap.get? x = some (PySem.HandSPX.excO C t0)) (hsub : PySem.W.mroIn K C (.ref D) = some true)
    (hC : K.lookup C = some (excClassObj nm q C N bs bm hdct sn sub ab col dd k0 k1 k2 k3 k5 "ValueError.__new__")) (hbm : PySem.HandSPX.refsVE bm = true) (nx : K.lookup x = none) (op : PySem.W.nsIn K PySem.cStatics "thirdparty.any" = some none)
    (he : eval (.Call (.Attribute (.Call (.Name "super" p0) [] [] p1) "__init__" p2) [.Constant (.str msg) j p3] [] p4) (PySem.W.ksEnv qual scope L f (.ref cda) cc) = (do
      let ov ← attributeBase (.Call (.Name "super" p0) [] [] p1) "__init__" (PySem.W.ksEnv qual scope L f (.ref cda) cc) (eval (.Call (.Name "super" p0) [] [] p1) (PySem.W.ksEnv qual scope L f (.ref cda) cc))
      standAt p2.atName
      let (ff, first) ← holding [ov] (getMethod ov "__init__" pl)
      callWith p4 ff first (backTo p4 (starEach [.Constant (.str msg) j p3] (PySem.W.ksEnv qual scope L f (.ref cda) cc))) []))
    (ks : PySem.W.ks_superIn K C D "__init__" = some (some (.builtin "ValueError.__init__"))) (hve : PySem.W.subIn K (.ref C) (.type "ValueError") = some true)
    (h : ∀ h' tk t1, (∀ b o, b ≠ x → s.heap.get? b = some o → h'.get? b = some o) → h'.get? x = some (PySem.HandSPX.excO C t1) → Q .none { s with heap := h', toks := tk }) :
    _root_.PySem.wpAt (model prog w) A (.func body (PySem.W.ksEnv qual scope L f (.ref cda) cc)) (eval (.Call (.Attribute (.Call (.Name "super" p0) [] [] p1) "__init__" p2) [.Constant (.str msg) j p3] [] p4) (PySem.W.ksEnv qual scope L f (.ref cda) cc)) Q E s := by
  have cd0 : ∃ cd, PySem.W.clsIn K C = some cd ∧ cd.mro = .ref C :: bm := ⟨_, by unfold PySem.W.clsIn; rw [hC] <;> rfl, rfl⟩
  obtain ⟨cdC, hcdC, hmro⟩ := cd0
  have nxC : x ≠ C := fun z => by
    rw [z, hC] at nx
    cases nx
  have X : K.In s.heap := M.kin.keeps bk
  refine PySem.ks_wpAt_MethodCall (sup_obj M bk SS lk hfp hcode hcell hcl gs hn hm hx rfl (fun c q => by cases q) hsub fun h1 u1 e1 => ?_) he
  obtain ⟨hp, g, dr, tk, os⟩ := s
  have X1 : K.In h1 := X.keeps u1
  have ks' : PySem.W.alongIn K "__init__" ((cdC.mro.dropWhile (· != .ref D)).drop 1) = some (some (.builtin "ValueError.__init__")) := by
    unfold PySem.W.ks_superIn at ks
    rw [hcdC] at ks
    exact ks
  have I1 : PySem.W.InstAt h1 x (PySem.HandSPX.excO C t0) C none := ⟨u1 _ _ hx, rfl, rfl, trivial⟩
  refine PySem.W.kxs_getMethod PySem.W.kxs_ValueError (l₀ := cdC.mro) e1 (PySem.W.looks_opaque X1 op) (fun A Q E s k q => wpAny_bind ((PySem.W.looks_clsIn X1 hcdC) A _ E s k (wpAny_pure q))) rfl X1 ks' (I1.type.andThen (PySem.W.looks_subIn X1 hve)) nxC (by decide) ?_
  have u2 : ∀ b o, h1.get? b = some o → (h1.push (PySem.W.kxs_mw "ValueError.__init__" x)).get? b = some o := fun b o e => Heap.get?_push_of_some _ e
  show wpAny _ _ (callWith p4 (.ref h1.objs.size) [] [(false, eval (.Constant (.str msg) j p3) _)] []) _ _ _
  refine PySem.W.kxs_callWith (i := "ValueError.__init__") (x := x) rfl (Calls.evalArgs_plain (Calls.spliced_cons (Calls.Constant_str (Calls.spliced_nil ⟨Heap.get?_push_size _ rfl, ?_⟩))))
  show wpAny _ _ (call (.ref h1.objs.size) [.str msg _]) _ _ _
  exact ve_called (u2 _ _ (X1 _ _ hC)) hbm (Heap.get?_push_size _ rfl) (u2 _ _ (u1 _ _ hx)) (by show 1 ≤ sizeLine; decide) fun h' t1 k e => h h' _ t1 (fun b o nb q => k b o nb (u2 _ _ (u1 _ _ q))) e
/-- super().__init__('msg') where an own __init__, at f2, is next -/
theorem sup_own {pl : Sem Bool} {cda cc t0 f2 : Addr} {p0 p1 p2 p3 p4 : Pos} {msg : Str} {j : Nat} {Q : Value → Shared → Prop} {oc : Value} {od : Option Addr} {fd : FuncData} {osl : Array (Option Value)} {nm q : Str} {N : Addr} {bs bm : List Value} {hdct : Bool} {sn : List Str} {sub : List Value} {ab : Bool} {col : Option Bool} {dd : Option Addr} {k0 k1 k2 k3 k5 : Option Value}
    (M : Mod K mg base) (bk : ∀ b o, base.get? b = some o → s.heap.get? b = some o) (SS : SupScope prog params scope)
    (lk : K.lookup f = some ⟨oc, od, .func fd, osl⟩) (hfp : fd.params = params) (hcode : ∃ ccl cdd vs ccs file tf, K.lookup cda = some ⟨ccl, cdd, .fields vs, ccs⟩ ∧ vs[2]? = some (.str file tf) ∧ ((prog.main.file : Str) == file) = true)
    (hcell : ∃ cl cld csl, K.lookup cc = some ⟨cl, cld, .cell (some (.ref D)), csl⟩) (hcl : ∃ cd, PySem.W.clsIn K D = some cd) (gs : mg "super" = none)
    (hn : s.heap.Ns L m) (hm : m "self" = some (.ref x)) (hx : s.heap.get? x = some (PySem.HandSPX.excO C t0)) (hsub : PySem.W.mroIn K C (.ref D) = some true)
    (hC : K.lookup C = some (excClassObj nm q C N bs bm hdct sn sub ab col dd k0 k1 k2 k3 k5 "ValueError.__new__")) (nx : K.lookup x = none) (op : PySem.W.nsIn K PySem.cStatics "thirdparty.any" = some none)
    (he : eval (.Call (.Attribute (.Call (.Name "super" p0) [] [] p1) "__init__" p2) [.Constant (.str msg) j p3] [] p4) (PySem.W.ksEnv qual scope L f (.ref cda) cc) = (do
      let ov ← attributeBase (.Call (.Name "super" p0) [] [] p1) "__init__" (PySem.W.ksEnv qual scope L f (.ref cda) cc) (eval (.Call (.Name "super" p0) [] [] p1) (PySem.W.ksEnv qual scope L f (.ref cda) cc))
      standAt p2.atName
      let (ff, first) ← holding [ov] (getMethod ov "__init__" pl)
      callWith p4 ff first (backTo p4 (starEach [.Constant (.str msg) j p3] (PySem.W.ksEnv qual scope L f (.ref cda) cc))) []))
    (ks : PySem.W.ks_superIn K C D "__init__" = some (some (.ref f2))) (tf2 : PySem.W.typeIn K (.ref f2) = some (.type "function")) (ff2 : PySem.W.fnIn K f2 = true)
    (h : ∀ h' tk tk2, (∀ b o, s.heap.get? b = some o → h'.get? b = some o) → codeAny (model prog w) A (.call (.ref f2) ⟨[.ref x, .str msg tk2], []⟩) (fun r s' => match r with
      | .ok (.ret v) => Q v s'
      | .ok _ => False
      | .error e => E e s') { s with heap := h', toks := tk }) :
    _root_.PySem.wpAt (model prog w) A (.func body (PySem.W.ksEnv qual scope L f (.ref cda) cc)) (eval (.Call (.Attribute (.Call (.Name "super" p0) [] [] p1) "__init__" p2) [.Constant (.str msg) j p3] [] p4) (PySem.W.ksEnv qual scope L f (.ref cda) cc)) Q E s := by
  have cd0 : ∃ cd, PySem.W.clsIn K C = some cd ∧ cd.mro = .ref C :: bm := ⟨_, by unfold PySem.W.clsIn; rw [hC] <;> rfl, rfl⟩
  obtain ⟨cdC, hcdC, hmro⟩ := cd0
  have nxC : x ≠ C := fun z => by
    rw [z, hC] at nx
    cases nx
  have X : K.In s.heap := M.kin.keeps bk
  refine PySem.ks_wpAt_MethodCall (sup_obj M bk SS lk hfp hcode hcell hcl gs hn hm hx rfl (fun c q => by cases q) hsub fun h1 u1 e1 => ?_) he
  obtain ⟨hp, g, dr, tk, os⟩ := s
  have X1 : K.In h1 := X.keeps u1
  have ks' : PySem.W.alongIn K "__init__" ((cdC.mro.dropWhile (· != .ref D)).drop 1) = some (some (.ref f2)) := by
    unfold PySem.W.ks_superIn at ks
    rw [hcdC] at ks
    exact ks
  obtain ⟨o2, ho2, hc2⟩ : ∃ o2, h1.get? f2 = some o2 ∧ o2.cls = .type "function" := by
    have z0 : (K.lookup f2).map (·.cls) = some (.type "function") := tf2
    cases z : K.lookup f2 with
    | none =>
      rw [z] at z0
      cases z0
    | some o2 =>
      rw [z] at z0
      exact ⟨o2, X1 _ _ z, Option.some.inj z0⟩
  refine PySem.ks_wpAny_getMethod_super (l₀ := cdC.mro) e1 (PySem.W.looks_opaque X1 op) (fun A Q E s k q => wpAny_bind ((PySem.W.looks_clsIn X1 hcdC) A _ E s k (wpAny_pure q))) rfl X1 ks' ho2 hc2 nxC (by decide) ?_
  have u2 : ∀ b o, h1.get? b = some o → (h1.push (PySem.W.methodObj (.ref f2) (.ref x))).get? b = some o := fun b o e => Heap.get?_push_of_some _ e
  show wpAny _ _ (callWith p4 (.ref h1.objs.size) [] [(false, eval (.Constant (.str msg) j p3) _)] []) _ _ _
  refine PySem.W.callWith_of rfl (PySem.W.keeps_M (K := K) (self := .ref x) ff2) (Calls.evalArgs_plain (Calls.spliced_cons (Calls.Constant_str (Calls.spliced_nil ⟨⟨Heap.get?_push_size _ rfl, X1.keeps u2⟩, ?_⟩))))
  refine wpAny_call (PySem.W.method_call (Heap.get?_push_size _ rfl) ?_)
  exact codeAny_mono (h _ _ _ fun b o q => u2 _ _ (u1 _ _ q)) fun r s' z => by
    rcases r with e | (v | _ | _ | _) <;> exact z
end
end Q7
set_option maxHeartbeats 4000000
namespace Q7
open PySem PySem.Spec PyProof.Rows L2
/-! ### the two kinds of __init__ -/
/-- the start of each: super().__init__('msg') -/
def supSt (msg : Str) (j : Nat) (p0 p1 p2 p3 p4 p5 : Pos) : Stmt := .Expr (.Call (.Attribute (.Call (.Name "super" p0) [] [] p1) "__init__" p2) [.Constant (.str msg) j p3] [] p4) p5
def putSt (f g : Str) (q0 q1 q2 q3 : Pos) : Stmt := .Assign [.Attribute (.Name "self" q0) f q1] (.Name g q2) q3
/-- the evaluation of its call, said as the rules want it -/
def SupEval (msg : Str) (j : Nat) (p0 p1 p2 p3 p4 : Pos) (env : Env) : Prop := ∃ pl : Sem Bool, eval (.Call (.Attribute (.Call (.Name "super" p0) [] [] p1) "__init__" p2) [.Constant (.str msg) j p3] [] p4) env = (do
      let ov ← attributeBase (.Call (.Name "super" p0) [] [] p1) "__init__" env (eval (.Call (.Name "super" p0) [] [] p1) env)
      standAt p2.atName
      let (ff, first) ← holding [ov] (getMethod ov "__init__" pl)
      callWith p4 ff first (backTo p4 (starEach [.Constant (.str msg) j p3] env)) [])
/-- a record that has got its dict: the fields ns -/
structure Dressed (h h' : Heap) (x C dx : Addr) (ns : Str → Option Value) : Prop where
  keep : ∀ b o, b ≠ x → h.get? b = some o → h'.get? b = some o
  obj : ∃ t1 : Addr, h'.get? x = some ({ cls := .ref C, dict := some dx, data := .fields #[.ref t1, .none, .none, .none, .bool false, .none] } : Obj)
  big : h.objs.size ≤ dx
  ne : dx ≠ x
  ns : h'.Ns1 dx ns
/-- what the written part says of an own class of errors -/
structure ErrCls (K : PySem.W.Frag) (C : Addr) : Prop where
  cls : ∃ nm q N bs bm sn sub ab col dd k0 k1 k2 k3 k5, K.lookup C = some (excClassObj nm q C N bs bm true sn sub ab col dd k0 k1 k2 k3 k5 "ValueError.__new__") ∧ PySem.HandSPX.refsVE bm = true
  sa : PySem.W.findIn K (.ref C) "__setattr__" = some (some (.builtin "object.__setattr__"))
  ve : PySem.W.subIn K (.ref C) (.type "ValueError") = some true
  op : PySem.W.nsIn K PySem.cStatics "thirdparty.any" = some none
section
variable {prog : Program} {w : World} {A : Around} {R : Result → Shared → Prop} {s : Shared} {K : PySem.W.Frag} {mg : Str → Option Value} {base : Heap} {C CP fP x t0 : Addr} {params : Arguments} {scope : Scope} {qual : Str}
theorem ns_kept {h h' : Heap} {L x : Addr} {o : Obj} {ws : Array Value} {m : Str → Option Value} (n : h.Ns L m) (hx : h.get? x = some o) (hd : o.data = .fields ws) (k : ∀ b o, b ≠ x → h.get? b = some o → h'.get? b = some o) : h'.Ns L m := by
  obtain ⟨oL, es, ep, ho, hdL, r⟩ := n
  refine ⟨oL, es, ep, k _ _ (fun z => ?_) ho, hdL, r⟩
  rw [z, hx] at ho
  obtain rfl := Option.some.inj ho
  rw [hd] at hdL
  cases hdL
/-- self.f = v, the first one -/
theorem put_first {env : Env} {f g : Str} {q0 q1 q2 q3 : Pos} {v : Value} {m : Str → Option Value} {E : Value → Shared → Prop} {Q : Flow → Shared → Prop} (X : K.In s.heap) (T : ErrCls K C) (hno : PySem.W.findIn K (.ref C) f = some none) (hk : env.scope.kind = .function) (hn : s.heap.Ns env.locals m) (hm : m "self" = some (.ref x)) (hg : m g = some v)
    (ks : env.kindOf "self" = some .local) (kg : env.kindOf g = some .local) (hx : s.heap.get? x = some (PySem.HandSPX.excO C t0)) (hgd : (g == ("__debug__" : Str)) = false) (hs : swapsWith (.Name g q2) (some (.Attribute (.Name "self" q0) f q1)) q3.line env = pure false)
    (h : ∀ h' tk dx, Dressed s.heap h' x C dx (fun y => if y = f then some v else none) → Q .next { s with heap := h', toks := tk }) : wpAny (model prog w) A (exec (putSt f g q0 q1 q2 q3) env) Q E s := by
  obtain ⟨nm, q, N, bs, bm, sn, sub, ab, col, dd, k0, k1, k2, k3, k5, hC, hbm⟩ := T.cls
  have hcl : PySem.W.clsIn K C = some { name := nm, bases := bs, mro := .ref C :: bm, ns := N, qualname := q, hasDict := true, slotNames := sn, subclasses := sub, abstract := ab, collection := col, hasDel := false } := by unfold PySem.W.clsIn; rw [hC] <;> rfl
  refine plainObj_wpAny_Assign_Attribute ?_ hs
  refine wpAny_Name (wpAny_loadName_local hk kg hn hg ?_) hgd
  refine wpAny_Name (wpAny_loadName_local hk ks hn hm ?_) (by decide)
  obtain ⟨hp, gg, d, t, os⟩ := s
  refine PySem.W.set_plain X (ox := PySem.HandSPX.excO C t0) (od := none) ⟨hx, rfl, rfl, trivial⟩ T.sa ?_
  exact PySem.HandSPX.exc_osa X hx hcl (show PySem.HandSPX.refsVE (.ref C :: bm) = true from hbm) rfl hno fun h' tk' dx k dn dne hx' hn' => h h' tk' dx ⟨k, ⟨t0, hx'⟩, dn, dne, hn'⟩
/-- self.f = v, a further one -/
theorem put_more {env : Env} {f g : Str} {q0 q1 q2 q3 : Pos} {v : Value} {m m0 : Str → Option Value} {nl : List Str} {dx : Addr} {E : Value → Shared → Prop} {Q : Flow → Shared → Prop} (X : K.In s.heap) (T : ErrCls K C) (hno : PySem.W.findIn K (.ref C) f = some none) (hk : env.scope.kind = .function) (hn : s.heap.Ns env.locals m) (hm : m "self" = some (.ref x)) (hg : m g = some v)
    (ks : env.kindOf "self" = some .local) (kg : env.kindOf g = some .local) (hx : s.heap.get? x = some ({ cls := .ref C, dict := some dx, data := .fields #[.ref t0, .none, .none, .none, .bool false, .none] } : Obj)) (hd : s.heap.Ns1 dx m0) (hw : Within m0 nl) (hz : nl.length ≤ 1000) (hgd : (g == ("__debug__" : Str)) = false) (hs : swapsWith (.Name g q2) (some (.Attribute (.Name "self" q0) f q1)) q3.line env = pure false)
    (h : ∀ h' tk, (∀ b o, b ≠ dx → s.heap.get? b = some o → h'.get? b = some o) → h'.Ns1 dx (fun y => if y = f then some v else m0 y) → Q .next { s with heap := h', toks := tk }) : wpAny (model prog w) A (exec (putSt f g q0 q1 q2 q3) env) Q E s := by
  obtain ⟨nm, q, N, bs, bm, sn, sub, ab, col, dd, k0, k1, k2, k3, k5, hC, hbm⟩ := T.cls
  have hcl : PySem.W.clsIn K C = some { name := nm, bases := bs, mro := .ref C :: bm, ns := N, qualname := q, hasDict := true, slotNames := sn, subclasses := sub, abstract := ab, collection := col, hasDel := false } := by unfold PySem.W.clsIn; rw [hC] <;> rfl
  refine plainObj_wpAny_Assign_Attribute ?_ hs
  refine wpAny_Name (wpAny_loadName_local hk kg hn hg ?_) hgd
  refine wpAny_Name (wpAny_loadName_local hk ks hn hm ?_) (by decide)
  obtain ⟨oD, _, _, hoD, _, _⟩ := hd.count hw
  obtain ⟨hp, gg, d, t, os⟩ := s
  refine PySem.W.set_plain X (ox := { cls := .ref C, dict := some dx, data := .fields #[.ref t0, .none, .none, .none, .bool false, .none] }) (od := some oD) ⟨hx, rfl, rfl, hoD⟩ T.sa ?_
  exact PySem.OEX.osa_old X hx hd hw hz hcl (show PySem.HandSPX.refsVE (.ref C :: bm) = true from hbm) rfl hno fun h' tk' k hn' => h h' tk' k hn'
/-- PostError.__init__(x, v): the tuple (v,) is kept -/
theorem post_init {msg : Str} {j : Nat} {p0 p1 p2 p3 p4 p5 q0 q1 q2 q3 : Pos} {v : Value} (M : Mod K mg base) (bk : ∀ b o, base.get? b = some o → s.heap.get? b = some o) (gs : mg "super" = none) (SS : SupScope prog params scope)
    (S : SupTxt K prog qual params [supSt msg j p0 p1 p2 p3 p4 p5, putSt "values_told" "values" q0 q1 q2 q3] scope CP fP) (T : ErrCls K C) (hsub : PySem.W.mroIn K C (.ref CP) = some true) (ks : PySem.W.ks_superIn K C CP "__init__" = some (some (.builtin "ValueError.__init__")))
    (kv : scope.names.lookup ("values" : Str) = some .local) (hb : ∀ (a b : Value) (fd : FuncData), fd.params = params → fd.defaults = .none → bindArgs fd ⟨[a, b], []⟩ = (newTuple [b] >>= fun t => pure ([(("self" : Str), a), (("values" : Str), t)] : List (Str × Value))))
    (hev : ∀ L cda cc, SupEval msg j p0 p1 p2 p3 p4 (PySem.W.ksEnv qual scope L fP (.ref cda) cc)) (hsw : ∀ L cda cc, swapsWith (.Name "values" q2) (some (.Attribute (.Name "self" q0) "values_told" q1)) q3.line (PySem.W.ksEnv qual scope L fP (.ref cda) cc) = pure false)
    (hin : ∀ L cda cc, swapsWith (.Call (.Attribute (.Call (.Name "super" p0) [] [] p1) "__init__" p2) [.Constant (.str msg) j p3] [] p4) none p5.line (PySem.W.ksEnv qual scope L fP (.ref cda) cc) = pure false)
    (hno : PySem.W.findIn K (.ref C) "values_told" = some none) (hroom : A.depth < recursionLimit) (hlim : s.heap.NoLimit) (nx : K.lookup x = none) (hx : s.heap.get? x = some (PySem.HandSPX.excO C t0))
    (h : ∀ h' tk dx p, Dressed s.heap h' x C dx (fun y => if y = "values_told" then some (.ref p) else none) → R (.ok (.ret .none)) { s with heap := h', toks := tk }) : codeAny (model prog w) A (.call (.ref fP) ⟨[.ref x, v], []⟩) R s := by
  obtain ⟨oc, od, kV, doc, pm, an, cda, ct, cc, osl, lk, hcd, hcode, hcell⟩ := S.fn
  obtain ⟨nm, q, N, bs, bm, sn, sub, ab, col, dd, k0, k1, k2, k3, k5, hC, hbm⟩ := T.cls
  have X : K.In s.heap := M.kin.keeps bk
  refine codeAny_call_function hroom (X _ _ lk) rfl SS.co SS.gen rfl (PySem.W.codeRec_of X hcd) ?_
  rw [hb _ _ _ rfl rfl]
  refine wpAny_bind (wpAny_newTuple (wpAny_pure ?_) (by show 1 ≤ sizeLine; decide))
  have u1 : ∀ b o, s.heap.get? b = some o → (s.heap.push ({ cls := .type "tuple", data := .seq [v].toArray } : Obj)).get? b = some o := fun b o e => Heap.get?_push_of_some _ e
  refine wpAny_newFunctionEnv SS.nc (fun y hy => ?_) (fun h₀ hns hsb => ⟨(hlim.keeps u1).fresh _ hsb, PySem.ks_codeAny_funcAt ?_⟩) SS.kind
  · rcases List.mem_cons.mp hy with e | hy
    · rw [e]
      exact SS.self
    · rcases List.mem_cons.mp hy with e | hy
      · rw [e]
        exact kv
      · cases hy
  · have u2 : ∀ b o, (s.heap.push ({ cls := .type "tuple", data := .seq [v].toArray } : Obj)).get? b = some o → h₀.get? b = some o := fun b o e => hsb.extBut b o (Nat.ne_of_lt (Heap.lt_size e)) (Heap.get?_push_of_some _ e)
    have u3 : ∀ b o, s.heap.get? b = some o → h₀.get? b = some o := fun b o e => u2 _ _ (u1 _ _ e)
    have hi : ∀ L, interactive (PySem.W.ksEnv qual scope L fP (.ref cda) cc) = false := fun L => by
      unfold interactive
      simp [SS.kind]
    refine PySem.ks_wpAt_execs_cons (PySem.ks_wpAt_Expr_any ?_ (hi _) (hin _ _ _))
    obtain ⟨pl, he⟩ := hev (s.heap.push ({ cls := .type "tuple", data := .seq [v].toArray } : Obj)).objs.size cda cc
    refine sup_ve M (fun b o e => u3 _ _ (bk b o e)) SS lk rfl hcode hcell S.cls gs hns rfl (u3 _ _ hx) hsub hC hbm nx T.op he ks T.ve fun h1 tk1 t1 w1 e1 => ?_
    show _root_.PySem.wpAt _ _ _ (execs [putSt "values_told" "values" q0 q1 q2 q3] _) _ _ _
    have X1 : K.In h1 := fun a o e => w1 a o (fun z => by rw [z, nx] at e; cases e) (u3 _ _ (X a o e))
    have hns1 := ns_kept hns (u3 _ _ hx) rfl w1
    refine PySem.ks_wpAt_execs_cons (wpAt_of_wpAny (put_first (m := fun y => ([(("self" : Str), Value.ref x), (("values" : Str), Value.ref s.heap.objs.size)] : List (Str × Value)).reverse.lookup y) X1 T hno SS.kind hns1 rfl rfl SS.self kv e1 (by decide) (hsw _ _ _) fun h2 tk2 dx D => ?_))
    refine wpAt_of_wpAny (wpAny_execs_nil ?_)
    refine h h2 tk2 dx s.heap.objs.size ⟨fun b o nb e => D.keep b o nb (w1 b o nb (u3 b o e)), D.obj, Nat.le_trans (Nat.le_of_lt ?_) D.big, D.ne, D.ns⟩
    obtain ⟨oL, _, _, hoL, _⟩ := hns1
    exact Nat.lt_trans (show s.heap.objs.size < (s.heap.push ({ cls := .type "tuple", data := .seq [v].toArray } : Obj)).objs.size by rw [Heap.size_push]; exact Nat.lt_succ_self _) (Heap.lt_size hoL)
end
end Q7
set_option maxHeartbeats 4000000
namespace Q7
open PySem PySem.Spec PyProof.Rows L2
/-! ### own errors made: class, dict, fields -/
/-- PostError.__init__ as it stands behind the top -/
structure PostTxt (K : PySem.W.Frag) (prog : Program) (CP fP : Addr) : Prop where
  ex : ∃ (msg : Str) (j : Nat) (p0 p1 p2 p3 p4 p5 q0 q1 q2 q3 : Pos) (params : Arguments) (scope : Scope) (qual : Str), SupScope prog params scope ∧
    SupTxt K prog qual params [supSt msg j p0 p1 p2 p3 p4 p5, putSt "values_told" "values" q0 q1 q2 q3] scope CP fP ∧ scope.names.lookup ("values" : Str) = some .local ∧
    (∀ (a b : Value) (fd : FuncData), fd.params = params → fd.defaults = .none → bindArgs fd ⟨[a, b], []⟩ = (newTuple [b] >>= fun t => pure ([(("self" : Str), a), (("values" : Str), t)] : List (Str × Value)))) ∧
    (∀ L cda cc, SupEval msg j p0 p1 p2 p3 p4 (PySem.W.ksEnv qual scope L fP (.ref cda) cc)) ∧ (∀ L cda cc, swapsWith (.Name "values" q2) (some (.Attribute (.Name "self" q0) "values_told" q1)) q3.line (PySem.W.ksEnv qual scope L fP (.ref cda) cc) = pure false) ∧
    (∀ L cda cc, swapsWith (.Call (.Attribute (.Call (.Name "super" p0) [] [] p1) "__init__" p2) [.Constant (.str msg) j p3] [] p4) none p5.line (PySem.W.ksEnv qual scope L fP (.ref cda) cc) = pure false)
/-- what is told of a class of errors, its __init__ at fI -/
structure ErrAt (K : PySem.W.Frag) (C fI CP fP : Addr) : Prop where
  cls : ErrCls K C
  sub : PySem.W.mroIn K C (.ref C) = some true
  subP : PySem.W.mroIn K C (.ref CP) = some true
  ksC : PySem.W.ks_superIn K C C "__init__" = some (some (.ref fP))
  ksP : PySem.W.ks_superIn K C CP "__init__" = some (some (.builtin "ValueError.__init__"))
  tP : PySem.W.typeIn K (.ref fP) = some (.type "function")
  fnP : PySem.W.fnIn K fP = true
  n0 : PySem.W.findIn K (.ref C) "values_told" = some none
  iC : PySem.W.findIn K (.ref C) "__init__" = some (some (.ref fI))
  tI : PySem.W.typeIn K (.ref fI) = some (.type "function")
  exC : PySem.W.subIn K (.ref C) (.type "BaseException") = some true
  tyC : PySem.W.typeIn K (.ref C) = some (.type "type")
  kC : PySem.W.keepIn K (.ref C) = true
/-- .. with one field of its own, with two -/
structure Err1 (K : PySem.W.Frag) (prog : Program) (C fI CP fP : Addr) (f1 : Str) : Prop where
  at_ : ErrAt K C fI CP fP
  n1 : PySem.W.findIn K (.ref C) f1 = some none
  ex : ∃ (msg : Str) (j : Nat) (p0 p1 p2 p3 p4 p5 q0 q1 q2 q3 : Pos) (params : Arguments) (scope : Scope) (qual : Str), SupScope prog params scope ∧
    SupTxt K prog qual params [supSt msg j p0 p1 p2 p3 p4 p5, putSt f1 f1 q0 q1 q2 q3] scope C fI ∧ scope.names.lookup f1 = some .local ∧ (f1 == ("__debug__" : Str)) = false ∧
    (∀ (s : Shared) (a b : Value) (fd : FuncData), fd.params = params → fd.defaults = .none → BindsTo s fd ⟨[a, b], []⟩ [(("self" : Str), a), (f1, b)]) ∧ f1 ≠ "self" ∧
    (∀ L cda cc, SupEval msg j p0 p1 p2 p3 p4 (PySem.W.ksEnv qual scope L fI (.ref cda) cc)) ∧ (∀ L cda cc, swapsWith (.Name f1 q2) (some (.Attribute (.Name "self" q0) f1 q1)) q3.line (PySem.W.ksEnv qual scope L fI (.ref cda) cc) = pure false) ∧
    (∀ L cda cc, swapsWith (.Call (.Attribute (.Call (.Name "super" p0) [] [] p1) "__init__" p2) [.Constant (.str msg) j p3] [] p4) none p5.line (PySem.W.ksEnv qual scope L fI (.ref cda) cc) = pure false)
structure Err2 (K : PySem.W.Frag) (prog : Program) (C fI CP fP : Addr) (f1 f2 : Str) : Prop where
  at_ : ErrAt K C fI CP fP
  n1 : PySem.W.findIn K (.ref C) f1 = some none
  n2 : PySem.W.findIn K (.ref C) f2 = some none
  ex : ∃ (msg : Str) (j : Nat) (p0 p1 p2 p3 p4 p5 q0 q1 q2 q3 r0 r1 r2 r3 : Pos) (params : Arguments) (scope : Scope) (qual : Str), SupScope prog params scope ∧
    SupTxt K prog qual params [supSt msg j p0 p1 p2 p3 p4 p5, putSt f1 f1 q0 q1 q2 q3, putSt f2 f2 r0 r1 r2 r3] scope C fI ∧ scope.names.lookup f1 = some .local ∧ scope.names.lookup f2 = some .local ∧ (f1 == ("__debug__" : Str)) = false ∧ (f2 == ("__debug__" : Str)) = false ∧
    (∀ (s : Shared) (a b c : Value) (fd : FuncData), fd.params = params → fd.defaults = .none → BindsTo s fd ⟨[a, b, c], []⟩ [(("self" : Str), a), (f1, b), (f2, c)]) ∧ f1 ≠ "self" ∧ f2 ≠ "self" ∧ f1 ≠ f2 ∧
    (∀ L cda cc, SupEval msg j p0 p1 p2 p3 p4 (PySem.W.ksEnv qual scope L fI (.ref cda) cc)) ∧ (∀ L cda cc, swapsWith (.Name f1 q2) (some (.Attribute (.Name "self" q0) f1 q1)) q3.line (PySem.W.ksEnv qual scope L fI (.ref cda) cc) = pure false) ∧
    (∀ L cda cc, swapsWith (.Name f2 r2) (some (.Attribute (.Name "self" r0) f2 r1)) r3.line (PySem.W.ksEnv qual scope L fI (.ref cda) cc) = pure false) ∧
    (∀ L cda cc, swapsWith (.Call (.Attribute (.Call (.Name "super" p0) [] [] p1) "__init__" p2) [.Constant (.str msg) j p3] [] p4) none p5.line (PySem.W.ksEnv qual scope L fI (.ref cda) cc) = pure false)
/-- the dict that the two __init__s leave -/
def toldNs (p : Addr) (fs : List (Str × Value)) (y : Str) : Option Value := match fs.lookup y with
  | some v => some v
  | none => if y = "values_told" then some (.ref p) else none
section
variable {prog : Program} {w : World} {A : Around} {R : Result → Shared → Prop} {s : Shared} {K : PySem.W.Frag} {mg : Str → Option Value} {base : Heap} {C fI CP fP x t0 : Addr} {f1 f2 : Str}
theorem look_rev {l : List (Str × Value)} (k : (l.map (·.1)).Nodup) {y : Str} {v : Value} (h : (y, v) ∈ l) : l.reverse.lookup y = some v := by
  have key : ∀ {l : List (Str × Value)}, (l.map (·.1)).Nodup → (y, v) ∈ l → l.lookup y = some v := by
    intro l
    induction l with
    | nil => exact fun _ h => by cases h
    | cons q r ih =>
      obtain ⟨z, u⟩ := q
      intro hk hm
      rw [List.lookup]
      rcases List.mem_cons.mp hm with e | e
      · cases e
        simp
      · have nz : y ≠ z := fun q => (List.nodup_cons.mp hk).1 (by rw [← q]; exact List.mem_map_of_mem (f := (·.1)) e)
        rw [show (y == z) = false by simpa using nz]
        exact ih (List.nodup_cons.mp hk).2 e
  refine key ?_ (List.mem_reverse.mpr h)
  rw [List.map_reverse]
  exact (List.reverse_perm _).nodup_iff.mpr k
theorem err2_init {v1 v2 : Value} (M : Mod K mg base) (bk : ∀ b o, base.get? b = some o → s.heap.get? b = some o) (gs : mg "super" = none) (T : Err2 K prog C fI CP fP f1 f2) (P : PostTxt K prog CP fP)
    (hroom : A.depth + 3 < recursionLimit) (hlim : s.heap.NoLimit) (nx : K.lookup x = none) (hx : s.heap.get? x = some (PySem.HandSPX.excO C t0))
    (h : ∀ h' tk dx p, Dressed s.heap h' x C dx (fun y => if y = f2 then some v2 else if y = f1 then some v1 else if y = "values_told" then some (.ref p) else none) → R (.ok (.ret .none)) { s with heap := h', toks := tk }) :
    codeAny (model prog w) A (.call (.ref fI) ⟨[.ref x, v1, v2], []⟩) R s := by
  obtain ⟨TA, n1, n2, msg, j, p0, p1, p2, p3, p4, p5, q0, q1, q2, q3, r0, r1, r2, r3, params, scope, qual, SS, S, k1, k2, g1, g2, hb, ns1, ns2, n12, hev, hsw1, hsw2, hin⟩ := T
  obtain ⟨msgP, jP, P0, P1, P2, P3, P4, P5, Q0, Q1, Q2, Q3, paP, scP, qP, SSP, SP, kvP, hbP, hevP, hswP, hinP⟩ := P
  obtain ⟨oc, od, kV, doc, pm, an, cda, ct, cc, osl, lk, hcd, hcode, hcell⟩ := S.fn
  obtain ⟨nm, q, N, bs, bm, sn, sub, ab, col, dd, k0, k1', k2', k3, k5, hC, hbm⟩ := TA.cls.cls
  have X : K.In s.heap := M.kin.keeps bk
  have hnd : (([(("self" : Str), Value.ref x), (f1, v1), (f2, v2)] : List (Str × Value)).map (·.1)).Nodup := by
    simp only [List.map_cons, List.map_nil, List.nodup_cons, List.mem_cons, List.not_mem_nil, or_false, not_or, List.nodup_nil, and_true, not_false_eq_true]
    exact ⟨⟨Ne.symm ns1, Ne.symm ns2⟩, n12⟩
  have hi : ∀ L, interactive (PySem.W.ksEnv qual scope L fI (.ref cda) cc) = false := fun L => by
    unfold interactive
    simp [SS.kind]
  refine PySem.ks_codeAny_call_defAt (fd := PySem.W.ksFn "__init__" qual params _ scope .none kV doc pm an (.ref cda) ct cc) (binds := [(("self" : Str), Value.ref x), (f1, v1), (f2, v2)]) (by omega) (X _ _ lk) rfl hlim (PySem.W.codeRec_of X hcd) rfl (hb _ _ _ _ _ rfl rfl) SS.nc (fun y hy => ?_) (fun h₀ hns u1 => ?_) SS.co SS.gen SS.kind
  · rcases List.mem_cons.mp hy with e | hy
    · rw [e]
      exact SS.self
    · rcases List.mem_cons.mp hy with e | hy
      · rw [e]
        exact k1
      · rcases List.mem_cons.mp hy with e | hy
        · rw [e]
          exact k2
        · cases hy
  have ms := look_rev hnd (y := "self") (v := .ref x) (by simp)
  have m1 := look_rev hnd (y := f1) (v := v1) (by simp)
  have m2 := look_rev hnd (y := f2) (v := v2) (by simp)
  refine PySem.ks_wpAt_execs_cons (PySem.ks_wpAt_Expr_any ?_ (hi _) (hin _ _ _))
  obtain ⟨pl, he⟩ := hev s.heap.objs.size cda cc
  refine sup_own M (fun b o e => u1 _ _ (bk b o e)) SS lk rfl hcode hcell S.cls gs hns ms (u1 _ _ hx) TA.sub hC nx TA.cls.op he TA.ksC TA.tP TA.fnP fun h1 tk1 tk2 w1 => ?_
  refine post_init (s := { s with heap := h1, toks := tk1 }) M (fun b o e => w1 _ _ (u1 _ _ (bk b o e))) gs SSP SP TA.cls TA.subP TA.ksP kvP hbP hevP hswP hinP TA.n0 (by show A.depth + 1 < recursionLimit; omega) (hlim.keeps fun b o e => w1 _ _ (u1 _ _ e)) nx (w1 _ _ (u1 _ _ hx)) fun h2 tk3 dx p D => ?_
  obtain ⟨t1, ho⟩ := D.obj
  show _root_.PySem.wpAt _ _ _ (execs [putSt f1 f1 q0 q1 q2 q3, putSt f2 f2 r0 r1 r2 r3] _) _ _ _
  have up : ∀ b o, b ≠ x → s.heap.get? b = some o → h2.get? b = some o := fun b o nb e => D.keep b o nb (w1 _ _ (u1 _ _ e))
  have X2 : K.In h2 := fun a o e => up a o (fun z => by rw [z, nx] at e; cases e) (X a o e)
  have hns2 := ns_kept (ns_kept hns (u1 _ _ hx) rfl fun b o _ e => w1 b o e) (w1 _ _ (u1 _ _ hx)) rfl D.keep
  have wt : Within (fun y => if y = ("values_told" : Str) then some (Value.ref p) else none) ["values_told"] := Within.cons _ _ Within.nil
  refine PySem.ks_wpAt_execs_cons (wpAt_of_wpAny (put_more X2 TA.cls n1 SS.kind hns2 ms m1 SS.self k1 ho D.ns wt (by decide) g1 (hsw1 _ _ _) fun h3 tk4 w3 N3 => ?_))
  have oD : ∃ oD es ep, h2.get? dx = some oD ∧ oD.data = .dict es ep := by
    obtain ⟨oD, es, ep, q1, q2, _⟩ := D.ns.count wt
    exact ⟨oD, es, ep, q1, q2⟩
  have X3 : K.In h3 := fun a o e => by
    refine w3 a o (fun z => ?_) (X2 a o e)
    have lt : a < h1.objs.size := Heap.lt_size (w1 _ _ (u1 _ _ (X a o e)))
    have yb : h1.objs.size ≤ dx := D.big
    exact Nat.lt_irrefl _ (Nat.lt_of_lt_of_le (z ▸ lt) yb)
  have nLd : s.heap.objs.size ≠ dx := fun z => by
    obtain ⟨oL, _, _, hoL, _⟩ := ns_kept hns (u1 _ _ hx) rfl fun b o _ e => w1 b o e
    have lt : s.heap.objs.size < h1.objs.size := Heap.lt_size hoL
    have yb : h1.objs.size ≤ dx := D.big
    exact Nat.lt_irrefl _ (Nat.lt_of_lt_of_le (z ▸ lt) yb)
  have hns3 : h3.Ns s.heap.objs.size (fun y => ([(("self" : Str), Value.ref x), (f1, v1), (f2, v2)] : List (Str × Value)).reverse.lookup y) := by
    obtain ⟨oL, es, ep, hoL, r⟩ := hns2
    exact ⟨oL, es, ep, w3 _ _ nLd hoL, r⟩
  have ho3 := w3 _ _ (Ne.symm D.ne) ho
  refine PySem.ks_wpAt_execs_cons (wpAt_of_wpAny (put_more X3 TA.cls n2 SS.kind hns3 ms m2 SS.self k2 ho3 N3 (Within.cons _ _ wt) (by simp) g2 (hsw2 _ _ _) fun h4 tk5 w4 N4 => ?_))
  refine wpAt_of_wpAny (wpAny_execs_nil ?_)
  have nd : ∀ b o, s.heap.get? b = some o → b ≠ dx := fun b o e z => by
    have lt : b < h1.objs.size := Heap.lt_size (w1 _ _ (u1 _ _ e))
    have yb : h1.objs.size ≤ dx := D.big
    exact Nat.lt_irrefl _ (Nat.lt_of_lt_of_le (z ▸ lt) yb)
  refine h h4 tk5 dx p ⟨fun b o nb e => w4 b o (nd b o e) (w3 b o (nd b o e) (up b o nb e)), ⟨t1, w4 _ _ (Ne.symm D.ne) ho3⟩, Nat.le_trans ?_ D.big, D.ne, N4⟩
  obtain ⟨oL, _, _, hoL, _⟩ := ns_kept hns (u1 _ _ hx) rfl fun b o _ e => w1 b o e
  exact Nat.le_of_lt (Heap.lt_size hoL)
end
end Q7
set_option maxHeartbeats 4000000
namespace Q7
open PySem PySem.Spec PyProof.Rows L2
/-! ### own errors made, the ways of the class -/
section
variable {prog : Program} {w : World} {A : Around} {R : Result → Shared → Prop} {s : Shared} {K : PySem.W.Frag} {mg : Str → Option Value} {base : Heap} {C fI CP fP x t0 : Addr} {f1 f2 : Str}
theorem err1_init {v1 : Value} (M : Mod K mg base) (bk : ∀ b o, base.get? b = some o → s.heap.get? b = some o) (gs : mg "super" = none) (T : Err1 K prog C fI CP fP f1) (P : PostTxt K prog CP fP)
    (hroom : A.depth + 3 < recursionLimit) (hlim : s.heap.NoLimit) (nx : K.lookup x = none) (hx : s.heap.get? x = some (PySem.HandSPX.excO C t0))
    (h : ∀ h' tk dx p, Dressed s.heap h' x C dx (fun y => if y = f1 then some v1 else if y = "values_told" then some (.ref p) else none) → R (.ok (.ret .none)) { s with heap := h', toks := tk }) :
    codeAny (model prog w) A (.call (.ref fI) ⟨[.ref x, v1], []⟩) R s := by
  obtain ⟨TA, n1, msg, j, p0, p1, p2, p3, p4, p5, q0, q1, q2, q3, params, scope, qual, SS, S, k1, g1, hb, ns1, hev, hsw1, hin⟩ := T
  obtain ⟨msgP, jP, P0, P1, P2, P3, P4, P5, Q0, Q1, Q2, Q3, paP, scP, qP, SSP, SP, kvP, hbP, hevP, hswP, hinP⟩ := P
  obtain ⟨oc, od, kV, doc, pm, an, cda, ct, cc, osl, lk, hcd, hcode, hcell⟩ := S.fn
  obtain ⟨nm, q, N, bs, bm, sn, sub, ab, col, dd, k0, k1', k2', k3, k5, hC, hbm⟩ := TA.cls.cls
  have X : K.In s.heap := M.kin.keeps bk
  have hnd : (([(("self" : Str), Value.ref x), (f1, v1)] : List (Str × Value)).map (·.1)).Nodup := by
    simp only [List.map_cons, List.map_nil, List.nodup_cons, List.mem_cons, List.not_mem_nil, or_false, not_or, List.nodup_nil, and_true, not_false_eq_true]
    exact Ne.symm ns1
  have hi : ∀ L, interactive (PySem.W.ksEnv qual scope L fI (.ref cda) cc) = false := fun L => by
    unfold interactive
    simp [SS.kind]
  refine PySem.ks_codeAny_call_defAt (fd := PySem.W.ksFn "__init__" qual params _ scope .none kV doc pm an (.ref cda) ct cc) (binds := [(("self" : Str), Value.ref x), (f1, v1)]) (by omega) (X _ _ lk) rfl hlim (PySem.W.codeRec_of X hcd) rfl (hb _ _ _ _ rfl rfl) SS.nc (fun y hy => ?_) (fun h₀ hns u1 => ?_) SS.co SS.gen SS.kind
  · rcases List.mem_cons.mp hy with e | hy
    · rw [e]
      exact SS.self
    · rcases List.mem_cons.mp hy with e | hy
      · rw [e]
        exact k1
      · cases hy
  have ms := look_rev hnd (y := "self") (v := .ref x) (by simp)
  have m1 := look_rev hnd (y := f1) (v := v1) (by simp)
  refine PySem.ks_wpAt_execs_cons (PySem.ks_wpAt_Expr_any ?_ (hi _) (hin _ _ _))
  obtain ⟨pl, he⟩ := hev s.heap.objs.size cda cc
  refine sup_own M (fun b o e => u1 _ _ (bk b o e)) SS lk rfl hcode hcell S.cls gs hns ms (u1 _ _ hx) TA.sub hC nx TA.cls.op he TA.ksC TA.tP TA.fnP fun h1 tk1 tk2 w1 => ?_
  refine post_init (s := { s with heap := h1, toks := tk1 }) M (fun b o e => w1 _ _ (u1 _ _ (bk b o e))) gs SSP SP TA.cls TA.subP TA.ksP kvP hbP hevP hswP hinP TA.n0 (by show A.depth + 1 < recursionLimit; omega) (hlim.keeps fun b o e => w1 _ _ (u1 _ _ e)) nx (w1 _ _ (u1 _ _ hx)) fun h2 tk3 dx p D => ?_
  obtain ⟨t1, ho⟩ := D.obj
  show _root_.PySem.wpAt _ _ _ (execs [putSt f1 f1 q0 q1 q2 q3] _) _ _ _
  have up : ∀ b o, b ≠ x → s.heap.get? b = some o → h2.get? b = some o := fun b o nb e => D.keep b o nb (w1 _ _ (u1 _ _ e))
  have X2 : K.In h2 := fun a o e => up a o (fun z => by rw [z, nx] at e; cases e) (X a o e)
  have hns2 := ns_kept (ns_kept hns (u1 _ _ hx) rfl fun b o _ e => w1 b o e) (w1 _ _ (u1 _ _ hx)) rfl D.keep
  have wt : Within (fun y => if y = ("values_told" : Str) then some (Value.ref p) else none) ["values_told"] := Within.cons _ _ Within.nil
  refine PySem.ks_wpAt_execs_cons (wpAt_of_wpAny (put_more X2 TA.cls n1 SS.kind hns2 ms m1 SS.self k1 ho D.ns wt (by decide) g1 (hsw1 _ _ _) fun h3 tk4 w3 N3 => ?_))
  refine wpAt_of_wpAny (wpAny_execs_nil ?_)
  have nd : ∀ b o, s.heap.get? b = some o → b ≠ dx := fun b o e z => by
    have lt : b < h1.objs.size := Heap.lt_size (w1 _ _ (u1 _ _ e))
    have yb : h1.objs.size ≤ dx := D.big
    exact Nat.lt_irrefl _ (Nat.lt_of_lt_of_le (z ▸ lt) yb)
  refine h h3 tk4 dx p ⟨fun b o nb e => w3 b o (nd b o e) (up b o nb e), ⟨t1, w3 _ _ (Ne.symm D.ne) ho⟩, Nat.le_trans ?_ D.big, D.ne, N3⟩
  obtain ⟨oL, _, _, hoL, _⟩ := ns_kept hns (u1 _ _ hx) rfl fun b o _ e => w1 b o e
  exact Nat.le_of_lt (Heap.lt_size hoL)
end
/-- a made error at e, its dict d, the tuple p -/
structure ErrMade (h h' : Heap) (e C d : Addr) (ns : Str → Option Value) : Prop where
  keep : ∀ b o, h.get? b = some o → h'.get? b = some o
  new : h.objs.size ≤ e
  obj : ∃ oe vs, h'.get? e = some oe ∧ oe.cls = .ref C ∧ oe.dict = some d ∧ oe.data = .fields vs ∧ vs[1]? = some .none ∧ vs[2]? = some .none ∧ 4 < vs.size
  dbig : h.objs.size ≤ d
  dne : d ≠ e
  ns : h'.Ns1 d ns
section
variable {prog : Program} {w : World} {A : Around} {R : Result → Shared → Prop} {s : Shared} {K : PySem.W.Frag} {mg : Str → Option Value} {base : Heap} {C fI CP fP : Addr} {f1 f2 : Str}
theorem err_made {vs : List Value} {ns : Addr → Str → Option Value} (TA : ErrAt K C fI CP fP) (hz : vs.length ≤ sizeLine) (X : K.In s.heap)
    (hi : ∀ (A' : Around) (h1 : Heap) (tk1 : Nat) (x t0 : Addr) (R' : Result → Shared → Prop), A'.depth = A.depth + 1 → (∀ b o, s.heap.get? b = some o → h1.get? b = some o) → K.lookup x = none → h1.get? x = some (PySem.HandSPX.excO C t0) →
      (∀ h' tk dx p, Dressed h1 h' x C dx (ns p) → R' (.ok (.ret .none)) { s with heap := h', toks := tk }) → codeAny (model prog w) A' (.call (.ref fI) ⟨.ref x :: vs, []⟩) R' { s with heap := h1, toks := tk1 })
    (h : ∀ h' tk e d p, ErrMade s.heap h' e C d (ns p) → R (.ok (.ret (.ref e))) { s with heap := h', toks := tk }) : codeAny (model prog w) A (.call (.ref C) ⟨vs, []⟩) R s := by
  obtain ⟨nm, q, N, bs, bm, sn, sub, ab, col, dd, k0, k1, k2, k3, k5, hC, hbm⟩ := TA.cls.cls
  obtain ⟨hp, g, dr, tk, os⟩ := s
  have k : ∀ b o, hp.get? b = some o → ((hp.push (PySem.W.kdv_tup vs)).push (PySem.HandSPX.excO C hp.objs.size)).get? b = some o := fun b o e => Heap.get?_push_of_some _ (Heap.get?_push_of_some _ e)
  have hget : ((hp.push (PySem.W.kdv_tup vs)).push (PySem.HandSPX.excO C hp.objs.size)).get? (hp.objs.size + 1) = some (PySem.HandSPX.excO C hp.objs.size) := by heap_get
  have hnx : K.lookup (hp.objs.size + 1) = none := by
    cases e : K.lookup (hp.objs.size + 1) with
    | none => rfl
    | some o =>
      have z : hp.get? (hp.objs.size + 1) = some o := X _ _ e
      exact absurd (Nat.lt_of_succ_lt (Heap.lt_size z)) (Nat.lt_irrefl _)
  refine PySem.HandSPX.call_own PySem.F.excBase_ValueError (fun X => PySem.HandSPX.refsVE_contains X bm hbm) (X _ _ hC) (PySem.W.looks_findIn X TA.iC) (fun self => PySem.W.bind_fn X self TA.tI) hz ?_
  refine hi _ _ tk _ _ _ rfl k hnx hget fun h' tk' dx p D => ?_
  have old : ∀ b o, hp.get? b = some o → h'.get? b = some o := fun b o e => D.keep b o (Nat.ne_of_lt (Nat.lt_succ_of_lt (Heap.lt_size e))) (k b o e)
  have z : hp.objs.size + 1 + 1 ≤ dx := by
    have dn := D.big
    first
      | (simpa only [Heap.size_push] using dn)
      | exact dn
      | (have q := dn; rw [Heap.size_push, Heap.size_push] at q; exact q)
  obtain ⟨t1, hx⟩ := D.obj
  exact ⟨rfl, h h' tk' (hp.objs.size + 1) dx p ⟨old, Nat.le_succ _, ⟨_, _, hx, rfl, rfl, rfl, rfl, rfl, by simp⟩, Nat.le_trans (Nat.le_trans (Nat.le_succ _) (Nat.le_succ _)) z, D.ne, D.ns⟩⟩
end
end Q7
set_option maxHeartbeats 4000000
namespace Q7
open PySem PySem.Spec PyProof.Rows L2
/-! ### own errors made, as the rules read it -/
theorem relO_1 {f1 : Str} {v1 : V} {u1 : Value} {p : Addr} (r1 : RelV v1 u1) (f : Str) : RelO (List.lookup f [(f1, v1), ("values_told", V.ref p)]) (if f = f1 then some u1 else if f = "values_told" then some (.ref p) else none) := by
  by_cases h1 : f = f1
  · subst h1
    simp only [List.lookup, beq_self_eq_true, if_true]
    exact r1
  · by_cases h0 : f = "values_told"
    · subst h0
      simp only [List.lookup, show (("values_told" : Str) == f1) = false by simpa using h1, beq_self_eq_true, if_neg h1, if_true]
      exact rfl
    · simp only [List.lookup, show (f == f1) = false by simpa using h1, show (f == ("values_told" : Str)) = false by simpa using h0, if_neg h1, if_neg h0]
      trivial
theorem relO_2 {f1 f2 : Str} {v1 v2 : V} {u1 u2 : Value} {p : Addr} (r1 : RelV v1 u1) (r2 : RelV v2 u2) (f : Str) : RelO (List.lookup f [(f2, v2), (f1, v1), ("values_told", V.ref p)]) (if f = f2 then some u2 else if f = f1 then some u1 else if f = "values_told" then some (.ref p) else none) := by
  by_cases h2 : f = f2
  · subst h2
    simp only [List.lookup, beq_self_eq_true, if_true]
    exact r2
  · rw [if_neg h2]
    simp only [List.lookup, show (f == f2) = false by simpa using h2]
    exact relO_1 r1 f
def tMk1 (C : Addr) (f1 : Str) (ta : TA) : L2.St → Hp → XK → Prop := fun σ H Q => ta σ H fun vs H1 => ∃ v, vs = [v] ∧ ∀ d p, H1 d = none → Q (.ref C) (some d) (upd H1 d (.xd [(f1, v), ("values_told", .ref p)]))
def tMk2 (C : Addr) (f1 f2 : Str) (ta : TA) : L2.St → Hp → XK → Prop := fun σ H Q => ta σ H fun vs H1 => ∃ v1 v2, vs = [v1, v2] ∧ ∀ d p, H1 d = none → Q (.ref C) (some d) (upd H1 d (.xd [(f2, v2), (f1, v1), ("values_told", .ref p)]))
section
variable {X : Cx} {C fI CP fP : Addr} {f1 f2 : Str}
/-- from a made error to the rule's end -/
theorem mke_of {pins : List (Addr × Obj)} {σ : L2.St} {H1 : Hp} {hp h' : Heap} {g : Array GenState} {dr : Drawn} {tk tk' : Nat} {os : OsState} {e d : Addr} {ns : Str → Option Value} {xd : List (Str × V)} {Q : XK} (TA : ErrAt X.K C fI CP fP) (I1 : Inv X pins σ H1 ⟨hp, g, dr, tk, os⟩) (M : ErrMade hp h' e C d ns)
    (hr : ∀ f, RelO (List.lookup f xd) (ns f)) (q : H1 d = none → Q (.ref C) (some d) (upd H1 d (.xd xd))) : MkE X pins σ Q (.ref e) ⟨h', g, dr, tk', os⟩ := by
  obtain ⟨oe, fv, hoe, hc, hd, hdat, h1, h2, h4⟩ := M.obj
  have hns := M.ns
  obtain ⟨G', g1, g2⟩ := restrict h' fun b => decide (b ≠ e)
  have gk : ∀ b, b ≠ e → G'.get? b = h'.get? b := fun b hb => g1 b (decide_eq_true hb)
  have ge : G'.get? e = none := g2 e (by simp)
  have old : ∀ b o, hp.get? b = some o → G'.get? b = some o := fun b o q => (gk b (Nat.ne_of_lt (Nat.lt_of_lt_of_le (Heap.lt_size q) M.new))).trans (M.keep b o q)
  have ob : ObjOk X.prog X.w (upd H1 d (.xd xd)) G' d (.xd xd) := ⟨_, hns.at (fun o q => (gk d M.dne).trans q), hr⟩
  have J : Inv X pins σ (upd H1 d (.xd xd)) ⟨G', g, dr, tk', os⟩ := I1.laid (t' := tk') old M.dbig ob
  refine ⟨e, oe, fv, ⟨G', g, dr, tk', os⟩, _, .ref C, some d, ⟨rfl, J, fun b o q => ?_, ge⟩, ⟨hoe, ⟨hc, hd, fun ws z => ?_⟩, hdat, h1, h4⟩, ⟨?_, rfl, I1.bare⟩, raises_own TA.exC TA.tyC, q (I1.hok.fresh M.dbig)⟩
  · by_cases hb : b = e
    · have q' : G'.get? b = some o := q
      rw [hb, ge] at q'; cases q'
    · exact (gk b hb).symm.trans q
  · rw [hdat] at z
    obtain rfl := Data.fields.inj z
    exact h2
  · rw [upd_ne (Ne.symm M.dne)]
    exact I1.hok.fresh M.new
theorem pmk_err2 {nm : Str} {ta : TA} {p pos : Pos} {a1 a2 : Expr} (T : Err2 X.K X.prog C fI CP fP f1 f2) (P : PostTxt X.K X.prog CP fP) (gs : X.mg "super" = none) (gC : X.mg nm = some (.ref C)) (hr : X.A.depth + 4 < recursionLimit) (ha : PA X [a1, a2] ta) (hg : Gl X nm := by rfl) (hdb : (nm == ("__debug__" : Str)) = false := by decide)
    (he : starEach [a1, a2] X.env = (false, eval a1 X.env) :: starEach [a2] X.env := by rfl) (hpl : (backTo pos (starEach [a2] X.env)).any (·.1) = false := by rfl) :
    PMkE X (.Call (.Name nm p) [a1, a2] [] pos) (tMk2 C f1 f2 ta) := by
  intro pins s σ H Q I h
  refine wpAny_Call_Name_kw (ld_glob (hd := hdb) I hg gC ?_)
  refine PySem.W.callWith_K (h₀ := X.base) I.ok.mod.kin T.at_.kC (thn (ha.run pos pins s σ H _ I h) fun us s1 hh => ?_) he hpl
  obtain ⟨vs, H1, I1, r1, v1, v2, ev, q1⟩ := hh
  subst ev
  refine ⟨I1.kIn, ?_⟩
  cases r1 with
  | cons rv1 rn =>
    rename_i u1 us'
    cases rn with
    | cons rv2 rn =>
      rename_i u2 us''
      cases rn
      show wpAny _ _ (call (.ref C) [u1, u2]) _ _ _
      have hlim := I1.nolimit
      obtain ⟨hp, g, dr, tk, os⟩ := s1
      refine wpAny_call (err_made (ns := fun p y => if y = f2 then some u2 else if y = f1 then some u1 else if y = "values_told" then some (.ref p) else none) T.at_ (by show 2 ≤ sizeLine; decide) I1.kIn (fun A' h1 tk1 x t0 R' hd k nx hx hR => ?_) fun h' tk' e d p M => ?_)
      · exact err2_init (s := ⟨h1, g, dr, tk1, os⟩) I1.ok.mod (fun b o q => k b o (I1.bk b o q)) gs T P (by rw [hd]; omega) (hlim.keeps k) nx hx hR
      · exact mke_of T.at_ I1 M (relO_2 rv1 rv2) (q1 d p)
theorem pmk_err1 {nm : Str} {ta : TA} {p pos : Pos} {a1 : Expr} (T : Err1 X.K X.prog C fI CP fP f1) (P : PostTxt X.K X.prog CP fP) (gs : X.mg "super" = none) (gC : X.mg nm = some (.ref C)) (hr : X.A.depth + 4 < recursionLimit) (ha : PA X [a1] ta) (hg : Gl X nm := by rfl) (hdb : (nm == ("__debug__" : Str)) = false := by decide)
    (he : starEach [a1] X.env = (false, eval a1 X.env) :: starEach [] X.env := by rfl) (hpl : (backTo pos (starEach [] X.env)).any (·.1) = false := by rfl) :
    PMkE X (.Call (.Name nm p) [a1] [] pos) (tMk1 C f1 ta) := by
  intro pins s σ H Q I h
  refine wpAny_Call_Name_kw (ld_glob (hd := hdb) I hg gC ?_)
  refine PySem.W.callWith_K (h₀ := X.base) I.ok.mod.kin T.at_.kC (thn (ha.run pos pins s σ H _ I h) fun us s1 hh => ?_) he hpl
  obtain ⟨vs, H1, I1, r1, v1, ev, q1⟩ := hh
  subst ev
  refine ⟨I1.kIn, ?_⟩
  cases r1 with
  | cons rv1 rn =>
    rename_i u1 us'
    cases rn
    show wpAny _ _ (call (.ref C) [u1]) _ _ _
    have hlim := I1.nolimit
    obtain ⟨hp, g, dr, tk, os⟩ := s1
    refine wpAny_call (err_made (ns := fun p y => if y = f1 then some u1 else if y = "values_told" then some (.ref p) else none) T.at_ (by show 1 ≤ sizeLine; decide) I1.kIn (fun A' h1 tk1 x t0 R' hd k nx hx hR => ?_) fun h' tk' e d p M => ?_)
    · exact err1_init (s := ⟨h1, g, dr, tk1, os⟩) I1.ok.mod (fun b o q => k b o (I1.bk b o q)) gs T P (by rw [hd]; omega) (hlim.keeps k) nx hx hR
    · exact mke_of T.at_ I1 M (relO_1 rv1) (q1 d p)
end
end Q7
set_option maxHeartbeats 2000000
namespace Q7
open PySem PySem.Spec PyProof.Rows L2
/-! ### the text -/
def top (i : Nat) : Stmt := PySem.Challenge.pw_jumblepost_k87_rows_of_the_desk_and_colu.main.body.getD i (.Pass ⟨0, 0, 0, 0⟩)
def inC (st : Stmt) (j : Nat) : Stmt := match st with
  | .ClassDef (body := b) .. => b.getD j (.Pass ⟨0, 0, 0, 0⟩)
  | _ => .Pass ⟨0, 0, 0, 0⟩
abbrev FnP (K : PySem.W.Frag) (x qual : Str) (st : Stmt) (dvs : List V) (f : Addr) (fd : FuncData) : Prop := FunD K x qual (defArgs st) (defBody st) (defScope st) dvs [] f fd
/-! ### promises by position, what they let out at the slots -/
/-- a def of the module that may be called by its name -/
structure Nam (CX : CXT) (P : Program) (w : World) (K : PySem.W.Frag) (mg : Str → Option Value) (base : Heap) (k : Nat) (x : Str) (sp : Sp) : Prop where
  ex : ∃ f : Addr, FnR P w K mg base CX k f sp ∧ mg x = some (.ref f) ∧ PySem.W.keepIn K (.ref f) = true
/-- a method of the class at C -/
structure Mth (CX : CXT) (P : Program) (w : World) (K : PySem.W.Frag) (mg : Str → Option Value) (base : Heap) (k : Nat) (C : Addr) (m : Str) (sp : Sp) : Prop where
  ex : ∃ f : Addr, FnR P w K mg base CX k f sp ∧ Cls K C ∧ BMeth K C m f
/-- a class that may be made by its name -/
structure Mkr (CX : CXT) (P : Program) (w : World) (K : PySem.W.Frag) (mg : Str → Option Value) (base : Heap) (k : Nat) (x : Str) (C : Addr) (sp : Sp) : Prop where
  ex : ∃ f : Addr, FnR P w K mg base CX k f sp ∧ Mk K C f ∧ mg x = some (.ref C)
/-- a classmethod -/
structure Cmt (CX : CXT) (P : Program) (w : World) (K : PySem.W.Frag) (mg : Str → Option Value) (base : Heap) (k : Nat) (C : Addr) (m : Str) (sp : Sp) : Prop where
  ex : ∃ (p g : Addr) (mc : Value), FnR P w K mg base CX k g sp ∧ ClX.CRead K C mc ∧ ClX.CMet K C mc m p g
section
variable {X : Cx} {CX : CXT} {k j : Nat} {f C : Addr} {sp : Sp} {E : L2.St → XK} {x m : Str} {p sp_ pos apos : Pos} {e o : Expr} {es : List Expr} {te ta : TE} {t : TA} {pins : List (Addr × Obj)} {σ : L2.St} {H : Hp} {s : Shared}
theorem run_at {E : XK} {Q : VK} {us : List Value} {vs : List V} (F : FnR X.prog X.w X.K X.mg X.base CX k f sp) (hr : Room k X.A) (hx : PassesAt CX X σ E) (I : Inv X pins σ H s) (r : Vals vs us) (h : sp vs H Q E) :
    codeAny (model X.prog X.w) X.A (.call (.ref f) ⟨us, []⟩) (fun r s' => match r with | .ok (.ret v) => EP X pins σ Q v s' | .ok _ => False | .error e => X.xe e s') s := by
  refine codeAny_mono (F X.A X.stack s H us vs Q E hr I.env0 r h) fun z s' hz => ?_
  match z, hz with
  | .error e, hz => exact hx pins H s e s' I hz
  | .ok (.ret u), hz => exact I.after hz
  | .ok .next, hz => exact hz.elim
  | .ok .brk, hz => exact hz.elim
  | .ok .cont, hz => exact hz.elim
def noE : L2.St → XK := fun _ _ _ _ => False
theorem pass_no {X : Cx} : ∀ σ, PassesAt L2.CX0 X σ (noE σ) := fun _ _ _ _ _ _ _ h => h.elim
/-- x(e, ..) -/
theorem pe_nam (c : Nam CX X.prog X.w X.K X.mg X.base k x sp) (hr : Room j X.A) (hk : k ≤ j) (hg : Gl X x) (hx : ∀ σ, PassesAt CX X σ (E σ)) (ha : PA X (e :: es) t) (hdb : (x == ("__debug__" : Str)) = false := by decide)
    (he : starEach (e :: es) X.env = (false, eval e X.env) :: starEach es X.env := by rfl) (hpl : (backTo pos (starEach es X.env)).any (·.1) = false := by rfl) : PE X (.Call (.Name x p) (e :: es) [] pos) (tCallS sp E t) := by
  obtain ⟨f, F, hm, kp⟩ := c.ex
  refine ⟨fun pins s σ H Q I h => wpAny_Call_Name_kw (ld_glob I hg hm ?_ hdb)⟩
  exact PySem.W.callWith_K (h₀ := X.base) I.ok.mod.kin kp (thn (ha.run pos pins s σ H _ I h) fun us s1 ⟨vs, H1, I1, r, q⟩ => ⟨I1.kIn, wpAny_call (run_at F (hr.mono hk) (hx σ) I1 r q)⟩) he hpl
abbrev tMt (C : Addr) (m : Str) (sp : Sp) (E : L2.St → XK) (ta : TE) (t : TA) : TE := L2H.tMethH C m sp E ta t
/-- o.m(e, ..) -/
theorem pe_mth {pl : Sem Bool} (c : Mth CX X.prog X.w X.K X.mg X.base k C m sp) (hr : Room j X.A) (hk : k ≤ j) (hx : ∀ σ, PassesAt CX X σ (E σ)) (he : PE X o ta) (ha : PA X (e :: es) t)
    (hst : starEach (e :: es) X.env = (false, eval e X.env) :: starEach es X.env := by rfl) (hpl : (backTo pos (starEach es X.env)).any (·.1) = false := by rfl)
    (ht : eval (.Call (.Attribute o m apos) (e :: es) [] pos) X.env = (do
      let ov ← eval o X.env
      standAt apos.atName
      let (f, first) ← holding [ov] (getMethod ov m pl)
      callWith pos f first (backTo pos (starEach (e :: es) X.env)) (backToKw pos (keywordEach [] X.env))) := by rfl) : PE X (.Call (.Attribute o m apos) (e :: es) [] pos) (tMt C m sp E ta t) := by
  obtain ⟨f, F, hc, hm⟩ := c.ex
  refine ⟨fun pins s σ H Q I h => PySem.W.methodCall_KW (pl := pl) (thn (he.run pins s σ H _ I h) fun u s1 ⟨x, H1, I1, rx, a, dx, fs, ex, ea, l, q⟩ => ?_) ht⟩
  subst ex
  obtain rfl : u = Value.ref a := rx
  refine getmeth_ok I1 ea hc hm.mt l ?_
  exact PySem.W.callWith_K (first := [.ref a]) (h₀ := X.base) I.ok.mod.kin hm.mt.kp (thn (ha.run pos pins s1 σ H1 _ I1 q) fun us s2 ⟨vs, H2, I2, r, q2⟩ => ⟨I2.kIn, wpAny_call (run_at (us := .ref a :: us) (vs := .ref a :: vs) F (hr.mono hk) (hx σ) I2 (.cons rfl r) q2)⟩) hst hpl
/-- o.m() -/
theorem pe_mth0 {pl : Sem Bool} (c : Mth CX X.prog X.w X.K X.mg X.base k C m sp) (hr : Room j X.A) (hk : k ≤ j) (hx : ∀ σ, PassesAt CX X σ (E σ)) (he : PE X o ta)
    (ht : eval (.Call (.Attribute o m apos) [] [] pos) X.env = (do
      let ov ← eval o X.env
      standAt apos.atName
      let (f, first) ← holding [ov] (getMethod ov m pl)
      callWith pos f first (backTo pos (starEach [] X.env)) (backToKw pos (keywordEach [] X.env))) := by rfl) : PE X (.Call (.Attribute o m apos) [] [] pos) (tMt C m sp E ta tNil) := by
  obtain ⟨f, F, hc, hm⟩ := c.ex
  refine ⟨fun pins s σ H Q I h => PySem.W.methodCall_KW (pl := pl) (thn (he.run pins s σ H _ I h) fun u s1 ⟨x, H1, I1, rx, a, dx, fs, ex, ea, l, q⟩ => ?_) ht⟩
  subst ex
  obtain rfl : u = Value.ref a := rx
  refine getmeth_ok I1 ea hc hm.mt l ?_
  exact PySem.W.callWith_K0 (first := [.ref a]) I1.kIn hm.mt.kp (wpAny_call (run_at (us := [.ref a]) (vs := [.ref a]) F (hr.mono hk) (hx σ) I1 (.cons rfl .nil) q))
/-- o.m( *e) -/
def tMtS (K : PySem.W.Frag) (C : Addr) (m : Str) (sp : Sp) (E : L2.St → XK) (ta te : TE) : TE := fun σ H Q => ta σ H fun x H1 => ∃ a dx fs, x = .ref a ∧ H1 a = some (.ins C dx fs) ∧ fs.lookup m = none ∧
  ∀ q g, H1 q = none → te σ (upd H1 q (.met g a)) fun y H2 => ∃ b vs, y = .ref b ∧ (SqT K H2 b vs ∨ SqL K H2 b vs) ∧ H2 q = some (.met g a) ∧ sp (.ref a :: vs) H2 Q (E σ)
theorem pe_mthS (c : Mth CX X.prog X.w X.K X.mg X.base k C m sp) (hr : Room j X.A) (hk : k ≤ j) (hx : ∀ σ, PassesAt CX X σ (E σ)) (he : PE X o ta) (ha : PE X e te) (hbase : attributeBase o m X.env (eval o X.env) = eval o X.env := by rfl) :
    PE X (.Call (.Attribute o m apos) [.Starred e sp_] [] pos) (tMtS X.K C m sp E ta te) := by
  obtain ⟨g, F, hc, hm⟩ := c.ex
  refine ⟨fun pins s σ H Q I h => starcall_of hbase (thn (he.run pins s σ H _ I h) fun u s1 ⟨x, H1, I1, rx, a, dx, fs, ex, ea, l, q⟩ => ?_)⟩
  subst ex
  obtain rfl : u = Value.ref a := rx
  refine getbound_ok I1 ea hc hm l fun q1 s2 hq1 I2 => ?_
  refine PySem.W.ks_call (P := PySem.W.MethP X.K q1 g (.ref a)) rfl (PySem.W.keeps_M hm.fi) (PySem.W.ks_lone ?_)
  refine thn (ha.run pins s2 σ _ _ I2 (q q1 g hq1)) fun v s3 ⟨y, H2, I3, ry, t, vs, ey, hs, hq, hsp⟩ => ?_
  subst ey
  obtain rfl : v = Value.ref t := ry
  refine StX.star_any I3 hs fun us s4 I4 rv => ⟨met_P I4 hq, ?_⟩
  exact wpAny_call (PySem.W.method_call (met_P I4 hq).1 (run_at (us := Value.ref a :: us) (vs := V.ref a :: vs) F (hr.mono hk) (hx σ) I4 (.cons rfl rv) hsp))
/-- C(e, ..) -/
def tMkA (C : Addr) (sp : Sp) (E : L2.St → XK) (t : TA) : TE := fun σ H Q => t σ H fun vs H1 => ∀ x dx, H1 x = none → H1 dx = none → dx ≠ x → sp (.ref x :: vs) (upd (upd H1 dx (.own x)) x (.ins C dx [])) (fun v H2 => v = .non ∧ Q (.ref x) H2) (E σ)
theorem run_mk {E : XK} {Q : VK} {us : List Value} {vs : List V} (M : Mk X.K C f) (F : FnR X.prog X.w X.K X.mg X.base CX k f sp) (hr : Room (k + 1) X.A) (hx : PassesAt CX X σ E) (I : Inv X pins σ H s) (r : Vals vs us)
    (h : ∀ x dx, H x = none → H dx = none → dx ≠ x → sp (V.ref x :: vs) (upd (upd H dx (.own x)) x (.ins C dx [])) (fun v H2 => v = .non ∧ Q (.ref x) H2) E) : wpAny (model X.prog X.w) X.A (call (.ref C) us) (EP X pins σ Q) X.xe s := by
  have J := Inv.made (C := C) I
  have hq := h (s.heap.objs.size + 1) s.heap.objs.size (I.hok.fresh (Nat.le_succ _)) (I.hok.fresh (Nat.le_refl _)) (Nat.ne_of_lt (Nat.lt_succ_self _))
  have rs : Vals (V.ref (s.heap.objs.size + 1) :: vs) (Value.ref (s.heap.objs.size + 1) :: us) := .cons rfl r
  refine wpAny_call (make_map (f := f) I.kIn M.makes M.init (beq_iff_eq.mp M.fn) (codeAny_mono (F _ X.stack _ _ (Value.ref (s.heap.objs.size + 1) :: us) _ _ E (hr.make C us []) (J.env0.make C us []) rs hq) fun z s' hz => ?_))
  match z, hz with
  | .error e, hz => exact hx pins _ _ e s' J hz
  | .ok (.ret u), hz =>
    obtain ⟨v, H', J3, rv, ev, q3⟩ := J.after hz
    subst ev
    exact ⟨rv, ⟨V.ref (s.heap.objs.size + 1), H', J3, rfl, q3⟩⟩
  | .ok .next, hz => exact hz.elim
  | .ok .brk, hz => exact hz.elim
  | .ok .cont, hz => exact hz.elim
theorem pe_mkr (c : Mkr CX X.prog X.w X.K X.mg X.base k x C sp) (hr : Room j X.A) (hk : k + 1 ≤ j) (hg : Gl X x) (hx : ∀ σ, PassesAt CX X σ (E σ)) (ha : PA X (e :: es) t) (hdb : (x == ("__debug__" : Str)) = false := by decide)
    (he : starEach (e :: es) X.env = (false, eval e X.env) :: starEach es X.env := by rfl) (hpl : (backTo pos (starEach es X.env)).any (·.1) = false := by rfl) : PE X (.Call (.Name x p) (e :: es) [] pos) (tMkA C sp E t) := by
  obtain ⟨f, F, M, hm⟩ := c.ex
  refine ⟨fun pins s σ H Q I h => wpAny_Call_Name_kw (ld_glob I hg hm ?_ hdb)⟩
  exact PySem.W.callWith_K (h₀ := X.base) I.ok.mod.kin M.kp (thn (ha.run pos pins s σ H _ I h) fun us s1 ⟨vs, H1, I1, r, q⟩ => ⟨I1.kIn, run_mk M F (hr.mono hk) (hx σ) I1 r q⟩) he hpl
/-- cls(e, ..), cls a name of the def that holds the class -/
theorem pe_mkv {i : Nat} (c : ∃ f : Addr, FnR X.prog X.w X.K X.mg X.base CX k f sp ∧ Mk X.K C f) (hr : Room j X.A) (hk : k + 1 ≤ j) (hN : X.N[i]? = some x) (hv : Vis X.env.scope x) (hx : ∀ σ, PassesAt CX X σ (E σ)) (ha : PA X (e :: es) t)
    (hd : (x == ("__debug__" : Str)) = false := by decide) (hcd : (x == ("__classdict__" : Str)) = false := by decide)
    (he : starEach (e :: es) X.env = (false, eval e X.env) :: starEach es X.env := by rfl) (hpl : (backTo pos (starEach es X.env)).any (·.1) = false := by rfl) :
    PE X (.Call (.Name x p) (e :: es) [] pos) (fun σ H Q => σ[i]? = some (some (.ref C)) ∧ tMkA C sp E t σ H Q) := by
  obtain ⟨f, F, M⟩ := c
  refine ⟨fun pins s σ H Q I ⟨hs, h⟩ => wpAny_Call_Name_kw (name_here I hN hv hs (fun u ru => ?_) hd hcd)⟩
  obtain rfl : u = Value.ref C := ru
  exact PySem.W.callWith_K (h₀ := X.base) I.ok.mod.kin M.kp (thn (ha.run pos pins s σ H _ I h) fun us s1 ⟨vs, H1, I1, r, q⟩ => ⟨I1.kIn, run_mk M F (hr.mono hk) (hx σ) I1 r q⟩) he hpl
/-- C.m(e, ..), m a classmethod -/
def tCmA (C : Addr) (sp : Sp) (E : L2.St → XK) (ta : TE) (t : TA) : TE := fun σ H Q => ta σ H fun x H1 => x = .ref C ∧ t σ H1 fun vs H2 => sp (.ref C :: vs) H2 Q (E σ)
theorem pe_cmt {pl : Sem Bool} (c : Cmt CX X.prog X.w X.K X.mg X.base k C m sp) (hr : Room j X.A) (hk : k ≤ j) (hx : ∀ σ, PassesAt CX X σ (E σ)) (ho : PE X o ta) (ha : PA X (e :: es) t)
    (hst : starEach (e :: es) X.env = (false, eval e X.env) :: starEach es X.env := by rfl) (hpl : (backTo pos (starEach es X.env)).any (·.1) = false := by rfl)
    (ht : eval (.Call (.Attribute o m apos) (e :: es) [] pos) X.env = (do
      let ov ← eval o X.env
      standAt apos.atName
      let (f, first) ← holding [ov] (getMethod ov m pl)
      callWith pos f first (backTo pos (starEach (e :: es) X.env)) (backToKw pos (keywordEach [] X.env))) := by rfl) : PE X (.Call (.Attribute o m apos) (e :: es) [] pos) (tCmA C sp E ta t) := by
  obtain ⟨p, g, mc, F, r, c⟩ := c.ex
  refine ⟨fun pins s σ H Q I h => PySem.W.methodCall_KW (pl := pl) (thn (ho.run pins s σ H _ I h) fun u s1 ⟨x, H1, I1, rx, ex, q⟩ => ?_) ht⟩
  subst ex
  obtain rfl : u = Value.ref C := rx
  refine ClX.getmethcm_ok I1 r c fun s2 I2 => ?_
  refine ClX.callwith_cm I2 (ClX.base_none I1 (Nat.le_refl _)) c.fi (thn (ha.run pos _ s2 σ H1 _ I2 q) fun us s3 ⟨vs, H2, I3, rv, q2⟩ => ⟨⟨ClX.pin_at I3, I3.kIn⟩, ?_⟩) hst hpl
  have z : wpAny (model X.prog X.w) X.A (call (.ref s1.heap.objs.size) us) (EP X ((s1.heap.objs.size, PySem.W.methodObj (.ref g) (.ref C)) :: pins) σ Q) X.xe s3 :=
    wpAny_call (PySem.W.method_call (ClX.pin_at I3) (run_at (us := .ref C :: us) (vs := .ref C :: vs) F (hr.mono hk) (hx σ) I3 (.cons rfl rv) q2))
  exact thn z fun _ _ y => ClX.unpinE y
end
/-! ### a def's promise by its body -/
theorem cxUpK {P : Program} {w : World} {b0 : Heap} {n : Nat} : StX.CXUp (CXk P w b0 n) := by
  rintro outer s H s2 H2 E e s' un kp ho ⟨a, B, H', cls, d, l, ⟨ea, fl⟩, ⟨hok, ub⟩, ⟨na, os, ag⟩, he, tl⟩
  refine ⟨a, B, H', cls, d, l, ⟨ea, fl⟩, ⟨hok, ?_⟩, ⟨na, os.trans ho, ag⟩, he, tl⟩
  exact { keep := fun b o q n hb => ub.keep b o (kp b o q) (un.free b o q n (by simp)) hb
          slot := fun b o q hb => ub.slot b o (kp b o q) hb
          free := fun b o q n => ub.free b o (kp b o q) (un.free b o q n (by simp))
          there := fun b o q hb => ub.there b o (kp b o q) hb
          tups := fun b xs q => ub.tups b xs (un.tups b xs q)
          frzs := fun b o xs q => ub.frzs b o xs (un.frzs b o xs q)
          tbls := fun b ps q => by
            obtain ⟨m1, e1⟩ := un.tbls b ps q
            obtain ⟨m2, e2⟩ := ub.tbls b _ e1
            exact ⟨m1 ++ m2, by rw [e2, Array.append_assoc]⟩ }
section
variable {P : Program} {w : World} {K : PySem.W.Frag} {mg : Str → Option Value} {base : Heap} {CX : CXT} {x qual : Str} {st : Stmt} {dvs : List V} {f : Addr} {fd : FuncData} {N ps : List Str} {k : Nat} {sp : Sp}
/-- a look at the names of a def's scope -/
theorem sc_by {N P : List Str} {sc : Scope} (h : C8.scC N P sc = true) : FnScope N P sc := C8.fnScope_by h
/-- the def's promise, its body's reading told -/
theorem fnp {ds : List Value} {dv : List V} (F : FnP K x qual st dvs f fd) (b : Binds K fd ps ds) (d : Vals dv ds) (S : FnScope N ps (defScope st)) (len : ∀ vs H Q E, sp vs H Q E → vs.length = ps.length)
    (hbody : ∀ (cdv : Value) (A : Around) (outer : List Env) (s : Shared) (H : Hp) (vs : List V) (Q : VK) (E : XK), Room k (A.deeper (envOfC qual (defScope st) s.heap.objs.size f cdv)) → sp vs H Q E →
      ∃ t, PSs (cxOf CX P w K mg base N qual (defScope st) f cdv A outer s H E) (defBody st) t ∧ t { nx := fun _ H' => Q .non H', rt := Q } (start N vs) H) : FnR P w K mg base CX (k + 1) f (fun vs H Q E => sp (vs ++ dv) H Q E) :=
  FnOk.raw (F.ok S len hbody) b d
/-- .. every parameter is given -/
theorem fnp0 (F : FnP K x qual st [] f fd) (b : Binds K fd ps []) (S : FnScope N ps (defScope st)) (len : ∀ vs H Q E, sp vs H Q E → vs.length = ps.length)
    (hbody : ∀ (cdv : Value) (A : Around) (outer : List Env) (s : Shared) (H : Hp) (vs : List V) (Q : VK) (E : XK), Room k (A.deeper (envOfC qual (defScope st) s.heap.objs.size f cdv)) → sp vs H Q E →
      ∃ t, PSs (cxOf CX P w K mg base N qual (defScope st) f cdv A outer s H E) (defBody st) t ∧ t { nx := fun _ H' => Q .non H', rt := Q } (start N vs) H) : FnR P w K mg base CX (k + 1) f sp :=
  (fnp F b .nil S len hbody).imp fun vs H Q E h => by rw [List.append_nil]; exact h
theorem nam_of (F : FnR P w K mg base CX k f sp) (g : mg x = some (.ref f)) (kp : PySem.W.keepIn K (.ref f) = true) : Nam CX P w K mg base k x sp := ⟨f, F, g, kp⟩
end
/-- the names of the built-in world that the text leaves as they are -/
def bltNames : List Str := ["isinstance", "int", "bool", "str", "len", "abs", "max", "any", "all", "tuple", "list", "repr", "sum", "range", "enumerate", "zip", "super", "ValueError", "dict"]
structure Blt (mg : Str → Option Value) : Prop where
  all : ∀ x ∈ bltNames, mg x = none
theorem Blt.g {mg : Str → Option Value} (B : Blt mg) (x : Str) (h : x ∈ bltNames := by decide +kernel) : mg x = none := B.all x h
end Q7
set_option maxHeartbeats 2000000
namespace Q7
open PySem PySem.Spec PyProof.Rows L2 SX
/-! ### plain: whole numbers as texts -/
def isD (c : Nat) : Bool := decide (48 ≤ c) && decide (c ≤ 57)
theorem isD_iff {c : Nat} : isD c = true ↔ 48 ≤ c ∧ c ≤ 57 := by
  unfold isD
  rw [Bool.and_eq_true, decide_eq_true_eq, decide_eq_true_eq]
abbrev val (l : List Nat) : Nat := NumText.digitsVal l
def canon (l : List Nat) : Bool := !l.isEmpty && l.all isD && (l == [48] || l.head? != some 48)
theorem allD {l : List Nat} (h : l.all isD = true) : NumText.AllDigits l := fun c hc => isD_iff.mp (List.all_eq_true.mp h c hc)
theorem fold_lt : ∀ (l : List Nat) (a : Nat), NumText.AllDigits l → l.foldl (fun acc c => acc * 10 + (c - 48)) a < (a + 1) * 10 ^ l.length
  | [], a, _ => by simp
  | c :: l, a, h => by
    have hc := h.head
    have ih := fold_lt l (a * 10 + (c - 48)) h.tail
    rw [List.foldl_cons, List.length_cons, Nat.pow_succ]
    refine Nat.lt_of_lt_of_le ih ?_
    rw [Nat.mul_comm (10 ^ l.length) 10, ← Nat.mul_assoc]
    exact Nat.mul_le_mul_right _ (by omega)
theorem val_lt (l : List Nat) (h : NumText.AllDigits l) : val l < 10 ^ l.length := by
  have z := fold_lt l 0 h
  rw [Nat.zero_add, Nat.one_mul] at z
  exact z
theorem canon_num {l : List Nat} (h : canon l = true) : l = TL.numL (val l) := by
  unfold canon at h
  simp only [Bool.and_eq_true, Bool.or_eq_true, beq_iff_eq, bne_iff_ne, Bool.not_eq_true'] at h
  obtain ⟨⟨h1, h2⟩, h3⟩ := h
  have hd := allD h2
  match l, h1, hd, h3 with
  | c :: r, _, hd, h3 =>
    have hc := hd.head
    have key : Nat.toDigits 10 (NumText.digitsVal (c :: r)) = (c :: r).map Char.ofNat := by
      refine NumText.toDigits_digitsVal r.length (c :: r) rfl hd ?_
      rcases h3 with e | e
      · injection e with e1 e2
        rw [e2]
        exact .inl rfl
      · refine .inr ⟨c, r, rfl, ?_⟩
        have : c ≠ 48 := fun z => e (by rw [z]; rfl)
        omega
    show c :: r = (Nat.toDigits 10 (NumText.digitsVal (c :: r))).map Char.toNat
    rw [key, List.map_map]
    have : ∀ m : List Nat, NumText.AllDigits m → m.map (Char.toNat ∘ Char.ofNat) = m := by
      intro m
      induction m with
      | nil => intro _; rfl
      | cons d m ih =>
        intro hm
        rw [List.map_cons, ih hm.tail]
        have hh := hm.head
        have e : ∀ d : Nat, d < 58 → (Char.ofNat d).toNat = d := by decide
        show (Char.ofNat d).toNat :: m = d :: m
        rw [e d (by omega)]
    exact (this _ hd).symm
theorem num_canon (n : Nat) : canon (TL.numL n) = true := by
  have hd := TL.numL_digits n
  have hne := TL.numL_ne n
  unfold canon
  simp only [Bool.and_eq_true, Bool.or_eq_true, beq_iff_eq, bne_iff_ne, Bool.not_eq_true']
  refine ⟨⟨?_, List.all_eq_true.mpr fun c hc => isD_iff.mpr (hd c hc)⟩, ?_⟩
  · cases e : TL.numL n with
    | nil => exact absurd e hne
    | cons _ _ => rfl
  · by_cases h0 : n = 0
    · subst h0
      exact .inl (TL.numL_lt (by decide))
    · refine .inr ?_
      have : ∀ m : Nat, m ≠ 0 → (TL.numL m).head? ≠ some 48 := by
        intro m
        induction m using Nat.strongRecOn with
        | ind m ih =>
          intro hm
          by_cases h10 : m < 10
          · rw [TL.numL_lt h10]
            simp
            exact hm
          · rw [TL.numL_step (by omega)]
            have h2 := ih (m / 10) (by omega) (by omega)
            cases e : TL.numL (m / 10) with
            | nil => exact absurd e (TL.numL_ne _)
            | cons c r =>
              rw [e] at h2
              exact h2
      exact this n h0
theorem numL_mono {n m : Nat} (h : n ≤ m) : (TL.numL n).length ≤ (TL.numL m).length := by
  refine TL.numL_len ?_ (Nat.lt_of_le_of_lt h ?_)
  · exact List.length_pos_iff.mpr (TL.numL_ne m)
  · have z := val_lt (TL.numL m) (TL.numL_digits m)
    have e : val (TL.numL m) = m := TL.numL_val m
    rw [e] at z
    exact z
/-- the number that l tells within lo .. hi -/
def numV (l : List Nat) (lo hi : Int) : V := if (canon l && (decide (lo ≤ (val l : Int)) && decide ((val l : Int) ≤ hi))) = true then .int (val l) else .non
theorem numV_yes {l : List Nat} {lo hi : Int} (c : canon l = true) (h1 : lo ≤ (val l : Int)) (h2 : (val l : Int) ≤ hi) : numV l lo hi = .int (val l) := by
  unfold numV
  rw [c, decide_eq_true h1, decide_eq_true h2]
  rfl
theorem numV_no {l : List Nat} {lo hi : Int} (h : ¬ (canon l = true ∧ lo ≤ (val l : Int) ∧ (val l : Int) ≤ hi)) : numV l lo hi = .non := by
  unfold numV
  rw [if_neg]
  intro z
  rw [Bool.and_eq_true, Bool.and_eq_true, decide_eq_true_eq, decide_eq_true_eq] at z
  exact h z
/-- what is cut of a sign -/
def unsig (l : List Nat) : List Nat := if l.take 1 = [45] then l.drop 1 else l
theorem unsig_canon {l : List Nat} (h : canon l = true) : unsig l = l := by
  unfold unsig
  rw [if_neg]
  intro e
  unfold canon at h
  simp only [Bool.and_eq_true, Bool.not_eq_true'] at h
  match l, h, e with
  | c :: r, h, e =>
    have hc := (allD h.1.2).head
    have : c = 45 := by simpa using e
    omega
theorem unsig_cases (l : List Nat) : (unsig l = l ∧ l.take 1 ≠ [45]) ∨ (l = 45 :: unsig l ∧ l.take 1 = [45]) := by
  unfold unsig
  by_cases e : l.take 1 = [45]
  · rw [if_pos e]
    refine .inr ⟨?_, e⟩
    match l, e with
    | c :: r, e =>
      have : c = 45 := by simpa using e
      rw [this]
      rfl
  · rw [if_neg e]
    exact .inl ⟨rfl, e⟩
end Q7
set_option maxHeartbeats 2000000
namespace Q7
open PySem PySem.Spec PyProof.Rows L2 SX
/-! ### is_integer, is_within, spread_of -/
def kns : List String := ["int", "bool", "str", "NoneType", "list", "tuple", "dict"]
def isI : V → Bool
  | .int _ => true
  | _ => false
def Ty7 (K : PySem.W.Frag) (H : Hp) (x : V) : Prop := ∃ n ∈ kns, TyX K H x (.type n)
theorem tyx_isI {K : PySem.W.Frag} {H : Hp} {x : V} {n : String} (h : TyX K H x (.type n)) : (n == "int") = isI x := by
  cases h with
  | base h => cases h <;> rfl
  | _ => rfl
theorem kit_int {K : PySem.W.Frag} {n : String} (h : n ∈ kns) : PySem.W.kitOne K (.type n) (.type "int") = some (n == "int" || n == "bool") := by
  refine kit_ty ?_
  have : ∀ m ∈ kns, kitB m "int" = some (m == "int" || m == "bool") := by decide +kernel
  exact this n h
theorem kit_bool {K : PySem.W.Frag} {n : String} (h : n ∈ kns) : PySem.W.kitOne K (.type n) (.type "bool") = some (n == "bool") := by
  refine kit_ty ?_
  have : ∀ m ∈ kns, kitB m "bool" = some (m == "bool") := by decide +kernel
  exact this n h
theorem kit_str {K : PySem.W.Frag} {n : String} (h : n ∈ kns) : PySem.W.kitOne K (.type n) (.type "str") = some (n == "str") := by
  refine kit_ty ?_
  have : ∀ m ∈ kns, kitB m "str" = some (m == "str") := by decide +kernel
  exact this n h
theorem kit_tuple {K : PySem.W.Frag} {n : String} (h : n ∈ kns) : PySem.W.kitOne K (.type n) (.type "tuple") = some (n == "tuple") := by
  refine kit_ty ?_
  have : ∀ m ∈ kns, kitB m "tuple" = some (m == "tuple") := by decide +kernel
  exact this n h
theorem kit_list {K : PySem.W.Frag} {n : String} (h : n ∈ kns) : PySem.W.kitOne K (.type n) (.type "list") = some (n == "list") := by
  refine kit_ty ?_
  have : ∀ m ∈ kns, kitB m "list" = some (m == "list") := by decide +kernel
  exact this n h
theorem kit_dict {K : PySem.W.Frag} {n : String} (h : n ∈ kns) : PySem.W.kitOne K (.type n) (.type "dict") = some (n == "dict") := by
  refine kit_ty ?_
  have : ∀ m ∈ kns, kitB m "dict" = some (m == "dict") := by decide +kernel
  exact this n h
def spIsInt (K : PySem.W.Frag) : Sp := fun vs H Q _ => ∃ x, vs = [x] ∧ Ty7 K H x ∧ Q (.bl (isI x)) H
def wiV (x : V) (lo hi : Int) : Bool := match x with
  | .int i => decide (lo ≤ i) && decide (i ≤ hi)
  | _ => false
def spWithin (K : PySem.W.Frag) : Sp := fun vs H Q _ => ∃ x lo hi, vs = [x, .int lo, .int hi] ∧ Ty7 K H x ∧ Q (.bl (wiV x lo hi)) H
def spr (a b : Int) : Int := if 0 < a ∧ 0 < b then a + b else 0
def spSpread : Sp := fun vs H Q _ => ∃ a b, vs = [.int a, .int b] ∧ Q (.int (spr a b)) H
section
variable {P : Program} {w : World} {K : PySem.W.Frag} {mg : Str → Option Value} {base : Heap} {f : Addr} {fd : FuncData}
theorem ok_isint (F : FnP K "is_integer" "is_integer" (top 7) [] f fd) (b : Binds K fd ["value"] []) (B : Blt mg) : FnR P w K mg base CX0 1 f (spIsInt K) := by
  refine fnp0 F b (N := ["value"]) (sc_by (by decide +kernel)) (fun vs H Q E h => by obtain ⟨x, rfl, _⟩ := h; rfl) fun cdv A outer s H vs Q E hr h => ⟨_, pss_one (ps_ret (pe_and (pe_callB call_isi rfl (B.g "isinstance") boot_isinstance (pa_cons (pv 0) (pa_cons (pe_bltn (v := .ty "int") rfl (B.g "int") boot_int rfl) pa_nil)))
    (pe_one (pe_not (pe_callB call_isi rfl (B.g "isinstance") boot_isinstance (pa_cons (pv 0) (pa_cons (pe_bltn (v := .ty "bool") rfl (B.g "bool") boot_bool rfl) pa_nil))))))), ?_⟩
  obtain ⟨x, rfl, ⟨n, hn, ty⟩, q⟩ := h
  have e := tyx_isI ty
  refine ⟨_, rfl, x, .ty "int", .type n, .type "int", _, rfl, .ty _, ty, kit_int hn, _, rfl, ?_⟩
  refine ite2 (fun c => ?_) (fun c => ?_)
  · refine ⟨_, rfl, x, .ty "bool", .type n, .type "bool", _, rfl, .ty _, ty, kit_bool hn, _, rfl, ?_⟩
    have : (!(n == "bool")) = isI x := by
      rw [← e]
      rcases Bool.or_eq_true_iff.mp c with c | c
      · rw [beq_iff_eq.mp c]
        decide
      · rw [beq_iff_eq.mp c]
        decide
    rw [this]
    exact q
  · have : isI x = false := by
      rw [← e]
      cases z : (n == "int") with
      | false => rfl
      | true => rw [z] at c; exact absurd rfl c
    rw [← this]
    exact q
theorem ok_within {k : Nat} (F : FnP K "is_within" "is_within" (top 8) [] f fd) (b : Binds K fd ["value", "least", "most"] []) (c7 : Nam CX0 P w K mg base 1 "is_integer" (spIsInt K)) : FnR P w K mg base CX0 2 f (spWithin K) := by
  refine fnp0 F b (N := ["value", "least", "most"]) (sc_by (by decide +kernel)) (fun vs H Q E h => by obtain ⟨x, lo, hi, rfl, _⟩ := h; rfl) fun cdv A outer s H vs Q E hr h => ⟨_, pss_one (ps_ret (pe_and (pe_nam c7 hr (by decide) rfl pass_no (pa_cons (pv 0) pa_nil))
    (pe_one (pe_chain op_le op_le (pv 1) (pv 0) (pv 2))))), ?_⟩
  obtain ⟨x, lo, hi, rfl, ty, q⟩ := h
  refine ⟨_, rfl, x, rfl, ty, _, rfl, ?_⟩
  cases x with
  | int i =>
    refine iteT ⟨_, rfl, _, rfl, lo, i, rfl, rfl, _, rfl, ?_⟩
    refine ite2 (fun c => ?_) (fun c => ?_)
    · refine ⟨_, rfl, i, hi, rfl, rfl, ?_⟩
      have e : wiV (.int i) lo hi = decide (i ≤ hi) := by
        show (decide (lo ≤ i) && decide (i ≤ hi)) = _
        rw [c]
        rfl
      rw [e] at q
      exact q
    · have e : wiV (.int i) lo hi = false := by
        show (decide (lo ≤ i) && decide (i ≤ hi)) = _
        rw [Bool.eq_false_iff.mpr c]
        rfl
      rw [e] at q
      exact q
  | _ => exact iteF q
theorem ok_spread (F : FnP K "spread_of" "spread_of" (top 14) [] f fd) (b : Binds K fd ["early", "late"] []) : FnR P w K mg base CX0 1 f spSpread := by
  refine fnp0 F b (N := ["early", "late"]) (sc_by (by decide +kernel)) (fun vs H Q E h => by obtain ⟨x, y, rfl, _⟩ := h; rfl) fun cdv A outer s H vs Q E hr h => ⟨_, pss_one (ps_ret (pe_ifExp (PW.pt (pw_and (pt_cmpR op_gt (pv 0) pe_int (nomark _)) (pw_and1 (pt_cmpR op_gt (pv 1) pe_int (nomark _))))) (pe_op op_add (pv 0) (pv 1)) pe_int)), ?_⟩
  obtain ⟨a, c, rfl, q⟩ := h
  refine ⟨_, rfl, a, 0, rfl, rfl, _, rfl, ?_⟩
  refine ite2 (fun h1 => ?_) (fun h1 => ?_)
  · refine ⟨_, rfl, c, 0, rfl, rfl, _, rfl, ?_⟩
    refine ite2 (fun h2 => ?_) (fun h2 => ?_)
    · refine ⟨_, rfl, _, rfl, a, c, rfl, rfl, ?_⟩
      have e : spr a c = a + c := if_pos ⟨of_decide_eq_true h1, of_decide_eq_true h2⟩
      rw [e] at q
      exact q
    · have e : spr a c = 0 := if_neg fun z => h2 (decide_eq_true z.2)
      rw [e] at q
      exact q
  · have e : spr a c = 0 := if_neg fun z => h1 (decide_eq_true z.1)
    rw [e] at q
    exact iteF q
end
end Q7
set_option maxHeartbeats 2000000
namespace Q7
open PySem PySem.Spec PyProof.Rows L2 SX
/-! ### comprehensions that only read -/
section
variable {J : It} {n : Nat} {G : Hp → Prop} {Y : Nat → Hp → V → Hp → Prop}
theorem same_new {H1 H : Hp} {D : Addr} {o : HO} (h : H1 D = none) (s : Same (upd H1 D o) H) : Same H1 H := fun b u e => s b u (by rw [upd_ne (ne_of_none e h)]; exact e)
theorem same_upd {H : Hp} {D : Addr} {o : HO} (h : H D = none) : Same H (upd H D o) := fun b u e => by rw [upd_ne (ne_of_none e h)]; exact e
theorem same_put {H1 H : Hp} {D : Addr} {o : HO} (s : Same H1 H) (h : H1 D = none) : Same H1 (upd H D o) := fun b u e => by rw [upd_ne (ne_of_none e h)]; exact s b u e
/-- [e for x in ..]: the values ys -/
theorem lc_map (w : Walk J n G Y) {j : Nat} {te : TE} {vs : List Nat} {σ : L2.St} {H1 : Hp} {D : Addr} {Qd : Hp → Prop} (ys : List V) (hD : H1 D = none) (hn : ys.length = n) (hz : n ≤ sizeLine) (hG : ∀ H, Same H1 H → G H)
    (hs : ∀ i x H H' (Kt : VK), i < n → Same H1 H → Y i H x H' → (∀ y H4, ys[i]? = some y → Same H H4 → Kt y H4) → wipe ((wipe σ vs).set j (some x)) vs = wipe σ vs ∧ te ((wipe σ vs).set j (some x)) H' Kt)
    (hd : ∀ H, Same H1 H → H D = some (.lst ys) → Qd H) :
    ∃ W : Nat → Nat → Hp → Prop, (∃ m, W 0 m (upd H1 D (.lst []))) ∧ ∀ i m H, W i m H →
      (J.stop i H ∧ Qd H) ∨ (J.go i H ∧ ∃ Nx : Hp → Prop, (∀ H', Nx H' → ∃ m', m' < m ∧ W (i + 1) m' H') ∧ ∀ x H', J.yld i H x H' → gName j x (wipe σ vs) H' fun σ2 H2 => wipe σ2 vs = wipe σ vs ∧ tYes σ2 H2 fun b H3 =>
        if b = true then te σ2 H3 fun y H4 => ∃ acc, H4 D = some (.lst acc) ∧ acc.length < sizeLine ∧ Nx (upd H4 D (.lst (acc ++ [y]))) else Nx H3) := by
  refine lc_it w (fun i H => Same H1 H ∧ H D = some (.lst (ys.take i))) ⟨same_upd hD, upd_same⟩ (fun i H _ p => hG H p.1) (fun i x H H' hi p y => ?_) (fun H p => hd H p.1 (by rw [p.2, ← hn, List.take_length]))
  have hk : ∀ y H4, ys[i]? = some y → Same H H4 → ∃ acc, H4 D = some (.lst acc) ∧ acc.length < sizeLine ∧ (Same H1 (upd H4 D (.lst (acc ++ [y]))) ∧ (upd H4 D (.lst (acc ++ [y]))) D = some (.lst (ys.take (i + 1)))) := fun y H4 e s => by
    have hlen : i < ys.length := by omega
    refine ⟨_, s D _ p.2, ?_, same_put (p.1.trans s) hD, ?_⟩
    · rw [List.length_take]
      omega
    · rw [upd_same, List.take_succ, e]
      rfl
  obtain ⟨h1, h2⟩ := hs i x H H' _ hi p.1 y hk
  refine ⟨h1, ?_⟩
  unfold tYes
  dsimp only
  rw [if_pos rfl]
  exact h2
/-- [x for x in .. if t]: what is kept of its -/
theorem lc_fil (w : Walk J n G Y) {j : Nat} {tt : TT} {vs : List Nat} {σ : L2.St} {H1 : Hp} {D : Addr} {Qd : Hp → Prop} (its : List V) (keep : V → Bool) (hD : H1 D = none) (hn : its.length = n) (hz : n ≤ sizeLine) (hG : ∀ H, Same H1 H → G H)
    (hs : ∀ i x H H' (Kb : Bool → Hp → Prop), i < n → Same H1 H → Y i H x H' → (∀ H3, its[i]? = some x → Same H H3 → Kb (keep x) H3) → (wipe ((wipe σ vs).set j (some x)) vs = wipe σ vs ∧ ((wipe σ vs).set j (some x))[j]? = some (some x)) ∧ tt ((wipe σ vs).set j (some x)) H' Kb)
    (hd : ∀ H, Same H1 H → H D = some (.lst (its.filter keep)) → Qd H) :
    ∃ W : Nat → Nat → Hp → Prop, (∃ m, W 0 m (upd H1 D (.lst []))) ∧ ∀ i m H, W i m H →
      (J.stop i H ∧ Qd H) ∨ (J.go i H ∧ ∃ Nx : Hp → Prop, (∀ H', Nx H' → ∃ m', m' < m ∧ W (i + 1) m' H') ∧ ∀ x H', J.yld i H x H' → gName j x (wipe σ vs) H' fun σ2 H2 => wipe σ2 vs = wipe σ vs ∧ tt σ2 H2 fun b H3 =>
        if b = true then tVar j σ2 H3 fun y H4 => ∃ acc, H4 D = some (.lst acc) ∧ acc.length < sizeLine ∧ Nx (upd H4 D (.lst (acc ++ [y]))) else Nx H3) := by
  refine lc_it w (fun i H => Same H1 H ∧ H D = some (.lst ((its.take i).filter keep))) ⟨same_upd hD, upd_same⟩ (fun i H _ p => hG H p.1) (fun i x H H' hi p y => ?_) (fun H p => hd H p.1 (by rw [p.2, ← hn, List.take_length]))
  have hlen : i < its.length := by omega
  have hj : ((wipe σ vs).set j (some x))[j]? = some (some x) := (hs i x H H' (fun _ _ => True) hi p.1 y fun _ _ _ => trivial).1.2
  have hk : ∀ H3, its[i]? = some x → Same H H3 → (if keep x = true then tVar j ((wipe σ vs).set j (some x)) H3 fun y H4 => ∃ acc, H4 D = some (.lst acc) ∧ acc.length < sizeLine ∧ (Same H1 (upd H4 D (.lst (acc ++ [y]))) ∧ (upd H4 D (.lst (acc ++ [y]))) D = some (.lst ((its.take (i + 1)).filter keep)))
      else (Same H1 H3 ∧ H3 D = some (.lst ((its.take (i + 1)).filter keep)))) := fun H3 e s => by
    have et : (its.take (i + 1)).filter keep = (its.take i).filter keep ++ (if keep x = true then [x] else []) := by
      rw [List.take_succ, e, List.filter_append]
      congr 1
      show List.filter keep [x] = _
      by_cases c : keep x = true
      · rw [if_pos c, List.filter_cons_of_pos c]
        rfl
      · rw [if_neg c, List.filter_cons_of_neg c]
        rfl
    refine ite2 (fun c => ?_) (fun c => ?_)
    · refine ⟨x, hj, _, s D _ p.2, ?_, same_put (p.1.trans s) hD, ?_⟩
      · have z := List.length_filter_le keep (its.take i)
        rw [List.length_take] at z
        omega
      · rw [upd_same, et, if_pos c]
    · refine ⟨p.1.trans s, ?_⟩
      rw [s D _ p.2, et, if_neg c, List.append_nil]
  obtain ⟨⟨h1, _⟩, h2⟩ := hs i x H H' (fun b H3 => if b = true then tVar j ((wipe σ vs).set j (some x)) H3 fun y H4 => ∃ acc, H4 D = some (.lst acc) ∧ acc.length < sizeLine ∧ (Same H1 (upd H4 D (.lst (acc ++ [y]))) ∧ (upd H4 D (.lst (acc ++ [y]))) D = some (.lst ((its.take (i + 1)).filter keep)))
    else (Same H1 H3 ∧ H3 D = some (.lst ((its.take (i + 1)).filter keep)))) hi p.1 y hk
  exact ⟨h1, h2⟩
end
end Q7
set_option maxHeartbeats 2000000
namespace Q7
open PySem PySem.Spec PyProof.Rows L2 SX
/-! ### integer_of -/
theorem mem_digs {c : Nat} : decide (c ∈ ("0123456789" : Str).cps.toList) = isD c := by
  have e : ("0123456789" : Str).cps.toList = [48, 49, 50, 51, 52, 53, 54, 55, 56, 57] := by decide +kernel
  rw [e]
  unfold isD
  rw [Bool.eq_iff_iff]
  simp only [decide_eq_true_eq, Bool.and_eq_true, List.mem_cons, List.not_mem_nil, or_false]
  omega
def spIntOf : Sp := fun vs H Q _ => ∃ (l : List Nat) (lo hi : Int), vs = [.str (S l), .int lo, .int hi] ∧ (l.length ≤ sizeLine ∧ 0 ≤ lo ∧ lo ≤ hi ∧ hi < 10 ^ 60) ∧ ∀ H', Same H H' → Q (numV l lo hi) H'
section
variable {P : Program} {w : World} {K : PySem.W.Frag} {mg : Str → Option Value} {base : Heap} {f : Addr} {fd : FuncData}
theorem log_small {n : Nat} (h : n < 10 ^ 60) : n.log2 < 1920 := by
  by_cases h0 : n = 0
  · subst h0
    decide
  · refine (Nat.log2_lt h0).mpr (Nat.lt_trans h (by decide +kernel))
theorem S_dash : ("-" : Str) = S [45] := by decide +kernel
theorem S_empty : ("" : Str) = S [] := by decide +kernel
theorem dec_S {a b : List Nat} : decide (V.str (S a) = V.str (S b)) = decide (a = b) := by
  rw [Bool.eq_iff_iff, decide_eq_true_eq, decide_eq_true_eq]
  exact ⟨fun e => S_inj (V.str.inj e), fun e => by rw [e]⟩
theorem str_nat (n : Nat) : (toString ((n : Nat) : Int) : Str) = S (TL.numL n) := num_S n
theorem ok_intof (F : FnP K "integer_of" "integer_of" (top 11) [] f fd) (b : Binds K fd ["word", "least", "most"] []) (B : Blt mg) (g : ∃ u, mg "DIGITS" = some u ∧ RelV (.str "0123456789") u) : FnR P w K mg base CX0 1 f spIntOf := by
  have sc : FnScope ["word", "least", "most", "digits", "number", "sign"] ["word", "least", "most"] (defScope (top 11)) := sc_by (by decide +kernel)
  have nd := sc.nd
  refine fnp0 F b sc (fun vs H Q E h => by obtain ⟨x, lo, hi, rfl, _⟩ := h; rfl) fun cdv A outer s H vs Q E hr h => ⟨_,
    (C8.pss_cut (ps_set (i := 3) nd rfl (Or.inl rfl) (pe_ifExp (pt_cmpR op_eq (pe_slice C8.sl_txt (pv 0) po_none (po_some pe_int)) pe_str (nomark _)) (pe_slice C8.sl_txt (pv 0) (po_some pe_int) po_none) (pv 0)))
    (pss_cons (ps_if (PW.pt (pw_or (pt_cmpR op_eq (pv 3) pe_str (nomark _)) (pw_or1 (pt_cmpR op_gt (pe_callB call_len rfl (B.g "len") boot_len (pa_cons (pv 3) pa_nil)) (pe_callB (call_max2 rfl) rfl (B.g "max") boot_max (pa_cons (pe_callB call_len rfl (B.g "len") boot_len (pa_cons (pe_callTy call_str_int rfl (B.g "str") boot_str (pa_cons (pe_callB call_abs rfl (B.g "abs") boot_abs (pa_cons (pv 1) pa_nil)) pa_nil)) pa_nil)) (pa_cons (pe_callB call_len rfl (B.g "len") boot_len (pa_cons (pe_callTy call_str_int rfl (B.g "str") boot_str (pa_cons (pe_callB call_abs rfl (B.g "abs") boot_abs (pa_cons (pv 2) pa_nil)) pa_nil)) pa_nil)) pa_nil))) (nomark _))))) (pss_one (ps_ret pe_non)) pss_nil)
    (pss_cons (ps_if (pt_val (pe_callB (cr_any rfl) rfl (B.g "any") boot_any (pa_cons (pe_lc (own := [("sign", 5)]) (g := gName 5) (tt := tYes) rfl nd (pi_str (pv 3)) (blkOk_by (own := [("sign", 5)]) (N := ["word", "least", "most", "digits", "number", "sign"]) (sc := defScope (top 11)) (by decide +kernel)) (fun _ _ _ _ _ => pg_name (i := 5) nd rfl (Or.inl rfl)) (fun _ _ _ _ _ => pts_nil) (fun _ _ _ _ _ => (pe_cmpR op_notIn_sign (pv 5) (C8.pe_gc rfl g) rfl))) pa_nil))) (pss_one (ps_ret pe_non)) pss_nil)
    (pss_cons (ps_set (i := 4) nd rfl (Or.inl rfl) (pe_callTy call_int_str rfl (B.g "int") boot_int (pa_cons (pv 0) pa_nil)))
    (pss_cons (ps_if (PW.pt (pw_or (pt_cmpR op_ne (pe_callTy call_str_int rfl (B.g "str") boot_str (pa_cons (pv 4) pa_nil)) (pv 0) (nomark _)) (pw_or (pt_cmpR op_lt (pv 4) (pv 1) (nomark _)) (pw_or1 (pt_cmpR op_gt (pv 4) (pv 2) (nomark _)))))) (pss_one (ps_ret pe_non)) pss_nil)
    (pss_one (ps_ret (pv 4)))))))), ?_⟩
  obtain ⟨l, lo, hi, rfl, ⟨hl, h0, hlh, hh⟩, q⟩ := h
  have tk1 : Txt.slice (S l) none (some 1) = S (l.take 1) := slice_to (by decide)
  refine ⟨fun σ' H' => σ' = [some (.str (S l)), some (.int lo), some (.int hi), some (.str (S (unsig l))), none, none] ∧ H' = H, ?_, ?_⟩
  · refine ⟨_, rfl, 1, rfl, _, rfl, by rw [S_len]; exact hl, rfl, _, rfl, ?_⟩
    rw [tk1, S_dash, dec_S]
    refine ite2 (fun c => ?_) (fun c => ?_)
    · refine ⟨_, rfl, 1, rfl, _, rfl, by rw [S_len]; exact hl, ?_⟩
      have e : Txt.slice (S l) (some 1) none = S (unsig l) := by
        rw [slice_from (by decide)]
        unfold unsig
        rw [if_pos (of_decide_eq_true c)]
        rfl
      rw [e]
      exact ⟨rfl, rfl⟩
    · refine ⟨_, rfl, ?_⟩
      have e : unsig l = l := by
        unfold unsig
        rw [if_neg fun z => c (decide_eq_true z)]
      rw [e]
      exact ⟨rfl, rfl⟩
  rintro σ' H' ⟨rfl, rfl⟩
  have hul : (unsig l).length ≤ sizeLine := by
    rcases unsig_cases l with ⟨e, _⟩ | ⟨e, _⟩
    · rw [e]
      exact hl
    · have := congrArg List.length e
      rw [List.length_cons] at this
      omega
  obtain ⟨lo, rfl⟩ := Int.eq_ofNat_of_zero_le h0
  obtain ⟨hi, rfl⟩ := Int.eq_ofNat_of_zero_le (Int.le_trans h0 hlh)
  have hlN : lo ≤ hi := Int.ofNat_le.mp hlh
  have hhN : hi < 10 ^ 60 := by
    have : ((hi : Nat) : Int) < ((10 ^ 60 : Nat) : Int) := hh
    exact Int.ofNat_lt.mp this
  refine ⟨_, rfl, rfl, _, rfl, ?_⟩
  rw [S_empty, dec_S]
  have qn : ∀ H2, Same H' H2 → ¬ (canon l = true ∧ ((lo : Nat) : Int) ≤ (val l : Int) ∧ (val l : Int) ≤ ((hi : Nat) : Int)) → Q .non H2 := fun H2 s2 h => by
    have z := q H2 s2
    rw [numV_no h] at z
    exact z
  have can_un : canon l = true → unsig l = l := unsig_canon
  refine ite2 (fun c => ?_) (fun c => ?_)
  · -- no digits
    refine iteT (qn _ (Same.refl _) fun ⟨z, _, _⟩ => ?_)
    have e := of_decide_eq_true c
    rw [can_un z] at e
    rw [e] at z
    exact Bool.noConfusion z
  have ne : unsig l ≠ [] := fun z => c (decide_eq_true z)
  have lgl : ((lo : Nat) : Int).natAbs = lo := rfl
  have lgh : ((hi : Nat) : Int).natAbs = hi := rfl
  have ab : ∀ n : Nat, (if ((n : Nat) : Int) < 0 then -((n : Nat) : Int) else ((n : Nat) : Int)) = ((n : Nat) : Int) := fun n => if_neg (by omega)
  have lenNum : ∀ n : Nat, n < 10 ^ 60 → (TL.numL n).length ≤ 60 := fun n hn => TL.numL_len (by decide) hn
  refine ⟨_, rfl, _, _, rfl, ⟨by rw [S_len]; exact hul, rfl⟩, _, rfl, lo, rfl, ?_⟩
  have tk : ∀ n : Nat, (Str.ofString (toString (if ((n : Nat) : Int) < 0 then -((n : Nat) : Int) else ((n : Nat) : Int)))) = S (TL.numL n) := fun n => by rw [ab n]; exact num_S n
  have lgn : ∀ n : Nat, n < 10 ^ 60 → (if ((n : Nat) : Int) < 0 then -((n : Nat) : Int) else ((n : Nat) : Int)).natAbs.log2 < 1920 := fun n hn => by rw [ab n]; exact log_small hn
  have hloN : lo < 10 ^ 60 := Nat.lt_of_le_of_lt hlN hhN
  have szn : ∀ n : Nat, n < 10 ^ 60 → (S (TL.numL n)).length ≤ sizeLine := fun n hn => by
    rw [S_len]
    exact Nat.le_trans (lenNum n hn) (by decide)
  refine ⟨_, rfl, lgn lo hloN, _, _, rfl, ⟨by rw [tk lo]; exact szn lo hloN, rfl⟩, _, rfl, _, rfl, _, rfl, lgn hi hhN, _, _, rfl, ⟨by rw [tk hi]; exact szn hi hhN, rfl⟩, _, _, rfl, _, _, rfl, rfl, _, rfl, ?_⟩
  rw [tk lo, tk hi, S_len, S_len, S_len]
  have mono := numL_mono hlN
  refine ite2 (fun c2 => ?_) (fun c2 => ?_)
  · -- too long
    refine qn _ (Same.refl _) fun ⟨z, z1, z2⟩ => ?_
    have c3 := of_decide_eq_true c2
    rw [can_un z] at c3
    have e := canon_num z
    have m2 : (TL.numL (val l)).length ≤ (TL.numL hi).length := numL_mono (Int.ofNat_le.mp z2)
    rw [← e] at m2
    split at c3 <;> omega
  -- short enough
  have hsh : (unsig l).length ≤ 60 := by
    have c3 : ¬ ((if ((TL.numL hi).length : Int) > ((TL.numL lo).length : Int) then ((TL.numL hi).length : Int) else ((TL.numL lo).length : Int)) < ((unsig l).length : Int)) := fun z => c2 (decide_eq_true z)
    have h1 := lenNum lo hloN
    have h2 := lenNum hi hhN
    split at c3 <;> omega
  -- the signs
  refine ⟨_, rfl, _, rfl, fun D nD => ?_⟩
  refine lc_map walk_str (σ := [some (.str (S l)), some (.int (lo : Int)), some (.int (hi : Int)), some (.str (S (unsig l))), none, none]) ((unsig l).map fun c => .bl (!isD c)) nD (by rw [List.length_map]; simp [S]) (Nat.le_trans (show (S (unsig l)).cps.size ≤ 60 by simpa [S] using hsh) (by decide)) (fun _ _ => trivial) (fun i x H1 H2 Kt hi s1 y hK => ?_) fun H1 s1 hD => ?_
  · obtain ⟨rfl, c, hc, rfl⟩ := y
    refine ⟨rfl, _, rfl, c, _, rfl, rfl, ?_⟩
    have e := mem_digs (c := c)
    rw [e]
    refine hK _ _ ?_ (Same.refl _)
    have hc2 : (unsig l)[i]? = some c := by simpa [S] using hc
    rw [List.getElem?_map, hc2]
    rfl
  refine ⟨D, (unsig l).map fun c => !isD c, rfl, SqL.of (by rw [hD, List.map_map]; rfl), _, rfl, ?_⟩
  rw [List.any_map]
  refine ite2 (fun c3 => ?_) (fun c3 => ?_)
  · -- another sign
    refine qn _ s1 fun ⟨z, _, _⟩ => ?_
    rw [can_un z] at c3
    unfold canon at z
    simp only [Bool.and_eq_true] at z
    obtain ⟨c0, m0, e0⟩ := List.any_eq_true.mp c3
    have e1 := List.all_eq_true.mp z.1.2 c0 m0
    simp [e1] at e0
  have hall : (unsig l).all isD = true := List.all_eq_true.mpr fun c0 m0 => by
    cases e0 : isD c0 with
    | true => rfl
    | false => exact absurd (List.any_eq_true.mpr ⟨c0, m0, by simp [e0]⟩) c3
  have hAD := allD hall
  have hl61 : l.length ≤ 61 := by
    rcases unsig_cases l with ⟨e, _⟩ | ⟨e, _⟩
    · rw [← e]
      omega
    · have := congrArg List.length e
      rw [List.length_cons] at this
      omega
  have hv : val (unsig l) < 10 ^ 60 := Nat.lt_of_lt_of_le (val_lt _ hAD) (Nat.pow_le_pow_right (by decide) hsh)
  rcases unsig_cases l with ⟨e, hns⟩ | ⟨e, _⟩
  · -- no sign ahead
    rw [e] at hAD hv ne hall
    have it : intText? (S l) = some ((val l : Nat) : Int) := PySem.intText_digits (x := S l) hAD ne (by rw [S_len]; omega)
    refine ⟨_, rfl, _, _, rfl, it, by rw [S_len]; omega, ?_⟩
    refine ⟨_, rfl, _, rfl, log_small hv, _, rfl, rfl, _, rfl, ?_⟩
    rw [show Str.ofString (toString ((val l : Nat) : Int)) = S (TL.numL (val l)) from num_S _, dec_S]
    by_cases ec : TL.numL (val l) = l
    · have hc : canon l = true := by
        rw [← ec]
        exact num_canon _
      rw [decide_eq_true ec]
      refine iteF ⟨_, rfl, _, rfl, _, _, rfl, rfl, _, rfl, ?_⟩
      refine ite2 (fun c4 => ?_) (fun c4 => ?_)
      · exact iteT (qn _ s1 fun ⟨_, z1, _⟩ => absurd (of_decide_eq_true c4) (by omega))
      refine ⟨_, rfl, _, rfl, _, _, rfl, rfl, _, rfl, ?_⟩
      refine ite2 (fun c5 => ?_) (fun c5 => ?_)
      · exact qn _ s1 fun ⟨_, _, z1⟩ => absurd (of_decide_eq_true c5) (by omega)
      refine ⟨_, rfl, ?_⟩
      have z := q _ s1
      rw [numV_yes hc (by have : ¬ (((val l : Nat) : Int) < (lo : Int)) := fun y => c4 (decide_eq_true y); omega) (by have : ¬ ((hi : Int) < ((val l : Nat) : Int)) := fun y => c5 (decide_eq_true y); omega)] at z
      exact z
    · rw [decide_eq_false ec]
      exact iteT (iteT (qn _ s1 fun ⟨z, _, _⟩ => ec (canon_num z).symm))
  · -- a sign ahead: never told by a number's text
    have noc : ∀ z1 z2, ¬ (canon l = true ∧ z1 ∧ z2) := fun z1 z2 ⟨z, _, _⟩ => by
      have y := can_un z
      rw [y] at e
      have := congrArg List.length e
      rw [List.length_cons] at this
      omega
    have it : intText? (S l) = some (-((val (unsig l) : Nat) : Int)) := PySem.intText_neg (x := S l) e hAD ne (by rw [S_len]; omega)
    refine ⟨_, rfl, _, _, rfl, it, by rw [S_len]; omega, ?_⟩
    refine ⟨_, rfl, _, rfl, (by rw [Int.natAbs_neg]; exact log_small hv), _, rfl, rfl, _, rfl, ?_⟩
    refine ite2 (fun c4 => ?_) (fun c4 => ?_)
    · exact iteT (qn _ s1 (noc _ _))
    refine ⟨_, rfl, _, rfl, _, _, rfl, rfl, _, rfl, ?_⟩
    refine ite2 (fun c5 => ?_) (fun c5 => ?_)
    · exact iteT (qn _ s1 (noc _ _))
    refine ⟨_, rfl, _, rfl, _, _, rfl, rfl, _, rfl, ?_⟩
    refine ite2 (fun c6 => ?_) (fun c6 => ?_)
    · exact qn _ s1 (noc _ _)
    · -- then it is "0", and the text isn't
      exfalso
      have h5 : ¬ (-((val (unsig l) : Nat) : Int) < (lo : Int)) := fun y => c5 (decide_eq_true y)
      have h0v : val (unsig l) = 0 := by omega
      have c7 : (V.str (Str.ofString (toString (-((val (unsig l) : Nat) : Int)))) = V.str (S l)) := by
        cases z : decide (V.str (Str.ofString (toString (-((val (unsig l) : Nat) : Int)))) = V.str (S l)) with
        | true => exact of_decide_eq_true z
        | false => rw [z] at c4; exact absurd rfl c4
      rw [h0v] at c7
      have e8 : Str.ofString (toString (-((0 : Nat) : Int))) = S [48] := by decide +kernel
      rw [e8] at c7
      have e9 := S_inj (V.str.inj c7)
      rw [← e9] at e
      simp at e
end
end Q7
set_option maxHeartbeats 2000000
namespace Q7
open PySem PySem.Spec PyProof.Rows L2 SX
/-! ### texts of small signs, data of texts -/
def asc (l : List Nat) : Prop := ∀ c ∈ l, c < 128
theorem asc_ok {l : List Nat} (h : asc l) : PyData.strOk (S l) = true := by
  unfold PyData.strOk
  rw [Array.all_eq_true']
  intro c hc
  have m : c ∈ l := by simpa [S] using hc
  exact decide_eq_true (Nat.lt_trans (h c m) (by decide))
def vS (l : List Nat) : V := .str (S l)
def dS (l : List Nat) : PyData := .str (S l)
theorem dp_strs {K : PySem.W.Frag} {H : Hp} : ∀ ls : List (List Nat), DpAll K H (ls.map vS) (ls.map dS)
  | [] => .nil
  | l :: ls => .cons (.str _) (dp_strs ls)
theorem lay_strs : ∀ {ls : List (List Nat)}, (∀ l ∈ ls, asc l) → PyData.canLayAll0 (ls.map dS) = true
  | [], _ => rfl
  | l :: ls, h => by
    show (PyData.canLay0 (.str (S l)) && PyData.canLayAll0 (ls.map dS)) = true
    rw [lay_strs fun m hm => h m (List.mem_cons_of_mem _ hm)]
    show (PyData.strOk (S l) && true) = true
    rw [asc_ok (h l List.mem_cons_self)]
    rfl
theorem depth_strs : ∀ ls : List (List Nat), PyData.depthAll (ls.map dS) = 0
  | [] => rfl
  | l :: ls => by
    show max (PyData.depth (.str (S l))) (PyData.depthAll (ls.map dS)) = 0
    rw [depth_strs ls]
    rfl
theorem shaped_strs {ls : List (List Nat)} (h : ∀ l ∈ ls, asc l) : SeqAt.shaped (.list (ls.map dS)) = true := by
  show (PyData.canLayAll0 (ls.map dS) && decide (PyData.depthAll (ls.map dS) + 1 ≤ 64)) = true
  rw [lay_strs h, depth_strs]
  rfl
theorem eqv_strs : ∀ ls ms : List (List Nat), PyData.eqvAll (ls.map dS) (ms.map dS) = decide (ls = ms)
  | [], [] => rfl
  | [], m :: ms => rfl
  | l :: ls, [] => rfl
  | l :: ls, m :: ms => by
    show (PyData.eqv (.str (S l)) (.str (S m)) && PyData.eqvAll (ls.map dS) (ms.map dS)) = _
    rw [eqv_strs ls ms]
    have e : PyData.eqv (.str (S l)) (.str (S m)) = (S l == S m) := by rw [PyData.eqv]
    rw [e, S_beq_eq, Bool.eq_iff_iff]
    simp only [Bool.and_eq_true, decide_eq_true_eq, List.cons.injEq]
section
variable {K : PySem.W.Frag} {H : Hp} {a b : Addr} {ls ms : List (List Nat)} {Q : VK}
theorem neS (ha : SqL K H a (ls.map vS)) (hb : SqL K H b (ms.map vS)) (h1 : ∀ l ∈ ls, asc l) (h2 : ∀ l ∈ ms, asc l) (q : Q (.bl (!decide (ls = ms))) H) : rNeD K (.ref a) (.ref b) H Q := by
  refine ⟨_, _, .lst ha (dp_strs ls), .lst hb (dp_strs ms), shaped_strs h1, shaped_strs h2, ?_⟩
  have e : PyData.eqv (.list (ls.map dS)) (.list (ms.map dS)) = decide (ls = ms) := by rw [PyData.eqv, eqv_strs]
  rw [e]
  exact q
theorem eqS (ha : SqL K H a (ls.map vS)) (hb : SqL K H b (ms.map vS)) (h1 : ∀ l ∈ ls, asc l) (h2 : ∀ l ∈ ms, asc l) (q : Q (.bl (decide (ls = ms))) H) : rEqD K (.ref a) (.ref b) H Q := by
  refine ⟨_, _, .lst ha (dp_strs ls), .lst hb (dp_strs ms), shaped_strs h1, shaped_strs h2, ?_⟩
  have e : PyData.eqv (.list (ls.map dS)) (.list (ms.map dS)) = decide (ls = ms) := by rw [PyData.eqv, eqv_strs]
  rw [e]
  exact q
end
end Q7
set_option maxHeartbeats 2000000
namespace Q7
open PySem PySem.Spec PyProof.Rows L2 SX
/-! ### _law_is_number -/
def numB (l : List Nat) (lo hi : Int) : Bool := canon l && (decide (lo ≤ (val l : Int)) && decide ((val l : Int) ≤ hi))
theorem numV_B (l : List Nat) (lo hi : Int) : numV l lo hi = if numB l lo hi = true then .int (val l) else .non := rfl
def spLawNum : Sp := fun vs H Q _ => ∃ (l : List Nat) (lo hi : Int), vs = [.str (S l), .int lo, .int hi] ∧ (l.length ≤ sizeLine ∧ asc l ∧ hi < 10 ^ 60) ∧ ∀ H', Same H H' → Q (.bl (numB l lo hi)) H'
section
variable {P : Program} {w : World} {K : PySem.W.Frag} {mg : Str → Option Value} {base : Heap} {f : Addr} {fd : FuncData}
theorem ok_lawnum (F : FnP K "_law_is_number" "_law_is_number" (top 43) [] f fd) (b : Binds K fd ["_law_word_here", "_law_low", "_law_high"] []) (B : Blt mg) : FnR P w K mg base CX0 1 f spLawNum := by
  have sc : FnScope ["_law_word_here", "_law_low", "_law_high", "_law_sign"] ["_law_word_here", "_law_low", "_law_high"] (defScope (top 43)) := sc_by (by decide +kernel)
  have nd := sc.nd
  refine fnp0 F b sc (fun vs H Q E h => by obtain ⟨x, lo, hi, rfl, _⟩ := h; rfl) fun cdv A outer s H vs Q E hr h => ⟨_,
    (pss_cons (ps_if (PW.pt (pw_or (pt_cmpR op_eq (pv 0) pe_str (nomark _)) (pw_or (pt_cmpR op_gt (pe_callB call_len rfl (B.g "len") boot_len (pa_cons (pv 0) pa_nil)) pe_int (nomark _)) (pw_or1 (pt_cmpR (op_neD hr.units) (pe_lc (own := [("_law_sign", 3)]) (g := gName 3)  rfl nd (pi_str (pv 0)) (blkOk_by (own := [("_law_sign", 3)]) (N := ["_law_word_here", "_law_low", "_law_high", "_law_sign"]) (sc := defScope (top 43)) (by decide +kernel)) (fun _ _ _ _ _ => pg_name (i := 3) nd rfl (Or.inl rfl)) (fun _ _ _ _ _ => pts_one (pt_cmpR op_notIn_sign (pv 3) pe_str rfl)) (fun _ _ _ _ _ => (pv 3))) (pe_lst pa_nil) (nomark _)))))) (pss_one (ps_ret pe_bl)) pss_nil)
    (pss_one (ps_ret (pe_and (pe_or (pe_cmpR op_eq (pv 0) pe_str (nomark _)) (pe_one (pe_cmpR op_ne (pe_ix ix_str (pv 0) pe_int (fun _ _ => rfl)) pe_str (nomark _)))) (pe_one (pe_chain op_le op_le (pv 1) (pe_callTy call_int_str rfl (B.g "int") boot_int (pa_cons (pv 0) pa_nil)) (pv 2))))))), ?_⟩
  obtain ⟨l, lo, hi, rfl, ⟨hl, ha, hh⟩, q⟩ := h
  refine ⟨_, rfl, rfl, _, rfl, ?_⟩
  rw [S_empty, dec_S]
  have qf : numB l lo hi = false → ∀ H2, Same H H2 → Q (.bl false) H2 := fun e H2 s2 => by
    have z := q H2 s2
    rw [e] at z
    exact z
  have nc : ∀ {b : Bool}, canon l = false → (canon l && b) = false := fun e => by rw [e]; rfl
  refine ite2 (fun c => ?_) (fun c => ?_)
  · refine iteT (qf (nc ?_) _ (Same.refl _))
    rw [of_decide_eq_true c]
    rfl
  have ne : l ≠ [] := fun z => c (decide_eq_true z)
  refine ⟨_, rfl, _, _, rfl, ⟨by rw [S_len]; exact hl, rfl⟩, _, _, rfl, rfl, _, rfl, ?_⟩
  rw [S_len]
  refine ite2 (fun c2 => ?_) (fun c2 => ?_)
  · refine iteT (qf ?_ _ (Same.refl _))
    have c3 : (60 : Int) < (l.length : Int) := of_decide_eq_true c2
    unfold numB
    cases z : canon l with
    | false => rfl
    | true =>
      have e := canon_num z
      by_cases h2 : ((val l : Nat) : Int) ≤ hi
      · exfalso
        have h3 : ((val l : Nat) : Int) < ((10 ^ 60 : Nat) : Int) := Int.lt_of_le_of_lt h2 hh
        have := TL.numL_len (n := val l) (k := 60) (by decide) (Int.ofNat_lt.mp h3)
        rw [← e] at this
        omega
      · rw [decide_eq_false h2, Bool.and_false]
        rfl
  have hsh : l.length ≤ 60 := by
    have : ¬ ((60 : Int) < (l.length : Int)) := fun z => c2 (decide_eq_true z)
    omega
  refine ⟨_, rfl, _, rfl, fun D nD => ?_⟩
  refine lc_fil walk_str (σ := [some (.str (S l)), some (.int lo), some (.int hi), none]) (l.map fun c => .str ⟨#[c]⟩) (fun x => match x with | .str z => !isD (z.cps.getD 0 0) | _ => false) nD (by rw [List.length_map]; simp [S]) (Nat.le_trans (show (S l).cps.size ≤ 60 by simpa [S] using hsh) (by decide)) (fun _ _ => trivial) (fun i x H1 H2 Kb hi s1 y hK => ?_) fun H1 s1 hD => ?_
  · obtain ⟨rfl, c, hc, rfl⟩ := y
    refine ⟨⟨rfl, rfl⟩, _, rfl, c, _, rfl, rfl, _, rfl, ?_⟩
    rw [mem_digs (c := c)]
    have hc2 : l[i]? = some c := by simpa [S] using hc
    exact hK _ (by rw [List.getElem?_map, hc2] <;> rfl) (Same.refl _)
  refine ⟨by decide, fun L nL => ?_⟩
  have hD2 : (upd H1 L (.lst [])) D = some (.lst ((l.map fun c => V.str ⟨#[c]⟩).filter (fun x => match x with | .str z => !isD (z.cps.getD 0 0) | _ => false))) := by
    rw [upd_ne (ne_of_none hD nL)]
    exact hD
  have ef : (l.map fun c => V.str ⟨#[c]⟩).filter (fun x => match x with | .str z => !isD (z.cps.getD 0 0) | _ => false) = ((l.filter fun c => !isD c).map fun c => [c]).map vS := by
    rw [List.filter_map, List.map_map]
    rfl
  rw [ef] at hD2
  have haf : ∀ m ∈ (l.filter fun c => !isD c).map fun c => [c], asc m := fun m hm => by
    obtain ⟨c, hc, rfl⟩ := List.mem_map.mp hm
    intro d hd
    rw [List.mem_singleton.mp hd]
    exact ha c (List.mem_filter.mp hc).1
  refine neS (SqL.of hD2) (SqL.of (xs := ([] : List (List Nat)).map vS) upd_same) haf (fun _ h => by cases h) ⟨_, rfl, ?_⟩
  have sL : Same H (upd H1 L (.lst [])) := same_put s1 (by
    cases z : H L with
    | none => rfl
    | some o =>
      have := s1 L o z
      rw [nL] at this
      cases this)
  refine ite2 (fun c3 => ?_) (fun c3 => ?_)
  · refine qf (nc ?_) _ sL
    have hne : ¬ (l.filter (fun c => !isD c)).map (fun c => [c]) = [] := fun z => by
      rw [decide_eq_true z] at c3
      exact absurd c3 (by decide)
    cases z : canon l with
    | false => rfl
    | true =>
      exfalso
      apply hne
      unfold canon at z
      simp only [Bool.and_eq_true] at z
      rw [List.map_eq_nil_iff, List.filter_eq_nil_iff]
      intro c hc
      rw [List.all_eq_true.mp z.1.2 c hc]
      decide
  have hall : l.all isD = true := by
    have hne : (l.filter (fun c => !isD c)).map (fun c => [c]) = [] := by
      cases z : decide ((l.filter (fun c => !isD c)).map (fun c => [c]) = []) with
      | true => exact of_decide_eq_true z
      | false => rw [z] at c3; exact absurd rfl c3
    rw [List.map_eq_nil_iff, List.filter_eq_nil_iff] at hne
    refine List.all_eq_true.mpr fun c hc => ?_
    have := hne c hc
    cases z : isD c with
    | true => rfl
    | false => rw [z] at this; exact absurd rfl this
  have it : intText? (S l) = some ((val l : Nat) : Int) := PySem.intText_digits (x := S l) (allD hall) ne (by rw [S_len]; omega)
  have hemp : l.isEmpty = false := by
    cases l with
    | nil => exact absurd rfl ne
    | cons _ _ => rfl
  have can : canon l = (l == [48] || l.head? != some 48) := by
    unfold canon
    rw [hemp, hall]
    rfl
  obtain ⟨c0, r0, el⟩ : ∃ c0 r0, l = c0 :: r0 := by
    cases l with
    | nil => exact absurd rfl ne
    | cons a r => exact ⟨a, r, rfl⟩
  have can_eq : canon l = true → numB l lo hi = (decide (lo ≤ (val l : Int)) && decide ((val l : Int) ≤ hi)) := fun e => by
    unfold numB
    rw [e]
    rfl
  refine ⟨_, rfl, rfl, _, rfl, ?_⟩
  rw [show ("0" : Str) = S [48] by decide +kernel, dec_S]
  by_cases e48 : l = [48]
  · rw [decide_eq_true e48]
    refine iteT ⟨_, rfl, iteT ?_⟩
    have hc : canon l = true := by rw [can, e48]; rfl
    refine ⟨_, rfl, _, rfl, _, _, rfl, it, by rw [S_len]; omega, _, _, rfl, rfl, _, rfl, ?_⟩
    have z := q _ sL
    rw [can_eq hc] at z
    refine ite2 (fun c4 => ?_) (fun c4 => ?_)
    · rw [c4, Bool.true_and] at z
      exact ⟨_, rfl, _, _, rfl, rfl, z⟩
    · rw [Bool.eq_false_iff.mpr c4, Bool.false_and] at z
      exact z
  · rw [decide_eq_false e48]
    refine iteF ⟨_, rfl, _, _, c0, rfl, rfl, by rw [S_len]; exact hl, atI_nat (j := 0) (by show l[0]? = some c0; rw [el] <;> rfl), rfl, _, rfl, ?_⟩
    have ed : decide (V.str ⟨#[c0]⟩ = V.str (S [48])) = decide (c0 = 48) := by
      rw [show (⟨#[c0]⟩ : Str) = S [c0] from rfl, dec_S, Bool.eq_iff_iff, decide_eq_true_eq, decide_eq_true_eq]
      simp
    rw [ed]
    have hcn : canon l = !decide (c0 = 48) := by
      rw [can]
      have e1 : (l == [48]) = false := by simpa using e48
      rw [e1, el]
      by_cases z : c0 = 48
      · rw [z]
        rfl
      · rw [decide_eq_false z]
        simp [z]
    rw [← hcn]
    refine ite2 (fun c5 => ?_) (fun c5 => ?_)
    · refine ⟨_, rfl, _, rfl, _, _, rfl, it, by rw [S_len]; omega, _, _, rfl, rfl, _, rfl, ?_⟩
      have z := q _ sL
      rw [can_eq c5] at z
      refine ite2 (fun c4 => ?_) (fun c4 => ?_)
      · rw [c4, Bool.true_and] at z
        exact ⟨_, rfl, _, _, rfl, rfl, z⟩
      · rw [Bool.eq_false_iff.mpr c4, Bool.false_and] at z
        exact z
    · exact qf (nc (Bool.eq_false_iff.mpr c5)) _ sL
end
end Q7
set_option maxHeartbeats 2000000
namespace Q7
open PySem PySem.Spec PyProof.Rows L2 SX
/-! ### texts cut at one sign -/
theorem spl1_nil (c : Nat) (acc : List Nat) : TL.spl [c] 0 acc [] = [acc] := TL.spl_nil _ _ _
theorem spl1_cons (c d : Nat) (acc r : List Nat) : TL.spl [c] 0 acc (d :: r) = if d = c then acc :: TL.spl [c] 0 [] r else TL.spl [c] 0 (acc ++ [d]) r := by
  by_cases h : d = c
  · rw [if_pos h]
    exact TL.spl_hit (by unfold TL.pre; rw [h]; simp)
  · rw [if_neg h]
    exact TL.spl_miss (by unfold TL.pre; simpa using h)
theorem spl1_mem {c : Nat} : ∀ (l acc p : List Nat), p ∈ TL.spl [c] 0 acc l → (c ∉ acc → c ∉ p) ∧ p.length ≤ acc.length + l.length ∧ ∀ x ∈ p, x ∈ acc ∨ x ∈ l
  | [], acc, p, h => by
    rw [spl1_nil, List.mem_singleton] at h
    subst h
    exact ⟨fun z => z, by simp, fun x hx => .inl hx⟩
  | d :: r, acc, p, h => by
    rw [spl1_cons] at h
    by_cases e : d = c
    · rw [if_pos e] at h
      rcases List.mem_cons.mp h with h | h
      · subst h
        exact ⟨fun z => z, by simp, fun x hx => .inl hx⟩
      · obtain ⟨h1, h2, h3⟩ := spl1_mem r [] p h
        refine ⟨fun _ => h1 (by simp), ?_, fun x hx => ?_⟩
        · rw [List.length_cons]
          rw [List.length_nil] at h2
          omega
        · rcases h3 x hx with z | z
          · cases z
          · exact .inr (List.mem_cons_of_mem _ z)
    · rw [if_neg e] at h
      obtain ⟨h1, h2, h3⟩ := spl1_mem r (acc ++ [d]) p h
      refine ⟨fun z => h1 ?_, ?_, fun x hx => ?_⟩
      · intro m
        rcases List.mem_append.mp m with m | m
        · exact z m
        · exact e (List.mem_singleton.mp m).symm
      · rw [List.length_cons]
        rw [List.length_append, List.length_singleton] at h2
        omega
      · rcases h3 x hx with z | z
        · rcases List.mem_append.mp z with z | z
          · exact .inl z
          · rw [List.mem_singleton.mp z]
            exact .inr List.mem_cons_self
        · exact .inr (List.mem_cons_of_mem _ z)
theorem spl1_len {c : Nat} : ∀ (l acc : List Nat), (TL.spl [c] 0 acc l).length ≤ l.length + 1
  | [], acc => by rw [spl1_nil]; simp
  | d :: r, acc => by
    rw [spl1_cons]
    split
    · rw [List.length_cons, List.length_cons]
      have := spl1_len (c := c) r []
      omega
    · rw [List.length_cons]
      have := spl1_len (c := c) r (acc ++ [d])
      omega
theorem spl1_ne {c : Nat} : ∀ (l acc : List Nat), TL.spl [c] 0 acc l ≠ []
  | [], acc => by rw [spl1_nil]; simp
  | d :: r, acc => by
    rw [spl1_cons]
    split
    · simp
    · exact spl1_ne r _
theorem spl1_join (c : Nat) : ∀ (l acc : List Nat), TL.joinL [c] (TL.spl [c] 0 acc l) = acc ++ l
  | [], acc => by rw [spl1_nil, List.append_nil]; rfl
  | d :: r, acc => by
    rw [spl1_cons]
    by_cases e : d = c
    · rw [if_pos e]
      have ne := spl1_ne (c := c) r []
      have ih := spl1_join c r []
      cases h : TL.spl [c] 0 [] r with
      | nil => exact absurd h ne
      | cons q s =>
        rw [h] at ih
        show acc ++ ([c] ++ TL.joinL [c] (q :: s)) = _
        rw [ih, e]
        rfl
    · rw [if_neg e, spl1_join c r (acc ++ [d]), List.append_assoc]
      rfl
/-- the sum of the pieces, the cuts counted -/
theorem spl1_sum {c : Nat} : ∀ (l acc : List Nat), ((TL.spl [c] 0 acc l).map List.length).sum + (TL.spl [c] 0 acc l).length = acc.length + l.length + 1
  | [], acc => by rw [spl1_nil]; simp
  | d :: r, acc => by
    rw [spl1_cons]
    split
    · have := spl1_sum (c := c) r []
      simp only [List.map_cons, List.sum_cons, List.length_cons, List.length_nil] at *
      omega
    · have := spl1_sum (c := c) r (acc ++ [d])
      simp only [List.length_cons, List.length_append, List.length_nil] at *
      omega
end Q7
set_option maxHeartbeats 2000000
namespace Q7
open PySem PySem.Spec PyProof.Rows L2 SX
/-! ### letters, plain -/
def parts (l : List Nat) : List (List Nat) := TL.spl [124] 0 [] l
def isSg (c : Nat) : Bool := isD c || (decide (97 ≤ c) && decide (c ≤ 122))
def sgOk (p : List Nat) : Bool := decide (p.length ≤ 12) && p.all isSg
def partOk (p : List Nat) : Bool := decide (p = [95]) || (!decide (p = []) && sgOk p)
def wordOk (l : List Nat) : Bool := decide (l = [63]) || (decide ((parts l).length ≤ 9) && (parts l).all partOk)
def lets (l : List Nat) : List (List Nat) := (parts l).map fun p => if p = [95] then [] else p
theorem split_bar (l : List Nat) : Txt.split (S l) "|" = (parts l).map S := by
  have e : ("|" : Str) = S [124] := by decide +kernel
  rw [e]
  exact split_S (by decide) (by decide)
theorem mem_sgs {c : Nat} : decide (c ∈ ("0123456789abcdefghijklmnopqrstuvwxyz" : Str).cps.toList) = isSg c := by
  have e : ("0123456789abcdefghijklmnopqrstuvwxyz" : Str).cps.toList = [48, 49, 50, 51, 52, 53, 54, 55, 56, 57, 97, 98, 99, 100, 101, 102, 103, 104, 105, 106, 107, 108, 109, 110, 111, 112, 113, 114, 115, 116, 117, 118, 119, 120, 121, 122] := by decide +kernel
  rw [e]
  unfold isSg isD
  rw [Bool.eq_iff_iff]
  simp only [decide_eq_true_eq, Bool.and_eq_true, Bool.or_eq_true, List.mem_cons, List.not_mem_nil, or_false]
  omega
theorem S_qm : ("?" : Str) = S [63] := by decide +kernel
theorem S_us : ("_" : Str) = S [95] := by decide +kernel
/-! ### is_signs -/
def spSigns : Sp := fun vs H Q _ => ∃ l : List Nat, vs = [.str (S l)] ∧ l.length ≤ sizeLine ∧ ∀ H', Same H H' → Q (.bl (sgOk l)) H'
section
variable {P : Program} {w : World} {K : PySem.W.Frag} {mg : Str → Option Value} {base : Heap} {f : Addr} {fd : FuncData}
theorem ok_signs (F : FnP K "is_signs" "is_signs" (top 21) [] f fd) (b : Binds K fd ["value"] []) (B : Blt mg) (g1 : ∃ u, mg "SIGNS" = some u ∧ RelV (.str "0123456789abcdefghijklmnopqrstuvwxyz") u) (g2 : ∃ u, mg "MOST_SIGNS" = some u ∧ RelV (.int 12) u) : FnR P w K mg base CX0 1 f spSigns := by
  have sc : FnScope ["value", "sign"] ["value"] (defScope (top 21)) := sc_by (by decide +kernel)
  have nd := sc.nd
  refine fnp0 F b sc (fun vs H Q E h => ?_) fun cdv A outer s H vs Q E hr h => ⟨_,
    (pss_cons (ps_if (PW.pt (pw_or (pt_not (pt_val (pe_callB call_isi rfl (B.g "isinstance") boot_isinstance (pa_cons (pv 0) (pa_cons (pe_bltn (v := .ty "str") rfl (B.g "str") boot_str rfl) pa_nil))))) (pw_or1 (pt_cmpR op_gt (pe_callB call_len rfl (B.g "len") boot_len (pa_cons (pv 0) pa_nil)) (C8.pe_gc rfl g2) (nomark _))))) (pss_one (ps_ret pe_bl)) pss_nil)
    (pss_one (ps_ret (pe_callB (cr_all rfl) rfl (B.g "all") boot_all (pa_cons (pe_lc (own := [("sign", 1)]) (g := gName 1) (tt := tYes) rfl nd (pi_str (pv 0)) (blkOk_by (own := [("sign", 1)]) (N := ["value", "sign"]) (sc := defScope (top 21)) (by decide +kernel)) (fun _ _ _ _ _ => pg_name (i := 1) nd rfl (Or.inl rfl)) (fun _ _ _ _ _ => pts_nil) (fun _ _ _ _ _ => (pe_cmpR op_in_sign (pv 1) (C8.pe_gc rfl g1) rfl))) pa_nil))))), ?_⟩
  · obtain ⟨l, rfl, _⟩ := h
    rfl
  obtain ⟨l, rfl, hl, q⟩ := h
  refine ⟨_, rfl, _, .ty "str", .type "str", .type "str", _, rfl, .ty _, .base (.str _), kit_str (by decide), _, rfl, ?_⟩
  refine iteF ⟨_, rfl, _, _, rfl, ⟨by rw [S_len]; exact hl, rfl⟩, _, _, rfl, rfl, _, rfl, ?_⟩
  rw [S_len]
  refine ite2 (fun c => ?_) (fun c => ?_)
  · have z := q _ (Same.refl _)
    unfold sgOk at z
    have c2 : (12 : Int) < (l.length : Int) := of_decide_eq_true c
    rw [decide_eq_false (show ¬ l.length ≤ 12 by omega), Bool.false_and] at z
    exact z
  have hsh : l.length ≤ 12 := by
    have : ¬ ((12 : Int) < (l.length : Int)) := fun z => c (decide_eq_true z)
    omega
  refine ⟨_, rfl, _, rfl, fun D nD => ?_⟩
  refine lc_map walk_str (σ := [some (.str (S l)), none]) (l.map fun c => .bl (isSg c)) nD (by rw [List.length_map]; simp [S]) (Nat.le_trans (show (S l).cps.size ≤ 12 by simpa [S] using hsh) (by decide)) (fun _ _ => trivial) (fun i x H1 H2 Kt hi s1 y hK => ?_) fun H1 s1 hD => ?_
  · obtain ⟨rfl, c, hc, rfl⟩ := y
    refine ⟨rfl, _, rfl, c, _, rfl, rfl, ?_⟩
    rw [mem_sgs (c := c)]
    have hc2 : l[i]? = some c := by simpa [S] using hc
    exact hK _ _ (by rw [List.getElem?_map, hc2] <;> rfl) (Same.refl _)
  refine ⟨D, l.map isSg, rfl, SqL.of (by rw [hD, List.map_map]; rfl), ?_⟩
  have z := q _ s1
  unfold sgOk at z
  rw [decide_eq_true hsh, Bool.true_and] at z
  rw [List.all_map]
  exact z
/-! ### is_word -/
def spWord : Sp := fun vs H Q _ => ∃ l : List Nat, vs = [.str (S l)] ∧ l.length + 2 ≤ sizeLine ∧ ∀ H', Same H H' → Q (.bl (wordOk l)) H'
theorem ok_word (F : FnP K "is_word" "is_word" (top 22) [] f fd) (b : Binds K fd ["word"] []) (B : Blt mg) (g2 : ∃ u, mg "MOST_PANES" = some u ∧ RelV (.int 9) u) (c1 : Nam CX0 P w K mg base 1 "is_signs" spSigns) : FnR P w K mg base CX0 2 f spWord := by
  have sc : FnScope ["word", "parts", "part"] ["word"] (defScope (top 22)) := sc_by (by decide +kernel)
  have nd := sc.nd
  refine fnp0 F b sc (fun vs H Q E h => ?_) fun cdv A outer s H vs Q E hr h => ⟨_,
    (pss_cons (ps_if (pt_cmpR op_eq (pv 0) pe_str (nomark _)) (pss_one (ps_ret pe_bl)) pss_nil)
    (pss_cons (ps_set (i := 1) nd rfl (Or.inl rfl) (pe_split (pv 0) pe_str))
    (pss_cons (ps_if (pt_cmpR op_gt (pe_callB call_len rfl (B.g "len") boot_len (pa_cons (pv 1) pa_nil)) (C8.pe_gc rfl g2) (nomark _)) (pss_one (ps_ret pe_bl)) pss_nil)
    (pss_one (ps_ret (pe_callB (cr_all rfl) rfl (B.g "all") boot_all (pa_cons (pe_lc (own := [("part", 2)]) (g := gName 2) (tt := tYes) rfl nd (pi_list (pv 1)) (blkOk_by (own := [("part", 2)]) (N := ["word", "parts", "part"]) (sc := defScope (top 22)) (by decide +kernel)) (fun _ _ _ _ _ => pg_name (i := 2) nd rfl (Or.inl rfl)) (fun _ _ _ _ _ => pts_nil) (fun _ _ _ _ _ => (pe_or (pe_cmpR op_eq (pv 2) pe_str (nomark _)) (pe_one (pe_and (pe_cmpR op_ne (pv 2) pe_str (nomark _)) (pe_one (pe_nam c1 hr (by decide) rfl pass_no (pa_cons (pv 2) pa_nil)))))))) pa_nil))))))), ?_⟩
  · obtain ⟨l, rfl, _⟩ := h
    rfl
  obtain ⟨l, rfl, hl, q⟩ := h
  refine ⟨_, rfl, rfl, _, rfl, ?_⟩
  rw [S_qm, dec_S]
  refine ite2 (fun c => ?_) (fun c => ?_)
  · have z := q _ (Same.refl _)
    unfold wordOk at z
    rw [c, Bool.true_or] at z
    exact z
  have c63 : decide (l = [63]) = false := Bool.eq_false_iff.mpr c
  refine ⟨_, rfl, ⟨_, rfl⟩, _, _, rfl, rfl, by decide, by rw [S_len]; exact hl, fun D nD => ?_⟩
  rw [split_bar]
  have hD : upd H D (.lst (((parts l).map S).map V.str)) D = some (.lst (((parts l).map S).map V.str)) := upd_same
  have s0 : Same H (upd H D (.lst (((parts l).map S).map V.str))) := same_upd nD
  generalize upd H D (.lst (((parts l).map S).map V.str)) = H1 at hD s0 ⊢
  have lp : (((parts l).map S).map V.str).length = (parts l).length := by rw [List.length_map, List.length_map]
  have hpl : (parts l).length ≤ l.length + 1 := spl1_len l []
  refine ⟨_, rfl, _, _, rfl, .inl ⟨_, SqL.of hD, rfl⟩, _, _, rfl, rfl, _, rfl, ?_⟩
  rw [lp]
  refine ite2 (fun c2 => ?_) (fun c2 => ?_)
  · have z := q _ s0
    unfold wordOk at z
    have c3 : (9 : Int) < ((parts l).length : Int) := of_decide_eq_true c2
    rw [c63, decide_eq_false (show ¬ (parts l).length ≤ 9 by omega), Bool.false_or, Bool.false_and] at z
    exact z
  have h9 : (parts l).length ≤ 9 := by
    have : ¬ ((9 : Int) < ((parts l).length : Int)) := fun z => c2 (decide_eq_true z)
    omega
  refine ⟨_, rfl, _, rfl, ⟨_, SqL.of hD⟩, fun L nL => ?_⟩
  refine lc_map walk_list (σ := [some (.str (S l)), some (.ref D), none]) ((parts l).map fun p => .bl (partOk p)) nL (by rw [List.length_map, lp]) (by rw [lp]; exact Nat.le_trans h9 (by decide)) (fun H2 s2 => SqL.of (s2 _ _ hD)) (fun i x H2 H3 Kt hi s2 y hK => ?_) fun H2 s2 hL => ?_
  · obtain ⟨rfl, hx⟩ := y
    rw [List.map_map, List.getElem?_map] at hx
    cases e : (parts l)[i]? with
    | none => rw [e] at hx; cases hx
    | some p =>
      rw [e] at hx
      obtain rfl : V.str (S p) = x := Option.some.inj hx
      have hp := (spl1_mem l [] p (List.mem_of_getElem? e)).2.1
      have fin : ∀ H4, Same H3 H4 → Kt (.bl (partOk p)) H4 := fun H4 s4 => hK _ _ (by rw [List.getElem?_map, e] <;> rfl) s4
      refine ⟨rfl, _, rfl, rfl, _, rfl, ?_⟩
      rw [S_us, dec_S]
      unfold partOk at fin
      refine ite2 (fun c4 => ?_) (fun c4 => ?_)
      · have z := fin _ (Same.refl _)
        rw [c4, Bool.true_or] at z
        exact z
      · rw [Bool.eq_false_iff.mpr c4, Bool.false_or] at fin
        refine ⟨_, rfl, rfl, _, rfl, ?_⟩
        rw [S_empty, dec_S]
        refine ite2 (fun c5 => ?_) (fun c5 => ?_)
        · rw [c5, Bool.true_and] at fin
          exact ⟨_, rfl, p, rfl, Nat.le_trans hp (by rw [List.length_nil]; omega), fin⟩
        · rw [Bool.eq_false_iff.mpr c5, Bool.false_and] at fin
          exact fin _ (Same.refl _)
  refine ⟨L, (parts l).map partOk, rfl, SqL.of (by rw [hL, List.map_map]; rfl), ?_⟩
  have z := q _ (s0.trans s2)
  unfold wordOk at z
  rw [c63, decide_eq_true h9, Bool.false_or, Bool.true_and] at z
  rw [List.all_map]
  exact z
/-! ### letter_of -/
def spLetterOf : Sp := fun vs H Q _ => ∃ l : List Nat, vs = [.str (S l)] ∧ l.length + 2 ≤ sizeLine ∧ (l = [63] → Q .non H) ∧ (l ≠ [63] → ∀ H' p, Same H H' → H' p = some (.tup ((lets l).map vS)) → Q (.ref p) H')
theorem ok_letterof (F : FnP K "letter_of" "letter_of" (top 23) [] f fd) (b : Binds K fd ["word"] []) (B : Blt mg) : FnR P w K mg base CX0 1 f spLetterOf := by
  have sc : FnScope ["word", "part"] ["word"] (defScope (top 23)) := sc_by (by decide +kernel)
  have nd := sc.nd
  refine fnp0 F b sc (fun vs H Q E h => ?_) fun cdv A outer s H vs Q E hr h => ⟨_,
    (pss_cons (ps_if (pt_cmpR op_eq (pv 0) pe_str (nomark _)) (pss_one (ps_ret pe_non)) pss_nil)
    (pss_one (ps_ret (pe_callTy call_tuple_of rfl (B.g "tuple") boot_tuple (pa_cons (pe_lc (own := [("part", 1)]) (g := gName 1) (tt := tYes) rfl nd (pi_list (pe_split (pv 0) pe_str)) (blkOk_by (own := [("part", 1)]) (N := ["word", "part"]) (sc := defScope (top 23)) (by decide +kernel)) (fun _ _ _ _ _ => pg_name (i := 1) nd rfl (Or.inl rfl)) (fun _ _ _ _ _ => pts_nil) (fun _ _ _ _ _ => (pe_ifExp (pt_cmpR op_eq (pv 1) pe_str (nomark _)) pe_str (pv 1)))) pa_nil))))), ?_⟩
  · obtain ⟨l, rfl, _⟩ := h
    rfl
  obtain ⟨l, rfl, hl, q1, q2⟩ := h
  refine ⟨_, rfl, rfl, _, rfl, ?_⟩
  rw [S_qm, dec_S]
  refine ite2 (fun c => ?_) (fun c => ?_)
  · exact q1 (of_decide_eq_true c)
  have q3 := q2 fun z => c (decide_eq_true z)
  refine ⟨_, rfl, ⟨_, rfl⟩, _, _, rfl, rfl, by decide, by rw [S_len]; exact hl, fun D nD => ?_⟩
  rw [split_bar]
  have hD : upd H D (.lst (((parts l).map S).map V.str)) D = some (.lst (((parts l).map S).map V.str)) := upd_same
  have s0 : Same H (upd H D (.lst (((parts l).map S).map V.str))) := same_upd nD
  generalize upd H D (.lst (((parts l).map S).map V.str)) = H1 at hD s0 ⊢
  have lp : (((parts l).map S).map V.str).length = (parts l).length := by rw [List.length_map, List.length_map]
  have hpl : (parts l).length ≤ l.length + 1 := spl1_len l []
  refine ⟨_, rfl, ⟨_, SqL.of hD⟩, fun L nL => ?_⟩
  refine lc_map walk_list (σ := [some (.str (S l)), none]) ((lets l).map vS) nL (by rw [List.length_map, lp]; unfold lets; rw [List.length_map]) (by rw [lp]; omega) (fun H2 s2 => SqL.of (s2 _ _ hD)) (fun i x H2 H3 Kt hi s2 y hK => ?_) fun H2 s2 hL => ?_
  · obtain ⟨rfl, hx⟩ := y
    rw [List.map_map, List.getElem?_map] at hx
    cases e : (parts l)[i]? with
    | none => rw [e] at hx; cases hx
    | some p =>
      rw [e] at hx
      obtain rfl : V.str (S p) = x := Option.some.inj hx
      have fin := hK (vS (if p = [95] then [] else p)) H3 (by unfold lets; rw [List.map_map, List.getElem?_map, e] <;> rfl) (Same.refl _)
      refine ⟨rfl, _, rfl, rfl, _, rfl, ?_⟩
      rw [S_us, dec_S]
      refine ite2 (fun c4 => ?_) (fun c4 => ?_)
      · rw [if_pos (of_decide_eq_true c4)] at fin
        exact fin
      · rw [if_neg fun z => c4 (decide_eq_true z)] at fin
        exact ⟨_, rfl, fin⟩
  refine ⟨L, _, rfl, .inl ⟨SqL.of hL, fun T nT => ?_⟩⟩
  exact q3 _ _ (same_put (s0.trans s2) (by
    cases z : H T with
    | none => rfl
    | some o =>
      have := (s0.trans s2) T o z
      rw [nT] at this
      cases this)) upd_same
end
end Q7
set_option maxHeartbeats 2000000
namespace Q7
open PySem PySem.Spec PyProof.Rows L2 SX
/-! ### the errors' text; read_look -/
structure Errs (K : PySem.W.Frag) (prog : Program) (mg : Str → Option Value) (CT CA CV CP fT fA fV fP : Addr) : Prop where
  tT : Err2 K prog CT fT CP fP "at" "word"
  tA : Err2 K prog CA fA CP fP "at" "word"
  tV : Err1 K prog CV fV CP fP "what"
  tP : PostTxt K prog CP fP
  gs : mg "super" = none
  gT : mg "BadText" = some (.ref CT)
  gA : mg "BadAsk" = some (.ref CA)
  gV : mg "BadValue" = some (.ref CV)
  gP : mg "PostError" = some (.ref CP)
  mT : PySem.W.exmOne K (.ref CT) (.ref CT) = some true
  mA : PySem.W.exmOne K (.ref CA) (.ref CP) = some true
  mV : PySem.W.exmOne K (.ref CV) (.ref CP) = some true
  xT : XfC K CT
  xA : XfC K CA
  xV : XfC K CV
theorem calmH {X : Cx} (h : X.A.handled = none) : Hands X [] := ⟨h, trivial, by decide, fun q h => by cases h⟩
theorem room4 {k : Nat} {A : Around} (r : Room k A) : A.depth + 4 < recursionLimit := by
  have := r.dp
  omega
def spReadLook (CT : Addr) : Sp := fun vs H Q E => ∃ l : List Nat, vs = [.str (S l)] ∧ l.length + 2 ≤ sizeLine ∧
  (wordOk l = true → (l = [63] → ∀ H', Same H H' → Q .non H') ∧ (l ≠ [63] → ∀ H' p, Same H H' → H' p = some (.tup ((lets l).map vS)) → Q (.ref p) H')) ∧ (wordOk l = false → ∀ d H', Same H H' → E (.ref CT) (some d) H')
section
variable {P : Program} {w : World} {K : PySem.W.Frag} {mg : Str → Option Value} {base : Heap} {f : Addr} {fd : FuncData} {CT CA CV CP fT fA fV fP : Addr}
theorem ok_readlook (F : FnP K "read_look" "read_look" (top 24) [] f fd) (b : Binds K fd ["text"] []) (B : Blt mg) (Es : Errs K P mg CT CA CV CP fT fA fV fP) (c1 : Nam CX0 P w K mg base 2 "is_word" spWord) (c2 : Nam CX0 P w K mg base 1 "letter_of" spLetterOf) :
    FnR P w K mg base (CXk P w base 0) 3 f (spReadLook CT) := by
  have sc : FnScope ["text"] ["text"] (defScope (top 24)) := sc_by (by decide +kernel)
  have nd := sc.nd
  refine fnp0 F b sc (fun vs H Q E h => ?_) fun cdv A outer s H vs Q E hr h => ⟨_,
    (pss_cons (ps_if (PW.pt (pw_or (pt_not (pt_val (pe_callB call_isi rfl (B.g "isinstance") boot_isinstance (pa_cons (pv 0) (pa_cons (pe_bltn (v := .ty "str") rfl (B.g "str") boot_str rfl) pa_nil))))) (pw_or1 (pt_not (pt_val (pe_nam c1 hr (by decide) rfl pass_no (pa_cons (pv 0) pa_nil)))))))
      (pss_one (ps_raiseK (calmH hr.hd) (fun q h => by cases h) (by decide) (takesK_of rfl rfl rfl rfl) (pmk_err2 Es.tT Es.tP Es.gs Es.gT (room4 hr) (by exact (pa_cons pe_int (pa_cons pe_int pa_nil))))))
      pss_nil)
    (pss_one (ps_ret (pe_nam c2 hr (by decide) rfl pass_no (pa_cons (pv 0) pa_nil))))), ?_⟩
  · obtain ⟨l, rfl, _⟩ := h
    rfl
  obtain ⟨l, rfl, hl, qy, qn⟩ := h
  refine ⟨_, rfl, _, .ty "str", .type "str", .type "str", _, rfl, .ty _, .base (.str _), kit_str (by decide), _, rfl, ?_⟩
  refine iteF ⟨_, rfl, l, rfl, hl, fun H1 s1 => ⟨_, rfl, ?_⟩⟩
  refine ite2 (fun c => ?_) (fun c => ?_)
  · have c2 : wordOk l = false := by
      cases z : wordOk l with
      | false => rfl
      | true => rw [z] at c; exact absurd c (by decide)
    exact ⟨_, _, rfl, fun d p hd => qn c2 _ _ (s1.trans (same_upd hd))⟩
  · have c2 : wordOk l = true := by
      cases z : wordOk l with
      | true => rfl
      | false => rw [z] at c; exact absurd rfl c
    obtain ⟨qa, qb⟩ := qy c2
    exact ⟨_, rfl, l, rfl, hl, fun e => qa e _ s1, fun e H2 p s2 hp => qb e _ _ (s1.trans s2) hp⟩
end
end Q7
set_option maxHeartbeats 2000000
namespace Q7
open PySem PySem.Spec PyProof.Rows L2 SX
/-! ### len of an own class with a def __len__ -/
structure LenC (K : PySem.W.Frag) (C g : Addr) : Prop where
  at_ : PySem.W.findIn K (.ref C) "__len__" = some (some (.ref g))
  ty : PySem.W.typeIn K (.ref g) = some (.type "function")
def rLenOwn (C : Addr) (sp : Sp) : List V → Hp → VK → Prop := fun xs H Q => ∃ a dx fs, xs = [.ref a] ∧ H a = some (.ins C dx fs) ∧ sp [.ref a] H (fun v H' => ∃ n : Nat, v = .int n ∧ n < 2 ^ 62 ∧ Q (.int n) H') (fun _ _ _ => False)
theorem call_lenOwn {X : Cx} {k : Nat} {C g : Addr} {sp : Sp} (c : LenC X.K C g) (F : FnR X.prog X.w X.K X.mg X.base CX0 k g sp) (hr : Room (k + 1) X.A) : CallR X (.builtin "len") (rLenOwn C sp) := by
  intro pins s σ H xs us Q I r h
  obtain ⟨a, dx, fs, rfl, ha, q⟩ := h
  obtain ⟨u, rfl, ru⟩ := vals1 r
  obtain rfl : u = Value.ref a := ru
  obtain ⟨mA, O, _⟩ := ins_get I.hok ha
  obtain ⟨od, J, _⟩ := O.look
  have sp1 : PySem.W.Looks (model X.prog X.w) s.heap (specialOf (.ref a) "__len__") (some (.ref g)) := J.type.andThen (PySem.W.looks_findIn I.kIn c.at_)
  refine Calls.call_function_entry kind_len plain_len entry_len (args_len1 _) ?_
  unfold Builtin.«len»
  refine wpAny_bind (m := oneArg "len" _) (wpAny_pure ?_)
  refine wpAny_bind (m := callSpecial? (.ref a) (PySem.Str.ofString "__len__")) ?_
  unfold callSpecial?
  refine wpAny_bind (sp1.here ?_)
  refine wpAny_holding (wpAny_bind ((PySem.W.bind_fn I.kIn (.ref a) c.ty).here ?_))
  have hcall : wpAny (model X.prog X.w) X.A.in1 (call (.ref g) [.ref a]) (fun v s' => ∃ (n : Nat) (t : Tok) (H' : Hp), v = Value.int n t ∧ n < 2 ^ 62 ∧ Inv X pins σ H' s' ∧ Q (.int n) H') X.xe s := by
    refine wpAny_call (codeAny_mono (F X.A.in1 X.stack s H [.ref a] [.ref a] _ _ hr.in1 I.env0.in1 (.cons rfl .nil) q) fun z s' hz => ?_)
    match z, hz with
    | .error e, hz => exact hz.elim
    | .ok (.ret u), hz =>
      obtain ⟨v, H', J3, rv, n, ev, hn, q3⟩ := I.after hz
      subst ev
      obtain ⟨t, rfl⟩ := rv
      exact ⟨n, t, H', rfl, hn, J3, q3⟩
    | .ok .next, hz => exact hz.elim
    | .ok .brk, hz => exact hz.elim
    | .ok .cont, hz => exact hz.elim
  show wpAny _ _ (call (.ref g) [.ref a] >>= _) _ _ _
  refine wpAny_bind (wpAny_mono hcall (fun v s' hv => ?_) fun _ _ y => y)
  obtain ⟨n, t, H', rfl, hn, J3, q3⟩ := hv
  refine wpAny_pure ?_
  refine wpAny_bind (wpAny_holding (wpAny_pure ?_))
  refine wpAny_bind (wpAny_letGo ?_)
  show wpAny _ _ (if ((n : Nat) : Int) < 0 then _ else _) _ _ _
  rw [if_neg (by omega)]
  show wpAny _ _ (if ((n : Nat) : Int) ≥ 2 ^ 63 then _ else _) _ _ _
  rw [if_neg (by omega)]
  exact wpAny_bind (wpAny_mkInt (wpAny_pure ⟨_, rfl, ⟨.int n, H', J3.tok _, ⟨_, rfl⟩, q3⟩⟩))
end Q7
set_option maxHeartbeats 2000000
namespace Q7
open PySem PySem.Spec PyProof.Rows L2 SX
/-! ### the class Words -/
/-- all but a is as it was -/
def But (a : Addr) (H H' : Hp) : Prop := ∀ b o, b ≠ a → H b = some o → H' b = some o
theorem But.refl (a : Addr) (H : Hp) : But a H H := fun _ _ _ h => h
theorem But.trans {a : Addr} {H H1 H2 : Hp} (x : But a H H1) (y : But a H1 H2) : But a H H2 := fun b o n e => y b o n (x b o n e)
theorem But.of {a : Addr} {H H' : Hp} (s : Same H H') : But a H H' := fun b o _ e => s b o e
theorem But.upd (a : Addr) (H : Hp) (o : HO) : But a H (upd H a o) := fun b u n e => by rw [upd_ne n]; exact e
theorem But.same {a : Addr} {H0 H H' : Hp} (x : But a H H') (h : H0 a = none) (s : Same H0 H) : Same H0 H' := fun b o e => x b o (ne_of_none e h) (s b o e)
structure WCls (K : PySem.W.Frag) (CW : Addr) : Prop where
  cl : Cls K CW
  nA : NoAttr K CW "at"
  nP : NoAttr K CW "parts"
  nM : NoAttr K CW "many"
def wFs (L : Addr) (i : Nat) : List (Str × V) := [("at", .int 0), ("parts", .ref L), ("many", .int i)]
structure Wd (H : Hp) (CW a dx L : Addr) (i : Nat) (ws : List (List Nat)) : Prop where
  ob : H a = some (.ins CW dx (wFs L i))
  ls : H L = some (.lst (ws.map vS))
  le : i ≤ ws.length
  sz : ∀ w ∈ ws, w.length + 2 ≤ sizeLine
  ac : ∀ w ∈ ws, asc w
  n : ws.length < sizeLine
theorem Wd.ne {H : Hp} {CW a dx L : Addr} {i : Nat} {ws : List (List Nat)} (d : Wd H CW a dx L i ws) : L ≠ a := ne_of d.ls d.ob (by intro z; cases z)
theorem Wd.same {H H' : Hp} {CW a dx L : Addr} {i : Nat} {ws : List (List Nat)} (d : Wd H CW a dx L i ws) (s : Same H H') : Wd H' CW a dx L i ws := ⟨s _ _ d.ob, s _ _ d.ls, d.le, d.sz, d.ac, d.n⟩
theorem Wd.step {H : Hp} {CW a dx L : Addr} {i j : Nat} {ws : List (List Nat)} (d : Wd H CW a dx L i ws) (h : j ≤ ws.length) : Wd (upd H a (.ins CW dx (wFs L j))) CW a dx L j ws :=
  ⟨upd_same, by rw [upd_ne d.ne]; exact d.ls, h, d.sz, d.ac, d.n⟩
def okW (w : List Nat) : Bool := !decide (w = []) && !decide (10 ∈ w)
def cur (ws : List (List Nat)) (i : Nat) : Option (List Nat) := match ws[i]? with
  | some w => if okW w = true then some w else none
  | none => none
theorem cur_lt {ws : List (List Nat)} {i : Nat} {w : List Nat} (h : cur ws i = some w) : i < ws.length ∧ ws[i]? = some w ∧ okW w = true := by
  unfold cur at h
  cases e : ws[i]? with
  | none => rw [e] at h; cases h
  | some v =>
    rw [e] at h
    by_cases c : okW v = true
    · simp only [c, if_true] at h
      obtain rfl := Option.some.inj h
      exact ⟨(List.getElem?_eq_some_iff.mp e).1, rfl, c⟩
    · simp only [if_neg c] at h
      cases h
/-- refused at the word i -/
def EW (CT : Addr) (a : Addr) (E : XK) (H : Hp) (i : Nat) : Prop := ∀ d p H', But a H H' → H' d = some (.xd [("word", .int i), ("at", .int 0), ("values_told", .ref p)]) → E (.ref CT) (some d) H'
theorem EW.but {CT a : Addr} {E : XK} {H H' : Hp} {i : Nat} (e : EW CT a E H i) (b : But a H H') : EW CT a E H' i := fun d p H2 b2 h => e d p H2 (b.trans b2) h
section
variable (CT CW : Addr)
def spRefuse : Sp := fun vs H _ E => ∃ a dx L i ws, vs = [.ref a] ∧ Wd H CW a dx L i ws ∧ EW CT a E H i
def spAhead : Sp := fun vs H Q E => ∃ a dx L i ws, vs = [.ref a] ∧ Wd H CW a dx L i ws ∧ (∀ w, cur ws i = some w → Q (vS w) H) ∧ (cur ws i = none → EW CT a E H i)
def spNext : Sp := fun vs H Q E => ∃ a dx L i ws, vs = [.ref a] ∧ Wd H CW a dx L i ws ∧ (∀ w, cur ws i = some w → ∀ H', But a H H' → Wd H' CW a dx L (i + 1) ws → Q (vS w) H') ∧ (cur ws i = none → EW CT a E H i)
def spDone : Sp := fun vs H Q E => ∃ a dx L i ws, vs = [.ref a] ∧ Wd H CW a dx L i ws ∧ (i = ws.length → Q .non H) ∧ (i < ws.length → EW CT a E H i)
def spLen : Sp := fun vs H Q _ => ∃ a dx L i ws, vs = [.ref a] ∧ Wd H CW a dx L i ws ∧ ∀ H', Same H H' → Q (.int ((ws.length - i : Nat) : Int)) H'
def spName : Sp := fun vs H Q E => ∃ (a dx L : Addr) (i : Nat) (ws : List (List Nat)) (T : Addr), ∃ ns : List (List Nat), vs = [.ref a, .ref T] ∧ Wd H CW a dx L i ws ∧ H T = some (.tup (ns.map vS)) ∧ (∀ w, cur ws i = some w → w ∈ ns → ∀ H', But a H H' → Wd H' CW a dx L (i + 1) ws → Q (vS w) H') ∧ ((∀ w, cur ws i = some w → w ∉ ns) → EW CT a E H i)
def spInteger : Sp := fun vs H Q E => ∃ (a dx L : Addr) (i : Nat) (ws : List (List Nat)) (lo hi : Int), vs = [.ref a, .int lo, .int hi] ∧ Wd H CW a dx L i ws ∧ (0 ≤ lo ∧ lo ≤ hi ∧ hi < 10 ^ 60) ∧
  (∀ w, cur ws i = some w → numB w lo hi = true → ∀ H', But a H H' → Wd H' CW a dx L (i + 1) ws → Q (.int (val w)) H') ∧ ((∀ w, cur ws i = some w → numB w lo hi = false) → EW CT a E H i)
end
theorem passD {X : Cx} {n : Nat} {E : XK} {E₁ : Value → Shared → Prop} (hs : X.stack = X.env :: X.outer) (hf : X.env.frame = some X.env.locals) (hex : X.ex = [])
    (hx : X.xe = fun e s' => wpAny (model X.prog X.w) X.A (leaving X.env e) (fun _ s'' => CXk X.prog X.w X.base n X.outer X.H_0 X.s_0 E e s'') E₁ s') : ∀ σ : L2.St, PassesAt (CXk X.prog X.w X.base n) X σ ((fun _ => E) σ) :=
  passK (takesK_of hs hf hex hx) rfl fun _ _ _ _ h => h
theorem inV_S {w : List Nat} : ∀ ns : List (List Nat), inV (vS w) (ns.map vS) = decide (w ∈ ns)
  | [] => rfl
  | m :: ns => by
    have ih := inV_S (w := w) ns
    unfold inV at ih ⊢
    rw [List.map_cons, List.any_cons, ih]
    have e : eqV (vS m) (vS w) = decide (m = w) := S_beq_eq
    rw [e, Bool.eq_iff_iff]
    simp only [Bool.or_eq_true, decide_eq_true_eq, List.mem_cons]
    exact ⟨fun h => h.imp Eq.symm id, fun h => h.imp Eq.symm id⟩
theorem flat_S (ns : List (List Nat)) : (ns.map vS).all flatV = true := List.all_eq_true.mpr fun v h => by
  obtain ⟨m, _, rfl⟩ := List.mem_map.mp h
  rfl
section
variable {P : Program} {w : World} {K : PySem.W.Frag} {mg : Str → Option Value} {base : Heap} {f : Addr} {fd : FuncData} {CT CA CV CP fT fA fV fP CW : Addr}
theorem ok_refuse (F : FnP K "refuse" "Words.refuse" (inC (top 12) 2) [] f fd) (b : Binds K fd ["self"] []) (Es : Errs K P mg CT CA CV CP fT fA fV fP) (C : WCls K CW) : FnR P w K mg base (CXk P w base 0) 1 f (spRefuse CT CW) := by
  have sc : FnScope ["self"] ["self"] (defScope (inC (top 12) 2)) := sc_by (by decide +kernel)
  have nd := sc.nd
  refine fnp0 F b sc (fun vs H Q E h => ?_) fun cdv A outer s H vs Q E hr h => ⟨_,
    pss_one (ps_raiseK (calmH hr.hd) (fun q h => by cases h) (by decide) (takesK_of rfl rfl rfl rfl) (pmk_err2 Es.tT Es.tP Es.gs Es.gT (room4 hr) (by exact (pa_cons (pe_fld (pv 0) rfl) (pa_cons (pe_fld (pv 0) rfl) pa_nil))))), ?_⟩
  · obtain ⟨a, dx, L, i, ws, rfl, _⟩ := h
    rfl
  obtain ⟨a, dx, L, i, ws, rfl, d, e⟩ := h
  refine ⟨_, rfl, a, CW, dx, _, _, rfl, d.ob, C.cl, C.nA, rfl, _, rfl, a, CW, dx, _, _, rfl, d.ob, C.cl, C.nM, rfl, _, _, rfl, fun dd p hd => ?_⟩
  exact e dd p _ (But.of (same_upd hd)) upd_same
theorem ok_ahead (F : FnP K "ahead" "Words.ahead" (inC (top 12) 3) [] f fd) (b : Binds K fd ["self"] []) (B : Blt mg) (C : WCls K CW) (cR : Mth (CXk P w base 0) P w K mg base 1 CW "refuse" (spRefuse CT CW)) : FnR P w K mg base (CXk P w base 0) 2 f (spAhead CT CW) := by
  have sc : FnScope ["self", "word"] ["self"] (defScope (inC (top 12) 3)) := sc_by (by decide +kernel)
  have nd := sc.nd
  refine fnp0 F b sc (fun vs H Q E h => ?_) fun cdv A outer s H vs Q E hr h => ⟨_,
    (pss_cons (ps_if (pt_cmpR op_eq (pe_fld (pv 0) rfl) (pe_callB call_len rfl (B.g "len") boot_len (pa_cons (pe_fld (pv 0) rfl) pa_nil)) (nomark _)) (pss_one (ps_expr (pe_mth0 cR hr (by decide) (passD rfl rfl rfl rfl) (pv 0)))) pss_nil)
    (pss_cons (ps_set (i := 1) nd rfl (Or.inl rfl) (pe_ix ix_list (pe_fld (pv 0) rfl) (pe_fld (pv 0) rfl) (fun _ _ => rfl)))
    (pss_cons (ps_if (PW.pt (pw_or (pt_cmpR op_eq (pv 1) pe_str (nomark _)) (pw_or1 (pt_cmpR op_in_sign pe_str (pv 1) rfl)))) (pss_one (ps_expr (pe_mth0 cR hr (by decide) (passD rfl rfl rfl rfl) (pv 0)))) pss_nil)
    (pss_one (ps_ret (pv 1)))))), ?_⟩
  · obtain ⟨a, dx, L, i, ws, rfl, _⟩ := h
    rfl
  obtain ⟨a, dx, L, i, ws, rfl, d, qy, qn⟩ := h
  have lw : (ws.map vS).length = ws.length := List.length_map ..
  refine ⟨_, rfl, a, CW, dx, _, _, rfl, d.ob, C.cl, C.nM, rfl, _, rfl, a, CW, dx, _, _, rfl, d.ob, C.cl, C.nP, rfl, _, _, rfl, .inl ⟨_, SqL.of d.ls, rfl⟩, rfl, _, rfl, ?_⟩
  rw [lw]
  refine ite2 (fun c => ?_) (fun c => ?_)
  · have hi : i = ws.length := by
      have := V.int.inj (of_decide_eq_true c)
      omega
    refine ⟨_, rfl, a, dx, _, rfl, d.ob, rfl, a, dx, L, i, ws, rfl, d, qn ?_⟩
    unfold cur
    rw [hi, List.getElem?_eq_none (Nat.le_refl _)]
  have hi : i < ws.length := by
    have h1 := d.le
    have h2 : i ≠ ws.length := fun z => c (by rw [z]; exact decide_eq_true rfl)
    omega
  obtain ⟨wd, hw⟩ : ∃ wd, ws[i]? = some wd := ⟨ws[i], List.getElem?_eq_getElem hi⟩
  refine ⟨_, rfl, a, CW, dx, _, _, rfl, d.ob, C.cl, C.nP, rfl, _, rfl, a, CW, dx, _, _, rfl, d.ob, C.cl, C.nM, rfl, L, _, _, vS wd, rfl, rfl, SqL.of d.ls, atI_nat (by rw [List.getElem?_map, hw] <;> rfl), ?_⟩
  have ec : cur ws i = if okW wd = true then some wd else none := by
    unfold cur
    rw [hw]
  refine ⟨_, rfl, rfl, _, rfl, ?_⟩
  rw [show decide (vS wd = V.str "") = decide (wd = []) from by rw [S_empty]; exact dec_S]
  refine ite2 (fun c1 => ?_) (fun c1 => ?_)
  · refine iteT ⟨_, rfl, a, dx, _, rfl, d.ob, rfl, a, dx, L, i, ws, rfl, d, qn ?_⟩
    rw [ec]
    unfold okW
    rw [c1]
    rfl
  refine ⟨_, rfl, 10, S wd, ?_, rfl, _, rfl, ?_⟩
  · exact congrArg V.str (by decide +kernel)
  have e10 : decide (10 ∈ (S wd).cps.toList) = decide (10 ∈ wd) := by simp [S]
  rw [e10]
  refine ite2 (fun c2 => ?_) (fun c2 => ?_)
  · refine ⟨_, rfl, a, dx, _, rfl, d.ob, rfl, a, dx, L, i, ws, rfl, d, qn ?_⟩
    rw [ec]
    unfold okW
    rw [c2]
    simp
  · refine ⟨_, rfl, qy wd ?_⟩
    rw [ec]
    unfold okW
    rw [Bool.eq_false_iff.mpr c1, Bool.eq_false_iff.mpr c2]
    rfl
end
end Q7
set_option maxHeartbeats 2000000
namespace Q7
open PySem PySem.Spec PyProof.Rows L2 SX
section
variable {P : Program} {w : World} {K : PySem.W.Frag} {mg : Str → Option Value} {base : Heap} {f : Addr} {fd : FuncData} {CT CA CV CP fT fA fV fP CW : Addr}
theorem ok_next (F : FnP K "next" "Words.next" (inC (top 12) 4) [] f fd) (b : Binds K fd ["self"] []) (C : WCls K CW) (cA : Mth (CXk P w base 0) P w K mg base 2 CW "ahead" (spAhead CT CW)) : FnR P w K mg base (CXk P w base 0) 3 f (spNext CT CW) := by
  have sc : FnScope ["self", "word"] ["self"] (defScope (inC (top 12) 4)) := sc_by (by decide +kernel)
  have nd := sc.nd
  refine fnp0 F b sc (fun vs H Q E h => ?_) fun cdv A outer s H vs Q E hr h => ⟨_,
    (pss_cons (ps_set (i := 1) nd rfl (Or.inl rfl) (pe_mth0 cA hr (by decide) (passD rfl rfl rfl rfl) (pv 0)))
    (pss_cons (ps_fldaug (pv 0) pe_int in_add)
    (pss_one (ps_ret (pv 1))))), ?_⟩
  · obtain ⟨a, dx, L, i, ws, rfl, _⟩ := h
    rfl
  obtain ⟨a, dx, L, i, ws, rfl, d, qy, qn⟩ := h
  refine ⟨_, rfl, a, dx, _, rfl, d.ob, rfl, a, dx, L, i, ws, rfl, d, fun wd e => ?_, qn⟩
  have lt := (cur_lt e).1
  refine ⟨_, rfl, a, CW, dx, _, _, rfl, d.ob, C.cl, C.nM, rfl, _, _, rfl, rfl, dx, _, d.ob, (by show 3 < 1000; decide), ?_⟩
  refine ⟨_, rfl, ?_⟩
  exact qy wd e _ (But.upd _ _ _) (d.step lt)
theorem ok_done (F : FnP K "done" "Words.done" (inC (top 12) 7) [] f fd) (b : Binds K fd ["self"] []) (B : Blt mg) (C : WCls K CW) (cR : Mth (CXk P w base 0) P w K mg base 1 CW "refuse" (spRefuse CT CW)) : FnR P w K mg base (CXk P w base 0) 2 f (spDone CT CW) := by
  have sc : FnScope ["self"] ["self"] (defScope (inC (top 12) 7)) := sc_by (by decide +kernel)
  have nd := sc.nd
  refine fnp0 F b sc (fun vs H Q E h => ?_) fun cdv A outer s H vs Q E hr h => ⟨_,
    (pss_one (ps_if (pt_cmpR op_lt (pe_fld (pv 0) rfl) (pe_callB call_len rfl (B.g "len") boot_len (pa_cons (pe_fld (pv 0) rfl) pa_nil)) (nomark _)) (pss_one (ps_expr (pe_mth0 cR hr (by decide) (passD rfl rfl rfl rfl) (pv 0)))) pss_nil)), ?_⟩
  · obtain ⟨a, dx, L, i, ws, rfl, _⟩ := h
    rfl
  obtain ⟨a, dx, L, i, ws, rfl, d, qy, qn⟩ := h
  have lw : (ws.map vS).length = ws.length := List.length_map ..
  refine ⟨_, rfl, a, CW, dx, _, _, rfl, d.ob, C.cl, C.nM, rfl, _, rfl, a, CW, dx, _, _, rfl, d.ob, C.cl, C.nP, rfl, _, _, rfl, .inl ⟨_, SqL.of d.ls, rfl⟩, _, _, rfl, rfl, _, rfl, ?_⟩
  rw [lw]
  refine ite2 (fun c => ?_) (fun c => ?_)
  · have hi : (i : Int) < (ws.length : Int) := of_decide_eq_true c
    exact ⟨_, rfl, a, dx, _, rfl, d.ob, rfl, a, dx, L, i, ws, rfl, d, qn (by omega)⟩
  · have hi : ¬ ((i : Int) < (ws.length : Int)) := fun z => c (decide_eq_true z)
    have := d.le
    exact qy (by omega)
theorem ok_len (F : FnP K "__len__" "Words.__len__" (inC (top 12) 1) [] f fd) (b : Binds K fd ["self"] []) (B : Blt mg) (C : WCls K CW) : FnR P w K mg base CX0 1 f (spLen CW) := by
  have sc : FnScope ["self"] ["self"] (defScope (inC (top 12) 1)) := sc_by (by decide +kernel)
  have nd := sc.nd
  refine fnp0 F b sc (fun vs H Q E h => ?_) fun cdv A outer s H vs Q E hr h => ⟨_,
    (pss_one (ps_ret (pe_callB call_len rfl (B.g "len") boot_len (pa_cons (pe_slice sl_list (pe_fld (pv 0) rfl) (po_some (pe_fld (pv 0) rfl)) po_none) pa_nil)))), ?_⟩
  · obtain ⟨a, dx, L, i, ws, rfl, _⟩ := h
    rfl
  obtain ⟨a, dx, L, i, ws, rfl, d, qy⟩ := h
  refine ⟨_, rfl, a, CW, dx, _, _, rfl, d.ob, C.cl, C.nP, rfl, _, rfl, a, CW, dx, _, _, rfl, d.ob, C.cl, C.nM, rfl, _, rfl, L, _, rfl, SqL.of d.ls, fun D nD => ?_⟩
  refine ⟨_, _, rfl, .inl ⟨_, SqL.of upd_same, rfl⟩, ?_⟩
  have e : (cutV (ws.map vS) (some (i : Int)) none).length = ws.length - i := by
    unfold cutV
    rw [HT.sIx_nat, HT.sIx_none, List.length_take, List.length_drop, List.length_map]
    have := d.le
    omega
  rw [e]
  exact qy _ (same_upd nD)
def spNameS (CT CW : Addr) : Sp := fun vs H Q E => ∃ (a dx L : Addr) (i : Nat) (ws : List (List Nat)), ∃ ns : List (List Nat), vs = .ref a :: ns.map vS ∧ ns.length ≤ 1000 ∧ Wd H CW a dx L i ws ∧ (∀ w, cur ws i = some w → w ∈ ns → ∀ H', But a H H' → Wd H' CW a dx L (i + 1) ws → Q (vS w) H') ∧ ((∀ w, cur ws i = some w → w ∉ ns) → EW CT a E H i)
theorem ok_name (F : FnP K "name" "Words.name" (inC (top 12) 5) [] f fd) (hb : ∀ (kV doc pm : Value) (an : Option Addr) (cdv ct : Value) (us rest : List Value), us.length = 1 → bindArgs (PySem.W.fnOf "name" "Words.name" (defArgs (inC (top 12) 5)) (defBody (inC (top 12) 5)) (defScope (inC (top 12) 5)) .none kV doc pm an cdv ct) ⟨us ++ rest, []⟩ = (newTuple rest >>= fun t => pure ((["self"] : List Str).zip us ++ [(("names" : Str), t)])))
    (C : WCls K CW) (cA : Mth (CXk P w base 0) P w K mg base 2 CW "ahead" (spAhead CT CW)) (cR : Mth (CXk P w base 0) P w K mg base 1 CW "refuse" (spRefuse CT CW)) (cN : Mth (CXk P w base 0) P w K mg base 3 CW "next" (spNext CT CW)) :
    FnR P w K mg base (CXk P w base 0) 4 f (spNameS CT CW) := by
  have sc : FnScope ["self", "names"] ((["self"] : List Str) ++ (["names"] : List Str)) (defScope (inC (top 12) 5)) := sc_by (by decide +kernel)
  have nd := sc.nd
  obtain ⟨oc, od, dV, kV, doc, pm, an, cdv, ct, osl, rfl, lk, hcd, hD, _⟩ := F.ex
  obtain rfl : dV = .none := hD.elim (fun z => z.2) fun z => absurd rfl z.1
  refine (StX.fn_star (sp := spName CT CW) (ps := ["self"]) (pv := "names") lk hcd sc cxUpK (hb kV doc pm an cdv ct) fun A outer s H vs Q E hr h => ⟨_,
    (pss_cons (ps_if (pt_cmpR op_notIn_seq (pe_mth0 cA hr (by decide) (passD rfl rfl rfl rfl) (pv 0)) (pv 1) rfl) (pss_one (ps_expr (pe_mth0 cR hr (by decide) (passD rfl rfl rfl rfl) (pv 0)))) pss_nil)
    (pss_one (ps_ret (pe_mth0 cN hr (by decide) (passD rfl rfl rfl rfl) (pv 0))))), ?_⟩).imp fun vs H Q E h => ?_
  · obtain ⟨a, dx, L, i, ws, T, ns, rfl, d, hT, qy, qn⟩ := h
    refine ⟨_, rfl, a, dx, _, rfl, d.ob, rfl, a, dx, L, i, ws, rfl, d, fun wd e => ?_, fun e => qn fun w z => by rw [e] at z; cases z⟩
    refine ⟨_, rfl, T, _, rfl, .inr (SqT.of hT), rfl, flat_S ns, _, rfl, ?_⟩
    rw [if_pos rfl, inV_S]
    refine ite2 (fun c => ?_) (fun c => ?_)
    · refine ⟨_, rfl, a, dx, _, rfl, d.ob, rfl, a, dx, L, i, ws, rfl, d, qn fun w z => ?_⟩
      rw [e] at z
      obtain rfl := Option.some.inj z
      intro m
      rw [decide_eq_true m] at c
      exact absurd c (by decide)
    · have hm : wd ∈ ns := by
        cases z : decide (wd ∈ ns) with
        | true => exact of_decide_eq_true z
        | false => rw [z] at c; exact absurd rfl c
      exact ⟨_, rfl, a, dx, _, rfl, d.ob, rfl, a, dx, L, i, ws, rfl, d, fun w z => by
        rw [e] at z
        obtain rfl := Option.some.inj z
        exact qy wd e hm, fun z => by rw [e] at z; cases z⟩
  · obtain ⟨a, dx, L, i, ws, ns, rfl, hz, d, qy, qn⟩ := h
    refine ⟨[.ref a], ns.map vS, rfl, rfl, by rw [List.length_map]; exact Nat.le_trans hz (by decide), fun p hp => ?_⟩
    have s1 : Same H (upd H p (.tup (ns.map vS))) := same_upd hp
    exact ⟨a, dx, L, i, ws, p, ns, rfl, d.same s1, upd_same, fun w e m H' b' d' => qy w e m H' ((But.of s1).trans b') d', fun z => (qn z).but (But.of s1)⟩
theorem ok_integer (F : FnP K "integer" "Words.integer" (inC (top 12) 6) [] f fd) (b : Binds K fd ["self", "least", "most"] []) (C : WCls K CW) (cA : Mth (CXk P w base 0) P w K mg base 2 CW "ahead" (spAhead CT CW)) (cR : Mth (CXk P w base 0) P w K mg base 1 CW "refuse" (spRefuse CT CW)) (cI : Nam CX0 P w K mg base 1 "integer_of" spIntOf) :
    FnR P w K mg base (CXk P w base 0) 3 f (spInteger CT CW) := by
  have sc : FnScope ["self", "least", "most", "number"] ["self", "least", "most"] (defScope (inC (top 12) 6)) := sc_by (by decide +kernel)
  have nd := sc.nd
  refine fnp0 F b sc (fun vs H Q E h => ?_) fun cdv A outer s H vs Q E hr h => ⟨_,
    (pss_cons (ps_set (i := 3) nd rfl (Or.inl rfl) (pe_nam cI hr (by decide) rfl pass_no (pa_cons (pe_mth0 cA hr (by decide) (passD rfl rfl rfl rfl) (pv 0)) (pa_cons (pv 1) (pa_cons (pv 2) pa_nil)))))
    (pss_cons (ps_if (pt_cmpR op_isN (pv 3) pe_non (nomark _)) (pss_one (ps_expr (pe_mth0 cR hr (by decide) (passD rfl rfl rfl rfl) (pv 0)))) pss_nil)
    (pss_cons (ps_fldaug (pv 0) pe_int in_add)
    (pss_one (ps_ret (pv 3)))))), ?_⟩
  · obtain ⟨a, dx, L, i, ws, lo, hi, rfl, _⟩ := h
    rfl
  obtain ⟨a, dx, L, i, ws, lo, hi, rfl, d, hb, qy, qn⟩ := h
  refine ⟨_, rfl, a, dx, _, rfl, d.ob, rfl, a, dx, L, i, ws, rfl, d, fun wd e => ?_, fun e => qn fun w z => by rw [e] at z; cases z⟩
  have lt := cur_lt e
  have hsz := d.sz wd (List.mem_of_getElem? lt.2.1)
  refine ⟨_, rfl, _, rfl, wd, lo, hi, rfl, ⟨by omega, hb⟩, fun H1 s1 => ?_⟩
  have d1 := d.same s1
  rw [numV_B]
  by_cases c : numB wd lo hi = true
  · rw [if_pos c]
    refine ⟨_, rfl, rfl, _, rfl, ?_⟩
    refine iteF (A := _) ?_
    refine ⟨_, rfl, a, CW, dx, _, _, rfl, d1.ob, C.cl, C.nM, rfl, _, _, rfl, rfl, dx, _, d1.ob, (by show 3 < 1000; decide), ?_⟩
    exact ⟨_, rfl, qy wd e c _ ((But.of s1).trans (But.upd _ _ _)) (d1.step lt.1)⟩
  · rw [if_neg c]
    refine ⟨_, rfl, rfl, _, rfl, ?_⟩
    refine iteT (B := _) ?_
    refine ⟨_, rfl, a, dx, _, rfl, d1.ob, rfl, a, dx, L, i, ws, rfl, d1, (qn fun w z => ?_).but (But.of s1)⟩
    rw [e] at z
    obtain rfl := Option.some.inj z
    exact Bool.eq_false_iff.mpr c
end
end Q7
set_option maxHeartbeats 2000000
namespace Q7
open PySem PySem.Spec PyProof.Rows L2 SX
/-! ### Words made -/
def words (l : List Nat) : List (List Nat) := TL.spl [32] 0 [] l
theorem split_sp (l : List Nat) : Txt.split (S l) " " = (words l).map S := by
  have e : (" " : Str) = S [32] := by decide +kernel
  rw [e]
  exact split_S (by decide) (by decide)
theorem words_sz {l : List Nat} (h : l.length + 2 ≤ sizeLine) : ∀ w ∈ words l, w.length + 2 ≤ sizeLine := fun w hw => by
  have := (spl1_mem l [] w hw).2.1
  rw [List.length_nil] at this
  omega
theorem words_ac {l : List Nat} (h : asc l) : ∀ w ∈ words l, asc w := fun w hw c hc => by
  rcases (spl1_mem l [] w hw).2.2 c hc with z | z
  · cases z
  · exact h c z
theorem words_n {l : List Nat} (h : l.length + 2 ≤ sizeLine) : (words l).length < sizeLine := by
  have := spl1_len (c := 32) l []
  show (TL.spl [32] 0 [] l).length < _
  omega
def spWInit (CT CW : Addr) (K : PySem.W.Frag) : Sp := fun vs H Q E => ∃ (a dx : Addr) (t : V), vs = [.ref a, t, .int 0] ∧ H a = some (.ins CW dx []) ∧
  ((∃ l, t = .str (S l) ∧ l.length + 2 ≤ sizeLine ∧ asc l ∧ ∀ H' L, But a H H' → Wd H' CW a dx L 0 (words l) → Q .non H') ∨
   (∃ n ∈ kns, n ≠ "str" ∧ TyX K H t (.type n) ∧ EW CT a E H 0))
section
variable {P : Program} {w : World} {K : PySem.W.Frag} {mg : Str → Option Value} {base : Heap} {f : Addr} {fd : FuncData} {CT CA CV CP fT fA fV fP CW : Addr}
theorem ok_winit {ds : List Value} (F : FnP K "__init__" "Words.__init__" (inC (top 12) 0) [.int 0] f fd) (b : Binds K fd ["self", "text", "at"] ds) (hd : Vals [.int 0] ds) (B : Blt mg) (Es : Errs K P mg CT CA CV CP fT fA fV fP) (C : WCls K CW) :
    FnR P w K mg base (CXk P w base 0) 1 f (fun vs H Q E => spWInit CT CW K (vs ++ [.int 0]) H Q E) := by
  have sc : FnScope ["self", "text", "at"] ["self", "text", "at"] (defScope (inC (top 12) 0)) := sc_by (by decide +kernel)
  have nd := sc.nd
  refine fnp F b hd sc (fun vs H Q E h => ?_) fun cdv A outer s H vs Q E hr h => ⟨_,
    (pss_cons (ps_if (pt_not (pt_val (pe_callB call_isi rfl (B.g "isinstance") boot_isinstance (pa_cons (pv 1) (pa_cons (pe_bltn (v := .ty "str") rfl (B.g "str") boot_str rfl) pa_nil)))))
      (pss_one (ps_raiseK (calmH hr.hd) (fun q h => by cases h) (by decide) (takesK_of rfl rfl rfl rfl) (pmk_err2 Es.tT Es.tP Es.gs Es.gT (room4 hr) (by exact (pa_cons (pv 2) (pa_cons pe_int pa_nil)))))) pss_nil)
    (pss_cons (ps_fld (pv 0) (pv 2) rfl)
    (pss_cons (ps_fld (pv 0) (pe_split (pv 1) pe_str) rfl)
    (pss_one (ps_fld (pv 0) pe_int rfl))))), ?_⟩
  · obtain ⟨a, dx, t, rfl, _⟩ := h
    rfl
  obtain ⟨a, dx, t, rfl, ho, h⟩ := h
  rcases h with ⟨l, rfl, hl, ha, q⟩ | ⟨n, hn, ne, ty, e⟩
  · refine ⟨_, rfl, _, .ty "str", .type "str", .type "str", _, rfl, .ty _, .base (.str _), kit_str (by decide), _, rfl, ?_⟩
    refine iteF ⟨_, rfl, _, rfl, a, CW, dx, _, rfl, ho, C.cl, C.nA, by decide, ?_⟩
    refine ⟨_, rfl, ⟨_, rfl⟩, _, _, rfl, rfl, by decide, by rw [S_len]; exact hl, fun D nD => ?_⟩
    rw [split_sp]
    refine ⟨_, rfl, a, CW, dx, _, rfl, (by rw [upd_ne (ne_of_none upd_same nD)]; exact upd_same), C.cl, C.nP, (by show 1 < 1000; decide), ?_⟩
    refine ⟨_, rfl, a, CW, dx, _, rfl, upd_same, C.cl, C.nM, (by show 2 < 1000; decide), ?_⟩
    have nDa : D ≠ a := fun z => by
      rw [z, upd_same] at nD
      cases nD
    refine q _ D (fun b' o n' e' => ?_) ⟨upd_same, ?_, Nat.zero_le _, words_sz hl, words_ac ha, words_n hl⟩
    · rw [upd_ne n', upd_ne n', upd_ne (fun z => ?_), upd_ne n']
      · exact e'
      · rw [z] at e'
        rw [z] at n'
        rw [upd_ne n', e'] at nD
        cases nD
    · rw [upd_ne nDa, upd_ne nDa, upd_same, List.map_map]
      rfl
  · refine ⟨_, rfl, _, .ty "str", .type n, .type "str", _, rfl, .ty _, ty, kit_str hn, _, rfl, ?_⟩
    have : (n == "str") = false := by simpa using ne
    rw [this]
    refine iteT ⟨_, rfl, _, _, rfl, fun d p hd => ?_⟩
    exact e d p _ (But.of (same_upd hd)) upd_same
end
end Q7
set_option maxHeartbeats 2000000
namespace Q7
open PySem PySem.Spec PyProof.Rows L2 SX
/-! ### Jumble made -/
structure JCls (K : PySem.W.Frag) (CJ : Addr) : Prop where
  cl : Cls K CJ
  n1 : NoAttr K CJ "early"
  n2 : NoAttr K CJ "late"
  n3 : NoAttr K CJ "lost"
  n4 : NoAttr K CJ "again"
  n5 : NoAttr K CJ "apart"
  most : ∃ mc u, ClX.CRead K CJ mc ∧ ClX.CVal K CJ mc "MOST" (.int 20) u
def jFs (e l lo : Int) (ag : Bool) (ap : Int) : List (Str × V) := [("early", .int e), ("late", .int l), ("lost", .int lo), ("again", .bl ag), ("apart", .int ap)]
def mx1 (a b : Int) : Int := if spr a b > 1 then spr a b else 1
def JOk (e l lo ap : Int) : Prop := (0 ≤ e ∧ e ≤ 20) ∧ (0 ≤ l ∧ l ≤ 20) ∧ (0 ≤ lo ∧ lo ≤ 20) ∧ 0 ≤ ap ∧ ap ≤ mx1 e l
def spJInit (CJ : Addr) : Sp := fun vs H Q _ => ∃ (x dx : Addr) (e l lo ap : Int) (ag : Bool), vs = [.ref x, .int e, .int l, .int lo, .bl ag, .int ap] ∧ H x = some (.ins CJ dx []) ∧ JOk e l lo ap ∧
  ∀ H', But x H H' → H' x = some (.ins CJ dx (jFs e l lo ag ap)) → Q .non H'
section
variable {P : Program} {w : World} {K : PySem.W.Frag} {mg : Str → Option Value} {base : Heap} {f : Addr} {fd : FuncData} {CJ : Addr}
theorem wi_yes {i lo hi : Int} (h1 : lo ≤ i) (h2 : i ≤ hi) : wiV (.int i) lo hi = true := by
  show (decide (lo ≤ i) && decide (i ≤ hi)) = true
  rw [decide_eq_true h1, decide_eq_true h2]
  rfl
theorem ty_int {K : PySem.W.Frag} {H : Hp} (i : Int) : Ty7 K H (.int i) := ⟨"int", by decide, .base (.int i)⟩
theorem ok_jinit {ds : List Value} {dvs : List V} (F : FnP K "__init__" "Jumble.__init__" (inC (top 15) 1) dvs f fd) (b : Binds K fd ["self", "early", "late", "lost", "again", "apart"] []) (B : Blt mg) (C : JCls K CJ) (gJ : mg "Jumble" = some (.ref CJ))
    (cW : Nam CX0 P w K mg base 2 "is_within" (spWithin K)) (cS : Nam CX0 P w K mg base 1 "spread_of" spSpread) : FnR P w K mg base CX0 3 f (spJInit CJ) := by
  have sc : FnScope ["self", "early", "late", "lost", "again", "apart", "name", "amount"] ["self", "early", "late", "lost", "again", "apart"] (defScope (inC (top 15) 1)) := sc_by (by decide +kernel)
  have nd := sc.nd
  refine (fnp (dv := []) F b .nil sc (fun vs H Q E h => ?_) fun cdv A outer s H vs Q E hr h => ⟨_,
    (pss_cons (ps_for (passes_of rfl) rfl (pi_tup (pe_tup (pa_cons (pe_tup (pa_cons pe_str (pa_cons (pv 1) pa_nil))) (pa_cons (pe_tup (pa_cons pe_str (pa_cons (pv 2) pa_nil))) (pa_cons (pe_tup (pa_cons pe_str (pa_cons (pv 3) pa_nil))) pa_nil)))))
        (pg_tup rfl (pgs_cons (pg_name (i := 6) nd rfl (.inl rfl)) (pgs_cons (pg_name (i := 7) nd rfl (.inl rfl)) pgs_nil)))
      (pss_one (ps_if (pt_not (pt_val (pe_nam cW hr (by decide) rfl pass_no (pa_cons (pv 7) (pa_cons pe_int (pa_cons (ClX.pe_cval (pe_glob (v := .ref CJ) rfl gJ rfl) rfl) pa_nil)))))) pss_never pss_nil)))
    (pss_cons (ps_if (pt_not (pt_val (pe_callB call_isi rfl (B.g "isinstance") boot_isinstance (pa_cons (pv 4) (pa_cons (pe_bltn (v := .ty "bool") rfl (B.g "bool") boot_bool rfl) pa_nil))))) pss_never pss_nil)
    (pss_cons (ps_if (pt_not (pt_val (pe_nam cW hr (by decide) rfl pass_no (pa_cons (pv 5) (pa_cons pe_int (pa_cons (pe_callB (call_max2 rfl) rfl (B.g "max") boot_max (pa_cons pe_int (pa_cons (pe_nam cS hr (by decide) rfl pass_no (pa_cons (pv 1) (pa_cons (pv 2) pa_nil))) pa_nil))) pa_nil)))))) pss_never pss_nil)
    (pss_cons (ps_fld (pv 0) (pv 1) rfl)
    (pss_cons (ps_fld (pv 0) (pv 2) rfl)
    (pss_cons (ps_fld (pv 0) (pv 3) rfl)
    (pss_cons (ps_fld (pv 0) (pv 4) rfl)
    (pss_one (ps_fld (pv 0) (pv 5) rfl))))))))), ?_⟩).imp fun vs H Q E h => by rw [List.append_nil]; exact h
  · obtain ⟨x, dx, e, l, lo, ap, ag, rfl, _⟩ := h
    rfl
  obtain ⟨x, dx, e, l, lo, ap, ag, rfl, hx, ⟨he, hl, hlo, ha⟩, q⟩ := h
  obtain ⟨mc, um, cr, cv⟩ := C.most
  refine ⟨_, rfl, (by show 2 ≤ sizeLine; decide), fun T1 h1 => ⟨_, rfl, (by show 2 ≤ sizeLine; decide), fun T2 h2 => ⟨_, rfl, (by show 2 ≤ sizeLine; decide), fun T3 h3 => ⟨(by show 3 ≤ sizeLine; decide), fun T h4 => ?_⟩⟩⟩⟩
  have s1 : Same H (upd H T1 (.tup [.str "early", .int e])) := same_upd h1
  have s2 := s1.trans (same_upd (o := .tup [.str "late", .int l]) h2)
  have s3 := s2.trans (same_upd (o := .tup [.str "lost", .int lo]) h3)
  have s4 := s3.trans (same_upd (o := .tup [.ref T1, .ref T2, .ref T3]) h4)
  have t1 : (upd (upd (upd (upd H T1 (.tup [.str "early", .int e])) T2 (.tup [.str "late", .int l])) T3 (.tup [.str "lost", .int lo])) T (.tup [.ref T1, .ref T2, .ref T3])) T1 = some (.tup [.str "early", .int e]) := ((same_upd h2).trans ((same_upd h3).trans (same_upd h4))) _ _ upd_same
  have t2 : (upd (upd (upd (upd H T1 (.tup [.str "early", .int e])) T2 (.tup [.str "late", .int l])) T3 (.tup [.str "lost", .int lo])) T (.tup [.ref T1, .ref T2, .ref T3])) T2 = some (.tup [.str "late", .int l]) := ((same_upd h3).trans (same_upd h4)) _ _ upd_same
  have t3 : (upd (upd (upd (upd H T1 (.tup [.str "early", .int e])) T2 (.tup [.str "late", .int l])) T3 (.tup [.str "lost", .int lo])) T (.tup [.ref T1, .ref T2, .ref T3])) T3 = some (.tup [.str "lost", .int lo]) := (same_upd h4) _ _ upd_same
  have t4 : (upd (upd (upd (upd H T1 (.tup [.str "early", .int e])) T2 (.tup [.str "late", .int l])) T3 (.tup [.str "lost", .int lo])) T (.tup [.ref T1, .ref T2, .ref T3])) T = some (.tup [.ref T1, .ref T2, .ref T3]) := upd_same
  generalize (upd (upd (upd (upd H T1 (.tup [.str "early", .int e])) T2 (.tup [.str "late", .int l])) T3 (.tup [.str "lost", .int lo])) T (.tup [.ref T1, .ref T2, .ref T3])) = H4 at s4 t1 t2 t3 t4 ⊢
  refine ⟨T, rfl, ⟨_, SqT.of t4⟩, for_tup (xs := [.ref T1, .ref T2, .ref T3]) (fun i σ H' => H' = H4 ∧ ∃ n a, σ = [some (.ref x), some (.int e), some (.int l), some (.int lo), some (.bl ag), some (.int ap), n, a]) ⟨rfl, none, none, rfl⟩ (fun i σ H' _ p => by rw [p.1]; exact SqT.of t4) ?_ ?_⟩
  · rintro i y σ H' hi ⟨rfl, n, a, rfl⟩
    have step : ∀ (Ti : Addr) (nm : Str) (am : Int), y = .ref Ti → H' Ti = some (.tup [.str nm, .int am]) → 0 ≤ am → am ≤ 20 → ∀ D : Ends, (∀ n a, D.nx [some (.ref x), some (.int e), some (.int l), some (.int lo), some (.bl ag), some (.int ap), n, a] H') →
        gTup K 2 (gCons (gName 6) (gCons (gName 7) gNil)) y [some (.ref x), some (.int e), some (.int l), some (.int lo), some (.bl ag), some (.int ap), n, a] H' fun σ2 H2 =>
          tIfS (tNot (tB (tCallS (spWithin K) noE (tCons (tVar 7) (tCons (tC (.int 0)) (tCons (ClX.tCVal K (tC (.ref CJ)) "MOST") tNil)))))) tNever tNext D σ2 H2 := by
      intro Ti nm am ey hT h0 h20 D hD
      refine ⟨Ti, _, ey, SqT.of hT, rfl, ?_⟩
      refine ⟨_, _, rfl, _, _, rfl, rfl, ?_⟩
      refine ⟨_, rfl, CJ, mc, .int 20, um, rfl, cr, cv, .int am, 0, 20, rfl, ty_int am, _, rfl, ?_⟩
      rw [wi_yes h0 h20]
      exact iteF (hD _ _)
    match i, hi with
    | 0, hi => exact step T1 _ _ (Option.some.inj hi).symm t1 he.1 he.2 _ fun n a => ⟨rfl, n, a, rfl⟩
    | 1, hi => exact step T2 _ _ (Option.some.inj hi).symm t2 hl.1 hl.2 _ fun n a => ⟨rfl, n, a, rfl⟩
    | 2, hi => exact step T3 _ _ (Option.some.inj hi).symm t3 hlo.1 hlo.2 _ fun n a => ⟨rfl, n, a, rfl⟩
    | n + 3, hi => simp at hi
  · rintro σ H' ⟨rfl, n, a, rfl⟩
    refine ⟨_, rfl, _, .ty "bool", .type "bool", .type "bool", _, rfl, .ty _, .base (.bl _), kit_bool (by decide), _, rfl, ?_⟩
    refine iteF ⟨_, rfl, _, rfl, _, rfl, e, l, rfl, _, _, rfl, _, 0, _, rfl, ty_int ap, _, rfl, ?_⟩
    rw [wi_yes ha.1 (by have := ha.2; exact this)]
    have hx4 := s4 _ _ hx
    refine iteF ⟨_, rfl, _, rfl, x, CJ, dx, _, rfl, hx4, C.cl, C.n1, by decide, ?_⟩
    refine ⟨_, rfl, _, rfl, x, CJ, dx, _, rfl, upd_same, C.cl, C.n2, (by show 1 < 1000; decide), ?_⟩
    refine ⟨_, rfl, _, rfl, x, CJ, dx, _, rfl, upd_same, C.cl, C.n3, (by show 2 < 1000; decide), ?_⟩
    refine ⟨_, rfl, _, rfl, x, CJ, dx, _, rfl, upd_same, C.cl, C.n4, (by show 3 < 1000; decide), ?_⟩
    refine ⟨_, rfl, _, rfl, x, CJ, dx, _, rfl, upd_same, C.cl, C.n5, (by show 4 < 1000; decide), ?_⟩
    refine q _ ((But.of s4).trans fun b' o n' e' => ?_) upd_same
    rw [upd_ne n', upd_ne n', upd_ne n', upd_ne n', upd_ne n']
    exact e'
end
end Q7
set_option maxHeartbeats 2000000
namespace Q7
open PySem PySem.Spec PyProof.Rows L2 SX
/-! ### plain: what a jumble's words tell -/
abbrev kEarly : List Nat := [101, 97, 114, 108, 121]
abbrev kLate : List Nat := [108, 97, 116, 101]
abbrev kLost : List Nat := [108, 111, 115, 116]
abbrev kAgain : List Nat := [97, 103, 97, 105, 110]
abbrev kApart : List Nat := [97, 112, 97, 114, 116]
abbrev labs : List (List Nat) := [kLost, kAgain, kApart]
structure JS where
  e : Int
  l : Int
  lo : Int
  ag : Bool
  ap : Int
def num (ws : List (List Nat)) (i : Nat) (lo hi : Int) : Option Nat := match ws[i]? with
  | some w => if numB w lo hi = true then some (val w) else none
  | none => none
def most (k : List Nat) (s : JS) : Int := if k = kLost then 20 else mx1 s.e s.l
def setJ (k : List Nat) (n : Int) (s : JS) : JS := if k = kLost then { s with lo := n } else { s with ap := n }
def jl (ws : List (List Nat)) : List (List Nat) → Nat → JS → Sum Nat JS
  | [], i, s => if i = ws.length then .inr s else .inl i
  | k :: ks, i, s => if ws[i]? = some k then (if k = kAgain then jl ws ks (i + 1) { s with ag := true } else match num ws (i + 1) 1 (most k s) with
      | some n => jl ws ks (i + 2) (setJ k n s)
      | none => .inl (i + 1)) else jl ws ks i s
def jhead (ws : List (List Nat)) (i : Nat) : Sum Nat JS := if ws[i]? = some kEarly then (match num ws (i + 1) 0 20 with
    | some e => if ws[i + 2]? = some kLate then (match num ws (i + 3) 0 20 with
        | some l => jl ws labs (i + 4) ⟨e, l, 0, false, 0⟩
        | none => .inl (i + 3)) else .inl (i + 2)
    | none => .inl (i + 1)) else .inl i
theorem jl_end {ws : List (List Nat)} {s : JS} : ∀ {ks : List (List Nat)}, jl ws ks ws.length s = .inr s
  | [] => by unfold jl; rw [if_pos rfl]
  | k :: ks => by
    unfold jl
    rw [if_neg (by rw [List.getElem?_eq_none (Nat.le_refl _)]; intro z; cases z)]
    exact jl_end
theorem jl_out {ws : List (List Nat)} {s : JS} {i : Nat} {w : List Nat} (hw : ws[i]? = some w) : ∀ {ks : List (List Nat)}, w ∉ ks → jl ws ks i s = .inl i
  | [], _ => by
    unfold jl
    rw [if_neg]
    intro z
    rw [z, List.getElem?_eq_none (Nat.le_refl _)] at hw
    cases hw
  | k :: ks, h => by
    unfold jl
    rw [if_neg (by rw [hw]; intro z; exact h (by rw [Option.some.inj z]; exact List.mem_cons_self))]
    exact jl_out hw fun z => h (List.mem_cons_of_mem _ z)
theorem jl_in {ws : List (List Nat)} {s : JS} {i : Nat} {w : List Nat} (hw : ws[i]? = some w) : ∀ {ks : List (List Nat)}, w ∈ ks → ∃ j, ks[j]? = some w ∧ (∀ m, m < j → ks[m]? ≠ some w) ∧
    jl ws ks i s = (if w = kAgain then jl ws (ks.drop (j + 1)) (i + 1) { s with ag := true } else match num ws (i + 1) 1 (most w s) with
      | some n => jl ws (ks.drop (j + 1)) (i + 2) (setJ w n s)
      | none => .inl (i + 1))
  | [], h => by cases h
  | k :: ks, h => by
    by_cases e : k = w
    · subst e
      refine ⟨0, rfl, fun m hm => absurd hm (Nat.not_lt_zero _), ?_⟩
      rw [jl, if_pos hw]
      rfl
    · obtain ⟨j, h1, h2, h3⟩ := jl_in (s := s) hw (ks := ks) ((List.mem_cons.mp h).resolve_left fun z => e z.symm)
      refine ⟨j + 1, h1, fun m hm => ?_, ?_⟩
      · cases m with
        | zero => exact fun z => e (Option.some.inj z)
        | succ m => exact h2 m (by omega)
      · rw [jl, if_neg (by rw [hw]; intro z; exact e (Option.some.inj z).symm)]
        exact h3
/-- read within a longer row -/
def sh (n : Nat) : Sum Nat JS → Sum Nat JS
  | .inl i => .inl (n + i)
  | .inr s => .inr s
theorem drop1_get (ws : List (List Nat)) (i : Nat) : (ws.drop 1)[i]? = ws[1 + i]? := by rw [List.getElem?_drop]
theorem num_shift (ws : List (List Nat)) (i : Nat) (lo hi : Int) : num (ws.drop 1) i lo hi = num ws (1 + i) lo hi := by
  unfold num
  rw [drop1_get]
theorem jl_shift {ws : List (List Nat)} (hne : 1 ≤ ws.length) : ∀ (ks : List (List Nat)) (i : Nat) (s : JS), sh 1 (jl (ws.drop 1) ks i s) = jl ws ks (1 + i) s
  | [], i, s => by
    rw [jl, jl]
    have : (ws.drop 1).length = ws.length - 1 := List.length_drop ..
    by_cases e : i = (ws.drop 1).length
    · rw [if_pos e, if_pos (by omega)]
      rfl
    · rw [if_neg e, if_neg (by omega)]
      rfl
  | k :: ks, i, s => by
    rw [jl, jl, drop1_get]
    by_cases e : ws[1 + i]? = some k
    · rw [if_pos e, if_pos e]
      by_cases e2 : k = kAgain
      · rw [if_pos e2, if_pos e2]
        exact jl_shift hne ks (i + 1) _
      · rw [if_neg e2, if_neg e2, num_shift]
        show sh 1 (match num ws (1 + (i + 1)) 1 (most k s) with | some n => _ | none => _) = match num ws (1 + i + 1) 1 (most k s) with | some n => _ | none => _
        rw [show 1 + (i + 1) = 1 + i + 1 by omega]
        cases num ws (1 + i + 1) 1 (most k s) with
        | some n => exact jl_shift hne ks (i + 2) _
        | none => rfl
    · rw [if_neg e, if_neg e]
      exact jl_shift hne ks i s
theorem jhead_shift {ws : List (List Nat)} (hne : 1 ≤ ws.length) : sh 1 (jhead (ws.drop 1) 0) = jhead ws 1 := by
  unfold jhead
  rw [drop1_get, drop1_get, num_shift, num_shift]
  by_cases e : ws[1 + 0]? = some kEarly
  · rw [if_pos e, if_pos e]
    show sh 1 (match num ws 2 0 20 with | some e => _ | none => _) = match num ws 2 0 20 with | some e => _ | none => _
    cases num ws 2 0 20 with
    | none => rfl
    | some n =>
      show sh 1 (if ws[3]? = some kLate then _ else _) = if ws[3]? = some kLate then _ else _
      by_cases e2 : ws[3]? = some kLate
      · rw [if_pos e2, if_pos e2]
        show sh 1 (match num ws 4 0 20 with | some e => _ | none => _) = match num ws 4 0 20 with | some e => _ | none => _
        cases num ws 4 0 20 with
        | none => rfl
        | some l => exact jl_shift hne labs 4 _
      · rw [if_neg e2, if_neg e2]
        rfl
  · rw [if_neg e, if_neg e]
    rfl
end Q7
set_option maxHeartbeats 4000000
namespace Q7
open PySem PySem.Spec PyProof.Rows L2 SX
/-! ### Jumble.read -/
theorem canon_okW {w : List Nat} (h : canon w = true) : okW w = true := by
  unfold canon at h
  simp only [Bool.and_eq_true, Bool.not_eq_true'] at h
  obtain ⟨⟨h1, h2⟩, _⟩ := h
  unfold okW
  have n1 : w ≠ [] := by
    intro z
    rw [z] at h1
    cases h1
  have n2 : 10 ∉ w := fun m => by
    have := (allD h2) 10 m
    omega
  rw [decide_eq_false n1, decide_eq_false n2]
  rfl
theorem numB_okW {w : List Nat} {lo hi : Int} (h : numB w lo hi = true) : okW w = true := by
  unfold numB at h
  exact canon_okW (Bool.and_eq_true_iff.mp h).1
theorem numB_bd {w : List Nat} {lo hi : Int} (h : numB w lo hi = true) : lo ≤ (val w : Int) ∧ (val w : Int) ≤ hi := by
  unfold numB at h
  have h2 := (Bool.and_eq_true_iff.mp h).2
  rw [Bool.and_eq_true, decide_eq_true_eq, decide_eq_true_eq] at h2
  exact h2
theorem cur_of {ws : List (List Nat)} {i : Nat} {k : List Nat} (h : ws[i]? = some k) (o : okW k = true) : cur ws i = some k := by
  unfold cur
  rw [h]
  simp only [o, if_true]
theorem num_yes {ws : List (List Nat)} {i : Nat} {w : List Nat} {lo hi : Int} (h : cur ws i = some w) (n : numB w lo hi = true) : num ws i lo hi = some (val w) := by
  unfold num
  rw [(cur_lt h).2.1]
  simp only [n, if_true]
theorem num_no {ws : List (List Nat)} {i : Nat} {lo hi : Int} (h : ∀ w, cur ws i = some w → numB w lo hi = false) : num ws i lo hi = none := by
  unfold num
  cases e : ws[i]? with
  | none => rfl
  | some w =>
    by_cases c : numB w lo hi = true
    · rw [h w (cur_of e (numB_okW c))] at c
      cases c
    · simp only [if_neg c]
theorem S_early : ("early" : Str) = S kEarly := by decide +kernel
theorem S_late : ("late" : Str) = S kLate := by decide +kernel
theorem S_lost : ("lost" : Str) = S kLost := by decide +kernel
theorem S_again : ("again" : Str) = S kAgain := by decide +kernel
theorem S_apart : ("apart" : Str) = S kApart := by decide +kernel
def EX (C : Addr) (E : XK) (H : Hp) (i : Nat) : Prop := ∀ d p H', Same H H' → H' d = some (.xd [("word", .int i), ("at", .int 0), ("values_told", .ref p)]) → E (.ref C) (some d) H'
def spRead (CT CJ : Addr) : Sp := fun vs H Q E => ∃ t : List Nat, vs = [.ref CJ, .str (S t)] ∧ (t.length + 2 ≤ sizeLine ∧ asc t) ∧
  (∀ js, jhead (words t) 0 = .inr js → ∀ x dx H', Same H H' → H' x = some (.ins CJ dx (jFs js.e js.l js.lo js.ag js.ap)) → Q (.ref x) H') ∧ (∀ i, jhead (words t) 0 = .inl i → EX CT E H i)
section
variable {P : Program} {w : World} {K : PySem.W.Frag} {mg : Str → Option Value} {base : Heap} {f gL : Addr} {fd : FuncData} {CT CA CV CP fT fA fV fP CW CJ : Addr}
theorem ok_read (F : FnP K "read" "Jumble.read" (inC (top 15) 2) [] f fd) (b : Binds K fd ["cls", "text"] []) (B : Blt mg)
    (cMk : Mkr (CXk P w base 0) P w K mg base 1 "Words" CW (fun vs H Q E => spWInit CT CW K (vs ++ [.int 0]) H Q E)) (cNm : Mth (CXk P w base 0) P w K mg base 4 CW "name" (spNameS CT CW)) (cIn : Mth (CXk P w base 0) P w K mg base 3 CW "integer" (spInteger CT CW))
    (cLc : LenC K CW gL) (cL : FnR P w K mg base CX0 1 gL (spLen CW)) (cS : Nam CX0 P w K mg base 1 "spread_of" spSpread) (cJ : ∃ f : Addr, FnR P w K mg base CX0 3 f (spJInit CJ) ∧ Mk K CJ f) : FnR P w K mg base (CXk P w base 0) 5 f (spRead CT CJ) := by
  have sc : FnScope ["cls", "text", "words", "early", "late", "lost", "again", "apart", "left", "word"] ["cls", "text"] (defScope (inC (top 15) 2)) := sc_by (by decide +kernel)
  have nd := sc.nd
  refine fnp0 F b sc (fun vs H Q E h => ?_) fun cdv A outer s H vs Q E hr h => ⟨_,
    (pss_cons (ps_set (i := 2) nd rfl (Or.inl rfl) (pe_mkr cMk hr (by decide) rfl (passD rfl rfl rfl rfl) (pa_cons (pv 1) pa_nil)))
    (pss_cons (ps_expr (pe_mth cNm hr (by decide) (passD rfl rfl rfl rfl) (pv 2) (pa_cons pe_str pa_nil)))
    (pss_cons (ps_set (i := 3) nd rfl (Or.inl rfl) (pe_mth cIn hr (by decide) (passD rfl rfl rfl rfl) (pv 2) (pa_cons pe_int (pa_cons pe_int pa_nil))))
    (pss_cons (ps_expr (pe_mth cNm hr (by decide) (passD rfl rfl rfl rfl) (pv 2) (pa_cons pe_str pa_nil)))
    (pss_cons (ps_set (i := 4) nd rfl (Or.inl rfl) (pe_mth cIn hr (by decide) (passD rfl rfl rfl rfl) (pv 2) (pa_cons pe_int (pa_cons pe_int pa_nil))))
    (pss_cons (ps_asg (pe_tup (pa_cons pe_int (pa_cons pe_bl (pa_cons pe_int pa_nil)))) (pg_tup rfl (pgs_cons (pg_name (i := 5) nd rfl (.inl rfl)) (pgs_cons (pg_name (i := 6) nd rfl (.inl rfl)) (pgs_cons (pg_name (i := 7) nd rfl (.inl rfl)) pgs_nil)))))
    (pss_cons (ps_set (i := 8) nd rfl (Or.inl rfl) (pe_lst (pa_cons pe_str (pa_cons pe_str (pa_cons pe_str pa_nil)))))
    (pss_cons (ps_while (passes_of rfl) (pt_cmpR op_gt (pe_callB (call_lenOwn cLc cL (hr.mono (by decide))) rfl (B.g "len") boot_len (pa_cons (pv 2) pa_nil)) pe_int (nomark _))
      (pss_cons (ps_set (i := 9) nd rfl (Or.inl rfl) (pe_mthS cNm hr (by decide) (passD rfl rfl rfl rfl) (pv 2) (pv 8)))
      (pss_cons (ps_set (i := 8) nd rfl (Or.inl rfl) (pe_slice sl_list (pv 8) (po_some (pe_op op_add (pe_bm PySem.F.plainAttrs_list PySem.F.slot_list_index PySem.F.type_list_index mt_index (pv 8) (pa_cons (pv 9) pa_nil)) pe_int)) po_none))
      (pss_one (ps_if (pt_cmpR op_eq (pv 9) pe_str (nomark _)) (pss_one (ps_set (i := 5) nd rfl (Or.inl rfl) (pe_mth cIn hr (by decide) (passD rfl rfl rfl rfl) (pv 2) (pa_cons pe_int (pa_cons pe_int pa_nil)))))
        (pss_one (ps_if (pt_cmpR op_eq (pv 9) pe_str (nomark _)) (pss_one (ps_set (i := 6) nd rfl (Or.inl rfl) pe_bl))
          (pss_one (ps_set (i := 7) nd rfl (Or.inl rfl) (pe_mth cIn hr (by decide) (passD rfl rfl rfl rfl) (pv 2) (pa_cons pe_int (pa_cons (pe_callB (call_max2 rfl) rfl (B.g "max") boot_max (pa_cons pe_int (pa_cons (pe_nam cS hr (by decide) rfl pass_no (pa_cons (pv 3) (pa_cons (pv 4) pa_nil))) pa_nil))) pa_nil))))))))))))
    (pss_one (ps_ret (pe_mkv cJ hr (by decide) (i := 0) rfl (Or.inl rfl) pass_no (pa_cons (pv 3) (pa_cons (pv 4) (pa_cons (pv 5) (pa_cons (pv 6) (pa_cons (pv 7) pa_nil)))))))))))))))), ?_⟩
  · obtain ⟨t, rfl, _⟩ := h
    rfl
  obtain ⟨t, rfl, ⟨ht, ha⟩, qy, qn⟩ := h
  refine ⟨_, rfl, fun x dx hx hdx hne => ⟨x, dx, _, rfl, upd_same, .inl ⟨t, rfl, ht, ha, fun H1 L b1 d1 => ⟨rfl, ?_⟩⟩⟩⟩
  have s0 : Same H (upd (upd H dx (.own x)) x (.ins CW dx [])) := (same_upd hdx).trans (same_upd (by rw [upd_ne (Ne.symm hne)]; exact hx))
  have s1 : Same H H1 := b1.same hx s0
  clear b1 s0
  generalize words t = ws at d1 qy qn
  have ew : ∀ i Hc, Same H Hc → jhead ws 0 = .inl i → EW CT x E Hc i := fun i Hc sc hj d p H' b' hx' => qn i hj d p H' (b'.same hx sc) hx'
  refine ⟨_, rfl, x, dx, _, rfl, d1.ob, rfl, x, dx, L, 0, ws, [kEarly], by rw [S_early]; rfl, by decide, d1, fun w1 e1 m1 H2 b2 d2 => ?_, fun hno => ew 0 _ s1 ?_⟩
  case refine_2 =>
    unfold jhead
    rw [if_neg fun z => hno kEarly (cur_of z (by decide)) List.mem_cons_self]
  obtain rfl := List.mem_singleton.mp m1
  have g0 : ws[0]? = some kEarly := (cur_lt e1).2.1
  have s2 := b2.same hx s1
  clear b2 d1 s1 H1 e1 m1
  have j1 : jhead ws 0 = (match num ws 1 0 20 with
    | some e => if ws[2]? = some kLate then (match num ws 3 0 20 with
        | some l => jl ws labs 4 ⟨e, l, 0, false, 0⟩
        | none => .inl 3) else .inl 2
    | none => .inl 1) := by
    unfold jhead
    rw [if_pos g0] <;> rfl
  refine ⟨_, rfl, x, dx, _, rfl, d2.ob, rfl, x, dx, L, 1, ws, 0, 20, rfl, d2, ⟨by decide, by decide, by decide +kernel⟩, fun w1 e1 n1 H3 b3 d3 => ?_, fun hno => ew 1 _ s2 ?_⟩
  case refine_2 =>
    rw [j1, num_no hno]
  have bd1 := numB_bd n1
  rw [num_yes e1 n1] at j1
  have s3 := b3.same hx s2
  clear b3 d2 s2 H2 e1 n1
  refine ⟨_, rfl, x, dx, _, rfl, d3.ob, rfl, x, dx, L, 2, ws, [kLate], by rw [S_late]; rfl, by decide, d3, fun w2 e2 m2 H4 b4 d4 => ?_, fun hno => ew 2 _ s3 ?_⟩
  case refine_2 =>
    rw [j1]
    exact if_neg fun z => hno kLate (cur_of z (by decide)) List.mem_cons_self
  obtain rfl := List.mem_singleton.mp m2
  have j2 : jhead ws 0 = (match num ws 3 0 20 with
        | some l => jl ws labs 4 ⟨val w1, l, 0, false, 0⟩
        | none => .inl 3) := by
    rw [j1]
    exact if_pos (cur_lt e2).2.1
  have s4 := b4.same hx s3
  clear b4 d3 s3 H3 e2 m2 j1
  refine ⟨_, rfl, x, dx, _, rfl, d4.ob, rfl, x, dx, L, 3, ws, 0, 20, rfl, d4, ⟨by decide, by decide, by decide +kernel⟩, fun w2 e2 n2 H5 b5 d5 => ?_, fun hno => ew 3 _ s4 ?_⟩
  case refine_2 =>
    rw [j2, num_no hno]
  have bd2 := numB_bd n2
  rw [num_yes e2 n2] at j2
  have s5 := b5.same hx s4
  clear b5 d4 s4 H4 e2 n2
  refine ⟨(by show 3 ≤ sizeLine; decide), fun p hp => ⟨p, _, rfl, SqT.of upd_same, rfl, _, _, rfl, _, _, rfl, _, _, rfl, rfl, ?_⟩⟩
  have s6 := s5.trans (same_upd (o := .tup [.int 0, .bl false, .int 0]) hp)
  have d6 := d5.same (same_upd (o := .tup [.int 0, .bl false, .int 0]) hp)
  generalize upd H5 p (.tup [.int 0, .bl false, .int 0]) = H6 at s6 d6 ⊢
  clear d5 s5 hp
  refine ⟨(by show 3 ≤ sizeLine; decide), fun q hq => ?_⟩
  have hl0 : (upd H6 q (.lst [.str "lost", .str "again", .str "apart"])) q = some (.lst (labs.map vS)) := by
    rw [upd_same]
    rw [S_lost, S_again, S_apart]
    rfl
  have s7 := s6.trans (same_upd (o := .lst [.str "lost", .str "again", .str "apart"]) hq)
  have d7 := d6.same (same_upd (o := .lst [.str "lost", .str "again", .str "apart"]) hq)
  generalize upd H6 q (.lst [.str "lost", .str "again", .str "apart"]) = H7 at s7 d7 hl0 ⊢
  clear d6 s6 hq
  -- the loop
  refine ⟨fun m σ Hc => ∃ (i : Nat) (js : JS) (ls : List (List Nat)) (LL : Addr) (wv : Option V), m = ws.length - i ∧ σ = [some (.ref CJ), some (.str (S t)), some (.ref x), some (.int (val w1)), some (.int (val w2)), some (.int js.lo), some (.bl js.ag), some (.int js.ap), some (.ref LL), wv] ∧
    (js.e = val w1 ∧ js.l = val w2) ∧ (Same H Hc ∧ Wd Hc CW x dx L i ws) ∧ Hc LL = some (.lst (ls.map vS)) ∧ jhead ws 0 = jl ws ls i js ∧ JOk js.e js.l js.lo js.ap ∧ ls.length ≤ 3 ∧ ∀ k ∈ ls, k ∈ labs, ⟨_, 4, ⟨val w1, val w2, 0, false, 0⟩, labs, q, none, rfl, rfl, ⟨rfl, rfl⟩, ⟨s7, d7⟩, hl0, j2, ⟨bd1, bd2, ⟨(by show (0 : Int) ≤ 0; decide), (by show (0 : Int) ≤ 20; decide)⟩, (by show (0 : Int) ≤ 0; decide), ?_⟩, by decide, fun k hk => hk⟩, ?_⟩
  · unfold mx1 spr
    dsimp only
    split <;> split at * <;> omega
  rintro m σ Hc ⟨i, js, ls, LL, wv, rfl, rfl, ⟨ee, el⟩, ⟨sc', dc⟩, hLL, hj, jok, hl3, hlab⟩
  refine ⟨_, rfl, x, dx, _, rfl, dc.ob, x, dx, L, i, ws, rfl, dc, fun Hd sd => ⟨_, rfl, ?_, _, _, rfl, rfl, _, rfl, ?_⟩⟩
  · have := dc.n
    have e62 : sizeLine ≤ 2 ^ 62 := by decide +kernel
    omega
  have dd := dc.same sd
  have hLd := sd _ _ hLL
  have sH := sc'.trans sd
  clear dc hLL sc' sd
  refine ite2 (fun c => ?_) (fun c => ?_)
  · -- a further word
    have hi : i < ws.length := by
      have : (0 : Int) < ((ws.length - i : Nat) : Int) := of_decide_eq_true c
      omega
    refine ⟨_, fun _ _ z => z, ?_⟩
    have hls : ls.length ≤ 1000 := Nat.le_trans hl3 (by decide)
    refine ⟨_, rfl, x, dx, _, rfl, dd.ob, rfl, fun mq mg' hmq => ⟨_, rfl, LL, ls.map vS, rfl, .inr (SqL.of ((same_upd hmq) _ _ hLd)), upd_same, x, dx, L, i, ws, ls, rfl, hls, dd.same (same_upd hmq), fun wd e m H8 b8 d8 => ?_, fun hno => ew i _ (sH.trans (same_upd hmq)) ?_⟩⟩
    case refine_2 =>
      rw [hj]
      refine jl_out (List.getElem?_eq_getElem hi) fun hm => ?_
      have hlm := hlab _ hm
      have ok : okW ws[i] = true := by
        rcases List.mem_cons.mp hlm with e | hlm
        · rw [e]; decide
        · rcases List.mem_cons.mp hlm with e | hlm
          · rw [e]; decide
          · rw [List.mem_singleton.mp hlm]; decide
      exact hno _ (cur_of (List.getElem?_eq_getElem hi) ok) hm
    have hwi := (cur_lt e).2.1
    have sH8 : Same H H8 := b8.same hx (sH.trans (same_upd hmq))
    have hL8 : H8 LL = some (.lst (ls.map vS)) := b8 _ _ (ne_of hLd dd.ob (by intro z; cases z)) ((same_upd hmq) _ _ hLd)
    obtain ⟨j, hjw, hjn, hjl⟩ := jl_in (s := js) hwi m
    rw [hjl] at hj
    refine ⟨_, rfl, _, rfl, .inl ⟨rfl, _, SqL.of hL8⟩, _, rfl, LL, _, _, j, vS wd, rfl, rfl, SqL.of hL8, rfl, flat_S ls, by rw [List.getElem?_map, hjw] <;> rfl, ?_, ?_, ?_⟩
    · have : eqV (vS wd) (vS wd) = decide (wd = wd) := S_beq_eq
      rw [this]
      exact decide_eq_true rfl
    · intro m' z' hm' hz'
      rw [List.getElem?_map] at hz'
      cases e' : ls[m']? with
      | none => rw [e'] at hz'; cases hz'
      | some k' =>
        rw [e'] at hz'
        obtain rfl : vS k' = z' := Option.some.inj hz'
        have : eqV (vS k') (vS wd) = decide (k' = wd) := S_beq_eq
        rw [this]
        exact decide_eq_false fun z => hjn m' hm' (by rw [e', z])
    refine ⟨_, _, rfl, rfl, _, rfl, LL, _, rfl, SqL.of hL8, fun D nD => ?_⟩
    have ecut : cutV (ls.map vS) (some ((j : Int) + 1)) none = (ls.drop (j + 1)).map vS := by
      unfold cutV
      rw [show ((j : Int) + 1) = ((j + 1 : Nat) : Int) by omega, HT.sIx_nat, HT.sIx_none, List.length_map]
      have := (List.getElem?_eq_some_iff.mp hjw).1
      rw [Nat.min_eq_left (by omega), List.map_drop, List.take_of_length_le (by rw [List.length_drop, List.length_map]; omega)]
    rw [ecut]
    have hD9 : (upd H8 D (.lst ((ls.drop (j + 1)).map vS))) D = some (.lst ((ls.drop (j + 1)).map vS)) := upd_same
    have s89 : Same H8 (upd H8 D (.lst ((ls.drop (j + 1)).map vS))) := same_upd nD
    generalize upd H8 D (.lst ((ls.drop (j + 1)).map vS)) = H9 at hD9 s89 ⊢
    have d9 := d8.same s89
    have sH9 := sH8.trans s89
    have hdl : (ls.drop (j + 1)).length ≤ 3 := by rw [List.length_drop]; omega
    have hdm : ∀ k ∈ ls.drop (j + 1), k ∈ labs := fun k hk => hlab k (List.mem_of_mem_drop hk)
    have dec_w : ∀ k : List Nat, decide (vS wd = V.str (S k)) = decide (wd = k) := fun k => dec_S
    have nDx : D ≠ x := ne_of hD9 d9.ob (by intro z; cases z)
    refine ⟨_, rfl, rfl, _, rfl, ?_⟩
    rw [S_lost, dec_w]
    refine ite2 (fun c1 => ?_) (fun c1 => ?_)
    · -- lost
      obtain rfl := of_decide_eq_true c1
      rw [if_neg (by decide)] at hj
      refine ⟨_, rfl, x, dx, _, rfl, d9.ob, rfl, x, dx, L, i + 1, ws, 1, 20, rfl, d9, ⟨by decide, by decide, by decide +kernel⟩, fun w3 e3 n3 Ha ba da => ?_, fun hno => ew (i + 1) _ sH9 ?_⟩
      case refine_2 =>
        rw [hj, show most kLost js = 20 from rfl, num_no hno]
      rw [show most kLost js = 20 from rfl, num_yes e3 n3] at hj
      have bd3 := numB_bd n3
      exact ⟨ws.length - (i + 1 + 1), by omega, i + 1 + 1, setJ kLost (val w3) js, ls.drop (j + 1), D, some (vS kLost), rfl, rfl, ⟨ee, el⟩, ⟨ba.same hx sH9, da⟩, ba _ _ nDx hD9, hj, ⟨jok.1, jok.2.1, ⟨by show (0 : Int) ≤ (val w3 : Int); omega, by show (val w3 : Int) ≤ 20; omega⟩, jok.2.2.2⟩, hdl, hdm⟩
    refine ⟨_, rfl, rfl, _, rfl, ?_⟩
    rw [S_again, dec_w]
    refine ite2 (fun c2 => ?_) (fun c2 => ?_)
    · -- again
      obtain rfl := of_decide_eq_true c2
      rw [if_pos rfl] at hj
      exact ⟨ws.length - (i + 1), by omega, i + 1, { js with ag := true }, ls.drop (j + 1), D, some (vS kAgain), rfl, rfl, ⟨ee, el⟩, ⟨sH9, d9⟩, hD9, hj, jok, hdl, hdm⟩
    · -- apart
      have hap : wd = kApart := by
        have hlm := hlab _ m
        rcases List.mem_cons.mp hlm with e' | hlm
        · exact absurd (decide_eq_true e') c1
        · rcases List.mem_cons.mp hlm with e' | hlm
          · exact absurd (decide_eq_true e') c2
          · exact List.mem_singleton.mp hlm
      subst hap
      rw [if_neg (by decide)] at hj
      have em : most kApart js = mx1 (val w1) (val w2) := by
        unfold most
        rw [if_neg (by decide), ee, el]
      have hm1 : 1 ≤ mx1 (val w1) (val w2) ∧ mx1 (val w1) (val w2) < 10 ^ 60 := by
        unfold mx1 spr
        have z : (10 : Int) ^ 60 = 1000000000000000000000000000000000000000000000000000000000000 := by decide +kernel
        rw [z]
        split <;> split <;> omega
      refine ⟨_, rfl, x, dx, _, rfl, d9.ob, rfl, _, rfl, _, rfl, _, _, rfl, _, _, rfl, x, dx, L, i + 1, ws, 1, mx1 (val w1) (val w2), rfl, d9, ⟨by decide, hm1.1, hm1.2⟩, fun w3 e3 n3 Ha ba da => ?_, fun hno => ew (i + 1) _ sH9 ?_⟩
      case refine_2 =>
        rw [hj, em, num_no hno]
      rw [em, num_yes e3 n3] at hj
      have bd3 := numB_bd n3
      exact ⟨ws.length - (i + 1 + 1), by omega, i + 1 + 1, setJ kApart (val w3) js, ls.drop (j + 1), D, some (vS kApart), rfl, rfl, ⟨ee, el⟩, ⟨ba.same hx sH9, da⟩, ba _ _ nDx hD9, hj, ⟨jok.1, jok.2.1, jok.2.2.1, by show (0 : Int) ≤ (val w3 : Int); omega, by show (val w3 : Int) ≤ mx1 js.e js.l; rw [ee, el]; exact bd3.2⟩, hdl, hdm⟩
  · have hi : i = ws.length := by
      have : ¬ ((0 : Int) < ((ws.length - i : Nat) : Int)) := fun z => c (decide_eq_true z)
      have := dd.le
      omega
    have hfin : jhead ws 0 = .inr js := by rw [hj, hi, jl_end]
    refine ⟨rfl, _, rfl, _, rfl, _, rfl, _, rfl, _, rfl, fun y dy hy hdy hny => ⟨y, dy, _, _, _, _, _, rfl, upd_same, by rw [← ee, ← el]; exact jok, fun H' b' h' => ⟨rfl, qy js hfin y dy H' (b'.same (sH.free hy) (sH.trans ((same_upd hdy).trans (same_upd (by rw [upd_ne (Ne.symm hny)]; exact hy))))) (by rw [ee, el]; exact h')⟩⟩⟩
end
end Q7
set_option maxHeartbeats 4000000
namespace Q7
open PySem PySem.Spec PyProof.Rows L2 SX
/-! ### a field of a pinned exception; calls while one is handled -/
theorem pe_xfK {X : Cx} {a C : Addr} {oe : Obj} {cls : Value} {d : Option Addr} {l : List (Addr × Obj)} {e : Expr} {te : TE} {pos : Pos} {n : Str} (T : XfC X.K C) (hno : PySem.W.findIn X.K (.ref C) n = some none)
    (hz : Zk cls d l oe) (hf : ∃ vs : Array Value, oe.data = .fields vs) (hm : (a, oe) ∈ X.pn) (he : PE X e te) (hb : attributeBase e n X.env (eval e X.env) = eval e X.env := by rfl) : PE X (.Attribute e n pos) (tXf a cls d C n te) := by
  refine ⟨fun pins s σ H Q I h => attr_of hb (thn (he.run pins s σ H _ I h) fun u s1 hh => ?_)⟩
  obtain ⟨x, H1, I1, rx, ex, ec, dd, fs, v, ed, ea, lk, q⟩ := hh
  subst ex
  obtain rfl : u = Value.ref a := rx
  subst ec
  subst ed
  have ha := (I1.pin (a, oe) (List.mem_append_left _ hm)).1
  obtain ⟨vs, hd⟩ := hf
  obtain ⟨mA, hns, hr⟩ := (show ObjOk X.prog X.w H1 s1.heap dd (.xd fs) from I1.hok dd _ ea)
  obtain ⟨od, ho, hl⟩ := lookIn_ns hns
  obtain ⟨u, hu, ru⟩ := RelO.some_of (v := v) (o := mA n) (by rw [← lk]; exact hr n)
  have J : PySem.W.InstAt s1.heap a oe C (some od) := ⟨ha, hz.1, by unfold PySem.W.notCls; rw [hd] <;> rfl, by rw [hz.2.1]; exact ho⟩
  exact HandSPX.exc_get I1.kIn J T.ga T.gg T.exC (PySem.W.findObj_own T.hdC hno rfl (by rw [hl, hu])) (handed_of ru) ⟨v, H1, I1.tok _, ru, q⟩
/-- what a callee with shorter chains lets out -/
theorem passU {X : Cx} {n m : Nat} {W : WX} (tk : TakesK n X W) (h : m ≤ n) : ∀ σ : L2.St, PassesAt (CXk X.prog X.w X.base m) X σ (WE W σ) := passK (tk.imp h fun _ _ _ _ z => z) rfl fun _ _ _ _ z => z
/-- a promise that holds while p is handled -/
def FnHK (P : Program) (w : World) (K : PySem.W.Frag) (mg : Str → Option Value) (base : Heap) (CX : CXT) (k : Nat) (f : Addr) (sp : Sp) : Prop :=
  ∀ (A : Around) (outer : List Env) (s : Shared) (H : Hp) (us : List Value) (vs : List V) (Q : VK) (E : XK) (p : Addr × Obj), L2H.RoomH k A → L2H.Hot1 A p → L2H.PinOk outer H s p → base.get? p.1 = none → Env0 P w K mg base A outer s H → Vals vs us → sp vs H Q E →
    codeAny (model P w) A (.call (.ref f) ⟨us, []⟩) (CR CX outer P w H s Q E) s
theorem fnpH {P : Program} {w : World} {K : PySem.W.Frag} {mg : Str → Option Value} {base : Heap} {CX : CXT} {x qual : Str} {st : Stmt} {dvs : List V} {f : Addr} {fd : FuncData} {N ps : List Str} {k : Nat} {sp : Sp} (F : FnP K x qual st dvs f fd) (b : Binds K fd ps []) (S : FnScope N ps (defScope st))
    (len : ∀ vs H Q E, sp vs H Q E → vs.length = ps.length)
    (hbody : ∀ (cdv : Value) (A : Around) (outer : List Env) (s : Shared) (H : Hp) (vs : List V) (Q : VK) (E : XK) (p : Addr × Obj), L2H.Hot1 A p → base.get? p.1 = none → L2H.RoomH k (A.deeper (envOfC qual (defScope st) s.heap.objs.size f cdv)) → sp vs H Q E →
      ∃ t, PSs (L2H.cxH CX P w K mg base N qual (defScope st) f cdv A outer s H E p) (defBody st) t ∧ t { nx := fun _ H' => Q .non H', rt := Q } (start N vs) H) : FnHK P w K mg base CX (k + 1) f sp := by
  obtain ⟨oc, od, dV, kV, doc, pm, an, cdv, ct, osl, rfl, lk, hcd, _, _⟩ := F.ex
  intro A outer s H us vs Q E p hr hot hpin hbp e0 r hsp
  have hl := len _ _ _ _ hsp
  have KX : K.In s.heap := e0.mod.kin.keeps fun b' o e => (e0.bs b' o e).1
  have lim : s.heap.NoLimit := e0.mod.nolimit.keeps fun b' o e => (e0.bs b' o e).1
  have hul : us.length = ps.length := by rw [← r.length]; exact hl
  have hbind := b s us KX (by rw [List.append_nil]; exact hul)
  rw [List.append_nil] at hbind
  have hkind : ∀ y ∈ ps.zip us, (defScope st).names.lookup y.1 = some .local ∨ ((defScope st).names.lookup y.1 = some .cell ∧ ((cellsFrom (s.heap.objs.size + 1) (defScope st).names []).lookup y.1).isSome = true) := fun y hy => by
    rcases S.par y.1 (List.of_mem_zip hy).1 with q | q
    · exact .inl q
    · exact .inr ⟨q, PySem.W.cellsFrom_some _ _ _ (.inl q)⟩
  refine codeAny_call_function hr.depth (KX _ _ lk) rfl S.co S.gen rfl (PySem.W.codeRec_of KX hcd) (hbind _ _ _ _ ?_)
  refine wpAny_newFunctionEnv_cells S.kind hkind fun env he s1 xx => ?_
  subst he
  refine ⟨lim.keeps xx.toInCall.keep, codeAny_func ?_⟩
  obtain ⟨t, ht, hq⟩ := hbody cdv A outer s H vs Q E p hot hbp (hr.deeper _) hsp
  have I := L2H.inv_startH (CX := CX) (P := P) (w := w) (K := K) (mg := mg) (base := base) (E := E) S hpin e0 hl r xx
  refine wpAny_mono (ht.run [] s1 (L2.start N vs) H _ I hq) (fun fl s' hs => ?_) fun _ _ hs => hs
  have fin : ∀ {σ' : L2.St} {H' : Hp} {v : V} {u : Value}, Inv (L2H.cxH CX P w K mg base N qual (defScope st) f cdv A outer s H E p) [] σ' H' s' → RelV v u → Q v H' → CE outer P w H s Q u s' :=
    fun {σ' H' v u} J rv q => ⟨v, H', J.os, J.bare, J.base, J.hok, rv, q⟩
  match fl, hs with
  | .ret u, hs =>
    obtain ⟨v, σ', H', J, rv, q⟩ := hs
    exact fin J rv q
  | .next, hs =>
    obtain ⟨σ', H', J, q⟩ := hs
    exact fin (v := V.non) (u := Value.none) J rfl q
  | .brk, hs =>
    obtain ⟨_, _, _, q⟩ := hs
    exact q.elim
  | .cont, hs =>
    obtain ⟨_, _, _, q⟩ := hs
    exact q.elim
/-- o.m() within a suite: p, without a context of its own, is handled -/
theorem pe_mthH0 {X : Cx} {CX : CXT} {k j : Nat} {C f : Addr} {sp : Sp} {E : L2.St → XK} {m : Str} {pos apos : Pos} {o : Expr} {ta : TE} {pl : Sem Bool} {p : Addr × Obj} (F : FnHK X.prog X.w X.K X.mg X.base CX k f sp) (hc : Cls X.K C) (hm : Meth X.K C m f) (hr : L2H.RoomH j X.A) (hk : k ≤ j)
    (hot : L2H.Hot1 X.A p) (hp : p ∈ X.pn) (hbp : X.base.get? p.1 = none) (hx : ∀ σ, PassesAt CX X σ (E σ)) (he : PE X o ta)
    (ht : eval (.Call (.Attribute o m apos) [] [] pos) X.env = (do
      let ov ← eval o X.env
      standAt apos.atName
      let (f, first) ← holding [ov] (getMethod ov m pl)
      callWith pos f first (backTo pos (starEach [] X.env)) (backToKw pos (keywordEach [] X.env))) := by rfl) : PE X (.Call (.Attribute o m apos) [] [] pos) (tMt C m sp E ta tNil) := by
  refine ⟨fun pins s σ H Q I h => PySem.W.methodCall_KW (pl := pl) (thn (he.run pins s σ H _ I h) fun u s1 ⟨x, H1, I1, rx, a, dx, fs, ex, ea, l, q⟩ => ?_) ht⟩
  subst ex
  obtain rfl : u = Value.ref a := rx
  refine getmeth_ok I1 ea hc hm l ?_
  have P1 := I1.pin p (List.mem_append_left _ hp)
  have hpin : L2H.PinOk X.stack H1 s1 p := ⟨P1.1, P1.2.1, fun hm' => (List.mem_cons.mp (I1.stkSub p.1 hm')).elim P1.2.2.1 P1.2.2.2.1, P1.2.2.2.2⟩
  refine PySem.W.callWith_K0 (first := [.ref a]) I1.kIn hm.kp (wpAny_call (codeAny_mono (F X.A X.stack s1 H1 [.ref a] [.ref a] Q (E σ) p (hr.mono hk) hot hpin hbp I1.env0 (.cons rfl .nil) q) fun z s' hz => ?_))
  match z, hz with
  | .error e, hz => exact hx σ pins H1 s1 e s' I1 hz
  | .ok (.ret u), hz => exact I1.after hz
  | .ok .next, hz => exact hz.elim
  | .ok .brk, hz => exact hz.elim
  | .ok .cont, hz => exact hz.elim
theorem room4H {k : Nat} {A : Around} (r : L2H.RoomH k A) : A.depth + 4 < recursionLimit := by
  have := r.dp
  omega
theorem hands1 {X : Cx} {p : Addr × Obj} (hot : L2H.Hot1 X.A p) (hm : ∀ q ∈ [p], q ∈ X.pn) : Hands X [p] := by
  obtain ⟨h1, v, e, c⟩ := hot
  refine ⟨h1, ⟨⟨v, e⟩, fun ws e' => ?_, fun q hq => ?_, trivial⟩, by show 1 ≤ 2; decide, hm⟩
  · rw [e] at e'
    cases e'
    exact c
  · cases hq
section
variable {P : Program} {w : World} {K : PySem.W.Frag} {mg : Str → Option Value} {base : Heap} {f : Addr} {fd : FuncData} {CT CA CV CP fT fA fV fP CW : Addr}
theorem ok_refuseH (F : FnP K "refuse" "Words.refuse" (inC (top 12) 2) [] f fd) (b : Binds K fd ["self"] []) (Es : Errs K P mg CT CA CV CP fT fA fV fP) (C : WCls K CW) : FnHK P w K mg base (CXk P w base 1) 1 f (spRefuse CT CW) := by
  have sc : FnScope ["self"] ["self"] (defScope (inC (top 12) 2)) := sc_by (by decide +kernel)
  have nd := sc.nd
  refine fnpH F b sc (fun vs H Q E h => ?_) fun cdv A outer s H vs Q E p hot hbp hr h => ⟨_,
    pss_one (ps_raiseK (l := [p]) (hands1 hot (fun q hq => hq))
      (fun q hq => by rw [List.mem_singleton.mp hq]; exact hbp) (by show 1 ≤ 1; decide) (takesK_of rfl rfl rfl rfl) (pmk_err2 Es.tT Es.tP Es.gs Es.gT (room4H hr) (by exact (pa_cons (pe_fld (pv 0) rfl) (pa_cons (pe_fld (pv 0) rfl) pa_nil))))), ?_⟩
  · obtain ⟨a, dx, L, i, ws, rfl, _⟩ := h
    rfl
  obtain ⟨a, dx, L, i, ws, rfl, d, e⟩ := h
  refine ⟨_, rfl, a, CW, dx, _, _, rfl, d.ob, C.cl, C.nA, rfl, _, rfl, a, CW, dx, _, _, rfl, d.ob, C.cl, C.nM, rfl, _, _, rfl, fun dd p hd => ?_⟩
  exact e dd p _ (But.of (same_upd hd)) upd_same
end
end Q7
set_option maxHeartbeats 4000000
namespace Q7
open PySem PySem.Spec PyProof.Rows L2 SX
/-! ### taken_letter -/
def letOk (ws : List (List Nat)) (i : Nat) (cl : Bool) : Option (List Nat) := match cur ws i with
  | some w => if (wordOk w && (cl || !decide (w = [63]))) = true then some w else none
  | none => none
theorem letOk_yes {ws : List (List Nat)} {i : Nat} {cl : Bool} {w : List Nat} (h : cur ws i = some w) (c : (wordOk w && (cl || !decide (w = [63]))) = true) : letOk ws i cl = some w := by
  unfold letOk
  rw [h]
  simp only [c, if_true]
theorem letOk_no {ws : List (List Nat)} {i : Nat} {cl : Bool} {w : List Nat} (h : cur ws i = some w) (c : ¬ (wordOk w && (cl || !decide (w = [63]))) = true) : letOk ws i cl = none := by
  unfold letOk
  rw [h]
  simp only [if_neg c]
theorem letOk_none {ws : List (List Nat)} {i : Nat} {cl : Bool} (h : cur ws i = none) : letOk ws i cl = none := by
  unfold letOk
  rw [h]
theorem wordOk_q : wordOk [63] = true := by decide
theorem hot_of {X : Cx} {a : Addr} {oe : Obj} {l : List (Addr × Obj)} {cls : Value} {d : Option Addr} (h : Hands X ((a, oe) :: l)) (hz : Zk cls d l oe) (hl : l.length ≤ 0) : L2H.Hot1 X.A (a, oe) := by
  have e : l = [] := List.length_eq_zero_iff.mp (Nat.le_zero.mp hl)
  subst e
  obtain ⟨h1, ⟨⟨v, e⟩, _⟩, _⟩ := h
  exact ⟨h1, v, e, hz.2.2 v e⟩
def spTL (CT CW : Addr) : Sp := fun vs H Q E => ∃ (a dx L : Addr) (i : Nat) (ws : List (List Nat)) (cl : Bool), vs = [.ref a, .bl cl] ∧ Wd H CW a dx L i ws ∧
  (∀ w, letOk ws i cl = some w → (w = [63] → ∀ H', But a H H' → Wd H' CW a dx L (i + 1) ws → Q .non H') ∧ (w ≠ [63] → ∀ H' p, But a H H' → Wd H' CW a dx L (i + 1) ws → H' p = some (.tup ((lets w).map vS)) → Q (.ref p) H')) ∧
  (letOk ws i cl = none → EW CT a E H i)
section
variable {P : Program} {w : World} {K : PySem.W.Frag} {mg : Str → Option Value} {base : Heap} {f fR : Addr} {fd : FuncData} {CT CA CV CP fT fA fV fP CW CJ : Addr}
theorem ok_tletter (F : FnP K "taken_letter" "taken_letter" (top 30) [] f fd) (b : Binds K fd ["words", "can_lack"] []) (B : Blt mg) (Es : Errs K P mg CT CA CV CP fT fA fV fP) (C : WCls K CW) (cA : Mth (CXk P w base 0) P w K mg base 2 CW "ahead" (spAhead CT CW))
    (cRL : Nam (CXk P w base 0) P w K mg base 3 "read_look" (spReadLook CT)) (cR : Mth (CXk P w base 0) P w K mg base 1 CW "refuse" (spRefuse CT CW)) (hR : FnHK P w K mg base (CXk P w base 1) 1 fR (spRefuse CT CW)) (mR : Meth K CW "refuse" fR)
    (cN : Mth (CXk P w base 0) P w K mg base 3 CW "next" (spNext CT CW)) : FnR P w K mg base (CXk P w base 1) 4 f (spTL CT CW) := by
  have sc : FnScope ["words", "can_lack", "word", "letter"] ["words", "can_lack"] (defScope (top 30)) := sc_by (by decide +kernel)
  have nd := sc.nd
  refine fnp0 F b sc (fun vs H Q E h => ?_) fun cdv A outer s H vs Q E hr h => ⟨_,
    (pss_cons (ps_par (i := 2) (j := 3) rfl nd rfl rfl (by decide) rfl rfl (pa_cons (pe_mth0 cA hr (by decide) (passU (takesK_of rfl rfl rfl rfl) (Nat.zero_le 1)) (pv 0)) (pa_cons pe_non pa_nil)) rfl)
    (pss_cons (ps_try_onlyK (n := 0) (tb := fun W => tAsg (tCallS (spReadLook CT) (WE W) (tCons (tVar 2) tNil)) (gName 3)) (ts := fun _ _ _ => tDrop (tMt CW "refuse" (spRefuse CT CW) (WE (fun cls d _ H => E cls d H)) (tVar 0) tNil)) rfl rfl ⟨rfl, by decide, Or.inl Es.gT⟩ (fun hd => PassesOwnAt.leaving) (by decide)
        (fun W pn xe tk hp => pss_one (ps_set (i := 3) nd rfl (Or.inl rfl) (pe_nam cRL hr (by decide) rfl (passU tk (Nat.le_refl 0)) (by exact (pa_cons (pv 2) pa_nil)))))
        (fun a oe cls d l pn hz hl hands hb htk => pss_one (ps_expr (pe_mthH0 (p := (a, oe)) hR C.cl mR (j := 3) ⟨hr.dp, hr.un⟩ (by decide) (hot_of hands hz hl) (hands.2.2.2 _ List.mem_cons_self) (hb _ List.mem_cons_self) (passU (htk 1 _ (takesK_of rfl rfl rfl rfl)) (Nat.le_refl 1)) (pv 0)))))
    (pss_cons (ps_if (PW.pt (pw_and (pt_cmpR op_isN (pv 3) pe_non (nomark _)) (pw_and1 (pt_not (pt_val (pv 1)))))) (pss_one (ps_expr (pe_mth0 cR hr (by decide) (passU (takesK_of rfl rfl rfl rfl) (Nat.zero_le 1)) (pv 0)))) pss_nil)
    (pss_cons (ps_expr (pe_mth0 cN hr (by decide) (passU (takesK_of rfl rfl rfl rfl) (Nat.zero_le 1)) (pv 0)))
    (pss_one (ps_ret (pv 3))))))), ?_⟩
  · obtain ⟨a, dx, L, i, ws, cl, rfl, _⟩ := h
    rfl
  obtain ⟨a, dx, L, i, ws, cl, rfl, d, qy, qn⟩ := h
  refine ⟨_, rfl, a, dx, _, rfl, d.ob, rfl, a, dx, L, i, ws, rfl, d, fun w1 e1 => ?_, fun e1 => qn (letOk_none e1)⟩
  have hsz := d.sz w1 (List.mem_of_getElem? (cur_lt e1).2.1)
  refine ⟨_, _, rfl, ?_⟩
  refine ⟨_, rfl, w1, rfl, hsz, fun hw => ⟨fun hq H1 s1 => ?_, fun hq H1 p s1 hp => ?_⟩, fun hw dd H1 s1 => ⟨Es.mT, fun a1 ha1 => ?_⟩⟩
  · -- a question mark
    have d1 := d.same s1
    refine ⟨_, rfl, rfl, _, rfl, iteT ⟨_, rfl, _, rfl, ?_⟩⟩
    subst hq
    cases cl with
    | true =>
      refine iteF ⟨_, rfl, a, dx, _, rfl, d1.ob, rfl, a, dx, L, i, ws, rfl, d1, fun w2 e2 H2 b2 d2 => ?_, fun e2 => by rw [e1] at e2; cases e2⟩
      exact ⟨_, rfl, (qy _ (letOk_yes e1 (by rw [wordOk_q]; rfl))).1 rfl _ ((But.of s1).trans b2) d2⟩
    | false =>
      refine iteT ⟨_, rfl, a, dx, _, rfl, d1.ob, rfl, a, dx, L, i, ws, rfl, d1, (qn (letOk_no e1 (by rw [wordOk_q]; decide))).but (But.of s1)⟩
  · have d1 := d.same s1
    refine ⟨_, rfl, rfl, _, rfl, iteF ?_⟩
    refine iteF ⟨_, rfl, a, dx, _, rfl, d1.ob, rfl, a, dx, L, i, ws, rfl, d1, fun w2 e2 H2 b2 d2 => ?_, fun e2 => by rw [e1] at e2; cases e2⟩
    have npa : p ≠ a := ne_of hp d1.ob (by intro z; cases z)
    exact ⟨_, rfl, (qy _ (letOk_yes e1 (by rw [hw, decide_eq_false hq]; simp))).2 hq _ p ((But.of s1).trans b2) d2 (b2 _ _ npa hp)⟩
  · have d1 := d.same s1
    exact ⟨_, rfl, a, dx, _, rfl, d1.ob, rfl, a, dx, L, i, ws, rfl, d1, (qn (letOk_no e1 (by rw [hw]; simp))).but (But.of s1)⟩
end
end Q7
set_option maxHeartbeats 4000000
namespace Q7
open PySem PySem.Spec PyProof.Rows L2 SX
/-! ### taken_jumble -/
def rJoinQ (K : PySem.W.Frag) : V → List V → Hp → VK → Prop := fun x xs H Q => ∃ a p, ∃ ys : List Str, x = .str a ∧ xs = [.ref p] ∧ (SqL K H p (ys.map V.str) ∨ SqT K H p (ys.map V.str)) ∧ (ys.map (·.length)).sum + ys.length * a.length ≤ 16777216 ∧ Q (.str (Txt.join a ys)) H
def spTJ (CT CW CJ : Addr) : Sp := fun vs H Q E => ∃ (a dx L : Addr) (i : Nat) (t : List Nat), vs = [.ref a, .str (S t)] ∧ Wd H CW a dx L i (words t) ∧ (t.length + 2 ≤ sizeLine ∧ asc t) ∧ (i = (words t).length → EW CT a E H i) ∧
  (i < (words t).length → (∀ js, jhead ((words t).drop i) 0 = .inr js → ∀ x dy H', Same H H' → H' x = some (.ins CJ dy (jFs js.e js.l js.lo js.ag js.ap)) → Q (.ref x) H') ∧ (∀ k, jhead ((words t).drop i) 0 = .inl k → EW CT a E H (i + k)))
theorem sum_drop (ls : List Nat) : ∀ i : Nat, (ls.drop i).sum ≤ ls.sum := by
  intro i
  induction i generalizing ls with
  | zero => exact Nat.le_refl _
  | succ n ih =>
    cases ls with
    | nil => exact Nat.le_refl _
    | cons a r =>
      rw [List.drop_succ_cons, List.sum_cons]
      have := ih r
      omega
theorem joinL_len (c : Nat) : ∀ ps : List (List Nat), (TL.joinL [c] ps).length ≤ (ps.map List.length).sum + ps.length
  | [] => Nat.zero_le _
  | [p] => by
    show p.length ≤ _
    simp only [List.map_cons, List.sum_cons, List.map_nil, List.sum_nil, List.length_cons, List.length_nil]
    omega
  | p :: q :: r => by
    show (p ++ ([c] ++ TL.joinL [c] (q :: r))).length ≤ _
    have := joinL_len c (q :: r)
    simp only [List.map_cons, List.sum_cons, List.length_cons, List.length_append, List.length_nil] at *
    omega
theorem joinL_mem {c x : Nat} : ∀ {ps : List (List Nat)}, x ∈ TL.joinL [c] ps → x = c ∨ ∃ p ∈ ps, x ∈ p
  | [], h => by cases h
  | [p], h => .inr ⟨p, List.mem_cons_self, h⟩
  | p :: q :: r, h => by
    rcases List.mem_append.mp (show x ∈ p ++ ([c] ++ TL.joinL [c] (q :: r)) from h) with h | h
    · exact .inr ⟨p, List.mem_cons_self, h⟩
    · rcases List.mem_append.mp h with h | h
      · exact .inl (List.mem_singleton.mp h)
      · rcases joinL_mem h with z | ⟨m, hm, z⟩
        · exact .inl z
        · exact .inr ⟨m, List.mem_cons_of_mem _ hm, z⟩
theorem words_sum {t : List Nat} (i : Nat) : (((words t).drop i).map List.length).sum + ((words t).drop i).length ≤ t.length + 1 := by
  have h := spl1_sum (c := 32) t []
  have h2 := sum_drop ((words t).map List.length) i
  rw [List.map_drop]
  have h3 : ((words t).drop i).length ≤ (words t).length := by rw [List.length_drop]; omega
  have h4 : ((words t).map List.length).sum + (words t).length = t.length + 1 := by
    show ((TL.spl [32] 0 [] t).map List.length).sum + (TL.spl [32] 0 [] t).length = _
    rw [h, List.length_nil]
    omega
  omega
/-- the row's tail, joined and cut again -/
theorem words_tail {t : List Nat} {i : Nat} (hi : i < (words t).length) : words (TL.joinL [32] ((words t).drop i)) = (words t).drop i := by
  refine TL.spl_join ?_ fun p hp => ?_
  · intro z
    have := congrArg List.length z
    rw [List.length_drop, List.length_nil] at this
    omega
  · exact (spl1_mem t [] p (List.mem_of_mem_drop hp)).1 (by simp)
section
variable {P : Program} {w : World} {K : PySem.W.Frag} {mg : Str → Option Value} {base : Heap} {f gL : Addr} {fd : FuncData} {CT CA CV CP fT fA fV fP CW CJ : Addr}
theorem ok_tjumble (F : FnP K "taken_jumble" "taken_jumble" (top 29) [] f fd) (b : Binds K fd ["words", "text"] []) (B : Blt mg) (Es : Errs K P mg CT CA CV CP fT fA fV fP) (cLc : LenC K CW gL) (cL : FnR P w K mg base CX0 1 gL (spLen CW))
    (cR : Mth (CXk P w base 0) P w K mg base 1 CW "refuse" (spRefuse CT CW)) (gJ : mg "Jumble" = some (.ref CJ)) (cRd : Cmt (CXk P w base 0) P w K mg base 5 CJ "read" (spRead CT CJ)) : FnR P w K mg base (CXk P w base 1) 6 f (spTJ CT CW CJ) := by
  have sc : FnScope ["words", "text", "told", "begin", "error"] ["words", "text"] (defScope (top 29)) := sc_by (by decide +kernel)
  have nd := sc.nd
  refine fnp0 F b sc (fun vs H Q E h => ?_) fun cdv A outer s H vs Q E hr h => ⟨_,
    (pss_cons (ps_set (i := 2) nd rfl (Or.inl rfl) (pe_split (pv 1) pe_str))
    (pss_cons (ps_set (i := 3) nd rfl (Or.inl rfl) (pe_op op_sub (pe_callB call_len rfl (B.g "len") boot_len (pa_cons (pv 2) pa_nil)) (pe_callB (call_lenOwn cLc cL (hr.mono (by decide))) rfl (B.g "len") boot_len (pa_cons (pv 0) pa_nil))))
    (pss_cons (ps_if (pt_cmpR op_eq (pe_callB (call_lenOwn cLc cL (hr.mono (by decide))) rfl (B.g "len") boot_len (pa_cons (pv 0) pa_nil)) pe_int (nomark _)) (pss_one (ps_expr (pe_mth0 cR hr (by decide) (passU (takesK_of rfl rfl rfl rfl) (Nat.zero_le 1)) (pv 0)))) pss_nil)
    (pss_one (ps_try_asK (i := 4) (m := 1) (n := 0) (E := E)
      (tb := fun W => tRet (tCmA CJ (spRead CT CJ) (WE W) (tC (.ref CJ)) (tCons (tM1 (rJoinQ K) (tC (.str " ")) (tSl (rSlL K) (tVar 2) (tPart (tVar 3)) tNoPart)) tNil)))
      (ts := fun a cls d => (fun _ σ H => RaisesK K cls ∧ σ[4]? = some (some (.ref a)) ∧ tMk2 CT "at" "word" (tCons (tC (.int 0)) (tCons (tOp (rI0 fun i j => .int (i + j)) (tVar 3) (tXf a cls d CT "word" (tVar 4))) tNil)) σ H fun cls d H' => E cls d H'))
      rfl rfl rfl nd rfl rfl ⟨rfl, by decide, Or.inl Es.gT⟩ rfl (fun _ _ z => z) (by decide)
      (fun W pn xe tk hp => pss_one (ps_ret (pe_cmt cRd hr (by decide) (passU tk (Nat.le_refl 0)) (pe_glob (v := .ref CJ) rfl gJ rfl) (pa_cons (pe_join pe_str (pe_slice sl_list (pv 2) (po_some (pv 3)) po_none)) pa_nil))))
      (fun a oe cls d l pn xe hz hl hands hb tk => pss_one (ps_raiseFromK (i := 4) hands hb (by rw [List.length_cons]; omega) tk
        (pmk_err2 Es.tT Es.tP Es.gs Es.gT (by have z := room4 hr; exact z) (by exact (pa_cons pe_int (pa_cons (pe_op op_add (pv 3) (pe_xfK Es.xT Es.tT.n2 hz hands.2.1.1 (hands.2.2.2 _ List.mem_cons_self) (pv 4))) pa_nil)))) rfl (Or.inl rfl) hz.1))))))), ?_⟩
  · obtain ⟨a, dx, L, i, t, rfl, _⟩ := h
    rfl
  obtain ⟨a, dx, L, i, t, rfl, d, ⟨ht, ha⟩, qe, qy⟩ := h
  refine ⟨_, rfl, ⟨_, rfl⟩, _, _, rfl, rfl, by decide, by rw [S_len]; exact ht, fun D nD => ?_⟩
  rw [split_sp]
  have hD : upd H D (.lst (((words t).map S).map V.str)) D = some (.lst (((words t).map S).map V.str)) := upd_same
  have s1 : Same H (upd H D (.lst (((words t).map S).map V.str))) := same_upd nD
  generalize upd H D (.lst (((words t).map S).map V.str)) = H1 at hD s1 ⊢
  have d1 := d.same s1
  have lw : (((words t).map S).map V.str).length = (words t).length := by rw [List.length_map, List.length_map]
  have e62 : sizeLine ≤ 2 ^ 62 := by decide +kernel
  have hle := d.le
  have hn := d.n
  refine ⟨_, rfl, _, _, rfl, .inl ⟨_, SqL.of hD, rfl⟩, _, rfl, a, dx, _, rfl, d1.ob, a, dx, L, i, _, rfl, d1, fun H2 s2 => ⟨_, rfl, by omega, _, _, rfl, rfl, ?_⟩⟩
  rw [lw]
  dsimp only
  rw [show (((words t).length : Nat) : Int) - (((words t).length - i : Nat) : Int) = (i : Int) by omega]
  have d2 := d1.same s2
  have s12 := s1.trans s2
  refine ⟨_, rfl, a, dx, _, rfl, d2.ob, a, dx, L, i, _, rfl, d2, fun H3 s3 => ⟨_, rfl, by omega, rfl, _, rfl, ?_⟩⟩
  have d3 := d2.same s3
  have s13 := s12.trans s3
  have hD3 := (s2.trans s3) _ _ hD
  refine ite2 (fun c => ?_) (fun c => ?_)
  · have hi : i = (words t).length := by
      have := V.int.inj (of_decide_eq_true c)
      omega
    exact ⟨_, rfl, a, dx, _, rfl, d3.ob, rfl, a, dx, L, i, _, rfl, d3, (qe hi).but (But.of s13)⟩
  have hi : i < (words t).length := by
    have : ¬ ((((words t).length - i : Nat) : Int) = 0) := fun z => c (decide_eq_true (congrArg V.int z))
    omega
  obtain ⟨qa, qb⟩ := qy hi
  refine ⟨rfl, ⟨_, rfl⟩, _, rfl, _, rfl, _, rfl, D, _, rfl, SqL.of hD3, fun D2 nD2 => ?_⟩
  have ecut : cutV (((words t).map S).map V.str) (some (i : Int)) none = (((words t).drop i).map S).map V.str := by
    unfold cutV
    rw [HT.sIx_nat, HT.sIx_none, lw, Nat.min_eq_left (by omega), List.take_of_length_le (by rw [List.length_drop, lw]; omega), List.map_drop, List.map_drop]
  rw [ecut]
  have hD4 : (upd H3 D2 (.lst ((((words t).drop i).map S).map V.str))) D2 = some (.lst ((((words t).drop i).map S).map V.str)) := upd_same
  have s34 : Same H3 (upd H3 D2 (.lst ((((words t).drop i).map S).map V.str))) := same_upd nD2
  generalize upd H3 D2 (.lst ((((words t).drop i).map S).map V.str)) = H4 at hD4 s34 ⊢
  have s14 := s13.trans s34
  have hsum := words_sum (t := t) i
  have hsz : sizeLine = 16777216 := sizeLine_eq
  refine ⟨" ", D2, _, rfl, rfl, .inl (SqL.of hD4), ?_, ?_⟩
  · rw [lens, List.length_map, show (" " : Str).length = 1 from rfl]
    have hsum' : (((words t).drop i).map fun x => x.length).sum + ((words t).drop i).length ≤ t.length + 1 := hsum
    omega
  rw [show (" " : Str) = S [32] by decide +kernel, join_S]
  have hjl := joinL_len 32 ((words t).drop i)
  refine ⟨TL.joinL [32] ((words t).drop i), rfl, ⟨?_, fun x hx => ?_⟩, ?_, ?_⟩
  · -- its length
    have hj := spl1_join 32 t []
    have : (TL.joinL [32] ((words t).drop i)).length ≤ t.length := by
      by_cases h0 : i = 0
      · subst h0
        rw [List.drop_zero]
        show (TL.joinL [32] (TL.spl [32] 0 [] t)).length ≤ _
        rw [hj]
        exact Nat.le_refl _
      · have h1 : ((words t).take i).length = i := by rw [List.length_take]; omega
        have h2 : (words t).length = ((words t).take i).length + ((words t).drop i).length := by rw [← List.length_append, List.take_append_drop]
        have h3 : ((words t).map List.length).sum = (((words t).take i).map List.length).sum + (((words t).drop i).map List.length).sum := by
          rw [← List.sum_append, ← List.map_append, List.take_append_drop]
        have h4 : ((words t).map List.length).sum + (words t).length = t.length + 1 := by
          have h := spl1_sum (c := 32) t []
          show ((TL.spl [32] 0 [] t).map List.length).sum + (TL.spl [32] 0 [] t).length = _
          rw [h, List.length_nil]
          omega
        omega
    omega
  · rcases joinL_mem hx with z | ⟨p, hp, z⟩
    · rw [z]
      decide
    · exact words_ac ha p (List.mem_of_mem_drop hp) x z
  · rw [words_tail hi]
    exact fun js hj x dy H' s' hx => qa js hj x dy H' (s14.trans s') hx
  · rw [words_tail hi]
    intro k hk dd p H' s' hx
    refine ⟨Es.mT, fun a1 ha1 => ⟨?_, rfl, _, rfl, _, rfl, rfl, rfl, dd, _, _, rfl, hx, rfl, _, _, rfl, rfl, _, _, rfl, fun d5 p5 h5 => ?_⟩⟩
    · exact fun M hh k => ⟨PySem.W.looks_subIn k Es.tT.at_.exC, PySem.W.looks_typeIn k Es.tT.at_.tyC⟩
    · have e := qb k hk d5 p5 (upd H' d5 (.xd [("word", .int ((i : Int) + (k : Int))), ("at", .int 0), ("values_told", .ref p5)])) ((But.of (s14.trans s')).trans (But.of (same_upd h5)))
      refine e ?_
      rw [upd_same]
      rfl
end
end Q7
set_option maxHeartbeats 4000000
namespace Q7
open PySem PySem.Spec PyProof.Rows L2 SX
/-! ### a comprehension that lets an exception out -/
theorem inv_xe {X : Cx} {e1 e2 : Value → Shared → Prop} {pins : List (Addr × Obj)} {σ : L2.St} {H : Hp} {s : Shared} (I : Inv { X with xe := e1 } pins σ H s) : Inv { X with xe := e2 } pins σ H s := by
  have ok := I.ok
  exact ⟨⟨ok.mod, ok.kind, ok.glob, ok.blt, ok.above, ok.inj, ok.has, ok.cab, ok.hd, ok.frames, ok.stk, ok.exf, ok.bs, ok.bsz, ok.noex, ok.exfs, ok.funs, ok.frf⟩, I.os, I.bare, I.base, I.loc, I.cell, I.free, I.freeC, I.pin, I.hok, I.len⟩
/-- in the air, not of this frame -/
def XFk (n : Nat) (X : Cx) (W : XK) (u : Value) (s' : Shared) : Prop :=
  ∃ (a : Addr) (B : Heap) (sI : Shared) (pins : List (Addr × Obj)) (σ : L2.St) (H : Hp) (cls : Value) (d : Option Addr) (l : List (Addr × Obj)),
    (u = .ref a ∧ Inv X pins σ H sI ∧ (∀ b o, sI.heap.get? b = some o → b ∉ frs X.stack → B.get? b = some o)) ∧ (sI.heap.UpToSlots s'.heap ∧ HandSPX.FlyingZ B X.stack a (Zk cls d l) s'.heap) ∧
      (H a = none ∧ s'.os = sI.os ∧ AllBare s'.gens) ∧ W cls d H ∧ Tail n X.base B H a l
theorem XFk.call {X : Cx} {n m : Nat} {pins : List (Addr × Obj)} {σ : L2.St} {H : Hp} {s s' : Shared} {E : XK} (hm : m ≤ n) (I : Inv X pins σ H s) {u : Value} (c : CXk X.prog X.w X.base m X.stack H s E u s') : XFk n X E u s' := by
  obtain ⟨a, B, H', cls, d, l, ⟨eu, fl⟩, ⟨hok, ub⟩, ⟨na, os, ag⟩, hE, tl⟩ := c
  have keepB : ∀ b o, B.get? b = some o → s'.heap.get? b = some o := fl.1
  obtain ⟨G, gy, gn⟩ := restrict s'.heap fun b => (B.get? b).isSome || decide (b ∈ frs X.stack)
  have inB : ∀ b o, B.get? b = some o → G.get? b = some o := fun b o q => (gy b (by rw [q]; rfl)).trans (keepB b o q)
  have inF : ∀ b, b ∈ frs X.stack → G.get? b = s'.heap.get? b := fun b q => gy b (by rw [decide_eq_true q, Bool.or_true])
  have out : ∀ b o, G.get? b = some o → s'.heap.get? b = some o ∧ (b ∉ frs X.stack → B.get? b = some o) := fun b o q => by
    have here : s'.heap.get? b = some o := by
      by_cases z : ((B.get? b).isSome || decide (b ∈ frs X.stack)) = true
      · rw [← gy b z]; exact q
      · rw [gn b (Bool.eq_false_iff.mpr z)] at q; cases q
    refine ⟨here, fun nm => ?_⟩
    cases z : B.get? b with
    | some o2 =>
      have q2 := keepB b o2 z
      rw [here] at q2
      rw [q2]
    | none =>
      rw [gn b (by rw [z, decide_eq_false nm]; rfl)] at q
      cases q
  refine ⟨a, B, { s with heap := G, gens := s'.gens, drawn := s'.drawn, toks := s'.toks }, pins, σ, H', cls, d, l, ⟨eu, ?_, fun b o q nm => (out b o q).2 nm⟩, ⟨Heap.UpToSlots.of_keeps fun b o q => (out b o q).1, fl⟩, ⟨na, os, ag⟩, hE, tl.mono hm⟩
  refine I.call (ch := []) ⟨fun b o q h1 h2 _ => inB b o (ub.keep b o q h1 h2), fun b o q _ h2 _ => ?_, fun b o q h1 _ => ub.free b o q h1, fun b o q _ => ?_, ub.tups, ub.frzs, ub.tbls⟩ (hok.kept inB) ag (fun _ z => by cases z)
  · obtain ⟨sl, z⟩ := ub.slot b o q h2
    exact ⟨sl, (inF b h2).trans z⟩
  · by_cases hf : b ∈ frs X.stack
    · obtain ⟨sl, z⟩ := ub.slot b o q hf
      exact ⟨_, (inF b hf).trans z⟩
    · obtain ⟨o2, z⟩ := ub.there b o q hf
      exact ⟨o2, inB b o2 z⟩
section
variable {M : Model} {A : Around} {E : Value → Shared → Prop} {s : Shared} {env : Env} {outer : List Env} {L e : Addr} {base : Heap} {Z : Obj → Prop} {fl : Value}
/-- noted at the frame, whatever the flight says -/
theorem notes_any {Q : Unit → Shared → Prop} (hZ : PXN.Steady1 Z) (hfr : A.frames = some (env :: outer)) (hf : env.frame = some L) (hkb : base.StaysIn s.heap) (hen : base.get? e = none) (hl : s.heap.FunFrames base (env :: outer)) (ht : HandSPX.TracedZ s.heap base e Z fl)
    (hQ : ∀ h', HandSPX.HeldZ base (env :: outer) e Z L h' → s.heap.UpToSlots h' → Q () { s with heap := h' }) : wpAny M A (noteFrame (.ref e) env) Q E s := by
  obtain ⟨oe, vs, T, oT, ts, he, hz, hd, h1, nT, Te, hT, dT, h3⟩ := ht
  unfold noteFrame
  simp only [hf]
  refine wpAny_bind (wpAny_field he hd h1 ?_)
  rw [if_pos (show (Value.ref T != Value.none) = true from by simp)]
  refine wpAny_bind (wpAny_field hT dT h3 ?_)
  by_cases c : (fl == rawInt L) = true
  · rw [if_pos c]
    have ef : fl = rawInt L := beq_iff_eq.mp c
    subst ef
    exact wpAny_pure (hQ s.heap ⟨hkb, hen, hl, oe, vs, T, oT, ts, he, hz, hd, h1, nT, Te, hT, dT, h3⟩ (Heap.UpToSlots.refl _))
  · rw [if_neg c]
    refine wpAny_bind (wpAny_setField hT dT (Array.getElem?_eq_some_iff.mp h3).1 ?_)
    have off : ∀ b, b ≠ T → (s.heap.update T (Obj.mapFields (·.setIfInBounds 3 Value.none))).get? b = s.heap.get? b := fun b hb => Heap.get?_update_other _ _ (Ne.symm hb)
    have plain : ∀ b o, s.heap.get? b = some o → (∀ vs, o.data ≠ .fields vs) → b ≠ T := fun b o hb nf q => by
      rw [q, hT] at hb
      obtain rfl := Option.some.inj hb
      exact nf ts dT
    refine PXN.wpAny_entryZ hZ hfr (hl.of_keeps fun b o hb nf => ⟨o, (off b (plain b o hb nf)).trans hb, rfl⟩) hf ((off e (Ne.symm Te)).trans he) (fun b o hb => (off b fun q => by rw [q, nT] at hb; cases hb).trans (hkb b o hb)) hen hd (Array.getElem?_eq_some_iff.mp h1).1 hz fun h' hN => ?_
    obtain ⟨y1, y2, y3, y4⟩ := hN
    exact hQ h' ⟨y1, hen, y2, y3⟩ fun b o hb nf => y4 b o ((off b (plain b o hb nf)).trans hb) nf
end
end Q7
set_option maxHeartbeats 4000000
namespace Q7
open PySem PySem.Spec PyProof.Rows L2 SX
theorem ff_less {h h' B B' : Heap} (k : ∀ b o, h.get? b = some o → B.get? b = none → h'.get? b = some o ∧ B'.get? b = none) : ∀ {l : List Env}, h.FunFrames B l → h'.FunFrames B' l
  | [], _ => trivial
  | env :: rest, ⟨h1, ⟨L, o, hf, hb, ho, nf⟩, h3⟩ => ⟨h1, ⟨L, o, hf, (k L o ho hb).2, (k L o ho hb).1, nf⟩, ff_less k h3⟩
theorem chained_fields : ∀ {l : List (Addr × Obj)}, Chained l → ∀ q ∈ l, ∃ ws : Array Value, q.2.data = .fields ws
  | [], _, q, h => by cases h
  | p :: r, ⟨hf, _, _, hr⟩, q, h => by
    rcases List.mem_cons.mp h with e | h
    · rw [e]; exact hf
    · exact chained_fields hr q h
section
variable {X : Cx} {pins : List (Addr × Obj)} {σ : L2.St} {H3 : Hp} {s3 s' : Shared} {scope : Scope} {ce : Env} {fp : List Addr} {n : Nat} {E : XK} {E₁ : Value → Shared → Prop}
theorem blk_out (hs : X.stack = X.env :: X.outer) (hf : X.env.frame = some X.env.locals) (hex : X.ex = []) (hx : X.xe = fun e s' => wpAny (model X.prog X.w) X.A (leaving X.env e) (fun _ s'' => CXk X.prog X.w X.base n X.outer X.H_0 X.s_0 E e s'') E₁ s') (I3 : Inv X pins σ H3 s3)
    (hfp : ∀ b ∈ fp, (b ∈ X.ex ∨ X.s_0.heap.objs.size ≤ b) ∧ b ≠ X.env.locals ∧ (∀ x c, X.env.cells.lookup x = some c → c ≠ b) ∧ ∀ p ∈ X.pn ++ pins, p.1 ≠ b) (cf : ce.frame = X.env.frame) (cL : ce.locals = s3.heap.objs.size)
    {use : Option (Value → Sem Unit)} {Qf : Value → Shared → Prop} {acc u : Value} (x : XFk n (X.blk s3 H3 scope ce fp) E u s') :
    notedBy (model X.prog X.w) X.A ce (fun e s'' => compPost (model X.prog X.w) X.A X.xe use Qf acc s3.heap.objs.size (.error e) s'') u s' := by
  obtain ⟨a, B, sI, p2, σ2, H, cls, d, l, ⟨eu, JI, nb⟩, ⟨up, fl⟩, ⟨na, os, ag⟩, w, tl⟩ := x
  subst eu
  have hfr : X.A.frames = some (X.env :: X.outer) := by rw [I3.ok.frames, hs]
  have fl1 : HandSPX.FlyingZ B (X.env :: X.outer) a (Zk cls d l) s'.heap := by rw [← hs]; exact fl
  have en : noteFrame (.ref a) ce = noteFrame (.ref a) X.env := by
    unfold noteFrame PySem.frameOf
    rw [cf]
  obtain ⟨m, hn, _⟩ := JI.loc
  have hn' : sI.heap.Ns s3.heap.objs.size m := by rw [← cL]; exact hn
  have nC : H s3.heap.objs.size = none := by rw [← cL]; exact JI.free
  have cfr : s3.heap.objs.size ∉ frs X.stack := fun hm => by
    obtain ⟨_, o, ho, _⟩ := I3.stack.mem hm
    exact Nat.lt_irrefl _ (Heap.lt_size ho)
  have hn2 := hn'
  obtain ⟨oC, esC, epC, hoC, hdC, _⟩ := hn'
  have hBC : B.get? s3.heap.objs.size = some oC := nb _ _ hoC cfr
  show wpAny _ X.A (noteFrame (.ref a) ce) _ _ _
  rw [en]
  refine PXN.looks_onZ Zk.kept hfr hf fl1 fun h5 hh5 up5 => ?_
  refine ⟨m, Heap.UpToSlots.ns (up.trans up5) hn2, fun h6 sb cenv hc => ?_⟩
  obtain ⟨B', b1, b2⟩ := restrict B fun b => decide (b ≠ s3.heap.objs.size)
  have ofB : ∀ b o, B'.get? b = some o → B.get? b = some o ∧ b ≠ s3.heap.objs.size := fun b o q => by
    by_cases z : b = s3.heap.objs.size
    · rw [b2 b (by simp [z])] at q
      cases q
    · exact ⟨by rw [← b1 b (by simp [z])]; exact q, z⟩
  have noB : ∀ b, B.get? b = none → B'.get? b = none ∧ b ≠ s3.heap.objs.size := fun b q => by
    have z : b ≠ s3.heap.objs.size := fun z => by rw [z, hBC] at q; cases q
    exact ⟨by rw [b1 b (by simp [z])]; exact q, z⟩
  obtain ⟨k1, k2, k3, oe, vs, T, oT, ts, he, hz, hd, h1, nT, Te, hT, dT, h3⟩ := hh5
  have k1' : B'.StaysIn h6 := fun b o q => (sb.2 b (ofB b o q).2).trans (k1 b o (ofB b o q).1)
  have k2' : B'.get? a = none := (noB a k2).1
  have k3' : h6.FunFrames B' (X.env :: X.outer) := ff_less (fun b o q z => ⟨(sb.2 b (noB b z).2).trans q, (noB b z).1⟩) k3
  have he' := (sb.2 a (noB a k2).2).trans he
  have hT' := (sb.2 T (noB T nT).2).trans hT
  unfold PySem.passOn
  refine wpAny_bind (wpAny_field he' hd h1 ?_)
  rw [if_neg (show ¬ ((Value.ref T == Value.none) = true) from by simp)]
  have fin : wpAny (model X.prog X.w) X.A (setFlight (.ref a) cenv.frame) (fun _ s4 => wpAny (model X.prog X.w) X.A (throw (.ref a) : Sem Value) (fun _ _ => False) X.xe s4) X.xe { s' with heap := h6 } := by
    refine HandSPX.setFlight_anyZ (s := { s' with heap := h6 }) (fr := cenv.frame) (l := X.env :: X.outer) k1' k3' ⟨oe, vs, T, oT, ts, he', hz, hd, h1, (noB T nT).1, Te, hT', dT, h3⟩ fun h7 y1 y2 y3 up7 => wpAny_throw ?_
    rw [hx]
    show wpAny _ _ (do noteFrame (.ref a) X.env; setFlight (.ref a) none) _ _ _
    refine wpAny_bind (notes_any (s := { s' with heap := h7 }) Zk.kept hfr hf y1 k2' y2 y3 fun h8 hh8 up8 => ?_)
    obtain ⟨q1, q2, q3, q4⟩ := hh8
    refine HandSPX.setFlight_anyZ (s := { s' with heap := h8 }) (fr := none) (l := X.env :: X.outer) q1 q3 q4 fun h9 z1 z2 z3 up9 => ?_
    obtain ⟨G, g1, g2⟩ := restrict sI.heap fun b => decide (b ≠ s3.heap.objs.size)
    have ofG : ∀ b o, G.get? b = some o → sI.heap.get? b = some o ∧ b ≠ s3.heap.objs.size := fun b o q => by
      by_cases z : b = s3.heap.objs.size
      · rw [g2 b (by simp [z])] at q
        cases q
      · exact ⟨by rw [← g1 b (by simp [z])]; exact q, z⟩
    have toG : ∀ b, b ≠ s3.heap.objs.size → G.get? b = sI.heap.get? b := fun b z => g1 b (by simp [z])
    have lt3 : ∀ b o, s3.heap.get? b = some o → b ≠ s3.heap.objs.size := fun b o q => Nat.ne_of_lt (Heap.lt_size q)
    have bs := JI.base
    have IX : Inv X pins σ H { sI with heap := G } := by
      refine I3.call' (s' := { sI with heap := G }) (ch := fp) JI.os ⟨fun b o q h1 h2 h3 => (toG b (lt3 b o q)).trans (bs.keep b o q h1 h2 h3), fun b o q h1 h2 h3 => ?_, fun b o q h1 h2 => bs.free b o q h1 h2, fun b o q h1 => ?_, bs.tups, bs.frzs, bs.tbls⟩ (fun b o q => ?_) JI.bare hfp
      · obtain ⟨sl, z⟩ := bs.slot b o q h1 h2 h3
        exact ⟨sl, (toG b (lt3 b o q)).trans z⟩
      · obtain ⟨o2, z⟩ := bs.there b o q h1
        exact ⟨o2, (toG b (lt3 b o q)).trans z⟩
      · refine (JI.hok b o q).stay (fun c uu hc' r => (toG c fun z => ?_).trans r) (fun _ r => r) fun _ _ r => r
        rcases hc' with hc' | hc'
        · rw [← hc', z, nC] at q
          cases q
        · rw [z, nC] at hc'
          cases hc'
    exact flown (s' := { s' with heap := h8 }) (h' := h9) hs hf hex IX (fun b o q nm => (b1 b (by simp [(ofG b o q).2])).trans (nb b o (ofG b o q).1 nm)) (fun b o _ q nf => by
        obtain ⟨s1, r1⟩ := (up.trans up5) b o (ofG b o q).1 nf
        have r2 := (sb.2 b (ofG b o q).2).trans r1
        obtain ⟨s2, r3⟩ := (up7.trans up8) b _ r2 nf
        exact ⟨s2, r3⟩) ⟨z1, k2', z2.2.2, z3⟩ up9 na os ag w
      ⟨tl.ch, tl.len, fun q hq => (b1 q.1 (by
          have z : q.1 ≠ s3.heap.objs.size := fun z => by
            have r := tl.at_ q hq
            rw [z, hBC] at r
            obtain ⟨ws, hw⟩ := chained_fields tl.ch q hq
            obtain rfl := Option.some.inj r
            rw [hdC] at hw
            cases hw
          simp [z])).trans (tl.at_ q hq), tl.un, tl.ba, tl.ne, tl.bz⟩
  first
    | exact wpAny_bind (wpAny_pure (wpAny_bind fin))
    | exact wpAny_bind fin
end
end Q7
set_option maxHeartbeats 4000000
namespace Q7
open PySem PySem.Spec PyProof.Rows L2 SX
/-- the block's context, its exceptions let out -/
abbrev blkX (X : Cx) (n : Nat) (E : XK) (s : Shared) (H : Hp) (scope : Scope) (ce : Env) (fp : List Addr) : Cx := { X.blk s H scope ce fp with xe := XFk n (X.blk s H scope ce fp) E }
theorem passB {X : Cx} {n m : Nat} {E : XK} {s : Shared} {H : Hp} {scope : Scope} {ce : Env} {fp : List Addr} (hm : m ≤ n) : ∀ σ : L2.St, PassesAt (CXk X.prog X.w X.base m) (blkX X n E s H scope ce fp) σ E :=
  fun σ pins H' s0 e s' I c => XFk.call (X := X.blk s H scope ce fp) hm (inv_xe (X := X.blk s H scope ce fp) I) c
section
variable {X : Cx} {n : Nat} {E : XK} {E₁ : Value → Shared → Prop} {pins : List (Addr × Obj)} {s : Shared} {σ : L2.St} {H : Hp} {Q : VK} {elt iter : Expr} {x : Str} {px : Pos} {j : Nat} {scope : Scope} {own : List (Str × Nat)} {pos pos' spos : Pos} {wi : TI} {te : TE}
theorem lcX_core {use : Option (Value → Sem Unit)} {Qf : Value → Shared → Prop} (hs : X.stack = X.env :: X.outer) (hf : X.env.frame = some X.env.locals) (hex : X.ex = []) (hx : X.xe = fun e s' => wpAny (model X.prog X.w) X.A (leaving X.env e) (fun _ s'' => CXk X.prog X.w X.base n X.outer X.H_0 X.s_0 E e s'') E₁ s')
    (calm : X.calm = true) (nd : X.N.Nodup) (I : Inv X pins σ H s) (hi : PI X (.Name x px) iter wi) (ok : BlkOk X.N X.env.scope scope own)
    (hg : ∀ (s : Shared) (H : Hp) (C : Addr) (cl : List (Str × Addr)) (fp : List Addr), PG (X.blk s H scope (compEnvC scope cl C X.env) fp) (.Name x px) (gName j))
    (he : ∀ (s : Shared) (H : Hp) (C : Addr) (cl : List (Str × Addr)) (fp : List Addr), PE (blkX X n E s H scope (compEnvC scope cl C X.env) fp) elt te) (hfo : ∀ v, foldedSetIterable iter X.env v = pure v)
    (h : tLc wi (gName j) tYes te (own.map (·.2)) σ H Q)
    (hRR : ∀ D C s' m H', Inv X pins σ H' s' → Q (.ref D) H' → s'.heap.Ns C m → FpOk X pins H' C → compPost (model X.prog X.w) X.A X.xe use Qf (.ref D) C (.ok .next) s') :
    wpAny (model X.prog X.w) X.A (comprehension (.ListComp elt [⟨.Name x px, iter, [], 0⟩] scope pos) scope X.env pos' (newList []) false (eval iter X.env) use) Qf X.xe s := by
  have frees : ∀ y ∈ scope.names, y.2 = .free → ∃ c, X.env.cells.lookup y.1 = some c := fun y hy e => by
    rcases ok.free y hy e with k | k
    · exact I.ok.has _ (.inl k)
    · exact I.ok.has _ (.inr k)
  refine wpAny_comprehension_free (use := use) rfl hfo (closure_ok frees) ok.kind (fun y hy e => by rw [ok.uniq y hy, e]) (thn (hi.run pins s σ H _ I h) fun xv sa ha => thn ha fun itv sb hb => ?_)
  obtain ⟨it, fp, tn, J, Hb, eit, Ib, T, stb, fb, q⟩ := hb
  subst eit
  refine wpAny_newObj_type (newEnv_comp ?_) (by show 0 ≤ sizeLine; decide)
  generalize hD : sb.heap.objs.size = D
  have nD : Hb D = none := Ib.hok.fresh (Nat.le_of_eq hD)
  obtain ⟨W, ⟨m0, w0⟩, turn⟩ := q D nD
  generalize hsc : ({ sb with heap := sb.heap.push { cls := .type "list", data := .seq ([] : List Value).toArray } } : Shared) = sc
  have Ic : Inv X pins σ (upd Hb D (.lst [])) sc := by
    rw [← hsc]
    refine Ib.laid (t' := sb.toks) (fun b o e => Heap.get?_push_of_some _ e) (Nat.le_of_eq hD) ⟨Nat.zero_le _, [], 0, .nil, ?_⟩
    rw [← hD]
    exact Heap.get?_push_size _ rfl
  have hc3 : sc.heap = sb.heap.push { cls := .type "list", data := .seq ([] : List Value).toArray } := by rw [← hsc]
  have fc : ∀ b ∈ fp, FpOk X pins (upd Hb D (.lst [])) b ∧ b < sc.heap.objs.size := fun b hb => by
    obtain ⟨o, e, _⟩ := T.obj _ _ stb b hb
    have lt := Heap.lt_size e
    refine ⟨⟨?_, (fb b hb).2⟩, by rw [hc3, Heap.size_push]; exact Nat.lt_succ_of_lt lt⟩
    rw [upd_ne (by rw [← hD]; exact Nat.ne_of_lt lt)]
    exact (fb b hb).1
  have stc : tn 0 sc.heap := T.keep _ _ _ stb fun b _ o e => by rw [hc3]; exact Heap.get?_push_of_some _ e
  have Id := block_start Ic ok nd fc
  have pgj := hg sc (upd Hb D (.lst [])) sc.heap.objs.size (cellsFrom (sc.heap.objs.size + 1) scope.names (cloFrom X.env.cells scope.names [])) fp
  have pej := he sc (upd Hb D (.lst [])) sc.heap.objs.size (cellsFrom (sc.heap.objs.size + 1) scope.names (cloFrom X.env.cells scope.names [])) fp
  show codeAny _ _ (.compStart (.ListComp elt [⟨.Name x px, iter, [], 0⟩] scope pos) 0 (.ref it) (.ref D) (compEnvC scope (cellsFrom (sc.heap.objs.size + 1) scope.names (cloFrom X.env.cells scope.names [])) sc.heap.objs.size X.env)) (compPost (model X.prog X.w) X.A X.xe use Qf (.ref D) sc.heap.objs.size) { sc with heap := pushCells (sc.heap.push { cls := .type "dict", data := .dict #[] }) scope.names }
  have nfp : ∀ b ∈ fp, (upd Hb D (.lst [])) b = none := fun b hb => (fc b hb).1.1
  generalize hce : compEnvC scope (cellsFrom (sc.heap.objs.size + 1) scope.names (cloFrom X.env.cells scope.names [])) sc.heap.objs.size X.env = ce at Id pgj pej ⊢
  have cL : ce.locals = sc.heap.objs.size := by subst hce; rfl
  have cF : ce.frame = X.env.frame := by subst hce; rfl
  generalize hHc : upd Hb D (.lst []) = Hc at Ic Id pgj pej w0 nfp fc
  generalize hsd : ({ sc with heap := pushCells (sc.heap.push { cls := .type "dict", data := .dict #[] }) scope.names } : Shared) = sd at Id ⊢
  have std : tn 0 sd.heap := T.keep _ _ _ stc fun b _ o e => by rw [← hsd]; exact pushCells_keeps _ _ _ _ (Heap.get?_push_of_some _ e)
  have fpX : ∀ b ∈ fp, (b ∈ X.ex ∨ X.s_0.heap.objs.size ≤ b) ∧ b ≠ X.env.locals ∧ (∀ y c, X.env.cells.lookup y = some c → c ≠ b) ∧ ∀ p ∈ X.pn ++ pins, p.1 ≠ b := fun b hb =>
    ⟨(fc b hb).1.2.2.2.1, (fc b hb).1.2.1, (fc b hb).1.2.2.2.2.1, (fc b hb).1.2.2.2.2.2⟩
  have fpB : ∀ {σ' : L2.St} {H' : Hp} {s' : Shared}, Inv (X.blk sc Hc scope ce fp) [] σ' H' s' → (∀ b ∈ fp, H' b = none) → ∀ b ∈ fp, FpOk (X.blk sc Hc scope ce fp) [] H' b := fun {σ' H' s'} I' hn b hb =>
    ⟨hn b hb, (I'.ok.exf b hb).1, I'.ok.exfs b hb, .inl hb, fun y c e => (I'.ok.exf b hb).2 y c e, fun p hp => absurd (show p ∈ ([] : List (Addr × Obj)) ++ [] from hp) (by simp)⟩
  have loop : codeAny (model X.prog X.w) X.A (.compLoop (.ListComp elt [⟨.Name x px, iter, [], 0⟩] scope pos) 0 (.ref it) (.ref D) ce) (compPost (model X.prog X.w) X.A X.xe use Qf (.ref D) sc.heap.objs.size) sd := by
    refine compLoop_any (fun k s' => ∃ i H', Inv (X.blk sc Hc scope ce fp) [] (wipe σ (own.map (·.2))) H' s' ∧ tn i s'.heap ∧ (∀ b ∈ fp, H' b = none) ∧ W i k H') ?_ m0 ⟨0, Hc, Id, std, nfp, w0⟩
    rintro k se ⟨i, He, Ie, ste, ne, we⟩
    rcases turn i k He we with ⟨stop, qq⟩ | ⟨go, Nx, hNx, step⟩
    · refine thnF (T.done (X.blk sc Hc scope ce fp) rfl rfl rfl calm i [] se _ He (fun _ _ => False) Ie (fpB Ie ne) ste stop) fun r sf ⟨hr, If⟩ => ?_
      subst hr
      have Ig : Inv X pins σ He sf := Ic.call' (ch := fp) If.os If.base If.hok If.bare fpX
      have nC : He sc.heap.objs.size = none := by
        have z : He ce.locals = none := If.free
        rw [cL] at z
        exact z
      obtain ⟨m, hn, _⟩ := If.loc
      have hn' : sf.heap.Ns ce.locals m := hn
      rw [cL] at hn'
      exact hRR D sc.heap.objs.size sf m He Ig qq hn' (Ic.fpOk (Nat.le_refl _) nC)
    · refine thnF (T.item (X.blk sc Hc scope ce fp) rfl rfl rfl calm i [] se _ He (fun _ _ => False) Ie (fpB Ie ne) ste go) fun r sf ⟨u, hr, hl⟩ => ?_
      subst hr
      refine thnF hl fun _ sg ⟨xv, Hg, Ig, rg, yg, stg, ng⟩ => ?_
      refine thnF (pgj.run _ sg _ Hg xv u _ (Ig.pinned (fpB Ig ng) (T.obj _ _ stg)) rg (step xv Hg yg)) fun _ sh ⟨σh, Hh, Ih, hw, qh⟩ => ?_
      refine wpAny_mono ((pts_nil (X := X.blk sc Hc scope ce fp)).run _ sh σh Hh _ Ih qh) (fun b si hb => ?_) fun _ _ z => z.elim
      obtain ⟨Hi, Ii, qi⟩ := hb
      have fin : ∀ {s' : Shared} {H' : Hp}, Inv (X.blk sc Hc scope ce fp) ([] ++ pinsAt fp sg.heap) σh H' s' → Nx H' → ∃ m, m < k ∧ ∃ i H', Inv (X.blk sc Hc scope ce fp) [] (wipe σ (own.map (·.2))) H' s' ∧ tn i s'.heap ∧ (∀ b ∈ fp, H' b = none) ∧ W i m H' := fun {s' H'} I' nx => by
        obtain ⟨m', hm, w'⟩ := hNx H' nx
        have pinned : ∀ b ∈ fp, ∀ o, sg.heap.get? b = some o → s'.heap.get? b = some o ∧ H' b = none := fun b hb o e =>
          let z := I'.pin (b, o) (List.mem_append_right _ (List.mem_append_right _ (mem_pinsAt hb e)))
          ⟨z.1, z.2.1⟩
        refine ⟨m', hm, i + 1, H', (I'.unpinned (pins := [])).weak (by rw [← hw, wipe_length]) (fun t v e => ?_), T.keep _ _ _ stg fun b hb o e => (pinned b hb o e).1, fun b hb => ?_, w'⟩
        · rw [← hw] at e
          exact (wipe_some e).1
        · obtain ⟨o, e, _⟩ := T.obj _ _ stg b hb
          exact (pinned b hb o e).2
      cases b with
      | false =>
        simp only [Bool.false_eq_true, if_false] at qi ⊢
        exact fin Ii qi
      | true =>
        simp only [if_true] at qi ⊢
        have out : ∀ (u : Value) (s' : Shared), XFk n (X.blk sc Hc scope ce fp) E u s' → notedBy (model X.prog X.w) X.A ce (fun e s'' => compPost (model X.prog X.w) X.A X.xe use Qf (.ref D) sc.heap.objs.size (.error e) s'') u s' :=
          fun u s' z => blk_out hs hf hex hx Ic fpX cF cL z
        refine wpAny_mono (pej.run _ si σh Hi _ (inv_xe (X := X.blk sc Hc scope ce fp) Ii) qi) (fun z sj hz => ?_) (fun u s' z => out u s' z)
        obtain ⟨yv, Hj, Ij, rj, acc, hDj, hzj, nx⟩ := hz
        exact app_ok (X := X.blk sc Hc scope ce fp) (inv_xe (X := X.blk sc Hc scope ce fp) Ij) hDj hzj rj fun sk Ik => fin Ik nx
  exact codeAny_compStart_list loop (T.self X.A 0 _ _ _ std loop)
theorem ps_setLcX {i : Nat} {y : Str} {py : Pos} (hs : X.stack = X.env :: X.outer) (hf : X.env.frame = some X.env.locals) (hex : X.ex = []) (hx : X.xe = fun e s' => wpAny (model X.prog X.w) X.A (leaving X.env e) (fun _ s'' => CXk X.prog X.w X.base n X.outer X.H_0 X.s_0 E e s'') E₁ s')
    (calm : X.calm = true) (nd : X.N.Nodup) (hy : X.N[i]? = some y) (hyl : X.env.scope.names.lookup y = some .local) (hsw : swapsWith (.ListComp elt [⟨.Name x px, iter, [], 0⟩] scope pos) (some (.Name y py)) spos.line X.env = pure true)
    (hi : PI X (.Name x px) iter wi) (ok : BlkOk X.N X.env.scope scope own) (hg : ∀ (s : Shared) (H : Hp) (C : Addr) (cl : List (Str × Addr)) (fp : List Addr), PG (X.blk s H scope (compEnvC scope cl C X.env) fp) (.Name x px) (gName j))
    (he : ∀ (s : Shared) (H : Hp) (C : Addr) (cl : List (Str × Addr)) (fp : List Addr), PE (blkX X n E s H scope (compEnvC scope cl C X.env) fp) elt te) (hfo : ∀ v, foldedSetIterable iter X.env v = pure v := by intro _; rfl) :
    PS X (.Assign [.Name y py] (.ListComp elt [⟨.Name x px, iter, [], 0⟩] scope pos) spos) (tAsg (tLc wi (gName j) tYes te (own.map (·.2))) (gName i)) := by
  refine ⟨fun pins s σ H D I h => ?_⟩
  rw [exec_Assign_Name_used _ _ _ _ hsw]
  refine wpAny_bind (wpAny_standAt (wpAny_bind ?_))
  show wpAny _ X.A (do let _ ← comprehension (.ListComp elt [⟨.Name x px, iter, [], 0⟩] scope pos) scope X.env (firstIterPos [⟨.Name x px, iter, [], 0⟩] pos) (newList []) false (eval iter X.env) (some (assign (.Name y py) X.env))) _ _ s
  have h2 : tLc wi (gName j) tYes te (own.map (·.2)) σ H (fun v H1 => gName i v σ H1 D.nx) := h
  refine wpAny_bind (thn (lcX_core (Qf := fun _ s' => SP X pins D .next s') hs hf hex hx calm nd I hi ok hg he hfo h2 fun L C s' m H' I' q hn f => ?_) fun _ s' hq => wpAny_pure (wpAny_pure hq))
  show wpAny _ _ (assign (.Name y py) X.env (.ref L)) _ _ _
  refine wpAny_assign_Name (store_ok2 (v := V.ref L) I' nd hy (.inl hyl) rfl (fun s2 I2 ⟨a, sb, ha⟩ => ?_) (.inr hyl))
  obtain ⟨f0, f1, f2, f3, f4, f5⟩ := f
  have aC : C ≠ a := by
    rcases ha with z | z
    · rw [z]; exact f1
    · exact fun e => f4 y a z e.symm
  exact ⟨m, hn.sameBut sb aC, fun h3 sb3 => ⟨_, H', I2.turned (t' := s2.toks) (fun b o hb e => (sb3.2 b hb).trans e) f0 f1 f3 f4 f5, q⟩⟩
end
end Q7
set_option maxHeartbeats 4000000
namespace Q7
open PySem PySem.Spec PyProof.Rows L2 SX
/-! ### taken_letters, taken_thing -/
/-- tuples stand -/
def TupK (H H' : Hp) : Prop := ∀ p ys, H p = some (.tup ys) → H' p = some (.tup ys)
theorem But.tupK {a C dx : Addr} {fs : List (Str × V)} {H H' : Hp} (b : But a H H') (ha : H a = some (.ins C dx fs)) : TupK H H' := fun p ys e => b p _ (ne_of e ha (by intro z; cases z)) e
theorem sameTup {H H' : Hp} (s : Same H H') : TupK H H' := fun p ys e => s p _ e
def LetV (H : Hp) (w : List Nat) (x : V) : Prop := (w = [63] ∧ x = .non) ∨ (w ≠ [63] ∧ ∃ p, x = .ref p ∧ H p = some (.tup ((lets w).map vS)))
theorem LetV.up {H H' : Hp} (t : TupK H H') {w : List Nat} {x : V} (h : LetV H w x) : LetV H' w x := h.imp id fun ⟨n, p, e, hp⟩ => ⟨n, p, e, t p _ hp⟩
inductive LetVs (H : Hp) : List (List Nat) → List V → Prop where
  | nil : LetVs H [] []
  | cons {w : List Nat} {x : V} {ws : List (List Nat)} {xs : List V} (h : LetV H w x) (r : LetVs H ws xs) : LetVs H (w :: ws) (x :: xs)
theorem LetVs.up {H H' : Hp} (t : TupK H H') : ∀ {ws : List (List Nat)} {xs : List V}, LetVs H ws xs → LetVs H' ws xs
  | _, _, .nil => .nil
  | _, _, .cons h r => .cons (h.up t) (r.up t)
theorem LetVs.snoc {H : Hp} {w : List Nat} {x : V} : ∀ {ws : List (List Nat)} {xs : List V}, LetVs H ws xs → LetV H w x → LetVs H (ws ++ [w]) (xs ++ [x])
  | _, _, .nil, h => .cons h .nil
  | _, _, .cons h' r, h => .cons h' (r.snoc h)
theorem LetVs.len {H : Hp} : ∀ {ws : List (List Nat)} {xs : List V}, LetVs H ws xs → xs.length = ws.length
  | _, _, .nil => rfl
  | _, _, .cons _ r => congrArg (· + 1) r.len
def AllOk (ws : List (List Nat)) (i j : Nat) : Prop := ∀ k, i ≤ k → k < j → (letOk ws k true).isSome = true
def spTLs (CT CW : Addr) : Sp := fun vs H Q E => ∃ (a dx L : Addr) (i : Nat) (ws : List (List Nat)), vs = [.ref a] ∧ Wd H CW a dx L i ws ∧
  (i < ws.length → AllOk ws i ws.length → ∀ H' T xs, But a H H' → Wd H' CW a dx L ws.length ws → H' T = some (.tup xs) → LetVs H' (ws.drop i) xs → Q (.ref T) H') ∧
  (∀ j, i ≤ j → (j < ws.length ∨ j = i) → letOk ws j true = none → AllOk ws i j → EW CT a E H j)
theorem letOk_cur {ws : List (List Nat)} {i : Nat} {cl : Bool} {w : List Nat} (h : letOk ws i cl = some w) : cur ws i = some w := by
  unfold letOk at h
  cases e : cur ws i with
  | none => rw [e] at h; cases h
  | some v =>
    rw [e] at h
    by_cases c : (wordOk v && (cl || !decide (v = [63]))) = true
    · simp only [c, if_true] at h
      exact h
    · simp only [if_neg c] at h
      cases h
section
variable {P : Program} {w : World} {K : PySem.W.Frag} {mg : Str → Option Value} {base : Heap} {f gL : Addr} {fd : FuncData} {CT CA CV CP fT fA fV fP CW CJ : Addr}
theorem ok_tletters (F : FnP K "taken_letters" "taken_letters" (top 31) [] f fd) (b : Binds K fd ["words"] []) (B : Blt mg) (cT : Nam (CXk P w base 1) P w K mg base 4 "taken_letter" (spTL CT CW)) (cLc : LenC K CW gL) (cL : FnR P w K mg base CX0 1 gL (spLen CW)) : FnR P w K mg base (CXk P w base 1) 5 f (spTLs CT CW) := by
  have sc : FnScope ["words", "found"] ["words"] (defScope (top 31)) := sc_by (by decide +kernel)
  have nd := sc.nd
  refine fnp0 F b sc (fun vs H Q E h => ?_) fun cdv A outer s H vs Q E hr h => ⟨_,
    (pss_cons (ps_set (i := 1) nd rfl (Or.inl rfl) (pe_lst (pa_cons (pe_nam cT hr (by decide) rfl (passU (takesK_of rfl rfl rfl rfl) (Nat.le_refl 1)) (pa_cons (pv 0) (pa_cons pe_bl pa_nil))) pa_nil)))
    (pss_cons (ps_while (passes_of rfl) (pt_cmpR op_gt (pe_callB (call_lenOwn cLc cL (hr.mono (by decide))) rfl (B.g "len") boot_len (pa_cons (pv 0) pa_nil)) pe_int (nomark _))
      (pss_one (ps_expr (pe_bm PySem.F.plainAttrs_list PySem.F.slot_list_append PySem.F.type_list_append mt_append (pv 1) (pa_cons (pe_nam cT hr (by decide) rfl (passU (takesK_of rfl rfl rfl rfl) (Nat.le_refl 1)) (pa_cons (pv 0) (pa_cons pe_bl pa_nil))) pa_nil)))))
    (pss_one (ps_ret (pe_callTy call_tuple_of rfl (B.g "tuple") boot_tuple (pa_cons (pv 1) pa_nil)))))), ?_⟩
  · obtain ⟨a, dx, L, i, ws, rfl, _⟩ := h
    rfl
  obtain ⟨a, dx, L, i, ws, rfl, d, qy, qn⟩ := h
  -- one letter taken, at any place
  have e62 : sizeLine ≤ 2 ^ 62 := by decide +kernel
  have one : ∀ (Hc : Hp) (i' : Nat) (Kt : VK), But a H Hc → Wd Hc CW a dx L i' ws → i ≤ i' → (i' < ws.length ∨ i' = i) → AllOk ws i i' → (∀ w1 x H', letOk ws i' true = some w1 → But a Hc H' → Wd H' CW a dx L (i' + 1) ws → LetV H' w1 x → Kt x H') → spTL CT CW [.ref a, .bl true] Hc Kt E := by
    intro Hc i' Kt b0 d0 le lt0 ok hK
    refine ⟨a, dx, L, i', ws, true, rfl, d0, fun w1 e1 => ⟨fun hq H' b' d' => hK w1 _ H' e1 b' d' (.inl ⟨hq, rfl⟩), fun hq H' p b' d' hp => hK w1 _ H' e1 b' d' (.inr ⟨hq, p, rfl, hp⟩)⟩, fun e1 => (qn i' le lt0 e1 ok).but b0⟩
  have ok0 : AllOk ws i i := fun k h1 h2 => absurd h1 (by omega)
  refine ⟨_, rfl, ?_⟩
  dsimp only [tCons, tC, tNil, WE]
  refine one H i _ (But.refl _ _) d (Nat.le_refl _) (.inr rfl) ok0 fun w1 x1 H1 e1 b1 d1 v1 => ⟨(by show 1 ≤ sizeLine; decide), fun F1 nF => ?_⟩
  have lt := (cur_lt (letOk_cur e1)).1
  have nFa : F1 ≠ a := fun z => by rw [z, d1.ob] at nF; cases nF
  have sF : Same H1 (upd H1 F1 (.lst [x1])) := same_upd nF
  have hF : (upd H1 F1 (.lst [x1])) F1 = some (.lst [x1]) := upd_same
  have nF0 : H F1 = none := by
    cases z : H F1 with
    | none => rfl
    | some o =>
      have := b1 F1 o nFa z
      rw [nF] at this
      cases this
  have hdrop : (ws.take (i + 1)).drop i = [w1] := by
    rw [List.take_succ, List.drop_append_of_le_length (by rw [List.length_take]; omega), List.drop_of_length_le (by rw [List.length_take]; omega), (cur_lt (letOk_cur e1)).2.1]
    rfl
  refine ⟨fun m σ Hc => ∃ (i' : Nat) (xs : List V), m = ws.length - i' ∧ σ = [some (.ref a), some (.ref F1)] ∧ (But a H Hc ∧ Wd Hc CW a dx L i' ws) ∧ Hc F1 = some (.lst xs) ∧ LetVs Hc ((ws.take i').drop i) xs ∧ i < i' ∧ AllOk ws i i',
    ⟨_, i + 1, [x1], rfl, rfl, ⟨b1.trans (But.of sF), d1.same sF⟩, hF, by rw [hdrop]; exact .cons (v1.up (sameTup sF)) .nil, by omega, fun k h1 h2 => by
      have : k = i := by omega
      rw [this, e1]
      rfl⟩, ?_⟩
  rintro m σ Hc ⟨i', xs, rfl, rfl, ⟨bc, dc⟩, hFc, vc, lti, okc⟩
  have hn := dc.n
  refine ⟨_, rfl, a, dx, _, rfl, dc.ob, a, dx, L, i', ws, rfl, dc, fun Hd sd => ⟨_, rfl, by omega, _, _, rfl, rfl, _, rfl, ?_⟩⟩
  have dd := dc.same sd
  have bd := bc.trans (But.of sd)
  have hFd := sd _ _ hFc
  have vd := vc.up (sameTup sd)
  refine ite2 (fun c => ?_) (fun c => ?_)
  · have hi : i' < ws.length := by
      have : (0 : Int) < ((ws.length - i' : Nat) : Int) := of_decide_eq_true c
      omega
    refine ⟨_, fun _ _ z => z, ?_⟩
    refine ⟨_, rfl, .inl ⟨rfl, _, SqL.of hFd⟩, _, rfl, ?_⟩
    dsimp only [tCons, tC, tNil, WE]
    refine one Hd i' _ bd dd (by omega) (.inl hi) okc fun w2 x2 H2 e2 b2 d2 v2 => ?_
    have hF2 := b2 F1 _ nFa hFd
    have hw2 := (cur_lt (letOk_cur e2)).2.1
    have lx := vd.len
    have nd2 : H2 F1 = some (.lst xs) := hF2
    have step : (ws.take (i' + 1)).drop i = (ws.take i').drop i ++ [w2] := by
      rw [List.take_succ, List.drop_append_of_le_length (by rw [List.length_take]; omega), hw2]
      rfl
    have tk2 : TupK H2 (upd H2 F1 (.lst (xs ++ [x2]))) := fun p ys e => by rw [upd_ne (ne_of e hF2 (by intro z; cases z))]; exact e
    refine ⟨F1, xs, x2, rfl, rfl, hF2, ?_, ws.length - (i' + 1), by omega, i' + 1, xs ++ [x2], rfl, rfl, ⟨fun q o nq e => ?_, ?_⟩, upd_same, ?_, by omega, fun k h1 h2 => ?_⟩
    · rw [lx, List.length_drop, List.length_take]
      omega
    · rw [upd_ne (fun z => by rw [z, nF0] at e; cases e)]
      exact (bd.trans b2) q o nq e
    · have nLF : L ≠ F1 := fun z => by
        have y := d.ls
        rw [z, nF0] at y
        cases y
      exact ⟨by rw [upd_ne (Ne.symm nFa)]; exact d2.ob, by rw [upd_ne nLF]; exact d2.ls, d2.le, d2.sz, d2.ac, d2.n⟩
    · rw [step]
      exact ((vd.up (b2.tupK dd.ob)).up tk2).snoc (v2.up tk2)
    · by_cases hk : k < i'
      · exact okc k h1 hk
      · have : k = i' := by omega
        rw [this, e2]
        rfl
  · have hi : i' = ws.length := by
      have : ¬ ((0 : Int) < ((ws.length - i' : Nat) : Int)) := fun z => c (decide_eq_true z)
      have := dd.le
      omega
    subst hi
    rw [List.take_length] at vd
    refine ⟨_, rfl, F1, xs, rfl, .inl ⟨SqL.of hFd, fun T nT => ?_⟩⟩
    exact qy (by omega) okc _ T xs (bd.trans (But.of (same_upd nT))) (dd.same (same_upd nT)) upd_same (vd.up (sameTup (same_upd nT)))
end
end Q7
set_option maxHeartbeats 4000000
namespace Q7
open PySem PySem.Spec PyProof.Rows L2 SX
/-! ### taken_thing, row_parts -/
def nm (s : String) : List Nat := s.toList.map Char.toNat
theorem nmS (s : String) : Str.ofString s = S (nm s) := TL.ext_tl (TL.tl_ofString s)
inductive Kd where
  | letters
  | look
  | number
deriving DecidableEq
def Kd.nm : Kd → List Nat
  | .letters => Q7.nm "letters"
  | .look => Q7.nm "look"
  | .number => Q7.nm "number"
def big : Int := 10 ^ 60 - 1
def names : List (List Nat) := ["jumble", "open", "take", "change", "undo", "redo", "begin", "keep", "drop", "told", "span", "need", "forced", "looks", "alike", "next"].map nm
def isJ (n : List Nat) : Bool := decide (n = nm "jumble") || decide (n = nm "change")
def thingsOf (n : List Nat) : List Kd := if n = nm "take" then [.letters] else if n = nm "looks" then [.number] else if n = nm "alike" then [.number, .number] else if n = nm "next" then [.look, .number] else []
/-- the first letter at or behind i that isn't one -/
def badL (ws : List (List Nat)) : Nat → Nat → Option Nat
  | _, 0 => none
  | i, m + 1 => if (letOk ws i true).isNone = true then some i else badL ws (i + 1) m
/-- behind a thing of the kind k at i: the next place, or the word refused -/
def adv (ws : List (List Nat)) (k : Kd) (i : Nat) : Sum Nat Nat := match k with
  | .look => if (letOk ws i false).isSome = true then .inr (i + 1) else .inl i
  | .number => if (num ws i 0 big).isSome = true then .inr (i + 1) else .inl i
  | .letters => if ws.length ≤ i then .inl i else match badL ws i (ws.length - i) with
    | some j => .inl j
    | none => .inr ws.length
def advs (ws : List (List Nat)) : List Kd → Nat → Sum Nat Nat
  | [], i => .inr i
  | k :: ks, i => match adv ws k i with
    | .inl j => .inl j
    | .inr j => advs ws ks j
def ThV (H : Hp) (ws : List (List Nat)) (k : Kd) (i : Nat) (x : V) : Prop := match k with
  | .letters => ∃ T xs, x = .ref T ∧ H T = some (.tup xs) ∧ LetVs H (ws.drop i) xs
  | .look => ∃ w, ws[i]? = some w ∧ w ≠ [63] ∧ LetV H w x
  | .number => ∃ n, num ws i 0 big = some n ∧ x = .int n
inductive ThVs (H : Hp) (ws : List (List Nat)) : List Kd → Nat → Nat → List V → Prop where
  | nil (i : Nat) : ThVs H ws [] i i []
  | cons {k : Kd} {ks : List Kd} {i j m : Nat} {x : V} {xs : List V} (h : ThV H ws k i x) (a : adv ws k i = .inr j) (r : ThVs H ws ks j m xs) : ThVs H ws (k :: ks) i m (x :: xs)
theorem ThV.up {H H' : Hp} (t : TupK H H') {ws : List (List Nat)} {k : Kd} {i : Nat} {x : V} (h : ThV H ws k i x) : ThV H' ws k i x := by
  cases k with
  | letters =>
    obtain ⟨T, xs, e, hT, v⟩ := h
    exact ⟨T, xs, e, t _ _ hT, v.up t⟩
  | look =>
    obtain ⟨w, h1, h2, v⟩ := h
    exact ⟨w, h1, h2, v.up t⟩
  | number => exact h
theorem ThVs.up {H H' : Hp} (t : TupK H H') {ws : List (List Nat)} : ∀ {ks : List Kd} {i m : Nat} {xs : List V}, ThVs H ws ks i m xs → ThVs H' ws ks i m xs
  | _, _, _, _, .nil i => .nil i
  | _, _, _, _, .cons h a r => .cons (h.up t) a (r.up t)
theorem ThVs.snoc {H : Hp} {ws : List (List Nat)} {k : Kd} {m j : Nat} {x : V} : ∀ {ks : List Kd} {i : Nat} {xs : List V}, ThVs H ws ks i m xs → ThV H ws k m x → adv ws k m = .inr j → ThVs H ws (ks ++ [k]) i j (xs ++ [x])
  | _, _, _, .nil i, h, a => .cons h a (.nil j)
  | _, _, _, .cons h' a' r, h, a => .cons h' a' (r.snoc h a)
theorem ThVs.len {H : Hp} {ws : List (List Nat)} : ∀ {ks : List Kd} {i m : Nat} {xs : List V}, ThVs H ws ks i m xs → xs.length = ks.length
  | _, _, _, _, .nil i => rfl
  | _, _, _, _, .cons _ _ r => congrArg (· + 1) r.len
theorem advs_thvs {H : Hp} {ws : List (List Nat)} : ∀ {ks : List Kd} {i m : Nat} {xs : List V}, ThVs H ws ks i m xs → ∀ rest, advs ws (ks ++ rest) i = advs ws rest m
  | _, _, _, _, .nil i, rest => rfl
  | _, _, _, _, .cons h a r, rest => by
    rw [List.cons_append, advs, a]
    exact advs_thvs r rest
theorem badL_some {ws : List (List Nat)} : ∀ (m i j : Nat), badL ws i m = some j → i ≤ j ∧ letOk ws j true = none ∧ AllOk ws i j
  | 0, i, j, h => by cases h
  | m + 1, i, j, h => by
    rw [badL] at h
    by_cases c : (letOk ws i true).isNone = true
    · rw [if_pos c] at h
      obtain rfl := Option.some.inj h
      exact ⟨Nat.le_refl _, Option.isNone_iff_eq_none.mp c, fun k h1 h2 => absurd h1 (by omega)⟩
    · rw [if_neg c] at h
      obtain ⟨h1, h2, h3⟩ := badL_some m (i + 1) j h
      refine ⟨by omega, h2, fun k a b => ?_⟩
      by_cases e : k = i
      · rw [e]
        cases z : letOk ws i true with
        | some _ => rfl
        | none => rw [z] at c; exact absurd rfl c
      · exact h3 k (by omega) b
theorem badL_none {ws : List (List Nat)} : ∀ (m i : Nat), badL ws i m = none → AllOk ws i (i + m)
  | 0, i, _ => fun k a b => absurd a (by omega)
  | m + 1, i, h => by
    rw [badL] at h
    by_cases c : (letOk ws i true).isNone = true
    · rw [if_pos c] at h
      cases h
    · rw [if_neg c] at h
      have h3 := badL_none m (i + 1) h
      intro k a b
      by_cases e : k = i
      · rw [e]
        cases z : letOk ws i true with
        | some _ => rfl
        | none => rw [z] at c; exact absurd rfl c
      · exact h3 k (by omega) (by omega)
theorem letOk_lt {ws : List (List Nat)} {i : Nat} {cl : Bool} {w : List Nat} (h : letOk ws i cl = some w) : i < ws.length ∧ ws[i]? = some w := ⟨(cur_lt (letOk_cur h)).1, (cur_lt (letOk_cur h)).2.1⟩
def spTT (CT CW : Addr) : Sp := fun vs H Q E => ∃ (a dx L : Addr) (i : Nat) (ws : List (List Nat)) (k : Kd), vs = [.ref a, .str (S k.nm)] ∧ Wd H CW a dx L i ws ∧
  (∀ j, adv ws k i = .inr j → ∀ x H', But a H H' → Wd H' CW a dx L j ws → ThV H' ws k i x → Q x H') ∧ (∀ j, adv ws k i = .inl j → EW CT a E H j)
theorem num_cur {ws : List (List Nat)} {i : Nat} {lo hi : Int} (h : num ws i lo hi = none) : ∀ w, cur ws i = some w → numB w lo hi = false := fun w e => by
  cases z : numB w lo hi with
  | false => rfl
  | true => rw [num_yes e z] at h; cases h
section
variable {P : Program} {w : World} {K : PySem.W.Frag} {mg : Str → Option Value} {base : Heap} {f : Addr} {fd : FuncData} {CT CA CV CP fT fA fV fP CW CJ : Addr}
theorem ok_tthing (F : FnP K "taken_thing" "taken_thing" (top 32) [] f fd) (b : Binds K fd ["words", "kind"] []) (cLs : Nam (CXk P w base 1) P w K mg base 5 "taken_letters" (spTLs CT CW)) (cT : Nam (CXk P w base 1) P w K mg base 4 "taken_letter" (spTL CT CW))
    (cIn : Mth (CXk P w base 0) P w K mg base 3 CW "integer" (spInteger CT CW)) (g : ∃ u, mg "MOST_NUMBER" = some u ∧ RelV (.int big) u) : FnR P w K mg base (CXk P w base 1) 6 f (spTT CT CW) := by
  have sc : FnScope ["words", "kind"] ["words", "kind"] (defScope (top 32)) := sc_by (by decide +kernel)
  have nd := sc.nd
  refine fnp0 F b sc (fun vs H Q E h => ?_) fun cdv A outer s H vs Q E hr h => ⟨_,
    (pss_cons (ps_if (pt_cmpR op_eq (pv 1) pe_str (nomark _)) (pss_one (ps_ret (pe_nam cLs hr (by decide) rfl (passU (takesK_of rfl rfl rfl rfl) (Nat.le_refl 1)) (pa_cons (pv 0) pa_nil)))) pss_nil)
    (pss_cons (ps_if (pt_cmpR op_eq (pv 1) pe_str (nomark _)) (pss_one (ps_ret (pe_nam cT hr (by decide) rfl (passU (takesK_of rfl rfl rfl rfl) (Nat.le_refl 1)) (pa_cons (pv 0) (pa_cons pe_bl pa_nil))))) pss_nil)
    (pss_one (ps_ret (pe_mth cIn hr (by decide) (passU (takesK_of rfl rfl rfl rfl) (Nat.zero_le 1)) (pv 0) (pa_cons pe_int (pa_cons (C8.pe_gc rfl g) pa_nil))))))), ?_⟩
  · obtain ⟨a, dx, L, i, ws, k, rfl, _⟩ := h
    rfl
  obtain ⟨a, dx, L, i, ws, k, rfl, d, qy, qn⟩ := h
  have dk : ∀ z : String, decide (V.str (S k.nm) = V.str (Str.ofString z)) = decide (k.nm = nm z) := fun z => by rw [nmS]; exact dec_S
  refine ⟨_, rfl, rfl, _, rfl, ?_⟩
  rw [dk]
  cases k with
  | letters =>
    rw [decide_eq_true (show Kd.letters.nm = nm "letters" from rfl)]
    refine iteT ⟨_, rfl, a, dx, L, i, ws, rfl, d, fun lt ok H' T xs b' d' hT v => qy ws.length ?_ _ H' b' d' ⟨T, xs, rfl, hT, v⟩, fun j le jlt hj ok => qn j ?_⟩
    · show (if ws.length ≤ i then Sum.inl i else match badL ws i (ws.length - i) with | some j => Sum.inl j | none => Sum.inr ws.length) = _
      rw [if_neg (show ¬ ws.length ≤ i by omega)]
      cases z : badL ws i (ws.length - i) with
      | none => rfl
      | some j =>
        obtain ⟨h1, h2, h3⟩ := badL_some _ _ _ z
        by_cases hj : j < ws.length
        · have := ok j h1 hj
          rw [h2] at this
          cases this
        · exfalso
          have : ∀ m i, badL ws i m = some j → j < i + m := by
            intro m
            induction m with
            | zero => intro i h; cases h
            | succ m ih =>
              intro i h
              rw [badL] at h
              by_cases c : (letOk ws i true).isNone = true
              · rw [if_pos c] at h
                obtain rfl := Option.some.inj h
                omega
              · rw [if_neg c] at h
                have := ih (i + 1) h
                omega
          have := this _ _ z
          omega
    · show (if ws.length ≤ i then Sum.inl i else match badL ws i (ws.length - i) with | some j => Sum.inl j | none => Sum.inr ws.length) = _
      by_cases c : ws.length ≤ i
      · rw [if_pos c]
        have : j = i := by omega
        rw [this]
      · rw [if_neg c]
        have jl : j < ws.length := by omega
        cases z : badL ws i (ws.length - i) with
        | none =>
          have := badL_none _ _ z j le (by omega)
          rw [hj] at this
          cases this
        | some j2 =>
          obtain ⟨h1, h2, h3⟩ := badL_some _ _ _ z
          have : j2 = j := by
            rcases Nat.lt_trichotomy j2 j with q | q | q
            · have := ok j2 h1 q
              rw [h2] at this
              cases this
            · exact q
            · have := h3 j le q
              rw [hj] at this
              cases this
          rw [this]
  | look =>
    rw [decide_eq_false (show ¬ Kd.look.nm = nm "letters" from by decide)]
    refine iteF ⟨_, rfl, rfl, _, rfl, ?_⟩
    rw [dk, decide_eq_true (show Kd.look.nm = nm "look" from rfl)]
    refine iteT ⟨_, rfl, a, dx, L, i, ws, false, rfl, d, fun w1 e1 => ⟨fun hq => ?_, fun hq H' p b' d' hp => qy (i + 1) (by unfold adv; rw [e1]; rfl) _ H' b' d' ⟨w1, (letOk_lt e1).2, hq, .inr ⟨hq, p, rfl, hp⟩⟩⟩, fun e1 => qn i (by unfold adv; rw [e1]; rfl)⟩
    exfalso
    subst hq
    have hc := letOk_cur e1
    rw [letOk_no hc (by decide)] at e1
    cases e1
  | number =>
    rw [decide_eq_false (show ¬ Kd.number.nm = nm "letters" from by decide)]
    refine iteF ⟨_, rfl, rfl, _, rfl, ?_⟩
    rw [dk, decide_eq_false (show ¬ Kd.number.nm = nm "look" from by decide)]
    refine iteF ⟨_, rfl, a, dx, _, rfl, d.ob, rfl, a, dx, L, i, ws, 0, big, rfl, d, ⟨by decide, by decide +kernel, by decide +kernel⟩, fun w1 e1 n1 H' b' d' => ?_, fun hno => qn i ?_⟩
    · exact qy (i + 1) (by unfold adv; rw [num_yes e1 n1]; rfl) _ H' b' d' ⟨val w1, num_yes e1 n1, rfl⟩
    · unfold adv
      rw [num_no hno]
      rfl
end
end Q7
set_option maxHeartbeats 4000000
namespace Q7
open PySem PySem.Spec PyProof.Rows L2 SX
/-! ### row_parts -/
def KT (K : PySem.W.Frag) (a : Addr) (xs : List V) : Prop := ∃ (o : Obj) (its : Array Value) (n : Nat), K.lookup a = some o ∧ o.cls = .type "tuple" ∧ o.data = .seq its n ∧ its.size ≤ sizeLine ∧ Vals xs its.toList
theorem KT.sq {K : PySem.W.Frag} {H : Hp} {a : Addr} {xs : List V} (h : KT K a xs) : SqT K H a xs := .inr h
def thgS (n : List Nat) : List (List Nat) := if isJ n = true then [nm "jumble"] else (thingsOf n).map Kd.nm
structure Thg (K : PySem.W.Frag) (w : World) (mg : Str → Option Value) (D N : Addr) : Prop where
  gD : mg "THINGS" = some (.ref D)
  at_ : ∀ n ∈ names, ∃ T, KDct K w D (S n) (.ref T) ∧ KT K T ((thgS n).map vS)
  gN : mg "NAMES" = some (.ref N)
  ns : KT K N (names.map vS)
theorem shapedT_strs {ls : List (List Nat)} (h : ∀ l ∈ ls, asc l) : SeqAt.shaped (.tuple (ls.map dS)) = true := by
  show (PyData.canLayAll0 (ls.map dS) && decide (PyData.depthAll (ls.map dS) + 1 ≤ 64)) = true
  rw [lay_strs h, depth_strs]
  rfl
theorem eqT {K : PySem.W.Frag} {H : Hp} {a b : Addr} {ls ms : List (List Nat)} {Q : VK} (ha : SqT K H a (ls.map vS)) (hb : SqT K H b (ms.map vS)) (h1 : ∀ l ∈ ls, asc l) (h2 : ∀ l ∈ ms, asc l) (q : Q (.bl (decide (ls = ms))) H) : rEqD K (.ref a) (.ref b) H Q := by
  refine ⟨_, _, .tup ha (dp_strs ls), .tup hb (dp_strs ms), shapedT_strs h1, shapedT_strs h2, ?_⟩
  have e : PyData.eqv (.tuple (ls.map dS)) (.tuple (ms.map dS)) = decide (ls = ms) := by rw [PyData.eqv, eqv_strs]
  rw [e]
  exact q
theorem names_ok : ∀ n ∈ names, okW n = true := by decide
theorem thgS_asc : ∀ n ∈ names, ∀ l ∈ thgS n, asc l := by
  have h : ∀ n ∈ names, ∀ l ∈ thgS n, l.all (· < 128) = true := by decide
  intro n hn l hl c hc
  exact of_decide_eq_true (List.all_eq_true.mp (h n hn l hl) c hc)
theorem thgS_jum : ∀ n ∈ names, decide (thgS n = [nm "jumble"]) = isJ n := by decide
theorem ascJ : ∀ l ∈ [nm "jumble"], asc l := by
  have h : ∀ l ∈ [nm "jumble"], l.all (· < 128) = true := by decide
  intro l hl c hc
  exact of_decide_eq_true (List.all_eq_true.mp (h l hl) c hc)
def spRP (CT CW CJ : Addr) : Sp := fun vs H Q E => ∃ (a dx L : Addr) (t n : List Nat), vs = [.ref a, .str (S t)] ∧ Wd H CW a dx L 0 (words t) ∧ (t.length + 2 ≤ sizeLine ∧ asc t) ∧ (words t)[0]? = some n ∧
  (n ∉ names → EW CT a E H 0) ∧
  (n ∈ names → isJ n = true → (∀ js, jhead (words t) 1 = .inr js → ∀ T x dy H', But a H H' → H' T = some (.tup [vS n, .ref x]) → H' x = some (.ins CJ dy (jFs js.e js.l js.lo js.ag js.ap)) → Q (.ref T) H') ∧ (∀ i, jhead (words t) 1 = .inl i → EW CT a E H i)) ∧
  (n ∈ names → isJ n = false → (∀ j, advs (words t) (thingsOf n) 1 = .inl j → EW CT a E H j) ∧ (∀ j, advs (words t) (thingsOf n) 1 = .inr j → j < (words t).length → EW CT a E H j) ∧
    (advs (words t) (thingsOf n) 1 = .inr (words t).length → ∀ T xs H', But a H H' → H' T = some (.tup (vS n :: xs)) → ThVs H' (words t) (thingsOf n) 1 (words t).length xs → Q (.ref T) H'))
section
variable {P : Program} {w : World} {K : PySem.W.Frag} {mg : Str → Option Value} {base : Heap} {f D N : Addr} {fd : FuncData} {CT CA CV CP fT fA fV fP CW CJ : Addr}
theorem ok_rowparts (F : FnP K "row_parts" "row_parts" (top 33) [] f fd) (b : Binds K fd ["words", "text"] []) (T : Thg K w mg D N) (cNm : Mth (CXk P w base 0) P w K mg base 4 CW "name" (spNameS CT CW)) (cTJ : Nam (CXk P w base 1) P w K mg base 6 "taken_jumble" (spTJ CT CW CJ))
    (cTT : Nam (CXk P w base 1) P w K mg base 6 "taken_thing" (spTT CT CW)) (cD : Mth (CXk P w base 0) P w K mg base 2 CW "done" (spDone CT CW)) : FnR P w K mg base (CXk P w base 1) 7 f (spRP CT CW CJ) := by
  have sc : FnScope ["words", "text", "name", "found", "kind"] ["words", "text"] (defScope (top 33)) := sc_by (by decide +kernel)
  have nd := sc.nd
  refine fnp0 F b sc (fun vs H Q E h => ?_) fun cdv A outer s H vs Q E hr h => ⟨_,
    (pss_cons (ps_set (i := 2) nd rfl (Or.inl rfl) (pe_mthS cNm hr (by decide) (passU (takesK_of rfl rfl rfl rfl) (Nat.zero_le 1)) (pv 0) (pe_glob (v := .ref N) rfl T.gN rfl)))
    (pss_cons (ps_if (pt_cmpR (op_eqD hr.units) (pe_ix ix_kdict (pe_glob (v := .ref D) rfl T.gD rfl) (pv 2) (fun _ _ => rfl)) (pe_tup (pa_cons pe_str pa_nil)) (nomark _)) (pss_one (ps_ret (pe_tup (pa_cons (pv 2) (pa_cons (pe_nam cTJ hr (by decide) rfl (passU (takesK_of rfl rfl rfl rfl) (Nat.le_refl 1)) (pa_cons (pv 0) (pa_cons (pv 1) pa_nil))) pa_nil))))) pss_nil)
    (pss_cons (ps_setLcX (n := 1) (E := E) (i := 3) (j := 4) (own := [("kind", 4)]) rfl rfl rfl rfl rfl nd rfl rfl (sw_true rfl rfl rfl (by decide +kernel)) (pi_tup (pe_ix ix_kdict (pe_glob (v := .ref D) rfl T.gD rfl) (pv 2) (fun _ _ => rfl))) (blkOk_by (own := [("kind", 4)]) (N := ["words", "text", "name", "found", "kind"]) (sc := defScope (top 33)) (by decide +kernel)) (fun _ _ _ _ _ => pg_name (i := 4) nd rfl (Or.inl rfl))
        (fun _ _ _ _ _ => pe_nam cTT hr (by decide) rfl (passB (Nat.le_refl 1)) (pa_cons (pv 0) (pa_cons (pv 4) pa_nil))))
    (pss_cons (ps_expr (pe_mth0 cD hr (by decide) (passU (takesK_of rfl rfl rfl rfl) (Nat.zero_le 1)) (pv 0)))
    (pss_one (ps_ret (pe_tup (pa_cons (pv 2) (StX.pa_star (pv 3) pa_nil))))))))), ?_⟩
  · obtain ⟨a, dx, L, t, n, rfl, _⟩ := h
    rfl
  obtain ⟨a, dx, L, t, n, rfl, d, ⟨ht, ha⟩, hn0, q0, qj, qk⟩ := h
  refine ⟨_, rfl, a, dx, _, rfl, d.ob, rfl, fun q g hq => ⟨N, names.map vS, rfl, .inl T.ns.sq, upd_same, a, dx, L, 0, words t, names, rfl, by decide, d.same (same_upd hq), fun w1 e1 m1 H1 b1 d1 => ?_, fun hno => (q0 fun m => hno n (cur_of hn0 (names_ok n m)) m).but (But.of (same_upd hq))⟩⟩
  have ew : w1 = n := by
    have := (cur_lt e1).2.1
    rw [hn0] at this
    exact (Option.some.inj this).symm
  subst ew
  have b01 : But a H H1 := (But.of (same_upd hq)).trans b1
  obtain ⟨Tz, hk, hT⟩ := T.at_ w1 m1
  refine ⟨_, rfl, D, S w1, .ref Tz, rfl, rfl, hk, (by show 1 ≤ sizeLine; decide), fun P1 nP => ?_⟩
  have hP : (upd H1 P1 (.tup [.str "jumble"])) P1 = some (.tup ([nm "jumble"].map vS)) := by
    rw [upd_same, nmS]
    rfl
  have s12 : Same H1 (upd H1 P1 (.tup [.str "jumble"])) := same_upd nP
  generalize upd H1 P1 (.tup [.str "jumble"]) = H2 at hP s12 ⊢
  have d2 := d1.same s12
  have b02 := b01.trans (But.of s12)
  refine eqT hT.sq (SqT.of hP) (thgS_asc w1 m1) ascJ ⟨_, rfl, ?_⟩
  rw [thgS_jum w1 m1]
  have hlen : 1 ≤ (words t).length := (List.getElem?_eq_some_iff.mp hn0).1
  refine ite2 (fun c => ?_) (fun c => ?_)
  · -- a jumble
    obtain ⟨qa, qb⟩ := qj m1 c
    refine ⟨_, rfl, _, rfl, _, rfl, a, dx, L, 0 + 1, t, rfl, d2, ⟨ht, ha⟩, fun e => (qb 1 ?_).but b02, fun lt => ⟨fun js hj x dy H3 s3 hx => ⟨(by show 2 ≤ sizeLine; decide), fun P2 nP2 => ?_⟩, fun k hk2 => ?_⟩⟩
    · unfold jhead
      rw [if_neg]
      rw [List.getElem?_eq_none (by omega)]
      intro z
      cases z
    · have hsh := jhead_shift hlen
      rw [show (0 + 1) = 1 from rfl] at hj
      rw [hj] at hsh
      exact qa js hsh.symm P2 x dy _ (b02.trans ((But.of s3).trans (But.of (same_upd nP2)))) upd_same ((same_upd nP2) _ _ hx)
    · have hsh := jhead_shift hlen
      rw [show (0 + 1) = 1 from rfl] at hk2
      rw [hk2] at hsh
      exact (qb (1 + k) hsh.symm).but b02
  · have cf : isJ w1 = false := Bool.eq_false_iff.mpr c
    obtain ⟨qa, qb, qc⟩ := qk m1 cf
    have eth : thgS w1 = (thingsOf w1).map Kd.nm := by
      unfold thgS
      rw [if_neg c]
    rw [eth] at hT
    have htl : (thingsOf w1).length ≤ 2 := by
      have : ∀ n ∈ names, (thingsOf n).length ≤ 2 := by decide
      exact this w1 m1
    have hml : (((thingsOf w1).map Kd.nm).map vS).length = (thingsOf w1).length := by rw [List.length_map, List.length_map]
    refine ⟨_, rfl, D, S w1, .ref Tz, rfl, rfl, hk, Tz, rfl, ⟨_, hT.sq⟩, fun R nR => ?_⟩
    have sR : Same H2 (upd H2 R (.lst [])) := same_upd nR
    have nRa : R ≠ a := fun z => by rw [z, d2.ob] at nR; cases nR
    have nR0 : H R = none := by
      cases z : H R with
      | none => rfl
      | some o =>
        have := b02 R o nRa z
        rw [nR] at this
        cases this
    refine lc_it walk_tup (fun i H' => But a H2 H' ∧ ∃ m xs, Wd H' CW a dx L m (words t) ∧ H' R = some (.lst xs) ∧ ThVs H' (words t) ((thingsOf w1).take i) 1 m xs) ⟨But.of sR, 0 + 1, [], d2.same sR, upd_same, .nil 1⟩ (fun i H' _ _ => hT.sq) (fun i x H' H'' hi p y => ?_) (fun H' p => ?_)
    · obtain ⟨rfl, hx⟩ := y
      obtain ⟨b', m, xs, d', hR, th⟩ := p
      rw [List.map_map, List.getElem?_map] at hx
      cases ek : (thingsOf w1)[i]? with
      | none => rw [ek] at hx; cases hx
      | some k =>
        rw [ek] at hx
        obtain rfl : vS k.nm = x := Option.some.inj hx
        have hsplit : thingsOf w1 = (thingsOf w1).take i ++ k :: (thingsOf w1).drop (i + 1) := by
          have h1 := List.getElem?_eq_some_iff.mp ek
          conv => lhs; rw [← List.take_append_drop i (thingsOf w1)]
          rw [List.drop_eq_getElem_cons h1.1, h1.2]
        have hadv : advs (words t) (thingsOf w1) 1 = advs (words t) (k :: (thingsOf w1).drop (i + 1)) m := by
          conv => lhs; rw [hsplit]
          exact advs_thvs th _
        refine ⟨rfl, ?_⟩
        unfold tYes
        dsimp only
        rw [if_pos rfl]
        refine ⟨_, rfl, _, rfl, a, dx, L, m, words t, k, rfl, d', fun j hj y3 H3 b3 d3 th3 => ?_, fun j hj => ?_⟩
        · have hR3 := b3 R _ nRa hR
          have lx := th.len
          have tup3 : TupK H'' H3 := b3.tupK d'.ob
          have tup4 : TupK H3 (upd H3 R (.lst (xs ++ [y3]))) := fun p ys e => by rw [upd_ne (ne_of e hR3 (by intro z; cases z))]; exact e
          have nLR : L ≠ R := fun z => by
            have y := d.ls
            rw [z, nR0] at y
            cases y
          refine ⟨xs, hR3, ?_, fun q o nq e => ?_, j, xs ++ [y3], ⟨by rw [upd_ne (Ne.symm nRa)]; exact d3.ob, by rw [upd_ne nLR]; exact d3.ls, d3.le, d3.sz, d3.ac, d3.n⟩, upd_same, ?_⟩
          · rw [lx, List.length_take]
            have : (2 : Nat) < sizeLine := by decide
            omega
          · rw [upd_ne (fun z => by rw [z, nR] at e; cases e)]
            exact (b'.trans b3) q o nq e
          · rw [List.take_succ, ek]
            exact ((th.up tup3).up tup4).snoc (th3.up tup4) hj
        · refine (qa j ?_).but (b02.trans b')
          rw [hadv, advs, hj]
    · obtain ⟨b', m, xs, d', hR, th⟩ := p
      rw [hml, List.take_length] at th
      have hadv : advs (words t) (thingsOf w1) 1 = .inr m := by
        have := advs_thvs th []
        rw [List.append_nil] at this
        exact this
      refine ⟨_, rfl, a, dx, _, rfl, d'.ob, rfl, a, dx, L, m, words t, rfl, d', fun e => ?_, fun lt => (qb m hadv lt).but (b02.trans b')⟩
      have lx := th.len
      subst e
      refine ⟨_, rfl, _, rfl, R, xs, rfl, .inr (SqL.of hR), ?_, fun P3 nP3 => ?_⟩
      · show (vS w1 :: (xs ++ [])).length ≤ sizeLine
        rw [List.append_nil, List.length_cons, lx]
        have : (3 : Nat) ≤ sizeLine := by decide
        omega
      · have hP3 : (upd H' P3 (.tup (vS w1 :: (xs ++ [])))) P3 = some (.tup (vS w1 :: xs)) := by rw [upd_same, List.append_nil]
        exact qc hadv P3 xs _ ((b02.trans b').trans (But.of (same_upd nP3))) hP3 (th.up (sameTup (same_upd nP3)))
end
end Q7
set_option maxHeartbeats 4000000
namespace Q7
open PySem PySem.Spec PyProof.Rows L2 SX
/-! ### parsed -/
inductive Out where
  | bad (i : Nat)
  | jum (n : List Nat) (js : JS)
  | row (n : List Nat)
def out (ws : List (List Nat)) : Out := if ws.headD [] ∈ names then (if isJ (ws.headD []) = true then (match jhead ws 1 with
    | .inl i => .bad i
    | .inr js => .jum (ws.headD []) js) else (match advs ws (thingsOf (ws.headD [])) 1 with
    | .inl j => .bad j
    | .inr j => if j < ws.length then .bad j else .row (ws.headD []))) else .bad 0
theorem thvs_le {H : Hp} {ws : List (List Nat)} : ∀ {ks : List Kd} {i m : Nat} {xs : List V}, ThVs H ws ks i m xs → advs ws ks i = .inr m := fun h => by
  have := advs_thvs h []
  rw [List.append_nil] at this
  exact this
theorem adv_le {ws : List (List Nat)} {k : Kd} {i j : Nat} (h : adv ws k i = .inr j) (hi : i ≤ ws.length) : j ≤ ws.length := by
  cases k with
  | look =>
    unfold adv at h
    by_cases c : (letOk ws i false).isSome = true
    · simp only [c, if_true] at h
      obtain rfl := Sum.inr.inj h
      cases z : letOk ws i false with
      | none => rw [z] at c; cases c
      | some v => have := (letOk_lt z).1; omega
    · simp only [if_neg c] at h
      cases h
  | number =>
    unfold adv at h
    by_cases c : (num ws i 0 big).isSome = true
    · simp only [c, if_true] at h
      obtain rfl := Sum.inr.inj h
      unfold num at c
      cases z : ws[i]? with
      | none => rw [z] at c; cases c
      | some v => have := (List.getElem?_eq_some_iff.mp z).1; omega
    · simp only [if_neg c] at h
      cases h
  | letters =>
    have h2 : (if ws.length ≤ i then Sum.inl i else match badL ws i (ws.length - i) with | some j => Sum.inl j | none => Sum.inr ws.length) = (Sum.inr j : Sum Nat Nat) := h
    by_cases c : ws.length ≤ i
    · rw [if_pos c] at h2
      cases h2
    · rw [if_neg c] at h2
      cases z : badL ws i (ws.length - i) with
      | some b => rw [z] at h2; cases h2
      | none =>
        rw [z] at h2
        obtain rfl := Sum.inr.inj h2
        exact Nat.le_refl _
theorem advs_le {ws : List (List Nat)} : ∀ {ks : List Kd} {i j : Nat}, advs ws ks i = .inr j → i ≤ ws.length → j ≤ ws.length
  | [], i, j, h, hi => by
    obtain rfl := Sum.inr.inj h
    exact hi
  | k :: ks, i, j, h, hi => by
    rw [advs] at h
    cases z : adv ws k i with
    | inl b => rw [z] at h; cases h
    | inr b =>
      rw [z] at h
      exact advs_le h (adv_le z hi)
def spParsed (K : PySem.W.Frag) (CA CJ : Addr) : Sp := fun vs H Q E => ∃ x : V, vs = [x] ∧
  ((∃ t : List Nat, x = .str (S t) ∧ (t.length + 2 ≤ sizeLine ∧ asc t) ∧ (∀ i, out (words t) = .bad i → EX CA E H i) ∧
    (∀ n js, out (words t) = .jum n js → ∀ T y dy H', Same H H' → H' T = some (.tup [vS n, .ref y]) → H' y = some (.ins CJ dy (jFs js.e js.l js.lo js.ag js.ap)) → Q (.ref T) H') ∧
    (∀ n, out (words t) = .row n → ∀ T xs H', Same H H' → H' T = some (.tup (vS n :: xs)) → ThVs H' (words t) (thingsOf n) 1 (words t).length xs → Q (.ref T) H')) ∨
   (∃ m ∈ kns, m ≠ "str" ∧ TyX K H x (.type m) ∧ EX CA E H 0))
theorem cxk_cx {P : Program} {w : World} {base : Heap} {n : Nat} {outer : List Env} {H : Hp} {s s' : Shared} {E : XK} {u : Value} (h : CXk P w base n outer H s E u s') : L2.CX P w outer H s E u s' := by
  obtain ⟨a, B, H', cls, d, l, ⟨eu, fl⟩, ⟨hok, ub⟩, ⟨na, os, ag⟩, hE, tl⟩ := h
  exact ⟨a, B, H', cls, d, eu, L2H.flyingZ_imp (fun _ z => z.zc) fl, hok, ub, na, os, ag, hE⟩
section
variable {P : Program} {w : World} {K : PySem.W.Frag} {mg : Str → Option Value} {base : Heap} {f : Addr} {fd : FuncData} {CT CA CV CP fT fA fV fP CW CJ : Addr}
theorem okx_parsed (F : FnP K "parsed" "parsed" (top 34) [] f fd) (Es : Errs K P mg CT CA CV CP fT fA fV fP) (cRP : Nam (CXk P w base 1) P w K mg base 7 "row_parts" (spRP CT CW CJ))
    (cMk : Mkr (CXk P w base 0) P w K mg base 1 "Words" CW (fun vs H Q E => spWInit CT CW K (vs ++ [.int 0]) H Q E)) : FnOk P w K mg base (L2.CX P w) 8 f fd ["text"] (spParsed K CA CJ) := by
  have sc : FnScope ["text", "error"] ["text"] (defScope (top 34)) := sc_by (by decide +kernel)
  have nd := sc.nd
  refine F.ok sc (fun vs H Q E h => ?_) fun cdv A outer s H vs Q E hr h => ⟨_,
    (pss_one (ps_try_asK (i := 1) (m := 2) (n := 1) (E := E)
      (tb := fun W => tRet (tCallS (spRP CT CW CJ) (WE W) (tCons (tMkA CW (fun vs H Q E => spWInit CT CW K (vs ++ [.int 0]) H Q E) (WE W) (tCons (tVar 0) tNil)) (tCons (tVar 0) tNil))))
      (ts := fun a cls d => (fun _ σ H => RaisesK K cls ∧ σ[1]? = some (some (.ref a)) ∧ tMk2 CA "at" "word" (tCons (tC (.int 0)) (tCons (tXf a cls d CT "word" (tVar 1)) tNil)) σ H fun cls d H' => E cls d H'))
      rfl rfl rfl nd rfl rfl ⟨rfl, by decide, Or.inl Es.gT⟩ rfl (fun _ _ z => cxk_cx z) (Nat.le_refl 1)
      (fun W pn xe tk hp => pss_one (ps_ret (pe_nam cRP hr (by decide) rfl (passU tk (Nat.le_refl 1)) (pa_cons (pe_mkr cMk hr (by decide) rfl (passU tk (Nat.zero_le 1)) (pa_cons (pv 0) pa_nil)) (pa_cons (pv 0) pa_nil)))))
      (fun a oe cls d l pn xe hz hl hands hb tk => pss_one (ps_raiseFromK (i := 1) hands hb (by rw [List.length_cons]; omega) tk
        (pmk_err2 Es.tA Es.tP Es.gs Es.gA (by have z := room4 hr; exact z) (by exact (pa_cons pe_int (pa_cons (pe_xfK Es.xT Es.tT.n2 hz hands.2.1.1 (hands.2.2.2 _ List.mem_cons_self) (pv 1)) pa_nil)))) rfl (Or.inl rfl) hz.1)))), ?_⟩
  · obtain ⟨x, rfl, _⟩ := h
    rfl
  obtain ⟨x, rfl, h⟩ := h
  -- a refusal: told on by the suite
  have on : ∀ (i : Nat) (D : Ends) (a : Addr) (Hc : Hp) (tx : V), EX CA E H i → Same H Hc → H a = none → EW CT a (WE (wHitAs K (.ref CT) 1 (fun a cls d => (fun _ σ H => RaisesK K cls ∧ σ[1]? = some (some (.ref a)) ∧ tMk2 CA "at" "word" (tCons (tC (.int 0)) (tCons (tXf a cls d CT "word" (tVar 1)) tNil)) σ H fun cls d H' => E cls d H')) D) [some tx, none]) Hc i := by
    intro i D a Hc tx hE sc' ha d p H' b' hx
    refine ⟨Es.mT, fun a1 ha1 => ⟨?_, rfl, _, rfl, rfl, rfl, d, _, _, rfl, hx, rfl, _, _, rfl, fun d5 p5 h5 => ?_⟩⟩
    · exact fun M hh k => ⟨PySem.W.looks_subIn k Es.tT.at_.exC, PySem.W.looks_typeIn k Es.tT.at_.tyC⟩
    · exact hE d5 p5 _ ((b'.same ha sc').trans (same_upd h5)) upd_same
  refine ⟨_, rfl, fun y dy hy hdy hny => ?_⟩
  have s0 : Same H (upd (upd H dy (.own y)) y (.ins CW dy [])) := (same_upd hdy).trans (same_upd (by rw [upd_ne (Ne.symm hny)]; exact hy))
  rcases h with ⟨t, rfl, ⟨ht, ha⟩, qb, qj, qr⟩ | ⟨m, hm, ne, ty, qb⟩
  · refine ⟨y, dy, _, rfl, upd_same, .inl ⟨t, rfl, ht, ha, fun H1 L b1 d1 => ⟨rfl, _, rfl, ?_⟩⟩⟩
    have s1 : Same H H1 := b1.same hy s0
    have hne : words t ≠ [] := spl1_ne t []
    obtain ⟨n, r, hw⟩ : ∃ n r, words t = n :: r := by
      cases e : words t with
      | nil => exact absurd e hne
      | cons n r => exact ⟨n, r, rfl⟩
    have hd0 : (words t)[0]? = some n := by rw [hw]; rfl
    have hhd : (words t).headD [] = n := by rw [hw]; rfl
    refine ⟨y, dy, L, t, n, rfl, d1, ⟨ht, ha⟩, hd0, fun hn => on 0 _ y H1 _ (qb 0 ?_) s1 hy, fun hn hj => ⟨fun js hjs T x dz H' b' hT hx => qj n js ?_ T x dz H' (b'.same hy s1) hT hx, fun i hi => on i _ y H1 _ (qb i ?_) s1 hy⟩,
      fun hn hj => ⟨fun j hj2 => on j _ y H1 _ (qb j ?_) s1 hy, fun j hj2 lt => on j _ y H1 _ (qb j ?_) s1 hy, fun ha2 T xs H' b' hT th => qr n ?_ T xs H' (b'.same hy s1) hT th⟩⟩
    · unfold out
      rw [hhd, if_neg hn]
    · unfold out
      rw [hhd, if_pos hn, if_pos hj, hjs]
    · unfold out
      rw [hhd, if_pos hn, if_pos hj, hi]
    · unfold out
      rw [hhd, if_pos hn, if_neg (by rw [hj]; decide), hj2]
    · unfold out
      rw [hhd, if_pos hn, if_neg (by rw [hj]; decide), hj2]
      exact if_pos lt
    · unfold out
      rw [hhd, if_pos hn, if_neg (by rw [hj]; decide), ha2]
      exact if_neg (Nat.lt_irrefl _)
  · refine ⟨y, dy, x, rfl, upd_same, .inr ⟨m, hm, ne, ?_, on 0 _ y _ _ qb s0 hy⟩⟩
    have key : ∀ {x : V}, TyX K H x (.type m) → TyX K (upd (upd H dy (.own y)) y (.ins CW dy [])) x (.type m) := by
      intro x ty
      cases ty with
      | base h =>
        cases h with
        | non => exact .base .non
        | bl b => exact .base (.bl b)
        | int i => exact .base (.int i)
        | str z => exact .base (.str z)
        | flt z => exact .base (.flt z)
        | lst e => exact .base (.lst (s0 _ _ e))
        | frz e => exact .base (.frz (s0 _ _ e))
        | tup e => exact .base (.tup (s0 _ _ e))
        | dK e => exact .base (.dK (s0 _ _ e))
        | dT e => exact .base (.dT (s0 _ _ e))
      | byt b => exact .byt b
      | set e => exact .set (s0 _ _ e)
      | kList e c => exact .kList e c
      | kTuple e c => exact .kTuple e c
      | kDict e c => exact .kDict e c
      | fTuple e => exact .fTuple (s0 _ _ e)
      | fDict e => exact .fDict (s0 _ _ e)
    exact key ty
theorem ok_parsed (F : FnP K "parsed" "parsed" (top 34) [] f fd) (b : Binds K fd ["text"] []) (Es : Errs K P mg CT CA CV CP fT fA fV fP) (cRP : Nam (CXk P w base 1) P w K mg base 7 "row_parts" (spRP CT CW CJ))
    (cMk : Mkr (CXk P w base 0) P w K mg base 1 "Words" CW (fun vs H Q E => spWInit CT CW K (vs ++ [.int 0]) H Q E)) : FnR P w K mg base (L2.CX P w) 8 f (spParsed K CA CJ) :=
  (FnOk.raw (okx_parsed F Es cRP cMk) b .nil).imp fun vs H Q E h => by rw [List.append_nil]; exact h
end
end Q7
set_option maxHeartbeats 4000000
namespace Q7
open PySem PySem.Spec PyProof.Rows L2 SX
/-! ### _law_letter -/
def rLenK (K : PySem.W.Frag) : List V → Hp → VK → Prop := fun xs H Q => ∃ x n, xs = [x] ∧ LenV K x H n ∧ Q (.int n) H
def kp (p : List Nat → Bool) : V → Bool := fun x => match x with
  | .str z => p z.cps.toList
  | _ => false
theorem kp_map (p : List Nat → Bool) : ∀ ls : List (List Nat), (ls.map vS).filter (kp p) = (ls.filter p).map vS
  | [] => rfl
  | l :: ls => by
    have e : kp p (vS l) = p l := rfl
    rw [List.map_cons, List.filter_cons, List.filter_cons, e, kp_map p ls]
    cases p l <;> rfl
def LLet (H : Hp) (l : List Nat) (R : Addr) : Prop := (wordOk l = true → ∃ x, H R = some (.lst [x]) ∧ LetV H l x) ∧ (wordOk l = false → H R = some (.lst []))
theorem nn {H H' : Hp} {R : Addr} (s : Same H H') (h : H' R = none) : H R = none := by
  cases e : H R with
  | none => rfl
  | some o => rw [s R o e] at h; cases h
def spLawLet : Sp := fun vs H Q _ => ∃ l : List Nat, vs = [.str (S l)] ∧ (l.length + 2 ≤ sizeLine ∧ asc l) ∧ ∀ H' R, Same H H' → H R = none → LLet H' l R → Q (.ref R) H'
section
variable {P : Program} {w : World} {K : PySem.W.Frag} {mg : Str → Option Value} {base : Heap} {f : Addr} {fd : FuncData}
theorem ok_lawlet (F : FnP K "_law_letter" "_law_letter" (top 44) [] f fd) (b : Binds K fd ["_law_word_here"] []) (B : Blt mg) : FnR P w K mg base CX0 1 f spLawLet := by
  have sc : FnScope ["_law_word_here", "_law_signs", "_law_parts", "_law_part", "_law_sign"] ["_law_word_here"] (defScope (top 44)) := sc_by (by decide +kernel)
  have nd := sc.nd
  refine fnp0 F b sc (fun vs H Q E h => ?_) fun cdv A outer s H vs Q E hr h => ⟨_,
    (pss_cons (ps_if (pt_cmpR op_eq (pv 0) pe_str (nomark _)) (pss_one (ps_ret (pe_lst (pa_cons pe_non pa_nil)))) pss_nil)
    (pss_cons (ps_asg (pe_tup (pa_cons pe_str (pa_cons (pe_split (pv 0) pe_str) pa_nil))) (pg_tup rfl (pgs_cons (pg_name (i := 1) nd rfl (.inr rfl)) (pgs_cons (pg_name (i := 2) nd rfl (.inl rfl)) pgs_nil))))
    (pss_cons (ps_if (PW.pt (pw_or (pt_cmpR op_gt (pe_callB call_len rfl (B.g "len") boot_len (pa_cons (pv 2) pa_nil)) pe_int (nomark _)) (pw_or1 (pt_cmpR (op_neD hr.units) (pe_lc (own := [("_law_part", 3)]) (g := gName 3)  rfl nd (pi_list (pv 2)) (blkOk_by (own := [("_law_part", 3)]) (N := ["_law_word_here", "_law_signs", "_law_parts", "_law_part", "_law_sign"]) (sc := defScope (top 44)) (by decide +kernel)) (fun _ _ _ _ _ => pg_name (i := 3) nd rfl (Or.inl rfl)) (fun _ _ _ _ _ => pts_one (PW.pt (pw_or (pt_cmpR op_eq (pv 3) pe_str (nomark _)) (pw_or1 (pt_cmpR op_gt (pe_callB (r := rLenK K) call_len rfl (B.g "len") boot_len (pa_cons (pv 3) pa_nil)) pe_int (nomark _)))))) (fun _ _ _ _ _ => (pv 3))) (pe_lst pa_nil) (nomark _))))) (pss_one (ps_ret (pe_lst pa_nil))) pss_nil)
    (pss_cons (ps_if (pt_cmpR (op_neD hr.units) (pe_lc (own := [("_law_part", 3)]) (g := gName 3)  rfl nd (pi_list (pv 2)) (blkOk_by (own := [("_law_part", 3)]) (N := ["_law_word_here", "_law_signs", "_law_parts", "_law_part", "_law_sign"]) (sc := defScope (top 44)) (by decide +kernel)) (fun _ _ _ _ _ => pg_name (i := 3) nd rfl (Or.inl rfl)) (fun _ _ _ _ _ => pts_one (PW.pt (pw_and (pt_cmpR op_ne (pv 3) pe_str (nomark _)) (pw_and1 (pt_cmpR (r := rNeD K) (op_neD hr.units) (pe_lc (own := [("_law_sign", 4)]) (g := gName 4)  rfl nd (pi_str (pv 3)) (blkOk_by (by rfl)) (fun _ _ _ _ _ => pg_name (i := 4) nd rfl (Or.inl rfl)) (fun _ _ _ _ _ => pts_one (pt_cmpR op_notIn_sign (pv 4) (pv 1) rfl)) (fun _ _ _ _ _ => (pv 4))) (pe_lst pa_nil) (nomark _)))))) (fun _ _ _ _ _ => (pv 3))) (pe_lst pa_nil) (nomark _)) (pss_one (ps_ret (pe_lst pa_nil))) pss_nil)
    (pss_one (ps_ret (pe_lst (pa_cons (pe_callTy call_tuple_of rfl (B.g "tuple") boot_tuple (pa_cons (pe_lc (own := [("_law_part", 3)]) (g := gName 3) (tt := tYes) rfl nd (pi_list (pv 2)) (blkOk_by (own := [("_law_part", 3)]) (N := ["_law_word_here", "_law_signs", "_law_parts", "_law_part", "_law_sign"]) (sc := defScope (top 44)) (by decide +kernel)) (fun _ _ _ _ _ => pg_name (i := 3) nd rfl (Or.inl rfl)) (fun _ _ _ _ _ => pts_nil) (fun _ _ _ _ _ => (pe_ifExp (pt_cmpR op_eq (pv 3) pe_str (nomark _)) pe_str (pv 3)))) pa_nil)) pa_nil)))))))), ?_⟩
  · obtain ⟨l, rfl, _⟩ := h
    rfl
  obtain ⟨l, rfl, ⟨hl, ha⟩, q⟩ := h
  refine ⟨_, rfl, rfl, _, rfl, ?_⟩
  rw [S_qm, dec_S]
  refine ite2 (fun c => ?_) (fun c => ?_)
  · have e := of_decide_eq_true c
    refine ⟨(by show 1 ≤ sizeLine; decide), fun R nR => q _ R (same_upd nR) nR ⟨fun _ => ⟨.non, upd_same, .inl ⟨e, rfl⟩⟩, fun z => by rw [e, wordOk_q] at z; cases z⟩⟩
  have nq : l ≠ [63] := fun z => c (decide_eq_true z)
  refine ⟨_, rfl, ⟨_, rfl⟩, _, _, rfl, rfl, by decide, by rw [S_len]; exact hl, fun D nD => ?_⟩
  rw [split_bar]
  have hD : upd H D (.lst (((parts l).map S).map V.str)) D = some (.lst ((parts l).map vS)) := by rw [upd_same, List.map_map]; rfl
  have s0 : Same H (upd H D (.lst (((parts l).map S).map V.str))) := same_upd nD
  generalize upd H D (.lst (((parts l).map S).map V.str)) = H1 at hD s0 ⊢
  have lp : ((parts l).map vS).length = (parts l).length := List.length_map ..
  have hpl : (parts l).length ≤ l.length + 1 := spl1_len l []
  have pin : ∀ p ∈ parts l, p.length ≤ l.length ∧ asc p := fun p hp => by
    have z := spl1_mem l [] p hp
    refine ⟨by have := z.2.1; rw [List.length_nil] at this; omega, fun x hx => ?_⟩
    rcases z.2.2 x hx with y | y
    · cases y
    · exact ha x y
  have wk : wordOk l = (decide ((parts l).length ≤ 9) && (parts l).all partOk) := by
    unfold wordOk
    rw [decide_eq_false nq, Bool.false_or]
  -- nothing told
  have none_ : wordOk l = false → ∀ H2, Same H H2 → ∀ R, H2 R = none → Q (.ref R) (upd H2 R (.lst [])) := fun e H2 s2 R nR => q _ R (s2.trans (same_upd nR)) (nn s2 nR) ⟨fun z => (by rw [e] at z; cases z), fun _ => upd_same⟩
  refine ⟨(by show 2 ≤ sizeLine; decide), fun U nU => ⟨U, _, rfl, SqT.of upd_same, rfl, _, _, rfl, _, _, rfl, rfl, ?_⟩⟩
  replace hD := (same_upd (o := .tup [.str "0123456789abcdefghijklmnopqrstuvwxyz", .ref D]) nU) _ _ hD
  replace s0 := s0.trans (same_upd (o := .tup [.str "0123456789abcdefghijklmnopqrstuvwxyz", .ref D]) nU)
  generalize upd H1 U (.tup [.str "0123456789abcdefghijklmnopqrstuvwxyz", .ref D]) = H2 at hD s0 ⊢
  refine ⟨_, rfl, _, _, rfl, .inl ⟨_, SqL.of hD, rfl⟩, _, _, rfl, rfl, _, rfl, ?_⟩
  rw [lp]
  refine ite2 (fun c2 => ?_) (fun c2 => ?_)
  · have c3 : (9 : Int) < ((parts l).length : Int) := of_decide_eq_true c2
    refine iteT ⟨(by show 0 ≤ sizeLine; decide), none_ ?_ _ s0⟩
    rw [wk, decide_eq_false (by omega), Bool.false_and]
  have h9 : (parts l).length ≤ 9 := by
    have : ¬ ((9 : Int) < ((parts l).length : Int)) := fun z => c2 (decide_eq_true z)
    omega
  have hz9 : (parts l).length ≤ sizeLine := Nat.le_trans h9 (by decide)
  have wk2 : wordOk l = (parts l).all partOk := by rw [wk, decide_eq_true h9, Bool.true_and]
  have at_ : ∀ {i : Nat} {x : V}, ((parts l).map vS)[i]? = some x → ∃ p, x = vS p ∧ p ∈ parts l := fun {i x} h => by
    rw [List.getElem?_map] at h
    cases e : (parts l)[i]? with
    | none => rw [e] at h; cases h
    | some p =>
      rw [e] at h
      exact ⟨p, (Option.some.inj h).symm, List.mem_of_getElem? e⟩
  -- the first look
  refine ⟨_, rfl, _, rfl, ⟨_, SqL.of hD⟩, fun L nL => ?_⟩
  refine lc_fil walk_list ((parts l).map vS) (kp fun p => decide (p = []) || decide (12 < p.length)) nL rfl (by rw [lp]; exact hz9) (fun H2 s2 => SqL.of (s2 _ _ hD)) (fun i x H2 H3 Kb hi s2 y hK => ?_) fun H3 s3 hL => ?_
  · obtain ⟨rfl, hx⟩ := y
    obtain ⟨p, rfl, hp⟩ := at_ hx
    have fin : ∀ b, (decide (p = []) || decide (12 < p.length)) = b → Kb b H3 := fun b e => by
      rw [← e]
      exact hK H3 hx (Same.refl _)
    refine ⟨⟨rfl, rfl⟩, _, rfl, rfl, _, rfl, ?_⟩
    rw [show decide (vS p = V.str "") = decide (p = []) from by rw [S_empty]; exact dec_S]
    refine ite2 (fun c3 => ?_) (fun c3 => ?_)
    · exact fin true (by rw [c3]; rfl)
    · have hpl := (pin p hp).1
      refine ⟨_, rfl, _, _, rfl, ⟨by rw [S_len]; omega, rfl⟩, _, _, rfl, rfl, _, rfl, ?_⟩
      rw [S_len]
      refine fin _ ?_
      rw [Bool.eq_false_iff.mpr c3, Bool.false_or, Bool.eq_iff_iff, decide_eq_true_eq, decide_eq_true_eq]
      omega
  rw [kp_map] at hL
  refine ⟨(by show 0 ≤ sizeLine; decide), fun L2 nL2 => ?_⟩
  have hL4 := (same_upd (o := .lst []) nL2) _ _ hL
  have s4 := s0.trans (s3.trans (same_upd (o := .lst []) nL2))
  have hD4 := (s3.trans (same_upd (o := .lst []) nL2)) _ _ hD
  have hE4 : (upd H3 L2 (.lst [])) L2 = some (.lst (([] : List (List Nat)).map vS)) := upd_same
  generalize upd H3 L2 (.lst []) = H4 at hL4 s4 hD4 hE4 ⊢
  refine neS (SqL.of hL4) (SqL.of hE4) (fun m hm => (pin m (List.mem_filter.mp hm).1).2) (fun _ h => by cases h) ⟨_, rfl, ?_⟩
  refine ite2 (fun c3 => ?_) (fun c3 => ?_)
  · refine ⟨(by show 0 ≤ sizeLine; decide), none_ ?_ _ s4⟩
    have hne : ¬ (parts l).filter (fun p => decide (p = []) || decide (12 < p.length)) = [] := fun z => by
      rw [decide_eq_true z] at c3
      exact absurd c3 (by decide)
    rw [wk2]
    refine Bool.eq_false_iff.mpr fun z => hne (List.filter_eq_nil_iff.mpr fun p hp h => ?_)
    have z2 := List.all_eq_true.mp z p hp
    unfold partOk sgOk at z2
    rcases Bool.or_eq_true_iff.mp h with h | h
    · have e := of_decide_eq_true h
      subst e
      simp at z2
    · have e := of_decide_eq_true h
      rcases Bool.or_eq_true_iff.mp z2 with y | y
      · rw [of_decide_eq_true y] at e
        simp at e
      · have y2 := (Bool.and_eq_true_iff.mp (Bool.and_eq_true_iff.mp y).2).1
        have := of_decide_eq_true y2
        omega
  have good1 : ∀ p ∈ parts l, p ≠ [] ∧ p.length ≤ 12 := fun p hp => by
    have he : (parts l).filter (fun p => decide (p = []) || decide (12 < p.length)) = [] := by
      cases z : decide ((parts l).filter (fun p => decide (p = []) || decide (12 < p.length)) = []) with
      | true => exact of_decide_eq_true z
      | false => rw [z] at c3; exact absurd rfl c3
    have z := List.filter_eq_nil_iff.mp he p hp
    have z2 := Bool.eq_false_iff.mpr z
    rw [Bool.or_eq_false_iff] at z2
    exact ⟨fun y => (by rw [decide_eq_true y] at z2; cases z2.1), (by have := of_decide_eq_false z2.2; omega)⟩
  -- the second look
  refine ⟨_, rfl, _, rfl, ⟨_, SqL.of hD4⟩, fun L3 nL3 => ?_⟩
  refine lc_fil walk_list ((parts l).map vS) (kp fun p => !decide (p = [95]) && !decide (p.filter (fun c => !isSg c) = [])) nL3 rfl (by rw [lp]; exact hz9) (fun H2 s2 => SqL.of (s2 _ _ hD4)) (fun i x H2 H5 Kb hi s2 y hK => ?_) fun H5 s5 hL5 => ?_
  · obtain ⟨rfl, hx⟩ := y
    obtain ⟨p, rfl, hp⟩ := at_ hx
    have fin : ∀ b H6, Same H5 H6 → (!decide (p = [95]) && !decide (p.filter (fun c => !isSg c) = [])) = b → Kb b H6 := fun b H6 s6 e => by
      rw [← e]
      exact hK H6 hx s6
    refine ⟨⟨rfl, rfl⟩, _, rfl, rfl, _, rfl, ?_⟩
    rw [show decide (vS p = V.str "_") = decide (p = [95]) from by rw [S_us]; exact dec_S]
    refine ite2 (fun c4 => ?_) (fun c4 => ?_)
    · rw [c4] at fin
      have hp12 := (good1 p hp).2
      refine ⟨_, rfl, _, rfl, fun L4 nL4 => ?_⟩
      refine lc_fil walk_str (p.map fun c => vS [c]) (kp fun z => !isSg (z.getD 0 0)) nL4 (by rw [List.length_map]; simp [S]) (Nat.le_trans (show (S p).cps.size ≤ 12 by simpa [S] using hp12) (by decide)) (fun _ _ => trivial) (fun i2 x2 H6 H7 Kc hi2 s6 y2 hK2 => ?_) fun H7 s7 hL7 => ?_
      · obtain ⟨rfl, ch, hch, rfl⟩ := y2
        have hc2 : p[i2]? = some ch := by simpa [S] using hch
        refine ⟨⟨rfl, rfl⟩, _, rfl, _, rfl, ch, _, rfl, rfl, _, rfl, ?_⟩
        rw [mem_sgs (c := ch)]
        exact hK2 _ (by rw [List.getElem?_map, hc2] <;> rfl) (Same.refl _)
      · have emap : (p.map fun c => vS [c]) = (p.map fun c => [c]).map vS := by rw [List.map_map]; rfl
        rw [emap, kp_map] at hL7
        refine ⟨(by show 0 ≤ sizeLine; decide), fun L5 nL5 => ?_⟩
        have hL8 := (same_upd (o := .lst []) nL5) _ _ hL7
        have s8 := s7.trans (same_upd (o := .lst []) nL5)
        have hE8 : (upd H7 L5 (.lst [])) L5 = some (.lst (([] : List (List Nat)).map vS)) := upd_same
        refine neS (SqL.of hL8) (SqL.of hE8) (fun m hm => ?_) (fun _ h => by cases h) ⟨_, rfl, ?_⟩
        · obtain ⟨c5, hc5, rfl⟩ := List.mem_map.mp (List.mem_filter.mp hm).1
          intro x5 hx5
          rw [List.mem_singleton.mp hx5]
          exact (pin p hp).2 c5 hc5
        · have e9 : decide ((p.map fun c => [c]).filter (fun z => !isSg (z.getD 0 0)) = []) = decide (p.filter (fun c => !isSg c) = []) := by
            rw [List.filter_map, Bool.eq_iff_iff, decide_eq_true_eq, decide_eq_true_eq, List.map_eq_nil_iff]
            exact Iff.rfl
          rw [e9]
          exact fin _ _ s8 (by rw [Bool.true_and])
    · rw [Bool.eq_false_iff.mpr c4] at fin
      exact fin _ _ (Same.refl _) rfl
  rw [kp_map] at hL5
  refine ⟨(by show 0 ≤ sizeLine; decide), fun L6 nL6 => ?_⟩
  have hL9 := (same_upd (o := .lst []) nL6) _ _ hL5
  have s9 := s4.trans (s5.trans (same_upd (o := .lst []) nL6))
  have hD9 := (s5.trans (same_upd (o := .lst []) nL6)) _ _ hD4
  have hE9 : (upd H5 L6 (.lst [])) L6 = some (.lst (([] : List (List Nat)).map vS)) := upd_same
  generalize upd H5 L6 (.lst []) = H9 at hL9 s9 hD9 hE9 ⊢
  refine neS (SqL.of hL9) (SqL.of hE9) (fun m hm => (pin m (List.mem_filter.mp hm).1).2) (fun _ h => by cases h) ⟨_, rfl, ?_⟩
  have pk : ∀ p ∈ parts l, partOk p = !(!decide (p = [95]) && !decide (p.filter (fun c => !isSg c) = [])) := fun p hp => by
    obtain ⟨g1, g2⟩ := good1 p hp
    unfold partOk sgOk
    rw [decide_eq_false g1, decide_eq_true g2, Bool.not_false, Bool.true_and, Bool.true_and, Bool.not_and, Bool.not_not, Bool.not_not]
    congr 1
    rw [Bool.eq_iff_iff, decide_eq_true_eq, List.all_eq_true, List.filter_eq_nil_iff]
    exact ⟨fun h c hc => by rw [h c hc]; decide, fun h c hc => by
      have := h c hc
      cases z : isSg c with
      | true => rfl
      | false => rw [z] at this; exact absurd rfl this⟩
  refine ite2 (fun c4 => ?_) (fun c4 => ?_)
  · refine ⟨(by show 0 ≤ sizeLine; decide), none_ ?_ _ s9⟩
    have hne : ¬ (parts l).filter (fun p => !decide (p = [95]) && !decide (p.filter (fun c => !isSg c) = [])) = [] := fun z => by
      rw [decide_eq_true z] at c4
      exact absurd c4 (by decide)
    rw [wk2]
    refine Bool.eq_false_iff.mpr fun z => hne (List.filter_eq_nil_iff.mpr fun p hp h => ?_)
    have z2 := List.all_eq_true.mp z p hp
    rw [pk p hp, h] at z2
    cases z2
  have good : wordOk l = true := by
    have he : (parts l).filter (fun p => !decide (p = [95]) && !decide (p.filter (fun c => !isSg c) = [])) = [] := by
      cases z : decide ((parts l).filter (fun p => !decide (p = [95]) && !decide (p.filter (fun c => !isSg c) = [])) = []) with
      | true => exact of_decide_eq_true z
      | false => rw [z] at c4; exact absurd rfl c4
    rw [wk2]
    refine List.all_eq_true.mpr fun p hp => ?_
    rw [pk p hp, Bool.eq_false_iff.mpr (List.filter_eq_nil_iff.mp he p hp)]
    rfl
  refine ⟨_, rfl, _, rfl, ⟨_, SqL.of hD9⟩, fun L7 nL7 => ?_⟩
  refine lc_map walk_list ((lets l).map vS) nL7 (by rw [List.length_map, lp]; unfold lets; rw [List.length_map]) (by rw [lp]; exact hz9) (fun H2 s2 => SqL.of (s2 _ _ hD9)) (fun i x H2 H3 Kt hi s2 y hK => ?_) fun HA sA hLA => ?_
  · obtain ⟨rfl, hx⟩ := y
    rw [List.getElem?_map] at hx
    cases e : (parts l)[i]? with
    | none => rw [e] at hx; cases hx
    | some p =>
      rw [e] at hx
      obtain rfl : vS p = x := Option.some.inj hx
      have fin := hK (vS (if p = [95] then [] else p)) H3 (by unfold lets; rw [List.map_map, List.getElem?_map, e] <;> rfl) (Same.refl _)
      refine ⟨rfl, _, rfl, rfl, _, rfl, ?_⟩
      rw [show decide (vS p = V.str "_") = decide (p = [95]) from by rw [S_us]; exact dec_S]
      refine ite2 (fun c5 => ?_) (fun c5 => ?_)
      · rw [if_pos (of_decide_eq_true c5)] at fin
        exact fin
      · rw [if_neg fun z => c5 (decide_eq_true z)] at fin
        exact ⟨_, rfl, fin⟩
  refine ⟨L7, _, rfl, .inl ⟨SqL.of hLA, fun T nT => ⟨(by show 1 ≤ sizeLine; decide), fun R nR => ?_⟩⟩⟩
  refine q _ R ((s9.trans sA).trans ((same_upd nT).trans (same_upd nR))) (nn ((s9.trans sA).trans (same_upd nT)) nR) ⟨fun _ => ⟨.ref T, upd_same, .inr ⟨nq, T, rfl, ?_⟩⟩, fun z => by rw [good] at z; cases z⟩
  exact (same_upd nR) _ _ upd_same
end
end Q7
set_option maxHeartbeats 2000000
namespace Q7
open PySem PySem.Spec PyProof.Rows L2 SX
/-! ### plain: slices of one, numbers, the law's dict -/
theorem cut1 (ws : List (List Nat)) (i : Nat) : cutV (ws.map vS) (some (i : Int)) (some ((i : Int) + 1)) = (ws[i]?.toList).map vS := by
  unfold cutV
  have e1 : HT.sIx (ws.map vS).length 0 (some (i : Int)) = min i ws.length := by rw [List.length_map]; simp [HT.sIx]; omega
  have e2 : HT.sIx (ws.map vS).length (ws.map vS).length (some ((i : Int) + 1)) = min (i + 1) ws.length := by rw [List.length_map]; simp [HT.sIx]; omega
  rw [e1, e2]
  by_cases h : i < ws.length
  · rw [show min i ws.length = i by omega, show min (i + 1) ws.length = i + 1 by omega, show i + 1 - i = 1 by omega, List.getElem?_eq_getElem h, ← List.map_drop, ← List.map_take, List.drop_eq_getElem_cons h]
    rfl
  · rw [List.getElem?_eq_none (by omega), show min (i + 1) ws.length - min i ws.length = 0 by omega, List.take_zero]
    rfl
theorem one_eq {o : Option (List Nat)} {k : List Nat} : decide (o.toList = [k]) = decide (o = some k) := by
  cases o with
  | none => rfl
  | some x => simp [Option.toList]
theorem num_text {l : List Nat} {lo hi : Int} (h : numB l lo hi = true) (hh : hi < 10 ^ 60) : intText? (S l) = some ((val l : Nat) : Int) ∧ (S l).length ≤ 640 := by
  unfold numB at h
  have h1 := (Bool.and_eq_true_iff.mp h).1
  have h2 := (Bool.and_eq_true_iff.mp h).2
  have h3 : ((val l : Nat) : Int) ≤ hi := of_decide_eq_true (Bool.and_eq_true_iff.mp h2).2
  have e := canon_num h1
  have hlen : l.length ≤ 60 := by
    have h4 : ((val l : Nat) : Int) < ((10 ^ 60 : Nat) : Int) := Int.lt_of_le_of_lt h3 hh
    have := TL.numL_len (n := val l) (k := 60) (by decide) (Int.ofNat_lt.mp h4)
    rw [← e] at this
    omega
  have hne : l ≠ [] := fun z => by rw [z] at h1; cases h1
  have hall : l.all isD = true := by
    unfold canon at h1
    cases z : l.all isD with
    | true => rfl
    | false => rw [z] at h1; simp at h1
  have hl : (S l).length ≤ 640 := by rw [S_len]; omega
  exact ⟨PySem.intText_digits (x := S l) (allD hall) hne (by rw [S_len]; omega), hl⟩
def dJ (s : JS) : List (Key × V) := [(.inr "early", .int s.e), (.inr "late", .int s.l), (.inr "lost", .int s.lo), (.inr "again", .bl s.ag), (.inr "apart", .int s.ap)]
theorem put_e (s : JS) (n : Int) : putK (dJ s) (.inr "early") (.int n) = dJ { s with e := n } := by
  unfold putK dJ
  simp only [List.any_cons, List.map_cons, List.map_nil]
  simp (config := { decide := true }) only [if_true, if_false]
theorem put_l (s : JS) (n : Int) : putK (dJ s) (.inr "late") (.int n) = dJ { s with l := n } := by
  unfold putK dJ
  simp only [List.any_cons, List.map_cons, List.map_nil]
  simp (config := { decide := true }) only [if_true, if_false]
theorem put_lo (s : JS) (n : Int) : putK (dJ s) (.inr "lost") (.int n) = dJ { s with lo := n } := by
  unfold putK dJ
  simp only [List.any_cons, List.map_cons, List.map_nil]
  simp (config := { decide := true }) only [if_true, if_false]
theorem put_ag (s : JS) (n : Bool) : putK (dJ s) (.inr "again") (.bl n) = dJ { s with ag := n } := by
  unfold putK dJ
  simp only [List.any_cons, List.map_cons, List.map_nil]
  simp (config := { decide := true }) only [if_true, if_false]
theorem put_ap (s : JS) (n : Int) : putK (dJ s) (.inr "apart") (.int n) = dJ { s with ap := n } := by
  unfold putK dJ
  simp only [List.any_cons, List.map_cons, List.map_nil]
  simp (config := { decide := true }) only [if_true, if_false]
theorem val_e (s : JS) : valV (dJ s) (.inr "early") = some (.int s.e) := by
  unfold dJ
  rw [valV_pos rfl]
theorem val_l (s : JS) : valV (dJ s) (.inr "late") = some (.int s.l) := by
  unfold dJ
  rw [valV_neg (by dsimp only; decide +kernel), valV_pos rfl]
theorem val_lo (s : JS) : valV (dJ s) (.inr "lost") = some (.int s.lo) := by
  unfold dJ
  rw [valV_neg (by dsimp only; decide +kernel), valV_neg (by dsimp only; decide +kernel), valV_pos rfl]
theorem val_ag (s : JS) : valV (dJ s) (.inr "again") = some (.bl s.ag) := by
  unfold dJ
  rw [valV_neg (by dsimp only; decide +kernel), valV_neg (by dsimp only; decide +kernel), valV_neg (by dsimp only; decide +kernel), valV_pos rfl]
theorem val_ap (s : JS) : valV (dJ s) (.inr "apart") = some (.int s.ap) := by
  unfold dJ
  rw [valV_neg (by dsimp only; decide +kernel), valV_neg (by dsimp only; decide +kernel), valV_neg (by dsimp only; decide +kernel), valV_neg (by dsimp only; decide +kernel), valV_pos rfl]
theorem merge_J : mergeK [] (dJ ⟨0, 0, 0, false, 0⟩) = dJ ⟨0, 0, 0, false, 0⟩ := by
  unfold dJ mergeK
  simp only [List.foldl_cons, List.foldl_nil, putK, List.any_nil, List.any_cons, List.nil_append, List.cons_append, List.map_cons, List.map_nil]
  simp (config := { decide := true }) only [if_true, if_false]
end Q7
set_option maxHeartbeats 4000000
namespace Q7
open PySem PySem.Spec PyProof.Rows L2 SX
/-! ### _law_jumble -/
theorem u1 {n m : Nat} (h : n + 64 < m) : n + 1 < m := by omega
def WsOk (K : PySem.W.Frag) (H : Hp) (L : Addr) (ws : List (List Nat)) : Prop := H L = some (.lst (ws.map vS)) ∧ ws.length ≤ sizeLine ∧ ∀ l ∈ ws, l.length ≤ sizeLine ∧ asc l
def R1 (ws : List (List Nat)) : Nat → JS → Prop
  | 0, js => js = ⟨0, 0, 0, false, 0⟩
  | 1, js => ws[1]? = some kEarly ∧ ∃ e : Nat, num ws 2 0 20 = some e ∧ js = ⟨e, 0, 0, false, 0⟩
  | _, js => jhead ws 1 = jl ws labs 5 js ∧ js.e ≤ 20 ∧ js.l ≤ 20
theorem num_le {ws : List (List Nat)} {i n : Nat} {lo hi : Int} (h : num ws i lo hi = some n) : (n : Int) ≤ hi := by
  unfold num at h
  cases e : ws[i]? with
  | none => rw [e] at h; cases h
  | some w =>
    rw [e] at h
    have h : (if numB w lo hi = true then some (val w) else none) = some n := h
    by_cases c : numB w lo hi = true
    · rw [if_pos c] at h
      rw [← Option.some.inj h]
      unfold numB at c
      exact of_decide_eq_true (Bool.and_eq_true_iff.mp (Bool.and_eq_true_iff.mp c).2).2
    · rw [if_neg c] at h
      cases h
theorem key1 {ws : List (List Nat)} {i : Nat} {x : V} {js : JS} (hi : [V.str "early", V.str "late"][i]? = some x) (r : R1 ws i js) : ∃ (k : List Nat) (lb : Str) (js' : Nat → JS), x = .str lb ∧ lb = S k ∧ asc k ∧
    (ws[1 + 2 * i]? ≠ some k → jhead ws 1 = .inl (1 + 2 * i)) ∧ (ws[1 + 2 * i]? = some k → num ws (1 + 2 * i + 1) 0 20 = none → jhead ws 1 = .inl (1 + 2 * i + 1)) ∧
    (∀ n : Nat, ws[1 + 2 * i]? = some k → num ws (1 + 2 * i + 1) 0 20 = some n → putK (dJ js) (.inr lb) (.int n) = dJ (js' n) ∧ R1 ws (i + 1) (js' n)) := by
  match i, hi with
  | 0, hi =>
    refine ⟨kEarly, "early", fun n => { js with e := n }, (Option.some.inj hi).symm, S_early, by unfold asc; decide, fun h => ?_, fun h1 h2 => ?_, fun n h1 h2 => ⟨put_e _ _, h1, n, h2, ?_⟩⟩
    · unfold jhead
      rw [if_neg h]
    · unfold jhead
      rw [if_pos h1]
      rw [show num ws (1 + 1) 0 20 = none from h2]
    · have e : js = ⟨0, 0, 0, false, 0⟩ := r
      rw [e]
  | 1, hi =>
    obtain ⟨h0, e, he, rfl⟩ := r
    have hj : jhead ws 1 = if ws[3]? = some kLate then (match num ws 4 0 20 with | some l => jl ws labs 5 ⟨e, l, 0, false, 0⟩ | none => .inl 4) else .inl 3 := by
      unfold jhead
      rw [if_pos h0, show num ws (1 + 1) 0 20 = some e from he] <;> rfl
    refine ⟨kLate, "late", fun n => ⟨e, n, 0, false, 0⟩, (Option.some.inj hi).symm, S_late, by unfold asc; decide, fun h => ?_, fun h1 h2 => ?_, fun n h1 h2 => ⟨put_l _ _, ?_⟩⟩
    · rw [hj, if_neg h]
    · rw [hj, if_pos h1, show num ws 4 0 20 = none from h2]
    · refine ⟨?_, num_le he, num_le (show num ws 4 0 20 = some n from h2)⟩
      rw [hj, if_pos h1, show num ws 4 0 20 = some n from h2]
  | n + 2, hi => simp at hi
theorem at_nat {ws : List (List Nat)} {p : Nat} {l : List Nat} (h : ws[p + 1]? = some l) : atI (ws.map vS) ((p : Int) + 1) = some (vS l) := by
  rw [show ((p : Int) + 1) = ((p + 1 : Nat) : Int) by omega]
  exact atI_nat (by rw [List.getElem?_map, h]; rfl)
theorem get_e {H : Hp} {D : Addr} {js : JS} (hD : H D = some (.dK (dJ js))) : DGet H D (.str "early") (some (.int js.e)) := by
  have := DGet.k (k := .inr "early") hD
  rw [val_e] at this
  exact this
theorem get_l {H : Hp} {D : Addr} {js : JS} (hD : H D = some (.dK (dJ js))) : DGet H D (.str "late") (some (.int js.l)) := by
  have := DGet.k (k := .inr "late") hD
  rw [val_l] at this
  exact this
theorem spr_read {σ : L2.St} {H : Hp} {Q : VK} {D : Addr} {js : JS} (h1 : σ[1]? = some (some (.ref D))) (hD : H D = some (.dK (dJ js))) (q : Q (.int (spr js.e js.l)) H) :
    tIf (tAnd (tTest (tOp (rI0 fun i j => V.bl (decide (j < i))) (tDGet (tVar 1) (tC (.str "early"))) (tC (.int 0)))) (tTest (tOp (rI0 fun i j => V.bl (decide (j < i))) (tDGet (tVar 1) (tC (.str "late"))) (tC (.int 0)))))
      (tOp (rI0 fun i j => V.int (i + j)) (tDGet (tVar 1) (tC (.str "early"))) (tDGet (tVar 1) (tC (.str "late")))) (tC (.int 0)) σ H Q := by
  refine ⟨_, h1, D, _, rfl, get_e hD, _, _, rfl, rfl, _, rfl, ?_⟩
  refine ite2 (fun c => ?_) (fun c => ?_)
  · refine ⟨_, h1, D, _, rfl, get_l hD, _, _, rfl, rfl, _, rfl, ?_⟩
    refine ite2 (fun c2 => ?_) (fun c2 => ?_)
    · refine ⟨_, h1, D, _, rfl, get_e hD, _, h1, D, _, rfl, get_l hD, _, _, rfl, rfl, ?_⟩
      unfold spr at q
      rw [if_pos ⟨of_decide_eq_true c, of_decide_eq_true c2⟩] at q
      exact q
    · unfold spr at q
      rw [if_neg (fun z => c2 (decide_eq_true z.2))] at q
      exact q
  · unfold spr at q
    rw [if_neg (fun z => c (decide_eq_true z.1))] at q
    exact iteF q
theorem key2 {H : Hp} {T1 T2 T3 : Addr} {i : Nat} {x : V} {js : JS} (hi : [V.ref T1, V.ref T2, V.ref T3][i]? = some x) (h1 : H T1 = some (.tup [.str "lost", .int 20])) (h2 : H T2 = some (.tup [.str "again", .int 0])) (h3 : H T3 = some (.tup [.str "apart", .int (mx1 js.e js.l)]))
    (he : js.e ≤ 20) (hl : js.l ≤ 20) : ∃ (T : Addr) (k : List Nat) (lb : Str) (m : Int), x = .ref T ∧ H T = some (.tup [.str lb, .int m]) ∧ lb = S k ∧ asc k ∧ m < 10 ^ 60 ∧ labs.drop i = k :: labs.drop (i + 1) ∧ (k ≠ kAgain → m = most k js) ∧
      (k ≠ kAgain → ∀ n : Int, putK (dJ js) (.inr lb) (.int n) = dJ (setJ k n js)) ∧ (k = kAgain → putK (dJ js) (.inr lb) (.bl true) = dJ { js with ag := true }) := by
  match i, hi with
  | 0, hi => exact ⟨T1, kLost, "lost", 20, (Option.some.inj hi).symm, h1, S_lost, by unfold asc; decide, by decide, rfl, fun _ => rfl, fun _ n => put_lo _ _, fun e => by cases e⟩
  | 1, hi => exact ⟨T2, kAgain, "again", 0, (Option.some.inj hi).symm, h2, S_again, by unfold asc; decide, by decide, rfl, fun e => absurd rfl e, fun e => absurd rfl e, fun _ => put_ag _ _⟩
  | 2, hi =>
    refine ⟨T3, kApart, "apart", mx1 js.e js.l, (Option.some.inj hi).symm, h3, S_apart, by unfold asc; decide, ?_, rfl, fun _ => rfl, fun _ n => put_ap _ _, fun e => by cases e⟩
    have : mx1 js.e js.l ≤ 40 := by
      unfold mx1 spr
      split <;> split <;> omega
    exact Int.lt_of_le_of_lt this (by decide)
  | n + 3, hi => simp at hi
def spLawJum (K : PySem.W.Frag) : Sp := fun vs H Q _ => ∃ (L : Addr) (ws : List (List Nat)), vs = [.ref L] ∧ WsOk K H L ws ∧ (∀ i, jhead ws 1 = .inl i → ∀ H', Same H H' → Q (.int i) H') ∧ (∀ js, jhead ws 1 = .inr js → ∀ D H', Same H H' → H' D = some (.dK (dJ js)) → Q (.ref D) H')
section
variable {P : Program} {w : World} {K : PySem.W.Frag} {mg : Str → Option Value} {base : Heap} {f : Addr} {fd : FuncData}
theorem ok_lawjum (F : FnP K "_law_jumble" "_law_jumble" (top 45) [] f fd) (b : Binds K fd ["_law_words"] []) (B : Blt mg) (cN : Nam CX0 P w K mg base 1 "_law_is_number" spLawNum) : FnR P w K mg base CX0 2 f (spLawJum K) := by
  have sc : FnScope ["_law_words", "_law_parts", "_law_at", "_law_label", "_law_spread", "_law_most"] ["_law_words"] (defScope (top 45)) := sc_by (by decide +kernel)
  have nd := sc.nd
  refine fnp0 F b sc (fun vs H Q E h => ?_) fun cdv A outer s H vs Q E hr h => ⟨_,
    (pss_cons (ps_par (i := 1) (j := 2) rfl nd rfl rfl (by decide) rfl rfl (pa_cons (pe_disp (pps_cons pe_str pe_int (pps_cons pe_str pe_int (pps_cons pe_str pe_int (pps_cons pe_str pe_bl (pps_cons pe_str pe_int pps_nil))))) rfl rfl (by decide) (by decide)) (pa_cons pe_int pa_nil)) rfl)
    (pss_cons (ps_for (passes_of rfl) rfl (pi_list (pe_lst (pa_cons pe_str (pa_cons pe_str pa_nil)))) (pg_name (i := 3) nd rfl (Or.inl rfl))
      (pss_cons (ps_if (pt_cmpR (op_neD hr.units) (pe_slice sl_list (pv 0) (po_some (pv 2)) (po_some (pe_op op_add (pv 2) pe_int))) (pe_lst (pa_cons (pv 3) pa_nil)) (nomark _)) (pss_one (ps_ret (pv 2))) pss_nil)
      (pss_cons (ps_if (PW.pt (pw_or (pt_cmpR op_ge (pe_op op_add (pv 2) pe_int) (pe_callB call_len rfl (B.g "len") boot_len (pa_cons (pv 0) pa_nil)) (nomark _)) (pw_or1 (pt_not (pt_val (pe_nam cN hr (by decide) rfl pass_no (pa_cons (pe_ix ix_list (pv 0) (pe_op op_add (pv 2) pe_int) (fun _ _ => rfl)) (pa_cons pe_int (pa_cons pe_int pa_nil))))))))) (pss_one (ps_ret (pe_op op_add (pv 2) pe_int))) pss_nil)
      (pss_cons (ps_dput (u1 hr.units) (pv 1) (pv 3) (pe_callTy call_int_str rfl (B.g "int") boot_int (pa_cons (pe_ix ix_list (pv 0) (pe_op op_add (pv 2) pe_int) (fun _ _ => rfl)) pa_nil)) rfl)
      (pss_one (ps_set (i := 2) nd rfl (Or.inl rfl) (pe_op op_add (pv 2) pe_int)))))))
    (pss_cons (ps_set (i := 4) nd rfl (Or.inl rfl) (pe_ifExp (PW.pt (pw_and (pt_cmpR op_gt (pe_dget (u1 hr.units) (pv 1) pe_str (fun _ _ => rfl)) pe_int (nomark _)) (pw_and1 (pt_cmpR op_gt (pe_dget (u1 hr.units) (pv 1) pe_str (fun _ _ => rfl)) pe_int (nomark _))))) (pe_op op_add (pe_dget (u1 hr.units) (pv 1) pe_str (fun _ _ => rfl)) (pe_dget (u1 hr.units) (pv 1) pe_str (fun _ _ => rfl))) pe_int))
    (pss_cons (ps_for (passes_of rfl) rfl (pi_list (pe_lst (pa_cons (pe_tup (pa_cons pe_str (pa_cons pe_int pa_nil))) (pa_cons (pe_tup (pa_cons pe_str (pa_cons pe_int pa_nil))) (pa_cons (pe_tup (pa_cons pe_str (pa_cons (pe_callB (call_max2 rfl) rfl (B.g "max") boot_max (pa_cons pe_int (pa_cons (pe_callTy call_int1 rfl (B.g "int") boot_int (pa_cons (pv 4) pa_nil)) pa_nil))) pa_nil))) pa_nil))))) (pg_tup rfl (pgs_cons (pg_name (i := 3) nd rfl (.inl rfl)) (pgs_cons (pg_name (i := 5) nd rfl (.inl rfl)) pgs_nil)))
      (pss_one (ps_if (pt_cmpR (op_eqD hr.units) (pe_slice sl_list (pv 0) (po_some (pv 2)) (po_some (pe_op op_add (pv 2) pe_int))) (pe_lst (pa_cons (pv 3) pa_nil)) (nomark _)) (pss_cons (ps_set (i := 2) nd rfl (Or.inl rfl) (pe_op op_add (pv 2) pe_int))
        (pss_one (ps_if (pt_cmpR op_eq (pv 3) pe_str (nomark _)) (pss_one (ps_dput (u1 hr.units) (pv 1) (pv 3) pe_bl rfl)) (pss_one (ps_if (PW.pt (pw_or (pt_cmpR op_ge (pv 2) (pe_callB call_len rfl (B.g "len") boot_len (pa_cons (pv 0) pa_nil)) (nomark _)) (pw_or1 (pt_not (pt_val (pe_nam cN hr (by decide) rfl pass_no (pa_cons (pe_ix ix_list (pv 0) (pv 2) (fun _ _ => rfl)) (pa_cons pe_int (pa_cons (pv 5) pa_nil))))))))) (pss_one (ps_ret (pv 2))) (pss_cons (ps_dput (u1 hr.units) (pv 1) (pv 3) (pe_callTy call_int_str rfl (B.g "int") boot_int (pa_cons (pe_ix ix_list (pv 0) (pv 2) (fun _ _ => rfl)) pa_nil)) rfl)
            (pss_one (ps_set (i := 2) nd rfl (Or.inl rfl) (pe_op op_add (pv 2) pe_int))))))))) pss_nil)))
    (pss_one (ps_ret (pe_ifExp (pt_cmpR op_eq (pv 2) (pe_callB call_len rfl (B.g "len") boot_len (pa_cons (pv 0) pa_nil)) (nomark _)) (pv 1) (pv 2)))))))), ?_⟩
  · obtain ⟨L, ws, rfl, _⟩ := h
    rfl
  obtain ⟨L, ws, rfl, hL, qi, qj⟩ := h
  obtain ⟨hL, hlen, hws⟩ := hL
  have hlt : ∀ (i : Nat) (l : List Nat), ws[i]? = some l → l.length ≤ sizeLine ∧ asc l := fun i l e => hws l (List.mem_of_getElem? e)
  have hone : ∀ i : Nat, ∀ l ∈ ws[i]?.toList, asc l := fun i l hl => by
    cases e : ws[i]? with
    | none => rw [e] at hl; cases hl
    | some x =>
      rw [e] at hl
      obtain rfl := List.mem_singleton.mp hl
      exact (hlt i _ e).2
  refine fun D nD => ⟨upd_same, dJ ⟨0, 0, 0, false, 0⟩, rfl, by show 5 ≤ 15; decide, ?_⟩
  rw [merge_J]
  have hD : (upd (upd H D (.dK [])) D (.dK (dJ ⟨0, 0, 0, false, 0⟩))) D = some (.dK (dJ ⟨0, 0, 0, false, 0⟩)) := upd_same
  have s0 : Same H (upd (upd H D (.dK [])) D (.dK (dJ ⟨0, 0, 0, false, 0⟩))) := fun b o e => by rw [upd_ne (ne_of_none e nD), upd_ne (ne_of_none e nD)]; exact e
  generalize upd (upd H D (.dK [])) D (.dK (dJ ⟨0, 0, 0, false, 0⟩)) = H1 at hD s0 ⊢
  refine ⟨_, _, rfl, (by show 2 ≤ sizeLine; decide), fun R nR => ?_⟩
  have hR : (upd H1 R (.lst [.str "early", .str "late"])) R = some (.lst [.str "early", .str "late"]) := upd_same
  have nRD : R ≠ D := fun z => by rw [z, hD] at nR; cases nR
  replace hD : (upd H1 R (.lst [.str "early", .str "late"])) D = some (.dK (dJ ⟨0, 0, 0, false, 0⟩)) := (same_upd nR) _ _ hD
  replace s0 := s0.trans (same_upd (o := .lst [.str "early", .str "late"]) nR)
  generalize upd H1 R (.lst [.str "early", .str "late"]) = H2 at hR hD s0 ⊢
  refine ⟨R, rfl, ⟨_, SqL.of hR⟩, for_list (xs := [.str "early", .str "late"]) (fun i σ H' => Same H H' ∧ H' R = some (.lst [.str "early", .str "late"]) ∧ ∃ js lab, σ = [some (.ref L), some (.ref D), some (.int ((1 + 2 * i : Nat) : Int)), lab, none, none] ∧ H' D = some (.dK (dJ js)) ∧ R1 ws i js) ⟨s0, hR, _, _, rfl, hD, rfl⟩ (fun i σ H' _ p => SqL.of p.2.1) (fun i x σ H' hi p => ?_) (fun σ H' p => ?_)⟩
  · obtain ⟨s1, hR1, js, lab, rfl, hD1, r1⟩ := p
    obtain ⟨k, lb, js', rfl, elb, hk, c1, c2, c3⟩ := key1 hi r1
    have pi : (((1 + 2 * i : Nat) : Int) + 1) = ((1 + 2 * i : Nat) : Int) + 1 := rfl
    refine ⟨_, rfl, _, rfl, _, rfl, _, rfl, _, _, rfl, rfl, _, rfl, L, _, rfl, SqL.of (s1 _ _ hL), fun D2 nD2 => ?_⟩
    rw [cut1]
    refine ⟨_, rfl, (by show 1 ≤ sizeLine; decide), fun D3 nD3 => neS (ms := [k]) (SqL.of ((same_upd nD3) _ _ upd_same)) (SqL.of (by rw [upd_same, elb]; rfl)) (hone _) (fun l hl => by obtain rfl := List.mem_singleton.mp hl; exact hk) ⟨_, rfl, ?_⟩⟩
    rw [one_eq]
    have s2 : Same H' (upd (upd H' D2 (.lst ((ws[1 + 2 * i]?.toList).map vS))) D3 (.lst [.str lb])) := (same_upd nD2).trans (same_upd nD3)
    generalize upd (upd H' D2 (.lst ((ws[1 + 2 * i]?.toList).map vS))) D3 (.lst [.str lb]) = H3 at s2 ⊢
    refine ite2 (fun c => ?_) (fun c => ?_)
    · have nk : ws[1 + 2 * i]? ≠ some k := fun z => by rw [decide_eq_true z] at c; cases c
      exact ⟨_, rfl, qi _ (c1 nk) _ (s1.trans s2)⟩
    have ek : ws[1 + 2 * i]? = some k := by
      cases z : decide (ws[1 + 2 * i]? = some k) with
      | true => exact of_decide_eq_true z
      | false => rw [z] at c; exact absurd rfl c
    have s3 := s1.trans s2
    refine ⟨_, rfl, _, _, rfl, rfl, _, rfl, _, _, rfl, .inl ⟨_, SqL.of (s3 _ _ hL), rfl⟩, _, _, rfl, rfl, _, rfl, ?_⟩
    rw [List.length_map]
    refine ite2 (fun c4 => ?_) (fun c4 => ?_)
    · have c5 : ((ws.length : Nat) : Int) ≤ ((1 + 2 * i : Nat) : Int) + 1 := of_decide_eq_true c4
      refine iteT ⟨_, rfl, _, _, rfl, rfl, qi _ (c2 ek ?_) _ s3⟩
      unfold num
      rw [List.getElem?_eq_none (by omega)]
    have hp1 : 1 + 2 * i + 1 < ws.length := by
      have : ¬ (((ws.length : Nat) : Int) ≤ ((1 + 2 * i : Nat) : Int) + 1) := fun z => c4 (decide_eq_true z)
      omega
    have eg : ws[1 + 2 * i + 1]? = some ws[1 + 2 * i + 1] := List.getElem?_eq_getElem hp1
    have gat : atI (ws.map vS) (((1 + 2 * i : Nat) : Int) + 1) = some (vS ws[1 + 2 * i + 1]) := at_nat eg
    have hl3 := hlt _ _ eg
    generalize ws[1 + 2 * i + 1] = l at eg gat hl3
    refine ⟨_, rfl, _, rfl, _, _, rfl, rfl, L, _, _, _, rfl, rfl, SqL.of (s3 _ _ hL), gat, l, 0, 20, rfl, ⟨hl3.1, hl3.2, by decide⟩, fun H4 s4 => ⟨_, rfl, ?_⟩⟩
    have en : num ws (1 + 2 * i + 1) 0 20 = if numB l 0 20 = true then some (val l) else none := by
      unfold num
      rw [eg]
    refine ite2 (fun c6 => ?_) (fun c6 => ?_)
    · have nb : numB l 0 20 ≠ true := fun z => by rw [z] at c6; cases c6
      rw [if_neg nb] at en
      exact ⟨_, rfl, _, _, rfl, rfl, qi _ (c2 ek en) _ (s3.trans s4)⟩
    have nb : numB l 0 20 = true := by
      cases z : numB l 0 20 with
      | true => rfl
      | false => rw [z] at c6; exact absurd rfl c6
    rw [if_pos nb] at en
    obtain ⟨put, r2⟩ := c3 _ ek en
    have h34 := s2.trans s4
    refine ⟨_, rfl, _, rfl, _, _, rfl, rfl, L, _, _, _, rfl, rfl, SqL.of ((s3.trans s4) _ _ hL), gat, _, _, rfl, (num_text nb (by decide)).1, (num_text nb (by decide)).2, _, rfl, _, rfl, D, _, rfl, DPut.k (k := .inr lb) (h34 _ _ hD1) (by show 5 < sizeLine; decide), ?_⟩
    rw [put]
    refine ⟨_, rfl, _, _, rfl, rfl, fun b o e => ?_, ?_, js' (val l), some (.str lb), ?_, upd_same, r2⟩
    · rw [upd_ne (ne_of_none e nD)]
      exact (s3.trans s4) b o e
    · rw [upd_ne nRD]
      exact h34 _ _ hR1
    · show [some (V.ref L), some (V.ref D), some (V.int (((1 + 2 * i : Nat) : Int) + 2)), some (V.str lb), none, none] = _
      rw [show (((1 + 2 * i : Nat) : Int) + 2) = ((1 + 2 * (i + 1) : Nat) : Int) by omega]
  · obtain ⟨s1, hR1, js, lab, rfl, hD1, r1⟩ := p
    obtain ⟨r2, he, hl⟩ := r1
    refine spr_read rfl hD1 ?_
    refine ⟨(by show 2 ≤ sizeLine; decide), fun T1 n1 => ⟨(by show 2 ≤ sizeLine; decide), fun T2 n2 => ?_⟩⟩
    refine ⟨_, rfl, .inl ⟨_, rfl, _, _, rfl, (by show 2 ≤ sizeLine; decide), fun T3 n3 => ⟨(by show 3 ≤ sizeLine; decide), fun R2 nR2 => ?_⟩⟩⟩
    have t1 : (upd (upd (upd (upd H' T1 (.tup [.str "lost", .int 20])) T2 (.tup [.str "again", .int 0])) T3 (.tup [.str "apart", .int (mx1 js.e js.l)])) R2 (.lst [.ref T1, .ref T2, .ref T3])) T1 = some (.tup [.str "lost", .int 20]) := ((same_upd n2).trans ((same_upd n3).trans (same_upd nR2))) _ _ upd_same
    have t2 : (upd (upd (upd (upd H' T1 (.tup [.str "lost", .int 20])) T2 (.tup [.str "again", .int 0])) T3 (.tup [.str "apart", .int (mx1 js.e js.l)])) R2 (.lst [.ref T1, .ref T2, .ref T3])) T2 = some (.tup [.str "again", .int 0]) := ((same_upd n3).trans (same_upd nR2)) _ _ upd_same
    have t3 : (upd (upd (upd (upd H' T1 (.tup [.str "lost", .int 20])) T2 (.tup [.str "again", .int 0])) T3 (.tup [.str "apart", .int (mx1 js.e js.l)])) R2 (.lst [.ref T1, .ref T2, .ref T3])) T3 = some (.tup [.str "apart", .int (mx1 js.e js.l)]) := (same_upd nR2) _ _ upd_same
    have t4 : (upd (upd (upd (upd H' T1 (.tup [.str "lost", .int 20])) T2 (.tup [.str "again", .int 0])) T3 (.tup [.str "apart", .int (mx1 js.e js.l)])) R2 (.lst [.ref T1, .ref T2, .ref T3])) R2 = some (.lst [.ref T1, .ref T2, .ref T3]) := upd_same
    have s4 : Same H' (upd (upd (upd (upd H' T1 (.tup [.str "lost", .int 20])) T2 (.tup [.str "again", .int 0])) T3 (.tup [.str "apart", .int (mx1 js.e js.l)])) R2 (.lst [.ref T1, .ref T2, .ref T3])) := (same_upd n1).trans ((same_upd n2).trans ((same_upd n3).trans (same_upd nR2)))
    generalize hM : mx1 js.e js.l = M at t1 t2 t3 t4 s4
    have eM : (if spr js.e js.l > 1 then spr js.e js.l else 1) = M := hM
    rw [eM]
    generalize (upd (upd (upd (upd H' T1 (.tup [.str "lost", .int 20])) T2 (.tup [.str "again", .int 0])) T3 (.tup [.str "apart", .int M])) R2 (.lst [.ref T1, .ref T2, .ref T3])) = H4 at s4 t1 t2 t3 t4 ⊢
    have hD4 := s4 _ _ hD1
    have ne1 : T1 ≠ D := fun z => by rw [z, hD4] at t1; cases t1
    have ne2 : T2 ≠ D := fun z => by rw [z, hD4] at t2; cases t2
    have ne3 : T3 ≠ D := fun z => by rw [z, hD4] at t3; cases t3
    have ne4 : R2 ≠ D := fun z => by rw [z, hD4] at t4; cases t4
    refine ⟨R2, rfl, ⟨_, SqL.of t4⟩, for_list (xs := [.ref T1, .ref T2, .ref T3]) (fun i σ H' => (Same H H' ∧ H' R2 = some (.lst [.ref T1, .ref T2, .ref T3]) ∧ H' T1 = some (.tup [.str "lost", .int 20]) ∧ H' T2 = some (.tup [.str "again", .int 0]) ∧ H' T3 = some (.tup [.str "apart", .int M])) ∧
      ∃ (js : JS) (p : Nat) (sp lab mo : Option V), σ = [some (.ref L), some (.ref D), some (.int (p : Int)), lab, sp, mo] ∧ H' D = some (.dK (dJ js)) ∧ jhead ws 1 = jl ws (labs.drop i) p js ∧ js.e ≤ 20 ∧ js.l ≤ 20 ∧ mx1 js.e js.l = M)
      ⟨⟨s1.trans s4, t4, t1, t2, t3⟩, js, 5, _, _, _, rfl, hD4, r2, he, hl, hM⟩ (fun i σ H' _ p => SqL.of p.1.2.1) (fun i x σ H5 hi p => ?_) (fun σ H5 p => ?_)⟩
    · obtain ⟨⟨s5, u4, u1, u2, u3⟩, js, p, sp, lab, mo, rfl, hD5, r5, he, hl, hM⟩ := p
      obtain ⟨T, k, lb, m, rfl, hT, elb, hk, hm, hdr, hmo, pn, pa⟩ := key2 hi u1 u2 (by rw [hM]; exact u3) he hl
      refine ⟨T, _, rfl, SqT.of hT, rfl, _, _, rfl, _, _, rfl, rfl, ?_⟩
      refine ⟨_, rfl, _, rfl, _, rfl, _, rfl, _, _, rfl, rfl, _, rfl, L, _, rfl, SqL.of (s5 _ _ hL), fun D2 nD2 => ?_⟩
      rw [cut1]
      refine ⟨_, rfl, (by show 1 ≤ sizeLine; decide), fun D3 nD3 => eqS (ms := [k]) (SqL.of ((same_upd nD3) _ _ upd_same)) (SqL.of (by rw [upd_same, elb]; rfl)) (hone _) (fun l hl => by obtain rfl := List.mem_singleton.mp hl; exact hk) ⟨_, rfl, ?_⟩⟩
      rw [one_eq]
      have s6 : Same H5 (upd (upd H5 D2 (.lst ((ws[p]?.toList).map vS))) D3 (.lst [.str lb])) := (same_upd nD2).trans (same_upd nD3)
      generalize upd (upd H5 D2 (.lst ((ws[p]?.toList).map vS))) D3 (.lst [.str lb]) = H6 at s6 ⊢
      rw [hdr, jl] at r5
      have s7 := s5.trans s6
      -- what stays when the dict is written
      have keep : ∀ {H7 : Hp} {o : HO}, Same H6 H7 → (Same H (upd H7 D o) ∧ (upd H7 D o) R2 = some (.lst [.ref T1, .ref T2, .ref T3]) ∧ (upd H7 D o) T1 = some (.tup [.str "lost", .int 20]) ∧ (upd H7 D o) T2 = some (.tup [.str "again", .int 0]) ∧ (upd H7 D o) T3 = some (.tup [.str "apart", .int M])) := fun {H7 o} s8 => by
        have s9 := s6.trans s8
        refine ⟨fun b o e => ?_, ?_, ?_, ?_, ?_⟩
        · rw [upd_ne (ne_of_none e nD)]
          exact (s7.trans s8) b o e
        · rw [upd_ne ne4]; exact s9 _ _ u4
        · rw [upd_ne ne1]; exact s9 _ _ u1
        · rw [upd_ne ne2]; exact s9 _ _ u2
        · rw [upd_ne ne3]; exact s9 _ _ u3
      refine ite2 (fun c => ?_) (fun c => ?_)
      · have ek : ws[p]? = some k := of_decide_eq_true c
        rw [if_pos ek] at r5
        refine ⟨_, rfl, _, _, rfl, rfl, ?_⟩
        refine ⟨_, rfl, rfl, _, rfl, ?_⟩
        subst elb
        rw [S_again, dec_S]
        refine ite2 (fun c2 => ?_) (fun c2 => ?_)
        · have ea : k = kAgain := of_decide_eq_true c2
          rw [if_pos ea] at r5
          refine ⟨_, rfl, _, rfl, D, _, rfl, DPut.k (k := .inr (S k)) (s6 _ _ hD5) (by show 5 < sizeLine; decide), ?_⟩
          rw [pa ea]
          exact ⟨keep (Same.refl _), { js with ag := true }, p + 1, _, _, _, rfl, upd_same, r5, he, hl, hM⟩
        have na : k ≠ kAgain := fun z => c2 (decide_eq_true z)
        rw [if_neg na] at r5
        refine ⟨_, rfl, _, rfl, _, _, rfl, .inl ⟨_, SqL.of (s7 _ _ hL), rfl⟩, _, _, rfl, rfl, _, rfl, ?_⟩
        rw [List.length_map]
        refine ite2 (fun c4 => ?_) (fun c4 => ?_)
        · have c5 : ((ws.length : Nat) : Int) ≤ (p : Int) + 1 := of_decide_eq_true c4
          have en : num ws (p + 1) 1 (most k js) = none := by
            unfold num
            rw [List.getElem?_eq_none (by omega)]
          rw [en] at r5
          exact iteT ⟨_, rfl, qi _ r5 _ s7⟩
        have hp1 : p + 1 < ws.length := by
          have : ¬ (((ws.length : Nat) : Int) ≤ (p : Int) + 1) := fun z => c4 (decide_eq_true z)
          omega
        have eg : ws[p + 1]? = some ws[p + 1] := List.getElem?_eq_getElem hp1
        have gat : atI (ws.map vS) ((p : Int) + 1) = some (vS ws[p + 1]) := at_nat eg
        have hl3 := hlt _ _ eg
        generalize ws[p + 1] = l at eg gat hl3
        have en : num ws (p + 1) 1 (most k js) = if numB l 1 m = true then some (val l) else none := by
          unfold num
          rw [eg, hmo na]
        refine ⟨_, rfl, _, rfl, L, _, _, _, rfl, rfl, SqL.of (s7 _ _ hL), gat, _, rfl, l, 1, m, rfl, ⟨hl3.1, hl3.2, hm⟩, fun H7 s8 => ⟨_, rfl, ?_⟩⟩
        refine ite2 (fun c6 => ?_) (fun c6 => ?_)
        · have nb : numB l 1 m ≠ true := fun z => by rw [z] at c6; cases c6
          rw [en, if_neg nb] at r5
          exact ⟨_, rfl, qi _ r5 _ (s7.trans s8)⟩
        have nb : numB l 1 m = true := by
          cases z : numB l 1 m with
          | true => rfl
          | false => rw [z] at c6; exact absurd rfl c6
        rw [en, if_pos nb] at r5
        refine ⟨_, rfl, _, rfl, L, _, _, _, rfl, rfl, SqL.of ((s7.trans s8) _ _ hL), gat, _, _, rfl, (num_text nb hm).1, (num_text nb hm).2, _, rfl, _, rfl, D, _, rfl, DPut.k (k := .inr (S k)) (s8 _ _ (s6 _ _ hD5)) (by show 5 < sizeLine; decide), ?_⟩
        rw [pn na]
        refine ⟨_, rfl, _, _, rfl, rfl, keep s8, setJ k (val l) js, p + 2, sp, some (.str (S k)), some (.int m), ?_, upd_same, r5, ?_, ?_, ?_⟩
        · show [some (V.ref L), some (V.ref D), some (V.int ((p : Int) + 1 + 1)), some (V.str (S k)), sp, some (V.int m)] = _
          rw [show ((p : Int) + 1 + 1) = ((p + 2 : Nat) : Int) by omega]
        · unfold setJ; split <;> exact he
        · unfold setJ; split <;> exact hl
        · unfold setJ; split <;> exact hM
      · have nk : ws[p]? ≠ some k := fun z => c (decide_eq_true z)
        rw [if_neg nk] at r5
        exact ⟨⟨s7, s6 _ _ u4, s6 _ _ u1, s6 _ _ u2, s6 _ _ u3⟩, js, p, _, _, _, rfl, s6 _ _ hD5, r5, he, hl, hM⟩
    · obtain ⟨⟨s5, u4, u1, u2, u3⟩, js, p, sp, lab, mo, rfl, hD5, r5, he, hl, hM⟩ := p
      have r6 : jhead ws 1 = if p = ws.length then .inr js else .inl p := r5
      refine ⟨_, rfl, _, rfl, _, _, rfl, .inl ⟨_, SqL.of (s5 _ _ hL), rfl⟩, rfl, _, rfl, ?_⟩
      rw [List.length_map]
      refine ite2 (fun c => ?_) (fun c => ?_)
      · have e : p = ws.length := by
          have := V.int.inj (of_decide_eq_true c)
          omega
        rw [if_pos e] at r6
        exact ⟨_, rfl, qj js r6 D _ s5 hD5⟩
      · have e : p ≠ ws.length := fun z => c (by rw [z]; exact decide_eq_true rfl)
        rw [if_neg e] at r6
        exact ⟨_, rfl, qi p r6 _ s5⟩
end
end Q7
set_option maxHeartbeats 2000000
namespace Q7
open PySem PySem.Spec PyProof.Rows L2 SX
/-! ### plain: a letter's word stands as a word -/
theorem spl1_in {c x : Nat} (hx : x ≠ c) : ∀ (l acc : List Nat), x ∈ acc ∨ x ∈ l → ∃ p ∈ TL.spl [c] 0 acc l, x ∈ p
  | [], acc, h => by
    rw [spl1_nil]
    rcases h with h | h
    · exact ⟨acc, List.mem_singleton.mpr rfl, h⟩
    · cases h
  | d :: r, acc, h => by
    rw [spl1_cons]
    by_cases e : d = c
    · rw [if_pos e]
      rcases h with h | h
      · exact ⟨acc, List.mem_cons_self, h⟩
      · rcases List.mem_cons.mp h with h | h
        · exact absurd (h.trans e) hx
        · obtain ⟨p, hp, hxp⟩ := spl1_in hx r [] (.inr h)
          exact ⟨p, List.mem_cons_of_mem _ hp, hxp⟩
    · rw [if_neg e]
      refine spl1_in hx r (acc ++ [d]) ?_
      rcases h with h | h
      · exact .inl (List.mem_append_left _ h)
      · rcases List.mem_cons.mp h with h | h
        · exact .inl (List.mem_append_right _ (by rw [h]; exact List.mem_singleton.mpr rfl))
        · exact .inr h
theorem wordOk_okW {w : List Nat} (h : wordOk w = true) : okW w = true := by
  unfold wordOk at h
  rcases Bool.or_eq_true_iff.mp h with h | h
  · rw [of_decide_eq_true h]
    decide
  have hp := List.all_eq_true.mp (Bool.and_eq_true_iff.mp h).2
  unfold okW
  rw [Bool.and_eq_true]
  refine ⟨?_, ?_⟩
  · cases w with
    | nil =>
      have z := hp [] (by unfold parts; rw [spl1_nil]; exact List.mem_singleton.mpr rfl)
      cases z
    | cons a r => simp
  · cases z : decide (10 ∈ w) with
    | false => rfl
    | true =>
      obtain ⟨p, pm, hx⟩ := spl1_in (c := 124) (x := 10) (by decide) w [] (.inr (of_decide_eq_true z))
      have y := hp p pm
      unfold partOk at y
      rcases Bool.or_eq_true_iff.mp y with y | y
      · rw [of_decide_eq_true y] at hx
        simp at hx
      · have y2 := (Bool.and_eq_true_iff.mp y).2
        unfold sgOk at y2
        have y3 := List.all_eq_true.mp (Bool.and_eq_true_iff.mp y2).2 10 hx
        exact absurd y3 (by decide)
theorem letOk_at {ws : List (List Nat)} {i : Nat} {w : List Nat} (h : ws[i]? = some w) (cl : Bool) : letOk ws i cl = if (wordOk w && (cl || !decide (w = [63]))) = true then some w else none := by
  by_cases c : (wordOk w && (cl || !decide (w = [63]))) = true
  · rw [if_pos c]
    refine letOk_yes ?_ c
    unfold cur
    rw [h]
    show (if okW w = true then some w else none) = some w
    rw [if_pos (wordOk_okW (Bool.and_eq_true_iff.mp c).1)]
  · rw [if_neg c]
    cases e : cur ws i with
    | none => exact letOk_none e
    | some v =>
      have := (cur_lt e).2.1
      rw [h] at this
      rw [← Option.some.inj this] at e
      exact letOk_no e c
theorem letOk_out {ws : List (List Nat)} {i : Nat} (h : ws.length ≤ i) (cl : Bool) : letOk ws i cl = none := by
  refine letOk_none ?_
  unfold cur
  rw [List.getElem?_eq_none h]
theorem letOk_T {ws : List (List Nat)} {i : Nat} {w : List Nat} (h : ws[i]? = some w) : letOk ws i true = if wordOk w = true then some w else none := by
  rw [letOk_at h]
  simp
theorem badL_all {ws : List (List Nat)} : ∀ (m i : Nat), (∀ k w, i ≤ k → k < i + m → ws[k]? = some w → wordOk w = true) → i + m ≤ ws.length → badL ws i m = none
  | 0, i, _, _ => rfl
  | m + 1, i, h, hl => by
    have e : ws[i]? = some ws[i] := List.getElem?_eq_getElem (by omega)
    rw [badL, letOk_T e, if_pos (h i _ (Nat.le_refl i) (by omega) e), if_neg (by intro z; cases z)]
    exact badL_all m (i + 1) (fun k w h1 h2 => h k w (by omega) (by omega)) (by omega)
theorem badL_first {ws : List (List Nat)} {j : Nat} {v : List Nat} (hj : ws[j]? = some v) (hv : wordOk v = false) : ∀ (m i : Nat), (∀ k w, i ≤ k → k < j → ws[k]? = some w → wordOk w = true) → i ≤ j → j < i + m → badL ws i m = some j
  | 0, i, _, h1, h2 => absurd h2 (by omega)
  | m + 1, i, h, h1, h2 => by
    have hl := (List.getElem?_eq_some_iff.mp hj).1
    have e : ws[i]? = some ws[i] := List.getElem?_eq_getElem (by omega)
    by_cases c : i = j
    · subst c
      rw [badL, letOk_T hj, hv]
      rfl
    · rw [badL, letOk_T e, if_pos (h i _ (Nat.le_refl i) (by omega) e), if_neg (by intro z; cases z)]
      exact badL_first hj hv m (i + 1) (fun k w g1 g2 => h k w (by omega) g2) (by omega) (by omega)
end Q7
set_option maxHeartbeats 2000000
namespace Q7
open PySem PySem.Spec PyProof.Rows L2 SX
/-! ### lists of the law's letters -/
def UpD (D : Addr) (H H' : Hp) : Prop := ∀ b o, b ≠ D → H b = some o → H' b = some o
theorem UpD.of {D : Addr} {H H' : Hp} (s : Same H H') : UpD D H H' := fun b o _ e => s b o e
theorem UpD.put {D : Addr} {H H' : Hp} {o : HO} (u : UpD D H H') : UpD D H (upd H' D o) := fun b q n e => by rw [upd_ne n]; exact u b q n e
theorem LetV.upD {D : Addr} {H H' : Hp} {acc : List V} (hD : H D = some (.lst acc)) (u : UpD D H H') {w : List Nat} {x : V} (h : LetV H w x) : LetV H' w x := h.imp id fun ⟨n, p, e, hp⟩ => ⟨n, p, e, u p _ (fun z => by rw [z, hD] at hp; cases hp) hp⟩
theorem LLet.upD {D R : Addr} {H H' : Hp} {acc : List V} (hD : H D = some (.lst acc)) (hR : R ≠ D) (u : UpD D H H') {w : List Nat} (h : LLet H w R) : LLet H' w R :=
  ⟨fun e => (h.1 e).imp fun x ⟨h1, h2⟩ => ⟨u R _ hR h1, h2.upD hD u⟩, fun e => u R _ hR (h.2 e)⟩
theorem LLet.same {R : Addr} {H H' : Hp} (s : Same H H') {w : List Nat} (h : LLet H w R) : LLet H' w R :=
  ⟨fun e => (h.1 e).imp fun x ⟨h1, h2⟩ => ⟨s R _ h1, h2.up (sameTup s)⟩, fun e => s R _ (h.2 e)⟩
inductive LLs (D : Addr) (H : Hp) : List (List Nat) → List V → Prop where
  | nil : LLs D H [] []
  | cons {w : List Nat} {R : Addr} {ws : List (List Nat)} {xs : List V} (h : LLet H w R) (n : R ≠ D) (r : LLs D H ws xs) : LLs D H (w :: ws) (.ref R :: xs)
theorem LLs.upD {D : Addr} {H H' : Hp} {acc : List V} (hD : H D = some (.lst acc)) (u : UpD D H H') : ∀ {ws : List (List Nat)} {xs : List V}, LLs D H ws xs → LLs D H' ws xs
  | _, _, .nil => .nil
  | _, _, .cons h n r => .cons (h.upD hD n u) n (r.upD hD u)
theorem LLs.same {D : Addr} {H H' : Hp} (s : Same H H') : ∀ {ws : List (List Nat)} {xs : List V}, LLs D H ws xs → LLs D H' ws xs
  | _, _, .nil => .nil
  | _, _, .cons h n r => .cons (h.same s) n (r.same s)
theorem LLs.snoc {D : Addr} {H : Hp} {w : List Nat} {R : Addr} : ∀ {ws : List (List Nat)} {xs : List V}, LLs D H ws xs → LLet H w R → R ≠ D → LLs D H (ws ++ [w]) (xs ++ [.ref R])
  | _, _, .nil, h, n => .cons h n .nil
  | _, _, .cons h' n' r, h, n => .cons h' n' (r.snoc h n)
theorem LLs.len {D : Addr} {H : Hp} : ∀ {ws : List (List Nat)} {xs : List V}, LLs D H ws xs → xs.length = ws.length
  | _, _, .nil => rfl
  | _, _, .cons _ _ r => congrArg (· + 1) r.len
/-- all of them letters: what they are -/
theorem LLs.ys {D : Addr} {H : Hp} : ∀ {ws : List (List Nat)} {xs : List V}, LLs D H ws xs → (∀ w ∈ ws, wordOk w = true) → ∃ ys, LetVs H ws ys ∧ ∀ (i : Nat) (x : V), xs[i]? = some x → ∃ (R : Addr) (y : V), x = V.ref R ∧ H R = some (.lst [y]) ∧ ys[i]? = some y
  | _, _, .nil, _ => ⟨[], .nil, fun i x h => by cases h⟩
  | w :: ws, _, .cons (R := R) h n r, ok => by
    obtain ⟨ys, h1, h2⟩ := r.ys fun w hw => ok w (List.mem_cons_of_mem _ hw)
    obtain ⟨y, hy, v⟩ := h.1 (ok w List.mem_cons_self)
    refine ⟨y :: ys, .cons v h1, fun i x hx => ?_⟩
    cases i with
    | zero => exact ⟨R, y, (Option.some.inj hx).symm, hy, rfl⟩
    | succ i => exact h2 i x hx
def dLe (w : List Nat) : PyData := if w = [63] then .none else .tuple ((lets w).map dS)
def dLet (w : List Nat) : PyData := if wordOk w = true then .list [dLe w] else .list []
theorem LetV.dp {K : PySem.W.Frag} {H : Hp} {w : List Nat} {x : V} (h : LetV H w x) : Dp K H x (dLe w) := by
  unfold dLe
  rcases h with ⟨e, rfl⟩ | ⟨n, p, rfl, hp⟩
  · rw [if_pos e]; exact .non
  · rw [if_neg n]; exact .tup (SqT.of hp) (dp_strs _)
theorem LetVs.dp {K : PySem.W.Frag} {H : Hp} : ∀ {ws : List (List Nat)} {xs : List V}, LetVs H ws xs → DpAll K H xs (ws.map dLe)
  | _, _, .nil => .nil
  | _, _, .cons h r => .cons h.dp r.dp
theorem LLet.dp {K : PySem.W.Frag} {H : Hp} {w : List Nat} {R : Addr} (h : LLet H w R) : Dp K H (.ref R) (dLet w) := by
  unfold dLet
  by_cases c : wordOk w = true
  · rw [if_pos c]
    obtain ⟨x, h1, h2⟩ := h.1 c
    exact .lst (SqL.of h1) (.cons h2.dp .nil)
  · rw [if_neg c]
    exact .lst (SqL.of (h.2 (Bool.eq_false_iff.mpr c))) .nil
theorem LLs.dp {K : PySem.W.Frag} {D : Addr} {H : Hp} : ∀ {ws : List (List Nat)} {xs : List V}, LLs D H ws xs → DpAll K H xs (ws.map dLet)
  | _, _, .nil => .nil
  | _, _, .cons h _ r => .cons h.dp r.dp
theorem lets_asc {w : List Nat} (h : asc w) : ∀ l ∈ lets w, asc l := fun l hl => by
  unfold lets at hl
  obtain ⟨p, hp, rfl⟩ := List.mem_map.mp hl
  split
  · intro x hx; cases hx
  · intro x hx
    rcases (spl1_mem w [] p hp).2.2 x hx with z | z
    · cases z
    · exact h x z
theorem dLe_ok {w : List Nat} (h : asc w) : (dLe w).canLay0 = true ∧ (dLe w).depth ≤ 1 := by
  unfold dLe
  by_cases c : w = [63]
  · rw [if_pos c]; exact ⟨rfl, Nat.zero_le _⟩
  · rw [if_neg c]
    refine ⟨lay_strs (lets_asc h), ?_⟩
    show PyData.depthAll ((lets w).map dS) + 1 ≤ 1
    rw [depth_strs]
    exact Nat.le_refl 1
theorem dLet_ok {w : List Nat} (h : asc w) : (dLet w).canLay0 = true ∧ (dLet w).depth ≤ 2 := by
  unfold dLet
  by_cases c : wordOk w = true
  · rw [if_pos c]
    obtain ⟨h1, h2⟩ := dLe_ok h
    refine ⟨?_, ?_⟩
    · show ((dLe w).canLay0 && true) = true
      rw [h1]; rfl
    · show max (dLe w).depth 0 + 1 ≤ 2
      omega
  · rw [if_neg c]; exact ⟨rfl, by decide⟩
theorem dLets_ok : ∀ {ws : List (List Nat)}, (∀ w ∈ ws, asc w) → PyData.canLayAll0 (ws.map dLet) = true ∧ PyData.depthAll (ws.map dLet) ≤ 2
  | [], _ => ⟨rfl, Nat.zero_le _⟩
  | w :: ws, h => by
    obtain ⟨h1, h2⟩ := dLet_ok (h w List.mem_cons_self)
    obtain ⟨h3, h4⟩ := dLets_ok fun v hv => h v (List.mem_cons_of_mem _ hv)
    refine ⟨?_, ?_⟩
    · show ((dLet w).canLay0 && PyData.canLayAll0 (ws.map dLet)) = true
      rw [h1, h3]; rfl
    · show max (dLet w).depth (PyData.depthAll (ws.map dLet)) ≤ 2
      omega
theorem shaped_dLets {ws : List (List Nat)} (h : ∀ w ∈ ws, asc w) : SeqAt.shaped (.list (ws.map dLet)) = true := by
  obtain ⟨h1, h2⟩ := dLets_ok h
  show (PyData.canLayAll0 (ws.map dLet) && decide (PyData.depthAll (ws.map dLet) + 1 ≤ 64)) = true
  rw [h1, decide_eq_true (by omega)]
  rfl
theorem eqv_dLet (w : List Nat) : PyData.eqv (dLet w) (.list []) = !wordOk w := by
  unfold dLet
  cases wordOk w <;> rfl
theorem eqv_dLets (ws : List (List Nat)) : PyData.eqv (.list (ws.map dLet)) (.list []) = decide (ws = []) := by
  cases ws <;> rfl
theorem any_dLets (ws : List (List Nat)) : ((ws.map dLet).any fun z => PyData.eqv z (.list [])) = ws.any fun w => !wordOk w := by
  rw [List.any_map]
  exact congrArg (fun f => List.any ws f) (funext fun w => eqv_dLet w)
theorem first_bad : ∀ {ws : List (List Nat)}, (ws.any fun w => !wordOk w) = true → ∃ (j : Nat) (v : List Nat), ws[j]? = some v ∧ wordOk v = false ∧ ∀ (m : Nat) (w : List Nat), m < j → ws[m]? = some w → wordOk w = true
  | [], h => by cases h
  | w :: ws, h => by
    cases c : wordOk w with
    | false => exact ⟨0, w, rfl, c, fun m _ hm => absurd hm (Nat.not_lt_zero _)⟩
    | true =>
      rw [List.any_cons, c] at h
      obtain ⟨j, v, h1, h2, h3⟩ := first_bad (ws := ws) h
      refine ⟨j + 1, v, h1, h2, fun m u hm hu => ?_⟩
      cases m with
      | zero => rw [← Option.some.inj hu]; exact c
      | succ m => exact h3 m u (by omega) hu
end Q7
set_option maxHeartbeats 2000000
namespace Q7
open PySem PySem.Spec PyProof.Rows L2 SX
/-! ### plain: the law's kinds -/
def kdS : Kd → V
  | .letters => .str "x"
  | .look => .str "l"
  | .number => .str "n"
def kdD (A1 A2 A3 : Addr) : List (Key × V) := [(.inr "looks", .ref A1), (.inr "alike", .ref A2), (.inr "next", .ref A3)]
theorem merge_kd (A1 A2 A3 : Addr) : mergeK [] (kdD A1 A2 A3) = kdD A1 A2 A3 := by
  unfold kdD mergeK
  simp only [List.foldl_cons, List.foldl_nil, putK, List.any_nil, List.any_cons, List.nil_append, List.cons_append, List.map_cons, List.map_nil]
  simp (config := { decide := true }) only [if_true, if_false]
  rfl
theorem key_nm {s : String} {n : List Nat} (h : n ≠ nm s) : ¬ (Sum.inr (Str.ofString s) : Key) = .inr (S n) := fun z => h (by
  have := Sum.inr.inj z
  rw [nmS] at this
  exact (S_inj this).symm)
theorem key_nm' {s : String} {n : List Nat} (h : n = nm s) : (Sum.inr (Str.ofString s) : Key) = .inr (S n) := by rw [h, nmS]
theorem kinds_at {H : Hp} {A1 A2 A3 Z : Addr} {n : List Nat} (h1 : H A1 = some (.lst [.str "n"])) (h2 : H A2 = some (.lst [.str "n", .str "n"])) (h3 : H A3 = some (.lst [.str "l", .str "n"])) (hz : H Z = some (.lst [])) (nt : n ≠ nm "take") :
    ∃ A, (valV (kdD A1 A2 A3) (.inr (S n))).getD (.ref Z) = .ref A ∧ H A = some (.lst ((thingsOf n).map kdS)) := by
  unfold kdD thingsOf
  rw [if_neg nt]
  by_cases e1 : n = nm "looks"
  · rw [if_pos e1, valV_pos (key_nm' e1)]
    exact ⟨A1, rfl, h1⟩
  rw [if_neg e1, valV_neg (key_nm e1)]
  by_cases e2 : n = nm "alike"
  · rw [if_pos e2, valV_pos (key_nm' e2)]
    exact ⟨A2, rfl, h2⟩
  rw [if_neg e2, valV_neg (key_nm e2)]
  by_cases e3 : n = nm "next"
  · rw [if_pos e3, valV_pos (key_nm' e3)]
    exact ⟨A3, rfl, h3⟩
  rw [if_neg e3, valV_neg (key_nm e3)]
  exact ⟨Z, rfl, hz⟩
theorem no_letters {n : List Nat} (nt : n ≠ nm "take") : ∀ k ∈ thingsOf n, k ≠ .letters := by
  unfold thingsOf
  rw [if_neg nt]
  intro k hk
  split at hk
  · rw [List.mem_singleton.mp hk]; decide
  split at hk
  · intro z; rw [z] at hk; revert hk; decide
  split at hk
  · intro z; rw [z] at hk; revert hk; decide
  cases hk
def names13 : List String := ["open", "undo", "redo", "begin", "keep", "drop", "told", "span", "need", "forced", "looks", "alike", "next"]
theorem nm13_in : ∀ m ∈ names13.map nm, m ∈ names := by decide
theorem nm13_out : ∀ m ∈ names, m ∈ names13.map nm ∨ isJ m = true ∨ m = nm "take" := by decide
theorem eqv_two (w : List Nat) : (([.list [], .list [.none]] : List PyData).any fun z => PyData.eqv z (dLet w)) = !(wordOk w && !decide (w = [63])) := by
  unfold dLet dLe
  cases wordOk w with
  | false => rfl
  | true => by_cases c : w = [63] <;> simp only [c, if_true, if_false, decide_true, decide_false] <;> rfl
theorem numB_nil (lo hi : Int) : numB [] lo hi = false := rfl
theorem wordOk_nil : wordOk [] = false := by decide +kernel
theorem word_read {σ : L2.St} {H : Hp} {Q : VK} {K : PySem.W.Frag} {D : Addr} {ws : List (List Nat)} {i : Nat} (h1 : σ[1]? = some (some (.ref D))) (h7 : σ[7]? = some (some (.int (i : Int)))) (hD : SqL K H D (ws.map vS)) (q : Q (vS ((ws[i + 1]?).getD [])) H) :
    tIf (tTest (tOp (rI0 fun i j => V.bl (decide (i < j))) (tOp (rI0 fun i j => V.int (i + j)) (tVar 7) (tC (.int 1))) (tCB (fun xs H Q => ∃ x n, xs = [x] ∧ LenV K x H n ∧ Q (.int n) H) (tCons (tVar 1) tNil))))
      (tOp (rIxL K) (tVar 1) (tOp (rI0 fun i j => V.int (i + j)) (tVar 7) (tC (.int 1)))) (tC (.str "")) σ H Q := by
  refine ⟨_, h7, _, _, rfl, rfl, _, h1, _, _, rfl, .inl ⟨_, hD, rfl⟩, _, _, rfl, rfl, _, rfl, ?_⟩
  rw [List.length_map]
  refine ite2 (fun c => ?_) (fun c => ?_)
  · have c2 : (i : Int) + 1 < (ws.length : Int) := of_decide_eq_true c
    have e : ws[i + 1]? = some ws[i + 1] := List.getElem?_eq_getElem (by omega)
    rw [e] at q
    exact ⟨_, h1, _, h7, _, _, rfl, rfl, D, _, _, _, rfl, rfl, hD, at_nat e, q⟩
  · have c2 : ws.length ≤ i + 1 := by
      have : ¬ ((i : Int) + 1 < (ws.length : Int)) := fun z => c (decide_eq_true z)
      omega
    rw [List.getElem?_eq_none c2] at q
    rw [show (V.str "") = vS [] from congrArg V.str S_empty]
    exact q
end Q7
set_option maxHeartbeats 8000000
namespace Q7
open PySem PySem.Spec PyProof.Rows L2 SX
/-! ### _law_due -/
theorem u65 {n m k : Nat} (h : n + 16 * k + 200 < m) : n + 65 < m := by omega
theorem in_names (ls : List String) {n : List Nat} : inV (vS n) (ls.map fun s => V.str (Str.ofString s)) = decide (n ∈ ls.map nm) := by
  rw [show (ls.map fun s => V.str (Str.ofString s)) = (ls.map nm).map vS by rw [List.map_map]; exact List.map_congr_left fun s _ => congrArg V.str (nmS s)]
  exact inV_S _
theorem isJ_mem {n : List Nat} (h : isJ n = true) : n ∈ names := by
  unfold isJ at h
  rcases Bool.or_eq_true_iff.mp h with h | h
  · rw [of_decide_eq_true h]; decide
  · rw [of_decide_eq_true h]; decide
def spLawDue : Sp := fun vs H Q _ => ∃ t : List Nat, vs = [.str (S t)] ∧ (t.length + 2 ≤ sizeLine ∧ asc t) ∧ (∀ i, out (words t) = .bad i → ∀ H', Same H H' → Q (.int i) H') ∧
    (∀ n js, out (words t) = .jum n js → ∀ T D H', Same H H' → H' T = some (.tup [vS n, .ref D]) → H' D = some (.dK (dJ js)) → Q (.ref T) H') ∧
    (∀ n, out (words t) = .row n → ∀ T xs H', Same H H' → H' T = some (.tup (vS n :: xs)) → ThVs H' (words t) (thingsOf n) 1 (words t).length xs → Q (.ref T) H')
section
variable {P : Program} {w : World} {K : PySem.W.Frag} {mg : Str → Option Value} {base : Heap} {f : Addr} {fd : FuncData}
theorem ok_lawdue (F : FnP K "_law_due" "_law_due" (top 46) [] f fd) (b : Binds K fd ["_law_text"] []) (B : Blt mg) (cN : Nam CX0 P w K mg base 1 "_law_is_number" spLawNum) (cL : Nam CX0 P w K mg base 1 "_law_letter" spLawLet) (cJ : Nam CX0 P w K mg base 2 "_law_jumble" (spLawJum K)) : FnR P w K mg base CX0 3 f spLawDue := by
  have sc : FnScope ["_law_text", "_law_words", "_law_name", "_law_told", "_law_found", "_law_kinds", "_law_things", "_law_at", "_law_kind", "_law_word_here", "_law_letter_here", "_law_one"] ["_law_text"] (defScope (top 46)) := sc_by (by decide +kernel)
  have nd := sc.nd
  refine fnp0 F b sc (fun vs H Q E h => ?_) fun cdv A outer s H vs Q E hr h => ⟨_,
    (pss_cons (ps_set (i := 1) nd rfl (Or.inl rfl) (pe_split (pv 0) pe_str))
    (pss_cons (ps_set (i := 2) nd rfl (Or.inl rfl) (pe_ix ix_list (pv 1) pe_int (fun _ _ => rfl)))
    (pss_cons (ps_if (pt_cmpR op_in_seq (pv 2) (pe_lst (pa_cons pe_str (pa_cons pe_str pa_nil))) rfl) (pss_cons (ps_set (i := 3) nd rfl (Or.inl rfl) (pe_nam cJ hr (by decide) rfl pass_no (pa_cons (pv 1) pa_nil)))
      (pss_one (ps_ret (pe_ifExp (pt_val (pe_callB call_isi rfl (B.g "isinstance") boot_isinstance (pa_cons (pv 3) (pa_cons (pe_bltn (v := .ty "int") rfl (B.g "int") boot_int rfl) pa_nil)))) (pv 3) (pe_tup (pa_cons (pv 2) (pa_cons (pv 3) pa_nil))))))) pss_nil)
    (pss_cons (ps_if (pt_cmpR op_eq (pv 2) pe_str (nomark _)) (pss_cons (ps_setLc (i := 4) (own := [("_law_word_here", 9)]) (g := gName 9) (tt := tYes) rfl nd rfl rfl (sw_true rfl rfl rfl (by decide +kernel)) (pi_list (pe_slice sl_list (pv 1) (po_some pe_int) po_none)) (blkOk_by (own := [("_law_word_here", 9)]) (N := ["_law_text", "_law_words", "_law_name", "_law_told", "_law_found", "_law_kinds", "_law_things", "_law_at", "_law_kind", "_law_word_here", "_law_letter_here", "_law_one"]) (sc := defScope (top 46)) (by decide +kernel)) (fun _ _ _ _ _ => pg_name (i := 9) nd rfl (Or.inl rfl)) (fun _ _ _ _ _ => pts_nil) (fun _ _ _ _ _ => (pe_nam cL hr (by decide) rfl pass_no (pa_cons (pv 9) pa_nil))))
      (pss_one (ps_ret (pe_ifExp (pt_cmpR (op_eqD hr.units) (pv 4) (pe_lst pa_nil) (nomark _)) pe_int (pe_ifExp (pt_cmpR (op_inD (u65 (k := 2) hr.un)) (pe_lst pa_nil) (pv 4) rfl) (pe_op op_add (pe_bm PySem.F.plainAttrs_list PySem.F.slot_list_index PySem.F.type_list_index (mt_indexD (u65 (k := 2) hr.un)) (pv 4) (pa_cons (pe_lst pa_nil) pa_nil)) pe_int) (pe_tup (pa_cons (pv 2) (pa_cons (pe_callTy call_tuple_of rfl (B.g "tuple") boot_tuple (pa_cons (pe_lc (own := [("_law_one", 11)]) (g := gName 11) (tt := tYes) rfl nd (pi_list (pv 4)) (blkOk_by (own := [("_law_one", 11)]) (N := ["_law_text", "_law_words", "_law_name", "_law_told", "_law_found", "_law_kinds", "_law_things", "_law_at", "_law_kind", "_law_word_here", "_law_letter_here", "_law_one"]) (sc := defScope (top 46)) (by decide +kernel)) (fun _ _ _ _ _ => pg_name (i := 11) nd rfl (Or.inl rfl)) (fun _ _ _ _ _ => pts_nil) (fun _ _ _ _ _ => (pe_ix (r := rIxL K) ix_list (pv 11) pe_int (fun _ _ => rfl)))) pa_nil)) pa_nil)))))))) pss_nil)
    (pss_cons (ps_set (i := 5) nd rfl (Or.inl rfl) (pe_dget2 (u1 hr.units) (pe_disp (pps_cons pe_str (pe_lst (pa_cons pe_str pa_nil)) (pps_cons pe_str (pe_lst (pa_cons pe_str (pa_cons pe_str pa_nil))) (pps_cons pe_str (pe_lst (pa_cons pe_str (pa_cons pe_str pa_nil))) pps_nil))) rfl rfl (by decide) (by decide)) (pv 2) (pe_lst pa_nil) ⟨rfl, rfl, rfl, rfl⟩))
    (pss_cons (ps_if (pt_cmpR op_notIn_seq (pv 2) (pe_lst (pa_cons pe_str (pa_cons pe_str (pa_cons pe_str (pa_cons pe_str (pa_cons pe_str (pa_cons pe_str (pa_cons pe_str (pa_cons pe_str (pa_cons pe_str (pa_cons pe_str (pa_cons pe_str (pa_cons pe_str (pa_cons pe_str pa_nil)))))))))))))) rfl) (pss_one (ps_ret pe_int)) pss_nil)
    (pss_cons (ps_set (i := 6) nd rfl (Or.inl rfl) (pe_lst (pa_cons (pv 2) pa_nil)))
    (pss_cons (ps_for (passes_of rfl) rfl (pi_enum rfl (B.g "enumerate") (pa_cons (pv 5) pa_nil)) (pg_tup rfl (pgs_cons (pg_name (i := 7) nd rfl (.inl rfl)) (pgs_cons (pg_name (i := 8) nd rfl (.inl rfl)) pgs_nil)))
      (pss_cons (ps_set (i := 9) nd rfl (Or.inl rfl) (pe_ifExp (pt_cmpR op_lt (pe_op op_add (pv 7) pe_int) (pe_callB call_len rfl (B.g "len") boot_len (pa_cons (pv 1) pa_nil)) (nomark _)) (pe_ix ix_list (pv 1) (pe_op op_add (pv 7) pe_int) (fun _ _ => rfl)) pe_str))
      (pss_cons (ps_set (i := 10) nd rfl (Or.inl rfl) (pe_ifExp (pt_cmpR op_eq (pv 8) pe_str (nomark _)) (pe_nam cL hr (by decide) rfl pass_no (pa_cons (pv 9) pa_nil)) (pe_lst pa_nil)))
      (pss_cons (ps_if (PW.pt (pw_or (PW.pt (pw_and (pt_cmpR op_eq (pv 8) pe_str (nomark _)) (pw_and1 (pt_not (pt_val (pe_nam cN hr (by decide) rfl pass_no (pa_cons (pv 9) (pa_cons pe_int (pa_cons (pe_op op_sub (pe_op op_pow pe_int pe_int) pe_int) pa_nil))))))))) (pw_or1 (PW.pt (pw_and (pt_cmpR op_eq (pv 8) pe_str (nomark _)) (pw_and1 (pt_cmpR (op_inD (u65 (k := 2) hr.un)) (pv 10) (pe_lst (pa_cons (pe_lst pa_nil) (pa_cons (pe_lst (pa_cons pe_non pa_nil)) pa_nil))) rfl))))))) (pss_one (ps_ret (pe_op op_add (pv 7) pe_int))) pss_nil)
      (pss_one (ps_expr (pe_bm PySem.F.plainAttrs_list PySem.F.slot_list_append PySem.F.type_list_append mt_append (pv 6) (pa_cons (pe_ifExp (pt_cmpR op_eq (pv 8) pe_str (nomark _)) (pe_callTy call_int_str rfl (B.g "int") boot_int (pa_cons (pv 9) pa_nil)) (pe_ix ix_list (pv 10) pe_int (fun _ _ => rfl))) pa_nil))))))))
    (pss_one (ps_ret (pe_ifExp (pt_cmpR op_eq (pe_callB call_len rfl (B.g "len") boot_len (pa_cons (pv 1) pa_nil)) (pe_callB call_len rfl (B.g "len") boot_len (pa_cons (pv 6) pa_nil)) (nomark _)) (pe_callTy call_tuple_of rfl (B.g "tuple") boot_tuple (pa_cons (pv 6) pa_nil)) (pe_callB call_len rfl (B.g "len") boot_len (pa_cons (pv 6) pa_nil))))))))))))), ?_⟩
  · obtain ⟨t, rfl, _⟩ := h
    rfl
  obtain ⟨t, rfl, ⟨ht, ha⟩, qb, qj, qr⟩ := h
  refine ⟨_, rfl, ⟨_, rfl⟩, _, _, rfl, rfl, by decide, by rw [S_len]; exact ht, fun D nD => ?_⟩
  rw [split_sp]
  have hD : upd H D (.lst (((words t).map S).map V.str)) D = some (.lst ((words t).map vS)) := by rw [upd_same, List.map_map]; rfl
  have s0 : Same H (upd H D (.lst (((words t).map S).map V.str))) := same_upd nD
  generalize upd H D (.lst (((words t).map S).map V.str)) = H1 at hD s0 ⊢
  have hlen : (words t).length ≤ t.length + 1 := spl1_len t []
  have hin : ∀ l ∈ words t, l.length ≤ t.length ∧ asc l := fun l hl => by
    have z := spl1_mem t [] l hl
    refine ⟨by have := z.2.1; rw [List.length_nil] at this; omega, fun x hx => ?_⟩
    rcases z.2.2 x hx with y | y
    · cases y
    · exact ha x y
  have hWs : ∀ H', Same H1 H' → WsOk K H' D (words t) := fun H' s' => ⟨s' _ _ hD, by omega, fun l hl => ⟨by have := (hin l hl).1; omega, (hin l hl).2⟩⟩
  have hne : words t ≠ [] := spl1_ne t []
  generalize words t = ws at *
  obtain ⟨n, r, rfl⟩ : ∃ n r, ws = n :: r := by
    cases ws with
    | nil => exact absurd rfl hne
    | cons n r => exact ⟨n, r, rfl⟩
  have eout : out (n :: r) = if n ∈ names then (if isJ n = true then (match jhead (n :: r) 1 with
    | .inl i => .bad i
    | .inr js => .jum n js) else (match advs (n :: r) (thingsOf n) 1 with
    | .inl j => .bad j
    | .inr j => if j < (n :: r).length then .bad j else .row n)) else .bad 0 := rfl
  refine ⟨_, rfl, D, _, 0, vS n, rfl, rfl, SqL.of hD, atI_nat (j := 0) rfl, ?_⟩
  refine ⟨_, rfl, (by show 2 ≤ sizeLine; decide), fun L1 nL1 => ⟨L1, _, rfl, .inl (SqL.of upd_same), rfl, rfl, _, rfl, ?_⟩⟩
  have s1 : Same H1 (upd H1 L1 (.lst [.str "jumble", .str "change"])) := same_upd nL1
  generalize upd H1 L1 (.lst [.str "jumble", .str "change"]) = H2 at s1 ⊢
  have ej : inV (vS n) [.str "jumble", .str "change"] = isJ n := by
    rw [show inV (vS n) [.str "jumble", .str "change"] = _ from in_names ["jumble", "change"]]
    unfold isJ
    rw [Bool.eq_iff_iff]
    simp
  rw [if_neg Bool.false_ne_true, ej]
  refine ite2 (fun c => ?_) (fun c => ?_)
  · have mn : n ∈ names := isJ_mem c
    rw [if_pos mn, if_pos c] at eout
    refine ⟨_, rfl, D, n :: r, rfl, hWs _ s1, fun i e H3 s3 => ?_, fun js e Dd H3 s3 hDd => ?_⟩
    · rw [e] at eout
      refine ⟨_, rfl, _, .ty "int", .type "int", .type "int", _, rfl, .ty _, .base (.int _), kit_int (by decide), _, rfl, ?_⟩
      exact iteT ⟨_, rfl, qb i eout _ (s0.trans (s1.trans s3))⟩
    · rw [e] at eout
      refine ⟨_, rfl, _, .ty "int", .type "dict", .type "int", _, rfl, .ty _, .base (.dK hDd), kit_int (by decide), _, rfl, ?_⟩
      refine iteF ⟨_, rfl, _, rfl, (by show 2 ≤ sizeLine; decide), fun T nT => ?_⟩
      exact qj n js eout T Dd _ (s0.trans (s1.trans (s3.trans (same_upd nT)))) upd_same ((same_upd nT) _ _ hDd)
  have nj : isJ n = false := Bool.eq_false_iff.mpr c
  refine ⟨_, rfl, rfl, _, rfl, ?_⟩
  have etk : decide (vS n = V.str "take") = decide (n = nm "take") := by rw [nmS]; exact dec_S
  rw [etk]
  have s02 := s0.trans s1
  refine ite2 (fun c2 => ?_) (fun c2 => ?_)
  · -- letters
    have en : n = nm "take" := of_decide_eq_true c2
    have mn : n ∈ names := by rw [en]; decide
    rw [if_pos mn, if_neg c] at eout
    have eth : thingsOf n = [.letters] := by rw [en]; decide
    rw [eth, advs] at eout
    have ead : adv (n :: r) .letters 1 = if (n :: r).length ≤ 1 then .inl 1 else match badL (n :: r) 1 ((n :: r).length - 1) with
      | some j => .inl j
      | none => .inr (n :: r).length := rfl
    have hasc : ∀ w ∈ r, asc w := fun w hw => (hin w (List.mem_cons_of_mem _ hw)).2
    refine ⟨_, rfl, _, rfl, D, _, rfl, SqL.of (s1 _ _ hD), fun C nC => ?_⟩
    have ecut : cutV ((n :: r).map vS) (some 1) none = r.map vS := by
      unfold cutV
      rw [show (some (1 : Int)) = some ((1 : Nat) : Int) from rfl, HT.sIx_nat, HT.sIx_none, List.length_map, List.length_cons, Nat.min_eq_left (by omega), List.take_of_length_le (by rw [List.length_drop, List.length_map, List.length_cons]; omega)]
      rfl
    rw [ecut]
    have hC : (upd H2 C (.lst (r.map vS))) C = some (.lst (r.map vS)) := upd_same
    have s2 : Same H2 (upd H2 C (.lst (r.map vS))) := same_upd nC
    generalize upd H2 C (.lst (r.map vS)) = H3 at hC s2 ⊢
    have hrl : (r.map vS).length = r.length := List.length_map ..
    refine ⟨C, rfl, ⟨_, SqL.of hC⟩, fun R nR => ?_⟩
    refine lc_it walk_list (fun i H' => Same H3 H' ∧ ∃ xs, H' R = some (.lst xs) ∧ LLs R H' (r.take i) xs) ⟨same_upd nR, [], upd_same, .nil⟩ (fun i H' _ p => SqL.of (p.1 _ _ hC)) (fun i x H' H'' hi p y => ?_) (fun H' p => ?_)
    · obtain ⟨rfl, hx⟩ := y
      obtain ⟨s3, xs, hR, ll⟩ := p
      rw [List.getElem?_map] at hx
      cases ew : r[i]? with
      | none => rw [ew] at hx; cases hx
      | some l =>
        rw [ew] at hx
        obtain rfl : vS l = x := Option.some.inj hx
        have hm := List.mem_of_getElem? ew
        have hl := (hin l (List.mem_cons_of_mem _ hm))
        refine ⟨rfl, ?_⟩
        unfold tYes
        dsimp only
        rw [if_pos rfl]
        refine ⟨_, rfl, l, rfl, ⟨by have := hl.1; omega, hl.2⟩, fun H4 R4 s4 n4 h4 => ⟨xs, s4 _ _ hR, ?_, ?_, xs ++ [.ref R4], upd_same, ?_⟩⟩
        · rw [ll.len, List.length_take]
          have : r.length + 1 ≤ t.length + 1 := by rw [List.length_cons] at hlen; exact hlen
          omega
        · exact same_put (s3.trans s4) nR
        · have hR4 : R4 ≠ R := fun z => by rw [z, hR] at n4; cases n4
          rw [List.take_succ, ew]
          exact ((ll.same s4).upD (s4 _ _ hR) (UpD.put fun b o _ e => e)).snoc (h4.upD (s4 _ _ hR) hR4 (UpD.put fun b o _ e => e)) hR4
    · obtain ⟨s3, xs, hR, ll⟩ := p
      rw [hrl, List.take_length] at ll
      have hDp : ∀ {H4 : Hp}, Same H' H4 → Dp K H4 (.ref R) (.list (r.map dLet)) := fun s4 => .lst (SqL.of (s4 _ _ hR)) (ll.same s4).dp
      have shp := shaped_dLets hasc
      refine ⟨_, rfl, (by show 0 ≤ sizeLine; decide), fun E1 nE1 => ⟨_, _, hDp (same_upd nE1), .lst (SqL.of upd_same) .nil, shp, rfl, _, rfl, ?_⟩⟩
      have s4 : Same H' (upd H' E1 (.lst [])) := same_upd nE1
      generalize upd H' E1 (.lst []) = H4 at s4 ⊢
      rw [eqv_dLets]
      have sH4 := s02.trans (s2.trans (s3.trans s4))
      refine ite2 (fun c3 => ?_) (fun c3 => ?_)
      · have er : r = [] := of_decide_eq_true c3
        rw [ead, if_pos (by rw [er]; exact Nat.le_refl 1)] at eout
        exact qb 1 eout _ sH4
      have hr1 : ¬ (n :: r).length ≤ 1 := by
        intro z
        rw [List.length_cons] at z
        have : r.length = 0 := by omega
        exact c3 (decide_eq_true (List.length_eq_zero_iff.mp this))
      rw [ead, if_neg hr1] at eout
      refine ⟨(by show 0 ≤ sizeLine; decide), fun E2 nE2 => ⟨_, rfl, .list [], r.map dLet, .lst (SqL.of upd_same) .nil, hDp (s4.trans (same_upd nE2)), rfl, shp, _, rfl, ?_⟩⟩
      have s5 : Same H4 (upd H4 E2 (.lst [])) := same_upd nE2
      generalize upd H4 E2 (.lst []) = H5 at s5 ⊢
      rw [any_dLets]
      refine ite2 (fun c4 => ?_) (fun c4 => ?_)
      · obtain ⟨j, v, hj, hv, hf⟩ := first_bad c4
        have hjl := (List.getElem?_eq_some_iff.mp hj).1
        have hbad : badL (n :: r) 1 ((n :: r).length - 1) = some (j + 1) := by
          refine badL_first (j := j + 1) (v := v) hj hv _ 1 (fun k w h1 h2 hk => ?_) (by omega) (by rw [List.length_cons]; omega)
          cases k with
          | zero => omega
          | succ k => exact hf k w (by omega) hk
        rw [hbad] at eout
        refine ⟨_, rfl, .inl ⟨rfl, _, SqL.of ((s4.trans s5) _ _ hR)⟩, (by show 0 ≤ sizeLine; decide), fun E3 nE3 => ⟨R, .ref E3, .list [], r.map dLet, j, dLet v, rfl, rfl, hDp ((s4.trans s5).trans (same_upd nE3)), .lst (SqL.of upd_same) .nil, shp, rfl, by rw [List.getElem?_map, hj]; rfl, by rw [eqv_dLet, hv]; rfl, fun m z' hm hz => ?_, _, _, rfl, rfl, ?_⟩⟩
        · rw [List.getElem?_map] at hz
          cases e : r[m]? with
          | none => rw [e] at hz; cases hz
          | some w =>
            rw [e] at hz
            rw [← Option.some.inj hz]
            show PyData.eqv (dLet w) (.list []) = false
            rw [eqv_dLet, hf m w hm e]
            rfl
        · exact qb (j + 1) eout _ (sH4.trans (s5.trans (same_upd nE3)))
      · have hall : ∀ w ∈ r, wordOk w = true := fun w hw => by
          cases z : wordOk w with
          | true => rfl
          | false => exact absurd (List.any_eq_true.mpr ⟨w, hw, by rw [z]; rfl⟩) c4
        have hbad : badL (n :: r) 1 ((n :: r).length - 1) = none := badL_all _ 1 (fun k w h1 h2 hk => by
          cases k with
          | zero => omega
          | succ k => exact hall w (List.mem_of_getElem? (show r[k]? = some w from hk))) (by rw [List.length_cons]; omega)
        rw [hbad] at eout
        have eout : out (n :: r) = if (n :: r).length < (n :: r).length then .bad (n :: r).length else .row n := eout
        rw [if_neg (Nat.lt_irrefl _)] at eout
        have ll5 := ll.same (s4.trans s5)
        obtain ⟨ys, hys, hat⟩ := ll5.ys hall
        refine ⟨_, rfl, _, rfl, R, rfl, ⟨_, SqL.of ((s4.trans s5) _ _ hR)⟩, fun R2 nR2 => ?_⟩
        have hxl := ll.len
        refine lc_map walk_list ys nR2 (by rw [hys.len, hxl]) (by rw [hxl]; rw [List.length_cons] at hlen; omega) (fun H6 s6 => SqL.of (((s4.trans s5).trans s6) _ _ hR)) (fun i x H6 H7 Kt hi s6 y hK => ?_) fun H6 s6 hR2 => ?_
        · obtain ⟨rfl, hx⟩ := y
          obtain ⟨R3, y, rfl, h3, hy⟩ := hat i x hx
          exact ⟨rfl, _, rfl, R3, [y], 0, y, rfl, rfl, SqL.of (s6 _ _ h3), rfl, hK y _ hy (Same.refl _)⟩
        · refine ⟨R2, ys, rfl, .inl ⟨SqL.of hR2, fun T nT => ⟨(by show 2 ≤ sizeLine; decide), fun T2 nT2 => ?_⟩⟩⟩
          have hv := (hys.up (sameTup s6)).up (sameTup ((same_upd (o := .tup ys) nT).trans (same_upd (o := .tup [vS n, .ref T]) nT2)))
          refine qr n eout T2 [.ref T] _ (sH4.trans (s5.trans (s6.trans ((same_upd nT).trans (same_upd nT2))))) upd_same ?_
          rw [eth]
          refine .cons ⟨T, ys, rfl, (same_upd nT2) _ _ upd_same, hv⟩ ?_ (.nil _)
          rw [ead, if_neg hr1, hbad]
  have nt : n ≠ nm "take" := fun z => c2 (decide_eq_true z)
  -- the kinds
  refine fun p np => ⟨(by show 1 ≤ sizeLine; decide), fun A1 n1 => ⟨(by show 2 ≤ sizeLine; decide), fun A2 n2 => ⟨(by show 2 ≤ sizeLine; decide), fun A3 n3 => ?_⟩⟩⟩
  have hp : (upd (upd (upd (upd H2 p (.dK [])) A1 (.lst [.str "n"])) A2 (.lst [.str "n", .str "n"])) A3 (.lst [.str "l", .str "n"])) p = some (.dK []) := ((same_upd n1).trans ((same_upd n2).trans (same_upd n3))) _ _ upd_same
  have h1 : (upd (upd (upd (upd H2 p (.dK [])) A1 (.lst [.str "n"])) A2 (.lst [.str "n", .str "n"])) A3 (.lst [.str "l", .str "n"])) A1 = some (.lst [.str "n"]) := ((same_upd n2).trans (same_upd n3)) _ _ upd_same
  have h2 : (upd (upd (upd (upd H2 p (.dK [])) A1 (.lst [.str "n"])) A2 (.lst [.str "n", .str "n"])) A3 (.lst [.str "l", .str "n"])) A2 = some (.lst [.str "n", .str "n"]) := (same_upd n3) _ _ upd_same
  have h3 : (upd (upd (upd (upd H2 p (.dK [])) A1 (.lst [.str "n"])) A2 (.lst [.str "n", .str "n"])) A3 (.lst [.str "l", .str "n"])) A3 = some (.lst [.str "l", .str "n"]) := upd_same
  have s2 : Same H2 (upd (upd (upd (upd H2 p (.dK [])) A1 (.lst [.str "n"])) A2 (.lst [.str "n", .str "n"])) A3 (.lst [.str "l", .str "n"])) := (same_upd np).trans ((same_upd n1).trans ((same_upd n2).trans (same_upd n3)))
  refine ⟨hp, kdD A1 A2 A3, rfl, by show 3 ≤ 15; decide, ?_⟩
  rw [merge_kd]
  generalize (upd (upd (upd (upd H2 p (.dK [])) A1 (.lst [.str "n"])) A2 (.lst [.str "n", .str "n"])) A3 (.lst [.str "l", .str "n"])) = H3 at hp h1 h2 h3 s2 ⊢
  have q1 : A1 ≠ p := fun z => by rw [z, hp] at h1; cases h1
  have q2 : A2 ≠ p := fun z => by rw [z, hp] at h2; cases h2
  have q3 : A3 ≠ p := fun z => by rw [z, hp] at h3; cases h3
  have s3 : Same H2 (upd H3 p (.dK (kdD A1 A2 A3))) := fun b o e => by rw [upd_ne (ne_of_none e np)]; exact s2 b o e
  replace h1 : (upd H3 p (.dK (kdD A1 A2 A3))) A1 = some (.lst [.str "n"]) := by rw [upd_ne q1]; exact h1
  replace h2 : (upd H3 p (.dK (kdD A1 A2 A3))) A2 = some (.lst [.str "n", .str "n"]) := by rw [upd_ne q2]; exact h2
  replace h3 : (upd H3 p (.dK (kdD A1 A2 A3))) A3 = some (.lst [.str "l", .str "n"]) := by rw [upd_ne q3]; exact h3
  have hp2 : (upd H3 p (.dK (kdD A1 A2 A3))) p = some (.dK (kdD A1 A2 A3)) := upd_same
  generalize (upd H3 p (.dK (kdD A1 A2 A3))) = H4 at hp2 h1 h2 h3 s3 ⊢
  refine ⟨p, rfl, .inl ⟨_, .inl hp2⟩, _, rfl, (by show 0 ≤ sizeLine; decide), fun Z nZ => ⟨_, DGet.k (k := .inr (S n)) ((same_upd nZ) _ _ hp2), ?_⟩⟩
  have s4 : Same H4 (upd H4 Z (.lst [])) := same_upd nZ
  obtain ⟨KA, eKA, hKA⟩ := kinds_at (s4 _ _ h1) (s4 _ _ h2) (s4 _ _ h3) (upd_same (H := H4) (a := Z)) nt
  rw [eKA]
  generalize upd H4 Z (.lst []) = H5 at s4 hKA ⊢
  -- the names
  refine ⟨_, rfl, (by show 13 ≤ sizeLine; decide), fun L3 nL3 => ⟨L3, _, rfl, .inl (SqL.of upd_same), rfl, rfl, _, rfl, ?_⟩⟩
  have s5 : Same H5 (upd H5 L3 (.lst [.str "open", .str "undo", .str "redo", .str "begin", .str "keep", .str "drop", .str "told", .str "span", .str "need", .str "forced", .str "looks", .str "alike", .str "next"])) := same_upd nL3
  have e13 : inV (vS n) [.str "open", .str "undo", .str "redo", .str "begin", .str "keep", .str "drop", .str "told", .str "span", .str "need", .str "forced", .str "looks", .str "alike", .str "next"] = decide (n ∈ names13.map nm) := in_names names13
  rw [if_pos rfl, e13]
  generalize upd H5 L3 (.lst [.str "open", .str "undo", .str "redo", .str "begin", .str "keep", .str "drop", .str "told", .str "span", .str "need", .str "forced", .str "looks", .str "alike", .str "next"]) = H6 at s5 ⊢
  have s06 := s02.trans (s3.trans (s4.trans s5))
  refine ite2 (fun c3 => ?_) (fun c3 => ?_)
  · have n13 : n ∉ names13.map nm := fun z => by rw [decide_eq_true z] at c3; cases c3
    have nn0 : n ∉ names := fun z => by
      rcases nm13_out n z with h | h | h
      · exact n13 h
      · exact c h
      · exact nt h
    rw [if_neg nn0] at eout
    exact qb 0 eout _ s06
  have m13 : n ∈ names13.map nm := by
    cases z : decide (n ∈ names13.map nm) with
    | true => exact of_decide_eq_true z
    | false => rw [z] at c3; exact absurd rfl c3
  have mn := nm13_in n m13
  rw [if_pos mn, if_neg c] at eout
  refine ⟨_, rfl, (by show 1 ≤ sizeLine; decide), fun TL nTL => ?_⟩
  have hTL : (upd H6 TL (.lst [vS n])) TL = some (.lst [vS n]) := upd_same
  have s6 : Same H6 (upd H6 TL (.lst [vS n])) := same_upd nTL
  have hKA6 := (s5.trans s6) _ _ hKA
  have s26 : Same H2 (upd H6 TL (.lst [vS n])) := s3.trans (s4.trans (s5.trans s6))
  have eTL := nTL
  generalize hH7 : upd H6 TL (.lst [vS n]) = H7 at hTL s6 hKA6 s26 ⊢
  have hkl : ((thingsOf n).map kdS).length = (thingsOf n).length := List.length_map ..
  have hk2 : (thingsOf n).length ≤ 2 := by
    have : ∀ n ∈ names, (thingsOf n).length ≤ 2 := by decide
    exact this n mn
  have hKT : KA ≠ TL := fun z => by
    have y := s5 _ _ hKA
    rw [z, nTL] at y
    cases y
  have nTL2 : H2 TL = none := nn (s3.trans (s4.trans s5)) nTL
  have nTL0 : H TL = none := nn s06 nTL
  refine ⟨_, rfl, KA, _, rfl, SqL.of hKA6, for_it walk_enum (fun i σ H' => (∀ b o, b ≠ TL → H7 b = some o → H' b = some o) ∧ (∃ x7 x8 x9 x10, σ = [some (.str (S t)), some (.ref D), some (vS n), none, none, some (.ref KA), some (.ref TL), x7, x8, x9, x10, none]) ∧
    ∃ xs, H' TL = some (.lst (vS n :: xs)) ∧ ThVs H' (n :: r) ((thingsOf n).take i) 1 (1 + i) xs) ⟨fun b o _ e => e, ⟨_, _, _, _, rfl⟩, [], hTL, .nil 1⟩ (fun i σ H' _ p => SqL.of (p.1 _ _ hKT hKA6)) (fun i x σ H' H'' hi p y => ?_) (fun σ H' p => ?_)⟩
  · obtain ⟨T, x1, x2, rfl, nT, rfl, e1, hx⟩ := y
    obtain rfl := Option.some.inj e1
    obtain ⟨u, ⟨x7, x8, x9, x10, rfl⟩, xs, hL, th⟩ := p
    have hx : ((thingsOf n).map kdS)[i]? = some x2 := hx
    rw [List.getElem?_map] at hx
    cases ek : (thingsOf n)[i]? with
    | none => rw [ek] at hx; cases hx
    | some k =>
      rw [ek] at hx
      obtain rfl : kdS k = x2 := Option.some.inj hx
      have hsplit : thingsOf n = (thingsOf n).take i ++ k :: (thingsOf n).drop (i + 1) := by
        have h1 := List.getElem?_eq_some_iff.mp ek
        conv => lhs; rw [← List.take_append_drop i (thingsOf n)]
        rw [List.drop_eq_getElem_cons h1.1, h1.2]
      have hadv : advs (n :: r) (thingsOf n) 1 = advs (n :: r) (k :: (thingsOf n).drop (i + 1)) (1 + i) := by
        conv => lhs; rw [hsplit]
        exact advs_thvs th _
      have i2 : i ≤ 2 := by have := (List.getElem?_eq_some_iff.mp ek).1; omega
      have sT : Same H' (upd H' T (.tup [.int (i : Nat), kdS k])) := same_upd nT
      have hT : (upd H' T (.tup [.int (i : Nat), kdS k])) T = some (.tup [.int (i : Nat), kdS k]) := upd_same
      generalize upd H' T (.tup [.int (i : Nat), kdS k]) = H8 at sT hT ⊢
      have hDH : ∀ {H9 : Hp}, Same H8 H9 → H9 D = some (.lst ((n :: r).map vS)) := fun s9 => by
        refine s9 _ _ (sT _ _ (u D _ (fun z => ?_) (s26 _ _ (s1 _ _ hD))))
        have := s1 _ _ hD
        rw [z, nTL2] at this
        cases this
      have hwd : ((n :: r)[i + 1]?.getD []).length ≤ t.length ∧ asc ((n :: r)[i + 1]?.getD []) := by
        cases e : (n :: r)[i + 1]? with
        | none => exact ⟨Nat.zero_le _, fun x hx => by cases hx⟩
        | some v => exact hin v (List.mem_of_getElem? e)
      have bad1 : adv (n :: r) k (1 + i) = .inl (1 + i) → ∀ H9, Same H8 H9 → Q (.int ((i : Int) + 1)) H9 := fun e H9 s9 => by
        rw [hadv, advs, e] at eout
        have z := qb (1 + i) eout H9 (fun b o e => s9 _ _ (sT _ _ (u b o (fun z => by rw [z, nTL0] at e; cases e) (s26 b o (s1 b o (s0 b o e))))))
        rw [show ((1 + i : Nat) : Int) = (i : Int) + 1 by omega] at z
        exact z
      refine ⟨T, _, rfl, SqT.of hT, rfl, _, _, rfl, _, _, rfl, rfl, ?_⟩
      refine word_read rfl rfl (SqL.of (hDH (Same.refl _))) ?_
      generalize hw : (n :: r)[i + 1]?.getD [] = wd at hwd ⊢
      have hws : wd ≠ [] → (n :: r)[1 + i]? = some wd := fun ne => by
        rw [show 1 + i = i + 1 by omega]
        cases e : (n :: r)[i + 1]? with
        | none => rw [e] at hw; exact absurd hw.symm ne
        | some v => rw [e] at hw; rw [← hw]; rfl
      have nxt : ∀ (y : V) (H9 : Hp), Same H8 H9 → ThV H9 (n :: r) k (1 + i) y → adv (n :: r) k (1 + i) = .inr (1 + i + 1) →
          (∀ b o, b ≠ TL → H7 b = some o → (upd H9 TL (.lst ((vS n :: xs) ++ [y]))) b = some o) ∧ ∃ xs', (upd H9 TL (.lst ((vS n :: xs) ++ [y]))) TL = some (.lst (vS n :: xs')) ∧ ThVs (upd H9 TL (.lst ((vS n :: xs) ++ [y]))) (n :: r) ((thingsOf n).take (i + 1)) 1 (1 + (i + 1)) xs' := fun y H9 s9 ty av => by
        have hL9 := (sT.trans s9) _ _ hL
        have up1 : TupK H9 (upd H9 TL (.lst ((vS n :: xs) ++ [y]))) := fun p ys e => by rw [upd_ne (fun z => by rw [z, hL9] at e; cases e)]; exact e
        refine ⟨fun b o ne e => by rw [upd_ne ne]; exact (sT.trans s9) _ _ (u b o ne e), xs ++ [y], upd_same, ?_⟩
        rw [List.take_succ, ek]
        exact ((th.up (sameTup (sT.trans s9))).up up1).snoc (ty.up up1) av
      have hlenx : (vS n :: xs).length < sizeLine := by
        rw [List.length_cons, th.len, List.length_take]
        have : (4 : Nat) < sizeLine := by decide
        omega
      match k, ek, no_letters nt k (List.mem_of_getElem? ek) with
      | .number, ek, _ =>
        refine ⟨_, rfl, rfl, _, rfl, ?_⟩
        rw [show decide (kdS .number = V.str "l") = false from by decide]
        refine iteF ⟨(by show 0 ≤ sizeLine; decide), fun R nR => ?_⟩
        have s9 : Same H8 (upd H8 R (.lst [])) := same_upd nR
        generalize upd H8 R (.lst []) = H9 at s9 ⊢
        refine ⟨_, rfl, rfl, _, rfl, ?_⟩
        rw [show decide (kdS .number = V.str "n") = true from by decide]
        refine iteT ⟨_, rfl, _, _, rfl, rfl, ⟨by decide, by decide, by decide⟩, _, _, rfl, rfl, wd, 0, _, rfl, ⟨by have := hwd.1; omega, hwd.2, by decide⟩, fun H10 s10 => ⟨_, rfl, ?_⟩⟩
        have ebig : ((10 : Int) ^ (60 : Int).toNat - 1) = big := by decide
        rw [ebig]
        have s910 := s9.trans s10
        have enum : adv (n :: r) .number (1 + i) = if (num (n :: r) (1 + i) 0 big).isSome = true then .inr (1 + i + 1) else .inl (1 + i) := rfl
        cases nb : numB wd 0 big with
        | false =>
          refine iteT (iteT ⟨_, rfl, _, _, rfl, rfl, bad1 ?_ _ s910⟩)
          rw [enum, if_neg]
          intro z
          unfold num at z
          rw [show 1 + i = i + 1 by omega] at z
          cases e : (n :: r)[i + 1]? with
          | none => rw [e] at z; cases z
          | some v =>
            rw [e] at hw z
            obtain rfl : v = wd := hw
            have z : (if numB v 0 big = true then some (val v) else none).isSome = true := z
            rw [nb] at z
            cases z
        | true =>
          have ne : wd ≠ [] := fun z => by rw [z] at nb; cases nb
          have hn : num (n :: r) (1 + i) 0 big = some (val wd) := by
            unfold num
            rw [hws ne]
            show (if numB wd 0 big = true then some (val wd) else none) = _
            rw [if_pos nb]
          refine iteF ⟨_, rfl, rfl, _, rfl, ?_⟩
          rw [show decide (kdS .number = V.str "l") = false from by decide]
          refine iteF (iteF ⟨_, rfl, .inl ⟨rfl, _, SqL.of ((sT.trans s910) _ _ hL)⟩, _, rfl, rfl, _, rfl, ?_⟩)
          rw [show decide (kdS .number = V.str "n") = true from by decide]
          obtain ⟨t1, t2⟩ := num_text nb (by decide)
          refine iteT ⟨_, rfl, _, _, rfl, t1, t2, TL, _, _, rfl, rfl, (sT.trans s910) _ _ hL, hlenx, ?_⟩
          obtain ⟨g1, g2⟩ := nxt (.int (val wd)) H10 s910 ⟨val wd, hn, rfl⟩ (by rw [enum, if_pos (by rw [hn]; rfl)])
          exact ⟨g1, ⟨_, _, _, _, rfl⟩, g2⟩
      | .look, ek, _ =>
        refine ⟨_, rfl, rfl, _, rfl, ?_⟩
        rw [show decide (kdS .look = V.str "l") = true from by decide]
        refine iteT ⟨_, rfl, wd, rfl, ⟨by have := hwd.1; omega, hwd.2⟩, fun H9 R s9 nR hLL => ?_⟩
        have elook : adv (n :: r) .look (1 + i) = if (letOk (n :: r) (1 + i) false).isSome = true then .inr (1 + i + 1) else .inl (1 + i) := rfl
        refine ⟨_, rfl, rfl, _, rfl, ?_⟩
        rw [show decide (kdS .look = V.str "n") = false from by decide]
        refine iteF (iteF ⟨_, rfl, rfl, _, rfl, ?_⟩)
        rw [show decide (kdS .look = V.str "l") = true from by decide]
        refine iteT ⟨_, rfl, (by show 0 ≤ sizeLine; decide), fun E1 m1 => ⟨(by show 1 ≤ sizeLine; decide), fun E2 m2 => ⟨(by show 2 ≤ sizeLine; decide), fun E3 m3 => ⟨dLet wd, [.list [], .list [.none]], (hLL.same ((same_upd m1).trans ((same_upd m2).trans (same_upd m3)))).dp,
          .lst (SqL.of upd_same) (.cons (.lst (SqL.of (((same_upd m2).trans (same_upd m3)) _ _ upd_same)) .nil) (.cons (.lst (SqL.of ((same_upd m3) _ _ upd_same)) (.cons .non .nil)) .nil)), ?_, rfl, _, rfl, ?_⟩⟩⟩⟩
        · obtain ⟨y1, y2⟩ := dLet_ok hwd.2
          show ((dLet wd).canLay0 && decide ((dLet wd).depth ≤ 64)) = true
          rw [y1, decide_eq_true (by omega)]
          rfl
        rw [eqv_two]
        have s9b : Same H9 (upd (upd (upd H9 E1 (.lst [])) E2 (.lst [.non])) E3 (.lst [.ref E1, .ref E2])) := (same_upd m1).trans ((same_upd m2).trans (same_upd m3))
        generalize (upd (upd (upd H9 E1 (.lst [])) E2 (.lst [.non])) E3 (.lst [.ref E1, .ref E2])) = H10 at s9b ⊢
        have s910 := s9.trans s9b
        cases hb : (wordOk wd && !decide (wd = [63])) with
        | false =>
          refine iteT ⟨_, rfl, _, _, rfl, rfl, bad1 ?_ _ s910⟩
          rw [elook, if_neg]
          intro z
          rw [show 1 + i = i + 1 by omega] at z
          cases e : (n :: r)[i + 1]? with
          | none => rw [letOk_out (by have := List.getElem?_eq_none_iff.mp e; omega)] at z; cases z
          | some v =>
            rw [letOk_at e] at z
            rw [e] at hw
            obtain rfl : v = wd := hw
            rw [Bool.false_or, if_neg (by rw [hb]; intro y; cases y)] at z
            cases z
        | true =>
          have okw := (Bool.and_eq_true_iff.mp hb).1
          have ne : wd ≠ [] := fun z => by rw [z, wordOk_nil] at okw; cases okw
          have nq : wd ≠ [63] := fun z => by
            have y := (Bool.and_eq_true_iff.mp hb).2
            rw [decide_eq_true z] at y
            cases y
          obtain ⟨x, hx1, lv⟩ := hLL.1 okw
          refine iteF ⟨_, rfl, .inl ⟨rfl, _, SqL.of ((sT.trans s910) _ _ hL)⟩, _, rfl, rfl, _, rfl, ?_⟩
          rw [show decide (kdS .look = V.str "n") = false from by decide]
          refine iteF ⟨_, rfl, R, [x], 0, x, rfl, rfl, SqL.of (s9b _ _ hx1), rfl, TL, _, _, rfl, rfl, (sT.trans s910) _ _ hL, hlenx, ?_⟩
          obtain ⟨g1, g2⟩ := nxt x H10 s910 ⟨wd, hws ne, nq, lv.up (sameTup s9b)⟩ (by rw [elook, letOk_at (hws ne), Bool.false_or, if_pos hb]; rfl)
          exact ⟨g1, ⟨_, _, _, _, rfl⟩, g2⟩
  · obtain ⟨u, ⟨x7, x8, x9, x10, rfl⟩, xs, hL, th⟩ := p
    rw [hkl, List.take_length] at th
    have hadv := thvs_le th
    have s9 : Same H H' := fun b o e => u b o (fun z => by rw [z, nTL0] at e; cases e) (s26 b o (s1 b o (s0 b o e)))
    have hD9 : H' D = some (.lst ((n :: r).map vS)) := u D _ (fun z => by have y := s1 _ _ hD; rw [z, nTL2] at y; cases y) (s26 _ _ (s1 _ _ hD))
    have hle := advs_le hadv (by rw [List.length_cons]; omega)
    have lx := th.len
    rw [hadv] at eout
    have eout : out (n :: r) = if 1 + (thingsOf n).length < (n :: r).length then .bad (1 + (thingsOf n).length) else .row n := eout
    refine ⟨_, rfl, _, _, rfl, .inl ⟨_, SqL.of hD9, rfl⟩, _, rfl, _, _, rfl, .inl ⟨_, SqL.of hL, rfl⟩, rfl, _, rfl, ?_⟩
    rw [List.length_map]
    refine ite2 (fun c5 => ?_) (fun c5 => ?_)
    · have e5 : (n :: r).length = (vS n :: xs).length := by
        have := V.int.inj (of_decide_eq_true c5)
        omega
      have e6 : (n :: r).length = 1 + (thingsOf n).length := by rw [e5, List.length_cons, lx]; omega
      rw [if_neg (by omega)] at eout
      refine ⟨_, rfl, TL, _, rfl, .inl ⟨SqL.of hL, fun T nT => ?_⟩⟩
      refine qr n eout T xs _ (s9.trans (same_upd nT)) upd_same ?_
      rw [e6]
      exact th.up (sameTup (same_upd nT))
    · have e6 : 1 + (thingsOf n).length < (n :: r).length := by
        have : (n :: r).length ≠ 1 + (thingsOf n).length := fun z => c5 (by rw [z, List.length_cons, lx, Nat.add_comm]; exact decide_eq_true rfl)
        omega
      rw [if_pos e6] at eout
      have z := qb _ eout H' s9
      refine ⟨_, rfl, _, _, rfl, .inl ⟨_, SqL.of hL, rfl⟩, ?_⟩
      rw [List.length_cons, lx, Nat.add_comm]
      exact z
end
end Q7
set_option maxHeartbeats 2000000
namespace Q7
open PySem PySem.Spec PyProof.Rows L2 SX
/-! ### repr of data, with nothing under repr -/
def rReprD (K : PySem.W.Frag) : List V → Hp → VK → Prop := fun xs H Q => ∃ (p : Addr) (d : PyData), xs = [.ref p] ∧ Dp K H (.ref p) d ∧ d.showable = true ∧ d.hasDict = false ∧ d.depth ≤ 60 ∧ d.shown.length ≤ sizeLine ∧ Q (.str d.shown) H
theorem call_reprD {X : Cx} (hg : X.A.guards = some []) (hu : X.A.units + 64 < cLine) : CallR X (.builtin "repr") (rReprD X.K) := by
  intro pins s σ H xs us Q I r h
  obtain ⟨p, d, rfl, hd, h1, h2, h3, h4, q⟩ := h
  obtain ⟨u, rfl, rx⟩ := vals1 r
  obtain rfl : u = Value.ref p := rx
  obtain ⟨as, rd⟩ := Dp.reads I d _ _ hd rfl
  exact repr_of_reads' rd h1 (PyData.noDict_hsm h2) hg (by omega) (fun _ _ e => e) (fun h' u tk hk => ⟨.str d.shown, H, I.kept hk, ⟨_, rfl⟩, q⟩) h4
end Q7
set_option maxHeartbeats 2000000
namespace Q7
open PySem PySem.Spec PyProof.Rows L2 SX
/-! ### promises that hold where nothing is under repr -/
def FnRG (P : Program) (w : World) (K : PySem.W.Frag) (mg : Str → Option Value) (base : Heap) (CX : CXT) (k : Nat) (f : Addr) (sp : Sp) : Prop :=
  ∀ (A : Around) (up : List Env) (s : Shared) (H : Hp) (us : List Value) (vs : List V) (Q : VK) (E : XK), A.guards = some [] → Room k A → Env0 P w K mg base A up s H → Vals vs us → sp vs H Q E →
    codeAny (model P w) A (.call (.ref f) ⟨us, []⟩) (CR CX up P w H s Q E) s
theorem FnRG.of {P : Program} {w : World} {K : PySem.W.Frag} {mg : Str → Option Value} {base : Heap} {CX : CXT} {k : Nat} {f : Addr} {sp : Sp} (F : FnR P w K mg base CX k f sp) : FnRG P w K mg base CX k f sp :=
  fun A up s H us vs Q E _ hr e0 r h => F A up s H us vs Q E hr e0 r h
structure NamG (CX : CXT) (P : Program) (w : World) (K : PySem.W.Frag) (mg : Str → Option Value) (base : Heap) (k : Nat) (x : Str) (sp : Sp) : Prop where
  ex : ∃ f : Addr, FnRG P w K mg base CX k f sp ∧ mg x = some (.ref f) ∧ PySem.W.keepIn K (.ref f) = true
section
variable {X : Cx} {CX : CXT} {k j : Nat} {f C : Addr} {sp : Sp} {E : L2.St → XK} {x m : Str} {p sp_ pos apos : Pos} {e o : Expr} {es : List Expr} {te ta : TE} {t : TA} {pins : List (Addr × Obj)} {σ : L2.St} {H : Hp} {s : Shared}
theorem runG_at {E : XK} {Q : VK} {us : List Value} {vs : List V} (F : FnRG X.prog X.w X.K X.mg X.base CX k f sp) (g : X.A.guards = some []) (hr : Room k X.A) (hx : PassesAt CX X σ E) (I : Inv X pins σ H s) (r : Vals vs us) (h : sp vs H Q E) :
    codeAny (model X.prog X.w) X.A (.call (.ref f) ⟨us, []⟩) (fun r s' => match r with | .ok (.ret v) => EP X pins σ Q v s' | .ok _ => False | .error e => X.xe e s') s := by
  refine codeAny_mono (F X.A X.stack s H us vs Q E g hr I.env0 r h) fun z s' hz => ?_
  match z, hz with
  | .error e, hz => exact hx pins H s e s' I hz
  | .ok (.ret u), hz => exact I.after hz
  | .ok .next, hz => exact hz.elim
  | .ok .brk, hz => exact hz.elim
  | .ok .cont, hz => exact hz.elim
theorem pe_namG (c : NamG CX X.prog X.w X.K X.mg X.base k x sp) (g : X.A.guards = some []) (hr : Room j X.A) (hk : k ≤ j) (hg : Gl X x) (hx : ∀ σ, PassesAt CX X σ (E σ)) (ha : PA X (e :: es) t) (hdb : (x == ("__debug__" : Str)) = false := by decide)
    (he : starEach (e :: es) X.env = (false, eval e X.env) :: starEach es X.env := by rfl) (hpl : (backTo pos (starEach es X.env)).any (·.1) = false := by rfl) : PE X (.Call (.Name x p) (e :: es) [] pos) (tCallS sp E t) := by
  obtain ⟨f, F, hm, kp⟩ := c.ex
  refine ⟨fun pins s σ H Q I h => wpAny_Call_Name_kw (ld_glob I hg hm ?_ hdb)⟩
  exact PySem.W.callWith_K (h₀ := X.base) I.ok.mod.kin kp (thn (ha.run pos pins s σ H _ I h) fun us s1 ⟨vs, H1, I1, r, q⟩ => ⟨I1.kIn, wpAny_call (runG_at F g (hr.mono hk) (hx σ) I1 r q)⟩) he hpl
end
section
variable {P : Program} {w : World} {K : PySem.W.Frag} {mg : Str → Option Value} {base : Heap} {CX : CXT} {x qual : Str} {st : Stmt} {f : Addr} {fd : FuncData} {N ps : List Str} {k : Nat} {sp : Sp}
/-- a def's promise, shown where nothing is under repr, its code object told -/
theorem fnpC (F : FnP K x qual st [] f fd) (b : Binds K fd ps []) (S : FnScope N ps (defScope st)) (len : ∀ vs H Q E, sp vs H Q E → vs.length = ps.length)
    (hbody : ∀ (cdv : Value), fd.code = cdv → ∀ (A : Around) (outer : List Env) (s : Shared) (H : Hp) (vs : List V) (Q : VK) (E : XK), A.guards = some [] → Room k (A.deeper (envOfC qual (defScope st) s.heap.objs.size f cdv)) → sp vs H Q E →
      ∃ t, PSs (cxOf CX P w K mg base N qual (defScope st) f cdv A outer s H E) (defBody st) t ∧ t { nx := fun _ H' => Q .non H', rt := Q } (start N vs) H) : FnRG P w K mg base CX (k + 1) f sp := by
  obtain ⟨oc, od, dV, kV, doc, pm, an, cdv, ct, osl, rfl, lk, hcd, _, _⟩ := F.ex
  intro A up s H us vs Q E g hr e0 r h
  have n1 := len vs H Q E h
  have n2 : us.length = ps.length := r.length ▸ n1
  have keeps : ∀ b o, base.get? b = some o → s.heap.get? b = some o := fun b o e => (e0.bs b o e).1
  have inK : K.In s.heap := e0.mod.kin.keeps keeps
  have where_ : ∀ y ∈ ps.zip us, (defScope st).names.lookup y.1 = some .local ∨ ((defScope st).names.lookup y.1 = some .cell ∧ ((cellsFrom (s.heap.objs.size + 1) (defScope st).names []).lookup y.1).isSome = true) := by
    rintro ⟨n, v⟩ m
    exact (S.par n (List.of_mem_zip m).1).imp id fun c => ⟨c, PySem.W.cellsFrom_some _ _ _ (.inl c)⟩
  have bt := b s us inK (by rw [List.append_nil]; exact n2)
  rw [List.append_nil] at bt
  refine codeAny_call_function hr.depth (inK _ _ lk) rfl S.co S.gen rfl (PySem.W.codeRec_of inK hcd) (bt _ _ _ _ ?_)
  refine wpAny_newFunctionEnv_cells S.kind where_ fun env he s1 made => ?_
  subst he
  refine ⟨(e0.mod.nolimit.keeps keeps).keeps made.toInCall.keep, codeAny_func ?_⟩
  obtain ⟨t, body, q⟩ := hbody cdv rfl A up s H vs Q E g (hr.deeper _) h
  refine wpAny_mono (body.run [] s1 (start N vs) H _ (inv_start S hr.hd e0 n1 r made) q) (fun fl s2 z => ?_) fun _ _ z => z
  match fl, z with
  | .ret u, ⟨v, σ', H', J, rv, q2⟩ => exact ⟨v, H', J.os, J.bare, J.base, J.hok, rv, q2⟩
  | .next, ⟨σ', H', J, q2⟩ => exact ⟨V.non, H', J.os, J.bare, J.base, J.hok, rfl, q2⟩
  | .brk, ⟨_, _, _, z⟩ => exact z.elim
  | .cont, ⟨_, _, _, z⟩ => exact z.elim
/-- a def's promise, shown where nothing is under repr -/
theorem fnpG (F : FnP K x qual st [] f fd) (b : Binds K fd ps []) (S : FnScope N ps (defScope st)) (len : ∀ vs H Q E, sp vs H Q E → vs.length = ps.length)
    (hbody : ∀ (cdv : Value) (A : Around) (outer : List Env) (s : Shared) (H : Hp) (vs : List V) (Q : VK) (E : XK), A.guards = some [] → Room k (A.deeper (envOfC qual (defScope st) s.heap.objs.size f cdv)) → sp vs H Q E →
      ∃ t, PSs (cxOf CX P w K mg base N qual (defScope st) f cdv A outer s H E) (defBody st) t ∧ t { nx := fun _ H' => Q .non H', rt := Q } (start N vs) H) : FnRG P w K mg base CX (k + 1) f sp :=
  fnpC F b S len fun cdv _ A outer s H vs Q E g hr h => hbody cdv A outer s H vs Q E g hr h
end
end Q7
set_option maxHeartbeats 2000000
namespace Q7
open PySem PySem.Spec PyProof.Rows L2 SX
/-! ### plain: how long a row is shown -/
def shL (ds : List PyData) : Nat := (ds.map fun d => d.shown.length + 2).sum
theorem shAll : ∀ ds : List PyData, PyData.shownAll ds = ds.map PyData.shown
  | [] => rfl
  | d :: ds => by
    rw [PyData.shownAll, shAll ds]
    rfl
theorem sum_two (ds : List PyData) : ((ds.map PyData.shown).map (·.length)).sum + 2 * (ds.map PyData.shown).length = shL ds := by
  unfold shL
  induction ds with
  | nil => rfl
  | cons d ds ih =>
    simp only [List.map_cons, List.sum_cons, List.length_cons] at ih ⊢
    omega
theorem tup_len (ds : List PyData) : (PyData.tuple ds).shown.length ≤ shL ds + 3 := by
  rw [PyData.shown, shAll, ← sum_two]
  exact tupleText_len_le _
theorem lst_len (ds : List PyData) : (PyData.list ds).shown.length ≤ shL ds + 3 := by
  rw [PyData.shown, shAll, ← sum_two]
  exact listText_len_le _
theorem dS_len {l : List Nat} (h : asc l) : (dS l).shown.length ≤ 10 * l.length + 2 := by
  rw [show (dS l).shown = reprText (S l) from by unfold dS; rw [PyData.shown]]
  have := PySem.StrLaws.reprText_len (S l) fun c hc => Nat.lt_of_lt_of_le (h c hc) (by decide)
  rw [S_len] at this
  exact this
theorem strs_len : ∀ {ls : List (List Nat)}, (∀ l ∈ ls, asc l) → shL (ls.map dS) ≤ 10 * ((ls.map List.length).sum + ls.length)
  | [], _ => Nat.zero_le _
  | l :: ls, h => by
    have h1 := dS_len (h l List.mem_cons_self)
    have h2 := strs_len fun m hm => h m (List.mem_cons_of_mem _ hm)
    show (dS l).shown.length + 2 + shL (ls.map dS) ≤ _
    simp only [List.map_cons, List.sum_cons, List.length_cons]
    omega
theorem lets_sum (w : List Nat) : ((lets w).map List.length).sum + (lets w).length ≤ w.length + 1 := by
  have h := spl1_sum (c := 124) w []
  have : ∀ ps : List (List Nat), ((ps.map fun p => if p = [95] then [] else p).map List.length).sum ≤ (ps.map List.length).sum := by
    intro ps
    induction ps with
    | nil => exact Nat.le_refl _
    | cons p ps ih =>
      simp only [List.map_cons, List.sum_cons]
      split
      · simp only [List.length_nil]; omega
      · omega
  have := this (parts w)
  unfold lets
  rw [List.length_map]
  unfold parts at this ⊢
  rw [List.length_nil] at h
  omega
theorem dLe_len {w : List Nat} (h : asc w) : (dLe w).shown.length ≤ 10 * w.length + 13 := by
  unfold dLe
  by_cases c : w = [63]
  · rw [if_pos c]
    show (4 : Nat) ≤ _
    omega
  · rw [if_neg c]
    have h1 := tup_len ((lets w).map dS)
    have h2 := strs_len (lets_asc h)
    have h3 := lets_sum w
    omega
theorem dLes_len : ∀ {ws : List (List Nat)}, (∀ w ∈ ws, asc w) → shL (ws.map dLe) ≤ 15 * ((ws.map List.length).sum + ws.length)
  | [], _ => Nat.zero_le _
  | w :: ws, h => by
    have h1 := dLe_len (h w List.mem_cons_self)
    have h2 := dLes_len fun m hm => h m (List.mem_cons_of_mem _ hm)
    show (dLe w).shown.length + 2 + shL (ws.map dLe) ≤ _
    simp only [List.map_cons, List.sum_cons, List.length_cons]
    omega
/-- what a thing of a row reads as -/
def dTh (ws : List (List Nat)) : Kd → Nat → PyData
  | .letters, i => .tuple ((ws.drop i).map dLe)
  | .look, i => dLe (ws[i]?.getD [])
  | .number, i => .int (val (ws[i]?.getD []))
def dThs (ws : List (List Nat)) : List Kd → Nat → List PyData
  | [], _ => []
  | k :: ks, i => dTh ws k i :: (match adv ws k i with
    | .inr j => dThs ws ks j
    | .inl _ => [])
theorem num_val {ws : List (List Nat)} {i n : Nat} {lo hi : Int} (h : num ws i lo hi = some n) : n = val (ws[i]?.getD []) := by
  unfold num at h
  cases e : ws[i]? with
  | none => rw [e] at h; cases h
  | some w =>
    rw [e] at h
    have h : (if numB w lo hi = true then some (val w) else none) = some n := h
    by_cases c : numB w lo hi = true
    · rw [if_pos c] at h
      exact (Option.some.inj h).symm
    · rw [if_neg c] at h
      cases h
theorem ThV.dp {K : PySem.W.Frag} {H : Hp} {ws : List (List Nat)} {k : Kd} {i : Nat} {x : V} (h : ThV H ws k i x) : Dp K H x (dTh ws k i) := by
  cases k with
  | letters =>
    obtain ⟨T, xs, rfl, hT, v⟩ := h
    exact .tup (SqT.of hT) v.dp
  | look =>
    obtain ⟨w, h1, _, v⟩ := h
    show Dp K H x (dLe (ws[i]?.getD []))
    rw [h1]
    exact v.dp
  | number =>
    obtain ⟨n, h1, rfl⟩ := h
    show Dp K H (.int n) (.int (val (ws[i]?.getD [])))
    rw [← num_val h1]
    exact .int _
theorem ThVs.dp {K : PySem.W.Frag} {H : Hp} {ws : List (List Nat)} : ∀ {ks : List Kd} {i m : Nat} {xs : List V}, ThVs H ws ks i m xs → DpAll K H xs (dThs ws ks i)
  | _, _, _, _, .nil i => .nil
  | _, _, _, _, .cons h a r => by
    rw [dThs, a]
    exact .cons h.dp r.dp
end Q7
set_option maxHeartbeats 2000000
namespace Q7
open PySem PySem.Spec PyProof.Rows L2 SX
/-! ### plain: a row may be shown -/
theorem log_sm {n : Nat} (h : n < 2 ^ 1920) : n.log2 < 1920 := by
  by_cases e : n = 0
  · rw [e]; decide
  · exact (Nat.log2_lt e).mpr h
theorem big_small : (10 : Nat) ^ 60 < 2 ^ 1920 := by decide +kernel
theorem int_len {n : Nat} (h : n < 10 ^ 60) : (PyData.int n).shown.length ≤ 60 := by
  rw [PyData.shown, show ((toString ((n : Nat) : Int) : String) : Str) = S (TL.numL n) from num_S n, S_len]
  exact TL.numL_len (by decide) h
/-- what repr asks -/
structure Shw (d : PyData) (n b : Nat) : Prop where
  s : d.showable = true
  h : d.hasDict = false
  dp : d.depth ≤ n
  l : d.shown.length ≤ b
structure ShwAll (ds : List PyData) (n b : Nat) : Prop where
  s : PyData.showableAll ds = true
  h : PyData.hasDictAll ds = false
  dp : PyData.depthAll ds ≤ n
  l : shL ds ≤ b
theorem ShwAll.nil {n : Nat} : ShwAll [] n 0 := ⟨rfl, rfl, Nat.zero_le _, Nat.le_refl _⟩
theorem ShwAll.cons {d : PyData} {ds : List PyData} {n b c : Nat} (h : Shw d n b) (r : ShwAll ds n c) : ShwAll (d :: ds) n (b + 2 + c) := by
  refine ⟨?_, ?_, ?_, ?_⟩
  · rw [PyData.showableAll, h.s, r.s]; rfl
  · rw [PyData.hasDictAll, h.h, r.h]; rfl
  · show max d.depth (PyData.depthAll ds) ≤ n
    have := h.dp; have := r.dp; omega
  · show d.shown.length + 2 + shL ds ≤ _
    have := h.l; have := r.l; omega
theorem ShwAll.le {ds : List PyData} {n m b c : Nat} (h : ShwAll ds n b) (h1 : n ≤ m) (h2 : b ≤ c) : ShwAll ds m c := ⟨h.s, h.h, Nat.le_trans h.dp h1, Nat.le_trans h.l h2⟩
theorem Shw.le {d : PyData} {n m b c : Nat} (h : Shw d n b) (h1 : n ≤ m) (h2 : b ≤ c) : Shw d m c := ⟨h.s, h.h, Nat.le_trans h.dp h1, Nat.le_trans h.l h2⟩
theorem ShwAll.tup {ds : List PyData} {n b : Nat} (h : ShwAll ds n b) : Shw (.tuple ds) (n + 1) (b + 3) :=
  ⟨h.s, h.h, Nat.succ_le_succ h.dp, Nat.le_trans (tup_len ds) (Nat.add_le_add_right h.l 3)⟩
theorem ShwAll.lst {ds : List PyData} {n b : Nat} (h : ShwAll ds n b) : Shw (.list ds) (n + 1) (b + 3) :=
  ⟨h.s, h.h, Nat.succ_le_succ h.dp, Nat.le_trans (lst_len ds) (Nat.add_le_add_right h.l 3)⟩
theorem shw_S {l : List Nat} (h : asc l) : Shw (dS l) 0 (10 * l.length + 2) := ⟨rfl, rfl, Nat.le_refl _, dS_len h⟩
theorem shw_int {n : Nat} (h : n < 10 ^ 60) : Shw (.int n) 0 60 :=
  ⟨decide_eq_true (log_sm (show n < 2 ^ 1920 from Nat.lt_trans h big_small)), rfl, Nat.le_refl _, int_len h⟩
theorem shw_strs : ∀ {ls : List (List Nat)}, (∀ l ∈ ls, asc l) → ShwAll (ls.map dS) 0 (10 * ((ls.map List.length).sum + ls.length))
  | [], _ => .nil
  | l :: ls, h => ((shw_S (h l List.mem_cons_self)).le (Nat.le_refl _) (Nat.le_refl _) |> fun a => ShwAll.cons a (shw_strs fun m hm => h m (List.mem_cons_of_mem _ hm))).le (Nat.le_refl _) (by
    simp only [List.map_cons, List.sum_cons, List.length_cons]
    omega)
theorem shw_dLe {w : List Nat} (h : asc w) : Shw (dLe w) 1 (10 * w.length + 13) := by
  have hl := dLe_len h
  unfold dLe at hl ⊢
  by_cases c : w = [63]
  · rw [if_pos c] at hl ⊢
    exact ⟨rfl, rfl, Nat.zero_le _, hl⟩
  · rw [if_neg c] at hl ⊢
    have z := (shw_strs (lets_asc h)).tup
    exact ⟨z.s, z.h, z.dp, hl⟩
theorem shw_dLes : ∀ {ws : List (List Nat)}, (∀ w ∈ ws, asc w) → ShwAll (ws.map dLe) 1 (15 * ((ws.map List.length).sum + ws.length))
  | [], _ => .nil
  | w :: ws, h => (ShwAll.cons (shw_dLe (h w List.mem_cons_self)) (shw_dLes fun m hm => h m (List.mem_cons_of_mem _ hm))).le (Nat.le_refl _) (by
    simp only [List.map_cons, List.sum_cons, List.length_cons]
    omega)
theorem sum_mem {w : List Nat} : ∀ {ws : List (List Nat)}, w ∈ ws → w.length ≤ (ws.map List.length).sum
  | v :: ws, h => by
    rw [List.map_cons, List.sum_cons]
    rcases List.mem_cons.mp h with h | h
    · rw [h]; omega
    · have := sum_mem h; omega
theorem sum_drop_len (ws : List (List Nat)) : ∀ i : Nat, ((ws.drop i).map List.length).sum + (ws.drop i).length ≤ (ws.map List.length).sum + ws.length := by
  induction ws with
  | nil => intro i; simp
  | cons w ws ih =>
    intro i
    cases i with
    | zero => exact Nat.le_refl _
    | succ i =>
      have := ih i
      simp only [List.drop_succ_cons, List.map_cons, List.sum_cons, List.length_cons]
      omega
theorem asc_nil : asc [] := fun x h => by cases h
theorem shw_ThV {H : Hp} {ws : List (List Nat)} (ha : ∀ w ∈ ws, asc w) {k : Kd} {i : Nat} {x : V} (h : ThV H ws k i x) : Shw (dTh ws k i) 2 (15 * ((ws.map List.length).sum + ws.length) + 63) := by
  cases k with
  | letters =>
    have z := (shw_dLes (ws := ws.drop i) fun w hw => ha w (List.mem_of_mem_drop hw)).tup
    have s := sum_drop_len ws i
    exact z.le (Nat.le_refl _) (by omega)
  | look =>
    obtain ⟨w, h1, _, _⟩ := h
    show Shw (dLe (ws[i]?.getD [])) 2 _
    rw [h1]
    have m := List.mem_of_getElem? h1
    have s := sum_mem m
    exact (shw_dLe (ha w m)).le (by omega) (by show 10 * w.length + 13 ≤ _; omega)
  | number =>
    obtain ⟨n, h1, _⟩ := h
    show Shw (.int (val (ws[i]?.getD []))) 2 _
    rw [← num_val h1]
    have hn : n < 10 ^ 60 := by
      have z := num_le h1
      have e : big = ((10 ^ 60 : Nat) : Int) - 1 := by decide
      rw [e] at z
      omega
    exact (shw_int hn).le (by omega) (by omega)
theorem shw_ThVs {H : Hp} {ws : List (List Nat)} (ha : ∀ w ∈ ws, asc w) : ∀ {ks : List Kd} {i m : Nat} {xs : List V}, ThVs H ws ks i m xs → ShwAll (dThs ws ks i) 2 (ks.length * (15 * ((ws.map List.length).sum + ws.length) + 65))
  | _, _, _, _, .nil i => ShwAll.nil.le (Nat.le_refl _) (Nat.zero_le _)
  | _, _, _, _, .cons (ks := ks) h a r => by
    rw [dThs, a]
    refine (ShwAll.cons (shw_ThV ha h) (shw_ThVs ha r)).le (Nat.le_refl _) ?_
    generalize 15 * ((ws.map List.length).sum + ws.length) = B
    rw [List.length_cons, Nat.succ_mul]
    omega
end Q7
set_option maxHeartbeats 8000000
namespace Q7
open PySem PySem.Spec PyProof.Rows L2 SX
/-! ### _law_same -/
def smallJ (js : JS) : Prop := (0 ≤ js.e ∧ js.e ≤ 40) ∧ (0 ≤ js.l ∧ js.l ≤ 40) ∧ (0 ≤ js.lo ∧ js.lo ≤ 40) ∧ (0 ≤ js.ap ∧ js.ap ≤ 40)
def spLawSame (CJ : Addr) : Sp := fun vs H Q _ => ∃ T1 T2 : Addr, vs = [.ref T1, .ref T2] ∧ (∀ H', Same H H' → Q (.bl true) H') ∧
  ((∃ (n : List Nat) (js : JS) (y dy D : Addr), H T1 = some (.tup [vS n, .ref y]) ∧ H y = some (.ins CJ dy (jFs js.e js.l js.lo js.ag js.ap)) ∧ H T2 = some (.tup [vS n, .ref D]) ∧ H D = some (.dK (dJ js)) ∧ smallJ js) ∨
   (∃ (t n : List Nat) (ks : List Kd) (m : Nat) (xs ys : List V), H T1 = some (.tup (vS n :: xs)) ∧ H T2 = some (.tup (vS n :: ys)) ∧ ThVs H (words t) ks 1 m xs ∧ ThVs H (words t) ks 1 m ys ∧ asc t ∧ t.length ≤ 100000 ∧ ks.length ≤ 2 ∧ n ∈ words t))
theorem get_lo {H : Hp} {D : Addr} {js : JS} (hD : H D = some (.dK (dJ js))) : DGet H D (.str "lost") (some (.int js.lo)) := by
  have := DGet.k (k := .inr "lost") hD
  rw [val_lo] at this
  exact this
theorem get_ag {H : Hp} {D : Addr} {js : JS} (hD : H D = some (.dK (dJ js))) : DGet H D (.str "again") (some (.bl js.ag)) := by
  have := DGet.k (k := .inr "again") hD
  rw [val_ag] at this
  exact this
theorem get_ap {H : Hp} {D : Addr} {js : JS} (hD : H D = some (.dK (dJ js))) : DGet H D (.str "apart") (some (.int js.ap)) := by
  have := DGet.k (k := .inr "apart") hD
  rw [val_ap] at this
  exact this
def dJs (js : JS) : PyData := .list [.int js.e, .int js.l, .int js.lo, .bool js.ag, .int js.ap]
theorem shw_sm {i : Int} (h : 0 ≤ i ∧ i ≤ 40) : Shw (.int i) 0 60 := by
  obtain ⟨n, rfl⟩ := Int.eq_ofNat_of_zero_le h.1
  exact shw_int (Nat.lt_of_le_of_lt (show n ≤ 40 by omega) (by decide))
theorem shw_b (b : Bool) : Shw (.bool b) 0 5 := ⟨rfl, rfl, Nat.le_refl _, by cases b <;> decide⟩
theorem shw_dJs {js : JS} (sm : smallJ js) : Shw (dJs js) 1 300 := (ShwAll.lst (.cons (shw_sm sm.1) (.cons (shw_sm sm.2.1) (.cons (shw_sm sm.2.2.1) (.cons (shw_b js.ag) (.cons (shw_sm sm.2.2.2) .nil)))))).le (Nat.le_refl _) (by decide)
theorem dp_dJs {K : PySem.W.Frag} {H : Hp} {R : Addr} {js : JS} (h : H R = some (.lst [.int js.e, .int js.l, .int js.lo, .bl js.ag, .int js.ap])) : Dp K H (.ref R) (dJs js) := .lst (SqL.of h) (.cons (.int _) (.cons (.int _) (.cons (.int _) (.cons (.bl _) (.cons (.int _) .nil)))))
section
variable {P : Program} {w : World} {K : PySem.W.Frag} {mg : Str → Option Value} {base : Heap} {f CJ : Addr} {fd : FuncData}
theorem ok_lawsame (F : FnP K "_law_same" "_law_same" (top 47) [] f fd) (b : Binds K fd ["_law_found", "_law_due_here"] []) (B : Blt mg) (C : JCls K CJ) (IC : C8.InsC K CJ) (gJ : mg "Jumble" = some (.ref CJ)) : FnRG P w K mg base CX0 1 f (spLawSame CJ) := by
  have sc : FnScope ["_law_found", "_law_due_here", "_law_jumble_here", "_law_parts", "_law_told"] ["_law_found", "_law_due_here"] (defScope (top 47)) := sc_by (by decide +kernel)
  have nd := sc.nd
  refine fnpG F b sc (fun vs H Q E h => ?_) fun cdv A outer s H vs Q E g hr h => ⟨_,
    (pss_cons (ps_if (PW.pt (pw_or (pt_not (pt_val (pe_callB call_isi rfl (B.g "isinstance") boot_isinstance (pa_cons (pv 0) (pa_cons (pe_bltn (v := .ty "tuple") rfl (B.g "tuple") boot_tuple rfl) pa_nil))))) (pw_or1 (pt_cmpR op_ne (pe_callB call_len rfl (B.g "len") boot_len (pa_cons (pv 0) pa_nil)) (pe_callB call_len rfl (B.g "len") boot_len (pa_cons (pv 1) pa_nil)) (nomark _))))) (pss_one (ps_ret pe_bl)) pss_nil)
    (pss_cons (ps_if (PW.pt (pw_and (pt_cmpR op_gt (pe_callB call_len rfl (B.g "len") boot_len (pa_cons (pv 1) pa_nil)) pe_int (nomark _)) (pw_and1 (pt_val (pe_callB call_isi rfl (B.g "isinstance") boot_isinstance (pa_cons (pe_ix ix_tup (pv 1) pe_int (fun _ _ => rfl)) (pa_cons (pe_bltn (v := .ty "dict") rfl (B.g "dict") boot_dict rfl) pa_nil))))))) (pss_cons (ps_par (i := 2) (j := 3) rfl nd rfl rfl (by decide) rfl rfl (pa_cons (pe_ix ix_tup (pv 0) pe_int (fun _ _ => rfl)) (pa_cons (pe_ix ix_tup (pv 1) pe_int (fun _ _ => rfl)) pa_nil)) rfl)
      (pss_cons (ps_if (PW.pt (pw_or (pt_not (pt_val (pe_callB (C8.call_isC IC) rfl (B.g "isinstance") boot_isinstance (pa_cons (pv 2) (pa_cons (pe_glob (v := .ref CJ) rfl gJ rfl) pa_nil))))) (pw_or1 (pt_cmpR op_ne (pe_ix ix_tup (pv 0) pe_int (fun _ _ => rfl)) (pe_ix ix_tup (pv 1) pe_int (fun _ _ => rfl)) (nomark _))))) (pss_one (ps_ret pe_bl)) pss_nil)
      (pss_cons (ps_set (i := 4) nd rfl (Or.inl rfl) (pe_lst (pa_cons (pe_fld (pv 2) rfl) (pa_cons (pe_fld (pv 2) rfl) (pa_cons (pe_fld (pv 2) rfl) (pa_cons (pe_fld (pv 2) rfl) (pa_cons (pe_fld (pv 2) rfl) pa_nil)))))))
      (pss_one (ps_ret (pe_cmpR op_eq (pe_callB (call_reprD g hr.units) rfl (B.g "repr") boot_repr (pa_cons (pv 4) pa_nil)) (pe_callB (call_reprD g hr.units) rfl (B.g "repr") boot_repr (pa_cons (pe_lst (pa_cons (pe_dget (u1 hr.units) (pv 3) pe_str (fun _ _ => rfl)) (pa_cons (pe_dget (u1 hr.units) (pv 3) pe_str (fun _ _ => rfl)) (pa_cons (pe_dget (u1 hr.units) (pv 3) pe_str (fun _ _ => rfl)) (pa_cons (pe_dget (u1 hr.units) (pv 3) pe_str (fun _ _ => rfl)) (pa_cons (pe_dget (u1 hr.units) (pv 3) pe_str (fun _ _ => rfl)) pa_nil)))))) pa_nil)) (nomark _))))))) pss_nil)
    (pss_one (ps_ret (pe_cmpR op_eq (pe_callB (call_reprD g hr.units) rfl (B.g "repr") boot_repr (pa_cons (pv 0) pa_nil)) (pe_callB (call_reprD g hr.units) rfl (B.g "repr") boot_repr (pa_cons (pv 1) pa_nil)) (nomark _)))))), ?_⟩
  · obtain ⟨T1, T2, rfl, _⟩ := h
    rfl
  obtain ⟨T1, T2, rfl, q, h⟩ := h
  rcases h with ⟨n, js, y, dy, D, h1, hy, h2, hD, sm⟩ | ⟨t, n, ks, m, xs, ys, h1, h2, t1, t2, ha, hl, hk, hn⟩
  · refine ⟨_, rfl, _, .ty "tuple", .type "tuple", .type "tuple", _, rfl, .ty _, .base (.tup h1), kit_tuple (by decide), _, rfl, ?_⟩
    refine iteF ⟨_, rfl, _, _, rfl, .inr ⟨_, SqT.of h1, rfl⟩, _, rfl, _, _, rfl, .inr ⟨_, SqT.of h2, rfl⟩, rfl, _, rfl, ?_⟩
    refine iteF ⟨_, rfl, _, _, rfl, .inr ⟨_, SqT.of h2, rfl⟩, _, _, rfl, rfl, _, rfl, ?_⟩
    refine iteT ⟨_, rfl, T2, _, _, _, rfl, rfl, SqT.of h2, rfl, _, .ty "dict", .type "dict", .type "dict", _, rfl, .ty _, .base (.dK hD), kit_dict (by decide), _, rfl, ?_⟩
    refine iteT ⟨_, rfl, T1, _, _, _, rfl, rfl, SqT.of h1, rfl, _, rfl, T2, _, _, _, rfl, rfl, SqT.of h2, rfl, _, _, rfl, ?_⟩
    refine ⟨_, rfl, y, dy, _, rfl, hy, _, rfl, ?_⟩
    refine iteF ⟨_, rfl, T1, _, _, _, rfl, rfl, SqT.of h1, rfl, _, rfl, T2, _, _, _, rfl, rfl, SqT.of h2, rfl, rfl, _, rfl, ?_⟩
    rw [decide_eq_true (rfl : vS n = vS n)]
    refine iteF ?_
    refine ⟨_, rfl, y, CJ, dy, _, _, rfl, hy, C.cl, C.n1, rfl, _, rfl, y, CJ, dy, _, _, rfl, hy, C.cl, C.n2, rfl, _, rfl, y, CJ, dy, _, _, rfl, hy, C.cl, C.n3, rfl, _, rfl, y, CJ, dy, _, _, rfl, hy, C.cl, C.n4, rfl, _, rfl, y, CJ, dy, _, _, rfl, hy, C.cl, C.n5, rfl,
      (by show 5 ≤ sizeLine; decide), fun R1 m1 => ?_⟩
    have sh := shw_dJs sm
    have hsz : sizeLine = 16777216 := sizeLine_eq
    have s1 : Same H (upd H R1 (.lst [.int js.e, .int js.l, .int js.lo, .bl js.ag, .int js.ap])) := same_upd m1
    have g1 := s1 _ _ hD
    refine ⟨_, rfl, R1, dJs js, rfl, dp_dJs upd_same, sh.s, sh.h, Nat.le_trans sh.dp (by decide), Nat.le_trans sh.l (by omega), ?_⟩
    refine ⟨_, rfl, D, _, rfl, get_e g1, _, rfl, D, _, rfl, get_l g1, _, rfl, D, _, rfl, get_lo g1, _, rfl, D, _, rfl, get_ag g1, _, rfl, D, _, rfl, get_ap g1, (by show 5 ≤ sizeLine; decide), fun R2 m2 => ?_⟩
    refine ⟨R2, dJs js, rfl, dp_dJs upd_same, sh.s, sh.h, Nat.le_trans sh.dp (by decide), Nat.le_trans sh.l (by omega), rfl, ?_⟩
    rw [decide_eq_true (rfl : V.str (dJs js).shown = V.str (dJs js).shown)]
    exact q _ (s1.trans (same_upd m2))
  · have hw : ∀ l ∈ words t, asc l := fun l hm x hx => by
      rcases (spl1_mem t [] l hm).2.2 x hx with z | z
      · cases z
      · exact ha x z
    have hnl : n.length ≤ t.length := by
      have z := (spl1_mem t [] n hn).2.1
      rw [List.length_nil] at z
      omega
    have hsum : ((words t).map List.length).sum + (words t).length = t.length + 1 := by
      have z := spl1_sum (c := 32) t []
      rw [List.length_nil] at z
      unfold words
      omega
    have sh := (ShwAll.cons ((shw_S (hw n hn)).le (Nat.zero_le 2) (Nat.le_refl _)) (shw_ThVs hw t1)).tup
    have hsz : sizeLine = 16777216 := sizeLine_eq
    have hB : (PyData.tuple (dS n :: dThs (words t) ks 1)).shown.length ≤ sizeLine := by
      refine Nat.le_trans sh.l ?_
      rw [hsum]
      have z : ks.length * (15 * (t.length + 1) + 65) ≤ 2 * (15 * (t.length + 1) + 65) := Nat.mul_le_mul_right _ hk
      omega
    have d1 : Dp K H (.ref T1) (.tuple (dS n :: dThs (words t) ks 1)) := .tup (SqT.of h1) (.cons (.str _) t1.dp)
    have d2 : Dp K H (.ref T2) (.tuple (dS n :: dThs (words t) ks 1)) := .tup (SqT.of h2) (.cons (.str _) t2.dp)
    have l1 : (vS n :: xs).length = 1 + ks.length := by rw [List.length_cons, t1.len]; omega
    have l2 : (vS n :: ys).length = 1 + ks.length := by rw [List.length_cons, t2.len]; omega
    refine ⟨_, rfl, _, .ty "tuple", .type "tuple", .type "tuple", _, rfl, .ty _, .base (.tup h1), kit_tuple (by decide), _, rfl, ?_⟩
    refine iteF ⟨_, rfl, _, _, rfl, .inr ⟨_, SqT.of h1, rfl⟩, _, rfl, _, _, rfl, .inr ⟨_, SqT.of h2, rfl⟩, rfl, _, rfl, ?_⟩
    rw [l1, l2, decide_eq_true (rfl : V.int ((1 + ks.length : Nat) : Int) = V.int ((1 + ks.length : Nat) : Int))]
    refine iteF ⟨_, rfl, _, _, rfl, .inr ⟨_, SqT.of h2, rfl⟩, _, _, rfl, rfl, _, rfl, ?_⟩
    rw [l2]
    refine ite2 (fun c => ?_) (fun c => ?_)
    · have hne : 1 < 1 + ks.length := by have := of_decide_eq_true c; omega
      have hy : ∃ y ys', ys = y :: ys' ∧ ∃ m ∈ kns, TyX K H y (.type m) ∧ (m == "dict") = false := by
        cases t2 with
        | nil => simp at hne
        | @cons k _ _ _ _ y ys' hv a r =>
          refine ⟨y, ys', rfl, ?_⟩
          cases k with
          | letters =>
            obtain ⟨T, zs, rfl, hT, _⟩ := hv
            exact ⟨"tuple", by decide, .base (.tup hT), by decide⟩
          | look =>
            obtain ⟨w, _, _, v⟩ := hv
            rcases v with ⟨_, rfl⟩ | ⟨_, p, rfl, hp⟩
            · exact ⟨"NoneType", by decide, .base .non, by decide⟩
            · exact ⟨"tuple", by decide, .base (.tup hp), by decide⟩
          | number =>
            obtain ⟨n, _, rfl⟩ := hv
            exact ⟨"int", by decide, .base (.int _), by decide⟩
      obtain ⟨y, ys', ey, m, hm, hty, hd⟩ := hy
      refine ⟨_, rfl, T2, _, _, y, rfl, rfl, SqT.of h2, by rw [ey]; exact atI_nat (j := 1) rfl, _, .ty "dict", .type m, .type "dict", _, rfl, .ty _, hty, kit_dict hm, _, rfl, ?_⟩
      rw [hd]
      refine iteF ?_
      refine ⟨_, rfl, T1, _, rfl, d1, sh.s, sh.h, Nat.le_trans sh.dp (by decide), hB, _, rfl, T2, _, rfl, d2, sh.s, sh.h, Nat.le_trans sh.dp (by decide), hB, rfl, ?_⟩
      rw [decide_eq_true (rfl : V.str (PyData.tuple (dS n :: dThs (words t) ks 1)).shown = V.str (PyData.tuple (dS n :: dThs (words t) ks 1)).shown)]
      exact q _ (Same.refl _)
    · refine iteF ⟨_, rfl, T1, _, rfl, d1, sh.s, sh.h, Nat.le_trans sh.dp (by decide), hB, _, rfl, T2, _, rfl, d2, sh.s, sh.h, Nat.le_trans sh.dp (by decide), hB, rfl, ?_⟩
      rw [decide_eq_true (rfl : V.str (PyData.tuple (dS n :: dThs (words t) ks 1)).shown = V.str (PyData.tuple (dS n :: dThs (words t) ks 1)).shown)]
      exact q _ (Same.refl _)
end
end Q7
set_option maxHeartbeats 2000000
namespace Q7
open PySem PySem.Spec PyProof.Rows L2 SX
/-! ### column -/
def itT : V → Str
  | .str a => a
  | .int i => toString i
  | _ => ""
def itOk : V → Prop
  | .str _ => True
  | .int i => i.natAbs.log2 < 1920
  | _ => False
def colT (x : V) (wd : Int) : Str := if wd < 0 then Txt.ljust (itT x) (-wd) else Txt.rjust (itT x) wd
def spColumn : Sp := fun vs H Q _ => ∃ (x : V) (wd : Int), vs = [x, .int wd] ∧ itOk x ∧ (-60 ≤ wd ∧ wd ≤ 60) ∧ Q (.str (colT x wd)) H
theorem call_strI {X : Cx} : CallR X (.type "str") (fun xs H Q => ∃ x, xs = [x] ∧ itOk x ∧ Q (.str (itT x)) H) := by
  intro pins s σ H xs us Q I r h
  obtain ⟨x, rfl, ok, q⟩ := h
  match x, ok with
  | .str a, _ => exact SkE.call_str_str pins s σ H _ us Q I r ⟨a, rfl, q⟩
  | .int i, hz => exact call_str_int pins s σ H _ us Q I r ⟨i, rfl, hz, q⟩
theorem pad_ok {i : Int} (h1 : 0 ≤ i) (h2 : i ≤ 60) : PadOk i = true := by
  have z : ∀ n : Fin 61, PadOk ((n.val : Nat) : Int) = true := by decide +kernel
  have y := z ⟨i.toNat, by omega⟩
  rw [show ((i.toNat : Nat) : Int) = i by omega] at y
  exact y
section
variable {P : Program} {w : World} {K : PySem.W.Frag} {mg : Str → Option Value} {base : Heap} {f : Addr} {fd : FuncData}
theorem ok_column (F : FnP K "column" "column" (top 36) [] f fd) (b : Binds K fd ["item", "width"] []) (B : Blt mg) : FnR P w K mg base CX0 1 f spColumn := by
  have sc : FnScope ["item", "width", "text"] ["item", "width"] (defScope (top 36)) := sc_by (by decide +kernel)
  have nd := sc.nd
  refine fnp0 F b sc (fun vs H Q E h => ?_) fun cdv A outer s H vs Q E hr h => ⟨_,
    (pss_cons (ps_set (i := 2) nd rfl (Or.inl rfl) (pe_callTy call_strI rfl (B.g "str") boot_str (pa_cons (pv 0) pa_nil)))
    (pss_one (ps_ret (pe_ifExp (pt_cmpR op_lt (pv 1) pe_int (nomark _)) (pe_bm PySem.F.plainAttrs_str PySem.F.slot_str_ljust PySem.F.type_str_ljust mt_ljust (pv 2) (pa_cons (pe_un un_neg (pv 1)) pa_nil)) (pe_bm PySem.F.plainAttrs_str PySem.F.slot_str_rjust PySem.F.type_str_rjust mt_rjust (pv 2) (pa_cons (pv 1) pa_nil)))))), ?_⟩
  · obtain ⟨x, wd, rfl, _⟩ := h
    rfl
  obtain ⟨x, wd, rfl, ok, ⟨h1, h2⟩, q⟩ := h
  refine ⟨_, rfl, _, rfl, ok, _, rfl, _, _, rfl, rfl, _, rfl, ?_⟩
  unfold colT at q
  refine ite2 (fun c => ?_) (fun c => ?_)
  · have c2 : wd < 0 := of_decide_eq_true c
    rw [if_pos c2] at q
    exact ⟨_, rfl, rfl, _, rfl, _, rfl, _, _, rfl, rfl, pad_ok (by omega) (by omega), q⟩
  · have c2 : ¬ wd < 0 := fun z => c (decide_eq_true z)
    rw [if_neg c2] at q
    exact ⟨_, rfl, rfl, _, rfl, _, _, rfl, rfl, pad_ok (by omega) (by omega), q⟩
end
end Q7
set_option maxHeartbeats 4000000
namespace Q7
open PySem PySem.Spec PyProof.Rows L2 SX
/-! ### _law_draw: some number below many, whatever the script -/
structure Pen (K : PySem.W.Frag) (H : Hp) (P L : Addr) (ns : List Int) (turn : Nat) (rest : Int) : Prop where
  pen : H P = some (.lst [.ref L, .int turn, .int rest])
  ls : H L = some (.lst (ns.map V.int))
  sz : ns.length ≤ 63
  r0 : 0 ≤ rest
theorem Pen.ne {K : PySem.W.Frag} {H : Hp} {P L : Addr} {ns : List Int} {turn : Nat} {rest : Int} (p : Pen K H P L ns turn rest) : L ≠ P := fun z => by
  have h := p.ls
  rw [z, p.pen] at h
  have e := HO.lst.inj (Option.some.inj h)
  cases ns with
  | nil => cases e
  | cons a r => cases e
theorem cut_one (ns : List Int) : cutV (ns.map V.int) none (some 1) = (ns.take 1).map V.int := by
  unfold cutV
  rw [show (some (1 : Int)) = some ((1 : Nat) : Int) from rfl, HT.sIx_nat, HT.sIx_none, List.length_map, List.drop_zero, List.map_take]
  cases ns with
  | nil => rfl
  | cons a r => rw [List.length_cons, show min 1 (r.length + 1) - 0 = 1 by omega]
theorem dp_ints {K : PySem.W.Frag} {H : Hp} : ∀ ns : List Int, DpAll K H (ns.map V.int) (ns.map PyData.int)
  | [] => .nil
  | i :: ns => .cons (.int i) (dp_ints ns)
theorem shp_ints (ns : List Int) : SeqAt.shaped (.list (ns.map PyData.int)) = true := by
  have h : PyData.canLayAll0 (ns.map PyData.int) = true ∧ PyData.depthAll (ns.map PyData.int) = 0 := by
    induction ns with
    | nil => exact ⟨rfl, rfl⟩
    | cons i ns ih =>
      refine ⟨?_, ?_⟩
      · show (PyData.canLay0 (.int i) && PyData.canLayAll0 (ns.map PyData.int)) = true
        rw [ih.1]; rfl
      · show max (PyData.depth (.int i)) (PyData.depthAll (ns.map PyData.int)) = 0
        rw [ih.2]; rfl
  show (PyData.canLayAll0 (ns.map PyData.int) && decide (PyData.depthAll (ns.map PyData.int) + 1 ≤ 64)) = true
  rw [h.1, h.2]
  rfl
theorem eqv_ints (ns : List Int) : PyData.eqv (.list (ns.map PyData.int)) (.list []) = decide (ns = []) := by
  cases ns <;> rfl
theorem bnd1 (c : Int) {t : Nat} (ht : t < 2 ^ 20) : (c % 2147483563 + 62701 * (t : Int) + 787).natAbs < 2 ^ 64 := by
  have h1 : 0 ≤ c % 2147483563 := Int.emod_nonneg _ (by decide)
  have h2 : c % 2147483563 < 2147483563 := Int.emod_lt_of_pos _ (by decide)
  omega
theorem bnd2 {m : Int} (h1 : 0 ≤ m) (h2 : m < 2147483629) {t : Nat} (ht : t < 2 ^ 20) : (m * (2 * (t : Int) + 431) + 55603 * (t : Int) * (t : Int) + 787).natAbs < 2 ^ 64 := by
  have t0 : (0 : Int) ≤ t := Int.natCast_nonneg _
  have t1 : (t : Int) ≤ 1048576 := by omega
  have a0 : 0 ≤ m * (2 * (t : Int) + 431) := Int.mul_nonneg h1 (by omega)
  have a1 : m * (2 * (t : Int) + 431) ≤ 2147483629 * 2097583 := Int.mul_le_mul (by omega) (by omega) (by omega) (by decide)
  have b0 : 0 ≤ 55603 * (t : Int) * (t : Int) := Int.mul_nonneg (by omega) t0
  have b1 : 55603 * (t : Int) * (t : Int) ≤ (55603 * 1048576) * 1048576 := Int.mul_le_mul (by omega) t1 t0 (by decide)
  omega
def spDraw (K : PySem.W.Frag) : Sp := fun vs H Q _ => ∃ (P L : Addr) (ns : List Int) (turn : Nat) (rest many : Int), vs = [.ref P, .int many] ∧ Pen K H P L ns turn rest ∧ turn < 2 ^ 20 ∧ (1 ≤ many ∧ many < 1073741824) ∧
  ∀ (d rest' : Int) (turn' : Nat) H', 0 ≤ d → d < many → 0 ≤ rest' → turn' ≤ turn + 1 → UpD P H H' → H' P = some (.lst [.ref L, .int turn', .int rest']) → Q (.int d) H'
section
variable {P : Program} {w : World} {K : PySem.W.Frag} {mg : Str → Option Value} {base : Heap} {f : Addr} {fd : FuncData}
theorem ok_draw (F : FnP K "_law_draw" "_law_draw" (top 40) [] f fd) (b : Binds K fd ["_law_pen_here", "_law_many"] []) (B : Blt mg) : FnR P w K mg base CX0 1 f (spDraw K) := by
  have sc : FnScope ["_law_pen_here", "_law_many", "_law_digit", "_law_turn", "_law_cell", "_law_great", "_law_mixed"] ["_law_pen_here", "_law_many"] (defScope (top 40)) := sc_by (by decide +kernel)
  have nd := sc.nd
  refine fnp0 F b sc (fun vs H Q E h => ?_) fun cdv A outer s H vs Q E hr h => ⟨_,
    (pss_cons (ps_if (pt_cmpR op_gt (pe_ix ix_list (pv 0) pe_int (fun _ _ => rfl)) pe_int (nomark _)) (pss_cons (ps_set (i := 2) nd rfl (Or.inl rfl) (pe_op op_mod (pe_callTy call_int1 rfl (B.g "int") boot_int (pa_cons (pe_ix ix_list (pv 0) pe_int (fun _ _ => rfl)) pa_nil)) (pv 1)))
      (pss_cons (ps_asg (pe_op op_fdiv (pe_callTy call_int1 rfl (B.g "int") boot_int (pa_cons (pe_ix ix_list (pv 0) pe_int (fun _ _ => rfl)) pa_nil)) (pv 1)) (pg_sub (pv 0) pe_int set_list))
      (pss_one (ps_ret (pv 2))))) pss_nil)
    (pss_cons (ps_set (i := 3) nd rfl (Or.inl rfl) (pe_ix ix_list (pv 0) pe_int (fun _ _ => rfl)))
    (pss_cons (ps_asg (pe_op op_add (pv 3) pe_int) (pg_sub (pv 0) pe_int set_list))
    (pss_cons (ps_set (i := 4) nd rfl (Or.inl rfl) (pe_op op_add (pe_op op_add (pe_op op_mul pe_int (pv 3)) pe_int) (pe_op op_mod (pe_callTy call_int1 rfl (B.g "int") boot_int (pa_cons (pe_callB (cr_sum rfl) rfl (B.g "sum") boot_sum (pa_cons (pe_slice sl_list (pe_ix ix_list (pv 0) pe_int (fun _ _ => rfl)) po_none (po_some pe_int)) pa_nil)) pa_nil)) pe_int)))
    (C8.pss_cut (ps_if (pt_cmpR (op_neD hr.units) (pe_ix ix_list (pv 0) pe_int (fun _ _ => rfl)) (pe_lst pa_nil) (nomark _)) (pss_one (ps_set (i := 4) nd rfl (Or.inl rfl) (pe_ix ix_list (pe_ix ix_list (pv 0) pe_int (fun _ _ => rfl)) (pe_op op_mod (pe_callTy call_int1 rfl (B.g "int") boot_int (pa_cons (pv 3) pa_nil)) (pe_callB call_len rfl (B.g "len") boot_len (pa_cons (pe_ix ix_list (pv 0) pe_int (fun _ _ => rfl)) pa_nil))) (fun _ _ => rfl)))) pss_nil)
    (pss_cons (ps_if (PW.pt (pw_and (pt_cmpR op_lt (pv 3) (pe_callB call_len rfl (B.g "len") boot_len (pa_cons (pe_ix ix_list (pv 0) pe_int (fun _ _ => rfl)) pa_nil)) (nomark _)) (pw_and1 (pt_cmpR op_ge (pe_callB call_abs rfl (B.g "abs") boot_abs (pa_cons (pv 4) pa_nil)) (pe_op op_pow pe_int pe_int) (nomark _))))) (pss_cons (ps_set (i := 5) nd rfl (Or.inl rfl) (pe_op op_sub (pe_callB call_abs rfl (B.g "abs") boot_abs (pa_cons (pv 4) pa_nil)) (pe_op op_pow pe_int pe_int)))
      (pss_cons (ps_asg (pe_op op_fdiv (pe_callTy call_int1 rfl (B.g "int") boot_int (pa_cons (pv 5) pa_nil)) (pv 1)) (pg_sub (pv 0) pe_int set_list))
      (pss_one (ps_ret (pe_op op_mod (pe_callTy call_int1 rfl (B.g "int") boot_int (pa_cons (pv 5) pa_nil)) (pv 1)))))) pss_nil)
    (pss_cons (ps_set (i := 6) nd rfl (Or.inl rfl) (pe_op op_mod (pe_callTy call_int1 rfl (B.g "int") boot_int (pa_cons (pe_op op_pow (pe_op op_add (pe_op op_add (pe_op op_mod (pe_callTy call_int1 rfl (B.g "int") boot_int (pa_cons (pv 4) pa_nil)) pe_int) (pe_op op_mul pe_int (pv 3))) pe_int) pe_int) pa_nil)) pe_int))
    (pss_cons (ps_set (i := 6) nd rfl (Or.inl rfl) (pe_op op_mod (pe_callTy call_int1 rfl (B.g "int") boot_int (pa_cons (pe_op op_pow (pe_op op_add (pe_op op_add (pe_op op_mul (pv 6) (pe_op op_add (pe_op op_mul pe_int (pv 3)) pe_int)) (pe_op op_mul (pe_op op_mul pe_int (pv 3)) (pv 3))) pe_int) pe_int) pa_nil)) pe_int))
    (pss_one (ps_ret (pe_op op_mod (pe_callTy call_int1 rfl (B.g "int") boot_int (pa_cons (pe_op op_fdiv (pv 6) pe_int) pa_nil)) (pv 1)))))))))))), ?_⟩
  · obtain ⟨P, L, ns, turn, rest, many, rfl, _⟩ := h
    rfl
  obtain ⟨P, L, ns, turn, rest, many, rfl, pen, ht, ⟨m1, m2⟩, q⟩ := h
  have hP := pen.pen
  refine ⟨_, rfl, P, _, _, _, rfl, rfl, SqL.of hP, atI_nat (j := 2) rfl, _, _, rfl, rfl, _, rfl, ?_⟩
  refine ite2 (fun c => ?_) (fun c => ?_)
  · refine ⟨_, rfl, P, _, _, _, rfl, rfl, SqL.of hP, atI_nat (j := 2) rfl, .inl ⟨_, rfl, _, rfl, _, _, rfl, rfl, by show 0 < many; omega, ?_⟩⟩
    refine ⟨_, rfl, P, _, _, _, rfl, rfl, SqL.of hP, atI_nat (j := 2) rfl, .inl ⟨_, rfl, _, rfl, _, _, rfl, rfl, ⟨by show 0 < many; omega, m2⟩, ?_⟩⟩
    refine ⟨_, rfl, P, _, 2, 2, rfl, rfl, hP, rfl, ?_⟩
    refine ⟨_, rfl, q _ _ turn _ (Int.emod_nonneg _ (by omega)) (Int.emod_lt_of_pos _ (by omega)) (Int.ediv_nonneg pen.r0 (by omega)) (by omega) (UpD.put fun b o _ e => e) upd_same⟩
  refine ⟨_, rfl, P, _, _, _, rfl, rfl, SqL.of hP, atI_nat (j := 1) rfl, ?_⟩
  refine ⟨_, rfl, _, _, rfl, rfl, _, rfl, P, _, 1, 1, rfl, rfl, hP, rfl, ?_⟩
  have hP1 : (upd H P (.lst [.ref L, .int ((turn : Int) + 1), .int rest])) P = some (.lst [.ref L, .int ((turn : Int) + 1), .int rest]) := upd_same
  have hL1 : (upd H P (.lst [.ref L, .int ((turn : Int) + 1), .int rest])) L = some (.lst (ns.map V.int)) := by rw [upd_ne pen.ne]; exact pen.ls
  have u1 : UpD P H (upd H P (.lst [.ref L, .int ((turn : Int) + 1), .int rest])) := UpD.put fun b o _ e => e
  show tSeq _ _ _ _ (upd H P (.lst [.ref L, .int ((turn : Int) + 1), .int rest]))
  generalize upd H P (.lst [.ref L, .int ((turn : Int) + 1), .int rest]) = H1 at hP1 hL1 u1 ⊢
  refine ⟨_, rfl, _, _, rfl, rfl, .inl ⟨by decide, by decide⟩, _, _, rfl, rfl, _, rfl, P, _, _, _, rfl, rfl, SqL.of hP1, atI_nat (j := 0) rfl, _, rfl, L, _, rfl, SqL.of hL1, fun D nD => ?_⟩
  rw [cut_one]
  refine ⟨D, ns.take 1, rfl, SqL.of upd_same, .inl ⟨_, rfl, _, _, rfl, rfl, by show (0 : Int) < 1000003; decide, _, _, rfl, rfl, ?_⟩⟩
  have hP2 : (upd H1 D (.lst ((ns.take 1).map V.int))) P = some (.lst [.ref L, .int ((turn : Int) + 1), .int rest]) := (same_upd nD) _ _ hP1
  have hL2 : (upd H1 D (.lst ((ns.take 1).map V.int))) L = some (.lst (ns.map V.int)) := (same_upd nD) _ _ hL1
  have u2 : UpD P H (upd H1 D (.lst ((ns.take 1).map V.int))) := fun b o n e => (same_upd nD) b o (u1 b o n e)
  show C8.tCut _ _ _ _ (upd H1 D (.lst ((ns.take 1).map V.int)))
  generalize upd H1 D (.lst ((ns.take 1).map V.int)) = H2 at hP2 hL2 u2 ⊢
  refine ⟨fun σ' H' => ∃ cell : Int, σ' = [some (.ref P), some (.int many), none, some (.int turn), some (.int cell), none, none] ∧ UpD P H H' ∧ H' P = some (.lst [.ref L, .int ((turn : Int) + 1), .int rest]) ∧ H' L = some (.lst (ns.map V.int)), ?_, ?_⟩
  · refine ⟨_, rfl, P, _, _, _, rfl, rfl, SqL.of hP2, atI_nat (j := 0) rfl, (by show 0 ≤ sizeLine; decide), fun E1 n1 => ⟨_, _, .lst (SqL.of ((same_upd n1) _ _ hL2)) (dp_ints ns), .lst (SqL.of upd_same) .nil, shp_ints ns, rfl, _, rfl, ?_⟩⟩
    rw [eqv_ints]
    have hP3 := (same_upd (o := .lst []) n1) _ _ hP2
    have hL3 := (same_upd (o := .lst []) n1) _ _ hL2
    have u3 : UpD P H (upd H2 E1 (.lst [])) := fun b o n e => (same_upd n1) b o (u2 b o n e)
    generalize upd H2 E1 (.lst []) = H3 at hP3 hL3 u3 ⊢
    refine ite2 (fun c2 => ?_) (fun c2 => ?_)
    · have hne : 0 < ns.length := by
        cases ns with
        | nil => cases c2
        | cons a r => rw [List.length_cons]; omega
      have hlt : turn % ns.length < ns.length := Nat.mod_lt _ hne
      refine ⟨_, rfl, P, _, _, _, rfl, rfl, SqL.of hP3, atI_nat (j := 0) rfl, _, rfl, .inl ⟨_, rfl, _, rfl, P, _, _, _, rfl, rfl, SqL.of hP3, atI_nat (j := 0) rfl, _, _, rfl, .inl ⟨_, SqL.of hL3, rfl⟩, _, _, rfl, rfl, ?_, ?_⟩⟩
      · rw [List.length_map]; omega
      · rw [List.length_map]
        refine ⟨L, _, _, .int ns[turn % ns.length], rfl, rfl, SqL.of hL3, ?_, ns[turn % ns.length], rfl, u3, hP3, hL3⟩
        rw [show ((turn : Int) % (ns.length : Int)) = ((turn % ns.length : Nat) : Int) from by simp]
        exact atI_nat (by rw [List.getElem?_map, List.getElem?_eq_getElem hlt]; rfl)
    · exact ⟨_, rfl, u3, hP3, hL3⟩
  · rintro σ' H3 ⟨cell, rfl, u3, hP3, hL3⟩
    have q2 : ∀ (x : Int) (rest' : Int) H', 0 ≤ rest' → UpD P H H' → H' P = some (.lst [.ref L, .int ((turn : Int) + 1), .int rest']) → Q (.int (x % many)) H' := fun x rest' H' r0 u hp =>
      q _ rest' (turn + 1) H' (Int.emod_nonneg _ (by omega)) (Int.emod_lt_of_pos _ (by omega)) r0 (Nat.le_refl _) u (by rw [hp]; rfl)
    have mix : ∀ x : Int, 0 ≤ x % 2147483629 ∧ x % 2147483629 < 2147483629 := fun x => ⟨Int.emod_nonneg _ (by decide), Int.emod_lt_of_pos _ (by decide)⟩
    refine ⟨_, rfl, _, rfl, P, _, _, _, rfl, rfl, SqL.of hP3, atI_nat (j := 0) rfl, _, _, rfl, .inl ⟨_, SqL.of hL3, rfl⟩, _, _, rfl, rfl, _, rfl, ?_⟩
    refine ite2 (fun c2 => ?_) (fun c2 => ?_)
    · refine ⟨_, rfl, _, rfl, _, _, rfl, rfl, ⟨by decide, by decide, by decide⟩, _, _, rfl, rfl, _, rfl, ?_⟩
      refine ite2 (fun c3 => ?_) (fun c3 => ?_)
      · have g0 : (10 : Int) ^ (18 : Int).toNat ≤ (if cell < 0 then -cell else cell) := of_decide_eq_true c3
        refine ⟨_, rfl, _, rfl, _, _, rfl, rfl, ⟨by decide, by decide, by decide⟩, _, _, rfl, rfl, _, rfl, .inl ⟨_, rfl, _, rfl, _, _, rfl, rfl, ⟨by show 0 < many; omega, m2⟩, _, rfl, P, _, 2, 2, rfl, rfl, hP3, rfl, ?_⟩⟩
        refine ⟨_, rfl, .inl ⟨_, rfl, _, rfl, _, _, rfl, rfl, by show 0 < many; omega, ?_⟩⟩
        exact q2 _ _ _ (Int.ediv_nonneg (by omega) (by omega)) (UpD.put u3) upd_same
      · skip
        refine ⟨_, rfl, .inl ⟨_, rfl, _, _, rfl, rfl, by show (0 : Int) < 2147483563; decide, _, rfl, _, _, rfl, rfl, .inl ⟨by decide, by decide⟩, _, _, rfl, rfl, _, _, rfl, rfl, _, _, rfl, rfl, ⟨by decide, by decide, bnd1 cell ht⟩, .inl ⟨_, rfl, _, _, rfl, rfl, by show (0 : Int) < 2147483629; decide, ?_⟩⟩⟩
        have mx := mix ((cell % 2147483563 + 62701 * (turn : Int) + 787) ^ (5 : Int).toNat)
        refine ⟨_, rfl, _, rfl, _, _, rfl, rfl, .inl ⟨by decide, by decide⟩, _, _, rfl, rfl, _, _, rfl, rfl, .inl ⟨Int.lt_of_lt_of_le (by decide) mx.1, Int.lt_trans mx.2 (by decide)⟩, _, rfl, _, _, rfl, rfl, .inl ⟨by decide, by decide⟩, _, rfl, _, _, rfl, rfl, .inr ⟨by omega, by omega⟩, _, _, rfl, rfl, _, _, rfl, rfl, _, _, rfl, rfl, ⟨by decide, by decide, bnd2 mx.1 mx.2 ht⟩, .inl ⟨_, rfl, _, _, rfl, rfl, by show (0 : Int) < 2147483587; decide, ?_⟩⟩
        exact ⟨_, rfl, _, _, rfl, rfl, ⟨by show (0 : Int) < 32; decide, by show (32 : Int) < 1073741824; decide⟩, .inl ⟨_, rfl, _, rfl, _, _, rfl, rfl, by show 0 < many; omega, q2 _ _ _ pen.r0 u3 hP3⟩⟩
    · skip
      refine iteF ⟨_, rfl, .inl ⟨_, rfl, _, _, rfl, rfl, by show (0 : Int) < 2147483563; decide, _, rfl, _, _, rfl, rfl, .inl ⟨by decide, by decide⟩, _, _, rfl, rfl, _, _, rfl, rfl, _, _, rfl, rfl, ⟨by decide, by decide, bnd1 cell ht⟩, .inl ⟨_, rfl, _, _, rfl, rfl, by show (0 : Int) < 2147483629; decide, ?_⟩⟩⟩
      have mx := mix ((cell % 2147483563 + 62701 * (turn : Int) + 787) ^ (5 : Int).toNat)
      refine ⟨_, rfl, _, rfl, _, _, rfl, rfl, .inl ⟨by decide, by decide⟩, _, _, rfl, rfl, _, _, rfl, rfl, .inl ⟨Int.lt_of_lt_of_le (by decide) mx.1, Int.lt_trans mx.2 (by decide)⟩, _, rfl, _, _, rfl, rfl, .inl ⟨by decide, by decide⟩, _, rfl, _, _, rfl, rfl, .inr ⟨by omega, by omega⟩, _, _, rfl, rfl, _, _, rfl, rfl, _, _, rfl, rfl, ⟨by decide, by decide, bnd2 mx.1 mx.2 ht⟩, .inl ⟨_, rfl, _, _, rfl, rfl, by show (0 : Int) < 2147483587; decide, ?_⟩⟩
      exact ⟨_, rfl, _, _, rfl, rfl, ⟨by show (0 : Int) < 32; decide, by show (32 : Int) < 1073741824; decide⟩, .inl ⟨_, rfl, _, rfl, _, _, rfl, rfl, by show 0 < many; omega, q2 _ _ _ pen.r0 u3 hP3⟩⟩
end
end Q7
set_option maxHeartbeats 4000000
namespace Q7
open PySem PySem.Spec PyProof.Rows L2 SX
/-! ### _law_pick: some item -/
/-- the pen has drawn at most c times -/
def PenOut (H : Hp) (P L : Addr) (turn c : Nat) (H' : Hp) : Prop := UpD P H H' ∧ ∃ (turn' : Nat) (rest' : Int), H' P = some (.lst [.ref L, .int turn', .int rest']) ∧ turn' ≤ turn + c ∧ 0 ≤ rest'
theorem PenOut.pen {K : PySem.W.Frag} {H H' : Hp} {P L : Addr} {ns : List Int} {turn c : Nat} {rest : Int} (p : Pen K H P L ns turn rest) (o : PenOut H P L turn c H') : ∃ (turn' : Nat) (rest' : Int), Pen K H' P L ns turn' rest' ∧ turn' ≤ turn + c := by
  obtain ⟨u, turn', rest', h1, h2, h3⟩ := o
  exact ⟨turn', rest', ⟨h1, u _ _ p.ne p.ls, p.sz, h3⟩, h2⟩
def spPick (K : PySem.W.Frag) : Sp := fun vs H Q _ => ∃ (P L : Addr) (ns : List Int) (turn : Nat) (rest : Int) (x : V), vs = [.ref P, x] ∧ Pen K H P L ns turn rest ∧ turn < 2 ^ 20 ∧
  ((∃ (S : Addr) (xs : List V), x = .ref S ∧ H S = some (.lst xs) ∧ S ≠ P ∧ 0 < xs.length ∧ xs.length < 1073741824 ∧ ∀ y ∈ xs, ∀ H', PenOut H P L turn 1 H' → Q y H') ∨
   (∃ z : Str, x = .str z ∧ 0 < z.length ∧ z.length < 1048576 ∧ ∀ c ∈ z.cps.toList, ∀ H', PenOut H P L turn 1 H' → Q (.str ⟨#[c]⟩) H'))
section
variable {P : Program} {w : World} {K : PySem.W.Frag} {mg : Str → Option Value} {base : Heap} {f : Addr} {fd : FuncData}
theorem ok_pick (F : FnP K "_law_pick" "_law_pick" (top 41) [] f fd) (b : Binds K fd ["_law_pen_here", "_law_some"] []) (B : Blt mg) (cD : Nam CX0 P w K mg base 1 "_law_draw" (spDraw K)) : FnR P w K mg base CX0 2 f (spPick K) := by
  have sc : FnScope ["_law_pen_here", "_law_some"] ["_law_pen_here", "_law_some"] (defScope (top 41)) := sc_by (by decide +kernel)
  have nd := sc.nd
  refine fnp0 F b sc (fun vs H Q E h => ?_) fun cdv A outer s H vs Q E hr h => ⟨_,
    (pss_one (ps_ret (pe_ix ix_seq (pv 1) (pe_nam cD hr (by decide) rfl pass_no (pa_cons (pv 0) (pa_cons (pe_callB call_len rfl (B.g "len") boot_len (pa_cons (pv 1) pa_nil)) pa_nil))) (fun _ _ => rfl)))), ?_⟩
  · obtain ⟨P, L, ns, turn, rest, x, rfl, _⟩ := h
    rfl
  obtain ⟨P, L, ns, turn, rest, x, rfl, pen, ht, h⟩ := h
  rcases h with ⟨S, xs, rfl, hS, hne, h0, h1, q⟩ | ⟨z, rfl, h0, h1, q⟩
  · refine ⟨_, rfl, _, rfl, _, rfl, _, _, rfl, .inl ⟨_, SqL.of hS, rfl⟩, P, L, ns, turn, rest, (xs.length : Int), rfl, pen, ht, ⟨by omega, by omega⟩, fun d rest' turn' H' d0 d1 r0 ht' u hp => ?_⟩
    obtain ⟨j, rfl⟩ := Int.eq_ofNat_of_zero_le d0
    have hj : j < xs.length := by omega
    have e : xs[j]? = some xs[j] := List.getElem?_eq_getElem hj
    exact .inl ⟨S, xs, _, xs[j], rfl, rfl, SqL.of (u _ _ hne hS), atI_nat e, q _ (List.getElem_mem hj) H' ⟨u, turn', rest', hp, ht', r0⟩⟩
  · have hsz : sizeLine = 16777216 := sizeLine_eq
    refine ⟨_, rfl, _, rfl, _, rfl, _, _, rfl, ⟨by omega, rfl⟩, P, L, ns, turn, rest, (z.length : Int), rfl, pen, ht, ⟨by omega, by omega⟩, fun d rest' turn' H' d0 d1 r0 ht' u hp => ?_⟩
    obtain ⟨j, rfl⟩ := Int.eq_ofNat_of_zero_le d0
    have hj : j < z.cps.toList.length := by
      have : z.cps.toList.length = z.length := by simp [Str.length]
      omega
    have e : z.cps.toList[j]? = some z.cps.toList[j] := List.getElem?_eq_getElem hj
    exact .inr (.inr ⟨z, _, _, rfl, rfl, by omega, atI_nat e, q _ (List.getElem_mem hj) H' ⟨u, turn', rest', hp, ht', r0⟩⟩)
end
end Q7
set_option maxHeartbeats 4000000
namespace Q7
open PySem PySem.Spec PyProof.Rows L2 SX
/-! ### _law_pen -/
theorem cut_63 (ns : List Int) : cutV (ns.map V.int) none (some 63) = (ns.take 63).map V.int := by
  unfold cutV
  rw [show (some (63 : Int)) = some ((63 : Nat) : Int) from rfl, HT.sIx_nat, HT.sIx_none, List.length_map, List.drop_zero, ← List.map_take, Nat.sub_zero]
  by_cases h : ns.length ≤ 63
  · rw [Nat.min_eq_right h, List.take_length, List.take_of_length_le h]
  · rw [Nat.min_eq_left (by omega)]
def spPen (K : PySem.W.Frag) : Sp := fun vs H Q _ => ∃ (a : Addr) (ns : List Int), vs = [.ref a] ∧ SqL K H a (ns.map V.int) ∧ ∀ P L H', Same H H' → H P = none → Pen K H' P L (ns.take 63) 0 0 → Q (.ref P) H'
section
variable {P : Program} {w : World} {K : PySem.W.Frag} {mg : Str → Option Value} {base : Heap} {f : Addr} {fd : FuncData}
theorem ok_pen (F : FnP K "_law_pen" "_law_pen" (top 39) [] f fd) (b : Binds K fd ["_law_script"] []) (B : Blt mg) : FnR P w K mg base CX0 1 f (spPen K) := by
  have sc : FnScope ["_law_script"] ["_law_script"] (defScope (top 39)) := sc_by (by decide +kernel)
  have nd := sc.nd
  refine fnp0 F b sc (fun vs H Q E h => ?_) fun cdv A outer s H vs Q E hr h => ⟨_,
    (pss_one (ps_ret (pe_lst (pa_cons (pe_callTy call_list_of rfl (B.g "list") boot_list (pa_cons (pe_slice sl_list (pv 0) po_none (po_some pe_int)) pa_nil)) (pa_cons pe_int (pa_cons pe_int pa_nil)))))), ?_⟩
  · obtain ⟨a, ns, rfl, _⟩ := h
    rfl
  obtain ⟨a, ns, rfl, ha, q⟩ := h
  refine ⟨_, rfl, _, rfl, a, _, rfl, ha, fun D nD => ?_⟩
  rw [cut_63]
  refine ⟨D, _, rfl, .inl (SqL.of upd_same), fun L nL => ⟨(by show 3 ≤ sizeLine; decide), fun P nP => ?_⟩⟩
  have s0 : Same H (upd (upd H D (.lst ((ns.take 63).map V.int))) L (.lst ((ns.take 63).map V.int))) := (same_upd nD).trans (same_upd nL)
  exact q P L _ (s0.trans (same_upd nP)) (nn s0 nP) ⟨upd_same, (same_upd nP) _ _ upd_same, by rw [List.length_take]; omega, Int.le_refl 0⟩
end
end Q7
set_option maxHeartbeats 4000000
namespace Q7
open PySem PySem.Spec PyProof.Rows L2 SX
/-! ### _law_number -/
theorem UpD.trans {D : Addr} {H1 H2 H3 : Hp} (a : UpD D H1 H2) (b : UpD D H2 H3) : UpD D H1 H3 := fun x o n e => b x o n (a x o n e)
theorem int_text {i : Int} (h1 : -1 ≤ i) (h2 : i ≤ 10 ^ 60) : ∃ l, (toString i : Str) = S l ∧ asc l ∧ l.length ≤ 62 := by
  by_cases h : i = -1
  · subst h
    exact ⟨[45, 49], by decide +kernel, by unfold asc; decide, by decide⟩
  · obtain ⟨n, rfl⟩ := Int.eq_ofNat_of_zero_le (show 0 ≤ i by omega)
    have hn : n < 10 ^ 61 := by
      have : (n : Int) ≤ ((10 ^ 60 : Nat) : Int) := h2
      have : n ≤ 10 ^ 60 := by omega
      exact Nat.lt_of_le_of_lt this (by decide)
    refine ⟨TL.numL n, num_S n, fun c hc => ?_, Nat.le_trans (TL.numL_len (k := 61) (by decide) hn) (by decide)⟩
    have := TL.numL_digits n c hc
    omega
/-- some text of at most n signs, made with at most c draws -/
def spTxt (K : PySem.W.Frag) (c n : Nat) : Sp := fun vs H Q _ => ∃ (P L : Addr) (ns : List Int) (turn : Nat) (rest : Int), vs = [.ref P] ∧ Pen K H P L ns turn rest ∧ turn + c ≤ 2 ^ 20 ∧
  ∀ l H', asc l → l.length ≤ n → PenOut H P L turn c H' → Q (.str (S l)) H'
section
variable {P : Program} {w : World} {K : PySem.W.Frag} {mg : Str → Option Value} {base : Heap} {f : Addr} {fd : FuncData}
theorem ok_number (F : FnP K "_law_number" "_law_number" (top 49) [] f fd) (b : Binds K fd ["_law_pen_here"] []) (B : Blt mg) (cD : Nam CX0 P w K mg base 1 "_law_draw" (spDraw K)) (cP : Nam CX0 P w K mg base 2 "_law_pick" (spPick K)) : FnR P w K mg base CX0 3 f (spTxt K 3 62) := by
  have sc : FnScope ["_law_pen_here"] ["_law_pen_here"] (defScope (top 49)) := sc_by (by decide +kernel)
  have nd := sc.nd
  refine fnp0 F b sc (fun vs H Q E h => ?_) fun cdv A outer s H vs Q E hr h => ⟨_,
    (pss_one (ps_ret (pe_callTy call_str_int rfl (B.g "str") boot_str (pa_cons (pe_nam cP hr (by decide) rfl pass_no (pa_cons (pv 0) (pa_cons (pe_lst (pa_cons pe_int (pa_cons pe_int (pa_cons (pe_nam cD hr (by decide) rfl pass_no (pa_cons (pv 0) (pa_cons (pe_op op_pow pe_int pe_int) pa_nil))) (pa_cons (pe_op op_pow pe_int pe_int) (pa_cons (pe_op op_sub (pe_op op_pow pe_int pe_int) pe_int) (pa_cons (pe_op op_sub (pe_op op_sub (pe_op op_pow pe_int pe_int) pe_int) (pe_nam cD hr (by decide) rfl pass_no (pa_cons (pv 0) (pa_cons pe_int pa_nil)))) (pa_cons (pe_op op_pow pe_int pe_int) (pa_cons (pe_un un_neg pe_int) pa_nil))))))))) pa_nil))) pa_nil)))), ?_⟩
  · obtain ⟨P, L, ns, turn, rest, rfl, _⟩ := h
    rfl
  obtain ⟨P, L, ns, turn, rest, rfl, pen, ht, q⟩ := h
  have p59 : CPow 10 59 := ⟨by decide, by decide, by decide⟩
  have p60 : CPow 10 60 := ⟨by decide, by decide, by decide⟩
  refine ⟨_, rfl, _, rfl, _, _, rfl, rfl, ⟨by decide, by decide, by decide⟩, P, L, ns, turn, rest, _, rfl, pen, by omega, ⟨by decide, by decide⟩, fun d1 r1 t1 H1 a1 a2 a3 a4 u1 p1 => ?_⟩
  have pen1 : Pen K H1 P L ns t1 r1 := ⟨p1, u1 _ _ pen.ne pen.ls, pen.sz, a3⟩
  refine ⟨_, _, rfl, rfl, p59, _, _, rfl, rfl, p60, _, _, rfl, rfl, _, _, rfl, rfl, p60, _, _, rfl, rfl, _, rfl, P, L, ns, t1, r1, 99, rfl, pen1, by omega, ⟨by decide, by decide⟩, fun d2 r2 t2 H2 b1 b2 b3 b4 u2 p2 => ?_⟩
  refine ⟨_, _, rfl, rfl, _, _, rfl, rfl, p60, _, rfl, (by show 8 ≤ sizeLine; decide), fun S nS => ?_⟩
  have sS := same_upd (o := .lst [V.int 0, V.int 9, V.int d1, V.int (10 ^ Int.toNat 59), V.int (10 ^ Int.toNat 60 - 1), V.int (10 ^ Int.toNat 60 - 1 - d2), V.int (10 ^ Int.toNat 60), V.int (-1)]) nS
  have hSP : S ≠ P := fun z => by rw [z, p2] at nS; cases nS
  have pen2 : Pen K (upd H2 S (.lst [V.int 0, V.int 9, V.int d1, V.int (10 ^ Int.toNat 59), V.int (10 ^ Int.toNat 60 - 1), V.int (10 ^ Int.toNat 60 - 1 - d2), V.int (10 ^ Int.toNat 60), V.int (-1)])) P L ns t2 r2 := ⟨sS _ _ p2, sS _ _ (u2 _ _ pen.ne pen1.ls), pen.sz, b3⟩
  refine ⟨P, L, ns, t2, r2, .ref S, rfl, pen2, by omega, .inl ⟨S, _, rfl, upd_same, hSP, by show 0 < 8; decide, by show 8 < 1073741824; decide, fun y hy H3 o => ?_⟩⟩
  have e9 : (10 : Int) ^ Int.toNat 9 = 1000000000 := by decide
  have e59 : (10 : Int) ^ Int.toNat 59 = 10 ^ 59 := by decide
  have e60 : (10 : Int) ^ Int.toNat 60 = 10 ^ 60 := by decide
  have a2 : d1 < (10 : Int) ^ Int.toNat 9 := a2
  rw [e9] at a2
  have hy : y ∈ [V.int 0, V.int 9, V.int d1, V.int (10 ^ Int.toNat 59), V.int (10 ^ Int.toNat 60 - 1), V.int (10 ^ Int.toNat 60 - 1 - d2), V.int (10 ^ Int.toNat 60), V.int (-1)] := hy
  rw [e59, e60] at hy
  have hi : ∃ i : Int, y = .int i ∧ -1 ≤ i ∧ i ≤ 10 ^ 60 := by
    simp only [List.mem_cons, List.not_mem_nil, or_false] at hy
    rcases hy with h | h | h | h | h | h | h | h <;> exact ⟨_, h, by omega, by omega⟩
  obtain ⟨i, rfl, i1, i2⟩ := hi
  obtain ⟨l, e, la, ll⟩ := int_text i1 i2
  obtain ⟨u3, t3, r3, p3, h3, h4⟩ := o
  refine ⟨i, rfl, log_sm (Nat.lt_of_le_of_lt (show i.natAbs ≤ 10 ^ 60 by omega) big_small), ?_⟩
  have z := q l H3 la ll ⟨u1.trans (u2.trans ((UpD.of sS).trans u3)), t3, r3, p3, by omega, h4⟩
  rw [← e] at z
  exact z
end
end Q7
set_option maxHeartbeats 4000000
namespace Q7
open PySem PySem.Spec PyProof.Rows L2 SX
/-! ### _law_rule -/
/-- a pick from a list of ints, and what it may be -/
theorem S_app (a b : List Nat) : (S a ++ S b : Str) = S (a ++ b) := by
  refine TL.ext_tl ?_
  show (a.toArray ++ b.toArray).toList = a ++ b
  simp
theorem asc_app {a b : List Nat} (h1 : asc a) (h2 : asc b) : asc (a ++ b) := fun x hx => (List.mem_append.mp hx).elim (h1 x) (h2 x)
theorem pick4 {K : PySem.W.Frag} {σ : L2.St} {H : Hp} {Q : VK} {P L : Addr} {ns : List Int} {turn : Nat} {rest : Int} (h0 : σ[0]? = some (some (.ref P))) (pen : Pen K H P L ns turn rest) (ht : turn + 2 ≤ 2 ^ 20)
    (q : ∀ (i : Int) (H' : Hp), 0 ≤ i → i ≤ 21 → PenOut H P L turn 2 H' → Q (.int i) H') :
    tCallS (spPick K) noE (tCons (tVar 0) (tCons (tLst (tCons (tC (.int 0)) (tCons (tC (.int 1)) (tCons (tC (.int 20)) (tCons (tCallS (spDraw K) noE (tCons (tVar 0) (tCons (tC (.int 22)) tNil))) tNil))))) tNil)) σ H Q := by
  refine ⟨_, h0, _, h0, P, L, ns, turn, rest, 22, rfl, pen, by omega, ⟨by decide, by decide⟩, fun d r1 t1 H1 a1 a2 a3 a4 u1 p1 => ⟨(by show 4 ≤ sizeLine; decide), fun S nS => ?_⟩⟩
  have sS := same_upd (o := .lst [V.int 0, V.int 1, V.int 20, V.int d]) nS
  have hSP : S ≠ P := fun z => by rw [z, p1] at nS; cases nS
  refine ⟨P, L, ns, t1, r1, .ref S, rfl, ⟨sS _ _ p1, sS _ _ (u1 _ _ pen.ne pen.ls), pen.sz, a3⟩, by omega, .inl ⟨S, _, rfl, upd_same, hSP, by show 0 < 4; decide, by show 4 < 1073741824; decide, fun y hy H3 o => ?_⟩⟩
  obtain ⟨u3, t3, r3, p3, h3, h4⟩ := o
  have hi : ∃ i : Int, y = .int i ∧ 0 ≤ i ∧ i ≤ 21 := by
    have hy : y ∈ [V.int 0, V.int 1, V.int 20, V.int d] := hy
    simp only [List.mem_cons, List.not_mem_nil, or_false] at hy
    rcases hy with h | h | h | h <;> exact ⟨_, h, by omega, by omega⟩
  obtain ⟨i, rfl, i1, i2⟩ := hi
  exact q i H3 i1 i2 ⟨u1.trans ((UpD.of sS).trans u3), t3, r3, p3, by omega, h4⟩
theorem pick3 {K : PySem.W.Frag} {σ : L2.St} {H : Hp} {Q : VK} {P L : Addr} {ns : List Int} {turn : Nat} {rest : Int} (h0 : σ[0]? = some (some (.ref P))) (pen : Pen K H P L ns turn rest) (ht : turn + 2 ≤ 2 ^ 20)
    (q : ∀ (i : Int) (H' : Hp), 0 ≤ i → i ≤ 21 → PenOut H P L turn 2 H' → Q (.int i) H') :
    tCallS (spPick K) noE (tCons (tVar 0) (tCons (tLst (tCons (tC (.int 1)) (tCons (tC (.int 20)) (tCons (tCallS (spDraw K) noE (tCons (tVar 0) (tCons (tC (.int 22)) tNil))) tNil)))) tNil)) σ H Q := by
  refine ⟨_, h0, _, h0, P, L, ns, turn, rest, 22, rfl, pen, by omega, ⟨by decide, by decide⟩, fun d r1 t1 H1 a1 a2 a3 a4 u1 p1 => ⟨(by show 3 ≤ sizeLine; decide), fun S nS => ?_⟩⟩
  have sS := same_upd (o := .lst [V.int 1, V.int 20, V.int d]) nS
  have hSP : S ≠ P := fun z => by rw [z, p1] at nS; cases nS
  refine ⟨P, L, ns, t1, r1, .ref S, rfl, ⟨sS _ _ p1, sS _ _ (u1 _ _ pen.ne pen.ls), pen.sz, a3⟩, by omega, .inl ⟨S, _, rfl, upd_same, hSP, by show 0 < 3; decide, by show 3 < 1073741824; decide, fun y hy H3 o => ?_⟩⟩
  obtain ⟨u3, t3, r3, p3, h3, h4⟩ := o
  have hi : ∃ i : Int, y = .int i ∧ 0 ≤ i ∧ i ≤ 21 := by
    have hy : y ∈ [V.int 1, V.int 20, V.int d] := hy
    simp only [List.mem_cons, List.not_mem_nil, or_false] at hy
    rcases hy with h | h | h <;> exact ⟨_, h, by omega, by omega⟩
  obtain ⟨i, rfl, i1, i2⟩ := hi
  exact q i H3 i1 i2 ⟨u1.trans ((UpD.of sS).trans u3), t3, r3, p3, by omega, h4⟩
section
variable {P : Program} {w : World} {K : PySem.W.Frag} {mg : Str → Option Value} {base : Heap} {f : Addr} {fd : FuncData}
theorem ok_rule (F : FnP K "_law_rule" "_law_rule" (top 50) [] f fd) (b : Binds K fd ["_law_pen_here"] []) (B : Blt mg) (cD : Nam CX0 P w K mg base 1 "_law_draw" (spDraw K)) (cP : Nam CX0 P w K mg base 2 "_law_pick" (spPick K)) : FnR P w K mg base CX0 3 f (spTxt K 12 300) := by
  have sc : FnScope ["_law_pen_here", "_law_early", "_law_late", "_law_found", "_law_spread"] ["_law_pen_here"] (defScope (top 50)) := sc_by (by decide +kernel)
  have nd := sc.nd
  refine fnp0 F b sc (fun vs H Q E h => ?_) fun cdv A outer s H vs Q E hr h => ⟨_,
    (pss_cons (ps_par (i := 1) (j := 2) rfl nd rfl rfl (by decide) rfl rfl (pa_cons (pe_nam cP hr (by decide) rfl pass_no (pa_cons (pv 0) (pa_cons (pe_lst (pa_cons pe_int (pa_cons pe_int (pa_cons pe_int (pa_cons (pe_nam cD hr (by decide) rfl pass_no (pa_cons (pv 0) (pa_cons pe_int pa_nil))) pa_nil))))) pa_nil))) (pa_cons (pe_nam cP hr (by decide) rfl pass_no (pa_cons (pv 0) (pa_cons (pe_lst (pa_cons pe_int (pa_cons pe_int (pa_cons pe_int (pa_cons (pe_nam cD hr (by decide) rfl pass_no (pa_cons (pv 0) (pa_cons pe_int pa_nil))) pa_nil))))) pa_nil))) pa_nil)) rfl)
    (C8.pss_cut (ps_par (i := 3) (j := 4) rfl nd rfl rfl (by decide) rfl rfl (pa_cons (pe_op op_add_str (pe_op op_add_str (pe_op op_add_str pe_str (pe_callTy call_str_int rfl (B.g "str") boot_str (pa_cons (pv 1) pa_nil))) pe_str) (pe_callTy call_str_int rfl (B.g "str") boot_str (pa_cons (pv 2) pa_nil))) (pa_cons (pe_ifExp (pt_cmpR op_gt (pe_op op_mul (pv 1) (pv 2)) pe_int (nomark _)) (pe_op op_add (pv 1) (pv 2)) pe_int) pa_nil)) rfl)
    (C8.pss_cut (ps_if (pt_cmpR op_eq (pe_nam cD hr (by decide) rfl pass_no (pa_cons (pv 0) (pa_cons pe_int pa_nil))) pe_int (nomark _)) (pss_one (ps_set (i := 3) nd rfl (Or.inl rfl) (pe_op op_add_str (pe_op op_add_str (pv 3) pe_str) (pe_callTy call_str_int rfl (B.g "str") boot_str (pa_cons (pe_nam cP hr (by decide) rfl pass_no (pa_cons (pv 0) (pa_cons (pe_lst (pa_cons pe_int (pa_cons pe_int (pa_cons (pe_nam cD hr (by decide) rfl pass_no (pa_cons (pv 0) (pa_cons pe_int pa_nil))) pa_nil)))) pa_nil))) pa_nil))))) pss_nil)
    (C8.pss_cut (ps_if (pt_cmpR op_eq (pe_nam cD hr (by decide) rfl pass_no (pa_cons (pv 0) (pa_cons pe_int pa_nil))) pe_int (nomark _)) (pss_one (ps_set (i := 3) nd rfl (Or.inl rfl) (pe_op op_add_str (pv 3) pe_str))) pss_nil)
    (C8.pss_cut (ps_if (pt_cmpR op_eq (pe_nam cD hr (by decide) rfl pass_no (pa_cons (pv 0) (pa_cons pe_int pa_nil))) pe_int (nomark _)) (pss_one (ps_set (i := 3) nd rfl (Or.inl rfl) (pe_op op_add_str (pe_op op_add_str (pv 3) pe_str) (pe_callTy call_str_int rfl (B.g "str") boot_str (pa_cons (pe_nam cP hr (by decide) rfl pass_no (pa_cons (pv 0) (pa_cons (pe_lst (pa_cons pe_int (pa_cons (pe_callB (call_max2 rfl) rfl (B.g "max") boot_max (pa_cons pe_int (pa_cons (pe_callTy call_int1 rfl (B.g "int") boot_int (pa_cons (pv 4) pa_nil)) pa_nil))) (pa_cons (pe_op op_add (pv 4) pe_int) (pa_cons (pe_nam cD hr (by decide) rfl pass_no (pa_cons (pv 0) (pa_cons (pe_op op_add (pv 4) pe_int) pa_nil))) pa_nil))))) pa_nil))) pa_nil))))) pss_nil)
    (pss_one (ps_ret (pv 3)))))))), ?_⟩
  · obtain ⟨P, L, ns, turn, rest, rfl, _⟩ := h
    rfl
  obtain ⟨P, L, ns, turn, rest, rfl, pen, ht, q⟩ := h
  refine pick4 rfl pen (by omega) fun e H1 e0 e1 o1 => ?_
  obtain ⟨u1, t1, r1, p1, k1, k2⟩ := o1
  have pen1 : Pen K H1 P L ns t1 r1 := ⟨p1, u1 _ _ pen.ne pen.ls, pen.sz, k2⟩
  refine pick4 rfl pen1 (by omega) fun l H2 l0 l1 o2 => ?_
  obtain ⟨u2, t2, r2, p2, k3, k4⟩ := o2
  have pen2 : Pen K H2 P L ns t2 r2 := ⟨p2, u2 _ _ pen.ne pen1.ls, pen.sz, k4⟩
  refine ⟨_, _, rfl, ?_⟩
  have b60 : (21 : Int) ≤ 10 ^ 60 := by decide
  obtain ⟨te, ee, ae, le⟩ := int_text (i := e) (by omega) (by omega)
  obtain ⟨tl, el, al, ll⟩ := int_text (i := l) (by omega) (by omega)
  have hsz : sizeLine = 16777216 := sizeLine_eq
  have lg : ∀ i : Int, 0 ≤ i → i ≤ 21 → i.natAbs.log2 < 1920 := fun i i0 i1 => log_sm (Nat.lt_of_le_of_lt (show i.natAbs ≤ 10 ^ 60 by omega) big_small)
  have o2 : PenOut H P L turn 4 H2 := ⟨u1.trans u2, t2, r2, p2, by omega, k4⟩
  refine ⟨fun σ' H' => ∃ (txt : List Nat) (sp : Int), σ' = [some (.ref P), some (.int e), some (.int l), some (.str (S txt)), some (.int sp)] ∧ asc txt ∧ txt.length ≤ 140 ∧ 0 ≤ sp ∧ sp ≤ 42 ∧ PenOut H P L turn 4 H', ?_, ?_⟩
  · refine ⟨_, rfl, e, rfl, lg e e0 e1, ?_⟩
    rw [ee, show ("early " : Str) = S [101, 97, 114, 108, 121, 32] by decide +kernel]
    refine ⟨_, _, rfl, rfl, by rw [S_len, S_len]; show 6 + te.length ≤ sizeLine; omega, ?_⟩
    rw [S_app, show (" late " : Str) = S [32, 108, 97, 116, 101, 32] by decide +kernel]
    refine ⟨_, _, rfl, rfl, by rw [S_len, S_len, List.length_append]; show 6 + te.length + 6 ≤ sizeLine; omega, ?_⟩
    rw [S_app]
    refine ⟨_, rfl, l, rfl, lg l l0 l1, ?_⟩
    rw [el]
    refine ⟨_, _, rfl, rfl, by rw [S_len, S_len, List.length_append, List.length_append]; show 6 + te.length + 6 + tl.length ≤ sizeLine; omega, ?_⟩
    rw [S_app]
    refine ⟨_, rfl, _, rfl, _, _, rfl, rfl, .inl ⟨by omega, by omega⟩, _, _, rfl, rfl, _, rfl, ?_⟩
    have fin : asc (([101, 97, 114, 108, 121, 32] ++ te) ++ [32, 108, 97, 116, 101, 32] ++ tl) := asc_app (asc_app (asc_app (by unfold asc; decide) ae) (by unfold asc; decide)) al
    have fl : (([101, 97, 114, 108, 121, 32] ++ te) ++ [32, 108, 97, 116, 101, 32] ++ tl).length ≤ 140 := by
      rw [List.length_append, List.length_append, List.length_append]
      show 6 + te.length + 6 + tl.length ≤ 140
      omega
    refine ite2 (fun c => ?_) (fun c => ?_)
    · exact ⟨_, rfl, _, rfl, _, _, rfl, rfl, _, _, rfl, _, e + l, rfl, fin, fl, by omega, by omega, o2⟩
    · exact ⟨_, _, rfl, _, 0, rfl, fin, fl, by omega, by omega, o2⟩
  rintro σ' H3 ⟨txt, sp, rfl, ta, tl3, sp0, sp1, o3⟩
  obtain ⟨t3, r3, pen3, k5⟩ := o3.pen pen
  refine ⟨fun σ' H' => ∃ txt : List Nat, σ' = [some (.ref P), some (.int e), some (.int l), some (.str (S txt)), some (.int sp)] ∧ asc txt ∧ txt.length ≤ 210 ∧ PenOut H P L turn 7 H', ?_, ?_⟩
  · refine ⟨_, rfl, P, L, ns, t3, r3, 2, rfl, pen3, by omega, ⟨by decide, by decide⟩, fun d r4 t4 H4 a1 a2 a3 a4 u4 p4 => ⟨rfl, _, rfl, ?_⟩⟩
    have pen4 : Pen K H4 P L ns t4 r4 := ⟨p4, u4 _ _ pen.ne pen3.ls, pen.sz, a3⟩
    refine ite2 (fun c => ?_) (fun c => ?_)
    · refine ⟨_, rfl, ?_⟩
      rw [show (" lost " : Str) = S [32, 108, 111, 115, 116, 32] by decide +kernel]
      refine ⟨_, _, rfl, rfl, by rw [S_len, S_len]; show txt.length + 6 ≤ sizeLine; omega, ?_⟩
      rw [S_app]
      refine pick3 rfl pen4 (by omega) fun i H5 i0 i1 o5 => ?_
      obtain ⟨ti, ei, ai, li⟩ := int_text (i := i) (by omega) (by omega)
      refine ⟨i, rfl, lg i i0 i1, ?_⟩
      rw [ei]
      refine ⟨_, _, rfl, rfl, by rw [S_len, S_len, List.length_append]; show txt.length + 6 + ti.length ≤ sizeLine; omega, ?_⟩
      rw [S_app]
      obtain ⟨u5, t5, r5, p5, h5, h6⟩ := o5
      exact ⟨_, rfl, asc_app (asc_app ta (by unfold asc; decide)) ai, by rw [List.length_append, List.length_append]; show txt.length + 6 + ti.length ≤ 210; omega, o3.1.trans (u4.trans u5), t5, r5, p5, by omega, h6⟩
    · exact ⟨_, rfl, ta, by omega, o3.1.trans u4, t4, r4, p4, by omega, a3⟩
  rintro σ' H4 ⟨txt2, rfl, ta2, tl4, o4⟩
  obtain ⟨t4, r4, pen4, k6⟩ := o4.pen pen
  refine ⟨fun σ' H' => ∃ txt : List Nat, σ' = [some (.ref P), some (.int e), some (.int l), some (.str (S txt)), some (.int sp)] ∧ asc txt ∧ txt.length ≤ 216 ∧ PenOut H P L turn 8 H', ?_, ?_⟩
  · refine ⟨_, rfl, P, L, ns, t4, r4, 2, rfl, pen4, by omega, ⟨by decide, by decide⟩, fun d r5 t5 H5 a1 a2 a3 a4 u5 p5 => ⟨rfl, _, rfl, ?_⟩⟩
    refine ite2 (fun c => ?_) (fun c => ?_)
    · refine ⟨_, rfl, ?_⟩
      rw [show (" again" : Str) = S [32, 97, 103, 97, 105, 110] by decide +kernel]
      refine ⟨_, _, rfl, rfl, by rw [S_len, S_len]; show txt2.length + 6 ≤ sizeLine; omega, ?_⟩
      rw [S_app]
      exact ⟨_, rfl, asc_app ta2 (by unfold asc; decide), by rw [List.length_append]; show txt2.length + 6 ≤ 216; omega, o4.1.trans u5, t5, r5, p5, by omega, a3⟩
    · exact ⟨_, rfl, ta2, by omega, o4.1.trans u5, t5, r5, p5, by omega, a3⟩
  rintro σ' H5 ⟨txt3, rfl, ta3, tl5, o5⟩
  obtain ⟨t5, r5, pen5, k7⟩ := o5.pen pen
  refine ⟨fun σ' H' => ∃ txt : List Nat, σ' = [some (.ref P), some (.int e), some (.int l), some (.str (S txt)), some (.int sp)] ∧ asc txt ∧ txt.length ≤ 300 ∧ PenOut H P L turn 12 H', ?_, ?_⟩
  · refine ⟨_, rfl, P, L, ns, t5, r5, 2, rfl, pen5, by omega, ⟨by decide, by decide⟩, fun d r6 t6 H6 a1 a2 a3 a4 u6 p6 => ⟨rfl, _, rfl, ?_⟩⟩
    have pen6 : Pen K H6 P L ns t6 r6 := ⟨p6, u6 _ _ pen.ne pen5.ls, pen.sz, a3⟩
    refine ite2 (fun c => ?_) (fun c => ?_)
    · refine ⟨_, rfl, ?_⟩
      rw [show (" apart " : Str) = S [32, 97, 112, 97, 114, 116, 32] by decide +kernel]
      refine ⟨_, _, rfl, rfl, by rw [S_len, S_len]; show txt3.length + 7 ≤ sizeLine; omega, ?_⟩
      rw [S_app]
      refine ⟨_, rfl, _, rfl, .inl ⟨_, rfl, _, _, rfl, _, rfl, _, _, rfl, rfl, _, rfl, _, rfl, _, _, rfl, rfl, P, L, ns, t6, r6, sp + 1, rfl, pen6, by omega, ⟨by omega, by omega⟩, fun d2 r7 t7 H7 b1 b2 b3 b4 u7 p7 => ⟨(by show 4 ≤ sizeLine; decide), fun S1 nS => ?_⟩⟩⟩
      have pen7 : Pen K H7 P L ns t7 r7 := ⟨p7, u7 _ _ pen.ne pen6.ls, pen.sz, b3⟩
      have sS := same_upd (o := .lst [V.int 1, V.int (if sp > 1 then sp else 1), V.int (sp + 1), V.int d2]) nS
      have hSP : S1 ≠ P := fun z => by rw [z, p7] at nS; cases nS
      refine ⟨P, L, ns, t7, r7, .ref S1, rfl, ⟨sS _ _ p7, sS _ _ pen7.ls, pen.sz, b3⟩, by omega, .inl ⟨S1, _, rfl, upd_same, hSP, by show 0 < 4; decide, by show 4 < 1073741824; decide, fun y hy H8 o8 => ?_⟩⟩
      obtain ⟨u8, t8, r8, p8, h8, h9⟩ := o8
      have hi : ∃ i : Int, y = .int i ∧ 0 ≤ i ∧ i ≤ 43 := by
        have hy : y ∈ [V.int 1, V.int (if sp > 1 then sp else 1), V.int (sp + 1), V.int d2] := hy
        simp only [List.mem_cons, List.not_mem_nil, or_false] at hy
        rcases hy with h | h | h | h
        · exact ⟨_, h, by omega, by omega⟩
        · exact ⟨_, h, by split <;> omega, by split <;> omega⟩
        · exact ⟨_, h, by omega, by omega⟩
        · exact ⟨_, h, by omega, by omega⟩
      obtain ⟨i, rfl, i0, i1⟩ := hi
      obtain ⟨ti, ei, ai, li⟩ := int_text (i := i) (by omega) (by omega)
      refine ⟨i, rfl, log_sm (Nat.lt_of_le_of_lt (show i.natAbs ≤ 10 ^ 60 by omega) big_small), ?_⟩
      rw [ei]
      refine ⟨_, _, rfl, rfl, by rw [S_len, S_len, List.length_append]; show txt3.length + 7 + ti.length ≤ sizeLine; omega, ?_⟩
      rw [S_app]
      exact ⟨_, rfl, asc_app (asc_app ta3 (by unfold asc; decide)) ai, by rw [List.length_append, List.length_append]; show txt3.length + 7 + ti.length ≤ 300; omega, o5.1.trans (u6.trans (u7.trans ((UpD.of sS).trans u8))), t8, r8, p8, by omega, h9⟩
    · exact ⟨_, rfl, ta3, by omega, o5.1.trans u6, t6, r6, p6, by omega, a3⟩
  rintro σ' H6 ⟨txt4, rfl, ta4, tl6, o6⟩
  exact ⟨_, rfl, q txt4 H6 ta4 tl6 o6⟩
end
end Q7
set_option maxHeartbeats 4000000
namespace Q7
open PySem PySem.Spec PyProof.Rows L2 SX
/-! ### an exception that is kept behind its try -/
/-- an exception stands at a: its class, its dict -/
def XO (cls : Value) (d : Option Addr) (a : Addr) : HO := .ext fun h => ∃ (oe : Obj) (vs : Array Value), h.get? a = some oe ∧ Zc cls d oe ∧ oe.data = .fields vs
theorem xo_ok {P : Program} {w : World} {H : Hp} {h : Heap} {a : Addr} {cls : Value} {d : Option Addr} {oe : Obj} {vs : Array Value} (e : h.get? a = some oe) (z : Zc cls d oe) (f : oe.data = .fields vs) : ObjOk P w H h a (XO cls d a) :=
  ⟨⟨oe, vs, e, z, f⟩, ⟨oe, e⟩, fun _ _ ⟨o, v, q, r⟩ k => ⟨o, v, k o q, r⟩⟩
section
variable {X : Cx} {pins : List (Addr × Obj)} {σ : L2.St} {H : Hp} {s : Shared}
/-- what was pinned is tracked from now on -/
theorem inv_track {a : Addr} {oe : Obj} {vs : Array Value} {cls : Value} {d : Option Addr} (I : Inv X ((a, oe) :: pins) σ H s) (hz : Zc cls d oe) (hd : oe.data = .fields vs) (h0 : X.s_0.heap.get? a = none) (hp : ∀ q ∈ X.pn ++ pins, q.1 ≠ a) : Inv X pins σ (upd H a (XO cls d a)) s := by
  obtain ⟨he, hn, hL, hF, hc⟩ := I.pin (a, oe) (List.mem_append_right _ List.mem_cons_self)
  have hn : H a = none := hn
  have he : s.heap.get? a = some oe := he
  have base := I.base
  have off : ∀ {b u}, H b = some u → b ≠ a := fun {b u} q => ne_of_none q hn
  refine ⟨I.ok, I.os, I.bare, ⟨base.keep, base.slot, fun b o e n x => ?_, base.there, fun b xs e => ?_, fun b o u e => ?_, fun b ps e => ?_⟩, I.loc, I.cell, ?_, fun x c e => ?_, fun q hq => ?_, HOk.laidN I.hok (fun b o e => e) hn (xo_ok he hz hd), I.len⟩
  · rw [upd_ne (fun z => by rw [z, h0] at e; cases e)]
    exact base.free b o e n x
  · have q := base.tups b xs e
    rw [upd_ne (off q)]
    exact q
  · have q := base.frzs b o u e
    rw [upd_ne (off q)]
    exact q
  · obtain ⟨m, q⟩ := base.tbls b ps e
    exact ⟨m, by rw [upd_ne (off q)]; exact q⟩
  · rw [upd_ne (fun z => hL z.symm)]
    exact I.free
  · have n := I.freeC x c e
    rw [upd_ne (fun z => ?_)]
    · exact n
    · obtain ⟨v, o, ho, hdc⟩ := I.cell x c e
      rw [z, he] at ho
      cases ho
      exact hc _ hdc
  · have q1 := I.pin q ((List.mem_append.mp hq).elim (fun z => List.mem_append_left _ z) fun z => List.mem_append_right _ (List.mem_cons_of_mem _ z))
    exact ⟨q1.1, by rw [upd_ne (hp q hq)]; exact q1.2.1, q1.2.2⟩
/-- the suite is left, its exception stays pinned -/
theorem out_pinned {a : Addr} {oe : Obj} (I : Inv (X.suite a ((a, oe) :: (X.pn ++ pins))) [] σ H s) (ok : X.Ok) : Inv X ((a, oe) :: pins) σ H s :=
  ⟨ok, I.os, I.bare, I.base, I.loc, I.cell, I.free, I.freeC, fun q hq => I.pin q (by
    rw [List.append_nil]
    rcases List.mem_append.mp hq with z | z
    · exact List.mem_cons_of_mem _ (List.mem_append_left _ z)
    · rcases List.mem_cons.mp z with z | z
      · rw [z]; exact List.mem_cons_self
      · exact List.mem_cons_of_mem _ (List.mem_append_right _ z)), I.hok, I.len⟩
end
/-- of an exception of the body: the clause names it, it is kept in slot j -/
def wKeep (K : PySem.W.Frag) (m : Nat) (c : Value) (i j : Nat) (D : Ends) : WX := fun cls d σ H => PySem.W.exmOne K cls c = some true ∧ ∀ a, H a = none → σ.length = m → D.nx (((σ.set i (some (.ref a))).set j (some (.ref a))).set i none) (upd H a (XO cls d a))
section
variable {X : Cx} {x n y : Str} {c : Value} {i j : Nat} {body : List Stmt} {np pos pos' p1 p2 p3 : Pos} {tb : WX → TS}
/-- try: body / except x as n: y = n -/
theorem ps_try_keep (hs : X.stack = X.env :: X.outer) (hf : X.env.frame = some X.env.locals) (hex : X.ex = []) (hN : X.N.Nodup) (hi : X.N[i]? = some n) (hln : X.env.kindOf n = some .local) (hj : X.N[j]? = some y) (hlj : X.env.kindOf y = some .local) (hc : Names X x c)
    (hb : ∀ (W : WX) (pn : List (Addr × Obj)) (xe : Value → Shared → Prop), Takes (X.tr pn xe) W → PassesOwn (model X.prog X.w) X.A X.env xe → PSs (X.tr pn xe) body (tb W))
    (hd1 : (n == ("__debug__" : Str)) = false := by decide) (hd2 : (n == ("__classdict__" : Str)) = false := by decide) :
    PS X (.Try body [.ExceptHandler (some (.Name x np)) (some n) [.Assign [.Name y p1] (.Name n p2) p3] pos'] [] [] pos) (fun D σ H => tb (wKeep X.K X.N.length c i j D) D σ H) := by
  refine ⟨fun pins s σ H D I h => ?_⟩
  have ok := I.ok
  have frames : X.A.frames = some (X.env :: X.outer) := by rw [ok.frames, hs]
  refine wpAny_Try_except (wpAny_mono ((hb (wKeep X.K X.N.length c i j D) (X.pn ++ pins) _ (fun u s' xx => ?_) PassesOwn.looking).run [] s σ H D (I.toTry _) h) (fun f s1 hsp => by cases f <;> exact try_through ok hsp) fun _ _ z => z)
  obtain ⟨a, B, sI, pins', σ1, H1, cls, d, rfl, J', nb, up, sky, na, os, ag, names, keep⟩ := xx
  have J : Inv X pins σ1 H1 sI := J'.ofTry ok
  have sky1 : Sky B (X.env :: X.outer) a (Zc cls d) X.env.locals s'.heap := by rw [← hs]; exact sky
  refine Sky.land Zc.steady frames hf sky1 fun g3 fly3 up3 => ?_
  obtain ⟨o3, v3, e3, z3, f3⟩ := fly3.there
  have far : a ∉ frs (X.env :: X.outer) := fun hm => by
    obtain ⟨_, o, e, nf⟩ := fly3.2.2.1.mem hm
    rw [e3] at e
    cases e
    exact nf _ f3
  have n1 : a ≠ X.env.locals := fun z => far (List.mem_filterMap.mpr ⟨X.env, List.mem_cons_self, by rw [hf, z]⟩)
  have n2 : a ∉ X.fs := fun hm => by
    obtain ⟨v, hv, q⟩ := List.mem_filterMap.mp hm
    exact far (List.mem_filterMap.mpr ⟨v, List.mem_cons_of_mem _ hv, q⟩)
  have nB : B.get? a = none := fly3.2.1
  have gone : ∀ o, sI.heap.get? a ≠ some o := fun o e => by
    have z := nb a o e (by rw [hs]; exact far)
    rw [nB] at z
    cases z
  have h0 : X.s_0.heap.get? a = none := by
    cases e : X.s_0.heap.get? a with
    | none => rfl
    | some o =>
      obtain ⟨o2, e2⟩ := J.base.there a o e (by rw [hex]; exact fun z => nomatch z)
      exact absurd e2 (gone o2)
  have hp : ∀ q ∈ X.pn ++ pins, q.1 ≠ a := fun q hq z => by
    have e := (J.pin q hq).1
    rw [z] at e
    exact gone _ e
  have S3 := (J.landed (s' := { s' with heap := g3 }) nb fly3.1 (up.trans up3) os ag).suite e3 f3 na n1 n2
  refine wpAny_handleBy_cons (codeAny_handlers_test ?_) (by intro q; cases q)
  have isCls : PySem.W.Looks (model X.prog X.w) g3 (typeOf (.ref a)) cls := fun _ _ _ _ k q => wpAny_typeOf_ref (k _ _ e3) (by rw [z3.1]; exact q)
  have hits := PySem.W.exm_one (M := model X.prog X.w) S3.kIn isCls names
  have named : ∀ {Q : Value → Shared → Prop} {E : Value → Shared → Prop}, Q c { s' with heap := g3 } → wpAny (model X.prog X.w) (X.A.mark (some (.ref a))) (eval (.Name x np) X.env) Q E { s' with heap := g3 } := fun {Q E} q => by
    obtain ⟨hg, hdbg, hm | ⟨hm, hv, hnn⟩⟩ := hc
    · exact ld_glob (X := X.suite a ((a, o3) :: (X.pn ++ pins))) S3 hg hm q hdbg
    · exact ld_blt (X := X.suite a ((a, o3) :: (X.pn ++ pins))) S3 hg hm hv q hnn hdbg
  refine named (hits.here (codeAny_handlers_suite_as (HandSPX.lands_againZ fly3 fun g4 fly4 up4 => ?_)))
  obtain ⟨o4, v4, e4, z4, f4⟩ := fly4.there
  have S4 := (J.landed (s' := { s' with heap := g4 }) nb fly4.1 ((up.trans up3).trans up4) os ag).suite e4 f4 na n1 n2
  refine store_ok (X := X.suite a ((a, o4) :: (X.pn ++ pins))) (v := .ref a) S4 hN hi (.inl hln) rfl (fun s5 S5 => ?_) (.inr hln)
  have k2 := keep a na J.len
  have k1 : (σ1.set i (some (.ref a)))[i]? = some (some (V.ref a)) := by
    have z := (List.getElem?_eq_some_iff.mp hi).1
    rw [← J.len] at z
    simp [z]
  have run := (pss_one (ps_set (X := X.suite a ((a, o4) :: (X.pn ++ pins))) (i := j) (x := y) (pos := p3) (pos' := p1) hN hj (.inl hlj) (pe_var (i := i) (x := n) (pos := p2) hi (.inl hln) hd1 hd2) (hf := .inr hlj))).run [] s5 _ H1 { nx := fun σ' H' => σ' = ((σ1.set i (some (.ref a))).set j (some (.ref a))) ∧ H' = H1, rt := fun _ _ => False, bk := fun _ _ => False, ct := fun _ _ => False } S5 ⟨_, k1, rfl, rfl⟩
  refine wpAny_mono run (fun f s6 hsp => ?_) fun _ _ z => False.elim z
  cases f with
  | next =>
    obtain ⟨σ6, H6, S6, e6, eh⟩ := hsp
    subst e6
    subst eh
    exact gone_ok (out_pinned S6 ok) hN hi hln fun s7 J7 => ⟨_, _, inv_track J7 z4 f4 h0 hp, k2⟩
  | brk =>
    obtain ⟨σ6, H6, S6, q6⟩ := hsp
    exact q6.elim
  | cont =>
    obtain ⟨σ6, H6, S6, q6⟩ := hsp
    exact q6.elim
  | ret u =>
    obtain ⟨v6, σ6, H6, S6, r6, q6⟩ := hsp
    exact q6.elim
end
end Q7
set_option maxHeartbeats 4000000
namespace Q7
open PySem PySem.Spec PySem.Calls PyProof.Rows L2 SX
/-! ### fields of a kept exception, isinstance of it -/
theorem found_data {K : PySem.W.Frag} {C : Addr} {od : Option Obj} {name : Str} {a g : Value} (hc : (PySem.W.clsIn K C).isSome = true) (ha : PySem.W.findIn K (.ref C) name = some (some a)) (hg : PySem.W.specialIn K a "__get__" = some (some g)) (ht : PySem.W.takesIn K a = some true) :
    PySem.W.findObj K C od name = some (.bind g a) := by
  obtain ⟨cd, e⟩ := Option.isSome_iff_exists.mp hc
  unfold PySem.W.findObj
  rw [e, Option.bind_some, ha, Option.bind_some]
  simp [hg, ht]
theorem exc_class {prog : Program} {w : World} {A : Around} {E : Value → Shared → Prop} {s : Shared} {K : PySem.W.Frag} {x D : Addr} {ox : Obj} {od : Option Obj} {Q : Option Value → Shared → Prop} (C : ExcC K D)
    (KX : K.In s.heap) (I : PySem.W.InstAt s.heap x ox D od) (h : Q (some (.ref D)) { s with toks := s.toks + 1 }) : wpAny (model prog w) A (getAttr? (.ref x) "__class__") Q E s := by
  have isC : (PySem.W.clsIn K D).isSome = true := by
    obtain ⟨cd, e, _⟩ := PySem.W.any_some C.hd
    rw [e]; rfl
  have found := found_data (od := od) isC C.ha C.hn C.ht
  obtain ⟨hp, g, d, t, os⟩ := s
  have T0 := I.type (M := model prog w)
  have T1 := PySem.W.looks_findIn (M := model prog w) KX C.hg
  have T2 := PySem.W.looks_findIn (M := model prog w) KX C.hk
  have T3 := PySem.W.looks_find (M := model prog w) KX I found
  have under : PySem.W.Looks (model prog w) hp (isInstance (.ref x) (.type "BaseException")) true := T0.andThen (PySem.W.looks_subIn KX C.hs)
  have ne2 : (Value.builtin "BaseException.__getattribute__" == Value.builtin "object.__getattribute__") = false := by decide +kernel
  have ne1 : (onTheHeap (Value.ref D) && Value.builtin "BaseException.__getattribute__" == Value.builtin "object.__getattribute__") = false := by rw [ne2]; rfl
  unfold getAttr? getAttrBy? getAttrBy
  refine wpAny_bind (wpAny_mkText (wpAny_bind (wpAny_attempt (wpAny_holding (wpAny_bind (T0.at (wpAny_bind (T1.at ?_))))))))
  show wpAny _ _ (if (onTheHeap (Value.ref D) && Value.builtin "BaseException.__getattribute__" == Value.builtin "object.__getattribute__") = true then _ else _) _ _ _
  rw [ne1, if_neg Bool.false_ne_true]
  unfold getAttrByItsOwn hookBefore
  refine wpAny_bind ?_
  rw [if_pos (show onTheHeap (Value.ref D) = true from rfl)]
  refine T2.at (wpAny_bind (wpAny_attempt (wpAny_holding ?_)))
  unfold callGetattribute
  rw [show (false && onTheHeap (Value.builtin "BaseException.__getattribute__")) = false from rfl, if_neg Bool.false_ne_true]
  unfold boundAndCalled
  rw [PySem.F.excAttr_ValueError.ga.bind (.ref x)]
  refine wpAny_bind (wpAny_pure ?_)
  show wpAny _ _ (call (.builtin "BaseException.__getattribute__") [.ref x, .str "__class__" t]) _ _ _
  refine wpAny_call (codeAny_call_builtin PySem.F.excAttr_ValueError.ga.plain PySem.F.entry_bexc_ga ?_)
  refine @PySem.W.check_slot (model prog w) _ _ ⟨hp, g, d, t + 1, os⟩ "BaseException.__getattribute__" "BaseException" "__getattribute__" (.ref x) [.str "__class__" t] [] _ (by decide +kernel) (by decide +kernel) under (PySem.F.args_bexc_ga (.ref x) (.str "__class__" t)) ?_
  unfold Builtin.«object.__getattribute__»
  refine wpAny_bind (wpAny_of_eq (a := ((Value.ref x : Value), [Value.str "__class__" t])) (by first | rfl | (simp only [slotArgs]; rfl)) ?_)
  refine wpAny_bind (wpAny_pure (wpAny_bind (T0.at (wpAny_bind (T3.at ?_)))))
  show wpAny _ _ (holding [Value.builtin "object.__class__"] (call (.builtin "getset_descriptor.__get__") [.builtin "object.__class__", .ref x, .ref D]) >>= ret) _ _ _
  refine wpAny_bind (wpAny_holding (wpAny_call (PySem.W.class_get (s := ⟨hp, g, d, t + 1, os⟩) (ox := ox) (od := od) KX I C.hm ?_)))
  refine wpAny_pure ?_
  show wpAny _ _ (handedOut (.ref D)) _ _ _
  rw [PySem.W.handedOut_of (v := .ref D) rfl]
  first
    | exact wpAny_pure (wpAny_pure h)
    | exact wpAny_pure h
    | exact wpAny_pure (wpAny_bind (wpAny_pure (wpAny_pure h)))
theorem kitx_exc {K : PySem.W.Frag} {x D : Addr} {ox : Obj} {od : Option Obj} (C : ExcC K D) : PySem.W.KitX K (.ref x) (.ref D) (fun h => PySem.W.InstAt h x ox D od) := by
  have isC : ∃ c d cd sl, K.lookup D = some ⟨c, d, .cls cd, sl⟩ := by
    obtain ⟨cdD, hcD, _⟩ := PySem.W.any_some C.hd
    unfold PySem.W.clsIn at hcD
    split at hcD
    · rename_i c' d' cd' sl' ho
      exact ⟨_, _, _, _, ho⟩
    · cases hcD
  obtain ⟨c', d', cd', sl', ho⟩ := isC
  refine ⟨fun _ _ _ I => I.type, fun _ _ KX _ A' Q' E' s' k q => ?_, fun h tp dd its n sl KX htp => ?_, fun KX I k => exc_class C KX I k⟩
  · unfold isType loadHead
    exact wpAny_bind (wpAny_loadPart (k _ _ (KX _ _ ho)) (wpAny_pure q))
  · refine Bool.eq_false_iff.mpr fun q => ?_
    have e : D = tp := Value.ref.inj (beq_iff_eq.mp q)
    subst e
    have z := (KX _ _ ho).symm.trans htp
    cases z
section
variable {X : Cx}
/-- isinstance(e, c), e a kept exception -/
def rIsXO (K : PySem.W.Frag) : List V → Hp → VK → Prop := fun xs H Q => ∃ (a D dd : Addr) (fs : List (Str × V)) (c : V) (cv : Value) (b : Bool), xs = [.ref a, c] ∧ ExcC K D ∧ (∀ u, RelV c u → u = cv) ∧ H a = some (XO (.ref D) (some dd) a) ∧ H dd = some (.xd fs) ∧ PySem.W.kitOne K (.ref D) cv = some b ∧ Q (.bl b) H
theorem inst_xo {pins : List (Addr × Obj)} {σ : L2.St} {H : Hp} {s : Shared} {a D dd : Addr} {fs : List (Str × V)} (I : Inv X pins σ H s) (ha : H a = some (XO (.ref D) (some dd) a)) (hd : H dd = some (.xd fs)) :
    ∃ (oe od : Obj) (m : Str → Option Value), PySem.W.InstAt s.heap a oe D (some od) ∧ (∀ f, PySem.W.lookIn f od = some (m f)) ∧ ∀ f, RelO (fs.lookup f) (m f) := by
  obtain ⟨⟨oe, vs, he, hz, hv⟩, _, _⟩ := (show ObjOk X.prog X.w H s.heap a (XO (.ref D) (some dd) a) from I.hok a _ ha)
  obtain ⟨m, hns, hr⟩ := (show ObjOk X.prog X.w H s.heap dd (.xd fs) from I.hok dd _ hd)
  obtain ⟨od, ho, hl⟩ := lookIn_ns hns
  exact ⟨oe, od, m, ⟨he, hz.1, by unfold PySem.W.notCls; rw [hv] <;> rfl, by rw [hz.2]; exact ho⟩, hl, hr⟩
theorem call_isXO : CallR X (.builtin "isinstance") (rIsXO X.K) := by
  intro pins s σ H xs us Q I r h
  obtain ⟨a, D, dd, fs, c, cv, b, rfl, C, hcv, ha, hd, e, q⟩ := h
  obtain ⟨u, w', rfl, ru, rw'⟩ := vals2 r
  obtain rfl : u = Value.ref a := ru
  have ec := hcv _ rw'
  subst ec
  obtain ⟨oe, od, m, J, _, _⟩ := inst_xo I ha hd
  exact PySem.W.kia_one (kitx_exc C) I.kIn J e (fun z => nomatch z) fun tk => ⟨.bl b, H, I.kept (t' := tk) fun _ _ z => z, rfl, q⟩
/-- e.n, e a kept exception -/
def tXoF (n : Str) (K : PySem.W.Frag) (te : TE) : TE := fun σ H Q => te σ H fun x H1 => ∃ (a D dd : Addr) (fs : List (Str × V)) (v : V), x = .ref a ∧ XfC K D ∧ PySem.W.findIn K (.ref D) n = some none ∧ H1 a = some (XO (.ref D) (some dd) a) ∧ H1 dd = some (.xd fs) ∧ fs.lookup n = some v ∧ Q v H1
theorem pe_xoF {e : Expr} {te : TE} {pos : Pos} {n : Str} (he : PE X e te) (hb : attributeBase e n X.env (eval e X.env) = eval e X.env := by rfl) : PE X (.Attribute e n pos) (tXoF n X.K te) := by
  refine ⟨fun pins s σ H Q I h => attr_of hb (thn (he.run pins s σ H _ I h) fun u s1 hh => ?_)⟩
  obtain ⟨x, H1, I1, rx, a, D, dd, fs, v, ex, T, hno, ha, hd, lk, q⟩ := hh
  subst ex
  obtain rfl : u = Value.ref a := rx
  obtain ⟨oe, od, m, J, hl, hr⟩ := inst_xo I1 ha hd
  obtain ⟨u, hu, ru⟩ := RelO.some_of (v := v) (o := m n) (by rw [← lk]; exact hr n)
  exact HandSPX.exc_get I1.kIn J T.ga T.gg T.exC (PySem.W.findObj_own T.hdC hno rfl (by rw [hl, hu])) (handed_of ru) ⟨v, H1, I1.tok _, ru, q⟩
end
end Q7
set_option maxHeartbeats 4000000
namespace Q7
open PySem PySem.Spec PyProof.Rows L2 SX
/-! ### picks from written lists; comprehensions that draw -/
def tVs : List V → TA
  | [] => tNil
  | v :: r => tCons (tC v) (tVs r)
theorem tVs_ok : ∀ (vs : List V) {σ : L2.St} {H : Hp} {Q : List V → Hp → Prop}, Q vs H → tVs vs σ H Q
  | [], _, _, _, h => h
  | _ :: r, σ, H, Q, h => tVs_ok r (Q := fun vs H2 => Q (_ :: vs) H2) h
theorem PenOut.upd {H : Hp} {P L S : Addr} {turn c : Nat} {o : HO} {H' : Hp} (n : H S = none) (z : PenOut (upd H S o) P L turn c H') : PenOut H P L turn c H' :=
  ⟨(UpD.of (same_upd n)).trans z.1, z.2⟩
theorem PenOut.trans {H1 H2 H3 : Hp} {P L : Addr} {t1 t2 c d : Nat} (a : UpD P H1 H2) (h : t2 ≤ t1 + c) (b : PenOut H2 P L t2 d H3) : PenOut H1 P L t1 (c + d) H3 := by
  obtain ⟨u, t, r, h1, h2, h3⟩ := b
  exact ⟨a.trans u, t, r, h1, by omega, h3⟩
theorem PenOut.mono {H1 H2 : Hp} {P L : Addr} {t c d : Nat} (a : PenOut H1 P L t c H2) (h : c ≤ d) : PenOut H1 P L t d H2 := by
  obtain ⟨u, t, r, h1, h2, h3⟩ := a
  exact ⟨u, t, r, h1, by omega, h3⟩
theorem Pen.upd {K : PySem.W.Frag} {H : Hp} {P L S : Addr} {ns : List Int} {turn : Nat} {rest : Int} {o : HO} (p : Pen K H P L ns turn rest) (n : H S = none) : Pen K (upd H S o) P L ns turn rest :=
  ⟨same_upd n _ _ p.pen, same_upd n _ _ p.ls, p.sz, p.r0⟩
theorem Pen.same {K : PySem.W.Frag} {H H' : Hp} {P L : Addr} {ns : List Int} {turn : Nat} {rest : Int} (p : Pen K H P L ns turn rest) (s : Same H H') : Pen K H' P L ns turn rest :=
  ⟨s _ _ p.pen, s _ _ p.ls, p.sz, p.r0⟩
/-- _law_pick(pen, [some written things]) -/
theorem pickV {K : PySem.W.Frag} {σ : L2.St} {H : Hp} {Q : VK} {P L : Addr} {ns : List Int} {turn : Nat} {rest : Int} (vs : List V) (h0 : σ[0]? = some (some (.ref P))) (pen : Pen K H P L ns turn rest) (ht : turn < 2 ^ 20) (hn : 0 < vs.length) (hl : vs.length ≤ 1000)
    (q : ∀ y ∈ vs, ∀ H', PenOut H P L turn 1 H' → Q y H') : tCallS (spPick K) noE (tCons (tVar 0) (tCons (tLst (tVs vs)) tNil)) σ H Q := by
  have hz := sizeLine_eq
  refine ⟨_, h0, tVs_ok vs ⟨by omega, fun S nS => ?_⟩⟩
  have hSP : S ≠ P := fun z => by rw [z, pen.pen] at nS; cases nS
  exact ⟨P, L, ns, turn, rest, .ref S, rfl, pen.upd nS, ht, .inl ⟨S, vs, rfl, upd_same, hSP, hn, by omega, fun y hy H' o => q y hy H' (o.upd nS)⟩⟩
/-- the tuples stay -/
def STup (H H' : Hp) : Prop := ∀ b xs, H b = some (.tup xs) → H' b = some (.tup xs)
theorem STup.ofU {P : Addr} {H H' : Hp} {ys : List V} (u : UpD P H H') (h : H P = some (.lst ys)) : STup H H' := fun b xs e => u b _ (fun z => by rw [z, h] at e; cases e) e
theorem STup.put {D : Addr} {H : Hp} {ys : List V} {o : HO} (h : H D = some (.lst ys)) : STup H (upd H D o) := fun b xs e => by rw [upd_ne (fun z => by rw [z, h] at e; cases e)]; exact e
theorem STup.same {H H' : Hp} (s : Same H H') : STup H H' := fun b xs e => s b _ e
def pvPen (K : PySem.W.Frag) (H1 : Hp) (P L D : Addr) (ns : List Int) (turn c : Nat) (Pk : Hp → V → Prop) : Nat → Hp → Prop := fun i H => UpD P H1 H ∧ (∃ (turn' : Nat) (rest' : Int), Pen K H P L ns turn' rest' ∧ turn' ≤ turn + c * i) ∧ ∃ ys, H D = some (.lst ys) ∧ ys.length = i ∧ ∀ y ∈ ys, Pk H y
section
variable {J : It} {n : Nat} {G : Hp → Prop} {Y : Nat → Hp → V → Hp → Prop}
/-- [e for x in ..]: n values of a kind, the pen moves at most c times a turn -/
theorem lc_pen (w : Walk J n G Y) {K : PySem.W.Frag} {j : Nat} {te : TE} {vs : List Nat} {σ : L2.St} {H1 : Hp} {D P L : Addr} {ns : List Int} {turn : Nat} {rest : Int} {Qd : Hp → Prop} (Pk : Hp → V → Prop) (c : Nat) (hst : ∀ y H H', Pk H y → STup H H' → Pk H' y)
    (pen : Pen K H1 P L ns turn rest) (hD : H1 D = none) (hz : n ≤ sizeLine) (hG : ∀ H, UpD P H1 H → G H)
    (hs : ∀ i x H H' (Kt : VK) (turn' : Nat) (rest' : Int), i < n → UpD P H1 H → Pen K H P L ns turn' rest' → turn' ≤ turn + c * i → Y i H x H' → (∀ y H4, Pk H4 y → PenOut H P L turn' c H4 → Kt y H4) → wipe ((wipe σ vs).set j (some x)) vs = wipe σ vs ∧ te ((wipe σ vs).set j (some x)) H' Kt)
    (hd : ∀ H ys, PenOut H1 P L turn (c * n) H → H D = some (.lst ys) → ys.length = n → (∀ y ∈ ys, Pk H y) → Qd H) :
    ∃ W : Nat → Nat → Hp → Prop, (∃ m, W 0 m (upd H1 D (.lst []))) ∧ ∀ i m H, W i m H →
      (J.stop i H ∧ Qd H) ∨ (J.go i H ∧ ∃ Nx : Hp → Prop, (∀ H', Nx H' → ∃ m', m' < m ∧ W (i + 1) m' H') ∧ ∀ x H', J.yld i H x H' → gName j x (wipe σ vs) H' fun σ2 H2 => wipe σ2 vs = wipe σ vs ∧ tYes σ2 H2 fun b H3 =>
        if b = true then te σ2 H3 fun y H4 => ∃ acc, H4 D = some (.lst acc) ∧ acc.length < sizeLine ∧ Nx (upd H4 D (.lst (acc ++ [y]))) else Nx H3) := by
  have hDP : D ≠ P := fun z => by rw [z, pen.pen] at hD; cases hD
  refine lc_it w (pvPen K H1 P L D ns turn c Pk)
    ⟨UpD.of (same_upd hD), ⟨turn, rest, pen.upd hD, Nat.le_add_right _ _⟩, [], upd_same, rfl, fun _ h => by cases h⟩ (fun i H _ p => hG H p.1) (fun i x H H' hi p y => ?_) (fun H p => ?_)
  · obtain ⟨u, ⟨t', r', pn, ht⟩, ys, hy, hl, hk⟩ := p
    have key := (hs i x H H' (fun y H4 => ∃ acc, H4 D = some (.lst acc) ∧ acc.length < sizeLine ∧ pvPen K H1 P L D ns turn c Pk (i + 1) (L2.upd H4 D (.lst (acc ++ [y])))) t' r' hi u pn ht y fun y H4 py o => by
      obtain ⟨t4, r4, p4, h4⟩ := o.pen pn
      have hD4 : H4 D = some (.lst ys) := o.1 _ _ hDP hy
      refine ⟨ys, hD4, by omega, fun b o2 nb e => ?_, ⟨t4, r4, ⟨?_, ?_, p4.sz, p4.r0⟩, ?_⟩, ys ++ [y], upd_same, by rw [List.length_append, hl]; rfl, fun z hz => ?_⟩
      · have hbD : b ≠ D := fun z => by rw [z, hD] at e; cases e
        rw [upd_ne hbD]
        exact o.1 b o2 nb (u b o2 nb e)
      · rw [upd_ne (fun z => hDP z.symm)]
        exact p4.pen
      · have hLD : L ≠ D := fun z => by have := pen.ls; rw [z, hD] at this; cases this
        rw [upd_ne hLD]
        exact p4.ls
      · rw [Nat.mul_succ]
        omega
      · have st : STup H4 (upd H4 D (.lst (ys ++ [y]))) := STup.put hD4
        rcases List.mem_append.mp hz with h | h
        · exact hst _ _ _ (hst _ _ _ (hk z h) (STup.ofU o.1 pn.pen)) st
        · rw [List.mem_singleton.mp h]
          exact hst _ _ _ py st)
    refine ⟨key.1, ?_⟩
    unfold tYes
    dsimp only
    rw [if_pos rfl]
    exact key.2
  · obtain ⟨u, ⟨t', r', pn, ht⟩, ys, hy, hl, hk⟩ := p
    exact hd H ys ⟨u, t', r', pn.pen, ht, pn.r0⟩ hy hl hk
end
end Q7
set_option maxHeartbeats 4000000
namespace Q7
open PySem PySem.Spec PyProof.Rows L2 SX LamX
/-! ### _law_heard -/
/-- what is asked of the classes whose errors are heard -/
structure Hear (K : PySem.W.Frag) (prog : Program) (mg : Str → Option Value) (CT CA CV CP fT fA fV fP : Addr) : Prop where
  es : Errs K prog mg CT CA CV CP fT fA fV fP
  cA : ExcC K CA
  cV : ExcC K CV
  aa : PySem.W.kitOne K (.ref CA) (.ref CA) = some true
  at_ : PySem.W.kitOne K (.ref CA) (.ref CT) = some false
  av : PySem.W.kitOne K (.ref CA) (.ref CV) = some false
  va : PySem.W.kitOne K (.ref CV) (.ref CA) = some false
  vv : PySem.W.kitOne K (.ref CV) (.ref CV) = some true
/-- what an error of the row tells, and what is heard of it -/
def xAsk (CA : Addr) (Q : VK) : XK := fun cls d H => ∃ (dd : Addr) (i j : Int) (p : V), cls = .ref CA ∧ d = some dd ∧ H dd = some (.xd [("word", .int i), ("at", .int j), ("values_told", p)]) ∧ i.natAbs.log2 < 1920 ∧ j.natAbs.log2 < 1920 ∧
  ∀ R H', Same H H' → H R = none → H' R = some (.tup [.str "ask", .str (toString j), .str (toString i)]) → Q (.ref R) H'
def xVal (CV : Addr) (Q : VK) : XK := fun cls d H => ∃ (dd : Addr) (z : Str) (p : V), cls = .ref CV ∧ d = some dd ∧ H dd = some (.xd [("what", .str z), ("values_told", p)]) ∧
  ∀ R H', Same H H' → H R = none → H' R = some (.tup [.str "value", .str z]) → Q (.ref R) H'
def THeard (CA CV : Addr) : (XK → Hp → VK → Prop) → Hp → VK → Prop := fun tl H Q => ∀ (H0 : Hp) (Ech : XK) (Post : VK), Same H H0 →
  (∀ v H', (∀ R H'', Same H' H'' → H' R = none → H'' R = some (.lst [v]) → Q (.ref R) H'') → Post v H') → (∀ cls d H', (xAsk CA Q cls d H' ∨ xVal CV Q cls d H') → Ech cls d H') → tl Ech H0 Post
section
variable {X : Cx} {CT CA CV CP fT fA fV fP : Addr}
abbrev Nh : List Str := ["_law_ask", "_law_caught", "_law_found", "error"]
theorem heard_gives {g : Addr} {cdg : Value} {q : Str} (B : Blt X.mg) (Hr : Hear X.K X.prog X.mg CT CA CV CP fT fA fV fP) : GivesTo X Nh "_law_heard" (defScope (top 42)) g cdg (defBody (top 42)) "_law_ask" q (THeard CA CV) := by
  intro f c' s H Q tl act hc h
  have sc : FnScope Nh ["_law_ask"] (defScope (top 42)) := sc_by (by decide +kernel)
  have nd := sc.nd
  refine ⟨_, (pss_cons (ps_asg (pe_tup (pa_cons pe_non (pa_cons pe_non pa_nil))) (pg_tup rfl (pgs_cons (pg_name (i := 1) nd rfl (.inl rfl)) (pgs_cons (pg_name (i := 2) nd rfl (.inl rfl)) pgs_nil))))
    (pss_cons (ps_try_keep (i := 3) (j := 1) (c := .ref CP) (tb := fun W D σ H => ∃ Ech : XK, (∀ cls d σ' H', Ech cls d H' → W cls d σ' H') ∧ σ[0]? = some (some (.ref f)) ∧ H c' = some (CodeO c' q) ∧ tl Ech H fun v H' => D.nx (σ.set 2 (some v)) H')
      rfl rfl rfl nd rfl rfl rfl rfl ⟨rfl, by decide, .inl Hr.es.gP⟩ (fun W pn xe tk _ => pss_one ?_))
    (pss_cons (ps_if (pt_cmpR op_isN (pv 1) pe_non (nomark _)) (pss_one (ps_ret (pe_lst (pa_cons (pv 2) pa_nil)))) pss_nil)
    (pss_cons (ps_if (PW.pt (pw_and (pt_val (pe_callB call_isXO rfl (B.g "isinstance") boot_isinstance (pa_cons (pv 1) (pa_cons (pe_glob (v := .ref CA) rfl Hr.es.gA rfl) pa_nil)))) (pw_and (pt_not (pt_val (pe_callB call_isXO rfl (B.g "isinstance") boot_isinstance (pa_cons (pv 1) (pa_cons (pe_glob (v := .ref CT) rfl Hr.es.gT rfl) pa_nil))))) (pw_and1 (pt_not (pt_val (pe_callB call_isXO rfl (B.g "isinstance") boot_isinstance (pa_cons (pv 1) (pa_cons (pe_glob (v := .ref CV) rfl Hr.es.gV rfl) pa_nil))))))))) (pss_one (ps_ret (pe_tup (pa_cons pe_str (pa_cons (pe_callB SkE.call_repr_int rfl (B.g "repr") boot_repr (pa_cons (pe_xoF (pv 1)) pa_nil)) (pa_cons (pe_callB SkE.call_repr_int rfl (B.g "repr") boot_repr (pa_cons (pe_xoF (pv 1)) pa_nil)) pa_nil)))))) pss_nil)
    (pss_one (ps_ret (pe_ifExp (PW.pt (pw_and (pt_val (pe_callB call_isXO rfl (B.g "isinstance") boot_isinstance (pa_cons (pv 1) (pa_cons (pe_glob (v := .ref CV) rfl Hr.es.gV rfl) pa_nil)))) (pw_and1 (pt_not (pt_val (pe_callB call_isXO rfl (B.g "isinstance") boot_isinstance (pa_cons (pv 1) (pa_cons (pe_glob (v := .ref CA) rfl Hr.es.gA rfl) pa_nil)))))))) (pe_tup (pa_cons pe_str (pa_cons (pe_xoF (pv 1)) pa_nil))) (pe_tup (pa_cons pe_str pa_nil))))))))), ?_⟩
  · refine ⟨fun pins s' σ H' D I h' => ?_⟩
    obtain ⟨Ech, hW, h1, h2, h3⟩ := h'
    exact (ps_set (i := 2) nd rfl (Or.inl rfl) (act W pn xe Ech _ _ tk hW)).run pins s' σ H' D I ⟨h1, h2, h3⟩
  have two : (2 : Nat) ≤ sizeLine := by have := sizeLine_eq; omega
  refine ⟨two, fun T nT => ⟨T, _, rfl, SqT.of upd_same, rfl, ?_⟩⟩
  refine ⟨_, _, rfl, _, _, rfl, rfl, ?_⟩
  refine ⟨fun cls d H' => xAsk CA Q cls d H' ∨ xVal CV Q cls d H', fun cls d σ' H' hx => ?_, rfl, same_upd nT _ _ hc, h _ _ _ (same_upd nT) (fun v H' hv => ?_) fun _ _ _ z => z⟩
  rotate_left
  · refine ⟨_, rfl, rfl, _, rfl, ?_⟩
    exact iteT ⟨_, rfl, (by show 1 ≤ sizeLine; omega), fun R nR => hv R _ (same_upd nR) nR upd_same⟩
  have four : ∀ {σ : L2.St}, σ.length = 4 → ∃ a b c d, σ = [a, b, c, d] := fun {σ} e => by
    match σ, e with
    | [a, b, c, d], _ => exact ⟨a, b, c, d, rfl⟩
  rcases hx with ⟨dd, i, j, p, rfl, rfl, hd, zi, zj, q⟩ | ⟨dd, z, p, rfl, rfl, hd, q⟩
  · refine ⟨Hr.es.mA, fun a ha hl => ?_⟩
    obtain ⟨x1, x2, x3, x4, rfl⟩ := four hl
    have sa : Same H' (upd H' a (XO (.ref CA) (some dd) a)) := same_upd ha
    have hA : upd H' a (XO (.ref CA) (some dd) a) a = some (XO (.ref CA) (some dd) a) := upd_same
    have hD := sa _ _ hd
    generalize upd H' a (XO (.ref CA) (some dd) a) = H1 at sa hA hD ⊢
    refine ⟨_, rfl, rfl, _, rfl, ?_⟩
    refine iteF ⟨_, rfl, a, CA, dd, _, _, _, _, rfl, Hr.cA, fun u z => z, hA, hD, Hr.aa, _, rfl, ?_⟩
    refine iteT ⟨_, rfl, a, CA, dd, _, _, _, _, rfl, Hr.cA, fun u z => z, hA, hD, Hr.at_, _, rfl, ?_⟩
    refine iteT ⟨_, rfl, a, CA, dd, _, _, _, _, rfl, Hr.cA, fun u z => z, hA, hD, Hr.av, _, rfl, ?_⟩
    refine iteT ⟨_, rfl, a, CA, dd, _, _, rfl, Hr.es.xA, Hr.es.tA.n1, hA, hD, rfl, j, rfl, zj, _, rfl, a, CA, dd, _, _, rfl, Hr.es.xA, Hr.es.tA.n2, hA, hD, rfl, i, rfl, zi, (by show 3 ≤ sizeLine; have := sizeLine_eq; omega), fun R nR => ?_⟩
    have nR' : H' R = none := nn sa nR
    exact q R _ (sa.trans (same_upd nR)) nR' upd_same
  · refine ⟨Hr.es.mV, fun a ha hl => ?_⟩
    obtain ⟨x1, x2, x3, x4, rfl⟩ := four hl
    have sa : Same H' (upd H' a (XO (.ref CV) (some dd) a)) := same_upd ha
    have hA : upd H' a (XO (.ref CV) (some dd) a) a = some (XO (.ref CV) (some dd) a) := upd_same
    have hD := sa _ _ hd
    generalize upd H' a (XO (.ref CV) (some dd) a) = H1 at sa hA hD ⊢
    refine ⟨_, rfl, rfl, _, rfl, ?_⟩
    refine iteF ⟨_, rfl, a, CV, dd, _, _, _, _, rfl, Hr.cV, fun u z => z, hA, hD, Hr.va, _, rfl, ?_⟩
    refine iteF ?_
    refine iteF ⟨_, rfl, a, CV, dd, _, _, _, _, rfl, Hr.cV, fun u z => z, hA, hD, Hr.vv, _, rfl, ?_⟩
    refine iteT ⟨_, rfl, a, CV, dd, _, _, _, _, rfl, Hr.cV, fun u z => z, hA, hD, Hr.va, _, rfl, ?_⟩
    refine iteT ⟨_, rfl, a, CV, dd, _, _, rfl, Hr.es.xV, Hr.es.tV.n1, hA, hD, rfl, (by show 2 ≤ sizeLine; exact two), fun R nR => ?_⟩
    have nR' : H' R = none := nn sa nR
    exact q R _ (sa.trans (same_upd nR)) nR' upd_same
end
end Q7
set_option maxHeartbeats 4000000
namespace Q7
open PySem PySem.Spec PyProof.Rows L2 SX
/-! ### comprehensions of two clauses by walks -/
section
variable {J J1 : It} {n n1 : Nat} {G G1 : Hp → Prop} {Y Y1 : Nat → Hp → V → Hp → Prop}
theorem lc2_in (w1 : Walk J1 n1 G1 Y1) {g1 : TG} {tt1 : TT} {te : TE} {vs1 : List Nat} {σ2 : L2.St} {H4 : Hp} {D : Addr} {Nx : Hp → Prop} (Pw : Nat → Hp → Prop) (h0 : Pw 0 H4) (hG : ∀ j H, j ≤ n1 → Pw j H → G1 H)
    (hs : ∀ j x H H', j < n1 → Pw j H → Y1 j H x H' → g1 x (wipe σ2 vs1) H' fun σ3 H5 => wipe σ3 vs1 = wipe σ2 vs1 ∧ tt1 σ3 H5 fun b H6 => if b = true then te σ3 H6 fun y H7 => ∃ acc, H7 D = some (.lst acc) ∧ acc.length < sizeLine ∧ Pw (j + 1) (upd H7 D (.lst (acc ++ [y]))) else Pw (j + 1) H6)
    (hd : ∀ H, Pw n1 H → Nx H) :
    ∃ W1 : Nat → Nat → Hp → Prop, (∃ m, W1 0 m H4) ∧ ∀ j k H, W1 j k H →
      (J1.stop j H ∧ Nx H) ∨ (J1.go j H ∧ ∃ Nx1 : Hp → Prop, (∀ H', Nx1 H' → ∃ k', k' < k ∧ W1 (j + 1) k' H') ∧ ∀ x H', J1.yld j H x H' → g1 x (wipe σ2 vs1) H' fun σ3 H5 => wipe σ3 vs1 = wipe σ2 vs1 ∧ tt1 σ3 H5 fun b H6 =>
        if b = true then te σ3 H6 fun y H7 => ∃ acc, H7 D = some (.lst acc) ∧ acc.length < sizeLine ∧ Nx1 (upd H7 D (.lst (acc ++ [y]))) else Nx1 H6) := by
  refine ⟨fun j m H => m = n1 - j ∧ j ≤ n1 ∧ Pw j H, ⟨n1, by simp, Nat.zero_le _, h0⟩, ?_⟩
  rintro j m H ⟨rfl, hj, p⟩
  have q := hG j H hj p
  rcases Nat.lt_or_ge j n1 with lt | ge
  · exact .inr ⟨w1.goes j H lt q, Pw (j + 1), fun H' p' => ⟨n1 - (j + 1), by omega, rfl, lt, p'⟩, fun x H' y => hs j x H H' lt p (w1.yields j H x H' lt q y)⟩
  · obtain rfl : j = n1 := by omega
    exact .inl ⟨w1.stops H q, hd H p⟩
theorem lc2_it (w : Walk J n G Y) {g g1 : TG} {tt tt1 : TT} {wi1 : TI} {te : TE} {vs vs1 : List Nat} {σ : L2.St} {H1 : Hp} {D : Addr} {Qd : Hp → Prop} (Pv : Nat → Hp → Prop) (h0 : Pv 0 (upd H1 D (.lst []))) (hG : ∀ i H, i ≤ n → Pv i H → G H)
    (hs : ∀ i x H H', i < n → Pv i H → Y i H x H' → g x (wipe σ vs) H' fun σ2 H2 => wipe σ2 vs = wipe σ vs ∧ tt σ2 H2 fun b H3 => if b = true then wi1 σ2 H3 fun J1 H4 => ∃ W1 : Nat → Nat → Hp → Prop, (∃ m, W1 0 m H4) ∧ ∀ j k H, W1 j k H →
      (J1.stop j H ∧ Pv (i + 1) H) ∨ (J1.go j H ∧ ∃ Nx1 : Hp → Prop, (∀ H', Nx1 H' → ∃ k', k' < k ∧ W1 (j + 1) k' H') ∧ ∀ x H', J1.yld j H x H' → g1 x (wipe σ2 vs1) H' fun σ3 H5 => wipe σ3 vs1 = wipe σ2 vs1 ∧ tt1 σ3 H5 fun b H6 =>
        if b = true then te σ3 H6 fun y H7 => ∃ acc, H7 D = some (.lst acc) ∧ acc.length < sizeLine ∧ Nx1 (upd H7 D (.lst (acc ++ [y]))) else Nx1 H6) else Pv (i + 1) H3) (hd : ∀ H, Pv n H → Qd H) :
    ∃ W : Nat → Nat → Hp → Prop, (∃ m, W 0 m (upd H1 D (.lst []))) ∧ ∀ i m H, W i m H →
      (J.stop i H ∧ Qd H) ∨ (J.go i H ∧ ∃ Nx : Hp → Prop, (∀ H', Nx H' → ∃ m', m' < m ∧ W (i + 1) m' H') ∧ ∀ x H', J.yld i H x H' → g x (wipe σ vs) H' fun σ2 H2 => wipe σ2 vs = wipe σ vs ∧ tt σ2 H2 fun b H3 =>
        if b = true then wi1 σ2 H3 fun J1 H4 => ∃ W1 : Nat → Nat → Hp → Prop, (∃ m, W1 0 m H4) ∧ ∀ j k H, W1 j k H →
          (J1.stop j H ∧ Nx H) ∨ (J1.go j H ∧ ∃ Nx1 : Hp → Prop, (∀ H', Nx1 H' → ∃ k', k' < k ∧ W1 (j + 1) k' H') ∧ ∀ x H', J1.yld j H x H' → g1 x (wipe σ2 vs1) H' fun σ3 H5 => wipe σ3 vs1 = wipe σ2 vs1 ∧ tt1 σ3 H5 fun b H6 =>
            if b = true then te σ3 H6 fun y H7 => ∃ acc, H7 D = some (.lst acc) ∧ acc.length < sizeLine ∧ Nx1 (upd H7 D (.lst (acc ++ [y]))) else Nx1 H6)
        else Nx H3) := by
  refine ⟨fun i m H => m = n - i ∧ i ≤ n ∧ Pv i H, ⟨n, by simp, Nat.zero_le _, h0⟩, ?_⟩
  rintro i m H ⟨rfl, hi, p⟩
  have q := hG i H hi p
  rcases Nat.lt_or_ge i n with lt | ge
  · exact .inr ⟨w.goes i H lt q, Pv (i + 1), fun H' p' => ⟨n - (i + 1), by omega, rfl, lt, p'⟩, fun x H' y => hs i x H H' lt p (w.yields i H x H' lt q y)⟩
  · obtain rfl : i = n := by omega
    exact .inl ⟨w.stops H q, hd H p⟩
end
theorem tYes_ok {σ : L2.St} {H : Hp} {A B : Hp → Prop} (h : A H) : tYes σ H (fun b H3 => if b = true then A H3 else B H3) := by
  unfold tYes
  dsimp only
  rw [if_pos rfl]
  exact h
/-! ### is_table -/
/-- a text or an integer -/
def isIt : V → Bool
  | .str _ => true
  | .int _ => true
  | _ => false
/-- any value but a tuple -/
def NoTup (K : PySem.W.Frag) (H : Hp) (x : V) : Prop := ∃ m ∈ kns, m ≠ "tuple" ∧ TyX K H x (.type m)
def RwV (K : PySem.W.Frag) (H : Hp) (v : V) : Option (List V) → Prop
  | some its => ∃ a, v = .ref a ∧ H a = some (.tup its) ∧ its.length ≤ 100 ∧ ∀ it ∈ its, Ty7 K H it
  | none => NoTup K H v
def TbV (K : PySem.W.Frag) (H : Hp) (x : V) : Option (List (Option (List V))) → Prop
  | some rs => ∃ (a : Addr) (vs : List V), x = .ref a ∧ H a = some (.tup vs) ∧ rs.length ≤ 100 ∧ vs.length = rs.length ∧ ∀ (i : Nat) (v : V) (r : Option (List V)), vs[i]? = some v → rs[i]? = some r → RwV K H v r
  | none => NoTup K H x
def rowB : Option (List V) → Bool
  | none => false
  | some its => its.all isIt
def tableB : Option (List (Option (List V))) → Bool
  | none => false
  | some rs => rs.all rowB
theorem tyx_same {K : PySem.W.Frag} {H H' : Hp} {x : V} {m : String} (ty : TyX K H x (.type m)) (s : Same H H') : TyX K H' x (.type m) := by
  cases ty with
  | base h =>
    cases h with
    | non => exact .base .non
    | bl b => exact .base (.bl b)
    | int i => exact .base (.int i)
    | str z => exact .base (.str z)
    | flt z => exact .base (.flt z)
    | lst e => exact .base (.lst (s _ _ e))
    | frz e => exact .base (.frz (s _ _ e))
    | tup e => exact .base (.tup (s _ _ e))
    | dK e => exact .base (.dK (s _ _ e))
    | dT e => exact .base (.dT (s _ _ e))
  | byt b => exact .byt b
  | set e => exact .set (s _ _ e)
  | kList e c => exact .kList e c
  | kTuple e c => exact .kTuple e c
  | kDict e c => exact .kDict e c
  | fTuple e => exact .fTuple (s _ _ e)
  | fDict e => exact .fDict (s _ _ e)
theorem Ty7.same {K : PySem.W.Frag} {H H' : Hp} {x : V} (h : Ty7 K H x) (s : Same H H') : Ty7 K H' x := by
  obtain ⟨n, hn, ty⟩ := h
  exact ⟨n, hn, tyx_same ty s⟩
theorem NoTup.same {K : PySem.W.Frag} {H H' : Hp} {x : V} (h : NoTup K H x) (s : Same H H') : NoTup K H' x := by
  obtain ⟨n, hn, ne, ty⟩ := h
  exact ⟨n, hn, ne, tyx_same ty s⟩
theorem RwV.same {K : PySem.W.Frag} {H H' : Hp} {x : V} {r : Option (List V)} (h : RwV K H x r) (s : Same H H') : RwV K H' x r := by
  cases r with
  | none => exact NoTup.same h s
  | some its =>
    obtain ⟨a, e, ha, hl, ht⟩ := h
    exact ⟨a, e, s _ _ ha, hl, fun it hi => (ht it hi).same s⟩
theorem TbV.same {K : PySem.W.Frag} {H H' : Hp} {x : V} {t : Option (List (Option (List V)))} (h : TbV K H x t) (s : Same H H') : TbV K H' x t := by
  cases t with
  | none => exact NoTup.same h s
  | some rs =>
    obtain ⟨a, vs, e, ha, hl, hn, hr⟩ := h
    exact ⟨a, vs, e, s _ _ ha, hl, hn, fun i v r e1 e2 => (hr i v r e1 e2).same s⟩
theorem isIt_ty {K : PySem.W.Frag} {H : Hp} {x : V} {n : String} (h : TyX K H x (.type n)) : ((n == "str") || isI x) = isIt x := by
  cases h with
  | base h => cases h <;> rfl
  | _ => rfl
def spIsTable (K : PySem.W.Frag) : Sp := fun vs H Q _ => ∃ (x : V) (t : Option (List (Option (List V)))), vs = [x] ∧ TbV K H x t ∧ ∀ H', Same H H' → Q (.bl (tableB t)) H'
theorem fl_len (rs : List (Option (List V))) (h : ∀ r ∈ rs, (r.getD []).length ≤ 100) : (rs.flatMap fun r => r.getD []).length ≤ 100 * rs.length := by
  induction rs with
  | nil => exact Nat.le_refl _
  | cons r rs ih =>
    rw [List.flatMap_cons, List.length_append, List.length_cons]
    have h1 := h r List.mem_cons_self
    have h2 := ih fun q hq => h q (List.mem_cons_of_mem _ hq)
    omega
section
variable {P : Program} {w : World} {K : PySem.W.Frag} {mg : Str → Option Value} {base : Heap} {f : Addr} {fd : FuncData}
theorem ok_istable (F : FnP K "is_table" "is_table" (top 35) [] f fd) (b : Binds K fd ["rows"] []) (B : Blt mg) (c7 : Nam CX0 P w K mg base 1 "is_integer" (spIsInt K)) : FnR P w K mg base CX0 2 f (spIsTable K) := by
  have sc : FnScope ["rows", "row", "item"] ["rows"] (defScope (top 35)) := sc_by (by decide +kernel)
  have nd := sc.nd
  refine fnp0 F b sc (fun vs H Q E h => ?_) fun cdv A outer s H vs Q E hr h => ⟨_,
    (pss_cons (ps_if (PW.pt (pw_or (pt_not (pt_val (pe_callB call_isi rfl (B.g "isinstance") boot_isinstance (pa_cons (pv 0) (pa_cons (pe_bltn (v := .ty "tuple") rfl (B.g "tuple") boot_tuple rfl) pa_nil))))) (pw_or1 (pt_not (pt_val (pe_callB (cr_all rfl) rfl (B.g "all") boot_all (pa_cons (pe_lc (own := [("row", 1)]) (g := gName 1) (tt := tYes) rfl nd (pi_tup (pv 0)) (blkOk_by (own := [("row", 1)]) (N := ["rows", "row", "item"]) (sc := defScope (top 35)) (by decide +kernel)) (fun _ _ _ _ _ => pg_name (i := 1) nd rfl (Or.inl rfl)) (fun _ _ _ _ _ => pts_nil) (fun _ _ _ _ _ => (pe_callB (r := rIsi K) call_isi rfl (B.g "isinstance") boot_isinstance (pa_cons (pv 1) (pa_cons (pe_bltn (v := .ty "tuple") rfl (B.g "tuple") boot_tuple rfl) pa_nil))))) pa_nil))))))) (pss_one (ps_ret pe_bl)) pss_nil)
    (pss_one (ps_ret (pe_callB (cr_all rfl) rfl (B.g "all") boot_all (pa_cons (pe_lc2 (own := [("row", 1), ("item", 2)]) (vs1 := [2]) (g := gName 1) (g1 := gName 2) (wi1 := iTup K (tVar 1)) (tt := tYes) (tt1 := tYes) rfl nd (pi_tup (pv 0)) (blkOk_by (own := [("row", 1), ("item", 2)]) (N := ["rows", "row", "item"]) (sc := defScope (top 35)) (by decide +kernel)) (by decide) (fun _ _ _ _ _ => pg_name (i := 1) nd rfl (Or.inl rfl)) (fun _ _ _ _ _ => pts_nil) (fun _ _ _ _ _ => pi_tup (pv 1)) (fun _ _ _ _ _ => pg_name (i := 2) nd rfl (Or.inl rfl)) (fun _ _ _ _ _ => pts_nil) (fun _ _ _ _ _ => (pe_or (pe_callB (r := rIsi K) call_isi rfl (B.g "isinstance") boot_isinstance (pa_cons (pv 2) (pa_cons (pe_bltn (v := .ty "str") rfl (B.g "str") boot_str rfl) pa_nil))) (pe_one (pe_nam c7 hr (by decide) rfl pass_no (pa_cons (pv 2) pa_nil)))))) pa_nil))))), ?_⟩
  · obtain ⟨x, t, rfl, _⟩ := h
    rfl
  obtain ⟨x, t, rfl, hx, q⟩ := h
  cases t with
  | none =>
    obtain ⟨m, hm, ne, ty⟩ := hx
    refine ⟨_, rfl, x, .ty "tuple", .type m, .type "tuple", _, rfl, .ty _, ty, kit_tuple hm, _, rfl, ?_⟩
    have e : (m == "tuple") = false := by simpa using ne
    rw [e]
    exact iteT (q H (Same.refl _))
  | some rs =>
    obtain ⟨a, vs, rfl, ha, hl, hn, hr⟩ := hx
    refine ⟨_, rfl, _, .ty "tuple", .type "tuple", .type "tuple", _, rfl, .ty _, .base (.tup ha), kit_tuple (by decide), _, rfl, ?_⟩
    refine iteF ⟨_, rfl, a, rfl, ⟨_, SqT.of ha⟩, fun D nD => ?_⟩
    have hz := sizeLine_eq
    have vsr : ∀ {i : Nat} {v : V}, vs[i]? = some v → ∃ r, rs[i]? = some r ∧ RwV K H v r := fun {i v} e => by
      have lt := (List.getElem?_eq_some_iff.mp e).1
      exact ⟨rs[i]'(by omega), List.getElem?_eq_getElem (by omega), hr i v _ e (List.getElem?_eq_getElem (by omega))⟩
    refine lc_map walk_tup (rs.map fun r => .bl r.isSome) nD (by rw [List.length_map, hn]) (by omega) (fun H2 s2 => SqT.of (s2 _ _ ha)) (fun i x H2 H3 Kt hi s2 y hK => ?_) fun H2 s2 hD => ?_
    · obtain ⟨rfl, hx⟩ := y
      obtain ⟨r, e1, rv⟩ := vsr hx
      have fin : Kt (.bl r.isSome) H3 := hK _ _ (by rw [List.getElem?_map, e1]; rfl) (Same.refl _)
      refine ⟨rfl, ?_⟩
      cases r with
      | none =>
        obtain ⟨m, hm, ne, ty⟩ := rv
        refine ⟨_, rfl, x, .ty "tuple", .type m, .type "tuple", _, rfl, .ty _, tyx_same ty s2, kit_tuple hm, ?_⟩
        rw [show (m == "tuple") = false from by simpa using ne]
        exact fin
      | some its =>
        obtain ⟨a2, rfl, ha2, _, _⟩ := rv
        exact ⟨_, rfl, _, .ty "tuple", .type "tuple", .type "tuple", _, rfl, .ty _, .base (.tup (s2 _ _ ha2)), kit_tuple (by decide), fin⟩
    refine ⟨D, rs.map Option.isSome, rfl, by rw [List.map_map]; exact SqL.of hD, _, rfl, ?_⟩
    cases c : (rs.map Option.isSome).all id with
    | false =>
      have e : tableB (some rs) = false := by
        obtain ⟨y, hy, h2⟩ := List.all_eq_false.mp c
        obtain ⟨r, hr, rfl⟩ := List.mem_map.mp hy
        show rs.all rowB = false
        refine List.all_eq_false.mpr ⟨r, hr, ?_⟩
        cases r with
        | none => exact Bool.false_ne_true
        | some z => exact absurd rfl h2
      rw [e] at q
      exact iteT (q H2 s2)
    | true =>
      have ha2 := s2 _ _ ha
      refine iteF ⟨_, rfl, a, rfl, ⟨_, SqT.of ha2⟩, fun D2 nD2 => ?_⟩
      obtain ⟨its, rfl⟩ : ∃ its : List (List V), rs = its.map some := by
        clear q hl hn hr vsr hD
        induction rs with
        | nil => exact ⟨[], rfl⟩
        | cons r rs ih =>
          rw [List.map_cons, List.all_cons, Bool.and_eq_true] at c
          obtain ⟨l, rfl⟩ := ih c.2
          cases r with
          | none => cases c.1
          | some z => exact ⟨z :: l, rfl⟩
      rw [List.length_map] at hl hn
      have row : ∀ {i : Nat} {v : V}, vs[i]? = some v → ∃ r ad, its[i]? = some r ∧ v = .ref ad ∧ H ad = some (.tup r) ∧ r.length ≤ 100 ∧ ∀ it ∈ r, Ty7 K H it := fun {i v} e => by
        obtain ⟨r, e1, rv⟩ := vsr e
        rw [List.getElem?_map] at e1
        cases e2 : its[i]? with
        | none => rw [e2] at e1; cases e1
        | some z =>
          rw [e2] at e1
          obtain rfl := Option.some.inj e1
          obtain ⟨ad, r1, r2, r3, r4⟩ := rv
          exact ⟨z, ad, rfl, r1, r2, r3, r4⟩
      have small : ∀ r ∈ its, r.length ≤ 100 := fun r hr => by
        obtain ⟨i, hi⟩ := List.mem_iff_getElem?.mp hr
        have lt := (List.getElem?_eq_some_iff.mp hi).1
        obtain ⟨r2, ad, e1, _, _, e3, _⟩ := row (List.getElem?_eq_getElem (l := vs) (i := i) (by omega))
        rw [hi] at e1
        obtain rfl := Option.some.inj e1
        exact e3
      have tot : ∀ i, (its.take i).flatten.length ≤ 100 * i := fun i => by
        rw [List.length_flatten]
        induction i with
        | zero => exact Nat.zero_le _
        | succ i ih =>
          rw [List.take_succ]
          cases e : its[i]? with
          | none =>
            rw [Option.toList_none, List.append_nil]
            omega
          | some r =>
            have := small r (List.mem_of_getElem? e)
            rw [Option.toList_some, List.map_append, List.sum_append, List.map_cons, List.map_nil, List.sum_cons, List.sum_nil]
            omega
      refine lc2_it walk_tup (fun i H3 => Same H2 H3 ∧ H3 D2 = some (.lst ((its.take i).flatten.map fun it => V.bl (isIt it)))) ⟨same_upd nD2, upd_same⟩ (fun i H3 _ p => SqT.of (p.1 _ _ ha2)) (fun i x H3 H4 hi p y => ?_) fun H3 p => ?_
      · obtain ⟨rfl, hx⟩ := y
        obtain ⟨r, ad, e1, rfl, e2, e3, e4⟩ := row hx
        refine ⟨rfl, tYes_ok ?_⟩
        have hr4 := p.1 _ _ (s2 _ _ e2)
        refine ⟨_, rfl, ad, rfl, ⟨_, SqT.of hr4⟩, ?_⟩
        refine lc2_in walk_tup (fun j H3 => Same H2 H3 ∧ H3 D2 = some (.lst (((its.take i).flatten ++ r.take j).map fun it => V.bl (isIt it)))) ⟨p.1, by rw [List.take_zero, List.append_nil]; exact p.2⟩ (fun j H3 _ p => SqT.of (p.1 _ _ (s2 _ _ e2))) (fun j x H5 H6 hj p2 y2 => ?_) fun H5 p2 => ?_
        · obtain ⟨rfl, hx2⟩ := y2
          obtain ⟨m, hm, ty⟩ := (e4 x (List.mem_of_getElem? hx2)).same (s2.trans p2.1)
          have step : ∃ acc, H6 D2 = some (.lst acc) ∧ acc.length < sizeLine ∧ Same H2 (upd H6 D2 (.lst (acc ++ [.bl (isIt x)]))) ∧ (upd H6 D2 (.lst (acc ++ [.bl (isIt x)]))) D2 = some (.lst (((its.take i).flatten ++ r.take (j + 1)).map fun it => V.bl (isIt it))) := by
            refine ⟨_, p2.2, ?_, same_put p2.1 nD2, ?_⟩
            · have := tot i
              rw [List.length_map, List.length_append, List.length_take]
              omega
            · rw [upd_same, List.take_succ, hx2, ← List.append_assoc, List.map_append (l₂ := (some x).toList)]
              rfl
          refine ⟨rfl, tYes_ok ?_⟩
          have e5 := isIt_ty ty
          refine ⟨_, rfl, x, .ty "str", .type m, .type "str", _, rfl, .ty _, ty, kit_str hm, _, rfl, ?_⟩
          refine ite2 (fun c3 => ?_) (fun c3 => ?_)
          · have c4 : (m == "str") = true := c3
            rw [c4, Bool.true_or] at e5
            rw [← e5] at step
            exact step
          · have c4 : (m == "str") = false := Bool.eq_false_iff.mpr c3
            rw [c4, Bool.false_or] at e5
            refine ⟨_, rfl, x, rfl, ⟨m, hm, ty⟩, ?_⟩
            rw [e5]
            exact step
        · refine ⟨p2.1, ?_⟩
          rw [p2.2, List.take_length, List.take_succ, e1, List.flatten_append]
          simp
      · have e : tableB (some (its.map some)) = (its.flatten.map isIt).all id := by
          show (its.map some).all rowB = _
          rw [List.all_map, List.all_map, List.all_flatten]
          rfl
        rw [e] at q
        refine ⟨D2, its.flatten.map isIt, rfl, ?_, q _ (s2.trans p.1)⟩
        rw [List.map_map]
        have p2 := p.2
        rw [hn, List.take_length] at p2
        exact SqL.of p2
end
end Q7
set_option maxHeartbeats 4000000
namespace Q7
open PySem PySem.Spec PyProof.Rows L2 SX RZ
/-! ### columns -/
abbrev Tb := Option (List (Option (List V)))
def intOf : V → Int
  | .int i => i
  | _ => 0
def rowT (ws its : List V) : Str := Txt.join " " (List.zipWith (fun it wd => colT it (intOf wd)) its ws)
def tabT (rs : List (List V)) (ws : List V) : Str := Txt.join "\n" (rs.map (rowT ws))
/-- the rows of a table -/
def rowsOf (t : Tb) : List (List V) := (t.getD []).map fun r => r.getD []
/-- the parameter that is none -/
def colsR (t : Tb) (u : Option (List V)) : Option Str := if tableB t = true then (match u with
  | none => some ("widths" : Str)
  | some ws => if ((rowsOf t).map fun its => decide (its.length ≠ ws.length)).any id = true then some ("rows" : Str) else if (ws.map fun wd => wiV wd (-60) 60).all id = true then none else some ("widths" : Str)) else some ("rows" : Str)
def itS : V → Prop
  | .str z => z.length ≤ 1000
  | .int i => i.natAbs.log2 < 1920 ∧ (toString i : Str).length ≤ 1000
  | _ => False
def SzT (t : Tb) : Prop := ∀ its ∈ rowsOf t, ∀ it ∈ its, isIt it = true → itS it
def EV (CV : Addr) (E : XK) (H : Hp) (z : Str) : Prop := ∀ d p H', Same H H' → H' d = some (.xd [("what", .str z), ("values_told", .ref p)]) → E (.ref CV) (some d) H'
def spColumns (K : PySem.W.Frag) (CV : Addr) : Sp := fun vs H Q E => ∃ (x y : V) (t : Tb) (u : Option (List V)), vs = [x, y] ∧ TbV K H x t ∧ RwV K H y u ∧ SzT t ∧
  (∀ z, colsR t u = some z → EV CV E H z) ∧ (colsR t u = none → ∀ H', Same H H' → Q (.str (tabT (rowsOf t) (u.getD []))) H')
theorem EV.same {CV : Addr} {E : XK} {H H1 : Hp} {z : Str} (h : EV CV E H z) (s : Same H H1) : EV CV E H1 z := fun d p H' s' hx => h d p H' (s.trans s') hx
theorem pe_joinK {X : Cx} {K : PySem.W.Frag} (hK : X.K = K) {o e : Expr} {to te : TE} {apos pos : Pos} (ho : PE X o to) (he : PE X e te) (hs : starEach [e] X.env = [(false, eval e X.env)] := by rfl) (hbase : attributeBase o "join" X.env (eval o X.env) = eval o X.env := by rfl) (hline : (apos.endLine == pos.line) = true := by rfl) :
    PE X (.Call (.Attribute o "join" apos) [e] [] pos) (tM1 (rJoinQ K) to te) := by
  subst hK
  exact pe_join ho he hs hbase hline
theorem pi_zipK {X : Cx} {K : PySem.W.Frag} (hK : X.K = K) {e e2 : Expr} {ta : TA} {p pos tpos : Pos} {elts : List Expr} {kk : Nat} (hg : Gl X "zip") (hm : X.mg "zip" = none) (ha : PA X [e, e2] ta) (hs : starEach [e, e2] X.env = (false, eval e X.env) :: starEach [e2] X.env := by rfl) (hpl : (backTo pos (starEach [e2] X.env)).any (·.1) = false := by rfl) :
    PI X (.Tuple elts kk tpos) (.Call (.Name "zip" p) [e, e2] [] pos) (iZipA K ta) := by
  subst hK
  exact pi_zipA hg hm ha hs hpl
theorem pg_tupK {X : Cx} {K : PySem.W.Frag} (hK : X.K = K) {es : List Expr} {k : Nat} {t : TGs} {n : Nat} {pos : Pos} (hc : X.calm = true) (h : PGs X es t) (hn : (assignEach es X.env).length = n := by rfl) (hst : (assignEach es X.env).findIdx? (·.1) = none := by rfl) : PG X (.Tuple es k pos) (gTup K n t) := by
  subst hK
  exact pg_tup hc h hn hst
theorem walk_zipT {K : PySem.W.Frag} {a b : Addr} {xs ys : List V} {n : Nat} (hn : n = min xs.length ys.length) : Walk (ItzT K a b) n (fun H => SqT K H a xs ∧ SqT K H b ys) (YPair (fun i => xs[i]?) (fun i => ys[i]?)) := by
  subst hn
  refine ⟨fun j _ lt both => ?_, fun _ both => ⟨xs, ys, both.1, both.2, by omega⟩, fun j H v H' _ both z => ?_⟩
  · have l1 : j < xs.length ∧ j < ys.length := ⟨by omega, by omega⟩
    exact ⟨xs, ys, xs[j], ys[j], both.1, both.2, by simp [l1.1], by simp [l1.2]⟩
  · obtain ⟨T, u1, u2, e1, e2, e3, at1, at2⟩ := z
    exact ⟨T, u1, u2, e1, e2, e3, at1 xs both.1, at2 ys both.2⟩
theorem itS_ok {x : V} (h : itS x) : itOk x := by
  cases x with
  | int i => exact h.1
  | str z => exact True.intro
  | _ => exact h.elim
theorem itT_len {x : V} (h : itS x) : (itT x).length ≤ 1000 := by
  cases x with
  | int i => exact h.2
  | str z => exact h
  | _ => exact h.elim
theorem colT_len {x : V} (h : itS x) {k : Int} (h1 : -60 ≤ k) (h2 : k ≤ 60) : (colT x k).length ≤ 1060 := by
  have hl := itT_len h
  have pad : ∀ (a : Str) (l r c : Nat), (Builtin.Str.padded a l r c).length = l + a.length + r := fun a l r c => by
    unfold Builtin.Str.padded
    simp [Str.length]
    omega
  unfold colT Txt.ljust Txt.rjust
  split
  · split
    · omega
    · rw [pad]; omega
  · split
    · omega
    · rw [pad]; omega
theorem sum_le {ys : List Str} {B : Nat} (h : ∀ z ∈ ys, z.length ≤ B) : (ys.map (·.length)).sum ≤ B * ys.length := by
  induction ys with
  | nil => exact Nat.zero_le _
  | cons y ys ih =>
    have h1 := h y List.mem_cons_self
    have h2 := ih fun z hz => h z (List.mem_cons_of_mem _ hz)
    rw [List.map_cons, List.sum_cons, List.length_cons, Nat.mul_succ]
    omega
theorem join_le (a : Str) (ys : List Str) : (Txt.join a ys).length ≤ (ys.map (·.length)).sum + ys.length * a.length := by
  show (Builtin.Str.glued a ys).length ≤ _
  rw [StrLaws.glued_eq_join]
  exact StrLaws.join_length_le a ys
theorem all_some : ∀ {rs : List (Option (List V))}, rs.all rowB = true → ∃ its : List (List V), rs = its.map some
  | [], _ => ⟨[], rfl⟩
  | r :: rs, c => by
    rw [List.all_cons, Bool.and_eq_true] at c
    obtain ⟨l, rfl⟩ := all_some c.2
    cases r with
    | none => cases c.1
    | some z => exact ⟨z :: l, rfl⟩
theorem tb_rows {K : PySem.W.Frag} {H : Hp} {rs : List (Option (List V))} {vs : List V} (c : tableB (some rs) = true) (hn : vs.length = rs.length) (hr : ∀ (i : Nat) (v : V) (r : Option (List V)), vs[i]? = some v → rs[i]? = some r → RwV K H v r) :
    ∃ its : List (List V), rs = its.map some ∧ vs.length = its.length ∧ (∀ r ∈ its, r.all isIt = true ∧ r.length ≤ 100) ∧ ∀ (i : Nat) (v : V), vs[i]? = some v → ∃ r ad, its[i]? = some r ∧ v = .ref ad ∧ H ad = some (.tup r) := by
  have c : rs.all rowB = true := c
  obtain ⟨its, rfl⟩ := all_some c
  rw [List.length_map] at hn
  have row : ∀ (i : Nat) (v : V), vs[i]? = some v → ∃ r ad, its[i]? = some r ∧ v = .ref ad ∧ H ad = some (.tup r) ∧ r.length ≤ 100 := fun i v e => by
    have lt := (List.getElem?_eq_some_iff.mp e).1
    have e2 : its[i]? = some (its[i]'(by omega)) := List.getElem?_eq_getElem (by omega)
    obtain ⟨ad, r1, r2, r3, r4⟩ := hr i v (some (its[i]'(by omega))) e (by rw [List.getElem?_map, e2]; rfl)
    exact ⟨_, ad, e2, r1, r2, r3⟩
  refine ⟨its, rfl, hn, fun r hr => ⟨?_, ?_⟩, fun i v e => ?_⟩
  · rw [List.all_map] at c
    exact List.all_eq_true.mp c r hr
  · obtain ⟨i, hi⟩ := List.mem_iff_getElem?.mp hr
    have lt := (List.getElem?_eq_some_iff.mp hi).1
    obtain ⟨r2, ad, e1, _, _, e3⟩ := row i _ (List.getElem?_eq_getElem (l := vs) (i := i) (by omega))
    rw [hi] at e1
    obtain rfl := Option.some.inj e1
    exact e3
  · obtain ⟨r, ad, e1, e2, e3, _⟩ := row i v e
    exact ⟨r, ad, e1, e2, e3⟩
section
variable {P : Program} {w : World} {K : PySem.W.Frag} {mg : Str → Option Value} {base : Heap} {f : Addr} {fd : FuncData} {CT CA CV CP fT fA fV fP : Addr}
abbrev Nc : List Str := ["rows", "widths", "row", "width", "item"]
theorem okx_columns (F : FnP K "columns" "columns" (top 37) [] f fd) (B : Blt mg) (Es : Errs K P mg CT CA CV CP fT fA fV fP) (c35 : Nam CX0 P w K mg base 2 "is_table" (spIsTable K)) (c8 : Nam CX0 P w K mg base 2 "is_within" (spWithin K)) (c36 : Nam CX0 P w K mg base 1 "column" spColumn)
    (gW : ∃ u, mg "WIDEST" = some u ∧ RelV (.int 60) u) : FnOk P w K mg base (L2.CX P w) 3 f fd ["rows", "widths"] (spColumns K CV) := by
  have sc : FnScope Nc ["rows", "widths"] (defScope (top 37)) := sc_by (by decide +kernel)
  have nd := sc.nd
  refine F.ok sc (fun vs H Q E h => ?_) fun cdv A outer s H vs Q E hr h => ⟨_,
    (pss_cons (ps_if (pt_not (pt_val (pe_nam c35 hr (by decide) rfl pass_no (pa_cons (pv 0) pa_nil)))) (pss_one (ps_raiseK (calmH hr.hd) (fun q h => by cases h) (by decide) (TakesK.of (n := 0) (takes_of rfl rfl rfl rfl)) (pmk_err1 Es.tV Es.tP Es.gs Es.gV (room4 hr) (by exact (pa_cons pe_str pa_nil))))) pss_nil)
    (pss_cons (ps_if (PW.pt (pw_and (pt_val (pe_callB call_isi rfl (B.g "isinstance") boot_isinstance (pa_cons (pv 1) (pa_cons (pe_bltn (v := .ty "tuple") rfl (B.g "tuple") boot_tuple rfl) pa_nil)))) (pw_and1 (pt_val (pe_callB (cr_any rfl) rfl (B.g "any") boot_any (pa_cons (pe_lc (own := [("row", 2)]) (g := gName 2) (tt := tYes) rfl nd (pi_tup (pv 0)) (blkOk_by (own := [("row", 2)]) (N := Nc) (sc := defScope (top 37)) (by decide +kernel)) (fun _ _ _ _ _ => pg_name (i := 2) nd rfl (Or.inl rfl)) (fun _ _ _ _ _ => pts_nil) (fun _ _ _ _ _ => (pe_cmpR op_ne (pe_callB (r := fun xs H Q => ∃ x n, xs = [x] ∧ LenV K x H n ∧ Q (.int n) H) call_len rfl (B.g "len") boot_len (pa_cons (pv 2) pa_nil)) (pe_callB (r := fun xs H Q => ∃ x n, xs = [x] ∧ LenV K x H n ∧ Q (.int n) H) call_len rfl (B.g "len") boot_len (pa_cons (pv 1) pa_nil)) (nomark _)))) pa_nil)))))) (pss_one (ps_raiseK (calmH hr.hd) (fun q h => by cases h) (by decide) (TakesK.of (n := 0) (takes_of rfl rfl rfl rfl)) (pmk_err1 Es.tV Es.tP Es.gs Es.gV (room4 hr) (by exact (pa_cons pe_str pa_nil))))) pss_nil)
    (pss_cons (ps_if (PW.pt (pw_or (pt_not (pt_val (pe_callB call_isi rfl (B.g "isinstance") boot_isinstance (pa_cons (pv 1) (pa_cons (pe_bltn (v := .ty "tuple") rfl (B.g "tuple") boot_tuple rfl) pa_nil))))) (pw_or1 (pt_not (pt_val (pe_callB (cr_all rfl) rfl (B.g "all") boot_all (pa_cons (pe_lc (own := [("width", 3)]) (g := gName 3) (tt := tYes) rfl nd (pi_tup (pv 1)) (blkOk_by (own := [("width", 3)]) (N := Nc) (sc := defScope (top 37)) (by decide +kernel)) (fun _ _ _ _ _ => pg_name (i := 3) nd rfl (Or.inl rfl)) (fun _ _ _ _ _ => pts_nil) (fun _ _ _ _ _ => (pe_nam c8 hr (by decide) rfl pass_no (pa_cons (pv 3) (pa_cons (pe_un un_neg (C8.pe_gc rfl gW)) (pa_cons (C8.pe_gc rfl gW) pa_nil)))))) pa_nil))))))) (pss_one (ps_raiseK (calmH hr.hd) (fun q h => by cases h) (by decide) (TakesK.of (n := 0) (takes_of rfl rfl rfl rfl)) (pmk_err1 Es.tV Es.tP Es.gs Es.gV (room4 hr) (by exact (pa_cons pe_str pa_nil))))) pss_nil)
    (pss_one (ps_ret (pe_join pe_str (pe_lc (own := [("row", 2)]) (g := gName 2) (tt := tYes) rfl nd (pi_tup (pv 0)) (blkOk_by (own := [("row", 2)]) (N := Nc) (sc := defScope (top 37)) (by decide +kernel)) (fun _ _ _ _ _ => pg_name (i := 2) nd rfl (Or.inl rfl)) (fun _ _ _ _ _ => pts_nil)
      (fun _ _ _ _ _ => (pe_joinK (K := K) rfl pe_str (pe_lc (own := [("item", 4), ("width", 3)]) (g := gTup K 2 (gCons (gName 4) (gCons (gName 3) gNil))) (tt := tYes) rfl nd (pi_zipK (K := K) rfl rfl (B.g "zip") (pa_cons (pv 2) (pa_cons (pv 1) pa_nil))) (blkOk_by (by rfl))
        (fun _ _ _ _ _ => pg_tupK rfl rfl (pgs_cons (pg_name (i := 4) nd rfl (.inl rfl)) (pgs_cons (pg_name (i := 3) nd rfl (.inl rfl)) pgs_nil))) (fun _ _ _ _ _ => pts_nil) (fun _ _ _ _ _ => (pe_nam c36 hr (by decide) rfl pass_no (pa_cons (pv 4) (pa_cons (pv 3) pa_nil)))))))))))))), ?_⟩
  · obtain ⟨x, y, t, u, rfl, _⟩ := h
    rfl
  obtain ⟨x, y, t, u, rfl, hx, hy, sz, qE, qN⟩ := h
  have hz := sizeLine_eq
  refine ⟨_, rfl, x, t, rfl, hx, fun H1 s1 => ?_⟩
  cases ct : tableB t with
  | false =>
    have e : colsR t u = some ("rows" : Str) := by
      unfold colsR
      rw [if_neg (by rw [ct]; exact Bool.false_ne_true)]
    exact ⟨_, rfl, iteT ⟨_, rfl, fun d p hd => qE _ e d p _ (s1.trans (same_upd hd)) upd_same⟩⟩
  | true =>
    refine ⟨_, rfl, iteF ?_⟩
    obtain ⟨rs, rfl⟩ : ∃ rs, t = some rs := by
      cases t with
      | none => cases ct
      | some rs => exact ⟨rs, rfl⟩
    obtain ⟨a, vs, rfl, ha, hl, hn, hr2⟩ := hx.same s1
    have hy1 := hy.same s1
    cases u with
    | none =>
      have e : colsR (some rs) none = some ("widths" : Str) := by
        unfold colsR
        rw [if_pos ct]
      obtain ⟨m, hm, ne, ty⟩ := hy1
      have em : (m == "tuple") = false := by simpa using ne
      refine ⟨_, rfl, y, .ty "tuple", .type m, .type "tuple", _, rfl, .ty _, ty, kit_tuple hm, _, rfl, ?_⟩
      rw [em]
      refine iteF ⟨_, rfl, y, .ty "tuple", .type m, .type "tuple", _, rfl, .ty _, ty, kit_tuple hm, _, rfl, ?_⟩
      rw [em]
      exact iteT (iteT ⟨_, rfl, fun d p hd => qE _ e d p _ (s1.trans (same_upd hd)) upd_same⟩)
    | some ws =>
      obtain ⟨b2, rfl, hb2, hl2, hw⟩ := hy1
      refine ⟨_, rfl, _, .ty "tuple", .type "tuple", .type "tuple", _, rfl, .ty _, .base (.tup hb2), kit_tuple (by decide), _, rfl, ?_⟩
      obtain ⟨its, rfl, hni, hits, row⟩ := tb_rows ct hn hr2
      have eR : rowsOf (some (its.map some)) = its := by
        show (its.map some).map (fun r => r.getD []) = its
        rw [List.map_map]
        exact List.map_id its
      rw [List.length_map] at hl
      refine iteT ⟨_, rfl, a, rfl, ⟨_, SqT.of ha⟩, fun D nD => ?_⟩
      refine lc_map walk_tup (its.map fun r => .bl (decide (r.length ≠ ws.length))) nD (by rw [List.length_map, hni]) (by omega) (fun H2 s2 => SqT.of (s2 _ _ ha)) (fun i x H2 H3 Kt hi s2 y hK => ?_) fun H2 s2 hD => ?_
      · obtain ⟨rfl, hx3⟩ := y
        obtain ⟨r, ad, e1, rfl, e2⟩ := row i x hx3
        refine ⟨rfl, _, rfl, _, _, rfl, .inr ⟨_, SqT.of (s2 _ _ e2), rfl⟩, _, rfl, _, _, rfl, .inr ⟨_, SqT.of (s2 _ _ hb2), rfl⟩, rfl, ?_⟩
        refine hK _ _ ?_ (Same.refl _)
        rw [List.getElem?_map, e1]
        show some (V.bl (decide (r.length ≠ ws.length))) = _
        refine congrArg some (congrArg V.bl ?_)
        by_cases e : r.length = ws.length
        · simp [e]
        · have e3 : ¬ ((r.length : Int) = (ws.length : Int)) := fun z => e (by omega)
          simp [e, e3]
      refine ⟨D, its.map fun r => decide (r.length ≠ ws.length), rfl, by rw [List.map_map]; exact SqL.of hD, _, rfl, ?_⟩
      cases c2 : (its.map fun r => decide (r.length ≠ ws.length)).any id with
      | true =>
        have e : colsR (some (its.map some)) (some ws) = some ("rows" : Str) := by
          unfold colsR
          rw [if_pos ct, eR]
          exact if_pos c2
        exact iteT ⟨_, rfl, fun d p hd => qE _ e d p _ ((s1.trans s2).trans (same_upd hd)) upd_same⟩
      | false =>
        refine iteF ⟨_, rfl, _, .ty "tuple", .type "tuple", .type "tuple", _, rfl, .ty _, .base (.tup (s2 _ _ hb2)), kit_tuple (by decide), _, rfl, ?_⟩
        refine iteF ⟨_, rfl, b2, rfl, ⟨_, SqT.of (s2 _ _ hb2)⟩, fun D2 nD2 => ?_⟩
        refine lc_map walk_tup (ws.map fun wd => .bl (wiV wd (-60) 60)) nD2 (by rw [List.length_map]) (by omega) (fun H3 s3 => SqT.of (s3 _ _ (s2 _ _ hb2))) (fun i x H3 H4 Kt hi s3 y hK => ?_) fun H3 s3 hD2 => ?_
        · obtain ⟨rfl, hx3⟩ := y
          refine ⟨rfl, _, rfl, _, rfl, x, -60, 60, rfl, ((hw x (List.mem_of_getElem? hx3)).same s2).same s3, hK _ _ ?_ (Same.refl _)⟩
          rw [List.getElem?_map, hx3]
          rfl
        refine ⟨D2, ws.map fun wd => wiV wd (-60) 60, rfl, by rw [List.map_map]; exact SqL.of hD2, _, rfl, ?_⟩
        have s13 := (s1.trans s2).trans s3
        cases c3 : (ws.map fun wd => wiV wd (-60) 60).all id with
        | false =>
          have e : colsR (some (its.map some)) (some ws) = some ("widths" : Str) := by
            unfold colsR
            rw [if_pos ct, eR]
            show (if (its.map fun r => decide (r.length ≠ ws.length)).any id = true then _ else _) = _
            rw [c2, if_neg Bool.false_ne_true, c3, if_neg Bool.false_ne_true]
          exact iteT ⟨_, rfl, fun d p hd => qE _ e d p _ (s13.trans (same_upd hd)) upd_same⟩
        | true =>
          have e : colsR (some (its.map some)) (some ws) = none := by
            unfold colsR
            rw [if_pos ct, eR]
            show (if (its.map fun r => decide (r.length ≠ ws.length)).any id = true then _ else _) = _
            rw [c2, if_neg Bool.false_ne_true, c3, if_pos rfl]
          have qq := qN e
          rw [eR] at qq
          have wid : ∀ wd ∈ ws, ∃ k : Int, wd = .int k ∧ -60 ≤ k ∧ k ≤ 60 := fun wd hwd => by
            have z : wiV wd (-60) 60 = true := List.all_eq_true.mp c3 _ (List.mem_map.mpr ⟨wd, hwd, rfl⟩)
            cases wd with
            | int k =>
              have z : (decide (-60 ≤ k) && decide (k ≤ 60)) = true := z
              rw [Bool.and_eq_true, decide_eq_true_eq, decide_eq_true_eq] at z
              exact ⟨k, rfl, z.1, z.2⟩
            | _ => cases z
          have lens : ∀ r ∈ its, r.length = ws.length := fun r hr => by
            have z := List.any_eq_false.mp c2 _ (List.mem_map.mpr ⟨r, hr, rfl⟩)
            exact Decidable.not_not.mp fun y => z (decide_eq_true y)
          refine iteF ⟨⟨_, rfl⟩, _, rfl, a, rfl, ⟨_, SqT.of (s3 _ _ (s2 _ _ ha))⟩, fun D3 nD3 => ?_⟩
          refine lc_map walk_tup (its.map fun r => .str (rowT ws r)) nD3 (by rw [List.length_map, hni]) (by omega) (fun H4 s4 => SqT.of (s4 _ _ (s3 _ _ (s2 _ _ ha)))) (fun i x H4 H5 Kt hi s4 y hK => ?_) fun H4 s4 hD3 => ?_
          · obtain ⟨rfl, hx3⟩ := y
            obtain ⟨r, ad, e1, rfl, e2⟩ := row i x hx3
            have hr5 := s4 _ _ (s3 _ _ (s2 _ _ e2))
            have hb5 := s4 _ _ (s3 _ _ (s2 _ _ hb2))
            have rm := List.mem_of_getElem? e1
            have rl := lens r rm
            refine ⟨rfl, ⟨_, rfl⟩, _, rfl, _, rfl, ad, b2, r, ws, rfl, .inr ⟨SqT.of hr5, SqT.of hb5, fun D4 nD4 => ?_⟩⟩
            have itg : ∀ it ∈ r, itS it := fun it hit => sz r (by rw [eR]; exact rm) it hit (List.all_eq_true.mp (hits r rm).1 it hit)
            have ymem : ∀ z ∈ List.zipWith (fun it wd => colT it (intOf wd)) r ws, z.length ≤ 1060 := fun z hz => by
              obtain ⟨j, hj⟩ := List.mem_iff_getElem?.mp hz
              rw [List.getElem?_zipWith] at hj
              cases e3 : r[j]? with
              | none => rw [e3] at hj; cases hj
              | some it =>
                cases e4 : ws[j]? with
                | none => rw [e3, e4] at hj; cases hj
                | some wd =>
                  rw [e3, e4] at hj
                  obtain rfl := Option.some.inj hj
                  obtain ⟨k, rfl, k1, k2⟩ := wid wd (List.mem_of_getElem? e4)
                  exact colT_len (itg it (List.mem_of_getElem? e3)) k1 k2
            have yl : (List.zipWith (fun it wd => colT it (intOf wd)) r ws).length = ws.length := by rw [List.length_zipWith, rl, Nat.min_self]
            refine lc_it (walk_zipT (n := ws.length) (by rw [rl, Nat.min_self])) (fun j H6 => Same H5 H6 ∧ H6 D4 = some (.lst (((List.zipWith (fun it wd => colT it (intOf wd)) r ws).take j).map V.str))) ⟨same_upd nD4, upd_same⟩ (fun j H6 _ p => ⟨SqT.of (p.1 _ _ hr5), SqT.of (p.1 _ _ hb5)⟩) (fun j v H6 H7 hj p y => ?_) (fun H6 p => ?_)
            · obtain ⟨T, it, wd, rfl, nT, rfl, e3, e4⟩ := y
              obtain ⟨k, rfl, k1, k2⟩ := wid wd (List.mem_of_getElem? e4)
              have s6 : Same H6 (upd H6 T (.tup [it, .int k])) := same_upd nT
              refine ⟨T, [it, .int k], rfl, SqT.of upd_same, rfl, _, _, rfl, _, _, rfl, rfl, rfl, tYes_ok ⟨_, rfl, _, rfl, it, k, rfl, itS_ok (itg it (List.mem_of_getElem? e3)), ⟨k1, k2⟩, ?_⟩⟩
              refine ⟨_, s6 _ _ p.2, ?_, same_put (p.1.trans s6) nD4, ?_⟩
              · rw [List.length_map, List.length_take]
                omega
              · have e5 : (List.zipWith (fun it wd => colT it (intOf wd)) r ws)[j]? = some (colT it k) := by
                  have e3' : r[j]? = some it := e3
                  have e4' : ws[j]? = some (.int k) := e4
                  rw [List.getElem?_zipWith, e3', e4']
                  rfl
                rw [upd_same, List.take_succ, e5, List.map_append]
                rfl
            · have p2 := p.2
              rw [List.take_of_length_le (by omega)] at p2
              have sm := sum_le ymem
              refine ⟨" ", D4, _, rfl, rfl, .inl (SqL.of p2), ?_, hK _ _ (by rw [List.getElem?_map, e1]; rfl) p.1⟩
              rw [show (" " : Str).length = 1 from rfl]
              omega
          refine ⟨"\n", D3, its.map (rowT ws), rfl, rfl, .inl (SqL.of (by rw [List.map_map]; exact hD3)), ?_, qq _ (s13.trans s4)⟩
          have rowlen : ∀ z ∈ its.map (rowT ws), z.length ≤ 106100 := fun z hz => by
            obtain ⟨r, rm, rfl⟩ := List.mem_map.mp hz
            have rl := lens r rm
            have ymem : ∀ z ∈ List.zipWith (fun it wd => colT it (intOf wd)) r ws, z.length ≤ 1060 := fun z hz => by
              obtain ⟨j, hj⟩ := List.mem_iff_getElem?.mp hz
              rw [List.getElem?_zipWith] at hj
              cases e3 : r[j]? with
              | none => rw [e3] at hj; cases hj
              | some it =>
                cases e4 : ws[j]? with
                | none => rw [e3, e4] at hj; cases hj
                | some wd =>
                  rw [e3, e4] at hj
                  obtain rfl := Option.some.inj hj
                  obtain ⟨k, rfl, k1, k2⟩ := wid wd (List.mem_of_getElem? e4)
                  exact colT_len (sz r (by rw [eR]; exact rm) it (List.mem_of_getElem? e3) (List.all_eq_true.mp (hits r rm).1 it (List.mem_of_getElem? e3))) k1 k2
            have sm := sum_le ymem
            have jl := join_le " " (List.zipWith (fun it wd => colT it (intOf wd)) r ws)
            have yl : (List.zipWith (fun it wd => colT it (intOf wd)) r ws).length = ws.length := by rw [List.length_zipWith, rl, Nat.min_self]
            rw [show (" " : Str).length = 1 from rfl] at jl
            show (Txt.join " " (List.zipWith (fun it wd => colT it (intOf wd)) r ws)).length ≤ _
            omega
          have sm := sum_le rowlen
          rw [List.length_map] at sm ⊢
          rw [show ("\n" : Str).length = 1 from rfl]
          omega
theorem ok_columns (F : FnP K "columns" "columns" (top 37) [] f fd) (b : Binds K fd ["rows", "widths"] []) (B : Blt mg) (Es : Errs K P mg CT CA CV CP fT fA fV fP) (c35 : Nam CX0 P w K mg base 2 "is_table" (spIsTable K)) (c8 : Nam CX0 P w K mg base 2 "is_within" (spWithin K)) (c36 : Nam CX0 P w K mg base 1 "column" spColumn)
    (gW : ∃ u, mg "WIDEST" = some u ∧ RelV (.int 60) u) : FnR P w K mg base (L2.CX P w) 3 f (spColumns K CV) :=
  (FnOk.raw (okx_columns F B Es c35 c8 c36 gW) b .nil).imp fun vs H Q E h => by rw [List.append_nil]; exact h
end
end Q7
set_option maxHeartbeats 4000000
namespace Q7
open PySem PySem.Spec PyProof.Rows L2 SX
/-! ### texts of a bounded length, joined -/
def Txk (n : Nat) (y : V) : Prop := ∃ l, y = vS l ∧ asc l ∧ l.length ≤ n
theorem txk_all {n : Nat} : ∀ {ys : List V}, (∀ y ∈ ys, Txk n y) → ∃ ls : List (List Nat), ys = ls.map vS ∧ ∀ l ∈ ls, asc l ∧ l.length ≤ n
  | [], _ => ⟨[], rfl, fun _ h => by cases h⟩
  | y :: ys, h => by
    obtain ⟨l, e, h1, h2⟩ := h y List.mem_cons_self
    obtain ⟨ls, e2, h3⟩ := txk_all fun z hz => h z (List.mem_cons_of_mem _ hz)
    refine ⟨l :: ls, by rw [e, e2]; rfl, fun m hm => ?_⟩
    rcases List.mem_cons.mp hm with z | z
    · rw [z]; exact ⟨h1, h2⟩
    · exact h3 m z
theorem joinS_len (sep : List Nat) : ∀ ps : List (List Nat), (TL.joinL sep ps).length ≤ (ps.map List.length).sum + ps.length * sep.length
  | [] => Nat.zero_le _
  | [p] => by
    show p.length ≤ _
    simp only [List.map_cons, List.sum_cons, List.map_nil, List.sum_nil]
    omega
  | p :: q :: r => by
    show (p ++ (sep ++ TL.joinL sep (q :: r))).length ≤ _
    have := joinS_len sep (q :: r)
    simp only [List.map_cons, List.sum_cons, List.length_cons, List.length_append, Nat.succ_mul] at *
    omega
theorem joinS_mem {sep : List Nat} {x : Nat} : ∀ {ps : List (List Nat)}, x ∈ TL.joinL sep ps → x ∈ sep ∨ ∃ p ∈ ps, x ∈ p
  | [], h => by cases h
  | [p], h => .inr ⟨p, List.mem_cons_self, h⟩
  | p :: q :: r, h => by
    rcases List.mem_append.mp (show x ∈ p ++ (sep ++ TL.joinL sep (q :: r)) from h) with h | h
    · exact .inr ⟨p, List.mem_cons_self, h⟩
    · rcases List.mem_append.mp h with h | h
      · exact .inl h
      · rcases joinS_mem h with z | ⟨m, hm, z⟩
        · exact .inl z
        · exact .inr ⟨m, List.mem_cons_of_mem _ hm, z⟩
theorem lens_le {n : Nat} : ∀ {ls : List (List Nat)}, (∀ l ∈ ls, asc l ∧ l.length ≤ n) → (ls.map List.length).sum ≤ n * ls.length
  | [], _ => Nat.zero_le _
  | l :: ls, h => by
    have h1 := (h l List.mem_cons_self).2
    have h2 := lens_le fun m hm => h m (List.mem_cons_of_mem _ hm)
    rw [List.map_cons, List.sum_cons, List.length_cons, Nat.mul_succ]
    omega
/-- sep.join of texts -/
theorem join_txk {K : PySem.W.Frag} {H : Hp} {Q : VK} {D : Addr} {ys : List V} {sep : List Nat} (n m : Nat) (hD : SqL K H D ys) (hy : ∀ y ∈ ys, Txk n y) (hm : ys.length ≤ m) (hs : asc sep) (hb : (n + sep.length) * m ≤ 16777216)
    (q : ∀ l, asc l → l.length ≤ (n + sep.length) * m → Q (vS l) H) : rJoinQ K (.str (S sep)) [.ref D] H Q := by
  obtain ⟨ls, rfl, hl⟩ := txk_all hy
  rw [List.length_map] at hm
  have hsum := lens_le hl
  have hle : n * ls.length + ls.length * sep.length ≤ (n + sep.length) * m := by
    rw [Nat.mul_comm ls.length sep.length, ← Nat.add_mul]
    exact Nat.mul_le_mul_left _ hm
  have hj := joinS_len sep ls
  refine ⟨S sep, D, ls.map S, rfl, rfl, .inl (by rw [List.map_map]; exact hD), ?_, ?_⟩
  · rw [List.map_map, S_len, List.length_map]
    have e : (ls.map ((fun z : Str => z.length) ∘ S)) = ls.map List.length := List.map_congr_left fun l _ => S_len l
    rw [e]
    omega
  · rw [join_S]
    refine q _ (fun x hx => ?_) (by omega)
    rcases joinS_mem hx with z | ⟨p, hp, z⟩
    · exact hs x z
    · exact (hl p hp).1 x z
/-! ### _law_word -/
section
variable {P : Program} {w : World} {K : PySem.W.Frag} {mg : Str → Option Value} {base : Heap} {f : Addr} {fd : FuncData}
abbrev Nw : List Str := ["_law_pen_here", "_law_signs", "_law_parts", "_law_pane", "_law_k", "_law_part"]
theorem ok_lawword (F : FnP K "_law_word" "_law_word" (top 48) [] f fd) (b : Binds K fd ["_law_pen_here"] []) (B : Blt mg) (cD : Nam CX0 P w K mg base 1 "_law_draw" (spDraw K)) (cP : Nam CX0 P w K mg base 2 "_law_pick" (spPick K)) : FnR P w K mg base CX0 3 f (spTxt K 119 120) := by
  have sc : FnScope Nw ["_law_pen_here"] (defScope (top 48)) := sc_by (by decide +kernel)
  have nd := sc.nd
  refine fnp0 F b sc (fun vs H Q E h => ?_) fun cdv A outer s H vs Q E hr h => ⟨_,
    (pss_cons (ps_asg (pe_tup (pa_cons pe_str (pa_cons (pe_lst pa_nil) pa_nil))) (pg_tup rfl (pgs_cons (pg_name (i := 1) nd rfl (.inr rfl)) (pgs_cons (pg_name (i := 2) nd rfl (.inl rfl)) pgs_nil))))
    (pss_cons (ps_for (passes_of rfl) rfl (pi_range1 rfl (B.g "range") (pa_cons (pe_nam cP hr (by decide) rfl pass_no (pa_cons (pv 0) (pa_cons (pe_lst (pa_cons pe_int (pa_cons pe_int (pa_cons pe_int (pa_cons pe_int (pa_cons pe_int pa_nil)))))) pa_nil))) pa_nil)) (pg_name (i := 3) nd rfl (Or.inl rfl))
      (pss_one (ps_expr (pe_bm PySem.F.plainAttrs_list PySem.F.slot_list_append PySem.F.type_list_append mt_append (pv 2) (pa_cons (pe_joinK (K := K) rfl pe_str (pe_lc (own := [("_law_k", 4)]) (g := gName 4) (tt := tYes) rfl nd (pi_range1 rfl (B.g "range") (pa_cons (pe_nam cP hr (by decide) rfl pass_no (pa_cons (pv 0) (pa_cons (pe_lst (pa_cons pe_int (pa_cons pe_int (pa_cons pe_int (pa_cons pe_int pa_nil))))) pa_nil))) pa_nil)) (blkOk_by (own := [("_law_k", 4)]) (N := Nw) (sc := defScope (top 48)) (by decide +kernel)) (fun _ _ _ _ _ => pg_name (i := 4) nd rfl (Or.inl rfl)) (fun _ _ _ _ _ => pts_nil) (fun _ _ _ _ _ => (pe_nam cP hr (by decide) rfl pass_no (pa_cons (pv 0) (pa_cons (pv 1) pa_nil)))))) pa_nil)))))
    (pss_one (ps_ret (pe_ifExp (pt_cmpR op_eq (pe_nam cD hr (by decide) rfl pass_no (pa_cons (pv 0) (pa_cons pe_int pa_nil))) pe_int (nomark _)) pe_str (pe_joinK (K := K) rfl pe_str (pe_lc (own := [("_law_part", 5)]) (g := gName 5) (tt := tYes) rfl nd (pi_list (pv 2)) (blkOk_by (own := [("_law_part", 5)]) (N := Nw) (sc := defScope (top 48)) (by decide +kernel)) (fun _ _ _ _ _ => pg_name (i := 5) nd rfl (Or.inl rfl)) (fun _ _ _ _ _ => pts_nil) (fun _ _ _ _ _ => (pe_ifExp (pt_cmpR op_ne (pv 5) pe_str (nomark _)) (pv 5) pe_str))))))))), ?_⟩
  · obtain ⟨P, L, ns, turn, rest, rfl, _⟩ := h
    rfl
  obtain ⟨P, L, ns, turn, rest, rfl, pen, ht, q⟩ := h
  have hz := sizeLine_eq
  refine ⟨by show 0 ≤ sizeLine; omega, fun LP nLP => ⟨by show 2 ≤ sizeLine; omega, fun U nU => ⟨U, _, rfl, SqT.of upd_same, rfl, _, _, rfl, _, _, rfl, rfl, ?_⟩⟩⟩
  have pen0 := (pen.upd (o := .lst []) nLP).upd (o := .tup [.str "0123456789abcdefghijklmnopqrstuvwxyz", .ref LP]) nU
  have hLP0 := (same_upd (o := .tup [.str "0123456789abcdefghijklmnopqrstuvwxyz", .ref LP]) nU) _ _ (upd_same (H := H) (a := LP) (o := .lst []))
  refine pickV [.int 1, .int 1, .int 2, .int 3, .int 9] rfl pen0 (by omega) (by decide) (by decide) fun y hy H1 o1 => ?_
  obtain ⟨n, rfl, n0, n9⟩ : ∃ n : Int, y = .int n ∧ 0 ≤ n ∧ n ≤ 9 := by
    simp only [List.mem_cons, List.not_mem_nil, or_false] at hy
    rcases hy with h | h | h | h | h <;> exact ⟨_, h, by decide, by decide⟩
  have hLP : LP ≠ P := fun z => by rw [z, pen.pen] at nLP; cases nLP
  refine ⟨n, rfl, by omega, by omega, ?_⟩
  refine for_it walk_range (fun i σ H' => (∃ x3, σ = [some (.ref P), some (.str "0123456789abcdefghijklmnopqrstuvwxyz"), some (.ref LP), x3, none, none]) ∧ PenOut H P L turn (1 + 13 * i) H' ∧ ∃ ys, H' LP = some (.lst ys) ∧ ys.length = i ∧ ∀ y ∈ ys, Txk 12 y) ⟨⟨_, rfl⟩, ((o1.upd nU).upd nLP).mono (by omega), [], o1.1 _ _ hLP hLP0, rfl, fun _ h => by cases h⟩ (fun _ _ _ _ _ => trivial) (fun i x σ H2 H3 hi p y => ?_) fun σ H2 p => ?_
  · obtain ⟨rfl, rfl⟩ := y
    obtain ⟨⟨x3, rfl⟩, o2, ys, hy2, hl2, ht2⟩ := p
    obtain ⟨t2, r2, pen2, h2⟩ := o2.pen pen
    have lt9 : i < 9 := by omega
    refine ⟨_, rfl, .inl ⟨rfl, _, SqL.of hy2⟩, ⟨_, rfl⟩, ?_⟩
    refine pickV [.int 0, .int 1, .int 2, .int 12] rfl pen2 (by omega) (by decide) (by decide) fun y hy H4 o4 => ?_
    obtain ⟨m, rfl, m0, m12⟩ : ∃ m : Int, y = .int m ∧ 0 ≤ m ∧ m ≤ 12 := by
      simp only [List.mem_cons, List.not_mem_nil, or_false] at hy
      rcases hy with h | h | h | h <;> exact ⟨_, h, by decide, by decide⟩
    obtain ⟨t4, r4, pen4, h4⟩ := o4.pen pen2
    refine ⟨m, rfl, by omega, by omega, fun D nD => ?_⟩
    have nDP : D ≠ LP := fun z => by
      have := o4.1 _ _ hLP hy2
      rw [← z, nD] at this
      cases this
    refine lc_pen walk_range (fun _ y => Txk 1 y) 1 (fun _ _ _ h _ => h) pen4 nD (by omega) (fun _ _ => trivial) (fun k x H5 H6 Kt t5 r5 hk u5 pen5 h5 y hK => ?_) fun H5 zs o5 hD5 hl5 ht5 => ?_
    · obtain ⟨rfl, rfl⟩ := y
      refine ⟨rfl, _, rfl, _, rfl, P, L, ns, t5, r5, _, rfl, pen5, by omega, .inr ⟨_, rfl, by decide, by decide, fun c hc H7 o7 => hK _ _ ⟨[c], rfl, ?_, Nat.le_refl 1⟩ o7⟩⟩
      intro z hz
      rw [List.mem_singleton.mp hz]
      have small : ∀ c ∈ (("0123456789abcdefghijklmnopqrstuvwxyz" : Str)).cps.toList, c < 128 := by decide
      exact small c hc
    · have hy5 : H5 LP = some (.lst ys) := o5.1 _ _ hLP (o4.1 _ _ hLP hy2)
      rw [show ("" : Str) = S [] from S_empty]
      refine join_txk 1 12 (SqL.of hD5) ht5 (by omega) (by unfold asc; decide) (by decide) fun l al ll => ?_
      refine ⟨LP, ys, _, rfl, rfl, hy5, by omega, ⟨_, rfl⟩, ?_, ys ++ [vS l], upd_same, by rw [List.length_append, hl2]; rfl, fun z hz => ?_⟩
      · obtain ⟨u5, t6, r6, h6, h7, h8⟩ := o5
        refine ⟨fun b o nb e => ?_, t6, r6, by rw [upd_ne (Ne.symm hLP)]; exact h6, ?_, h8⟩
        · have nb2 : b ≠ LP := fun z => by rw [z, nLP] at e; cases e
          rw [upd_ne nb2]
          exact u5 _ _ nb (o4.1 _ _ nb (o2.1 _ _ nb e))
        · have : m.toNat ≤ 12 := by omega
          omega
      · rcases List.mem_append.mp hz with h | h
        · exact ht2 z h
        · rw [List.mem_singleton.mp h]
          exact ⟨l, rfl, al, ll⟩
  · obtain ⟨⟨x3, rfl⟩, o2, ys, hy2, hl2, ht2⟩ := p
    obtain ⟨t2, r2, pen2, h2⟩ := o2.pen pen
    have n9' : n.toNat ≤ 9 := by omega
    refine ⟨_, rfl, P, L, ns, t2, r2, 5, rfl, pen2, by omega, ⟨by decide, by decide⟩, fun d r3 t3 H3 d0 d1 r30 h3 u3 p3 => ⟨rfl, _, rfl, ?_⟩⟩
    have pen3 : Pen K H3 P L ns t3 r3 := ⟨p3, u3 _ _ pen.ne pen2.ls, pen.sz, r30⟩
    have fin : ∀ l H', asc l → l.length ≤ 120 → Same H3 H' → Q (vS l) H' := fun l H' al ll u => q l H' al ll ⟨o2.1.trans (u3.trans (UpD.of u)), t3, r3, u _ _ p3, by omega, r30⟩
    have hy3 := u3 _ _ hLP hy2
    refine ite2 (fun c => ?_) (fun c => ?_)
    · rw [show ("?" : Str) = S [63] by decide +kernel]
      exact fin _ _ (by unfold asc; decide) (by decide) (Same.refl _)
    · obtain ⟨ls, rfl, hls⟩ := txk_all ht2
      rw [List.length_map] at hl2
      refine ⟨⟨_, rfl⟩, _, rfl, LP, rfl, ⟨_, SqL.of hy3⟩, fun D nD => ?_⟩
      refine lc_map walk_list (ls.map fun l => vS (if l = [] then [95] else l)) nD (by rw [List.length_map, List.length_map]) (by rw [List.length_map]; omega) (fun H4 s4 => SqL.of (s4 _ _ hy3)) (fun k x H4 H5 Kt hk s4 y hK => ?_) fun H4 s4 hD => ?_
      · obtain ⟨rfl, hx⟩ := y
        rw [List.getElem?_map] at hx
        cases e : ls[k]? with
        | none => rw [e] at hx; cases hx
        | some l =>
          rw [e] at hx
          obtain rfl : vS l = x := Option.some.inj hx
          have fin2 := fun y (e2 : y = vS (if l = [] then [95] else l)) => hK y H5 (by rw [List.getElem?_map, e, e2]; rfl) (Same.refl _)
          refine ⟨rfl, _, rfl, rfl, _, rfl, ?_⟩
          rw [show ("" : Str) = S [] from S_empty]
          refine ite2 (fun c2 => ?_) (fun c2 => ?_)
          · have c3 : ¬ l = [] := fun z => by rw [z] at c2; simp [vS] at c2
            refine ⟨_, rfl, fin2 _ ?_⟩
            rw [if_neg c3]
          · have c3 : l = [] := by
              have : decide (vS l = V.str (S [])) = true := by simpa using c2
              rw [show decide (vS l = V.str (S [])) = decide (l = []) from dec_S] at this
              exact of_decide_eq_true this
            refine fin2 _ ?_
            rw [if_pos c3]
            decide +kernel
      · rw [show ("|" : Str) = S [124] by decide +kernel]
        refine join_txk 12 9 (SqL.of hD) (fun y hy => ?_) (by rw [List.length_map]; omega) (by unfold asc; decide) (by decide) fun l al ll => fin l _ al (Nat.le_trans ll (by decide)) s4
        obtain ⟨l, hl, rfl⟩ := List.mem_map.mp hy
        by_cases e : l = []
        · rw [if_pos e]
          exact ⟨_, rfl, by unfold asc; decide, by decide⟩
        · rw [if_neg e]
          exact ⟨_, rfl, (hls l hl).1, (hls l hl).2⟩
end
end Q7
set_option maxHeartbeats 4000000
namespace Q7
open PySem PySem.Spec PyProof.Rows L2 SX
/-! ### texts put together -/
theorem txk_c (z : Str) (n : Nat) (h : (z.cps.toList.all (fun c => decide (c < 128)) && decide (z.length ≤ n)) = true) : Txk n (.str z) := by
  rw [Bool.and_eq_true] at h
  refine ⟨z.cps.toList, rfl, fun c hc => of_decide_eq_true (List.all_eq_true.mp h.1 c hc), ?_⟩
  have := of_decide_eq_true h.2
  simpa [Str.length] using this
theorem Txk.mono {n m : Nat} {y : V} (h : Txk n y) (le : n ≤ m) : Txk m y := by
  obtain ⟨l, e, a, b⟩ := h
  exact ⟨l, e, a, Nat.le_trans b le⟩
theorem addT {x y : V} {n m : Nat} {H : Hp} {Q : VK} (hx : Txk n x) (hy : Txk m y) (h : n + m ≤ 100000) (q : ∀ z, Txk (n + m) z → Q z H) : ∃ i j, x = .str i ∧ y = .str j ∧ i.length + j.length ≤ sizeLine ∧ Q (.str (i ++ j)) H := by
  obtain ⟨a, rfl, a1, a2⟩ := hx
  obtain ⟨b, rfl, b1, b2⟩ := hy
  have hz := sizeLine_eq
  refine ⟨S a, S b, rfl, rfl, by rw [S_len, S_len]; omega, ?_⟩
  rw [S_app]
  exact q _ ⟨a ++ b, rfl, asc_app a1 b1, by rw [List.length_append]; omega⟩
theorem addE {x y : V} {n m : Nat} (hx : Txk n x) (hy : Txk m y) (h : n + m ≤ 100000) : ∃ i j, x = .str i ∧ y = .str j ∧ i.length + j.length ≤ sizeLine ∧ Txk (n + m) (.str (i ++ j)) := by
  obtain ⟨a, rfl, a1, a2⟩ := hx
  obtain ⟨b, rfl, b1, b2⟩ := hy
  have hz := sizeLine_eq
  refine ⟨S a, S b, rfl, rfl, by rw [S_len, S_len]; omega, ?_⟩
  rw [S_app]
  exact ⟨a ++ b, rfl, asc_app a1 b1, by rw [List.length_append]; omega⟩
theorem callTxt {K : PySem.W.Frag} {σ : L2.St} {H : Hp} {Q : VK} {P L : Addr} {ns : List Int} {turn c n : Nat} {rest : Int} (h0 : σ[0]? = some (some (.ref P))) (pen : Pen K H P L ns turn rest) (ht : turn + c ≤ 2 ^ 20)
    (q : ∀ y H', Txk n y → PenOut H P L turn c H' → Q y H') : tCallS (spTxt K c n) noE (tCons (tVar 0) tNil) σ H Q :=
  ⟨_, h0, P, L, ns, turn, rest, rfl, pen, ht, fun l H' a b o => q _ H' ⟨l, rfl, a, b⟩ o⟩
/-! ### _law_row -/
section
variable {P : Program} {w : World} {K : PySem.W.Frag} {mg : Str → Option Value} {base : Heap} {f : Addr} {fd : FuncData}
theorem ok_row (F : FnP K "_law_row" "_law_row" (top 51) [] f fd) (b : Binds K fd ["_law_pen_here"] []) (B : Blt mg) (cD : Nam CX0 P w K mg base 1 "_law_draw" (spDraw K)) (cP : Nam CX0 P w K mg base 2 "_law_pick" (spPick K))
    (cR : Nam CX0 P w K mg base 3 "_law_rule" (spTxt K 12 300)) (cW : Nam CX0 P w K mg base 3 "_law_word" (spTxt K 119 120)) (cN : Nam CX0 P w K mg base 3 "_law_number" (spTxt K 3 62)) : FnR P w K mg base CX0 4 f (spTxt K 600 800) := by
  have sc : FnScope ["_law_pen_here", "_law_bare", "_law_way", "_law_k"] ["_law_pen_here"] (defScope (top 51)) := sc_by (by decide +kernel)
  have nd := sc.nd
  refine fnp0 F b sc (fun vs H Q E h => ?_) fun cdv A outer s H vs Q E hr h => ⟨_,
    (pss_cons (ps_set (i := 1) nd rfl (Or.inl rfl) (pe_lst (pa_cons pe_str (pa_cons pe_str (pa_cons pe_str (pa_cons pe_str (pa_cons pe_str (pa_cons pe_str (pa_cons pe_str (pa_cons pe_str (pa_cons pe_str (pa_cons pe_str pa_nil))))))))))))
    (pss_cons (ps_set (i := 2) nd rfl (Or.inl rfl) (pe_nam cD hr (by decide) rfl pass_no (pa_cons (pv 0) (pa_cons pe_int pa_nil))))
    (pss_cons (ps_if (pt_cmpR op_lt (pv 2) pe_int (nomark _)) (pss_one (ps_ret (pe_op op_add_str (pe_nam cP hr (by decide) rfl pass_no (pa_cons (pv 0) (pa_cons (pe_lst (pa_cons pe_str (pa_cons pe_str pa_nil))) pa_nil))) (pe_nam cR hr (by decide) rfl pass_no (pa_cons (pv 0) pa_nil))))) pss_nil)
    (pss_cons (ps_if (pt_cmpR op_lt (pv 2) pe_int (nomark _)) (pss_one (ps_ret (pe_join pe_str (pe_op op_cat (pe_lst (pa_cons pe_str pa_nil)) (pe_lc (own := [("_law_k", 3)]) (g := gName 3) (tt := tYes) rfl nd (pi_range1 rfl (B.g "range") (pa_cons (pe_nam cP hr (by decide) rfl pass_no (pa_cons (pv 0) (pa_cons (pe_lst (pa_cons pe_int (pa_cons pe_int (pa_cons pe_int (pa_cons pe_int (pa_cons pe_int pa_nil)))))) pa_nil))) pa_nil)) (blkOk_by (own := [("_law_k", 3)]) (N := ["_law_pen_here", "_law_bare", "_law_way", "_law_k"]) (sc := defScope (top 51)) (by decide +kernel)) (fun _ _ _ _ _ => pg_name (i := 3) nd rfl (Or.inl rfl)) (fun _ _ _ _ _ => pts_nil) (fun _ _ _ _ _ => (pe_nam cW hr (by decide) rfl pass_no (pa_cons (pv 0) pa_nil)))))))) pss_nil)
    (pss_cons (ps_if (pt_cmpR op_eq (pv 2) pe_int (nomark _)) (pss_one (ps_ret (pe_op op_add_str pe_str (pe_nam cN hr (by decide) rfl pass_no (pa_cons (pv 0) pa_nil))))) pss_nil)
    (pss_cons (ps_if (pt_cmpR op_eq (pv 2) pe_int (nomark _)) (pss_one (ps_ret (pe_op op_add_str (pe_op op_add_str (pe_op op_add_str pe_str (pe_nam cN hr (by decide) rfl pass_no (pa_cons (pv 0) pa_nil))) pe_str) (pe_nam cN hr (by decide) rfl pass_no (pa_cons (pv 0) pa_nil))))) pss_nil)
    (pss_one (ps_ret (pe_ifExp (pt_cmpR op_eq (pv 2) pe_int (nomark _)) (pe_op op_add_str (pe_op op_add_str (pe_op op_add_str pe_str (pe_nam cW hr (by decide) rfl pass_no (pa_cons (pv 0) pa_nil))) pe_str) (pe_nam cN hr (by decide) rfl pass_no (pa_cons (pv 0) pa_nil))) (pe_nam cP hr (by decide) rfl pass_no (pa_cons (pv 0) (pa_cons (pv 1) pa_nil)))))))))))), ?_⟩
  · obtain ⟨P, L, ns, turn, rest, rfl, _⟩ := h
    rfl
  obtain ⟨P, L, ns, turn, rest, rfl, pen, ht, q⟩ := h
  have hz := sizeLine_eq
  refine ⟨by show 10 ≤ sizeLine; omega, fun BL nBL => ?_⟩
  have pen0 := pen.upd (o := .lst [.str "open", .str "undo", .str "redo", .str "begin", .str "keep", .str "drop", .str "told", .str "span", .str "need", .str "forced"]) nBL
  have hBL := upd_same (H := H) (a := BL) (o := .lst [.str "open", .str "undo", .str "redo", .str "begin", .str "keep", .str "drop", .str "told", .str "span", .str "need", .str "forced"])
  have s0 := same_upd (o := .lst [.str "open", .str "undo", .str "redo", .str "begin", .str "keep", .str "drop", .str "told", .str "span", .str "need", .str "forced"]) nBL
  generalize upd H BL (.lst [.str "open", .str "undo", .str "redo", .str "begin", .str "keep", .str "drop", .str "told", .str "span", .str "need", .str "forced"]) = H0 at pen0 hBL s0 ⊢
  refine ⟨_, rfl, P, L, ns, turn, rest, 8, rfl, pen0, by omega, ⟨by decide, by decide⟩, fun d r1 t1 H1 d0 d8 r10 h1 u1 p1 => ?_⟩
  have o1 : PenOut H P L turn 1 H1 := ⟨(UpD.of s0).trans u1, t1, r1, p1, h1, r10⟩
  have pen1 : Pen K H1 P L ns t1 r1 := ⟨p1, u1 _ _ pen.ne pen0.ls, pen.sz, r10⟩
  have hBP : BL ≠ P := fun z => by rw [z, pen.pen] at nBL; cases nBL
  have fin : ∀ y H' c n, Txk n y → n ≤ 800 → PenOut H P L turn c H' → c ≤ 600 → Q y H' := fun y H' c n ty hn o hc => by
    obtain ⟨l, rfl, a, b⟩ := ty
    exact q l H' a (Nat.le_trans b hn) (o.mono hc)
  refine ⟨_, rfl, _, _, rfl, rfl, _, rfl, ?_⟩
  refine ite2 (fun c => ?_) (fun c => ?_)
  · refine pickV [.str "jumble ", .str "change "] rfl pen1 (by omega) (by decide) (by decide) fun y hy H2 o2 => ?_
    have ty : Txk 7 y := by
      simp only [List.mem_cons, List.not_mem_nil, or_false] at hy
      rcases hy with h | h <;> rw [h] <;> exact txk_c _ _ (by decide)
    obtain ⟨t2, r2, pen2, h2⟩ := o2.pen pen1
    refine callTxt rfl pen2 (by omega) fun z H3 tz o3 => addT ty tz (by decide) fun u tu => ?_
    exact fin _ _ _ _ tu (by decide) (PenOut.trans o1.1 h1 (PenOut.trans o2.1 h2 o3)) (by decide)
  refine ⟨_, rfl, _, _, rfl, rfl, _, rfl, ?_⟩
  refine ite2 (fun c => ?_) (fun c => ?_)
  · refine ⟨⟨_, rfl⟩, by show 1 ≤ sizeLine; omega, fun TL nTL => ?_⟩
    have pen2 := pen1.upd (o := .lst [.str "take"]) nTL
    have hTL := upd_same (H := H1) (a := TL) (o := .lst [.str "take"])
    have hTP : TL ≠ P := fun z => by rw [z, p1] at nTL; cases nTL
    refine pickV [.int 1, .int 1, .int 2, .int 3, .int 5] rfl pen2 (by omega) (by decide) (by decide) fun y hy H3 o3 => ?_
    obtain ⟨m, rfl, m0, m5⟩ : ∃ m : Int, y = .int m ∧ 0 ≤ m ∧ m ≤ 5 := by
      simp only [List.mem_cons, List.not_mem_nil, or_false] at hy
      rcases hy with h | h | h | h | h <;> exact ⟨_, h, by decide, by decide⟩
    have hTL3 := o3.1 _ _ hTP hTL
    have o3' := o3.upd nTL
    obtain ⟨t3, r3, pen3, h3⟩ := o3'.pen pen1
    refine ⟨m, rfl, by omega, by omega, fun D nD => ?_⟩
    refine lc_pen walk_range (fun _ y => Txk 120 y) 119 (fun _ _ _ h _ => h) pen3 nD (by omega) (fun _ _ => trivial) (fun k x H5 H6 Kt t5 r5 hk u5 pen5 h5 y hK => ?_) fun H5 zs o5 hD5 hl5 ht5 => ?_
    · obtain ⟨rfl, rfl⟩ := y
      have : t5 + 119 ≤ 2 ^ 20 := by
        have : 119 * k ≤ 119 * 5 := Nat.mul_le_mul_left _ (by omega)
        omega
      exact ⟨rfl, callTxt rfl pen5 this fun y H' ty o => hK y H' ty o⟩
    · have hTL5 := o5.1 _ _ hTP hTL3
      refine ⟨TL, D, _, _, rfl, rfl, hTL5, hD5, by show 1 + zs.length ≤ sizeLine; omega, fun R nR => ?_⟩
      rw [show (" " : Str) = S [32] by decide +kernel]
      refine join_txk 120 6 (SqL.of upd_same) (fun y hy => ?_) (by rw [List.length_append, hl5]; show 1 + m.toNat ≤ 6; omega) (by unfold asc; decide) (by decide) fun l al ll => ?_
      · rcases List.mem_append.mp hy with h | h
        · rw [List.mem_singleton.mp h]
          exact txk_c _ _ (by decide)
        · exact ht5 y h
      · have o6 : PenOut H P L turn (1 + (1 + 119 * m.toNat)) H5 := PenOut.trans o1.1 h1 (PenOut.trans o3'.1 h3 o5)
        have mm : 119 * m.toNat ≤ 119 * 5 := Nat.mul_le_mul_left _ (by omega)
        refine fin _ _ (1 + (1 + 119 * m.toNat)) _ ⟨l, rfl, al, ll⟩ (by decide) ?_ (by omega)
        obtain ⟨u6, t6, r6, p6, h6, h7⟩ := o6
        exact ⟨u6.trans (UpD.of (same_upd nR)), t6, r6, same_upd nR _ _ p6, h6, h7⟩
  refine ⟨_, rfl, rfl, _, rfl, ?_⟩
  refine ite2 (fun c => ?_) (fun c => ?_)
  · refine callTxt rfl pen1 (by omega) fun z H3 tz o3 => addT (txk_c _ 6 (by decide)) tz (by decide) fun u tu => ?_
    exact fin _ _ _ _ tu (by decide) (PenOut.trans o1.1 h1 o3) (by decide)
  refine ⟨_, rfl, rfl, _, rfl, ?_⟩
  refine ite2 (fun c => ?_) (fun c => ?_)
  · refine callTxt rfl pen1 (by omega) fun z H3 tz o3 => ?_
    obtain ⟨i1, j1, a1, a2, a3, tu⟩ := addE (txk_c "alike " 6 (by decide)) tz (by decide)
    refine ⟨i1, j1, a1, a2, a3, ?_⟩
    obtain ⟨i2, j2, b1, b2, b3, tu2⟩ := addE tu (txk_c " " 1 (by decide)) (by decide)
    refine ⟨i2, j2, b1, b2, b3, ?_⟩
    obtain ⟨t3, r3, pen3, h3⟩ := o3.pen pen1
    refine callTxt rfl pen3 (by omega) fun z2 H4 tz2 o4 => addT tu2 tz2 (by decide) fun u3 tu3 => ?_
    exact fin _ _ _ _ tu3 (by decide) (PenOut.trans o1.1 h1 (PenOut.trans o3.1 h3 o4)) (by decide)
  refine ⟨_, rfl, rfl, _, rfl, ?_⟩
  refine ite2 (fun c => ?_) (fun c => ?_)
  · refine callTxt rfl pen1 (by omega) fun z H3 tz o3 => ?_
    obtain ⟨i1, j1, a1, a2, a3, tu⟩ := addE (txk_c "next " 5 (by decide)) tz (by decide)
    refine ⟨i1, j1, a1, a2, a3, ?_⟩
    obtain ⟨i2, j2, b1, b2, b3, tu2⟩ := addE tu (txk_c " " 1 (by decide)) (by decide)
    refine ⟨i2, j2, b1, b2, b3, ?_⟩
    obtain ⟨t3, r3, pen3, h3⟩ := o3.pen pen1
    refine callTxt rfl pen3 (by omega) fun z2 H4 tz2 o4 => addT tu2 tz2 (by decide) fun u3 tu3 => ?_
    exact fin _ _ _ _ tu3 (by decide) (PenOut.trans o1.1 h1 (PenOut.trans o3.1 h3 o4)) (by decide)
  · have hB1 := u1 _ _ hBP hBL
    refine ⟨_, rfl, _, rfl, P, L, ns, t1, r1, .ref BL, rfl, pen1, by omega, .inl ⟨BL, _, rfl, hB1, hBP, by decide, by decide, fun y hy H3 o3 => ?_⟩⟩
    have ty : Txk 6 y := by
      simp only [List.mem_cons, List.not_mem_nil, or_false] at hy
      rcases hy with h | h | h | h | h | h | h | h | h | h <;> rw [h] <;> exact txk_c _ _ (by decide)
    exact fin _ _ _ _ ty (by decide) (PenOut.trans o1.1 h1 o3) (by decide)
end
end Q7
set_option maxHeartbeats 4000000
namespace Q7
open PySem PySem.Spec PyProof.Rows L2 SX
/-! ### a text repeated -/
theorem op_mulS {X : Cx} : OpR X (binaryOp .Mult) (fun x y H Q => ∃ (z : Str) (k : Int), x = .str z ∧ y = .int k ∧ MulOk z k ∧ Q (.str (Txt.mul z k)) H) := by
  intro pins s σ H x y v u Q I rx ry h
  obtain ⟨z, k, rfl, rfl, ok, q⟩ := h
  obtain ⟨t, rfl⟩ := rx
  obtain ⟨t', rfl⟩ := ry
  exact PySem.SB.mul ok fun t' tk => ⟨.str (Txt.mul z k), H, I.kept (t' := tk) fun _ _ z => z, ⟨_, rfl⟩, q⟩
theorem mk9 : MulOk "9" 61 := by unfold MulOk; decide +kernel
theorem mka : MulOk "a" 13 := by unfold MulOk; decide +kernel
theorem mk_ : MulOk "_" 2 := by unfold MulOk; decide +kernel
def odds : List V := [.str "", .str "0", .str "20", .str "21", .str "01", .str "-0", .str "?", .str "_", .str "a|b", .str "a||b", .str "|", .str "A", .str "1.0", .str "+1", .str "early", .str "late", .str "lost", .str "again", .str "apart"]
def more : List V := [.str "take", .str "Take", .str "open", .str "undone", .str (Txt.mul "9" 61), .str (Txt.mul "a" 13), .str "0\n", .str (Txt.mul "_" 2), .str (Txt.join "|" (List.replicate 10 "1")), .str "next", .str "told"]
theorem odd_txk : ∀ y ∈ odds ++ more, Txk 62 y := by
  intro y hy
  unfold odds more at hy
  simp only [List.cons_append, List.nil_append, List.mem_cons, List.not_mem_nil, or_false] at hy
  rcases hy with h | h | h | h | h | h | h | h | h | h | h | h | h | h | h | h | h | h | h | h | h | h | h | h | h | h | h | h | h | h <;> rw [h] <;> exact txk_c _ _ (by decide +kernel)
/-! ### lists of texts by their size -/
def wsm (ls : List (List Nat)) : Nat := (ls.map List.length).sum + ls.length
def Tl (b : Nat) (ys : List V) : Prop := ∃ ls : List (List Nat), ys = ls.map vS ∧ (∀ m ∈ ls, asc m) ∧ wsm ls ≤ b
theorem wsm_app (a b : List (List Nat)) : wsm (a ++ b) = wsm a + wsm b := by
  unfold wsm
  rw [List.map_append, List.sum_append, List.length_append]
  omega
theorem Tl.len {b : Nat} {ys : List V} (h : Tl b ys) : ys.length ≤ b := by
  obtain ⟨ls, rfl, _, h2⟩ := h
  rw [List.length_map]
  exact Nat.le_trans (Nat.le_add_left _ _) h2
theorem Tl.app {a b : Nat} {xs ys : List V} (h : Tl a xs) (g : Tl b ys) : Tl (a + b) (xs ++ ys) := by
  obtain ⟨ls, rfl, h1, h2⟩ := h
  obtain ⟨ms, rfl, g1, g2⟩ := g
  refine ⟨ls ++ ms, (List.map_append ..).symm, fun m hm => (List.mem_append.mp hm).elim (h1 m) (g1 m), ?_⟩
  rw [wsm_app]
  omega
theorem Tl.rev {a : Nat} {xs : List V} (h : Tl a xs) : Tl a xs.reverse := by
  obtain ⟨ls, rfl, h1, h2⟩ := h
  refine ⟨ls.reverse, (List.map_reverse ..).symm, fun m hm => h1 m (List.mem_reverse.mp hm), ?_⟩
  unfold wsm at *
  rw [List.map_reverse, List.sum_reverse, List.length_reverse]
  exact h2
theorem Tl.cut {a : Nat} {xs : List V} (h : Tl a xs) (lo hi : Option Int) : Tl a (cutV xs lo hi) := by
  obtain ⟨ls, rfl, h1, h2⟩ := h
  unfold cutV
  generalize HT.sIx (ls.map vS).length 0 lo = i
  generalize HT.sIx (ls.map vS).length (ls.map vS).length hi - i = j
  refine ⟨(ls.drop i).take j, by rw [List.map_take, List.map_drop], fun m hm => h1 m (List.mem_of_mem_drop (List.mem_of_mem_take hm)), Nat.le_trans ?_ h2⟩
  have e1 : wsm (ls.take i) + wsm (ls.drop i) = wsm ls := by rw [← wsm_app, List.take_append_drop]
  have e2 : wsm ((ls.drop i).take j) + wsm ((ls.drop i).drop j) = wsm (ls.drop i) := by rw [← wsm_app, List.take_append_drop]
  omega
theorem Tl.one {n : Nat} {y : V} (h : Txk n y) : Tl (n + 1) [y] := by
  obtain ⟨l, rfl, h1, h2⟩ := h
  refine ⟨[l], rfl, fun m hm => by rw [List.mem_singleton.mp hm]; exact h1, ?_⟩
  unfold wsm
  simp only [List.map_cons, List.map_nil, List.sum_cons, List.sum_nil, List.length_cons, List.length_nil]
  omega
theorem Tl.join {K : PySem.W.Frag} {H : Hp} {Q : VK} {D : Addr} {ys : List V} {b : Nat} (h : Tl b ys) (hb : b ≤ 16777216) (hD : H D = some (.lst ys)) (q : ∀ y, Txk b y → Q y H) : rJoinQ K (.str " ") [.ref D] H Q := by
  obtain ⟨ls, rfl, h1, h2⟩ := h
  rw [show (" " : Str) = S [32] by decide +kernel]
  have hj := joinS_len [32] ls
  unfold wsm at h2
  refine ⟨S [32], D, ls.map S, rfl, rfl, .inl (by rw [List.map_map]; exact SqL.of hD), ?_, ?_⟩
  · rw [List.map_map, S_len, List.length_map]
    have e : (ls.map ((fun z : Str => z.length) ∘ S)) = ls.map List.length := List.map_congr_left fun l _ => S_len l
    rw [e]
    show (ls.map List.length).sum + ls.length * 1 ≤ _
    omega
  · rw [join_S]
    refine q _ ⟨_, rfl, fun x hx => ?_, ?_⟩
    · rcases joinS_mem hx with z | ⟨p, hp, z⟩
      · rw [List.mem_singleton.mp z]; decide
      · exact h1 p hp x z
    · have : ls.length * [32].length = ls.length := Nat.mul_one _
      omega
theorem Tl.mono {a b : Nat} {ys : List V} (h : Tl a ys) (le : a ≤ b) : Tl b ys := by
  obtain ⟨ls, e, h1, h2⟩ := h
  exact ⟨ls, e, h1, Nat.le_trans h2 le⟩
/-! ### _law_bent -/
def spBent (K : PySem.W.Frag) : Sp := fun vs H Q _ => ∃ (P L : Addr) (ns : List Int) (turn : Nat) (rest : Int) (l : List Nat), vs = [.ref P, vS l] ∧ Pen K H P L ns turn rest ∧ turn + 3 ≤ 2 ^ 20 ∧ asc l ∧ l.length ≤ 20000 ∧
  ∀ y H', Txk (3 * l.length + 80) y → PenOut H P L turn 3 H' → Q y H'
section
variable {P : Program} {w : World} {K : PySem.W.Frag} {mg : Str → Option Value} {base : Heap} {f : Addr} {fd : FuncData}
theorem ok_bent (F : FnP K "_law_bent" "_law_bent" (top 52) [] f fd) (b : Binds K fd ["_law_pen_here", "_law_line"] []) (B : Blt mg) (cD : Nam CX0 P w K mg base 1 "_law_draw" (spDraw K)) (cP : Nam CX0 P w K mg base 2 "_law_pick" (spPick K)) : FnR P w K mg base CX0 3 f (spBent K) := by
  have sc : FnScope ["_law_pen_here", "_law_line", "_law_words", "_law_way", "_law_at", "_law_some", "_law_word_here"] ["_law_pen_here", "_law_line"] (defScope (top 52)) := sc_by (by decide +kernel)
  have nd := sc.nd
  refine fnp0 F b sc (fun vs H Q E h => ?_) fun cdv A outer s H vs Q E hr h => ⟨_,
    (pss_cons (ps_par (i := 2) (j := 3) rfl nd rfl rfl (by decide) rfl rfl (pa_cons (pe_split (pv 1) pe_str) (pa_cons (pe_nam cD hr (by decide) rfl pass_no (pa_cons (pv 0) (pa_cons pe_int pa_nil))) pa_nil)) rfl)
    (pss_cons (ps_set (i := 4) nd rfl (Or.inl rfl) (pe_nam cD hr (by decide) rfl pass_no (pa_cons (pv 0) (pa_cons (pe_op op_add (pe_callB call_len rfl (B.g "len") boot_len (pa_cons (pv 2) pa_nil)) pe_int) pa_nil))))
    (pss_cons (ps_set (i := 5) nd rfl (Or.inl rfl) (pe_lst (pa_cons pe_str (pa_cons pe_str (pa_cons pe_str (pa_cons pe_str (pa_cons pe_str (pa_cons pe_str (pa_cons pe_str (pa_cons pe_str (pa_cons pe_str (pa_cons pe_str (pa_cons pe_str (pa_cons pe_str (pa_cons pe_str (pa_cons pe_str (pa_cons pe_str (pa_cons pe_str (pa_cons pe_str (pa_cons pe_str (pa_cons pe_str pa_nil)))))))))))))))))))))
    (pss_cons (ps_set (i := 5) nd rfl (Or.inl rfl) (pe_op op_cat (pv 5) (pe_lst (pa_cons pe_str (pa_cons pe_str (pa_cons pe_str (pa_cons pe_str (pa_cons (pe_op op_mulS pe_str pe_int) (pa_cons (pe_op op_mulS pe_str pe_int) (pa_cons pe_str (pa_cons (pe_op op_mulS pe_str pe_int) (pa_cons (pe_join pe_str (pe_op op_rep (pe_lst (pa_cons pe_str pa_nil)) pe_int)) (pa_cons pe_str (pa_cons pe_str pa_nil))))))))))))))
    (pss_cons (ps_set (i := 6) nd rfl (Or.inl rfl) (pe_nam cP hr (by decide) rfl pass_no (pa_cons (pv 0) (pa_cons (pv 5) pa_nil))))
    (pss_cons (ps_if (pt_cmpR op_eq (pv 3) pe_int (nomark _)) (pss_one (ps_ret (pe_join pe_str (pe_op op_cat (pe_slice sl_list (pv 2) po_none (po_some (pv 4))) (pe_slice sl_list (pv 2) (po_some (pe_op op_add (pv 4) pe_int)) po_none))))) pss_nil)
    (pss_cons (ps_if (pt_cmpR op_eq (pv 3) pe_int (nomark _)) (pss_one (ps_ret (pe_join pe_str (pe_op op_cat (pe_op op_cat (pe_slice sl_list (pv 2) po_none (po_some (pv 4))) (pe_lst (pa_cons (pv 6) pa_nil))) (pe_slice sl_list (pv 2) (po_some (pv 4)) po_none))))) pss_nil)
    (pss_cons (ps_if (pt_cmpR op_eq (pv 3) pe_int (nomark _)) (pss_one (ps_ret (pe_join pe_str (pe_op op_cat (pe_op op_cat (pe_slice sl_list (pv 2) po_none (po_some (pv 4))) (pe_lst (pa_cons (pv 6) pa_nil))) (pe_slice sl_list (pv 2) (po_some (pe_op op_add (pv 4) pe_int)) po_none))))) pss_nil)
    (pss_cons (ps_if (pt_cmpR op_eq (pv 3) pe_int (nomark _)) (pss_one (ps_ret (pe_join pe_str (pe_op op_cat (pe_op op_cat (pe_slice sl_list (pv 2) po_none (po_some (pv 4))) (pe_slice sl_list (pv 2) (po_some (pv 4)) (po_some (pe_op op_add (pv 4) pe_int)))) (pe_slice sl_list (pv 2) (po_some (pv 4)) po_none))))) pss_nil)
    (pss_one (ps_ret (pe_ifExp (pt_cmpR op_eq (pv 3) pe_int (nomark _)) (pe_join pe_str (pe_op op_cat (pe_op op_cat (pe_slice sl_list (pv 2) po_none (po_some (pv 4))) (pe_revL (pe_slice sl_list (pv 2) (po_some (pv 4)) (po_some (pe_op op_add (pv 4) pe_int))))) (pe_slice sl_list (pv 2) (po_some (pe_op op_add (pv 4) pe_int)) po_none))) (pv 1))))))))))))), ?_⟩
  · obtain ⟨P, L, ns, turn, rest, l, rfl, _⟩ := h
    rfl
  obtain ⟨P, L, ns, turn, rest, l, rfl, pen, ht, ha, hl, q⟩ := h
  have hz := sizeLine_eq
  refine ⟨_, rfl, ⟨_, rfl⟩, _, _, rfl, rfl, by decide, by rw [S_len]; omega, fun D nD => ?_⟩
  rw [split_sp]
  have tw : Tl (l.length + 1) (((words l).map S).map V.str) := by
    refine ⟨words l, by rw [List.map_map]; rfl, fun m hm => words_ac ha m hm, ?_⟩
    have h := spl1_sum (c := 32) l []
    show ((TL.spl [32] 0 [] l).map List.length).sum + (TL.spl [32] 0 [] l).length ≤ _
    rw [h, List.length_nil]
    omega
  have hD0 := upd_same (H := H) (a := D) (o := .lst (((words l).map S).map V.str))
  have s0 := same_upd (o := .lst (((words l).map S).map V.str)) nD
  have hDP : D ≠ P := fun z => by rw [z, pen.pen] at nD; cases nD
  generalize ((words l).map S).map V.str = ws at tw hD0 s0 ⊢
  generalize upd H D (.lst ws) = H0 at hD0 s0 ⊢
  have pen0 := pen.same s0
  refine ⟨_, rfl, P, L, ns, turn, rest, 6, rfl, pen0, by omega, ⟨by decide, by decide⟩, fun way r1 t1 H1 d0 d6 r10 h1 u1 p1 => ⟨_, _, rfl, ?_⟩⟩
  have pen1 : Pen K H1 P L ns t1 r1 := ⟨p1, u1 _ _ pen.ne pen0.ls, pen.sz, r10⟩
  have hD1 := u1 _ _ hDP hD0
  have wl := tw.len
  refine ⟨_, rfl, _, rfl, _, _, rfl, .inl ⟨_, SqL.of hD1, rfl⟩, _, _, rfl, rfl, P, L, ns, t1, r1, (ws.length : Int) + 1, rfl, pen1, by omega, ⟨by omega, by omega⟩, fun at_ r2 t2 H2 a0 a1 r20 h2 u2 p2 => ?_⟩
  have pen2 : Pen K H2 P L ns t2 r2 := ⟨p2, u2 _ _ pen.ne pen1.ls, pen.sz, r20⟩
  have hD2 := u2 _ _ hDP hD1
  have u12 : UpD P H H2 := (UpD.of s0).trans (u1.trans u2)
  refine ⟨by show 19 ≤ sizeLine; omega, fun E1 nE1 => ?_⟩
  have hE1 := upd_same (H := H2) (a := E1) (o := .lst odds)
  have sE1 := same_upd (o := .lst odds) nE1
  show gName 5 (.ref E1) _ (upd H2 E1 (.lst odds)) _
  generalize upd H2 E1 (.lst odds) = H3 at hE1 sE1 ⊢
  refine ⟨_, rfl, _, _, rfl, rfl, mk9, _, _, rfl, rfl, mka, _, _, rfl, rfl, mk_, ⟨_, rfl⟩, by show 1 ≤ sizeLine; omega, fun E2 nE2 => ⟨E2, 10, _, rfl, rfl, upd_same, by decide, by decide, by show 1 * 10 ≤ sizeLine; omega, fun E3 nE3 => ?_⟩⟩
  have s2 : Same H3 (upd H3 E2 (.lst [.str "1"])) := same_upd nE2
  refine ⟨"|", E3, List.replicate 10 "1", rfl, rfl, .inl (by exact SqL.of upd_same), by decide, by show 11 ≤ sizeLine; omega, fun E4 nE4 => ?_⟩
  have s3 := (s2.trans (same_upd (o := .lst (List.replicate (10 : Int).toNat [V.str "1"]).flatten) nE3)).trans (same_upd (o := .lst more) nE4)
  show rCat (.ref E1) (.ref E4) (upd (upd (upd H3 E2 (.lst [.str "1"])) E3 (.lst (List.replicate (10 : Int).toNat [V.str "1"]).flatten)) E4 (.lst more)) _
  have hE4 : (upd (upd (upd H3 E2 (.lst [.str "1"])) E3 (.lst (List.replicate (10 : Int).toNat [V.str "1"]).flatten)) E4 (.lst more)) E4 = some (.lst more) := upd_same
  generalize (upd (upd (upd H3 E2 (.lst [.str "1"])) E3 (.lst (List.replicate (10 : Int).toNat [V.str "1"]).flatten)) E4 (.lst more)) = H4 at s3 hE4 ⊢
  refine ⟨E1, E4, odds, more, rfl, rfl, s3 _ _ hE1, hE4, by show 19 + 11 ≤ sizeLine; omega, fun E5 nE5 => ?_⟩
  have s5 := sE1.trans (s3.trans (same_upd (o := .lst (odds ++ more)) nE5))
  have hE5 := upd_same (H := H4) (a := E5) (o := .lst (odds ++ more))
  have hEP : E5 ≠ P := fun z => by
    have := s3 _ _ (sE1 _ _ p2)
    rw [← z, nE5] at this
    cases this
  generalize upd H4 E5 (.lst (odds ++ more)) = H5 at hE5 s5 ⊢
  refine ⟨_, rfl, _, rfl, P, L, ns, t2, r2, .ref E5, rfl, pen2.same s5, by omega, .inl ⟨E5, _, rfl, hE5, hEP, by decide, by decide, fun wd hwd H6 o6 => ?_⟩⟩
  have twd := odd_txk wd hwd
  have hD6 := o6.1 _ _ hDP (s5 _ _ hD2)
  have fin : ∀ y H', Txk (3 * l.length + 80) y → Same H6 H' → Q y H' := fun y H' ty s7 => by
    obtain ⟨u6, t6, r6, p6, h6, h7⟩ := o6
    exact q y H' ty ⟨u12.trans ((UpD.of s5).trans (u6.trans (UpD.of s7))), t6, r6, s7 _ _ p6, by omega, h7⟩
  have big : ∀ {n : Nat}, n ≤ 3 * l.length + 80 → n ≤ 16777216 := fun h => by omega
  have jn : ∀ {A : Addr} {ys : List V} {n : Nat} {H' : Hp}, Tl n ys → n ≤ 3 * l.length + 80 → H' A = some (.lst ys) → Same H6 H' → rJoinQ K (.str " ") [.ref A] H' Q := fun t hn hA s' =>
    t.join (big hn) hA fun y ty => fin y _ (ty.mono hn) s'
  have tc := fun lo hi => tw.cut lo hi
  have t1w : Tl 63 [wd] := Tl.one twd
  have sh : ∀ {a b : Nat} {xs ys : List V}, Tl a xs → Tl b ys → a + b ≤ 1000000 → xs.length + ys.length ≤ sizeLine := fun h g hab => by
    have := h.len; have := g.len; omega
  refine ⟨_, rfl, rfl, _, rfl, ?_⟩
  refine ite2 (fun c => ?_) (fun c => ?_)
  · refine ⟨⟨_, rfl⟩, _, rfl, _, rfl, _, rfl, D, _, rfl, SqL.of hD6, fun A1 n1 => ?_⟩
    have g1 := same_upd (o := .lst (cutV ws none (some at_))) n1
    refine ⟨_, rfl, _, rfl, _, _, rfl, rfl, _, rfl, D, _, rfl, SqL.of (g1 _ _ hD6), fun A2 n2 => ?_⟩
    have g2 := same_upd (o := .lst (cutV ws (some (at_ + 1)) none)) n2
    refine ⟨A1, A2, _, _, rfl, rfl, g2 _ _ upd_same, upd_same, sh (tc _ _) (tc _ _) (by omega), fun A3 n3 => ?_⟩
    exact jn ((tc _ _).app (tc _ _)) (by omega) upd_same (g1.trans (g2.trans (same_upd n3)))
  refine ⟨_, rfl, rfl, _, rfl, ?_⟩
  refine ite2 (fun c => ?_) (fun c => ?_)
  · refine ⟨⟨_, rfl⟩, _, rfl, _, rfl, _, rfl, D, _, rfl, SqL.of hD6, fun A1 n1 => ?_⟩
    have g1 := same_upd (o := .lst (cutV ws none (some at_))) n1
    refine ⟨_, rfl, by show 1 ≤ sizeLine; omega, fun A2 n2 => ?_⟩
    have g2 := same_upd (o := .lst [wd]) n2
    refine ⟨A1, A2, _, _, rfl, rfl, g2 _ _ upd_same, upd_same, sh (tc _ _) t1w (by omega), fun A3 n3 => ?_⟩
    have g3 := same_upd (o := .lst (cutV ws none (some at_) ++ [wd])) n3
    refine ⟨_, rfl, _, rfl, _, rfl, D, _, rfl, SqL.of (g3 _ _ (g2 _ _ (g1 _ _ hD6))), fun A4 n4 => ?_⟩
    have g4 := same_upd (o := .lst (cutV ws (some at_) none)) n4
    refine ⟨A3, A4, _, _, rfl, rfl, g4 _ _ upd_same, upd_same, sh ((tc _ _).app t1w) (tc _ _) (by omega), fun A5 n5 => ?_⟩
    exact jn (((tc _ _).app t1w).app (tc _ _)) (by omega) upd_same (g1.trans (g2.trans (g3.trans (g4.trans (same_upd n5)))))
  refine ⟨_, rfl, rfl, _, rfl, ?_⟩
  refine ite2 (fun c => ?_) (fun c => ?_)
  · refine ⟨⟨_, rfl⟩, _, rfl, _, rfl, _, rfl, D, _, rfl, SqL.of hD6, fun A1 n1 => ?_⟩
    have g1 := same_upd (o := .lst (cutV ws none (some at_))) n1
    refine ⟨_, rfl, by show 1 ≤ sizeLine; omega, fun A2 n2 => ?_⟩
    have g2 := same_upd (o := .lst [wd]) n2
    refine ⟨A1, A2, _, _, rfl, rfl, g2 _ _ upd_same, upd_same, sh (tc _ _) t1w (by omega), fun A3 n3 => ?_⟩
    have g3 := same_upd (o := .lst (cutV ws none (some at_) ++ [wd])) n3
    refine ⟨_, rfl, _, rfl, _, _, rfl, rfl, _, rfl, D, _, rfl, SqL.of (g3 _ _ (g2 _ _ (g1 _ _ hD6))), fun A4 n4 => ?_⟩
    have g4 := same_upd (o := .lst (cutV ws (some (at_ + 1)) none)) n4
    refine ⟨A3, A4, _, _, rfl, rfl, g4 _ _ upd_same, upd_same, sh ((tc _ _).app t1w) (tc _ _) (by omega), fun A5 n5 => ?_⟩
    exact jn (((tc _ _).app t1w).app (tc _ _)) (by omega) upd_same (g1.trans (g2.trans (g3.trans (g4.trans (same_upd n5)))))
  refine ⟨_, rfl, rfl, _, rfl, ?_⟩
  refine ite2 (fun c => ?_) (fun c => ?_)
  · refine ⟨⟨_, rfl⟩, _, rfl, _, rfl, _, rfl, D, _, rfl, SqL.of hD6, fun A1 n1 => ?_⟩
    have g1 := same_upd (o := .lst (cutV ws none (some at_))) n1
    refine ⟨_, rfl, _, rfl, _, rfl, _, rfl, _, _, rfl, rfl, _, rfl, D, _, rfl, SqL.of (g1 _ _ hD6), fun A2 n2 => ?_⟩
    have g2 := same_upd (o := .lst (cutV ws (some at_) (some (at_ + 1)))) n2
    refine ⟨A1, A2, _, _, rfl, rfl, g2 _ _ upd_same, upd_same, sh (tc _ _) (tc _ _) (by omega), fun A3 n3 => ?_⟩
    have g3 := same_upd (o := .lst (cutV ws none (some at_) ++ cutV ws (some at_) (some (at_ + 1)))) n3
    refine ⟨_, rfl, _, rfl, _, rfl, D, _, rfl, SqL.of (g3 _ _ (g2 _ _ (g1 _ _ hD6))), fun A4 n4 => ?_⟩
    have g4 := same_upd (o := .lst (cutV ws (some at_) none)) n4
    refine ⟨A3, A4, _, _, rfl, rfl, g4 _ _ upd_same, upd_same, sh ((tc _ _).app (tc _ _)) (tc _ _) (by omega), fun A5 n5 => ?_⟩
    exact jn (((tc _ _).app (tc _ _)).app (tc _ _)) (by omega) upd_same (g1.trans (g2.trans (g3.trans (g4.trans (same_upd n5)))))
  refine ⟨_, rfl, rfl, _, rfl, ?_⟩
  refine ite2 (fun c => ?_) (fun c => ?_)
  · refine ⟨⟨_, rfl⟩, _, rfl, _, rfl, _, rfl, D, _, rfl, SqL.of hD6, fun A1 n1 => ?_⟩
    have g1 := same_upd (o := .lst (cutV ws none (some at_))) n1
    refine ⟨_, rfl, _, rfl, _, rfl, _, rfl, _, _, rfl, rfl, _, rfl, D, _, rfl, SqL.of (g1 _ _ hD6), fun A2 n2 => ?_⟩
    have g2 := same_upd (o := .lst (cutV ws (some at_) (some (at_ + 2)))) n2
    refine ⟨A2, _, rfl, SqL.of upd_same, fun A3 n3 => ?_⟩
    have g3 := same_upd (o := .lst (cutV ws (some at_) (some (at_ + 2))).reverse) n3
    refine ⟨A1, A3, _, _, rfl, rfl, g3 _ _ (g2 _ _ upd_same), upd_same, sh (tc _ _) (tc _ _).rev (by omega), fun A4 n4 => ?_⟩
    have g4 := same_upd (o := .lst (cutV ws none (some at_) ++ (cutV ws (some at_) (some (at_ + 2))).reverse)) n4
    refine ⟨_, rfl, _, rfl, _, _, rfl, rfl, _, rfl, D, _, rfl, SqL.of (g4 _ _ (g3 _ _ (g2 _ _ (g1 _ _ hD6)))), fun A5 n5 => ?_⟩
    have g5 := same_upd (o := .lst (cutV ws (some (at_ + 2)) none)) n5
    refine ⟨A4, A5, _, _, rfl, rfl, g5 _ _ upd_same, upd_same, sh ((tc _ _).app (tc _ _).rev) (tc _ _) (by omega), fun A6 n6 => ?_⟩
    exact jn (((tc _ _).app (tc _ _).rev).app (tc _ _)) (by omega) upd_same (g1.trans (g2.trans (g3.trans (g4.trans (g5.trans (same_upd n6))))))
  · exact ⟨_, rfl, fin _ _ ⟨l, rfl, ha, by omega⟩ (Same.refl _)⟩
end
end Q7
set_option maxHeartbeats 4000000
namespace Q7
open PySem PySem.Spec PyProof.Rows L2 SX
/-! ### _law_item -/
def ItK (y : V) : Prop := Txk 70 y ∨ ∃ i : Int, y = .int i ∧ -(10 ^ 60) ≤ i ∧ i ≤ 10 ^ 60
def spItem (K : PySem.W.Frag) : Sp := fun vs H Q _ => ∃ (P L : Addr) (ns : List Int) (turn : Nat) (rest : Int), vs = [.ref P] ∧ Pen K H P L ns turn rest ∧ turn + 80 ≤ 2 ^ 20 ∧ ∀ y H', ItK y → PenOut H P L turn 80 H' → Q y H'
section
variable {P : Program} {w : World} {K : PySem.W.Frag} {mg : Str → Option Value} {base : Heap} {f : Addr} {fd : FuncData}
theorem ok_item (F : FnP K "_law_item" "_law_item" (top 54) [] f fd) (b : Binds K fd ["_law_pen_here"] []) (B : Blt mg) (cD : Nam CX0 P w K mg base 1 "_law_draw" (spDraw K)) (cP : Nam CX0 P w K mg base 2 "_law_pick" (spPick K)) : FnR P w K mg base CX0 3 f (spItem K) := by
  have sc : FnScope ["_law_pen_here", "_law_way", "_law_many", "_law_k"] ["_law_pen_here"] (defScope (top 54)) := sc_by (by decide +kernel)
  have nd := sc.nd
  refine fnp0 F b sc (fun vs H Q E h => ?_) fun cdv A outer s H vs Q E hr h => ⟨_,
    (pss_cons (ps_par (i := 1) (j := 2) rfl nd rfl rfl (by decide) rfl rfl (pa_cons (pe_nam cD hr (by decide) rfl pass_no (pa_cons (pv 0) (pa_cons pe_int pa_nil))) (pa_cons (pe_nam cD hr (by decide) rfl pass_no (pa_cons (pv 0) (pa_cons pe_int pa_nil))) pa_nil)) rfl)
    (pss_cons (ps_if (pt_cmpR op_eq (pv 1) pe_int (nomark _)) (pss_one (ps_ret (pe_nam cP hr (by decide) rfl pass_no (pa_cons (pv 0) (pa_cons (pe_lst (pa_cons pe_int (pa_cons (pe_un un_neg pe_int) (pa_cons (pe_op op_pow pe_int pe_int) (pa_cons (pe_un un_neg (pe_op op_pow pe_int pe_int)) (pa_cons (pe_nam cD hr (by decide) rfl pass_no (pa_cons (pv 0) (pa_cons (pe_op op_pow pe_int pe_int) pa_nil))) pa_nil)))))) pa_nil))))) pss_nil)
    (pss_one (ps_ret (pe_joinK (K := K) rfl pe_str (pe_lc (own := [("_law_k", 3)]) (g := gName 3) (tt := tYes) rfl nd (pi_range1 rfl (B.g "range") (pa_cons (pe_ifExp (pt_cmpR op_eq (pv 1) pe_int (nomark _)) (pv 2) (pe_op op_mod (pe_callTy call_int1 rfl (B.g "int") boot_int (pa_cons (pv 2) pa_nil)) pe_int)) pa_nil)) (blkOk_by (own := [("_law_k", 3)]) (N := ["_law_pen_here", "_law_way", "_law_many", "_law_k"]) (sc := defScope (top 54)) (by decide +kernel)) (fun _ _ _ _ _ => pg_name (i := 3) nd rfl (Or.inl rfl)) (fun _ _ _ _ _ => pts_nil) (fun _ _ _ _ _ => (pe_nam cP hr (by decide) rfl pass_no (pa_cons (pv 0) (pa_cons pe_str pa_nil)))))))))), ?_⟩
  · obtain ⟨P, L, ns, turn, rest, rfl, _⟩ := h
    rfl
  obtain ⟨P, L, ns, turn, rest, rfl, pen, ht, q⟩ := h
  have hz := sizeLine_eq
  refine ⟨_, rfl, P, L, ns, turn, rest, 4, rfl, pen, by omega, ⟨by decide, by decide⟩, fun way r1 t1 H1 d0 d6 r10 h1 u1 p1 => ?_⟩
  have pen1 : Pen K H1 P L ns t1 r1 := ⟨p1, u1 _ _ pen.ne pen.ls, pen.sz, r10⟩
  refine ⟨_, rfl, P, L, ns, t1, r1, 70, rfl, pen1, by omega, ⟨by decide, by decide⟩, fun many r2 t2 H2 a0 a1 r20 h2 u2 p2 => ⟨_, _, rfl, ?_⟩⟩
  have pen2 : Pen K H2 P L ns t2 r2 := ⟨p2, u2 _ _ pen.ne pen1.ls, pen.sz, r20⟩
  have u12 := u1.trans u2
  refine ⟨_, rfl, rfl, _, rfl, ?_⟩
  have p59 : CPow 10 59 := ⟨by decide, by decide, by decide⟩
  have p30 : CPow 10 30 := ⟨by decide, by decide, by decide⟩
  have p9 : CPow 10 9 := ⟨by decide, by decide, by decide⟩
  refine ite2 (fun c => ?_) (fun c => ?_)
  · refine ⟨_, rfl, _, rfl, _, _, rfl, rfl, p59, _, _, rfl, rfl, p30, _, rfl, _, rfl, _, _, rfl, rfl, p9, P, L, ns, t2, r2, _, rfl, pen2, by omega, ⟨by decide, by decide⟩, fun d r3 t3 H3 b1 b2 b3 b4 u3 p3 => ⟨by show 5 ≤ sizeLine; omega, fun Z nZ => ?_⟩⟩
    have pen3 : Pen K H3 P L ns t3 r3 := ⟨p3, u3 _ _ pen.ne pen2.ls, pen.sz, b3⟩
    have hZP : Z ≠ P := fun z => by rw [z, p3] at nZ; cases nZ
    refine ⟨P, L, ns, t3, r3, .ref Z, rfl, pen3.upd nZ, by omega, .inl ⟨Z, _, rfl, upd_same, hZP, by show 0 < 5; decide, by show 5 < 1073741824; decide, fun y hy H4 o => ?_⟩⟩
    have e9 : (10 : Int) ^ Int.toNat 9 = 1000000000 := by decide
    have e30 : (10 : Int) ^ Int.toNat 30 = 10 ^ 30 := by decide
    have e59 : (10 : Int) ^ Int.toNat 59 = 10 ^ 59 := by decide
    have b2 : d < (10 : Int) ^ Int.toNat 9 := b2
    rw [e9] at b2
    have hy : y ∈ [V.int 0, V.int (-7), V.int (10 ^ Int.toNat 59), V.int (-(10 ^ Int.toNat 30)), V.int d] := hy
    rw [e30, e59] at hy
    refine q y H4 (.inr ?_) ((PenOut.trans (u12.trans u3) (by omega : t3 ≤ turn + 3) (o.upd nZ)).mono (by decide))
    simp only [List.mem_cons, List.not_mem_nil, or_false] at hy
    rcases hy with h | h | h | h | h <;> exact ⟨_, h, by omega, by omega⟩
  · have key : ∀ j : Int, 0 ≤ j → j ≤ 69 → ∀ D, H2 D = none → ∃ W : Nat → Nat → Hp → Prop, (∃ m, W 0 m (upd H2 D (.lst []))) ∧ ∀ i m H, W i m H →
        ((Itr 0 j.toNat).stop i H ∧ rJoinQ K (.str "") [.ref D] H Q) ∨ ((Itr 0 j.toNat).go i H ∧ ∃ Nx : Hp → Prop, (∀ H', Nx H' → ∃ m', m' < m ∧ W (i + 1) m' H') ∧ ∀ x H', (Itr 0 j.toNat).yld i H x H' → gName 3 x (wipe [some (.ref P), some (.int way), some (.int many), none] [3]) H' fun σ2 H2 => wipe σ2 [3] = wipe [some (.ref P), some (.int way), some (.int many), none] [3] ∧ tYes σ2 H2 fun b H3 =>
          if b = true then (tCallS (spPick K) noE (tCons (tVar 0) (tCons (tC (.str "aZ09 ._|:-")) tNil))) σ2 H3 fun y H4 => ∃ acc, H4 D = some (.lst acc) ∧ acc.length < sizeLine ∧ Nx (upd H4 D (.lst (acc ++ [y]))) else Nx H3) := fun j j0 j1 D nD => by
      refine lc_pen walk_range (fun _ y => Txk 1 y) 1 (fun _ _ _ h _ => h) pen2 nD (by omega) (fun _ _ => trivial) (fun k x H5 H6 Kt t5 r5 hk u5 pen5 h5 y hK => ?_) fun H5 zs o5 hD5 hl5 ht5 => ?_
      · obtain ⟨rfl, rfl⟩ := y
        refine ⟨rfl, _, rfl, P, L, ns, t5, r5, _, rfl, pen5, by omega, .inr ⟨_, rfl, by decide, by decide, fun c hc H7 o7 => hK _ _ ⟨[c], rfl, ?_, Nat.le_refl 1⟩ o7⟩⟩
        intro z hz
        rw [List.mem_singleton.mp hz]
        have small : ∀ c ∈ (("aZ09 ._|:-" : Str)).cps.toList, c < 128 := by decide
        exact small c hc
      · rw [show ("" : Str) = S [] from S_empty]
        refine join_txk 1 70 (SqL.of hD5) ht5 (by omega) (by unfold asc; decide) (by decide) fun l al ll => ?_
        refine q _ _ (.inl ⟨l, rfl, al, ll⟩) ((PenOut.trans u12 (by omega : t2 ≤ turn + 2) o5).mono (by omega))
    refine ⟨⟨_, rfl⟩, _, rfl, rfl, _, rfl, ?_⟩
    refine ite2 (fun c => ?_) (fun c => ?_)
    · exact ⟨_, rfl, many, rfl, by omega, by omega, key many a0 (by omega)⟩
    · refine ⟨_, rfl, .inl ⟨_, rfl, _, _, rfl, rfl, by show (0 : Int) < 7; decide, _, rfl, ?_, ?_, key (many % 7) (by omega) (by omega)⟩⟩
      · omega
      · omega
end
end Q7
set_option maxHeartbeats 2000000
namespace Q7
open PySem PySem.Spec PyProof.Rows L2 SX
/-! ### plain: the parts of a jumble are small; the name of a row is one of its words -/
def sm0 (s : JS) : Prop := (0 ≤ s.e ∧ s.e ≤ 20) ∧ (0 ≤ s.l ∧ s.l ≤ 20) ∧ (0 ≤ s.lo ∧ s.lo ≤ 40) ∧ (0 ≤ s.ap ∧ s.ap ≤ 40)
theorem most_le {k : List Nat} {s : JS} (h : sm0 s) : most k s ≤ 40 := by
  unfold most
  split
  · decide
  · have h1 := h.1; have h2 := h.2.1
    unfold mx1 spr
    split <;> split <;> omega
theorem setJ_sm {k : List Nat} {s : JS} {n : Nat} (h : sm0 s) (hn : (n : Int) ≤ 40) : sm0 (setJ k n s) := by
  unfold setJ
  split
  · exact ⟨h.1, h.2.1, ⟨Int.natCast_nonneg n, hn⟩, h.2.2.2⟩
  · exact ⟨h.1, h.2.1, h.2.2.1, ⟨Int.natCast_nonneg n, hn⟩⟩
theorem jl_sm {ws : List (List Nat)} : ∀ {ks : List (List Nat)} {i : Nat} {s js : JS}, sm0 s → jl ws ks i s = .inr js → sm0 js
  | [], i, s, js, h, e => by
    unfold jl at e
    split at e
    · rw [← Sum.inr.inj e]; exact h
    · cases e
  | k :: ks, i, s, js, h, e => by
    unfold jl at e
    split at e
    · split at e
      · exact jl_sm (s := { s with ag := true }) h e
      · split at e
        · rename_i n hn
          have := num_le hn
          exact jl_sm (setJ_sm h (Int.le_trans this (most_le h))) e
        · cases e
    · exact jl_sm h e
theorem jhead_sm {ws : List (List Nat)} {i : Nat} {js : JS} (e : jhead ws i = .inr js) : smallJ js := by
  have z : sm0 js := by
    unfold jhead at e
    split at e
    · split at e
      · rename_i a ha
        split at e
        · split at e
          · rename_i b hb
            have h1 := num_le ha
            have h2 := num_le hb
            exact jl_sm (s := ⟨a, b, 0, false, 0⟩) ⟨⟨Int.natCast_nonneg a, h1⟩, ⟨Int.natCast_nonneg b, h2⟩, ⟨Int.le_refl 0, (by decide : (0 : Int) ≤ 40)⟩, ⟨Int.le_refl 0, (by decide : (0 : Int) ≤ 40)⟩⟩ e
          · cases e
        · cases e
      · cases e
    · cases e
  exact ⟨⟨z.1.1, by have := z.1.2; omega⟩, ⟨z.2.1.1, by have := z.2.1.2; omega⟩, z.2.2.1, z.2.2.2⟩
theorem out_jum {ws : List (List Nat)} {n : List Nat} {js : JS} (h : out ws = .jum n js) : smallJ js := by
  unfold out at h
  split at h
  · split at h
    · split at h
      · cases h
      · rename_i js2 e
        have z := Out.jum.inj h
        rw [← z.2]
        exact jhead_sm e
    · split at h
      · cases h
      · split at h <;> cases h
  · cases h
theorem out_row {t n : List Nat} (h : out (words t) = .row n) : n ∈ words t ∧ (thingsOf n).length ≤ 2 := by
  have e : (words t).headD [] = n := by
    unfold out at h
    split at h
    · split at h
      · split at h <;> cases h
      · split at h
        · cases h
        · split at h
          · cases h
          · exact Out.row.inj h
    · cases h
  refine ⟨?_, ?_⟩
  · have hne : words t ≠ [] := spl1_ne t []
    cases c : words t with
    | nil => exact absurd c hne
    | cons a r =>
      rw [c] at e
      obtain rfl : a = n := e
      exact List.mem_cons_self
  · unfold thingsOf
    split
    · decide
    · split
      · decide
      · split
        · decide
        · split
          · decide
          · decide
theorem jl_le {ws : List (List Nat)} : ∀ {ks : List (List Nat)} {i j : Nat} {s : JS}, jl ws ks i s = .inl j → j ≤ i + 2 * ks.length + 1
  | [], i, j, s, e => by
    unfold jl at e
    split at e
    · cases e
    · rw [← Sum.inl.inj e]; omega
  | k :: ks, i, j, s, e => by
    unfold jl at e
    rw [List.length_cons]
    split at e
    · split at e
      · have := jl_le e; omega
      · split at e
        · have := jl_le e; omega
        · rw [← Sum.inl.inj e]; omega
    · have := jl_le e; omega
theorem jhead_le {ws : List (List Nat)} {i j : Nat} (e : jhead ws i = .inl j) : j ≤ i + 20 := by
  unfold jhead at e
  split at e
  · split at e
    · split at e
      · split at e
        · have h := jl_le e
          have : labs.length = 3 := rfl
          omega
        · rw [← Sum.inl.inj e]; omega
      · rw [← Sum.inl.inj e]; omega
    · rw [← Sum.inl.inj e]; omega
  · rw [← Sum.inl.inj e]; omega
theorem badL_le {ws : List (List Nat)} : ∀ {m i j : Nat}, badL ws i m = some j → j ≤ i + m
  | 0, i, j, e => by unfold badL at e; cases e
  | m + 1, i, j, e => by
    unfold badL at e
    split at e
    · rw [← Option.some.inj e]; omega
    · have := badL_le e; omega
theorem ifs_bnd {c : Prop} [Decidable c] {i n : Nat} : (∀ j, (if c then Sum.inr (i + 1) else Sum.inl i : Sum Nat Nat) = .inl j → j ≤ i + n) ∧ ∀ j, (if c then Sum.inr (i + 1) else Sum.inl i : Sum Nat Nat) = .inr j → j ≤ i + n + 1 := by
  refine ⟨fun j e => ?_, fun j e => ?_⟩ <;> split at e
  · cases e
  · rw [← Sum.inl.inj e]; omega
  · rw [← Sum.inr.inj e]; omega
  · cases e
theorem adv_bnd {ws : List (List Nat)} {k : Kd} {i : Nat} : (∀ j, adv ws k i = .inl j → j ≤ i + ws.length) ∧ ∀ j, adv ws k i = .inr j → j ≤ i + ws.length + 1 := by
  cases k with
  | look => exact ifs_bnd (c := (letOk ws i false).isSome = true)
  | number => exact ifs_bnd (c := (num ws i 0 big).isSome = true)
  | letters =>
    have key : ∀ r, adv ws .letters i = r → (if ws.length ≤ i then Sum.inl i else match badL ws i (ws.length - i) with
      | some j => Sum.inl j
      | none => Sum.inr ws.length : Sum Nat Nat) = r := fun r h => h
    refine ⟨fun j e => ?_, fun j e => ?_⟩
    · have e := key _ e
      split at e
      · rw [← Sum.inl.inj e]; omega
      · split at e
        · rename_i b hb
          have := badL_le hb
          rw [← Sum.inl.inj e]; omega
        · cases e
    · have e := key _ e
      split at e
      · cases e
      · split at e
        · cases e
        · rw [← Sum.inr.inj e]; omega
theorem advs_bnd {ws : List (List Nat)} : ∀ {ks : List Kd} {i : Nat}, (∀ j, advs ws ks i = .inl j → j ≤ i + (ws.length + 1) * ks.length) ∧ ∀ j, advs ws ks i = .inr j → j ≤ i + (ws.length + 1) * ks.length
  | [], i => ⟨fun j e => (by cases e), fun j e => (by
    have e : (Sum.inr i : Sum Nat Nat) = .inr j := e
    rw [← Sum.inr.inj e]; omega)⟩
  | k :: ks, i => by
    rw [List.length_cons, Nat.mul_succ]
    refine ⟨fun j e => ?_, fun j e => ?_⟩
    · rw [advs] at e
      cases z : adv ws k i with
      | inl b =>
        rw [z] at e
        rw [← Sum.inl.inj e]
        have := adv_bnd.1 b z
        omega
      | inr b =>
        rw [z] at e
        have h1 := adv_bnd.2 b z
        have h2 := advs_bnd.1 j e
        omega
    · rw [advs] at e
      cases z : adv ws k i with
      | inl b =>
        rw [z] at e
        cases e
      | inr b =>
        rw [z] at e
        have h1 := adv_bnd.2 b z
        have h2 := advs_bnd.2 j e
        omega
theorem out_bad {ws : List (List Nat)} {i : Nat} (h : out ws = .bad i) : i ≤ 30 + 3 * ws.length := by
  have two : ∀ n, (thingsOf n).length ≤ 2 := fun n => by
    unfold thingsOf
    split
    · decide
    · split
      · decide
      · split
        · decide
        · split <;> decide
  unfold out at h
  split at h
  · split at h
    · split at h
      · rename_i j e
        rw [← Out.bad.inj h]
        have := jhead_le e
        omega
      · cases h
    · have h2 := two (ws.headD [])
      have h3 : (ws.length + 1) * (thingsOf (ws.headD [])).length ≤ (ws.length + 1) * 2 := Nat.mul_le_mul_left _ h2
      split at h
      · rename_i j e
        rw [← Out.bad.inj h]
        have := advs_bnd.1 j e
        omega
      · rename_i j e
        have := advs_bnd.2 j e
        split at h
        · rw [← Out.bad.inj h]
          omega
        · cases h
  · rw [← Out.bad.inj h]; omega
end Q7
set_option maxHeartbeats 4000000
namespace Q7
open PySem PySem.Spec PyProof.Rows L2 SX LamX
/-! ### calls by keywords alone; _law_heard called with a lambda; what stays -/
/-- all but the pen and the tables stay -/
def UpN (P : Addr) (H H' : Hp) : Prop := ∀ b o, b ≠ P → (∀ ps, o ≠ .tbl ps) → H b = some o → H' b = some o
theorem UpN.refl (P : Addr) (H : Hp) : UpN P H H := fun _ _ _ _ e => e
theorem UpN.trans {P : Addr} {H1 H2 H3 : Hp} (a : UpN P H1 H2) (b : UpN P H2 H3) : UpN P H1 H3 := fun x o n m e => b x o n m (a x o n m e)
theorem UpN.ofD {P : Addr} {H H' : Hp} (u : UpD P H H') : UpN P H H' := fun b o n _ e => u b o n e
theorem UpN.ofS {P : Addr} {H H' : Hp} (u : Same H H') : UpN P H H' := fun b o _ _ e => u b o e
theorem UpN.ofE {P : Addr} {H H' : Hp} (u : ExtN H H') : UpN P H H' := fun b o _ m e => u b o e m
theorem UpN.lst {P : Addr} {H H' : Hp} (u : UpN P H H') {b : Addr} {xs : List V} (n : b ≠ P) (e : H b = some (.lst xs)) : H' b = some (.lst xs) := u b _ n (fun _ z => by cases z) e
theorem UpN.tup {P : Addr} {H H' : Hp} (u : UpN P H H') {b : Addr} {xs ys : List V} (hP : H P = some (.lst ys)) (e : H b = some (.tup xs)) : H' b = some (.tup xs) := u b _ (fun z => by rw [z, hP] at e; cases e) (fun _ z => by cases z) e
theorem Pen.extN {K : PySem.W.Frag} {H H' : Hp} {P L : Addr} {ns : List Int} {turn : Nat} {rest : Int} (p : Pen K H P L ns turn rest) (s : ExtN H H') : Pen K H' P L ns turn rest :=
  ⟨s _ _ p.pen (fun _ z => (by cases z)), s _ _ p.ls (fun _ z => (by cases z)), p.sz, p.r0⟩
theorem TabS.upD {H H' : Hp} {P T : Addr} {q : Str} {ys : List V} (t : TabS H T q) (u : UpD P H H') (hP : H P = some (.lst ys)) : TabS H' T q := by
  obtain ⟨ps, h1, h2, h3⟩ := t
  refine ⟨ps, u _ _ (fun z => by rw [z, hP] at h1; cases h1) h1, h2, fun pos cv hc => ?_⟩
  obtain ⟨c, e1, e2⟩ := h3 pos cv hc
  exact ⟨c, e1, u _ _ (fun z => by rw [z, hP] at e2; unfold CodeO at e2; cases e2) e2⟩
theorem Tabs.upD {T : List (Addr × Str)} {H H' : Hp} {P : Addr} {ys : List V} (t : Tabs T H) (u : UpD P H H') (hP : H P = some (.lst ys)) : Tabs T H' := fun p hp => TabS.upD (t p hp) u hP
theorem Tabs.same {T : List (Addr × Str)} {H H' : Hp} (t : Tabs T H) (s : Same H H') : Tabs T H' := Tabs.ext t s
section
variable {X : Cx} {CX : CXT} {k j : Nat} {f : Addr} {fd : FuncData} {ps ks : List Str} {sp : Sp} {E : L2.St → XK} {x : Str} {p pos : Pos} {kws : List Keyword} {tk : TA} {g : List Value → List Value → List Value} {gV : List V → List V → List V}
/-- f(k = v, ..): keywords alone -/
def tKw (n : Nat) (sp : Sp) (gV : List V → List V → List V) (E : L2.St → XK) (tk : TA) : TE := fun σ H Q => tk σ H fun zs H2 => zs.length = n ∧ sp (gV [] zs) H2 Q (E σ)
theorem pe_kw (F : FnOk X.prog X.w X.K X.mg X.base CX k f fd ps sp) (hr : Room j X.A) (hk : k ≤ j) (hg : Gl X x) (hm : X.mg x = some (.ref f)) (kp : PySem.W.keepIn X.K (.ref f) = true) (hb : KBn X.K fd ps 0 ks g gV) (hx : ∀ σ, PassesAt CX X σ (E σ)) (hkw : PK X kws tk)
    (hall : (backToKw pos (keywordEach kws X.env)).all (·.1.isSome) = true := by rfl) (hks : (backToKw pos (keywordEach kws X.env)).filterMap (·.1) = ks := by rfl) (hdb : (x == ("__debug__" : Str)) = false := by decide)
    (hpl : ((backTo pos (starEach [] X.env)).any (·.1) || (backToKw pos (keywordEach kws X.env)).any (·.1.isNone)) = false := by rfl) : PE X (.Call (.Name x p) [] kws pos) (tKw ks.length sp gV E tk) := by
  refine ⟨fun pins s σ H Q I h => wpAny_Call_Name_kw (ld_glob I hg hm ?_ hdb)⟩
  refine PySem.W.callWith_KW0 (h₀ := X.base) I.ok.mod.kin kp hall (thn (hkw.run pos pins s σ H _ I h) fun ws s2 ⟨zs, H2, I2, rz, hl, q2⟩ => ⟨I2.kIn, ?_⟩) hpl
  rw [hks]
  have hwl : ws.length = ks.length := by rw [← rz.length]; exact hl
  refine wpAny_call (codeAny_mono (F.run X.A X.stack s2 H2 ⟨[], ks.zip ws⟩ (g [] ws) (gV [] zs) Q (E σ) (hr.mono hk) I2.env0 (hb.to s2 [] ws I2.kIn rfl hwl) (hb.rel .nil rz) q2) fun r s' hq => ?_)
  match r, hq with
  | .error e, hq => exact hx σ pins H2 s2 e s' I2 hq
  | .ok (.ret u), hq => exact I2.after hq
  | .ok .next, hq => exact hq.elim
  | .ok .brk, hq => exact hq.elim
  | .ok .cont, hq => exact hq.elim
end
section
variable {X : Cx} {CT CA CV CP fT fA fV fP : Addr}
/-- _law_heard(lambda: body) -/
theorem pe_heard {T : List (Addr × Str)} {g c P : Addr} {k : Nat} {fd : FuncData} {params : Arguments} {body : Expr} {scope : Scope} {t : XK → TE} {p lpos pos : Pos} (B : Blt X.mg) (Hr : Hear X.K X.prog X.mg CT CA CV CP fT fA fV fP)
    (F : FnP X.K "_law_heard" "_law_heard" (top 42) [] g fd) (b : L2.Binds X.K fd ["_law_ask"] []) (hm : X.mg "_law_heard" = some (.ref g)) (hg : Gl X "_law_heard") (TB : TabB X.base X.mg c P) (hcode : X.env.code = .ref c)
    (hmT : (P, X.env.qual ++ "<lambda>") ∈ T) (hu : ∀ p ∈ T, p.1 = P → p.2 = X.env.qual ++ "<lambda>") (hr : Room (k + 2) X.A) (L : LamS X.env.scope scope) (hdef : defaultsOf params X.env = ([], []))
    (hbind : ∀ (q : Str) (cl : List (Str × Addr)) (pm cv ctv : Value), bindArgs (PySem.W.kla_fn "<lambda>" q params body scope cl pm cv ctv) ⟨[], []⟩ = pure [])
    (hbody : ∀ (A : Around) (outer : List Env) (s : Shared) (H : Hp) (E : XK) (f c' : Addr), Room k (A.deeper (lamEnv X scope s.heap.objs.size f c')) → PE (lamCx X A outer s H E scope f c') body (t E)) :
    PE X (.Call (.Name "_law_heard" p) [.Lambda params body scope lpos] [] pos) (tLam T (THeard CA CV) t) := by
  obtain ⟨oc, od, dV, kV, doc, pm, an, cdv, ct, osl, rfl, lk, hcd, _, _⟩ := F.ex
  have S : FnScope Nh ["_law_ask"] (defScope (top 42)) := sc_by (by decide +kernel)
  exact pe_lamcall hg hm F.kp lk hcd b S rfl (.inl rfl) (heard_gives B Hr) TB hcode hmT hu hr L hdef hbind hbody
end
end Q7
set_option maxHeartbeats 8000000
namespace Q7
open PySem PySem.Spec PyProof.Rows L2 SX LamX
/-! ### _law_rows_right -/
theorem nat_log {i : Nat} (h : i ≤ 1000000) : ((i : Nat) : Int).natAbs.log2 < 1920 := log_sm (Nat.lt_of_le_of_lt (show ((i : Nat) : Int).natAbs ≤ 10 ^ 60 by
  have : (1000000 : Nat) ≤ 10 ^ 60 := by decide
  omega) big_small)
theorem words_len (t : List Nat) : (words t).length ≤ t.length + 1 := spl1_len t []
theorem heard_parsed {K : PySem.W.Frag} {T : List (Addr × Str)} {CA CV CJ : Addr} {σ : L2.St} {H : Hp} {Q : VK} {t : List Nat} (h2 : σ[2]? = some (some (vS t))) (ht : t.length ≤ 100000) (ha : asc t) (tb : Tabs T H)
    (qb : ∀ i R H', out (words t) = .bad i → ExtN H H' → Tabs T H' → H' R = some (.tup [.str "ask", .str "0", .str (toString ((i : Nat) : Int))]) → Q (.ref R) H')
    (qj : ∀ n js R T1 y dy H', out (words t) = .jum n js → ExtN H H' → Tabs T H' → H' R = some (.lst [.ref T1]) → H' T1 = some (.tup [vS n, .ref y]) → H' y = some (.ins CJ dy (jFs js.e js.l js.lo js.ag js.ap)) → Q (.ref R) H')
    (qr : ∀ n R T1 xs H', out (words t) = .row n → ExtN H H' → Tabs T H' → H' R = some (.lst [.ref T1]) → H' T1 = some (.tup (vS n :: xs)) → ThVs H' (words t) (thingsOf n) 1 (words t).length xs → Q (.ref R) H') :
    tLam T (THeard CA CV) (fun E => tCallS (spParsed K CA CJ) (fun _ => E) (tCons (tVar 2) tNil)) σ H Q := by
  refine ⟨tb, fun H1 e1 t1 H0 Ech Post s0 hP hE => ⟨_, h2, vS t, rfl, .inl ⟨t, rfl, ⟨by have := sizeLine_eq; omega, ha⟩, fun i ho d p H' s' hx => ?_, fun n js ho T1 y dy H' s' hT hy => ?_, fun n ho T1 xs H' s' hT hxs => ?_⟩⟩⟩
  · have hi := out_bad ho
    have hw := words_len t
    refine hE _ _ _ (.inl ⟨d, i, 0, .ref p, rfl, rfl, hx, nat_log (by omega), by decide, fun R H'' s n hR => ?_⟩)
    exact qb i R H'' ho (e1.trans (ExtN.of (s0.trans (s'.trans s)))) (Tabs.same t1 (s0.trans (s'.trans s))) hR
  · refine hP _ _ fun R H'' s n hR => ?_
    exact qj _ js R T1 y dy H'' ho (e1.trans (ExtN.of (s0.trans (s'.trans s)))) (Tabs.same t1 (s0.trans (s'.trans s))) hR (s _ _ hT) (s _ _ hy)
  · refine hP _ _ fun R H'' s n2 hR => ?_
    exact qr n R T1 xs H'' ho (e1.trans (ExtN.of (s0.trans (s'.trans s)))) (Tabs.same t1 (s0.trans (s'.trans s))) hR (s _ _ hT) (hxs.up (sameTup s))
def qLam (q : Str) : Str := (envOfC q (defScope (top 0)) 0 0 .none).qual ++ "<lambda>"
def spRows (K : PySem.W.Frag) (T : List (Addr × Str)) : Sp := fun vs H Q _ => ∃ (P L : Addr) (ns : List Int) (turn : Nat) (rest : Int), vs = [.ref P] ∧ Pen K H P L ns turn rest ∧ turn + 700 ≤ 2 ^ 20 ∧ Tabs T H ∧
  ∀ H' turn' rest', Pen K H' P L ns turn' rest' → turn' ≤ turn + 700 → Tabs T H' → Q (.bl true) H'
abbrev Nr : List Str := ["_law_pen_here", "_law_line", "_law_text", "_law_due_here", "_law_heard_here", "_law_odd"]
theorem passL {X : Cx} {A : Around} {outer : List Env} {s : Shared} {H : Hp} {E : XK} {scope : Scope} {f c' : Addr} : ∀ σ : L2.St, PassesAt (L2.CX X.prog X.w) (lamCx X A outer s H E scope f c') σ E :=
  fun σ pins H s e s' I c => passes_call (takes_of rfl rfl rfl rfl) (fun _ _ _ _ z => z) pins σ H s e s' I c
theorem dp3 {K : PySem.W.Frag} {H : Hp} {R : Addr} {a b c : Str} (h : H R = some (.tup [.str a, .str b, .str c])) : Dp K H (.ref R) (.tuple [.str a, .str b, .str c]) := .tup (SqT.of h) (.cons (.str _) (.cons (.str _) (.cons (.str _) .nil)))
theorem lay3 {a b c : Str} (ha : PyData.strOk a = true) (hb : PyData.strOk b = true) (hc : PyData.strOk c = true) : PyData.canLay0 (.tuple [.str a, .str b, .str c]) = true := by
  show (PyData.strOk a && (PyData.strOk b && (PyData.strOk c && true))) = true
  rw [ha, hb, hc]
  rfl
theorem shp3 {a b c : Str} (ha : PyData.strOk a = true) (hb : PyData.strOk b = true) (hc : PyData.strOk c = true) : SeqAt.shaped (.tuple [.str a, .str b, .str c]) = true := by
  unfold SeqAt.shaped
  rw [lay3 ha hb hc]
  rfl
theorem ok_c (z : Str) (h : PyData.strOk z = true := by decide +kernel) : PyData.strOk z = true := h
theorem tyx_ext {K : PySem.W.Frag} {H H' : Hp} {x : V} {m : String} (ty : TyX K H x (.type m)) (s : ExtN H H') : TyX K H' x (.type m) := by
  have st : ∀ {b o}, H b = some o → (∀ ps, o ≠ .tbl ps) → H' b = some o := fun {b o} e n => s b o e n
  cases ty with
  | base h =>
    cases h with
    | non => exact .base .non
    | bl b => exact .base (.bl b)
    | int i => exact .base (.int i)
    | str z => exact .base (.str z)
    | flt z => exact .base (.flt z)
    | lst e => exact .base (.lst (st e fun _ z => (by cases z)))
    | frz e => exact .base (.frz (st e fun _ z => (by cases z)))
    | tup e => exact .base (.tup (st e fun _ z => (by cases z)))
    | dK e => exact .base (.dK (st e fun _ z => (by cases z)))
    | dT e => exact .base (.dT (st e fun _ z => (by cases z)))
  | byt b => exact .byt b
  | set e => exact .set (st e fun _ z => (by cases z))
  | kList e c => exact .kList e c
  | kTuple e c => exact .kTuple e c
  | kDict e c => exact .kDict e c
  | fTuple e => exact .fTuple (st e fun _ z => (by cases z))
  | fDict e => exact .fDict (st e fun _ z => (by cases z))
theorem heard_odd {K : PySem.W.Frag} {T : List (Addr × Str)} {CA CV CJ : Addr} {σ : L2.St} {H : Hp} {Q : VK} {x : V} (h5 : σ[5]? = some (some x)) (ty : ∃ m ∈ kns, m ≠ "str" ∧ TyX K H x (.type m)) (tb : Tabs T H)
    (q : ∀ R H', ExtN H H' → Tabs T H' → H' R = some (.tup [.str "ask", .str "0", .str "0"]) → Q (.ref R) H') :
    tLam T (THeard CA CV) (fun E => tKw [("text" : Str)].length (spParsed K CA CJ) (fun _ zs => zs) (fun _ => E) (tCons (tVar 5) tNil)) σ H Q := by
  obtain ⟨m, hm, ne, ty⟩ := ty
  refine ⟨tb, fun H1 e1 t1 H0 Ech Post s0 hP hE => ⟨_, h5, rfl, x, rfl, .inr ⟨m, hm, ne, tyx_same (tyx_ext ty e1) s0, fun d p H' s' hx => ?_⟩⟩⟩
  refine hE _ _ _ (.inl ⟨d, 0, 0, .ref p, rfl, rfl, hx, by decide, by decide, fun R H'' s n hR => ?_⟩)
  exact q R H'' (e1.trans (ExtN.of (s0.trans (s'.trans s)))) (Tabs.same t1 (s0.trans (s'.trans s))) hR
theorem num_ok (k : Nat) : PyData.strOk (toString ((k : Nat) : Int)) = true := by
  rw [num_S k]
  exact asc_ok fun c hc => by
    have := TL.numL_digits k c hc
    omega
theorem dp2 {K : PySem.W.Frag} {H : Hp} {R : Addr} {a b : Str} (h : H R = some (.tup [.str a, .str b])) : Dp K H (.ref R) (.tuple [.str a, .str b]) := .tup (SqT.of h) (.cons (.str _) (.cons (.str _) .nil))
section
variable {P : Program} {w : World} {K : PySem.W.Frag} {mg : Str → Option Value} {base : Heap} {f : Addr} {fd : FuncData} {CT CA CV CP fT fA fV fP CJ : Addr}
theorem ok_rows {T : List (Addr × Str)} {g f34 c TP : Addr} {fd42 fd34 : FuncData} (F : FnP K "_law_rows_right" "_law_rows_right" (top 53) [] f fd) (b : L2.Binds K fd ["_law_pen_here"] []) (hcode : fd.code = .ref c) (B : Blt mg) (Hr : Hear K P mg CT CA CV CP fT fA fV fP)
    (F42 : FnP K "_law_heard" "_law_heard" (top 42) [] g fd42) (b42 : L2.Binds K fd42 ["_law_ask"] []) (g42 : mg "_law_heard" = some (.ref g)) (TB : TabB base mg c TP) (hmT : (TP, qLam "_law_rows_right") ∈ T) (hu : ∀ p ∈ T, p.1 = TP → p.2 = qLam "_law_rows_right")
    (cP : Nam CX0 P w K mg base 2 "_law_pick" (spPick K)) (cRow : Nam CX0 P w K mg base 4 "_law_row" (spTxt K 600 800)) (cBent : Nam CX0 P w K mg base 3 "_law_bent" (spBent K)) (cDue : Nam CX0 P w K mg base 3 "_law_due" spLawDue)
    (cPar : Nam (L2.CX P w) P w K mg base 8 "parsed" (spParsed K CA CJ)) (x34 : FnOk P w K mg base (L2.CX P w) 8 f34 fd34 ["text"] (spParsed K CA CJ)) (g34 : mg "parsed" = some (.ref f34)) (kp34 : PySem.W.keepIn K (.ref f34) = true) (kb34 : KBn K fd34 ["text"] 0 ["text"] (fun _ ws => ws) (fun _ zs => zs))
    (cSame : NamG CX0 P w K mg base 1 "_law_same" (spLawSame CJ)) : FnRG P w K mg base CX0 11 f (spRows K T) := by
  have sc : FnScope Nr ["_law_pen_here"] (defScope (top 53)) := sc_by (by decide +kernel)
  have nd := sc.nd
  refine fnpC F b sc (fun vs H Q E h => ?_) fun cdv hcd A outer s H vs Q E gd hr h => ⟨_,
    (pss_cons (ps_set (i := 1) nd rfl (Or.inl rfl) (pe_nam cRow hr (by decide) rfl pass_no (pa_cons (pv 0) pa_nil)))
    (pss_cons (ps_for (passes_of rfl) rfl (pi_list (pe_lst (pa_cons (pv 1) (pa_cons (pe_nam cBent hr (by decide) rfl pass_no (pa_cons (pv 0) (pa_cons (pv 1) pa_nil))) (pa_cons (pe_nam cBent hr (by decide) rfl pass_no (pa_cons (pv 0) (pa_cons (pe_nam cBent hr (by decide) rfl pass_no (pa_cons (pv 0) (pa_cons (pv 1) pa_nil))) pa_nil))) pa_nil))))) (pg_name (i := 2) nd rfl (Or.inr rfl))
      (pss_cons (ps_par (i := 3) (j := 4) rfl nd rfl rfl (by decide) rfl rfl (pa_cons (pe_nam cDue hr (by decide) rfl pass_no (pa_cons (pv 2) pa_nil)) (pa_cons (pe_heard (T := T) (k := 8) B Hr F42 b42 g42 rfl TB (by exact hcd.symm.trans hcode) (by exact hmT) (by exact hu) hr (by exact lamS_by (sc := defScope (top 53)) (by decide +kernel)) (by rfl) (by intros; rfl) (fun A outer s H E f c' hr2 => pe_nam cPar hr2 (by decide) (by rfl) passL (pa_cons (pv 2) pa_nil))) pa_nil)) rfl)
      (pss_cons (ps_if (PW.pt (pw_and (pt_val (pe_callB call_isi rfl (B.g "isinstance") boot_isinstance (pa_cons (pv 3) (pa_cons (pe_bltn (v := .ty "int") rfl (B.g "int") boot_int rfl) pa_nil)))) (pw_and1 (pt_cmpR (op_neD hr.units) (pv 4) (pe_tup (pa_cons pe_str (pa_cons pe_str (pa_cons (pe_callTy call_str_int rfl (B.g "str") boot_str (pa_cons (pv 3) pa_nil)) pa_nil)))) (nomark _))))) (pss_one (ps_ret pe_bl)) pss_nil)
      (pss_one (ps_if (PW.pt (pw_and (pt_not (pt_val (pe_callB call_isi rfl (B.g "isinstance") boot_isinstance (pa_cons (pv 3) (pa_cons (pe_bltn (v := .ty "int") rfl (B.g "int") boot_int rfl) pa_nil))))) (pw_and1 (PW.pt (pw_or (pt_not (pt_val (pe_callB call_isi rfl (B.g "isinstance") boot_isinstance (pa_cons (pv 4) (pa_cons (pe_bltn (v := .ty "list") rfl (B.g "list") boot_list rfl) pa_nil))))) (pw_or1 (pt_not (pt_val (pe_namG cSame gd hr (by decide) rfl pass_no (pa_cons (pe_ix ix_list (pv 4) pe_int (fun _ _ => rfl)) (pa_cons (pv 3) pa_nil))))))))))) (pss_one (ps_ret pe_bl)) pss_nil)))))
    (pss_cons (ps_set (i := 5) nd rfl (Or.inr rfl) (pe_nam cP hr (by decide) rfl pass_no (pa_cons (pv 0) (pa_cons (pe_lst (pa_cons pe_non (pa_cons pe_int (pa_cons pe_bl (pa_cons (pe_lst (pa_cons pe_str pa_nil)) (pa_cons (pe_tup (pa_cons pe_str pa_nil)) (pa_cons pe_dnewK (pa_cons (pe_op op_pow pe_int pe_int) pa_nil)))))))) pa_nil))))
    (pss_one (ps_ret (pe_cmpR (op_eqD hr.units) (pe_heard (T := T) (k := 8) B Hr F42 b42 g42 rfl TB (by exact hcd.symm.trans hcode) (by exact hmT) (by exact hu) hr (by exact lamS_by (sc := defScope (top 53)) (by decide +kernel)) (by rfl) (by intros; rfl) (fun A outer s H E f c' hr2 => pe_kw x34 hr2 (by decide) (by rfl) g34 kp34 kb34 passL (pk_cons (pv 5) pk_nil))) (pe_tup (pa_cons pe_str (pa_cons pe_str (pa_cons pe_str pa_nil)))) (nomark _))))))), ?_⟩
  · obtain ⟨P, L, ns, turn, rest, rfl, _⟩ := h
    rfl
  obtain ⟨P, L, ns, turn, rest, rfl, pen, ht, tb, q⟩ := h
  have hz := sizeLine_eq
  refine callTxt rfl pen (by omega) fun y H1 ty o1 => ?_
  obtain ⟨l, rfl, al, ll⟩ := ty
  obtain ⟨t1, r1, pen1, h1⟩ := o1.pen pen
  have tb1 : Tabs T H1 := Tabs.upD tb o1.1 pen.pen
  refine ⟨_, rfl, _, rfl, _, rfl, P, L, ns, t1, r1, l, rfl, pen1, by omega, al, by omega, fun y2 H2 ty2 o2 => ?_⟩
  obtain ⟨l2, rfl, al2, ll2⟩ := ty2
  obtain ⟨t2, r2, pen2, h2⟩ := o2.pen pen1
  have tb2 : Tabs T H2 := Tabs.upD tb1 o2.1 pen1.pen
  refine ⟨_, rfl, _, rfl, _, rfl, P, L, ns, t2, r2, l, rfl, pen2, by omega, al, by omega, fun y3 H3 ty3 o3 => ?_⟩
  obtain ⟨l3, rfl, al3, ll3⟩ := ty3
  obtain ⟨t3, r3, pen3, h3⟩ := o3.pen pen2
  have tb3 : Tabs T H3 := Tabs.upD tb2 o3.1 pen2.pen
  refine ⟨P, L, ns, t3, r3, l3, rfl, pen3, by omega, al3, by omega, fun y4 H4 ty4 o4 => ?_⟩
  obtain ⟨l4, rfl, al4, ll4⟩ := ty4
  obtain ⟨t4, r4, pen4, h4⟩ := o4.pen pen3
  have tb4 : Tabs T H4 := Tabs.upD tb3 o4.1 pen3.pen
  refine ⟨by show 3 ≤ sizeLine; omega, fun LL nLL => ⟨LL, rfl, ⟨_, SqL.of upd_same⟩, ?_⟩⟩
  have hLP : LL ≠ P := fun z => by rw [z, pen4.pen] at nLL; cases nLL
  have mem : ∀ (i : Nat) (x : V), [vS l, vS l2, vS l4][i]? = some x → ∃ m, x = vS m ∧ asc m ∧ m.length ≤ 10000 := fun i x e => by
    match i, e with
    | 0, e => exact ⟨l, (Option.some.inj e).symm, al, by omega⟩
    | 1, e => exact ⟨l2, (Option.some.inj e).symm, al2, by omega⟩
    | 2, e => exact ⟨l4, (Option.some.inj e).symm, al4, by omega⟩
  refine for_it walk_list (fun i σ H' => (∃ x2 x3 x4, σ = [some (.ref P), some (vS l), x2, x3, x4, none]) ∧ Pen K H' P L ns t4 r4 ∧ Tabs T H' ∧ H' LL = some (.lst [vS l, vS l2, vS l4])) ⟨⟨_, _, _, rfl⟩, pen4.upd nLL, Tabs.same tb4 (same_upd nLL), upd_same⟩ (fun i σ H' _ p => SqL.of p.2.2.2) (fun i x σ H5 H6 hi p y => ?_) fun σ H5 p => ?_
  · obtain ⟨rfl, hx⟩ := y
    obtain ⟨⟨x2, x3, x4, rfl⟩, pen5, tb5, hL5⟩ := p
    obtain ⟨m, rfl, am, lm⟩ := mem i x hx
    have low : ∀ {H7 : Hp}, ExtN H6 H7 → Pen K H7 P L ns t4 r4 ∧ H7 LL = some (.lst [vS l, vS l2, vS l4]) := fun e => ⟨pen5.extN e, e _ _ hL5 fun _ z => (by cases z)⟩
    refine ⟨_, rfl, m, rfl, ⟨by omega, am⟩, fun k ho H7 s7 => ?_, fun n js ho T2 D H7 s7 h2 hD => ?_, fun n ho T2 ys H7 s7 h2 hys => ?_⟩
    · refine heard_parsed (T := T) rfl (by omega) am (Tabs.same tb5 s7) (fun k2 R H8 ho2 e8 tb8 hR => ?_) (fun n js R T1 y dy H8 ho2 => by rw [ho] at ho2; cases ho2) (fun n R T1 xs H8 ho2 => by rw [ho] at ho2; cases ho2)
      obtain rfl : k = k2 := by rw [ho] at ho2; exact Out.bad.inj ho2
      have hk := out_bad ho
      have hwl := words_len m
      obtain ⟨pen8, hL8⟩ := low ((ExtN.of s7).trans e8)
      refine ⟨_, _, rfl, ?_⟩
      refine ⟨_, rfl, _, .ty "int", .type "int", .type "int", _, rfl, .ty _, .base (.int _), kit_int (by decide), _, rfl, ?_⟩
      refine iteT ⟨_, rfl, _, rfl, _, rfl, nat_log (by omega), by show 3 ≤ sizeLine; omega, fun Z nZ => ?_⟩
      refine ⟨_, _, dp3 ((same_upd nZ) _ _ hR), dp3 upd_same, shp3 (ok_c _) (ok_c _) (num_ok k), shp3 (ok_c _) (ok_c _) (num_ok k), _, rfl, ?_⟩
      rw [SeqAt.eqv_refl _ (lay3 (ok_c "ask") (ok_c "0") (num_ok k))]
      refine iteF ⟨_, rfl, _, .ty "int", .type "int", .type "int", _, rfl, .ty _, .base (.int _), kit_int (by decide), _, rfl, ?_⟩
      refine iteF (iteF ⟨⟨_, _, _, rfl⟩, pen8.upd nZ, Tabs.same tb8 (same_upd nZ), (same_upd nZ) _ _ hL8⟩)
    · refine heard_parsed (T := T) rfl (by omega) am (Tabs.same tb5 s7) (fun k2 R H8 ho2 => by rw [ho] at ho2; cases ho2) (fun n2 js2 R T1 y dy H8 ho2 e8 tb8 hR h1 hy => ?_) (fun n R T1 xs H8 ho2 => by rw [ho] at ho2; cases ho2)
      obtain ⟨rfl, rfl⟩ : n = n2 ∧ js = js2 := by rw [ho] at ho2; exact Out.jum.inj ho2
      obtain ⟨pen8, hL8⟩ := low ((ExtN.of s7).trans e8)
      have h28 := e8 _ _ h2 fun _ z => (by cases z)
      have hD8 := e8 _ _ hD fun _ z => (by cases z)
      refine ⟨_, _, rfl, ?_⟩
      refine ⟨_, rfl, _, .ty "int", .type "tuple", .type "int", _, rfl, .ty _, .base (.tup h28), kit_int (by decide), _, rfl, ?_⟩
      refine iteF (iteF ⟨_, rfl, _, .ty "int", .type "tuple", .type "int", _, rfl, .ty _, .base (.tup h28), kit_int (by decide), _, rfl, ?_⟩)
      refine iteT ⟨_, rfl, _, .ty "list", .type "list", .type "list", _, rfl, .ty _, .base (.lst hR), kit_list (by decide), _, rfl, ?_⟩
      refine iteF ⟨_, rfl, R, _, _, _, rfl, rfl, SqL.of hR, rfl, _, rfl, T1, T2, rfl, fun H9 s9 => ?_, .inl ⟨n, js, y, dy, D, h1, hy, h28, hD8, out_jum ho⟩⟩
      refine ⟨_, rfl, iteF ⟨⟨_, _, _, rfl⟩, pen8.same s9, Tabs.same tb8 s9, s9 _ _ hL8⟩⟩
    · refine heard_parsed (T := T) rfl (by omega) am (Tabs.same tb5 s7) (fun k2 R H8 ho2 => by rw [ho] at ho2; cases ho2) (fun n2 js2 R T1 y dy H8 ho2 => by rw [ho] at ho2; cases ho2) (fun n2 R T1 xs H8 ho2 e8 tb8 hR h1 hxs => ?_)
      obtain rfl : n = n2 := by rw [ho] at ho2; exact Out.row.inj ho2
      obtain ⟨pen8, hL8⟩ := low ((ExtN.of s7).trans e8)
      have h28 := e8 _ _ h2 fun _ z => (by cases z)
      have hy8 : ThVs H8 (words m) (thingsOf n) 1 (words m).length ys := hys.up fun b xs e => e8 _ _ e fun _ z => (by cases z)
      have hn := out_row ho
      refine ⟨_, _, rfl, ?_⟩
      refine ⟨_, rfl, _, .ty "int", .type "tuple", .type "int", _, rfl, .ty _, .base (.tup h28), kit_int (by decide), _, rfl, ?_⟩
      refine iteF (iteF ⟨_, rfl, _, .ty "int", .type "tuple", .type "int", _, rfl, .ty _, .base (.tup h28), kit_int (by decide), _, rfl, ?_⟩)
      refine iteT ⟨_, rfl, _, .ty "list", .type "list", .type "list", _, rfl, .ty _, .base (.lst hR), kit_list (by decide), _, rfl, ?_⟩
      refine iteF ⟨_, rfl, R, _, _, _, rfl, rfl, SqL.of hR, rfl, _, rfl, T1, T2, rfl, fun H9 s9 => ?_, .inr ⟨m, n, thingsOf n, (words m).length, xs, ys, h1, h28, hxs, hy8, am, by omega, hn.2, hn.1⟩⟩
      refine ⟨_, rfl, iteF ⟨⟨_, _, _, rfl⟩, pen8.same s9, Tabs.same tb8 s9, s9 _ _ hL8⟩⟩
  · obtain ⟨⟨x2, x3, x4, rfl⟩, pen5, tb5, hL5⟩ := p
    -- any value that is no text
    refine ⟨_, rfl, by show 1 ≤ sizeLine; omega, fun U1 n1 => ⟨by show 1 ≤ sizeLine; omega, fun U2 n2 => fun U3 n3 => ⟨_, _, rfl, rfl, ⟨by decide, by decide, by decide⟩, by show 7 ≤ sizeLine; omega, fun Z nZ => ?_⟩⟩⟩
    have s1 : Same H5 (upd H5 U1 (.lst [.str "undo"])) := same_upd n1
    have s2 := s1.trans (same_upd (o := .tup [.str "undo"]) n2)
    have s3 := s2.trans (same_upd (o := .dK []) n3)
    have s4 := s3.trans (same_upd (o := .lst [.non, .int 0, .bl true, .ref U1, .ref U2, .ref U3, .int ((10 : Int) ^ (30 : Int).toNat)]) nZ)
    have k1 : (upd H5 U1 (.lst [.str "undo"])) U1 = some (.lst [.str "undo"]) := upd_same
    have k2 : (upd (upd H5 U1 (.lst [.str "undo"])) U2 (.tup [.str "undo"])) U2 = some (.tup [.str "undo"]) := upd_same
    have k3 : (upd (upd (upd H5 U1 (.lst [.str "undo"])) U2 (.tup [.str "undo"])) U3 (.dK [])) U3 = some (.dK []) := upd_same
    have k1' := (same_upd (o := .lst [.non, .int 0, .bl true, .ref U1, .ref U2, .ref U3, .int ((10 : Int) ^ (30 : Int).toNat)]) nZ) _ _ ((same_upd (o := .dK []) n3) _ _ ((same_upd (o := .tup [.str "undo"]) n2) _ _ k1))
    have k2' := (same_upd (o := .lst [.non, .int 0, .bl true, .ref U1, .ref U2, .ref U3, .int ((10 : Int) ^ (30 : Int).toNat)]) nZ) _ _ ((same_upd (o := .dK []) n3) _ _ k2)
    have k3' := (same_upd (o := .lst [.non, .int 0, .bl true, .ref U1, .ref U2, .ref U3, .int ((10 : Int) ^ (30 : Int).toNat)]) nZ) _ _ k3
    have kZ := upd_same (H := (upd (upd (upd H5 U1 (.lst [.str "undo"])) U2 (.tup [.str "undo"])) U3 (.dK []))) (a := Z) (o := .lst [.non, .int 0, .bl true, .ref U1, .ref U2, .ref U3, .int ((10 : Int) ^ (30 : Int).toNat)])
    have noP : ∀ {b : Addr}, H5 b = none → b ≠ P := fun {b} e z => by rw [z, pen5.pen] at e; cases e
    have hZP : Z ≠ P := noP (nn s3 nZ)
    have hU1 : U1 ≠ P := noP n1
    show spPick K [.ref P, .ref Z] (upd (upd (upd (upd H5 U1 (.lst [.str "undo"])) U2 (.tup [.str "undo"])) U3 (.dK [])) Z (.lst [.non, .int 0, .bl true, .ref U1, .ref U2, .ref U3, .int ((10 : Int) ^ (30 : Int).toNat)])) _ (noE [some (V.ref P), some (vS l), x2, x3, x4, none])
    generalize upd (upd (upd (upd H5 U1 (.lst [.str "undo"])) U2 (.tup [.str "undo"])) U3 (.dK [])) Z (.lst [.non, .int 0, .bl true, .ref U1, .ref U2, .ref U3, .int ((10 : Int) ^ (30 : Int).toNat)]) = H6 at s4 k1' k2' k3' kZ ⊢
    have pen6 := pen5.same s4
    refine ⟨P, L, ns, t4, r4, .ref Z, rfl, pen6, by omega, .inl ⟨Z, _, rfl, kZ, hZP, by show 0 < 7; decide, by show 7 < 1073741824; decide, fun y hy H7 o7 => ?_⟩⟩
    obtain ⟨t7, r7, pen7, h7⟩ := o7.pen pen6
    have tb7 : Tabs T H7 := Tabs.upD (Tabs.same tb5 s4) o7.1 pen6.pen
    have ty : ∃ m ∈ kns, m ≠ "str" ∧ TyX K H7 y (.type m) := by
      simp only [List.mem_cons, List.not_mem_nil, or_false] at hy
      rcases hy with h | h | h | h | h | h | h <;> rw [h]
      · exact ⟨"NoneType", by decide, by decide, .base .non⟩
      · exact ⟨"int", by decide, by decide, .base (.int _)⟩
      · exact ⟨"bool", by decide, by decide, .base (.bl _)⟩
      · exact ⟨"list", by decide, by decide, .base (.lst (o7.1 _ _ hU1 k1'))⟩
      · exact ⟨"tuple", by decide, by decide, .base (.tup (STup.ofU o7.1 pen6.pen _ _ k2'))⟩
      · exact ⟨"dict", by decide, by decide, .base (.dK (o7.1 _ _ (fun z => by rw [z, pen6.pen] at k3'; cases k3') k3'))⟩
      · exact ⟨"int", by decide, by decide, .base (.int _)⟩
    refine heard_odd (T := T) rfl ty tb7 fun R H8 e8 tb8 hR => ?_
    refine ⟨by show 3 ≤ sizeLine; omega, fun W nW => ⟨_, _, dp3 ((same_upd nW) _ _ hR), dp3 upd_same, shp3 (ok_c "ask") (ok_c "0") (ok_c "0"), shp3 (ok_c "ask") (ok_c "0") (ok_c "0"), ?_⟩⟩
    rw [SeqAt.eqv_refl _ (lay3 (ok_c "ask") (ok_c "0") (ok_c "0"))]
    exact q _ t7 r7 ((pen7.extN e8).upd nW) (by omega) (Tabs.same tb8 (same_upd nW))
end
end Q7
set_option maxHeartbeats 4000000
namespace Q7
open PySem PySem.Spec PyProof.Rows L2 SX LamX
/-! ### plain: the texts of a table -/
theorem neg_S (m : Nat) : (toString (Int.negSucc m) : Str) = S (45 :: TL.numL (m + 1)) := by
  have h := num_S (m + 1)
  have e : (toString (Int.negSucc m) : String) = "-" ++ (toString (((m + 1 : Nat)) : Int) : String) := rfl
  have h : Str.ofString (toString (((m + 1 : Nat)) : Int) : String) = S (TL.numL (m + 1)) := h
  show Str.ofString (toString (Int.negSucc m) : String) = _
  rw [e]
  rw [Str.ofString_eq_toList] at h ⊢
  refine TL.ext_tl ?_
  have h2 := congrArg (fun z : Str => z.cps.toList) h
  simp only [String.toList_append, List.map_append] at h2 ⊢
  show ("-".toList.map Char.toNat ++ _ : List Nat) = _
  rw [show ("-".toList.map Char.toNat : List Nat) = [45] by decide +kernel]
  show 45 :: _ = 45 :: TL.numL (m + 1)
  refine congrArg (List.cons 45) ?_
  simpa [S] using h2
theorem int_txk {i : Int} (h1 : -(10 ^ 60) ≤ i) (h2 : i ≤ 10 ^ 60) : Txk 62 (.str (toString i)) := by
  cases i with
  | ofNat n =>
    refine ⟨TL.numL n, by rw [show (Int.ofNat n : Int) = ((n : Nat) : Int) from rfl, num_S]; rfl, fun c hc => ?_, ?_⟩
    · have := TL.numL_digits n c hc
      omega
    · have hn : n < 10 ^ 61 := by
        have : (n : Int) ≤ ((10 ^ 60 : Nat) : Int) := h2
        have : n ≤ 10 ^ 60 := by omega
        exact Nat.lt_of_le_of_lt this (by decide)
      exact Nat.le_trans (TL.numL_len (k := 61) (by decide) hn) (by decide)
  | negSucc m =>
    refine ⟨45 :: TL.numL (m + 1), by rw [neg_S]; rfl, fun c hc => ?_, ?_⟩
    · rcases List.mem_cons.mp hc with z | z
      · rw [z]; decide
      · have := TL.numL_digits (m + 1) c z
        omega
    · have hn : m + 1 < 10 ^ 61 := by
        have h1 : -(((10 ^ 60 : Nat) : Int)) ≤ Int.negSucc m := h1
        have : m + 1 ≤ 10 ^ 60 := by
          have e : Int.negSucc m = -((m : Int) + 1) := rfl
          omega
        exact Nat.lt_of_le_of_lt this (by decide)
      have := TL.numL_len (k := 61) (by decide) hn
      rw [List.length_cons]
      omega
theorem itk_txt {y : V} (h : ItK y) : Txk 70 (.str (itT y)) := by
  rcases h with ⟨l, rfl, a, b⟩ | ⟨i, rfl, a, b⟩
  · exact ⟨l, rfl, a, b⟩
  · exact (int_txk a b).mono (by decide)
theorem itk_is {y : V} (h : ItK y) : isIt y = true := by
  rcases h with ⟨l, rfl, _⟩ | ⟨i, rfl, _⟩ <;> rfl
theorem itk_s {y : V} (h : ItK y) : itS y := by
  have z := itk_txt h
  rcases h with ⟨l, rfl, a, b⟩ | ⟨i, rfl, a, b⟩
  · show (S l).length ≤ 1000
    rw [S_len]; omega
  · obtain ⟨m, e, _, c⟩ := z
    have e2 : (toString i : Str) = S m := V.str.inj e
    refine ⟨log_sm (Nat.lt_of_le_of_lt (show i.natAbs ≤ 10 ^ 60 by omega) big_small), ?_⟩
    rw [e2, S_len]
    omega
theorem itk_ty {K : PySem.W.Frag} {H : Hp} {y : V} (h : ItK y) : Ty7 K H y := by
  rcases h with ⟨l, rfl, _⟩ | ⟨i, rfl, _⟩
  · exact ⟨"str", by decide, .base (.str _)⟩
  · exact ⟨"int", by decide, .base (.int _)⟩
/-- some blanks -/
theorem blanks {k : Int} (h1 : 0 ≤ k) (h2 : k ≤ 60) : MulOk " " k ∧ Txt.mul " " k = S (List.replicate k.toNat 32) := by
  have z : ∀ n : Fin 61, MulOk " " ((n.val : Nat) : Int) ∧ Txt.mul " " ((n.val : Nat) : Int) = S (List.replicate n.val 32) := by
    unfold MulOk
    decide +kernel
  have y := z ⟨k.toNat, by omega⟩
  rw [show ((k.toNat : Nat) : Int) = k by omega] at y
  exact y
theorem ljust_S {l : List Nat} {w : Int} (hw : 0 ≤ w) : Txt.ljust (S l) w = S (l ++ List.replicate (w.toNat - l.length) 32) := by
  unfold Txt.ljust
  rw [S_len]
  split
  · rename_i h
    rw [show w.toNat - l.length = 0 by omega, List.replicate_zero, List.append_nil]
  · unfold Builtin.Str.padded
    refine TL.ext_tl ?_
    simp [S]
theorem rjust_S {l : List Nat} {w : Int} (hw : 0 ≤ w) : Txt.rjust (S l) w = S (List.replicate (w.toNat - l.length) 32 ++ l) := by
  unfold Txt.rjust
  rw [S_len]
  split
  · rename_i h
    rw [show w.toNat - l.length = 0 by omega, List.replicate_zero, List.nil_append]
  · unfold Builtin.Str.padded
    refine TL.ext_tl ?_
    simp [S]
/-- a cell of a table, by blanks -/
theorem col_S {y : V} {l : List Nat} (e : itT y = S l) (wd : Int) : colT y wd = if wd < 0 then S (l ++ List.replicate ((-wd).toNat - l.length) 32) else S (List.replicate (wd.toNat - l.length) 32 ++ l) := by
  unfold colT
  rw [e]
  split
  · exact ljust_S (by omega)
  · exact rjust_S (by omega)
theorem asc_rep (n : Nat) : asc (List.replicate n 32) := fun c hc => by rw [(List.mem_replicate.mp hc).2]; decide
theorem col_txk {y : V} (h : ItK y) {wd : Int} (h1 : -60 ≤ wd) (h2 : wd ≤ 60) : Txk 70 (.str (colT y wd)) := by
  obtain ⟨l, e, a, b⟩ := itk_txt h
  rw [col_S (V.str.inj e) wd]
  split
  · exact ⟨_, rfl, asc_app a (asc_rep _), by rw [List.length_append, List.length_replicate]; omega⟩
  · exact ⟨_, rfl, asc_app (asc_rep _) a, by rw [List.length_append, List.length_replicate]; omega⟩
/-- texts joined by a sign -/
theorem join_T {n m : Nat} {c : Nat} {z : Str} {ys : List Str} (hz : z = S [c]) (hc : c < 128) (hy : ∀ y ∈ ys, Txk n (.str y)) (hm : ys.length ≤ m) : Txk ((n + 1) * m) (.str (Txt.join z ys)) := by
  obtain ⟨ls, e, hl⟩ := txk_all (n := n) (ys := ys.map V.str) fun y hy2 => by
    obtain ⟨s, hs, rfl⟩ := List.mem_map.mp hy2
    exact hy s hs
  have e2 : ys = ls.map S := by
    have : ys.map V.str = (ls.map S).map V.str := by rw [e, List.map_map]; rfl
    exact (List.map_inj_right fun a b h => V.str.inj h).mp this
  subst e2
  rw [hz, join_S]
  have hsum := lens_le hl
  have hj := joinS_len [c] ls
  rw [List.length_map] at hm
  refine ⟨_, rfl, fun x hx => ?_, ?_⟩
  · rcases joinS_mem hx with y | ⟨p, hp, y⟩
    · rw [List.mem_singleton.mp y]; exact hc
    · exact (hl p hp).1 x y
  · have : ls.length * [c].length = ls.length := Nat.mul_one _
    have h2 : (n + 1) * ls.length ≤ (n + 1) * m := Nat.mul_le_mul_left _ hm
    rw [Nat.succ_mul] at h2
    omega
theorem row_txk {ws its : List V} (hi : ∀ y ∈ its, ItK y) (hw : ∀ w ∈ ws, ∃ k : Int, w = .int k ∧ -60 ≤ k ∧ k ≤ 60) (hl : ws.length ≤ 5) : Txk 360 (.str (rowT ws its)) := by
  refine (join_T (n := 70) (m := 5) (c := 32) (by decide +kernel) (by decide) (fun y hy => ?_) ?_).mono (by decide)
  · obtain ⟨j, hj⟩ := List.mem_iff_getElem?.mp hy
    rw [List.getElem?_zipWith] at hj
    cases e3 : its[j]? with
    | none => rw [e3] at hj; cases hj
    | some it =>
      cases e4 : ws[j]? with
      | none => rw [e3, e4] at hj; cases hj
      | some wd =>
        rw [e3, e4] at hj
        obtain rfl := Option.some.inj hj
        obtain ⟨k, rfl, k1, k2⟩ := hw wd (List.mem_of_getElem? e4)
        exact col_txk (hi it (List.mem_of_getElem? e3)) k1 k2
  · rw [List.length_zipWith]
    omega
theorem tab_txk {ws : List V} {rs : List (List V)} (hi : ∀ r ∈ rs, ∀ y ∈ r, ItK y) (hw : ∀ w ∈ ws, ∃ k : Int, w = .int k ∧ -60 ≤ k ∧ k ≤ 60) (hl : ws.length ≤ 5) (hr : rs.length ≤ 4) : Txk 2000 (.str (tabT rs ws)) :=
  (join_T (n := 360) (m := 4) (c := 10) (by decide +kernel) (by decide) (fun y hy => by
    obtain ⟨r, hrm, rfl⟩ := List.mem_map.mp hy
    exact row_txk (hi r hrm) hw hl) (by rw [List.length_map]; exact hr)).mono (by decide)
theorem repr_txk {z : Str} {n : Nat} (h : Txk n (.str z)) (hn : n ≤ 100000) : (reprText z).length ≤ sizeLine := by
  obtain ⟨l, e, a, b⟩ := h
  obtain rfl : z = S l := V.str.inj e
  have hs := sizeLine_eq
  have := PySem.StrLaws.reprText_len (S l) fun c hc => Nat.lt_of_lt_of_le (a c hc) (by decide)
  have e := S_len l
  omega
theorem call_reprS {X : Cx} : CallR X (.builtin "repr") (fun xs H Q => ∃ z, xs = [.str z] ∧ (reprText z).length ≤ sizeLine ∧ Q (.str (reprText z)) H) := by
  intro pins s σ H xs us Q I r h
  obtain ⟨z, rfl, hz, q⟩ := h
  obtain ⟨u, rfl, t, rfl⟩ := vals1 r
  exact PySem.P.repr_of_str ⟨.str _, H, I.tok _, ⟨_, rfl⟩, q⟩ hz
end Q7
set_option maxHeartbeats 4000000
namespace Q7
open PySem PySem.Spec PyProof.Rows L2 SX LamX
/-! ### columns, heard -/
theorem Ty7.ext {K : PySem.W.Frag} {H H' : Hp} {x : V} (h : Ty7 K H x) (s : ExtN H H') : Ty7 K H' x := by
  obtain ⟨n, hn, ty⟩ := h
  exact ⟨n, hn, tyx_ext ty s⟩
theorem NoTup.ext {K : PySem.W.Frag} {H H' : Hp} {x : V} (h : NoTup K H x) (s : ExtN H H') : NoTup K H' x := by
  obtain ⟨n, hn, ne, ty⟩ := h
  exact ⟨n, hn, ne, tyx_ext ty s⟩
theorem RwV.ext {K : PySem.W.Frag} {H H' : Hp} {x : V} {r : Option (List V)} (h : RwV K H x r) (s : ExtN H H') : RwV K H' x r := by
  cases r with
  | none => exact NoTup.ext h s
  | some its =>
    obtain ⟨a, e, ha, hl, ht⟩ := h
    exact ⟨a, e, s _ _ ha fun _ z => (by cases z), hl, fun it hi => (ht it hi).ext s⟩
theorem TbV.ext {K : PySem.W.Frag} {H H' : Hp} {x : V} {t : Tb} (h : TbV K H x t) (s : ExtN H H') : TbV K H' x t := by
  cases t with
  | none => exact NoTup.ext h s
  | some rs =>
    obtain ⟨a, vs, e, ha, hl, hn, hr⟩ := h
    exact ⟨a, vs, e, s _ _ ha fun _ z => (by cases z), hl, hn, fun i v r e1 e2 => (hr i v r e1 e2).ext s⟩
theorem heard_gen {K : PySem.W.Frag} {T : List (Addr × Str)} {CA CV : Addr} {σ : L2.St} {H : Hp} {Q : VK} {ta : TA} {z : Str} (Rl : Hp → Prop) (tb : Tabs T H)
    (hta : ∀ H0, ExtN H H0 → Tabs T H0 → ∀ k : List V → Hp → Prop, (∀ x y t u H2, Rl H2 → Tabs T H2 → TbV K H2 x t → RwV K H2 y u → SzT t → colsR t u = some z → k [x, y] H2) → ta σ H0 k)
    (q : ∀ R H2 H', Rl H2 → Tabs T H2 → Same H2 H' → H' R = some (.tup [.str "value", .str z]) → Q (.ref R) H') :
    tLam T (THeard CA CV) (fun E => tCallS (spColumns K CV) (fun _ => E) ta) σ H Q := by
  refine ⟨tb, fun H1 e1 t1 H0 Ech Post s0 hP hE => hta H0 (e1.trans (ExtN.of s0)) (Tabs.same t1 s0) _ fun x y t u H2 r2 tb2 hx hy sz hz => ⟨x, y, t, u, rfl, hx, hy, sz, fun z' hz' d p H' s' hd => ?_, fun hn => ?_⟩⟩
  · obtain rfl : z = z' := by rw [hz] at hz'; exact Option.some.inj hz'
    exact hE _ _ _ (.inr ⟨d, z, .ref p, rfl, rfl, hd, fun R H'' s n hR => q R H2 H'' r2 tb2 (s'.trans s) hR⟩)
  · rw [hz] at hn
    cases hn
/-- two names as its arguments -/
theorem heard_two {K : PySem.W.Frag} {T : List (Addr × Str)} {CA CV : Addr} {σ : L2.St} {H : Hp} {Q : VK} {i j : Nat} {x y : V} {t : Tb} {u : Option (List V)} {z : Str} (hi : σ[i]? = some (some x)) (hj : σ[j]? = some (some y)) (hx : TbV K H x t) (hy : RwV K H y u) (sz : SzT t) (hz : colsR t u = some z) (tb : Tabs T H)
    (q : ∀ R H', ExtN H H' → Tabs T H' → H' R = some (.tup [.str "value", .str z]) → Q (.ref R) H') :
    tLam T (THeard CA CV) (fun E => tCallS (spColumns K CV) (fun _ => E) (tCons (tVar i) (tCons (tVar j) tNil))) σ H Q :=
  heard_gen (fun H2 => ExtN H H2) tb (fun H0 e t0 k hk => ⟨x, hi, y, hj, hk x y t u H0 e t0 (hx.ext e) (hy.ext e) sz hz⟩) fun R H2 H' e t2 s hR => q R H' (e.trans (ExtN.of s)) (Tabs.same t2 s) hR
end Q7
set_option maxHeartbeats 8000000
namespace Q7
open PySem PySem.Spec PyProof.Rows L2 SX LamX
/-! ### _law_table_right -/
abbrev Nt : List Str := ["_law_pen_here", "_law_widths", "_law_rows", "_law_lines", "_law_row_here", "_law_parts", "_law_item_here", "_law_width", "_law_text", "_law_blanks", "_law_whole", "_law_wide", "_law_at", "_law_odd", "_law_some", "_law_bad", "_law_wrong", "_law_heard_here", "_law_k"]
def rTOf (K : PySem.W.Frag) : List V → Hp → VK → Prop := fun xs H Q => ∃ p ys, xs = [.ref p] ∧ ((SqL K H p ys ∧ ∀ l, H l = none → Q (.ref l) (upd H l (.tup ys))) ∨ (SqT K H p ys ∧ Q (.ref p) H))
theorem pi_tupK {X : Cx} {K : PySem.W.Frag} (hK : X.K = K) {tg l : Expr} {tl : TE} (hl : PE X l tl) : PI X tg l (iTup K tl) := by
  subst hK
  exact pi_tup hl
theorem passC {P : Program} {w : World} {X : Cx} : ∀ σ : L2.St, PassesAt (L2.CX P w) X σ (noE σ) := fun σ pins H s e s' I ⟨a, B, H', cls, d, _, _, _, _, _, _, _, z⟩ => z.elim
theorem tyx_upD {K : PySem.W.Frag} {H H' : Hp} {P : Addr} {x : V} {m : String} (ty : TyX K H x (.type m)) (u : UpD P H H') (n : x ≠ .ref P) : TyX K H' x (.type m) := by
  have st : ∀ {b o}, x = .ref b → H b = some o → H' b = some o := fun {b o} e h => u b o (fun z => n (by rw [e, z])) h
  cases ty with
  | base h =>
    cases h with
    | non => exact .base .non
    | bl b => exact .base (.bl b)
    | int i => exact .base (.int i)
    | str z => exact .base (.str z)
    | flt z => exact .base (.flt z)
    | lst e => exact .base (.lst (st rfl e))
    | frz e => exact .base (.frz (st rfl e))
    | tup e => exact .base (.tup (st rfl e))
    | dK e => exact .base (.dK (st rfl e))
    | dT e => exact .base (.dT (st rfl e))
  | byt b => exact .byt b
  | set e => exact .set (st rfl e)
  | kList e c => exact .kList e c
  | kTuple e c => exact .kTuple e c
  | kDict e c => exact .kDict e c
  | fTuple e => exact .fTuple (st rfl e)
  | fDict e => exact .fDict (st rfl e)
def spTab (K : PySem.W.Frag) (T : List (Addr × Str)) : Sp := fun vs H Q _ => ∃ (P L : Addr) (ns : List Int) (turn : Nat) (rest : Int), vs = [.ref P] ∧ Pen K H P L ns turn rest ∧ turn + 2100 ≤ 2 ^ 20 ∧ Tabs T H ∧
  ∀ H' turn' rest', Pen K H' P L ns turn' rest' → turn' ≤ turn + 2100 → Tabs T H' → Q (.bl true) H'
theorem tb_two {K : PySem.W.Frag} {H : Hp} {T0 : Addr} {x y : V} {r1 r2 : Option (List V)} (h0 : H T0 = some (.tup [x, y])) (hx : RwV K H x r1) (hy : RwV K H y r2) : TbV K H (.ref T0) (some [r1, r2]) := by
  refine ⟨T0, _, rfl, h0, by show 2 ≤ 100; decide, rfl, fun i v r e1 e2 => ?_⟩
  match i, e1, e2 with
  | 0, e1, e2 =>
    obtain rfl := Option.some.inj e1
    obtain rfl := Option.some.inj e2
    exact hx
  | 1, e1, e2 =>
    obtain rfl := Option.some.inj e1
    obtain rfl := Option.some.inj e2
    exact hy
theorem rw_tup {K : PySem.W.Frag} {H : Hp} {a : Addr} {its : List V} (h : H a = some (.tup its)) (hl : its.length ≤ 100) (ht : ∀ it ∈ its, Ty7 K H it) : RwV K H (.ref a) (some its) := ⟨a, rfl, h, hl, ht⟩
theorem ty7_str {K : PySem.W.Frag} {H : Hp} (z : Str) : Ty7 K H (.str z) := ⟨"str", by decide, .base (.str _)⟩
theorem ty7_int {K : PySem.W.Frag} {H : Hp} (z : Int) : Ty7 K H (.int z) := ⟨"int", by decide, .base (.int _)⟩
theorem ty7_bl {K : PySem.W.Frag} {H : Hp} (z : Bool) : Ty7 K H (.bl z) := ⟨"bool", by decide, .base (.bl _)⟩
theorem ty7_non {K : PySem.W.Frag} {H : Hp} : Ty7 K H .non := ⟨"NoneType", by decide, .base .non⟩
theorem all1 {p : V → Prop} {a : V} (ha : p a) : ∀ x ∈ [a], p x := fun x hx => by rw [List.mem_singleton.mp hx]; exact ha
theorem all2 {p : V → Prop} {a b : V} (ha : p a) (hb : p b) : ∀ x ∈ [a, b], p x := fun x hx => (List.mem_cons.mp hx).elim (fun e => by rw [e]; exact ha) (all1 hb x)
theorem all3 {p : V → Prop} {a b c : V} (ha : p a) (hb : p b) (hc : p c) : ∀ x ∈ [a, b, c], p x := fun x hx => (List.mem_cons.mp hx).elim (fun e => by rw [e]; exact ha) (all2 hb hc x)
def wholeT : Tb := some [some [.str "a", .int 5], some [.str "", .int (-1)]]
def wideU : Option (List V) := some [.int 3, .int (-3)]
theorem sz_of {t : Tb} (h : ((rowsOf t).all fun its => its.all fun it => match it with
    | .str z => decide (z.length ≤ 1000)
    | .int i => decide (i.natAbs.log2 < 1920) && decide ((toString i : Str).length ≤ 1000)
    | _ => true) = true) : SzT t := by
  intro its hi it hit hb
  have z := List.all_eq_true.mp (List.all_eq_true.mp h its hi) it hit
  cases it with
  | str y => exact (of_decide_eq_true z : y.length ≤ 1000)
  | int i =>
    have z : (decide (i.natAbs.log2 < 1920) && decide ((toString i : Str).length ≤ 1000)) = true := z
    rw [Bool.and_eq_true] at z
    exact ⟨of_decide_eq_true z.1, of_decide_eq_true z.2⟩
  | _ => cases hb
/-- widths that are none -/
theorem wr_none {K : PySem.W.Frag} {H : Hp} {D1 D2 D3 D4 D5 D6 : Addr} {wr : V} (k1 : H D1 = some (.lst [.int 3, .int (-3)])) (k2 : H D2 = some (.tup [.int 3, .int 61])) (k3 : H D3 = some (.tup [.int (-61), .int 3])) (k4 : H D4 = some (.tup [.bl true, .int 3])) (k5 : H D5 = some (.tup [.str "3", .int 3])) (k6 : H D6 = some (.tup [.int 3, .non]))
    (h : wr ∈ [V.non, .ref D1, .ref D2, .ref D3, .ref D4, .ref D5, .ref D6, .int 3]) : ∃ u, RwV K H wr u ∧ colsR wholeT u = some ("widths" : Str) := by
  simp only [List.mem_cons, List.not_mem_nil, or_false] at h
  rcases h with h | h | h | h | h | h | h | h <;> rw [h]
  · exact ⟨none, ⟨"NoneType", by decide, by decide, .base .non⟩, by decide +kernel⟩
  · exact ⟨none, ⟨"list", by decide, by decide, .base (.lst k1)⟩, by decide +kernel⟩
  · exact ⟨some [.int 3, .int 61], rw_tup k2 (by decide) (all2 (ty7_int _) (ty7_int _)), by decide +kernel⟩
  · exact ⟨some [.int (-61), .int 3], rw_tup k3 (by decide) (all2 (ty7_int _) (ty7_int _)), by decide +kernel⟩
  · exact ⟨some [.bl true, .int 3], rw_tup k4 (by decide) (all2 (ty7_bl _) (ty7_int _)), by decide +kernel⟩
  · exact ⟨some [.str "3", .int 3], rw_tup k5 (by decide) (all2 (ty7_str _) (ty7_int _)), by decide +kernel⟩
  · exact ⟨some [.int 3, .non], rw_tup k6 (by decide) (all2 (ty7_int _) ty7_non), by decide +kernel⟩
  · exact ⟨none, ⟨"int", by decide, by decide, .base (.int _)⟩, by decide +kernel⟩
section
variable {P : Program} {w : World} {K : PySem.W.Frag} {mg : Str → Option Value} {base : Heap} {f : Addr} {fd : FuncData} {CT CA CV CP fT fA fV fP CJ : Addr}
theorem ok_table {T : List (Addr × Str)} {g f37 c TP : Addr} {fd42 fd37 : FuncData} (F : FnP K "_law_table_right" "_law_table_right" (top 55) [] f fd) (b : L2.Binds K fd ["_law_pen_here"] []) (hcode : fd.code = .ref c) (B : Blt mg) (Hr : Hear K P mg CT CA CV CP fT fA fV fP)
    (F42 : FnP K "_law_heard" "_law_heard" (top 42) [] g fd42) (b42 : L2.Binds K fd42 ["_law_ask"] []) (g42 : mg "_law_heard" = some (.ref g)) (TB : TabB base mg c TP) (hmT : (TP, qLam "_law_table_right") ∈ T) (hU : ∀ p ∈ T, p.1 = TP → p.2 = qLam "_law_table_right")
    (cD : Nam CX0 P w K mg base 1 "_law_draw" (spDraw K)) (cP : Nam CX0 P w K mg base 2 "_law_pick" (spPick K)) (cI : Nam CX0 P w K mg base 3 "_law_item" (spItem K)) (cC : Nam (L2.CX P w) P w K mg base 3 "columns" (spColumns K CV))
    (x37 : FnOk P w K mg base (L2.CX P w) 3 f37 fd37 ["rows", "widths"] (spColumns K CV)) (g37 : mg "columns" = some (.ref f37)) (kp37 : PySem.W.keepIn K (.ref f37) = true) (kb37 : KBn K fd37 ["rows", "widths"] 0 ["widths", "rows"] (fun _ ws => ws.reverse) (fun _ zs => zs.reverse)) :
    FnRG P w K mg base CX0 6 f (spTab K T) := by
  have sc : FnScope Nt ["_law_pen_here"] (defScope (top 55)) := sc_by (by decide +kernel)
  have nd := sc.nd
  refine fnpC F b sc (fun vs H Q E h => ?_) fun cdv hcd A outer s H vs Q E gd hr h => ⟨_,
    (pss_cons (ps_set (i := 1) nd rfl (Or.inr rfl) (pe_callTy call_tuple_of rfl (B.g "tuple") boot_tuple (pa_cons (pe_lc (own := [("_law_k", 18)]) (g := gName 18) (tt := tYes) rfl nd (pi_range1 rfl (B.g "range") (pa_cons (pe_nam cD hr (by decide) rfl pass_no (pa_cons (pv 0) (pa_cons pe_int pa_nil))) pa_nil)) (blkOk_by (own := [("_law_k", 18)]) (N := Nt) (sc := defScope (top 55)) (by decide +kernel)) (fun _ _ _ _ _ => pg_name (i := 18) nd rfl (Or.inl rfl)) (fun _ _ _ _ _ => pts_nil) (fun _ _ _ _ _ => (pe_nam cP hr (by decide) rfl pass_no (pa_cons (pv 0) (pa_cons (pe_lst (pa_cons pe_int (pa_cons pe_int (pa_cons pe_int (pa_cons (pe_un un_neg pe_int) (pa_cons pe_int (pa_cons (pe_un un_neg pe_int) (pa_cons (pe_op op_sub (pe_nam cD hr (by decide) rfl pass_no (pa_cons (pv 0) (pa_cons pe_int pa_nil))) pe_int) pa_nil)))))))) pa_nil))))) pa_nil)))
    (pss_cons (ps_set (i := 2) nd rfl (Or.inl rfl) (pe_callTy call_tuple_of rfl (B.g "tuple") boot_tuple (pa_cons (pe_lc (own := [("_law_k", 18)]) (g := gName 18) (tt := tYes) rfl nd (pi_range1 rfl (B.g "range") (pa_cons (pe_nam cD hr (by decide) rfl pass_no (pa_cons (pv 0) (pa_cons pe_int pa_nil))) pa_nil)) (blkOk_by (own := [("_law_k", 18)]) (N := Nt) (sc := defScope (top 55)) (by decide +kernel)) (fun _ _ _ _ _ => pg_name (i := 18) nd rfl (Or.inl rfl)) (fun _ _ _ _ _ => pts_nil) (fun _ _ _ _ _ => (pe_callTy (r := rTOf K) call_tuple_of rfl (B.g "tuple") boot_tuple (pa_cons (pe_lc (own := [("_law_width", 7)]) (g := gName 7) (tt := tYes) rfl nd (pi_tupK (K := K) rfl (pv 1)) (blkOk_by (by rfl)) (fun _ _ _ _ _ => pg_name (i := 7) nd rfl (Or.inl rfl)) (fun _ _ _ _ _ => pts_nil) (fun _ _ _ _ _ => (pe_nam cI hr (by decide) rfl pass_no (pa_cons (pv 0) pa_nil)))) pa_nil)))) pa_nil)))
    (pss_cons (ps_set (i := 3) nd rfl (Or.inl rfl) (pe_lst pa_nil))
    (pss_cons (ps_for (passes_of rfl) rfl (pi_tup (pv 2)) (pg_name (i := 4) nd rfl (Or.inl rfl))
      (pss_cons (ps_set (i := 5) nd rfl (Or.inl rfl) (pe_lst pa_nil))
      (pss_cons (ps_for (passes_of rfl) rfl (RZ.pi_zipA rfl (B.g "zip") (pa_cons (pv 4) (pa_cons (pv 1) pa_nil))) (pg_tup rfl (pgs_cons (pg_name (i := 6) nd rfl (.inl rfl)) (pgs_cons (pg_name (i := 7) nd rfl (.inl rfl)) pgs_nil)))
        (pss_cons (ps_set (i := 8) nd rfl (Or.inl rfl) (pe_callTy call_strI rfl (B.g "str") boot_str (pa_cons (pv 6) pa_nil)))
        (pss_cons (ps_set (i := 9) nd rfl (Or.inl rfl) (pe_op op_mulS pe_str (pe_callB (call_max2 rfl) rfl (B.g "max") boot_max (pa_cons pe_int (pa_cons (pe_op op_sub (pe_callB call_abs rfl (B.g "abs") boot_abs (pa_cons (pe_callTy call_int1 rfl (B.g "int") boot_int (pa_cons (pv 7) pa_nil)) pa_nil)) (pe_callB call_len rfl (B.g "len") boot_len (pa_cons (pv 8) pa_nil))) pa_nil)))))
        (pss_one (ps_expr (pe_bm PySem.F.plainAttrs_list PySem.F.slot_list_append PySem.F.type_list_append mt_append (pv 5) (pa_cons (pe_ifExp (pt_cmpR op_lt (pv 7) pe_int (nomark _)) (pe_op op_add_str (pv 8) (pv 9)) (pe_op op_add_str (pv 9) (pv 8))) pa_nil)))))))
      (pss_one (ps_expr (pe_bm PySem.F.plainAttrs_list PySem.F.slot_list_append PySem.F.type_list_append mt_append (pv 3) (pa_cons (pe_join pe_str (pv 5)) pa_nil)))))))
    (C8.pss_cut (ps_if (pt_cmpR op_ne (pe_callB call_reprS rfl (B.g "repr") boot_repr (pa_cons (pe_kw x37 hr (by decide) rfl g37 kp37 kb37 passC (pk_cons (pv 1) (pk_cons (pv 2) pk_nil))) pa_nil)) (pe_callB call_reprS rfl (B.g "repr") boot_repr (pa_cons (pe_join pe_str (pv 3)) pa_nil)) (nomark _)) (pss_one (ps_ret pe_bl)) pss_nil)
    (pss_cons (ps_asg (pe_tup (pa_cons (pe_tup (pa_cons (pe_tup (pa_cons pe_str (pa_cons pe_int pa_nil))) (pa_cons (pe_tup (pa_cons pe_str (pa_cons (pe_un un_neg pe_int) pa_nil))) pa_nil))) (pa_cons (pe_tup (pa_cons pe_int (pa_cons (pe_un un_neg pe_int) pa_nil))) (pa_cons (pe_nam cD hr (by decide) rfl pass_no (pa_cons (pv 0) (pa_cons pe_int pa_nil))) pa_nil)))) (pg_tup rfl (pgs_cons (pg_name (i := 10) nd rfl (.inr rfl)) (pgs_cons (pg_name (i := 11) nd rfl (.inr rfl)) (pgs_cons (pg_name (i := 12) nd rfl (.inl rfl)) pgs_nil)))))
    (pss_cons (ps_set (i := 13) nd rfl (Or.inl rfl) (pe_nam cP hr (by decide) rfl pass_no (pa_cons (pv 0) (pa_cons (pe_lst (pa_cons pe_non (pa_cons pe_bl (pa_cons (pe_tup (pa_cons pe_str pa_nil)) (pa_cons (pe_lst (pa_cons pe_str pa_nil)) (pa_cons pe_dnewK pa_nil)))))) pa_nil))))
    (pss_cons (ps_set (i := 14) nd rfl (Or.inl rfl) (pe_lst (pa_cons pe_non (pa_cons (pe_callTy call_list_of rfl (B.g "list") boot_list (pa_cons (pv 10) pa_nil)) (pa_cons pe_str (pa_cons (pe_tup (pa_cons (pe_lst (pa_cons pe_str (pa_cons pe_int pa_nil))) (pa_cons (pe_tup (pa_cons pe_str (pa_cons (pe_un un_neg pe_int) pa_nil))) pa_nil))) (pa_cons (pe_tup (pa_cons (pe_tup (pa_cons pe_str (pa_cons pe_int pa_nil))) (pa_cons (pe_tup (pa_cons pe_str pa_nil)) pa_nil))) (pa_cons (pe_tup (pa_cons (pe_tup (pa_cons pe_str (pa_cons pe_int (pa_cons pe_int pa_nil)))) (pa_cons (pe_tup (pa_cons pe_str (pa_cons (pe_un un_neg pe_int) pa_nil))) pa_nil))) pa_nil))))))))
    (pss_cons (ps_set (i := 15) nd rfl (Or.inr rfl) (pe_nam cP hr (by decide) rfl pass_no (pa_cons (pv 0) (pa_cons (pe_op op_cat (pv 14) (pe_lst (pa_cons (pe_tup (pa_cons (pe_op op_catT (pe_slice sl_tup (pe_ix ix_tup (pv 10) (pv 12) (fun _ _ => rfl)) po_none (po_some pe_int)) (pe_tup (pa_cons (pv 13) pa_nil))) (pa_cons (pe_ix ix_tup (pv 10) pe_int (fun _ _ => rfl)) pa_nil))) pa_nil))) pa_nil))))
    (pss_cons (ps_set (i := 16) nd rfl (Or.inr rfl) (pe_nam cP hr (by decide) rfl pass_no (pa_cons (pv 0) (pa_cons (pe_lst (pa_cons pe_non (pa_cons (pe_lst (pa_cons pe_int (pa_cons (pe_un un_neg pe_int) pa_nil))) (pa_cons (pe_tup (pa_cons pe_int (pa_cons pe_int pa_nil))) (pa_cons (pe_tup (pa_cons (pe_un un_neg pe_int) (pa_cons pe_int pa_nil))) (pa_cons (pe_tup (pa_cons pe_bl (pa_cons pe_int pa_nil))) (pa_cons (pe_tup (pa_cons pe_str (pa_cons pe_int pa_nil))) (pa_cons (pe_tup (pa_cons pe_int (pa_cons pe_non pa_nil))) (pa_cons pe_int pa_nil))))))))) pa_nil))))
    (pss_cons (ps_set (i := 17) nd rfl (Or.inl rfl) (pe_lst (pa_cons (pe_heard (T := T) (k := 3) B Hr F42 b42 g42 rfl TB (by exact hcd.symm.trans hcode) (by exact hmT) (by exact hU) hr (by exact lamS_by (sc := defScope (top 55)) (by decide +kernel)) (by rfl) (by intros; rfl) (fun A outer s H E f c' hr2 => pe_nam cC hr2 (by decide) (by rfl) passL (pa_cons (pv 15) (pa_cons (pv 11) pa_nil)))) pa_nil)))
    (pss_cons (ps_expr (pe_bm PySem.F.plainAttrs_list PySem.F.slot_list_append PySem.F.type_list_append mt_append (pv 17) (pa_cons (pe_heard (T := T) (k := 3) B Hr F42 b42 g42 rfl TB (by exact hcd.symm.trans hcode) (by exact hmT) (by exact hU) hr (by exact lamS_by (sc := defScope (top 55)) (by decide +kernel)) (by rfl) (by intros; rfl) (fun A outer s H E f c' hr2 => pe_nam cC hr2 (by decide) (by rfl) passL (pa_cons (pv 10) (pa_cons (pv 16) pa_nil)))) pa_nil)))
    (pss_cons (ps_expr (pe_bm PySem.F.plainAttrs_list PySem.F.slot_list_append PySem.F.type_list_append mt_append (pv 17) (pa_cons (pe_heard (T := T) (k := 3) B Hr F42 b42 g42 rfl TB (by exact hcd.symm.trans hcode) (by exact hmT) (by exact hU) hr (by exact lamS_by (sc := defScope (top 55)) (by decide +kernel)) (by rfl) (by intros; rfl) (fun A outer s H E f c' hr2 => pe_nam cC hr2 (by decide) (by rfl) passL (pa_cons (pe_nam cP hr2 (by decide) (by rfl) pass_no (pa_cons (pv 0) (pa_cons (pe_lst (pa_cons pe_non (pa_cons pe_int (pa_cons pe_str pa_nil)))) pa_nil))) (pa_cons (pv 16) pa_nil)))) pa_nil)))
    (pss_one (ps_ret (pe_and (pe_cmpR (op_eqD hr.units) (pv 17) (pe_lst (pa_cons (pe_tup (pa_cons pe_str (pa_cons pe_str pa_nil))) (pa_cons (pe_tup (pa_cons pe_str (pa_cons pe_str pa_nil))) (pa_cons (pe_tup (pa_cons pe_str (pa_cons pe_str pa_nil))) pa_nil)))) (nomark _)) (pe_one (pe_cmpR op_eq (pe_nam cC hr (by decide) rfl passC (pa_cons (pv 10) (pa_cons (pv 11) pa_nil))) pe_str (nomark _))))))))))))))))))), ?_⟩
  · obtain ⟨P, L, ns, turn, rest, rfl, _⟩ := h
    rfl
  obtain ⟨P, L, ns, turn, rest, rfl, pen, ht, tb, q⟩ := h
  have hz := sizeLine_eq
  -- the widths
  refine ⟨_, rfl, P, L, ns, turn, rest, 6, rfl, pen, by omega, ⟨by decide, by decide⟩, fun nw r1 t1 H1 a0 a6 r10 h1 u1 p1 => ⟨nw, rfl, by omega, by omega, fun D nD => ?_⟩⟩
  have pen1 : Pen K H1 P L ns t1 r1 := ⟨p1, u1 _ _ pen.ne pen.ls, pen.sz, r10⟩
  have tb1 : Tabs T H1 := Tabs.upD tb u1 pen.pen
  refine lc_pen walk_range (fun _ y => ∃ k : Int, y = .int k ∧ -60 ≤ k ∧ k ≤ 60) 2 (fun _ _ _ h _ => h) pen1 nD (by omega) (fun _ _ => trivial) (fun i x H2 H3 Kt t2 r2 hi u2 pen2 h2 y hK => ?_) fun H2 ws o2 hD2 hl2 hw => ?_
  · obtain ⟨rfl, rfl⟩ := y
    have hi5 : 2 * i ≤ 2 * 5 := Nat.mul_le_mul_left _ (by omega)
    refine ⟨rfl, _, rfl, _, rfl, _, rfl, _, rfl, P, L, ns, t2, r2, 121, rfl, pen2, by omega, ⟨by decide, by decide⟩, fun d r3 t3 H4 b0 b1 b2 h3 u3 p3 => ⟨_, _, rfl, rfl, by show 7 ≤ sizeLine; omega, fun Z nZ => ?_⟩⟩
    have pen3 : Pen K H4 P L ns t3 r3 := ⟨p3, u3 _ _ pen.ne pen2.ls, pen.sz, b2⟩
    have hZP : Z ≠ P := fun z => by rw [z, p3] at nZ; cases nZ
    refine ⟨P, L, ns, t3, r3, .ref Z, rfl, pen3.upd nZ, by omega, .inl ⟨Z, _, rfl, upd_same, hZP, by show 0 < 7; decide, by show 7 < 1073741824; decide, fun y hy H5 o5 => hK y H5 ?_ ?_⟩⟩
    · have hy : y ∈ [V.int 0, V.int 1, V.int 5, V.int (-5), V.int 60, V.int (-60), V.int (d - 60)] := hy
      simp only [List.mem_cons, List.not_mem_nil, or_false] at hy
      rcases hy with h | h | h | h | h | h | h <;> exact ⟨_, h, by omega, by omega⟩
    · exact (PenOut.trans u3 h3 (o5.upd nZ)).mono (by decide)
  obtain ⟨t2, r2, pen2, h2⟩ := o2.pen pen1
  have tb2 : Tabs T H2 := Tabs.upD tb1 o2.1 pen1.pen
  have hwl : ws.length ≤ 5 := by omega
  have h2' : t2 ≤ turn + 11 := by
    have : 2 * nw.toNat ≤ 2 * 5 := Nat.mul_le_mul_left _ (by omega)
    omega
  refine ⟨D, ws, rfl, .inl ⟨SqL.of hD2, fun WT nWT => ?_⟩⟩
  have pen3 := pen2.upd (o := .tup ws) nWT
  have tb3 : Tabs T (upd H2 WT (.tup ws)) := Tabs.same tb2 (same_upd nWT)
  have hWT := upd_same (H := H2) (a := WT) (o := .tup ws)
  show tSeq _ _ _ _ (upd H2 WT (.tup ws))
  generalize upd H2 WT (.tup ws) = H3 at pen3 tb3 hWT ⊢
  -- the rows
  refine ⟨_, rfl, P, L, ns, t2, r2, 5, rfl, pen3, by omega, ⟨by decide, by decide⟩, fun nr r4 t4 H4 b0 b5 r40 h4 u4 p4 => ⟨nr, rfl, by omega, by omega, fun D2 nD2 => ?_⟩⟩
  have pen4 : Pen K H4 P L ns t4 r4 := ⟨p4, u4 _ _ pen.ne pen3.ls, pen.sz, r40⟩
  have tb4 : Tabs T H4 := Tabs.upD tb3 u4 pen3.pen
  have hWT4 : H4 WT = some (.tup ws) := STup.ofU u4 pen3.pen _ _ hWT
  refine lc_pen walk_range (fun H y => ∃ a its, y = .ref a ∧ H a = some (.tup its) ∧ its.length = ws.length ∧ ∀ it ∈ its, ItK it) 400 (fun _ _ _ ⟨a, its, e, h, r⟩ st => ⟨a, its, e, st _ _ h, r⟩) pen4 nD2 (by omega) (fun _ _ => trivial) (fun i x H5 H6 Kt t5 r5 hi u5 pen5 h5 y hK => ?_) fun H5 vs o5 hD5 hl5 hv => ?_
  · obtain ⟨rfl, rfl⟩ := y
    have hi5 : 400 * i ≤ 400 * 4 := Nat.mul_le_mul_left _ (by omega)
    have hWT6 : H6 WT = some (.tup ws) := STup.ofU u5 pen4.pen _ _ hWT4
    refine ⟨rfl, _, rfl, WT, rfl, ⟨_, SqT.of hWT6⟩, fun D3 nD3 => ?_⟩
    refine lc_pen walk_tup (fun _ y => ItK y) 80 (fun _ _ _ h _ => h) pen5 nD3 (by omega) (fun H7 u7 => SqT.of (STup.ofU u7 pen5.pen _ _ hWT6)) (fun j x2 H7 H8 Kt2 t7 r7 hj u7 pen7 h7 y2 hK2 => ?_) fun H7 its o7 hD7 hl7 hit => ?_
    · obtain ⟨rfl, _⟩ := y2
      have hj5 : 80 * j ≤ 80 * 5 := Nat.mul_le_mul_left _ (by omega)
      exact ⟨rfl, _, rfl, P, L, ns, t7, r7, rfl, pen7, by omega, fun y H' ty o => hK2 y H' ty o⟩
    · refine ⟨D3, its, rfl, .inl ⟨SqL.of hD7, fun IT nIT => hK _ _ ⟨IT, its, rfl, upd_same, hl7, hit⟩ ?_⟩⟩
      obtain ⟨u7, t7, r7, p7, h7, h8⟩ := o7
      have : 80 * ws.length ≤ 80 * 5 := Nat.mul_le_mul_left _ hwl
      exact ⟨u7.trans (UpD.of (same_upd nIT)), t7, r7, same_upd nIT _ _ p7, by omega, h8⟩
  obtain ⟨t5, r5, pen5, h5⟩ := o5.pen pen4
  have tb5 : Tabs T H5 := Tabs.upD tb4 o5.1 pen4.pen
  have h5' : t5 ≤ turn + 1700 := by
    have : 400 * nr.toNat ≤ 400 * 4 := Nat.mul_le_mul_left _ (by omega)
    omega
  have hWT5 : H5 WT = some (.tup ws) := STup.ofU o5.1 pen4.pen _ _ hWT4
  refine ⟨D2, vs, rfl, .inl ⟨SqL.of hD5, fun RT nRT => ?_⟩⟩
  have pen6 := pen5.upd (o := .tup vs) nRT
  have tb6 : Tabs T (upd H5 RT (.tup vs)) := Tabs.same tb5 (same_upd nRT)
  have hRT := upd_same (H := H5) (a := RT) (o := .tup vs)
  have hWT6 := (same_upd (o := .tup vs) nRT) _ _ hWT5
  have hv6 : ∀ y ∈ vs, ∃ a its, y = .ref a ∧ (upd H5 RT (.tup vs)) a = some (.tup its) ∧ its.length = ws.length ∧ ∀ it ∈ its, ItK it := fun y hy => by
    obtain ⟨a, its, e, h, r⟩ := hv y hy
    exact ⟨a, its, e, same_upd nRT _ _ h, r⟩
  show tSeq _ _ _ _ (upd H5 RT (.tup vs))
  generalize upd H5 RT (.tup vs) = H6 at pen6 tb6 hRT hWT6 hv6 ⊢
  obtain ⟨its, hil, hits⟩ : ∃ its : List (List V), its.length = vs.length ∧ ∀ (i : Nat) (v : V), vs[i]? = some v → ∃ a r, its[i]? = some r ∧ v = .ref a ∧ H6 a = some (.tup r) ∧ r.length = ws.length ∧ ∀ it ∈ r, ItK it := by
    clear hD5 hRT hl5 hv nRT
    induction vs with
    | nil => exact ⟨[], rfl, fun i v e => by cases e⟩
    | cons v vs ih =>
      obtain ⟨its, e1, e2⟩ := ih fun y hy => hv6 y (List.mem_cons_of_mem _ hy)
      obtain ⟨a, r, e3, e4, e5, e6⟩ := hv6 v List.mem_cons_self
      refine ⟨r :: its, by rw [List.length_cons, List.length_cons, e1], fun i z e => ?_⟩
      cases i with
      | zero =>
        obtain rfl : v = z := Option.some.inj e
        exact ⟨a, r, rfl, e3, e4, e5, e6⟩
      | succ i => exact e2 i z e
  -- the lines by hand
  refine ⟨by show 0 ≤ sizeLine; omega, fun LN nLN => ⟨_, rfl, RT, rfl, ⟨_, SqT.of ((same_upd nLN) _ _ hRT)⟩, ?_⟩⟩
  have hLP : LN ≠ P := fun z => by rw [z, pen6.pen] at nLN; cases nLN
  refine for_it walk_tup (fun i σ H' => (∃ x4 x5 x6 x7 x8 x9, σ = [some (.ref P), some (.ref WT), some (.ref RT), some (.ref LN), x4, x5, x6, x7, x8, x9, none, none, none, none, none, none, none, none, none]) ∧ UpD LN H6 H' ∧ H' LN = some (.lst ((its.take i).map fun r => .str (rowT ws r))))
    ⟨⟨_, _, _, _, _, _, rfl⟩, UpD.of (same_upd nLN), upd_same⟩ (fun i σ H' _ p => SqT.of (p.2.1 _ _ (ne_of_none hRT nLN) hRT)) (fun i x σ H7 H8 hi p y => ?_) fun σ H7 p => ?_
  · obtain ⟨rfl, hx⟩ := y
    obtain ⟨⟨x4, x5, x6, x7, x8, x9, rfl⟩, u7, hL7⟩ := p
    obtain ⟨a, r, e1, rfl, e2, e3, e4⟩ := hits i x hx
    have ha8 := u7 _ _ (ne_of_none e2 nLN) e2
    have hW8 := u7 _ _ (ne_of_none hWT6 nLN) hWT6
    refine ⟨by show 0 ≤ sizeLine; omega, fun PT nPT => ⟨_, rfl, _, rfl, a, WT, r, ws, rfl, .inr ⟨SqT.of ((same_upd nPT) _ _ ha8), SqT.of ((same_upd nPT) _ _ hW8), ?_⟩⟩⟩
    have hPL : PT ≠ LN := fun z => by rw [z, hL7] at nPT; cases nPT
    have yl : (List.zipWith (fun it wd => colT it (intOf wd)) r ws).length = ws.length := by rw [List.length_zipWith, e3, Nat.min_self]
    refine for_it (walk_zipT (n := ws.length) (by rw [e3, Nat.min_self])) (fun j σ H' => (∃ x6 x7 x8 x9, σ = [some (.ref P), some (.ref WT), some (.ref RT), some (.ref LN), some (.ref a), some (.ref PT), x6, x7, x8, x9, none, none, none, none, none, none, none, none, none]) ∧ UpD PT H8 H' ∧ H' PT = some (.lst (((List.zipWith (fun it wd => colT it (intOf wd)) r ws).take j).map V.str)))
      ⟨⟨_, _, _, _, rfl⟩, UpD.of (same_upd nPT), upd_same⟩ (fun j σ H' _ p => ⟨SqT.of (p.2.1 _ _ (ne_of_none ha8 nPT) ha8), SqT.of (p.2.1 _ _ (ne_of_none hW8 nPT) hW8)⟩) (fun j v σ H9 H10 hj p y => ?_) fun σ H9 p => ?_
    · obtain ⟨Tp, it, wd, rfl, nTp, rfl, f3, f4⟩ := y
      have f3 : r[j]? = some it := f3
      have f4 : ws[j]? = some wd := f4
      obtain ⟨k, rfl, k1, k2⟩ := hw wd (List.mem_of_getElem? f4)
      have hit := e4 it (List.mem_of_getElem? f3)
      obtain ⟨l, el, al, ll⟩ := itk_txt hit
      have el : itT it = S l := V.str.inj el
      obtain ⟨⟨x6, x7, x8, x9, rfl⟩, u9, hP9⟩ := p
      have s10 : Same H9 (upd H9 Tp (.tup [it, .int k])) := same_upd nTp
      refine ⟨Tp, [it, .int k], rfl, SqT.of upd_same, rfl, _, _, rfl, _, _, rfl, rfl, ?_⟩
      refine ⟨_, rfl, it, rfl, itS_ok (itk_s hit), ?_⟩
      rw [el]
      refine ⟨_, rfl, .inl ⟨k, rfl, k, rfl, _, rfl, _, _, rfl, ⟨by rw [S_len]; omega, rfl⟩, _, _, rfl, rfl, _, _, rfl, ?_⟩⟩
      have hm : ∃ m : Int, (if (if k < 0 then -k else k) - ((S l).length : Int) > 0 then (if k < 0 then -k else k) - ((S l).length : Int) else 0) = m ∧ 0 ≤ m ∧ m ≤ 60 ∧ (k < 0 → m.toNat = (-k).toNat - l.length) ∧ (¬ k < 0 → m.toNat = k.toNat - l.length) := by
        rw [S_len]
        refine ⟨_, rfl, ?_, ?_, fun c => ?_, fun c => ?_⟩
        · split <;> split <;> omega
        · split <;> split <;> omega
        · rw [if_pos c]; split <;> omega
        · rw [if_neg c]; split <;> omega
      obtain ⟨m, em, m0, m60, mn, mp⟩ := hm
      rw [em]
      obtain ⟨mok, eb⟩ := blanks m0 m60
      refine ⟨_, _, rfl, rfl, mok, ?_⟩
      rw [eb]
      have hP10 := s10 _ _ hP9
      have u10 : UpD PT H8 (upd H9 Tp (.tup [it, .int k])) := u9.trans (UpD.of s10)
      have fin : ∀ z : Str, z = colT it k → ∃ q1 xs1 y1, V.ref PT = .ref q1 ∧ [V.str z] = [y1] ∧ (upd H9 Tp (.tup [it, .int k])) q1 = some (.lst xs1) ∧ xs1.length < sizeLine ∧
          ((∃ x6 x7 x8 x9, [some (.ref P), some (.ref WT), some (.ref RT), some (.ref LN), some (.ref a), some (.ref PT), some it, some (.int k), some (.str (S l)), some (.str (S (List.replicate m.toNat 32))), none, none, none, none, none, none, none, none, none] = [some (V.ref P), some (.ref WT), some (.ref RT), some (.ref LN), some (.ref a), some (.ref PT), x6, x7, x8, x9, none, none, none, none, none, none, none, none, none]) ∧
            UpD PT H8 (upd (upd H9 Tp (.tup [it, .int k])) q1 (.lst (xs1 ++ [y1]))) ∧ (upd (upd H9 Tp (.tup [it, .int k])) q1 (.lst (xs1 ++ [y1]))) PT = some (.lst (((List.zipWith (fun it wd => colT it (intOf wd)) r ws).take (j + 1)).map V.str))) := fun z ez => by
        refine ⟨PT, _, _, rfl, rfl, hP10, ?_, ⟨_, _, _, _, rfl⟩, UpD.put u10, ?_⟩
        · rw [List.length_map, List.length_take]; omega
        · have e5 : (List.zipWith (fun it wd => colT it (intOf wd)) r ws)[j]? = some (colT it k) := by
            rw [List.getElem?_zipWith, f3, f4]
            rfl
          rw [upd_same, List.take_succ, e5, List.map_append, ez]
          rfl
      have ec := col_S el k
      refine ⟨_, rfl, .inl ⟨rfl, _, SqL.of hP10⟩, _, rfl, _, _, rfl, rfl, _, rfl, ?_⟩
      refine ite2 (fun c => ?_) (fun c => ?_)
      · have c : k < 0 := of_decide_eq_true c
        refine ⟨_, rfl, _, rfl, _, _, rfl, rfl, by rw [S_len, S_len, List.length_replicate]; omega, ?_⟩
        rw [S_app]
        refine fin _ ?_
        rw [ec, if_pos c, mn c]
      · have c : ¬ k < 0 := fun z => c (decide_eq_true z)
        refine ⟨_, rfl, _, rfl, _, _, rfl, rfl, by rw [S_len, S_len, List.length_replicate]; omega, ?_⟩
        rw [S_app]
        refine fin _ ?_
        rw [ec, if_neg c, mp c]
    · obtain ⟨⟨x6, x7, x8, x9, rfl⟩, u9, hP9⟩ := p
      rw [List.take_of_length_le (by omega)] at hP9
      have hL9 := u9 _ _ (Ne.symm hPL) hL7
      have ylen : ∀ z ∈ List.zipWith (fun it wd => colT it (intOf wd)) r ws, z.length ≤ 70 := fun z hz => by
        obtain ⟨j, hj⟩ := List.mem_iff_getElem?.mp hz
        rw [List.getElem?_zipWith] at hj
        cases g3 : r[j]? with
        | none => rw [g3] at hj; cases hj
        | some it =>
          cases g4 : ws[j]? with
          | none => rw [g3, g4] at hj; cases hj
          | some wd =>
            rw [g3, g4] at hj
            obtain rfl := Option.some.inj hj
            obtain ⟨k, rfl, k1, k2⟩ := hw wd (List.mem_of_getElem? g4)
            obtain ⟨l, e, _, b⟩ := col_txk (e4 it (List.mem_of_getElem? g3)) k1 k2
            have e : colT it k = S l := V.str.inj e
            show (colT it k).length ≤ 70
            rw [e, S_len]
            exact b
      have sm := sum_le ylen
      refine ⟨_, rfl, .inl ⟨rfl, _, SqL.of hL9⟩, ⟨_, rfl⟩, _, rfl, " ", PT, _, rfl, rfl, .inl (SqL.of hP9), ?_, LN, _, _, rfl, rfl, hL9, ?_, ⟨_, _, _, _, _, _, rfl⟩, fun b2 o nb e => ?_, ?_⟩
      · rw [show (" " : Str).length = 1 from rfl]
        omega
      · rw [List.length_map, List.length_take]
        omega
      · have e8 := u7 b2 o nb e
        rw [upd_ne nb]
        exact u9 b2 o (fun z => by rw [z, nPT] at e8; cases e8) e8
      · rw [upd_same, List.take_succ, e1, List.map_append]
        rfl
  · obtain ⟨⟨x4, x5, x6, x7, x8, x9, rfl⟩, u7, hL7⟩ := p
    rw [← hil, List.take_length] at hL7
    have pen7 : Pen K H7 P L ns t5 r5 := ⟨u7 _ _ (Ne.symm hLP) pen6.pen, u7 _ _ (ne_of_none pen6.ls nLN) pen6.ls, pen.sz, pen6.r0⟩
    have nLN' : ∀ {b o}, H6 b = some o → b ≠ LN := fun {b o} e => ne_of_none e nLN
    have tb7 : Tabs T H7 := by
      have u67 : Same H6 H7 := fun b o e => u7 b o (nLN' e) e
      exact Tabs.same tb6 u67
    have hWT7 := u7 _ _ (nLN' hWT6) hWT6
    have hRT7 := u7 _ _ (nLN' hRT) hRT
    have row7 : ∀ (i : Nat) (v : V), vs[i]? = some v → ∃ a r, its[i]? = some r ∧ v = .ref a ∧ H7 a = some (.tup r) ∧ r.length = ws.length ∧ ∀ it ∈ r, ItK it := fun i v e => by
      obtain ⟨a, r, q1, q2, q3, q4, q5⟩ := hits i v e
      exact ⟨a, r, q1, q2, u7 _ _ (nLN' q3) q3, q4, q5⟩
    have rmem : ∀ r ∈ its, r.length = ws.length ∧ ∀ it ∈ r, ItK it := fun r hr2 => by
      obtain ⟨i, hi⟩ := List.mem_iff_getElem?.mp hr2
      have lt := (List.getElem?_eq_some_iff.mp hi).1
      obtain ⟨a, r2, q1, _, _, q4, q5⟩ := hits i _ (List.getElem?_eq_getElem (l := vs) (i := i) (by omega))
      rw [hi] at q1
      obtain rfl := Option.some.inj q1
      exact ⟨q4, q5⟩
    have htab : TbV K H7 (.ref RT) (some (its.map some)) := by
      refine ⟨RT, vs, rfl, hRT7, by rw [List.length_map]; omega, by rw [List.length_map, hil], fun i v r e1 e2 => ?_⟩
      obtain ⟨a, r2, q1, q2, q3, q4, q5⟩ := row7 i v e1
      rw [List.getElem?_map, q1] at e2
      obtain rfl := Option.some.inj e2
      exact ⟨a, q2, q3, by omega, fun it hit => itk_ty (q5 it hit)⟩
    have hwid : RwV K H7 (.ref WT) (some ws) := ⟨WT, rfl, hWT7, by omega, fun it hit => by
      obtain ⟨k, rfl, _, _⟩ := hw it hit
      exact ⟨"int", by decide, .base (.int _)⟩⟩
    have eR : rowsOf (some (its.map some)) = its := by
      show (its.map some).map (fun r => r.getD []) = its
      rw [List.map_map]
      exact List.map_id its
    have hnone : colsR (some (its.map some)) (some ws) = none := by
      have c1 : tableB (some (its.map some)) = true := by
        show (its.map some).all rowB = true
        rw [List.all_map]
        exact List.all_eq_true.mpr fun r hr2 => List.all_eq_true.mpr fun it hit => itk_is ((rmem r hr2).2 it hit)
      have c2 : (its.map fun r => decide (r.length ≠ ws.length)).any id = false := by
        refine List.any_eq_false.mpr fun b hb => ?_
        obtain ⟨r, hr2, rfl⟩ := List.mem_map.mp hb
        have := (rmem r hr2).1
        simp [this]
      have c3 : (ws.map fun wd => wiV wd (-60) 60).all id = true := by
        refine List.all_eq_true.mpr fun b hb => ?_
        obtain ⟨wd, hwd, rfl⟩ := List.mem_map.mp hb
        obtain ⟨k, rfl, k1, k2⟩ := hw wd hwd
        show (decide (-60 ≤ k) && decide (k ≤ 60)) = true
        rw [decide_eq_true k1, decide_eq_true k2]
        rfl
      unfold colsR
      rw [if_pos c1, eR]
      show (if (its.map fun r => decide (r.length ≠ ws.length)).any id = true then _ else _) = _
      rw [c2, if_neg Bool.false_ne_true, c3, if_pos rfl]
    have hszt : SzT (some (its.map some)) := fun r hr2 it hit _ => by
      rw [eR] at hr2
      exact itk_s ((rmem r hr2).2 it hit)
    have ttx := tab_txk (fun r hr2 => (rmem r hr2).2) hw hwl (show its.length ≤ 4 by omega)
    have rl := repr_txk ttx (by decide)
    refine ⟨fun σ H' => (∃ x1 x2 x3 x4 x5 x6 x7 x8 x9, σ = [some (.ref P), x1, x2, x3, x4, x5, x6, x7, x8, x9, none, none, none, none, none, none, none, none, none]) ∧ Pen K H' P L ns t5 r5 ∧ Tabs T H', ?_, ?_⟩
    · refine ⟨_, rfl, _, rfl, rfl, .ref RT, .ref WT, some (its.map some), some ws, rfl, htab, hwid, hszt, fun z hz2 => ?_, fun _ H' s' => ?_⟩
      · rw [hnone] at hz2
        cases hz2
      · rw [eR]
        refine ⟨_, rfl, rl, ⟨_, rfl⟩, _, rfl, "\n", LN, its.map (rowT ws), rfl, rfl, .inl (SqL.of (by rw [List.map_map]; exact s' _ _ hL7)), ?_, _, rfl, rl, rfl, ?_⟩
        · have sm := sum_le (ys := its.map (rowT ws)) (B := 360) fun z hz2 => by
            obtain ⟨r, hr2, rfl⟩ := List.mem_map.mp hz2
            obtain ⟨l, e, _, b⟩ := row_txk (rmem r hr2).2 hw hwl
            have e : rowT ws r = S l := V.str.inj e
            show (rowT ws r).length ≤ 360
            rw [e, S_len]
            exact b
          rw [List.length_map] at sm ⊢
          rw [show ("\n" : Str).length = 1 from rfl]
          omega
        · refine ⟨false, ?_, iteF ⟨⟨_, _, _, _, _, _, _, _, _, rfl⟩, pen7.same s', Tabs.same tb7 s'⟩⟩
          show V.bl (!decide (V.str (reprText (tabT its ws)) = V.str (reprText (tabT its ws)))) = _
          rw [decide_eq_true rfl]
          rfl
    · rintro σ H' ⟨⟨x1, x2, x3, x4, x5, x6, x7, x8, x9, rfl⟩, pen8, tb8⟩
      clear row7 rmem htab hwid eR hnone hszt ttx rl hWT7 hRT7 hL7 u7 hits hil hv6 hWT6 hRT tb6 tb7 pen6 pen7 nLN' nLN hLP
      refine ⟨by show 2 ≤ sizeLine; omega, fun A1 m1 => ⟨_, rfl, by show 2 ≤ sizeLine; omega, fun A2 m2 => ⟨by show 2 ≤ sizeLine; omega, fun W0 m0 => ⟨_, rfl, by show 2 ≤ sizeLine; omega, fun W3 m3 => ?_⟩⟩⟩⟩
      generalize hX : (upd _ _ _ : Hp) = H8
      have sX : Same H' H8 := by rw [← hX]; repeat (first | exact Same.refl _ | refine Same.trans ?_ (same_upd (by assumption)))
      have kA1 : H8 A1 = some (.tup [.str "a", .int 5]) := by rw [← hX]; repeat (first | exact upd_same | refine same_upd (by assumption) _ _ ?_)
      have kA2 : H8 A2 = some (.tup [.str "", .int (-1)]) := by rw [← hX]; repeat (first | exact upd_same | refine same_upd (by assumption) _ _ ?_)
      have kW0 : H8 W0 = some (.tup [.ref A1, .ref A2]) := by rw [← hX]; repeat (first | exact upd_same | refine same_upd (by assumption) _ _ ?_)
      have kW3 : H8 W3 = some (.tup [.int 3, .int (-3)]) := by rw [← hX]; repeat (first | exact upd_same | refine same_upd (by assumption) _ _ ?_)
      have penX := pen8.same sX
      have tbX : Tabs T H8 := Tabs.same tb8 sX
      clear hX sX m1 m2 m0 m3 pen8 tb8
      refine ⟨_, rfl, P, L, ns, t5, r5, 2, rfl, penX, by omega, ⟨by decide, by decide⟩, fun at_ r9 t9 H9 c0 c1 r90 h9 u9 p9 => ⟨by show 3 ≤ sizeLine; omega, fun U nU => ⟨U, _, rfl, SqT.of upd_same, rfl, _, _, rfl, _, _, rfl, _, _, rfl, rfl, ?_⟩⟩⟩
      have pen9 : Pen K H9 P L ns t9 r9 := ⟨p9, u9 _ _ pen.ne penX.ls, pen.sz, r90⟩
      have tb9 : Tabs T H9 := Tabs.upD tbX u9 penX.pen
      replace kA1 := STup.ofU u9 penX.pen _ _ kA1
      replace kA2 := STup.ofU u9 penX.pen _ _ kA2
      replace kW0 := STup.ofU u9 penX.pen _ _ kW0
      replace kW3 := STup.ofU u9 penX.pen _ _ kW3
      -- an odd thing
      refine ⟨_, rfl, by show 1 ≤ sizeLine; omega, fun O1 q1 => ⟨by show 1 ≤ sizeLine; omega, fun O2 q2 => fun O3 q3 => ⟨by show 5 ≤ sizeLine; omega, fun Z nZ => ?_⟩⟩⟩
      show spPick K [.ref P, .ref Z] _ _ (noE [])
      generalize hX : (upd _ _ _ : Hp) = H10
      have sX : Same H9 H10 := by rw [← hX]; repeat (first | exact Same.refl _ | refine Same.trans ?_ (same_upd (by assumption)))
      have kO1 : H10 O1 = some (.tup [.str "a"]) := by rw [← hX]; repeat (first | exact upd_same | refine same_upd (by assumption) _ _ ?_)
      have kO2 : H10 O2 = some (.lst [.str "a"]) := by rw [← hX]; repeat (first | exact upd_same | refine same_upd (by assumption) _ _ ?_)
      have kO3 : H10 O3 = some (.dK []) := by rw [← hX]; repeat (first | exact upd_same | refine same_upd (by assumption) _ _ ?_)
      have kZ : H10 Z = some (.lst [.non, .bl true, .ref O1, .ref O2, .ref O3]) := by rw [← hX]; repeat (first | exact upd_same | refine same_upd (by assumption) _ _ ?_)
      have penX := pen9.same sX
      have tbX : Tabs T H10 := Tabs.same tb9 sX
      replace kA1 := sX _ _ kA1
      replace kA2 := sX _ _ kA2
      replace kW0 := sX _ _ kW0
      replace kW3 := sX _ _ kW3
      have noP : ∀ {b : Addr}, H9 b = none → b ≠ P := fun {b} e z => by rw [z, p9] at e; cases e
      have hZP : Z ≠ P := fun z => by rw [z, penX.pen] at kZ; have y := HO.lst.inj (Option.some.inj kZ); cases y
      have hO1 : V.ref O1 ≠ .ref P := fun z => by rw [V.ref.inj z, penX.pen] at kO1; cases kO1
      have hO2 : V.ref O2 ≠ .ref P := fun z => by rw [V.ref.inj z, penX.pen] at kO2; have y := HO.lst.inj (Option.some.inj kO2); cases y
      have hO3 : V.ref O3 ≠ .ref P := fun z => by rw [V.ref.inj z, penX.pen] at kO3; cases kO3
      clear hX sX nU q1 q2 q3 nZ
      refine ⟨P, L, ns, t9, r9, .ref Z, rfl, penX, by omega, .inl ⟨Z, _, rfl, kZ, hZP, by show 0 < 5; decide, by show 5 < 1073741824; decide, fun od hod H11 o11 => ?_⟩⟩
      have hod : (isIt od = false ∧ od ≠ .ref P) ∧ Ty7 K H11 od := by
        simp only [List.mem_cons, List.not_mem_nil, or_false] at hod
        rcases hod with h | h | h | h | h <;> rw [h]
        · exact ⟨⟨rfl, fun z => by cases z⟩, "NoneType", by decide, .base .non⟩
        · exact ⟨⟨rfl, fun z => by cases z⟩, "bool", by decide, .base (.bl _)⟩
        · exact ⟨⟨rfl, hO1⟩, "tuple", by decide, tyx_upD (.base (.tup kO1)) o11.1 hO1⟩
        · exact ⟨⟨rfl, hO2⟩, "list", by decide, tyx_upD (.base (.lst kO2)) o11.1 hO2⟩
        · exact ⟨⟨rfl, hO3⟩, "dict", by decide, tyx_upD (.base (.dK kO3)) o11.1 hO3⟩
      obtain ⟨⟨hod1, hod2⟩, hod3⟩ := hod
      obtain ⟨t11, r11, pen11, h11⟩ := o11.pen penX
      have tb11 : Tabs T H11 := Tabs.upD tbX o11.1 penX.pen
      replace kA1 := STup.ofU o11.1 penX.pen _ _ kA1
      replace kA2 := STup.ofU o11.1 penX.pen _ _ kA2
      replace kW0 := STup.ofU o11.1 penX.pen _ _ kW0
      replace kW3 := STup.ofU o11.1 penX.pen _ _ kW3
      clear kO1 kO2 kO3 kZ hO1 hO2 hO3 hZP noP
      -- tables that are none
      refine ⟨_, rfl, W0, _, rfl, .inr (SqT.of kW0), fun B1 b1 => ⟨by show 2 ≤ sizeLine; omega, fun B2 b2 => ⟨_, rfl, by show 2 ≤ sizeLine; omega, fun B3 b3 => ⟨by show 2 ≤ sizeLine; omega, fun B4 b4 => ⟨by show 2 ≤ sizeLine; omega, fun B5 b5 => ⟨by show 1 ≤ sizeLine; omega, fun B6 b6 => ⟨by show 2 ≤ sizeLine; omega, fun B7 b7 => ⟨by show 3 ≤ sizeLine; omega, fun B8 b8 => ⟨_, rfl, by show 2 ≤ sizeLine; omega, fun B9 b9 => ⟨by show 2 ≤ sizeLine; omega, fun B10 b10 => ⟨by show 6 ≤ sizeLine; omega, fun SM nSM => ?_⟩⟩⟩⟩⟩⟩⟩⟩⟩⟩⟩
      generalize hX : (upd _ _ _ : Hp) = H12
      have sX : Same H11 H12 := by rw [← hX]; repeat (first | exact Same.refl _ | refine Same.trans ?_ (same_upd (by assumption)))
      have kB1 : H12 B1 = some (.lst [.ref A1, .ref A2]) := by rw [← hX]; repeat (first | exact upd_same | refine same_upd (by assumption) _ _ ?_)
      have kB2 : H12 B2 = some (.lst [.str "a", .int 5]) := by rw [← hX]; repeat (first | exact upd_same | refine same_upd (by assumption) _ _ ?_)
      have kB3 : H12 B3 = some (.tup [.str "", .int (-1)]) := by rw [← hX]; repeat (first | exact upd_same | refine same_upd (by assumption) _ _ ?_)
      have kB4 : H12 B4 = some (.tup [.ref B2, .ref B3]) := by rw [← hX]; repeat (first | exact upd_same | refine same_upd (by assumption) _ _ ?_)
      have kB5 : H12 B5 = some (.tup [.str "a", .int 5]) := by rw [← hX]; repeat (first | exact upd_same | refine same_upd (by assumption) _ _ ?_)
      have kB6 : H12 B6 = some (.tup [.str ""]) := by rw [← hX]; repeat (first | exact upd_same | refine same_upd (by assumption) _ _ ?_)
      have kB7 : H12 B7 = some (.tup [.ref B5, .ref B6]) := by rw [← hX]; repeat (first | exact upd_same | refine same_upd (by assumption) _ _ ?_)
      have kB8 : H12 B8 = some (.tup [.str "a", .int 5, .int 6]) := by rw [← hX]; repeat (first | exact upd_same | refine same_upd (by assumption) _ _ ?_)
      have kB9 : H12 B9 = some (.tup [.str "", .int (-1)]) := by rw [← hX]; repeat (first | exact upd_same | refine same_upd (by assumption) _ _ ?_)
      have kB10 : H12 B10 = some (.tup [.ref B8, .ref B9]) := by rw [← hX]; repeat (first | exact upd_same | refine same_upd (by assumption) _ _ ?_)
      have kSM : H12 SM = some (.lst [.non, .ref B1, .str "ab", .ref B4, .ref B7, .ref B10]) := by rw [← hX]; repeat (first | exact upd_same | refine same_upd (by assumption) _ _ ?_)
      have pen12 := pen11.same sX
      have tb12 : Tabs T H12 := Tabs.same tb11 sX
      have hod4 := hod3.same sX
      replace kA1 := sX _ _ kA1
      replace kA2 := sX _ _ kA2
      replace kW0 := sX _ _ kW0
      replace kW3 := sX _ _ kW3
      clear hX sX b1 b2 b3 b4 b5 b6 b7 b8 b9 b10 nSM hod3 penX tbX pen9 tb9
      -- one more: a row with the odd thing
      obtain ⟨j, ej, AT, z, w5, hj, kAT, hzl⟩ : ∃ (j : Nat), at_ = ((j : Nat) : Int) ∧ ∃ (AT : Addr) (z : Str) (w5 : Int), [V.ref A1, V.ref A2][j]? = some (.ref AT) ∧ H12 AT = some (.tup [.str z, .int w5]) ∧ z.length ≤ 1000 := by
        have : at_ = 0 ∨ at_ = 1 := by omega
        rcases this with h | h
        · exact ⟨0, h, A1, _, _, rfl, kA1, by decide⟩
        · exact ⟨1, h, A2, _, _, rfl, kA2, by decide⟩
      have ecut : cutV [V.str z, V.int w5] none (some 1) = [V.str z] := rfl
      refine ⟨_, rfl, _, rfl, _, rfl, _, rfl, W0, _, _, _, rfl, rfl, SqT.of kW0, by rw [ej]; exact atI_nat hj, _, rfl, AT, _, rfl, SqT.of kAT, fun y => absurd y.2 (show ¬ HT.sIx 2 2 (some 1) = 2 by decide), fun C1 c1' => ?_⟩
      rw [ecut]
      refine ⟨_, rfl, by show 1 ≤ sizeLine; omega, fun C2 c2' => ⟨C1, C2, _, _, rfl, rfl, SqT.of (same_upd c2' _ _ upd_same), SqT.of upd_same, fun y => (by cases y), by show 1 + 1 ≤ sizeLine; omega, fun y => (by cases y), fun _ C3 c3' => ?_⟩⟩
      refine ⟨_, rfl, W0, _, _, _, rfl, rfl, SqT.of (same_upd c3' _ _ (same_upd c2' _ _ (same_upd c1' _ _ kW0))), rfl, by show 2 ≤ sizeLine; omega, fun C4 c4' => ⟨by show 1 ≤ sizeLine; omega, fun C5 c5' => ?_⟩⟩
      refine ⟨SM, C5, _, _, rfl, rfl, by repeat (first | exact kSM | refine same_upd (by assumption) _ _ ?_), upd_same, by show 6 + 1 ≤ sizeLine; omega, fun C6 c6' => ?_⟩
      show spPick K [.ref P, .ref C6] _ _ (noE [])
      generalize hX : (upd _ _ _ : Hp) = H13
      have sX : Same H12 H13 := by rw [← hX]; repeat (first | exact Same.refl _ | refine Same.trans ?_ (same_upd (by assumption)))
      have kC3 : H13 C3 = some (.tup [.str z, od]) := by rw [← hX]; repeat (first | exact upd_same | refine same_upd (by assumption) _ _ ?_)
      have kC4 : H13 C4 = some (.tup [.ref C3, .ref A2]) := by rw [← hX]; repeat (first | exact upd_same | refine same_upd (by assumption) _ _ ?_)
      have kC6 : H13 C6 = some (.lst [.non, .ref B1, .str "ab", .ref B4, .ref B7, .ref B10, .ref C4]) := by rw [← hX]; repeat (first | exact upd_same | refine same_upd (by assumption) _ _ ?_)
      have penX := pen12.same sX
      have tbX : Tabs T H13 := Tabs.same tb12 sX
      replace hod4 := hod4.same sX
      replace kA1 := sX _ _ kA1
      replace kA2 := sX _ _ kA2
      replace kW0 := sX _ _ kW0
      replace kW3 := sX _ _ kW3
      replace kB3 := sX _ _ kB3
      replace kB4 := sX _ _ kB4
      replace kB5 := sX _ _ kB5
      replace kB6 := sX _ _ kB6
      replace kB7 := sX _ _ kB7
      replace kB8 := sX _ _ kB8
      replace kB9 := sX _ _ kB9
      replace kB10 := sX _ _ kB10
      replace kB1 := sX _ _ kB1
      replace kB2 := sX _ _ kB2
      have hC6 : C6 ≠ P := fun z => by rw [z, penX.pen] at kC6; have y := HO.lst.inj (Option.some.inj kC6); cases y
      have hB1 : B1 ≠ P := fun z => by rw [z, penX.pen] at kB1; have y := HO.lst.inj (Option.some.inj kB1); cases y
      have hB2 : B2 ≠ P := fun z => by rw [z, penX.pen] at kB2; have y := HO.lst.inj (Option.some.inj kB2); cases y
      clear hX sX c1' c2' c3' c4' c5' c6' kSM kAT pen12 tb12
      refine ⟨P, L, ns, t11, r11, .ref C6, rfl, penX, by omega, .inl ⟨C6, _, rfl, kC6, hC6, by show 0 < 7; decide, by show 7 < 1073741824; decide, fun bad hbad H14 o14 => ?_⟩⟩
      obtain ⟨t14, r14, pen14, h14⟩ := o14.pen penX
      have tb14 : Tabs T H14 := Tabs.upD tbX o14.1 penX.pen
      replace kA1 := STup.ofU o14.1 penX.pen _ _ kA1
      replace kA2 := STup.ofU o14.1 penX.pen _ _ kA2
      replace kW0 := STup.ofU o14.1 penX.pen _ _ kW0
      replace kW3 := STup.ofU o14.1 penX.pen _ _ kW3
      replace kB3 := STup.ofU o14.1 penX.pen _ _ kB3
      replace kB4 := STup.ofU o14.1 penX.pen _ _ kB4
      replace kB5 := STup.ofU o14.1 penX.pen _ _ kB5
      replace kB6 := STup.ofU o14.1 penX.pen _ _ kB6
      replace kB7 := STup.ofU o14.1 penX.pen _ _ kB7
      replace kB8 := STup.ofU o14.1 penX.pen _ _ kB8
      replace kB9 := STup.ofU o14.1 penX.pen _ _ kB9
      replace kB10 := STup.ofU o14.1 penX.pen _ _ kB10
      replace kC3 := STup.ofU o14.1 penX.pen _ _ kC3
      replace kC4 := STup.ofU o14.1 penX.pen _ _ kC4
      replace kB1 := o14.1 _ _ hB1 kB1
      replace kB2 := o14.1 _ _ hB2 kB2
      obtain ⟨mo, hmo, tyo⟩ := hod4
      replace tyo := tyx_upD tyo o14.1 hod2
      clear kC6 hC6 penX tbX
      -- widths that are none
      refine ⟨_, rfl, _, rfl, by show 2 ≤ sizeLine; omega, fun D1 d1 => ⟨by show 2 ≤ sizeLine; omega, fun D2 d2 => ⟨_, rfl, by show 2 ≤ sizeLine; omega, fun D3 d3 => ⟨by show 2 ≤ sizeLine; omega, fun D4 d4 => ⟨by show 2 ≤ sizeLine; omega, fun D5 d5 => ⟨by show 2 ≤ sizeLine; omega, fun D6 d6 => ⟨by show 8 ≤ sizeLine; omega, fun Z nZ => ?_⟩⟩⟩⟩⟩⟩⟩
      show spPick K [.ref P, .ref Z] _ _ (noE [])
      generalize hX : (upd _ _ _ : Hp) = H15
      have sX : Same H14 H15 := by rw [← hX]; repeat (first | exact Same.refl _ | refine Same.trans ?_ (same_upd (by assumption)))
      have kD1 : H15 D1 = some (.lst [.int 3, .int (-3)]) := by rw [← hX]; repeat (first | exact upd_same | refine same_upd (by assumption) _ _ ?_)
      have kD2 : H15 D2 = some (.tup [.int 3, .int 61]) := by rw [← hX]; repeat (first | exact upd_same | refine same_upd (by assumption) _ _ ?_)
      have kD3 : H15 D3 = some (.tup [.int (-61), .int 3]) := by rw [← hX]; repeat (first | exact upd_same | refine same_upd (by assumption) _ _ ?_)
      have kD4 : H15 D4 = some (.tup [.bl true, .int 3]) := by rw [← hX]; repeat (first | exact upd_same | refine same_upd (by assumption) _ _ ?_)
      have kD5 : H15 D5 = some (.tup [.str "3", .int 3]) := by rw [← hX]; repeat (first | exact upd_same | refine same_upd (by assumption) _ _ ?_)
      have kD6 : H15 D6 = some (.tup [.int 3, .non]) := by rw [← hX]; repeat (first | exact upd_same | refine same_upd (by assumption) _ _ ?_)
      have kZ : H15 Z = some (.lst [.non, .ref D1, .ref D2, .ref D3, .ref D4, .ref D5, .ref D6, .int 3]) := by rw [← hX]; repeat (first | exact upd_same | refine same_upd (by assumption) _ _ ?_)
      have penX := pen14.same sX
      have tbX : Tabs T H15 := Tabs.same tb14 sX
      replace tyo := tyx_same tyo sX
      replace kA1 := sX _ _ kA1
      replace kA2 := sX _ _ kA2
      replace kW0 := sX _ _ kW0
      replace kW3 := sX _ _ kW3
      replace kB3 := sX _ _ kB3
      replace kB4 := sX _ _ kB4
      replace kB5 := sX _ _ kB5
      replace kB6 := sX _ _ kB6
      replace kB7 := sX _ _ kB7
      replace kB8 := sX _ _ kB8
      replace kB9 := sX _ _ kB9
      replace kB10 := sX _ _ kB10
      replace kB1 := sX _ _ kB1
      replace kB2 := sX _ _ kB2
      replace kC3 := sX _ _ kC3
      replace kC4 := sX _ _ kC4
      have hZ : Z ≠ P := fun z => by rw [z, penX.pen] at kZ; have y := HO.lst.inj (Option.some.inj kZ); cases y
      have hD1 : D1 ≠ P := fun z => by rw [z, penX.pen] at kD1; have y := HO.lst.inj (Option.some.inj kD1); cases y
      clear hX sX d1 d2 d3 d4 d5 d6 nZ pen14 tb14
      refine ⟨P, L, ns, t14, r14, .ref Z, rfl, penX, by omega, .inl ⟨Z, _, rfl, kZ, hZ, by show 0 < 8; decide, by show 8 < 1073741824; decide, fun wr hwr H16 o16 => ?_⟩⟩
      obtain ⟨t16, r16, pen16, h16⟩ := o16.pen penX
      have tb16 : Tabs T H16 := Tabs.upD tbX o16.1 penX.pen
      replace kA1 := STup.ofU o16.1 penX.pen _ _ kA1
      replace kA2 := STup.ofU o16.1 penX.pen _ _ kA2
      replace kW0 := STup.ofU o16.1 penX.pen _ _ kW0
      replace kW3 := STup.ofU o16.1 penX.pen _ _ kW3
      replace kB3 := STup.ofU o16.1 penX.pen _ _ kB3
      replace kB4 := STup.ofU o16.1 penX.pen _ _ kB4
      replace kB5 := STup.ofU o16.1 penX.pen _ _ kB5
      replace kB6 := STup.ofU o16.1 penX.pen _ _ kB6
      replace kB7 := STup.ofU o16.1 penX.pen _ _ kB7
      replace kB8 := STup.ofU o16.1 penX.pen _ _ kB8
      replace kB9 := STup.ofU o16.1 penX.pen _ _ kB9
      replace kB10 := STup.ofU o16.1 penX.pen _ _ kB10
      replace kC3 := STup.ofU o16.1 penX.pen _ _ kC3
      replace kC4 := STup.ofU o16.1 penX.pen _ _ kC4
      replace kD2 := STup.ofU o16.1 penX.pen _ _ kD2
      replace kD3 := STup.ofU o16.1 penX.pen _ _ kD3
      replace kD4 := STup.ofU o16.1 penX.pen _ _ kD4
      replace kD5 := STup.ofU o16.1 penX.pen _ _ kD5
      replace kD6 := STup.ofU o16.1 penX.pen _ _ kD6
      replace kB1 := o16.1 _ _ hB1 kB1
      replace kB2 := o16.1 _ _ hB2 kB2
      replace kD1 := o16.1 _ _ hD1 kD1
      replace tyo := tyx_upD tyo o16.1 hod2
      clear kZ hZ penX tbX
      have hwhole : TbV K H16 (.ref W0) wholeT := tb_two kW0 (rw_tup kA1 (by decide) (all2 (ty7_str _) (ty7_int _))) (rw_tup kA2 (by decide) (all2 (ty7_str _) (ty7_int _)))
      have hwide : RwV K H16 (.ref W3) wideU := rw_tup kW3 (by decide) (all2 (ty7_int _) (ty7_int _))
      have szw : SzT wholeT := sz_of (by decide +kernel)
      have hb : ∃ t, TbV K H16 bad t ∧ SzT t ∧ colsR t wideU = some ("rows" : Str) := by
        simp only [List.mem_cons, List.not_mem_nil, or_false] at hbad
        rcases hbad with h | h | h | h | h | h | h <;> rw [h]
        · exact ⟨none, ⟨"NoneType", by decide, by decide, .base .non⟩, sz_of (by decide +kernel), by decide +kernel⟩
        · exact ⟨none, ⟨"list", by decide, by decide, .base (.lst kB1)⟩, sz_of (by decide +kernel), by decide +kernel⟩
        · exact ⟨none, ⟨"str", by decide, by decide, .base (.str _)⟩, sz_of (by decide +kernel), by decide +kernel⟩
        · exact ⟨some [none, some [.str "", .int (-1)]], tb_two kB4 ⟨"list", by decide, by decide, .base (.lst kB2)⟩ (rw_tup kB3 (by decide) (all2 (ty7_str _) (ty7_int _))), sz_of (by decide +kernel), by decide +kernel⟩
        · exact ⟨some [some [.str "a", .int 5], some [.str ""]], tb_two kB7 (rw_tup kB5 (by decide) (all2 (ty7_str _) (ty7_int _))) (rw_tup kB6 (by decide) (all1 (ty7_str _))), sz_of (by decide +kernel), by decide +kernel⟩
        · exact ⟨some [some [.str "a", .int 5, .int 6], some [.str "", .int (-1)]], tb_two kB10 (rw_tup kB8 (by decide) (all3 (ty7_str _) (ty7_int _) (ty7_int _))) (rw_tup kB9 (by decide) (all2 (ty7_str _) (ty7_int _))), sz_of (by decide +kernel), by decide +kernel⟩
        · refine ⟨some [some [.str z, od], some [.str "", .int (-1)]], tb_two kC4 (rw_tup kC3 (by show 2 ≤ 100; decide) (all2 (ty7_str _) ⟨mo, hmo, tyo⟩)) (rw_tup kA2 (by decide) (all2 (ty7_str _) (ty7_int _))), ?_, ?_⟩
          · intro its hi it hit hb
            have hi : its ∈ [[V.str z, od], [.str "", .int (-1)]] := hi
            rcases List.mem_cons.mp hi with e | e
            · rw [e] at hit
              rcases List.mem_cons.mp hit with e2 | e2
              · rw [e2]; exact hzl
              · rw [List.mem_singleton.mp e2, hod1] at hb; cases hb
            · rw [List.mem_singleton.mp e] at hit
              rcases List.mem_cons.mp hit with e2 | e2
              · rw [e2]; exact (by decide : ("" : Str).length ≤ 1000)
              · rw [List.mem_singleton.mp e2]; exact ⟨by decide, by decide +kernel⟩
          · unfold colsR
            rw [if_neg]
            show ¬ ([some [V.str z, od], some [.str "", .int (-1)]].all rowB = true)
            simp [rowB, hod1]
      obtain ⟨tB, hb1, hb2, hb3⟩ := hb
      refine heard_two (T := T) rfl rfl hb1 hwide hb2 hb3 tb16 fun R1 H17 e17 tb17 hR1 => ⟨by show 1 ≤ sizeLine; omega, fun HL nHL => ?_⟩
      have kHL := upd_same (H := H17) (a := HL) (o := .lst [.ref R1])
      have s18 : Same H17 (upd H17 HL (.lst [.ref R1])) := same_upd nHL
      have hR1' := s18 _ _ hR1
      have hHP : HL ≠ P := fun y => by rw [y, (pen16.extN e17).pen] at nHL; cases nHL
      have eX := e17.trans (ExtN.of s18)
      have tbX := Tabs.same tb17 s18
      show tSeq _ _ _ _ (upd H17 HL (.lst [.ref R1]))
      generalize upd H17 HL (.lst [.ref R1]) = H18 at kHL s18 hR1' eX tbX ⊢
      have pen18 := pen16.extN eX
      have tupX : ∀ {b : Addr} {xs : List V}, H16 b = some (.tup xs) → H18 b = some (.tup xs) := fun e => eX _ _ e fun _ y => (by cases y)
      replace kD1 := eX _ _ kD1 fun _ y => (by cases y)
      have hDH : D1 ≠ HL := fun y => by rw [y, kHL] at kD1; have q := HO.lst.inj (Option.some.inj kD1); cases q
      replace hwhole := hwhole.ext eX
      obtain ⟨uw, hu1, hu2⟩ := wr_none kD1 (tupX kD2) (tupX kD3) (tupX kD4) (tupX kD5) (tupX kD6) hwr
      refine ⟨_, rfl, .inl ⟨rfl, _, SqL.of kHL⟩, heard_two (T := T) rfl rfl hwhole hu1 szw hu2 tbX fun R2 H19 e19 tb19 hR2 => ⟨HL, _, _, rfl, rfl, e19 _ _ kHL fun _ y => (by cases y), by show 1 < sizeLine; omega, ?_⟩⟩
      have hHL19 := e19 _ _ kHL fun _ y => (by cases y)
      have uP : UpD HL H19 (upd H19 HL (.lst ([V.ref R1] ++ [V.ref R2]))) := UpD.put fun b o _ e => e
      have tb20 : Tabs T (upd H19 HL (.lst ([V.ref R1] ++ [V.ref R2]))) := Tabs.upD tb19 uP hHL19
      have pen19 := pen18.extN e19
      have pen20 : Pen K (upd H19 HL (.lst ([V.ref R1] ++ [V.ref R2]))) P L ns t16 r16 := ⟨uP _ _ (Ne.symm hHP) pen19.pen, uP _ _ (fun y => by
        have q1 := pen16.ls
        have q2 := eX _ _ q1 fun _ y => (by cases y)
        have q3 := e17 _ _ q1 fun _ y => (by cases y)
        rw [y, nHL] at q3
        cases q3) pen19.ls, pen.sz, pen19.r0⟩
      have tup20 : ∀ {b : Addr} {xs : List V}, H18 b = some (.tup xs) → (upd H19 HL (.lst ([V.ref R1] ++ [V.ref R2]))) b = some (.tup xs) := fun e => STup.ofU uP hHL19 _ _ (e19 _ _ e fun _ y => (by cases y))
      have jR1 := tup20 hR1'
      have jR2 := STup.ofU uP hHL19 _ _ hR2
      have jHL := upd_same (H := H19) (a := HL) (o := .lst ([V.ref R1] ++ [V.ref R2]))
      have jD1 := uP _ _ hDH (e19 _ _ kD1 fun _ y => (by cases y))
      have jD2 := tup20 (tupX kD2)
      have jD3 := tup20 (tupX kD3)
      have jD4 := tup20 (tupX kD4)
      have jD5 := tup20 (tupX kD5)
      have jD6 := tup20 (tupX kD6)
      have jA1 := tup20 (tupX kA1)
      have jA2 := tup20 (tupX kA2)
      have jW0 := tup20 (tupX kW0)
      have jW3 := tup20 (tupX kW3)
      show tSeq _ _ _ _ (upd H19 HL (.lst ([V.ref R1] ++ [V.ref R2])))
      generalize upd H19 HL (.lst ([V.ref R1] ++ [V.ref R2])) = H20 at tb20 pen20 jR1 jR2 jHL jD1 jD2 jD3 jD4 jD5 jD6 jA1 jA2 jW0 jW3 ⊢
      clear tup20 tupX uP hHL19 hu1 hu2 hwhole hb1 hb2 hb3 kA1 kA2 kW0 kW3 kD1 kD2 kD3 kD4 kD5 kD6 hwide
      refine ⟨_, rfl, .inl ⟨rfl, _, SqL.of jHL⟩, heard_gen (T := T) (z := ("rows" : Str)) (fun H2 => UpN P H20 H2 ∧ ∃ t r, Pen K H2 P L ns t r ∧ t ≤ t16 + 1) tb20 (fun H0 e0 tb0 k hk => ?_) fun R3 H2 H3 rl tb2 s3 hR3 => ?_⟩
      · refine pickV [.non, .int 5, .str "a"] rfl (pen20.extN e0) (by omega) (by decide) (by decide) fun y hy H2 o2 => ?_
        obtain ⟨t2', r2', pen2', h2''⟩ := o2.pen (pen20.extN e0)
        have uN : UpN P H20 H2 := (UpN.ofE e0).trans (UpN.ofD o2.1)
        have hD1P : D1 ≠ P := fun y => by rw [y, pen20.pen] at jD1; have q := HO.lst.inj (Option.some.inj jD1); cases q
        obtain ⟨u2, g1, g2⟩ := wr_none (uN.lst hD1P jD1) (uN.tup pen20.pen jD2) (uN.tup pen20.pen jD3) (uN.tup pen20.pen jD4) (uN.tup pen20.pen jD5) (uN.tup pen20.pen jD6) hwr
        refine ⟨_, rfl, hk y wr none u2 H2 ⟨uN, t2', r2', pen2', h2''⟩ (Tabs.upD tb0 o2.1 (pen20.extN e0).pen) ?_ g1 (sz_of (by decide +kernel)) ?_⟩
        · simp only [List.mem_cons, List.not_mem_nil, or_false] at hy
          rcases hy with h | h | h <;> rw [h]
          · exact ⟨"NoneType", by decide, by decide, .base .non⟩
          · exact ⟨"int", by decide, by decide, .base (.int _)⟩
          · exact ⟨"str", by decide, by decide, .base (.str _)⟩
        · unfold colsR
          rw [if_neg (show ¬ (tableB none = true) from Bool.false_ne_true)]
      · obtain ⟨uN, t2', r2', pen2', h2''⟩ := rl
        have gHL := s3 _ _ (uN.lst hHP jHL)
        refine ⟨HL, _, _, rfl, rfl, gHL, by show 2 < sizeLine; omega, ?_⟩
        have uF : UpD HL H3 (upd H3 HL (.lst ([V.ref R1] ++ [V.ref R2] ++ [V.ref R3]))) := UpD.put fun b o _ e => e
        have tbF : Tabs T (upd H3 HL (.lst ([V.ref R1] ++ [V.ref R2] ++ [V.ref R3]))) := Tabs.upD (Tabs.same tb2 s3) uF gHL
        have penF : Pen K (upd H3 HL (.lst ([V.ref R1] ++ [V.ref R2] ++ [V.ref R3]))) P L ns t2' r2' := by
          have p3 := pen2'.same s3
          refine ⟨uF _ _ (Ne.symm hHP) p3.pen, uF _ _ (fun y => ?_) p3.ls, pen.sz, p3.r0⟩
          have q1 := pen16.ls
          have q3 := e17 _ _ q1 fun _ y => (by cases y)
          rw [y, nHL] at q3
          cases q3
        have tupF : ∀ {b : Addr} {xs : List V}, H20 b = some (.tup xs) → (upd H3 HL (.lst ([V.ref R1] ++ [V.ref R2] ++ [V.ref R3]))) b = some (.tup xs) := fun e => STup.ofU uF gHL _ _ (s3 _ _ (uN.tup pen20.pen e))
        have wR1 := tupF jR1
        have wR2 := tupF jR2
        have wR3 := STup.ofU uF gHL _ _ hR3
        have wA1 := tupF jA1
        have wA2 := tupF jA2
        have wW0 := tupF jW0
        have wW3 := tupF jW3
        have wHL := upd_same (H := H3) (a := HL) (o := .lst ([V.ref R1] ++ [V.ref R2] ++ [V.ref R3]))
        generalize upd H3 HL (.lst ([V.ref R1] ++ [V.ref R2] ++ [V.ref R3])) = H21 at tbF penF wR1 wR2 wR3 wA1 wA2 wW0 wW3 wHL ⊢
        clear tupF uF gHL
        refine ⟨_, rfl, by show 2 ≤ sizeLine; omega, fun E1 e1 => ⟨by show 2 ≤ sizeLine; omega, fun E2 e2 => ⟨by show 2 ≤ sizeLine; omega, fun E3 e3 => ⟨by show 3 ≤ sizeLine; omega, fun E4 e4 => ?_⟩⟩⟩⟩
        generalize hX : (upd _ _ _ : Hp) = H22
        have sX : Same H21 H22 := by rw [← hX]; repeat (first | exact Same.refl _ | refine Same.trans ?_ (same_upd (by assumption)))
        have k1 : H22 E1 = some (.tup [.str "value", .str "rows"]) := by rw [← hX]; repeat (first | exact upd_same | refine same_upd (by assumption) _ _ ?_)
        have k2 : H22 E2 = some (.tup [.str "value", .str "widths"]) := by rw [← hX]; repeat (first | exact upd_same | refine same_upd (by assumption) _ _ ?_)
        have k3 : H22 E3 = some (.tup [.str "value", .str "rows"]) := by rw [← hX]; repeat (first | exact upd_same | refine same_upd (by assumption) _ _ ?_)
        have k4 : H22 E4 = some (.lst [.ref E1, .ref E2, .ref E3]) := by rw [← hX]; repeat (first | exact upd_same | refine same_upd (by assumption) _ _ ?_)
        have dd : ∀ {a b c d : Addr}, H22 d = some (.lst [.ref a, .ref b, .ref c]) → H22 a = some (.tup [.str "value", .str "rows"]) → H22 b = some (.tup [.str "value", .str "widths"]) → H22 c = some (.tup [.str "value", .str "rows"]) → Dp K H22 (.ref d) (.list [.tuple [.str "value", .str "rows"], .tuple [.str "value", .str "widths"], .tuple [.str "value", .str "rows"]]) := fun h ha hb hc =>
          .lst (SqL.of h) (.cons (dp2 ha) (.cons (dp2 hb) (.cons (dp2 hc) .nil)))
        refine ⟨_, _, dd (sX _ _ wHL) (sX _ _ wR1) (sX _ _ wR2) (sX _ _ wR3), dd k4 k1 k2 k3, by decide +kernel, by decide +kernel, ?_⟩
        rw [SeqAt.eqv_refl _ (by decide +kernel)]
        have hc : colsR wholeT wideU = none := by decide +kernel
        have szw2 : SzT wholeT := sz_of (by decide +kernel)
        refine ⟨_, rfl, iteT ⟨_, rfl, _, rfl, .ref W0, .ref W3, wholeT, wideU, rfl, tb_two (sX _ _ wW0) (rw_tup (sX _ _ wA1) (by decide) (all2 (ty7_str _) (ty7_int _))) (rw_tup (sX _ _ wA2) (by decide) (all2 (ty7_str _) (ty7_int _))), rw_tup (sX _ _ wW3) (by decide) (all2 (ty7_int _) (ty7_int _)), szw2, fun z hz2 => ?_, fun _ H23 s23 => ⟨rfl, ?_⟩⟩⟩
        · rw [hc] at hz2
          cases hz2
        · have et : tabT (rowsOf wholeT) (wideU.getD []) = ("  a 5  
    -1 " : Str) := by decide +kernel
          rw [et, decide_eq_true rfl]
          exact q H23 t2' r2' (penF.same (sX.trans s23)) (by omega) (Tabs.same tbF (sX.trans s23))
end
end Q7
set_option maxHeartbeats 8000000
namespace Q7
open PySem PySem.Spec PyProof.Rows L2 SX LamX
/-! ### _law_widths_right -/
abbrev Nv : List Str := ["_law_pen_here", "_law_rows", "_law_wrong", "_law_heard_here"]
theorem tb_one {K : PySem.W.Frag} {H : Hp} {T0 : Addr} {x : V} {r1 : Option (List V)} (h0 : H T0 = some (.tup [x])) (hx : RwV K H x r1) : TbV K H (.ref T0) (some [r1]) := by
  refine ⟨T0, _, rfl, h0, by show 1 ≤ 100; decide, rfl, fun i v r e1 e2 => ?_⟩
  match i, e1, e2 with
  | 0, e1, e2 =>
    obtain rfl := Option.some.inj e1
    obtain rfl := Option.some.inj e2
    exact hx
theorem tb_three {K : PySem.W.Frag} {H : Hp} {T0 : Addr} {x y z : V} {r1 r2 r3 : Option (List V)} (h0 : H T0 = some (.tup [x, y, z])) (hx : RwV K H x r1) (hy : RwV K H y r2) (hz : RwV K H z r3) : TbV K H (.ref T0) (some [r1, r2, r3]) := by
  refine ⟨T0, _, rfl, h0, by show 3 ≤ 100; decide, rfl, fun i v r e1 e2 => ?_⟩
  match i, e1, e2 with
  | 0, e1, e2 =>
    obtain rfl := Option.some.inj e1
    obtain rfl := Option.some.inj e2
    exact hx
  | 1, e1, e2 =>
    obtain rfl := Option.some.inj e1
    obtain rfl := Option.some.inj e2
    exact hy
  | 2, e1, e2 =>
    obtain rfl := Option.some.inj e1
    obtain rfl := Option.some.inj e2
    exact hz
theorem tb_nil {K : PySem.W.Frag} {H : Hp} {T0 : Addr} (h0 : H T0 = some (.tup [])) : TbV K H (.ref T0) (some []) := ⟨T0, [], rfl, h0, by show 0 ≤ 100; decide, rfl, fun i v r e => (by cases e)⟩
theorem all0 {p : V → Prop} : ∀ x ∈ ([] : List V), p x := fun x hx => (by cases hx)
/-- a table with a row that is not of two items -/
def Rag (t : Tb) : Prop := tableB t = true ∧ ((rowsOf t).map fun its => decide (its.length ≠ 2)).any id = true
theorem rag_some {t : Tb} (h : Rag t) {ws : List V} (hw : ws.length = 2) : colsR t (some ws) = some ("rows" : Str) := by
  unfold colsR
  rw [if_pos h.1]
  show (if ((rowsOf t).map fun its => decide (its.length ≠ ws.length)).any id = true then _ else _) = _
  rw [hw]
  exact if_pos h.2
theorem rag_none {t : Tb} (h : Rag t) : colsR t none = some ("widths" : Str) := by
  unfold colsR
  rw [if_pos h.1]
/-- widths that are none, over no rows too -/
def Wr (K : PySem.W.Frag) (H : Hp) (wr : V) : Option (List V) → Prop
  | none => NoTup K H wr
  | some ws => ws.length = 2 ∧ (ws.map fun wd => wiV wd (-60) 60).all id = false ∧ RwV K H wr (some ws)
theorem Wr.rw {K : PySem.W.Frag} {H : Hp} {wr : V} {u : Option (List V)} (h : Wr K H wr u) : RwV K H wr u := by
  cases u with
  | none => exact h
  | some ws => exact h.2.2
theorem Wr.none_ {K : PySem.W.Frag} {H : Hp} {wr : V} {u : Option (List V)} (h : Wr K H wr u) : colsR (some []) u = some ("widths" : Str) := by
  cases u with
  | none => rfl
  | some ws =>
    unfold colsR
    rw [if_pos (show tableB (some []) = true from rfl)]
    show (if (([] : List (List V)).map fun its => decide (its.length ≠ ws.length)).any id = true then _ else _) = _
    rw [if_neg (show ¬ ((List.map (fun its : List V => decide (its.length ≠ ws.length)) []).any id = true) from Bool.false_ne_true), h.2.1, if_neg Bool.false_ne_true]
def ul (i30 : Int) : List (Option (List V)) := [none, none, none, none, none, none, some [.int 3, .int 61], some [.int (-61), .int 3], some [.bl true, .int 3], some [.str "3", .int 3], some [.int 3, .non], some [.int i30, .int 3]]
theorem wr_12 {K : PySem.W.Frag} {H : Hp} {D1 D2 D3 D4 D5 D6 D7 D8 D9 : Addr} {i30 : Int} {wr : V} (h30 : wiV (.int i30) (-60) 60 = false) (k1 : H D1 = some (.lst [.int 3, .int (-3)])) (k2 : H D2 = some (.lst [])) (k3 : H D3 = some (.dK [])) (k4 : H D4 = some (.tup [.int 3, .int 61])) (k5 : H D5 = some (.tup [.int (-61), .int 3])) (k6 : H D6 = some (.tup [.bl true, .int 3])) (k7 : H D7 = some (.tup [.str "3", .int 3])) (k8 : H D8 = some (.tup [.int 3, .non])) (k9 : H D9 = some (.tup [.int i30, .int 3]))
    {i : Nat} (h : [V.non, .ref D1, .ref D2, .ref D3, .str "ab", .int 3, .ref D4, .ref D5, .ref D6, .ref D7, .ref D8, .ref D9][i]? = some wr) : ∃ u, (ul i30)[i]? = some u ∧ Wr K H wr u := by
  match i, h with
  | 0, h => obtain rfl := Option.some.inj h; exact ⟨none, rfl, "NoneType", by decide, by decide, .base .non⟩
  | 1, h => obtain rfl := Option.some.inj h; exact ⟨none, rfl, "list", by decide, by decide, .base (.lst k1)⟩
  | 2, h => obtain rfl := Option.some.inj h; exact ⟨none, rfl, "list", by decide, by decide, .base (.lst k2)⟩
  | 3, h => obtain rfl := Option.some.inj h; exact ⟨none, rfl, "dict", by decide, by decide, .base (.dK k3)⟩
  | 4, h => obtain rfl := Option.some.inj h; exact ⟨none, rfl, "str", by decide, by decide, .base (.str _)⟩
  | 5, h => obtain rfl := Option.some.inj h; exact ⟨none, rfl, "int", by decide, by decide, .base (.int _)⟩
  | 6, h => obtain rfl := Option.some.inj h; exact ⟨some [.int 3, .int 61], rfl, rfl, by decide, rw_tup k4 (by decide) (all2 (ty7_int _) (ty7_int _))⟩
  | 7, h => obtain rfl := Option.some.inj h; exact ⟨some [.int (-61), .int 3], rfl, rfl, by decide, rw_tup k5 (by decide) (all2 (ty7_int _) (ty7_int _))⟩
  | 8, h => obtain rfl := Option.some.inj h; exact ⟨some [.bl true, .int 3], rfl, rfl, by decide, rw_tup k6 (by decide) (all2 (ty7_bl _) (ty7_int _))⟩
  | 9, h => obtain rfl := Option.some.inj h; exact ⟨some [.str "3", .int 3], rfl, rfl, by decide, rw_tup k7 (by decide) (all2 (ty7_str _) (ty7_int _))⟩
  | 10, h => obtain rfl := Option.some.inj h; exact ⟨some [.int 3, .non], rfl, rfl, by decide, rw_tup k8 (by decide) (all2 (ty7_int _) ty7_non)⟩
  | 11, h =>
    obtain rfl := Option.some.inj h
    refine ⟨some [.int i30, .int 3], rfl, rfl, ?_, rw_tup k9 (by show 2 ≤ 100; decide) (all2 (ty7_int _) (ty7_int _))⟩
    show (wiV (.int i30) (-60) 60 && _) = false
    rw [h30]
    rfl
section
variable {P : Program} {w : World} {K : PySem.W.Frag} {mg : Str → Option Value} {base : Heap} {f : Addr} {fd : FuncData} {CT CA CV CP fT fA fV fP CJ : Addr}
theorem ok_widths {T : List (Addr × Str)} {g c TP : Addr} {fd42 : FuncData} (F : FnP K "_law_widths_right" "_law_widths_right" (top 56) [] f fd) (b : L2.Binds K fd ["_law_pen_here"] []) (hcode : fd.code = .ref c) (B : Blt mg) (Hr : Hear K P mg CT CA CV CP fT fA fV fP)
    (F42 : FnP K "_law_heard" "_law_heard" (top 42) [] g fd42) (b42 : L2.Binds K fd42 ["_law_ask"] []) (g42 : mg "_law_heard" = some (.ref g)) (TB : TabB base mg c TP) (hmT : (TP, qLam "_law_widths_right") ∈ T) (hU : ∀ p ∈ T, p.1 = TP → p.2 = qLam "_law_widths_right")
    (cP : Nam CX0 P w K mg base 2 "_law_pick" (spPick K)) (cC : Nam (L2.CX P w) P w K mg base 3 "columns" (spColumns K CV)) : FnRG P w K mg base CX0 6 f (spTab K T) := by
  have sc : FnScope Nv ["_law_pen_here"] (defScope (top 56)) := sc_by (by decide +kernel)
  have nd := sc.nd
  refine fnpC F b sc (fun vs H Q E h => ?_) fun cdv hcd A outer s H vs Q E gd hr h => ⟨_,
    (pss_cons (ps_set (i := 1) nd rfl (Or.inr rfl) (pe_nam cP hr (by decide) rfl pass_no (pa_cons (pv 0) (pa_cons (pe_lst (pa_cons (pe_tup (pa_cons (pe_tup (pa_cons pe_str pa_nil)) (pa_cons (pe_tup (pa_cons pe_str (pa_cons pe_int pa_nil))) pa_nil))) (pa_cons (pe_tup (pa_cons (pe_tup (pa_cons pe_str (pa_cons pe_int (pa_cons pe_int pa_nil)))) pa_nil)) (pa_cons (pe_tup (pa_cons (pe_tup pa_nil) pa_nil)) (pa_cons (pe_tup (pa_cons (pe_tup (pa_cons pe_str (pa_cons pe_int pa_nil))) (pa_cons (pe_tup (pa_cons pe_int pa_nil)) pa_nil))) (pa_cons (pe_tup (pa_cons (pe_tup (pa_cons pe_str (pa_cons pe_int pa_nil))) (pa_cons (pe_tup (pa_cons pe_int (pa_cons pe_str (pa_cons pe_int pa_nil)))) (pa_cons (pe_tup pa_nil) pa_nil)))) pa_nil)))))) pa_nil))))
    (pss_cons (ps_for (passes_of rfl) rfl (pi_list (pe_lst (pa_cons pe_non (pa_cons (pe_lst (pa_cons pe_int (pa_cons (pe_un un_neg pe_int) pa_nil))) (pa_cons (pe_lst pa_nil) (pa_cons pe_dnewK (pa_cons pe_str (pa_cons pe_int (pa_cons (pe_tup (pa_cons pe_int (pa_cons pe_int pa_nil))) (pa_cons (pe_tup (pa_cons (pe_un un_neg pe_int) (pa_cons pe_int pa_nil))) (pa_cons (pe_tup (pa_cons pe_bl (pa_cons pe_int pa_nil))) (pa_cons (pe_tup (pa_cons pe_str (pa_cons pe_int pa_nil))) (pa_cons (pe_tup (pa_cons pe_int (pa_cons pe_non pa_nil))) (pa_cons (pe_tup (pa_cons (pe_op op_pow pe_int pe_int) (pa_cons pe_int pa_nil))) pa_nil)))))))))))))) (pg_name (i := 2) nd rfl (Or.inr rfl))
      (pss_cons (ps_set (i := 3) nd rfl (Or.inl rfl) (pe_lst (pa_cons (pe_heard (T := T) (k := 3) B Hr F42 b42 g42 rfl TB (by exact hcd.symm.trans hcode) (by exact hmT) (by exact hU) hr (by exact lamS_by (sc := defScope (top 56)) (by decide +kernel)) (by rfl) (by intros; rfl) (fun A outer s H E f c' hr2 => pe_nam cC hr2 (by decide) (by rfl) passL (pa_cons (pv 1) (pa_cons (pv 2) pa_nil)))) pa_nil)))
      (pss_cons (ps_expr (pe_bm PySem.F.plainAttrs_list PySem.F.slot_list_append PySem.F.type_list_append mt_append (pv 3) (pa_cons (pe_heard (T := T) (k := 3) B Hr F42 b42 g42 rfl TB (by exact hcd.symm.trans hcode) (by exact hmT) (by exact hU) hr (by exact lamS_by (sc := defScope (top 56)) (by decide +kernel)) (by rfl) (by intros; rfl) (fun A outer s H E f c' hr2 => pe_nam cC hr2 (by decide) (by rfl) passL (pa_cons (pe_tup pa_nil) (pa_cons (pv 2) pa_nil)))) pa_nil)))
      (pss_one (ps_if (pt_cmpR (op_neD hr.units) (pv 3) (pe_lst (pa_cons (pe_tup (pa_cons pe_str (pa_cons (pe_ifExp (pt_val (pe_callB call_isi rfl (B.g "isinstance") boot_isinstance (pa_cons (pv 2) (pa_cons (pe_bltn (v := .ty "tuple") rfl (B.g "tuple") boot_tuple rfl) pa_nil)))) pe_str pe_str) pa_nil))) (pa_cons (pe_tup (pa_cons pe_str (pa_cons pe_str pa_nil))) pa_nil))) (nomark _)) (pss_one (ps_ret pe_bl)) pss_nil)))))
    (pss_one (ps_ret (pe_and (pe_cmpR (op_eqD hr.units) (pe_heard (T := T) (k := 3) B Hr F42 b42 g42 rfl TB (by exact hcd.symm.trans hcode) (by exact hmT) (by exact hU) hr (by exact lamS_by (sc := defScope (top 56)) (by decide +kernel)) (by rfl) (by intros; rfl) (fun A outer s H E f c' hr2 => pe_nam cC hr2 (by decide) (by rfl) passL (pa_cons (pv 1) (pa_cons (pe_tup (pa_cons pe_int (pa_cons (pe_un un_neg pe_int) pa_nil))) pa_nil)))) (pe_tup (pa_cons pe_str (pa_cons pe_str pa_nil))) (nomark _)) (pe_one (pe_cmpR op_eq (pe_nam cC hr (by decide) rfl passC (pa_cons (pe_tup pa_nil) (pa_cons (pe_tup (pa_cons pe_int (pa_cons (pe_un un_neg pe_int) pa_nil))) pa_nil))) pe_str (nomark _)))))))), ?_⟩
  · obtain ⟨P, L, ns, turn, rest, rfl, _⟩ := h
    rfl
  obtain ⟨P, L, ns, turn, rest, rfl, pen, ht, tb, q⟩ := h
  have hz := sizeLine_eq
  refine ⟨_, rfl, by show 1 ≤ sizeLine; omega, fun A1 a1 => ⟨by show 2 ≤ sizeLine; omega, fun A2 a2 => ⟨by show 2 ≤ sizeLine; omega, fun A3 a3 => ⟨by show 3 ≤ sizeLine; omega, fun A4 a4 => ⟨by show 1 ≤ sizeLine; omega, fun A5 a5 => ⟨by show 0 ≤ sizeLine; omega, fun A6 a6 => ⟨by show 1 ≤ sizeLine; omega, fun A7 a7 => ⟨by show 2 ≤ sizeLine; omega, fun A8 a8 => ⟨by show 1 ≤ sizeLine; omega, fun A9 a9 => ⟨by show 2 ≤ sizeLine; omega, fun A10 a10 => ⟨by show 2 ≤ sizeLine; omega, fun A11 a11 => ⟨by show 3 ≤ sizeLine; omega, fun A12 a12 => ⟨by show 0 ≤ sizeLine; omega, fun A13 a13 => ⟨by show 3 ≤ sizeLine; omega, fun A14 a14 => ⟨by show 5 ≤ sizeLine; omega, fun Z nZ => ?_⟩⟩⟩⟩⟩⟩⟩⟩⟩⟩⟩⟩⟩⟩⟩
  show spPick K [.ref P, .ref Z] _ _ (noE [])
  generalize hX : (upd _ _ _ : Hp) = H1
  have sX : Same H H1 := by rw [← hX]; repeat (first | exact Same.refl _ | refine Same.trans ?_ (same_upd (by assumption)))
  have kA1 : H1 A1 = some (.tup [.str "a"]) := by rw [← hX]; repeat (first | exact upd_same | refine same_upd (by assumption) _ _ ?_)
  have kA2 : H1 A2 = some (.tup [.str "b", .int 1]) := by rw [← hX]; repeat (first | exact upd_same | refine same_upd (by assumption) _ _ ?_)
  have kA3 : H1 A3 = some (.tup [.ref A1, .ref A2]) := by rw [← hX]; repeat (first | exact upd_same | refine same_upd (by assumption) _ _ ?_)
  have kA4 : H1 A4 = some (.tup [.str "a", .int 5, .int 6]) := by rw [← hX]; repeat (first | exact upd_same | refine same_upd (by assumption) _ _ ?_)
  have kA5 : H1 A5 = some (.tup [.ref A4]) := by rw [← hX]; repeat (first | exact upd_same | refine same_upd (by assumption) _ _ ?_)
  have kA6 : H1 A6 = some (.tup []) := by rw [← hX]; repeat (first | exact upd_same | refine same_upd (by assumption) _ _ ?_)
  have kA7 : H1 A7 = some (.tup [.ref A6]) := by rw [← hX]; repeat (first | exact upd_same | refine same_upd (by assumption) _ _ ?_)
  have kA8 : H1 A8 = some (.tup [.str "", .int 0]) := by rw [← hX]; repeat (first | exact upd_same | refine same_upd (by assumption) _ _ ?_)
  have kA9 : H1 A9 = some (.tup [.int 7]) := by rw [← hX]; repeat (first | exact upd_same | refine same_upd (by assumption) _ _ ?_)
  have kA10 : H1 A10 = some (.tup [.ref A8, .ref A9]) := by rw [← hX]; repeat (first | exact upd_same | refine same_upd (by assumption) _ _ ?_)
  have kA11 : H1 A11 = some (.tup [.str "a", .int 5]) := by rw [← hX]; repeat (first | exact upd_same | refine same_upd (by assumption) _ _ ?_)
  have kA12 : H1 A12 = some (.tup [.int 1, .str "b", .int 2]) := by rw [← hX]; repeat (first | exact upd_same | refine same_upd (by assumption) _ _ ?_)
  have kA13 : H1 A13 = some (.tup []) := by rw [← hX]; repeat (first | exact upd_same | refine same_upd (by assumption) _ _ ?_)
  have kA14 : H1 A14 = some (.tup [.ref A11, .ref A12, .ref A13]) := by rw [← hX]; repeat (first | exact upd_same | refine same_upd (by assumption) _ _ ?_)
  have kZ : H1 Z = some (.lst [.ref A3, .ref A5, .ref A7, .ref A10, .ref A14]) := by rw [← hX]; repeat (first | exact upd_same | refine same_upd (by assumption) _ _ ?_)
  have penX := pen.same sX
  have tbX : Tabs T H1 := Tabs.same tb sX
  have hZP : Z ≠ P := fun z => by rw [z, penX.pen] at kZ; have y := HO.lst.inj (Option.some.inj kZ); cases y
  clear hX a1 a2 a3 a4 a5 a6 a7 a8 a9 a10 a11 a12 a13 a14 nZ
  refine ⟨P, L, ns, turn, rest, .ref Z, rfl, penX, by omega, .inl ⟨Z, _, rfl, kZ, hZP, by show 0 < 5; decide, by show 5 < 1073741824; decide, fun y hy H2 o2 => ?_⟩⟩
  obtain ⟨t2, r2, pen2, h2⟩ := o2.pen penX
  have tb2 : Tabs T H2 := Tabs.upD tbX o2.1 penX.pen
  replace kA1 := STup.ofU o2.1 penX.pen _ _ kA1
  replace kA2 := STup.ofU o2.1 penX.pen _ _ kA2
  replace kA3 := STup.ofU o2.1 penX.pen _ _ kA3
  replace kA4 := STup.ofU o2.1 penX.pen _ _ kA4
  replace kA5 := STup.ofU o2.1 penX.pen _ _ kA5
  replace kA6 := STup.ofU o2.1 penX.pen _ _ kA6
  replace kA7 := STup.ofU o2.1 penX.pen _ _ kA7
  replace kA8 := STup.ofU o2.1 penX.pen _ _ kA8
  replace kA9 := STup.ofU o2.1 penX.pen _ _ kA9
  replace kA10 := STup.ofU o2.1 penX.pen _ _ kA10
  replace kA11 := STup.ofU o2.1 penX.pen _ _ kA11
  replace kA12 := STup.ofU o2.1 penX.pen _ _ kA12
  replace kA13 := STup.ofU o2.1 penX.pen _ _ kA13
  replace kA14 := STup.ofU o2.1 penX.pen _ _ kA14
  have hy : ∃ t, TbV K H2 y t ∧ SzT t ∧ Rag t := by
    simp only [List.mem_cons, List.not_mem_nil, or_false] at hy
    have a1 := @all1; have a2 := @all2
    rcases hy with h | h | h | h | h <;> rw [h]
    · exact ⟨_, tb_two kA3 (rw_tup kA1 (by decide) (all1 (ty7_str _))) (rw_tup kA2 (by decide) (all2 (ty7_str _) (ty7_int _))), sz_of (by decide +kernel), by decide +kernel, by decide +kernel⟩
    · exact ⟨_, tb_one kA5 (rw_tup kA4 (by decide) (all3 (ty7_str _) (ty7_int _) (ty7_int _))), sz_of (by decide +kernel), by decide +kernel, by decide +kernel⟩
    · exact ⟨_, tb_one kA7 (rw_tup kA6 (by decide) all0), sz_of (by decide +kernel), by decide +kernel, by decide +kernel⟩
    · exact ⟨_, tb_two kA10 (rw_tup kA8 (by decide) (all2 (ty7_str _) (ty7_int _))) (rw_tup kA9 (by decide) (all1 (ty7_int _))), sz_of (by decide +kernel), by decide +kernel, by decide +kernel⟩
    · exact ⟨_, tb_three kA14 (rw_tup kA11 (by decide) (all2 (ty7_str _) (ty7_int _))) (rw_tup kA12 (by decide) (all3 (ty7_int _) (ty7_str _) (ty7_int _))) (rw_tup kA13 (by decide) all0), sz_of (by decide +kernel), by decide +kernel, by decide +kernel⟩
  obtain ⟨t, hT, hS, hRag⟩ := hy
  clear kA1 kA2 kA3 kA4 kA5 kA6 kA7 kA8 kA9 kA10 kA11 kA12 kA13 kA14 kZ hZP penX tbX sX
  have p30 : CPow 10 30 := ⟨by decide, by decide, by decide⟩
  refine ⟨_, rfl, by show 2 ≤ sizeLine; omega, fun D1 d1 => ⟨by show 0 ≤ sizeLine; omega, fun D2 d2 => fun D3 d3 => ⟨by show 2 ≤ sizeLine; omega, fun D4 d4 => ⟨_, rfl, by show 2 ≤ sizeLine; omega, fun D5 d5 => ⟨by show 2 ≤ sizeLine; omega, fun D6 d6 => ⟨by show 2 ≤ sizeLine; omega, fun D7 d7 => ⟨by show 2 ≤ sizeLine; omega, fun D8 d8 => ⟨_, _, rfl, rfl, p30, by show 2 ≤ sizeLine; omega, fun D9 d9 => ⟨by show 12 ≤ sizeLine; omega, fun WL nWL => ⟨WL, rfl, ⟨_, SqL.of upd_same⟩, ?_⟩⟩⟩⟩⟩⟩⟩⟩⟩⟩
  generalize hX : (upd _ _ _ : Hp) = H3
  have sX : Same H2 H3 := by rw [← hX]; repeat (first | exact Same.refl _ | refine Same.trans ?_ (same_upd (by assumption)))
  have kD1 : H3 D1 = some (.lst [.int 3, .int (-3)]) := by rw [← hX]; repeat (first | exact upd_same | refine same_upd (by assumption) _ _ ?_)
  have kD2 : H3 D2 = some (.lst []) := by rw [← hX]; repeat (first | exact upd_same | refine same_upd (by assumption) _ _ ?_)
  have kD3 : H3 D3 = some (.dK []) := by rw [← hX]; repeat (first | exact upd_same | refine same_upd (by assumption) _ _ ?_)
  have kD4 : H3 D4 = some (.tup [.int 3, .int 61]) := by rw [← hX]; repeat (first | exact upd_same | refine same_upd (by assumption) _ _ ?_)
  have kD5 : H3 D5 = some (.tup [.int (-61), .int 3]) := by rw [← hX]; repeat (first | exact upd_same | refine same_upd (by assumption) _ _ ?_)
  have kD6 : H3 D6 = some (.tup [.bl true, .int 3]) := by rw [← hX]; repeat (first | exact upd_same | refine same_upd (by assumption) _ _ ?_)
  have kD7 : H3 D7 = some (.tup [.str "3", .int 3]) := by rw [← hX]; repeat (first | exact upd_same | refine same_upd (by assumption) _ _ ?_)
  have kD8 : H3 D8 = some (.tup [.int 3, .non]) := by rw [← hX]; repeat (first | exact upd_same | refine same_upd (by assumption) _ _ ?_)
  have kD9 : H3 D9 = some (.tup [.int ((10 : Int) ^ (30 : Int).toNat), .int 3]) := by rw [← hX]; repeat (first | exact upd_same | refine same_upd (by assumption) _ _ ?_)
  have kWL : H3 WL = some (.lst [.non, .ref D1, .ref D2, .ref D3, .str "ab", .int 3, .ref D4, .ref D5, .ref D6, .ref D7, .ref D8, .ref D9]) := by rw [← hX]; repeat (first | exact upd_same | refine same_upd (by assumption) _ _ ?_)
  have pen3 := pen2.same sX
  have tb3 : Tabs T H3 := Tabs.same tb2 sX
  replace hT := hT.same sX
  clear hX sX d1 d2 d3 d4 d5 d6 d7 d8 d9 nWL tb2 pen2
  have h30 : wiV (.int ((10 : Int) ^ (30 : Int).toNat)) (-60) 60 = false := by decide +kernel
  generalize (10 : Int) ^ (30 : Int).toNat = i30 at kD9 h30
  have al : ∀ {H' : Hp}, ExtN H3 H' → ∀ (i : Nat) (wr : V), [V.non, .ref D1, .ref D2, .ref D3, .str "ab", .int 3, .ref D4, .ref D5, .ref D6, .ref D7, .ref D8, .ref D9][i]? = some wr → ∃ u, (ul i30)[i]? = some u ∧ Wr K H' wr u := fun e i wr hw =>
    wr_12 h30 (e _ _ kD1 fun _ y => (by cases y)) (e _ _ kD2 fun _ y => (by cases y)) (e _ _ kD3 fun _ y => (by cases y)) (e _ _ kD4 fun _ y => (by cases y)) (e _ _ kD5 fun _ y => (by cases y)) (e _ _ kD6 fun _ y => (by cases y)) (e _ _ kD7 fun _ y => (by cases y)) (e _ _ kD8 fun _ y => (by cases y)) (e _ _ kD9 fun _ y => (by cases y)) hw
  refine for_it walk_list (fun i σ H' => (∃ x2 x3, σ = [some (.ref P), some y, x2, x3]) ∧ ExtN H3 H' ∧ Tabs T H') ⟨⟨_, _, rfl⟩, ExtN.refl _, tb3⟩ (fun i σ H' _ p => SqL.of (p.2.1 _ _ kWL fun _ y => (by cases y))) (fun i x σ H4 H5 hi p y2 => ?_) fun σ H4 p => ?_
  · obtain ⟨rfl, hx⟩ := y2
    obtain ⟨⟨x2, x3, rfl⟩, e4, tb4⟩ := p
    obtain ⟨u, hui, hu⟩ := al e4 i x hx
    obtain ⟨zz, hz1⟩ : ∃ zz, colsR t u = some zz := by
      cases u with
      | none => exact ⟨_, rag_none hRag⟩
      | some ws => exact ⟨_, rag_some hRag hu.1⟩
    refine heard_two (T := T) rfl rfl (hT.ext e4) hu.rw hS hz1 tb4 fun R1 H6 e6 tb6 hR1 => ⟨by show 1 ≤ sizeLine; omega, fun HL nHL => ?_⟩
    have kHL := upd_same (H := H6) (a := HL) (o := .lst [.ref R1])
    have s7 : Same H6 (upd H6 HL (.lst [.ref R1])) := same_upd nHL
    have hR1' := s7 _ _ hR1
    have eX := (e4.trans e6).trans (ExtN.of s7)
    have tbX := Tabs.same tb6 s7
    have nb : ∀ b o, H3 b = some o → (∀ ps, o ≠ .tbl ps) → b ≠ HL := fun b o e n z => by
      have := (e4.trans e6) _ _ e n
      rw [z, nHL] at this
      cases this
    generalize upd H6 HL (.lst [.ref R1]) = H7 at kHL s7 hR1' eX tbX ⊢
    refine ⟨_, rfl, .inl ⟨rfl, _, SqL.of kHL⟩, heard_gen (T := T) (z := ("widths" : Str)) (fun H2 => ExtN H7 H2) tbX (fun H0 e0 tb0 k hk => ⟨by show 0 ≤ sizeLine; omega, fun E0 n0 => ⟨_, rfl, ?_⟩⟩) fun R2 H8 H9 e8 tb8 s9 hR2 => ?_⟩
    · obtain ⟨u2, _, hu2⟩ := al (eX.trans (e0.trans (ExtN.of (same_upd (o := .tup []) n0)))) i x hx
      exact hk _ x (some []) u2 _ (e0.trans (ExtN.of (same_upd n0))) (Tabs.same tb0 (same_upd n0)) (tb_nil upd_same) hu2.rw (sz_of (by decide +kernel)) hu2.none_
    · have e79 := e8.trans (ExtN.of s9)
      have gHL := e79 _ _ kHL fun _ y => (by cases y)
      refine ⟨HL, _, _, rfl, rfl, gHL, by show 1 < sizeLine; omega, ?_⟩
      have uH : UpD HL H9 (upd H9 HL (.lst ([V.ref R1] ++ [V.ref R2]))) := UpD.put fun b o _ e => e
      have tbN : Tabs T (upd H9 HL (.lst ([V.ref R1] ++ [V.ref R2]))) := Tabs.upD (Tabs.same tb8 s9) uH gHL
      have eN : ExtN H3 (upd H9 HL (.lst ([V.ref R1] ++ [V.ref R2]))) := fun b o e n => uH _ _ (nb b o e n) ((eX.trans e79) _ _ e n)
      have jR1 := STup.ofU uH gHL _ _ (e79 _ _ hR1' fun _ y => (by cases y))
      have jR2 := STup.ofU uH gHL _ _ hR2
      have jHL := upd_same (H := H9) (a := HL) (o := .lst ([V.ref R1] ++ [V.ref R2]))
      generalize upd H9 HL (.lst ([V.ref R1] ++ [V.ref R2])) = H10 at tbN eN jR1 jR2 jHL ⊢
      obtain ⟨u3, hui3, hu3⟩ := al eN i x hx
      obtain rfl : u = u3 := Option.some.inj (hui.symm.trans hui3)
      have eq2 : ∀ (HE : Hp) (E1 E2 E3 : Addr), Same H10 HE → HE E1 = some (.tup [.str "value", .str zz]) → HE E2 = some (.tup [.str "value", .str "widths"]) → HE E3 = some (.lst [.ref E1, .ref E2]) → PyData.strOk zz = true →
          ∃ d e, Dp K HE (.ref HL) d ∧ Dp K HE (.ref E3) e ∧ SeqAt.shaped d = true ∧ SeqAt.shaped e = true ∧ PyData.eqv d e = true := fun HE E1 E2 E3 sE k1 k2 k3 hok => by
        have l : PyData.canLay0 (.list [.tuple [.str "value", .str zz], .tuple [.str "value", .str "widths"]]) = true := by
          show ((PyData.strOk "value" && (PyData.strOk zz && true)) && ((PyData.strOk "value" && (PyData.strOk "widths" && true)) && true)) = true
          rw [hok, ok_c "value", ok_c "widths"]
          rfl
        have sh : SeqAt.shaped (.list [.tuple [.str "value", .str zz], .tuple [.str "value", .str "widths"]]) = true := by
          unfold SeqAt.shaped
          rw [l]
          rfl
        refine ⟨_, _, .lst (SqL.of (sE _ _ jHL)) (.cons (dp2 (sE _ _ jR1)) (.cons (dp2 (sE _ _ jR2)) .nil)), .lst (SqL.of k3) (.cons (dp2 k1) (.cons (dp2 k2) .nil)), sh, sh, SeqAt.eqv_refl _ l⟩
      cases u with
      | none =>
        obtain rfl : ("widths" : Str) = zz := by rw [rag_none hRag] at hz1; exact Option.some.inj hz1
        obtain ⟨m, hm, ne, ty⟩ := hu3
        have em : (m == "tuple") = false := by simpa using ne
        refine ⟨_, rfl, _, rfl, x, .ty "tuple", .type m, .type "tuple", _, rfl, .ty _, ty, kit_tuple hm, _, rfl, ?_⟩
        rw [em]
        refine iteF ⟨by show 2 ≤ sizeLine; omega, fun E1 f1 => ⟨by show 2 ≤ sizeLine; omega, fun E2 f2 => ⟨by show 2 ≤ sizeLine; omega, fun E3 f3 => ?_⟩⟩⟩
        generalize hX : (upd _ _ _ : Hp) = HE
        have sX : Same H10 HE := by rw [← hX]; repeat (first | exact Same.refl _ | refine Same.trans ?_ (same_upd (by assumption)))
        have k1 : HE E1 = some (.tup [.str "value", .str "widths"]) := by rw [← hX]; repeat (first | exact upd_same | refine same_upd (by assumption) _ _ ?_)
        have k2 : HE E2 = some (.tup [.str "value", .str "widths"]) := by rw [← hX]; repeat (first | exact upd_same | refine same_upd (by assumption) _ _ ?_)
        have k3 : HE E3 = some (.lst [.ref E1, .ref E2]) := by rw [← hX]; repeat (first | exact upd_same | refine same_upd (by assumption) _ _ ?_)
        obtain ⟨d, e, q1, q2, q3, q4, q5⟩ := eq2 HE E1 E2 E3 sX k1 k2 k3 (ok_c "widths")
        refine ⟨d, e, q1, q2, q3, q4, _, rfl, ?_⟩
        rw [q5]
        exact iteF ⟨⟨_, _, rfl⟩, eN.trans (ExtN.of sX), Tabs.same tbN sX⟩
      | some ws =>
        obtain rfl : ("rows" : Str) = zz := by rw [rag_some hRag hu.1] at hz1; exact Option.some.inj hz1
        obtain ⟨ad, rfl, had, _⟩ := hu3.2.2
        refine ⟨_, rfl, _, rfl, _, .ty "tuple", .type "tuple", .type "tuple", _, rfl, .ty _, .base (.tup had), kit_tuple (by decide), _, rfl, ?_⟩
        refine iteT ⟨by show 2 ≤ sizeLine; omega, fun E1 f1 => ⟨by show 2 ≤ sizeLine; omega, fun E2 f2 => ⟨by show 2 ≤ sizeLine; omega, fun E3 f3 => ?_⟩⟩⟩
        generalize hX : (upd _ _ _ : Hp) = HE
        have sX : Same H10 HE := by rw [← hX]; repeat (first | exact Same.refl _ | refine Same.trans ?_ (same_upd (by assumption)))
        have k1 : HE E1 = some (.tup [.str "value", .str "rows"]) := by rw [← hX]; repeat (first | exact upd_same | refine same_upd (by assumption) _ _ ?_)
        have k2 : HE E2 = some (.tup [.str "value", .str "widths"]) := by rw [← hX]; repeat (first | exact upd_same | refine same_upd (by assumption) _ _ ?_)
        have k3 : HE E3 = some (.lst [.ref E1, .ref E2]) := by rw [← hX]; repeat (first | exact upd_same | refine same_upd (by assumption) _ _ ?_)
        obtain ⟨d, e, q1, q2, q3, q4, q5⟩ := eq2 HE E1 E2 E3 sX k1 k2 k3 (ok_c "rows")
        refine ⟨d, e, q1, q2, q3, q4, _, rfl, ?_⟩
        rw [q5]
        exact iteF ⟨⟨_, _, rfl⟩, eN.trans (ExtN.of sX), Tabs.same tbN sX⟩
  · obtain ⟨⟨x2, x3, rfl⟩, e4, tb4⟩ := p
    have pen4 := pen3.extN e4
    refine heard_gen (T := T) (z := ("rows" : Str)) (fun H2 => ExtN H4 H2) tb4 (fun H0 e0 tb0 k hk => ⟨_, rfl, _, rfl, by show 2 ≤ sizeLine; omega, fun E0 n0 => ?_⟩) fun R H8 H9 e8 tb8 s9 hR => ?_
    · exact hk y (.ref E0) t wideU _ (e0.trans (ExtN.of (same_upd n0))) (Tabs.same tb0 (same_upd n0)) ((hT.ext (e4.trans e0)).same (same_upd n0)) (rw_tup upd_same (by decide) (all2 (ty7_int _) (ty7_int _))) hS (rag_some hRag rfl)
    · have pen9 := (pen4.extN e8).same s9
      refine ⟨by show 2 ≤ sizeLine; omega, fun E1 f1 => ⟨_, _, dp2 (same_upd f1 _ _ hR), dp2 upd_same, by decide +kernel, by decide +kernel, ?_⟩⟩
      rw [SeqAt.eqv_refl _ (by decide +kernel)]
      refine ⟨_, rfl, iteT ⟨by show 0 ≤ sizeLine; omega, fun E2 f2 => ⟨_, rfl, by show 2 ≤ sizeLine; omega, fun E3 f3 => ⟨_, _, some [], some [.int 3, .int (-60)], rfl, tb_nil (same_upd f3 _ _ upd_same), rw_tup upd_same (by decide) (all2 (ty7_int _) (ty7_int _)), sz_of (by decide +kernel), fun z hz2 => ?_, fun _ H' s' => ⟨rfl, ?_⟩⟩⟩⟩⟩
      · have hc : colsR (some []) (some [.int 3, .int (-60)]) = none := by decide +kernel
        rw [hc] at hz2
        cases hz2
      · have et : tabT (rowsOf (some [])) ((some [V.int 3, .int (-60)]).getD []) = ("" : Str) := by decide +kernel
        rw [et, decide_eq_true rfl]
        exact q H' t2 r2 ((((pen9.upd f1).upd f2).upd f3).same s') (by omega) (Tabs.same (Tabs.same (Tabs.same (Tabs.same (Tabs.same tb8 s9) (same_upd f1)) (same_upd f2)) (same_upd f3)) s')
end
end Q7
set_option maxHeartbeats 8000000
namespace Q7
open PySem PySem.Spec PyProof.Rows L2 SX LamX
/-! ### law -/
abbrev Nl : List Str := ["_law_script", "_law_pen_here", "_law_turn"]
def spLaw (K : PySem.W.Frag) (T : List (Addr × Str)) : Sp := fun vs H Q _ => ∃ (a : Addr) (ns : List Int), vs = [.ref a] ∧ SqL K H a (ns.map V.int) ∧ Tabs T H ∧ ∀ H', Q (.bl true) H'
section
variable {P : Program} {w : World} {K : PySem.W.Frag} {mg : Str → Option Value} {base : Heap} {f : Addr} {fd : FuncData}
theorem ok_law {T : List (Addr × Str)} (F : FnP K "law" "law" (top 57) [] f fd) (b : L2.Binds K fd ["_law_script"] []) (B : Blt mg) (cPen : Nam CX0 P w K mg base 1 "_law_pen" (spPen K))
    (cR : NamG CX0 P w K mg base 11 "_law_rows_right" (spRows K T)) (cT : NamG CX0 P w K mg base 6 "_law_table_right" (spTab K T)) (cW : NamG CX0 P w K mg base 6 "_law_widths_right" (spTab K T)) : FnRG P w K mg base CX0 12 f (spLaw K T) := by
  have sc : FnScope Nl ["_law_script"] (defScope (top 57)) := sc_by (by decide +kernel)
  have nd := sc.nd
  refine fnpG F b sc (fun vs H Q E h => ?_) fun cdv A outer s H vs Q E gd hr h => ⟨_,
    (pss_cons (ps_set (i := 1) nd rfl (Or.inl rfl) (pe_nam cPen hr (by decide) rfl pass_no (pa_cons (pv 0) pa_nil)))
    (pss_cons (ps_for (passes_of rfl) rfl (pi_range1 rfl (B.g "range") (pa_cons pe_int pa_nil)) (pg_name (i := 2) nd rfl (Or.inl rfl))
      (pss_one (ps_if (pt_not (pt_val (pe_namG cR gd hr (by decide) rfl pass_no (pa_cons (pv 1) pa_nil)))) (pss_one (ps_ret pe_bl)) pss_nil)))
    (pss_cons (ps_for (passes_of rfl) rfl (pi_range1 rfl (B.g "range") (pa_cons pe_int pa_nil)) (pg_name (i := 2) nd rfl (Or.inl rfl))
      (pss_one (ps_if (pt_not (pt_val (pe_namG cT gd hr (by decide) rfl pass_no (pa_cons (pv 1) pa_nil)))) (pss_one (ps_ret pe_bl)) pss_nil)))
    (pss_one (ps_ret (pe_namG cW gd hr (by decide) rfl pass_no (pa_cons (pv 1) pa_nil))))))), ?_⟩
  · obtain ⟨a, ns, rfl, _⟩ := h
    rfl
  obtain ⟨a, ns, rfl, ha, tb, q⟩ := h
  refine ⟨_, rfl, a, ns, rfl, ha, fun P L H1 s1 nP pen => ?_⟩
  have tb1 : Tabs T H1 := Tabs.same tb s1
  refine ⟨8, rfl, by decide, by decide, for_it walk_range (fun i σ H' => (∃ x2, σ = [some (.ref a), some (.ref P), x2]) ∧ (∃ (t : Nat) (r : Int), Pen K H' P L (ns.take 63) t r ∧ t ≤ 700 * i) ∧ Tabs T H') ⟨⟨_, rfl⟩, ⟨0, 0, pen, Nat.le_refl _⟩, tb1⟩ (fun _ _ _ _ _ => trivial) (fun i x σ H2 H3 hi p y => ?_) fun σ H2 p => ?_⟩
  · obtain ⟨rfl, rfl⟩ := y
    obtain ⟨⟨x2, rfl⟩, ⟨t, r, pen2, ht⟩, tb2⟩ := p
    have hi : i < 8 := hi
    refine ⟨_, rfl, P, L, ns.take 63, t, r, rfl, pen2, by omega, tb2, fun H4 t4 r4 pen4 h4 tb4 => ⟨_, rfl, iteF ⟨⟨_, rfl⟩, ⟨t4, r4, pen4, by omega⟩, tb4⟩⟩⟩
  · obtain ⟨⟨x2, rfl⟩, ⟨t, r, pen2, ht⟩, tb2⟩ := p
    have ht : t ≤ 700 * 8 := ht
    refine ⟨3, rfl, by decide, by decide, for_it walk_range (fun i σ H' => (∃ x2, σ = [some (.ref a), some (.ref P), x2]) ∧ (∃ (t : Nat) (r : Int), Pen K H' P L (ns.take 63) t r ∧ t ≤ 5600 + 2100 * i) ∧ Tabs T H') ⟨⟨_, rfl⟩, ⟨t, r, pen2, by omega⟩, tb2⟩ (fun _ _ _ _ _ => trivial) (fun i x σ H5 H6 hi p y => ?_) fun σ H5 p => ?_⟩
    · obtain ⟨rfl, rfl⟩ := y
      obtain ⟨⟨x2, rfl⟩, ⟨t5, r5, pen5, h5⟩, tb5⟩ := p
      have hi : i < 3 := hi
      refine ⟨_, rfl, P, L, ns.take 63, t5, r5, rfl, pen5, by omega, tb5, fun H4 t4 r4 pen4 h4 tb4 => ⟨_, rfl, iteF ⟨⟨_, rfl⟩, ⟨t4, r4, pen4, by omega⟩, tb4⟩⟩⟩
    · obtain ⟨⟨x2, rfl⟩, ⟨t5, r5, pen5, h5⟩, tb5⟩ := p
      have h5 : t5 ≤ 5600 + 2100 * 3 := h5
      exact ⟨_, rfl, P, L, ns.take 63, t5, r5, rfl, pen5, by omega, tb5, fun H4 t4 r4 pen4 h4 tb4 => q H4⟩
end
end Q7
set_option maxHeartbeats 2000000
namespace Q7
open PySem PySem.Spec PyProof.Rows L2 SX
/-! ### what the head tells: the part of the heap that is looked at -/
def kidsO (o : Obj) : List Addr := match o.data with
  | .seq its _ => its.toList.flatMap He.refV
  | .dict es _ => es.toList.flatMap fun e => He.refV e.val
  | .func fd => He.refV fd.code ++ (He.refV fd.defaults ++ fd.closure.map (·.2))
  | .cls cd => [cd.ns]
  | .fields vs => (match o.cls with
    | .type c => (match decide (c = "code") with
      | true => []
      | false => vs.toList.flatMap He.refV)
    | _ => [])
  | _ => []
def kidsG (g : Addr → Option Obj) (l : List Addr) : List Addr := l.flatMap fun a => match g a with
  | some o => kidsO o
  | none => []
def layers (g : Addr → Option Obj) : Nat → List Addr → List Addr
  | 0, l => l
  | n + 1, l => l ++ layers g n (kidsG g l)
def lookG (g : Addr → Option Obj) : List Addr := cStatics :: layers g 5 [mainGlobals]
def kG (g : Addr → Option Obj) : PySem.W.Frag := He.frT g (lookG g)
/-! ### names, classes, defs -/
abbrev aW (K : PySem.W.Frag) : Addr := He.ga K "Words"
abbrev aJ (K : PySem.W.Frag) : Addr := He.ga K "Jumble"
abbrev aT (K : PySem.W.Frag) : Addr := He.ga K "BadText"
abbrev aA (K : PySem.W.Frag) : Addr := He.ga K "BadAsk"
abbrev aV (K : PySem.W.Frag) : Addr := He.ga K "BadValue"
abbrev aP (K : PySem.W.Frag) : Addr := He.ga K "PostError"
abbrev iOf (K : PySem.W.Frag) (C : Addr) : Addr := He.ma K C "__init__"
abbrev rdOf (K : PySem.W.Frag) : Addr := He5.wf K (aJ K) "classmethod" "read"
def dTop (x : Str) (i : Nat) : He5.DefA := ⟨fun K => He.ga K x, x, x, defArgs (top i), defBody (top i), defScope (top i), [], []⟩
def dW (m q : Str) (j : Nat) (ds : List He.Dv) : He5.DefA := ⟨fun K => He.ma K (aW K) m, m, q, defArgs (inC (top 12) j), defBody (inC (top 12) j), defScope (inC (top 12) j), ds, []⟩
def dJm : He5.DefA := ⟨fun K => iOf K (aJ K), "__init__", "Jumble.__init__", defArgs (inC (top 15) 1), defBody (inC (top 15) 1), defScope (inC (top 15) 1), [.int 0, .int 0, .int 0, .bl false, .int 0], []⟩
def dR : He5.DefA := ⟨rdOf, "read", "Jumble.read", defArgs (inC (top 15) 2), defBody (inC (top 15) 2), defScope (inC (top 15) 2), [], []⟩
def tp (x : Str) (i : Nat) : Str × Nat := (x, i)
def tops : List (Str × Nat) := [tp "is_integer" 7, tp "is_within" 8, tp "integer_of" 11, tp "spread_of" 14, tp "is_signs" 21, tp "is_word" 22, tp "letter_of" 23, tp "read_look" 24, tp "taken_jumble" 29, tp "taken_letter" 30, tp "taken_letters" 31, tp "taken_thing" 32, tp "row_parts" 33, tp "parsed" 34, tp "is_table" 35, tp "column" 36, tp "columns" 37, tp "_law_pen" 39, tp "_law_draw" 40, tp "_law_pick" 41, tp "_law_heard" 42, tp "_law_is_number" 43, tp "_law_letter" 44, tp "_law_jumble" 45, tp "_law_due" 46, tp "_law_same" 47, tp "_law_word" 48, tp "_law_number" 49, tp "_law_rule" 50, tp "_law_row" 51, tp "_law_bent" 52, tp "_law_rows_right" 53, tp "_law_item" 54, tp "_law_table_right" 55, tp "_law_widths_right" 56, tp "law" 57]
def fnAll : List He5.DefA := [dW "__init__" "Words.__init__" 0 [.int 0], dW "__len__" "Words.__len__" 1 [], dW "refuse" "Words.refuse" 2 [], dW "ahead" "Words.ahead" 3 [], dW "next" "Words.next" 4 [], dW "name" "Words.name" 5 [], dW "integer" "Words.integer" 6 [], dW "done" "Words.done" 7 [], dJm, dR] ++ tops.map fun q => dTop q.1 q.2
def faAll : List He.Fa := [.str "DIGITS" "0123456789", .str "SIGNS" "0123456789abcdefghijklmnopqrstuvwxyz", .int "MOST_SIGNS" 12, .int "MOST_PANES" 9, .int "MOST_NUMBER" (10 ^ 60 - 1), .int "WIDEST" 60, .glo "Words", .glo "Jumble", .glo "BadText", .glo "BadAsk", .glo "BadValue", .glo "PostError", .glo "THINGS", .glo "NAMES",
  .cls "Words", .noat "Words" "at", .noat "Words" "parts", .noat "Words" "many", .cls "Jumble", .noat "Jumble" "early", .noat "Jumble" "late", .noat "Jumble" "lost", .noat "Jumble" "again", .noat "Jumble" "apart", .mkr "Words", .mkr "Jumble",
  .meth "Words" "refuse", .meth "Words" "ahead", .meth "Words" "next", .meth "Words" "name", .meth "Words" "integer", .meth "Words" "done"] ++ (tops.map fun q => He.Fa.glo q.1) ++ bltNames.map He.Fa.free
/-! ### an own error's __init__: its text, its code object, its cell -/
abbrev FnZ : Type := Option (Str × Str × Arguments × FuncBody × Scope × Addr × List Str × Addr)
def fnZ (K : PySem.W.Frag) (a : Addr) : FnZ := match K.lookup a with
  | some ⟨_, _, .func fd, _⟩ => some (fd.name, fd.qualname, fd.params, fd.body, fd.scope, fd.globals, fd.closure.map (·.1), fd.builtins)
  | _ => none
def valZ (q : Str) (st : Stmt) : FnZ := some ("__init__", q, defArgs st, .stmts (defBody st), defScope st, mainGlobals, ["__class__"], builtinsNs)
def zAll : List ((PySem.W.Frag → Addr) × Str × Stmt) := [(fun K => iOf K (aP K), "PostError.__init__", inC (top 2) 0), (fun K => iOf K (aT K), "BadText.__init__", inC (top 4) 0), (fun K => iOf K (aA K), "BadAsk.__init__", inC (top 5) 0), (fun K => iOf K (aV K), "BadValue.__init__", inC (top 3) 0)]
def fileB (K : PySem.W.Frag) (file : Str) (v : Value) : Bool := match v with
  | .ref c => (match K.lookup c with
    | some ⟨_, _, .fields vs, _⟩ => (match (vs[2]? : Option Value) with
      | some (.str z _) => file == z
      | _ => false)
    | _ => false)
  | _ => false
def cellB (K : PySem.W.Frag) (D : Addr) (l : List (Str × Addr)) : Bool := match l with
  | [q] => (match K.lookup q.2 with
    | some ⟨_, _, .cell (some (.ref D')), _⟩ => decide (D' = D)
    | _ => false)
  | _ => false
def supB (K : PySem.W.Frag) (file q : Str) (D f : Addr) : Bool := (match K.lookup f with
  | some ⟨_, _, .func fd, _⟩ => PySem.W.codeIn K fd.code q && (fileB K file fd.code && cellB K D fd.closure)
  | _ => false) && (PySem.W.clsIn K D).isSome
def noneB (v : Value) : Bool := match v with
  | .none => true
  | _ => false
def noDfl (K : PySem.W.Frag) (f : Addr) : Bool := match K.lookup f with
  | some ⟨_, _, .func fd, _⟩ => noneB fd.defaults
  | _ => false
/-! ### the facts of the classes of errors -/
def excObjB (K : PySem.W.Frag) (C : Addr) : Bool := match K.lookup C with
  | some ⟨.type t, _, .cls cd, sl⟩ => decide (t = "type") && ((match cd.mro with
    | .ref C' :: bm => decide (C' = C) && HandSPX.refsVE bm
    | _ => false) && (cd.hasDict && (!cd.hasDel && (match sl.toList with
    | [_, _, _, _, some (.builtin n), _] => decide (n = "ValueError.__new__")
    | _ => false))))
  | _ => false
def eqB (a : Option Bool) (b : Bool) : Bool := decide (a = some b)
def eqT1 (a : Option Value) (n : String) : Bool := decide (a = some (.type n))
/-- one list of Bools, looked at by place -/
def errL (K : PySem.W.Frag) (C CP : Addr) : List Bool := [excObjB K C, He.eqO (PySem.W.findIn K (.ref C) "__setattr__") (some (some (.builtin "object.__setattr__"))), eqB (PySem.W.subIn K (.ref C) (.type "ValueError")) true, He.eqO (PySem.W.nsIn K PySem.cStatics "thirdparty.any") (some none),
  eqB (PySem.W.mroIn K C (.ref C)) true, eqB (PySem.W.mroIn K C (.ref CP)) true, He.eqO (PySem.W.ks_superIn K C C "__init__") (some (some (.ref (iOf K CP)))), He.eqO (PySem.W.ks_superIn K C CP "__init__") (some (some (.builtin "ValueError.__init__"))),
  eqT1 (PySem.W.typeIn K (.ref (iOf K CP))) "function", PySem.W.fnIn K (iOf K CP), He.eqO (PySem.W.findIn K (.ref C) "values_told") (some none), He.eqO (PySem.W.findIn K (.ref C) "__init__") (some (some (.ref (iOf K C)))), eqT1 (PySem.W.typeIn K (.ref (iOf K C))) "function",
  eqB (PySem.W.subIn K (.ref C) (.type "BaseException")) true, eqT1 (PySem.W.typeIn K (.ref C)) "type", PySem.W.keepIn K (.ref C), xfB K C]
/-- the other facts of the errors, of the classes Words and Jumble -/
def keptL (K : PySem.W.Frag) : List Bool := [eqB (PySem.W.exmOne K (.ref (aT K)) (.ref (aT K))) true, eqB (PySem.W.exmOne K (.ref (aA K)) (.ref (aP K))) true, eqB (PySem.W.exmOne K (.ref (aV K)) (.ref (aP K))) true,
  eqB (PySem.W.kitOne K (.ref (aA K)) (.ref (aA K))) true, eqB (PySem.W.kitOne K (.ref (aA K)) (.ref (aT K))) false, eqB (PySem.W.kitOne K (.ref (aA K)) (.ref (aV K))) false, eqB (PySem.W.kitOne K (.ref (aV K)) (.ref (aA K))) false, eqB (PySem.W.kitOne K (.ref (aV K)) (.ref (aV K))) true,
  He.eqO (PySem.W.findIn K (.ref (aT K)) "at") (some none), He.eqO (PySem.W.findIn K (.ref (aT K)) "word") (some none), He.eqO (PySem.W.findIn K (.ref (aA K)) "at") (some none), He.eqO (PySem.W.findIn K (.ref (aA K)) "word") (some none), He.eqO (PySem.W.findIn K (.ref (aV K)) "what") (some none)]
def excL (K : PySem.W.Frag) (D : Addr) : List Bool := [He.eqO (PySem.W.findIn K (.ref D) "__class__") (some (some (.builtin "object.__class__"))), He.eqO (PySem.W.specialIn K (.builtin "object.__class__") "__get__") (some (some (.builtin "getset_descriptor.__get__"))), eqB (PySem.W.takesIn K (.builtin "object.__class__")) true,
  eqB (PySem.W.mroIn K D (.type "object")) true, eqB (PySem.W.kitOne K (.ref D) (.ref D)) true]
def bmL (K : PySem.W.Frag) (g : Addr) : List Bool := [He.eqO (PySem.W.specialIn K (.ref g) "__get__") (some (some (.builtin "function.__get__"))), eqB (PySem.W.takesIn K (.ref g)) false, PySem.W.fnIn K g]
def mostB (K : PySem.W.Frag) : Bool := match PySem.W.findCls K (.ref (aJ K)) (.type "type") "MOST" with
  | some (.val u) => He.relB (.int 20) u
  | _ => false
def oddL (K : PySem.W.Frag) : List Bool := [He.eqO (PySem.W.findIn K (.ref (aW K)) "__len__") (some (some (.ref (He.ma K (aW K) "__len__")))), eqT1 (PySem.W.typeIn K (.ref (He.ma K (aW K) "__len__"))) "function", PySem.W.readsIn K (aJ K) (.type "type"), He.eqO (PySem.W.specialIn K (.ref (aJ K)) "__getattribute__") (some (some (.builtin "type.__getattribute__"))), mostB K,
  He5.wrapB K (aJ K) "classmethod" "classmethod.__get__" "read", PySem.W.fnIn K (rdOf K)]
def meths : List Str := ["refuse", "ahead", "next", "name", "integer", "done"]
/-! ### the two tables of the rows -/
def ktB (K : PySem.W.Frag) (a : Addr) (vs : List V) : Bool := match K.lookup a with
  | some ⟨.type c, _, .seq its _, _⟩ => decide (c = "tuple") && (decide (its.size ≤ sizeLine) && He.relAll vs its.toList)
  | _ => false
def rowAt (K : PySem.W.Frag) (n : List Nat) : Addr := match PySem.W.nsIn K (He.ga K "THINGS") (S n) with
  | some (some (.ref a)) => a
  | _ => 0
def thingsB (K : PySem.W.Frag) : Bool := ktB K (He.ga K "NAMES") (names.map vS) && names.all fun n => He.eqO (PySem.W.nsIn K (He.ga K "THINGS") (S n)) (some (some (.ref (rowAt K n)))) && ktB K (rowAt K n) ((thgS n).map vS)
/-! ### the three code objects that hold lambdas -/
def codeA (K : PySem.W.Frag) (f : Addr) : Addr := match K.lookup f with
  | some ⟨_, _, .func fd, _⟩ => (match fd.code with
    | .ref c => c
    | _ => 0)
  | _ => 0
def tabA (K : PySem.W.Frag) (f : Addr) : Addr := He.tabOf K (codeA K f)
abbrev f53 (K : PySem.W.Frag) : Addr := He.ga K "_law_rows_right"
abbrev f55 (K : PySem.W.Frag) : Addr := He.ga K "_law_table_right"
abbrev f56 (K : PySem.W.Frag) : Addr := He.ga K "_law_widths_right"
def tab3 (K : PySem.W.Frag) : List (Addr × Addr) := [(codeA K (f53 K), tabA K (f53 K)), (codeA K (f55 K), tabA K (f55 K)), (codeA K (f56 K), tabA K (f56 K))]
def tabsOk (g : Addr → Option Obj) (K : PySem.W.Frag) : Bool := ((tab3 K).all fun p => PySem.W.codeHdIn K p.1 p.2 && (match g p.2 with
  | some o => He.emptyTab o
  | none => false)) && (decide (tabA K (f53 K) ≠ tabA K (f55 K)) && (decide (tabA K (f53 K) ≠ tabA K (f56 K)) && decide (tabA K (f55 K) ≠ tabA K (f56 K))))
/-! ### all of it -/
def fileQ : Str := PySem.Challenge.pw_jumblepost_k87_rows_of_the_desk_and_colu.main.file
def dflsB (K : PySem.W.Frag) : Bool := noDfl K (iOf K (aP K)) && (noDfl K (iOf K (aT K)) && (noDfl K (iOf K (aA K)) && noDfl K (iOf K (aV K))))
def supsB (K : PySem.W.Frag) : Bool := dflsB K && (supB K fileQ "PostError.__init__" (aP K) (iOf K (aP K)) && (supB K fileQ "BadText.__init__" (aT K) (iOf K (aT K)) && (supB K fileQ "BadAsk.__init__" (aA K) (iOf K (aA K)) && supB K fileQ "BadValue.__init__" (aV K) (iOf K (aV K)))))
def errsB (K : PySem.W.Frag) : Bool := (errL K (aT K) (aP K)).all id && ((errL K (aA K) (aP K)).all id && ((errL K (aV K) (aP K)).all id && ((keptL K).all id && ((excL K (aA K)).all id && (excL K (aV K)).all id))))
def clsB (K : PySem.W.Frag) : Bool := (excL K (aJ K)).all id && ((oddL K).all id && meths.all fun m => (bmL K (He.ma K (aW K) m)).all id)
end Q7
set_option maxHeartbeats 0
namespace Q7
open PySem PySem.Spec PyProof.Rows L2 SX
/-! ### the Hook -/
abbrev AlQ : Type := He.AlD × (List FnZ × (Option (List (Option (Str × Int))) × Bool))
def moreB (g : Addr → Option Obj) (K : PySem.W.Frag) : Bool := thingsB K && (tabsOk g K && (supsB K && (errsB K && clsB K)))
def obsQ (g : Addr → Option Obj) (K : PySem.W.Frag) : AlQ := (He5.obsA faAll fnAll K, zAll.map fun z => fnZ K (z.1 K), He.dicW K (He.ga K "THINGS"), moreB g K)
def valQ (w : World) : AlQ := (He5.valA fnAll, zAll.map fun z => valZ z.2.1 z.2.2, some (He.keysIn w.params (names.map S)), true)
/-- what is known behind the head -/
structure SaysQ (w : World) (h : Heap) (K : PySem.W.Frag) : Prop where
  d : He5.SaysA faAll fnAll K
  z : (zAll.map fun z => fnZ K (z.1 K)) = zAll.map fun z => valZ z.2.1 z.2.2
  k : He.dicW K (He.ga K "THINGS") = some (He.keysIn w.params (names.map S))
  th : thingsB K = true
  su : supsB K = true
  er : errsB K = true
  cl : clsB K = true
  hd : ∀ p ∈ tab3 K, PySem.W.codeHdIn K p.1 p.2 = true
  em : ∀ p ∈ tab3 K, h.get? p.2 = some { cls := .none, data := .fields #[] }
  out : ∀ p ∈ tab3 K, K.lookup p.2 = none
  n1 : tabA K (f53 K) ≠ tabA K (f55 K)
  n2 : tabA K (f53 K) ≠ tabA K (f56 K)
  n3 : tabA K (f55 K) ≠ tabA K (f56 K)
theorem saysQ_of {w : World} {h : Heap} (e : obsQ h.get? (kG h.get?) = valQ w) : SaysQ w h (kG h.get?) := by
  have e1 : He5.obsA faAll fnAll (kG h.get?) = He5.valA fnAll := congrArg (fun x : AlQ => x.1) e
  have e2 := congrArg (fun x : AlQ => x.2.1) e
  have e3 := congrArg (fun x : AlQ => x.2.2.1) e
  have e4 : moreB h.get? (kG h.get?) = true := congrArg (fun x : AlQ => x.2.2.2) e
  obtain ⟨b1, c1⟩ := He.ba e4
  obtain ⟨b2, c2⟩ := He.ba c1
  obtain ⟨b3, c3⟩ := He.ba c2
  obtain ⟨b4, b5⟩ := He.ba c3
  obtain ⟨t1, t2⟩ := He.ba b2
  obtain ⟨u1, t3⟩ := He.ba t2
  obtain ⟨u2, u3⟩ := He.ba t3
  have key : ∀ p ∈ tab3 (kG h.get?), PySem.W.codeHdIn (kG h.get?) p.1 p.2 = true ∧ ∃ o, h.get? p.2 = some o ∧ He.emptyTab o = true := fun p hp => by
    obtain ⟨x1, x2⟩ := He.ba (List.all_eq_true.mp t1 p hp)
    refine ⟨x1, ?_⟩
    cases q : h.get? p.2 with
    | none =>
      rw [q] at x2
      cases x2
    | some o =>
      rw [q] at x2
      exact ⟨o, rfl, x2⟩
  refine ⟨e1, e2, e3, b1, b3, b4, b5, fun p hp => (key p hp).1, fun p hp => ?_, fun p hp => ?_, of_decide_eq_true u1, of_decide_eq_true u2, of_decide_eq_true u3⟩
  · obtain ⟨_, o, x1, x2⟩ := key p hp
    rw [x1, He.emptyTab_eq x2]
  · obtain ⟨_, o, x1, x2⟩ := key p hp
    exact He.frT_none x1 x2
def hookQ : PySem.W.Hook where
  α := AlQ
  obs := fun s => obsQ s.heap.get? (kG s.heap.get?)
  val := valQ
  says := fun w h => ∃ K : PySem.W.Frag, K.In h ∧ SaysQ w h K
  of := fun _ _ e => ⟨_, He.frT_in, saysQ_of e⟩
  keeps := fun _ _ _ ⟨K, hK, c⟩ k => ⟨K, PySem.W.Frag.In.keeps hK k, { c with em := fun p hp => k _ _ (c.em p hp) }⟩
def obQ (s : PySem.W.SharedT) : AlQ := obsQ (HandSHeadRun.getT s) (kG (HandSHeadRun.getT s))
theorem obQ_eq (s : PySem.W.SharedT) : obQ s = hookQ.obs s.abs := by
  have e : HandSHeadRun.getT s = s.abs.heap.get? := funext (HandSHeadRun.getT_eq s)
  show obsQ (HandSHeadRun.getT s) (kG (HandSHeadRun.getT s)) = _
  rw [e] <;> rfl
/-! ### the run of the top -/
abbrev Rq : PySem.W.OpenRow := PySem.W.OpenLaw.row PySem.Challenge.rw_jumblepost_k87_rows_of_the_desk_and_colu
abbrev vQ : Program := PySem.W.view Rq.prog [57]
def loose1 : List Str := ["_wall", "__name__", "PostError", "BadValue", "BadText", "BadAsk", "is_integer", "is_within", "DIGITS", "integer_of", "Words", "spread_of", "Jumble", "MOST_NUMBER", "SIGNS", "MOST_SIGNS", "MOST_PANES", "is_signs", "is_word", "letter_of", "read_look", "THINGS", "NAMES", "WIDEST", "taken_jumble", "taken_letter"]
def loose2 : List Str := ["taken_letters", "taken_thing", "row_parts", "parsed", "is_table", "column", "columns", "_law_pen", "_law_draw", "_law_pick", "_law_heard", "_law_is_number", "_law_letter", "_law_jumble", "_law_due", "_law_same", "_law_word", "_law_number", "_law_rule", "_law_row", "_law_bent", "_law_rows_right", "_law_item", "_law_table_right", "_law_widths_right"]
def looseQ : List Str := loose1 ++ loose2
end Q7
set_option maxHeartbeats 0
namespace Q7
open PySem PySem.Spec PyProof.Rows L2 SX
theorem run_no (w : World) : HandSHeadRun.RunEq Rq vQ hookQ obQ 4300 looseQ (w.withFollow "special-get-raises" false) := by
  intro os
  kernel_rfl
theorem run_yes (w : World) : HandSHeadRun.RunEq Rq vQ hookQ obQ 4300 looseQ (w.withFollow "special-get-raises" true) := by
  intro os
  kernel_rfl
theorem run_all (w : World) : HandSHeadRun.RunEq Rq vQ hookQ obQ 4300 looseQ w := PySem.W.byRow2 "special-get-raises" (P := HandSHeadRun.RunEq Rq vQ hookQ obQ 4300 looseQ) run_no run_yes w
end Q7
set_option maxHeartbeats 2000000
namespace Q7
open PySem PySem.Spec PyProof.Rows L2 SX
/-! ### the end: a law whose promise holds where nothing is under repr -/
def tabO : Obj := { cls := .none, data := .fields #[] }
/-- the script, the tables: what stands at their addresses at the start -/
structure Begun (h : Heap) (K : PySem.W.Frag) (cs : List (Addr × Addr)) (a : Addr) (o : Obj) : Prop where
  tb : ∀ p ∈ cs, h.get? p.2 = some tabO
  nk : ∀ p ∈ cs, K.lookup p.2 = none
  hd : ∀ p ∈ cs, PySem.W.CodeHd h p.1 p.2
  sc : h.get? a = some o
  sq : ∃ vs n, o.data = .seq vs n
/-- .. of which H tells no more -/
structure Told (h : Heap) (K : PySem.W.Frag) (cs : List (Addr × Addr)) (a : Addr) (H : Hp) : Prop where
  tb : ∀ p ∈ cs, H p.2 = some (.tbl #[])
  fz : ∀ b u, H b = some u → (∃ p ∈ cs, p.2 = b) ∨ (b = a ∧ K.lookup a = none ∧ ∃ o xs, u = .frz o (.lst xs))
section
variable {P : Program} {w : World} {K : PySem.W.Frag} {mg mb : Str → Option Value} {k : Nat} {fa a : Addr} {cs : List (Addr × Addr)} {sp : Sp} {s : Shared} {o : Obj} {H : Hp}
theorem Begun.tabEq (B : Begun s.heap K cs a o) {b : Addr} (hb : ∃ p ∈ cs, p.2 = b) : s.heap.get? b = some tabO := by
  obtain ⟨p, hp, rfl⟩ := hb
  exact B.tb p hp
/-- what is no sequence and no table is not told -/
theorem untold (B : Begun s.heap K cs a o) (T : Told s.heap K cs a H) {b : Addr} {u : Obj} (e : s.heap.get? b = some u) (h1 : ∀ vs n, u.data ≠ .seq vs n) (h2 : u.data ≠ .fields #[]) : H b = none := by
  cases q : H b with
  | none => rfl
  | some z =>
    rcases T.fz b z q with t | ⟨rfl, _⟩
    · have e2 := B.tabEq t
      rw [e] at e2
      exact (h2 (congrArg Obj.data (Option.some.inj e2))).elim
    · obtain ⟨vs, n, hd⟩ := B.sq
      have e2 := B.sc
      rw [e] at e2
      exact (h1 vs n ((congrArg Obj.data (Option.some.inj e2)).trans hd)).elim
theorem seen_ns (B : Begun s.heap K cs a o) (T : Told s.heap K cs a H) {b : Addr} {m : Str → Option Value} (n : s.heap.Ns b m) : (hidT s.heap H).Ns b m := by
  obtain ⟨u, es, ep, e, d, r⟩ := n
  exact ⟨u, es, ep, hidT_get e (untold B T e (fun vs n z => by rw [d] at z; cases z) fun z => by rw [d] at z; cases z), d, r⟩
theorem seen_K (B : Begun s.heap K cs a o) (T : Told s.heap K cs a H) (KX : K.In s.heap) : K.In (hidT s.heap H) := fun b u e => by
  refine hidT_get (KX b u e) ?_
  cases q : H b with
  | none => rfl
  | some z =>
    rcases T.fz b z q with ⟨p, hp, ep⟩ | ⟨eb, nk, _⟩
    · rw [← ep, B.nk p hp] at e
      cases e
    · rw [eb, nk] at e
      cases e
theorem seen_tab (B : Begun s.heap K cs a o) (T : Told s.heap K cs a H) (hns : s.heap.Ns mainGlobals mg)
    (hbm : ∃ (bm : Addr) (ob : Obj), mg "__builtins__" = some (.ref bm) ∧ bm ≠ builtinsNs ∧ s.heap.get? bm = some ob ∧ ob.cls = .type "module" ∧ ob.dict = some builtinsNs ∧ ob.data = .plain) : ∀ p ∈ cs, LamX.TabB (hidT s.heap H) mg p.1 p.2 := fun p hp => by
  have e0 := B.tb p hp
  obtain ⟨oG, esG, epG, eG, dG, rG⟩ := hns
  refine ⟨?_, ?_, fun z => ?_⟩
  · obtain ⟨oc, us, file, tf, flags, tg, inF, text, tt, e1, r1, r2, r3, r⟩ := B.hd p hp
    refine ⟨oc, us, file, tf, flags, tg, inF, text, tt, hidT_get e1 (untold B T e1 (fun vs n z => by rw [r2] at z; cases z) fun z => ?_), r1, r2, r3, r⟩
    rw [r2] at z
    obtain rfl : us = #[] := Data.fields.inj z
    simp at r3
  · obtain ⟨bm, ob, b1, b2, b3, b4, b5, b6⟩ := hbm
    refine ⟨bm, ob, b1, b2, fun q => ?_, fun q => ?_, hidT_get b3 (untold B T b3 (fun vs n z => by rw [b6] at z; cases z) fun z => by rw [b6] at z; cases z), b4, b5, b6⟩
    · rw [q, eG] at b3
      rw [Option.some.inj b3, b6] at dG
      cases dG
    · rw [q, e0] at b3
      rw [← Option.some.inj b3] at b6
      cases b6
  · rw [z, e0] at eG
    rw [← Option.some.inj eG] at dG
    cases dG
/-- the call of the law over the heap that H tells -/
theorem end_over (B : Begun s.heap K cs a o) (T : Told s.heap K cs a H) (KX : K.In s.heap) (hns : s.heap.Ns mainGlobals mg) (hb : s.heap.Ns builtinsNs mb) (hbb : ∀ x : Str, x ≠ "__name__" → mb x = bootBuiltins x) (hlim : s.heap.NoLimit) (hg : s.gens = #[])
    (hbm : ∃ (bm : Addr) (ob : Obj), mg "__builtins__" = some (.ref bm) ∧ bm ≠ builtinsNs ∧ s.heap.get? bm = some ob ∧ ob.cls = .type "module" ∧ ob.dict = some builtinsNs ∧ ob.data = .plain) (hr : Room k callerA) (hok : HOk P w H s.heap)
    (F : ∀ base : Heap, K.In base → base.Ns mainGlobals mg → (∀ p ∈ cs, LamX.TabB base mg p.1 p.2) → FnRG P w K mg base CX0 k fa sp) (hsp : sp [.ref a] H (fun v _ => v = .bl true) fun _ _ _ => False) :
    codeAny (model P w) callerA (.call (.ref fa) ⟨[.ref a], []⟩) (fun r t => r = .ok (.ret (.bool true)) ∧ OldK s.heap t.heap ∧ t.os = s.os ∧ AllBare t.gens) s := by
  have KB := seen_K B T KX
  have NB := seen_ns B T hns
  have md : L2.Mod K mg (hidT s.heap H) := ⟨KB, NB, ⟨mb, seen_ns B T hb, hbb⟩, hlim.imp fun mc l => ⟨seen_ns B T l.1, l.2⟩⟩
  have ev : Env0 P w K mg (hidT s.heap H) callerA [] s H := ⟨rfl, md, fun b u e => of_hidT e, Nat.le_of_eq (hidT_size _ _), trivial, fun b z => absurd (show b ∈ ([] : List Addr) from z) (by simp), hok, .of_eq hg⟩
  refine codeAny_mono (F _ KB NB (seen_tab B T hns hbm) callerA [] s H [.ref a] [.ref a] _ _ rfl hr ev (.cons rfl .nil) hsp) fun r t h => ?_
  match r, h with
  | .error e, h => exact h.elim
  | .ok .next, h => exact h.elim
  | .ok .brk, h => exact h.elim
  | .ok .cont, h => exact h.elim
  | .ok (.ret u), ⟨v, H', os, bare, un, hok', ru, ev⟩ =>
    obtain rfl : v = .bl true := ev
    obtain rfl : u = Value.bool true := ru
    have old : ∀ b u, (¬ ∃ p ∈ cs, p.2 = b) → s.heap.get? b = some u → t.heap.get? b = some u := fun b u nt e => by
      cases q : H b with
      | none => exact un.keep b u e q (fun z => absurd (show b ∈ ([] : List Addr) from z) (by simp)) (by simp)
      | some z =>
        rcases T.fz b z q with x | ⟨_, _, ob, xs, rfl⟩
        · exact absurd x nt
        · have e1 := (hok b _ q).1
          rw [e] at e1
          obtain rfl := Option.some.inj e1
          exact (hok' b _ (un.frzs b _ _ q)).1
    have more : ∀ p ∈ cs, ∃ l : Array Value, t.heap.get? p.2 = some { cls := .none, data := .fields l } := fun p hp => by
      obtain ⟨l, z⟩ := un.tbls p.2 #[] (T.tb p hp)
      exact ⟨_, hok' p.2 _ z⟩
    refine ⟨rfl, ⟨fun b u e => ?_, fun b u e => ?_⟩, os, bare⟩
    · by_cases nt : ∃ p ∈ cs, p.2 = b
      · obtain ⟨p, hp, rfl⟩ := nt
        obtain ⟨l, hl⟩ := more p hp
        have e1 := B.tb p hp
        rw [e] at e1
        obtain rfl := Option.some.inj e1
        exact .inr (.inl ⟨((B.hd p hp).tab (B.tb p hp)).isCodeTable, rfl, #[], l, rfl, by rw [Array.empty_append]; exact hl⟩)
      · exact .inl (old b u nt e)
    · by_cases nt : ∃ p ∈ cs, p.2 = b
      · obtain ⟨p, hp, rfl⟩ := nt
        exact (more p hp).elim fun l hl => ⟨_, hl⟩
      · exact ⟨u, old b u nt e⟩
end
end Q7
set_option maxHeartbeats 2000000
namespace Q7
open PySem PySem.Spec PyProof.Rows L2 SX
/-- the two heaps that tell of the tables, and of the script if K does not hold it -/
def tblH (cs : List (Addr × Addr)) : Hp := fun b => if ∃ p ∈ cs, p.2 = b then some (.tbl #[]) else none
def scrH (cs : List (Addr × Addr)) (a : Addr) (o : Obj) (xs : List V) : Hp := fun b => if b = a then some (.frz o (.lst xs)) else tblH cs b
section
variable {P : Program} {w : World} {K : PySem.W.Frag} {mg mb : Str → Option Value} {k : Nat} {fa a : Addr} {cs : List (Addr × Addr)} {sp : Sp} {s : Shared} {vs : List Value} {ns : List Int}
theorem tblH_at {p : Addr × Addr} (h : p ∈ cs) : tblH cs p.2 = some (.tbl #[]) := if_pos ⟨p, h, rfl⟩
theorem tblH_of {b : Addr} {u : HO} (h : tblH cs b = some u) : (∃ p ∈ cs, p.2 = b) ∧ u = .tbl #[] := by
  by_cases q : ∃ p ∈ cs, p.2 = b
  · exact ⟨q, (Option.some.inj ((if_pos q).symm.trans h)).symm⟩
  · exact absurd ((if_neg q).symm.trans h) (by intro z; cases z)
theorem end_script (tb : ∀ p ∈ cs, s.heap.get? p.2 = some tabO) (nk : ∀ p ∈ cs, K.lookup p.2 = none) (hd : ∀ p ∈ cs, PySem.W.CodeHd s.heap p.1 p.2) (KX : K.In s.heap) (hns : s.heap.Ns mainGlobals mg) (hb : s.heap.Ns builtinsNs mb) (hbb : ∀ x : Str, x ≠ "__name__" → mb x = bootBuiltins x) (hlim : s.heap.NoLimit) (hg : s.gens = #[])
    (hbm : ∃ (bm : Addr) (ob : Obj), mg "__builtins__" = some (.ref bm) ∧ bm ≠ builtinsNs ∧ s.heap.get? bm = some ob ∧ ob.cls = .type "module" ∧ ob.dict = some builtinsNs ∧ ob.data = .plain) (hr : Room k callerA) (ha : s.heap.get? a = some { cls := .type "list", data := .seq vs.toArray }) (hi : IntsAre vs ns) (hl : ns.length ≤ sizeLine)
    (F : ∀ base : Heap, K.In base → base.Ns mainGlobals mg → (∀ p ∈ cs, LamX.TabB base mg p.1 p.2) → FnRG P w K mg base CX0 k fa sp) (hsp : ∀ H : Hp, (∀ p ∈ cs, H p.2 = some (.tbl #[])) → SqL K H a (ns.map V.int) → sp [.ref a] H (fun v _ => v = .bl true) fun _ _ _ => False) :
    codeAny (model P w) callerA (.call (.ref fa) ⟨[.ref a], []⟩) (fun r t => r = .ok (.ret (.bool true)) ∧ OldK s.heap t.heap ∧ t.os = s.os ∧ AllBare t.gens) s := by
  have B : Begun s.heap K cs a { cls := .type "list", data := .seq vs.toArray } := ⟨tb, nk, hd, ha, vs.toArray, _, rfl⟩
  have rel := vals_ints hi
  have na : ¬ ∃ p ∈ cs, p.2 = a := fun q => by
    have e := B.tabEq q
    rw [ha] at e
    have e2 : (Data.seq vs.toArray _) = Data.fields #[] := congrArg Obj.data (Option.some.inj e)
    cases e2
  have okT : ∀ b u, tblH cs b = some u → ObjOk P w (tblH cs) s.heap b u ∧ u = .tbl #[] := fun b u z => by
    obtain ⟨q, rfl⟩ := tblH_of z
    exact ⟨B.tabEq q, rfl⟩
  cases hk : K.lookup a with
  | some o =>
    have e := KX a o hk
    rw [ha] at e
    obtain rfl := Option.some.inj e
    refine end_over (H := tblH cs) B ⟨fun p hp => tblH_at hp, fun b u z => .inl (tblH_of z).1⟩ KX hns hb hbb hlim hg hbm hr (fun b u z => (okT b u z).1) F (hsp _ (fun p hp => tblH_at hp) (.inr ⟨_, vs.toArray, _, hk, rfl, rfl, rfl, ?_, by simpa using rel⟩))
    rw [List.size_toArray, hi.length]
    exact hl
  | none =>
    have at_ : ∀ p ∈ cs, scrH cs a { cls := .type "list", data := .seq vs.toArray } (ns.map V.int) p.2 = some (.tbl #[]) := fun p hp => (if_neg fun z => na ⟨p, hp, z⟩).trans (tblH_at hp)
    have self : scrH cs a { cls := .type "list", data := .seq vs.toArray } (ns.map V.int) a = some (.frz { cls := .type "list", data := .seq vs.toArray } (.lst (ns.map V.int))) := if_pos rfl
    refine end_over (H := scrH cs a _ (ns.map V.int)) B ⟨at_, fun b u z => ?_⟩ KX hns hb hbb hlim hg hbm hr (fun b u z => ?_) F (hsp _ at_ (.inl (.inr ⟨_, self⟩)))
    · by_cases q : b = a
      · exact .inr ⟨q, hk, _, _, (Option.some.inj ((if_pos q).symm.trans z)).symm⟩
      · exact .inl (tblH_of ((if_neg q).symm.trans z)).1
    · by_cases q : b = a
      · obtain rfl := Option.some.inj ((if_pos q).symm.trans z)
        rw [q]
        exact ⟨ha, by rw [List.length_map]; exact hl, vs, _, rel, ha⟩
      · obtain ⟨q2, rfl⟩ := tblH_of ((if_neg q).symm.trans z)
        exact B.tabEq q2
end
/-- what the head's heap h tells of the law's def at fa -/
def Promised (l : PySem.W.OpenLaw) (w : World) (k : Nat) (mg : Str → Option Value) (fa : Addr) (h : Heap) : Prop := ∃ (K : PySem.W.Frag) (cs : List (Addr × Addr)) (sp : Sp), K.In h ∧ (∀ p ∈ cs, h.get? p.2 = some tabO) ∧ (∀ p ∈ cs, K.lookup p.2 = none) ∧ (∀ p ∈ cs, PySem.W.CodeHd h p.1 p.2) ∧
  (∀ (H : Hp) (a : Addr) (ns : List Int), (∀ p ∈ cs, H p.2 = some (.tbl #[])) → SqL K H a (ns.map V.int) → sp [.ref a] H (fun v _ => v = .bl true) fun _ _ _ => False) ∧
  ∀ base : Heap, K.In base → base.Ns mainGlobals mg → (∀ p ∈ cs, LamX.TabB base mg p.1 p.2) → FnRG l.prog w K mg base CX0 k fa sp
theorem walk_end {l : PySem.W.OpenLaw} {n k : Nat} {q : Program} {loose : List Str} {XP : (Str → Option Value) → Heap → Prop} {YP : World → Heap → Prop} {d : DefRec} (hn : l.most = some n) (hn2 : n ≤ sizeLine) (hdf : d.params.defaults = []) (hr : Room k callerA)
    (F : ∀ (w : World) (mg : Str → Option Value) (fa : Addr) (h : Heap), YP w h → h.Ns mainGlobals mg → mg d.name = some (.ref fa) → Promised l w k mg fa h) : PySem.W.WalkO q loose XP YP l.row.toRowW d [] (fun f vs => PySem.call f vs) := by
  refine Att.attach_callB hn hdf fun w s₀ t mg mb fa o pm cd doc a vs ns G Y ho hd hcd hmg hobj hints hlen hbits hg => ?_
  obtain ⟨K, cs, sp, KX, tb, nk, hc, hsp, hF⟩ := F w mg fa _ Y G.T.g hmg
  exact end_script tb nk hc KX G.T.g G.T.b G.T.builtins G.T.nolimit hg G.T.bmain hr hobj hints (Nat.le_trans hlen hn2) hF fun H h1 h2 => hsp H a ns h1 h2
end Q7
set_option maxHeartbeats 4000000
namespace Q7
open PySem PySem.Spec PyProof.Rows L2 SX
/-! ### the facts of the errors, off the Bools -/
theorem nth_ok {l : List Bool} (h : l.all id = true) (i : Nat) {b : Bool} (e : l[i]? = some b := by rfl) : b = true := List.all_eq_true.mp h b (List.mem_of_getElem? e)
theorem eqB_ok {a : Option Bool} {b : Bool} (h : eqB a b = true) : a = some b := of_decide_eq_true h
theorem eqT1_ok {a : Option Value} {n : String} (h : eqT1 a n = true) : a = some (.type n) := of_decide_eq_true h
theorem array6 {α : Type} {sl : Array α} {a b c d e f : α} (h : sl.toList = [a, b, c, d, e, f]) : sl = #[a, b, c, d, e, f] := by
  rw [← Array.toArray_toList (xs := sl), h]
theorem mroX {C : Addr} {l : List Value} (h : (match l with
  | .ref C' :: bm => decide (C' = C) && HandSPX.refsVE bm
  | _ => false) = true) : ∃ bm, l = .ref C :: bm ∧ HandSPX.refsVE bm = true := by
  split at h
  · obtain ⟨e1, e2⟩ := He.ba h
    rw [of_decide_eq_true e1]
    exact ⟨_, rfl, e2⟩
  · cases h
theorem slX {l : List (Option Value)} (h : (match l with
  | [_, _, _, _, some (.builtin n), _] => decide (n = "ValueError.__new__")
  | _ => false) = true) : ∃ k0 k1 k2 k3 k5, l = [k0, k1, k2, k3, some (.builtin "ValueError.__new__"), k5] := by
  split at h
  · rw [of_decide_eq_true h]
    exact ⟨_, _, _, _, _, rfl⟩
  · cases h
theorem excObj_ok {K : PySem.W.Frag} {C : Addr} (h : excObjB K C = true) : ∃ nm q N bs bm sn sub ab col dd k0 k1 k2 k3 k5, K.lookup C = some (excClassObj nm q C N bs bm true sn sub ab col dd k0 k1 k2 k3 k5 "ValueError.__new__") ∧ PySem.HandSPX.refsVE bm = true := by
  unfold excObjB at h
  split at h
  · rename_i t dd cd sl e
    obtain ⟨h1, h⟩ := He.ba h
    obtain ⟨h2, h⟩ := He.ba h
    obtain ⟨h3, h⟩ := He.ba h
    obtain ⟨h4, h5⟩ := He.ba h
    obtain ⟨bm, e1, e2⟩ := mroX h2
    obtain ⟨k0, k1, k2, k3, k5, e4⟩ := slX h5
    obtain ⟨nm, bs, mro, N, q, hdct, sn, sub, ab, col, del⟩ := cd
    have h3' : hdct = true := h3
    have h4' : (!del) = true := h4
    have e5 : del = false := by
      cases del with
      | false => rfl
      | true => cases h4'
    have e6 : mro = .ref C :: bm := e1
    have e7 := of_decide_eq_true h1
    refine ⟨nm, q, N, bs, bm, sn, sub, ab, col, dd, k0, k1, k2, k3, k5, ?_, e2⟩
    rw [e, array6 e4, e7, h3', e5, e6]
  · cases h
section
variable {K : PySem.W.Frag} {C CP : Addr}
theorem errCls_ok (h : (errL K C CP).all id = true) : ErrCls K C := ⟨excObj_ok (nth_ok h 0), He.eqO_ok (nth_ok h 1), eqB_ok (nth_ok h 2), He.eqO_ok (nth_ok h 3)⟩
theorem errAt_ok (h : (errL K C CP).all id = true) : ErrAt K C (iOf K C) CP (iOf K CP) := ⟨errCls_ok h, eqB_ok (nth_ok h 4), eqB_ok (nth_ok h 5), He.eqO_ok (nth_ok h 6), He.eqO_ok (nth_ok h 7), eqT1_ok (nth_ok h 8), nth_ok h 9, He.eqO_ok (nth_ok h 10), He.eqO_ok (nth_ok h 11), eqT1_ok (nth_ok h 12), eqB_ok (nth_ok h 13), eqT1_ok (nth_ok h 14), nth_ok h 15⟩
theorem errXf_ok (h : (errL K C CP).all id = true) : XfC K C := xfB_ok (nth_ok h 16)
theorem excC_ok (h : (errL K C CP).all id = true) (g : (excL K C).all id = true) : ExcC K C := ⟨(errXf_ok h).ga, (errXf_ok h).gg, (errXf_ok h).exC, (errXf_ok h).hdC, He.eqO_ok (nth_ok g 0), He.eqO_ok (nth_ok g 1), eqB_ok (nth_ok g 2), eqB_ok (nth_ok g 3)⟩
theorem insC_ok (c : Cls K C) (g : (excL K C).all id = true) : C8.InsC K C := ⟨c, He.eqO_ok (nth_ok g 0), He.eqO_ok (nth_ok g 1), eqB_ok (nth_ok g 2), eqB_ok (nth_ok g 3), eqB_ok (nth_ok g 4)⟩
theorem fileB_ok {file : Str} {v : Value} (h : fileB K file v = true) : ∃ cda ccl cdd vs ccs z tf, v = .ref cda ∧ K.lookup cda = some ⟨ccl, cdd, .fields vs, ccs⟩ ∧ vs[2]? = some (.str z tf) ∧ (file == z) = true := by
  unfold fileB at h
  split at h
  · split at h
    · rename_i c _ _ _ vs _ e
      split at h
      · rename_i z tf e2
        exact ⟨_, _, _, vs, _, z, tf, rfl, e, e2, h⟩
      · cases h
    · cases h
  · cases h
theorem cellB_ok {D : Addr} {l : List (Str × Addr)} (h : cellB K D l = true) : ∃ q cl cld csl, l = [q] ∧ K.lookup q.2 = some ⟨cl, cld, .cell (some (.ref D)), csl⟩ := by
  unfold cellB at h
  split at h
  · rename_i q
    split at h
    · rename_i e
      obtain rfl := of_decide_eq_true h
      exact ⟨q, _, _, _, rfl, e⟩
    · cases h
  · cases h
theorem noneB_ok {v : Value} (h : noneB v = true) : v = .none := by
  cases v with
  | none => rfl
  | _ => cases h
theorem sup_ok {prog : Program} {q : Str} {st : Stmt} {D f : Addr} (h : supB K prog.main.file q D f = true) (hn : noDfl K f = true) (hz : fnZ K f = valZ q st) : SupTxt K prog q (defArgs st) (defBody st) (defScope st) D f := by
  obtain ⟨h1, h2⟩ := He.ba h
  unfold fnZ at hz
  cases e : K.lookup f with
  | none =>
    rw [e] at h1
    cases h1
  | some o =>
    obtain ⟨oc, od, dt, osl⟩ := o
    rw [e] at h1 hz
    unfold noDfl at hn
    rw [e] at hn
    cases dt with
    | func fd =>
      obtain ⟨b1, b2⟩ := He.ba h1
      obtain ⟨b3, b4⟩ := He.ba b2
      obtain ⟨n1, n2, n3, n4, n5, n6, n7, n8, n9, n10, n11, n12, n13, n14, n15⟩ := fd
      obtain ⟨cda, ccl, cdd, vs, ccs, z, tf, ev, l1, l2, l3⟩ := fileB_ok b3
      obtain ⟨p, cl, cld, csl, el, l4⟩ := cellB_ok b4
      obtain ⟨p1, p2⟩ := p
      have ev' : n13 = .ref cda := ev
      have el' : n7 = [(p1, p2)] := el
      have en' : n8 = .none := noneB_ok hn
      subst ev' el' en'
      have hz2 : (some (n1, n2, n3, n4, n5, n6, [p1], n15) : FnZ) = valZ q st := hz
      unfold valZ at hz2
      simp only [Option.some.injEq, Prod.mk.injEq, List.cons.injEq, and_true] at hz2
      obtain ⟨z1, z2, z3, z4, z5, z6, z7, z8⟩ := hz2
      subst z1 z2 z3 z4 z5 z6 z7 z8
      exact ⟨⟨oc, od, _, _, _, _, cda, _, p2, osl, e, b1, ⟨ccl, cdd, vs, ccs, z, tf, l1, l2, l3⟩, cl, cld, csl, l4⟩, Option.isSome_iff_exists.mp h2⟩
    | _ => cases h1
end
end Q7
set_option maxHeartbeats 4000000
namespace Q7
open PySem PySem.Spec PyProof.Rows L2 SX
/-! ### the four __init__s -/
abbrev Pq : Program := PySem.Challenge.rw_jumblepost_k87_rows_of_the_desk_and_colu.prog
abbrev iT : Stmt := inC (top 4) 0
abbrev iA : Stmt := inC (top 5) 0
abbrev iV : Stmt := inC (top 3) 0
abbrev iP : Stmt := inC (top 2) 0
theorem ssT : SupScope Pq (defArgs iT) (defScope iT) := ⟨rfl, rfl, rfl, rfl, rfl, rfl, by decide +kernel, ⟨_, rfl, rfl⟩, rfl⟩
theorem ssA : SupScope Pq (defArgs iA) (defScope iA) := ⟨rfl, rfl, rfl, rfl, rfl, rfl, by decide +kernel, ⟨_, rfl, rfl⟩, rfl⟩
theorem ssV : SupScope Pq (defArgs iV) (defScope iV) := ⟨rfl, rfl, rfl, rfl, rfl, rfl, by decide +kernel, ⟨_, rfl, rfl⟩, rfl⟩
theorem ssP : SupScope Pq (defArgs iP) (defScope iP) := ⟨rfl, rfl, rfl, rfl, rfl, rfl, by decide +kernel, ⟨_, rfl, rfl⟩, rfl⟩
section
variable {K : PySem.W.Frag} {C CP : Addr}
theorem errT_of (h : (errL K C CP).all id = true) (n1 : PySem.W.findIn K (.ref C) "at" = some none) (n2 : PySem.W.findIn K (.ref C) "word" = some none) (S : SupTxt K Pq "BadText.__init__" (defArgs iT) (defBody iT) (defScope iT) C (iOf K C)) : Err2 K Pq C (iOf K C) CP (iOf K CP) "at" "word" := by
  refine ⟨errAt_ok h, n1, n2, _, _, _, _, _, _, _, _, _, _, _, _, _, _, _, _, _, _, _, ssT, S, rfl, rfl, by decide, by decide, fun s a b c fd e e2 => .of_eq ?_, by decide, by decide, by decide, fun L cda cc => ⟨_, rfl⟩, fun _ _ _ => rfl, fun _ _ _ => rfl, fun _ _ _ => rfl⟩
  obtain ⟨z1, z2, z3, z4, z5, z6, z7, z8, z9, z10, z11, z12, z13, z14, z15⟩ := fd
  cases e
  cases e2
  rfl
theorem errA_of (h : (errL K C CP).all id = true) (n1 : PySem.W.findIn K (.ref C) "at" = some none) (n2 : PySem.W.findIn K (.ref C) "word" = some none) (S : SupTxt K Pq "BadAsk.__init__" (defArgs iA) (defBody iA) (defScope iA) C (iOf K C)) : Err2 K Pq C (iOf K C) CP (iOf K CP) "at" "word" := by
  refine ⟨errAt_ok h, n1, n2, _, _, _, _, _, _, _, _, _, _, _, _, _, _, _, _, _, _, _, ssA, S, rfl, rfl, by decide, by decide, fun s a b c fd e e2 => .of_eq ?_, by decide, by decide, by decide, fun L cda cc => ⟨_, rfl⟩, fun _ _ _ => rfl, fun _ _ _ => rfl, fun _ _ _ => rfl⟩
  obtain ⟨z1, z2, z3, z4, z5, z6, z7, z8, z9, z10, z11, z12, z13, z14, z15⟩ := fd
  cases e
  cases e2
  rfl
theorem errV_of (h : (errL K C CP).all id = true) (n1 : PySem.W.findIn K (.ref C) "what" = some none) (S : SupTxt K Pq "BadValue.__init__" (defArgs iV) (defBody iV) (defScope iV) C (iOf K C)) : Err1 K Pq C (iOf K C) CP (iOf K CP) "what" := by
  refine ⟨errAt_ok h, n1, _, _, _, _, _, _, _, _, _, _, _, _, _, _, _, ssV, S, rfl, by decide, fun s a b fd e e2 => .of_eq ?_, by decide, fun L cda cc => ⟨_, rfl⟩, fun _ _ _ => rfl, fun _ _ _ => rfl⟩
  obtain ⟨z1, z2, z3, z4, z5, z6, z7, z8, z9, z10, z11, z12, z13, z14, z15⟩ := fd
  cases e
  cases e2
  rfl
theorem postP_of (S : SupTxt K Pq "PostError.__init__" (defArgs iP) (defBody iP) (defScope iP) CP (iOf K CP)) : PostTxt K Pq CP (iOf K CP) := by
  refine ⟨_, _, _, _, _, _, _, _, _, _, _, _, _, _, _, ssP, S, rfl, fun a b fd e e2 => ?_, fun L cda cc => ⟨_, rfl⟩, fun _ _ _ => rfl, fun _ _ _ => rfl⟩
  obtain ⟨z1, z2, z3, z4, z5, z6, z7, z8, z9, z10, z11, z12, z13, z14, z15⟩ := fd
  cases e
  cases e2
  rfl
end
end Q7
set_option maxHeartbeats 4000000
namespace Q7
open PySem PySem.Spec PyProof.Rows L2 SX
/-! ### what the head tells, name by name -/
section
variable {K : PySem.W.Frag} {h : Heap} {mg : Str → Option Value} {w : World}
theorem factM {fa : List He.Fa} {fn : List He5.DefA} (c : He5.SaysA fa fn K) {f : He.Fa} (m : f ∈ fa) : f.ok K = true := by
  obtain ⟨i, hi, e⟩ := List.mem_iff_getElem.mp m
  exact c.fact i (f := f) (by rw [List.getElem?_eq_getElem hi, e])
theorem defM {fa : List He.Fa} {fn : List He5.DefA} (c : He5.SaysA fa fn K) {d : He5.DefA} (m : d ∈ fn) : ∃ fd, FunD K d.name d.qual d.params d.body d.scope (d.dvs K) (d.kws K) (d.at_ K) fd := by
  obtain ⟨i, hi, e⟩ := List.mem_iff_getElem.mp m
  exact c.def_ i (d := d) (by rw [List.getElem?_eq_getElem hi, e])
theorem at_fa (c : SaysQ w h K) (i : Nat) {f : He.Fa} (e : faAll[i]? = some f := by rfl) : f.ok K = true := c.d.fact i e
theorem at_fn (c : SaysQ w h K) (i : Nat) {d : He5.DefA} (e : fnAll[i]? = some d := by rfl) : ∃ fd, FunD K d.name d.qual d.params d.body d.scope (d.dvs K) (d.kws K) (d.at_ K) fd := c.d.def_ i e
/-- a def of the module -/
theorem pick (X : K.In h) (G : h.Ns mainGlobals mg) (c : SaysQ w h K) (x : Str) (i : Nat) (m : tp x i ∈ tops := by decide +kernel) : ∃ fd, FnP K x x (top i) [] (He.ga K x) fd ∧ mg x = some (.ref (He.ga K x)) := by
  obtain ⟨fd, F⟩ := defM c.d (d := dTop x i) (List.mem_append.mpr (.inr (List.mem_map.mpr ⟨tp x i, m, rfl⟩)))
  exact ⟨fd, F, He.glo_ok X G (factM c.d (f := .glo x) (List.mem_append.mpr (.inl (List.mem_append.mpr (.inr (List.mem_map.mpr ⟨tp x i, m, rfl⟩))))))⟩
theorem blt_of (X : K.In h) (G : h.Ns mainGlobals mg) (c : SaysQ w h K) : Blt mg := ⟨fun x m => He.free_ok X G (factM c.d (f := .free x) (List.mem_append.mpr (.inr (List.mem_map.mpr ⟨x, m, rfl⟩))))⟩
theorem errs_of (X : K.In h) (G : h.Ns mainGlobals mg) (c : SaysQ w h K) : Hear K Pq mg (aT K) (aA K) (aV K) (aP K) (iOf K (aT K)) (iOf K (aA K)) (iOf K (aV K)) (iOf K (aP K)) := by
  obtain ⟨d0, e0⟩ := He.ba c.su
  obtain ⟨sP, e1⟩ := He.ba e0
  obtain ⟨sT, e2⟩ := He.ba e1
  obtain ⟨sA, sV⟩ := He.ba e2
  obtain ⟨dP, d1⟩ := He.ba d0
  obtain ⟨dT, d2⟩ := He.ba d1
  obtain ⟨dA, dV⟩ := He.ba d2
  obtain ⟨rT, r1⟩ := He.ba c.er
  obtain ⟨rA, r2⟩ := He.ba r1
  obtain ⟨rV, r3⟩ := He.ba r2
  obtain ⟨k, r4⟩ := He.ba r3
  obtain ⟨xA, xV⟩ := He.ba r4
  have z := c.z
  have zat : ∀ (i : Nat) (q : (PySem.W.Frag → Addr) × Str × Stmt), zAll[i]? = some q → fnZ K (q.1 K) = valZ q.2.1 q.2.2 := fun i q e => by
    have e2 : (zAll.map fun z => fnZ K (z.1 K))[i]? = (zAll.map fun z => valZ z.2.1 z.2.2)[i]? := by rw [z]
    rw [List.getElem?_map, List.getElem?_map, e] at e2
    exact Option.some.inj e2
  have SP := sup_ok (prog := Pq) sP dP (zat 0 _ rfl)
  have ST := sup_ok (prog := Pq) sT dT (zat 1 _ rfl)
  have SA := sup_ok (prog := Pq) sA dA (zat 2 _ rfl)
  have SV := sup_ok (prog := Pq) sV dV (zat 3 _ rfl)
  exact { es := { tT := errT_of rT (He.eqO_ok (nth_ok k 8)) (He.eqO_ok (nth_ok k 9)) ST, tA := errA_of rA (He.eqO_ok (nth_ok k 10)) (He.eqO_ok (nth_ok k 11)) SA, tV := errV_of rV (He.eqO_ok (nth_ok k 12)) SV, tP := postP_of SP, gs := (blt_of X G c).g "super",
                  gT := He.glo_ok X G (at_fa c 8 (f := .glo "BadText")), gA := He.glo_ok X G (at_fa c 9 (f := .glo "BadAsk")), gV := He.glo_ok X G (at_fa c 10 (f := .glo "BadValue")), gP := He.glo_ok X G (at_fa c 11 (f := .glo "PostError")),
                  mT := eqB_ok (nth_ok k 0), mA := eqB_ok (nth_ok k 1), mV := eqB_ok (nth_ok k 2), xT := errXf_ok rT, xA := errXf_ok rA, xV := errXf_ok rV },
          cA := excC_ok rA xA, cV := excC_ok rV xV, aa := eqB_ok (nth_ok k 3), at_ := eqB_ok (nth_ok k 4), av := eqB_ok (nth_ok k 5), va := eqB_ok (nth_ok k 6), vv := eqB_ok (nth_ok k 7) }
theorem wcls_of (c : SaysQ w h K) : WCls K (aW K) := ⟨He.cls_ok (x := "Words") (at_fa c 14), He.noat_ok (x := "Words") (f := "at") (at_fa c 15), He.noat_ok (x := "Words") (f := "parts") (at_fa c 16), He.noat_ok (x := "Words") (f := "many") (at_fa c 17)⟩
theorem jcls_of (c : SaysQ w h K) : JCls K (aJ K) ∧ C8.InsC K (aJ K) ∧ ClX.CRead K (aJ K) (.type "type") ∧ ClX.CMet K (aJ K) (.type "type") "read" (He.ma K (aJ K) "read") (rdOf K) ∧ LenC K (aW K) (He.ma K (aW K) "__len__") := by
  obtain ⟨iJ, r1⟩ := He.ba c.cl
  obtain ⟨o, _⟩ := He.ba r1
  have cJ : Cls K (aJ K) := He.cls_ok (x := "Jumble") (at_fa c 18)
  have rd : ClX.CRead K (aJ K) (.type "type") := ⟨nth_ok o 2, He.eqO_ok (nth_ok o 3)⟩
  have hm : ∃ u, ClX.CVal K (aJ K) (.type "type") "MOST" (.int 20) u := by
    have q : mostB K = true := nth_ok o 4
    unfold mostB at q
    split at q
    · rename_i u e
      exact ⟨u, e, He.relB_ok q⟩
    · cases q
  obtain ⟨u, hm⟩ := hm
  exact ⟨⟨cJ, He.noat_ok (x := "Jumble") (f := "early") (at_fa c 19), He.noat_ok (x := "Jumble") (f := "late") (at_fa c 20), He.noat_ok (x := "Jumble") (f := "lost") (at_fa c 21), He.noat_ok (x := "Jumble") (f := "again") (at_fa c 22), He.noat_ok (x := "Jumble") (f := "apart") (at_fa c 23), ⟨_, u, rd, hm⟩⟩,
    insC_ok cJ iJ, rd, He5.cmet_of (nth_ok o 5) (nth_ok o 6), ⟨He.eqO_ok (nth_ok o 0), eqT1_ok (nth_ok o 1)⟩⟩
/-- a method of Words -/
theorem meth_at (c : SaysQ w h K) (m : Str) (i : Nat) (e : faAll[i]? = some (.meth "Words" m) := by rfl) (hm : m ∈ meths := by decide +kernel) (hc : PySem.W.copiedNames.contains m = false := by decide +kernel) : BMeth K (aW K) m (He.ma K (aW K) m) := by
  obtain ⟨_, r1⟩ := He.ba c.cl
  obtain ⟨_, b⟩ := He.ba r1
  have q : (bmL K (He.ma K (aW K) m)).all id = true := List.all_eq_true.mp b m hm
  exact ⟨He.meth_ok (x := "Words") (m := m) (at_fa c i e), He.eqO_ok (nth_ok q 0), eqB_ok (nth_ok q 1), hc, nth_ok q 2⟩
theorem ktB_ok {a : Addr} {vs : List V} (q : ktB K a vs = true) : KT K a vs := by
  unfold ktB at q
  split at q
  · rename_i t dd its n sl e
    obtain ⟨q1, q2⟩ := He.ba q
    obtain ⟨q3, q4⟩ := He.ba q2
    exact ⟨_, its, n, e, congrArg Value.type (of_decide_eq_true q1), rfl, of_decide_eq_true q3, He.relAll_ok q4⟩
  · cases q
theorem things_of (X : K.In h) (G : h.Ns mainGlobals mg) (c : SaysQ w h K) : Thg K w mg (He.ga K "THINGS") (He.ga K "NAMES") := by
  obtain ⟨q1, q2⟩ := He.ba c.th
  obtain ⟨es, n, D⟩ := He.dicW_ok c.k
  refine ⟨He.glo_ok X G (at_fa c 12 (f := .glo "THINGS")), fun m hm => ?_, He.glo_ok X G (at_fa c 13 (f := .glo "NAMES")), ktB_ok q1⟩
  obtain ⟨q3, q4⟩ := He.ba (List.all_eq_true.mp q2 m hm)
  exact ⟨rowAt K m, ⟨es, n, _, D.at_, D.lit, He.eqO_ok q3, rfl⟩, ktB_ok q4⟩
end
end Q7
set_option maxHeartbeats 8000000
namespace Q7
open PySem PySem.Spec PyProof.Rows L2 SX
/-! ### all promises joined -/
section
variable {K : PySem.W.Frag} {h : Heap} {mg : Str → Option Value} {w : World} {base : Heap}
def tab3s (K : PySem.W.Frag) : List (Addr × Str) := [(tabA K (f53 K), qLam "_law_rows_right"), (tabA K (f55 K), qLam "_law_table_right"), (tabA K (f56 K), qLam "_law_widths_right")]
theorem bind1 {x qual : Str} {params : Arguments} {body : List Stmt} {scope : Scope} {f : Addr} {fd : FuncData} {p1 : Str} (F : FunD K x qual params body scope [] [] f fd)
    (e : ∀ (kV doc pm : Value) (an : Option Addr) (cdv ct u : Value), bindArgs (PySem.W.fnOf x qual params body scope .none kV doc pm an cdv ct) ⟨[u], []⟩ = pure [(p1, u)] := by intros; rfl) : L2.Binds K fd [p1] [] :=
  F.bindsN fun a b c d m n us hl => match us, hl with | [u], _ => e a b c d m n u
theorem bind2 {x qual : Str} {params : Arguments} {body : List Stmt} {scope : Scope} {f : Addr} {fd : FuncData} {p1 p2 : Str} (F : FunD K x qual params body scope [] [] f fd)
    (e : ∀ (kV doc pm : Value) (an : Option Addr) (cdv ct u v : Value), bindArgs (PySem.W.fnOf x qual params body scope .none kV doc pm an cdv ct) ⟨[u, v], []⟩ = pure [(p1, u), (p2, v)] := by intros; rfl) : L2.Binds K fd [p1, p2] [] :=
  F.bindsN fun a b c d m n us hl => match us, hl with | [u, v], _ => e a b c d m n u v
theorem bind3 {x qual : Str} {params : Arguments} {body : List Stmt} {scope : Scope} {f : Addr} {fd : FuncData} {p1 p2 p3 : Str} (F : FunD K x qual params body scope [] [] f fd)
    (e : ∀ (kV doc pm : Value) (an : Option Addr) (cdv ct u v z : Value), bindArgs (PySem.W.fnOf x qual params body scope .none kV doc pm an cdv ct) ⟨[u, v, z], []⟩ = pure [(p1, u), (p2, v), (p3, z)] := by intros; rfl) : L2.Binds K fd [p1, p2, p3] [] :=
  F.bindsN fun a b c d m n us hl => match us, hl with | [u, v, z], _ => e a b c d m n u v z
/-- a def's code object -/
theorem code_of {x qual : Str} {params : Arguments} {body : List Stmt} {scope : Scope} {dvs : List V} {f : Addr} {fd : FuncData} (F : FunD K x qual params body scope dvs [] f fd) : fd.code = .ref (codeA K f) := by
  obtain ⟨oc, od, dV, kV, doc, pm, an, cdv, ct, osl, rfl, lk, hcd, _, _⟩ := F.ex
  obtain ⟨c, rfl⟩ := He.codeIn_ref hcd
  show Value.ref c = .ref (codeA K f)
  unfold codeA
  rw [lk]
theorem vals_rev : ∀ {vs : List V} {us : List Value}, Vals vs us → Vals vs.reverse us.reverse
  | _, _, .nil => .nil
  | _, _, .cons r rs => by
    rw [List.reverse_cons, List.reverse_cons]
    exact (vals_rev rs).append (.cons r .nil)
theorem nodup_fst {α β : Type} {l : List (α × β)} (nd : (l.map (·.1)).Nodup) {p q : α × β} (hp : p ∈ l) (hq : q ∈ l) (e : p.1 = q.1) : p = q := by
  induction l with
  | nil => cases hp
  | cons z r ih =>
    rw [List.map_cons, List.nodup_cons] at nd
    rcases List.mem_cons.mp hp with ep | hp2
    · rcases List.mem_cons.mp hq with eq | hq2
      · rw [ep, eq]
      · exact absurd (by rw [← ep, e]; exact List.mem_map_of_mem hq2) nd.1
    · rcases List.mem_cons.mp hq with eq | hq2
      · exact absurd (by rw [← eq, ← e]; exact List.mem_map_of_mem hp2) nd.1
      · exact ih nd.2 hp2 hq2
/-- keywords alone -/
theorem kb_parsed {fd : FuncData} (F : FnP K "parsed" "parsed" (top 34) [] (He.ga K "parsed") fd) : KBn K fd ["text"] 0 ["text"] (fun _ ws => ws) (fun _ zs => zs) := by
  obtain ⟨oc, od, dV, kV, doc, pm, an, cdv, ct, osl, rfl, lk, hcd, hD, _⟩ := F.ex
  obtain rfl : dV = .none := hD.elim (fun z => z.2) fun z => absurd rfl z.1
  refine ⟨fun s us ws _ l1 l2 => ?_, fun _ r => r⟩
  match us, l1, ws, l2 with
  | [], _, [u], _ => exact BindsTo.of_eq rfl
theorem kb_columns {fd : FuncData} (F : FnP K "columns" "columns" (top 37) [] (He.ga K "columns") fd) : KBn K fd ["rows", "widths"] 0 ["widths", "rows"] (fun _ ws => ws.reverse) (fun _ zs => zs.reverse) := by
  obtain ⟨oc, od, dV, kV, doc, pm, an, cdv, ct, osl, rfl, lk, hcd, hD, _⟩ := F.ex
  obtain rfl : dV = .none := hD.elim (fun z => z.2) fun z => absurd rfl z.1
  refine ⟨fun s us ws _ l1 l2 => ?_, fun _ r => vals_rev r⟩
  match us, l1, ws, l2 with
  | [], _, [u, v], _ => exact BindsTo.of_eq rfl
theorem law_all (X : K.In h) (G : h.Ns mainGlobals mg) (c : SaysQ w h K) (hT : ∀ p ∈ tab3 K, LamX.TabB base mg p.1 p.2) : FnRG Pq w K mg base CX0 12 (He.ga K "law") (spLaw K (tab3s K)) := by
  have Hr := errs_of X G c
  have Es := Hr.es
  have B := blt_of X G c
  have W := wcls_of c
  obtain ⟨J, IJ, rdJ, cmJ, LC⟩ := jcls_of c
  have T := things_of X G c
  obtain ⟨fd7, F7, g7⟩ := pick X G c "is_integer" 7
  obtain ⟨fd8, F8, g8⟩ := pick X G c "is_within" 8
  obtain ⟨fd11, F11, g11⟩ := pick X G c "integer_of" 11
  obtain ⟨fd14, F14, g14⟩ := pick X G c "spread_of" 14
  obtain ⟨fd21, F21, g21⟩ := pick X G c "is_signs" 21
  obtain ⟨fd22, F22, g22⟩ := pick X G c "is_word" 22
  obtain ⟨fd23, F23, g23⟩ := pick X G c "letter_of" 23
  obtain ⟨fd24, F24, g24⟩ := pick X G c "read_look" 24
  obtain ⟨fd29, F29, g29⟩ := pick X G c "taken_jumble" 29
  obtain ⟨fd30, F30, g30⟩ := pick X G c "taken_letter" 30
  obtain ⟨fd31, F31, g31⟩ := pick X G c "taken_letters" 31
  obtain ⟨fd32, F32, g32⟩ := pick X G c "taken_thing" 32
  obtain ⟨fd33, F33, g33⟩ := pick X G c "row_parts" 33
  obtain ⟨fd34, F34, g34⟩ := pick X G c "parsed" 34
  obtain ⟨fd35, F35, g35⟩ := pick X G c "is_table" 35
  obtain ⟨fd36, F36, g36⟩ := pick X G c "column" 36
  obtain ⟨fd37, F37, g37⟩ := pick X G c "columns" 37
  obtain ⟨fd39, F39, g39⟩ := pick X G c "_law_pen" 39
  obtain ⟨fd40, F40, g40⟩ := pick X G c "_law_draw" 40
  obtain ⟨fd41, F41, g41⟩ := pick X G c "_law_pick" 41
  obtain ⟨fd42, F42, g42⟩ := pick X G c "_law_heard" 42
  obtain ⟨fd43, F43, g43⟩ := pick X G c "_law_is_number" 43
  obtain ⟨fd44, F44, g44⟩ := pick X G c "_law_letter" 44
  obtain ⟨fd45, F45, g45⟩ := pick X G c "_law_jumble" 45
  obtain ⟨fd46, F46, g46⟩ := pick X G c "_law_due" 46
  obtain ⟨fd47, F47, g47⟩ := pick X G c "_law_same" 47
  obtain ⟨fd48, F48, g48⟩ := pick X G c "_law_word" 48
  obtain ⟨fd49, F49, g49⟩ := pick X G c "_law_number" 49
  obtain ⟨fd50, F50, g50⟩ := pick X G c "_law_rule" 50
  obtain ⟨fd51, F51, g51⟩ := pick X G c "_law_row" 51
  obtain ⟨fd52, F52, g52⟩ := pick X G c "_law_bent" 52
  obtain ⟨fd53, F53, g53⟩ := pick X G c "_law_rows_right" 53
  obtain ⟨fd54, F54, g54⟩ := pick X G c "_law_item" 54
  obtain ⟨fd55, F55, g55⟩ := pick X G c "_law_table_right" 55
  obtain ⟨fd56, F56, g56⟩ := pick X G c "_law_widths_right" 56
  obtain ⟨fd57, F57, g57⟩ := pick X G c "law" 57
  have kDIGITS : ∃ u, mg "DIGITS" = some u ∧ RelV (.str "0123456789") u := by
    obtain ⟨t, e⟩ := He.str_ok X G (at_fa c 0)
    exact ⟨_, e, t, rfl⟩
  have kSIGNS : ∃ u, mg "SIGNS" = some u ∧ RelV (.str "0123456789abcdefghijklmnopqrstuvwxyz") u := by
    obtain ⟨t, e⟩ := He.str_ok X G (at_fa c 1)
    exact ⟨_, e, t, rfl⟩
  have kMOST_SIGNS : ∃ u, mg "MOST_SIGNS" = some u ∧ RelV (.int 12) u := by
    obtain ⟨t, e⟩ := He.int_ok X G (at_fa c 2)
    exact ⟨_, e, t, rfl⟩
  have kMOST_PANES : ∃ u, mg "MOST_PANES" = some u ∧ RelV (.int 9) u := by
    obtain ⟨t, e⟩ := He.int_ok X G (at_fa c 3)
    exact ⟨_, e, t, rfl⟩
  have kMOST_NUMBER : ∃ u, mg "MOST_NUMBER" = some u ∧ RelV (.int big) u := by
    obtain ⟨t, e⟩ := He.int_ok X G (at_fa c 4)
    exact ⟨_, e, t, rfl⟩
  have kWIDEST : ∃ u, mg "WIDEST" = some u ∧ RelV (.int 60) u := by
    obtain ⟨t, e⟩ := He.int_ok X G (at_fa c 5)
    exact ⟨_, e, t, rfl⟩
  have gJ : mg "Jumble" = some (.ref (aJ K)) := He.glo_ok X G (at_fa c 7 (f := .glo "Jumble"))
  have gW : mg "Words" = some (.ref (aW K)) := He.glo_ok X G (at_fa c 6 (f := .glo "Words"))
  have c7 : Nam (CX0) Pq w K mg base 1 "is_integer" (spIsInt K) := nam_of (ok_isint F7 (bind1 F7) B) g7 F7.kp
  have c8 : Nam (CX0) Pq w K mg base 2 "is_within" (spWithin K) := nam_of (ok_within (k := 0) F8 (bind3 F8) c7) g8 F8.kp
  have c11 : Nam (CX0) Pq w K mg base 1 "integer_of" (spIntOf) := nam_of (ok_intof F11 (bind3 F11) B kDIGITS) g11 F11.kp
  have c14 : Nam (CX0) Pq w K mg base 1 "spread_of" (spSpread) := nam_of (ok_spread F14 (bind2 F14)) g14 F14.kp
  have c21 : Nam (CX0) Pq w K mg base 1 "is_signs" (spSigns) := nam_of (ok_signs F21 (bind1 F21) B kSIGNS kMOST_SIGNS) g21 F21.kp
  have c22 : Nam (CX0) Pq w K mg base 2 "is_word" (spWord) := nam_of (ok_word F22 (bind1 F22) B kMOST_PANES c21) g22 F22.kp
  have c23 : Nam (CX0) Pq w K mg base 1 "letter_of" (spLetterOf) := nam_of (ok_letterof F23 (bind1 F23) B) g23 F23.kp
  have c24 : Nam (CXk Pq w base 0) Pq w K mg base 3 "read_look" (spReadLook (aT K)) := nam_of (ok_readlook F24 (bind1 F24) B Es c22 c23) g24 F24.kp
  obtain ⟨w0, W0⟩ := at_fn c 0
  have V0 : FnP K "__init__" "Words.__init__" (inC (top 12) 0) [.int 0] (He.ma K (aW K) "__init__") w0 := W0
  obtain ⟨w1, W1⟩ := at_fn c 1
  have V1 : FnP K "__len__" "Words.__len__" (inC (top 12) 1) [] (He.ma K (aW K) "__len__") w1 := W1
  obtain ⟨w2, W2⟩ := at_fn c 2
  have V2 : FnP K "refuse" "Words.refuse" (inC (top 12) 2) [] (He.ma K (aW K) "refuse") w2 := W2
  obtain ⟨w3, W3⟩ := at_fn c 3
  have V3 : FnP K "ahead" "Words.ahead" (inC (top 12) 3) [] (He.ma K (aW K) "ahead") w3 := W3
  obtain ⟨w4, W4⟩ := at_fn c 4
  have V4 : FnP K "next" "Words.next" (inC (top 12) 4) [] (He.ma K (aW K) "next") w4 := W4
  obtain ⟨w5, W5⟩ := at_fn c 5
  have V5 : FnP K "name" "Words.name" (inC (top 12) 5) [] (He.ma K (aW K) "name") w5 := W5
  obtain ⟨w6, W6⟩ := at_fn c 6
  have V6 : FnP K "integer" "Words.integer" (inC (top 12) 6) [] (He.ma K (aW K) "integer") w6 := W6
  obtain ⟨w7, W7⟩ := at_fn c 7
  have V7 : FnP K "done" "Words.done" (inC (top 12) 7) [] (He.ma K (aW K) "done") w7 := W7
  have m_refuse : Mth (CXk Pq w base 0) Pq w K mg base 1 (aW K) "refuse" (spRefuse (aT K) (aW K)) := ⟨_, ok_refuse V2 (bind1 V2) Es W, W.cl, meth_at c "refuse" 26⟩
  have hotR : FnHK Pq w K mg base (CXk Pq w base 1) 1 (He.ma K (aW K) "refuse") (spRefuse (aT K) (aW K)) := ok_refuseH V2 (bind1 V2) Es W
  have m_ahead : Mth (CXk Pq w base 0) Pq w K mg base 2 (aW K) "ahead" (spAhead (aT K) (aW K)) := ⟨_, ok_ahead V3 (bind1 V3) B W m_refuse, W.cl, meth_at c "ahead" 27⟩
  have m_next : Mth (CXk Pq w base 0) Pq w K mg base 3 (aW K) "next" (spNext (aT K) (aW K)) := ⟨_, ok_next V4 (bind1 V4) W m_ahead, W.cl, meth_at c "next" 28⟩
  have m_name : Mth (CXk Pq w base 0) Pq w K mg base 4 (aW K) "name" (spNameS (aT K) (aW K)) := ⟨_, ok_name V5 (fun kV doc pm an cdv ct => StX.bind_star1 (B := fun l => bindArgs (PySem.W.fnOf "name" "Words.name" (defArgs (inC (top 12) 5)) (defBody (inC (top 12) 5)) (defScope (inC (top 12) 5)) .none kV doc pm an cdv ct) ⟨l, []⟩) (fun a => rfl) (fun a r rs => rfl)) W m_ahead m_refuse m_next, W.cl, meth_at c "name" 29⟩
  have m_integer : Mth (CXk Pq w base 0) Pq w K mg base 3 (aW K) "integer" (spInteger (aT K) (aW K)) := ⟨_, ok_integer V6 (bind3 V6) W m_ahead m_refuse c11, W.cl, meth_at c "integer" 30⟩
  have m_done : Mth (CXk Pq w base 0) Pq w K mg base 2 (aW K) "done" (spDone (aT K) (aW K)) := ⟨_, ok_done V7 (bind1 V7) B W m_refuse, W.cl, meth_at c "done" 31⟩
  have cLen : FnR Pq w K mg base CX0 1 (He.ma K (aW K) "__len__") (spLen (aW K)) := ok_len V1 (bind1 V1) B W
  have mkW : Mk K (aW K) (iOf K (aW K)) := He.mkr_ok (x := "Words") (at_fa c 24)
  have mkJ : Mk K (aJ K) (iOf K (aJ K)) := He.mkr_ok (x := "Jumble") (at_fa c 25)
  obtain ⟨dsW, rW, bW⟩ := FunD.binds1 (ps := ["self", "text", "at"]) V0 2 0 (List.cons_ne_nil _ _) rfl fun T kV doc pm an cdv ct us its l1 l2 => match us, its, l1, l2 with | [_, _], [_], _, _ => ⟨_, rfl, rfl⟩
  have cMk : Mkr (CXk Pq w base 0) Pq w K mg base 1 "Words" (aW K) (fun vs H Q E => spWInit (aT K) (aW K) K (vs ++ [.int 0]) H Q E) := ⟨_, ok_winit V0 bW rW B Es W, mkW, gW⟩
  obtain ⟨j0, J0⟩ := at_fn c 8
  have VJ : FnP K "__init__" "Jumble.__init__" (inC (top 15) 1) [.int 0, .int 0, .int 0, .bl false, .int 0] (iOf K (aJ K)) j0 := J0
  obtain ⟨dsJ, rJ, bJ⟩ := FunD.binds1 (ps := ["self", "early", "late", "lost", "again", "apart"]) VJ 6 5 (List.cons_ne_nil _ _) rfl fun T kV doc pm an cdv ct us its l1 l2 => match us, its, l1, l2 with | [_, _, _, _, _, _], [_, _, _, _, _], _, _ => ⟨_, rfl, rfl⟩
  have eJ : dsJ = [] := by
    cases rJ
    rfl
  subst eJ
  have mJ : ∃ f : Addr, FnR Pq w K mg base CX0 3 f (spJInit (aJ K)) ∧ Mk K (aJ K) f := ⟨_, ok_jinit (ds := []) VJ bJ B J gJ c8 c14, mkJ⟩
  obtain ⟨j1, J1⟩ := at_fn c 9
  have VR : FnP K "read" "Jumble.read" (inC (top 15) 2) [] (rdOf K) j1 := J1
  have cRd : Cmt (CXk Pq w base 0) Pq w K mg base 5 (aJ K) "read" (spRead (aT K) (aJ K)) := ⟨_, _, _, ok_read VR (bind2 VR) B cMk m_name m_integer LC cLen c14 mJ, rdJ, cmJ⟩
  have c29 : Nam (CXk Pq w base 1) Pq w K mg base 6 "taken_jumble" (spTJ (aT K) (aW K) (aJ K)) := nam_of (ok_tjumble F29 (bind2 F29) B Es LC cLen m_refuse gJ cRd) g29 F29.kp
  have c30 : Nam (CXk Pq w base 1) Pq w K mg base 4 "taken_letter" (spTL (aT K) (aW K)) := nam_of (ok_tletter F30 (bind2 F30) B Es W m_ahead c24 m_refuse hotR (meth_at c "refuse" 26).mt m_next) g30 F30.kp
  have c31 : Nam (CXk Pq w base 1) Pq w K mg base 5 "taken_letters" (spTLs (aT K) (aW K)) := nam_of (ok_tletters F31 (bind1 F31) B c30 LC cLen) g31 F31.kp
  have c32 : Nam (CXk Pq w base 1) Pq w K mg base 6 "taken_thing" (spTT (aT K) (aW K)) := nam_of (ok_tthing F32 (bind2 F32) c31 c30 m_integer kMOST_NUMBER) g32 F32.kp
  have c33 : Nam (CXk Pq w base 1) Pq w K mg base 7 "row_parts" (spRP (aT K) (aW K) (aJ K)) := nam_of (ok_rowparts F33 (bind2 F33) T m_name c29 c32 m_done) g33 F33.kp
  have c34 : Nam (L2.CX Pq w) Pq w K mg base 8 "parsed" (spParsed K (aA K) (aJ K)) := nam_of (ok_parsed F34 (bind1 F34) Es c33 cMk) g34 F34.kp
  have c35 : Nam (CX0) Pq w K mg base 2 "is_table" (spIsTable K) := nam_of (ok_istable F35 (bind1 F35) B c7) g35 F35.kp
  have c36 : Nam (CX0) Pq w K mg base 1 "column" (spColumn) := nam_of (ok_column F36 (bind2 F36) B) g36 F36.kp
  have c37 : Nam (L2.CX Pq w) Pq w K mg base 3 "columns" (spColumns K (aV K)) := nam_of (ok_columns F37 (bind2 F37) B Es c35 c8 c36 kWIDEST) g37 F37.kp
  have c39 : Nam (CX0) Pq w K mg base 1 "_law_pen" (spPen K) := nam_of (ok_pen F39 (bind1 F39) B) g39 F39.kp
  have c40 : Nam (CX0) Pq w K mg base 1 "_law_draw" (spDraw K) := nam_of (ok_draw F40 (bind2 F40) B) g40 F40.kp
  have c41 : Nam (CX0) Pq w K mg base 2 "_law_pick" (spPick K) := nam_of (ok_pick F41 (bind2 F41) B c40) g41 F41.kp
  have c43 : Nam (CX0) Pq w K mg base 1 "_law_is_number" (spLawNum) := nam_of (ok_lawnum F43 (bind3 F43) B) g43 F43.kp
  have c44 : Nam (CX0) Pq w K mg base 1 "_law_letter" (spLawLet) := nam_of (ok_lawlet F44 (bind1 F44) B) g44 F44.kp
  have c45 : Nam (CX0) Pq w K mg base 2 "_law_jumble" (spLawJum K) := nam_of (ok_lawjum F45 (bind1 F45) B c43) g45 F45.kp
  have c46 : Nam (CX0) Pq w K mg base 3 "_law_due" (spLawDue) := nam_of (ok_lawdue F46 (bind1 F46) B c43 c44 c45) g46 F46.kp
  have c47 : NamG CX0 Pq w K mg base 1 "_law_same" (spLawSame (aJ K)) := ⟨_, ok_lawsame F47 (bind2 F47) B J IJ gJ, g47, F47.kp⟩
  have c48 : Nam (CX0) Pq w K mg base 3 "_law_word" (spTxt K 119 120) := nam_of (ok_lawword F48 (bind1 F48) B c40 c41) g48 F48.kp
  have c49 : Nam (CX0) Pq w K mg base 3 "_law_number" (spTxt K 3 62) := nam_of (ok_number F49 (bind1 F49) B c40 c41) g49 F49.kp
  have c50 : Nam (CX0) Pq w K mg base 3 "_law_rule" (spTxt K 12 300) := nam_of (ok_rule F50 (bind1 F50) B c40 c41) g50 F50.kp
  have c51 : Nam (CX0) Pq w K mg base 4 "_law_row" (spTxt K 600 800) := nam_of (ok_row F51 (bind1 F51) B c40 c41 c50 c48 c49) g51 F51.kp
  have c52 : Nam (CX0) Pq w K mg base 3 "_law_bent" (spBent K) := nam_of (ok_bent F52 (bind2 F52) B c40 c41) g52 F52.kp
  have c54 : Nam (CX0) Pq w K mg base 3 "_law_item" (spItem K) := nam_of (ok_item F54 (bind1 F54) B c40 c41) g54 F54.kp
  have t53 : LamX.TabB base mg (codeA K (f53 K)) (tabA K (f53 K)) := hT _ (List.mem_cons_self)
  have t55 : LamX.TabB base mg (codeA K (f55 K)) (tabA K (f55 K)) := hT _ (List.mem_cons_of_mem _ List.mem_cons_self)
  have t56 : LamX.TabB base mg (codeA K (f56 K)) (tabA K (f56 K)) := hT _ (List.mem_cons_of_mem _ (List.mem_cons_of_mem _ List.mem_cons_self))
  have only : ∀ (P : Addr) (q : Str), (P, q) ∈ tab3s K → ∀ p ∈ tab3s K, p.1 = P → p.2 = q := by
    have nd : ((tab3s K).map (·.1)).Nodup := by
      show [tabA K (f53 K), tabA K (f55 K), tabA K (f56 K)].Nodup
      simp only [List.nodup_cons, List.mem_cons, List.not_mem_nil, or_false, not_or, List.nodup_nil, and_true, not_false_eq_true]
      exact ⟨⟨c.n1, c.n2⟩, c.n3⟩
    intro P q hq p hp e
    exact congrArg (·.2) (nodup_fst nd hp hq e)
  have i53 : (tabA K (f53 K), qLam "_law_rows_right") ∈ tab3s K := List.mem_cons_self
  have i55 : (tabA K (f55 K), qLam "_law_table_right") ∈ tab3s K := List.mem_cons_of_mem _ List.mem_cons_self
  have i56 : (tabA K (f56 K), qLam "_law_widths_right") ∈ tab3s K := List.mem_cons_of_mem _ (List.mem_cons_of_mem _ List.mem_cons_self)
  have c53 : NamG CX0 Pq w K mg base 11 "_law_rows_right" (spRows K (tab3s K)) := ⟨_, ok_rows F53 (bind1 F53) (code_of F53) B Hr F42 (bind1 F42) g42 t53 i53 (only _ _ i53) c41 c51 c52 c46 c34 (okx_parsed F34 Es c33 cMk) g34 F34.kp (kb_parsed F34) c47, g53, F53.kp⟩
  have c55 : NamG CX0 Pq w K mg base 6 "_law_table_right" (spTab K (tab3s K)) := ⟨_, ok_table F55 (bind1 F55) (code_of F55) B Hr F42 (bind1 F42) g42 t55 i55 (only _ _ i55) c40 c41 c54 c37 (okx_columns F37 B Es c35 c8 c36 kWIDEST) g37 F37.kp (kb_columns F37), g55, F55.kp⟩
  have c56 : NamG CX0 Pq w K mg base 6 "_law_widths_right" (spTab K (tab3s K)) := ⟨_, ok_widths F56 (bind1 F56) (code_of F56) B Hr F42 (bind1 F42) g42 t56 i56 (only _ _ i56) c41 c37, g56, F56.kp⟩
  exact ok_law F57 (bind1 F57) B c39 c53 c55 c56
end
end Q7
set_option maxHeartbeats 0
open PySem PySem.W PySem.Calls PyProof.Rows
theorem PySem.Challenge.cw_jumblepost_k87_rows_of_the_desk_and_colu_holds : PySem.Challenge.rw_jumblepost_k87_rows_of_the_desk_and_colu.Holds := by
  w_on; o_law
  refine HandSHeadRun.head_any (r := Q7.Rq) (q := Q7.vQ) (H := Q7.hookQ) (ob := Q7.obQ) (M := 4300) (loose := Q7.looseQ) (d := HandSHeadRun.topDef Q7.Rq.prog 57) (kwd := []) Q7.obQ_eq
    (by kernel_rfl) (fun s => by kernel_rfl) Q7.run_all (by kernel_rfl) (by kernel_rfl) (by kernel_rfl) (by rfl) (by first | assumption | decide +kernel) (by decide +kernel) ⟨rfl, rfl, rfl, rfl, rfl, by decide +kernel⟩ ?hw ?hc
  case hw => w_witness2
  case hc =>
    refine Q7.walk_end (l := PySem.Challenge.rw_jumblepost_k87_rows_of_the_desk_and_colu) (n := 63) (k := 12) rfl (by decide) (by kernel_rfl) ⟨rfl, by decide, by decide⟩ fun w mg fa h Y G hmg0 => ?_
    obtain ⟨K, KX, c⟩ := Y
    have hmg : mg ("law" : PySem.Str) = some (.ref fa) := by
      have e : (HandSHeadRun.topDef Q7.Rq.prog 57).name = ("law" : PySem.Str) := by kernel_rfl
      rw [← e]
      exact hmg0
    obtain ⟨_, _, g57⟩ := Q7.pick KX G c "law" 57
    have ef := hmg.symm.trans g57
    obtain rfl : fa = He.ga K "law" := Value.ref.inj (Option.some.inj ef)
    refine ⟨K, Q7.tab3 K, Q7.spLaw K (Q7.tab3s K), KX, c.em, c.out, fun p hp => PySem.W.codeHd_of_K KX (c.hd p hp), fun H a ns h1 h2 => ⟨a, ns, rfl, h2, fun p hp => ?_, fun _ => rfl⟩, fun base _ _ hT => Q7.law_all KX G c hT⟩
    have key : ∃ q ∈ Q7.tab3 K, q.2 = p.1 := by
      rcases List.mem_cons.mp hp with rfl | hp
      · exact ⟨_, List.mem_cons_self, rfl⟩
      · rcases List.mem_cons.mp hp with rfl | hp
        · exact ⟨_, List.mem_cons_of_mem _ List.mem_cons_self, rfl⟩
        · rcases List.mem_cons.mp hp with rfl | hp
          · exact ⟨_, List.mem_cons_of_mem _ (List.mem_cons_of_mem _ List.mem_cons_self), rfl⟩
          · cases hp
    obtain ⟨q, hq, eq⟩ := key
    exact LamX.TabS.nil (eq ▸ h1 q hq)

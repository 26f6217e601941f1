import PyProof.Rows.All
import Wide.All
import OpenK.AllK
import Wide.FinOn
import HandS.ForMost
import HandS.ForExc
import KE.GoesRaise
import KE.KAsSuite
import HandS.Defaults
import HandS.IsInst
import HandS.HeadHook1
import HandS.HeadHook2
import KE.KStateDown
import Lean
import HandS.Head0
import HandS.Head1
import HandS.Head2
import HandS.HeadEnd
import HandS.ClsMeth
import HandS.Strs
import HandS.Codes
import HandS.Flow
import HandS.MakeKwOnly
import HandS.TryMany
import KE.KEqSeq
import PyProof.P3Eq
import PySem.Challenge.RW_surenear_k37_whole_codes_stand_for_one_v
set_option Elab.async false
set_option linter.all false
set_option maxRecDepth 100000
set_option maxHeartbeats 4000000
/-! A list comprehension whose element may raise (out of a call): over HandS.Comp and HandS.Exc, with the ends of KE.GoesComp. -/
namespace Snk
open PySem PySem.Spec PyProof.Rows L2
/-- a heap without one object -/
theorem without (B : Heap) (c : Addr) : ∃ B' : Heap, B'.get? c = none ∧ ∀ b, b ≠ c → B'.get? b = B.get? b := by
  obtain ⟨G, yes, no⟩ := restrict B fun b => decide (b ≠ c)
  exact ⟨G, no c (by simp), fun b h => yes b (decide_eq_true h)⟩
/-- a part of a heap: all of B, and what stands at the addresses of l -/
theorem ground {h B : Heap} (l : List Addr) (st : B.StaysIn h) : ∃ G : Heap, B.StaysIn G ∧ (∀ b ∈ l, G.get? b = h.get? b) ∧ ∀ b o, G.get? b = some o → h.get? b = some o ∧ (B.get? b = some o ∨ b ∈ l) := by
  obtain ⟨G, yes, no⟩ := restrict h fun b => (B.get? b).isSome || decide (b ∈ l)
  refine ⟨G, fun b o e => (yes b (by rw [e]; rfl)).trans (st b o e), fun b hb => yes b (by rw [decide_eq_true hb, Bool.or_true]), fun b o e => ?_⟩
  by_cases hb : b ∈ l
  · exact ⟨(yes b (by rw [decide_eq_true hb, Bool.or_true])).symm.trans e, .inr hb⟩
  · cases q : B.get? b with
    | none =>
      have z := no b (by rw [q, decide_eq_false hb]; rfl)
      rw [e] at z
      cases z
    | some u =>
      have z := (yes b (by rw [q]; rfl)).symm.trans e
      exact ⟨z, .inl ((st b u q).symm.trans z)⟩
section
variable {X : Cx} {pins pins5 : List (Addr × Obj)} {σ σ5 : L2.St} {H3 H5 : Hp} {s3 s5 s' : Shared} {scope : Scope} {ce : Env} {fp : List Addr} {xe : Value → Shared → Prop} {W : WX} {E : XK} {u : Value}
/-- a call's exception, out of a block's element, is in the air of the def around -/
theorem blk_raise (hs : X.stack = X.env :: X.outer) (hf : X.env.frame = some X.env.locals) (tk : Takes X W) (hW : ∀ cls d σ H', E cls d H' → W cls d σ H')
    (hcf : ce.frame = X.env.frame) (hcl : ce.locals = s3.heap.objs.size) (I3 : Inv X pins σ H3 s3) (f3 : ∀ b ∈ fp, FpOk X pins H3 b)
    (I5 : Inv ((X.blk s3 H3 scope ce fp).wish xe) pins5 σ5 H5 s5) (c : L2.CX X.prog X.w X.stack H5 s5 E u s') :
    notedBy (model X.prog X.w) X.A ce (CompFails (model X.prog X.w) X.A X.xe ce) u s' := by
  obtain ⟨x, B, Hc, cls, d, rfl, air, hok, un, nx, os, bare, hE⟩ := c
  have hfr : X.A.frames = some (X.env :: X.outer) := I3.ok.frames.trans (congrArg some hs)
  have air' : HandSPX.FlyingZ B (X.env :: X.outer) x (Zc cls d) s'.heap := hs ▸ air
  show wpAny _ _ (noteFrame (.ref x) ce) _ _ s'
  rw [noteFrame_env _ hcf]
  refine HandSPX.looks_onZ Zc.steady hfr hf air' fun h1 held1 up1 => ?_
  -- the block's own dict stands as it was
  obtain ⟨m, hn5, _⟩ := I5.loc
  obtain ⟨oC, es, ep, hoC, hdC, rep⟩ := (show s5.heap.Ns ce.locals m from hn5)
  have freeC : H5 ce.locals = none := I5.free
  have newC : s3.heap.get? ce.locals = none := Option.eq_none_iff_forall_not_mem.mpr fun o ho => Nat.lt_irrefl _ (hcl ▸ Heap.lt_size ho)
  have notF : ce.locals ∉ frs X.stack := fun hm => by
    obtain ⟨_, o, eo, _⟩ := I3.stack.mem hm
    exact absurd (newC.symm.trans eo) (fun z => nomatch z)
  have BC : B.get? ce.locals = some oC := un.keep _ _ hoC freeC notF
  have hC : Hc ce.locals = none := un.free _ _ hoC freeC
  have C1 : h1.get? ce.locals = some oC := held1.1 _ _ BC
  refine ⟨m, ⟨oC, es, ep, C1, hdC, rep⟩, fun h2 m2 hn2 hs2 => ?_⟩
  obtain ⟨B', cut, same⟩ := without B ce.locals
  have part : ∀ b o, B'.get? b = some o → b ≠ ce.locals ∧ B.get? b = some o := fun b o k => by
    have hb : b ≠ ce.locals := fun z => by
      rw [z, cut] at k
      cases k
    exact ⟨hb, (same b hb).symm.trans k⟩
  have gone : ∀ b, B.get? b = none → B'.get? b = none := fun b k => if hb : b = ce.locals then hb ▸ cut else (same b hb).trans k
  obtain ⟨k1, k2, k3, oe, vs, T, oT, ts, he, hz, hd, hv1, hnT, hTe, hT, hdT, hts⟩ := held1
  have xC : x ≠ ce.locals := fun z => by
    rw [z, C1] at he
    cases he
    exact nomatch hdC.symm.trans hd
  have TC : T ≠ ce.locals := fun z => by
    rw [z, C1] at hT
    cases hT
    exact nomatch hdC.symm.trans hdT
  have x2 : h2.get? x = some oe := (hs2.2 x xC).trans he
  have held2 : HandSPX.HeldZ B' (X.env :: X.outer) x (Zc cls d) X.env.locals h2 := by
    refine ⟨fun b o k => ?_, gone _ k2, ?_, oe, vs, T, oT, ts, x2, hz, hd, hv1, gone _ hnT, hTe, (hs2.2 T TC).trans hT, hdT, hts⟩
    · obtain ⟨hb, k⟩ := part b o k
      exact (hs2.2 b hb).trans (k1 b o k)
    · exact Heap.FunFrames.sameBut hs2 hn2 (funFrames_none k3 fun L hL => gone L (k3.mem hL).1)
  -- out of the block: the def around it holds the exception
  have stB : B'.StaysIn s'.heap := fun b o k => air'.1 b o (part b o k).2
  have fin : wpAny (model X.prog X.w) X.A (setFlight (.ref x) ce.frame) (fun _ s4 => wpAny (model X.prog X.w) X.A (throw (.ref x) : Sem Value) (fun _ _ => False) X.xe s4) X.xe { s' with heap := h2 } := by
    rw [hcf, hf]
    refine HandSPX.setFlight_onZ held2 fun h3 held3 up3 => wpAny_throw (tk _ _ ?_)
    obtain ⟨G, inB, inF, of⟩ := ground (frs X.stack) stB
    have U := I5.base
    have was : ∀ b o, s3.heap.get? b = some o → b ≠ ce.locals := fun b o k z => by
      rw [z, newC] at k
      cases k
    have keepB : ∀ b o u, s3.heap.get? b = some o → B.get? b = some u → G.get? b = some u := fun b o u k q => inB b u ((same b (was b o k)).trans q)
    refine ⟨x, B', { s3 with heap := G, gens := s'.gens, drawn := s'.drawn, toks := s'.toks }, pins, σ, Hc, cls, d, rfl, ?_, fun b o k hb => (of b o k).2.resolve_right hb, fun b o k hnf => ?_, .inr (.inr (hs ▸ held3)), nx, os.trans I5.os, bare, hW _ _ _ _ hE⟩
    · refine I3.call' (s' := { s3 with heap := G, gens := s'.gens, drawn := s'.drawn, toks := s'.toks }) (ch := fp) rfl ?_ ?_ bare fun b hb => ?_
      · refine ⟨fun b o k n hb hx => keepB b o o k (un.keep b o (U.keep b o k n hb hx) (U.free b o k n hx) hb), fun b o k n hb hx => ?_, fun b o k n hx => ?_, fun b o k hx => ?_, fun b xs k => un.tups b xs (U.tups b xs k), fun b o v k => un.frzs b o v (U.frzs b o v k), fun b ps k => ?_⟩
        · obtain ⟨_, q1⟩ := U.slot b o k n hb hx
          obtain ⟨sl, q2⟩ := un.slot b _ q1 hb
          exact ⟨sl, (inF b hb).trans q2⟩
        · have there : ∃ u, s5.heap.get? b = some u := if hb : b ∈ frs X.stack then (U.slot b o k n hb hx).elim fun _ q => ⟨_, q⟩ else ⟨_, U.keep b o k n hb hx⟩
          exact there.elim fun u q => un.free b u q (U.free b o k n hx)
        · obtain ⟨u, q⟩ := U.there b o k hx
          if hb : b ∈ frs X.stack then
            obtain ⟨sl, q2⟩ := un.slot b _ q hb
            exact ⟨_, (inF b hb).trans q2⟩
          else
            obtain ⟨u2, q2⟩ := un.there b _ q hb
            exact ⟨u2, keepB b o u2 k q2⟩
        · obtain ⟨v1, q1⟩ := U.tbls b ps k
          obtain ⟨v2, q2⟩ := un.tbls b _ q1
          exact ⟨v1 ++ v2, q2.trans (by rw [Array.append_assoc])⟩
      · intro b o k
        have notC : ∀ c, (c = b ∨ Hc c = some (.own b)) → c ≠ ce.locals := fun c hc z => by
          subst z
          rcases hc with hc | hc
          · rw [← hc, hC] at k
            cases k
          · rw [hC] at hc
            cases hc
        exact (hok b o k).stay (fun c v hc q => inB c v ((same c (notC c hc)).trans q)) (fun _ q => q) fun _ _ q => q
      · obtain ⟨_, a1, _, a3, a4, a5⟩ := f3 b hb
        exact ⟨a3, a1, a4, a5⟩
    · obtain ⟨k, p⟩ := of b o k
      obtain ⟨_, q1⟩ := up1 b o k hnf
      have bC : b ≠ ce.locals := fun z => p.elim (fun p => (part b o p).1 z) fun p => notF (z ▸ p)
      obtain ⟨sl, q2⟩ := up3 b _ ((hs2.2 b bC).trans q1) hnf
      exact ⟨sl, q2⟩
  unfold PySem.passOn
  refine wpAny_bind (wpAny_field x2 hd hv1 ?_)
  rw [if_neg (fun z => nomatch (z : (Value.ref T == Value.none) = true))]
  first
    | exact wpAny_bind fin
    | exact wpAny_bind (wpAny_pure (wpAny_bind fin))
end
section
variable {X : Cx} {pins : List (Addr × Obj)} {σ τ : L2.St} {H Hb : Hp} {s sb : Shared} {scope : Scope} {ce : Env} {fp : List Addr} {tg iter elt : Expr} {J : It} {it D : Addr} {tn : Nat → Heap → Prop} {vs : List Nat} {W : Nat → Nat → Hp → Prop} {g : TG} {te : TE} {i m n : Nat}
/-- between two turns: the measure, the block's own state, the items out of sight -/
def Mid (X : Cx) (sb : Shared) (Hb : Hp) (scope : Scope) (ce : Env) (fp : List Addr) (tn : Nat → Heap → Prop) (τ : L2.St) (W : Nat → Nat → Hp → Prop) (m : Nat) (s : Shared) : Prop :=
  ∃ i H, W i m H ∧ Inv (X.blk sb Hb scope ce fp) [] τ H s ∧ tn i s.heap ∧ ∀ b ∈ fp, H b = none
/-- what is walked stays where the block can't reach it -/
theorem unseen (I : Inv (X.blk sb Hb scope ce fp) [] τ H s) (no : ∀ b ∈ fp, H b = none) : ∀ b ∈ fp, FpOk (X.blk sb Hb scope ce fp) [] H b := by
  intro b hb
  obtain ⟨e1, e2⟩ := I.ok.exf b hb
  exact ⟨no b hb, e1, I.ok.exfs b hb, Or.inl hb, e2, fun p hp => (List.not_mem_nil hp).elim⟩
/-- a turn's end is the next turn's start -/
theorem mid_next {h0 : Heap} {ρ : L2.St} (T : Turn X.prog X.w X.K tg J fp it tn) (st : tn (i + 1) h0) (hw : wipe ρ vs = wipe σ vs) (I : Inv (X.blk sb Hb scope ce fp) ([] ++ pinsAt fp h0) ρ H s) (w : W (i + 1) m H) : Mid X sb Hb scope ce fp tn (wipe σ vs) W m s := by
  have kept : ∀ b ∈ fp, ∃ o, h0.get? b = some o ∧ s.heap.get? b = some o ∧ H b = none := by
    intro b hb
    obtain ⟨o, e, _⟩ := T.obj _ _ st b hb
    have p := I.pin (b, o) (List.mem_append_right _ (mem_pinsAt hb e))
    exact ⟨o, e, p.1, p.2.1⟩
  have len : (wipe σ vs).length = ρ.length := by rw [← hw, wipe_length]
  refine ⟨i + 1, H, w, (I.unpinned (pins := [])).weak len ?_, T.keep _ _ _ st ?_, ?_⟩
  · intro j v e
    rw [← hw] at e
    exact (wipe_some e).1
  · intro b hb o e
    obtain ⟨o', e', k, _⟩ := kept b hb
    rw [e'] at e
    exact e ▸ k
  · intro b hb
    obtain ⟨_, _, _, k⟩ := kept b hb
    exact k
/-- one turn: the item, its store, the element (which may raise), the list's new end -/
theorem turn_goes {N : Value → Shared → Prop} {Nx : Hp → Prop} (hc : X.calm = true) (T : Turn X.prog X.w X.K tg J fp it tn) (pg : PG (X.blk sb Hb scope ce fp) tg g) (pe : PE ((X.blk sb Hb scope ce fp).wish N) elt te)
    (I : Inv (X.blk sb Hb scope ce fp) [] (wipe σ vs) H s) (no : ∀ b ∈ fp, H b = none) (st : tn i s.heap) (go : J.go i H) (less : ∀ H', Nx H' → ∃ m, m < n ∧ W (i + 1) m H')
    (h : ∀ x H', J.yld i H x H' → g x (wipe σ vs) H' fun ρ H2 => wipe ρ vs = wipe σ vs ∧ te ρ H2 fun y H4 => ∃ acc, H4 D = some (.lst acc) ∧ acc.length < sizeLine ∧ Nx (upd H4 D (.lst (acc ++ [y])))) :
    wpAny (model X.prog X.w) X.A (pyNext (.ref it)) (fun r s1 => ∃ v, r = some v ∧ wpAny (model X.prog X.w) X.A (letOwnedTupleGo tg (.ref it) v) (fun _ s2 => wpAny (model X.prog X.w) X.A (assign tg ce v) (fun _ s3 => wpAny (model X.prog X.w) X.A (eval elt ce) (fun z s4 =>
      wpAny (model X.prog X.w) X.A (call (.builtin "list.append") [.ref D, z]) (fun _ s5 => ∃ m, m < n ∧ Mid X sb Hb scope ce fp tn (wipe σ vs) W m s5) N s4) N s3) N s2) N s1) N s := by
  have ti := T.item (X.blk sb Hb scope ce fp) rfl rfl rfl hc i [] s _ H (fun _ _ => False) I (unseen I no) st go
  refine thnF ti fun r s1 hr => ?_
  obtain ⟨v, e, hv⟩ := hr
  refine ⟨v, e, thnF hv fun _ s2 h2 => ?_⟩
  obtain ⟨x, H2, I2, r2, y2, st2, no2⟩ := h2
  have Ip := I2.pinned (unseen I2 no2) (T.obj _ _ st2)
  refine thnF (pg.run _ s2 _ H2 x v _ Ip r2 (h x H2 y2)) fun _ s3 h3 => ?_
  obtain ⟨ρ, H3, I3, hw, q3⟩ := h3
  refine wpAny_mono (pe.run _ s3 ρ H3 _ (I3.wish N) q3) (fun z s4 h4 => ?_) fun _ _ k => k
  obtain ⟨y, H4, I4, r4, acc, hD, hz, nx⟩ := h4
  refine app_ok (X := X.blk sb Hb scope ce fp) I4.unwish hD hz r4 fun s5 I5 => ?_
  obtain ⟨m, hm, w⟩ := less _ nx
  exact ⟨m, hm, mid_next T st2 hw I5 w⟩
/-- all turns -/
theorem turns_run {sc : Scope} {pos : Pos} {R : Result → Shared → Prop} {Qd : Hp → Prop} (hc : X.calm = true) (T : Turn X.prog X.w X.K tg J fp it tn) (pg : PG (X.blk sb Hb scope ce fp) tg g)
    (pe : PE ((X.blk sb Hb scope ce fp).wish (notedBy (model X.prog X.w) X.A ce fun e s' => R (.error e) s')) elt te)
    (turn : ∀ i m H, W i m H → (J.stop i H ∧ Qd H) ∨ (J.go i H ∧ ∃ Nx : Hp → Prop, (∀ H', Nx H' → ∃ m', m' < m ∧ W (i + 1) m' H') ∧ ∀ x H', J.yld i H x H' → g x (wipe σ vs) H' fun ρ H2 => wipe ρ vs = wipe σ vs ∧ te ρ H2 fun y H4 => ∃ acc, H4 D = some (.lst acc) ∧ acc.length < sizeLine ∧ Nx (upd H4 D (.lst (acc ++ [y])))))
    (out : ∀ H s, Qd H → Inv (X.blk sb Hb scope ce fp) [] (wipe σ vs) H s → R (.ok .next) s) (start : Mid X sb Hb scope ce fp tn (wipe σ vs) W m s) :
    codeAny (model X.prog X.w) X.A (.compLoop (.ListComp elt [⟨tg, iter, [], 0⟩] sc pos) 0 (.ref it) (.ref D) ce) R s := by
  refine compLoop_any (Mid X sb Hb scope ce fp tn (wipe σ vs) W) (fun n s mid => ?_) m start
  obtain ⟨i, H, w, I, st, no⟩ := mid
  rcases turn i n H w with ⟨sp, q⟩ | ⟨go, Nx, less, step⟩
  · refine thnF (T.done (X.blk sb Hb scope ce fp) rfl rfl rfl hc i [] s _ H (fun _ _ => False) I (unseen I no) st sp) fun r s1 h1 => ?_
    rw [h1.1]
    exact out H s1 q h1.2
  · refine wpAny_mono (turn_goes hc T pg pe I no st go less step) (fun r s1 h1 => ?_) fun _ _ k => k
    obtain ⟨v, e, h1⟩ := h1
    rw [e]
    refine wpAny_mono h1 (fun _ s2 h2 => wpAny_mono h2 (fun _ s3 h3 => ?_) fun _ _ k => k) fun _ _ k => k
    exact wpAny_pure (by rw [if_pos rfl]; exact h3)
/-! ### the block is entered -/
def withList (s : Shared) : Shared := { s with heap := s.heap.push { cls := .type "list", data := .seq ([] : List Value).toArray } }
def withBlock (scope : Scope) (s : Shared) : Shared := { s with heap := pushCells (s.heap.push { cls := .type "dict", data := .dict #[] }) scope.names }
abbrev inBlock (X : Cx) (scope : Scope) (s : Shared) : Env := compEnvC scope (cellsFrom (s.heap.objs.size + 1) scope.names (cloFrom X.env.cells scope.names [])) s.heap.objs.size X.env
theorem list_laid (I : Inv X pins σ H s) : Inv X pins σ (upd H s.heap.objs.size (.lst [])) (withList s) :=
  I.laid (t' := s.toks) (fun _ _ e => Heap.get?_push_of_some _ e) (Nat.le_refl _) ⟨Nat.zero_le _, [], 0, .nil, Heap.get?_push_size _ rfl⟩
theorem items_far (T : Turn X.prog X.w X.K tg J fp it tn) (f : ∀ b ∈ fp, FpOk X pins H b) (st : tn 0 s.heap) : ∀ b ∈ fp, FpOk X pins (upd H s.heap.objs.size (.lst [])) b ∧ b < (withList s).heap.objs.size := by
  intro b hb
  obtain ⟨o, e, _⟩ := T.obj _ _ st b hb
  have lt := Heap.lt_size e
  obtain ⟨f0, f'⟩ := f b hb
  exact ⟨⟨(upd_ne (Nat.ne_of_lt lt)).trans f0, f'⟩, Nat.lt_of_lt_of_eq (Nat.lt_succ_of_lt lt) (Heap.size_push ..).symm⟩
/-- [e for x in it], the element may raise, out of a call -/
theorem lc_raises {W' : WX} {E : XK} {Q : VK} {own : List (Str × Nat)} {pos pos' : Pos} {wi : TI} {use : Option (Value → Sem Unit)} {Qf : Value → Shared → Prop}
    (hst : X.stack = X.env :: X.outer) (hf : X.env.frame = some X.env.locals) (tk : Takes X W') (hW : ∀ cls d σ H', E cls d H' → W' cls d σ H') (hc : X.calm = true) (hN : X.N.Nodup) (I : Inv X pins σ H s) (hi : PI X tg iter wi) (ok : BlkOk X.N X.env.scope scope own)
    (hg : ∀ (s : Shared) (H : Hp) (C : Addr) (cl : List (Str × Addr)) (fp : List Addr), PG (X.blk s H scope (compEnvC scope cl C X.env) fp) tg g)
    (he : ∀ (s : Shared) (H : Hp) (C : Addr) (cl : List (Str × Addr)) (fp : List Addr) (xe : Value → Shared → Prop), Passes (L2.CX X.prog X.w) ((X.blk s H scope (compEnvC scope cl C X.env) fp).wish xe) E → PE ((X.blk s H scope (compEnvC scope cl C X.env) fp).wish xe) elt te) (hs : ∀ x, foldedSetIterable iter X.env x = pure x)
    (h : tLc wi g tYes te (own.map (·.2)) σ H Q)
    (ends : ∀ D C cl s' m H', Inv X pins σ H' s' → Q (.ref D) H' → s'.heap.Ns C m → FpOk X pins H' C → compEnds (model X.prog X.w) X.A X.xe use Qf (.ref D) (compEnvC scope cl C X.env) (.ok .next) s') :
    wpAny (model X.prog X.w) X.A (comprehension (.ListComp elt [⟨tg, iter, [], 0⟩] scope pos) scope X.env pos' (newList []) false (eval iter X.env) use) Qf X.xe s := by
  have seen : ∀ y ∈ scope.names, y.2 = .free → ∃ c, X.env.cells.lookup y.1 = some c := fun y hy e => (ok.free y hy e).elim (fun k => I.ok.has _ (.inl k)) fun k => I.ok.has _ (.inr k)
  refine comprehension_at (use := use) rfl hs (closure_ok seen) ok.kind (fun y hy e => (ok.uniq y hy).trans (congrArg some e)) ?_
  refine thn (hi.run pins s σ H _ I h) fun xv s1 h1 => thn h1 fun itv s2 h2 => ?_
  obtain ⟨it, fp, tn, J, H2, rfl, I2, T, st2, f2, q⟩ := h2
  refine wpAny_newObj_type (newEnv_comp ?_) (Nat.zero_le _)
  obtain ⟨W, ⟨m0, w0⟩, turn⟩ := q s2.heap.objs.size (I2.hok.fresh (Nat.le_refl _))
  have far := items_far (s := s2) T f2 st2
  have IL := list_laid I2
  have IB := block_start IL ok hN far
  have st3 : tn 0 (withBlock scope (withList s2)).heap := T.keep _ _ _ st2 fun b _ o e => pushCells_keeps _ _ _ _ (Heap.get?_push_of_some _ (Heap.get?_push_of_some _ e))
  have back : ∀ {H' : Hp} {s' : Shared}, Inv (X.blk (withList s2) (upd H2 s2.heap.objs.size (.lst [])) scope (inBlock X scope (withList s2)) fp) [] (wipe σ (own.map (·.2))) H' s' → Inv X pins σ H' s' := fun {H' s'} I' =>
    IL.call' (ch := fp) I'.os I'.base I'.hok I'.bare fun b hb => by
      obtain ⟨⟨_, a1, _, a3, a4, a5⟩, _⟩ := far b hb
      exact ⟨a3, a1, a4, a5⟩
  have loop : codeAny (model X.prog X.w) X.A (.compLoop (.ListComp elt [⟨tg, iter, [], 0⟩] scope pos) 0 (.ref it) (.ref s2.heap.objs.size) (inBlock X scope (withList s2))) (compEnds (model X.prog X.w) X.A X.xe use Qf (.ref s2.heap.objs.size) (inBlock X scope (withList s2))) (withBlock scope (withList s2)) := by
    refine turns_run (Qd := Q (.ref s2.heap.objs.size)) hc T (hg _ _ _ _ _) (he _ _ _ _ _ _ fun _ _ _ _ _ _ I' c => ?_) ?_ (fun H' s' q' I' => ?_) ⟨0, _, w0, IB, st3, fun b hb => (far b hb).1.1⟩
    · have z := blk_raise (ce := inBlock X scope (withList s2)) hst hf tk hW rfl rfl IL (fun b hb => (far b hb).1) I' c
      cases use <;> exact z
    · intro i m H' w
      rcases turn i m H' w with k | ⟨k1, Nx, k2, k3⟩
      · exact .inl k
      · exact .inr ⟨k1, Nx, k2, k3⟩
    · obtain ⟨m, hn, _⟩ := I'.loc
      exact ends _ _ _ s' m H' (back I') q' hn (IL.fpOk (Nat.le_refl _) I'.free)
  exact codeAny_compStart_list loop (T.self X.A 0 _ _ _ st3 loop)
/-- .. where its value is asked for -/
theorem pe_lcX {W' : WX} {E : XK} {own : List (Str × Nat)} {pos : Pos} {wi : TI} 
    (hst : X.stack = X.env :: X.outer) (hf : X.env.frame = some X.env.locals) (tk : Takes X W') (hW : ∀ cls d σ H', E cls d H' → W' cls d σ H')
    (hc : X.calm = true) (hN : X.N.Nodup) (hi : PI X tg iter wi) (ok : BlkOk X.N X.env.scope scope own)
    (hg : ∀ (s : Shared) (H : Hp) (C : Addr) (cl : List (Str × Addr)) (fp : List Addr), PG (X.blk s H scope (compEnvC scope cl C X.env) fp) tg g)
    (he : ∀ (s : Shared) (H : Hp) (C : Addr) (cl : List (Str × Addr)) (fp : List Addr) (xe : Value → Shared → Prop), Passes (L2.CX X.prog X.w) ((X.blk s H scope (compEnvC scope cl C X.env) fp).wish xe) E → PE ((X.blk s H scope (compEnvC scope cl C X.env) fp).wish xe) elt te) (hs : ∀ x, foldedSetIterable iter X.env x = pure x := by intro _; rfl) :
    PE X (.ListComp elt [⟨tg, iter, [], 0⟩] scope pos) (tLc wi g tYes te (own.map (·.2))) := by
  refine ⟨fun pins s σ H Q I h => ?_⟩
  rw [eval_ListComp]
  refine lc_raises (use := none) hst hf tk hW hc hN I hi ok hg he hs h fun D C cl s' m H' I' q hn f => ⟨m, hn, fun h'' sb => ?_⟩
  obtain ⟨c0, c1, _, c3, c4, c5⟩ := f
  have It := I'.turned (t' := s'.toks) (h' := h'') (fun b o hb e => (sb.2 b hb).trans e) c0 c1 c3 c4 c5
  exact ⟨V.ref D, H', It, rfl, q⟩
/-- .. kept under a local name -/
theorem ps_setLcX {W' : WX} {E : XK} {i : Nat} {y : Str} {py : Pos} {own : List (Str × Nat)} {pos spos : Pos} {wi : TI} 
    (hst : X.stack = X.env :: X.outer) (hf : X.env.frame = some X.env.locals) (tk : Takes X W') (hW : ∀ cls d σ H', E cls d H' → W' cls d σ H')
    (hc : X.calm = true) (hN : X.N.Nodup) (hy : X.N[i]? = some y) (hyl : X.env.scope.names.lookup y = some .local)
    (hsw : swapsWith (.ListComp elt [⟨tg, iter, [], 0⟩] scope pos) (some (.Name y py)) spos.line X.env = pure true) (hi : PI X tg iter wi) (ok : BlkOk X.N X.env.scope scope own)
    (hg : ∀ (s : Shared) (H : Hp) (C : Addr) (cl : List (Str × Addr)) (fp : List Addr), PG (X.blk s H scope (compEnvC scope cl C X.env) fp) tg g)
    (he : ∀ (s : Shared) (H : Hp) (C : Addr) (cl : List (Str × Addr)) (fp : List Addr) (xe : Value → Shared → Prop), Passes (L2.CX X.prog X.w) ((X.blk s H scope (compEnvC scope cl C X.env) fp).wish xe) E → PE ((X.blk s H scope (compEnvC scope cl C X.env) fp).wish xe) elt te) (hs : ∀ x, foldedSetIterable iter X.env x = pure x := by intro _; rfl) :
    PS X (.Assign [.Name y py] (.ListComp elt [⟨tg, iter, [], 0⟩] scope pos) spos) (tAsg (tLc wi g tYes te (own.map (·.2))) (gName i)) := by
  refine ⟨fun pins s σ H D I h => ?_⟩
  rw [exec_Assign_Name_used _ _ _ _ hsw]
  refine wpAny_bind (wpAny_standAt (wpAny_bind ?_))
  show wpAny _ X.A (do let _ ← comprehension (.ListComp elt [⟨tg, iter, [], 0⟩] scope pos) scope X.env (firstIterPos [⟨tg, iter, [], 0⟩] pos) (newList []) false (eval iter X.env) (some (assign (.Name y py) X.env))) _ _ s
  have h : tLc wi g tYes te (own.map (·.2)) σ H (fun x H1 => gName i x σ H1 D.nx) := h
  refine wpAny_bind (thn (lc_raises (use := some (assign (.Name y py) X.env)) (Qf := fun _ s' => SP X pins D .next s') hst hf tk hW hc hN I hi ok hg he hs h fun L C cl s' m H' I' q hn f => ?_) fun _ s' hq => wpAny_pure (wpAny_pure hq))
  obtain ⟨c0, c1, _, c3, c4, c5⟩ := f
  refine wpAny_assign_Name (store_ok2 (v := V.ref L) I' hN hy (.inl hyl) rfl (fun s2 I2 st => ?_) (.inr hyl))
  obtain ⟨b, sb, own⟩ := st
  have far : C ≠ b := own.elim (fun z => z ▸ c1) fun z k => c4 y b z k.symm
  refine ⟨m, hn.sameBut sb far, fun h3 sb3 => ⟨_, H', ?_, q⟩⟩
  exact I2.turned (t' := s2.toks) (h' := h3) (fun b o hb e => (sb3.2 b hb).trans e) c0 c1 c3 c4 c5
end
end Snk
set_option maxHeartbeats 4000000
/-! The text by places, and what the top has written. -/
namespace Snk
open PySem PySem.Spec PyProof.Rows L2
def top (i : Nat) : Stmt := PySem.Challenge.pw_surenear_k37_whole_codes_stand_for_one_v.main.body.getD i (.Pass ⟨0, 0, 0, 0⟩)
abbrev s_Record_init : Stmt := inClass (top 6) 0
abbrev s_FieldFact_init : Stmt := inClass (top 10) 0
abbrev s_Range_init : Stmt := inClass (top 11) 0
abbrev s_Values_init : Stmt := inClass (top 12) 0
abbrev s_Counts_init : Stmt := inClass (top 13) 0
abbrev s_Names_init : Stmt := inClass (top 14) 0
abbrev s_Part_init : Stmt := inClass (top 16) 0
abbrev s_Parts_init : Stmt := inClass (top 17) 0
abbrev s_Cell_init : Stmt := inClass (top 18) 0
abbrev s_Box_init : Stmt := inClass (top 19) 0
abbrev s_Norms_init : Stmt := inClass (top 20) 0
abbrev s_Differ_init : Stmt := inClass (top 21) 0
abbrev s_list_code : Stmt := top 24
abbrev s_numbers_code : Stmt := top 25
abbrev s_string_code : Stmt := top 26
abbrev s_value_code : Stmt := top 27
abbrev s_maybe_code : Stmt := top 28
abbrev s_pairs_code : Stmt := top 29
abbrev s_record_code : Stmt := top 30
abbrev s_fact_code : Stmt := top 31
abbrev s_region_code : Stmt := top 32
abbrev s_partition_code : Stmt := top 33
abbrev s_entry_code : Stmt := top 34
abbrev s_offer_code : Stmt := top 35
abbrev s_Region_init : Stmt := inClass (top 40) 0
abbrev s_Entry_init : Stmt := inClass (top 44) 0
abbrev s_Offer_init : Stmt := inClass (top 45) 0
abbrev s_sign_of : Stmt := top 48
abbrev s_NumberReader_init : Stmt := inClass (top 49) 0
abbrev s_NumberReader_take : Stmt := inClass (top 49) 1
abbrev s_NumberReader_size : Stmt := inClass (top 49) 2
abbrev s_NumberReader_choice : Stmt := inClass (top 49) 3
abbrev s_NumberReader_present : Stmt := inClass (top 49) 4
abbrev s_NumberReader_integers : Stmt := inClass (top 49) 5
abbrev s_NumberReader_short : Stmt := inClass (top 49) 6
abbrev s_NumberReader_string : Stmt := inClass (top 49) 7
abbrev s_NumberReader_value : Stmt := inClass (top 49) 8
abbrev s_NumberReader_pairs : Stmt := inClass (top 49) 9
abbrev s_NumberReader_record : Stmt := inClass (top 49) 10
abbrev s_NumberReader_part : Stmt := inClass (top 49) 11
abbrev s_NumberReader_field_fact : Stmt := inClass (top 49) 12
abbrev s_NumberReader_fact : Stmt := inClass (top 49) 13
abbrev s_NumberReader_region : Stmt := inClass (top 49) 14
abbrev s_NumberReader_partition : Stmt := inClass (top 49) 15
abbrev s_NumberReader_entry : Stmt := inClass (top 49) 16
abbrev s_NumberReader_offer : Stmt := inClass (top 49) 17
abbrev s_NumberReader_finish : Stmt := inClass (top 49) 18
abbrev s_read_record : Stmt := top 50
abbrev s_read_offer : Stmt := top 51
abbrev s_law_row : Stmt := top 53
abbrev s_law_next : Stmt := top 54
abbrev s_law_string : Stmt := top 55
abbrev s_law_numbers : Stmt := top 56
abbrev s_law_worth : Stmt := top 57
abbrev s_law_fact : Stmt := top 58
abbrev s_law_record : Stmt := top 59
abbrev s_law_offer : Stmt := top 60
abbrev s_law_changed : Stmt := top 61
abbrev s_law_offer_of : Stmt := top 62
abbrev s_law_record_of : Stmt := top 63
abbrev s_law : Stmt := top 64
def signs : Str := ⟨#[32, 33, 34, 35, 36, 38, 39, 40, 41, 42, 43, 44, 45, 46, 47, 48, 49, 50, 51, 52, 53, 54, 55, 56, 57, 58, 59, 60, 61, 62, 63, 64, 65, 66, 67, 68, 69, 70, 71, 72, 73, 74, 75, 76, 77, 78, 79, 80, 81, 82, 83, 84, 85, 86, 87, 88, 89, 90, 91, 92, 93, 94, 95, 96, 97, 98, 99, 100, 101, 102, 103, 104, 105, 106, 107, 108, 109, 110, 111, 112, 113, 114, 115, 116, 117, 118, 119, 120, 121, 122, 123, 124, 125, 126]⟩
def isis0 : List (Str × Str × Bool) := [("Parts", "Parts", true), ("Cell", "Parts", false), ("Cell", "Cell", true), ("Box", "Parts", false), ("Box", "Cell", false), ("Box", "Box", true), ("Norms", "Parts", false), ("Norms", "Cell", false), ("Norms", "Box", false), ("Norms", "Norms", true), ("Differ", "Parts", false), ("Differ", "Cell", false), ("Differ", "Box", false), ("Differ", "Norms", false), ("Differ", "Differ", true)]
def isis1 : List (Str × Str × Bool) := [("Range", "Parts", false), ("Range", "Cell", false), ("Range", "Box", false), ("Range", "Norms", false), ("Range", "Differ", false), ("Range", "Range", true), ("Values", "Parts", false), ("Values", "Cell", false), ("Values", "Box", false), ("Values", "Norms", false), ("Values", "Differ", false), ("Values", "Range", false), ("Values", "Values", true), ("Counts", "Parts", false), ("Counts", "Cell", false)]
def isis2 : List (Str × Str × Bool) := [("Counts", "Box", false), ("Counts", "Norms", false), ("Counts", "Differ", false), ("Counts", "Range", false), ("Counts", "Values", false), ("Counts", "Counts", true), ("Names", "Parts", false), ("Names", "Cell", false), ("Names", "Box", false), ("Names", "Norms", false), ("Names", "Differ", false), ("Names", "Range", false), ("Names", "Values", false), ("Names", "Counts", false), ("Names", "Names", true)]
def isis : List (Str × Str × Bool) := isis0 ++ (isis1 ++ isis2)
def factNames : List Str := ["Parts", "Cell", "Box", "Norms", "Differ", "Range", "Values", "Counts", "Names"]
/-- what the written part says -/
structure Txt (K : PySem.W.Frag) (mg : Str → Option Value) : Prop where
  g_list_code : mg "list_code" = some (.ref (He.ga K "list_code"))
  g_numbers_code : mg "numbers_code" = some (.ref (He.ga K "numbers_code"))
  g_string_code : mg "string_code" = some (.ref (He.ga K "string_code"))
  g_value_code : mg "value_code" = some (.ref (He.ga K "value_code"))
  g_maybe_code : mg "maybe_code" = some (.ref (He.ga K "maybe_code"))
  g_pairs_code : mg "pairs_code" = some (.ref (He.ga K "pairs_code"))
  g_record_code : mg "record_code" = some (.ref (He.ga K "record_code"))
  g_fact_code : mg "fact_code" = some (.ref (He.ga K "fact_code"))
  g_region_code : mg "region_code" = some (.ref (He.ga K "region_code"))
  g_partition_code : mg "partition_code" = some (.ref (He.ga K "partition_code"))
  g_entry_code : mg "entry_code" = some (.ref (He.ga K "entry_code"))
  g_offer_code : mg "offer_code" = some (.ref (He.ga K "offer_code"))
  g_sign_of : mg "sign_of" = some (.ref (He.ga K "sign_of"))
  g_read_record : mg "read_record" = some (.ref (He.ga K "read_record"))
  g_read_offer : mg "read_offer" = some (.ref (He.ga K "read_offer"))
  g__law_row : mg "_law_row" = some (.ref (He.ga K "_law_row"))
  g__law_next : mg "_law_next" = some (.ref (He.ga K "_law_next"))
  g__law_string : mg "_law_string" = some (.ref (He.ga K "_law_string"))
  g__law_numbers : mg "_law_numbers" = some (.ref (He.ga K "_law_numbers"))
  g__law_worth : mg "_law_worth" = some (.ref (He.ga K "_law_worth"))
  g__law_fact : mg "_law_fact" = some (.ref (He.ga K "_law_fact"))
  g__law_record : mg "_law_record" = some (.ref (He.ga K "_law_record"))
  g__law_offer : mg "_law_offer" = some (.ref (He.ga K "_law_offer"))
  g__law_changed : mg "_law_changed" = some (.ref (He.ga K "_law_changed"))
  g__law_offer_of : mg "_law_offer_of" = some (.ref (He.ga K "_law_offer_of"))
  g__law_record_of : mg "_law_record_of" = some (.ref (He.ga K "_law_record_of"))
  g_law : mg "law" = some (.ref (He.ga K "law"))
  g_Record : mg "Record" = some (.ref (He.ga K "Record"))
  cl_Record : Cls K (He.ga K "Record")
  mk_Record : Mk K (He.ga K "Record") (He.ma K (He.ga K "Record") "__init__")
  g_Range : mg "Range" = some (.ref (He.ga K "Range"))
  cl_Range : Cls K (He.ga K "Range")
  mk_Range : Mk K (He.ga K "Range") (He.ma K (He.ga K "Range") "__init__")
  g_Values : mg "Values" = some (.ref (He.ga K "Values"))
  cl_Values : Cls K (He.ga K "Values")
  mk_Values : Mk K (He.ga K "Values") (He.ma K (He.ga K "Values") "__init__")
  g_Counts : mg "Counts" = some (.ref (He.ga K "Counts"))
  cl_Counts : Cls K (He.ga K "Counts")
  mk_Counts : Mk K (He.ga K "Counts") (He.ma K (He.ga K "Counts") "__init__")
  g_Names : mg "Names" = some (.ref (He.ga K "Names"))
  cl_Names : Cls K (He.ga K "Names")
  mk_Names : Mk K (He.ga K "Names") (He.ma K (He.ga K "Names") "__init__")
  g_Part : mg "Part" = some (.ref (He.ga K "Part"))
  cl_Part : Cls K (He.ga K "Part")
  mk_Part : Mk K (He.ga K "Part") (He.ma K (He.ga K "Part") "__init__")
  g_Parts : mg "Parts" = some (.ref (He.ga K "Parts"))
  cl_Parts : Cls K (He.ga K "Parts")
  mk_Parts : Mk K (He.ga K "Parts") (He.ma K (He.ga K "Parts") "__init__")
  g_Cell : mg "Cell" = some (.ref (He.ga K "Cell"))
  cl_Cell : Cls K (He.ga K "Cell")
  mk_Cell : Mk K (He.ga K "Cell") (He.ma K (He.ga K "Cell") "__init__")
  g_Box : mg "Box" = some (.ref (He.ga K "Box"))
  cl_Box : Cls K (He.ga K "Box")
  mk_Box : Mk K (He.ga K "Box") (He.ma K (He.ga K "Box") "__init__")
  g_Norms : mg "Norms" = some (.ref (He.ga K "Norms"))
  cl_Norms : Cls K (He.ga K "Norms")
  mk_Norms : Mk K (He.ga K "Norms") (He.ma K (He.ga K "Norms") "__init__")
  g_Differ : mg "Differ" = some (.ref (He.ga K "Differ"))
  cl_Differ : Cls K (He.ga K "Differ")
  mk_Differ : Mk K (He.ga K "Differ") (He.ma K (He.ga K "Differ") "__init__")
  g_Region : mg "Region" = some (.ref (He.ga K "Region"))
  cl_Region : Cls K (He.ga K "Region")
  mk_Region : Mk K (He.ga K "Region") (He.ma K (He.ga K "Region") "__init__")
  g_Entry : mg "Entry" = some (.ref (He.ga K "Entry"))
  cl_Entry : Cls K (He.ga K "Entry")
  mk_Entry : Mk K (He.ga K "Entry") (He.ma K (He.ga K "Entry") "__init__")
  g_Offer : mg "Offer" = some (.ref (He.ga K "Offer"))
  cl_Offer : Cls K (He.ga K "Offer")
  mk_Offer : Mk K (He.ga K "Offer") (He.ma K (He.ga K "Offer") "__init__")
  g_NumberReader : mg "NumberReader" = some (.ref (He.ga K "NumberReader"))
  cl_NumberReader : Cls K (He.ga K "NumberReader")
  mk_NumberReader : Mk K (He.ga K "NumberReader") (He.ma K (He.ga K "NumberReader") "__init__")
  na_Record_name : NoAttr K (He.ga K "Record") "name"
  na_Record_vector : NoAttr K (He.ga K "Record") "vector"
  na_Record_fields : NoAttr K (He.ga K "Record") "fields"
  na_Record_words : NoAttr K (He.ga K "Record") "words"
  na_Range_field : NoAttr K (He.ga K "Range") "field"
  na_Range_lack : NoAttr K (He.ga K "Range") "lack"
  na_Range_low : NoAttr K (He.ga K "Range") "low"
  na_Range_high : NoAttr K (He.ga K "Range") "high"
  na_Values_field : NoAttr K (He.ga K "Values") "field"
  na_Values_lack : NoAttr K (He.ga K "Values") "lack"
  na_Values_choices : NoAttr K (He.ga K "Values") "choices"
  na_Counts_words : NoAttr K (He.ga K "Counts") "words"
  na_Names_low : NoAttr K (He.ga K "Names") "low"
  na_Names_high : NoAttr K (He.ga K "Names") "high"
  na_Part_start : NoAttr K (He.ga K "Part") "start"
  na_Part_centre : NoAttr K (He.ga K "Part") "centre"
  na_Part_radius : NoAttr K (He.ga K "Part") "radius"
  na_Parts_parts : NoAttr K (He.ga K "Parts") "parts"
  na_Cell_near : NoAttr K (He.ga K "Cell") "near"
  na_Cell_rival : NoAttr K (He.ga K "Cell") "rival"
  na_Box_low : NoAttr K (He.ga K "Box") "low"
  na_Box_high : NoAttr K (He.ga K "Box") "high"
  na_Norms_low : NoAttr K (He.ga K "Norms") "low"
  na_Norms_high : NoAttr K (He.ga K "Norms") "high"
  na_Differ_centre : NoAttr K (He.ga K "Differ") "centre"
  na_Differ_most : NoAttr K (He.ga K "Differ") "most"
  na_Region_parent : NoAttr K (He.ga K "Region") "parent"
  na_Region_facts : NoAttr K (He.ga K "Region") "facts"
  na_Entry_number : NoAttr K (He.ga K "Entry") "number"
  na_Entry_record : NoAttr K (He.ga K "Entry") "record"
  na_Entry_leaves : NoAttr K (He.ga K "Entry") "leaves"
  na_Offer_partitions : NoAttr K (He.ga K "Offer") "partitions"
  na_Offer_entries : NoAttr K (He.ga K "Offer") "entries"
  na_NumberReader_row : NoAttr K (He.ga K "NumberReader") "row"
  na_NumberReader_at : NoAttr K (He.ga K "NumberReader") "at"
  m_take : Meth K (He.ga K "NumberReader") "take" (He.ma K (He.ga K "NumberReader") "take")
  m_size : Meth K (He.ga K "NumberReader") "size" (He.ma K (He.ga K "NumberReader") "size")
  m_choice : Meth K (He.ga K "NumberReader") "choice" (He.ma K (He.ga K "NumberReader") "choice")
  m_present : Meth K (He.ga K "NumberReader") "present" (He.ma K (He.ga K "NumberReader") "present")
  m_integers : Meth K (He.ga K "NumberReader") "integers" (He.ma K (He.ga K "NumberReader") "integers")
  m_short : Meth K (He.ga K "NumberReader") "short" (He.ma K (He.ga K "NumberReader") "short")
  m_string : Meth K (He.ga K "NumberReader") "string" (He.ma K (He.ga K "NumberReader") "string")
  m_value : Meth K (He.ga K "NumberReader") "value" (He.ma K (He.ga K "NumberReader") "value")
  m_pairs : Meth K (He.ga K "NumberReader") "pairs" (He.ma K (He.ga K "NumberReader") "pairs")
  m_record : Meth K (He.ga K "NumberReader") "record" (He.ma K (He.ga K "NumberReader") "record")
  m_part : Meth K (He.ga K "NumberReader") "part" (He.ma K (He.ga K "NumberReader") "part")
  m_field_fact : Meth K (He.ga K "NumberReader") "field_fact" (He.ma K (He.ga K "NumberReader") "field_fact")
  m_fact : Meth K (He.ga K "NumberReader") "fact" (He.ma K (He.ga K "NumberReader") "fact")
  m_region : Meth K (He.ga K "NumberReader") "region" (He.ma K (He.ga K "NumberReader") "region")
  m_partition : Meth K (He.ga K "NumberReader") "partition" (He.ma K (He.ga K "NumberReader") "partition")
  m_entry : Meth K (He.ga K "NumberReader") "entry" (He.ma K (He.ga K "NumberReader") "entry")
  m_offer : Meth K (He.ga K "NumberReader") "offer" (He.ma K (He.ga K "NumberReader") "offer")
  m_finish : Meth K (He.ga K "NumberReader") "finish" (He.ma K (He.ga K "NumberReader") "finish")
  g_FieldFact : mg "FieldFact" = some (.ref (He.ga K "FieldFact"))
  g_InvalidCode : mg "InvalidCode" = some (.ref (He.ga K "InvalidCode"))
  g_SurenearError : mg "SurenearError" = some (.ref (He.ga K "SurenearError"))
  exc : PySem.W.excIn K (He.ga K "InvalidCode") He.veBase "ValueError.__new__" = true ∧ PySem.W.keepIn K (.ref (He.ga K "InvalidCode")) = true ∧ PySem.W.subIn K (.ref (He.ga K "InvalidCode")) (.type "BaseException") = some true ∧ PySem.W.typeIn K (.ref (He.ga K "InvalidCode")) = some (.type "type")
  exm : PySem.W.exmOne K (.ref (He.ga K "InvalidCode")) (.ref (He.ga K "InvalidCode")) = some true
  kp_FieldFact : PySem.W.keepIn K (.ref (He.ga K "FieldFact")) = true
  n_len : mg "len" = none
  n_isinstance : mg "isinstance" = none
  n_ord : mg "ord" = none
  n_range : mg "range" = none
  n_tuple : mg "tuple" = none
  n_list : mg "list" = none
  n_int : mg "int" = none
  n_bool : mg "bool" = none
  n_str : mg "str" = none
  g_LACKS : mg "LACKS" = some (.ref (He.ga K "LACKS"))
  signs : ∃ t, mg "SIGNS" = some (.str signs t)
  lacks : ∀ H : Hp, SqT K H (He.ga K "LACKS") [.str "nobody", .str "some", .str "all"]
  lackT : ∃ o, K.lookup (He.ga K "LACKS") = some o ∧ o.cls = .type "tuple" ∧ o.dict = none
  isi : ∀ q ∈ isis, PySem.W.kitOne K (.ref (He.ga K q.1)) (.ref (He.ga K q.2.1)) = some q.2.2
  ins : ∀ x ∈ factNames, PySem.W.findIn K (.ref (He.ga K x)) "__class__" = some (some (.builtin "object.__class__")) ∧ PySem.W.mroIn K (He.ga K x) (.type "object") = some true
  ocg : PySem.W.specialIn K (.builtin "object.__class__") "__get__" = some (some (.builtin "getset_descriptor.__get__"))
  oct : PySem.W.takesIn K (.builtin "object.__class__") = some true
  ffr : PySem.W.readsIn K (He.ga K "FieldFact") (.type "type") = true
  ffg : PySem.W.specialIn K (.ref (He.ga K "FieldFact")) "__getattribute__" = some (some (.builtin "type.__getattribute__"))
  fff : PySem.W.findCls K (.ref (He.ga K "FieldFact")) (.type "type") "__init__" = some (.val (.ref (He.ma K (He.ga K "FieldFact") "__init__")))
/-- a def of the text, without positional defaults -/
abbrev FnP (K : PySem.W.Frag) (x qual : Str) (st : Stmt) (f : Addr) (fd : FuncData) : Prop := FunD K x qual (defArgs st) (defBody st) (defScope st) [] [] f fd
end Snk
set_option maxHeartbeats 0
namespace Snk
open PySem PySem.Spec PyProof.Rows L2
def kwAt (f : Str × Option Str) (x : Str) (K : PySem.W.Frag) : Addr := match K.lookup (He.fAd K f) with
  | some ⟨_, _, .func fd, _⟩ => (match fd.kwdefaults with
    | .ref D => (match PySem.W.nsIn K D x with
      | some (some (.ref a)) => a
      | _ => 0)
    | _ => 0)
  | _ => 0
def d_Record_init : He.DefD := ⟨("Record", some "__init__"), "__init__", "Record.__init__", defArgs s_Record_init, defBody s_Record_init, defScope s_Record_init, [], [("fields", .adr (kwAt ("Record", some "__init__") "fields")), ("words", .adr (kwAt ("Record", some "__init__") "words"))]⟩
def d_FieldFact_init : He.DefD := ⟨("FieldFact", some "__init__"), "__init__", "FieldFact.__init__", defArgs s_FieldFact_init, defBody s_FieldFact_init, defScope s_FieldFact_init, [], []⟩
def d_Range_init : He.DefD := ⟨("Range", some "__init__"), "__init__", "Range.__init__", defArgs s_Range_init, defBody s_Range_init, defScope s_Range_init, [], [("lack", .str "nobody")]⟩
def d_Values_init : He.DefD := ⟨("Values", some "__init__"), "__init__", "Values.__init__", defArgs s_Values_init, defBody s_Values_init, defScope s_Values_init, [], [("lack", .str "nobody")]⟩
def d_Counts_init : He.DefD := ⟨("Counts", some "__init__"), "__init__", "Counts.__init__", defArgs s_Counts_init, defBody s_Counts_init, defScope s_Counts_init, [], []⟩
def d_Names_init : He.DefD := ⟨("Names", some "__init__"), "__init__", "Names.__init__", defArgs s_Names_init, defBody s_Names_init, defScope s_Names_init, [], []⟩
def d_Part_init : He.DefD := ⟨("Part", some "__init__"), "__init__", "Part.__init__", defArgs s_Part_init, defBody s_Part_init, defScope s_Part_init, [], []⟩
def d_Parts_init : He.DefD := ⟨("Parts", some "__init__"), "__init__", "Parts.__init__", defArgs s_Parts_init, defBody s_Parts_init, defScope s_Parts_init, [], []⟩
def d_Cell_init : He.DefD := ⟨("Cell", some "__init__"), "__init__", "Cell.__init__", defArgs s_Cell_init, defBody s_Cell_init, defScope s_Cell_init, [], []⟩
def d_Box_init : He.DefD := ⟨("Box", some "__init__"), "__init__", "Box.__init__", defArgs s_Box_init, defBody s_Box_init, defScope s_Box_init, [], []⟩
def d_Norms_init : He.DefD := ⟨("Norms", some "__init__"), "__init__", "Norms.__init__", defArgs s_Norms_init, defBody s_Norms_init, defScope s_Norms_init, [], []⟩
def d_Differ_init : He.DefD := ⟨("Differ", some "__init__"), "__init__", "Differ.__init__", defArgs s_Differ_init, defBody s_Differ_init, defScope s_Differ_init, [], []⟩
def d_list_code : He.DefD := ⟨("list_code", none), "list_code", "list_code", defArgs s_list_code, defBody s_list_code, defScope s_list_code, [], []⟩
def d_numbers_code : He.DefD := ⟨("numbers_code", none), "numbers_code", "numbers_code", defArgs s_numbers_code, defBody s_numbers_code, defScope s_numbers_code, [], []⟩
def d_string_code : He.DefD := ⟨("string_code", none), "string_code", "string_code", defArgs s_string_code, defBody s_string_code, defScope s_string_code, [], []⟩
def d_value_code : He.DefD := ⟨("value_code", none), "value_code", "value_code", defArgs s_value_code, defBody s_value_code, defScope s_value_code, [], []⟩
def d_maybe_code : He.DefD := ⟨("maybe_code", none), "maybe_code", "maybe_code", defArgs s_maybe_code, defBody s_maybe_code, defScope s_maybe_code, [], []⟩
def d_pairs_code : He.DefD := ⟨("pairs_code", none), "pairs_code", "pairs_code", defArgs s_pairs_code, defBody s_pairs_code, defScope s_pairs_code, [], []⟩
def d_record_code : He.DefD := ⟨("record_code", none), "record_code", "record_code", defArgs s_record_code, defBody s_record_code, defScope s_record_code, [], []⟩
def d_fact_code : He.DefD := ⟨("fact_code", none), "fact_code", "fact_code", defArgs s_fact_code, defBody s_fact_code, defScope s_fact_code, [], []⟩
def d_region_code : He.DefD := ⟨("region_code", none), "region_code", "region_code", defArgs s_region_code, defBody s_region_code, defScope s_region_code, [], []⟩
def d_partition_code : He.DefD := ⟨("partition_code", none), "partition_code", "partition_code", defArgs s_partition_code, defBody s_partition_code, defScope s_partition_code, [], []⟩
def d_entry_code : He.DefD := ⟨("entry_code", none), "entry_code", "entry_code", defArgs s_entry_code, defBody s_entry_code, defScope s_entry_code, [], []⟩
def d_offer_code : He.DefD := ⟨("offer_code", none), "offer_code", "offer_code", defArgs s_offer_code, defBody s_offer_code, defScope s_offer_code, [], []⟩
def d_Region_init : He.DefD := ⟨("Region", some "__init__"), "__init__", "Region.__init__", defArgs s_Region_init, defBody s_Region_init, defScope s_Region_init, [], []⟩
def d_Entry_init : He.DefD := ⟨("Entry", some "__init__"), "__init__", "Entry.__init__", defArgs s_Entry_init, defBody s_Entry_init, defScope s_Entry_init, [], []⟩
def d_Offer_init : He.DefD := ⟨("Offer", some "__init__"), "__init__", "Offer.__init__", defArgs s_Offer_init, defBody s_Offer_init, defScope s_Offer_init, [], []⟩
def d_sign_of : He.DefD := ⟨("sign_of", none), "sign_of", "sign_of", defArgs s_sign_of, defBody s_sign_of, defScope s_sign_of, [], []⟩
def d_NumberReader_init : He.DefD := ⟨("NumberReader", some "__init__"), "__init__", "NumberReader.__init__", defArgs s_NumberReader_init, defBody s_NumberReader_init, defScope s_NumberReader_init, [], []⟩
def d_NumberReader_take : He.DefD := ⟨("NumberReader", some "take"), "take", "NumberReader.take", defArgs s_NumberReader_take, defBody s_NumberReader_take, defScope s_NumberReader_take, [], []⟩
def d_NumberReader_size : He.DefD := ⟨("NumberReader", some "size"), "size", "NumberReader.size", defArgs s_NumberReader_size, defBody s_NumberReader_size, defScope s_NumberReader_size, [], []⟩
def d_NumberReader_choice : He.DefD := ⟨("NumberReader", some "choice"), "choice", "NumberReader.choice", defArgs s_NumberReader_choice, defBody s_NumberReader_choice, defScope s_NumberReader_choice, [], []⟩
def d_NumberReader_present : He.DefD := ⟨("NumberReader", some "present"), "present", "NumberReader.present", defArgs s_NumberReader_present, defBody s_NumberReader_present, defScope s_NumberReader_present, [], []⟩
def d_NumberReader_integers : He.DefD := ⟨("NumberReader", some "integers"), "integers", "NumberReader.integers", defArgs s_NumberReader_integers, defBody s_NumberReader_integers, defScope s_NumberReader_integers, [], []⟩
def d_NumberReader_short : He.DefD := ⟨("NumberReader", some "short"), "short", "NumberReader.short", defArgs s_NumberReader_short, defBody s_NumberReader_short, defScope s_NumberReader_short, [], []⟩
def d_NumberReader_string : He.DefD := ⟨("NumberReader", some "string"), "string", "NumberReader.string", defArgs s_NumberReader_string, defBody s_NumberReader_string, defScope s_NumberReader_string, [], []⟩
def d_NumberReader_value : He.DefD := ⟨("NumberReader", some "value"), "value", "NumberReader.value", defArgs s_NumberReader_value, defBody s_NumberReader_value, defScope s_NumberReader_value, [], []⟩
def d_NumberReader_pairs : He.DefD := ⟨("NumberReader", some "pairs"), "pairs", "NumberReader.pairs", defArgs s_NumberReader_pairs, defBody s_NumberReader_pairs, defScope s_NumberReader_pairs, [], []⟩
def d_NumberReader_record : He.DefD := ⟨("NumberReader", some "record"), "record", "NumberReader.record", defArgs s_NumberReader_record, defBody s_NumberReader_record, defScope s_NumberReader_record, [], []⟩
def d_NumberReader_part : He.DefD := ⟨("NumberReader", some "part"), "part", "NumberReader.part", defArgs s_NumberReader_part, defBody s_NumberReader_part, defScope s_NumberReader_part, [], []⟩
def d_NumberReader_field_fact : He.DefD := ⟨("NumberReader", some "field_fact"), "field_fact", "NumberReader.field_fact", defArgs s_NumberReader_field_fact, defBody s_NumberReader_field_fact, defScope s_NumberReader_field_fact, [], []⟩
def d_NumberReader_fact : He.DefD := ⟨("NumberReader", some "fact"), "fact", "NumberReader.fact", defArgs s_NumberReader_fact, defBody s_NumberReader_fact, defScope s_NumberReader_fact, [], []⟩
def d_NumberReader_region : He.DefD := ⟨("NumberReader", some "region"), "region", "NumberReader.region", defArgs s_NumberReader_region, defBody s_NumberReader_region, defScope s_NumberReader_region, [], []⟩
def d_NumberReader_partition : He.DefD := ⟨("NumberReader", some "partition"), "partition", "NumberReader.partition", defArgs s_NumberReader_partition, defBody s_NumberReader_partition, defScope s_NumberReader_partition, [], []⟩
def d_NumberReader_entry : He.DefD := ⟨("NumberReader", some "entry"), "entry", "NumberReader.entry", defArgs s_NumberReader_entry, defBody s_NumberReader_entry, defScope s_NumberReader_entry, [], []⟩
def d_NumberReader_offer : He.DefD := ⟨("NumberReader", some "offer"), "offer", "NumberReader.offer", defArgs s_NumberReader_offer, defBody s_NumberReader_offer, defScope s_NumberReader_offer, [], []⟩
def d_NumberReader_finish : He.DefD := ⟨("NumberReader", some "finish"), "finish", "NumberReader.finish", defArgs s_NumberReader_finish, defBody s_NumberReader_finish, defScope s_NumberReader_finish, [], []⟩
def d_read_record : He.DefD := ⟨("read_record", none), "read_record", "read_record", defArgs s_read_record, defBody s_read_record, defScope s_read_record, [], []⟩
def d_read_offer : He.DefD := ⟨("read_offer", none), "read_offer", "read_offer", defArgs s_read_offer, defBody s_read_offer, defScope s_read_offer, [], []⟩
def d_law_row : He.DefD := ⟨("_law_row", none), "_law_row", "_law_row", defArgs s_law_row, defBody s_law_row, defScope s_law_row, [], []⟩
def d_law_next : He.DefD := ⟨("_law_next", none), "_law_next", "_law_next", defArgs s_law_next, defBody s_law_next, defScope s_law_next, [], []⟩
def d_law_string : He.DefD := ⟨("_law_string", none), "_law_string", "_law_string", defArgs s_law_string, defBody s_law_string, defScope s_law_string, [], []⟩
def d_law_numbers : He.DefD := ⟨("_law_numbers", none), "_law_numbers", "_law_numbers", defArgs s_law_numbers, defBody s_law_numbers, defScope s_law_numbers, [], []⟩
def d_law_worth : He.DefD := ⟨("_law_worth", none), "_law_worth", "_law_worth", defArgs s_law_worth, defBody s_law_worth, defScope s_law_worth, [], []⟩
def d_law_fact : He.DefD := ⟨("_law_fact", none), "_law_fact", "_law_fact", defArgs s_law_fact, defBody s_law_fact, defScope s_law_fact, [], []⟩
def d_law_record : He.DefD := ⟨("_law_record", none), "_law_record", "_law_record", defArgs s_law_record, defBody s_law_record, defScope s_law_record, [], []⟩
def d_law_offer : He.DefD := ⟨("_law_offer", none), "_law_offer", "_law_offer", defArgs s_law_offer, defBody s_law_offer, defScope s_law_offer, [], []⟩
def d_law_changed : He.DefD := ⟨("_law_changed", none), "_law_changed", "_law_changed", defArgs s_law_changed, defBody s_law_changed, defScope s_law_changed, [], []⟩
def d_law_offer_of : He.DefD := ⟨("_law_offer_of", none), "_law_offer_of", "_law_offer_of", defArgs s_law_offer_of, defBody s_law_offer_of, defScope s_law_offer_of, [], []⟩
def d_law_record_of : He.DefD := ⟨("_law_record_of", none), "_law_record_of", "_law_record_of", defArgs s_law_record_of, defBody s_law_record_of, defScope s_law_record_of, [], []⟩
def d_law : He.DefD := ⟨("law", none), "law", "law", defArgs s_law, defBody s_law, defScope s_law, [], []⟩
def fnD0 : List He.DefD := [d_Record_init, d_FieldFact_init, d_Range_init, d_Values_init, d_Counts_init, d_Names_init, d_Part_init, d_Parts_init, d_Cell_init, d_Box_init, d_Norms_init, d_Differ_init, d_list_code, d_numbers_code, d_string_code, d_value_code, d_maybe_code, d_pairs_code, d_record_code, d_fact_code]
def fnD1 : List He.DefD := [d_region_code, d_partition_code, d_entry_code, d_offer_code, d_Region_init, d_Entry_init, d_Offer_init, d_sign_of, d_NumberReader_init, d_NumberReader_take, d_NumberReader_size, d_NumberReader_choice, d_NumberReader_present, d_NumberReader_integers, d_NumberReader_short, d_NumberReader_string, d_NumberReader_value, d_NumberReader_pairs, d_NumberReader_record, d_NumberReader_part]
def fnD2 : List He.DefD := [d_NumberReader_field_fact, d_NumberReader_fact, d_NumberReader_region, d_NumberReader_partition, d_NumberReader_entry, d_NumberReader_offer, d_NumberReader_finish, d_read_record, d_read_offer, d_law_row, d_law_next, d_law_string, d_law_numbers, d_law_worth, d_law_fact, d_law_record, d_law_offer, d_law_changed, d_law_offer_of, d_law_record_of]
def fnD3 : List He.DefD := [d_law]
def fnD : List He.DefD := fnD0 ++ (fnD1 ++ (fnD2 ++ (fnD3)))
def faD0 : List He.Fa := [.glo "list_code", .glo "numbers_code", .glo "string_code", .glo "value_code", .glo "maybe_code", .glo "pairs_code", .glo "record_code", .glo "fact_code", .glo "region_code", .glo "partition_code", .glo "entry_code", .glo "offer_code", .glo "sign_of", .glo "read_record", .glo "read_offer", .glo "_law_row", .glo "_law_next", .glo "_law_string", .glo "_law_numbers", .glo "_law_worth"]
def faD1 : List He.Fa := [.glo "_law_fact", .glo "_law_record", .glo "_law_offer", .glo "_law_changed", .glo "_law_offer_of", .glo "_law_record_of", .glo "law", .glo "Record", .cls "Record", .mkr "Record", .glo "Range", .cls "Range", .mkr "Range", .glo "Values", .cls "Values", .mkr "Values", .glo "Counts", .cls "Counts", .mkr "Counts", .glo "Names"]
def faD2 : List He.Fa := [.cls "Names", .mkr "Names", .glo "Part", .cls "Part", .mkr "Part", .glo "Parts", .cls "Parts", .mkr "Parts", .glo "Cell", .cls "Cell", .mkr "Cell", .glo "Box", .cls "Box", .mkr "Box", .glo "Norms", .cls "Norms", .mkr "Norms", .glo "Differ", .cls "Differ", .mkr "Differ"]
def faD3 : List He.Fa := [.glo "Region", .cls "Region", .mkr "Region", .glo "Entry", .cls "Entry", .mkr "Entry", .glo "Offer", .cls "Offer", .mkr "Offer", .glo "NumberReader", .cls "NumberReader", .mkr "NumberReader", .noat "Record" "name", .noat "Record" "vector", .noat "Record" "fields", .noat "Record" "words", .noat "Range" "field", .noat "Range" "lack", .noat "Range" "low", .noat "Range" "high"]
def faD4 : List He.Fa := [.noat "Values" "field", .noat "Values" "lack", .noat "Values" "choices", .noat "Counts" "words", .noat "Names" "low", .noat "Names" "high", .noat "Part" "start", .noat "Part" "centre", .noat "Part" "radius", .noat "Parts" "parts", .noat "Cell" "near", .noat "Cell" "rival", .noat "Box" "low", .noat "Box" "high", .noat "Norms" "low", .noat "Norms" "high", .noat "Differ" "centre", .noat "Differ" "most", .noat "Region" "parent", .noat "Region" "facts"]
def faD5 : List He.Fa := [.noat "Entry" "number", .noat "Entry" "record", .noat "Entry" "leaves", .noat "Offer" "partitions", .noat "Offer" "entries", .noat "NumberReader" "row", .noat "NumberReader" "at", .meth "NumberReader" "take", .meth "NumberReader" "size", .meth "NumberReader" "choice", .meth "NumberReader" "present", .meth "NumberReader" "integers", .meth "NumberReader" "short", .meth "NumberReader" "string", .meth "NumberReader" "value", .meth "NumberReader" "pairs", .meth "NumberReader" "record", .meth "NumberReader" "part", .meth "NumberReader" "field_fact", .meth "NumberReader" "fact"]
def faD6 : List He.Fa := [.meth "NumberReader" "region", .meth "NumberReader" "partition", .meth "NumberReader" "entry", .meth "NumberReader" "offer", .meth "NumberReader" "finish", .glo "FieldFact", .glo "InvalidCode", .glo "SurenearError", .exc "InvalidCode", .exm "InvalidCode" "InvalidCode" true, .keep "FieldFact", .free "len", .free "isinstance", .free "ord", .free "range", .free "tuple", .free "list", .free "int", .free "bool", .free "str"]
def faD7 : List He.Fa := [.glo "LACKS", .str "SIGNS" signs]
def faD : List He.Fa := faD0 ++ (faD1 ++ (faD2 ++ (faD3 ++ (faD4 ++ (faD5 ++ (faD6 ++ (faD7)))))))
def insB (K : PySem.W.Frag) (x : Str) : Bool := He.eqO (PySem.W.findIn K (.ref (He.ga K x)) "__class__") (some (some (.builtin "object.__class__"))) && decide (PySem.W.mroIn K (He.ga K x) (.type "object") = some true)
def lackB (K : PySem.W.Frag) : Bool := match K.lookup (He.ga K "LACKS") with | some ⟨.type c, none, _, _⟩ => decide (c = "tuple") | _ => false
/-- the facts that the hook's own list does not say -/
def moreB (K : PySem.W.Frag) : Bool :=
  (isis.all fun q => decide (PySem.W.kitOne K (.ref (He.ga K q.1)) (.ref (He.ga K q.2.1)) = some q.2.2)) && factNames.all (insB K) &&
  He.eqO (PySem.W.specialIn K (.builtin "object.__class__") "__get__") (some (some (.builtin "getset_descriptor.__get__"))) && decide (PySem.W.takesIn K (.builtin "object.__class__") = some true) &&
  lackB K && He.tupB K "LACKS" [.str "nobody", .str "some", .str "all"] &&
  PySem.W.readsIn K (He.ga K "FieldFact") (.type "type") && He.eqO (PySem.W.specialIn K (.ref (He.ga K "FieldFact")) "__getattribute__") (some (some (.builtin "type.__getattribute__"))) &&
  (match PySem.W.findCls K (.ref (He.ga K "FieldFact")) (.type "type") "__init__" with | some (.val (.ref a)) => decide (a = He.ma K (He.ga K "FieldFact") "__init__") | _ => false)
def asM (g : Addr → Option Obj) (n : Nat) : List Addr := cStatics :: He.asD g n
def obsM (n : Nat) (g : Addr → Option Obj) : Bool × List He.FnW := (let K := He.frG g (asM g n); ((faD.all fun f => f.ok K) && (fnD.all fun d => d.ok K) && moreB K, fnD.map fun d => He.fnW K d.at_))
def hookM (n : Nat) : PySem.W.Hook where
  α := Bool × List He.FnW
  obs := fun s => obsM n s.heap.get?
  val := fun _ => (true, fnD.map He.DefD.val)
  says := fun _ h => ∃ K : PySem.W.Frag, K.In h ∧ ((faD.all fun f => f.ok K) && (fnD.all fun d => d.ok K) && moreB K, fnD.map fun d => He.fnW K d.at_) = (true, fnD.map He.DefD.val)
  of := fun _ _ e => ⟨_, He.frG_in, e⟩
  keeps := fun _ _ _ ⟨K, hK, c⟩ k => ⟨K, PySem.W.Frag.In.keeps hK k, c⟩
abbrev R : PySem.W.OpenRow := PySem.W.OpenLaw.row PySem.Challenge.rw_surenear_k37_whole_codes_stand_for_one_v
abbrev hk : PySem.W.Hook := hookM 4
def ob (s : PySem.W.SharedT) : hk.α := obsM 4 (HandSHeadRun.getT s)
theorem ob_eq (s : PySem.W.SharedT) : ob s = hk.obs s.abs := by
  show obsM 4 _ = obsM 4 _
  rw [show HandSHeadRun.getT s = s.abs.heap.get? from funext (HandSHeadRun.getT_eq s)]
def na1 : List Str := ["_wall", "Fact", "same_value", "same_fields", "Record", "same_values", "FieldFact", "Range", "Values", "Counts", "Names", "Part", "Parts", "Cell", "Box", "Norms", "Differ", "LACKS", "list_code", "numbers_code", "string_code", "value_code", "maybe_code", "pairs_code", "record_code"]
def na2 : List Str := ["fact_code", "region_code", "partition_code", "entry_code", "offer_code", "SurenearError", "InvalidCode", "Region", "way_up", "lies_in", "Entry", "Offer", "SIGNS", "sign_of", "NumberReader", "read_record", "read_offer", "_law_row", "_law_next", "_law_string", "_law_numbers", "_law_worth", "_law_fact", "_law_record", "_law_offer"]
def na3 : List Str := ["_law_changed", "_law_offer_of", "_law_record_of"]
theorem run (w : World) : HandSHeadRun.RunEq R (PySem.W.view R.prog [64]) hk ob 10000 (na1 ++ (na2 ++ na3)) w := by
  intro os
  kernel_rfl
end Snk
set_option maxHeartbeats 4000000
/-! The plain data, their codes, and how they lie in the heap. -/
namespace Snk
open PySem PySem.Spec PyProof.Rows L2
/-! ### plain data -/
inductive Wv where
  | int (i : Int) | str (z : Str) | bl (b : Bool)
def Wv.v : Wv → V
  | .int i => .int i
  | .str z => .str z
  | .bl b => .bl b
structure Rc where
  name : Str
  vec : List Int
  fields : List (Str × Wv)
  words : List (Str × Int)
structure Pt where
  start : Int
  centre : List Int
  radius : Int
inductive Fc where
  | parts (ps : List Pt) | cell (a b : List Int) | box (a b : List Int) | norms (a b : Int) | differ (c : List Int) (m : Int)
  | range (f : Str) (l h : Int) (k : Nat) | values (f : Str) (cs : List Wv) (k : Nat) | counts (ws : List (Str × Int)) | names (l h : Str)
structure Rg where
  parent : Option Int
  facts : List Fc
structure En where
  number : Int
  record : Rc
  leaves : List Int
structure Fo where
  parts : List (List Rg)
  entries : List En
/-! ### codes -/
def cNums (ns : List Int) : List Int := (ns.length : Int) :: ns
def cStr (z : Str) : List Int := cNums (z.cps.toList.map fun n => ((n : Nat) : Int))
def cWv : Wv → List Int
  | .int i => [0, i]
  | .str z => 1 :: cStr z
  | .bl b => [2, if b then 1 else 0]
def cCodes (cs : List (List Int)) : List Int := (cs.length : Int) :: cs.flatten
def cList {α : Type} (f : α → List Int) (xs : List α) : List Int := cCodes (xs.map f)
def cWord (q : Str × Int) : List Int := cStr q.1 ++ [q.2]
def cField (q : Str × Wv) : List Int := cStr q.1 ++ cWv q.2
def cRc (r : Rc) : List Int := cStr r.name ++ cNums r.vec ++ cList cField r.fields ++ cList cWord r.words
def cPt (p : Pt) : List Int := [p.start] ++ cNums p.centre ++ [p.radius]
def cFc : Fc → List Int
  | .parts ps => [1] ++ cList cPt ps
  | .cell a b => [2] ++ cNums a ++ cNums b
  | .box a b => [3] ++ cNums a ++ cNums b
  | .norms a b => [4, a, b]
  | .differ c m => [5] ++ cNums c ++ [m]
  | .range f l h k => [6] ++ cStr f ++ [l, h, (k : Int)]
  | .values f cs k => [7] ++ cStr f ++ cList cWv cs ++ [(k : Int)]
  | .counts ws => [8] ++ cList cWord ws
  | .names l h => [9] ++ cStr l ++ cStr h
def cOpt : Option Int → List Int
  | none => [0]
  | some i => [1, i]
def cRg (r : Rg) : List Int := cOpt r.parent ++ cList cFc r.facts
def cPn (p : List Rg) : List Int := cList cRg p
def cEn (e : En) : List Int := [e.number] ++ cRc e.record ++ cNums e.leaves
def cFo (o : Fo) : List Int := cList cPn o.parts ++ cList cEn o.entries
def lackS : Nat → Str
  | 0 => "nobody"
  | 1 => "some"
  | _ => "all"
/-- no code, no list is longer -/
abbrev Big : Nat := 1000000
/-! ### heaps -/
/-- the attributes of a datum: some, and none is "at" (that is the reader's) -/
def okF (fs : List (Str × V)) : Bool := !fs.isEmpty && (fs.lookup ("at" : Str)).isNone
/-- what never changes: tuples, and instances that are filled and no reader -/
def isData : HO → Bool
  | .tup _ => true
  | .ins _ _ fs => okF fs
  | _ => false
def Keep (H H' : Hp) : Prop := ∀ b o, isData o = true → H b = some o → H' b = some o
/-- data stand, and so does what v itself names -/
def KeepV (v : V) (H H' : Hp) : Prop := ∀ b o, (isData o = true ∨ v = .ref b) → H b = some o → H' b = some o
/-- all stands but what P hides -/
def KeepP (P : Addr → Prop) (H H' : Hp) : Prop := ∀ b o, ¬ P b → H b = some o → H' b = some o
abbrev KeepB (p : Addr) (H H' : Hp) : Prop := KeepP (fun b => b = p) H H'
abbrev Non : Addr → Prop := fun _ => False
section
variable {P : Addr → Prop} {H H1 H2 H' : Hp} {p q : Addr} {o u : HO} {v : V}
theorem KeepP.refl : KeepP P H H := fun _ _ _ h => h
theorem KeepP.trans (a : KeepP P H H1) (b : KeepP P H1 H2) : KeepP P H H2 := fun c o n h => b c o n (a c o n h)
theorem KeepP.same (a : KeepP Non H H') : Same H H' := fun b o h => a b o (fun z => z) h
theorem same_keepP (a : Same H H') : KeepP P H H' := fun b o _ h => a b o h
theorem same_new (h : H q = none) : Same H (upd H q o) := fun b u e => by
  rw [upd_ne (ne_of_none e h)]
  exact e
theorem KeepB.upd (k : KeepB p H H') : KeepB p H (upd H' p o) := fun b u n e => by
  rw [upd_ne n]
  exact k b u n e
theorem KeepP.new (k : KeepP P H H') (h : H' q = none) : KeepP P H (L2.upd H' q o) := k.trans (same_keepP (same_new h))
theorem KeepB.same (k : KeepB p H H') (h : H p = none) : Same H H' := fun b o e => k b o (ne_of_none e h) e
theorem Same.keep (a : Same H H') : Keep H H' := fun b o _ h => a b o h
theorem Same.keepV (a : Same H H') : KeepV v H H' := fun b o _ h => a b o h
theorem KeepP.keep (k : KeepP P H H') (h : ∀ b o, P b → H b = some o → isData o = false) : Keep H H' := fun b o d e => k b o (fun z => by rw [h b o z e] at d; cases d) e
theorem KeepP.keepV (k : KeepP P H H') (h : ∀ b o, P b → H b = some o → isData o = false) (hv : ∀ b, v = .ref b → ¬ P b) : KeepV v H H' := fun b o d e => k b o (fun z => by
  rcases d with d | d
  · rw [h b o z e] at d; cases d
  · exact hv b d z) e
theorem KeepV.keep (k : KeepV v H H') : Keep H H' := fun b o d e => k b o (.inl d) e
/-- a fresh place was free before -/
theorem KeepP.free (k : KeepP P H H') (hp : ∀ b, P b → H' b ≠ none) (h : H' q = none) : H q = none := by
  cases e : H q with
  | none => rfl
  | some o =>
    have z := k q o (fun z => hp q z h) e
    rw [h] at z; cases z
end
/-- v, if it is an object, is new -/
def Fresh (H : Hp) (v : V) : Prop := ∀ q, v = .ref q → H q = none
theorem fresh_int {H : Hp} {i : Int} : Fresh H (.int i) := fun _ z => nomatch z
theorem fresh_str {H : Hp} {i : Str} : Fresh H (.str i) := fun _ z => nomatch z
theorem fresh_bl {H : Hp} {i : Bool} : Fresh H (.bl i) := fun _ z => nomatch z
theorem fresh_ref {H : Hp} {q : Addr} (h : H q = none) : Fresh H (.ref q) := fun _ z => by cases z; exact h
/-! ### how data lie -/
abbrev Lies (α : Type) : Type := Hp → V → α → Prop
def Stable {α : Type} (R : Lies α) : Prop := ∀ (H H' : Hp) (v : V) (x : α), Keep H H' → R H v x → R H' v x
def StableV {α : Type} (R : Lies α) : Prop := ∀ (H H' : Hp) (v : V) (x : α), KeepV v H H' → R H v x → R H' v x
theorem Stable.ap {α : Type} {R : Lies α} (s : Stable R) {H H' : Hp} {v : V} {x : α} (k : Keep H H') (h : R H v x) : R H' v x := s H H' v x k h
theorem StableV.ap {α : Type} {R : Lies α} (s : StableV R) {H H' : Hp} {v : V} {x : α} (k : KeepV v H H') (h : R H v x) : R H' v x := s H H' v x k h
theorem Stable.v {α : Type} {R : Lies α} (s : Stable R) : StableV R := fun _ _ _ _ k h => s.ap k.keep h
def TupAt {α : Type} (R : Lies α) : Lies (List α) := fun H v xs => ∃ p vs, v = .ref p ∧ H p = some (.tup vs) ∧ Paired (R H) vs xs
def LstAt {α : Type} (R : Lies α) : Lies (List α) := fun H v xs => ∃ p vs, v = .ref p ∧ H p = some (.lst vs) ∧ Paired (R H) vs xs
def TI' : Lies (List Int) := fun H v ns => ∃ p, v = .ref p ∧ H p = some (.tup (ns.map V.int))
def LI' : Lies (List Int) := fun H v ns => ∃ p, v = .ref p ∧ H p = some (.lst (ns.map V.int))
def IntAt : Lies Int := fun _ v i => v = .int i
def NatAt : Lies Nat := fun _ v i => v = .int i
def StrAt : Lies Str := fun _ v z => v = .str z
def WvAt : Lies Wv := fun _ v x => v = x.v
def FieldAt : Lies (Str × Wv) := fun H v q => ∃ p, v = .ref p ∧ H p = some (.tup [.str q.1, q.2.v])
def WordAt : Lies (Str × Int) := fun H v q => ∃ p, v = .ref p ∧ H p = some (.tup [.str q.1, .int q.2])
/-- an object that is no reader -/
def Ins (C : Addr) (H : Hp) (v : V) (fs : List (Str × V)) : Prop := ∃ p dx, v = .ref p ∧ H p = some (.ins C dx fs) ∧ okF fs = true
/-- where the classes stand -/
structure Cs where
  record : Addr
  part : Addr
  parts : Addr
  cell : Addr
  box : Addr
  norms : Addr
  differ : Addr
  range : Addr
  values : Addr
  counts : Addr
  names : Addr
  region : Addr
  entry : Addr
  offer : Addr
def RcAt (c : Cs) : Lies Rc := fun H v r => ∃ fs nv fv wv, Ins c.record H v fs ∧ fs.lookup ("name" : Str) = some (.str r.name) ∧ fs.lookup ("vector" : Str) = some nv ∧ fs.lookup ("fields" : Str) = some fv ∧ fs.lookup ("words" : Str) = some wv ∧
  TI' H nv r.vec ∧ TupAt FieldAt H fv r.fields ∧ TupAt WordAt H wv r.words
def PtAt (c : Cs) : Lies Pt := fun H v p => ∃ fs w, Ins c.part H v fs ∧ fs.lookup ("start" : Str) = some (.int p.start) ∧ fs.lookup ("centre" : Str) = some w ∧ fs.lookup ("radius" : Str) = some (.int p.radius) ∧ TI' H w p.centre
def FcAt (c : Cs) : Lies Fc := fun H v f => match f with
  | .parts ps => ∃ fs w, Ins c.parts H v fs ∧ fs.lookup ("parts" : Str) = some w ∧ TupAt (PtAt c) H w ps
  | .cell a b => ∃ fs w u, Ins c.cell H v fs ∧ fs.lookup ("near" : Str) = some w ∧ fs.lookup ("rival" : Str) = some u ∧ TI' H w a ∧ TI' H u b
  | .box a b => ∃ fs w u, Ins c.box H v fs ∧ fs.lookup ("low" : Str) = some w ∧ fs.lookup ("high" : Str) = some u ∧ TI' H w a ∧ TI' H u b
  | .norms a b => ∃ fs, Ins c.norms H v fs ∧ fs.lookup ("low" : Str) = some (.int a) ∧ fs.lookup ("high" : Str) = some (.int b)
  | .differ a m => ∃ fs w, Ins c.differ H v fs ∧ fs.lookup ("centre" : Str) = some w ∧ fs.lookup ("most" : Str) = some (.int m) ∧ TI' H w a
  | .range f l h k => ∃ fs, Ins c.range H v fs ∧ fs.lookup ("field" : Str) = some (.str f) ∧ fs.lookup ("lack" : Str) = some (.str (lackS k)) ∧ fs.lookup ("low" : Str) = some (.int l) ∧ fs.lookup ("high" : Str) = some (.int h) ∧ k < 3
  | .values f cs k => ∃ fs w, Ins c.values H v fs ∧ fs.lookup ("field" : Str) = some (.str f) ∧ fs.lookup ("lack" : Str) = some (.str (lackS k)) ∧ fs.lookup ("choices" : Str) = some w ∧ TupAt WvAt H w cs ∧ k < 3
  | .counts ws => ∃ fs w, Ins c.counts H v fs ∧ fs.lookup ("words" : Str) = some w ∧ TupAt WordAt H w ws
  | .names l h => ∃ fs, Ins c.names H v fs ∧ fs.lookup ("low" : Str) = some (.str l) ∧ fs.lookup ("high" : Str) = some (.str h)
def OptAt : Lies (Option Int) := fun _ v o => v = match o with
  | none => .non
  | some i => .int i
def RgAt (c : Cs) : Lies Rg := fun H v r => ∃ fs pv w, Ins c.region H v fs ∧ fs.lookup ("parent" : Str) = some pv ∧ fs.lookup ("facts" : Str) = some w ∧ OptAt H pv r.parent ∧ TupAt (FcAt c) H w r.facts
def EnAt (c : Cs) : Lies En := fun H v e => ∃ fs rv w, Ins c.entry H v fs ∧ fs.lookup ("number" : Str) = some (.int e.number) ∧ fs.lookup ("record" : Str) = some rv ∧ fs.lookup ("leaves" : Str) = some w ∧ RcAt c H rv e.record ∧ TI' H w e.leaves
def FoAt (c : Cs) : Lies Fo := fun H v o => ∃ fs w u, Ins c.offer H v fs ∧ fs.lookup ("partitions" : Str) = some w ∧ fs.lookup ("entries" : Str) = some u ∧ TupAt (TupAt (RgAt c)) H w o.parts ∧ TupAt (EnAt c) H u o.entries
/-! ### they stand -/
section
variable {α : Type} {R : Lies α} {H H' : Hp} {v : V} {c : Cs} {C : Addr} {fs : List (Str × V)}
theorem Ins.keep (k : Keep H H') (h : Ins C H v fs) : Ins C H' v fs := by
  obtain ⟨p, dx, e, hp, n⟩ := h
  exact ⟨p, dx, e, k p _ n hp, n⟩
theorem st_tup (s : Stable R) : Stable (TupAt R) := fun _ _ _ _ k ⟨p, vs, e, h, r⟩ => ⟨p, vs, e, k p _ rfl h, r.mono fun _ _ z => s.ap k z⟩
theorem sv_lst (s : Stable R) : StableV (LstAt R) := fun _ _ _ _ k ⟨p, vs, e, h, r⟩ => ⟨p, vs, e, k p _ (.inr e) h, r.mono fun _ _ z => s.ap k.keep z⟩
theorem st_TI : Stable TI' := fun _ _ _ _ k ⟨p, e, h⟩ => ⟨p, e, k p _ rfl h⟩
theorem sv_LI : StableV LI' := fun _ _ _ _ k ⟨p, e, h⟩ => ⟨p, e, k p _ (.inr e) h⟩
theorem st_int : Stable IntAt := fun _ _ _ _ _ h => h
theorem st_nat : Stable NatAt := fun _ _ _ _ _ h => h
theorem st_str : Stable StrAt := fun _ _ _ _ _ h => h
theorem st_wv : Stable WvAt := fun _ _ _ _ _ h => h
theorem st_opt : Stable OptAt := fun _ _ _ _ _ h => h
theorem st_field : Stable FieldAt := fun _ _ _ _ k ⟨p, e, h⟩ => ⟨p, e, k p _ rfl h⟩
theorem st_word : Stable WordAt := fun _ _ _ _ k ⟨p, e, h⟩ => ⟨p, e, k p _ rfl h⟩
theorem st_rc : Stable (RcAt c) := fun _ _ _ _ k ⟨fs, nv, fv, wv, i, l1, l2, l3, l4, h1, h2, h3⟩ => ⟨fs, nv, fv, wv, i.keep k, l1, l2, l3, l4, st_TI.ap k h1, (st_tup st_field).ap k h2, (st_tup st_word).ap k h3⟩
theorem st_pt : Stable (PtAt c) := fun _ _ _ _ k ⟨fs, w, i, l1, l2, l3, h1⟩ => ⟨fs, w, i.keep k, l1, l2, l3, st_TI.ap k h1⟩
theorem st_fc : Stable (FcAt c) := fun H H' v x k h => by
  cases x with
  | parts ps => obtain ⟨fs, w, i, l, h⟩ := h; exact ⟨fs, w, i.keep k, l, (st_tup st_pt).ap k h⟩
  | cell a b => obtain ⟨fs, w, u, i, l, l2, h, h2⟩ := h; exact ⟨fs, w, u, i.keep k, l, l2, st_TI.ap k h, st_TI.ap k h2⟩
  | box a b => obtain ⟨fs, w, u, i, l, l2, h, h2⟩ := h; exact ⟨fs, w, u, i.keep k, l, l2, st_TI.ap k h, st_TI.ap k h2⟩
  | norms a b => obtain ⟨fs, i, l, l2⟩ := h; exact ⟨fs, i.keep k, l, l2⟩
  | differ a m => obtain ⟨fs, w, i, l, l2, h⟩ := h; exact ⟨fs, w, i.keep k, l, l2, st_TI.ap k h⟩
  | range f l h j => obtain ⟨fs, i, r⟩ := h; exact ⟨fs, i.keep k, r⟩
  | values f cs j => obtain ⟨fs, w, i, l1, l2, l3, h, r⟩ := h; exact ⟨fs, w, i.keep k, l1, l2, l3, (st_tup st_wv).ap k h, r⟩
  | counts ws => obtain ⟨fs, w, i, l, h⟩ := h; exact ⟨fs, w, i.keep k, l, (st_tup st_word).ap k h⟩
  | names l h => obtain ⟨fs, i, r⟩ := h; exact ⟨fs, i.keep k, r⟩
theorem st_rg : Stable (RgAt c) := fun _ _ _ _ k ⟨fs, pv, w, i, l1, l2, h1, h2⟩ => ⟨fs, pv, w, i.keep k, l1, l2, h1, (st_tup st_fc).ap k h2⟩
theorem st_en : Stable (EnAt c) := fun _ _ _ _ k ⟨fs, rv, w, i, l1, l2, l3, h1, h2⟩ => ⟨fs, rv, w, i.keep k, l1, l2, l3, st_rc.ap k h1, st_TI.ap k h2⟩
theorem st_fo : Stable (FoAt c) := fun _ _ _ _ k ⟨fs, w, u, i, l1, l2, h1, h2⟩ => ⟨fs, w, u, i.keep k, l1, l2, (st_tup (st_tup st_rg)).ap k h1, (st_tup st_en).ap k h2⟩
end
/-! ### attributes one after another -/
theorem lk_same {f : Str} {v : V} {fs : List (Str × V)} : (putF f v fs).lookup f = some v := by rw [lookup_putF, if_pos rfl]
theorem lk_ne {f g : Str} {v : V} {fs : List (Str × V)} (h : ¬ g = f) : (putF f v fs).lookup g = fs.lookup g := by rw [lookup_putF, if_neg h]
theorem len_put {f : Str} {v : V} {fs : List (Str × V)} {n : Nat} (h : fs.length < n) : (putF f v fs).length < n + 1 := Nat.lt_of_le_of_lt (length_putF f v fs) (Nat.succ_lt_succ h)
theorem okF_put {f : Str} {v : V} {fs : List (Str × V)} (h : (fs.lookup ("at" : Str)).isNone = true) (n : ¬ ("at" : Str) = f) : okF (putF f v fs) = true := by
  have e : (putF f v fs).isEmpty = false := by
    cases fs with
    | nil => rfl
    | cons a r =>
      unfold putF
      split <;> rfl
  unfold okF
  rw [e, lk_ne n, h]
  rfl
theorem none_put {f : Str} {v : V} {fs : List (Str × V)} (h : (fs.lookup ("at" : Str)).isNone = true) (n : ¬ ("at" : Str) = f) : ((putF f v fs).lookup ("at" : Str)).isNone = true := by rw [lk_ne n, h]
theorem len_lt {fs : List (Str × V)} {n : Nat} (h : fs.length < n) (hn : n ≤ 1000) : fs.length < 1000 := Nat.lt_of_lt_of_le h hn
/-! ### comprehensions -/
/-- what is walked: the values vs, while ok holds -/
structure Src (J : It) (vs : List V) (ok : Hp → Prop) : Prop where
  go : ∀ i H, i < vs.length → ok H → J.go i H
  stop : ∀ H, ok H → J.stop vs.length H
  yld : ∀ i H x H', i < vs.length → ok H → J.yld i H x H' → H' = H ∧ vs[i]? = some x
theorem src_list {K : PySem.W.Frag} {a : Addr} {xs : List V} : Src (Itl K a) xs (fun H => SqL K H a xs) where
  go := fun i H hi h => ⟨xs, xs[i], h, List.getElem?_eq_getElem hi⟩
  stop := fun H h => ⟨xs, h, Nat.le_refl _⟩
  yld := fun i H x H' _ h y => ⟨y.1, y.2 xs h⟩
theorem src_tup {K : PySem.W.Frag} {a : Addr} {xs : List V} : Src (Itt K a) xs (fun H => SqT K H a xs) where
  go := fun i H hi h => ⟨xs, xs[i], h, List.getElem?_eq_getElem hi⟩
  stop := fun H h => ⟨xs, h, Nat.le_refl _⟩
  yld := fun i H x H' _ h y => ⟨y.1, y.2 xs h⟩
def rngV (n : Nat) : List V := (List.range n).map fun (i : Nat) => V.int ((0 : Int) + (i : Int))
theorem rngV_length (n : Nat) : (rngV n).length = n := by unfold rngV; rw [List.length_map, List.length_range]
theorem src_rng {n : Nat} : Src (Itr 0 n) (rngV n) (fun _ => True) where
  go := fun i H hi _ => by rw [rngV_length] at hi; exact hi
  stop := fun H _ => by rw [rngV_length]; exact Nat.le_refl n
  yld := fun i H x H' hi _ y => ⟨y.1, by
    obtain ⟨_, rfl⟩ := y
    rw [rngV_length] at hi
    unfold rngV
    rw [List.getElem?_map, List.getElem?_range hi]
    rfl⟩
def signV (z : Str) : List V := z.cps.toList.map fun c => V.str ⟨#[c]⟩
theorem signV_length (z : Str) : (signV z).length = z.cps.size := by unfold signV; rw [List.length_map, Array.length_toList]
theorem src_str {z : Str} : Src (Its z) (signV z) (fun _ => True) where
  go := fun i H hi _ => by rw [signV_length] at hi; exact hi
  stop := fun H _ => by rw [signV_length]; exact Nat.le_refl z.cps.size
  yld := fun i H x H' _ _ y => ⟨y.1, by
    obtain ⟨_, c, hc, rfl⟩ := y
    unfold signV
    rw [List.getElem?_map, Array.getElem?_toList, hc]
    rfl⟩
/-- a list comprehension (one clause, no test): S what is walked, P what is hidden, St the state, R how the items lie, Acc what is known of the items so far -/
theorem lc_all {α κ : Type} {J : It} {vs : List V} {ok : Hp → Prop} (S : Src J vs ok) {g : TG} {te : TE} {ws : List Nat} {σ : L2.St} {H1 : Hp} {D : Addr} {Qd : Hp → Prop} (P : Addr → Prop) (St : κ → Hp → Prop) (R : Lies α) (Acc : List α → κ → Prop) (k0 : κ)
    (hD : H1 D = none) (okS : ∀ k H, KeepP P H1 H → St k H → ok H) (hP : ∀ k H b, P b → St k H → ∃ o, H b = some o ∧ isData o = false) (hPD : ¬ P D)
    (stU : ∀ k H o, St k H → St k (upd H D o)) (sR : StableV R) (hn : vs.length < sizeLine) (h0 : St k0 H1) (a0 : Acc [] k0)
    (step : ∀ xs v k H (Q' : VK), vs[xs.length]? = some v → KeepP P H1 H → St k H → Acc xs k → (∀ H' u x k', KeepP P H H' → St k' H' → Acc (xs ++ [x]) k' → Fresh H u → R H' u x → Q' u H') →
      g v (wipe σ ws) H fun σ2 H2 => wipe σ2 ws = wipe σ ws ∧ te σ2 H2 Q')
    (done : ∀ H' acc xs k, KeepP P H1 H' → St k H' → H' D = some (.lst acc) → Paired (R H') acc xs → xs.length = vs.length → Acc xs k → Qd H') :
    ∃ W : Nat → Nat → Hp → Prop, (∃ m, W 0 m (upd H1 D (.lst []))) ∧ ∀ i m H, W i m H →
      (J.stop i H ∧ Qd H) ∨ (J.go i H ∧ ∃ Nx : Hp → Prop, (∀ H', Nx H' → ∃ m', m' < m ∧ W (i + 1) m' H') ∧ ∀ x H', J.yld i H x H' → g x (wipe σ ws) H' fun σ2 H2 => wipe σ2 ws = wipe σ ws ∧ tYes σ2 H2 fun b H3 =>
        if b = true then te σ2 H3 fun y H4 => ∃ acc, H4 D = some (.lst acc) ∧ acc.length < sizeLine ∧ Nx (upd H4 D (.lst (acc ++ [y]))) else Nx H3) := by
  obtain ⟨Pv, ePv⟩ : ∃ Pv : Nat → Hp → Prop, Pv = fun i H => KeepP P H1 H ∧ ∃ acc xs k, H D = some (.lst acc) ∧ Paired (fun v x => R H v x ∧ v ≠ .ref D ∧ ∀ b, v = .ref b → ¬ P b) acc xs ∧ xs.length = i ∧ St k H ∧ Acc xs k := ⟨_, rfl⟩
  refine ⟨fun i m H => m + i = vs.length ∧ Pv i H, ⟨vs.length, by omega, ?_⟩, ?_⟩
  · rw [ePv]
    exact ⟨fun b o _ e => by rw [upd_ne (ne_of_none e hD)]; exact e, [], [], k0, upd_same, .nil, rfl, stU _ _ _ h0, a0⟩
  rintro i m H ⟨hm, hp⟩
  have hp' := hp
  rw [ePv] at hp
  obtain ⟨kp, acc, xs, k, hDl, pr, hl, st, ac⟩ := hp
  have hok := okS k H kp st
  by_cases hi : i = vs.length
  · subst hi
    exact .inl ⟨S.stop H hok, done H acc xs k kp st hDl (pr.mono fun _ _ z => z.1) hl ac⟩
  · have hlt : i < vs.length := by omega
    refine .inr ⟨S.go i H hlt hok, Pv (i + 1), fun H' h => ⟨m - 1, by omega, by omega, h⟩, fun x H' y => ?_⟩
    obtain ⟨rfl, hx⟩ := S.yld i H x H' hlt hok y
    refine step xs x k H' _ (by rw [hl]; exact hx) kp st ac fun H4 u z k' k4 st4 ac4 fr r4 => ?_
    have hD4 : H4 D = some (.lst acc) := k4 D _ hPD hDl
    have al : acc.length = i := by rw [pr.length, hl]
    refine ⟨acc, hD4, by omega, ?_⟩
    have kd : ∀ b o, P b → H' b = some o → isData o = false := fun b o hb e => by
      obtain ⟨o', e', d⟩ := hP k H' b hb st
      rw [e] at e'; cases e'; exact d
    have ku : ∀ v : V, v ≠ .ref D → KeepV v H4 (upd H4 D (.lst (acc ++ [u]))) := fun v hv b o d e => by
      have hb : b ≠ D := fun q => by
        subst q
        rcases d with d | d
        · rw [hD4] at e; cases e; cases d
        · exact hv d
      rw [upd_ne hb]
      exact e
    have uD : u ≠ .ref D := fun q => by
      have z := fr D q
      rw [hDl] at z; cases z
    have uP : ∀ b, u = .ref b → ¬ P b := fun b q hb => by
      obtain ⟨o, e, _⟩ := hP k H' b hb st
      have z := fr b q
      rw [e] at z; cases z
    rw [ePv]
    refine ⟨fun b o nb e => ?_, acc ++ [u], xs ++ [z], k', upd_same, Paired.snoc (pr.mono fun v w hw => ⟨sR.ap (ku v hw.2.1) (sR.ap (k4.keepV kd hw.2.2) hw.1), hw.2⟩) ⟨sR.ap (ku u uD) r4, uD, uP⟩, ?_, stU _ _ _ st4, ac4⟩
    · rw [upd_ne (ne_of_none e hD)]
      exact k4 b o nb (kp b o nb e)
    · rw [List.length_append, hl]
      rfl
end Snk
set_option maxHeartbeats 4000000
namespace Snk
open PySem PySem.Spec PyProof.Rows L2
def csOf (K : PySem.W.Frag) : Cs := ⟨He.ga K "Record", He.ga K "Part", He.ga K "Parts", He.ga K "Cell", He.ga K "Box", He.ga K "Norms", He.ga K "Differ", He.ga K "Range", He.ga K "Values", He.ga K "Counts", He.ga K "Names", He.ga K "Region", He.ga K "Entry", He.ga K "Offer"⟩
/-- the promise of an __init__: the object at x is filled, all else stands -/
def spI {β : Type} (C : Addr) (args : Hp → List V → β → Prop) (out : Lies β) : Sp := fun vs H Q _ => ∃ x dx as b, vs = .ref x :: as ∧ H x = some (.ins C dx []) ∧ args H as b ∧ ∀ H', KeepB x H H' → out H' (.ref x) b → Q .non H'
theorem spI_make {β : Type} {C x dx : Addr} {args : Hp → List V → β → Prop} {out : Lies β} {H : Hp} {Qd : Hp → Prop} {E : XK} {as as' : List V} {b : β} (hx : H x = none) (hdx : H dx = none) (ne : dx ≠ x) (e : as' = as) (sA : ∀ H', Same H H' → args H' as b)
    (k : ∀ H', Same H H' → out H' (.ref x) b → Qd H') : spI C args out (.ref x :: as') (upd (upd H dx (.own x)) x (.ins C dx [])) (fun v H2 => v = .non ∧ Qd H2) E := by
  subst e
  have s1 : Same H (upd (upd H dx (.own x)) x (.ins C dx [])) := fun b o e => by
    rw [upd_ne (ne_of_none e hx), upd_ne (ne_of_none e hdx)]
    exact e
  exact ⟨x, dx, as', b, rfl, upd_same, sA _ s1, fun H' k' o => ⟨rfl, k H' (fun b o e => k' b o (ne_of_none e hx) (s1 b o e)) o⟩⟩
theorem at_new {H : Hp} {q b : Addr} {o u : HO} (h : H b = some o) (hq : H q = none) : upd H q u b = some o := by
  rw [upd_ne (ne_of_none h hq)]
  exact h
theorem at_put {H : Hp} {q b : Addr} {o u v : HO} (h : H b = some o) (hq : H q = some v) (d : o ≠ v) : upd H q u b = some o := by
  rw [upd_ne (ne_of h hq d)]
  exact h
theorem put1 {a : Str} {u : V} (h1 : ¬ ("at" : Str) = a) : (putF a u []).lookup a = some u ∧ okF (putF a u []) = true := ⟨lk_same, okF_put rfl h1⟩
theorem put2 {a b : Str} {u v : V} (h : ¬ a = b) (h1 : ¬ ("at" : Str) = a) (h2 : ¬ ("at" : Str) = b) : (putF b v (putF a u [])).lookup a = some u ∧ (putF b v (putF a u [])).lookup b = some v ∧ okF (putF b v (putF a u [])) = true :=
  ⟨by rw [lk_ne h]; exact lk_same, lk_same, okF_put (none_put rfl h1) h2⟩
theorem put3 {a b c : Str} {u v w : V} (h : ¬ a = b) (h1 : ¬ ("at" : Str) = a) (h2 : ¬ ("at" : Str) = b) (i : ¬ a = c) (i2 : ¬ b = c) (h3 : ¬ ("at" : Str) = c) :
    (putF c w (putF b v (putF a u []))).lookup a = some u ∧ (putF c w (putF b v (putF a u []))).lookup b = some v ∧ (putF c w (putF b v (putF a u []))).lookup c = some w ∧ okF (putF c w (putF b v (putF a u []))) = true := by
  obtain ⟨q1, q2, q3⟩ := put2 (u := u) (v := v) h h1 h2
  exact ⟨by rw [lk_ne i]; exact q1, by rw [lk_ne i2]; exact q2, lk_same, okF_put (none_put (none_put rfl h1) h2) h3⟩
theorem put4 {a b c d : Str} {u v w z : V} (h : ¬ a = b) (h1 : ¬ ("at" : Str) = a) (h2 : ¬ ("at" : Str) = b) (i : ¬ a = c) (i2 : ¬ b = c) (h3 : ¬ ("at" : Str) = c) (j : ¬ a = d) (j2 : ¬ b = d) (j3 : ¬ c = d) (h4 : ¬ ("at" : Str) = d) :
    (putF d z (putF c w (putF b v (putF a u [])))).lookup a = some u ∧ (putF d z (putF c w (putF b v (putF a u [])))).lookup b = some v ∧ (putF d z (putF c w (putF b v (putF a u [])))).lookup c = some w ∧ (putF d z (putF c w (putF b v (putF a u [])))).lookup d = some z ∧
      okF (putF d z (putF c w (putF b v (putF a u [])))) = true := by
  obtain ⟨q1, q2, q3, q4⟩ := put3 (u := u) (v := v) (w := w) h h1 h2 i i2 h3
  exact ⟨by rw [lk_ne j]; exact q1, by rw [lk_ne j2]; exact q2, by rw [lk_ne j3]; exact q3, lk_same, okF_put (none_put (none_put (none_put rfl h1) h2) h3) h4⟩
/-- the object being filled is no datum yet -/
theorem KeepP.fill {C x dx : Addr} {H H' : Hp} (k : KeepB x H H') (hx : H x = some (.ins C dx [])) : Keep H H' := k.keep fun b o hb e => by
  rw [hb, hx] at e
  cases e
  rfl
section
variable {P : Program} {w : World} {K : PySem.W.Frag} {mg : Str → Option Value} {base : Heap} {f : Addr} {fd : FuncData}
abbrev N_Cell : List Str := ["self", "near", "rival"]
theorem sc_Cell : FnScope N_Cell N_Cell (defScope s_Cell_init) := ⟨rfl, rfl, rfl, by decide +kernel, rfl, by decide +kernel, by decide +kernel⟩
def aTwo : Hp → List V → List Int × List Int → Prop := fun H as b => ∃ u w, as = [u, w] ∧ LI' H u b.1 ∧ LI' H w b.2
theorem ok_Cell (F : FnP K "__init__" "Cell.__init__" s_Cell_init f fd) (T : Txt K mg) : FnOk P w K mg base CX0 1 f fd N_Cell (spI (He.ga K "Cell") aTwo fun H v b => FcAt (csOf K) H v (.cell b.1 b.2)) := by
  refine F.ok sc_Cell (fun vs H Q E h => ?_) (fun cdv A outer s H vs Q E hr h => ?_)
  · obtain ⟨x, dx, as, b, rfl, _, ⟨u, z, rfl, _⟩, _⟩ := h
    rfl
  · obtain ⟨x, dx, as, b, rfl, hx, ⟨u, z, rfl, ⟨p, rfl, hp⟩, ⟨q, rfl, hq⟩⟩, k⟩ := h
    refine ⟨_, PSs.nox (pss_cons (ps_fld (pv 0) (pe_callTy call_tuple_of (by rfl) T.n_tuple (by decide +kernel) (pa_cons (pv 1) pa_nil)) rfl)
      (pss_one (ps_fld (pv 0) (pe_callTy call_tuple_of (by rfl) T.n_tuple (by decide +kernel) (pa_cons (pv 2) pa_nil)) rfl))), ?_⟩
    refine ⟨_, rfl, p, _, rfl, .inl ⟨SqL.of hp, fun t1 h1 => ?_⟩⟩
    have hx1 := at_new (u := .tup (b.1.map V.int)) hx h1
    refine ⟨_, rfl, x, _, dx, _, rfl, hx1, T.cl_Cell, T.na_Cell_near, (by show 0 < 1000; decide), ?_⟩
    have hq2 := at_put (u := .ins (He.ga K "Cell") dx (putF "near" (.ref t1) [])) (at_new (u := .tup (b.1.map V.int)) hq h1) hx1 (fun z => nomatch z)
    refine ⟨_, rfl, q, _, rfl, .inl ⟨SqL.of hq2, fun t2 h2 => ?_⟩⟩
    refine ⟨_, rfl, x, _, dx, _, rfl, at_new upd_same h2, T.cl_Cell, T.na_Cell_rival, (by exact len_lt (len_put (n := 1) (by decide)) (by decide)), ?_⟩
    obtain ⟨l1, l2, l0⟩ := put2 (a := "near") (b := "rival") (u := .ref t1) (v := .ref t2) (by decide +kernel) (by decide +kernel) (by decide +kernel)
    have n1 : t1 ≠ x := (ne_of_none hx h1).symm
    have n2 : t2 ≠ x := fun z => by rw [z, upd_same] at h2; cases h2
    have n3 : t1 ≠ t2 := fun z => by rw [← z, upd_ne n1, upd_same] at h2; cases h2
    exact k _ (KeepB.upd ((KeepB.upd (KeepP.refl.new h1)).new h2)) ⟨_, .ref t1, .ref t2, ⟨x, dx, rfl, upd_same, l0⟩, l1, l2, ⟨t1, rfl, by rw [upd_ne n1, upd_ne n3, upd_ne n1, upd_same]⟩, ⟨t2, rfl, by rw [upd_ne n2, upd_same]⟩⟩
end
end Snk
set_option maxHeartbeats 4000000
namespace Snk
open PySem PySem.Spec PyProof.Rows L2
/-! ### C.m(o, ..), C a class of the text, m a plain def of it -/
section
variable {X : Cx} {CX : CXT} {k : Nat} {f C : Addr} {fd : FuncData} {ps : List Str} {sp : Sp} {dvs : List V} {ds : List Value} {E : XK} {m : Str} {pos apos : Pos} {e o : Expr} {es : List Expr} {ta : TE} {t : TA} {mc : Value}
def tClsm (C : Addr) (sp : Sp) (dvs : List V) (E : XK) (ta : TE) (t : TA) : TE := fun σ H Q => ta σ H fun x H1 => x = .ref C ∧ t σ H1 fun vs H2 => sp (vs ++ dvs) H2 Q E
theorem pe_clsm {pl : Sem Bool} (he : PE X o ta) (r : ClX.CRead X.K C mc) (kf : PySem.W.findCls X.K (.ref C) mc m = some (.val (.ref f))) (hk : PySem.W.keepIn X.K (.ref f) = true) (F : FnOk X.prog X.w X.K X.mg X.base CX k f fd ps sp) (hr : Room k X.A) (hb : Binds X.K fd ps ds) (hd : Vals dvs ds) (hx : Passes CX X E) (ha : PA X (e :: es) t)
    (hst : starEach (e :: es) X.env = (false, eval e X.env) :: starEach es X.env := by rfl) (hpl : (backTo pos (starEach es X.env)).any (·.1) = false := by rfl)
    (ht : eval (.Call (.Attribute o m apos) (e :: es) [] pos) X.env = (do
      let ov ← eval o X.env
      standAt apos.atName
      let (f, first) ← holding [ov] (getMethod ov m pl)
      callWith pos f first (backTo pos (starEach (e :: es) X.env)) (backToKw pos (keywordEach [] X.env))) := by rfl) :
    PE X (.Call (.Attribute o m apos) (e :: es) [] pos) (tClsm C sp dvs E ta t) := by
  refine ⟨fun pins s σ H Q I h => ?_⟩
  refine PySem.W.methodCall_KW (pl := pl) (thn (he.run pins s σ H _ I h) fun u s1 ⟨x, H1, I1, rx, ex, q⟩ => ?_) ht
  subst ex
  obtain rfl : u = Value.ref C := rx
  refine PySem.W.method_cls I1.kIn r.ga (ClX.getcval_ok (v := .ref f) I1 r ⟨kf, rfl⟩ fun s2 I2 => ?_)
  refine PySem.W.callWith_K (first := []) (h₀ := X.base) I2.ok.mod.kin hk (thn (ha.run pos pins s2 σ H1 _ I2 q) fun us s3 ⟨vs, H2, I3, rv, q2⟩ => ⟨I3.kIn, ?_⟩) hst hpl
  exact run_fn (us := us) (vs := vs) F hr hb hd hx I3 rv q2
end
theorem _root_.PySem.Paired.at_ {α β : Type} {F : α → β → Prop} : ∀ {l₁ : List α} {l₂ : List β} {i : Nat} {a : α}, Paired F l₁ l₂ → l₁[i]? = some a → ∃ b, l₂[i]? = some b ∧ F a b
  | _, _, 0, a, .cons h _, e => by
    simp only [List.getElem?_cons_zero, Option.some.injEq] at e
    subst e
    exact ⟨_, rfl, h⟩
  | _, _, i + 1, a, .cons _ r, e => by
    simp only [List.getElem?_cons_succ] at e ⊢
    exact r.at_ e
theorem Same.sqt {K : PySem.W.Frag} {H H' : Hp} {a : Addr} {xs : List V} (e : Same H H') (h : SqT K H a xs) : SqT K H' a xs := by
  rcases h with (h | ⟨o, h⟩) | h
  · exact .inl (.inl (e _ _ h))
  · exact .inl (.inr ⟨o, e _ _ h⟩)
  · exact .inr h
/-- a comprehension that changes nothing: the items are f of what is walked -/
theorem lc_pure {α β : Type} {J : It} {vs : List V} {ok : Hp → Prop} (S : Src J vs ok) {g : TG} {te : TE} {ws : List Nat} {σ : L2.St} {H1 : Hp} {D : Addr} {Qd : Hp → Prop} (Rs : Lies α) (R : Lies β) (f : α → β) {ys : List α}
    (hD : H1 D = none) (okS : ∀ H, Same H1 H → ok H) (pr : Paired (Rs H1) vs ys) (sR : StableV R) (hn : vs.length < sizeLine)
    (step : ∀ v y H (Q' : VK), y ∈ ys → Rs H1 v y → Same H1 H → (∀ H' u, Same H H' → Fresh H u → R H' u (f y) → Q' u H') → g v (wipe σ ws) H fun σ2 H2 => wipe σ2 ws = wipe σ ws ∧ te σ2 H2 Q')
    (done : ∀ H' acc, Same H1 H' → H' D = some (.lst acc) → Paired (R H') acc (ys.map f) → Qd H') :
    ∃ W : Nat → Nat → Hp → Prop, (∃ m, W 0 m (upd H1 D (.lst []))) ∧ ∀ i m H, W i m H →
      (J.stop i H ∧ Qd H) ∨ (J.go i H ∧ ∃ Nx : Hp → Prop, (∀ H', Nx H' → ∃ m', m' < m ∧ W (i + 1) m' H') ∧ ∀ x H', J.yld i H x H' → g x (wipe σ ws) H' fun σ2 H2 => wipe σ2 ws = wipe σ ws ∧ tYes σ2 H2 fun b H3 =>
        if b = true then te σ2 H3 fun y H4 => ∃ acc, H4 D = some (.lst acc) ∧ acc.length < sizeLine ∧ Nx (upd H4 D (.lst (acc ++ [y]))) else Nx H3) := by
  refine lc_all S Non (fun (_ : Unit) _ => True) R (fun xs _ => xs = (ys.take xs.length).map f) () hD (fun _ H k _ => okS H k.same) (fun _ _ _ z => z.elim) (fun z => z) (fun _ _ _ _ => trivial) sR hn trivial (by simp) ?_ ?_
  · intro xs v k H Q' hv kp _ ac h
    obtain ⟨y, hy, r⟩ := pr.at_ hv
    refine step v y H Q' (List.mem_of_getElem? hy) r kp.same fun H' u s fr ru => h H' u (f y) () (same_keepP s) trivial ?_ fr ru
    rw [List.length_append, List.length_singleton, List.take_add_one, hy, List.map_append, ← ac]
    rfl
  · intro H' acc xs k kp _ hD' p hl ac
    have e : xs = ys.map f := by
      rw [ac, hl, pr.length, List.take_length]
    rw [e] at p
    exact done H' acc kp.same hD' p
theorem big_line {n : Nat} (h : n ≤ Big) : n < sizeLine := Nat.lt_of_le_of_lt h (by decide)
section
variable {P : Program} {w : World} {K : PySem.W.Frag} {mg : Str → Option Value} {base : Heap} {f : Addr} {fd : FuncData}
/-! ### Box, Norms, Names, Differ -/
abbrev N_Box : List Str := ["self", "low", "high"]
theorem sc_Box : FnScope N_Box N_Box (defScope s_Box_init) := ⟨rfl, rfl, rfl, by decide +kernel, rfl, by decide +kernel, by decide +kernel⟩
theorem ok_Box (F : FnP K "__init__" "Box.__init__" s_Box_init f fd) (T : Txt K mg) : FnOk P w K mg base CX0 1 f fd N_Box (spI (He.ga K "Box") aTwo fun H v b => FcAt (csOf K) H v (.box b.1 b.2)) := by
  refine F.ok sc_Box (fun vs H Q E h => ?_) (fun cdv A outer s H vs Q E hr h => ?_)
  · obtain ⟨x, dx, as, b, rfl, _, ⟨u, z, rfl, _⟩, _⟩ := h
    rfl
  · obtain ⟨x, dx, as, b, rfl, hx, ⟨u, z, rfl, ⟨p, rfl, hp⟩, ⟨q, rfl, hq⟩⟩, k⟩ := h
    refine ⟨_, PSs.nox (pss_cons (ps_fld (pv 0) (pe_callTy call_tuple_of (by rfl) T.n_tuple (by decide +kernel) (pa_cons (pv 1) pa_nil)) rfl)
      (pss_one (ps_fld (pv 0) (pe_callTy call_tuple_of (by rfl) T.n_tuple (by decide +kernel) (pa_cons (pv 2) pa_nil)) rfl))), ?_⟩
    refine ⟨_, rfl, p, _, rfl, .inl ⟨SqL.of hp, fun t1 h1 => ?_⟩⟩
    have hx1 := at_new (u := .tup (b.1.map V.int)) hx h1
    refine ⟨_, rfl, x, _, dx, _, rfl, hx1, T.cl_Box, T.na_Box_low, (by show 0 < 1000; decide), ?_⟩
    have hq2 := at_put (u := .ins (He.ga K "Box") dx (putF "low" (.ref t1) [])) (at_new (u := .tup (b.1.map V.int)) hq h1) hx1 (fun z => nomatch z)
    refine ⟨_, rfl, q, _, rfl, .inl ⟨SqL.of hq2, fun t2 h2 => ?_⟩⟩
    refine ⟨_, rfl, x, _, dx, _, rfl, at_new upd_same h2, T.cl_Box, T.na_Box_high, (by exact len_lt (len_put (n := 1) (by decide)) (by decide)), ?_⟩
    obtain ⟨l1, l2, l0⟩ := put2 (a := "low") (b := "high") (u := .ref t1) (v := .ref t2) (by decide +kernel) (by decide +kernel) (by decide +kernel)
    have n1 : t1 ≠ x := (ne_of_none hx h1).symm
    have n2 : t2 ≠ x := fun z => by rw [z, upd_same] at h2; cases h2
    have n3 : t1 ≠ t2 := fun z => by rw [← z, upd_ne n1, upd_same] at h2; cases h2
    exact k _ (KeepB.upd ((KeepB.upd (KeepP.refl.new h1)).new h2)) ⟨_, .ref t1, .ref t2, ⟨x, dx, rfl, upd_same, l0⟩, l1, l2, ⟨t1, rfl, by rw [upd_ne n1, upd_ne n3, upd_ne n1, upd_same]⟩, ⟨t2, rfl, by rw [upd_ne n2, upd_same]⟩⟩
abbrev N_Norms : List Str := ["self", "low", "high"]
theorem sc_Norms : FnScope N_Norms N_Norms (defScope s_Norms_init) := ⟨rfl, rfl, rfl, by decide +kernel, rfl, by decide +kernel, by decide +kernel⟩
def aInts : Hp → List V → Int × Int → Prop := fun _ as b => as = [.int b.1, .int b.2]
theorem ok_Norms (F : FnP K "__init__" "Norms.__init__" s_Norms_init f fd) (T : Txt K mg) : FnOk P w K mg base CX0 1 f fd N_Norms (spI (He.ga K "Norms") aInts fun H v b => FcAt (csOf K) H v (.norms b.1 b.2)) := by
  refine F.ok sc_Norms (fun vs H Q E h => ?_) (fun cdv A outer s H vs Q E hr h => ?_)
  · obtain ⟨x, dx, as, b, rfl, _, rfl, _⟩ := h
    rfl
  · obtain ⟨x, dx, as, b, rfl, hx, rfl, k⟩ := h
    refine ⟨_, PSs.nox (pss_cons (ps_fld (pv 0) (pv 1) rfl) (pss_one (ps_fld (pv 0) (pv 2) rfl))), ?_⟩
    refine ⟨_, rfl, _, rfl, x, _, dx, _, rfl, hx, T.cl_Norms, T.na_Norms_low, (by show 0 < 1000; decide), ?_⟩
    refine ⟨_, rfl, _, rfl, x, _, dx, _, rfl, upd_same, T.cl_Norms, T.na_Norms_high, (by exact len_lt (len_put (n := 1) (by decide)) (by decide)), ?_⟩
    obtain ⟨l1, l2, l0⟩ := put2 (a := "low") (b := "high") (u := .int b.1) (v := .int b.2) (by decide +kernel) (by decide +kernel) (by decide +kernel)
    exact k _ (KeepB.upd (KeepB.upd KeepP.refl)) ⟨_, ⟨x, dx, rfl, upd_same, l0⟩, l1, l2⟩
abbrev N_Names : List Str := ["self", "low", "high"]
theorem sc_Names : FnScope N_Names N_Names (defScope s_Names_init) := ⟨rfl, rfl, rfl, by decide +kernel, rfl, by decide +kernel, by decide +kernel⟩
def aStrs : Hp → List V → Str × Str → Prop := fun _ as b => as = [.str b.1, .str b.2]
theorem ok_Names (F : FnP K "__init__" "Names.__init__" s_Names_init f fd) (T : Txt K mg) : FnOk P w K mg base CX0 1 f fd N_Names (spI (He.ga K "Names") aStrs fun H v b => FcAt (csOf K) H v (.names b.1 b.2)) := by
  refine F.ok sc_Names (fun vs H Q E h => ?_) (fun cdv A outer s H vs Q E hr h => ?_)
  · obtain ⟨x, dx, as, b, rfl, _, rfl, _⟩ := h
    rfl
  · obtain ⟨x, dx, as, b, rfl, hx, rfl, k⟩ := h
    refine ⟨_, PSs.nox (pss_cons (ps_fld (pv 0) (pv 1) rfl) (pss_one (ps_fld (pv 0) (pv 2) rfl))), ?_⟩
    refine ⟨_, rfl, _, rfl, x, _, dx, _, rfl, hx, T.cl_Names, T.na_Names_low, (by show 0 < 1000; decide), ?_⟩
    refine ⟨_, rfl, _, rfl, x, _, dx, _, rfl, upd_same, T.cl_Names, T.na_Names_high, (by exact len_lt (len_put (n := 1) (by decide)) (by decide)), ?_⟩
    obtain ⟨l1, l2, l0⟩ := put2 (a := "low") (b := "high") (u := .str b.1) (v := .str b.2) (by decide +kernel) (by decide +kernel) (by decide +kernel)
    exact k _ (KeepB.upd (KeepB.upd KeepP.refl)) ⟨_, ⟨x, dx, rfl, upd_same, l0⟩, l1, l2⟩
abbrev N_Differ : List Str := ["self", "centre", "most"]
theorem sc_Differ : FnScope N_Differ N_Differ (defScope s_Differ_init) := ⟨rfl, rfl, rfl, by decide +kernel, rfl, by decide +kernel, by decide +kernel⟩
def aDiffer : Hp → List V → List Int × Int → Prop := fun H as b => ∃ u, as = [u, .int b.2] ∧ LI' H u b.1
theorem ok_Differ (F : FnP K "__init__" "Differ.__init__" s_Differ_init f fd) (T : Txt K mg) : FnOk P w K mg base CX0 1 f fd N_Differ (spI (He.ga K "Differ") aDiffer fun H v b => FcAt (csOf K) H v (.differ b.1 b.2)) := by
  refine F.ok sc_Differ (fun vs H Q E h => ?_) (fun cdv A outer s H vs Q E hr h => ?_)
  · obtain ⟨x, dx, as, b, rfl, _, ⟨u, rfl, _⟩, _⟩ := h
    rfl
  · obtain ⟨x, dx, as, b, rfl, hx, ⟨u, rfl, p, rfl, hp⟩, k⟩ := h
    refine ⟨_, PSs.nox (pss_cons (ps_fld (pv 0) (pe_callTy call_tuple_of (by rfl) T.n_tuple (by decide +kernel) (pa_cons (pv 1) pa_nil)) rfl) (pss_one (ps_fld (pv 0) (pv 2) rfl))), ?_⟩
    refine ⟨_, rfl, p, _, rfl, .inl ⟨SqL.of hp, fun t1 h1 => ?_⟩⟩
    have hx1 := at_new (u := .tup (b.1.map V.int)) hx h1
    refine ⟨_, rfl, x, _, dx, _, rfl, hx1, T.cl_Differ, T.na_Differ_centre, (by show 0 < 1000; decide), ?_⟩
    refine ⟨_, rfl, _, rfl, x, _, dx, _, rfl, upd_same, T.cl_Differ, T.na_Differ_most, (by exact len_lt (len_put (n := 1) (by decide)) (by decide)), ?_⟩
    obtain ⟨l1, l2, l0⟩ := put2 (a := "centre") (b := "most") (u := .ref t1) (v := .int b.2) (by decide +kernel) (by decide +kernel) (by decide +kernel)
    have n1 : t1 ≠ x := (ne_of_none hx h1).symm
    exact k _ (KeepB.upd (KeepB.upd (KeepP.refl.new h1))) ⟨_, .ref t1, ⟨x, dx, rfl, upd_same, l0⟩, l1, l2, ⟨t1, rfl, by rw [upd_ne n1, upd_ne n1, upd_same]⟩⟩
/-! ### Part, Parts, Region, Entry -/
abbrev N_Part : List Str := ["self", "start", "centre", "radius"]
theorem sc_Part : FnScope N_Part N_Part (defScope s_Part_init) := ⟨rfl, rfl, rfl, by decide +kernel, rfl, by decide +kernel, by decide +kernel⟩
def aPart : Hp → List V → Pt → Prop := fun H as b => ∃ u, as = [.int b.start, u, .int b.radius] ∧ LI' H u b.centre
theorem ok_Part (F : FnP K "__init__" "Part.__init__" s_Part_init f fd) (T : Txt K mg) : FnOk P w K mg base CX0 1 f fd N_Part (spI (He.ga K "Part") aPart (PtAt (csOf K))) := by
  refine F.ok sc_Part (fun vs H Q E h => ?_) (fun cdv A outer s H vs Q E hr h => ?_)
  · obtain ⟨x, dx, as, b, rfl, _, ⟨u, rfl, _⟩, _⟩ := h
    rfl
  · obtain ⟨x, dx, as, b, rfl, hx, ⟨u, rfl, p, rfl, hp⟩, k⟩ := h
    refine ⟨_, PSs.nox (pss_cons (ps_fld (pv 0) (pv 1) rfl) (pss_cons (ps_fld (pv 0) (pe_callTy call_tuple_of (by rfl) T.n_tuple (by decide +kernel) (pa_cons (pv 2) pa_nil)) rfl) (pss_one (ps_fld (pv 0) (pv 3) rfl)))), ?_⟩
    refine ⟨_, rfl, _, rfl, x, _, dx, _, rfl, hx, T.cl_Part, T.na_Part_start, (by show 0 < 1000; decide), ?_⟩
    have hp1 := at_put (u := .ins (He.ga K "Part") dx (putF "start" (.int b.start) [])) hp hx (fun z => nomatch z)
    refine ⟨_, rfl, p, _, rfl, .inl ⟨SqL.of hp1, fun t1 h1 => ?_⟩⟩
    refine ⟨_, rfl, x, _, dx, _, rfl, at_new upd_same h1, T.cl_Part, T.na_Part_centre, (by exact len_lt (len_put (n := 1) (by decide)) (by decide)), ?_⟩
    refine ⟨_, rfl, _, rfl, x, _, dx, _, rfl, upd_same, T.cl_Part, T.na_Part_radius, (by exact len_lt (len_put (len_put (n := 1) (by decide))) (by decide)), ?_⟩
    obtain ⟨l1, l2, l3, l0⟩ := put3 (a := "start") (b := "centre") (c := "radius") (u := .int b.start) (v := .ref t1) (w := .int b.radius) (by decide +kernel) (by decide +kernel) (by decide +kernel) (by decide +kernel) (by decide +kernel) (by decide +kernel)
    have n1 : t1 ≠ x := fun z => by rw [z, upd_same] at h1; cases h1
    exact k _ (KeepB.upd (KeepB.upd ((KeepB.upd KeepP.refl).new h1))) ⟨_, .ref t1, ⟨x, dx, rfl, upd_same, l0⟩, l1, l2, l3, ⟨t1, rfl, by rw [upd_ne n1, upd_ne n1, upd_same]⟩⟩
abbrev N_Parts : List Str := ["self", "parts"]
theorem sc_Parts : FnScope N_Parts N_Parts (defScope s_Parts_init) := ⟨rfl, rfl, rfl, by decide +kernel, rfl, by decide +kernel, by decide +kernel⟩
def aOne {α : Type} (R : Lies α) : Hp → List V → α → Prop := fun H as b => ∃ u, as = [u] ∧ R H u b
theorem ok_Parts (F : FnP K "__init__" "Parts.__init__" s_Parts_init f fd) (T : Txt K mg) : FnOk P w K mg base CX0 1 f fd N_Parts (spI (He.ga K "Parts") (aOne (LstAt (PtAt (csOf K)))) fun H v b => FcAt (csOf K) H v (.parts b)) := by
  refine F.ok sc_Parts (fun vs H Q E h => ?_) (fun cdv A outer s H vs Q E hr h => ?_)
  · obtain ⟨x, dx, as, b, rfl, _, ⟨u, rfl, _⟩, _⟩ := h
    rfl
  · obtain ⟨x, dx, as, b, rfl, hx, ⟨u, rfl, p, ys, rfl, hp, pr⟩, k⟩ := h
    refine ⟨_, PSs.nox (pss_one (ps_fld (pv 0) (pe_callTy call_tuple_of (by rfl) T.n_tuple (by decide +kernel) (pa_cons (pv 1) pa_nil)) rfl)), ?_⟩
    refine ⟨_, rfl, p, _, rfl, .inl ⟨SqL.of hp, fun t1 h1 => ?_⟩⟩
    have hx1 := at_new (u := .tup ys) hx h1
    refine ⟨_, rfl, x, _, dx, _, rfl, hx1, T.cl_Parts, T.na_Parts_parts, (by show 0 < 1000; decide), ?_⟩
    obtain ⟨l1, l0⟩ := put1 (a := "parts") (u := .ref t1) (by decide +kernel)
    have n1 : t1 ≠ x := (ne_of_none hx h1).symm
    have kb : KeepB x H (upd (upd H t1 (.tup ys)) x (.ins (He.ga K "Parts") dx (putF "parts" (.ref t1) []))) := KeepB.upd (KeepP.refl.new h1)
    exact k _ kb ⟨_, .ref t1, ⟨x, dx, rfl, upd_same, l0⟩, l1, t1, ys, rfl, by rw [upd_ne n1, upd_same], pr.mono fun _ _ z => st_pt.ap (KeepP.fill kb hx) z⟩
abbrev N_Region : List Str := ["self", "parent", "facts"]
theorem sc_Region : FnScope N_Region N_Region (defScope s_Region_init) := ⟨rfl, rfl, rfl, by decide +kernel, rfl, by decide +kernel, by decide +kernel⟩
def aRegion (c : Cs) : Hp → List V → Rg → Prop := fun H as b => ∃ u w, as = [u, w] ∧ OptAt H u b.parent ∧ LstAt (FcAt c) H w b.facts
theorem ok_Region (F : FnP K "__init__" "Region.__init__" s_Region_init f fd) (T : Txt K mg) : FnOk P w K mg base CX0 1 f fd N_Region (spI (He.ga K "Region") (aRegion (csOf K)) (RgAt (csOf K))) := by
  refine F.ok sc_Region (fun vs H Q E h => ?_) (fun cdv A outer s H vs Q E hr h => ?_)
  · obtain ⟨x, dx, as, b, rfl, _, ⟨u, z, rfl, _⟩, _⟩ := h
    rfl
  · obtain ⟨x, dx, as, b, rfl, hx, ⟨u, z, rfl, ho, p, ys, rfl, hp, pr⟩, k⟩ := h
    refine ⟨_, PSs.nox (pss_cons (ps_fld (pv 0) (pv 1) rfl) (pss_one (ps_fld (pv 0) (pe_callTy call_tuple_of (by rfl) T.n_tuple (by decide +kernel) (pa_cons (pv 2) pa_nil)) rfl))), ?_⟩
    refine ⟨_, rfl, _, rfl, x, _, dx, _, rfl, hx, T.cl_Region, T.na_Region_parent, (by show 0 < 1000; decide), ?_⟩
    have hp1 := at_put (u := .ins (He.ga K "Region") dx (putF "parent" u [])) hp hx (fun z => nomatch z)
    refine ⟨_, rfl, p, _, rfl, .inl ⟨SqL.of hp1, fun t1 h1 => ?_⟩⟩
    refine ⟨_, rfl, x, _, dx, _, rfl, at_new upd_same h1, T.cl_Region, T.na_Region_facts, (by exact len_lt (len_put (n := 1) (by decide)) (by decide)), ?_⟩
    obtain ⟨l1, l2, l0⟩ := put2 (a := "parent") (b := "facts") (u := u) (v := .ref t1) (by decide +kernel) (by decide +kernel) (by decide +kernel)
    have n1 : t1 ≠ x := fun z => by rw [z, upd_same] at h1; cases h1
    have kb : KeepB x H (upd (upd (upd H x (.ins (He.ga K "Region") dx (putF "parent" u []))) t1 (.tup ys)) x (.ins (He.ga K "Region") dx (putF "facts" (.ref t1) (putF "parent" u [])))) := KeepB.upd ((KeepB.upd KeepP.refl).new h1)
    exact k _ kb ⟨_, u, .ref t1, ⟨x, dx, rfl, upd_same, l0⟩, l1, l2, ho, t1, ys, rfl, by rw [upd_ne n1, upd_same], pr.mono fun _ _ z => st_fc.ap (KeepP.fill kb hx) z⟩
abbrev N_Entry : List Str := ["self", "number", "record", "leaves"]
theorem sc_Entry : FnScope N_Entry N_Entry (defScope s_Entry_init) := ⟨rfl, rfl, rfl, by decide +kernel, rfl, by decide +kernel, by decide +kernel⟩
def aEntry (c : Cs) : Hp → List V → En → Prop := fun H as b => ∃ u w, as = [.int b.number, u, w] ∧ RcAt c H u b.record ∧ LI' H w b.leaves
theorem ok_Entry (F : FnP K "__init__" "Entry.__init__" s_Entry_init f fd) (T : Txt K mg) : FnOk P w K mg base CX0 1 f fd N_Entry (spI (He.ga K "Entry") (aEntry (csOf K)) (EnAt (csOf K))) := by
  refine F.ok sc_Entry (fun vs H Q E h => ?_) (fun cdv A outer s H vs Q E hr h => ?_)
  · obtain ⟨x, dx, as, b, rfl, _, ⟨u, z, rfl, _⟩, _⟩ := h
    rfl
  · obtain ⟨x, dx, as, b, rfl, hx, ⟨u, z, rfl, hrc, p, rfl, hp⟩, k⟩ := h
    refine ⟨_, PSs.nox (pss_cons (ps_fld (pv 0) (pv 1) rfl) (pss_cons (ps_fld (pv 0) (pv 2) rfl) (pss_one (ps_fld (pv 0) (pe_callTy call_tuple_of (by rfl) T.n_tuple (by decide +kernel) (pa_cons (pv 3) pa_nil)) rfl)))), ?_⟩
    refine ⟨_, rfl, _, rfl, x, _, dx, _, rfl, hx, T.cl_Entry, T.na_Entry_number, (by show 0 < 1000; decide), ?_⟩
    refine ⟨_, rfl, _, rfl, x, _, dx, _, rfl, upd_same, T.cl_Entry, T.na_Entry_record, (by exact len_lt (len_put (n := 1) (by decide)) (by decide)), ?_⟩
    rw [upd_upd]
    have hp1 := at_put (u := .ins (He.ga K "Entry") dx (putF "record" u (putF "number" (.int b.number) []))) hp hx (fun z => nomatch z)
    refine ⟨_, rfl, p, _, rfl, .inl ⟨SqL.of hp1, fun t1 h1 => ?_⟩⟩
    refine ⟨_, rfl, x, _, dx, _, rfl, at_new upd_same h1, T.cl_Entry, T.na_Entry_leaves, (by exact len_lt (len_put (len_put (n := 1) (by decide))) (by decide)), ?_⟩
    obtain ⟨l1, l2, l3, l0⟩ := put3 (a := "number") (b := "record") (c := "leaves") (u := .int b.number) (v := u) (w := .ref t1) (by decide +kernel) (by decide +kernel) (by decide +kernel) (by decide +kernel) (by decide +kernel) (by decide +kernel)
    have n1 : t1 ≠ x := fun z => by rw [z, upd_same] at h1; cases h1
    have kb : KeepB x H (upd (upd (upd H x (.ins (He.ga K "Entry") dx (putF "record" u (putF "number" (.int b.number) [])))) t1 (.tup (b.leaves.map V.int))) x (.ins (He.ga K "Entry") dx (putF "leaves" (.ref t1) (putF "record" u (putF "number" (.int b.number) []))))) := KeepB.upd ((KeepB.upd KeepP.refl).new h1)
    exact k _ kb ⟨_, u, .ref t1, ⟨x, dx, rfl, upd_same, l0⟩, l1, l2, l3, st_rc.ap (KeepP.fill kb hx) hrc, t1, rfl, by rw [upd_ne n1, upd_same]⟩
/-! ### FieldFact, Range, Values -/
abbrev N_FF : List Str := ["self", "field", "lack"]
theorem sc_FF : FnScope N_FF N_FF (defScope s_FieldFact_init) := ⟨rfl, rfl, rfl, by decide +kernel, rfl, by decide +kernel, by decide +kernel⟩
def spFF (K : PySem.W.Frag) : Sp := fun vs H Q _ => ∃ x dx C a b, vs = [.ref x, .str a, .str b] ∧ H x = some (.ins C dx []) ∧ Cls K C ∧ NoAttr K C "field" ∧ NoAttr K C "lack" ∧ Q .non (upd H x (.ins C dx (putF "lack" (.str b) (putF "field" (.str a) []))))
theorem ok_FF (F : FnP K "__init__" "FieldFact.__init__" s_FieldFact_init f fd) (T : Txt K mg) : FnOk P w K mg base CX0 1 f fd N_FF (spFF K) := by
  refine F.ok sc_FF (fun vs H Q E h => ?_) (fun cdv A outer s H vs Q E hr h => ?_)
  · obtain ⟨x, dx, C, a, b, rfl, _⟩ := h
    rfl
  · obtain ⟨x, dx, C, a, b, rfl, hx, c, n1, n2, k⟩ := h
    refine ⟨_, PSs.nox (pss_cons (ps_fld (pv 0) (pv 1) rfl) (pss_one (ps_fld (pv 0) (pv 2) rfl))), ?_⟩
    refine ⟨_, rfl, _, rfl, x, _, dx, _, rfl, hx, c, n1, (by show 0 < 1000; decide), ?_⟩
    refine ⟨_, rfl, _, rfl, x, _, dx, _, rfl, upd_same, c, n2, (by exact len_lt (len_put (n := 1) (by decide)) (by decide)), ?_⟩
    rw [upd_upd]
    exact k
/-- FieldFact's own __init__, as its heirs call it -/
structure FFok (P : Program) (w : World) (K : PySem.W.Frag) (mg : Str → Option Value) (base : Heap) : Prop where
  ex : ∃ f fd, FnOk P w K mg base CX0 1 f fd N_FF (spFF K) ∧ PySem.W.findCls K (.ref (He.ga K "FieldFact")) (.type "type") "__init__" = some (.val (.ref f)) ∧ PySem.W.keepIn K (.ref f) = true ∧ Binds K fd N_FF []
abbrev N_Range : List Str := ["self", "field", "low", "high", "lack"]
theorem sc_Range : FnScope N_Range N_Range (defScope s_Range_init) := ⟨rfl, rfl, rfl, by decide +kernel, rfl, by decide +kernel, by decide +kernel⟩
abbrev RgD : Type := Str × Int × Int × Nat
def aRange : Hp → List V → RgD → Prop := fun _ as b => as = [.str b.1, .int b.2.1, .int b.2.2.1, .str (lackS b.2.2.2)] ∧ b.2.2.2 < 3
abbrev kwLack : List (Str × V) := [("lack", .str "nobody")]
theorem ok_Range (F : FunD K "__init__" "Range.__init__" (defArgs s_Range_init) (defBody s_Range_init) (defScope s_Range_init) [] kwLack f fd) (T : Txt K mg) (FF : FFok P w K mg base) :
    FnOk P w K mg base CX0 2 f fd N_Range (spI (He.ga K "Range") aRange fun H v b => FcAt (csOf K) H v (.range b.1 b.2.1 b.2.2.1 b.2.2.2)) := by
  obtain ⟨g, gd, G, gf, gk, gb⟩ := FF.ex
  refine F.ok sc_Range (fun vs H Q E h => ?_) (fun cdv A outer s H vs Q E hr h => ?_)
  · obtain ⟨x, dx, as, b, rfl, _, ⟨rfl, _⟩, _⟩ := h
    rfl
  · obtain ⟨x, dx, as, b, rfl, hx, ⟨rfl, h3⟩, k⟩ := h
    refine ⟨_, PSs.nox (pss_cons (ps_expr (pe_clsm (pe_glob rfl T.g_FieldFact (v := .ref (He.ga K "FieldFact")) rfl) ⟨T.ffr, T.ffg⟩ gf gk G hr gb .nil pass0 (pa_cons (pv 0) (pa_cons (pv 1) (pa_cons (pv 4) pa_nil)))))
      (pss_cons (ps_fld (pv 0) (pv 2) rfl) (pss_one (ps_fld (pv 0) (pv 3) rfl)))), ?_⟩
    refine ⟨rfl, _, rfl, _, rfl, _, rfl, x, dx, _, b.1, lackS b.2.2.2, rfl, hx, T.cl_Range, T.na_Range_field, T.na_Range_lack, ?_⟩
    refine ⟨_, rfl, _, rfl, x, _, dx, _, rfl, upd_same, T.cl_Range, T.na_Range_low, (by exact len_lt (len_put (len_put (n := 1) (by decide))) (by decide)), ?_⟩
    refine ⟨_, rfl, _, rfl, x, _, dx, _, rfl, upd_same, T.cl_Range, T.na_Range_high, (by exact len_lt (len_put (len_put (len_put (n := 1) (by decide)))) (by decide)), ?_⟩
    obtain ⟨l1, l2, l3, l4, l0⟩ := put4 (a := "field") (b := "lack") (c := "low") (d := "high") (u := .str b.1) (v := .str (lackS b.2.2.2)) (w := .int b.2.1) (z := .int b.2.2.1) (by decide +kernel) (by decide +kernel) (by decide +kernel) (by decide +kernel) (by decide +kernel) (by decide +kernel) (by decide +kernel) (by decide +kernel) (by decide +kernel) (by decide +kernel)
    exact k _ (KeepB.upd (KeepB.upd (KeepB.upd KeepP.refl))) ⟨_, ⟨x, dx, rfl, upd_same, l0⟩, l1, l2, l3, l4, h3⟩
abbrev N_Values : List Str := ["self", "field", "choices", "lack"]
theorem sc_Values : FnScope N_Values N_Values (defScope s_Values_init) := ⟨rfl, rfl, rfl, by decide +kernel, rfl, by decide +kernel, by decide +kernel⟩
abbrev VlD : Type := Str × List Wv × Nat
def aValues : Hp → List V → VlD → Prop := fun H as b => ∃ u, as = [.str b.1, u, .str (lackS b.2.2)] ∧ LstAt WvAt H u b.2.1 ∧ b.2.2 < 3
theorem ok_Values (F : FunD K "__init__" "Values.__init__" (defArgs s_Values_init) (defBody s_Values_init) (defScope s_Values_init) [] kwLack f fd) (T : Txt K mg) (FF : FFok P w K mg base) :
    FnOk P w K mg base CX0 2 f fd N_Values (spI (He.ga K "Values") aValues fun H v b => FcAt (csOf K) H v (.values b.1 b.2.1 b.2.2)) := by
  obtain ⟨g, gd, G, gf, gk, gb⟩ := FF.ex
  refine F.ok sc_Values (fun vs H Q E h => ?_) (fun cdv A outer s H vs Q E hr h => ?_)
  · obtain ⟨x, dx, as, b, rfl, _, ⟨u, rfl, _⟩, _⟩ := h
    rfl
  · obtain ⟨x, dx, as, b, rfl, hx, ⟨u, rfl, ⟨p, ys, rfl, hp, pr⟩, h3⟩, k⟩ := h
    refine ⟨_, PSs.nox (pss_cons (ps_expr (pe_clsm (pe_glob rfl T.g_FieldFact (v := .ref (He.ga K "FieldFact")) rfl) ⟨T.ffr, T.ffg⟩ gf gk G hr gb .nil pass0 (pa_cons (pv 0) (pa_cons (pv 1) (pa_cons (pv 3) pa_nil)))))
      (pss_one (ps_fld (pv 0) (pe_callTy call_tuple_of (by rfl) T.n_tuple (by decide +kernel) (pa_cons (pv 2) pa_nil)) rfl))), ?_⟩
    refine ⟨rfl, _, rfl, _, rfl, _, rfl, x, dx, _, b.1, lackS b.2.2, rfl, hx, T.cl_Values, T.na_Values_field, T.na_Values_lack, ?_⟩
    have hp1 := at_put (u := .ins (He.ga K "Values") dx (putF "lack" (.str (lackS b.2.2)) (putF "field" (.str b.1) []))) hp hx (fun z => nomatch z)
    refine ⟨_, rfl, p, _, rfl, .inl ⟨SqL.of hp1, fun t1 h1 => ?_⟩⟩
    refine ⟨_, rfl, x, _, dx, _, rfl, at_new upd_same h1, T.cl_Values, T.na_Values_choices, (by exact len_lt (len_put (len_put (n := 1) (by decide))) (by decide)), ?_⟩
    obtain ⟨l1, l2, l3, l0⟩ := put3 (a := "field") (b := "lack") (c := "choices") (u := .str b.1) (v := .str (lackS b.2.2)) (w := .ref t1) (by decide +kernel) (by decide +kernel) (by decide +kernel) (by decide +kernel) (by decide +kernel) (by decide +kernel)
    have n1 : t1 ≠ x := fun z => by rw [z, upd_same] at h1; cases h1
    exact k _ (KeepB.upd ((KeepB.upd KeepP.refl).new h1)) ⟨_, .ref t1, ⟨x, dx, rfl, upd_same, l0⟩, l1, l2, l3, ⟨t1, ys, rfl, by rw [upd_ne n1, upd_same], pr⟩, h3⟩
end
end Snk
set_option maxHeartbeats 4000000
namespace Snk
open PySem PySem.Spec PyProof.Rows L2
/-- tuple(x), by name -/
def rTupOf (K : PySem.W.Frag) : List V → Hp → VK → Prop := fun xs H Q => ∃ p ys, xs = [.ref p] ∧ ((SqL K H p ys ∧ ∀ l, H l = none → Q (.ref l) (upd H l (.tup ys))) ∨ (SqT K H p ys ∧ Q (.ref p) H))
theorem call_tupOf {X : Cx} : CallR X (.type "tuple") (rTupOf X.K) := call_tuple_of
section
variable {P : Program} {w : World} {K : PySem.W.Frag} {mg : Str → Option Value} {base : Heap} {f : Addr} {fd : FuncData}
/-- (a, b) for a, b in ..: the pair is read, and a new one laid -/
abbrev gPair (K : PySem.W.Frag) (i j : Nat) : TG := gTup K 2 (gCons (gName i) (gCons (gName j) gNil))
abbrev N_Counts : List Str := ["self", "words", "word", "count"]
theorem sc_Counts : FnScope N_Counts ["self", "words"] (defScope s_Counts_init) := ⟨rfl, rfl, rfl, by decide +kernel, rfl, by decide +kernel, by decide +kernel⟩
theorem ok_Counts (F : FnP K "__init__" "Counts.__init__" s_Counts_init f fd) (T : Txt K mg) : FnOk P w K mg base CX0 1 f fd ["self", "words"] (spI (He.ga K "Counts") (fun H as b => aOne (LstAt WordAt) H as b ∧ b.length ≤ Big) fun H v b => FcAt (csOf K) H v (.counts b)) := by
  refine F.ok sc_Counts (fun vs H Q E h => ?_) (fun cdv A outer s H vs Q E hr h => ?_)
  · obtain ⟨x, dx, as, b, rfl, _, ⟨⟨u, rfl, _⟩, _⟩, _⟩ := h
    rfl
  · obtain ⟨x, dx, as, b, rfl, hx, ⟨⟨u, rfl, p, ys, rfl, hp, pr⟩, hb⟩, k⟩ := h
    refine ⟨_, PSs.nox (pss_one (ps_fld (pv 0) (pe_callTy call_tuple_of (by rfl) T.n_tuple (by decide +kernel) (pa_cons
      (pe_lc (own := [("word", 2), ("count", 3)]) (g := gPair K 2 3) (tt := tYes) rfl sc_Counts.nd (pi_list (pv 1)) (blkOk_by (N := N_Counts) (sc := defScope s_Counts_init) (by decide +kernel))
        (fun _ _ _ _ _ => pg_tup rfl (pgs_cons (pg_name (i := 2) sc_Counts.nd rfl (Or.inl rfl)) (pgs_cons (pg_name (i := 3) sc_Counts.nd rfl (Or.inl rfl)) pgs_nil))) (fun _ _ _ _ _ => pts_nil)
        (fun _ _ _ _ _ => pe_tup (pa_cons (pv 2) (pa_cons (pv 3) pa_nil)))) pa_nil)) rfl)), ?_⟩
    refine ⟨_, rfl, p, rfl, ⟨_, SqL.of hp⟩, fun D hD => ?_⟩
    refine lc_pure (src_list (K := K) (a := p) (xs := ys)) WordAt WordAt id hD (fun H' s => Same.seq s (SqL.of hp)) pr st_word.v (big_line (by rw [pr.length]; exact hb)) ?_ ?_
    · rintro v y H' Q' _ ⟨a, rfl, ha⟩ sm hq
      refine ⟨a, _, rfl, SqT.of (sm _ _ ha), rfl, _, _, rfl, _, _, rfl, rfl, rfl, _, rfl, _, rfl, (by show 2 ≤ sizeLine; decide), fun q hn => ?_⟩
      exact hq _ _ (same_new hn) (fresh_ref hn) ⟨q, rfl, upd_same⟩
    · intro H' acc sm hD' pr'
      rw [List.map_id] at pr'
      refine ⟨D, _, rfl, .inl ⟨SqL.of hD', fun t1 h1 => ?_⟩⟩
      have hx1 := at_new (u := .tup acc) (sm _ _ hx) h1
      refine ⟨_, rfl, x, _, dx, _, rfl, hx1, T.cl_Counts, T.na_Counts_words, (by show 0 < 1000; decide), ?_⟩
      obtain ⟨l1, l0⟩ := put1 (a := "words") (u := .ref t1) (by decide +kernel)
      have n1 : t1 ≠ x := (ne_of_none (sm _ _ hx) h1).symm
      have kb : KeepB x H' (upd (upd H' t1 (.tup acc)) x (.ins (He.ga K "Counts") dx (putF "words" (.ref t1) []))) := KeepB.upd (KeepP.refl.new h1)
      exact k _ ((same_keepP sm).trans kb) ⟨_, .ref t1, ⟨x, dx, rfl, upd_same, l0⟩, l1, t1, acc, rfl, by rw [upd_ne n1, upd_same], pr'.mono fun _ _ z => st_word.ap (KeepP.fill kb (sm _ _ hx)) z⟩
abbrev N_Record : List Str := ["self", "name", "vector", "fields", "words", "field", "worth", "word", "count"]
abbrev P_Record : List Str := ["self", "name", "vector", "fields", "words"]
theorem sc_Record : FnScope N_Record P_Record (defScope s_Record_init) := ⟨rfl, rfl, rfl, by decide +kernel, rfl, by decide +kernel, by decide +kernel⟩
def aRecord : Hp → List V → Rc → Prop := fun H as b => (∃ u v w, as = [.str b.name, u, v, w] ∧ LI' H u b.vec ∧ LstAt FieldAt H v b.fields ∧ LstAt WordAt H w b.words) ∧ b.fields.length ≤ Big ∧ b.words.length ≤ Big
theorem ok_Record {kws : List (Str × V)} (F : FunD K "__init__" "Record.__init__" (defArgs s_Record_init) (defBody s_Record_init) (defScope s_Record_init) [] kws f fd) (T : Txt K mg) : FnOk P w K mg base CX0 1 f fd P_Record (spI (He.ga K "Record") aRecord (RcAt (csOf K))) := by
  refine F.ok sc_Record (fun vs H Q E h => ?_) (fun cdv A outer s H vs Q E hr h => ?_)
  · obtain ⟨x, dx, as, b, rfl, _, ⟨⟨u, v, z, rfl, _⟩, _⟩, _⟩ := h
    rfl
  · obtain ⟨x, dx, as, b, rfl, hx, ⟨⟨u, v, z, rfl, ⟨p1, rfl, hp1⟩, ⟨p2, ys, rfl, hp2, pr2⟩, ⟨p3, zs, rfl, hp3, pr3⟩⟩, hb, hc⟩, k⟩ := h
    refine ⟨_, PSs.nox (pss_cons (ps_fld (pv 0) (pv 1) rfl) (pss_cons (ps_fld (pv 0) (pe_callTy call_tuple_of (by rfl) T.n_tuple (by decide +kernel) (pa_cons (pv 2) pa_nil)) rfl)
      (pss_cons (ps_fld (pv 0) (pe_callTy call_tuple_of (by rfl) T.n_tuple (by decide +kernel) (pa_cons
        (pe_lc (own := [("field", 5), ("worth", 6)]) (g := gPair K 5 6) (tt := tYes) rfl sc_Record.nd (pi_list (pv 3)) (blkOk_by (N := N_Record) (sc := defScope s_Record_init) (by decide +kernel))
          (fun _ _ _ _ _ => pg_tup rfl (pgs_cons (pg_name (i := 5) sc_Record.nd rfl (Or.inl rfl)) (pgs_cons (pg_name (i := 6) sc_Record.nd rfl (Or.inl rfl)) pgs_nil))) (fun _ _ _ _ _ => pts_nil)
          (fun _ _ _ _ _ => pe_tup (pa_cons (pv 5) (pa_cons (pv 6) pa_nil)))) pa_nil)) rfl)
      (pss_one (ps_fld (pv 0) (pe_callTy call_tuple_of (by rfl) T.n_tuple (by decide +kernel) (pa_cons
        (pe_lc (own := [("word", 7), ("count", 8)]) (g := gPair K 7 8) (tt := tYes) rfl sc_Record.nd (pi_list (pv 4)) (blkOk_by (N := N_Record) (sc := defScope s_Record_init) (by decide +kernel))
          (fun _ _ _ _ _ => pg_tup rfl (pgs_cons (pg_name (i := 7) sc_Record.nd rfl (Or.inl rfl)) (pgs_cons (pg_name (i := 8) sc_Record.nd rfl (Or.inl rfl)) pgs_nil))) (fun _ _ _ _ _ => pts_nil)
          (fun _ _ _ _ _ => pe_tup (pa_cons (pv 7) (pa_cons (pv 8) pa_nil)))) pa_nil)) rfl))))), ?_⟩
    refine ⟨_, rfl, _, rfl, x, _, dx, _, rfl, hx, T.cl_Record, T.na_Record_name, (by show 0 < 1000; decide), ?_⟩
    generalize e1 : upd H x (.ins (He.ga K "Record") dx (putF "name" (.str b.name) [])) = Ha
    have ka : KeepB x H Ha := by rw [← e1]; exact KeepB.upd KeepP.refl
    have hxa : Ha x = some (.ins (He.ga K "Record") dx (putF "name" (.str b.name) [])) := by rw [← e1]; exact upd_same
    have nx : ∀ {q : Addr} {o : HO}, H q = some o → (∀ C d g, o ≠ .ins C d g) → Ha q = some o := fun {q o} e d => ka q o (ne_of e hx (d _ _ _)) e
    refine ⟨_, rfl, p1, _, rfl, .inl ⟨SqL.of (nx hp1 (fun _ _ _ z => nomatch z)), fun t1 h1 => ?_⟩⟩
    refine ⟨_, rfl, x, _, dx, _, rfl, at_new hxa h1, T.cl_Record, T.na_Record_vector, (by exact len_lt (len_put (n := 1) (by decide)) (by decide)), ?_⟩
    have n1 : t1 ≠ x := fun z => by rw [z, hxa] at h1; cases h1
    generalize e2 : upd (upd Ha t1 (.tup (b.vec.map V.int))) x (.ins (He.ga K "Record") dx (putF "vector" (.ref t1) (putF "name" (.str b.name) []))) = Hb
    have kab : KeepB x Ha Hb := by rw [← e2]; exact KeepB.upd (KeepP.refl.new h1)
    have hxb : Hb x = some (.ins (He.ga K "Record") dx (putF "vector" (.ref t1) (putF "name" (.str b.name) []))) := by rw [← e2]; exact upd_same
    have hb1 : Hb t1 = some (.tup (b.vec.map V.int)) := by rw [← e2, upd_ne n1]; exact upd_same
    have kb := ka.trans kab
    have nxb : ∀ {q : Addr} {o : HO}, H q = some o → (∀ C d g, o ≠ .ins C d g) → Hb q = some o := fun {q o} e d => kb q o (ne_of e hx (d _ _ _)) e
    have hb2 := nxb hp2 (fun _ _ _ z => nomatch z)
    refine ⟨_, rfl, p2, rfl, ⟨_, SqL.of hb2⟩, fun D hD => ?_⟩
    refine lc_pure (src_list (K := K) (a := p2) (xs := ys)) FieldAt FieldAt id hD (fun H' s => Same.seq s (SqL.of hb2)) (pr2.mono fun _ _ z => st_field.ap (KeepP.fill kb hx) z) st_field.v (big_line (by rw [pr2.length]; exact hb)) ?_ ?_
    · rintro v y H' Q' _ ⟨a, rfl, ha⟩ sm hq
      refine ⟨a, _, rfl, SqT.of (sm _ _ ha), rfl, _, _, rfl, _, _, rfl, rfl, rfl, _, rfl, _, rfl, (by show 2 ≤ sizeLine; decide), fun q hn => ?_⟩
      exact hq _ _ (same_new hn) (fresh_ref hn) ⟨q, rfl, upd_same⟩
    · intro H1 acc sm hD1 pr1
      rw [List.map_id] at pr1
      refine ⟨D, _, rfl, .inl ⟨SqL.of hD1, fun t2 h2 => ?_⟩⟩
      have hx1 := sm _ _ hxb
      refine ⟨_, rfl, x, _, dx, _, rfl, at_new hx1 h2, T.cl_Record, T.na_Record_fields, (by exact len_lt (len_put (len_put (n := 1) (by decide))) (by decide)), ?_⟩
      have n2 : t2 ≠ x := fun z => by rw [z, hx1] at h2; cases h2
      generalize e3 : upd (upd H1 t2 (.tup acc)) x (.ins (He.ga K "Record") dx (putF "fields" (.ref t2) (putF "vector" (.ref t1) (putF "name" (.str b.name) [])))) = Hc
      have k1c : KeepB x H1 Hc := by rw [← e3]; exact KeepB.upd (KeepP.refl.new h2)
      have hxc : Hc x = some (.ins (He.ga K "Record") dx (putF "fields" (.ref t2) (putF "vector" (.ref t1) (putF "name" (.str b.name) [])))) := by rw [← e3]; exact upd_same
      have hc2 : Hc t2 = some (.tup acc) := by rw [← e3, upd_ne n2]; exact upd_same
      have hc1 : Hc t1 = some (.tup (b.vec.map V.int)) := k1c t1 _ n1 (sm _ _ hb1)
      have kc : KeepB x H Hc := (kb.trans (same_keepP sm)).trans k1c
      have hc3 : Hc p3 = some (.lst zs) := kc p3 _ (ne_of hp3 hx (fun z => nomatch z)) hp3
      refine ⟨_, rfl, p3, rfl, ⟨_, SqL.of hc3⟩, fun D2 hD2 => ?_⟩
      refine lc_pure (src_list (K := K) (a := p3) (xs := zs)) WordAt WordAt id hD2 (fun H' s => Same.seq s (SqL.of hc3)) (pr3.mono fun _ _ z => st_word.ap (KeepP.fill kc hx) z) st_word.v (big_line (by rw [pr3.length]; exact hc)) ?_ ?_
      · rintro v y H' Q' _ ⟨a, rfl, ha⟩ sm hq
        refine ⟨a, _, rfl, SqT.of (sm _ _ ha), rfl, _, _, rfl, _, _, rfl, rfl, rfl, _, rfl, _, rfl, (by show 2 ≤ sizeLine; decide), fun q hn => ?_⟩
        exact hq _ _ (same_new hn) (fresh_ref hn) ⟨q, rfl, upd_same⟩
      · intro H2 acc2 sm2 hD2' pr4
        rw [List.map_id] at pr4
        refine ⟨D2, _, rfl, .inl ⟨SqL.of hD2', fun t3 h3 => ?_⟩⟩
        have hx2 := sm2 _ _ hxc
        refine ⟨_, rfl, x, _, dx, _, rfl, at_new hx2 h3, T.cl_Record, T.na_Record_words, (by exact len_lt (len_put (len_put (len_put (n := 1) (by decide)))) (by decide)), ?_⟩
        have n3 : t3 ≠ x := fun z => by rw [z, hx2] at h3; cases h3
        obtain ⟨l1, l2, l3, l4, l0⟩ := put4 (a := "name") (b := "vector") (c := "fields") (d := "words") (u := .str b.name) (v := .ref t1) (w := .ref t2) (z := .ref t3) (by decide +kernel) (by decide +kernel) (by decide +kernel) (by decide +kernel) (by decide +kernel) (by decide +kernel) (by decide +kernel) (by decide +kernel) (by decide +kernel) (by decide +kernel)
        have ke : KeepB x H2 (upd (upd H2 t3 (.tup acc2)) x (.ins (He.ga K "Record") dx (putF "words" (.ref t3) (putF "fields" (.ref t2) (putF "vector" (.ref t1) (putF "name" (.str b.name) [])))))) := KeepB.upd (KeepP.refl.new h3)
        have kf : KeepB x H _ := (kc.trans (same_keepP sm2)).trans ke
        have kw : KeepB x H1 _ := (k1c.trans (same_keepP sm2)).trans ke
        have df : ∀ v y, FieldAt H1 v y → FieldAt (upd (upd H2 t3 (.tup acc2)) x (.ins (He.ga K "Record") dx (putF "words" (.ref t3) (putF "fields" (.ref t2) (putF "vector" (.ref t1) (putF "name" (.str b.name) [])))))) v y := fun v y ⟨q, e, hq⟩ => ⟨q, e, kw q _ (ne_of hq hx1 (fun z => nomatch z)) hq⟩
        have dw : ∀ v y, WordAt H2 v y → WordAt (upd (upd H2 t3 (.tup acc2)) x (.ins (He.ga K "Record") dx (putF "words" (.ref t3) (putF "fields" (.ref t2) (putF "vector" (.ref t1) (putF "name" (.str b.name) [])))))) v y := fun v y ⟨q, e, hq⟩ => ⟨q, e, ke q _ (ne_of hq hx2 (fun z => nomatch z)) hq⟩
        exact k _ kf ⟨_, .ref t1, .ref t2, .ref t3, ⟨x, dx, rfl, upd_same, l0⟩, l1, l2, l3, l4, ⟨t1, rfl, ke t1 _ n1 (sm2 _ _ hc1)⟩, ⟨t2, acc, rfl, ke t2 _ n2 (sm2 _ _ hc2), pr1.mono df⟩, t3, acc2, rfl, by rw [upd_ne n3, upd_same], pr4.mono dw⟩
abbrev N_Offer : List Str := ["self", "partitions", "entries", "regions"]
theorem sc_Offer : FnScope N_Offer ["self", "partitions", "entries"] (defScope s_Offer_init) := ⟨rfl, rfl, rfl, by decide +kernel, rfl, by decide +kernel, by decide +kernel⟩
def aOffer (c : Cs) : Hp → List V → Fo → Prop := fun H as b => (∃ u v, as = [u, v] ∧ LstAt (LstAt (RgAt c)) H u b.parts ∧ LstAt (EnAt c) H v b.entries) ∧ b.parts.length ≤ Big
theorem ok_Offer (F : FnP K "__init__" "Offer.__init__" s_Offer_init f fd) (T : Txt K mg) : FnOk P w K mg base CX0 1 f fd ["self", "partitions", "entries"] (spI (He.ga K "Offer") (aOffer (csOf K)) (FoAt (csOf K))) := by
  refine F.ok sc_Offer (fun vs H Q E h => ?_) (fun cdv A outer s H vs Q E hr h => ?_)
  · obtain ⟨x, dx, as, b, rfl, _, ⟨⟨u, v, rfl, _⟩, _⟩, _⟩ := h
    rfl
  · obtain ⟨x, dx, as, b, rfl, hx, ⟨⟨u, v, rfl, ⟨p1, ys, rfl, hp1, pr1⟩, ⟨p2, zs, rfl, hp2, pr2⟩⟩, hb⟩, k⟩ := h
    refine ⟨_, PSs.nox (pss_cons (ps_fld (pv 0) (pe_callTy call_tuple_of (by rfl) T.n_tuple (by decide +kernel) (pa_cons
        (pe_lc (own := [("regions", 3)]) (g := gName 3) (tt := tYes) rfl sc_Offer.nd (pi_list (pv 1)) (blkOk_by (N := N_Offer) (sc := defScope s_Offer_init) (by decide +kernel))
          (fun _ _ _ _ _ => pg_name (i := 3) sc_Offer.nd rfl (Or.inl rfl)) (fun _ _ _ _ _ => pts_nil)
          (fun _ _ _ _ _ => pe_callTy (T := "tuple") (r := rTupOf K) call_tupOf (by rfl) T.n_tuple (by decide +kernel) (pa_cons (pv 3) pa_nil))) pa_nil)) rfl)
      (pss_one (ps_fld (pv 0) (pe_callTy call_tuple_of (by rfl) T.n_tuple (by decide +kernel) (pa_cons (pv 2) pa_nil)) rfl))), ?_⟩
    refine ⟨_, rfl, p1, rfl, ⟨_, SqL.of hp1⟩, fun D hD => ?_⟩
    refine lc_pure (src_list (K := K) (a := p1) (xs := ys)) (LstAt (RgAt (csOf K))) (TupAt (RgAt (csOf K))) id hD (fun H' s => Same.seq s (SqL.of hp1)) pr1 (st_tup st_rg).v (big_line (by rw [pr1.length]; exact hb)) ?_ ?_
    · rintro v y H' Q' _ ⟨a, rs, rfl, ha, pr⟩ sm hq
      refine ⟨rfl, _, rfl, a, _, rfl, .inl ⟨SqL.of (sm _ _ ha), fun q hn => ?_⟩⟩
      exact hq _ _ (same_new hn) (fresh_ref hn) ⟨q, rs, rfl, upd_same, pr.mono fun _ _ z => st_rg.ap (Same.keep (Same.trans sm (same_new hn))) z⟩
    · intro H1 acc sm hD1 pra
      rw [List.map_id] at pra
      refine ⟨D, _, rfl, .inl ⟨SqL.of hD1, fun t1 h1 => ?_⟩⟩
      have hx1 := sm _ _ hx
      refine ⟨_, rfl, x, _, dx, _, rfl, at_new hx1 h1, T.cl_Offer, T.na_Offer_partitions, (by show 0 < 1000; decide), ?_⟩
      have n1 : t1 ≠ x := fun z => by rw [z, hx1] at h1; cases h1
      generalize e2 : upd (upd H1 t1 (.tup acc)) x (.ins (He.ga K "Offer") dx (putF "partitions" (.ref t1) [])) = Hb
      have kab : KeepB x H1 Hb := by rw [← e2]; exact KeepB.upd (KeepP.refl.new h1)
      have hxb : Hb x = some (.ins (He.ga K "Offer") dx (putF "partitions" (.ref t1) [])) := by rw [← e2]; exact upd_same
      have hb1 : Hb t1 = some (.tup acc) := by rw [← e2, upd_ne n1]; exact upd_same
      have hb2 : Hb p2 = some (.lst zs) := kab p2 _ (ne_of (sm _ _ hp2) hx1 (fun z => nomatch z)) (sm _ _ hp2)
      refine ⟨_, rfl, p2, _, rfl, .inl ⟨SqL.of hb2, fun t2 h2 => ?_⟩⟩
      refine ⟨_, rfl, x, _, dx, _, rfl, at_new hxb h2, T.cl_Offer, T.na_Offer_entries, (by exact len_lt (len_put (n := 1) (by decide)) (by decide)), ?_⟩
      have n2 : t2 ≠ x := fun z => by rw [z, hxb] at h2; cases h2
      obtain ⟨l1, l2, l0⟩ := put2 (a := "partitions") (b := "entries") (u := .ref t1) (v := .ref t2) (by decide +kernel) (by decide +kernel) (by decide +kernel)
      have ke : KeepB x Hb (upd (upd Hb t2 (.tup zs)) x (.ins (He.ga K "Offer") dx (putF "entries" (.ref t2) (putF "partitions" (.ref t1) [])))) := KeepB.upd (KeepP.refl.new h2)
      have kw : KeepB x H1 _ := kab.trans ke
      have kf : KeepB x H _ := (same_keepP sm).trans kw
      exact k _ kf ⟨_, .ref t1, .ref t2, ⟨x, dx, rfl, upd_same, l0⟩, l1, l2, ⟨t1, acc, rfl, ke t1 _ n1 hb1, pra.mono fun _ _ z => (st_tup st_rg).ap (KeepP.fill kw hx1) z⟩, t2, zs, rfl, by rw [upd_ne n2, upd_same], pr2.mono fun _ _ z => st_en.ap (KeepP.fill kf hx) z⟩
end
end Snk
set_option maxHeartbeats 4000000
namespace Snk
open PySem PySem.Spec PyProof.Rows L2
/-- a new list of these ints -/
def NL (H : Hp) (Q : VK) (ns : List Int) : Prop := ∀ H' q, Same H H' → H q = none → H' q = some (.lst (ns.map V.int)) → Q (.ref q) H'
/-- the promise of a def that writes a code -/
def spW {α : Type} (R : Lies α) (c : α → List Int) : Sp := fun vs H Q _ => ∃ v x, vs = [v] ∧ R H v x ∧ (c x).length ≤ Big ∧ NL H Q (c x)
theorem NL.from {H H1 : Hp} {Q : VK} {ns : List Int} (k : NL H Q ns) (s : Same H H1) : NL H1 Q ns := fun H' q s' n e => k H' q (s.trans s') (s.free n) e
theorem cat_nl {ta tb : TE} {σ : L2.St} {H : Hp} {Q : VK} {a b : List Int} (ha : ∀ Q', NL H Q' a → ta σ H Q') (hb : ∀ H1, Same H H1 → ∀ Q', NL H1 Q' b → tb σ H1 Q') (hl : (a ++ b).length ≤ Big) (k : NL H Q (a ++ b)) : tOp rCat ta tb σ H Q := by
  refine ha _ fun H1 p s1 n1 e1 => hb H1 s1 _ fun H2 q s2 n2 e2 => ?_
  refine ⟨p, q, _, _, rfl, rfl, s2 _ _ e1, e2, ?_, fun r hr => ?_⟩
  · rw [List.length_map, List.length_map, ← List.length_append]
    exact Nat.le_of_lt (big_line hl)
  · refine k _ r ((s1.trans s2).trans (same_new hr)) ((s1.trans s2).free hr) ?_
    rw [upd_same, List.map_append]
theorem call_nl {α : Type} {R : Lies α} {c : α → List Int} {te : TE} {σ : L2.St} {H : Hp} {Q : VK} {E : XK} {x : α} (hte : ∀ Q' : VK, (∀ v H1, Same H H1 → R H1 v x → Q' v H1) → te σ H Q') (hb : (c x).length ≤ Big) (k : NL H Q (c x)) : tCall (spW R c) [] E (tCons te tNil) σ H Q :=
  hte _ fun v H1 s r => ⟨v, x, rfl, r, hb, k.from s⟩
/-- a comprehension of codes over a tuple -/
theorem comp_nl {α : Type} {K : PySem.W.Frag} {Rs : Lies α} (sR : Stable Rs) {f : α → List Int} {ys : List α} {tl : TE} {g : TG} {te : TE} {ws : List Nat} {σ : L2.St} {H : Hp} {v : V} (htl : ∀ Q' : VK, Q' v H → tl σ H Q') (hv : TupAt Rs H v ys) (hn : ys.length ≤ Big)
    (step : ∀ u y H1 (Q' : VK), y ∈ ys → Rs H1 u y → NL H1 Q' (f y) → g u (wipe σ ws) H1 fun σ2 H2 => wipe σ2 ws = wipe σ ws ∧ te σ2 H2 Q') (Q : VK) (k : ∀ u H1, Same H H1 → LstAt LI' H1 u (ys.map f) → Q u H1) : tLc (iTup K tl) g tYes te ws σ H Q := by
  obtain ⟨a, vs, rfl, ha, pr⟩ := hv
  refine htl _ ⟨a, rfl, ⟨_, SqT.of ha⟩, fun D hD => ?_⟩
  refine lc_pure (src_tup (K := K) (a := a) (xs := vs)) Rs LI' f hD (fun H' s => Same.sqt s (SqT.of ha)) pr sv_LI (big_line (by rw [pr.length]; exact hn)) ?_ ?_
  · intro u y H1 Q' hy r s h
    exact step u y H1 Q' hy (sR.ap (Same.keep s) r) fun H' q s' n e => h H' _ s' (fresh_ref n) ⟨q, rfl, e⟩
  · intro H' acc s hD' p
    exact k _ H' s ⟨D, acc, rfl, hD', p⟩
theorem ints_of {H : Hp} : ∀ {acc : List V} {ns : List Int}, Paired (IntAt H) acc ns → acc = ns.map V.int
  | _, _, .nil => rfl
  | _, _, .cons h r => by rw [show _ = V.int _ from h, ints_of r]; rfl
theorem len_codes {α : Type} (f : α → List Int) (xs : List α) : (cList f xs).length = 1 + ((xs.map f).map List.length).sum := by
  unfold cList cCodes
  rw [List.length_cons, List.length_flatten]
  omega
theorem le_sum : ∀ {l : List Nat} {n : Nat}, n ∈ l → n ≤ l.sum
  | a :: l, n, h => by
    rw [List.sum_cons]
    rcases List.mem_cons.mp h with h | h
    · omega
    · have := le_sum h
      omega
theorem len_mem {α : Type} {f : α → List Int} {xs : List α} {x : α} (h : x ∈ xs) : (f x).length ≤ (cList f xs).length := by
  rw [len_codes]
  have : (f x).length ≤ ((xs.map f).map List.length).sum := le_sum (List.mem_map_of_mem (List.mem_map_of_mem h))
  omega
section
variable {P : Program} {w : World} {K : PySem.W.Frag} {mg : Str → Option Value} {base : Heap} {f : Addr} {fd : FuncData}
/-! ### list_code -/
abbrev spLists : Sp := spW (LstAt LI') cCodes
abbrev N_lc : List Str := ["codes", "numbers", "code"]
theorem sc_lc : FnScope N_lc ["codes"] (defScope s_list_code) := ⟨rfl, rfl, rfl, by decide +kernel, rfl, by decide +kernel, by decide +kernel⟩
theorem ok_list_code (F : FnP K "list_code" "list_code" s_list_code f fd) (T : Txt K mg) : FnOk P w K mg base C8.CX0 1 f fd ["codes"] spLists := by
  refine F.ok sc_lc (fun vs H Q E h => ?_) (fun cdv A outer s H vs Q E hr h => ?_)
  · obtain ⟨v, x, rfl, _⟩ := h
    rfl
  · obtain ⟨v, cs, rfl, ⟨a, ys, rfl, ha, pr⟩, hb, k⟩ := h
    refine ⟨_, PSs.nox (pss_cons (ps_set (i := 1) sc_lc.nd rfl (Or.inl rfl) (pe_lst (pa_cons (pe_callB call_len_seq (by rfl) T.n_len PySem.boot_len (pa_cons (pv 0) pa_nil)) pa_nil)))
      (pss_cons (ps_for PassesOwn.never rfl (pi_list (pv 0)) (pg_name (i := 2) sc_lc.nd rfl (Or.inl rfl))
        (pss_one (ps_expr (pe_bm PySem.F.plainAttrs_list PySem.F.slot_list_extend PySem.F.type_list_extend mt_extend (pv 1) (pa_cons (pv 2) pa_nil)))))
      (pss_one (ps_ret (pv 1))))), ?_⟩
    refine ⟨_, rfl, a, _, rfl, .inl (SqL.of ha), (by show 1 ≤ sizeLine; decide), fun n hn => ?_⟩
    have la : (upd H n (.lst [.int ys.length])) a = some (.lst ys) := at_new ha hn
    refine ⟨_, rfl, a, rfl, ⟨_, SqL.of la⟩, for_list (K := K) (a := a) (xs := ys) (fun i σ H' => ∃ z, σ = [some (.ref a), some (.ref n), z] ∧ H' n = some (.lst (((cs.length : Int) :: (cs.take i).flatten).map V.int)) ∧ Same H H')
      ⟨none, rfl, by rw [upd_same, pr.length]; rfl, same_new hn⟩ (fun i σ H' _ ⟨_, _, _, s⟩ => SqL.of (s _ _ ha)) ?_ ?_⟩
    · rintro i x σ H' hx ⟨z, rfl, hl, sm⟩
      obtain ⟨c, hc, p, rfl, hp⟩ := pr.at_ hx
      have hp' := sm _ _ hp
      have hsz : ((cs.length : Int) :: (cs.take i).flatten).length + c.length ≤ Big := by
        have e1 : ((cs.take (i + 1)).flatten).length ≤ cs.flatten.length := by
          have := congrArg List.flatten (List.take_append_drop (i + 1) cs)
          rw [List.flatten_append] at this
          rw [← this, List.length_append]
          omega
        rw [List.take_add_one, hc, List.flatten_append] at e1
        have e2 : (cCodes cs).length = cs.flatten.length + 1 := rfl
        rw [List.length_append] at e1
        have e3 : (some c).toList.flatten = c := by simp
        rw [e3] at e1
        rw [List.length_cons]
        omega
      refine ⟨_, rfl, .inl ⟨rfl, _, SqL.of hl⟩, _, rfl, n, p, _, _, rfl, rfl, hl, hp', ?_, ?_⟩
      · rw [List.length_map, List.length_map]
        exact Nat.le_of_lt (big_line hsz)
      · refine ⟨_, rfl, ?_, fun b o e => ?_⟩
        · rw [upd_same, ← List.map_append, List.take_add_one, hc, List.flatten_append]
          simp
        · rw [upd_ne (ne_of_none e hn)]
          exact sm b o e
    · rintro σ H' ⟨z, rfl, hl, sm⟩
      refine ⟨_, rfl, k H' n sm hn ?_⟩
      rw [hl, pr.length, List.take_length]
      rfl
/-! ### numbers_code -/
def SeqI : Lies (List Int) := fun H v ns => LI' H v ns ∨ TI' H v ns
abbrev spNums : Sp := spW SeqI cNums
abbrev N_nc : List Str := ["numbers"]
theorem sc_nc : FnScope N_nc N_nc (defScope s_numbers_code) := ⟨rfl, rfl, rfl, by decide +kernel, rfl, by decide +kernel, by decide +kernel⟩
theorem ok_numbers_code (F : FnP K "numbers_code" "numbers_code" s_numbers_code f fd) (T : Txt K mg) : FnOk P w K mg base C8.CX0 1 f fd N_nc spNums := by
  refine F.ok sc_nc (fun vs H Q E h => ?_) (fun cdv A outer s H vs Q E hr h => ?_)
  · obtain ⟨v, x, rfl, _⟩ := h
    rfl
  · obtain ⟨v, ns, rfl, hv, hb, k⟩ := h
    obtain ⟨a, rfl, ha⟩ : ∃ a, v = .ref a ∧ (SqL K H a (ns.map V.int) ∨ SqT K H a (ns.map V.int)) := by
      rcases hv with ⟨a, rfl, h⟩ | ⟨a, rfl, h⟩
      · exact ⟨a, rfl, .inl (SqL.of h)⟩
      · exact ⟨a, rfl, .inr (SqT.of h)⟩
    refine ⟨_, PSs.nox (pss_one (ps_ret (pe_op op_cat (pe_lst (pa_cons (pe_callB call_len_seq (by rfl) T.n_len PySem.boot_len (pa_cons (pv 0) pa_nil)) pa_nil))
      (pe_callTy call_list_of (by rfl) T.n_list (by decide +kernel) (pa_cons (pv 0) pa_nil))))), ?_⟩
    refine cat_nl (a := [(ns.length : Int)]) (b := ns) (fun Q' h => ⟨_, rfl, a, _, rfl, ha, (by show 1 ≤ sizeLine; decide), fun p hp => h _ p (same_new hp) hp (by rw [upd_same, List.length_map]; rfl)⟩)
      (fun H1 s1 Q' h => ⟨_, rfl, a, _, rfl, ?_, fun p hp => h _ p (same_new hp) hp upd_same⟩) hb k
    rcases ha with ha | ha
    · exact .inl (Same.seq s1 ha)
    · exact .inr (Same.sqt s1 ha)
/-! ### string_code -/
abbrev spStr : Sp := spW StrAt cStr
abbrev N_sc : List Str := ["text", "sign"]
theorem sc_sc : FnScope N_sc ["text"] (defScope s_string_code) := ⟨rfl, rfl, rfl, by decide +kernel, rfl, by decide +kernel, by decide +kernel⟩
theorem signs_pr {H : Hp} (z : Str) : Paired (fun v (n : Nat) => v = V.str ⟨#[n]⟩) (signV z) z.cps.toList := by
  unfold signV
  induction z.cps.toList with
  | nil => exact .nil
  | cons a r ih => exact .cons rfl ih
theorem ok_string_code (F : FnP K "string_code" "string_code" s_string_code f fd) (T : Txt K mg) (cN : C8.Cal P w K mg base 1 "numbers_code" spNums []) : FnOk P w K mg base C8.CX0 2 f fd ["text"] spStr := by
  refine F.ok sc_sc (fun vs H Q E h => ?_) (fun cdv A outer s H vs Q E hr h => ?_)
  · obtain ⟨v, x, rfl, _⟩ := h
    rfl
  · obtain ⟨v, z, rfl, rfl, hb, k⟩ := h
    refine ⟨_, PSs.nox (pss_one (ps_ret (C8.pe_c cN hr (by decide) rfl (pa_cons
      (pe_lc (own := [("sign", 1)]) (g := gName 1) (tt := tYes) rfl sc_sc.nd (pi_str (pv 0)) (blkOk_by (N := N_sc) (sc := defScope s_string_code) (by decide +kernel)) (fun _ _ _ _ _ => pg_name (i := 1) sc_sc.nd rfl (Or.inl rfl)) (fun _ _ _ _ _ => pts_nil)
        (fun _ _ _ _ _ => pe_callB call_ord (by rfl) T.n_ord (by decide +kernel) (pa_cons (pv 1) pa_nil))) pa_nil)))), ?_⟩
    refine call_nl (x := z.cps.toList.map fun n => ((n : Nat) : Int)) (fun Q' h => ?_) hb k
    refine ⟨_, rfl, z, rfl, fun D hD => ?_⟩
    have hz : (signV z).length < sizeLine := by
      have e : (cStr z).length = z.cps.size + 1 := by
        show (z.cps.toList.map fun n => ((n : Nat) : Int)).length + 1 = _
        rw [List.length_map, Array.length_toList]
      rw [signV_length]
      exact big_line (by omega)
    refine lc_pure (src_str (z := z)) (fun _ v (n : Nat) => v = V.str ⟨#[n]⟩) IntAt (fun n => ((n : Nat) : Int)) hD (fun _ _ => trivial) (signs_pr (H := H) z) st_int.v hz ?_ ?_
    · rintro v n H1 Q1 _ rfl sm hq
      exact ⟨rfl, _, rfl, _, rfl, rfl, hq _ _ (Same.refl _) fresh_int rfl⟩
    · intro H' acc sm hD' pr
      refine h _ _ sm (.inl ⟨D, rfl, ?_⟩)
      rw [hD', ints_of pr]
end
end Snk
set_option maxHeartbeats 4000000
namespace Snk
open PySem PySem.Spec PyProof.Rows L2
/-- a display of one, two values -/
theorem lst1_nl {te : TE} {σ : L2.St} {H : Hp} {Q : VK} {i : Int} (h : ∀ Q' : VK, Q' (.int i) H → te σ H Q') (k : NL H Q [i]) : tLst (tCons te tNil) σ H Q :=
  h _ ⟨by show 1 ≤ sizeLine; decide, fun p hp => k _ p (same_new hp) hp upd_same⟩
theorem lst2_nl {ta tb : TE} {σ : L2.St} {H : Hp} {Q : VK} {i j : Int} (h : ∀ Q' : VK, Q' (.int i) H → ta σ H Q') (h2 : ∀ Q' : VK, Q' (.int j) H → tb σ H Q') (k : NL H Q [i, j]) : tLst (tCons ta (tCons tb tNil)) σ H Q :=
  h _ (h2 _ ⟨by show 2 ≤ sizeLine; decide, fun p hp => k _ p (same_new hp) hp upd_same⟩)
theorem lst3_nl {ta tb tc : TE} {σ : L2.St} {H : Hp} {Q : VK} {i j l : Int} (h : ∀ Q' : VK, Q' (.int i) H → ta σ H Q') (h2 : ∀ Q' : VK, Q' (.int j) H → tb σ H Q') (h3 : ∀ Q' : VK, Q' (.int l) H → tc σ H Q') (k : NL H Q [i, j, l]) : tLst (tCons ta (tCons tb (tCons tc tNil))) σ H Q :=
  h _ (h2 _ (h3 _ ⟨by show 3 ≤ sizeLine; decide, fun p hp => k _ p (same_new hp) hp upd_same⟩))
/-- the right one stands already -/
theorem cat_ol {ta tb : TE} {σ : L2.St} {H : Hp} {Q : VK} {a b : List Int} (ha : ∀ Q', NL H Q' a → ta σ H Q') (hb : ∀ H1, Same H H1 → ∀ Q' : VK, (∀ H' q, Same H1 H' → H' q = some (.lst (b.map V.int)) → Q' (.ref q) H') → tb σ H1 Q') (hl : (a ++ b).length ≤ Big) (k : NL H Q (a ++ b)) : tOp rCat ta tb σ H Q := by
  refine ha _ fun H1 p s1 n1 e1 => hb H1 s1 _ fun H2 q s2 e2 => ?_
  refine ⟨p, q, _, _, rfl, rfl, s2 _ _ e1, e2, ?_, fun r hr => ?_⟩
  · rw [List.length_map, List.length_map, ← List.length_append]
    exact Nat.le_of_lt (big_line hl)
  · refine k _ r ((s1.trans s2).trans (same_new hr)) ((s1.trans s2).free hr) ?_
    rw [upd_same, List.map_append]
/-- a field of an object -/
theorem fld_v {K : PySem.W.Frag} {ta : TE} {f : Str} {σ : L2.St} {H : Hp} {Q : VK} {C : Addr} {v u : V} {fs : List (Str × V)} (h : ∀ Q' : VK, Q' v H → ta σ H Q') (i : Ins C H v fs) (c : Cls K C) (n : NoAttr K C f) (l : fs.lookup f = some u) (q : Q u H) : tFld K ta f σ H Q := by
  obtain ⟨p, dx, rfl, hp, _⟩ := i
  exact h _ ⟨p, C, dx, fs, u, rfl, hp, c, n, l, q⟩
theorem app_le {a b : List Int} {n : Nat} (h : (a ++ b).length ≤ n) : a.length ≤ n ∧ b.length ≤ n := by
  rw [List.length_append] at h
  omega
theorem codes_le {α : Type} {f : α → List Int} {xs : List α} (h1 : ∀ x, x ∈ xs → 1 ≤ (f x).length) : xs.length ≤ (cList f xs).length := by
  rw [len_codes]
  have : ∀ l : List α, (∀ x, x ∈ l → 1 ≤ (f x).length) → l.length ≤ ((l.map f).map List.length).sum := by
    intro l
    induction l with
    | nil => intro _; exact Nat.le_refl _
    | cons a r ih =>
      intro h
      have e1 := h a List.mem_cons_self
      have e2 := ih fun x hx => h x (List.mem_cons_of_mem _ hx)
      simp only [List.map_cons, List.sum_cons, List.length_cons]
      omega
  have := this xs h1
  omega
theorem len_str {z : Str} : 1 ≤ (cStr z).length := Nat.succ_le_succ (Nat.zero_le _)
theorem len_word {q : Str × Int} : 1 ≤ (cWord q).length := by
  unfold cWord
  rw [List.length_append]
  exact Nat.le_add_left _ _
theorem len_field {q : Str × Wv} : 1 ≤ (cField q).length := by
  unfold cField
  rw [List.length_append]
  exact Nat.le_trans len_str (Nat.le_add_right _ _)
section
variable {P : Program} {w : World} {K : PySem.W.Frag} {mg : Str → Option Value} {base : Heap} {f : Addr} {fd : FuncData}
/-! ### value_code -/
abbrev spVal : Sp := spW WvAt cWv
abbrev N_vc : List Str := ["worth"]
theorem sc_vc : FnScope N_vc N_vc (defScope s_value_code) := ⟨rfl, rfl, rfl, by decide +kernel, rfl, by decide +kernel, by decide +kernel⟩
theorem ok_value_code (F : FnP K "value_code" "value_code" s_value_code f fd) (T : Txt K mg) (cS : C8.Cal P w K mg base 2 "string_code" spStr []) : FnOk P w K mg base C8.CX0 3 f fd N_vc spVal := by
  refine F.ok sc_vc (fun vs H Q E h => ?_) (fun cdv A outer s H vs Q E hr h => ?_)
  · obtain ⟨v, x, rfl, _⟩ := h
    rfl
  · obtain ⟨v, x, rfl, rfl, hb, k⟩ := h
    refine ⟨_, PSs.nox (pss_cons (ps_if (pt_val (pe_callB call_isi (by rfl) T.n_isinstance (by decide +kernel) (pa_cons (pv 0) (pa_cons (pe_bltn (v := .ty "bool") rfl T.n_bool (by decide +kernel) rfl) pa_nil))))
          (pss_one (ps_ret (pe_lst (pa_cons pe_int (pa_cons (pe_ifExp (pt_val (pv 0)) pe_int pe_int) pa_nil))))) pss_nil)
      (pss_cons (ps_if (pt_val (pe_callB call_isi (by rfl) T.n_isinstance (by decide +kernel) (pa_cons (pv 0) (pa_cons (pe_bltn (v := .ty "str") rfl T.n_str (by decide +kernel) rfl) pa_nil))))
          (pss_one (ps_ret (pe_op op_cat (pe_lst (pa_cons pe_int pa_nil)) (C8.pe_c cS hr (by decide) rfl (pa_cons (pv 0) pa_nil))))) pss_nil)
      (pss_one (ps_ret (pe_lst (pa_cons pe_int (pa_cons (pv 0) pa_nil))))))), ?_⟩
    cases x with
    | int i =>
      refine ⟨_, rfl, _, .ty "bool", _, _, false, rfl, .ty _, .base (.int i), kit_ty (by decide +kernel), _, rfl, iteF ?_⟩
      refine ⟨_, rfl, _, .ty "str", _, _, false, rfl, .ty _, .base (.int i), kit_ty (by decide +kernel), _, rfl, iteF ?_⟩
      dsimp only [tNext, tRet]
      exact lst2_nl (i := 0) (j := i) (fun _ q => q) (fun Q' q => ⟨_, rfl, q⟩) k
    | str z =>
      refine ⟨_, rfl, _, .ty "bool", _, _, false, rfl, .ty _, .base (.str z), kit_ty (by decide +kernel), _, rfl, iteF ?_⟩
      refine ⟨_, rfl, _, .ty "str", _, _, true, rfl, .ty _, .base (.str z), kit_ty (by decide +kernel), _, rfl, iteT ?_⟩
      exact cat_nl (a := [1]) (b := cStr z) (fun Q' h => lst1_nl (fun _ q => q) h) (fun H1 s1 Q' h => call_nl (x := z) (fun Q2 q => ⟨_, rfl, q _ _ (Same.refl _) rfl⟩) (app_le (a := [1]) hb).2 h) hb k
    | bl b =>
      refine ⟨_, rfl, _, .ty "bool", _, _, true, rfl, .ty _, .base (.bl b), kit_ty (by decide +kernel), _, rfl, iteT ?_⟩
      refine lst2_nl (i := 2) (j := if b then 1 else 0) (fun _ q => q) (fun Q' q => ⟨_, rfl, b, rfl, ?_⟩) k
      cases b with
      | false => exact iteF q
      | true => exact iteT q
/-! ### maybe_code -/
def MbAt : Lies (Option (List Int)) := fun H v o => match o with
  | none => v = .non
  | some ns => LI' H v ns
def cMb : Option (List Int) → List Int
  | none => [0]
  | some ns => [1] ++ ns
abbrev spMb : Sp := spW MbAt cMb
abbrev N_mc : List Str := ["code"]
theorem sc_mc : FnScope N_mc N_mc (defScope s_maybe_code) := ⟨rfl, rfl, rfl, by decide +kernel, rfl, by decide +kernel, by decide +kernel⟩
theorem ok_maybe_code (F : FnP K "maybe_code" "maybe_code" s_maybe_code f fd) (T : Txt K mg) : FnOk P w K mg base C8.CX0 1 f fd N_mc spMb := by
  refine F.ok sc_mc (fun vs H Q E h => ?_) (fun cdv A outer s H vs Q E hr h => ?_)
  · obtain ⟨v, x, rfl, _⟩ := h
    rfl
  · obtain ⟨v, x, rfl, hv, hb, k⟩ := h
    refine ⟨_, PSs.nox (pss_one (ps_ret (pe_ifExp (pt_cmp (pc_isN (pv 0))) (pe_lst (pa_cons pe_int pa_nil)) (pe_op op_cat (pe_lst (pa_cons pe_int pa_nil)) (pv 0))))), ?_⟩
    cases x with
    | none =>
      obtain rfl : v = .non := hv
      refine ⟨_, rfl, _, rfl, ?_⟩
      rw [decide_eq_true rfl]
      exact iteT (lst1_nl (i := 0) (fun _ q => q) k)
    | some ns =>
      obtain ⟨p, rfl, hp⟩ : LI' H v ns := hv
      refine ⟨_, rfl, _, rfl, ?_⟩
      rw [decide_eq_false (fun z => nomatch z)]
      refine iteF ?_
      refine lst1_nl (i := 1) (fun _ q => q) fun H' q s n e => ⟨_, rfl, q, p, _, _, rfl, rfl, e, s _ _ hp, ?_, fun r hr => k _ r (s.trans (same_new hr)) (s.free hr) ?_⟩
      · rw [List.length_map, List.length_map, ← List.length_append]
        exact Nat.le_of_lt (big_line hb)
      · rw [upd_same, ← List.map_append]
        rfl
/-! ### pairs_code -/
abbrev spPairs : Sp := spW (TupAt WordAt) (cList cWord)
abbrev N_pc : List Str := ["pairs", "word", "count"]
theorem sc_pc : FnScope N_pc ["pairs"] (defScope s_pairs_code) := ⟨rfl, rfl, rfl, by decide +kernel, rfl, by decide +kernel, by decide +kernel⟩
theorem ok_pairs_code (F : FnP K "pairs_code" "pairs_code" s_pairs_code f fd) (T : Txt K mg) (cL : C8.Cal P w K mg base 1 "list_code" spLists []) (cS : C8.Cal P w K mg base 2 "string_code" spStr []) : FnOk P w K mg base C8.CX0 3 f fd ["pairs"] spPairs := by
  refine F.ok sc_pc (fun vs H Q E h => ?_) (fun cdv A outer s H vs Q E hr h => ?_)
  · obtain ⟨v, x, rfl, _⟩ := h
    rfl
  · obtain ⟨v, xs, rfl, hv, hb, k⟩ := h
    refine ⟨_, PSs.nox (pss_one (ps_ret (C8.pe_c cL hr (by decide) rfl (pa_cons
      (pe_lc (own := [("word", 1), ("count", 2)]) (g := gPair K 1 2) (tt := tYes) rfl sc_pc.nd (pi_tup (pv 0)) (blkOk_by (N := N_pc) (sc := defScope s_pairs_code) (by decide +kernel))
        (fun _ _ _ _ _ => pg_tup rfl (pgs_cons (pg_name (i := 1) sc_pc.nd rfl (Or.inl rfl)) (pgs_cons (pg_name (i := 2) sc_pc.nd rfl (Or.inl rfl)) pgs_nil))) (fun _ _ _ _ _ => pts_nil)
        (fun _ _ _ _ _ => pe_op op_cat (C8.pe_c cS hr (by decide) rfl (pa_cons (pv 1) pa_nil)) (pe_lst (pa_cons (pv 2) pa_nil)))) pa_nil)))), ?_⟩
    refine call_nl (x := xs.map cWord) (fun Q' h => ?_) hb k
    refine comp_nl (K := K) (f := cWord) st_word (fun _ q => ⟨_, rfl, q⟩) hv (Nat.le_trans (codes_le fun _ _ => len_word) hb) ?_ Q' h
    rintro u y H1 Q1 hy ⟨a, rfl, ha⟩ k1
    refine ⟨a, _, rfl, SqT.of ha, rfl, _, _, rfl, _, _, rfl, rfl, rfl, ?_⟩
    have hl := Nat.le_trans (len_mem (f := cWord) hy) hb
    exact cat_nl (a := cStr y.1) (b := [y.2]) (fun Q2 h2 => call_nl (x := y.1) (fun Q3 q => ⟨_, rfl, q _ _ (Same.refl _) rfl⟩) (app_le hl).1 h2) (fun H2 s2 Q2 h2 => lst1_nl (fun _ q => ⟨_, rfl, q⟩) h2) hl k1
/-! ### record_code -/
abbrev spRc (K : PySem.W.Frag) : Sp := spW (RcAt (csOf K)) cRc
abbrev N_rc : List Str := ["record", "fields", "name", "worth"]
theorem sc_rc : FnScope N_rc ["record"] (defScope s_record_code) := ⟨rfl, rfl, rfl, by decide +kernel, rfl, by decide +kernel, by decide +kernel⟩
theorem ok_record_code (F : FnP K "record_code" "record_code" s_record_code f fd) (T : Txt K mg) (cL : C8.Cal P w K mg base 1 "list_code" spLists []) (cN : C8.Cal P w K mg base 1 "numbers_code" spNums []) (cS : C8.Cal P w K mg base 2 "string_code" spStr []) (cV : C8.Cal P w K mg base 3 "value_code" spVal [])
    (cP : C8.Cal P w K mg base 3 "pairs_code" spPairs []) : FnOk P w K mg base C8.CX0 4 f fd ["record"] (spRc K) := by
  refine F.ok sc_rc (fun vs H Q E h => ?_) (fun cdv A outer s H vs Q E hr h => ?_)
  · obtain ⟨v, x, rfl, _⟩ := h
    rfl
  · obtain ⟨v, r, rfl, hv, hb, k⟩ := h
    refine ⟨_, PSs.nox (pss_cons (ps_set (i := 1) sc_rc.nd rfl (Or.inl rfl) (C8.pe_c cL hr (by decide) rfl (pa_cons
      (pe_lc (own := [("name", 2), ("worth", 3)]) (g := gPair K 2 3) (tt := tYes) rfl sc_rc.nd (pi_tup (pe_fld (pv 0) rfl)) (blkOk_by (N := N_rc) (sc := defScope s_record_code) (by decide +kernel))
        (fun _ _ _ _ _ => pg_tup rfl (pgs_cons (pg_name (i := 2) sc_rc.nd rfl (Or.inl rfl)) (pgs_cons (pg_name (i := 3) sc_rc.nd rfl (Or.inl rfl)) pgs_nil))) (fun _ _ _ _ _ => pts_nil)
        (fun _ _ _ _ _ => pe_op op_cat (C8.pe_c cS hr (by decide) rfl (pa_cons (pv 2) pa_nil)) (C8.pe_c cV hr (by decide) rfl (pa_cons (pv 3) pa_nil)))) pa_nil)))
      (pss_one (ps_ret (pe_op op_cat (pe_op op_cat (pe_op op_cat (C8.pe_c cS hr (by decide) rfl (pa_cons (pe_fld (pv 0) rfl) pa_nil)) (C8.pe_c cN hr (by decide) rfl (pa_cons (pe_fld (pv 0) rfl) pa_nil))) (pv 1)) (C8.pe_c cP hr (by decide) rfl (pa_cons (pe_fld (pv 0) rfl) pa_nil)))))), ?_⟩
    obtain ⟨fs, nv, fv, wv, hi, l1, l2, l3, l4, h2, h3, h4⟩ := hv
    have b0 : (cStr r.name ++ cNums r.vec ++ cList cField r.fields ++ cList cWord r.words).length ≤ Big := hb
    have b1 := app_le b0
    have b2 := app_le b1.1
    have b3 := app_le b2.1
    refine call_nl (x := r.fields.map cField) (fun Q' h => ?_) b2.2 ?_
    · refine comp_nl (K := K) (f := cField) st_field (fun _ q => fld_v (fun _ q => ⟨_, rfl, q⟩) hi T.cl_Record T.na_Record_fields l3 q) h3 (Nat.le_trans (codes_le fun _ _ => len_field) b2.2) ?_ Q' h
      rintro u y H1 Q1 hy ⟨a, rfl, ha⟩ k1
      refine ⟨a, _, rfl, SqT.of ha, rfl, _, _, rfl, _, _, rfl, rfl, rfl, ?_⟩
      have hl := Nat.le_trans (len_mem (f := cField) hy) b2.2
      exact cat_nl (a := cStr y.1) (b := cWv y.2) (fun Q2 h2 => call_nl (x := y.1) (fun Q3 q => ⟨_, rfl, q _ _ (Same.refl _) rfl⟩) (app_le hl).1 h2)
        (fun H2 s2 Q2 h2 => call_nl (x := y.2) (fun Q3 q => ⟨_, rfl, q _ _ (Same.refl _) rfl⟩) (app_le hl).2 h2) hl k1
    · intro H1 q s1 n1 e1
      have K1 := Same.keep s1
      have i1 := hi.keep K1
      dsimp only [gName, tRet]
      refine cat_nl (a := cStr r.name ++ cNums r.vec ++ cList cField r.fields) (b := cList cWord r.words) (fun Q2 k2 => ?_)
        (fun H2 s2 Q2 k2 => call_nl (x := r.words) (fun Q3 q => fld_v (fun _ q => ⟨_, rfl, q⟩) (i1.keep (Same.keep s2)) T.cl_Record T.na_Record_words l4 (q _ _ (Same.refl _) ((st_tup st_word).ap (Same.keep (s1.trans s2)) h4))) b1.2 k2) b0 (k.from s1)
      refine cat_ol (a := cStr r.name ++ cNums r.vec) (b := cList cField r.fields) (fun Q3 k3 => ?_) (fun H2 s2 Q3 k3 => ⟨_, rfl, k3 _ _ (Same.refl _) (s2 _ _ e1)⟩) b1.1 k2
      exact cat_nl (a := cStr r.name) (b := cNums r.vec) (fun Q4 k4 => call_nl (x := r.name) (fun Q5 q => fld_v (fun _ q => ⟨_, rfl, q⟩) i1 T.cl_Record T.na_Record_name l1 (q _ _ (Same.refl _) rfl)) b3.1 k4)
        (fun H2 s2 Q4 k4 => call_nl (x := r.vec) (fun Q5 q => fld_v (fun _ q => ⟨_, rfl, q⟩) (i1.keep (Same.keep s2)) T.cl_Record T.na_Record_vector l2 (q _ _ (Same.refl _) (.inr (st_TI.ap (Same.keep (s1.trans s2)) h2)))) b3.2 k4) b2.1 k3
end
end Snk
set_option maxHeartbeats 4000000
namespace Snk
open PySem PySem.Spec PyProof.Rows L2
/-- e.f, the written part by name (in a block) -/
theorem pe_fldK {X : Cx} {K : PySem.W.Frag} {e : Expr} {f : Str} {pos : Pos} {ta : TE} (hK : X.K = K) (he : PE X e ta) (hb : attributeBase e f X.env (eval e X.env) = eval e X.env) : PE X (.Attribute e f pos) (tFld K ta f) := by
  subst hK
  exact pe_fld he hb
theorem ty_ins {K : PySem.W.Frag} {mg : Str → Option Value} (T : Txt K mg) {x : Str} {H : Hp} {p dx : Addr} {fs : List (Str × V)} (e : H p = some (.ins (He.ga K x) dx fs)) (cl : Cls K (He.ga K x)) (hx : x ∈ factNames) : TyX K H (.ref p) (.ref (He.ga K x)) :=
  .base (.ins e cl (T.ins x hx).1 T.ocg T.oct (T.ins x hx).2)
/-- where a lack stands in the table -/
theorem lack_at {K : PySem.W.Frag} {mg : Str → Option Value} (T : Txt K mg) {k : Nat} (hk : k < 3) {H : Hp} {Q : VK} (q : Q (.int (k : Int)) H) :
    tyV K "tuple" (.ref (He.ga K "LACKS")) H ∧ ∃ p, ∃ ys : List Str, ∃ z j, V.ref (He.ga K "LACKS") = .ref p ∧ [V.str (lackS k)] = [.str z] ∧ SqT K H p (ys.map V.str) ∧ ys[j]? = some z ∧ (∀ m, m < j → ys[m]? ≠ some z) ∧ Q (.int (j : Nat)) H := by
  obtain ⟨o, h1, h2, h3⟩ := T.lackT
  refine ⟨.inr (.inl ⟨rfl, o, h1, h2, h3⟩), _, ["nobody", "some", "all"], lackS k, k, rfl, rfl, T.lacks H, ?_, ?_, q⟩
  · rcases k with _ | _ | _ | k
    · rfl
    · rfl
    · rfl
    · omega
  · have n1 : ¬ ("nobody" : Str) = "some" := by decide +kernel
    have n2 : ¬ ("nobody" : Str) = "all" := by decide +kernel
    have n3 : ¬ ("some" : Str) = "all" := by decide +kernel
    intro m hm
    rcases k with _ | _ | _ | k
    · omega
    · rcases m with _ | m
      · exact fun z => n1 (Option.some.inj z)
      · omega
    · rcases m with _ | _ | m
      · exact fun z => n2 (Option.some.inj z)
      · exact fun z => n3 (Option.some.inj z)
      · omega
    · omega
section
variable {P : Program} {w : World} {K : PySem.W.Frag} {mg : Str → Option Value} {base : Heap} {f : Addr} {fd : FuncData}
/-! ### fact_code -/
abbrev spFc (K : PySem.W.Frag) : Sp := spW (FcAt (csOf K)) cFc
abbrev N_fc : List Str := ["fact", "part", "choices", "choice"]
theorem sc_fc : FnScope N_fc ["fact"] (defScope s_fact_code) := ⟨rfl, rfl, rfl, by decide +kernel, rfl, by decide +kernel, by decide +kernel⟩
theorem len_pt {p : Pt} : 1 ≤ (cPt p).length := by
  unfold cPt
  rw [List.length_append]
  exact Nat.le_add_left _ _
theorem len_wv {x : Wv} : 1 ≤ (cWv x).length := by
  cases x <;> exact Nat.succ_le_succ (Nat.zero_le _)
theorem ok_fact_code (F : FnP K "fact_code" "fact_code" s_fact_code f fd) (T : Txt K mg) (cL : C8.Cal P w K mg base 1 "list_code" spLists []) (cN : C8.Cal P w K mg base 1 "numbers_code" spNums []) (cS : C8.Cal P w K mg base 2 "string_code" spStr []) (cV : C8.Cal P w K mg base 3 "value_code" spVal [])
    (cP : C8.Cal P w K mg base 3 "pairs_code" spPairs []) : FnOk P w K mg base C8.CX0 4 f fd ["fact"] (spFc K) := by
  refine F.ok sc_fc (fun vs H Q E h => ?_) (fun cdv A outer s H vs Q E hr h => ?_)
  · obtain ⟨v, x, rfl, _⟩ := h
    rfl
  · obtain ⟨v, r, rfl, hv, hb, k⟩ := h
    refine ⟨_, PSs.nox (pss_cons (ps_if (pt_val (pe_callB call_isi (by rfl) T.n_isinstance (by decide +kernel) (pa_cons (pv 0) (pa_cons (pe_glob rfl T.g_Parts (v := .ref (He.ga K "Parts")) rfl) pa_nil))))
        (pss_one (ps_ret (pe_op op_cat (pe_lst (pa_cons pe_int pa_nil)) (C8.pe_c cL hr (by decide) rfl (pa_cons (pe_lc (own := [("part", 1)]) (g := gName 1) (tt := tYes) rfl sc_fc.nd (pi_tup (pe_fld (pv 0) rfl)) (blkOk_by (N := N_fc) (sc := defScope s_fact_code) (by decide +kernel)) (fun _ _ _ _ _ => pg_name (i := 1) sc_fc.nd rfl (Or.inl rfl)) (fun _ _ _ _ _ => pts_nil)
          (fun _ _ _ _ _ => pe_op op_cat (pe_op op_cat (pe_lst (pa_cons (pe_fldK (K := K) rfl (pv 1) rfl) pa_nil)) (C8.pe_c cN hr (by decide) rfl (pa_cons (pe_fldK (K := K) rfl (pv 1) rfl) pa_nil))) (pe_lst (pa_cons (pe_fldK (K := K) rfl (pv 1) rfl) pa_nil)))) pa_nil))))) pss_nil)
      (pss_cons (ps_if (pt_val (pe_callB call_isi (by rfl) T.n_isinstance (by decide +kernel) (pa_cons (pv 0) (pa_cons (pe_glob rfl T.g_Cell (v := .ref (He.ga K "Cell")) rfl) pa_nil))))
        (pss_one (ps_ret (pe_op op_cat (pe_op op_cat (pe_lst (pa_cons pe_int pa_nil)) (C8.pe_c cN hr (by decide) rfl (pa_cons (pe_fld (pv 0) rfl) pa_nil))) (C8.pe_c cN hr (by decide) rfl (pa_cons (pe_fld (pv 0) rfl) pa_nil))))) pss_nil)
      (pss_cons (ps_if (pt_val (pe_callB call_isi (by rfl) T.n_isinstance (by decide +kernel) (pa_cons (pv 0) (pa_cons (pe_glob rfl T.g_Box (v := .ref (He.ga K "Box")) rfl) pa_nil))))
        (pss_one (ps_ret (pe_op op_cat (pe_op op_cat (pe_lst (pa_cons pe_int pa_nil)) (C8.pe_c cN hr (by decide) rfl (pa_cons (pe_fld (pv 0) rfl) pa_nil))) (C8.pe_c cN hr (by decide) rfl (pa_cons (pe_fld (pv 0) rfl) pa_nil))))) pss_nil)
      (pss_cons (ps_if (pt_val (pe_callB call_isi (by rfl) T.n_isinstance (by decide +kernel) (pa_cons (pv 0) (pa_cons (pe_glob rfl T.g_Norms (v := .ref (He.ga K "Norms")) rfl) pa_nil))))
        (pss_one (ps_ret (pe_lst (pa_cons pe_int (pa_cons (pe_fld (pv 0) rfl) (pa_cons (pe_fld (pv 0) rfl) pa_nil)))))) pss_nil)
      (pss_cons (ps_if (pt_val (pe_callB call_isi (by rfl) T.n_isinstance (by decide +kernel) (pa_cons (pv 0) (pa_cons (pe_glob rfl T.g_Differ (v := .ref (He.ga K "Differ")) rfl) pa_nil))))
        (pss_one (ps_ret (pe_op op_cat (pe_op op_cat (pe_lst (pa_cons pe_int pa_nil)) (C8.pe_c cN hr (by decide) rfl (pa_cons (pe_fld (pv 0) rfl) pa_nil))) (pe_lst (pa_cons (pe_fld (pv 0) rfl) pa_nil))))) pss_nil)
      (pss_cons (ps_if (pt_val (pe_callB call_isi (by rfl) T.n_isinstance (by decide +kernel) (pa_cons (pv 0) (pa_cons (pe_glob rfl T.g_Range (v := .ref (He.ga K "Range")) rfl) pa_nil))))
        (pss_one (ps_ret (pe_op op_cat (pe_op op_cat (pe_lst (pa_cons pe_int pa_nil)) (C8.pe_c cS hr (by decide) rfl (pa_cons (pe_fld (pv 0) rfl) pa_nil))) (pe_lst (pa_cons (pe_fld (pv 0) rfl) (pa_cons (pe_fld (pv 0) rfl) (pa_cons (pe_bm PySem.F.plainAttrs_tuple PySem.F.slot_tuple_index PySem.F.type_tuple_index mt_tup_index (pe_glob rfl T.g_LACKS (v := .ref (He.ga K "LACKS")) rfl) (pa_cons (pe_fld (pv 0) rfl) pa_nil)) pa_nil))))))) pss_nil)
      (pss_cons (ps_if (pt_val (pe_callB call_isi (by rfl) T.n_isinstance (by decide +kernel) (pa_cons (pv 0) (pa_cons (pe_glob rfl T.g_Values (v := .ref (He.ga K "Values")) rfl) pa_nil))))
        (pss_cons (ps_set (i := 2) sc_fc.nd rfl (Or.inl rfl) (C8.pe_c cL hr (by decide) rfl (pa_cons (pe_lc (own := [("choice", 3)]) (g := gName 3) (tt := tYes) rfl sc_fc.nd (pi_tup (pe_fld (pv 0) rfl)) (blkOk_by (N := N_fc) (sc := defScope s_fact_code) (by decide +kernel)) (fun _ _ _ _ _ => pg_name (i := 3) sc_fc.nd rfl (Or.inl rfl)) (fun _ _ _ _ _ => pts_nil)
          (fun _ _ _ _ _ => C8.pe_c cV hr (by decide) rfl (pa_cons (pv 3) pa_nil))) pa_nil))) (pss_one (ps_ret (pe_op op_cat (pe_op op_cat (pe_op op_cat (pe_lst (pa_cons pe_int pa_nil)) (C8.pe_c cS hr (by decide) rfl (pa_cons (pe_fld (pv 0) rfl) pa_nil))) (pv 2)) (pe_lst (pa_cons (pe_bm PySem.F.plainAttrs_tuple PySem.F.slot_tuple_index PySem.F.type_tuple_index mt_tup_index (pe_glob rfl T.g_LACKS (v := .ref (He.ga K "LACKS")) rfl) (pa_cons (pe_fld (pv 0) rfl) pa_nil)) pa_nil)))))) pss_nil)
      (pss_cons (ps_if (pt_val (pe_callB call_isi (by rfl) T.n_isinstance (by decide +kernel) (pa_cons (pv 0) (pa_cons (pe_glob rfl T.g_Counts (v := .ref (He.ga K "Counts")) rfl) pa_nil))))
        (pss_one (ps_ret (pe_op op_cat (pe_lst (pa_cons pe_int pa_nil)) (C8.pe_c cP hr (by decide) rfl (pa_cons (pe_fld (pv 0) rfl) pa_nil))))) pss_nil)
      (pss_cons (ps_assert (pt_val (pe_callB call_isi (by rfl) T.n_isinstance (by decide +kernel) (pa_cons (pv 0) (pa_cons (pe_glob rfl T.g_Names (v := .ref (He.ga K "Names")) rfl) pa_nil))))) (pss_one (ps_ret (pe_op op_cat (pe_op op_cat (pe_lst (pa_cons pe_int pa_nil)) (C8.pe_c cS hr (by decide) rfl (pa_cons (pe_fld (pv 0) rfl) pa_nil))) (C8.pe_c cS hr (by decide) rfl (pa_cons (pe_fld (pv 0) rfl) pa_nil)))))))))))))), ?_⟩
    have self : ∀ {Q1 : VK} {H1 : Hp}, Q1 v H1 → tVar 0 (L2.start N_fc [v]) H1 Q1 := fun q => ⟨_, rfl, q⟩
    cases r with
    | parts ps =>
      obtain ⟨fs, u, hi, l1, h1⟩ := hv
      obtain ⟨p, dx, rfl, hp, ok⟩ := id hi
      have ty := ty_ins T hp T.cl_Parts (by decide +kernel)
      refine ⟨_, rfl, _, .ref (He.ga K "Parts"), _, _, true, rfl, .own _, ty, T.isi ("Parts", "Parts", true) (by decide +kernel), _, rfl, iteT ?_⟩
      dsimp only [tNext, tRet, gName]
      have hl := (app_le (a := [1]) hb).2
      refine cat_nl (a := [1]) (b := cList cPt ps) (fun Q' h => lst1_nl (fun _ q => q) h) (fun H1 s1 Q' h => ?_) hb k
      refine call_nl (x := ps.map cPt) (fun Q2 h2 => ?_) hl h
      refine comp_nl (K := K) (f := cPt) st_pt (fun _ q => fld_v (fun _ q => self q) (hi.keep (Same.keep s1)) T.cl_Parts T.na_Parts_parts l1 q) ((st_tup st_pt).ap (Same.keep s1) h1) (Nat.le_trans (codes_le fun _ _ => len_pt) hl) ?_ Q2 h2
      intro z y H2 Q3 hy hz k3
      refine ⟨rfl, ?_⟩
      have hl2 := Nat.le_trans (len_mem (f := cPt) hy) hl
      have hl3 : ([y.start] ++ cNums y.centre).length ≤ Big := (app_le (a := [y.start] ++ cNums y.centre) (b := [y.radius]) hl2).1
      obtain ⟨gs, w', gi, m1, m2, m3, m4⟩ := hz
      refine cat_nl (a := [y.start] ++ cNums y.centre) (b := [y.radius]) (fun Q4 k4 => ?_) (fun H3 s3 Q4 k4 => lst1_nl (fun _ q => fld_v (fun _ q => ⟨_, rfl, q⟩) (gi.keep (Same.keep s3)) T.cl_Part T.na_Part_radius m3 q) k4) hl2 k3
      exact cat_nl (a := [y.start]) (b := cNums y.centre) (fun Q5 k5 => lst1_nl (fun _ q => fld_v (fun _ q => ⟨_, rfl, q⟩) gi T.cl_Part T.na_Part_start m1 q) k5)
        (fun H3 s3 Q5 k5 => call_nl (x := y.centre) (fun Q6 q => fld_v (fun _ q => ⟨_, rfl, q⟩) (gi.keep (Same.keep s3)) T.cl_Part T.na_Part_centre m2 (q _ _ (Same.refl _) (.inr (st_TI.ap (Same.keep s3) m4)))) (app_le (a := [y.start]) hl3).2 k5) hl3 k4
    | cell a b =>
      obtain ⟨fs, u, z, hi, l1, l2, h1, h2⟩ := hv
      obtain ⟨p, dx, rfl, hp, ok⟩ := id hi
      have ty := ty_ins T hp T.cl_Cell (by decide +kernel)
      refine ⟨_, rfl, _, .ref (He.ga K "Parts"), _, _, false, rfl, .own _, ty, T.isi ("Cell", "Parts", false) (by decide +kernel), _, rfl, iteF ?_⟩
      refine ⟨_, rfl, _, .ref (He.ga K "Cell"), _, _, true, rfl, .own _, ty, T.isi ("Cell", "Cell", true) (by decide +kernel), _, rfl, iteT ?_⟩
      dsimp only [tNext, tRet, gName]
      have b1 := app_le (a := [2] ++ cNums a) (b := cNums b) hb
      refine cat_nl (a := [2] ++ cNums a) (b := cNums b) (fun Q2 k2 => ?_) (fun H1 s1 Q2 k2 => call_nl (x := b) (fun Q3 q => fld_v (fun _ q => self q) (hi.keep (Same.keep s1)) T.cl_Cell T.na_Cell_rival l2 (q _ _ (Same.refl _) (.inr (st_TI.ap (Same.keep s1) h2)))) b1.2 k2) hb k
      exact cat_nl (a := [2]) (b := cNums a) (fun Q3 k3 => lst1_nl (fun _ q => q) k3) (fun H1 s1 Q3 k3 => call_nl (x := a) (fun Q4 q => fld_v (fun _ q => self q) (hi.keep (Same.keep s1)) T.cl_Cell T.na_Cell_near l1 (q _ _ (Same.refl _) (.inr (st_TI.ap (Same.keep s1) h1)))) (app_le (a := [2]) b1.1).2 k3) b1.1 k2
    | box a b =>
      obtain ⟨fs, u, z, hi, l1, l2, h1, h2⟩ := hv
      obtain ⟨p, dx, rfl, hp, ok⟩ := id hi
      have ty := ty_ins T hp T.cl_Box (by decide +kernel)
      refine ⟨_, rfl, _, .ref (He.ga K "Parts"), _, _, false, rfl, .own _, ty, T.isi ("Box", "Parts", false) (by decide +kernel), _, rfl, iteF ?_⟩
      refine ⟨_, rfl, _, .ref (He.ga K "Cell"), _, _, false, rfl, .own _, ty, T.isi ("Box", "Cell", false) (by decide +kernel), _, rfl, iteF ?_⟩
      refine ⟨_, rfl, _, .ref (He.ga K "Box"), _, _, true, rfl, .own _, ty, T.isi ("Box", "Box", true) (by decide +kernel), _, rfl, iteT ?_⟩
      dsimp only [tNext, tRet, gName]
      have b1 := app_le (a := [3] ++ cNums a) (b := cNums b) hb
      refine cat_nl (a := [3] ++ cNums a) (b := cNums b) (fun Q2 k2 => ?_) (fun H1 s1 Q2 k2 => call_nl (x := b) (fun Q3 q => fld_v (fun _ q => self q) (hi.keep (Same.keep s1)) T.cl_Box T.na_Box_high l2 (q _ _ (Same.refl _) (.inr (st_TI.ap (Same.keep s1) h2)))) b1.2 k2) hb k
      exact cat_nl (a := [3]) (b := cNums a) (fun Q3 k3 => lst1_nl (fun _ q => q) k3) (fun H1 s1 Q3 k3 => call_nl (x := a) (fun Q4 q => fld_v (fun _ q => self q) (hi.keep (Same.keep s1)) T.cl_Box T.na_Box_low l1 (q _ _ (Same.refl _) (.inr (st_TI.ap (Same.keep s1) h1)))) (app_le (a := [3]) b1.1).2 k3) b1.1 k2
    | norms a b =>
      obtain ⟨fs, hi, l1, l2⟩ := hv
      obtain ⟨p, dx, rfl, hp, ok⟩ := id hi
      have ty := ty_ins T hp T.cl_Norms (by decide +kernel)
      refine ⟨_, rfl, _, .ref (He.ga K "Parts"), _, _, false, rfl, .own _, ty, T.isi ("Norms", "Parts", false) (by decide +kernel), _, rfl, iteF ?_⟩
      refine ⟨_, rfl, _, .ref (He.ga K "Cell"), _, _, false, rfl, .own _, ty, T.isi ("Norms", "Cell", false) (by decide +kernel), _, rfl, iteF ?_⟩
      refine ⟨_, rfl, _, .ref (He.ga K "Box"), _, _, false, rfl, .own _, ty, T.isi ("Norms", "Box", false) (by decide +kernel), _, rfl, iteF ?_⟩
      refine ⟨_, rfl, _, .ref (He.ga K "Norms"), _, _, true, rfl, .own _, ty, T.isi ("Norms", "Norms", true) (by decide +kernel), _, rfl, iteT ?_⟩
      dsimp only [tNext, tRet, gName]
      exact lst3_nl (i := 4) (j := a) (l := b) (fun _ q => q) (fun _ q => fld_v (fun _ q => self q) hi T.cl_Norms T.na_Norms_low l1 q) (fun _ q => fld_v (fun _ q => self q) hi T.cl_Norms T.na_Norms_high l2 q) k
    | differ a m =>
      obtain ⟨fs, u, hi, l1, l2, h1⟩ := hv
      obtain ⟨p, dx, rfl, hp, ok⟩ := id hi
      have ty := ty_ins T hp T.cl_Differ (by decide +kernel)
      refine ⟨_, rfl, _, .ref (He.ga K "Parts"), _, _, false, rfl, .own _, ty, T.isi ("Differ", "Parts", false) (by decide +kernel), _, rfl, iteF ?_⟩
      refine ⟨_, rfl, _, .ref (He.ga K "Cell"), _, _, false, rfl, .own _, ty, T.isi ("Differ", "Cell", false) (by decide +kernel), _, rfl, iteF ?_⟩
      refine ⟨_, rfl, _, .ref (He.ga K "Box"), _, _, false, rfl, .own _, ty, T.isi ("Differ", "Box", false) (by decide +kernel), _, rfl, iteF ?_⟩
      refine ⟨_, rfl, _, .ref (He.ga K "Norms"), _, _, false, rfl, .own _, ty, T.isi ("Differ", "Norms", false) (by decide +kernel), _, rfl, iteF ?_⟩
      refine ⟨_, rfl, _, .ref (He.ga K "Differ"), _, _, true, rfl, .own _, ty, T.isi ("Differ", "Differ", true) (by decide +kernel), _, rfl, iteT ?_⟩
      dsimp only [tNext, tRet, gName]
      have b1 := app_le (a := [5] ++ cNums a) (b := [m]) hb
      refine cat_nl (a := [5] ++ cNums a) (b := [m]) (fun Q2 k2 => ?_) (fun H1 s1 Q2 k2 => lst1_nl (fun Q3 q => fld_v (fun _ q => self q) (hi.keep (Same.keep s1)) T.cl_Differ T.na_Differ_most l2 q) k2) hb k
      exact cat_nl (a := [5]) (b := cNums a) (fun Q3 k3 => lst1_nl (fun _ q => q) k3) (fun H1 s1 Q3 k3 => call_nl (x := a) (fun Q4 q => fld_v (fun _ q => self q) (hi.keep (Same.keep s1)) T.cl_Differ T.na_Differ_centre l1 (q _ _ (Same.refl _) (.inr (st_TI.ap (Same.keep s1) h1)))) (app_le (a := [5]) b1.1).2 k3) b1.1 k2
    | range a lo hi' j =>
      obtain ⟨fs, hi, l1, l2, l3, l4, hj⟩ := hv
      obtain ⟨p, dx, rfl, hp, ok⟩ := id hi
      have ty := ty_ins T hp T.cl_Range (by decide +kernel)
      refine ⟨_, rfl, _, .ref (He.ga K "Parts"), _, _, false, rfl, .own _, ty, T.isi ("Range", "Parts", false) (by decide +kernel), _, rfl, iteF ?_⟩
      refine ⟨_, rfl, _, .ref (He.ga K "Cell"), _, _, false, rfl, .own _, ty, T.isi ("Range", "Cell", false) (by decide +kernel), _, rfl, iteF ?_⟩
      refine ⟨_, rfl, _, .ref (He.ga K "Box"), _, _, false, rfl, .own _, ty, T.isi ("Range", "Box", false) (by decide +kernel), _, rfl, iteF ?_⟩
      refine ⟨_, rfl, _, .ref (He.ga K "Norms"), _, _, false, rfl, .own _, ty, T.isi ("Range", "Norms", false) (by decide +kernel), _, rfl, iteF ?_⟩
      refine ⟨_, rfl, _, .ref (He.ga K "Differ"), _, _, false, rfl, .own _, ty, T.isi ("Range", "Differ", false) (by decide +kernel), _, rfl, iteF ?_⟩
      refine ⟨_, rfl, _, .ref (He.ga K "Range"), _, _, true, rfl, .own _, ty, T.isi ("Range", "Range", true) (by decide +kernel), _, rfl, iteT ?_⟩
      dsimp only [tNext, tRet, gName]
      have b1 := app_le (a := [6] ++ cStr a) (b := [lo, hi', (j : Int)]) hb
      refine cat_nl (a := [6] ++ cStr a) (b := [lo, hi', (j : Int)]) (fun Q2 k2 => ?_) (fun H1 s1 Q2 k2 => ?_) hb k
      · exact cat_nl (a := [6]) (b := cStr a) (fun Q3 k3 => lst1_nl (fun _ q => q) k3) (fun H1 s1 Q3 k3 => call_nl (x := a) (fun Q4 q => fld_v (fun _ q => self q) (hi.keep (Same.keep s1)) T.cl_Range T.na_Range_field l1 (q _ _ (Same.refl _) rfl)) (app_le (a := [6]) b1.1).2 k3) b1.1 k2
      · have i1 := hi.keep (Same.keep s1)
        refine lst3_nl (i := lo) (j := hi') (l := (j : Int)) (fun _ q => fld_v (fun _ q => self q) i1 T.cl_Range T.na_Range_low l3 q) (fun _ q => fld_v (fun _ q => self q) i1 T.cl_Range T.na_Range_high l4 q) (fun _ q => ?_) k2
        obtain ⟨t1, t2⟩ := lack_at T hj q
        exact ⟨t1, fld_v (fun _ q => self q) i1 T.cl_Range T.na_Range_lack l2 t2⟩
    | values a cs j =>
      obtain ⟨fs, u, hi, l1, l2, l3, h1, hj⟩ := hv
      obtain ⟨p, dx, rfl, hp, ok⟩ := id hi
      have ty := ty_ins T hp T.cl_Values (by decide +kernel)
      refine ⟨_, rfl, _, .ref (He.ga K "Parts"), _, _, false, rfl, .own _, ty, T.isi ("Values", "Parts", false) (by decide +kernel), _, rfl, iteF ?_⟩
      refine ⟨_, rfl, _, .ref (He.ga K "Cell"), _, _, false, rfl, .own _, ty, T.isi ("Values", "Cell", false) (by decide +kernel), _, rfl, iteF ?_⟩
      refine ⟨_, rfl, _, .ref (He.ga K "Box"), _, _, false, rfl, .own _, ty, T.isi ("Values", "Box", false) (by decide +kernel), _, rfl, iteF ?_⟩
      refine ⟨_, rfl, _, .ref (He.ga K "Norms"), _, _, false, rfl, .own _, ty, T.isi ("Values", "Norms", false) (by decide +kernel), _, rfl, iteF ?_⟩
      refine ⟨_, rfl, _, .ref (He.ga K "Differ"), _, _, false, rfl, .own _, ty, T.isi ("Values", "Differ", false) (by decide +kernel), _, rfl, iteF ?_⟩
      refine ⟨_, rfl, _, .ref (He.ga K "Range"), _, _, false, rfl, .own _, ty, T.isi ("Values", "Range", false) (by decide +kernel), _, rfl, iteF ?_⟩
      refine ⟨_, rfl, _, .ref (He.ga K "Values"), _, _, true, rfl, .own _, ty, T.isi ("Values", "Values", true) (by decide +kernel), _, rfl, iteT ?_⟩
      dsimp only [tNext, tRet, gName]
      have b1 := app_le (a := [7] ++ cStr a ++ cList cWv cs) (b := [(j : Int)]) hb
      have b2 := app_le (a := [7] ++ cStr a) (b := cList cWv cs) b1.1
      refine call_nl (x := cs.map cWv) (fun Q2 h2 => ?_) b2.2 ?_
      · refine comp_nl (K := K) (f := cWv) st_wv (fun _ q => fld_v (fun _ q => self q) hi T.cl_Values T.na_Values_choices l3 q) h1 (Nat.le_trans (codes_le fun _ _ => len_wv) b2.2) ?_ Q2 h2
        intro z y H2 Q3 hy hz k3
        exact ⟨rfl, call_nl (x := y) (fun Q4 q => ⟨_, rfl, q _ _ (Same.refl _) hz⟩) (Nat.le_trans (len_mem (f := cWv) hy) b2.2) k3⟩
      · intro H1 q s1 n1 e1
        dsimp only
        have i1 := hi.keep (Same.keep s1)
        refine cat_nl (a := [7] ++ cStr a ++ cList cWv cs) (b := [(j : Int)]) (fun Q2 k2 => ?_) (fun H2 s2 Q2 k2 => lst1_nl (fun _ q => ?_) k2) hb (k.from s1)
        · refine cat_ol (a := [7] ++ cStr a) (b := cList cWv cs) (fun Q3 k3 => ?_) (fun H2 s2 Q3 k3 => ⟨_, rfl, k3 _ _ (Same.refl _) (s2 _ _ e1)⟩) b1.1 k2
          exact cat_nl (a := [7]) (b := cStr a) (fun Q4 k4 => lst1_nl (fun _ q => q) k4) (fun H2 s2 Q4 k4 => call_nl (x := a) (fun Q5 q => fld_v (fun _ q => ⟨_, rfl, q⟩) (i1.keep (Same.keep s2)) T.cl_Values T.na_Values_field l1 (q _ _ (Same.refl _) rfl)) (app_le (a := [7]) b2.1).2 k4) b2.1 k3
        · obtain ⟨t1, t2⟩ := lack_at T hj q
          exact ⟨t1, fld_v (fun _ q => ⟨_, rfl, q⟩) (i1.keep (Same.keep s2)) T.cl_Values T.na_Values_lack l2 t2⟩
    | counts ws =>
      obtain ⟨fs, u, hi, l1, h1⟩ := hv
      obtain ⟨p, dx, rfl, hp, ok⟩ := id hi
      have ty := ty_ins T hp T.cl_Counts (by decide +kernel)
      refine ⟨_, rfl, _, .ref (He.ga K "Parts"), _, _, false, rfl, .own _, ty, T.isi ("Counts", "Parts", false) (by decide +kernel), _, rfl, iteF ?_⟩
      refine ⟨_, rfl, _, .ref (He.ga K "Cell"), _, _, false, rfl, .own _, ty, T.isi ("Counts", "Cell", false) (by decide +kernel), _, rfl, iteF ?_⟩
      refine ⟨_, rfl, _, .ref (He.ga K "Box"), _, _, false, rfl, .own _, ty, T.isi ("Counts", "Box", false) (by decide +kernel), _, rfl, iteF ?_⟩
      refine ⟨_, rfl, _, .ref (He.ga K "Norms"), _, _, false, rfl, .own _, ty, T.isi ("Counts", "Norms", false) (by decide +kernel), _, rfl, iteF ?_⟩
      refine ⟨_, rfl, _, .ref (He.ga K "Differ"), _, _, false, rfl, .own _, ty, T.isi ("Counts", "Differ", false) (by decide +kernel), _, rfl, iteF ?_⟩
      refine ⟨_, rfl, _, .ref (He.ga K "Range"), _, _, false, rfl, .own _, ty, T.isi ("Counts", "Range", false) (by decide +kernel), _, rfl, iteF ?_⟩
      refine ⟨_, rfl, _, .ref (He.ga K "Values"), _, _, false, rfl, .own _, ty, T.isi ("Counts", "Values", false) (by decide +kernel), _, rfl, iteF ?_⟩
      refine ⟨_, rfl, _, .ref (He.ga K "Counts"), _, _, true, rfl, .own _, ty, T.isi ("Counts", "Counts", true) (by decide +kernel), _, rfl, iteT ?_⟩
      dsimp only [tNext, tRet, gName]
      exact cat_nl (a := [8]) (b := cList cWord ws) (fun Q3 k3 => lst1_nl (fun _ q => q) k3) (fun H1 s1 Q3 k3 => call_nl (x := ws) (fun Q4 q => fld_v (fun _ q => self q) (hi.keep (Same.keep s1)) T.cl_Counts T.na_Counts_words l1 (q _ _ (Same.refl _) ((st_tup st_word).ap (Same.keep s1) h1))) (app_le (a := [8]) hb).2 k3) hb k
    | names a b =>
      obtain ⟨fs, hi, l1, l2⟩ := hv
      obtain ⟨p, dx, rfl, hp, ok⟩ := id hi
      have ty := ty_ins T hp T.cl_Names (by decide +kernel)
      refine ⟨_, rfl, _, .ref (He.ga K "Parts"), _, _, false, rfl, .own _, ty, T.isi ("Names", "Parts", false) (by decide +kernel), _, rfl, iteF ?_⟩
      refine ⟨_, rfl, _, .ref (He.ga K "Cell"), _, _, false, rfl, .own _, ty, T.isi ("Names", "Cell", false) (by decide +kernel), _, rfl, iteF ?_⟩
      refine ⟨_, rfl, _, .ref (He.ga K "Box"), _, _, false, rfl, .own _, ty, T.isi ("Names", "Box", false) (by decide +kernel), _, rfl, iteF ?_⟩
      refine ⟨_, rfl, _, .ref (He.ga K "Norms"), _, _, false, rfl, .own _, ty, T.isi ("Names", "Norms", false) (by decide +kernel), _, rfl, iteF ?_⟩
      refine ⟨_, rfl, _, .ref (He.ga K "Differ"), _, _, false, rfl, .own _, ty, T.isi ("Names", "Differ", false) (by decide +kernel), _, rfl, iteF ?_⟩
      refine ⟨_, rfl, _, .ref (He.ga K "Range"), _, _, false, rfl, .own _, ty, T.isi ("Names", "Range", false) (by decide +kernel), _, rfl, iteF ?_⟩
      refine ⟨_, rfl, _, .ref (He.ga K "Values"), _, _, false, rfl, .own _, ty, T.isi ("Names", "Values", false) (by decide +kernel), _, rfl, iteF ?_⟩
      refine ⟨_, rfl, _, .ref (He.ga K "Counts"), _, _, false, rfl, .own _, ty, T.isi ("Names", "Counts", false) (by decide +kernel), _, rfl, iteF ?_⟩
      refine ⟨_, rfl, _, .ref (He.ga K "Names"), _, _, true, rfl, .own _, ty, T.isi ("Names", "Names", true) (by decide +kernel), _, rfl, rfl, ?_⟩
      dsimp only [tNext, tRet, gName]
      have b1 := app_le (a := [9] ++ cStr a) (b := cStr b) hb
      refine cat_nl (a := [9] ++ cStr a) (b := cStr b) (fun Q2 k2 => ?_) (fun H1 s1 Q2 k2 => call_nl (x := b) (fun Q3 q => fld_v (fun _ q => self q) (hi.keep (Same.keep s1)) T.cl_Names T.na_Names_high l2 (q _ _ (Same.refl _) rfl)) b1.2 k2) hb k
      exact cat_nl (a := [9]) (b := cStr a) (fun Q3 k3 => lst1_nl (fun _ q => q) k3) (fun H1 s1 Q3 k3 => call_nl (x := a) (fun Q4 q => fld_v (fun _ q => self q) (hi.keep (Same.keep s1)) T.cl_Names T.na_Names_low l1 (q _ _ (Same.refl _) rfl)) (app_le (a := [9]) b1.1).2 k3) b1.1 k2
end
end Snk
set_option maxHeartbeats 4000000
namespace Snk
open PySem PySem.Spec PyProof.Rows L2
theorem len_fc {x : Fc} : 1 ≤ (cFc x).length := by
  cases x <;> exact Nat.succ_le_succ (Nat.zero_le _)
theorem len_rg {x : Rg} : 1 ≤ (cRg x).length := by
  unfold cRg
  rw [List.length_append]
  have : 1 ≤ (cOpt x.parent).length := by
    cases x.parent <;> exact Nat.succ_le_succ (Nat.zero_le _)
  omega
theorem len_pn {x : List Rg} : 1 ≤ (cPn x).length := Nat.succ_le_succ (Nat.zero_le _)
theorem len_en {x : En} : 1 ≤ (cEn x).length := by
  unfold cEn
  rw [List.length_append, List.length_append, List.length_singleton]
  omega
section
variable {P : Program} {w : World} {K : PySem.W.Frag} {mg : Str → Option Value} {base : Heap} {f : Addr} {fd : FuncData}
/-! ### region_code -/
abbrev spRg (K : PySem.W.Frag) : Sp := spW (RgAt (csOf K)) cRg
abbrev N_rgc : List Str := ["region", "parent", "fact"]
theorem sc_rgc : FnScope N_rgc ["region"] (defScope s_region_code) := ⟨rfl, rfl, rfl, by decide +kernel, rfl, by decide +kernel, by decide +kernel⟩
theorem ok_region_code (F : FnP K "region_code" "region_code" s_region_code f fd) (T : Txt K mg) (cL : C8.Cal P w K mg base 1 "list_code" spLists []) (cM : C8.Cal P w K mg base 1 "maybe_code" spMb []) (cF : C8.Cal P w K mg base 4 "fact_code" (spFc K) []) :
    FnOk P w K mg base C8.CX0 5 f fd ["region"] (spRg K) := by
  refine F.ok sc_rgc (fun vs H Q E h => ?_) (fun cdv A outer s H vs Q E hr h => ?_)
  · obtain ⟨v, x, rfl, _⟩ := h
    rfl
  · obtain ⟨v, r, rfl, ⟨fs, pv', fv, hi, l1, l2, h1, h2⟩, hb, k⟩ := h
    refine ⟨_, PSs.nox (pss_cons (ps_set (i := 1) sc_rgc.nd rfl (Or.inl rfl) (C8.pe_c cM hr (by decide) rfl (pa_cons (pe_ifExp (pt_cmp (pc_isN (pe_fld (pv 0) rfl))) pe_non (pe_lst (pa_cons (pe_fld (pv 0) rfl) pa_nil))) pa_nil)))
      (pss_one (ps_ret (pe_op op_cat (pv 1) (C8.pe_c cL hr (by decide) rfl (pa_cons
        (pe_lc (own := [("fact", 2)]) (g := gName 2) (tt := tYes) rfl sc_rgc.nd (pi_tup (pe_fld (pv 0) rfl)) (blkOk_by (N := N_rgc) (sc := defScope s_region_code) (by decide +kernel)) (fun _ _ _ _ _ => pg_name (i := 2) sc_rgc.nd rfl (Or.inl rfl)) (fun _ _ _ _ _ => pts_nil)
          (fun _ _ _ _ _ => C8.pe_c cF hr (by decide) rfl (pa_cons (pv 2) pa_nil))) pa_nil)))))), ?_⟩
    have b1 := app_le (a := cOpt r.parent) (b := cList cFc r.facts) hb
    have em : cMb (r.parent.map fun i => [i]) = cOpt r.parent := by cases r.parent <;> rfl
    refine call_nl (R := MbAt) (c := cMb) (x := r.parent.map fun i => [i]) (fun Q2 h2 => ?_) (by rw [em]; exact b1.1) ?_
    · refine fld_v (fun _ q => ⟨_, rfl, q⟩) hi T.cl_Region T.na_Region_parent l1 ⟨_, rfl, ?_⟩
      cases hp : r.parent with
      | none =>
        rw [hp] at h1 h2
        obtain rfl : pv' = .non := h1
        rw [decide_eq_true rfl]
        exact iteT (h2 _ _ (Same.refl _) rfl)
      | some i =>
        rw [hp] at h1 h2
        obtain rfl : pv' = .int i := h1
        rw [decide_eq_false (fun z => nomatch z)]
        exact iteF (lst1_nl (i := i) (fun _ q => fld_v (fun _ q => ⟨_, rfl, q⟩) hi T.cl_Region T.na_Region_parent l1 q) fun H' q s n e => h2 _ _ s ⟨q, rfl, e⟩)
    · rw [em]
      intro H1 q s1 n1 e1
      dsimp only [gName, tRet]
      refine ⟨_, rfl, ?_⟩
      refine call_nl (x := r.facts.map cFc) (fun Q2 q0 => ?_) b1.2 fun H2 q2 s2 n2 e2 => ?_
      · refine comp_nl (K := K) (f := cFc) st_fc (fun _ q => fld_v (fun _ q => ⟨_, rfl, q⟩) (hi.keep (Same.keep s1)) T.cl_Region T.na_Region_facts l2 q) ((st_tup st_fc).ap (Same.keep s1) h2) (Nat.le_trans (codes_le fun _ _ => len_fc) b1.2) ?_ Q2 q0
        intro z y H2 Q3 hy hz k3
        exact ⟨rfl, call_nl (x := y) (fun Q4 q => ⟨_, rfl, q _ _ (Same.refl _) hz⟩) (Nat.le_trans (len_mem (f := cFc) hy) b1.2) k3⟩
      · refine ⟨q, q2, _, _, rfl, rfl, s2 _ _ e1, e2, ?_, fun t ht => k _ t ((s1.trans s2).trans (same_new ht)) ((s1.trans s2).free ht) ?_⟩
        · rw [List.length_map, List.length_map, ← List.length_append]
          exact Nat.le_of_lt (big_line hb)
        · rw [upd_same, ← List.map_append]
          rfl
/-! ### partition_code -/
abbrev spPn (K : PySem.W.Frag) : Sp := spW (TupAt (RgAt (csOf K))) cPn
abbrev N_pnc : List Str := ["regions", "region"]
theorem sc_pnc : FnScope N_pnc ["regions"] (defScope s_partition_code) := ⟨rfl, rfl, rfl, by decide +kernel, rfl, by decide +kernel, by decide +kernel⟩
theorem ok_partition_code (F : FnP K "partition_code" "partition_code" s_partition_code f fd) (T : Txt K mg) (cL : C8.Cal P w K mg base 1 "list_code" spLists []) (cR : C8.Cal P w K mg base 5 "region_code" (spRg K) []) :
    FnOk P w K mg base C8.CX0 6 f fd ["regions"] (spPn K) := by
  refine F.ok sc_pnc (fun vs H Q E h => ?_) (fun cdv A outer s H vs Q E hr h => ?_)
  · obtain ⟨v, x, rfl, _⟩ := h
    rfl
  · obtain ⟨v, rs, rfl, hv, hb, k⟩ := h
    refine ⟨_, PSs.nox (pss_one (ps_ret (C8.pe_c cL hr (by decide) rfl (pa_cons
        (pe_lc (own := [("region", 1)]) (g := gName 1) (tt := tYes) rfl sc_pnc.nd (pi_tup (pv 0)) (blkOk_by (N := N_pnc) (sc := defScope s_partition_code) (by decide +kernel)) (fun _ _ _ _ _ => pg_name (i := 1) sc_pnc.nd rfl (Or.inl rfl)) (fun _ _ _ _ _ => pts_nil)
          (fun _ _ _ _ _ => C8.pe_c cR hr (by decide) rfl (pa_cons (pv 1) pa_nil))) pa_nil)))), ?_⟩
    refine call_nl (x := rs.map cRg) (fun Q2 h2 => ?_) hb k
    refine comp_nl (K := K) (f := cRg) st_rg (fun _ q => ⟨_, rfl, q⟩) hv (Nat.le_trans (codes_le fun _ _ => len_rg) hb) ?_ Q2 h2
    intro z y H2 Q3 hy hz k3
    exact ⟨rfl, call_nl (x := y) (fun Q4 q => ⟨_, rfl, q _ _ (Same.refl _) hz⟩) (Nat.le_trans (len_mem (f := cRg) hy) hb) k3⟩
/-! ### entry_code -/
abbrev spEn (K : PySem.W.Frag) : Sp := spW (EnAt (csOf K)) cEn
abbrev N_enc : List Str := ["entry"]
theorem sc_enc : FnScope N_enc N_enc (defScope s_entry_code) := ⟨rfl, rfl, rfl, by decide +kernel, rfl, by decide +kernel, by decide +kernel⟩
theorem ok_entry_code (F : FnP K "entry_code" "entry_code" s_entry_code f fd) (T : Txt K mg) (cN : C8.Cal P w K mg base 1 "numbers_code" spNums []) (cR : C8.Cal P w K mg base 4 "record_code" (spRc K) []) :
    FnOk P w K mg base C8.CX0 5 f fd N_enc (spEn K) := by
  refine F.ok sc_enc (fun vs H Q E h => ?_) (fun cdv A outer s H vs Q E hr h => ?_)
  · obtain ⟨v, x, rfl, _⟩ := h
    rfl
  · obtain ⟨v, e, rfl, ⟨fs, rv, lv, hi, l1, l2, l3, h1, h2⟩, hb, k⟩ := h
    refine ⟨_, PSs.nox (pss_one (ps_ret (pe_op op_cat (pe_op op_cat (pe_lst (pa_cons (pe_fld (pv 0) rfl) pa_nil)) (C8.pe_c cR hr (by decide) rfl (pa_cons (pe_fld (pv 0) rfl) pa_nil))) (C8.pe_c cN hr (by decide) rfl (pa_cons (pe_fld (pv 0) rfl) pa_nil))))), ?_⟩
    have b1 := app_le (a := [e.number] ++ cRc e.record) (b := cNums e.leaves) hb
    refine cat_nl (a := [e.number] ++ cRc e.record) (b := cNums e.leaves) (fun Q2 k2 => ?_) (fun H1 s1 Q2 k2 => call_nl (x := e.leaves) (fun Q3 q => fld_v (fun _ q => ⟨_, rfl, q⟩) (hi.keep (Same.keep s1)) T.cl_Entry T.na_Entry_leaves l3 (q _ _ (Same.refl _) (.inr (st_TI.ap (Same.keep s1) h2)))) b1.2 k2) hb k
    exact cat_nl (a := [e.number]) (b := cRc e.record) (fun Q3 k3 => lst1_nl (fun _ q => fld_v (fun _ q => ⟨_, rfl, q⟩) hi T.cl_Entry T.na_Entry_number l1 q) k3)
      (fun H1 s1 Q3 k3 => call_nl (x := e.record) (fun Q4 q => fld_v (fun _ q => ⟨_, rfl, q⟩) (hi.keep (Same.keep s1)) T.cl_Entry T.na_Entry_record l2 (q _ _ (Same.refl _) (st_rc.ap (Same.keep s1) h1))) (app_le (a := [e.number]) b1.1).2 k3) b1.1 k2
/-! ### offer_code -/
abbrev spFo (K : PySem.W.Frag) : Sp := spW (FoAt (csOf K)) cFo
abbrev N_foc : List Str := ["offer", "partitions", "regions", "entry"]
theorem sc_foc : FnScope N_foc ["offer"] (defScope s_offer_code) := ⟨rfl, rfl, rfl, by decide +kernel, rfl, by decide +kernel, by decide +kernel⟩
theorem ok_offer_code (F : FnP K "offer_code" "offer_code" s_offer_code f fd) (T : Txt K mg) (cL : C8.Cal P w K mg base 1 "list_code" spLists []) (cP : C8.Cal P w K mg base 6 "partition_code" (spPn K) []) (cE : C8.Cal P w K mg base 5 "entry_code" (spEn K) []) :
    FnOk P w K mg base C8.CX0 7 f fd ["offer"] (spFo K) := by
  refine F.ok sc_foc (fun vs H Q E h => ?_) (fun cdv A outer s H vs Q E hr h => ?_)
  · obtain ⟨v, x, rfl, _⟩ := h
    rfl
  · obtain ⟨v, o, rfl, ⟨fs, pv', ev, hi, l1, l2, h1, h2⟩, hb, k⟩ := h
    refine ⟨_, PSs.nox (pss_cons (ps_set (i := 1) sc_foc.nd rfl (Or.inl rfl) (C8.pe_c cL hr (by decide) rfl (pa_cons
        (pe_lc (own := [("regions", 2)]) (g := gName 2) (tt := tYes) rfl sc_foc.nd (pi_tup (pe_fld (pv 0) rfl)) (blkOk_by (N := N_foc) (sc := defScope s_offer_code) (by decide +kernel)) (fun _ _ _ _ _ => pg_name (i := 2) sc_foc.nd rfl (Or.inl rfl)) (fun _ _ _ _ _ => pts_nil)
          (fun _ _ _ _ _ => C8.pe_c cP hr (by decide) rfl (pa_cons (pv 2) pa_nil))) pa_nil)))
      (pss_one (ps_ret (pe_op op_cat (pv 1) (C8.pe_c cL hr (by decide) rfl (pa_cons
        (pe_lc (own := [("entry", 3)]) (g := gName 3) (tt := tYes) rfl sc_foc.nd (pi_tup (pe_fld (pv 0) rfl)) (blkOk_by (N := N_foc) (sc := defScope s_offer_code) (by decide +kernel)) (fun _ _ _ _ _ => pg_name (i := 3) sc_foc.nd rfl (Or.inl rfl)) (fun _ _ _ _ _ => pts_nil)
          (fun _ _ _ _ _ => C8.pe_c cE hr (by decide) rfl (pa_cons (pv 3) pa_nil))) pa_nil)))))), ?_⟩
    have b1 := app_le (a := cList cPn o.parts) (b := cList cEn o.entries) hb
    refine call_nl (x := o.parts.map cPn) (fun Q2 q2 => ?_) b1.1 ?_
    · refine comp_nl (K := K) (f := cPn) (st_tup st_rg) (fun _ q => fld_v (fun _ q => ⟨_, rfl, q⟩) hi T.cl_Offer T.na_Offer_partitions l1 q) h1 (Nat.le_trans (codes_le fun _ _ => len_pn) b1.1) ?_ Q2 q2
      intro z y H2 Q3 hy hz k3
      exact ⟨rfl, call_nl (x := y) (fun Q4 q => ⟨_, rfl, q _ _ (Same.refl _) hz⟩) (Nat.le_trans (len_mem (f := cPn) hy) b1.1) k3⟩
    · intro H1 q s1 n1 e1
      dsimp only [gName, tRet]
      refine ⟨_, rfl, ?_⟩
      refine call_nl (x := o.entries.map cEn) (fun Q2 q2 => ?_) b1.2 fun H2 q2 s2 n2 e2 => ?_
      · refine comp_nl (K := K) (f := cEn) st_en (fun _ q => fld_v (fun _ q => ⟨_, rfl, q⟩) (hi.keep (Same.keep s1)) T.cl_Offer T.na_Offer_entries l2 q) ((st_tup st_en).ap (Same.keep s1) h2) (Nat.le_trans (codes_le fun _ _ => len_en) b1.2) ?_ Q2 q2
        intro z y H2 Q3 hy hz k3
        exact ⟨rfl, call_nl (x := y) (fun Q4 q => ⟨_, rfl, q _ _ (Same.refl _) hz⟩) (Nat.le_trans (len_mem (f := cEn) hy) b1.2) k3⟩
      · refine ⟨q, q2, _, _, rfl, rfl, s2 _ _ e1, e2, ?_, fun t ht => k _ t ((s1.trans s2).trans (same_new ht)) ((s1.trans s2).free ht) ?_⟩
        · rw [List.length_map, List.length_map, ← List.length_append]
          exact Nat.le_of_lt (big_line hb)
        · rw [upd_same, ← List.map_append]
          rfl
end
end Snk
set_option maxHeartbeats 4000000
namespace Snk
open PySem PySem.Spec PyProof.Rows L2
/-! ### the reader -/
def rdF (l : Addr) (k : Nat) : List (Str × V) := [("row", .ref l), ("at", .int (k : Int))]
theorem rd_row (l : Addr) (k : Nat) : (rdF l k).lookup ("row" : Str) = some (.ref l) := by
  unfold rdF
  simp [List.lookup]
theorem rd_at (l : Addr) (k : Nat) : (rdF l k).lookup ("at" : Str) = some (.int (k : Int)) := by
  have e : (("at" : Str) == ("row" : Str)) = false := by decide +kernel
  unfold rdF
  simp [List.lookup, e]
theorem rd_no (l : Addr) (k : Nat) {m : Str} (h1 : ¬ m = "row") (h2 : ¬ m = "at") : (rdF l k).lookup m = none := by
  have e1 : (m == ("row" : Str)) = false := by simpa using h1
  have e2 : (m == ("at" : Str)) = false := by simpa using h2
  unfold rdF
  simp [List.lookup, e1, e2]
theorem rd_put (l : Addr) (k j : Nat) : putF "at" (.int (j : Int)) (rdF l k) = rdF l j := by
  have n : ¬ ("row" : Str) = "at" := by decide +kernel
  show (if ("row" : Str) = "at" then _ else (("row" : Str), V.ref l) :: (if ("at" : Str) = "at" then [(("at" : Str), V.int (j : Int))] else _)) = _
  rw [if_neg n, if_pos rfl]
  rfl
theorem rd_new (l : Addr) : putF "at" (.int 0) (putF "row" (.ref l) []) = rdF l 0 := by
  have n : ¬ ("row" : Str) = "at" := by decide +kernel
  show (if ("row" : Str) = "at" then _ else (("row" : Str), V.ref l) :: [(("at" : Str), V.int 0)]) = _
  rw [if_neg n]
  rfl
/-- a reader at p whose row, the list at l, holds row, at place k -/
structure RdAt (C p l : Addr) (row : List Int) (H : Hp) (k : Nat) : Prop where
  ins : ∃ dx, H p = some (.ins C dx (rdF l k))
  lst : H l = some (.lst (row.map V.int))
  le : k ≤ row.length
  big : row.length ≤ Big
section
variable {C p l q D : Addr} {row : List Int} {H H' : Hp} {k : Nat} {o : HO} {v : V}
theorem RdAt.some (r : RdAt C p l row H k) : ∃ o, H p = some o ∧ isData o = false := by
  obtain ⟨dx, h⟩ := r.ins
  refine ⟨_, h, ?_⟩
  show okF (rdF l k) = false
  unfold okF
  rw [rd_at]
  exact Bool.and_false _
theorem RdAt.keep (r : RdAt C p l row H k) (b : KeepB p H H') : Keep H H' := b.keep fun b o hb e => by
  obtain ⟨o', e', d⟩ := r.some
  rw [hb] at e
  rw [e] at e'; cases e'
  exact d
theorem RdAt.off (r : RdAt C p l row H k) (h : H q = none) (b : KeepB q H H') : RdAt C p l row H' k := by
  obtain ⟨dx, e⟩ := r.ins
  exact ⟨⟨dx, b p _ (ne_of_none e h) e⟩, b l _ (ne_of_none r.lst h) r.lst, r.le, r.big⟩
theorem RdAt.same (r : RdAt C p l row H k) (s : Same H H') : RdAt C p l row H' k := by
  obtain ⟨dx, e⟩ := r.ins
  exact ⟨⟨dx, s _ _ e⟩, s _ _ r.lst, r.le, r.big⟩
/-- new before, too -/
theorem RdAt.free (r : RdAt C p l row H' k) (b : KeepB p H H') (h : H' q = none) : H q = none := b.free (fun c hc => by
  obtain ⟨o, e, _⟩ := r.some
  rw [hc, e]
  exact fun z => nomatch z) h
/-- a list beside the reader stands -/
theorem RdAt.li {ns : List Int} (r : RdAt C p l row H k) (b : KeepB p H H') (h : LI' H v ns) : LI' H' v ns := by
  obtain ⟨q, rfl, e⟩ := h
  obtain ⟨dx, e'⟩ := r.ins
  exact ⟨q, rfl, b q _ (ne_of e e' (fun z => nomatch z)) e⟩
theorem RdAt.la {α : Type} {R : Lies α} (sR : Stable R) {xs : List α} (r : RdAt C p l row H k) (b : KeepB p H H') (h : LstAt R H v xs) : LstAt R H' v xs := by
  obtain ⟨q, vs, rfl, e, pr⟩ := h
  obtain ⟨dx, e'⟩ := r.ins
  exact ⟨q, vs, rfl, b q _ (ne_of e e' (fun z => nomatch z)) e, pr.mono fun _ _ z => sR.ap (r.keep b) z⟩
theorem RdAt.lla {α : Type} {R : Lies α} (sR : Stable R) {xs : List (List α)} (r : RdAt C p l row H k) (b : KeepB p H H') (h : LstAt (LstAt R) H v xs) : LstAt (LstAt R) H' v xs := by
  obtain ⟨q, vs, rfl, e, pr⟩ := h
  obtain ⟨dx, e'⟩ := r.ins
  exact ⟨q, vs, rfl, b q _ (ne_of e e' (fun z => nomatch z)) e, pr.mono fun _ _ z => r.la sR b z⟩
end
/-- what a reading method hands back: a value whose code stands next; or InvalidCode leaves -/
def RdQ {α : Type} (C CI p l : Addr) (row : List Int) (c : α → List Int) (R : Lies α) (k : Nat) (H : Hp) (Q : VK) (E : XK) : Prop :=
  (∀ H' v x k', KeepB p H H' → RdAt C p l row H' k' → row.drop k = c x ++ row.drop k' → Fresh H v → R H' v x → Q v H') ∧ ∀ H', KeepB p H H' → E (.ref CI) none H'
def spR {α : Type} (K : PySem.W.Frag) (c : α → List Int) (R : Lies α) : Sp := fun vs H Q E => ∃ p l row k, vs = [.ref p] ∧ RdAt (He.ga K "NumberReader") p l row H k ∧ RdQ (He.ga K "NumberReader") (He.ga K "InvalidCode") p l row c R k H Q E
/-- a method that may raise -/
structure MetX (P : Program) (w : World) (K : PySem.W.Frag) (mg : Str → Option Value) (base : Heap) (k : Nat) (m : Str) (ps : List Str) (sp : Sp) : Prop where
  ex : ∃ f fd, Meth K (He.ga K "NumberReader") m f ∧ FnOk P w K mg base (L2.CX P w) k f fd ps sp ∧ Binds K fd ps []
/-- a def that may raise -/
structure CalX (P : Program) (w : World) (K : PySem.W.Frag) (mg : Str → Option Value) (base : Heap) (k : Nat) (x : Str) (sp : Sp) : Prop where
  ex : ∃ f fd ps, FnOk P w K mg base (L2.CX P w) k f fd ps sp ∧ mg x = some (.ref f) ∧ PySem.W.keepIn K (.ref f) = true ∧ Binds K fd ps []
section
variable {X : Cx} {k j : Nat} {C : Addr} {x m : Str} {ps : List Str} {sp : Sp} {E : XK} {p pos apos : Pos} {e o : Expr} {es : List Expr} {ta : TE} {t : TA}
theorem pe_mX0 {K : PySem.W.Frag} {pl : Sem Bool} (hK : X.K = K) (c : MetX X.prog X.w K X.mg X.base k m ps sp) (cl : Cls K (He.ga K "NumberReader")) (hr : Room j X.A) (hk : k ≤ j) (he : PE X o ta) (hx : Passes (L2.CX X.prog X.w) X E)
    (ht : eval (.Call (.Attribute o m apos) [] [] pos) X.env = (do
      let ov ← eval o X.env
      standAt apos.atName
      let (f, first) ← holding [ov] (getMethod ov m pl)
      callWith pos f first (backTo pos (starEach [] X.env)) (backToKw pos (keywordEach [] X.env))) := by rfl) :
    PE X (.Call (.Attribute o m apos) [] [] pos) (tMeth (He.ga K "NumberReader") m sp [] E ta tNil) := by
  subst hK
  obtain ⟨f, fd, M, F, b⟩ := c.ex
  exact pe_meth0 he cl M F (hr.mono hk) b .nil hx ht
theorem pe_mX {K : PySem.W.Frag} {pl : Sem Bool} (hK : X.K = K) (c : MetX X.prog X.w K X.mg X.base k m ps sp) (cl : Cls K (He.ga K "NumberReader")) (hr : Room j X.A) (hk : k ≤ j) (he : PE X o ta) (hx : Passes (L2.CX X.prog X.w) X E) (ha : PA X (e :: es) t)
    (hst : starEach (e :: es) X.env = (false, eval e X.env) :: starEach es X.env := by rfl) (hpl : (backTo pos (starEach es X.env)).any (·.1) = false := by rfl)
    (ht : eval (.Call (.Attribute o m apos) (e :: es) [] pos) X.env = (do
      let ov ← eval o X.env
      standAt apos.atName
      let (f, first) ← holding [ov] (getMethod ov m pl)
      callWith pos f first (backTo pos (starEach (e :: es) X.env)) (backToKw pos (keywordEach [] X.env))) := by rfl) :
    PE X (.Call (.Attribute o m apos) (e :: es) [] pos) (tMeth (He.ga K "NumberReader") m sp [] E ta t) := by
  subst hK
  obtain ⟨f, fd, M, F, b⟩ := c.ex
  exact pe_meth he cl M F (hr.mono hk) b .nil hx ha hst hpl ht
theorem pe_cX {K : PySem.W.Frag} (hK : X.K = K) (c : CalX X.prog X.w K X.mg X.base k x sp) (hr : Room j X.A) (hk : k ≤ j) (hg : Gl X x) (hx : Passes (L2.CX X.prog X.w) X E) (ha : PA X (e :: es) t)
    (hdb : (x == ("__debug__" : Str)) = false := by decide) (he : starEach (e :: es) X.env = (false, eval e X.env) :: starEach es X.env := by rfl) (hpl : (backTo pos (starEach es X.env)).any (·.1) = false := by rfl) :
    PE X (.Call (.Name x p) (e :: es) [] pos) (tCall sp [] E t) := by
  subst hK
  obtain ⟨f, fd, ps, F, m, kp, b⟩ := c.ex
  exact pe_call F (hr.mono hk) hg m kp b .nil hx ha hdb he hpl
/-- what a callee lets out leaves the def -/
theorem pass_def {P : Program} {w : World} {K : PySem.W.Frag} {mg : Str → Option Value} {base : Heap} {N : List Str} {qual : Str} {scope : Scope} {f : Addr} {cd : Value} {A : Around} {outer : List Env} {s : Shared} {H : Hp} {E : XK} :
    Passes (L2.CX P w) (cxOf (L2.CX P w) P w K mg base N qual scope f cd A outer s H E) E := passes_call (takes_of rfl rfl rfl rfl) (fun _ _ _ _ h => h)
end
/-- a call of a reading method without arguments -/
theorem rd_call {α : Type} {K : PySem.W.Frag} {c : α → List Int} {R : Lies α} {m : Str} {i : Nat} {σ : L2.St} {H : Hp} {Q : VK} {E : XK} {p l : Addr} {row : List Int} {k : Nat} (hσ : σ[i]? = some (some (.ref p))) (r : RdAt (He.ga K "NumberReader") p l row H k) (h1 : ¬ m = "row") (h2 : ¬ m = "at")
    (h : RdQ (He.ga K "NumberReader") (He.ga K "InvalidCode") p l row c R k H Q E) : tMeth (He.ga K "NumberReader") m (spR K c R) [] E (tVar i) tNil σ H Q := by
  obtain ⟨dx, e⟩ := r.ins
  exact ⟨_, hσ, p, dx, _, rfl, e, rd_no l k h1 h2, p, l, row, k, rfl, r, h⟩
theorem drop_one {row : List Int} {k : Nat} (h : k < row.length) : row.drop k = [row[k]] ++ row.drop (k + 1) := List.drop_eq_getElem_cons h
section
variable {P : Program} {w : World} {K : PySem.W.Frag} {mg : Str → Option Value} {base : Heap} {f : Addr} {fd : FuncData}
/-! ### take -/
abbrev cOne (i : Int) : List Int := [i]
abbrev spTake (K : PySem.W.Frag) : Sp := spR K cOne IntAt
abbrev N_self : List Str := ["self"]
theorem sc_take : FnScope N_self N_self (defScope s_NumberReader_take) := ⟨rfl, rfl, rfl, by decide +kernel, rfl, by decide +kernel, by decide +kernel⟩
theorem ok_take (F : FnP K "take" "NumberReader.take" s_NumberReader_take f fd) (T : Txt K mg) : FnOk P w K mg base (L2.CX P w) 1 f fd N_self (spTake K) := by
  refine F.ok sc_take (fun vs H Q E h => ?_) (fun cdv A outer s H vs Q E hr h => ?_)
  · obtain ⟨p, l, row, k, rfl, _⟩ := h
    rfl
  · obtain ⟨p, l, row, k, rfl, rd, hQ, hE⟩ := h
    refine ⟨_, pss_cons (ps_if (pt_cmpR op_eq (pe_fld (pv 0) rfl) (pe_callB call_len_seq (by rfl) T.n_len PySem.boot_len (pa_cons (pe_fld (pv 0) rfl) pa_nil)) (nomark _))
        (pss_one (ps_raise rfl (takes_of rfl rfl rfl rfl) (pmk_own PySem.F.excBase_ValueError T.exc.1 T.g_InvalidCode T.exc.2.1 (raises_own T.exc.2.2.1 T.exc.2.2.2) rfl))) pss_nil)
      (pss_cons (ps_fld (pv 0) (pe_op op_add (pe_fld (pv 0) rfl) pe_int) rfl) (pss_one (ps_ret (pe_ix ix_list (pe_fld (pv 0) rfl) (pe_op op_sub (pe_fld (pv 0) rfl) pe_int) (fun _ _ => rfl))))), ?_⟩
    obtain ⟨dx, hp⟩ := rd.ins
    refine ⟨_, rfl, p, _, dx, _, _, rfl, hp, T.cl_NumberReader, T.na_NumberReader_at, rd_at l k, _, rfl, p, _, dx, _, _, rfl, hp, T.cl_NumberReader, T.na_NumberReader_row, rd_row l k, l, _, rfl, .inl (SqL.of rd.lst), rfl, _, rfl, ?_⟩
    refine ite2 (fun _ => hE H KeepP.refl) (fun hn => ?_)
    have hk : k < row.length := by
      have h1 := rd.le
      have h2 : ¬ ((k : Int) = ((row.map V.int).length : Int)) := fun z => hn (by rw [decide_eq_true_iff, z])
      rw [List.length_map] at h2
      omega
    refine ⟨_, rfl, p, _, dx, _, _, rfl, hp, T.cl_NumberReader, T.na_NumberReader_at, rd_at l k, _, _, rfl, rfl, _, rfl, p, _, dx, _, rfl, hp, T.cl_NumberReader, T.na_NumberReader_at, (by show 2 < 1000; decide), ?_⟩
    dsimp only [tRet]
    rw [show ((k : Int) + 1) = ((k + 1 : Nat) : Int) from by omega, rd_put]
    have kb : KeepB p H (upd H p (.ins (He.ga K "NumberReader") dx (rdF l (k + 1)))) := KeepB.upd KeepP.refl
    have hl := kb l _ (ne_of rd.lst hp (fun z => nomatch z)) rd.lst
    refine ⟨_, rfl, p, _, dx, _, _, rfl, upd_same, T.cl_NumberReader, T.na_NumberReader_row, rd_row l (k + 1), _, rfl, p, _, dx, _, _, rfl, upd_same, T.cl_NumberReader, T.na_NumberReader_at, rd_at l (k + 1), _, _, rfl, rfl, l, row.map V.int, _, .int row[k], rfl, rfl, SqL.of hl, ?_, ?_⟩
    · rw [show (((k + 1 : Nat) : Int) - 1) = ((k : Nat) : Int) from by omega]
      refine atI_nat ?_
      rw [List.getElem?_map, List.getElem?_eq_getElem hk]
      rfl
    · exact hQ _ _ row[k] (k + 1) kb ⟨⟨dx, upd_same⟩, hl, hk, rd.big⟩ (drop_one hk) fresh_int rfl
/-! ### size, choice, present, short -/
abbrev cNat (n : Nat) : List Int := [(n : Int)]
abbrev spSize (K : PySem.W.Frag) : Sp := spR K cNat NatAt
abbrev N_size : List Str := ["self", "size"]
theorem sc_size : FnScope N_size N_self (defScope s_NumberReader_size) := ⟨rfl, rfl, rfl, by decide +kernel, rfl, by decide +kernel, by decide +kernel⟩
theorem ok_size (F : FnP K "size" "NumberReader.size" s_NumberReader_size f fd) (T : Txt K mg) (mT : MetX P w K mg base 1 "take" N_self (spTake K)) : FnOk P w K mg base (L2.CX P w) 2 f fd N_self (spSize K) := by
  refine F.ok sc_size (fun vs H Q E h => ?_) (fun cdv A outer s H vs Q E hr h => ?_)
  · obtain ⟨p, l, row, k, rfl, _⟩ := h
    rfl
  · obtain ⟨p, l, row, k, rfl, rd, hQ, hE⟩ := h
    refine ⟨_, pss_cons (ps_set (i := 1) sc_size.nd rfl (Or.inl rfl) (pe_mX0 rfl mT T.cl_NumberReader hr (by decide) (pv 0) pass_def))
      (pss_cons (ps_if (pt_cmpR op_lt (pv 1) pe_int (nomark _)) (pss_one (ps_raise rfl (takes_of rfl rfl rfl rfl) (pmk_own PySem.F.excBase_ValueError T.exc.1 T.g_InvalidCode T.exc.2.1 (raises_own T.exc.2.2.1 T.exc.2.2.2) rfl))) pss_nil)
      (pss_one (ps_ret (pv 1)))), ?_⟩
    refine rd_call rfl rd (by decide +kernel) (by decide +kernel) ⟨?_, hE⟩
    rintro H1 v x k1 kb rd1 e1 fr rfl
    refine ⟨_, rfl, _, _, rfl, rfl, _, rfl, ite2 (fun _ => hE H1 kb) (fun hn => ?_)⟩
    have h0 : 0 ≤ x := by
      have : ¬ x < 0 := fun z => hn (decide_eq_true z)
      omega
    obtain ⟨n, rfl⟩ := Int.eq_ofNat_of_zero_le h0
    exact ⟨_, rfl, hQ H1 _ n k1 kb rd1 e1 fresh_int rfl⟩
def spChoice (K : PySem.W.Frag) : Sp := fun vs H Q E => ∃ p l row k m, vs = [.ref p, .int m] ∧ RdAt (He.ga K "NumberReader") p l row H k ∧ RdQ (He.ga K "NumberReader") (He.ga K "InvalidCode") p l row cNat (fun _ v (n : Nat) => v = .int (n : Int) ∧ (n : Int) < m) k H Q E
abbrev N_choice : List Str := ["self", "many", "number"]
theorem sc_choice : FnScope N_choice ["self", "many"] (defScope s_NumberReader_choice) := ⟨rfl, rfl, rfl, by decide +kernel, rfl, by decide +kernel, by decide +kernel⟩
theorem ok_choice (F : FnP K "choice" "NumberReader.choice" s_NumberReader_choice f fd) (T : Txt K mg) (mT : MetX P w K mg base 1 "take" N_self (spTake K)) : FnOk P w K mg base (L2.CX P w) 2 f fd ["self", "many"] (spChoice K) := by
  refine F.ok sc_choice (fun vs H Q E h => ?_) (fun cdv A outer s H vs Q E hr h => ?_)
  · obtain ⟨p, l, row, k, m, rfl, _⟩ := h
    rfl
  · obtain ⟨p, l, row, k, m, rfl, rd, hQ, hE⟩ := h
    refine ⟨_, pss_cons (ps_set (i := 2) sc_choice.nd rfl (Or.inl rfl) (pe_mX0 rfl mT T.cl_NumberReader hr (by decide) (pv 0) pass_def))
      (pss_cons (ps_if (PW.pt (pw_or (pt_cmpR op_lt (pv 2) pe_int (nomark _)) (pw_or1 (pt_cmpR op_ge (pv 2) (pv 1) (nomark _))))) (pss_one (ps_raise rfl (takes_of rfl rfl rfl rfl) (pmk_own PySem.F.excBase_ValueError T.exc.1 T.g_InvalidCode T.exc.2.1 (raises_own T.exc.2.2.1 T.exc.2.2.2) rfl))) pss_nil)
      (pss_one (ps_ret (pv 2)))), ?_⟩
    refine rd_call rfl rd (by decide +kernel) (by decide +kernel) ⟨?_, hE⟩
    rintro H1 v x k1 kb rd1 e1 fr rfl
    refine ⟨_, rfl, _, _, rfl, rfl, _, rfl, ite2 (fun _ => iteT (hE H1 kb)) (fun hn => ?_)⟩
    refine ⟨_, rfl, _, rfl, _, _, rfl, rfl, _, rfl, ite2 (fun _ => hE H1 kb) (fun hm => ?_)⟩
    have h0 : 0 ≤ x := by
      have : ¬ x < 0 := fun z => hn (decide_eq_true z)
      omega
    have h1 : x < m := by
      have : ¬ m ≤ x := fun z => hm (decide_eq_true z)
      omega
    obtain ⟨n, rfl⟩ := Int.eq_ofNat_of_zero_le h0
    exact ⟨_, rfl, hQ H1 _ n k1 kb rd1 e1 fresh_int ⟨rfl, h1⟩⟩
/-- a call of choice -/
theorem choice_call {K : PySem.W.Frag} {i : Nat} {σ : L2.St} {H : Hp} {Q : VK} {E : XK} {p l : Addr} {row : List Int} {k : Nat} {m : Int} (hσ : σ[i]? = some (some (.ref p))) (r : RdAt (He.ga K "NumberReader") p l row H k)
    (h : RdQ (He.ga K "NumberReader") (He.ga K "InvalidCode") p l row cNat (fun _ v (n : Nat) => v = .int (n : Int) ∧ (n : Int) < m) k H Q E) : tMeth (He.ga K "NumberReader") "choice" (spChoice K) [] E (tVar i) (tCons (tC (.int m)) tNil) σ H Q := by
  obtain ⟨dx, e⟩ := r.ins
  exact ⟨_, hσ, p, dx, _, rfl, e, rd_no l k (by decide +kernel) (by decide +kernel), p, l, row, k, m, rfl, r, h⟩
abbrev cBool (b : Bool) : List Int := [if b then 1 else 0]
def BlAt : Lies Bool := fun _ v b => v = .bl b
abbrev spPresent (K : PySem.W.Frag) : Sp := spR K cBool BlAt
theorem sc_present : FnScope N_self N_self (defScope s_NumberReader_present) := ⟨rfl, rfl, rfl, by decide +kernel, rfl, by decide +kernel, by decide +kernel⟩
theorem ok_present (F : FnP K "present" "NumberReader.present" s_NumberReader_present f fd) (T : Txt K mg) (mC : MetX P w K mg base 2 "choice" ["self", "many"] (spChoice K)) : FnOk P w K mg base (L2.CX P w) 3 f fd N_self (spPresent K) := by
  refine F.ok sc_present (fun vs H Q E h => ?_) (fun cdv A outer s H vs Q E hr h => ?_)
  · obtain ⟨p, l, row, k, rfl, _⟩ := h
    rfl
  · obtain ⟨p, l, row, k, rfl, rd, hQ, hE⟩ := h
    refine ⟨_, pss_one (ps_ret (pe_cmpR op_eq (pe_mX rfl mC T.cl_NumberReader hr (by decide) (pv 0) pass_def (pa_cons pe_int pa_nil)) pe_int (nomark _))), ?_⟩
    refine choice_call rfl rd ⟨?_, hE⟩
    rintro H1 v n k1 kb rd1 e1 fr ⟨rfl, hn⟩
    refine ⟨rfl, ?_⟩
    have hd : ∀ b : Bool, cBool b = cNat n → decide (V.int (n : Int) = V.int 1) = b → Q (.bl (decide (V.int (n : Int) = V.int 1))) H1 := fun b hb e => by
      rw [e]
      exact hQ H1 _ b k1 kb rd1 (by rw [hb]; exact e1) fresh_bl rfl
    have : n = 0 ∨ n = 1 := by omega
    rcases this with rfl | rfl
    · exact hd false rfl (by decide)
    · exact hd true rfl (by decide)
abbrev spShort (K : PySem.W.Frag) : Sp := spR K cNat (fun _ v (n : Nat) => v = .int (n : Int) ∧ n ≤ Big)
theorem sc_short : FnScope N_size N_self (defScope s_NumberReader_short) := ⟨rfl, rfl, rfl, by decide +kernel, rfl, by decide +kernel, by decide +kernel⟩
theorem ok_short (F : FnP K "short" "NumberReader.short" s_NumberReader_short f fd) (T : Txt K mg) (mS : MetX P w K mg base 2 "size" N_self (spSize K)) : FnOk P w K mg base (L2.CX P w) 3 f fd N_self (spShort K) := by
  refine F.ok sc_short (fun vs H Q E h => ?_) (fun cdv A outer s H vs Q E hr h => ?_)
  · obtain ⟨p, l, row, k, rfl, _⟩ := h
    rfl
  · obtain ⟨p, l, row, k, rfl, rd, hQ, hE⟩ := h
    refine ⟨_, pss_cons (ps_set (i := 1) sc_short.nd rfl (Or.inl rfl) (pe_mX0 rfl mS T.cl_NumberReader hr (by decide) (pv 0) pass_def))
      (pss_cons (ps_if (pt_cmpR op_gt (pv 1) (pe_op op_sub (pe_callB call_len_seq (by rfl) T.n_len PySem.boot_len (pa_cons (pe_fld (pv 0) rfl) pa_nil)) (pe_fld (pv 0) rfl)) (nomark _)) (pss_one (ps_raise rfl (takes_of rfl rfl rfl rfl) (pmk_own PySem.F.excBase_ValueError T.exc.1 T.g_InvalidCode T.exc.2.1 (raises_own T.exc.2.2.1 T.exc.2.2.2) rfl))) pss_nil)
      (pss_one (ps_ret (pv 1)))), ?_⟩
    refine rd_call rfl rd (by decide +kernel) (by decide +kernel) ⟨?_, hE⟩
    rintro H1 v n k1 kb rd1 e1 fr rfl
    obtain ⟨dx, hp⟩ := rd1.ins
    refine ⟨_, rfl, _, rfl, p, _, dx, _, _, rfl, hp, T.cl_NumberReader, T.na_NumberReader_row, rd_row l k1, l, _, rfl, .inl (SqL.of rd1.lst), _, rfl, p, _, dx, _, _, rfl, hp, T.cl_NumberReader, T.na_NumberReader_at, rd_at l k1, _, _, rfl, rfl, _, _, rfl, rfl, _, rfl, ite2 (fun _ => hE H1 kb) (fun hn => ?_)⟩
    have h1 : n ≤ Big := by
      have h2 : ¬ (((row.map V.int).length : Int) - (k1 : Int) < (n : Int)) := fun z => hn (decide_eq_true z)
      rw [List.length_map] at h2
      have := rd1.big
      omega
    exact ⟨_, rfl, hQ H1 _ n k1 kb rd1 e1 fresh_int ⟨rfl, h1⟩⟩
end
end Snk
set_option maxHeartbeats 4000000
namespace Snk
open PySem PySem.Spec PyProof.Rows L2
/-- for over anything of a known length -/
theorem for_src {J : It} {vs : List V} {ok : Hp → Prop} (S : Src J vs ok) {g : TG} {tb : TS} {D : Ends} {σ : L2.St} {H : Hp} (Pv : Nat → L2.St → Hp → Prop) (h0 : Pv 0 σ H) (hok : ∀ i σ H, Pv i σ H → ok H)
    (hs : ∀ i x σ H, vs[i]? = some x → Pv i σ H → g x σ H fun σ2 H2 => tb { D with nx := Pv (i + 1), ct := Pv (i + 1), bk := D.nx } σ2 H2) (hd : ∀ σ H, Pv vs.length σ H → D.nx σ H) :
    ∃ W : Nat → Nat → L2.St → Hp → Prop, (∃ m, W 0 m σ H) ∧ ∀ i m σ H, W i m σ H →
      (J.stop i H ∧ D.nx σ H) ∨ (J.go i H ∧ ∃ N : L2.St → Hp → Prop, (∀ σ' H', N σ' H' → ∃ m', m' < m ∧ W (i + 1) m' σ' H') ∧ ∀ x H', J.yld i H x H' → g x σ H' fun σ2 H2 => tb { D with nx := N, ct := N, bk := D.nx } σ2 H2) := by
  refine ⟨fun i m σ H => m + i = vs.length ∧ Pv i σ H, ⟨vs.length, by omega, h0⟩, ?_⟩
  rintro i m σ1 H1 ⟨hm, hp⟩
  by_cases hi : i = vs.length
  · subst hi
    exact .inl ⟨S.stop H1 (hok _ _ _ hp), hd _ _ hp⟩
  · have hlt : i < vs.length := by omega
    refine .inr ⟨S.go i H1 hlt (hok _ _ _ hp), Pv (i + 1), fun σ' H' h => ⟨m - 1, by omega, by omega, h⟩, fun x H' y => ?_⟩
    obtain ⟨rfl, hx⟩ := S.yld i H1 x H' hlt (hok _ _ _ hp) y
    exact hs i x σ1 H' hx hp
/-- [.. for _ in range(self.short())] -/
theorem rd_comp {α : Type} {K : PySem.W.Frag} {c : α → List Int} {R : Lies α} (sR : StableV R) {te : TE} {j : Nat} {σ : L2.St} {H : Hp} {Q : VK} {E : XK} {p l : Addr} {row : List Int} {k : Nat} (hσ : σ[0]? = some (some (.ref p)))
    (rd : RdAt (He.ga K "NumberReader") p l row H k) (hE : ∀ H', KeepB p H H' → E (.ref (He.ga K "InvalidCode")) none H')
    (step : ∀ x H1 k1 Q1, RdAt (He.ga K "NumberReader") p l row H1 k1 → (∀ H', KeepB p H1 H' → E (.ref (He.ga K "InvalidCode")) none H') → RdQ (He.ga K "NumberReader") (He.ga K "InvalidCode") p l row c R k1 H1 Q1 E → te ((wipe σ [j]).set j (some x)) H1 Q1)
    (hq : ∀ H' v xs k', KeepB p H H' → RdAt (He.ga K "NumberReader") p l row H' k' → row.drop k = cList c xs ++ row.drop k' → Fresh H v → LstAt R H' v xs → xs.length ≤ Big → Q v H') :
    tLc (iRng1 (tCons (tMeth (He.ga K "NumberReader") "short" (spShort K) [] E (tVar 0) tNil) tNil)) (gName j) tYes te [j] σ H Q := by
  refine rd_call hσ rd (by decide +kernel) (by decide +kernel) ⟨?_, hE⟩
  rintro H1 v n k1 kb rd1 e1 fr ⟨rfl, hn⟩
  have h6 : (n : Int) < 2 ^ 62 := by
    have h : n ≤ 1000000 := hn
    omega
  refine ⟨n, rfl, by omega, h6, fun D hD => ?_⟩
  have nD : p ≠ D := by
    obtain ⟨dx, e⟩ := rd1.ins
    exact ne_of_none e hD
  have lD : l ≠ D := ne_of_none rd1.lst hD
  rw [show ((n : Int)).toNat = n from Int.toNat_natCast n]
  refine lc_all (src_rng (n := n)) (fun b => b = p) (fun k' H' => RdAt (He.ga K "NumberReader") p l row H' k') R (fun xs k' => row.drop k1 = (xs.map c).flatten ++ row.drop k') k1 hD (fun _ _ _ _ => trivial)
    (fun k' H' b hb r => by rw [hb]; exact r.some) (fun z => nD z.symm) (fun k' H' o r => ?_) sR (by rw [rngV_length]; exact big_line hn) rd1 (by simp) ?_ ?_
  · obtain ⟨dx, e⟩ := r.ins
    exact ⟨⟨dx, by rw [upd_ne nD]; exact e⟩, by rw [upd_ne lD]; exact r.lst, r.le, r.big⟩
  · intro xs x k2 H2 Q' hx kb2 r2 ac hs
    refine ⟨?_, step x H2 k2 Q' r2 (fun H' b => hE H' ((kb.trans kb2).trans b)) ⟨fun H3 u y k3 kb3 r3 e3 f3 ry => hs H3 u y k3 kb3 r3 ?_ f3 ry, fun H' b => hE H' ((kb.trans kb2).trans b)⟩⟩
    · show ((wipe σ [j]).set j (some x)).set j none = (σ.set j none)
      show (((σ.set j none).set j (some x)).set j none) = σ.set j none
      rw [List.set_set, List.set_set]
    · rw [ac, e3, List.map_append, List.flatten_append]
      simp
  · intro H' acc xs k' kb' r' hDl pr hl ac
    rw [rngV_length] at hl
    refine hq H' _ xs k' (kb.trans kb') r' ?_ (fresh_ref (rd1.free kb hD)) ⟨D, acc, rfl, hDl, pr⟩ (by rw [hl]; exact hn)
    rw [e1, ac]
    show [(n : Int)] ++ _ = ((xs.map c).length : Int) :: (xs.map c).flatten ++ _
    rw [List.length_map, hl]
    rfl
/-! ### texts -/
theorem joinL_one : ∀ ms : List Nat, TL.joinL [] (ms.map fun n => [n]) = ms
  | [] => rfl
  | [a] => rfl
  | a :: b :: r => by
    show [a] ++ ([] ++ TL.joinL [] ((b :: r).map fun n => [n])) = a :: b :: r
    rw [joinL_one (b :: r)]
    rfl
def chr1 (n : Nat) : Str := ⟨#[n]⟩
theorem join_chr (ms : List Nat) : Txt.join ("" : Str) (ms.map chr1) = ⟨ms.toArray⟩ := by
  have e := SX.join_S [] (ms.map fun n => [n])
  rw [joinL_one, List.map_map] at e
  exact e
theorem cStr_of (ms : List Nat) : cStr ⟨ms.toArray⟩ = cNums (ms.map fun n => ((n : Nat) : Int)) := rfl
section
variable {P : Program} {w : World} {K : PySem.W.Frag} {mg : Str → Option Value} {base : Heap} {f : Addr} {fd : FuncData}
def spSign (K : PySem.W.Frag) : Sp := fun vs H Q E => ∃ c : Int, vs = [.int c] ∧ (∀ n : Nat, c = (n : Int) → Q (.str (chr1 n)) H) ∧ E (.ref (He.ga K "InvalidCode")) none H
abbrev N_sign : List Str := ["code", "sign"]
theorem sc_sign : FnScope N_sign ["code"] (defScope s_sign_of) := ⟨rfl, rfl, rfl, by decide +kernel, rfl, by decide +kernel, by decide +kernel⟩
theorem ok_sign_of (F : FnP K "sign_of" "sign_of" s_sign_of f fd) (T : Txt K mg) : FnOk P w K mg base (L2.CX P w) 1 f fd ["code"] (spSign K) := by
  refine F.ok sc_sign (fun vs H Q E h => ?_) (fun cdv A outer s H vs Q E hr h => ?_)
  · obtain ⟨c, rfl, _⟩ := h
    rfl
  · obtain ⟨c, rfl, hq, hE⟩ := h
    obtain ⟨t, gS⟩ := T.signs
    refine ⟨_, pss_cons (ps_for (passes_of rfl) rfl (pi_str (pe_glob rfl gS (v := .str signs) ⟨t, rfl⟩)) (pg_name (i := 1) sc_sign.nd rfl (Or.inl rfl))
        (pss_one (ps_if (pt_cmpR op_eq (pe_callB call_ord (by rfl) T.n_ord (by decide +kernel) (pa_cons (pv 1) pa_nil)) (pv 0) (nomark _)) (pss_one (ps_ret (pv 1))) pss_nil)))
      (pss_one (ps_raise rfl (takes_of rfl rfl rfl rfl) (pmk_own PySem.F.excBase_ValueError T.exc.1 T.g_InvalidCode T.exc.2.1 (raises_own T.exc.2.2.1 T.exc.2.2.2) rfl))), ?_⟩
    refine ⟨signs, rfl, for_src (src_str (z := signs)) (fun i σ H' => H' = H ∧ ∃ z, σ = [some (.int c), z]) ⟨rfl, none, rfl⟩ (fun _ _ _ _ => trivial) ?_ ?_⟩
    · rintro i x σ H' hx ⟨rfl, z, rfl⟩
      obtain ⟨n, _, rfl⟩ := (signs_pr (H := H') signs).at_ hx
      refine ⟨_, rfl, _, rfl, rfl, _, rfl, rfl, _, rfl, ite2 (fun hc => ?_) (fun _ => ⟨rfl, _, rfl⟩)⟩
      have hc' := of_decide_eq_true hc
      have : (n : Int) = c := by injection hc'
      exact ⟨_, rfl, hq n this.symm⟩
    · rintro σ H' ⟨rfl, _⟩
      exact hE
/-! ### integers, string -/
abbrev spInts (K : PySem.W.Frag) : Sp := spR K cNums LI'
abbrev N_us : List Str := ["self", "_"]
theorem sc_ints : FnScope N_us N_self (defScope s_NumberReader_integers) := ⟨rfl, rfl, rfl, by decide +kernel, rfl, by decide +kernel, by decide +kernel⟩
theorem flat_one : ∀ xs : List Int, (xs.map cOne).flatten = xs
  | [] => rfl
  | a :: r => by
    show [a] ++ (r.map cOne).flatten = a :: r
    rw [flat_one r]
    rfl
theorem ok_integers (F : FnP K "integers" "NumberReader.integers" s_NumberReader_integers f fd) (T : Txt K mg) (mT : MetX P w K mg base 1 "take" N_self (spTake K)) (mS : MetX P w K mg base 3 "short" N_self (spShort K)) : FnOk P w K mg base (L2.CX P w) 4 f fd N_self (spInts K) := by
  refine F.ok sc_ints (fun vs H Q E h => ?_) (fun cdv A outer s H vs Q E hr h => ?_)
  · obtain ⟨p, l, row, k, rfl, _⟩ := h
    rfl
  · obtain ⟨p, l, row, k, rfl, rd, hQ, hE⟩ := h
    refine ⟨_, pss_one (ps_ret (pe_lcX (own := [("_", 1)]) (g := gName 1) rfl rfl (takes_of rfl rfl rfl rfl) (fun _ _ _ _ h => h) rfl sc_ints.nd
      (pi_range1 rfl T.n_range (pa_cons (pe_mX0 rfl mS T.cl_NumberReader hr (by decide) (pv 0) pass_def) pa_nil)) (blkOk_by (N := N_us) (sc := defScope s_NumberReader_integers) (by decide +kernel)) (fun _ _ _ _ _ => pg_name (i := 1) sc_ints.nd rfl (Or.inl rfl))
      (fun _ _ _ _ _ _ hp => pe_mX0 (K := K) rfl mT T.cl_NumberReader hr (by decide) (pv 0) hp))), ?_⟩
    refine rd_comp (K := K) (c := cOne) st_int.v rfl rd hE (fun x H1 k1 Q1 r1 he1 h1 => rd_call rfl r1 (by decide +kernel) (by decide +kernel) h1) ?_
    rintro H' v xs k' kb r' e fr ⟨q, ys, rfl, hq, pr⟩ _
    refine hQ H' _ xs k' kb r' ?_ fr ⟨q, rfl, by rw [hq, ints_of pr]⟩
    rw [e]
    show ((xs.map cOne).length : Int) :: (xs.map cOne).flatten ++ _ = _
    rw [flat_one, List.length_map]
    rfl
abbrev spString (K : PySem.W.Frag) : Sp := spR K cStr StrAt
abbrev N_string : List Str := ["self", "code"]
theorem sc_string : FnScope N_string N_self (defScope s_NumberReader_string) := ⟨rfl, rfl, rfl, by decide +kernel, rfl, by decide +kernel, by decide +kernel⟩
theorem strs_of {H : Hp} : ∀ {acc : List V} {zs : List Str}, Paired (StrAt H) acc zs → acc = zs.map V.str
  | _, _, .nil => rfl
  | _, _, .cons h r => by rw [show _ = V.str _ from h, strs_of r]; rfl
theorem sum_one (ms : List Nat) : ((ms.map chr1).map (·.length)).sum = ms.length := by
  induction ms with
  | nil => rfl
  | cons a r ih =>
    rw [List.map_cons, List.map_cons, List.sum_cons, ih, List.length_cons]
    show 1 + r.length = r.length + 1
    omega
theorem ok_string (F : FnP K "string" "NumberReader.string" s_NumberReader_string f fd) (T : Txt K mg) (mI : MetX P w K mg base 4 "integers" N_self (spInts K)) (cS : CalX P w K mg base 1 "sign_of" (spSign K)) : FnOk P w K mg base (L2.CX P w) 5 f fd N_self (spString K) := by
  refine F.ok sc_string (fun vs H Q E h => ?_) (fun cdv A outer s H vs Q E hr h => ?_)
  · obtain ⟨p, l, row, k, rfl, _⟩ := h
    rfl
  · obtain ⟨p, l, row, k, rfl, rd, hQ, hE⟩ := h
    refine ⟨_, pss_one (ps_ret (pe_join pe_str (pe_lcX (own := [("code", 1)]) (g := gName 1) rfl rfl (takes_of rfl rfl rfl rfl) (fun _ _ _ _ h => h) rfl sc_string.nd
      (pi_list (pe_mX0 rfl mI T.cl_NumberReader hr (by decide) (pv 0) pass_def)) (blkOk_by (N := N_string) (sc := defScope s_NumberReader_string) (by decide +kernel)) (fun _ _ _ _ _ => pg_name (i := 1) sc_string.nd rfl (Or.inl rfl))
      (fun _ _ _ _ _ _ hp => pe_cX (K := K) rfl cS hr (by decide) rfl hp (pa_cons (pv 1) pa_nil))))), ?_⟩
    refine ⟨⟨_, rfl⟩, rd_call rfl rd (by decide +kernel) (by decide +kernel) ⟨?_, hE⟩⟩
    rintro H1 v ns k1 kb rd1 e1 fr ⟨q, rfl, hq⟩
    have hns : ns.length ≤ Big := by
      have h1 := congrArg List.length e1
      have h2 := rd.big
      rw [List.length_drop, List.length_append] at h1
      have h3 : (cNums ns).length = ns.length + 1 := rfl
      omega
    refine ⟨q, rfl, ⟨_, SqL.of hq⟩, fun D hD => ?_⟩
    refine lc_all (src_list (K := K) (a := q) (xs := ns.map V.int)) Non (fun (_ : Unit) H' => Same H1 H') StrAt (fun xs _ => ∃ ms : List Nat, xs = ms.map chr1 ∧ ns.take xs.length = ms.map fun n => ((n : Nat) : Int)) () hD (fun _ _ _ s => SqL.of (s _ _ hq)) (fun _ _ _ z => z.elim) (fun z => z)
      (fun _ H' o s b u e => by rw [upd_ne (ne_of_none e hD)]; exact s b u e) st_str.v (by rw [List.length_map]; exact big_line hns) (Same.refl _) ⟨[], rfl, rfl⟩ ?_ ?_
    · rintro xs x _ H2 Q' hx kb2 s2 ⟨ms, hms, ht⟩ h
      obtain ⟨z, hz, rfl⟩ : ∃ z, ns[xs.length]? = some z ∧ V.int z = x := by
        rw [List.getElem?_map] at hx
        cases e : ns[xs.length]? with
        | none => rw [e] at hx; cases hx
        | some z => rw [e] at hx; exact ⟨z, rfl, Option.some.inj hx⟩
      refine ⟨rfl, _, rfl, z, rfl, fun n hn => ?_, hE _ (kb.trans (same_keepP s2))⟩
      refine h H2 _ (chr1 n) () KeepP.refl s2 ⟨ms ++ [n], by rw [hms, List.map_append]; rfl, ?_⟩ fresh_str rfl
      rw [List.length_append, List.length_singleton, List.take_add_one, hz, ht, List.map_append, hn]
      rfl
    · rintro H2 acc xs _ kb2 s2 hD2 pr hl ⟨ms, hms, ht⟩
      rw [List.length_map] at hl
      rw [hl, List.take_length] at ht
      refine ⟨_, D, xs, rfl, rfl, .inl (SqL.of (by rw [hD2, strs_of pr])), ?_, ?_⟩
      · rw [hms, sum_one]
        have : ms.length = ns.length := by rw [ht, List.length_map]
        rw [this]
        have e0 : ("" : Str).length = 0 := rfl
        rw [e0, Nat.mul_zero]
        exact Nat.le_trans hns (by decide)
      · rw [hms, join_chr]
        refine hQ H2 _ ⟨ms.toArray⟩ k1 (kb.trans (same_keepP s2)) (rd1.same s2) ?_ fresh_str rfl
        rw [cStr_of, ← ht]
        exact e1
end
end Snk
set_option maxHeartbeats 4000000
namespace Snk
open PySem PySem.Spec PyProof.Rows L2
/-- a class that may be made by its name with keywords -/
structure MakK (P : Program) (w : World) (K : PySem.W.Frag) (mg : Str → Option Value) (base : Heap) (k : Nat) (x : Str) (C : Addr) (sp : Sp) (n : Nat) (ks : List Str) : Prop where
  ex : ∃ f fd ps g, Mk K C f ∧ FnOk P w K mg base C8.CX0 k f fd ps sp ∧ mg x = some (.ref C) ∧ KBn K fd ps (n + 1) ks g (fun vs zs => vs ++ zs)
section
variable {X : Cx} {k j n : Nat} {C : Addr} {x : Str} {ks : List Str} {sp : Sp} {p pos : Pos} {e : Expr} {es : List Expr} {kws : List Keyword} {t tk : TA}
theorem pe_mkK (c : MakK X.prog X.w X.K X.mg X.base k x C sp n ks) (hr : Room j X.A) (hk : k + 1 ≤ j) (hg : Gl X x) (ha : PA X (e :: es) t) (hkw : PK X kws tk)
    (hall : (backToKw pos (keywordEach kws X.env)).all (·.1.isSome) = true := by rfl) (hks : (backToKw pos (keywordEach kws X.env)).filterMap (·.1) = ks := by rfl) (hdb : (x == ("__debug__" : Str)) = false := by decide)
    (he : starEach (e :: es) X.env = (false, eval e X.env) :: starEach es X.env := by rfl) (hpl : ((backTo pos (starEach (e :: es) X.env)).any (·.1) || (backToKw pos (keywordEach kws X.env)).any (·.1.isNone)) = false := by rfl) :
    PE X (.Call (.Name x p) (e :: es) kws pos) (tMakeK C n ks.length sp (fun vs zs => vs ++ zs) C8.E0 t tk) := by
  obtain ⟨f, fd, ps, g, M, F, m, b⟩ := c.ex
  exact pe_makeK M F (hr.mono hk) hg m b C8.pass0 ha hkw hall hks hdb he hpl
end
theorem RdAt.fresh {C p l : Addr} {row : List Int} {H H' : Hp} {k : Nat} {v : V} (r : RdAt C p l row H' k) (b : KeepB p H H') (f : Fresh H' v) : Fresh H v := fun q e => r.free b (f q e)
theorem RdAt.new {C p l q : Addr} {row : List Int} {H : Hp} {k : Nat} {o : HO} (r : RdAt C p l row H k) (hq : H q = none) : RdAt C p l row (upd H q o) k := r.same (same_new hq)
section
variable {P : Program} {w : World} {K : PySem.W.Frag} {mg : Str → Option Value} {base : Heap} {f : Addr} {fd : FuncData}
/-! ### value, pairs -/
abbrev spValue (K : PySem.W.Frag) : Sp := spR K cWv WvAt
abbrev N_value : List Str := ["self", "kind"]
theorem sc_value : FnScope N_value N_self (defScope s_NumberReader_value) := ⟨rfl, rfl, rfl, by decide +kernel, rfl, by decide +kernel, by decide +kernel⟩
theorem ok_value (F : FnP K "value" "NumberReader.value" s_NumberReader_value f fd) (T : Txt K mg) (mT : MetX P w K mg base 1 "take" N_self (spTake K)) (mC : MetX P w K mg base 2 "choice" ["self", "many"] (spChoice K)) (mP : MetX P w K mg base 3 "present" N_self (spPresent K))
    (mS : MetX P w K mg base 5 "string" N_self (spString K)) : FnOk P w K mg base (L2.CX P w) 6 f fd N_self (spValue K) := by
  refine F.ok sc_value (fun vs H Q E h => ?_) (fun cdv A outer s H vs Q E hr h => ?_)
  · obtain ⟨p, l, row, k, rfl, _⟩ := h
    rfl
  · obtain ⟨p, l, row, k, rfl, rd, hQ, hE⟩ := h
    refine ⟨_, pss_cons (ps_set (i := 1) sc_value.nd rfl (Or.inl rfl) (pe_mX rfl mC T.cl_NumberReader hr (by decide) (pv 0) pass_def (pa_cons pe_int pa_nil)))
      (pss_cons (ps_if (pt_cmpR op_eq (pv 1) pe_int (nomark _)) (pss_one (ps_ret (pe_mX0 rfl mT T.cl_NumberReader hr (by decide) (pv 0) pass_def))) pss_nil)
      (pss_cons (ps_if (pt_cmpR op_eq (pv 1) pe_int (nomark _)) (pss_one (ps_ret (pe_mX0 rfl mS T.cl_NumberReader hr (by decide) (pv 0) pass_def))) pss_nil)
      (pss_one (ps_ret (pe_mX0 rfl mP T.cl_NumberReader hr (by decide) (pv 0) pass_def))))), ?_⟩
    refine choice_call rfl rd ⟨?_, hE⟩
    rintro H1 v n k1 kb rd1 e1 fr ⟨rfl, hn⟩
    have hE1 : ∀ H', KeepB p H1 H' → E (.ref (He.ga K "InvalidCode")) none H' := fun H' b => hE H' (kb.trans b)
    have hc : n = 0 ∨ n = 1 ∨ n = 2 := by omega
    rcases hc with rfl | rfl | rfl
    · refine ⟨_, rfl, rfl, _, rfl, iteT ?_⟩
      refine rd_call rfl rd1 (by decide +kernel) (by decide +kernel) ⟨?_, hE1⟩
      rintro H2 v x k2 kb2 rd2 e2 fr2 rfl
      exact hQ H2 _ (.int x) k2 (kb.trans kb2) rd2 (by rw [e1, e2]; rfl) fresh_int rfl
    · refine ⟨_, rfl, rfl, _, rfl, iteF ⟨_, rfl, rfl, _, rfl, iteT ?_⟩⟩
      refine rd_call rfl rd1 (by decide +kernel) (by decide +kernel) ⟨?_, hE1⟩
      rintro H2 v x k2 kb2 rd2 e2 fr2 rfl
      exact hQ H2 _ (.str x) k2 (kb.trans kb2) rd2 (by rw [e1, e2]; rfl) fresh_str rfl
    · refine ⟨_, rfl, rfl, _, rfl, iteF ⟨_, rfl, rfl, _, rfl, iteF ?_⟩⟩
      refine rd_call rfl rd1 (by decide +kernel) (by decide +kernel) ⟨?_, hE1⟩
      rintro H2 v x k2 kb2 rd2 e2 fr2 rfl
      exact hQ H2 _ (.bl x) k2 (kb.trans kb2) rd2 (by rw [e1, e2]; rfl) fresh_bl rfl
def WordsAt : Lies (List (Str × Int)) := fun H v xs => LstAt WordAt H v xs ∧ xs.length ≤ Big
abbrev spPairsR (K : PySem.W.Frag) : Sp := spR K (cList cWord) WordsAt
theorem sc_pairs : FnScope N_us N_self (defScope s_NumberReader_pairs) := ⟨rfl, rfl, rfl, by decide +kernel, rfl, by decide +kernel, by decide +kernel⟩
theorem ok_pairs (F : FnP K "pairs" "NumberReader.pairs" s_NumberReader_pairs f fd) (T : Txt K mg) (mT : MetX P w K mg base 1 "take" N_self (spTake K)) (mH : MetX P w K mg base 3 "short" N_self (spShort K)) (mS : MetX P w K mg base 5 "string" N_self (spString K)) :
    FnOk P w K mg base (L2.CX P w) 6 f fd N_self (spPairsR K) := by
  refine F.ok sc_pairs (fun vs H Q E h => ?_) (fun cdv A outer s H vs Q E hr h => ?_)
  · obtain ⟨p, l, row, k, rfl, _⟩ := h
    rfl
  · obtain ⟨p, l, row, k, rfl, rd, hQ, hE⟩ := h
    refine ⟨_, pss_one (ps_ret (pe_lcX (own := [("_", 1)]) (g := gName 1) rfl rfl (takes_of rfl rfl rfl rfl) (fun _ _ _ _ h => h) rfl sc_pairs.nd
      (pi_range1 rfl T.n_range (pa_cons (pe_mX0 rfl mH T.cl_NumberReader hr (by decide) (pv 0) pass_def) pa_nil)) (blkOk_by (N := N_us) (sc := defScope s_NumberReader_pairs) (by decide +kernel)) (fun _ _ _ _ _ => pg_name (i := 1) sc_pairs.nd rfl (Or.inl rfl))
      (fun _ _ _ _ _ _ hp => pe_tup (pa_cons (pe_mX0 (K := K) rfl mS T.cl_NumberReader hr (by decide) (pv 0) hp) (pa_cons (pe_mX0 (K := K) rfl mT T.cl_NumberReader hr (by decide) (pv 0) hp) pa_nil))))), ?_⟩
    refine rd_comp (K := K) (c := cWord) st_word.v rfl rd hE (fun x H1 k1 Q1 r1 he1 h1 => ?_) (fun H' v xs k' kb r' e fr ha hb => hQ H' v xs k' kb r' e fr ⟨ha, hb⟩)
    refine rd_call rfl r1 (by decide +kernel) (by decide +kernel) ⟨?_, he1⟩
    rintro H2 v z k2 kb2 r2 e2 fr2 rfl
    refine rd_call rfl r2 (by decide +kernel) (by decide +kernel) ⟨?_, fun H' b => he1 H' (kb2.trans b)⟩
    rintro H3 v i k3 kb3 r3 e3 fr3 rfl
    refine ⟨by show 2 ≤ sizeLine; decide, fun q hq => h1.1 _ _ (z, i) k3 ((kb2.trans kb3).new hq) (r3.new hq) ?_ (r3.fresh (kb2.trans kb3) (fresh_ref hq)) ⟨q, rfl, upd_same⟩⟩
    rw [e2, e3]
    show _ = (cStr z ++ [i]) ++ _
    rw [List.append_assoc]
/-! ### record -/
abbrev spMkRecord (K : PySem.W.Frag) : Sp := spI (He.ga K "Record") aRecord (RcAt (csOf K))
abbrev spRecord (K : PySem.W.Frag) : Sp := spR K cRc (RcAt (csOf K))
abbrev N_record : List Str := ["self", "name", "vector", "fields", "_"]
theorem sc_record : FnScope N_record N_self (defScope s_NumberReader_record) := ⟨rfl, rfl, rfl, by decide +kernel, rfl, by decide +kernel, by decide +kernel⟩
theorem aRecord_same {H H' : Hp} {as : List V} {b : Rc} (s : Same H H') (h : aRecord H as b) : aRecord H' as b := by
  obtain ⟨⟨u, v, w, e, ⟨p1, e1, h1⟩, ⟨p2, vs2, e2, h2, r2⟩, ⟨p3, vs3, e3, h3, r3⟩⟩, hb⟩ := h
  exact ⟨⟨u, v, w, e, ⟨p1, e1, s _ _ h1⟩, ⟨p2, vs2, e2, s _ _ h2, r2.mono fun _ _ z => st_field.ap (Same.keep s) z⟩, ⟨p3, vs3, e3, s _ _ h3, r3.mono fun _ _ z => st_word.ap (Same.keep s) z⟩⟩, hb⟩
theorem ok_record (F : FnP K "record" "NumberReader.record" s_NumberReader_record f fd) (T : Txt K mg) (mH : MetX P w K mg base 3 "short" N_self (spShort K)) (mI : MetX P w K mg base 4 "integers" N_self (spInts K)) (mS : MetX P w K mg base 5 "string" N_self (spString K))
    (mV : MetX P w K mg base 6 "value" N_self (spValue K)) (mP : MetX P w K mg base 6 "pairs" N_self (spPairsR K)) (kR : MakK P w K mg base 1 "Record" (He.ga K "Record") (spMkRecord K) 2 ["fields", "words"]) : FnOk P w K mg base (L2.CX P w) 7 f fd N_self (spRecord K) := by
  refine F.ok sc_record (fun vs H Q E h => ?_) (fun cdv A outer s H vs Q E hr h => ?_)
  · obtain ⟨p, l, row, k, rfl, _⟩ := h
    rfl
  · obtain ⟨p, l, row, k, rfl, rd, hQ, hE⟩ := h
    refine ⟨_, pss_cons (ps_set (i := 1) sc_record.nd rfl (Or.inl rfl) (pe_mX0 rfl mS T.cl_NumberReader hr (by decide) (pv 0) pass_def))
      (pss_cons (ps_set (i := 2) sc_record.nd rfl (Or.inl rfl) (pe_mX0 rfl mI T.cl_NumberReader hr (by decide) (pv 0) pass_def))
      (pss_cons (ps_setLcX (i := 3) (own := [("_", 4)]) (g := gName 4) rfl rfl (takes_of rfl rfl rfl rfl) (fun _ _ _ _ h => h) rfl sc_record.nd rfl rfl (sw_true rfl rfl rfl (by decide +kernel))
        (pi_range1 rfl T.n_range (pa_cons (pe_mX0 rfl mH T.cl_NumberReader hr (by decide) (pv 0) pass_def) pa_nil)) (blkOk_by (N := N_record) (sc := defScope s_NumberReader_record) (by decide +kernel)) (fun _ _ _ _ _ => pg_name (i := 4) sc_record.nd rfl (Or.inl rfl))
        (fun _ _ _ _ _ _ hp => pe_tup (pa_cons (pe_mX0 (K := K) rfl mS T.cl_NumberReader hr (by decide) (pv 0) hp) (pa_cons (pe_mX0 (K := K) rfl mV T.cl_NumberReader hr (by decide) (pv 0) hp) pa_nil))))
      (pss_one (ps_ret (pe_mkK kR hr (by decide) rfl (pa_cons (pv 1) (pa_cons (pv 2) pa_nil)) (pk_cons (pv 3) (pk_cons (pe_mX0 rfl mP T.cl_NumberReader hr (by decide) (pv 0) pass_def) pk_nil))))))), ?_⟩
    refine rd_call rfl rd (by decide +kernel) (by decide +kernel) ⟨?_, hE⟩
    rintro H1 v name k1 kb1 r1 e1 _ rfl
    refine rd_call rfl r1 (by decide +kernel) (by decide +kernel) ⟨?_, fun H' b => hE H' (kb1.trans b)⟩
    rintro H2 vv vec k2 kb2 r2 e2 _ hv2
    have kb02 := kb1.trans kb2
    dsimp only [gName, tSeq, tAsg]
    refine rd_comp (K := K) (c := cField) st_field.v rfl r2 (fun H' b => hE H' (kb02.trans b)) (fun x H3 k3 Q3 r3 he3 h3 => ?_) ?_
    · refine rd_call rfl r3 (by decide +kernel) (by decide +kernel) ⟨?_, he3⟩
      rintro H4 v z k4 kb4 r4 e4 _ rfl
      refine rd_call rfl r4 (by decide +kernel) (by decide +kernel) ⟨?_, fun H' b => he3 H' (kb4.trans b)⟩
      rintro H5 v i k5 kb5 r5 e5 _ rfl
      refine ⟨by show 2 ≤ sizeLine; decide, fun q hq => h3.1 _ _ (z, i) k5 ((kb4.trans kb5).new hq) (r5.new hq) ?_ (r5.fresh (kb4.trans kb5) (fresh_ref hq)) ⟨q, rfl, upd_same⟩⟩
      rw [e4, e5]
      show _ = (cStr z ++ cWv i) ++ _
      rw [List.append_assoc]
    · intro H3 fv fields k3 kb3 r3 e3 _ hf hfl
      refine ⟨_, rfl, _, rfl, _, rfl, ?_⟩
      refine rd_call rfl r3 (by decide +kernel) (by decide +kernel) ⟨?_, fun H' b => hE H' ((kb02.trans kb3).trans b)⟩
      rintro H4 wv words k4 kb4 r4 e4 _ ⟨hw, hwl⟩
      have kb04 := (kb02.trans kb3).trans kb4
      refine ⟨rfl, rfl, fun x dx hx hdx ne => spI_make (b := ⟨name, vec, fields, words⟩) hx hdx ne rfl (fun H' s => aRecord_same s ⟨⟨vv, fv, wv, rfl, r3.li kb4 (r2.li kb3 hv2), r3.la st_field kb4 hf, hw⟩, hfl, hwl⟩) (fun H' s o => ?_)⟩
      refine hQ H' _ ⟨name, vec, fields, words⟩ k4 (kb04.trans (same_keepP s)) (r4.same s) ?_ (r4.fresh kb04 (fresh_ref hx)) o
      rw [e1, e2, e3, e4]
      show _ = (cStr name ++ cNums vec ++ cList cField fields ++ cList cWord words) ++ _
      simp only [List.append_assoc]
end
end Snk
set_option maxHeartbeats 4000000
namespace Snk
open PySem PySem.Spec PyProof.Rows L2
theorem li_same {H H' : Hp} {v : V} {ns : List Int} (s : Same H H') (h : LI' H v ns) : LI' H' v ns := sv_LI.ap (Same.keepV s) h
theorem la_same {α : Type} {R : Lies α} (sR : Stable R) {H H' : Hp} {v : V} {xs : List α} (s : Same H H') (h : LstAt R H v xs) : LstAt R H' v xs := (sv_lst sR).ap (Same.keepV s) h
section
variable {P : Program} {w : World} {K : PySem.W.Frag} {mg : Str → Option Value} {base : Heap} {f : Addr} {fd : FuncData}
/-! ### part -/
abbrev spMkPart (K : PySem.W.Frag) : Sp := spI (He.ga K "Part") aPart (PtAt (csOf K))
abbrev spPartR (K : PySem.W.Frag) : Sp := spR K cPt (PtAt (csOf K))
abbrev N_part : List Str := ["self", "start", "centre"]
theorem sc_part : FnScope N_part N_self (defScope s_NumberReader_part) := ⟨rfl, rfl, rfl, by decide +kernel, rfl, by decide +kernel, by decide +kernel⟩
theorem ok_part (F : FnP K "part" "NumberReader.part" s_NumberReader_part f fd) (T : Txt K mg) (mT : MetX P w K mg base 1 "take" N_self (spTake K)) (mI : MetX P w K mg base 4 "integers" N_self (spInts K)) (kP : C8.Mak P w K mg base 1 "Part" (He.ga K "Part") (spMkPart K) []) :
    FnOk P w K mg base (L2.CX P w) 5 f fd N_self (spPartR K) := by
  refine F.ok sc_part (fun vs H Q E h => ?_) (fun cdv A outer s H vs Q E hr h => ?_)
  · obtain ⟨p, l, row, k, rfl, _⟩ := h
    rfl
  · obtain ⟨p, l, row, k, rfl, rd, hQ, hE⟩ := h
    refine ⟨_, pss_cons (ps_set (i := 1) sc_part.nd rfl (Or.inl rfl) (pe_mX0 rfl mT T.cl_NumberReader hr (by decide) (pv 0) pass_def))
      (pss_cons (ps_set (i := 2) sc_part.nd rfl (Or.inl rfl) (pe_mX0 rfl mI T.cl_NumberReader hr (by decide) (pv 0) pass_def))
      (pss_one (ps_ret (C8.pe_mk kP hr (by decide) rfl (pa_cons (pv 1) (pa_cons (pv 2) (pa_cons (pe_mX0 rfl mT T.cl_NumberReader hr (by decide) (pv 0) pass_def) pa_nil))))))), ?_⟩
    refine rd_call rfl rd (by decide +kernel) (by decide +kernel) ⟨?_, hE⟩
    rintro H1 v st k1 kb1 r1 e1 _ rfl
    refine rd_call rfl r1 (by decide +kernel) (by decide +kernel) ⟨?_, fun H' b => hE H' (kb1.trans b)⟩
    rintro H2 cv ce k2 kb2 r2 e2 _ hc
    refine ⟨_, rfl, _, rfl, rd_call rfl r2 (by decide +kernel) (by decide +kernel) ⟨?_, fun H' b => hE H' ((kb1.trans kb2).trans b)⟩⟩
    rintro H3 v ra k3 kb3 r3 e3 _ rfl
    have kb := (kb1.trans kb2).trans kb3
    intro x dx hx hdx ne
    refine spI_make (b := ⟨st, ce, ra⟩) hx hdx ne rfl (fun H' s => ⟨cv, rfl, li_same s (r2.li kb3 hc)⟩) (fun H' s o => ?_)
    refine hQ H' _ ⟨st, ce, ra⟩ k3 (kb.trans (same_keepP s)) (r3.same s) ?_ (r3.fresh kb (fresh_ref hx)) o
    rw [e1, e2, e3]
    show _ = ([st] ++ cNums ce ++ [ra]) ++ _
    simp only [List.append_assoc]
/-! ### field_fact -/
abbrev spMkRange (K : PySem.W.Frag) : Sp := spI (He.ga K "Range") aRange fun H v b => FcAt (csOf K) H v (.range b.1 b.2.1 b.2.2.1 b.2.2.2)
abbrev spMkValues (K : PySem.W.Frag) : Sp := spI (He.ga K "Values") aValues fun H v b => FcAt (csOf K) H v (.values b.1 b.2.1 b.2.2)
/-- what a fact's method reads behind the number of the class: RdQ of all facts with that number -/
def spFF2 (K : PySem.W.Frag) : Sp := fun vs H Q E => ∃ p l row k, ∃ n : Nat, vs = [.ref p, .int (n : Int)] ∧ (n = 6 ∨ n = 7) ∧ RdAt (He.ga K "NumberReader") p l row H k ∧
  (∀ H' v x k', KeepB p H H' → RdAt (He.ga K "NumberReader") p l row H' k' → [(n : Int)] ++ row.drop k = cFc x ++ row.drop k' → Fresh H v → FcAt (csOf K) H' v x → Q v H') ∧ ∀ H', KeepB p H H' → E (.ref (He.ga K "InvalidCode")) none H'
abbrev N_ff : List Str := ["self", "kind", "field", "low", "high", "choices", "_"]
theorem sc_ff : FnScope N_ff ["self", "kind"] (defScope s_NumberReader_field_fact) := ⟨rfl, rfl, rfl, by decide +kernel, rfl, by decide +kernel, by decide +kernel⟩
/-- LACKS[self.choice(3)] -/
theorem lack_ix {K : PySem.W.Frag} {mg : Str → Option Value} (T : Txt K mg) {σ : L2.St} {H : Hp} {Q : VK} {E : XK} {p l : Addr} {row : List Int} {k : Nat} (hσ : σ[0]? = some (some (.ref p))) (r : RdAt (He.ga K "NumberReader") p l row H k)
    (h : RdQ (He.ga K "NumberReader") (He.ga K "InvalidCode") p l row cNat (fun _ v (n : Nat) => v = .str (lackS n) ∧ n < 3) k H Q E) : tOp (rIxT K) (tC (.ref (He.ga K "LACKS"))) (tMeth (He.ga K "NumberReader") "choice" (spChoice K) [] E (tVar 0) (tCons (tC (.int 3)) tNil)) σ H Q := by
  refine choice_call hσ r ⟨?_, h.2⟩
  rintro H1 v n k1 kb rd1 e1 fr ⟨rfl, hn⟩
  have h3 : n < 3 := by omega
  refine ⟨_, _, _, .str (lackS n), rfl, rfl, T.lacks H1, atI_nat ?_, h.1 H1 _ n k1 kb rd1 e1 fresh_str ⟨rfl, h3⟩⟩
  rcases n with _ | _ | _ | n
  · rfl
  · rfl
  · rfl
  · omega
theorem ok_field_fact (F : FnP K "field_fact" "NumberReader.field_fact" s_NumberReader_field_fact f fd) (T : Txt K mg) (mT : MetX P w K mg base 1 "take" N_self (spTake K)) (mC : MetX P w K mg base 2 "choice" ["self", "many"] (spChoice K)) (mH : MetX P w K mg base 3 "short" N_self (spShort K))
    (mS : MetX P w K mg base 5 "string" N_self (spString K)) (mV : MetX P w K mg base 6 "value" N_self (spValue K)) (kR : MakK P w K mg base 2 "Range" (He.ga K "Range") (spMkRange K) 3 ["lack"]) (kV : MakK P w K mg base 2 "Values" (He.ga K "Values") (spMkValues K) 2 ["lack"]) :
    FnOk P w K mg base (L2.CX P w) 7 f fd ["self", "kind"] (spFF2 K) := by
  refine F.ok sc_ff (fun vs H Q E h => ?_) (fun cdv A outer s H vs Q E hr h => ?_)
  · obtain ⟨p, l, row, k, n, rfl, _⟩ := h
    rfl
  · obtain ⟨p, l, row, k, n, rfl, hn, rd, hQ, hE⟩ := h
    refine ⟨_, pss_cons (ps_set (i := 2) sc_ff.nd rfl (Or.inl rfl) (pe_mX0 rfl mS T.cl_NumberReader hr (by decide) (pv 0) pass_def))
      (pss_cons (ps_if (pt_cmpR op_eq (pv 1) pe_int (nomark _))
        (pss_cons (ps_set (i := 3) sc_ff.nd rfl (Or.inl rfl) (pe_mX0 rfl mT T.cl_NumberReader hr (by decide) (pv 0) pass_def))
        (pss_cons (ps_set (i := 4) sc_ff.nd rfl (Or.inl rfl) (pe_mX0 rfl mT T.cl_NumberReader hr (by decide) (pv 0) pass_def))
        (pss_one (ps_ret (pe_mkK kR hr (by decide) rfl (pa_cons (pv 2) (pa_cons (pv 3) (pa_cons (pv 4) pa_nil))) (pk_cons (pe_ix ix_tup (pe_glob rfl T.g_LACKS (v := .ref (He.ga K "LACKS")) rfl) (pe_mX rfl mC T.cl_NumberReader hr (by decide) (pv 0) pass_def (pa_cons pe_int pa_nil)) (fun _ _ => rfl)) pk_nil)))))) pss_nil)
      (pss_cons (ps_setLcX (i := 5) (own := [("_", 6)]) (g := gName 6) rfl rfl (takes_of rfl rfl rfl rfl) (fun _ _ _ _ h => h) rfl sc_ff.nd rfl rfl (sw_true rfl rfl rfl (by decide +kernel))
        (pi_range1 rfl T.n_range (pa_cons (pe_mX0 rfl mH T.cl_NumberReader hr (by decide) (pv 0) pass_def) pa_nil)) (blkOk_by (N := N_ff) (sc := defScope s_NumberReader_field_fact) (by decide +kernel)) (fun _ _ _ _ _ => pg_name (i := 6) sc_ff.nd rfl (Or.inl rfl))
        (fun _ _ _ _ _ _ hp => pe_mX0 (K := K) rfl mV T.cl_NumberReader hr (by decide) (pv 0) hp))
      (pss_one (ps_ret (pe_mkK kV hr (by decide) rfl (pa_cons (pv 2) (pa_cons (pv 5) pa_nil)) (pk_cons (pe_ix ix_tup (pe_glob rfl T.g_LACKS (v := .ref (He.ga K "LACKS")) rfl) (pe_mX rfl mC T.cl_NumberReader hr (by decide) (pv 0) pass_def (pa_cons pe_int pa_nil)) (fun _ _ => rfl)) pk_nil)))))), ?_⟩
    refine rd_call rfl rd (by decide +kernel) (by decide +kernel) ⟨?_, hE⟩
    rintro H1 v fi k1 kb1 r1 e1 _ rfl
    have hE1 : ∀ H', KeepB p H1 H' → E (.ref (He.ga K "InvalidCode")) none H' := fun H' b => hE H' (kb1.trans b)
    rcases hn with rfl | rfl
    · refine ⟨_, rfl, rfl, _, rfl, iteT ?_⟩
      refine rd_call rfl r1 (by decide +kernel) (by decide +kernel) ⟨?_, hE1⟩
      rintro H2 v lo k2 kb2 r2 e2 _ rfl
      refine rd_call rfl r2 (by decide +kernel) (by decide +kernel) ⟨?_, fun H' b => hE1 H' (kb2.trans b)⟩
      rintro H3 v hi k3 kb3 r3 e3 _ rfl
      have kb03 := (kb1.trans kb2).trans kb3
      refine ⟨_, rfl, _, rfl, _, rfl, lack_ix T rfl r3 ⟨?_, fun H' b => hE H' (kb03.trans b)⟩⟩
      rintro H4 v j k4 kb4 r4 e4 _ ⟨rfl, hj⟩
      have kb := kb03.trans kb4
      refine ⟨rfl, rfl, fun x dx hx hdx ne => spI_make (b := (fi, lo, hi, j)) hx hdx ne rfl (fun H' s => ⟨rfl, hj⟩) (fun H' s o => ?_)⟩
      refine hQ H' _ (.range fi lo hi j) k4 (kb.trans (same_keepP s)) (r4.same s) ?_ (r4.fresh kb (fresh_ref hx)) o
      rw [e1, e2, e3, e4]
      show [(6 : Int)] ++ _ = ([6] ++ cStr fi ++ [lo, hi, (j : Int)]) ++ _
      simp only [List.append_assoc, List.cons_append, List.nil_append]
    · refine ⟨_, rfl, rfl, _, rfl, iteF ?_⟩
      dsimp only [tNext, tSeq, tAsg, gName]
      refine rd_comp (K := K) (c := cWv) st_wv.v rfl r1 hE1 (fun x H3 k3 Q3 r3 he3 h3 => rd_call rfl r3 (by decide +kernel) (by decide +kernel) h3) ?_
      intro H2 cv cs k2 kb2 r2 e2 _ hc hcl
      have kb02 := kb1.trans kb2
      refine ⟨_, rfl, _, rfl, lack_ix T rfl r2 ⟨?_, fun H' b => hE H' (kb02.trans b)⟩⟩
      rintro H3 v j k3 kb3 r3 e3 _ ⟨rfl, hj⟩
      have kb := kb02.trans kb3
      refine ⟨rfl, rfl, fun x dx hx hdx ne => spI_make (b := (fi, cs, j)) hx hdx ne rfl (fun H' s => ⟨cv, rfl, la_same st_wv s (r2.la st_wv kb3 hc), hj⟩) (fun H' s o => ?_)⟩
      refine hQ H' _ (.values fi cs j) k3 (kb.trans (same_keepP s)) (r3.same s) ?_ (r3.fresh kb (fresh_ref hx)) o
      rw [e1, e2, e3]
      show [(7 : Int)] ++ _ = ([7] ++ cStr fi ++ cList cWv cs ++ [(j : Int)]) ++ _
      simp only [List.append_assoc]
end
end Snk
set_option maxHeartbeats 4000000
namespace Snk
open PySem PySem.Spec PyProof.Rows L2
abbrev spMkParts (K : PySem.W.Frag) : Sp := spI (He.ga K "Parts") (aOne (LstAt (PtAt (csOf K)))) fun H v b => FcAt (csOf K) H v (.parts b)
abbrev spMkCell (K : PySem.W.Frag) : Sp := spI (He.ga K "Cell") aTwo fun H v b => FcAt (csOf K) H v (.cell b.1 b.2)
abbrev spMkBox (K : PySem.W.Frag) : Sp := spI (He.ga K "Box") aTwo fun H v b => FcAt (csOf K) H v (.box b.1 b.2)
abbrev spMkNorms (K : PySem.W.Frag) : Sp := spI (He.ga K "Norms") aInts fun H v b => FcAt (csOf K) H v (.norms b.1 b.2)
abbrev spMkNames (K : PySem.W.Frag) : Sp := spI (He.ga K "Names") aStrs fun H v b => FcAt (csOf K) H v (.names b.1 b.2)
abbrev spMkDiffer (K : PySem.W.Frag) : Sp := spI (He.ga K "Differ") aDiffer fun H v b => FcAt (csOf K) H v (.differ b.1 b.2)
abbrev spMkCounts (K : PySem.W.Frag) : Sp := spI (He.ga K "Counts") (fun H as b => aOne (LstAt WordAt) H as b ∧ b.length ≤ Big) fun H v b => FcAt (csOf K) H v (.counts b)
abbrev spFact (K : PySem.W.Frag) : Sp := spR K cFc (FcAt (csOf K))
abbrev N_fact : List Str := ["self", "kind", "_", "first", "second", "low", "centre", "least"]
theorem sc_fact : FnScope N_fact N_self (defScope s_NumberReader_fact) := ⟨rfl, rfl, rfl, by decide +kernel, rfl, by decide +kernel, by decide +kernel⟩
theorem aTwo_same {H H' : Hp} {as : List V} {b : List Int × List Int} (s : Same H H') (h : aTwo H as b) : aTwo H' as b := by
  obtain ⟨u, w, e, h1, h2⟩ := h
  exact ⟨u, w, e, li_same s h1, li_same s h2⟩
/-- the classes of facts -/
structure FcMk (P : Program) (w : World) (K : PySem.W.Frag) (mg : Str → Option Value) (base : Heap) : Prop where
  parts : C8.Mak P w K mg base 1 "Parts" (He.ga K "Parts") (spMkParts K) []
  cell : C8.Mak P w K mg base 1 "Cell" (He.ga K "Cell") (spMkCell K) []
  box : C8.Mak P w K mg base 1 "Box" (He.ga K "Box") (spMkBox K) []
  norms : C8.Mak P w K mg base 1 "Norms" (He.ga K "Norms") (spMkNorms K) []
  names : C8.Mak P w K mg base 1 "Names" (He.ga K "Names") (spMkNames K) []
  differ : C8.Mak P w K mg base 1 "Differ" (He.ga K "Differ") (spMkDiffer K) []
  counts : C8.Mak P w K mg base 1 "Counts" (He.ga K "Counts") (spMkCounts K) []
section
variable {P : Program} {w : World} {K : PySem.W.Frag} {mg : Str → Option Value} {base : Heap} {f : Addr} {fd : FuncData}
theorem ff_call {i j : Nat} {σ : L2.St} {H : Hp} {Q : VK} {E : XK} {p l : Addr} {row : List Int} {k n : Nat} (hσ : σ[i]? = some (some (.ref p))) (hj : σ[j]? = some (some (.int (n : Int)))) (hn : n = 6 ∨ n = 7) (r : RdAt (He.ga K "NumberReader") p l row H k)
    (h1 : ∀ H' v x k', KeepB p H H' → RdAt (He.ga K "NumberReader") p l row H' k' → [(n : Int)] ++ row.drop k = cFc x ++ row.drop k' → Fresh H v → FcAt (csOf K) H' v x → Q v H') (h2 : ∀ H', KeepB p H H' → E (.ref (He.ga K "InvalidCode")) none H') :
    tMeth (He.ga K "NumberReader") "field_fact" (spFF2 K) [] E (tVar i) (tCons (tVar j) tNil) σ H Q := by
  obtain ⟨dx, e⟩ := r.ins
  exact ⟨_, hσ, p, dx, _, rfl, e, rd_no l k (by decide +kernel) (by decide +kernel), _, hj, p, l, row, k, n, rfl, hn, r, h1, h2⟩
theorem ok_fact (F : FnP K "fact" "NumberReader.fact" s_NumberReader_fact f fd) (T : Txt K mg) (mT : MetX P w K mg base 1 "take" N_self (spTake K)) (mC : MetX P w K mg base 2 "choice" ["self", "many"] (spChoice K)) (mH : MetX P w K mg base 3 "short" N_self (spShort K))
    (mI : MetX P w K mg base 4 "integers" N_self (spInts K)) (mS : MetX P w K mg base 5 "string" N_self (spString K)) (mPt : MetX P w K mg base 5 "part" N_self (spPartR K)) (mP : MetX P w K mg base 6 "pairs" N_self (spPairsR K)) (mF : MetX P w K mg base 7 "field_fact" ["self", "kind"] (spFF2 K))
    (M : FcMk P w K mg base) : FnOk P w K mg base (L2.CX P w) 8 f fd N_self (spFact K) := by
  refine F.ok sc_fact (fun vs H Q E h => ?_) (fun cdv A outer s H vs Q E hr h => ?_)
  · obtain ⟨p, l, row, k, rfl, _⟩ := h
    rfl
  · obtain ⟨p, l, row, k, rfl, rd, hQ, hE⟩ := h
    refine ⟨_, (pss_cons (ps_set (i := 1) sc_fact.nd rfl (Or.inl rfl) (pe_mX rfl mC T.cl_NumberReader hr (by decide) (pv 0) pass_def (pa_cons pe_int pa_nil)))
      (pss_cons (ps_if (pt_cmpR op_eq (pv 1) pe_int (nomark _)) (pss_one (ps_raise rfl (takes_of rfl rfl rfl rfl) (pmk_own PySem.F.excBase_ValueError T.exc.1 T.g_InvalidCode T.exc.2.1 (raises_own T.exc.2.2.1 T.exc.2.2.2) rfl))) pss_nil)
      (pss_cons (ps_if (pt_cmpR op_eq (pv 1) pe_int (nomark _)) (pss_one (ps_ret (C8.pe_mk M.parts hr (by decide) rfl (pa_cons (pe_lcX (own := [("_", 2)]) (g := gName 2) rfl rfl (takes_of rfl rfl rfl rfl) (fun _ _ _ _ h => h) rfl sc_fact.nd
        (pi_range1 rfl T.n_range (pa_cons (pe_mX0 rfl mH T.cl_NumberReader hr (by decide) (pv 0) pass_def) pa_nil)) (blkOk_by (N := N_fact) (sc := defScope s_NumberReader_fact) (by decide +kernel)) (fun _ _ _ _ _ => pg_name (i := 2) sc_fact.nd rfl (Or.inl rfl))
        (fun _ _ _ _ _ _ hp => pe_mX0 (K := K) rfl mPt T.cl_NumberReader hr (by decide) (pv 0) hp)) pa_nil)))) pss_nil)
      (pss_cons (ps_if (pt_cmpR op_in_seq (pv 1) (pe_tup (pa_cons pe_int (pa_cons pe_int pa_nil))) (by rfl)) (pss_cons (ps_set (i := 3) sc_fact.nd rfl (Or.inl rfl) (pe_mX0 rfl mI T.cl_NumberReader hr (by decide) (pv 0) pass_def)) (pss_cons (ps_set (i := 4) sc_fact.nd rfl (Or.inl rfl) (pe_mX0 rfl mI T.cl_NumberReader hr (by decide) (pv 0) pass_def)) (pss_one (ps_ret (pe_ifExp (pt_cmpR op_eq (pv 1) pe_int (nomark _)) (C8.pe_mk M.cell hr (by decide) rfl (pa_cons (pv 3) (pa_cons (pv 4) pa_nil))) (C8.pe_mk M.box hr (by decide) rfl (pa_cons (pv 3) (pa_cons (pv 4) pa_nil)))))))) pss_nil)
      (pss_cons (ps_if (pt_cmpR op_eq (pv 1) pe_int (nomark _)) (pss_cons (ps_set (i := 5) sc_fact.nd rfl (Or.inl rfl) (pe_mX0 rfl mT T.cl_NumberReader hr (by decide) (pv 0) pass_def)) (pss_one (ps_ret (C8.pe_mk M.norms hr (by decide) rfl (pa_cons (pv 5) (pa_cons (pe_mX0 rfl mT T.cl_NumberReader hr (by decide) (pv 0) pass_def) pa_nil)))))) pss_nil)
      (pss_cons (ps_if (pt_cmpR op_eq (pv 1) pe_int (nomark _)) (pss_cons (ps_set (i := 6) sc_fact.nd rfl (Or.inl rfl) (pe_mX0 rfl mI T.cl_NumberReader hr (by decide) (pv 0) pass_def)) (pss_one (ps_ret (C8.pe_mk M.differ hr (by decide) rfl (pa_cons (pv 6) (pa_cons (pe_mX0 rfl mT T.cl_NumberReader hr (by decide) (pv 0) pass_def) pa_nil)))))) pss_nil)
      (pss_cons (ps_if (pt_cmpR op_in_seq (pv 1) (pe_tup (pa_cons pe_int (pa_cons pe_int pa_nil))) (by rfl)) (pss_one (ps_ret (pe_mX rfl mF T.cl_NumberReader hr (by decide) (pv 0) pass_def (pa_cons (pv 1) pa_nil)))) pss_nil)
      (pss_cons (ps_if (pt_cmpR op_eq (pv 1) pe_int (nomark _)) (pss_one (ps_ret (C8.pe_mk M.counts hr (by decide) rfl (pa_cons (pe_mX0 rfl mP T.cl_NumberReader hr (by decide) (pv 0) pass_def) pa_nil)))) pss_nil)
      (pss_cons (ps_set (i := 7) sc_fact.nd rfl (Or.inl rfl) (pe_mX0 rfl mS T.cl_NumberReader hr (by decide) (pv 0) pass_def))
      (pss_one (ps_ret (C8.pe_mk M.names hr (by decide) rfl (pa_cons (pv 7) (pa_cons (pe_mX0 rfl mS T.cl_NumberReader hr (by decide) (pv 0) pass_def) pa_nil)))))))))))))), ?_⟩
    refine choice_call rfl rd ⟨?_, hE⟩
    rintro H1 v n k1 kb1 r1 e1 _ ⟨rfl, hn⟩
    have hE1 : ∀ H', KeepB p H1 H' → E (.ref (He.ga K "InvalidCode")) none H' := fun H' b => hE H' (kb1.trans b)
    have hc : n = 0 ∨ n = 1 ∨ n = 2 ∨ n = 3 ∨ n = 4 ∨ n = 5 ∨ n = 6 ∨ n = 7 ∨ n = 8 ∨ n = 9 := by omega
    rcases hc with rfl | rfl | rfl | rfl | rfl | rfl | rfl | rfl | rfl | rfl
    · refine ⟨_, rfl, rfl, _, rfl, iteT ?_⟩
      exact hE H1 kb1
    · refine ⟨_, rfl, rfl, _, rfl, iteF ?_⟩
      refine ⟨_, rfl, rfl, _, rfl, iteT ?_⟩
      dsimp only [tNext, tSeq, tRet]
      dsimp only [tMake]
      unfold tCons
      show tLc _ (gName 2) tYes _ [2] _ _ _
      refine rd_comp (K := K) (c := cPt) st_pt.v rfl r1 (fun H' b => hE H' (kb1.trans b)) (fun x H3 k3 Q3 r3 he3 h3 => rd_call rfl r3 (by decide +kernel) (by decide +kernel) h3) ?_
      intro H2 pv' ps k2 kb2 r2 e2 _ hp hpl x dx hx hdx ne
      refine spI_make (b := ps) hx hdx ne rfl (fun H' s => ⟨pv', rfl, la_same st_pt s hp⟩) (fun H' s o => ?_)
      refine hQ H' _ (.parts ps) k2 ((kb1.trans kb2).trans (same_keepP s)) (r2.same s) ?_ (r2.fresh (kb1.trans kb2) (fresh_ref hx)) o
      rw [e1, e2]
      show [(1 : Int)] ++ _ = ([1] ++ cList cPt ps) ++ _
      simp only [List.append_assoc]
    · refine ⟨_, rfl, rfl, _, rfl, iteF ?_⟩
      refine ⟨_, rfl, rfl, _, rfl, iteF ?_⟩
      refine ⟨_, rfl, by show 2 ≤ sizeLine; decide, fun q1 hq1 => ?_⟩
      refine ⟨q1, _, rfl, .inr (SqT.of upd_same), rfl, rfl, _, rfl, iteT ?_⟩
      have r1_1 := r1.new (o := .tup [.int 2, .int 3]) hq1
      have kb1_1 := kb1.new (o := .tup [.int 2, .int 3]) hq1
      dsimp only [tNext, tSeq, tRet]
      refine rd_call rfl r1_1 (by decide +kernel) (by decide +kernel) ⟨?_, fun H' b => hE H' (kb1_1.trans b)⟩
      rintro H2 av a k2 kb2 r2 e2 _ ha
      refine rd_call rfl r2 (by decide +kernel) (by decide +kernel) ⟨?_, fun H' b => hE H' ((kb1_1.trans kb2).trans b)⟩
      rintro H3 bv b k3 kb3 r3 e3 _ hb
      dsimp only [gName, tRet]
      refine ⟨_, rfl, rfl, _, rfl, iteT ⟨_, rfl, _, rfl, fun x dx hx hdx ne => ?_⟩⟩
      refine spI_make (b := (a, b)) hx hdx ne rfl (fun H' s => aTwo_same s ⟨av, bv, rfl, r2.li kb3 ha, hb⟩) (fun H' s o => ?_)
      refine hQ H' _ (.cell a b) k3 (((kb1_1.trans kb2).trans kb3).trans (same_keepP s)) (r3.same s) ?_ (r3.fresh ((kb1_1.trans kb2).trans kb3) (fresh_ref hx)) o
      rw [e1, e2, e3]
      show [(2 : Int)] ++ _ = ([2] ++ cNums a ++ cNums b) ++ _
      simp only [List.append_assoc]
    · refine ⟨_, rfl, rfl, _, rfl, iteF ?_⟩
      refine ⟨_, rfl, rfl, _, rfl, iteF ?_⟩
      refine ⟨_, rfl, by show 2 ≤ sizeLine; decide, fun q1 hq1 => ?_⟩
      refine ⟨q1, _, rfl, .inr (SqT.of upd_same), rfl, rfl, _, rfl, iteT ?_⟩
      have r1_1 := r1.new (o := .tup [.int 2, .int 3]) hq1
      have kb1_1 := kb1.new (o := .tup [.int 2, .int 3]) hq1
      dsimp only [tNext, tSeq, tRet]
      refine rd_call rfl r1_1 (by decide +kernel) (by decide +kernel) ⟨?_, fun H' b => hE H' (kb1_1.trans b)⟩
      rintro H2 av a k2 kb2 r2 e2 _ ha
      refine rd_call rfl r2 (by decide +kernel) (by decide +kernel) ⟨?_, fun H' b => hE H' ((kb1_1.trans kb2).trans b)⟩
      rintro H3 bv b k3 kb3 r3 e3 _ hb
      dsimp only [gName, tRet]
      refine ⟨_, rfl, rfl, _, rfl, iteF ⟨_, rfl, _, rfl, fun x dx hx hdx ne => ?_⟩⟩
      refine spI_make (b := (a, b)) hx hdx ne rfl (fun H' s => aTwo_same s ⟨av, bv, rfl, r2.li kb3 ha, hb⟩) (fun H' s o => ?_)
      refine hQ H' _ (.box a b) k3 (((kb1_1.trans kb2).trans kb3).trans (same_keepP s)) (r3.same s) ?_ (r3.fresh ((kb1_1.trans kb2).trans kb3) (fresh_ref hx)) o
      rw [e1, e2, e3]
      show [(3 : Int)] ++ _ = ([3] ++ cNums a ++ cNums b) ++ _
      simp only [List.append_assoc]
    · refine ⟨_, rfl, rfl, _, rfl, iteF ?_⟩
      refine ⟨_, rfl, rfl, _, rfl, iteF ?_⟩
      refine ⟨_, rfl, by show 2 ≤ sizeLine; decide, fun q1 hq1 => ?_⟩
      refine ⟨q1, _, rfl, .inr (SqT.of upd_same), rfl, rfl, _, rfl, iteF ?_⟩
      have r1_1 := r1.new (o := .tup [.int 2, .int 3]) hq1
      have kb1_1 := kb1.new (o := .tup [.int 2, .int 3]) hq1
      refine ⟨_, rfl, rfl, _, rfl, iteT ?_⟩
      dsimp only [tNext, tSeq, tRet]
      refine rd_call rfl r1_1 (by decide +kernel) (by decide +kernel) ⟨?_, fun H' b => hE H' (kb1_1.trans b)⟩
      rintro H2 v lo k2 kb2 r2 e2 _ rfl
      dsimp only [gName, tRet]
      refine ⟨_, rfl, rd_call rfl r2 (by decide +kernel) (by decide +kernel) ⟨?_, fun H' b => hE H' ((kb1_1.trans kb2).trans b)⟩⟩
      rintro H3 v hi k3 kb3 r3 e3 _ rfl x dx hx hdx ne
      refine spI_make (b := (lo, hi)) hx hdx ne rfl (fun H' s => rfl) (fun H' s o => ?_)
      refine hQ H' _ (.norms lo hi) k3 (((kb1_1.trans kb2).trans kb3).trans (same_keepP s)) (r3.same s) ?_ (r3.fresh ((kb1_1.trans kb2).trans kb3) (fresh_ref hx)) o
      rw [e1, e2, e3]
      rfl
    · refine ⟨_, rfl, rfl, _, rfl, iteF ?_⟩
      refine ⟨_, rfl, rfl, _, rfl, iteF ?_⟩
      refine ⟨_, rfl, by show 2 ≤ sizeLine; decide, fun q1 hq1 => ?_⟩
      refine ⟨q1, _, rfl, .inr (SqT.of upd_same), rfl, rfl, _, rfl, iteF ?_⟩
      have r1_1 := r1.new (o := .tup [.int 2, .int 3]) hq1
      have kb1_1 := kb1.new (o := .tup [.int 2, .int 3]) hq1
      refine ⟨_, rfl, rfl, _, rfl, iteF ?_⟩
      refine ⟨_, rfl, rfl, _, rfl, iteT ?_⟩
      dsimp only [tNext, tSeq, tRet]
      refine rd_call rfl r1_1 (by decide +kernel) (by decide +kernel) ⟨?_, fun H' b => hE H' (kb1_1.trans b)⟩
      rintro H2 cv c k2 kb2 r2 e2 _ hc
      dsimp only [gName, tRet]
      refine ⟨_, rfl, rd_call rfl r2 (by decide +kernel) (by decide +kernel) ⟨?_, fun H' b => hE H' ((kb1_1.trans kb2).trans b)⟩⟩
      rintro H3 v m k3 kb3 r3 e3 _ rfl x dx hx hdx ne
      refine spI_make (b := (c, m)) hx hdx ne rfl (fun H' s => ⟨cv, rfl, li_same s (r2.li kb3 hc)⟩) (fun H' s o => ?_)
      refine hQ H' _ (.differ c m) k3 (((kb1_1.trans kb2).trans kb3).trans (same_keepP s)) (r3.same s) ?_ (r3.fresh ((kb1_1.trans kb2).trans kb3) (fresh_ref hx)) o
      rw [e1, e2, e3]
      show [(5 : Int)] ++ _ = ([5] ++ cNums c ++ [m]) ++ _
      simp only [List.append_assoc]
    · refine ⟨_, rfl, rfl, _, rfl, iteF ?_⟩
      refine ⟨_, rfl, rfl, _, rfl, iteF ?_⟩
      refine ⟨_, rfl, by show 2 ≤ sizeLine; decide, fun q1 hq1 => ?_⟩
      refine ⟨q1, _, rfl, .inr (SqT.of upd_same), rfl, rfl, _, rfl, iteF ?_⟩
      have r1_1 := r1.new (o := .tup [.int 2, .int 3]) hq1
      have kb1_1 := kb1.new (o := .tup [.int 2, .int 3]) hq1
      refine ⟨_, rfl, rfl, _, rfl, iteF ?_⟩
      refine ⟨_, rfl, rfl, _, rfl, iteF ?_⟩
      refine ⟨_, rfl, by show 2 ≤ sizeLine; decide, fun q2 hq2 => ?_⟩
      refine ⟨q2, _, rfl, .inr (SqT.of upd_same), rfl, rfl, _, rfl, iteT ?_⟩
      have r1_2 := r1_1.new (o := .tup [.int 6, .int 7]) hq2
      have kb1_2 := kb1_1.new (o := .tup [.int 6, .int 7]) hq2
      dsimp only [tNext, tSeq, tRet]
      refine ff_call (n := 6) rfl rfl (by decide) r1_2 ?_ (fun H' b => hE H' (kb1_2.trans b))
      intro H2 v x k2 kb2 r2 e2 f2 hx
      exact hQ H2 v x k2 (kb1_2.trans kb2) r2 (by rw [e1]; exact e2) (r1_2.fresh kb1_2 f2) hx
    · refine ⟨_, rfl, rfl, _, rfl, iteF ?_⟩
      refine ⟨_, rfl, rfl, _, rfl, iteF ?_⟩
      refine ⟨_, rfl, by show 2 ≤ sizeLine; decide, fun q1 hq1 => ?_⟩
      refine ⟨q1, _, rfl, .inr (SqT.of upd_same), rfl, rfl, _, rfl, iteF ?_⟩
      have r1_1 := r1.new (o := .tup [.int 2, .int 3]) hq1
      have kb1_1 := kb1.new (o := .tup [.int 2, .int 3]) hq1
      refine ⟨_, rfl, rfl, _, rfl, iteF ?_⟩
      refine ⟨_, rfl, rfl, _, rfl, iteF ?_⟩
      refine ⟨_, rfl, by show 2 ≤ sizeLine; decide, fun q2 hq2 => ?_⟩
      refine ⟨q2, _, rfl, .inr (SqT.of upd_same), rfl, rfl, _, rfl, iteT ?_⟩
      have r1_2 := r1_1.new (o := .tup [.int 6, .int 7]) hq2
      have kb1_2 := kb1_1.new (o := .tup [.int 6, .int 7]) hq2
      dsimp only [tNext, tSeq, tRet]
      refine ff_call (n := 7) rfl rfl (by decide) r1_2 ?_ (fun H' b => hE H' (kb1_2.trans b))
      intro H2 v x k2 kb2 r2 e2 f2 hx
      exact hQ H2 v x k2 (kb1_2.trans kb2) r2 (by rw [e1]; exact e2) (r1_2.fresh kb1_2 f2) hx
    · refine ⟨_, rfl, rfl, _, rfl, iteF ?_⟩
      refine ⟨_, rfl, rfl, _, rfl, iteF ?_⟩
      refine ⟨_, rfl, by show 2 ≤ sizeLine; decide, fun q1 hq1 => ?_⟩
      refine ⟨q1, _, rfl, .inr (SqT.of upd_same), rfl, rfl, _, rfl, iteF ?_⟩
      have r1_1 := r1.new (o := .tup [.int 2, .int 3]) hq1
      have kb1_1 := kb1.new (o := .tup [.int 2, .int 3]) hq1
      refine ⟨_, rfl, rfl, _, rfl, iteF ?_⟩
      refine ⟨_, rfl, rfl, _, rfl, iteF ?_⟩
      refine ⟨_, rfl, by show 2 ≤ sizeLine; decide, fun q2 hq2 => ?_⟩
      refine ⟨q2, _, rfl, .inr (SqT.of upd_same), rfl, rfl, _, rfl, iteF ?_⟩
      have r1_2 := r1_1.new (o := .tup [.int 6, .int 7]) hq2
      have kb1_2 := kb1_1.new (o := .tup [.int 6, .int 7]) hq2
      refine ⟨_, rfl, rfl, _, rfl, iteT ?_⟩
      dsimp only [tNext, tSeq, tRet]
      refine rd_call rfl r1_2 (by decide +kernel) (by decide +kernel) ⟨?_, fun H' b => hE H' (kb1_2.trans b)⟩
      rintro H2 wv ws k2 kb2 r2 e2 _ ⟨hw, hwl⟩ x dx hx hdx ne
      refine spI_make (b := ws) hx hdx ne rfl (fun H' s => ⟨⟨wv, rfl, la_same st_word s hw⟩, hwl⟩) (fun H' s o => ?_)
      refine hQ H' _ (.counts ws) k2 ((kb1_2.trans kb2).trans (same_keepP s)) (r2.same s) ?_ (r2.fresh (kb1_2.trans kb2) (fresh_ref hx)) o
      rw [e1, e2]
      show [(8 : Int)] ++ _ = ([8] ++ cList cWord ws) ++ _
      simp only [List.append_assoc]
    · refine ⟨_, rfl, rfl, _, rfl, iteF ?_⟩
      refine ⟨_, rfl, rfl, _, rfl, iteF ?_⟩
      refine ⟨_, rfl, by show 2 ≤ sizeLine; decide, fun q1 hq1 => ?_⟩
      refine ⟨q1, _, rfl, .inr (SqT.of upd_same), rfl, rfl, _, rfl, iteF ?_⟩
      have r1_1 := r1.new (o := .tup [.int 2, .int 3]) hq1
      have kb1_1 := kb1.new (o := .tup [.int 2, .int 3]) hq1
      refine ⟨_, rfl, rfl, _, rfl, iteF ?_⟩
      refine ⟨_, rfl, rfl, _, rfl, iteF ?_⟩
      refine ⟨_, rfl, by show 2 ≤ sizeLine; decide, fun q2 hq2 => ?_⟩
      refine ⟨q2, _, rfl, .inr (SqT.of upd_same), rfl, rfl, _, rfl, iteF ?_⟩
      have r1_2 := r1_1.new (o := .tup [.int 6, .int 7]) hq2
      have kb1_2 := kb1_1.new (o := .tup [.int 6, .int 7]) hq2
      refine ⟨_, rfl, rfl, _, rfl, iteF ?_⟩
      dsimp only [tNext, tSeq, tRet]
      refine rd_call rfl r1_2 (by decide +kernel) (by decide +kernel) ⟨?_, fun H' b => hE H' (kb1_2.trans b)⟩
      rintro H2 v lo k2 kb2 r2 e2 _ rfl
      dsimp only [gName, tRet]
      refine ⟨_, rfl, rd_call rfl r2 (by decide +kernel) (by decide +kernel) ⟨?_, fun H' b => hE H' ((kb1_2.trans kb2).trans b)⟩⟩
      rintro H3 v hi k3 kb3 r3 e3 _ rfl x dx hx hdx ne
      refine spI_make (b := (lo, hi)) hx hdx ne rfl (fun H' s => rfl) (fun H' s o => ?_)
      refine hQ H' _ (.names lo hi) k3 (((kb1_2.trans kb2).trans kb3).trans (same_keepP s)) (r3.same s) ?_ (r3.fresh ((kb1_2.trans kb2).trans kb3) (fresh_ref hx)) o
      rw [e1, e2, e3]
      show [(9 : Int)] ++ _ = ([9] ++ cStr lo ++ cStr hi) ++ _
      simp only [List.append_assoc]
end
end Snk
set_option maxHeartbeats 4000000
namespace Snk
open PySem PySem.Spec PyProof.Rows L2
section
variable {P : Program} {w : World} {K : PySem.W.Frag} {mg : Str → Option Value} {base : Heap} {f : Addr} {fd : FuncData}
/-! ### region, partition, entry, offer -/
abbrev spMkRegion (K : PySem.W.Frag) : Sp := spI (He.ga K "Region") (aRegion (csOf K)) (RgAt (csOf K))
abbrev spMkEntry (K : PySem.W.Frag) : Sp := spI (He.ga K "Entry") (aEntry (csOf K)) (EnAt (csOf K))
abbrev spMkOffer (K : PySem.W.Frag) : Sp := spI (He.ga K "Offer") (aOffer (csOf K)) (FoAt (csOf K))
abbrev spRegion (K : PySem.W.Frag) : Sp := spR K cRg (RgAt (csOf K))
abbrev N_region : List Str := ["self", "parent", "_"]
theorem sc_region : FnScope N_region N_self (defScope s_NumberReader_region) := ⟨rfl, rfl, rfl, by decide +kernel, rfl, by decide +kernel, by decide +kernel⟩
theorem ok_region (F : FnP K "region" "NumberReader.region" s_NumberReader_region f fd) (T : Txt K mg) (mT : MetX P w K mg base 1 "take" N_self (spTake K)) (mH : MetX P w K mg base 3 "short" N_self (spShort K)) (mP : MetX P w K mg base 3 "present" N_self (spPresent K)) (mF : MetX P w K mg base 8 "fact" N_self (spFact K))
    (kR : C8.Mak P w K mg base 1 "Region" (He.ga K "Region") (spMkRegion K) []) : FnOk P w K mg base (L2.CX P w) 9 f fd N_self (spRegion K) := by
  refine F.ok sc_region (fun vs H Q E h => ?_) (fun cdv A outer s H vs Q E hr h => ?_)
  · obtain ⟨p, l, row, k, rfl, _⟩ := h
    rfl
  · obtain ⟨p, l, row, k, rfl, rd, hQ, hE⟩ := h
    refine ⟨_, pss_cons (ps_set (i := 1) sc_region.nd rfl (Or.inl rfl) (pe_ifExp (pt_val (pe_mX0 rfl mP T.cl_NumberReader hr (by decide) (pv 0) pass_def)) (pe_mX0 rfl mT T.cl_NumberReader hr (by decide) (pv 0) pass_def) pe_non))
      (pss_one (ps_ret (C8.pe_mk kR hr (by decide) rfl (pa_cons (pv 1) (pa_cons (pe_lcX (own := [("_", 2)]) (g := gName 2) rfl rfl (takes_of rfl rfl rfl rfl) (fun _ _ _ _ h => h) rfl sc_region.nd
        (pi_range1 rfl T.n_range (pa_cons (pe_mX0 rfl mH T.cl_NumberReader hr (by decide) (pv 0) pass_def) pa_nil)) (blkOk_by (N := N_region) (sc := defScope s_NumberReader_region) (by decide +kernel)) (fun _ _ _ _ _ => pg_name (i := 2) sc_region.nd rfl (Or.inl rfl))
        (fun _ _ _ _ _ _ hp => pe_mX0 (K := K) rfl mF T.cl_NumberReader hr (by decide) (pv 0) hp)) pa_nil))))), ?_⟩
    -- behind the parent
    have go : ∀ (H1 : Hp) (pv' : V) (po : Option Int) (k1 : Nat), KeepB p H H1 → RdAt (He.ga K "NumberReader") p l row H1 k1 → row.drop k = cOpt po ++ row.drop k1 → OptAt H1 pv' po →
        tMake (He.ga K "Region") (spMkRegion K) [] C8.E0 (tCons (tVar 1) (tCons (tLc (iRng1 (tCons (tMeth (He.ga K "NumberReader") "short" (spShort K) [] E (tVar 0) tNil) tNil)) (gName 2) tYes (tMeth (He.ga K "NumberReader") "fact" (spFact K) [] E (tVar 0) tNil) [2]) tNil)) [some (.ref p), some pv', none] H1 Q := by
      intro H1 pv' po k1 kb1 r1 e1 ho
      refine ⟨_, rfl, ?_⟩
      unfold tCons
      refine rd_comp (K := K) (c := cFc) st_fc.v rfl r1 (fun H' b => hE H' (kb1.trans b)) (fun x H3 k3 Q3 r3 he3 h3 => rd_call rfl r3 (by decide +kernel) (by decide +kernel) h3) ?_
      intro H2 fv fs k2 kb2 r2 e2 _ hf hfl x dx hx hdx ne
      have kb := kb1.trans kb2
      refine spI_make (b := ⟨po, fs⟩) hx hdx ne rfl (fun H' s => ⟨pv', fv, rfl, ho, la_same st_fc s hf⟩) (fun H' s o => ?_)
      refine hQ H' _ ⟨po, fs⟩ k2 (kb.trans (same_keepP s)) (r2.same s) ?_ (r2.fresh kb (fresh_ref hx)) o
      rw [e1, e2]
      show _ = (cOpt po ++ cList cFc fs) ++ _
      rw [List.append_assoc]
    refine rd_call rfl rd (by decide +kernel) (by decide +kernel) ⟨?_, hE⟩
    rintro H1 v b k1 kb1 r1 e1 _ rfl
    refine ⟨b, rfl, ?_⟩
    cases b with
    | true =>
      refine iteT (rd_call rfl r1 (by decide +kernel) (by decide +kernel) ⟨?_, fun H' b => hE H' (kb1.trans b)⟩)
      rintro H2 v i k2 kb2 r2 e2 _ rfl
      exact go H2 (.int i) (some i) k2 (kb1.trans kb2) r2 (by rw [e1, e2]; rfl) rfl
    | false => exact iteF (go H1 .non none k1 kb1 r1 (by rw [e1]; rfl) rfl)
abbrev spPartition (K : PySem.W.Frag) : Sp := spR K cPn (LstAt (RgAt (csOf K)))
theorem sc_partition : FnScope N_us N_self (defScope s_NumberReader_partition) := ⟨rfl, rfl, rfl, by decide +kernel, rfl, by decide +kernel, by decide +kernel⟩
theorem ok_partition (F : FnP K "partition" "NumberReader.partition" s_NumberReader_partition f fd) (T : Txt K mg) (mH : MetX P w K mg base 3 "short" N_self (spShort K)) (mR : MetX P w K mg base 9 "region" N_self (spRegion K)) : FnOk P w K mg base (L2.CX P w) 10 f fd N_self (spPartition K) := by
  refine F.ok sc_partition (fun vs H Q E h => ?_) (fun cdv A outer s H vs Q E hr h => ?_)
  · obtain ⟨p, l, row, k, rfl, _⟩ := h
    rfl
  · obtain ⟨p, l, row, k, rfl, rd, hQ, hE⟩ := h
    refine ⟨_, pss_one (ps_ret (pe_lcX (own := [("_", 1)]) (g := gName 1) rfl rfl (takes_of rfl rfl rfl rfl) (fun _ _ _ _ h => h) rfl sc_partition.nd
      (pi_range1 rfl T.n_range (pa_cons (pe_mX0 rfl mH T.cl_NumberReader hr (by decide) (pv 0) pass_def) pa_nil)) (blkOk_by (N := N_us) (sc := defScope s_NumberReader_partition) (by decide +kernel)) (fun _ _ _ _ _ => pg_name (i := 1) sc_partition.nd rfl (Or.inl rfl))
      (fun _ _ _ _ _ _ hp => pe_mX0 (K := K) rfl mR T.cl_NumberReader hr (by decide) (pv 0) hp))), ?_⟩
    exact rd_comp (K := K) (c := cRg) st_rg.v rfl rd hE (fun x H1 k1 Q1 r1 he1 h1 => rd_call rfl r1 (by decide +kernel) (by decide +kernel) h1) (fun H' v xs k' kb r' e fr ha hb => hQ H' v xs k' kb r' e fr ha)
abbrev spEntry (K : PySem.W.Frag) : Sp := spR K cEn (EnAt (csOf K))
abbrev N_entry : List Str := ["self", "number", "record"]
theorem sc_entry : FnScope N_entry N_self (defScope s_NumberReader_entry) := ⟨rfl, rfl, rfl, by decide +kernel, rfl, by decide +kernel, by decide +kernel⟩
theorem ok_entry (F : FnP K "entry" "NumberReader.entry" s_NumberReader_entry f fd) (T : Txt K mg) (mT : MetX P w K mg base 1 "take" N_self (spTake K)) (mI : MetX P w K mg base 4 "integers" N_self (spInts K)) (mR : MetX P w K mg base 7 "record" N_self (spRecord K)) (kE : C8.Mak P w K mg base 1 "Entry" (He.ga K "Entry") (spMkEntry K) []) :
    FnOk P w K mg base (L2.CX P w) 8 f fd N_self (spEntry K) := by
  refine F.ok sc_entry (fun vs H Q E h => ?_) (fun cdv A outer s H vs Q E hr h => ?_)
  · obtain ⟨p, l, row, k, rfl, _⟩ := h
    rfl
  · obtain ⟨p, l, row, k, rfl, rd, hQ, hE⟩ := h
    refine ⟨_, pss_cons (ps_set (i := 1) sc_entry.nd rfl (Or.inl rfl) (pe_mX0 rfl mT T.cl_NumberReader hr (by decide) (pv 0) pass_def))
      (pss_cons (ps_set (i := 2) sc_entry.nd rfl (Or.inl rfl) (pe_mX0 rfl mR T.cl_NumberReader hr (by decide) (pv 0) pass_def))
      (pss_one (ps_ret (C8.pe_mk kE hr (by decide) rfl (pa_cons (pv 1) (pa_cons (pv 2) (pa_cons (pe_mX0 rfl mI T.cl_NumberReader hr (by decide) (pv 0) pass_def) pa_nil))))))), ?_⟩
    refine rd_call rfl rd (by decide +kernel) (by decide +kernel) ⟨?_, hE⟩
    rintro H1 v n k1 kb1 r1 e1 _ rfl
    refine rd_call rfl r1 (by decide +kernel) (by decide +kernel) ⟨?_, fun H' b => hE H' (kb1.trans b)⟩
    rintro H2 cv rc k2 kb2 r2 e2 _ hc
    refine ⟨_, rfl, _, rfl, rd_call rfl r2 (by decide +kernel) (by decide +kernel) ⟨?_, fun H' b => hE H' ((kb1.trans kb2).trans b)⟩⟩
    rintro H3 lv ls k3 kb3 r3 e3 _ hl
    have kb := (kb1.trans kb2).trans kb3
    intro x dx hx hdx ne
    refine spI_make (b := ⟨n, rc, ls⟩) hx hdx ne rfl (fun H' s => ⟨cv, lv, rfl, st_rc.ap (Same.keep s) (st_rc.ap (r2.keep kb3) hc), li_same s hl⟩) (fun H' s o => ?_)
    refine hQ H' _ ⟨n, rc, ls⟩ k3 (kb.trans (same_keepP s)) (r3.same s) ?_ (r3.fresh kb (fresh_ref hx)) o
    rw [e1, e2, e3]
    show _ = ([n] ++ cRc rc ++ cNums ls) ++ _
    simp only [List.append_assoc]
abbrev spOffer (K : PySem.W.Frag) : Sp := spR K cFo (FoAt (csOf K))
abbrev N_offer : List Str := ["self", "partitions", "_"]
theorem sc_offer : FnScope N_offer N_self (defScope s_NumberReader_offer) := ⟨rfl, rfl, rfl, by decide +kernel, rfl, by decide +kernel, by decide +kernel⟩
theorem ok_offer (F : FnP K "offer" "NumberReader.offer" s_NumberReader_offer f fd) (T : Txt K mg) (mH : MetX P w K mg base 3 "short" N_self (spShort K)) (mP : MetX P w K mg base 10 "partition" N_self (spPartition K)) (mE : MetX P w K mg base 8 "entry" N_self (spEntry K)) (kO : C8.Mak P w K mg base 1 "Offer" (He.ga K "Offer") (spMkOffer K) []) :
    FnOk P w K mg base (L2.CX P w) 11 f fd N_self (spOffer K) := by
  refine F.ok sc_offer (fun vs H Q E h => ?_) (fun cdv A outer s H vs Q E hr h => ?_)
  · obtain ⟨p, l, row, k, rfl, _⟩ := h
    rfl
  · obtain ⟨p, l, row, k, rfl, rd, hQ, hE⟩ := h
    refine ⟨_, pss_cons (ps_setLcX (i := 1) (own := [("_", 2)]) (g := gName 2) rfl rfl (takes_of rfl rfl rfl rfl) (fun _ _ _ _ h => h) rfl sc_offer.nd rfl rfl (sw_true rfl rfl rfl (by decide +kernel))
        (pi_range1 rfl T.n_range (pa_cons (pe_mX0 rfl mH T.cl_NumberReader hr (by decide) (pv 0) pass_def) pa_nil)) (blkOk_by (N := N_offer) (sc := defScope s_NumberReader_offer) (by decide +kernel)) (fun _ _ _ _ _ => pg_name (i := 2) sc_offer.nd rfl (Or.inl rfl))
        (fun _ _ _ _ _ _ hp => pe_mX0 (K := K) rfl mP T.cl_NumberReader hr (by decide) (pv 0) hp))
      (pss_one (ps_ret (C8.pe_mk kO hr (by decide) rfl (pa_cons (pv 1) (pa_cons (pe_lcX (own := [("_", 2)]) (g := gName 2) rfl rfl (takes_of rfl rfl rfl rfl) (fun _ _ _ _ h => h) rfl sc_offer.nd
        (pi_range1 rfl T.n_range (pa_cons (pe_mX0 rfl mH T.cl_NumberReader hr (by decide) (pv 0) pass_def) pa_nil)) (blkOk_by (N := N_offer) (sc := defScope s_NumberReader_offer) (by decide +kernel)) (fun _ _ _ _ _ => pg_name (i := 2) sc_offer.nd rfl (Or.inl rfl))
        (fun _ _ _ _ _ _ hp => pe_mX0 (K := K) rfl mE T.cl_NumberReader hr (by decide) (pv 0) hp)) pa_nil))))), ?_⟩
    dsimp only [tSeq, tAsg]
    refine rd_comp (K := K) (c := cPn) (sv_lst st_rg) rfl rd hE (fun x H1 k1 Q1 r1 he1 h1 => rd_call rfl r1 (by decide +kernel) (by decide +kernel) h1) ?_
    intro H1 pv' ps k1 kb1 r1 e1 _ hp hpl
    dsimp only [gName, tRet]
    refine ⟨_, rfl, ?_⟩
    unfold tCons
    refine rd_comp (K := K) (c := cEn) st_en.v rfl r1 (fun H' b => hE H' (kb1.trans b)) (fun x H1 k1 Q1 r1 he1 h1 => rd_call rfl r1 (by decide +kernel) (by decide +kernel) h1) ?_
    intro H2 ev es k2 kb2 r2 e2 _ he _ x dx hx hdx ne
    have kb := kb1.trans kb2
    have hp2 := r1.lla st_rg kb2 hp
    refine spI_make (b := ⟨ps, es⟩) hx hdx ne rfl (fun H' s => ⟨⟨pv', ev, rfl, ?_, la_same st_en s he⟩, hpl⟩) (fun H' s o => ?_)
    · obtain ⟨q, vs, rfl, hq, pr⟩ := hp2
      exact ⟨q, vs, rfl, s _ _ hq, pr.mono fun _ _ z => la_same st_rg s z⟩
    · refine hQ H' _ ⟨ps, es⟩ k2 (kb.trans (same_keepP s)) (r2.same s) ?_ (r2.fresh kb (fresh_ref hx)) o
      rw [e1, e2]
      show _ = (cList cPn ps ++ cList cEn es) ++ _
      rw [List.append_assoc]
/-! ### the reader itself, finish -/
abbrev spMkReader (K : PySem.W.Frag) : Sp := spI (He.ga K "NumberReader") (fun H as ns => aOne LI' H as ns ∧ ns.length ≤ Big) fun H v ns => ∃ p l, v = .ref p ∧ RdAt (He.ga K "NumberReader") p l ns H 0
abbrev N_rinit : List Str := ["self", "numbers"]
theorem sc_rinit : FnScope N_rinit N_rinit (defScope s_NumberReader_init) := ⟨rfl, rfl, rfl, by decide +kernel, rfl, by decide +kernel, by decide +kernel⟩
theorem ok_rinit (F : FnP K "__init__" "NumberReader.__init__" s_NumberReader_init f fd) (T : Txt K mg) : FnOk P w K mg base C8.CX0 1 f fd N_rinit (spMkReader K) := by
  refine F.ok sc_rinit (fun vs H Q E h => ?_) (fun cdv A outer s H vs Q E hr h => ?_)
  · obtain ⟨x, dx, as, b, rfl, _, ⟨⟨u, rfl, _⟩, _⟩, _⟩ := h
    rfl
  · obtain ⟨x, dx, as, ns, rfl, hx, ⟨⟨u, rfl, q, rfl, hq⟩, hb⟩, k⟩ := h
    refine ⟨_, PSs.nox (pss_cons (ps_fld (pv 0) (pe_callTy call_list_of (by rfl) T.n_list (by decide +kernel) (pa_cons (pv 1) pa_nil)) rfl) (pss_one (ps_fld (pv 0) pe_int rfl))), ?_⟩
    refine ⟨_, rfl, q, _, rfl, .inl (SqL.of hq), fun l hl => ?_⟩
    have hx1 := at_new (u := .lst (ns.map V.int)) hx hl
    refine ⟨_, rfl, x, _, dx, _, rfl, hx1, T.cl_NumberReader, T.na_NumberReader_row, (by show 0 < 1000; decide), ?_⟩
    refine ⟨_, rfl, x, _, dx, _, rfl, upd_same, T.cl_NumberReader, T.na_NumberReader_at, (by exact len_lt (len_put (n := 1) (by decide)) (by decide)), ?_⟩
    have n1 : l ≠ x := fun z => by rw [z, hx] at hl; cases hl
    have kb : KeepB x H (upd (upd (upd H l (.lst (ns.map V.int))) x (.ins (He.ga K "NumberReader") dx (putF "row" (.ref l) []))) x (.ins (He.ga K "NumberReader") dx (putF "at" (.int 0) (putF "row" (.ref l) [])))) := KeepB.upd (KeepB.upd (KeepP.refl.new hl))
    exact k _ kb ⟨x, l, rfl, ⟨⟨dx, by rw [upd_same, rd_new]⟩, by rw [upd_ne n1, upd_ne n1, upd_same], Nat.zero_le _, hb⟩⟩
def spFinish (K : PySem.W.Frag) : Sp := fun vs H Q E => ∃ p l row k, vs = [.ref p] ∧ RdAt (He.ga K "NumberReader") p l row H k ∧ (k = row.length → Q .non H) ∧ E (.ref (He.ga K "InvalidCode")) none H
theorem sc_finish : FnScope N_self N_self (defScope s_NumberReader_finish) := ⟨rfl, rfl, rfl, by decide +kernel, rfl, by decide +kernel, by decide +kernel⟩
theorem ok_finish (F : FnP K "finish" "NumberReader.finish" s_NumberReader_finish f fd) (T : Txt K mg) : FnOk P w K mg base (L2.CX P w) 1 f fd N_self (spFinish K) := by
  refine F.ok sc_finish (fun vs H Q E h => ?_) (fun cdv A outer s H vs Q E hr h => ?_)
  · obtain ⟨p, l, row, k, rfl, _⟩ := h
    rfl
  · obtain ⟨p, l, row, k, rfl, rd, hQ, hE⟩ := h
    refine ⟨_, pss_one (ps_if (pt_cmpR op_lt (pe_fld (pv 0) rfl) (pe_callB call_len_seq (by rfl) T.n_len PySem.boot_len (pa_cons (pe_fld (pv 0) rfl) pa_nil)) (nomark _))
        (pss_one (ps_raise rfl (takes_of rfl rfl rfl rfl) (pmk_own PySem.F.excBase_ValueError T.exc.1 T.g_InvalidCode T.exc.2.1 (raises_own T.exc.2.2.1 T.exc.2.2.2) rfl))) pss_nil), ?_⟩
    obtain ⟨dx, hp⟩ := rd.ins
    refine ⟨_, rfl, p, _, dx, _, _, rfl, hp, T.cl_NumberReader, T.na_NumberReader_at, rd_at l k, _, rfl, p, _, dx, _, _, rfl, hp, T.cl_NumberReader, T.na_NumberReader_row, rd_row l k, l, _, rfl, .inl (SqL.of rd.lst), _, _, rfl, rfl, _, rfl, ?_⟩
    refine ite2 (fun _ => hE) (fun hn => hQ ?_)
    have h2 : ¬ ((k : Int) < ((row.map V.int).length : Int)) := fun z => hn (decide_eq_true z)
    rw [List.length_map] at h2
    have := rd.le
    omega
/-! ### read_record, read_offer -/
def spRead {α : Type} (K : PySem.W.Frag) (c : α → List Int) (R : Lies α) : Sp := fun vs H Q E => ∃ v ns, vs = [v] ∧ LI' H v ns ∧ ns.length ≤ Big ∧ (∀ H' u r, Same H H' → ns = c r → R H' u r → Q u H') ∧ ∀ H', Same H H' → E (.ref (He.ga K "InvalidCode")) none H'
theorem fin_call {i : Nat} {σ : L2.St} {H : Hp} {Q : VK} {E : XK} {p l : Addr} {row : List Int} {k : Nat} (hσ : σ[i]? = some (some (.ref p))) (r : RdAt (He.ga K "NumberReader") p l row H k) (h1 : k = row.length → Q .non H) (h2 : E (.ref (He.ga K "InvalidCode")) none H) :
    tMeth (He.ga K "NumberReader") "finish" (spFinish K) [] E (tVar i) tNil σ H Q := by
  obtain ⟨dx, e⟩ := r.ins
  exact ⟨_, hσ, p, dx, _, rfl, e, rd_no l k (by decide +kernel) (by decide +kernel), p, l, row, k, rfl, r, h1, h2⟩
abbrev N_rr : List Str := ["numbers", "reader", "record"]
theorem sc_rr : FnScope N_rr ["numbers"] (defScope s_read_record) := ⟨rfl, rfl, rfl, by decide +kernel, rfl, by decide +kernel, by decide +kernel⟩
theorem ok_read_record (F : FnP K "read_record" "read_record" s_read_record f fd) (T : Txt K mg) (mR : MetX P w K mg base 7 "record" N_self (spRecord K)) (mF : MetX P w K mg base 1 "finish" N_self (spFinish K)) (kR : C8.Mak P w K mg base 1 "NumberReader" (He.ga K "NumberReader") (spMkReader K) []) :
    FnOk P w K mg base (L2.CX P w) 12 f fd ["numbers"] (spRead K cRc (RcAt (csOf K))) := by
  refine F.ok sc_rr (fun vs H Q E h => ?_) (fun cdv A outer s H vs Q E hr h => ?_)
  · obtain ⟨v, ns, rfl, _⟩ := h
    rfl
  · obtain ⟨v, ns, rfl, hv, hb, hQ, hE⟩ := h
    refine ⟨_, pss_cons (ps_set (i := 1) sc_rr.nd rfl (Or.inl rfl) (C8.pe_mk kR hr (by decide) rfl (pa_cons (pv 0) pa_nil)))
      (pss_cons (ps_set (i := 2) sc_rr.nd rfl (Or.inl rfl) (pe_mX0 rfl mR T.cl_NumberReader hr (by decide) (pv 1) pass_def))
      (pss_cons (ps_expr (pe_mX0 rfl mF T.cl_NumberReader hr (by decide) (pv 1) pass_def)) (pss_one (ps_ret (pv 2))))), ?_⟩
    refine ⟨_, rfl, fun x dx hx hdx ne => spI_make (b := ns) hx hdx ne rfl (fun H' s => ⟨⟨v, rfl, li_same s hv⟩, hb⟩) (fun H1 s1 o => ?_)⟩
    obtain ⟨p, l, ep, r1⟩ := o
    cases ep
    refine rd_call rfl r1 (by decide +kernel) (by decide +kernel) ⟨?_, fun H' b => hE H' (fun c o e => b c o (ne_of_none e hx) (s1 c o e))⟩
    intro H2 u r k2 kb2 r2 e2 _ hr2
    have s2 : Same H H2 := fun c o e => kb2 c o (ne_of_none e hx) (s1 c o e)
    refine fin_call rfl r2 (fun hk => ⟨_, rfl, hQ H2 u r s2 ?_ hr2⟩) (hE H2 s2)
    rw [hk, List.drop_length, List.append_nil] at e2
    exact e2
abbrev N_ro : List Str := ["numbers", "reader", "offer"]
theorem sc_ro : FnScope N_ro ["numbers"] (defScope s_read_offer) := ⟨rfl, rfl, rfl, by decide +kernel, rfl, by decide +kernel, by decide +kernel⟩
theorem ok_read_offer (F : FnP K "read_offer" "read_offer" s_read_offer f fd) (T : Txt K mg) (mR : MetX P w K mg base 11 "offer" N_self (spOffer K)) (mF : MetX P w K mg base 1 "finish" N_self (spFinish K)) (kR : C8.Mak P w K mg base 1 "NumberReader" (He.ga K "NumberReader") (spMkReader K) []) :
    FnOk P w K mg base (L2.CX P w) 12 f fd ["numbers"] (spRead K cFo (FoAt (csOf K))) := by
  refine F.ok sc_ro (fun vs H Q E h => ?_) (fun cdv A outer s H vs Q E hr h => ?_)
  · obtain ⟨v, ns, rfl, _⟩ := h
    rfl
  · obtain ⟨v, ns, rfl, hv, hb, hQ, hE⟩ := h
    refine ⟨_, pss_cons (ps_set (i := 1) sc_ro.nd rfl (Or.inl rfl) (C8.pe_mk kR hr (by decide) rfl (pa_cons (pv 0) pa_nil)))
      (pss_cons (ps_set (i := 2) sc_ro.nd rfl (Or.inl rfl) (pe_mX0 rfl mR T.cl_NumberReader hr (by decide) (pv 1) pass_def))
      (pss_cons (ps_expr (pe_mX0 rfl mF T.cl_NumberReader hr (by decide) (pv 1) pass_def)) (pss_one (ps_ret (pv 2))))), ?_⟩
    refine ⟨_, rfl, fun x dx hx hdx ne => spI_make (b := ns) hx hdx ne rfl (fun H' s => ⟨⟨v, rfl, li_same s hv⟩, hb⟩) (fun H1 s1 o => ?_)⟩
    obtain ⟨p, l, ep, r1⟩ := o
    cases ep
    refine rd_call rfl r1 (by decide +kernel) (by decide +kernel) ⟨?_, fun H' b => hE H' (fun c o e => b c o (ne_of_none e hx) (s1 c o e))⟩
    intro H2 u r k2 kb2 r2 e2 _ hr2
    have s2 : Same H H2 := fun c o e => kb2 c o (ne_of_none e hx) (s1 c o e)
    refine fin_call rfl r2 (fun hk => ⟨_, rfl, hQ H2 u r s2 ?_ hr2⟩) (hE H2 s2)
    rw [hk, List.drop_length, List.append_nil] at e2
    exact e2
end
end Snk
set_option maxHeartbeats 4000000
namespace Snk
open PySem PySem.Spec PyProof.Rows L2
/-! ### the law's draws: the list at st holds the script's copy (at a), a count, a number -/
structure StAt (st a : Addr) (ns : List Int) (H : Hp) : Prop where
  lst : ∃ i v : Int, 0 ≤ i ∧ H st = some (.lst [.ref a, .int i, .int v])
  scr : H a = some (.lst (ns.map V.int))
  ne : a ≠ st
section
variable {st a q D : Addr} {ns : List Int} {H H' : Hp} {o : HO} {v : V}
theorem StAt.some (r : StAt st a ns H) : ∃ o, H st = some o ∧ isData o = false := by
  obtain ⟨i, v, _, h⟩ := r.lst
  exact ⟨_, h, rfl⟩
theorem StAt.keep (r : StAt st a ns H) (b : KeepB st H H') : Keep H H' := b.keep fun b o hb e => by
  obtain ⟨o', e', d⟩ := r.some
  rw [hb] at e
  rw [e] at e'; cases e'
  exact d
theorem StAt.same (r : StAt st a ns H) (s : Same H H') : StAt st a ns H' := by
  obtain ⟨i, v, hi, e⟩ := r.lst
  exact ⟨⟨i, v, hi, s _ _ e⟩, s _ _ r.scr, r.ne⟩
theorem StAt.new (r : StAt st a ns H) (h : H q = none) : StAt st a ns (upd H q o) := r.same (same_new h)
theorem StAt.free (r : StAt st a ns H') (b : KeepB st H H') (h : H' q = none) : H q = none := b.free (fun c hc => by
  obtain ⟨o, e, _⟩ := r.some
  rw [hc, e]
  exact fun z => nomatch z) h
theorem StAt.fresh (r : StAt st a ns H') (b : KeepB st H H') (f : Fresh H' v) : Fresh H v := fun q e => r.free b (f q e)
/-- a list that is not st's stands -/
theorem KeepB.lst {xs : List V} (b : KeepB st H H') (n : q ≠ st) (h : H q = Option.some (.lst xs)) : H' q = Option.some (.lst xs) := b q _ n h
end
/-- v is no mere st -/
def Off (st : Addr) (v : V) : Prop := ∀ q, v = .ref q → q ≠ st
theorem Fresh.off {st a : Addr} {ns : List Int} {H : Hp} {v : V} (f : Fresh H v) (r : StAt st a ns H) : Off st v := fun q e z => by
  obtain ⟨o, h, _⟩ := r.some
  have := f q e
  rw [z, h] at this; cases this
theorem KeepB.v {st : Addr} {a : Addr} {ns : List Int} {H H' : Hp} {v : V} (b : KeepB st H H') (r : StAt st a ns H) (o : Off st v) : KeepV v H H' := b.keepV (fun c o hc e => by
  obtain ⟨o', e', d⟩ := r.some
  rw [hc] at e
  rw [e] at e'; cases e'
  exact d) o
/-- the promise of a def that draws -/
def spG {α : Type} (ok : α → Prop) (R : Lies α) : Sp := fun vs H Q _ => ∃ st a ns, vs = [.ref st] ∧ StAt st a ns H ∧ ∀ H' v x, KeepB st H H' → StAt st a ns H' → Fresh H v → ok x → R H' v x → Q v H'
def spRow : Sp := fun vs H Q _ => ∃ (a : Addr) (ns : List Int) (k : Int), vs = [.ref a, .int k] ∧ H a = some (.lst (ns.map V.int)) ∧ 0 ≤ k ∧ ∀ c : Int, Q (.int c) H
def spNext : Sp := fun vs H Q _ => ∃ st a ns, ∃ m : Int, vs = [.ref st, .int m] ∧ StAt st a ns H ∧ 0 < m ∧ m < 1073741824 ∧ ∀ H' (d : Nat), KeepB st H H' → StAt st a ns H' → (d : Int) < m → Q (.int (d : Int)) H'
section
variable {P : Program} {w : World} {K : PySem.W.Frag} {mg : Str → Option Value} {base : Heap} {f : Addr} {fd : FuncData}
abbrev N_row : List Str := ["_law_script", "_law_k", "_law_cell", "_law_a", "_law_b", "_law_c"]
abbrev P_row : List Str := ["_law_script", "_law_k"]
theorem sc_row : FnScope N_row P_row (defScope s_law_row) := ⟨rfl, rfl, rfl, by decide +kernel, rfl, by decide +kernel, by decide +kernel⟩
theorem in64 {i : Int} (h0 : 0 ≤ i) (h1 : i < 2147483647) : -(2 ^ 64) < i ∧ i < 2 ^ 64 := by omega
theorem pos1 : (0 : Int) < 2147483647 := by decide
theorem pos3 : (0 : Int) < 2147483629 := by decide
theorem pos2 : (0 : Int) < 2147483587 := by decide
theorem ok_row (F : FnP K "_law_row" "_law_row" s_law_row f fd) (T : Txt K mg) : FnOk P w K mg base C8.CX0 1 f fd P_row spRow := by
  refine F.ok sc_row (fun vs H Q E h => ?_) (fun cdv A outer s H vs Q E hr h => ?_)
  · obtain ⟨a, ns, k, rfl, _⟩ := h
    rfl
  · obtain ⟨a, ns, k, rfl, ha, hk, hQ⟩ := h
    refine ⟨_, PSs.nox (C8.pss_cut (ps_set (i := 2) sc_row.nd rfl (Or.inl rfl) pe_int)
      (C8.pss_cut (ps_if (pt_cmpR op_lt (pv 1) (pe_callB call_len_seq (by rfl) T.n_len PySem.boot_len (pa_cons (pv 0) pa_nil)) (nomark _)) (pss_one (ps_set (i := 2) sc_row.nd rfl (Or.inl rfl) (pe_ix ix_list (pv 0) (pv 1) (fun _ _ => rfl)))) pss_nil)
      (C8.pss_cut (ps_if (pt_cmpR op_lt (pv 2) pe_int (nomark _)) (pss_one (ps_set (i := 2) sc_row.nd rfl (Or.inl rfl) (pe_op op_sub (pe_op op_mul (pe_un un_neg pe_int) (pv 2)) pe_int))) pss_nil)
      (C8.pss_cut (ps_if (pt_cmpR op_lt (pv 2) (pe_op op_pow pe_int pe_int) (nomark _))
        (pss_cons (ps_set (i := 3) sc_row.nd rfl (Or.inl rfl) (pe_op op_mod (pe_callTy call_int1 (by rfl) T.n_int (by decide +kernel) (pa_cons (pe_op op_add (pe_op op_add (pe_op op_mul (pv 2) pe_int) (pe_op op_mul (pv 1) pe_int)) pe_int) pa_nil)) pe_int))
        (pss_cons (ps_set (i := 4) sc_row.nd rfl (Or.inl rfl) (pe_op op_mod (pe_callTy call_int1 (by rfl) T.n_int (by decide +kernel) (pa_cons (pe_op op_add (pe_op op_add (pe_op op_add (pe_op op_mul (pv 3) pe_int) (pe_op op_mul (pv 2) pe_int)) (pv 1)) pe_int) pa_nil)) pe_int))
        (pss_cons (ps_set (i := 5) sc_row.nd rfl (Or.inl rfl) (pe_op op_mod (pe_callTy call_int1 (by rfl) T.n_int (by decide +kernel) (pa_cons (pe_op op_add (pe_op op_add (pe_op op_mul (pv 4) pe_int) (pe_op op_mul (pv 3) (pv 4))) pe_int) pa_nil)) pe_int))
        (pss_one (ps_set (i := 2) sc_row.nd rfl (Or.inl rfl) (pe_op op_add (pe_op op_add (pv 3) (pe_op op_mul (pv 4) pe_int)) (pe_op op_mul (pv 5) (pe_op op_pow pe_int pe_int)))))))) pss_nil)
      (pss_one (ps_ret (pv 2))))))), ?_⟩
    refine ⟨fun σ H' => H' = H ∧ ∃ c : Int, σ = [some (.ref a), some (.int k), some (.int c), none, none, none], ⟨rfl, 0, rfl⟩, ?_⟩
    rintro σ H1 ⟨rfl, c, rfl⟩
    refine ⟨fun σ H' => H' = H1 ∧ ∃ c : Int, σ = [some (.ref a), some (.int k), some (.int c), none, none, none], ?_, ?_⟩
    · refine ⟨_, rfl, _, rfl, a, _, rfl, .inl (SqL.of ha), _, _, rfl, rfl, _, rfl, ite2 (fun h => ?_) (fun _ => ⟨rfl, c, rfl⟩)⟩
      have hlt : k < ((ns.map V.int).length : Int) := of_decide_eq_true h
      rw [List.length_map] at hlt
      obtain ⟨n, rfl⟩ := Int.eq_ofNat_of_zero_le hk
      have hn : n < ns.length := by omega
      refine ⟨_, rfl, _, rfl, a, _, _, .int ns[n], rfl, rfl, SqL.of ha, atI_nat (by rw [List.getElem?_map, List.getElem?_eq_getElem hn]; rfl), rfl, _, rfl⟩
    rintro σ H2 ⟨rfl, c, rfl⟩
    refine ⟨fun σ H' => H' = H2 ∧ ∃ c : Int, σ = [some (.ref a), some (.int k), some (.int c), none, none, none], ?_, ?_⟩
    · refine ⟨_, rfl, _, _, rfl, rfl, _, rfl, ite2 (fun h => ?_) (fun _ => ⟨rfl, c, rfl⟩)⟩
      exact ⟨_, rfl, _, rfl, _, _, rfl, rfl, .inl (by decide), _, _, rfl, rfl, rfl, _, rfl⟩
    rintro σ H3 ⟨rfl, c, rfl⟩
    refine ⟨fun σ H' => H' = H3 ∧ ∃ (c : Int) (x y z : Option V), σ = [some (.ref a), some (.int k), some (.int c), x, y, z], ?_, ?_⟩
    · refine ⟨_, rfl, _, _, rfl, rfl, ⟨by decide, by decide, by decide⟩, _, _, rfl, rfl, _, rfl, ite2 (fun h => ?_) (fun _ => ⟨rfl, c, none, none, none, rfl⟩)⟩
      refine ⟨_, rfl, _, _, rfl, rfl, .inr (by decide), _, rfl, _, _, rfl, rfl, .inr (by decide), _, _, rfl, rfl, _, _, rfl, rfl, .inl ⟨_, rfl, _, _, rfl, rfl, pos1, ?_⟩⟩
      refine ⟨_, rfl, _, _, rfl, rfl, .inr (by decide), _, rfl, _, _, rfl, rfl, .inr (by decide), _, _, rfl, rfl, _, rfl, _, _, rfl, rfl, _, _, rfl, rfl, .inl ⟨_, rfl, _, _, rfl, rfl, pos3, ?_⟩⟩
      refine ⟨_, rfl, _, _, rfl, rfl, .inr (by decide), _, rfl, _, rfl, _, _, rfl, rfl, .inl (in64 (Int.emod_nonneg _ (by decide)) (Int.emod_lt_of_pos _ (by decide))), _, _, rfl, rfl, _, _, rfl, rfl, .inl ⟨_, rfl, _, _, rfl, rfl, pos2, ?_⟩⟩
      exact ⟨_, rfl, _, rfl, _, _, rfl, rfl, .inr (by decide), _, _, rfl, rfl, _, rfl, _, _, rfl, rfl, ⟨by decide, by decide, by decide⟩, _, _, rfl, rfl, .inl (in64 (Int.emod_nonneg _ (by decide)) (Int.lt_trans (Int.emod_lt_of_pos _ (by decide)) (by decide))), _, _, rfl, rfl, rfl, _, _, _, _, rfl⟩
    rintro σ H4 ⟨rfl, c, x, y, z, rfl⟩
    exact ⟨_, rfl, hQ c⟩
abbrev N_next : List Str := ["_law_state", "_law_many", "_law_drawn"]
abbrev P_next : List Str := ["_law_state", "_law_many"]
theorem sc_next : FnScope N_next P_next (defScope s_law_next) := ⟨rfl, rfl, rfl, by decide +kernel, rfl, by decide +kernel, by decide +kernel⟩
theorem ok_next (F : FnP K "_law_next" "_law_next" s_law_next f fd) (T : Txt K mg) (cR : C8.Cal P w K mg base 1 "_law_row" spRow []) : FnOk P w K mg base C8.CX0 2 f fd P_next spNext := by
  refine F.ok sc_next (fun vs H Q E h => ?_) (fun cdv A outer s H vs Q E hr h => ?_)
  · obtain ⟨st, a, ns, m, rfl, _⟩ := h
    rfl
  · obtain ⟨st, a, ns, m, rfl, sa, m0, m1, hQ⟩ := h
    refine ⟨_, PSs.nox (C8.pss_cut (ps_if (pt_cmpR op_lt (pe_ix ix_list (pv 0) pe_int (fun _ _ => rfl)) (pv 1) (nomark _))
        (pss_cons (ps_asg (C8.pe_c cR hr (by decide) rfl (pa_cons (pe_ix ix_list (pv 0) pe_int (fun _ _ => rfl)) (pa_cons (pe_ix ix_list (pv 0) pe_int (fun _ _ => rfl)) pa_nil))) (pg_sub (pv 0) pe_int set_list))
        (pss_one (ps_asg (pe_op op_add (pe_ix ix_list (pv 0) pe_int (fun _ _ => rfl)) pe_int) (pg_sub (pv 0) pe_int set_list)))) pss_nil)
      (pss_cons (ps_set (i := 2) sc_next.nd rfl (Or.inl rfl) (pe_op op_mod (pe_callTy call_int1 (by rfl) T.n_int (by decide +kernel) (pa_cons (pe_ix ix_list (pv 0) pe_int (fun _ _ => rfl)) pa_nil)) (pv 1)))
      (pss_cons (ps_asg (pe_op op_fdiv (pe_ix ix_list (pv 0) pe_int (fun _ _ => rfl)) (pv 1)) (pg_sub (pv 0) pe_int set_list)) (pss_one (ps_ret (pv 2)))))), ?_⟩
    obtain ⟨i, v, hi, hs⟩ := sa.lst
    refine ⟨fun σ H' => σ = [some (.ref st), some (.int m), none] ∧ KeepB st H H' ∧ ∃ i v : Int, 0 ≤ i ∧ H' st = some (.lst [.ref a, .int i, .int v]), ?_, ?_⟩
    · refine ⟨_, rfl, st, _, 2, .int v, rfl, rfl, SqL.of hs, rfl, _, rfl, _, _, rfl, rfl, _, rfl, ite2 (fun _ => ?_) (fun _ => ⟨rfl, KeepP.refl, i, v, hi, hs⟩)⟩
      refine ⟨_, rfl, st, _, 0, .ref a, rfl, rfl, SqL.of hs, rfl, _, rfl, st, _, 1, .int i, rfl, rfl, SqL.of hs, rfl, a, ns, i, rfl, sa.scr, hi, fun c => ?_⟩
      refine ⟨_, rfl, st, _, 2, 2, rfl, rfl, hs, rfl, ?_⟩
      refine ⟨_, rfl, st, _, 1, .int i, rfl, rfl, SqL.of upd_same, rfl, _, _, rfl, rfl, _, rfl, st, _, 1, 1, rfl, rfl, upd_same, rfl, ?_⟩
      exact ⟨rfl, KeepB.upd (KeepB.upd KeepP.refl), i + 1, c, by omega, upd_same⟩
    · rintro σ H1 ⟨rfl, kb, i1, v1, hi1, hs1⟩
      refine ⟨_, rfl, st, _, 2, .int v1, rfl, rfl, SqL.of hs1, rfl, .inl ⟨_, rfl, _, rfl, _, _, rfl, rfl, m0, ?_⟩⟩
      refine ⟨_, rfl, st, _, 2, .int v1, rfl, rfl, SqL.of hs1, rfl, _, rfl, _, _, rfl, rfl, ⟨m0, m1⟩, _, rfl, st, _, 2, 2, rfl, rfl, hs1, rfl, ?_⟩
      have d0 : 0 ≤ v1 % m := Int.emod_nonneg _ (by omega)
      have d1 : v1 % m < m := Int.emod_lt_of_pos _ m0
      obtain ⟨d, hd⟩ := Int.eq_ofNat_of_zero_le d0
      refine ⟨.int (v1 % m), rfl, ?_⟩
      rw [hd]
      exact hQ _ d (KeepB.upd kb) ⟨⟨i1, v1 / m, hi1, upd_same⟩, by rw [upd_ne sa.ne]; exact kb a _ sa.ne sa.scr, sa.ne⟩ (by omega)
end
end Snk
set_option maxHeartbeats 4000000
namespace Snk
open PySem PySem.Spec PyProof.Rows L2
section
variable {st a : Addr} {ns : List Int} {σ : L2.St} {H : Hp} {Q : VK} {E : XK}
theorem nx_call {i : Nat} {m : Int} (hσ : σ[i]? = some (some (.ref st))) (r : StAt st a ns H) (h0 : 0 < m) (h1 : m < 1073741824) (h : ∀ H' (d : Nat), KeepB st H H' → StAt st a ns H' → (d : Int) < m → Q (.int (d : Int)) H') : tCall spNext [] E (tCons (tVar i) (tCons (tC (.int m)) tNil)) σ H Q :=
  ⟨_, hσ, st, a, ns, m, rfl, r, h0, h1, h⟩
theorem g_call {α : Type} {ok : α → Prop} {R : Lies α} {i : Nat} (hσ : σ[i]? = some (some (.ref st))) (r : StAt st a ns H) (h : ∀ H' v x, KeepB st H H' → StAt st a ns H' → Fresh H v → ok x → R H' v x → Q v H') : tCall (spG ok R) [] E (tCons (tVar i) tNil) σ H Q :=
  ⟨_, hσ, st, a, ns, rfl, r, h⟩
/-- [.. for k in range(a draw)] -/
theorem g_comp {α : Type} {R : Lies α} (sR : StableV R) (ok : α → Prop) {tn te : TE} {j m : Nat} (r : StAt st a ns H) (hm : m ≤ 1000)
    (htn : ∀ Q' : VK, (∀ H' (d : Nat), KeepB st H H' → StAt st a ns H' → (d : Int) < (m : Int) → Q' (.int (d : Int)) H') → tn σ H Q')
    (step : ∀ x H1 Q1, StAt st a ns H1 → (∀ H' v y, KeepB st H1 H' → StAt st a ns H' → Fresh H1 v → ok y → R H' v y → Q1 v H') → te ((wipe σ [j]).set j (some x)) H1 Q1)
    (done : ∀ H' v xs, KeepB st H H' → StAt st a ns H' → Fresh H v → xs.length < m → (∀ x, x ∈ xs → ok x) → LstAt R H' v xs → Q v H') :
    tLc (iRng1 (tCons tn tNil)) (gName j) tYes te [j] σ H Q := by
  refine htn _ fun H1 n kb r1 hn => ?_
  have hn' : n < m := by omega
  refine ⟨n, rfl, by omega, by omega, fun D hD => ?_⟩
  have nD : st ≠ D := by
    obtain ⟨o, e, _⟩ := r1.some
    exact ne_of_none e hD
  have aD : a ≠ D := ne_of_none r1.scr hD
  rw [show ((n : Int)).toNat = n from Int.toNat_natCast n]
  refine lc_all (src_rng (n := n)) (fun b => b = st) (fun (_ : Unit) H' => StAt st a ns H') R (fun xs _ => ∀ x, x ∈ xs → ok x) () hD (fun _ _ _ _ => trivial)
    (fun _ H' b hb r => by rw [hb]; exact r.some) (fun z => nD z.symm) (fun _ H' o r => ?_) sR (by rw [rngV_length]; exact big_line (Nat.le_trans (by omega : n ≤ 1000) (by decide))) r1 (fun _ z => nomatch z) ?_ ?_
  · obtain ⟨i, v, hi, e⟩ := r.lst
    exact ⟨⟨i, v, hi, by rw [upd_ne nD]; exact e⟩, by rw [upd_ne aD]; exact r.scr, r.ne⟩
  · intro xs x _ H2 Q' hx kb2 r2 ac hs
    refine ⟨?_, step x H2 Q' r2 fun H3 u y kb3 r3 f3 oy ry => hs H3 u y () kb3 r3 (fun z hz => ?_) f3 ry⟩
    · show (((σ.set j none).set j (some x)).set j none) = σ.set j none
      rw [List.set_set, List.set_set]
    · rcases List.mem_append.mp hz with h | h
      · exact ac z h
      · rw [List.mem_singleton.mp h]
        exact oy
  · intro H' acc xs _ kb' r' hDl pr hl ac
    rw [rngV_length] at hl
    exact done H' _ xs (kb.trans kb') r' (fresh_ref (r1.free kb hD)) (by omega) ac ⟨D, acc, rfl, hDl, pr⟩
end
theorem list_le {α : Type} {f : α → List Int} {b : Nat} : ∀ {xs : List α}, (∀ x, x ∈ xs → (f x).length ≤ b) → (cList f xs).length ≤ 1 + xs.length * b := by
  intro xs h
  rw [len_codes]
  have : ((xs.map f).map List.length).sum ≤ xs.length * b := by
    induction xs with
    | nil => exact Nat.zero_le _
    | cons a r ih =>
      have h1 := h a List.mem_cons_self
      have h2 := ih fun x hx => h x (List.mem_cons_of_mem _ hx)
      simp only [List.map_cons, List.sum_cons, List.length_cons]
      rw [Nat.add_mul]
      omega
  omega
abbrev okS (z : Str) : Prop := (cStr z).length ≤ 4
abbrev okN (ns : List Int) : Prop := (cNums ns).length ≤ 4
abbrev okW (x : Wv) : Prop := (cWv x).length ≤ 5
abbrev spS : Sp := spG okS StrAt
abbrev spN : Sp := spG okN LI'
abbrev spWo : Sp := spG okW WvAt
def menu : List Str := ["", "a", "red", "x y", "a\\b", "~!"]
section
variable {P : Program} {w : World} {K : PySem.W.Frag} {mg : Str → Option Value} {base : Heap} {f : Addr} {fd : FuncData}
abbrev N_st : List Str := ["_law_state"]
theorem sc_lstr : FnScope N_st N_st (defScope s_law_string) := ⟨rfl, rfl, rfl, by decide +kernel, rfl, by decide +kernel, by decide +kernel⟩
theorem menu_ok : ∀ z, z ∈ menu → okS z := by decide +kernel
theorem ok_lstring (F : FnP K "_law_string" "_law_string" s_law_string f fd) (T : Txt K mg) (cX : C8.Cal P w K mg base 2 "_law_next" spNext []) : FnOk P w K mg base C8.CX0 3 f fd N_st spS := by
  refine F.ok sc_lstr (fun vs H Q E h => ?_) (fun cdv A outer s H vs Q E hr h => ?_)
  · obtain ⟨st, a, ns, rfl, _⟩ := h
    rfl
  · obtain ⟨st, a, ns, rfl, r, hQ⟩ := h
    refine ⟨_, PSs.nox (pss_one (ps_ret (pe_ix ix_list (pe_lst (pa_cons pe_str (pa_cons pe_str (pa_cons pe_str (pa_cons pe_str (pa_cons pe_str (pa_cons pe_str pa_nil))))))) (C8.pe_c cX hr (by decide) rfl (pa_cons (pv 0) (pa_cons pe_int pa_nil))) (fun _ _ => rfl)))), ?_⟩
    refine ⟨by show 6 ≤ sizeLine; decide, fun p hp => ?_⟩
    have r0 := r.new (o := .lst (menu.map V.str)) hp
    have np : p ≠ st := by
      obtain ⟨o, e, _⟩ := r.some
      exact (ne_of_none e hp).symm
    refine nx_call (m := 6) rfl r0 (by decide) (by decide) fun H' d kb r' hd => ?_
    have hd' : d < menu.length := by show d < 6; omega
    have hl := kb p _ np upd_same
    refine ⟨p, menu.map V.str, (d : Int), .str menu[d], rfl, rfl, SqL.of hl, atI_nat (by rw [List.getElem?_map, List.getElem?_eq_getElem hd']; rfl), ?_⟩
    exact hQ H' _ menu[d] ((same_keepP (same_new hp)).trans kb) r' fresh_str (menu_ok _ (List.getElem_mem hd')) rfl
abbrev N_sk : List Str := ["_law_state", "_law_k"]
theorem sc_lnum : FnScope N_sk N_st (defScope s_law_numbers) := ⟨rfl, rfl, rfl, by decide +kernel, rfl, by decide +kernel, by decide +kernel⟩
theorem ok_lnumbers (F : FnP K "_law_numbers" "_law_numbers" s_law_numbers f fd) (T : Txt K mg) (cX : C8.Cal P w K mg base 2 "_law_next" spNext []) : FnOk P w K mg base C8.CX0 3 f fd N_st spN := by
  refine F.ok sc_lnum (fun vs H Q E h => ?_) (fun cdv A outer s H vs Q E hr h => ?_)
  · obtain ⟨st, a, ns, rfl, _⟩ := h
    rfl
  · obtain ⟨st, a, ns, rfl, r, hQ⟩ := h
    refine ⟨_, PSs.nox (pss_one (ps_ret (pe_lc (own := [("_law_k", 1)]) (g := gName 1) (tt := tYes) rfl sc_lnum.nd (pi_range1 rfl T.n_range (pa_cons (C8.pe_c cX hr (by decide) rfl (pa_cons (pv 0) (pa_cons pe_int pa_nil))) pa_nil))
      (blkOk_by (N := N_sk) (sc := defScope s_law_numbers) (by decide +kernel)) (fun _ _ _ _ _ => pg_name (i := 1) sc_lnum.nd rfl (Or.inl rfl)) (fun _ _ _ _ _ => pts_nil) (fun _ _ _ _ _ => pe_op op_sub (C8.pe_c cX hr (by decide) rfl (pa_cons (pv 0) (pa_cons pe_int pa_nil))) pe_int)))), ?_⟩
    refine g_comp st_int.v (fun _ => True) (m := 4) r (by decide) (fun Q' h => nx_call (m := 4) rfl r (by decide) (by decide) h) (fun x H1 Q1 r1 h1 => ?_) ?_
    · refine nx_call (m := 9) rfl r1 (by decide) (by decide) fun H' d kb r' hd => ⟨_, _, rfl, rfl, h1 H' _ ((d : Int) - 4) kb r' fresh_int trivial rfl⟩
    · rintro H' v xs kb r' fr hl _ ⟨q, ys, rfl, hq, pr⟩
      exact hQ H' _ xs kb r' fr (by show xs.length + 1 ≤ 4; omega) ⟨q, rfl, by rw [hq, ints_of pr]⟩
theorem sc_lwor : FnScope N_st N_st (defScope s_law_worth) := ⟨rfl, rfl, rfl, by decide +kernel, rfl, by decide +kernel, by decide +kernel⟩
theorem ok_lworth (F : FnP K "_law_worth" "_law_worth" s_law_worth f fd) (T : Txt K mg) (cX : C8.Cal P w K mg base 2 "_law_next" spNext []) (cS : C8.Cal P w K mg base 3 "_law_string" spS []) : FnOk P w K mg base C8.CX0 4 f fd N_st spWo := by
  refine F.ok sc_lwor (fun vs H Q E h => ?_) (fun cdv A outer s H vs Q E hr h => ?_)
  · obtain ⟨st, a, ns, rfl, _⟩ := h
    rfl
  · obtain ⟨st, a, ns, rfl, r, hQ⟩ := h
    refine ⟨_, PSs.nox (pss_one (ps_ret (pe_ix ix_list (pe_lst (pa_cons (pe_op op_sub (C8.pe_c cX hr (by decide) rfl (pa_cons (pv 0) (pa_cons pe_int pa_nil))) pe_int) (pa_cons (C8.pe_c cS hr (by decide) rfl (pa_cons (pv 0) pa_nil))
      (pa_cons (pe_cmpR op_eq (C8.pe_c cX hr (by decide) rfl (pa_cons (pv 0) (pa_cons pe_int pa_nil))) pe_int (nomark _)) pa_nil)))) (C8.pe_c cX hr (by decide) rfl (pa_cons (pv 0) (pa_cons pe_int pa_nil))) (fun _ _ => rfl)))), ?_⟩
    refine nx_call (m := 9) rfl r (by decide) (by decide) fun H1 d1 kb1 r1 hd1 => ⟨_, _, rfl, rfl, ?_⟩
    refine g_call rfl r1 fun H2 v z kb2 r2 _ hz rz => ?_
    obtain rfl : v = .str z := rz
    refine nx_call (m := 2) rfl r2 (by decide) (by decide) fun H3 d3 kb3 r3 hd3 => ⟨rfl, ?_⟩
    refine ⟨by show 3 ≤ sizeLine; decide, fun p hp => ?_⟩
    have np : p ≠ st := by
      obtain ⟨o, e, _⟩ := r3.some
      exact (ne_of_none e hp).symm
    obtain ⟨xs, exs⟩ : ∃ xs : List Wv, xs = [.int ((d1 : Int) - 4), .str z, .bl (decide (V.int (d3 : Int) = V.int 0))] := ⟨_, rfl⟩
    have r4 := r3.new (o := .lst (xs.map Wv.v)) hp
    have e4 : (upd H3 p (.lst (xs.map Wv.v))) = upd H3 p (.lst [.int ((d1 : Int) - 4), .str z, .bl (decide (V.int (d3 : Int) = V.int 0))]) := by rw [exs]; rfl
    rw [e4] at r4
    refine nx_call (m := 3) rfl r4 (by decide) (by decide) fun H5 d5 kb5 r5 hd5 => ?_
    have hd' : d5 < xs.length := by rw [exs]; show d5 < 3; omega
    have hl := kb5 p _ np upd_same
    refine ⟨p, xs.map Wv.v, (d5 : Int), (xs[d5]).v, rfl, rfl, SqL.of (by rw [hl, exs]; rfl), atI_nat (by rw [List.getElem?_map, List.getElem?_eq_getElem hd']; rfl), ?_⟩
    have okx : ∀ x, x ∈ xs → okW x := by
      intro x hx
      rw [exs] at hx
      simp only [List.mem_cons, List.not_mem_nil, or_false] at hx
      rcases hx with rfl | rfl | rfl
      · show 2 ≤ 5; decide
      · show (cStr z).length + 1 ≤ 5
        omega
      · show 2 ≤ 5; decide
    have fr : Fresh H (xs[d5]).v := fun q e => by
      cases hx : xs[d5] <;> rw [hx] at e <;> exact nomatch e
    exact hQ H5 _ xs[d5] (((kb1.trans kb2).trans kb3).trans ((same_keepP (same_new hp)).trans kb5)) r5 fr (okx _ (List.getElem_mem hd')) rfl
end
end Snk
set_option maxHeartbeats 4000000
namespace Snk
open PySem PySem.Spec PyProof.Rows L2
abbrev okFc (x : Fc) : Prop := (cFc x).length ≤ 20
abbrev okRc (x : Rc) : Prop := (cRc x).length ≤ 40
abbrev spLFact (K : PySem.W.Frag) : Sp := spG okFc (FcAt (csOf K))
abbrev spLRecord (K : PySem.W.Frag) : Sp := spG okRc (RcAt (csOf K))
section
variable {P : Program} {w : World} {K : PySem.W.Frag} {mg : Str → Option Value} {base : Heap} {f : Addr} {fd : FuncData}
abbrev N_lfact : List Str := ["_law_state", "_law_kind", "_law_k", "_law_lack"]
theorem sc_lfact : FnScope N_lfact N_st (defScope s_law_fact) := ⟨rfl, rfl, rfl, by decide +kernel, rfl, by decide +kernel, by decide +kernel⟩
theorem lack_draw {st a : Addr} {ns : List Int} {σ : L2.St} {H : Hp} {Q : VK} {E : XK} (hσ : σ[0]? = some (some (.ref st))) (r : StAt st a ns H) (h : ∀ H' j, KeepB st H H' → StAt st a ns H' → j < 3 → Q (.str (lackS j)) H') :
    tOp (rIxL K) (tLst (tCons (tC (.str "nobody")) (tCons (tC (.str "some")) (tCons (tC (.str "all")) tNil)))) (tCall spNext [] E (tCons (tVar 0) (tCons (tC (.int 3)) tNil))) σ H Q := by
  refine ⟨by show 3 ≤ sizeLine; decide, fun p hp => ?_⟩
  have r0 := r.new (o := .lst [.str "nobody", .str "some", .str "all"]) hp
  have np : p ≠ st := by
    obtain ⟨o, e, _⟩ := r.some
    exact (ne_of_none e hp).symm
  refine nx_call (m := 3) hσ r0 (by decide) (by decide) fun H' d kb r' hd => ?_
  have hl := kb p _ np upd_same
  have hd3 : d < 3 := by omega
  refine ⟨p, _, (d : Int), .str (lackS d), rfl, rfl, SqL.of hl, atI_nat ?_, h H' d ((same_keepP (same_new hp)).trans kb) r' hd3⟩
  rcases d with _ | _ | _ | d
  · rfl
  · rfl
  · rfl
  · omega
theorem ok_lfact (F : FnP K "_law_fact" "_law_fact" s_law_fact f fd) (T : Txt K mg) (cX : C8.Cal P w K mg base 2 "_law_next" spNext []) (cS : C8.Cal P w K mg base 3 "_law_string" spS []) (cN : C8.Cal P w K mg base 3 "_law_numbers" spN []) (cW : C8.Cal P w K mg base 4 "_law_worth" spWo []) (M : FcMk P w K mg base)
    (kPt : C8.Mak P w K mg base 1 "Part" (He.ga K "Part") (spMkPart K) []) (kR : MakK P w K mg base 2 "Range" (He.ga K "Range") (spMkRange K) 3 ["lack"]) (kV : MakK P w K mg base 2 "Values" (He.ga K "Values") (spMkValues K) 2 ["lack"]) : FnOk P w K mg base C8.CX0 5 f fd N_st (spLFact K) := by
  refine F.ok sc_lfact (fun vs H Q E h => ?_) (fun cdv A outer s H vs Q E hr h => ?_)
  · obtain ⟨st, a, ns, rfl, _⟩ := h
    rfl
  · obtain ⟨st, a, ns, rfl, r, hQ⟩ := h
    refine ⟨_, PSs.nox (pss_cons (ps_set (i := 1) sc_lfact.nd rfl (Or.inl rfl) (C8.pe_c cX hr (by decide) rfl (pa_cons (pv 0) (pa_cons pe_int pa_nil))))
      (pss_cons (ps_if (pt_cmpR op_eq (pv 1) pe_int (nomark _)) (pss_one (ps_ret (C8.pe_mk M.parts hr (by decide) rfl (pa_cons (pe_lc (own := [("_law_k", 2)]) (g := gName 2) (tt := tYes) rfl sc_lfact.nd (pi_range1 rfl T.n_range (pa_cons (C8.pe_c cX hr (by decide) rfl (pa_cons (pv 0) (pa_cons pe_int pa_nil))) pa_nil)) (blkOk_by (N := N_lfact) (sc := defScope s_law_fact) (by decide +kernel)) (fun _ _ _ _ _ => pg_name (i := 2) sc_lfact.nd rfl (Or.inl rfl)) (fun _ _ _ _ _ => pts_nil)
        (fun _ _ _ _ _ => (C8.pe_mk kPt hr (by decide) rfl (pa_cons (C8.pe_c cX hr (by decide) rfl (pa_cons (pv 0) (pa_cons pe_int pa_nil))) (pa_cons (C8.pe_c cN hr (by decide) rfl (pa_cons (pv 0) pa_nil)) (pa_cons (C8.pe_c cX hr (by decide) rfl (pa_cons (pv 0) (pa_cons pe_int pa_nil))) pa_nil)))))) pa_nil)))) pss_nil)
      (pss_cons (ps_if (pt_cmpR op_eq (pv 1) pe_int (nomark _)) (pss_one (ps_ret (C8.pe_mk M.cell hr (by decide) rfl (pa_cons (C8.pe_c cN hr (by decide) rfl (pa_cons (pv 0) pa_nil)) (pa_cons (C8.pe_c cN hr (by decide) rfl (pa_cons (pv 0) pa_nil)) pa_nil))))) pss_nil)
      (pss_cons (ps_if (pt_cmpR op_eq (pv 1) pe_int (nomark _)) (pss_one (ps_ret (C8.pe_mk M.box hr (by decide) rfl (pa_cons (C8.pe_c cN hr (by decide) rfl (pa_cons (pv 0) pa_nil)) (pa_cons (C8.pe_c cN hr (by decide) rfl (pa_cons (pv 0) pa_nil)) pa_nil))))) pss_nil)
      (pss_cons (ps_if (pt_cmpR op_eq (pv 1) pe_int (nomark _)) (pss_one (ps_ret (C8.pe_mk M.norms hr (by decide) rfl (pa_cons (C8.pe_c cX hr (by decide) rfl (pa_cons (pv 0) (pa_cons pe_int pa_nil))) (pa_cons (pe_op op_mul (C8.pe_c cX hr (by decide) rfl (pa_cons (pv 0) (pa_cons pe_int pa_nil))) (pe_op op_pow pe_int pe_int)) pa_nil))))) pss_nil)
      (pss_cons (ps_if (pt_cmpR op_eq (pv 1) pe_int (nomark _)) (pss_one (ps_ret (C8.pe_mk M.differ hr (by decide) rfl (pa_cons (C8.pe_c cN hr (by decide) rfl (pa_cons (pv 0) pa_nil)) (pa_cons (C8.pe_c cX hr (by decide) rfl (pa_cons (pv 0) (pa_cons pe_int pa_nil))) pa_nil))))) pss_nil)
      (pss_cons (ps_set (i := 3) sc_lfact.nd rfl (Or.inl rfl) (pe_ix ix_list (pe_lst (pa_cons pe_str (pa_cons pe_str (pa_cons pe_str pa_nil)))) (C8.pe_c cX hr (by decide) rfl (pa_cons (pv 0) (pa_cons pe_int pa_nil))) (fun _ _ => rfl)))
      (pss_cons (ps_if (pt_cmpR op_eq (pv 1) pe_int (nomark _)) (pss_one (ps_ret (pe_mkK kR hr (by decide) rfl (pa_cons (C8.pe_c cS hr (by decide) rfl (pa_cons (pv 0) pa_nil)) (pa_cons (pe_un un_neg (C8.pe_c cX hr (by decide) rfl (pa_cons (pv 0) (pa_cons pe_int pa_nil)))) (pa_cons (C8.pe_c cX hr (by decide) rfl (pa_cons (pv 0) (pa_cons pe_int pa_nil))) pa_nil))) (pk_cons (pv 3) pk_nil)))) pss_nil)
      (pss_cons (ps_if (pt_cmpR op_eq (pv 1) pe_int (nomark _)) (pss_one (ps_ret (pe_mkK kV hr (by decide) rfl (pa_cons (C8.pe_c cS hr (by decide) rfl (pa_cons (pv 0) pa_nil)) (pa_cons (pe_lc (own := [("_law_k", 2)]) (g := gName 2) (tt := tYes) rfl sc_lfact.nd (pi_range1 rfl T.n_range (pa_cons (C8.pe_c cX hr (by decide) rfl (pa_cons (pv 0) (pa_cons pe_int pa_nil))) pa_nil)) (blkOk_by (N := N_lfact) (sc := defScope s_law_fact) (by decide +kernel)) (fun _ _ _ _ _ => pg_name (i := 2) sc_lfact.nd rfl (Or.inl rfl)) (fun _ _ _ _ _ => pts_nil)
        (fun _ _ _ _ _ => (C8.pe_c cW hr (by decide) rfl (pa_cons (pv 0) pa_nil)))) pa_nil)) (pk_cons (pv 3) pk_nil)))) pss_nil)
      (pss_cons (ps_if (pt_cmpR op_eq (pv 1) pe_int (nomark _)) (pss_one (ps_ret (C8.pe_mk M.counts hr (by decide) rfl (pa_cons (pe_lc (own := [("_law_k", 2)]) (g := gName 2) (tt := tYes) rfl sc_lfact.nd (pi_range1 rfl T.n_range (pa_cons (C8.pe_c cX hr (by decide) rfl (pa_cons (pv 0) (pa_cons pe_int pa_nil))) pa_nil)) (blkOk_by (N := N_lfact) (sc := defScope s_law_fact) (by decide +kernel)) (fun _ _ _ _ _ => pg_name (i := 2) sc_lfact.nd rfl (Or.inl rfl)) (fun _ _ _ _ _ => pts_nil)
        (fun _ _ _ _ _ => pe_tup (pa_cons (C8.pe_c cS hr (by decide) rfl (pa_cons (pv 0) pa_nil)) (pa_cons (C8.pe_c cX hr (by decide) rfl (pa_cons (pv 0) (pa_cons pe_int pa_nil))) pa_nil)))) pa_nil)))) pss_nil)
      (pss_one (ps_ret (C8.pe_mk M.names hr (by decide) rfl (pa_cons (C8.pe_c cS hr (by decide) rfl (pa_cons (pv 0) pa_nil)) (pa_cons (C8.pe_c cS hr (by decide) rfl (pa_cons (pv 0) pa_nil)) pa_nil))))))))))))))), ?_⟩
    refine nx_call (m := 9) rfl r (by decide) (by decide) fun H1 n kb1 r1 hn => ?_
    -- behind the making
    have fin : ∀ {H' H'' : Hp} {x : Addr} {fc : Fc}, KeepB st H H' → StAt st a ns H' → H' x = none → Same H' H'' → okFc fc → FcAt (csOf K) H'' (.ref x) fc → Q (.ref x) H'' := fun {H' H'' x fc} kb r' hx s ok o =>
      hQ H'' _ fc (kb.trans (same_keepP s)) (r'.same s) (r'.fresh kb (fresh_ref hx)) ok o
    have hc : n = 0 ∨ n = 1 ∨ n = 2 ∨ n = 3 ∨ n = 4 ∨ n = 5 ∨ n = 6 ∨ n = 7 ∨ n = 8 := by omega
    rcases hc with rfl | rfl | rfl | rfl | rfl | rfl | rfl | rfl | rfl
    · refine ⟨_, rfl, rfl, _, rfl, iteT ?_⟩
      dsimp only [tRet, tMake]
      unfold tCons
      refine g_comp (st_pt (c := csOf K)).v (fun x => (cPt x).length ≤ 6) (m := 3) r1 (by decide) (fun Q' h => nx_call (m := 3) rfl r1 (by decide) (by decide) h) (fun x H2 Q2 r2 h2 => ?_) ?_
      · refine nx_call (m := 4) rfl r2 (by decide) (by decide) fun H3 d3 kb3 r3 hd3 => ?_
        refine g_call rfl r3 fun H4 v4 c4 kb4 r4 f4 o4 h4 => ?_
        have off := f4.off r3
        refine nx_call (m := 90) rfl r4 (by decide) (by decide) fun H5 d5 kb5 r5 hd5 => ?_
        intro x dx hx hdx ne
        have kb := (kb3.trans kb4).trans kb5
        refine spI_make (b := ⟨(d3 : Int), c4, (d5 : Int)⟩) hx hdx ne rfl (fun H' s => ⟨v4, rfl, li_same s (sv_LI.ap (kb5.v r4 off) h4)⟩) (fun H' s o => ?_)
        refine h2 H' _ ⟨(d3 : Int), c4, (d5 : Int)⟩ (kb.trans (same_keepP s)) (r5.same s) (r5.fresh kb (fresh_ref hx)) ?_ o
        show ([(d3 : Int)] ++ cNums c4 ++ [(d5 : Int)]).length ≤ 6
        rw [List.length_append, List.length_append, List.length_singleton, List.length_singleton]
        have : (cNums c4).length ≤ 4 := o4
        omega
      · intro H2 v ps kb2 r2 f2 hl hk hp x dx hx hdx ne
        refine spI_make (b := ps) hx hdx ne rfl (fun H' s => ⟨v, rfl, la_same st_pt s hp⟩) (fun H' s o => fin (fc := .parts ps) (kb1.trans kb2) r2 hx s ?_ o)
        show ([1] ++ cList cPt ps).length ≤ 20
        rw [List.length_append]
        have h1 := list_le hk
        have h2 : ps.length * 6 ≤ 2 * 6 := Nat.mul_le_mul_right 6 (by omega)
        show 1 + _ ≤ 20
        omega
    · refine ⟨_, rfl, rfl, _, rfl, iteF ?_⟩
      refine ⟨_, rfl, rfl, _, rfl, iteT ?_⟩
      refine g_call rfl r1 fun H2 v2 c2 kb2 r2 f2 o2 h2 => ?_
      have off := f2.off r1
      refine g_call rfl r2 fun H3 v3 c3 kb3 r3 f3 o3 h3 => ?_
      intro x dx hx hdx ne
      refine spI_make (b := (c2, c3)) hx hdx ne rfl (fun H' s => aTwo_same s ⟨v2, v3, rfl, sv_LI.ap (kb3.v r2 off) h2, h3⟩) (fun H' s o => fin (fc := .cell c2 c3) ((kb1.trans kb2).trans kb3) r3 hx s ?_ o)
      show ([2] ++ cNums c2 ++ cNums c3).length ≤ 20
      rw [List.length_append, List.length_append, List.length_singleton]
      have h1 : (cNums c2).length ≤ 4 := o2
      have h2 : (cNums c3).length ≤ 4 := o3
      omega
    · refine ⟨_, rfl, rfl, _, rfl, iteF ?_⟩
      refine ⟨_, rfl, rfl, _, rfl, iteF ?_⟩
      refine ⟨_, rfl, rfl, _, rfl, iteT ?_⟩
      refine g_call rfl r1 fun H2 v2 c2 kb2 r2 f2 o2 h2 => ?_
      have off := f2.off r1
      refine g_call rfl r2 fun H3 v3 c3 kb3 r3 f3 o3 h3 => ?_
      intro x dx hx hdx ne
      refine spI_make (b := (c2, c3)) hx hdx ne rfl (fun H' s => aTwo_same s ⟨v2, v3, rfl, sv_LI.ap (kb3.v r2 off) h2, h3⟩) (fun H' s o => fin (fc := .box c2 c3) ((kb1.trans kb2).trans kb3) r3 hx s ?_ o)
      show ([3] ++ cNums c2 ++ cNums c3).length ≤ 20
      rw [List.length_append, List.length_append, List.length_singleton]
      have h1 : (cNums c2).length ≤ 4 := o2
      have h2 : (cNums c3).length ≤ 4 := o3
      omega
    · refine ⟨_, rfl, rfl, _, rfl, iteF ?_⟩
      refine ⟨_, rfl, rfl, _, rfl, iteF ?_⟩
      refine ⟨_, rfl, rfl, _, rfl, iteF ?_⟩
      refine ⟨_, rfl, rfl, _, rfl, iteT ?_⟩
      refine nx_call (m := 90) rfl r1 (by decide) (by decide) fun H2 d2 kb2 r2 hd2 => ?_
      refine nx_call (m := 90) rfl r2 (by decide) (by decide) fun H3 d3 kb3 r3 hd3 => ?_
      refine ⟨_, _, rfl, rfl, ⟨by decide, by decide, by decide⟩, _, _, rfl, rfl, .inl (by omega), ?_⟩
      intro x dx hx hdx ne
      refine spI_make (b := ((d2 : Int), (d3 : Int) * 10 ^ (9 : Int).toNat)) hx hdx ne rfl (fun H' s => rfl) (fun H' s o => fin (fc := .norms (d2 : Int) ((d3 : Int) * 10 ^ (9 : Int).toNat)) ((kb1.trans kb2).trans kb3) r3 hx s ?_ o)
      show 3 ≤ 20
      decide
    · refine ⟨_, rfl, rfl, _, rfl, iteF ?_⟩
      refine ⟨_, rfl, rfl, _, rfl, iteF ?_⟩
      refine ⟨_, rfl, rfl, _, rfl, iteF ?_⟩
      refine ⟨_, rfl, rfl, _, rfl, iteF ?_⟩
      refine ⟨_, rfl, rfl, _, rfl, iteT ?_⟩
      refine g_call rfl r1 fun H2 v2 c2 kb2 r2 f2 o2 h2 => ?_
      have off := f2.off r1
      refine nx_call (m := 9) rfl r2 (by decide) (by decide) fun H3 d3 kb3 r3 hd3 => ?_
      intro x dx hx hdx ne
      refine spI_make (b := (c2, (d3 : Int))) hx hdx ne rfl (fun H' s => ⟨v2, rfl, li_same s (sv_LI.ap (kb3.v r2 off) h2)⟩) (fun H' s o => fin (fc := .differ c2 (d3 : Int)) ((kb1.trans kb2).trans kb3) r3 hx s ?_ o)
      show ([5] ++ cNums c2 ++ [(d3 : Int)]).length ≤ 20
      rw [List.length_append, List.length_append, List.length_singleton, List.length_singleton]
      have h1 : (cNums c2).length ≤ 4 := o2
      omega
    · refine ⟨_, rfl, rfl, _, rfl, iteF ?_⟩
      refine ⟨_, rfl, rfl, _, rfl, iteF ?_⟩
      refine ⟨_, rfl, rfl, _, rfl, iteF ?_⟩
      refine ⟨_, rfl, rfl, _, rfl, iteF ?_⟩
      refine ⟨_, rfl, rfl, _, rfl, iteF ?_⟩
      dsimp only [tNext, tSeq, tAsg]
      refine lack_draw (K := K) rfl r1 fun HL j kbL rL hj => ?_
      have kbA := kb1.trans kbL
      refine ⟨_, rfl, rfl, _, rfl, iteT ?_⟩
      refine g_call rfl rL fun H2 v2 z kb2 r2 f2 o2 h2 => ?_
      obtain rfl : v2 = .str z := h2
      refine nx_call (m := 90) rfl r2 (by decide) (by decide) fun H3 d3 kb3 r3 hd3 => ⟨_, rfl, ?_⟩
      refine nx_call (m := 90) rfl r3 (by decide) (by decide) fun H4 d4 kb4 r4 hd4 => ?_
      refine ⟨_, rfl, rfl, rfl, ?_⟩
      intro x dx hx hdx ne
      refine spI_make (b := (z, -(d3 : Int), (d4 : Int), j)) hx hdx ne rfl (fun H' s => ⟨rfl, hj⟩) (fun H' s o => fin (fc := .range z (-(d3 : Int)) (d4 : Int) j) (((kbA.trans kb2).trans kb3).trans kb4) r4 hx s ?_ o)
      show ([6] ++ cStr z ++ [-(d3 : Int), (d4 : Int), (j : Int)]).length ≤ 20
      rw [List.length_append, List.length_append, List.length_singleton]
      have h1 : (cStr z).length ≤ 4 := o2
      show 1 + _ + 3 ≤ 20
      omega
    · refine ⟨_, rfl, rfl, _, rfl, iteF ?_⟩
      refine ⟨_, rfl, rfl, _, rfl, iteF ?_⟩
      refine ⟨_, rfl, rfl, _, rfl, iteF ?_⟩
      refine ⟨_, rfl, rfl, _, rfl, iteF ?_⟩
      refine ⟨_, rfl, rfl, _, rfl, iteF ?_⟩
      dsimp only [tNext, tSeq, tAsg]
      refine lack_draw (K := K) rfl r1 fun HL j kbL rL hj => ?_
      have kbA := kb1.trans kbL
      refine ⟨_, rfl, rfl, _, rfl, iteF ?_⟩
      refine ⟨_, rfl, rfl, _, rfl, iteT ?_⟩
      refine g_call rfl rL fun H2 v2 z kb2 r2 f2 o2 h2 => ?_
      obtain rfl : v2 = .str z := h2
      refine g_comp st_wv.v okW (m := 3) r2 (by decide) (fun Q' h => nx_call (m := 3) rfl r2 (by decide) (by decide) h) (fun x H3 Q3 r3 h3 => g_call rfl r3 h3) ?_
      intro H3 v3 cs kb3 r3 f3 hl hk hp
      refine ⟨_, rfl, rfl, rfl, ?_⟩
      intro x dx hx hdx ne
      refine spI_make (b := (z, cs, j)) hx hdx ne rfl (fun H' s => ⟨v3, rfl, la_same st_wv s hp, hj⟩) (fun H' s o => fin (fc := .values z cs j) ((kbA.trans kb2).trans kb3) r3 hx s ?_ o)
      show ([7] ++ cStr z ++ cList cWv cs ++ [(j : Int)]).length ≤ 20
      rw [List.length_append, List.length_append, List.length_append, List.length_singleton, List.length_singleton]
      have h1 : (cStr z).length ≤ 4 := o2
      have h2 := list_le hk
      have h3 : cs.length * 5 ≤ 2 * 5 := Nat.mul_le_mul_right 5 (by omega)
      omega
    · refine ⟨_, rfl, rfl, _, rfl, iteF ?_⟩
      refine ⟨_, rfl, rfl, _, rfl, iteF ?_⟩
      refine ⟨_, rfl, rfl, _, rfl, iteF ?_⟩
      refine ⟨_, rfl, rfl, _, rfl, iteF ?_⟩
      refine ⟨_, rfl, rfl, _, rfl, iteF ?_⟩
      dsimp only [tNext, tSeq, tAsg]
      refine lack_draw (K := K) rfl r1 fun HL j kbL rL hj => ?_
      have kbA := kb1.trans kbL
      refine ⟨_, rfl, rfl, _, rfl, iteF ?_⟩
      refine ⟨_, rfl, rfl, _, rfl, iteF ?_⟩
      refine ⟨_, rfl, rfl, _, rfl, iteT ?_⟩
      dsimp only [tRet, tMake]
      unfold tCons
      refine g_comp st_word.v (fun x => (cWord x).length ≤ 5) (m := 3) rL (by decide) (fun Q' h => nx_call (m := 3) rfl rL (by decide) (by decide) h) (fun x H2 Q2 r2 h2 => ?_) ?_
      · refine g_call rfl r2 fun H3 v3 z kb3 r3 f3 o3 h3 => ?_
        obtain rfl : v3 = .str z := h3
        refine nx_call (m := 9) rfl r3 (by decide) (by decide) fun H4 d4 kb4 r4 hd4 => ?_
        refine ⟨by show 2 ≤ sizeLine; decide, fun q hq => h2 _ _ (z, (d4 : Int)) ((kb3.trans kb4).new hq) (r4.new hq) (r4.fresh (kb3.trans kb4) (fresh_ref hq)) ?_ ⟨q, rfl, upd_same⟩⟩
        show (cStr z ++ [(d4 : Int)]).length ≤ 5
        rw [List.length_append, List.length_singleton]
        have : (cStr z).length ≤ 4 := o3
        omega
      · intro H2 v ws kb2 r2 f2 hl hk hp x dx hx hdx ne
        refine spI_make (b := ws) hx hdx ne rfl (fun H' s => ⟨⟨v, rfl, la_same st_word s hp⟩, Nat.le_trans (Nat.le_of_lt hl) (by decide)⟩) (fun H' s o => fin (fc := .counts ws) (kbA.trans kb2) r2 hx s ?_ o)
        show ([8] ++ cList cWord ws).length ≤ 20
        rw [List.length_append]
        have h1 := list_le hk
        have h2 : ws.length * 5 ≤ 2 * 5 := Nat.mul_le_mul_right 5 (by omega)
        show 1 + _ ≤ 20
        omega
    · refine ⟨_, rfl, rfl, _, rfl, iteF ?_⟩
      refine ⟨_, rfl, rfl, _, rfl, iteF ?_⟩
      refine ⟨_, rfl, rfl, _, rfl, iteF ?_⟩
      refine ⟨_, rfl, rfl, _, rfl, iteF ?_⟩
      refine ⟨_, rfl, rfl, _, rfl, iteF ?_⟩
      dsimp only [tNext, tSeq, tAsg]
      refine lack_draw (K := K) rfl r1 fun HL j kbL rL hj => ?_
      have kbA := kb1.trans kbL
      refine ⟨_, rfl, rfl, _, rfl, iteF ?_⟩
      refine ⟨_, rfl, rfl, _, rfl, iteF ?_⟩
      refine ⟨_, rfl, rfl, _, rfl, iteF ?_⟩
      refine g_call rfl rL fun H2 v2 z kb2 r2 f2 o2 h2 => ?_
      obtain rfl : v2 = .str z := h2
      refine g_call rfl r2 fun H3 v3 y kb3 r3 f3 o3 h3 => ?_
      obtain rfl : v3 = .str y := h3
      intro x dx hx hdx ne
      refine spI_make (b := (z, y)) hx hdx ne rfl (fun H' s => rfl) (fun H' s o => fin (fc := .names z y) ((kbA.trans kb2).trans kb3) r3 hx s ?_ o)
      show ([9] ++ cStr z ++ cStr y).length ≤ 20
      rw [List.length_append, List.length_append, List.length_singleton]
      have h1 : (cStr z).length ≤ 4 := o2
      have h2 : (cStr y).length ≤ 4 := o3
      omega
/-! ### _law_record -/
abbrev N_lrec : List Str := ["_law_state", "_law_fields", "_law_words", "_law_k"]
theorem sc_lrec : FnScope N_lrec N_st (defScope s_law_record) := ⟨rfl, rfl, rfl, by decide +kernel, rfl, by decide +kernel, by decide +kernel⟩
theorem la_keep {α : Type} {R : Lies α} (sR : Stable R) {st a : Addr} {ns : List Int} {H H' : Hp} {v : V} {xs : List α} (b : KeepB st H H') (r : StAt st a ns H) (o : Off st v) (h : LstAt R H v xs) : LstAt R H' v xs := (sv_lst sR).ap (b.v r o) h
theorem ok_lrecord (F : FnP K "_law_record" "_law_record" s_law_record f fd) (T : Txt K mg) (cX : C8.Cal P w K mg base 2 "_law_next" spNext []) (cS : C8.Cal P w K mg base 3 "_law_string" spS []) (cN : C8.Cal P w K mg base 3 "_law_numbers" spN []) (cW : C8.Cal P w K mg base 4 "_law_worth" spWo [])
    (kRc : MakK P w K mg base 1 "Record" (He.ga K "Record") (spMkRecord K) 2 ["fields", "words"]) : FnOk P w K mg base C8.CX0 5 f fd N_st (spLRecord K) := by
  refine F.ok sc_lrec (fun vs H Q E h => ?_) (fun cdv A outer s H vs Q E hr h => ?_)
  · obtain ⟨st, a, ns, rfl, _⟩ := h
    rfl
  · obtain ⟨st, a, ns, rfl, r, hQ⟩ := h
    refine ⟨_, PSs.nox (pss_cons (ps_setLc (i := 1) (own := [("_law_k", 3)]) (g := gName 3) (tt := tYes) rfl sc_lrec.nd rfl rfl (sw_true rfl rfl rfl (by decide +kernel)) (pi_range1 rfl T.n_range (pa_cons (C8.pe_c cX hr (by decide) rfl (pa_cons (pv 0) (pa_cons pe_int pa_nil))) pa_nil)) (blkOk_by (N := N_lrec) (sc := defScope s_law_record) (by decide +kernel)) (fun _ _ _ _ _ => pg_name (i := 3) sc_lrec.nd rfl (Or.inl rfl)) (fun _ _ _ _ _ => pts_nil)
        (fun _ _ _ _ _ => pe_tup (pa_cons (C8.pe_c cS hr (by decide) rfl (pa_cons (pv 0) pa_nil)) (pa_cons (C8.pe_c cW hr (by decide) rfl (pa_cons (pv 0) pa_nil)) pa_nil))))
      (pss_cons (ps_setLc (i := 2) (own := [("_law_k", 3)]) (g := gName 3) (tt := tYes) rfl sc_lrec.nd rfl rfl (sw_true rfl rfl rfl (by decide +kernel)) (pi_range1 rfl T.n_range (pa_cons (C8.pe_c cX hr (by decide) rfl (pa_cons (pv 0) (pa_cons pe_int pa_nil))) pa_nil)) (blkOk_by (N := N_lrec) (sc := defScope s_law_record) (by decide +kernel)) (fun _ _ _ _ _ => pg_name (i := 3) sc_lrec.nd rfl (Or.inl rfl)) (fun _ _ _ _ _ => pts_nil)
        (fun _ _ _ _ _ => pe_tup (pa_cons (C8.pe_c cS hr (by decide) rfl (pa_cons (pv 0) pa_nil)) (pa_cons (pe_op op_add pe_int (C8.pe_c cX hr (by decide) rfl (pa_cons (pv 0) (pa_cons pe_int pa_nil)))) pa_nil))))
      (pss_one (ps_ret (pe_mkK kRc hr (by decide) rfl (pa_cons (C8.pe_c cS hr (by decide) rfl (pa_cons (pv 0) pa_nil)) (pa_cons (C8.pe_c cN hr (by decide) rfl (pa_cons (pv 0) pa_nil)) pa_nil)) (pk_cons (pv 1) (pk_cons (pv 2) pk_nil))))))), ?_⟩
    dsimp only [tSeq, tAsg]
    refine g_comp st_field.v (fun x => (cField x).length ≤ 9) (m := 3) r (by decide) (fun Q' h => nx_call (m := 3) rfl r (by decide) (by decide) h) (fun x H2 Q2 r2 h2 => ?_) ?_
    · refine g_call rfl r2 fun H3 v3 z kb3 r3 f3 o3 h3 => ?_
      obtain rfl : v3 = .str z := h3
      refine g_call rfl r3 fun H4 v4 y kb4 r4 f4 o4 h4 => ?_
      obtain rfl : v4 = y.v := h4
      refine ⟨by show 2 ≤ sizeLine; decide, fun q hq => h2 _ _ (z, y) ((kb3.trans kb4).new hq) (r4.new hq) (r4.fresh (kb3.trans kb4) (fresh_ref hq)) ?_ ⟨q, rfl, upd_same⟩⟩
      show (cStr z ++ cWv y).length ≤ 9
      rw [List.length_append]
      have h1 : (cStr z).length ≤ 4 := o3
      have h2 : (cWv y).length ≤ 5 := o4
      omega
    intro H1 fv fs kb1 r1 f1 hl1 hk1 hf
    dsimp only [gName, tSeq, tAsg]
    refine g_comp st_word.v (fun x => (cWord x).length ≤ 5) (m := 3) r1 (by decide) (fun Q' h => nx_call (m := 3) rfl r1 (by decide) (by decide) h) (fun x H2 Q2 r2 h2 => ?_) ?_
    · refine g_call rfl r2 fun H3 v3 z kb3 r3 f3 o3 h3 => ?_
      obtain rfl : v3 = .str z := h3
      refine nx_call (m := 9) rfl r3 (by decide) (by decide) fun H4 d4 kb4 r4 hd4 => ⟨_, _, rfl, rfl, ?_⟩
      refine ⟨by show 2 ≤ sizeLine; decide, fun q hq => h2 _ _ (z, 1 + (d4 : Int)) ((kb3.trans kb4).new hq) (r4.new hq) (r4.fresh (kb3.trans kb4) (fresh_ref hq)) ?_ ⟨q, rfl, upd_same⟩⟩
      show (cStr z ++ [1 + (d4 : Int)]).length ≤ 5
      rw [List.length_append, List.length_singleton]
      have : (cStr z).length ≤ 4 := o3
      omega
    intro H2 wv ws kb2 r2 f2 hl2 hk2 hw
    have offF := f1.off r
    have hf2 := la_keep st_field kb2 r1 offF hf
    have offW := f2.off r1
    dsimp only [gName, tRet]
    refine g_call rfl r2 fun H3 v3 z kb3 r3 f3 o3 h3 => ?_
    obtain rfl : v3 = .str z := h3
    have hf3 := la_keep st_field kb3 r2 offF hf2
    have hw3 := la_keep st_word kb3 r2 offW hw
    refine g_call rfl r3 fun H4 v4 c4 kb4 r4 f4 o4 h4 => ?_
    have hf4 := la_keep st_field kb4 r3 offF hf3
    have hw4 := la_keep st_word kb4 r3 offW hw3
    have kb := ((kb1.trans kb2).trans kb3).trans kb4
    refine ⟨_, rfl, _, rfl, rfl, rfl, fun x dx hx hdx ne => ?_⟩
    refine spI_make (b := ⟨z, c4, fs, ws⟩) hx hdx ne rfl (fun H' s => aRecord_same s ⟨⟨v4, fv, wv, rfl, h4, hf4, hw4⟩, Nat.le_trans (Nat.le_of_lt hl1) (by decide), Nat.le_trans (Nat.le_of_lt hl2) (by decide)⟩) (fun H' s o => ?_)
    refine hQ H' _ ⟨z, c4, fs, ws⟩ (kb.trans (same_keepP s)) (r4.same s) (r4.fresh kb (fresh_ref hx)) ?_ o
    show (cStr z ++ cNums c4 ++ cList cField fs ++ cList cWord ws).length ≤ 40
    rw [List.length_append, List.length_append, List.length_append]
    have h1 : (cStr z).length ≤ 4 := o3
    have h2 : (cNums c4).length ≤ 4 := o4
    have h3 := list_le hk1
    have h4 := list_le hk2
    have h5 : fs.length * 9 ≤ 2 * 9 := Nat.mul_le_mul_right 9 (by omega)
    have h6 : ws.length * 5 ≤ 2 * 5 := Nat.mul_le_mul_right 5 (by omega)
    omega
end
end Snk
set_option maxHeartbeats 4000000
namespace Snk
open PySem PySem.Spec PyProof.Rows L2
abbrev okRg (x : Rg) : Prop := (cRg x).length ≤ 50
abbrev okPn (x : List Rg) : Prop := (cPn x).length ≤ 200
abbrev okEn (x : En) : Prop := (cEn x).length ≤ 50
abbrev okFo (x : Fo) : Prop := (cFo x).length ≤ 1000
abbrev spLOffer (K : PySem.W.Frag) : Sp := spG okFo (FoAt (csOf K))
section
variable {P : Program} {w : World} {K : PySem.W.Frag} {mg : Str → Option Value} {base : Heap} {f : Addr} {fd : FuncData}
/-- [None, n][k] -/
theorem opt_draw {st a : Addr} {ns : List Int} {σ : L2.St} {H : Hp} {Q : VK} {E : XK} (hσ : σ[0]? = some (some (.ref st))) (r : StAt st a ns H) (h : ∀ H' v po, KeepB st H H' → StAt st a ns H' → OptAt H' v po → Q v H') :
    tOp (rIxL K) (tLst (tCons (tC .non) (tCons (tOp (rI0 fun i j => .int (i - j)) (tCall spNext [] E (tCons (tVar 0) (tCons (tC (.int 5)) tNil))) (tC (.int 1))) tNil))) (tCall spNext [] E (tCons (tVar 0) (tCons (tC (.int 2)) tNil))) σ H Q := by
  refine nx_call (m := 5) hσ r (by decide) (by decide) fun H1 d1 kb1 r1 hd1 => ⟨_, _, rfl, rfl, ?_⟩
  refine ⟨by show 2 ≤ sizeLine; decide, fun p hp => ?_⟩
  have r0 := r1.new (o := .lst [.non, .int ((d1 : Int) - 1)]) hp
  have np : p ≠ st := by
    obtain ⟨o, e, _⟩ := r1.some
    exact (ne_of_none e hp).symm
  refine nx_call (m := 2) hσ r0 (by decide) (by decide) fun H' d kb r' hd => ?_
  have hl := kb p _ np upd_same
  have kb' := kb1.trans ((same_keepP (same_new hp)).trans kb)
  have hc : d = 0 ∨ d = 1 := by omega
  rcases hc with rfl | rfl
  · exact ⟨p, _, ((0 : Nat) : Int), .non, rfl, rfl, SqL.of hl, atI_nat rfl, h H' _ none kb' r' rfl⟩
  · exact ⟨p, _, ((1 : Nat) : Int), .int ((d1 : Int) - 1), rfl, rfl, SqL.of hl, atI_nat rfl, h H' _ (some ((d1 : Int) - 1)) kb' r' rfl⟩
abbrev N_lof : List Str := ["_law_state", "_law_partitions", "_law_k", "_law_regions", "_law_j", "_law_parent", "_law_entries", "_law_i"]
theorem sc_lof : FnScope N_lof N_st (defScope s_law_offer) := ⟨rfl, rfl, rfl, by decide +kernel, rfl, by decide +kernel, by decide +kernel⟩
theorem ok_loffer (F : FnP K "_law_offer" "_law_offer" s_law_offer f fd) (T : Txt K mg) (cX : C8.Cal P w K mg base 2 "_law_next" spNext []) (cN : C8.Cal P w K mg base 3 "_law_numbers" spN []) (cF : C8.Cal P w K mg base 5 "_law_fact" (spLFact K) []) (cR : C8.Cal P w K mg base 5 "_law_record" (spLRecord K) [])
    (kRg : C8.Mak P w K mg base 1 "Region" (He.ga K "Region") (spMkRegion K) []) (kEn : C8.Mak P w K mg base 1 "Entry" (He.ga K "Entry") (spMkEntry K) []) (kFo : C8.Mak P w K mg base 1 "Offer" (He.ga K "Offer") (spMkOffer K) []) : FnOk P w K mg base C8.CX0 6 f fd N_st (spLOffer K) := by
  refine F.ok sc_lof (fun vs H Q E h => ?_) (fun cdv A outer s H vs Q E hr h => ?_)
  · obtain ⟨st, a, ns, rfl, _⟩ := h
    rfl
  · obtain ⟨st, a, ns, rfl, r, hQ⟩ := h
    refine ⟨_, PSs.nox (pss_cons (ps_set (i := 1) sc_lof.nd rfl (Or.inl rfl) (pe_lst pa_nil))
      (pss_cons (ps_for PassesOwn.never rfl (pi_range1 rfl T.n_range (pa_cons (C8.pe_c cX hr (by decide) rfl (pa_cons (pv 0) (pa_cons pe_int pa_nil))) pa_nil)) (pg_name (i := 2) sc_lof.nd rfl (Or.inl rfl))
        (pss_cons (ps_set (i := 3) sc_lof.nd rfl (Or.inl rfl) (pe_lst pa_nil))
        (pss_cons (ps_for PassesOwn.never rfl (pi_range1 rfl T.n_range (pa_cons (C8.pe_c cX hr (by decide) rfl (pa_cons (pv 0) (pa_cons pe_int pa_nil))) pa_nil)) (pg_name (i := 4) sc_lof.nd rfl (Or.inl rfl))
          (pss_cons (ps_set (i := 5) sc_lof.nd rfl (Or.inl rfl) (pe_ix ix_list (pe_lst (pa_cons pe_non (pa_cons (pe_op op_sub (C8.pe_c cX hr (by decide) rfl (pa_cons (pv 0) (pa_cons pe_int pa_nil))) pe_int) pa_nil))) (C8.pe_c cX hr (by decide) rfl (pa_cons (pv 0) (pa_cons pe_int pa_nil))) (fun _ _ => rfl)))
          (pss_one (ps_expr (pe_bm PySem.F.plainAttrs_list PySem.F.slot_list_append PySem.F.type_list_append mt_append (pv 3) (pa_cons (C8.pe_mk kRg hr (by decide) rfl (pa_cons (pv 5) (pa_cons
            (pe_lc (own := [("_law_i", 7)]) (g := gName 7) (tt := tYes) rfl sc_lof.nd (pi_range1 rfl T.n_range (pa_cons (C8.pe_c cX hr (by decide) rfl (pa_cons (pv 0) (pa_cons pe_int pa_nil))) pa_nil)) (blkOk_by (N := N_lof) (sc := defScope s_law_offer) (by decide +kernel)) (fun _ _ _ _ _ => pg_name (i := 7) sc_lof.nd rfl (Or.inl rfl)) (fun _ _ _ _ _ => pts_nil)
              (fun _ _ _ _ _ => C8.pe_c cF hr (by decide) rfl (pa_cons (pv 0) pa_nil))) pa_nil))) pa_nil))))))
        (pss_one (ps_expr (pe_bm PySem.F.plainAttrs_list PySem.F.slot_list_append PySem.F.type_list_append mt_append (pv 1) (pa_cons (pv 3) pa_nil)))))))
      (pss_cons (ps_set (i := 6) sc_lof.nd rfl (Or.inl rfl) (pe_lst pa_nil))
      (pss_cons (ps_for PassesOwn.never rfl (pi_range1 rfl T.n_range (pa_cons (C8.pe_c cX hr (by decide) rfl (pa_cons (pv 0) (pa_cons pe_int pa_nil))) pa_nil)) (pg_name (i := 2) sc_lof.nd rfl (Or.inl rfl))
        (pss_one (ps_expr (pe_bm PySem.F.plainAttrs_list PySem.F.slot_list_append PySem.F.type_list_append mt_append (pv 6) (pa_cons (C8.pe_mk kEn hr (by decide) rfl (pa_cons (C8.pe_c cX hr (by decide) rfl (pa_cons (pv 0) (pa_cons (pe_op op_pow pe_int pe_int) pa_nil))) (pa_cons (C8.pe_c cR hr (by decide) rfl (pa_cons (pv 0) pa_nil)) (pa_cons (C8.pe_c cN hr (by decide) rfl (pa_cons (pv 0) pa_nil)) pa_nil)))) pa_nil)))))
      (pss_one (ps_ret (C8.pe_mk kFo hr (by decide) rfl (pa_cons (pv 1) (pa_cons (pv 6) pa_nil))))))))), ?_⟩
    have ne_st : ∀ {H' : Hp} {q : Addr}, StAt st a ns H' → H' q = none → q ≠ st := fun {H' q} r' hq => by
      obtain ⟨o, e, _⟩ := r'.some
      exact (ne_of_none e hq).symm
    refine ⟨Nat.zero_le _, fun p1 hp1 => ?_⟩
    have n1 := ne_st r hp1
    have a1 : a ≠ p1 := ne_of_none r.scr hp1
    refine nx_call (m := 3) rfl (r.new hp1) (by decide) (by decide) fun H1 n kb1 r1 hn => ?_
    refine ⟨(n : Int), rfl, by omega, by omega, ?_⟩
    refine for_range (lo := 0) (n := ((n : Int)).toNat) (fun i σ H' => ∃ (z2 z3 z4 z5 : Option V) (vs : List V) (ps : List (List Rg)), σ = [some (.ref st), some (.ref p1), z2, z3, z4, z5, none, none] ∧ KeepB st H H' ∧ StAt st a ns H' ∧ H' p1 = some (.lst vs) ∧
      Paired (fun v x => LstAt (RgAt (csOf K)) H' v x ∧ v ≠ .ref p1 ∧ Off st v) vs ps ∧ ps.length = i ∧ ∀ x, x ∈ ps → okPn x) ?_ ?_ ?_
    · exact ⟨none, none, none, none, [], [], rfl, (same_keepP (same_new hp1)).trans kb1, r1, kb1 p1 _ n1 upd_same, .nil, rfl, fun _ z => nomatch z⟩
    · rintro i σ H2 hi ⟨z2, z3, z4, z5, vs, ps, rfl, kb2, r2, hl2, pr2, hlen, hok⟩
      refine ⟨Nat.zero_le _, fun p3 hp3 => ?_⟩
      have n3 := ne_st r2 hp3
      have n31 : p3 ≠ p1 := fun z => by rw [z, hl2] at hp3; cases hp3
      refine nx_call (m := 4) rfl (r2.new hp3) (by decide) (by decide) fun H3 m kb3 r3 hm => ?_
      refine ⟨(m : Int), rfl, by omega, by omega, ?_⟩
      refine for_range (lo := 0) (n := ((m : Int)).toNat) (fun j σ H' => ∃ (z4 z5 : Option V) (us : List V) (rs : List Rg), σ = [some (.ref st), some (.ref p1), some (.int ((0 : Int) + (i : Int))), some (.ref p3), z4, z5, none, none] ∧ KeepB st H2 H' ∧ StAt st a ns H' ∧ H' p3 = some (.lst us) ∧
        Paired (RgAt (csOf K) H') us rs ∧ rs.length = j ∧ ∀ x, x ∈ rs → okRg x) ?_ ?_ ?_
      · exact ⟨z4, z5, [], [], rfl, (same_keepP (same_new hp3)).trans kb3, r3, kb3 p3 _ n3 upd_same, .nil, rfl, fun _ z => nomatch z⟩
      · rintro j σ H4 hj ⟨y4, y5, us, rs, rfl, kb4, r4, hl4, pr4, hlen4, hok4⟩
        dsimp only [gName, tSeq, tAsg]
        refine opt_draw (K := K) rfl r4 fun H5 pv' po kb5 r5 ho => ?_
        have hl5 := kb5 p3 _ n3 hl4
        refine ⟨_, rfl, .inl ⟨rfl, _, SqL.of hl5⟩, ?_⟩
        refine ⟨_, rfl, ?_⟩
        unfold tCons
        refine g_comp (st_fc (c := csOf K)).v okFc (m := 3) r5 (by decide) (fun Q' h => nx_call (m := 3) rfl r5 (by decide) (by decide) h) (fun x H6 Q6 r6 h6 => g_call rfl r6 h6) ?_
        intro H6 fv fs kb6 r6 f6 hl6 hk6 hf6 x dx hx hdx ne
        refine spI_make (b := ⟨po, fs⟩) hx hdx ne rfl (fun H' s => ⟨pv', fv, rfl, ho, la_same st_fc s hf6⟩) (fun H7 s7 o7 => ?_)
        have kb47 : KeepB st H4 H7 := (kb5.trans kb6).trans (same_keepP s7)
        have r7 := r6.same s7
        have hl7 : H7 p3 = some (.lst us) := kb47 p3 _ n3 hl4
        have lus : us.length = rs.length := pr4.length
        refine ⟨p3, us, .ref x, rfl, rfl, hl7, by rw [lus, hlen4]; exact big_line (Nat.le_trans (show j ≤ 1000 by omega) (by decide)), ?_⟩
        refine ⟨_, _, us ++ [.ref x], rs ++ [⟨po, fs⟩], rfl, fun b o nb e => ?_, ?_, upd_same, ?_, ?_, fun y hy => ?_⟩
        · rw [upd_ne (ne_of_none e hp3)]
          exact kb47 b o nb (kb4 b o nb e)
        · obtain ⟨i', v', hi', e'⟩ := r7.lst
          exact ⟨⟨i', v', hi', by rw [upd_ne n3.symm]; exact e'⟩, by rw [upd_ne (ne_of_none r2.scr hp3)]; exact r7.scr, r7.ne⟩
        · have k1 : Keep H7 (upd H7 p3 (.lst (us ++ [.ref x]))) := fun b o d e => by
            have nb : b ≠ p3 := fun z => by rw [z, hl7] at e; cases e; cases d
            rw [upd_ne nb]
            exact e
          exact Paired.snoc (pr4.mono fun _ _ z => st_rg.ap k1 (st_rg.ap (r4.keep kb47) z)) (st_rg.ap k1 o7)
        · rw [List.length_append, hlen4]
          rfl
        · rcases List.mem_append.mp hy with h | h
          · exact hok4 y h
          · rw [List.mem_singleton.mp h]
            show (cOpt po ++ cList cFc fs).length ≤ 50
            rw [List.length_append]
            have h1 := list_le hk6
            have h2 : fs.length * 20 ≤ 2 * 20 := Nat.mul_le_mul_right 20 (by omega)
            have h3 : (cOpt po).length ≤ 2 := by
              cases po with
              | none => exact Nat.le_succ 1
              | some _ => exact Nat.le_refl 2
            omega
      · rintro σ H4 ⟨y4, y5, us, rs, rfl, kb4, r4, hl4, pr4, hlen4, hok4⟩
        have hl1 : H4 p1 = some (.lst vs) := kb4 p1 _ n1 hl2
        have lvs : vs.length = ps.length := pr2.length
        refine ⟨_, rfl, .inl ⟨rfl, _, SqL.of hl1⟩, _, rfl, p1, vs, .ref p3, rfl, rfl, hl1, by rw [lvs, hlen]; exact big_line (Nat.le_trans (show i ≤ 1000 by omega) (by decide)), ?_⟩
        refine ⟨_, _, _, _, vs ++ [.ref p3], ps ++ [rs], rfl, fun b o nb e => ?_, ?_, upd_same, ?_, ?_, fun y hy => ?_⟩
        · rw [upd_ne (ne_of_none e hp1)]
          exact kb4 b o nb (kb2 b o nb e)
        · obtain ⟨i', v', hi', e'⟩ := r4.lst
          exact ⟨⟨i', v', hi', by rw [upd_ne n1.symm]; exact e'⟩, by rw [upd_ne a1]; exact r4.scr, r4.ne⟩
        · have kv : ∀ v : V, v ≠ .ref p1 → KeepV v H4 (upd H4 p1 (.lst (vs ++ [.ref p3]))) := fun v hv b o d e => by
            have nb : b ≠ p1 := fun z => by
              rcases d with d | d
              · rw [z, hl1] at e; cases e; cases d
              · exact hv (z ▸ d)
            rw [upd_ne nb]
            exact e
          refine Paired.snoc (pr2.mono fun v x hz => ⟨(sv_lst st_rg).ap (kv v hz.2.1) ((sv_lst st_rg).ap (kb4.v r2 hz.2.2) hz.1), hz.2⟩) ⟨?_, fun z => n31 (by injection z), fun q z => by cases z; exact n3⟩
          exact (sv_lst st_rg).ap (kv (.ref p3) fun z => n31 (by injection z)) ⟨p3, us, rfl, hl4, pr4⟩
        · rw [List.length_append, hlen]
          rfl
        · rcases List.mem_append.mp hy with h | h
          · exact hok y h
          · rw [List.mem_singleton.mp h]
            show (cList cRg rs).length ≤ 200
            have h1 := list_le hok4
            have h2 : rs.length * 50 ≤ 3 * 50 := Nat.mul_le_mul_right 50 (by omega)
            omega
    · rintro σ H2 ⟨z2, z3, z4, z5, vs, ps, rfl, kb2, r2, hl2, pr2, hlen, hok⟩
      have hps : LstAt (LstAt (RgAt (csOf K))) H2 (.ref p1) ps := ⟨p1, vs, rfl, hl2, pr2.mono fun _ _ z => z.1⟩
      refine ⟨Nat.zero_le _, fun p7 hp7 => ?_⟩
      have n7 := ne_st r2 hp7
      have n71 : p1 ≠ p7 := fun z => by rw [← z, hl2] at hp7; cases hp7
      refine nx_call (m := 4) rfl (r2.new hp7) (by decide) (by decide) fun H3 m kb3 r3 hm => ?_
      refine ⟨(m : Int), rfl, by omega, by omega, ?_⟩
      refine for_range (lo := 0) (n := ((m : Int)).toNat) (fun j σ H' => ∃ (y2 : Option V) (us : List V) (es : List En), σ = [some (.ref st), some (.ref p1), y2, z3, z4, z5, some (.ref p7), none] ∧ KeepB st H2 H' ∧ StAt st a ns H' ∧ H' p7 = some (.lst us) ∧
        Paired (EnAt (csOf K) H') us es ∧ es.length = j ∧ ∀ x, x ∈ es → okEn x) ?_ ?_ ?_
      · exact ⟨z2, [], [], rfl, (same_keepP (same_new hp7)).trans kb3, r3, kb3 p7 _ n7 upd_same, .nil, rfl, fun _ z => nomatch z⟩
      · rintro j σ H4 hj ⟨y2, us, es, rfl, kb4, r4, hl4, pr4, hlen4, hok4⟩
        refine ⟨_, rfl, .inl ⟨rfl, _, SqL.of hl4⟩, ?_⟩
        refine ⟨_, rfl, _, _, rfl, rfl, ⟨by decide, by decide, by decide⟩, st, a, ns, _, rfl, r4, by decide, by decide, fun H5 d5 kb5 r5 hd5 => ?_⟩
        refine g_call rfl r5 fun H6 v6 rc kb6 r6 f6 o6 h6 => ?_
        refine g_call rfl r6 fun H7 v7 ls kb7 r7 f7 o7 h7 => ?_
        intro x dx hx hdx ne
        have h6' := st_rc.ap (r6.keep kb7) h6
        refine spI_make (b := ⟨(d5 : Int), rc, ls⟩) hx hdx ne rfl (fun H' s => ⟨v6, v7, rfl, st_rc.ap (Same.keep s) h6', li_same s h7⟩) (fun H8 s8 o8 => ?_)
        have kb48 : KeepB st H4 H8 := ((kb5.trans kb6).trans kb7).trans (same_keepP s8)
        have r8 := r7.same s8
        have hl8 : H8 p7 = some (.lst us) := kb48 p7 _ n7 hl4
        have lus : us.length = es.length := pr4.length
        refine ⟨p7, us, .ref x, rfl, rfl, hl8, by rw [lus, hlen4]; exact big_line (Nat.le_trans (show j ≤ 1000 by omega) (by decide)), ?_⟩
        refine ⟨_, us ++ [.ref x], es ++ [⟨(d5 : Int), rc, ls⟩], rfl, fun b o nb e => ?_, ?_, upd_same, ?_, ?_, fun y hy => ?_⟩
        · rw [upd_ne (ne_of_none e hp7)]
          exact kb48 b o nb (kb4 b o nb e)
        · obtain ⟨i', v', hi', e'⟩ := r8.lst
          exact ⟨⟨i', v', hi', by rw [upd_ne n7.symm]; exact e'⟩, by rw [upd_ne (ne_of_none r2.scr hp7)]; exact r8.scr, r8.ne⟩
        · have k1 : Keep H8 (upd H8 p7 (.lst (us ++ [.ref x]))) := fun b o d e => by
            have nb : b ≠ p7 := fun z => by rw [z, hl8] at e; cases e; cases d
            rw [upd_ne nb]
            exact e
          exact Paired.snoc (pr4.mono fun _ _ z => st_en.ap k1 (st_en.ap (r4.keep kb48) z)) (st_en.ap k1 o8)
        · rw [List.length_append, hlen4]
          rfl
        · rcases List.mem_append.mp hy with h | h
          · exact hok4 y h
          · rw [List.mem_singleton.mp h]
            show ([(d5 : Int)] ++ cRc rc ++ cNums ls).length ≤ 50
            rw [List.length_append, List.length_append, List.length_singleton]
            have h1 : (cRc rc).length ≤ 40 := o6
            have h2 : (cNums ls).length ≤ 4 := o7
            omega
      · rintro σ H4 ⟨y2, us, es, rfl, kb4, r4, hl4, pr4, hlen4, hok4⟩
        have hps4 : LstAt (LstAt (RgAt (csOf K))) H4 (.ref p1) ps := ⟨p1, vs, rfl, kb4 p1 _ n1 hl2, pr2.mono fun v x hz => (sv_lst st_rg).ap (kb4.v r2 hz.2.2) hz.1⟩
        refine ⟨_, rfl, _, rfl, fun x dx hx hdx ne => ?_⟩
        refine spI_make (b := ⟨ps, es⟩) hx hdx ne rfl (fun H' s => ⟨⟨_, _, rfl, ?_, la_same st_en s ⟨p7, us, rfl, hl4, pr4⟩⟩, Nat.le_trans (show ps.length ≤ 1000 by omega) (by decide)⟩) (fun H8 s8 o8 => ?_)
        · obtain ⟨q, ws, e, hq, pr⟩ := hps4
          exact ⟨q, ws, e, s _ _ hq, pr.mono fun _ _ z => la_same st_rg s z⟩
        · have kb : KeepB st H H4 := kb2.trans kb4
          refine hQ H8 _ ⟨ps, es⟩ (kb.trans (same_keepP s8)) (r4.same s8) (r4.fresh kb (fresh_ref hx)) ?_ o8
          show (cList cPn ps ++ cList cEn es).length ≤ 1000
          rw [List.length_append]
          have h1 := list_le hok
          have h2 := list_le hok4
          have h3 : ps.length * 200 ≤ 2 * 200 := Nat.mul_le_mul_right 200 (by omega)
          have h4 : es.length * 50 ≤ 3 * 50 := Nat.mul_le_mul_right 50 (by omega)
          omega
end
end Snk
set_option maxHeartbeats 4000000
namespace Snk
open PySem PySem.Spec PyProof.Rows L2
/-- the promise of _law_changed: some list of ints, not long -/
def spChanged : Sp := fun vs H Q _ => ∃ (st a : Addr) (ns : List Int) (q : Addr) (cs : List Int), vs = [.ref st, .ref q] ∧ StAt st a ns H ∧ H q = some (.lst (cs.map V.int)) ∧ cs.length ≤ 1000 ∧
  ∀ H' t (ms : List Int), KeepB st H H' → StAt st a ns H' → H t = none → H' t = some (.lst (ms.map V.int)) → ms.length ≤ 2000 → Q (.ref t) H'
def smalls : List Int := [-1, 0, 1, 2, 3, 9, 10, 37, 127, 10 ^ (9 : Int).toNat]
section
variable {P : Program} {w : World} {K : PySem.W.Frag} {mg : Str → Option Value} {base : Heap} {f : Addr} {fd : FuncData}
abbrev N_lch : List Str := ["_law_state", "_law_code", "_law_kind", "_law_changed_here", "_law_k"]
abbrev P_lch : List Str := ["_law_state", "_law_code"]
theorem sc_lch : FnScope N_lch P_lch (defScope s_law_changed) := ⟨rfl, rfl, rfl, by decide +kernel, rfl, by decide +kernel, by decide +kernel⟩
theorem cut_ints (cs : List Int) (lo hi : Option Int) : ∃ ms : List Int, cutV (cs.map V.int) lo hi = ms.map V.int ∧ ms.length ≤ cs.length := by
  refine ⟨(cs.drop (HT.sIx (cs.map V.int).length 0 lo)).take (HT.sIx (cs.map V.int).length (cs.map V.int).length hi - HT.sIx (cs.map V.int).length 0 lo), ?_, ?_⟩
  · unfold cutV
    rw [List.map_take, List.map_drop]
  · rw [List.length_take, List.length_drop]
    omega
theorem set_ints (ms : List Int) (j : Nat) (z : Int) : (ms.map V.int).set j (.int z) = (ms.set j z).map V.int := by
  rw [List.map_set]
theorem ok_lchanged (F : FnP K "_law_changed" "_law_changed" s_law_changed f fd) (T : Txt K mg) (cX : C8.Cal P w K mg base 2 "_law_next" spNext []) : FnOk P w K mg base C8.CX0 3 f fd P_lch spChanged := by
  refine F.ok sc_lch (fun vs H Q E h => ?_) (fun cdv A outer s H vs Q E hr h => ?_)
  · obtain ⟨st, a, ns, q, cs, rfl, _⟩ := h
    rfl
  · obtain ⟨st, a, ns, q, cs, rfl, r, hq, hcs, hQ⟩ := h
    refine ⟨_, PSs.nox (pss_cons (ps_set (i := 2) sc_lch.nd rfl (Or.inl rfl) (C8.pe_c cX hr (by decide) rfl (pa_cons (pv 0) (pa_cons pe_int pa_nil))))
      (pss_cons (ps_if (pt_cmpR op_eq (pv 2) pe_int (nomark _)) (pss_one (ps_ret (pe_slice sl_list (pv 1) po_none (po_some (C8.pe_c cX hr (by decide) rfl (pa_cons (pv 0) (pa_cons (pe_op op_add (pe_callB call_len_seq (by rfl) T.n_len PySem.boot_len (pa_cons (pv 1) pa_nil)) pe_int) pa_nil))))))) pss_nil)
      (pss_cons (ps_if (pt_cmpR op_eq (pv 2) pe_int (nomark _)) (pss_one (ps_ret (pe_op op_cat (pv 1) (pe_lst (pa_cons (pe_op op_sub (C8.pe_c cX hr (by decide) rfl (pa_cons (pv 0) (pa_cons pe_int pa_nil))) pe_int) pa_nil))))) pss_nil)
      (pss_cons (ps_if (pt_cmpR op_eq (pv 2) pe_int (nomark _)) (pss_one (ps_ret
        (pe_lc (own := [("_law_k", 4)]) (g := gName 4) (tt := tYes) rfl sc_lch.nd (pi_range1 rfl T.n_range (pa_cons (C8.pe_c cX hr (by decide) rfl (pa_cons (pv 0) (pa_cons pe_int pa_nil))) pa_nil)) (blkOk_by (N := N_lch) (sc := defScope s_law_changed) (by decide +kernel)) (fun _ _ _ _ _ => pg_name (i := 4) sc_lch.nd rfl (Or.inl rfl)) (fun _ _ _ _ _ => pts_nil)
          (fun _ _ _ _ _ => pe_op op_sub (C8.pe_c cX hr (by decide) rfl (pa_cons (pv 0) (pa_cons pe_int pa_nil))) pe_int)))) pss_nil)
      (pss_cons (ps_set (i := 3) sc_lch.nd rfl (Or.inl rfl) (pe_callTy call_list_of (by rfl) T.n_list (by decide +kernel) (pa_cons (pv 1) pa_nil)))
      (pss_cons (ps_for PassesOwn.never rfl (pi_range1 rfl T.n_range (pa_cons (pe_op op_sub (pv 2) pe_int) pa_nil)) (pg_name (i := 4) sc_lch.nd rfl (Or.inl rfl))
        (pss_one (ps_if (pt_cmpR op_gt (pe_callB call_len_seq (by rfl) T.n_len PySem.boot_len (pa_cons (pv 3) pa_nil)) pe_int (nomark _))
          (pss_one (ps_asg (pe_ix ix_list (pe_lst (pa_cons (pe_un un_neg pe_int) (pa_cons pe_int (pa_cons pe_int (pa_cons pe_int (pa_cons pe_int (pa_cons pe_int (pa_cons pe_int (pa_cons pe_int (pa_cons pe_int (pa_cons (pe_op op_pow pe_int pe_int) pa_nil))))))))))) (C8.pe_c cX hr (by decide) rfl (pa_cons (pv 0) (pa_cons pe_int pa_nil))) (fun _ _ => rfl))
            (pg_sub (pv 3) (C8.pe_c cX hr (by decide) rfl (pa_cons (pv 0) (pa_cons (pe_callB call_len_seq (by rfl) T.n_len PySem.boot_len (pa_cons (pv 3) pa_nil)) pa_nil))) set_list))) pss_nil)))
      (pss_one (ps_ret (pv 3))))))))), ?_⟩
    have ne_st : ∀ {H' : Hp} {q : Addr}, StAt st a ns H' → H' q = none → q ≠ st := fun {H' q} r' hq => by
      obtain ⟨o, e, _⟩ := r'.some
      exact (ne_of_none e hq).symm
    have qst : q ≠ st := by
      obtain ⟨i, v, _, e⟩ := r.lst
      refine ne_of hq e fun z => ?_
      injection z with z
      cases cs with
      | nil => cases z
      | cons c cs => cases z
    refine nx_call (m := 6) rfl r (by decide) (by decide) fun H1 n kb1 r1 hn => ?_
    have hq1 := kb1 q _ qst hq
    have hc : n = 0 ∨ n = 1 ∨ n = 2 ∨ 3 ≤ n := by omega
    rcases hc with rfl | rfl | rfl | h3
    · refine ⟨_, rfl, rfl, _, rfl, iteT ?_⟩
      refine ⟨_, rfl, _, rfl, _, rfl, q, _, rfl, .inl (SqL.of hq1), _, _, rfl, rfl, st, a, ns, _, rfl, r1, ?_, ?_, fun H2 d kb2 r2 hd => ?_⟩
      · show (0 : Int) < ((cs.map V.int).length : Int) + 1
        omega
      · show ((cs.map V.int).length : Int) + 1 < 1073741824
        rw [List.length_map]
        omega
      · have hq2 := kb2 q _ qst hq1
        refine ⟨_, rfl, q, _, rfl, SqL.of hq2, fun p hp => ?_⟩
        obtain ⟨ms, e, hl⟩ := cut_ints cs none (some (d : Int))
        have kb := kb1.trans kb2
        refine hQ _ p ms (kb.new hp) (r2.new hp) (r2.free kb hp) (by rw [upd_same, e]) (by omega)
    · refine ⟨_, rfl, rfl, _, rfl, iteF ⟨_, rfl, rfl, _, rfl, iteT ?_⟩⟩
      refine ⟨_, rfl, ?_⟩
      refine nx_call (m := 4) rfl r1 (by decide) (by decide) fun H2 d kb2 r2 hd => ⟨_, _, rfl, rfl, ?_⟩
      refine ⟨by show 1 ≤ sizeLine; decide, fun p hp => ?_⟩
      have hq2 := at_new (u := .lst [.int ((d : Int) - 1)]) (kb2 q _ qst hq1) hp
      refine ⟨q, p, _, _, rfl, rfl, hq2, upd_same, ?_, fun t ht => ?_⟩
      · rw [List.length_map]
        exact Nat.le_of_lt (big_line (Nat.le_trans (show cs.length + [V.int ((d : Int) - 1)].length ≤ 2000 from Nat.le_trans (Nat.add_le_add_right hcs 1) (by decide)) (by decide)))
      · have kb := (kb1.trans kb2).new (o := .lst [.int ((d : Int) - 1)]) hp
        have r3 := r2.new (o := .lst [.int ((d : Int) - 1)]) hp
        refine hQ _ t (cs ++ [(d : Int) - 1]) (kb.new ht) (r3.new ht) (r3.free kb ht) (by rw [upd_same, List.map_append]; rfl) ?_
        rw [List.length_append, List.length_singleton]
        omega
    · refine ⟨_, rfl, rfl, _, rfl, iteF ⟨_, rfl, rfl, _, rfl, iteF ⟨_, rfl, rfl, _, rfl, iteT ?_⟩⟩⟩
      dsimp only [tRet]
      refine g_comp st_int.v (fun _ => True) (m := 21) r1 (by decide) (fun Q' h => nx_call (m := 21) rfl r1 (by decide) (by decide) h) (fun x H2 Q2 r2 h2 => ?_) ?_
      · exact nx_call (m := 6) rfl r2 (by decide) (by decide) fun H' d kb r' hd => ⟨_, _, rfl, rfl, h2 H' _ ((d : Int) - 1) kb r' fresh_int trivial rfl⟩
      · rintro H2 v xs kb2 r2 f2 hl _ ⟨t, ys, rfl, ht, pr⟩
        exact hQ H2 t xs (kb1.trans kb2) r2 (r1.free kb1 (f2 t rfl)) (by rw [ht, ints_of pr]) (by omega)
    · have t0 : decide (V.int (n : Int) = V.int 0) = false := decide_eq_false fun z => by injection z with z; omega
      have t1 : decide (V.int (n : Int) = V.int 1) = false := decide_eq_false fun z => by injection z with z; omega
      have t2 : decide (V.int (n : Int) = V.int 2) = false := decide_eq_false fun z => by injection z with z; omega
      refine ⟨_, rfl, rfl, _, rfl, ?_⟩
      rw [t0]
      refine iteF ⟨_, rfl, rfl, _, rfl, ?_⟩
      rw [t1]
      refine iteF ⟨_, rfl, rfl, _, rfl, ?_⟩
      rw [t2]
      refine iteF ?_
      refine ⟨_, rfl, q, _, rfl, .inl (SqL.of hq1), fun t ht => ?_⟩
      have nt := ne_st r1 ht
      have tH : H t = none := r1.free kb1 ht
      refine ⟨_, rfl, _, _, rfl, rfl, (n : Int) - 2, rfl, by omega, by omega, ?_⟩
      refine for_range (lo := 0) (n := ((n : Int) - 2).toNat) (fun i σ H' => ∃ (z4 : Option V) (ms : List Int), σ = [some (.ref st), some (.ref q), some (.int (n : Int)), some (.ref t), z4] ∧ KeepB st H H' ∧ StAt st a ns H' ∧ H' t = some (.lst (ms.map V.int)) ∧ ms.length = cs.length) ?_ ?_ ?_
      · exact ⟨none, cs, rfl, kb1.new ht, r1.new ht, upd_same, rfl⟩
      · rintro i σ H2 hi ⟨z4, ms, rfl, kb2, r2, hl2, hlen⟩
        refine ⟨_, rfl, t, _, rfl, .inl (SqL.of hl2), _, _, rfl, rfl, _, rfl, ite2 (fun hpos => ?_) (fun _ => ⟨_, ms, rfl, kb2, r2, hl2, hlen⟩)⟩
        have hpos' : (0 : Int) < ((ms.map V.int).length : Int) := of_decide_eq_true hpos
        refine ⟨_, rfl, _, _, rfl, rfl, ⟨by decide, by decide, by decide⟩, by show 10 ≤ sizeLine; decide, fun p hp => ?_⟩
        have np := ne_st r2 hp
        have es : (upd H2 p (.lst (smalls.map V.int))) p = some (.lst (smalls.map V.int)) := upd_same
        have r3 := r2.new (o := .lst (smalls.map V.int)) hp
        refine nx_call (m := 10) rfl r3 (by decide) (by decide) fun H4 d kb4 r4 hd => ?_
        have hd' : d < smalls.length := by show d < 10; omega
        have hp4 := kb4 p _ np es
        refine ⟨p, smalls.map V.int, (d : Int), .int smalls[d], rfl, rfl, SqL.of hp4, atI_nat (by rw [List.getElem?_map, List.getElem?_eq_getElem hd']; rfl), ?_⟩
        have hl4 : H4 t = some (.lst (ms.map V.int)) := kb4 t _ nt (at_new hl2 hp)
        refine ⟨_, rfl, _, rfl, _, rfl, t, _, rfl, .inl (SqL.of hl4), st, a, ns, _, rfl, r4, hpos', ?_, fun H5 e kb5 r5 he => ?_⟩
        · show ((ms.map V.int).length : Int) < 1073741824
          rw [List.length_map]
          omega
        · have hl5 := kb5 t _ nt hl4
          have he' : e < (ms.map V.int).length := by omega
          refine ⟨t, _, (e : Int), e, rfl, rfl, hl5, ?_, ?_⟩
          · show ixN (ms.map V.int).length (e : Int) = some e
            unfold ixN
            rw [if_pos (by omega), if_pos (by omega)]
            rfl
          · have k25 : KeepB st H2 H5 := ((same_keepP (same_new hp)).trans kb4).trans kb5
            refine ⟨_, ms.set e smalls[d], rfl, fun b o nb z => ?_, ?_, by rw [upd_same, set_ints], by rw [List.length_set]; exact hlen⟩
            · rw [upd_ne (ne_of_none z tH)]
              exact k25 b o nb (kb2 b o nb z)
            · obtain ⟨i', v', hi', e'⟩ := r5.lst
              exact ⟨⟨i', v', hi', by rw [upd_ne nt.symm]; exact e'⟩, by rw [upd_ne (ne_of_none r1.scr ht)]; exact r5.scr, r5.ne⟩
      · rintro σ H2 ⟨z4, ms, rfl, kb2, r2, hl2, hlen⟩
        exact ⟨_, rfl, hQ H2 t ms kb2 r2 tH hl2 (by omega)⟩
end
end Snk
set_option maxHeartbeats 4000000
namespace Snk
open PySem PySem.Spec PyProof.Rows L2
/-- list(x), by name -/
def rListOf (K : PySem.W.Frag) : List V → Hp → VK → Prop := fun xs H Q => ∃ p ys, xs = [.ref p] ∧ (SqL K H p ys ∨ SqT K H p ys) ∧ ∀ l, H l = none → Q (.ref l) (upd H l (.lst ys))
theorem call_listOf {X : Cx} : CallR X (.type "list") (rListOf X.K) := call_list_of
/-- the promise of a def that reads and writes back: None, or the very list anew -/
def spBack : Sp := fun vs H Q _ => ∃ (q : Addr) (ns : List Int), vs = [.ref q] ∧ H q = some (.lst (ns.map V.int)) ∧ ns.length ≤ Big ∧ (∀ H', Same H H' → Q .non H') ∧ ∀ H' t, Same H H' → H' t = some (.lst (ns.map V.int)) → Q (.ref t) H'
abbrev tOfB (K : PySem.W.Frag) (spA spC : Sp) : WX → TS := fun W => tRet (tCall spA [] C8.E0 (tCons (tCallS spC (WE W) (tCons (tCB (rListOf K) (tCons (tVar 0) tNil)) tNil)) tNil))
section
variable {P : Program} {w : World} {K : PySem.W.Frag} {mg : Str → Option Value} {base : Heap} {f : Addr} {fd : FuncData}
abbrev N_lb : List Str := ["_law_numbers_here"]
theorem sc_lbo : FnScope N_lb N_lb (defScope s_law_offer_of) := ⟨rfl, rfl, rfl, by decide +kernel, rfl, by decide +kernel, by decide +kernel⟩
theorem sc_lbr : FnScope N_lb N_lb (defScope s_law_record_of) := ⟨rfl, rfl, rfl, by decide +kernel, rfl, by decide +kernel, by decide +kernel⟩
theorem ok_loffer_of (F : FnP K "_law_offer_of" "_law_offer_of" s_law_offer_of f fd) (T : Txt K mg) (cO : C8.Cal P w K mg base 7 "offer_code" (spFo K) []) (cR : CalX P w K mg base 12 "read_offer" (spRead K cFo (FoAt (csOf K)))) : FnOk P w K mg base C8.CX0 13 f fd N_lb spBack := by
  refine F.ok sc_lbo (fun vs H Q E h => ?_) (fun cdv A outer s H vs Q E hr h => ?_)
  · obtain ⟨q, ns, rfl, _⟩ := h
    rfl
  · obtain ⟨q, ns, rfl, hq, hb, hN, hL⟩ := h
    obtain ⟨g, gd, ps, G, gm, gk, gb⟩ := cR.ex
    refine ⟨_, PSs.nox (pss_one (ps_try_many (tb := tOfB K (spFo K) (spRead K cFo (FoAt (csOf K)))) (Wout := fun _ _ _ _ => False) (l := [(.ref (He.ga K "InvalidCode"), fun _ _ _ => tRet (tC .non)), (.ref (He.ga K "SurenearError"), fun _ _ _ => tRet (tLst tNil))]) rfl rfl takes0
      (fun W pn xe tk _ => pss_one (ps_ret (C8.pe_c cO hr (by decide) rfl (pa_cons (pe_callS G hr rfl gm gk gb (fun σ => passAt tk σ) (pa_cons (pe_callTy (T := "list") (r := rListOf K) call_listOf (by rfl) T.n_list (by decide +kernel) (pa_cons (pv 0) pa_nil)) pa_nil)) pa_nil))))
      (.cons ⟨rfl, by decide, .inl T.g_InvalidCode⟩ (fun _ _ _ _ _ _ _ => pss_one (ps_ret pe_non)) (.cons ⟨rfl, by decide, .inl T.g_SurenearError⟩ (fun _ _ _ _ _ _ _ => pss_one (ps_ret (pe_lst pa_nil))) .nil)))), ?_⟩
    refine ⟨_, rfl, q, _, rfl, .inl (SqL.of hq), fun l hl => ?_⟩
    have s0 : Same H (upd H l (.lst (ns.map V.int))) := same_new hl
    refine ⟨.ref l, ns, rfl, ⟨l, rfl, upd_same⟩, hb, fun H1 u o s1 e1 h1 => ?_, fun H1 s1 => ⟨true, T.exm, fun _ _ _ => hN H1 (s0.trans s1), fun z => nomatch z⟩⟩
    exact ⟨u, o, rfl, h1, by rw [← e1]; exact hb, fun H2 t s2 n2 e2 => hL H2 t ((s0.trans s1).trans s2) (by rw [e1]; exact e2)⟩
theorem ok_lrecord_of (F : FnP K "_law_record_of" "_law_record_of" s_law_record_of f fd) (T : Txt K mg) (cO : C8.Cal P w K mg base 4 "record_code" (spRc K) []) (cR : CalX P w K mg base 12 "read_record" (spRead K cRc (RcAt (csOf K)))) : FnOk P w K mg base C8.CX0 13 f fd N_lb spBack := by
  refine F.ok sc_lbr (fun vs H Q E h => ?_) (fun cdv A outer s H vs Q E hr h => ?_)
  · obtain ⟨q, ns, rfl, _⟩ := h
    rfl
  · obtain ⟨q, ns, rfl, hq, hb, hN, hL⟩ := h
    obtain ⟨g, gd, ps, G, gm, gk, gb⟩ := cR.ex
    refine ⟨_, PSs.nox (pss_one (ps_try_many (tb := tOfB K (spRc K) (spRead K cRc (RcAt (csOf K)))) (Wout := fun _ _ _ _ => False) (l := [(.ref (He.ga K "InvalidCode"), fun _ _ _ => tRet (tC .non)), (.ref (He.ga K "SurenearError"), fun _ _ _ => tRet (tLst tNil))]) rfl rfl takes0
      (fun W pn xe tk _ => pss_one (ps_ret (C8.pe_c cO hr (by decide) rfl (pa_cons (pe_callS G hr rfl gm gk gb (fun σ => passAt tk σ) (pa_cons (pe_callTy (T := "list") (r := rListOf K) call_listOf (by rfl) T.n_list (by decide +kernel) (pa_cons (pv 0) pa_nil)) pa_nil)) pa_nil))))
      (.cons ⟨rfl, by decide, .inl T.g_InvalidCode⟩ (fun _ _ _ _ _ _ _ => pss_one (ps_ret pe_non)) (.cons ⟨rfl, by decide, .inl T.g_SurenearError⟩ (fun _ _ _ _ _ _ _ => pss_one (ps_ret (pe_lst pa_nil))) .nil)))), ?_⟩
    refine ⟨_, rfl, q, _, rfl, .inl (SqL.of hq), fun l hl => ?_⟩
    have s0 : Same H (upd H l (.lst (ns.map V.int))) := same_new hl
    refine ⟨.ref l, ns, rfl, ⟨l, rfl, upd_same⟩, hb, fun H1 u o s1 e1 h1 => ?_, fun H1 s1 => ⟨true, T.exm, fun _ _ _ => hN H1 (s0.trans s1), fun z => nomatch z⟩⟩
    exact ⟨u, o, rfl, h1, by rw [← e1]; exact hb, fun H2 t s2 n2 e2 => hL H2 t ((s0.trans s1).trans s2) (by rw [e1]; exact e2)⟩
/-! ### the law -/
def spLaw (K : PySem.W.Frag) : Sp := fun vs H Q _ => ∃ (a : Addr) (ns : List Int), vs = [.ref a] ∧ SqL K H a (ns.map V.int) ∧ ns.length ≤ 63 ∧ ∀ H', Q (.bl true) H'
abbrev N_law : List Str := ["_law_script", "_law_state", "_law_turn", "_law_numbers_here", "_law_told"]
theorem sc_law : FnScope N_law ["_law_script"] (defScope s_law) := ⟨rfl, rfl, rfl, by decide +kernel, rfl, by decide +kernel, by decide +kernel⟩
theorem dp_ints {H : Hp} : ∀ ns : List Int, DpAll K H (ns.map V.int) (ns.map PyData.int)
  | [] => .nil
  | i :: r => .cons (.int i) (dp_ints r)
theorem eq_ints (ns : List Int) : PyData.eqv (.list (ns.map PyData.int)) (.list (ns.map PyData.int)) = true := SeqAt.eqv_refl _ (SeqAt.canLay_of_shaped (PySem.W.ke_shaped_ints ns))
/-- told is not None and told != numbers: never -/
theorem told_ok {σ : L2.St} {H : Hp} {u : V} {q : Addr} {ms : List Int} (h3 : σ[3]? = some (some (.ref q))) (hq : H q = some (.lst (ms.map V.int))) (h4 : σ[4]? = some (some u)) (hu : u = .non ∨ ∃ t, u = .ref t ∧ H t = some (.lst (ms.map V.int))) {Q : Bool → Hp → Prop} (h : Q false H) :
    tAnd (tB (tNotN (tVar 4))) (tTest (tOp (rNeD K) (tVar 4) (tVar 3))) σ H Q := by
  rcases hu with rfl | ⟨t, rfl, ht⟩
  · exact ⟨_, h4, _, rfl, iteF h⟩
  · refine ⟨_, h4, _, rfl, ?_⟩
    rw [decide_eq_false (fun z => nomatch z)]
    refine iteT ⟨_, h4, _, h3, .list (ms.map PyData.int), .list (ms.map PyData.int), .lst (SqL.of ht) (dp_ints ms), .lst (SqL.of hq) (dp_ints ms), PySem.W.ke_shaped_ints ms, PySem.W.ke_shaped_ints ms, _, rfl, ?_⟩
    rw [eq_ints]
    exact h
/-- a datum drawn, written, changed -/
theorem half {α : Type} {ok : α → Prop} {R : Lies α} {c : α → List Int} (hok : ∀ x, ok x → (c x).length ≤ 1000) {st a : Addr} {ns : List Int} {σ : L2.St} {H : Hp} {Q : VK} {E E' E'' : XK} (hσ : σ[1]? = some (some (.ref st))) (r : StAt st a ns H)
    (h : ∀ (H' : Hp) (t : Addr) (ms : List Int), StAt st a ns H' → H' t = some (.lst (ms.map V.int)) → ms.length ≤ 2000 → Q (.ref t) H') :
    tCall spChanged [] E (tCons (tVar 1) (tCons (tCall (spW R c) [] E' (tCons (tCall (spG ok R) [] E'' (tCons (tVar 1) tNil)) tNil)) tNil)) σ H Q :=
  ⟨_, hσ, _, hσ, st, a, ns, rfl, r, fun H1 v x _ r1 _ o1 h1 => ⟨v, x, rfl, h1, Nat.le_trans (hok x o1) (by decide), fun H2 q s2 _ e2 => ⟨st, a, ns, q, c x, rfl, r1.same s2, e2, hok x o1, fun H3 t ms _ r3 _ e3 l3 => h H3 t ms r3 e3 l3⟩⟩⟩
/-- read and written back -/
theorem back {σ : L2.St} {H : Hp} {Q : VK} {E : XK} {t : Addr} {ms : List Int} (hσ : σ[3]? = some (some (.ref t))) (ht : H t = some (.lst (ms.map V.int))) (hl : ms.length ≤ 2000) (h : ∀ H' u, Same H H' → (u = .non ∨ ∃ t', u = .ref t' ∧ H' t' = some (.lst (ms.map V.int))) → Q u H') : tCall spBack [] E (tCons (tVar 3) tNil) σ H Q :=
  ⟨_, hσ, t, ms, rfl, ht, Nat.le_trans hl (by decide), fun H' s => h H' _ s (.inl rfl), fun H' t' s e => h H' _ s (.inr ⟨t', rfl, e⟩)⟩
theorem ok_law (F : FnP K "law" "law" s_law f fd) (T : Txt K mg) (cC : C8.Cal P w K mg base 3 "_law_changed" spChanged []) (cLO : C8.Cal P w K mg base 6 "_law_offer" (spLOffer K) []) (cLR : C8.Cal P w K mg base 5 "_law_record" (spLRecord K) []) (cO : C8.Cal P w K mg base 7 "offer_code" (spFo K) []) (cR : C8.Cal P w K mg base 4 "record_code" (spRc K) [])
    (cBO : C8.Cal P w K mg base 13 "_law_offer_of" spBack []) (cBR : C8.Cal P w K mg base 13 "_law_record_of" spBack []) : FnOk P w K mg base C8.CX0 14 f fd ["_law_script"] (spLaw K) := by
  refine F.ok sc_law (fun vs H Q E h => ?_) (fun cdv A outer s H vs Q E hr h => ?_)
  · obtain ⟨a, ns, rfl, _⟩ := h
    rfl
  · obtain ⟨a0, ns, rfl, h0, hlen, hQ⟩ := h
    refine ⟨_, PSs.nox (pss_cons (ps_set (i := 1) sc_law.nd rfl (Or.inl rfl) (pe_lst (pa_cons (pe_callTy call_list_of (by rfl) T.n_list (by decide +kernel) (pa_cons (pv 0) pa_nil)) (pa_cons pe_int (pa_cons pe_int pa_nil)))))
      (pss_cons (ps_for PassesOwn.never rfl (pi_range1 rfl T.n_range (pa_cons pe_int pa_nil)) (pg_name (i := 2) sc_law.nd rfl (Or.inl rfl))
        (pss_cons (ps_set (i := 3) sc_law.nd rfl (Or.inl rfl) (C8.pe_c cC hr (by decide) rfl (pa_cons (pv 1) (pa_cons (C8.pe_c cO hr (by decide) rfl (pa_cons (C8.pe_c cLO hr (by decide) rfl (pa_cons (pv 1) pa_nil)) pa_nil)) pa_nil))))
        (pss_cons (ps_set (i := 4) sc_law.nd rfl (Or.inl rfl) (C8.pe_c cBO hr (by decide) rfl (pa_cons (pv 3) pa_nil)))
        (pss_cons (ps_if (PW.pt (pw_and (pt_cmp (pc_notN (pv 4))) (pw_and1 (pt_cmpR (op_neD hr.units) (pv 4) (pv 3) (nomark _))))) (pss_one (ps_ret pe_bl)) pss_nil)
        (pss_cons (ps_set (i := 3) sc_law.nd rfl (Or.inl rfl) (C8.pe_c cC hr (by decide) rfl (pa_cons (pv 1) (pa_cons (C8.pe_c cR hr (by decide) rfl (pa_cons (C8.pe_c cLR hr (by decide) rfl (pa_cons (pv 1) pa_nil)) pa_nil)) pa_nil))))
        (pss_cons (ps_set (i := 4) sc_law.nd rfl (Or.inl rfl) (C8.pe_c cBR hr (by decide) rfl (pa_cons (pv 3) pa_nil)))
        (pss_one (ps_if (PW.pt (pw_and (pt_cmp (pc_notN (pv 4))) (pw_and1 (pt_cmpR (op_neD hr.units) (pv 4) (pv 3) (nomark _))))) (pss_one (ps_ret pe_bl)) pss_nil))))))))
      (pss_one (ps_ret pe_bl)))), ?_⟩
    refine ⟨_, rfl, a0, _, rfl, .inl h0, fun a ha => ⟨by show 3 ≤ sizeLine; decide, fun st hst => ?_⟩⟩
    have nas : a ≠ st := fun z => by rw [← z, upd_same] at hst; cases hst
    have r0 : StAt st a ns (upd (upd H a (.lst (ns.map V.int))) st (.lst [.ref a, .int 0, .int 0])) := ⟨⟨0, 0, Int.le_refl 0, upd_same⟩, by rw [upd_ne nas, upd_same], nas⟩
    refine ⟨4, rfl, by decide, by decide, ?_⟩
    refine for_range (lo := 0) (n := (4 : Int).toNat) (fun i σ H' => ∃ z2 z3 z4 : Option V, σ = [some (.ref a0), some (.ref st), z2, z3, z4] ∧ StAt st a ns H') ⟨none, none, none, rfl, r0⟩ ?_ ?_
    · rintro i σ H1 hi ⟨z2, z3, z4, rfl, r1⟩
      dsimp only [gName, tSeq, tAsg]
      refine half (ok := okFo) (fun x h => h) rfl r1 fun H2 t ms r2 e2 l2 => ?_
      refine back (t := t) (ms := ms) rfl e2 l2 fun H3 u s3 hu => ?_
      refine told_ok (K := K) (u := u) (q := t) (ms := ms) rfl (s3 _ _ e2) rfl hu (iteF ?_)
      have r3 := r2.same s3
      dsimp only [tNext, tSeq, tAsg]
      refine half (ok := okRc) (fun x h => Nat.le_trans h (by decide)) rfl r3 fun H4 t4 m4 r4 e4 l4 => ?_
      dsimp only [gName]
      refine back (t := t4) (ms := m4) rfl e4 l4 fun H5 u5 s5 hu5 => ?_
      exact told_ok (K := K) (u := u5) (q := t4) (ms := m4) rfl (s5 _ _ e4) rfl hu5 (iteF ⟨_, _, _, rfl, r4.same s5⟩)
    · rintro σ H1 ⟨z2, z3, z4, rfl, r1⟩
      exact hQ H1
end
end Snk
set_option maxHeartbeats 0
namespace Snk
open PySem PySem.Spec PyProof.Rows L2
theorem and2 {a b : Bool} (h : (a && b) = true) : a = true ∧ b = true := by
  cases a with
  | true => exact ⟨rfl, h⟩
  | false => exact absurd h Bool.noConfusion
theorem lackB_ok {K : PySem.W.Frag} (h : lackB K = true) : ∃ o, K.lookup (He.ga K "LACKS") = some o ∧ o.cls = .type "tuple" ∧ o.dict = none := by
  unfold lackB at h
  split at h
  · rename_i c a b e
    exact ⟨_, e, congrArg Value.type (of_decide_eq_true h), rfl⟩
  · cases h
theorem ffB_ok {K : PySem.W.Frag} (h : (match PySem.W.findCls K (.ref (He.ga K "FieldFact")) (.type "type") "__init__" with | some (.val (.ref a)) => decide (a = He.ma K (He.ga K "FieldFact") "__init__") | _ => false) = true) :
    PySem.W.findCls K (.ref (He.ga K "FieldFact")) (.type "type") "__init__" = some (.val (.ref (He.ma K (He.ga K "FieldFact") "__init__"))) := by
  split at h
  · rename_i a e
    rw [e, of_decide_eq_true h]
  · cases h
theorem insB_ok {K : PySem.W.Frag} {x : Str} (h : insB K x = true) : PySem.W.findIn K (.ref (He.ga K x)) "__class__" = some (some (.builtin "object.__class__")) ∧ PySem.W.mroIn K (He.ga K x) (.type "object") = some true := by
  obtain ⟨h1, h2⟩ := and2 h
  exact ⟨He.eqO_ok h1, of_decide_eq_true h2⟩
theorem txt_of {K : PySem.W.Frag} {h : Heap} {mg : Str → Option Value} (X : K.In h) (G : h.Ns mainGlobals mg) (cf : ∀ (i : Nat) {f : He.Fa}, faD[i]? = some f → f.ok K = true) (m : moreB K = true) : Txt K mg := by
  unfold moreB at m
  obtain ⟨m, mFF⟩ := and2 m
  obtain ⟨m, mFG⟩ := and2 m
  obtain ⟨m, mFR⟩ := and2 m
  obtain ⟨m, mT⟩ := and2 m
  obtain ⟨m, mL⟩ := and2 m
  obtain ⟨m, mTk⟩ := and2 m
  obtain ⟨m, mOc⟩ := and2 m
  obtain ⟨mI, mN⟩ := and2 m
  exact {
    g_list_code := He.glo_ok X G (cf 0 (f := .glo "list_code") rfl)
    g_numbers_code := He.glo_ok X G (cf 1 (f := .glo "numbers_code") rfl)
    g_string_code := He.glo_ok X G (cf 2 (f := .glo "string_code") rfl)
    g_value_code := He.glo_ok X G (cf 3 (f := .glo "value_code") rfl)
    g_maybe_code := He.glo_ok X G (cf 4 (f := .glo "maybe_code") rfl)
    g_pairs_code := He.glo_ok X G (cf 5 (f := .glo "pairs_code") rfl)
    g_record_code := He.glo_ok X G (cf 6 (f := .glo "record_code") rfl)
    g_fact_code := He.glo_ok X G (cf 7 (f := .glo "fact_code") rfl)
    g_region_code := He.glo_ok X G (cf 8 (f := .glo "region_code") rfl)
    g_partition_code := He.glo_ok X G (cf 9 (f := .glo "partition_code") rfl)
    g_entry_code := He.glo_ok X G (cf 10 (f := .glo "entry_code") rfl)
    g_offer_code := He.glo_ok X G (cf 11 (f := .glo "offer_code") rfl)
    g_sign_of := He.glo_ok X G (cf 12 (f := .glo "sign_of") rfl)
    g_read_record := He.glo_ok X G (cf 13 (f := .glo "read_record") rfl)
    g_read_offer := He.glo_ok X G (cf 14 (f := .glo "read_offer") rfl)
    g__law_row := He.glo_ok X G (cf 15 (f := .glo "_law_row") rfl)
    g__law_next := He.glo_ok X G (cf 16 (f := .glo "_law_next") rfl)
    g__law_string := He.glo_ok X G (cf 17 (f := .glo "_law_string") rfl)
    g__law_numbers := He.glo_ok X G (cf 18 (f := .glo "_law_numbers") rfl)
    g__law_worth := He.glo_ok X G (cf 19 (f := .glo "_law_worth") rfl)
    g__law_fact := He.glo_ok X G (cf 20 (f := .glo "_law_fact") rfl)
    g__law_record := He.glo_ok X G (cf 21 (f := .glo "_law_record") rfl)
    g__law_offer := He.glo_ok X G (cf 22 (f := .glo "_law_offer") rfl)
    g__law_changed := He.glo_ok X G (cf 23 (f := .glo "_law_changed") rfl)
    g__law_offer_of := He.glo_ok X G (cf 24 (f := .glo "_law_offer_of") rfl)
    g__law_record_of := He.glo_ok X G (cf 25 (f := .glo "_law_record_of") rfl)
    g_law := He.glo_ok X G (cf 26 (f := .glo "law") rfl)
    g_Record := He.glo_ok X G (cf 27 (f := .glo "Record") rfl)
    cl_Record := He.cls_ok (cf 28 (f := .cls "Record") rfl)
    mk_Record := He.mkr_ok (cf 29 (f := .mkr "Record") rfl)
    g_Range := He.glo_ok X G (cf 30 (f := .glo "Range") rfl)
    cl_Range := He.cls_ok (cf 31 (f := .cls "Range") rfl)
    mk_Range := He.mkr_ok (cf 32 (f := .mkr "Range") rfl)
    g_Values := He.glo_ok X G (cf 33 (f := .glo "Values") rfl)
    cl_Values := He.cls_ok (cf 34 (f := .cls "Values") rfl)
    mk_Values := He.mkr_ok (cf 35 (f := .mkr "Values") rfl)
    g_Counts := He.glo_ok X G (cf 36 (f := .glo "Counts") rfl)
    cl_Counts := He.cls_ok (cf 37 (f := .cls "Counts") rfl)
    mk_Counts := He.mkr_ok (cf 38 (f := .mkr "Counts") rfl)
    g_Names := He.glo_ok X G (cf 39 (f := .glo "Names") rfl)
    cl_Names := He.cls_ok (cf 40 (f := .cls "Names") rfl)
    mk_Names := He.mkr_ok (cf 41 (f := .mkr "Names") rfl)
    g_Part := He.glo_ok X G (cf 42 (f := .glo "Part") rfl)
    cl_Part := He.cls_ok (cf 43 (f := .cls "Part") rfl)
    mk_Part := He.mkr_ok (cf 44 (f := .mkr "Part") rfl)
    g_Parts := He.glo_ok X G (cf 45 (f := .glo "Parts") rfl)
    cl_Parts := He.cls_ok (cf 46 (f := .cls "Parts") rfl)
    mk_Parts := He.mkr_ok (cf 47 (f := .mkr "Parts") rfl)
    g_Cell := He.glo_ok X G (cf 48 (f := .glo "Cell") rfl)
    cl_Cell := He.cls_ok (cf 49 (f := .cls "Cell") rfl)
    mk_Cell := He.mkr_ok (cf 50 (f := .mkr "Cell") rfl)
    g_Box := He.glo_ok X G (cf 51 (f := .glo "Box") rfl)
    cl_Box := He.cls_ok (cf 52 (f := .cls "Box") rfl)
    mk_Box := He.mkr_ok (cf 53 (f := .mkr "Box") rfl)
    g_Norms := He.glo_ok X G (cf 54 (f := .glo "Norms") rfl)
    cl_Norms := He.cls_ok (cf 55 (f := .cls "Norms") rfl)
    mk_Norms := He.mkr_ok (cf 56 (f := .mkr "Norms") rfl)
    g_Differ := He.glo_ok X G (cf 57 (f := .glo "Differ") rfl)
    cl_Differ := He.cls_ok (cf 58 (f := .cls "Differ") rfl)
    mk_Differ := He.mkr_ok (cf 59 (f := .mkr "Differ") rfl)
    g_Region := He.glo_ok X G (cf 60 (f := .glo "Region") rfl)
    cl_Region := He.cls_ok (cf 61 (f := .cls "Region") rfl)
    mk_Region := He.mkr_ok (cf 62 (f := .mkr "Region") rfl)
    g_Entry := He.glo_ok X G (cf 63 (f := .glo "Entry") rfl)
    cl_Entry := He.cls_ok (cf 64 (f := .cls "Entry") rfl)
    mk_Entry := He.mkr_ok (cf 65 (f := .mkr "Entry") rfl)
    g_Offer := He.glo_ok X G (cf 66 (f := .glo "Offer") rfl)
    cl_Offer := He.cls_ok (cf 67 (f := .cls "Offer") rfl)
    mk_Offer := He.mkr_ok (cf 68 (f := .mkr "Offer") rfl)
    g_NumberReader := He.glo_ok X G (cf 69 (f := .glo "NumberReader") rfl)
    cl_NumberReader := He.cls_ok (cf 70 (f := .cls "NumberReader") rfl)
    mk_NumberReader := He.mkr_ok (cf 71 (f := .mkr "NumberReader") rfl)
    na_Record_name := He.noat_ok (cf 72 (f := .noat "Record" "name") rfl)
    na_Record_vector := He.noat_ok (cf 73 (f := .noat "Record" "vector") rfl)
    na_Record_fields := He.noat_ok (cf 74 (f := .noat "Record" "fields") rfl)
    na_Record_words := He.noat_ok (cf 75 (f := .noat "Record" "words") rfl)
    na_Range_field := He.noat_ok (cf 76 (f := .noat "Range" "field") rfl)
    na_Range_lack := He.noat_ok (cf 77 (f := .noat "Range" "lack") rfl)
    na_Range_low := He.noat_ok (cf 78 (f := .noat "Range" "low") rfl)
    na_Range_high := He.noat_ok (cf 79 (f := .noat "Range" "high") rfl)
    na_Values_field := He.noat_ok (cf 80 (f := .noat "Values" "field") rfl)
    na_Values_lack := He.noat_ok (cf 81 (f := .noat "Values" "lack") rfl)
    na_Values_choices := He.noat_ok (cf 82 (f := .noat "Values" "choices") rfl)
    na_Counts_words := He.noat_ok (cf 83 (f := .noat "Counts" "words") rfl)
    na_Names_low := He.noat_ok (cf 84 (f := .noat "Names" "low") rfl)
    na_Names_high := He.noat_ok (cf 85 (f := .noat "Names" "high") rfl)
    na_Part_start := He.noat_ok (cf 86 (f := .noat "Part" "start") rfl)
    na_Part_centre := He.noat_ok (cf 87 (f := .noat "Part" "centre") rfl)
    na_Part_radius := He.noat_ok (cf 88 (f := .noat "Part" "radius") rfl)
    na_Parts_parts := He.noat_ok (cf 89 (f := .noat "Parts" "parts") rfl)
    na_Cell_near := He.noat_ok (cf 90 (f := .noat "Cell" "near") rfl)
    na_Cell_rival := He.noat_ok (cf 91 (f := .noat "Cell" "rival") rfl)
    na_Box_low := He.noat_ok (cf 92 (f := .noat "Box" "low") rfl)
    na_Box_high := He.noat_ok (cf 93 (f := .noat "Box" "high") rfl)
    na_Norms_low := He.noat_ok (cf 94 (f := .noat "Norms" "low") rfl)
    na_Norms_high := He.noat_ok (cf 95 (f := .noat "Norms" "high") rfl)
    na_Differ_centre := He.noat_ok (cf 96 (f := .noat "Differ" "centre") rfl)
    na_Differ_most := He.noat_ok (cf 97 (f := .noat "Differ" "most") rfl)
    na_Region_parent := He.noat_ok (cf 98 (f := .noat "Region" "parent") rfl)
    na_Region_facts := He.noat_ok (cf 99 (f := .noat "Region" "facts") rfl)
    na_Entry_number := He.noat_ok (cf 100 (f := .noat "Entry" "number") rfl)
    na_Entry_record := He.noat_ok (cf 101 (f := .noat "Entry" "record") rfl)
    na_Entry_leaves := He.noat_ok (cf 102 (f := .noat "Entry" "leaves") rfl)
    na_Offer_partitions := He.noat_ok (cf 103 (f := .noat "Offer" "partitions") rfl)
    na_Offer_entries := He.noat_ok (cf 104 (f := .noat "Offer" "entries") rfl)
    na_NumberReader_row := He.noat_ok (cf 105 (f := .noat "NumberReader" "row") rfl)
    na_NumberReader_at := He.noat_ok (cf 106 (f := .noat "NumberReader" "at") rfl)
    m_take := He.meth_ok (cf 107 (f := .meth "NumberReader" "take") rfl)
    m_size := He.meth_ok (cf 108 (f := .meth "NumberReader" "size") rfl)
    m_choice := He.meth_ok (cf 109 (f := .meth "NumberReader" "choice") rfl)
    m_present := He.meth_ok (cf 110 (f := .meth "NumberReader" "present") rfl)
    m_integers := He.meth_ok (cf 111 (f := .meth "NumberReader" "integers") rfl)
    m_short := He.meth_ok (cf 112 (f := .meth "NumberReader" "short") rfl)
    m_string := He.meth_ok (cf 113 (f := .meth "NumberReader" "string") rfl)
    m_value := He.meth_ok (cf 114 (f := .meth "NumberReader" "value") rfl)
    m_pairs := He.meth_ok (cf 115 (f := .meth "NumberReader" "pairs") rfl)
    m_record := He.meth_ok (cf 116 (f := .meth "NumberReader" "record") rfl)
    m_part := He.meth_ok (cf 117 (f := .meth "NumberReader" "part") rfl)
    m_field_fact := He.meth_ok (cf 118 (f := .meth "NumberReader" "field_fact") rfl)
    m_fact := He.meth_ok (cf 119 (f := .meth "NumberReader" "fact") rfl)
    m_region := He.meth_ok (cf 120 (f := .meth "NumberReader" "region") rfl)
    m_partition := He.meth_ok (cf 121 (f := .meth "NumberReader" "partition") rfl)
    m_entry := He.meth_ok (cf 122 (f := .meth "NumberReader" "entry") rfl)
    m_offer := He.meth_ok (cf 123 (f := .meth "NumberReader" "offer") rfl)
    m_finish := He.meth_ok (cf 124 (f := .meth "NumberReader" "finish") rfl)
    g_FieldFact := He.glo_ok X G (cf 125 (f := .glo "FieldFact") rfl)
    g_InvalidCode := He.glo_ok X G (cf 126 (f := .glo "InvalidCode") rfl)
    g_SurenearError := He.glo_ok X G (cf 127 (f := .glo "SurenearError") rfl)
    exc := He.exc_ok (cf 128 (f := .exc "InvalidCode") rfl)
    exm := He.exm_ok (cf 129 (f := .exm "InvalidCode" "InvalidCode" true) rfl)
    kp_FieldFact := He.keep_ok (cf 130 (f := .keep "FieldFact") rfl)
    n_len := He.free_ok X G (cf 131 (f := .free "len") rfl)
    n_isinstance := He.free_ok X G (cf 132 (f := .free "isinstance") rfl)
    n_ord := He.free_ok X G (cf 133 (f := .free "ord") rfl)
    n_range := He.free_ok X G (cf 134 (f := .free "range") rfl)
    n_tuple := He.free_ok X G (cf 135 (f := .free "tuple") rfl)
    n_list := He.free_ok X G (cf 136 (f := .free "list") rfl)
    n_int := He.free_ok X G (cf 137 (f := .free "int") rfl)
    n_bool := He.free_ok X G (cf 138 (f := .free "bool") rfl)
    n_str := He.free_ok X G (cf 139 (f := .free "str") rfl)
    g_LACKS := He.glo_ok X G (cf 140 (f := .glo "LACKS") rfl)
    signs := He.str_ok X G (cf 141 (f := .str "SIGNS" signs) rfl)
    lacks := fun H => He.tupB_ok mT H
    lackT := lackB_ok mL
    isi := fun q hq => of_decide_eq_true (List.all_eq_true.mp mI q hq)
    ins := fun x hx => insB_ok (List.all_eq_true.mp mN x hx)
    ocg := He.eqO_ok mOc
    oct := of_decide_eq_true mTk
    ffr := mFR
    ffg := He.eqO_ok mFG
    fff := ffB_ok mFF }
abbrev Says (K : PySem.W.Frag) : Prop := ((faD.all fun f => f.ok K) && (fnD.all fun d => d.ok K) && moreB K, fnD.map fun d => He.fnW K d.at_) = (true, fnD.map He.DefD.val)
theorem says_two {K : PySem.W.Frag} (c : Says K) : He.SaysD faD fnD K ∧ moreB K = true := by
  have c1 : ((faD.all fun f => f.ok K) && (fnD.all fun d => d.ok K) && moreB K) = true := congrArg (fun z : Bool × List He.FnW => z.1) c
  have c2 : (fnD.map fun d => He.fnW K d.at_) = fnD.map He.DefD.val := congrArg (fun z : Bool × List He.FnW => z.2) c
  obtain ⟨c3, m⟩ := and2 c1
  refine ⟨?_, m⟩
  show ((faD.all fun f => f.ok K) && (fnD.all fun d => d.ok K), fnD.map fun d => He.fnW K d.at_) = (true, fnD.map He.DefD.val)
  rw [c3, c2]
section
variable {P : Program} {w : World} {K : PySem.W.Frag} {h : Heap} {mg : Str → Option Value} {base : Heap}
/-- how a name stands for its class -/
theorem law_ok {f : Addr} {fd : FuncData} (T : Txt K mg) (c : He.SaysD faD fnD K) (F_law : FnP K "law" "law" s_law f fd) : FnOk P w K mg base C8.CX0 14 f fd ["_law_script"] (spLaw K) := by
  obtain ⟨_, F_Record_init⟩ := c.def_ 0 (d := d_Record_init) rfl
  obtain ⟨_, F_FieldFact_init⟩ := c.def_ 1 (d := d_FieldFact_init) rfl
  obtain ⟨_, F_Range_init⟩ := c.def_ 2 (d := d_Range_init) rfl
  obtain ⟨_, F_Values_init⟩ := c.def_ 3 (d := d_Values_init) rfl
  obtain ⟨_, F_Counts_init⟩ := c.def_ 4 (d := d_Counts_init) rfl
  obtain ⟨_, F_Names_init⟩ := c.def_ 5 (d := d_Names_init) rfl
  obtain ⟨_, F_Part_init⟩ := c.def_ 6 (d := d_Part_init) rfl
  obtain ⟨_, F_Parts_init⟩ := c.def_ 7 (d := d_Parts_init) rfl
  obtain ⟨_, F_Cell_init⟩ := c.def_ 8 (d := d_Cell_init) rfl
  obtain ⟨_, F_Box_init⟩ := c.def_ 9 (d := d_Box_init) rfl
  obtain ⟨_, F_Norms_init⟩ := c.def_ 10 (d := d_Norms_init) rfl
  obtain ⟨_, F_Differ_init⟩ := c.def_ 11 (d := d_Differ_init) rfl
  obtain ⟨_, F_list_code⟩ := c.def_ 12 (d := d_list_code) rfl
  obtain ⟨_, F_numbers_code⟩ := c.def_ 13 (d := d_numbers_code) rfl
  obtain ⟨_, F_string_code⟩ := c.def_ 14 (d := d_string_code) rfl
  obtain ⟨_, F_value_code⟩ := c.def_ 15 (d := d_value_code) rfl
  obtain ⟨_, F_maybe_code⟩ := c.def_ 16 (d := d_maybe_code) rfl
  obtain ⟨_, F_pairs_code⟩ := c.def_ 17 (d := d_pairs_code) rfl
  obtain ⟨_, F_record_code⟩ := c.def_ 18 (d := d_record_code) rfl
  obtain ⟨_, F_fact_code⟩ := c.def_ 19 (d := d_fact_code) rfl
  obtain ⟨_, F_region_code⟩ := c.def_ 20 (d := d_region_code) rfl
  obtain ⟨_, F_partition_code⟩ := c.def_ 21 (d := d_partition_code) rfl
  obtain ⟨_, F_entry_code⟩ := c.def_ 22 (d := d_entry_code) rfl
  obtain ⟨_, F_offer_code⟩ := c.def_ 23 (d := d_offer_code) rfl
  obtain ⟨_, F_Region_init⟩ := c.def_ 24 (d := d_Region_init) rfl
  obtain ⟨_, F_Entry_init⟩ := c.def_ 25 (d := d_Entry_init) rfl
  obtain ⟨_, F_Offer_init⟩ := c.def_ 26 (d := d_Offer_init) rfl
  obtain ⟨_, F_sign_of⟩ := c.def_ 27 (d := d_sign_of) rfl
  obtain ⟨_, F_NumberReader_init⟩ := c.def_ 28 (d := d_NumberReader_init) rfl
  obtain ⟨_, F_NumberReader_take⟩ := c.def_ 29 (d := d_NumberReader_take) rfl
  obtain ⟨_, F_NumberReader_size⟩ := c.def_ 30 (d := d_NumberReader_size) rfl
  obtain ⟨_, F_NumberReader_choice⟩ := c.def_ 31 (d := d_NumberReader_choice) rfl
  obtain ⟨_, F_NumberReader_present⟩ := c.def_ 32 (d := d_NumberReader_present) rfl
  obtain ⟨_, F_NumberReader_integers⟩ := c.def_ 33 (d := d_NumberReader_integers) rfl
  obtain ⟨_, F_NumberReader_short⟩ := c.def_ 34 (d := d_NumberReader_short) rfl
  obtain ⟨_, F_NumberReader_string⟩ := c.def_ 35 (d := d_NumberReader_string) rfl
  obtain ⟨_, F_NumberReader_value⟩ := c.def_ 36 (d := d_NumberReader_value) rfl
  obtain ⟨_, F_NumberReader_pairs⟩ := c.def_ 37 (d := d_NumberReader_pairs) rfl
  obtain ⟨_, F_NumberReader_record⟩ := c.def_ 38 (d := d_NumberReader_record) rfl
  obtain ⟨_, F_NumberReader_part⟩ := c.def_ 39 (d := d_NumberReader_part) rfl
  obtain ⟨_, F_NumberReader_field_fact⟩ := c.def_ 40 (d := d_NumberReader_field_fact) rfl
  obtain ⟨_, F_NumberReader_fact⟩ := c.def_ 41 (d := d_NumberReader_fact) rfl
  obtain ⟨_, F_NumberReader_region⟩ := c.def_ 42 (d := d_NumberReader_region) rfl
  obtain ⟨_, F_NumberReader_partition⟩ := c.def_ 43 (d := d_NumberReader_partition) rfl
  obtain ⟨_, F_NumberReader_entry⟩ := c.def_ 44 (d := d_NumberReader_entry) rfl
  obtain ⟨_, F_NumberReader_offer⟩ := c.def_ 45 (d := d_NumberReader_offer) rfl
  obtain ⟨_, F_NumberReader_finish⟩ := c.def_ 46 (d := d_NumberReader_finish) rfl
  obtain ⟨_, F_read_record⟩ := c.def_ 47 (d := d_read_record) rfl
  obtain ⟨_, F_read_offer⟩ := c.def_ 48 (d := d_read_offer) rfl
  obtain ⟨_, F_law_row⟩ := c.def_ 49 (d := d_law_row) rfl
  obtain ⟨_, F_law_next⟩ := c.def_ 50 (d := d_law_next) rfl
  obtain ⟨_, F_law_string⟩ := c.def_ 51 (d := d_law_string) rfl
  obtain ⟨_, F_law_numbers⟩ := c.def_ 52 (d := d_law_numbers) rfl
  obtain ⟨_, F_law_worth⟩ := c.def_ 53 (d := d_law_worth) rfl
  obtain ⟨_, F_law_fact⟩ := c.def_ 54 (d := d_law_fact) rfl
  obtain ⟨_, F_law_record⟩ := c.def_ 55 (d := d_law_record) rfl
  obtain ⟨_, F_law_offer⟩ := c.def_ 56 (d := d_law_offer) rfl
  obtain ⟨_, F_law_changed⟩ := c.def_ 57 (d := d_law_changed) rfl
  obtain ⟨_, F_law_offer_of⟩ := c.def_ 58 (d := d_law_offer_of) rfl
  obtain ⟨_, F_law_record_of⟩ := c.def_ 59 (d := d_law_record_of) rfl
  have FF : FFok P w K mg base := ⟨⟨_, _, ok_FF F_FieldFact_init T, T.fff, F_FieldFact_init.kp, (F_FieldFact_init.bindsN fun _ _ _ _ _ _ us hl => match us, hl with | [_, _, _], _ => rfl)⟩⟩
  have k_Cell : C8.Mak P w K mg base 1 "Cell" (He.ga K "Cell") (spMkCell K) [] := ⟨⟨_, _, _, _, T.mk_Cell, ok_Cell F_Cell_init T, T.g_Cell, (F_Cell_init.bindsN fun _ _ _ _ _ _ us hl => match us, hl with | [_, _, _], _ => rfl), .nil⟩⟩
  have k_Box : C8.Mak P w K mg base 1 "Box" (He.ga K "Box") (spMkBox K) [] := ⟨⟨_, _, _, _, T.mk_Box, ok_Box F_Box_init T, T.g_Box, (F_Box_init.bindsN fun _ _ _ _ _ _ us hl => match us, hl with | [_, _, _], _ => rfl), .nil⟩⟩
  have k_Norms : C8.Mak P w K mg base 1 "Norms" (He.ga K "Norms") (spMkNorms K) [] := ⟨⟨_, _, _, _, T.mk_Norms, ok_Norms F_Norms_init T, T.g_Norms, (F_Norms_init.bindsN fun _ _ _ _ _ _ us hl => match us, hl with | [_, _, _], _ => rfl), .nil⟩⟩
  have k_Names : C8.Mak P w K mg base 1 "Names" (He.ga K "Names") (spMkNames K) [] := ⟨⟨_, _, _, _, T.mk_Names, ok_Names F_Names_init T, T.g_Names, (F_Names_init.bindsN fun _ _ _ _ _ _ us hl => match us, hl with | [_, _, _], _ => rfl), .nil⟩⟩
  have k_Differ : C8.Mak P w K mg base 1 "Differ" (He.ga K "Differ") (spMkDiffer K) [] := ⟨⟨_, _, _, _, T.mk_Differ, ok_Differ F_Differ_init T, T.g_Differ, (F_Differ_init.bindsN fun _ _ _ _ _ _ us hl => match us, hl with | [_, _, _], _ => rfl), .nil⟩⟩
  have k_Part : C8.Mak P w K mg base 1 "Part" (He.ga K "Part") (spMkPart K) [] := ⟨⟨_, _, _, _, T.mk_Part, ok_Part F_Part_init T, T.g_Part, (F_Part_init.bindsN fun _ _ _ _ _ _ us hl => match us, hl with | [_, _, _, _], _ => rfl), .nil⟩⟩
  have k_Parts : C8.Mak P w K mg base 1 "Parts" (He.ga K "Parts") (spMkParts K) [] := ⟨⟨_, _, _, _, T.mk_Parts, ok_Parts F_Parts_init T, T.g_Parts, (F_Parts_init.bindsN fun _ _ _ _ _ _ us hl => match us, hl with | [_, _], _ => rfl), .nil⟩⟩
  have k_Region : C8.Mak P w K mg base 1 "Region" (He.ga K "Region") (spMkRegion K) [] := ⟨⟨_, _, _, _, T.mk_Region, ok_Region F_Region_init T, T.g_Region, (F_Region_init.bindsN fun _ _ _ _ _ _ us hl => match us, hl with | [_, _, _], _ => rfl), .nil⟩⟩
  have k_Entry : C8.Mak P w K mg base 1 "Entry" (He.ga K "Entry") (spMkEntry K) [] := ⟨⟨_, _, _, _, T.mk_Entry, ok_Entry F_Entry_init T, T.g_Entry, (F_Entry_init.bindsN fun _ _ _ _ _ _ us hl => match us, hl with | [_, _, _, _], _ => rfl), .nil⟩⟩
  have k_Counts : C8.Mak P w K mg base 1 "Counts" (He.ga K "Counts") (spMkCounts K) [] := ⟨⟨_, _, _, _, T.mk_Counts, ok_Counts F_Counts_init T, T.g_Counts, (F_Counts_init.bindsN fun _ _ _ _ _ _ us hl => match us, hl with | [_, _], _ => rfl), .nil⟩⟩
  have k_Offer : C8.Mak P w K mg base 1 "Offer" (He.ga K "Offer") (spMkOffer K) [] := ⟨⟨_, _, _, _, T.mk_Offer, ok_Offer F_Offer_init T, T.g_Offer, (F_Offer_init.bindsN fun _ _ _ _ _ _ us hl => match us, hl with | [_, _, _], _ => rfl), .nil⟩⟩
  have k_NumberReader : C8.Mak P w K mg base 1 "NumberReader" (He.ga K "NumberReader") (spMkReader K) [] := ⟨⟨_, _, _, _, T.mk_NumberReader, ok_rinit F_NumberReader_init T, T.g_NumberReader, (F_NumberReader_init.bindsN fun _ _ _ _ _ _ us hl => match us, hl with | [_, _], _ => rfl), .nil⟩⟩
  have M : FcMk P w K mg base := ⟨k_Parts, k_Cell, k_Box, k_Norms, k_Names, k_Differ, k_Counts⟩
  have k_Record : MakK P w K mg base 1 "Record" (He.ga K "Record") (spMkRecord K) 2 ["fields", "words"] := by
    obtain ⟨mv, kb⟩ := FunD.kbinds0 F_Record_init (ps := P_Record) 3 ["fields", "words"] [] (fun vs _ zs => vs ++ zs) (by exact List.cons_ne_nil _ _) (fun q hq => nomatch hq) (fun r1 _ r2 => r1.append r2) (fun D doc pm an cdv ct us mv ws h1 h2 h3 => match us, h1, mv, h2, ws, h3 with | [_, _, _], _, [], _, [_, _], _ => rfl)
    exact ⟨⟨_, _, _, _, T.mk_Record, ok_Record F_Record_init T, T.g_Record, kb⟩⟩
  have k_Range : MakK P w K mg base 2 "Range" (He.ga K "Range") (spMkRange K) 3 ["lack"] := by
    obtain ⟨mv, kb⟩ := FunD.kbinds0 F_Range_init (ps := N_Range) 4 ["lack"] [] (fun vs _ zs => vs ++ zs) (by exact List.cons_ne_nil _ _) (fun q hq => nomatch hq) (fun r1 _ r2 => r1.append r2) (fun D doc pm an cdv ct us mv ws h1 h2 h3 => match us, h1, mv, h2, ws, h3 with | [_, _, _, _], _, [], _, [_], _ => rfl)
    exact ⟨⟨_, _, _, _, T.mk_Range, ok_Range F_Range_init T FF, T.g_Range, kb⟩⟩
  have k_Values : MakK P w K mg base 2 "Values" (He.ga K "Values") (spMkValues K) 2 ["lack"] := by
    obtain ⟨mv, kb⟩ := FunD.kbinds0 F_Values_init (ps := N_Values) 3 ["lack"] [] (fun vs _ zs => vs ++ zs) (by exact List.cons_ne_nil _ _) (fun q hq => nomatch hq) (fun r1 _ r2 => r1.append r2) (fun D doc pm an cdv ct us mv ws h1 h2 h3 => match us, h1, mv, h2, ws, h3 with | [_, _, _], _, [], _, [_], _ => rfl)
    exact ⟨⟨_, _, _, _, T.mk_Values, ok_Values F_Values_init T FF, T.g_Values, kb⟩⟩
  have cL : C8.Cal P w K mg base 1 "list_code" (spLists) [] := ⟨⟨_, _, _, _, ok_list_code F_list_code T, T.g_list_code, F_list_code.kp, (F_list_code.bindsN fun _ _ _ _ _ _ us hl => match us, hl with | [_], _ => rfl), .nil⟩⟩
  have cN : C8.Cal P w K mg base 1 "numbers_code" (spNums) [] := ⟨⟨_, _, _, _, ok_numbers_code F_numbers_code T, T.g_numbers_code, F_numbers_code.kp, (F_numbers_code.bindsN fun _ _ _ _ _ _ us hl => match us, hl with | [_], _ => rfl), .nil⟩⟩
  have cS : C8.Cal P w K mg base 2 "string_code" (spStr) [] := ⟨⟨_, _, _, _, ok_string_code F_string_code T cN, T.g_string_code, F_string_code.kp, (F_string_code.bindsN fun _ _ _ _ _ _ us hl => match us, hl with | [_], _ => rfl), .nil⟩⟩
  have cV : C8.Cal P w K mg base 3 "value_code" (spVal) [] := ⟨⟨_, _, _, _, ok_value_code F_value_code T cS, T.g_value_code, F_value_code.kp, (F_value_code.bindsN fun _ _ _ _ _ _ us hl => match us, hl with | [_], _ => rfl), .nil⟩⟩
  have cM : C8.Cal P w K mg base 1 "maybe_code" (spMb) [] := ⟨⟨_, _, _, _, ok_maybe_code F_maybe_code T, T.g_maybe_code, F_maybe_code.kp, (F_maybe_code.bindsN fun _ _ _ _ _ _ us hl => match us, hl with | [_], _ => rfl), .nil⟩⟩
  have cP : C8.Cal P w K mg base 3 "pairs_code" (spPairs) [] := ⟨⟨_, _, _, _, ok_pairs_code F_pairs_code T cL cS, T.g_pairs_code, F_pairs_code.kp, (F_pairs_code.bindsN fun _ _ _ _ _ _ us hl => match us, hl with | [_], _ => rfl), .nil⟩⟩
  have wRc : C8.Cal P w K mg base 4 "record_code" (spRc K) [] := ⟨⟨_, _, _, _, ok_record_code F_record_code T cL cN cS cV cP, T.g_record_code, F_record_code.kp, (F_record_code.bindsN fun _ _ _ _ _ _ us hl => match us, hl with | [_], _ => rfl), .nil⟩⟩
  have cFc : C8.Cal P w K mg base 4 "fact_code" (spFc K) [] := ⟨⟨_, _, _, _, ok_fact_code F_fact_code T cL cN cS cV cP, T.g_fact_code, F_fact_code.kp, (F_fact_code.bindsN fun _ _ _ _ _ _ us hl => match us, hl with | [_], _ => rfl), .nil⟩⟩
  have cRg : C8.Cal P w K mg base 5 "region_code" (spRg K) [] := ⟨⟨_, _, _, _, ok_region_code F_region_code T cL cM cFc, T.g_region_code, F_region_code.kp, (F_region_code.bindsN fun _ _ _ _ _ _ us hl => match us, hl with | [_], _ => rfl), .nil⟩⟩
  have cPn : C8.Cal P w K mg base 6 "partition_code" (spPn K) [] := ⟨⟨_, _, _, _, ok_partition_code F_partition_code T cL cRg, T.g_partition_code, F_partition_code.kp, (F_partition_code.bindsN fun _ _ _ _ _ _ us hl => match us, hl with | [_], _ => rfl), .nil⟩⟩
  have cEn : C8.Cal P w K mg base 5 "entry_code" (spEn K) [] := ⟨⟨_, _, _, _, ok_entry_code F_entry_code T cN wRc, T.g_entry_code, F_entry_code.kp, (F_entry_code.bindsN fun _ _ _ _ _ _ us hl => match us, hl with | [_], _ => rfl), .nil⟩⟩
  have wFo : C8.Cal P w K mg base 7 "offer_code" (spFo K) [] := ⟨⟨_, _, _, _, ok_offer_code F_offer_code T cL cPn cEn, T.g_offer_code, F_offer_code.kp, (F_offer_code.bindsN fun _ _ _ _ _ _ us hl => match us, hl with | [_], _ => rfl), .nil⟩⟩
  have mT : MetX P w K mg base 1 "take" N_self (spTake K) := ⟨⟨_, _, T.m_take, ok_take F_NumberReader_take T, (F_NumberReader_take.bindsN fun _ _ _ _ _ _ us hl => match us, hl with | [_], _ => rfl)⟩⟩
  have mZ : MetX P w K mg base 2 "size" N_self (spSize K) := ⟨⟨_, _, T.m_size, ok_size F_NumberReader_size T mT, (F_NumberReader_size.bindsN fun _ _ _ _ _ _ us hl => match us, hl with | [_], _ => rfl)⟩⟩
  have mC : MetX P w K mg base 2 "choice" ["self", "many"] (spChoice K) := ⟨⟨_, _, T.m_choice, ok_choice F_NumberReader_choice T mT, (F_NumberReader_choice.bindsN fun _ _ _ _ _ _ us hl => match us, hl with | [_, _], _ => rfl)⟩⟩
  have mP : MetX P w K mg base 3 "present" N_self (spPresent K) := ⟨⟨_, _, T.m_present, ok_present F_NumberReader_present T mC, (F_NumberReader_present.bindsN fun _ _ _ _ _ _ us hl => match us, hl with | [_], _ => rfl)⟩⟩
  have mH : MetX P w K mg base 3 "short" N_self (spShort K) := ⟨⟨_, _, T.m_short, ok_short F_NumberReader_short T mZ, (F_NumberReader_short.bindsN fun _ _ _ _ _ _ us hl => match us, hl with | [_], _ => rfl)⟩⟩
  have xS : CalX P w K mg base 1 "sign_of" (spSign K) := ⟨⟨_, _, _, ok_sign_of F_sign_of T, T.g_sign_of, F_sign_of.kp, (F_sign_of.bindsN fun _ _ _ _ _ _ us hl => match us, hl with | [_], _ => rfl)⟩⟩
  have mI : MetX P w K mg base 4 "integers" N_self (spInts K) := ⟨⟨_, _, T.m_integers, ok_integers F_NumberReader_integers T mT mH, (F_NumberReader_integers.bindsN fun _ _ _ _ _ _ us hl => match us, hl with | [_], _ => rfl)⟩⟩
  have mS : MetX P w K mg base 5 "string" N_self (spString K) := ⟨⟨_, _, T.m_string, ok_string F_NumberReader_string T mI xS, (F_NumberReader_string.bindsN fun _ _ _ _ _ _ us hl => match us, hl with | [_], _ => rfl)⟩⟩
  have mV : MetX P w K mg base 6 "value" N_self (spValue K) := ⟨⟨_, _, T.m_value, ok_value F_NumberReader_value T mT mC mP mS, (F_NumberReader_value.bindsN fun _ _ _ _ _ _ us hl => match us, hl with | [_], _ => rfl)⟩⟩
  have mPr : MetX P w K mg base 6 "pairs" N_self (spPairsR K) := ⟨⟨_, _, T.m_pairs, ok_pairs F_NumberReader_pairs T mT mH mS, (F_NumberReader_pairs.bindsN fun _ _ _ _ _ _ us hl => match us, hl with | [_], _ => rfl)⟩⟩
  have mRc : MetX P w K mg base 7 "record" N_self (spRecord K) := ⟨⟨_, _, T.m_record, ok_record F_NumberReader_record T mH mI mS mV mPr k_Record, (F_NumberReader_record.bindsN fun _ _ _ _ _ _ us hl => match us, hl with | [_], _ => rfl)⟩⟩
  have mPt : MetX P w K mg base 5 "part" N_self (spPartR K) := ⟨⟨_, _, T.m_part, ok_part F_NumberReader_part T mT mI k_Part, (F_NumberReader_part.bindsN fun _ _ _ _ _ _ us hl => match us, hl with | [_], _ => rfl)⟩⟩
  have mF : MetX P w K mg base 7 "field_fact" ["self", "kind"] (spFF2 K) := ⟨⟨_, _, T.m_field_fact, ok_field_fact F_NumberReader_field_fact T mT mC mH mS mV k_Range k_Values, (F_NumberReader_field_fact.bindsN fun _ _ _ _ _ _ us hl => match us, hl with | [_, _], _ => rfl)⟩⟩
  have mFc : MetX P w K mg base 8 "fact" N_self (spFact K) := ⟨⟨_, _, T.m_fact, ok_fact F_NumberReader_fact T mT mC mH mI mS mPt mPr mF M, (F_NumberReader_fact.bindsN fun _ _ _ _ _ _ us hl => match us, hl with | [_], _ => rfl)⟩⟩
  have mRg : MetX P w K mg base 9 "region" N_self (spRegion K) := ⟨⟨_, _, T.m_region, ok_region F_NumberReader_region T mT mH mP mFc k_Region, (F_NumberReader_region.bindsN fun _ _ _ _ _ _ us hl => match us, hl with | [_], _ => rfl)⟩⟩
  have mPn : MetX P w K mg base 10 "partition" N_self (spPartition K) := ⟨⟨_, _, T.m_partition, ok_partition F_NumberReader_partition T mH mRg, (F_NumberReader_partition.bindsN fun _ _ _ _ _ _ us hl => match us, hl with | [_], _ => rfl)⟩⟩
  have mEn : MetX P w K mg base 8 "entry" N_self (spEntry K) := ⟨⟨_, _, T.m_entry, ok_entry F_NumberReader_entry T mT mI mRc k_Entry, (F_NumberReader_entry.bindsN fun _ _ _ _ _ _ us hl => match us, hl with | [_], _ => rfl)⟩⟩
  have mFo : MetX P w K mg base 11 "offer" N_self (spOffer K) := ⟨⟨_, _, T.m_offer, ok_offer F_NumberReader_offer T mH mPn mEn k_Offer, (F_NumberReader_offer.bindsN fun _ _ _ _ _ _ us hl => match us, hl with | [_], _ => rfl)⟩⟩
  have mFi : MetX P w K mg base 1 "finish" N_self (spFinish K) := ⟨⟨_, _, T.m_finish, ok_finish F_NumberReader_finish T, (F_NumberReader_finish.bindsN fun _ _ _ _ _ _ us hl => match us, hl with | [_], _ => rfl)⟩⟩
  have xRc : CalX P w K mg base 12 "read_record" (spRead K cRc (RcAt (csOf K))) := ⟨⟨_, _, _, ok_read_record F_read_record T mRc mFi k_NumberReader, T.g_read_record, F_read_record.kp, (F_read_record.bindsN fun _ _ _ _ _ _ us hl => match us, hl with | [_], _ => rfl)⟩⟩
  have xFo : CalX P w K mg base 12 "read_offer" (spRead K cFo (FoAt (csOf K))) := ⟨⟨_, _, _, ok_read_offer F_read_offer T mFo mFi k_NumberReader, T.g_read_offer, F_read_offer.kp, (F_read_offer.bindsN fun _ _ _ _ _ _ us hl => match us, hl with | [_], _ => rfl)⟩⟩
  have lR : C8.Cal P w K mg base 1 "_law_row" (spRow) [] := ⟨⟨_, _, _, _, ok_row F_law_row T, T.g__law_row, F_law_row.kp, (F_law_row.bindsN fun _ _ _ _ _ _ us hl => match us, hl with | [_, _], _ => rfl), .nil⟩⟩
  have lX : C8.Cal P w K mg base 2 "_law_next" (spNext) [] := ⟨⟨_, _, _, _, ok_next F_law_next T lR, T.g__law_next, F_law_next.kp, (F_law_next.bindsN fun _ _ _ _ _ _ us hl => match us, hl with | [_, _], _ => rfl), .nil⟩⟩
  have lS : C8.Cal P w K mg base 3 "_law_string" (spS) [] := ⟨⟨_, _, _, _, ok_lstring F_law_string T lX, T.g__law_string, F_law_string.kp, (F_law_string.bindsN fun _ _ _ _ _ _ us hl => match us, hl with | [_], _ => rfl), .nil⟩⟩
  have lN : C8.Cal P w K mg base 3 "_law_numbers" (spN) [] := ⟨⟨_, _, _, _, ok_lnumbers F_law_numbers T lX, T.g__law_numbers, F_law_numbers.kp, (F_law_numbers.bindsN fun _ _ _ _ _ _ us hl => match us, hl with | [_], _ => rfl), .nil⟩⟩
  have lW : C8.Cal P w K mg base 4 "_law_worth" (spWo) [] := ⟨⟨_, _, _, _, ok_lworth F_law_worth T lX lS, T.g__law_worth, F_law_worth.kp, (F_law_worth.bindsN fun _ _ _ _ _ _ us hl => match us, hl with | [_], _ => rfl), .nil⟩⟩
  have lF : C8.Cal P w K mg base 5 "_law_fact" (spLFact K) [] := ⟨⟨_, _, _, _, ok_lfact F_law_fact T lX lS lN lW M k_Part k_Range k_Values, T.g__law_fact, F_law_fact.kp, (F_law_fact.bindsN fun _ _ _ _ _ _ us hl => match us, hl with | [_], _ => rfl), .nil⟩⟩
  have lRc : C8.Cal P w K mg base 5 "_law_record" (spLRecord K) [] := ⟨⟨_, _, _, _, ok_lrecord F_law_record T lX lS lN lW k_Record, T.g__law_record, F_law_record.kp, (F_law_record.bindsN fun _ _ _ _ _ _ us hl => match us, hl with | [_], _ => rfl), .nil⟩⟩
  have lFo : C8.Cal P w K mg base 6 "_law_offer" (spLOffer K) [] := ⟨⟨_, _, _, _, ok_loffer F_law_offer T lX lN lF lRc k_Region k_Entry k_Offer, T.g__law_offer, F_law_offer.kp, (F_law_offer.bindsN fun _ _ _ _ _ _ us hl => match us, hl with | [_], _ => rfl), .nil⟩⟩
  have lC : C8.Cal P w K mg base 3 "_law_changed" (spChanged) [] := ⟨⟨_, _, _, _, ok_lchanged F_law_changed T lX, T.g__law_changed, F_law_changed.kp, (F_law_changed.bindsN fun _ _ _ _ _ _ us hl => match us, hl with | [_, _], _ => rfl), .nil⟩⟩
  have lBF : C8.Cal P w K mg base 13 "_law_offer_of" (spBack) [] := ⟨⟨_, _, _, _, ok_loffer_of F_law_offer_of T wFo xFo, T.g__law_offer_of, F_law_offer_of.kp, (F_law_offer_of.bindsN fun _ _ _ _ _ _ us hl => match us, hl with | [_], _ => rfl), .nil⟩⟩
  have lBR : C8.Cal P w K mg base 13 "_law_record_of" (spBack) [] := ⟨⟨_, _, _, _, ok_lrecord_of F_law_record_of T wRc xRc, T.g__law_record_of, F_law_record_of.kp, (F_law_record_of.bindsN fun _ _ _ _ _ _ us hl => match us, hl with | [_], _ => rfl), .nil⟩⟩
  exact ok_law F_law T lC lFo lRc wFo wRc lBF lBR
theorem facts {f : Addr} (X : K.In h) (G : h.Ns mainGlobals mg) (hfa : mg ("law" : Str) = some (.ref f)) (c : Says K) :
    ∃ fd : FuncData, (∀ (s : Shared) (v : Value), BindsTo s fd ⟨[v], []⟩ [("_law_script", v)]) ∧ ∀ base : Heap, K.In base → base.Ns mainGlobals mg → FnOk P w K mg base C8.CX0 14 f fd ["_law_script"] (spLaw K) := by
  obtain ⟨c, m⟩ := says_two c
  have T : Txt K mg := txt_of X G (fun i _ e => c.fact i e) m
  obtain ⟨fd, F⟩ := c.def_ 60 (d := d_law) rfl
  have e := hfa.symm.trans T.g_law
  cases e
  have b := FunD.bindsA (ps := ["_law_script"]) F fun _ _ _ _ _ _ us hl => match us, hl with | [_], _ => rfl
  exact ⟨fd, fun s v => b s [v] rfl, fun base _ _ => law_ok T c F⟩
end
end Snk
set_option maxHeartbeats 0
open PySem PySem.W PySem.Calls PyProof.Rows
theorem PySem.Challenge.cw_surenear_k37_whole_codes_stand_for_one_v_holds : PySem.Challenge.rw_surenear_k37_whole_codes_stand_for_one_v.Holds := by
  w_on; o_law
  refine HandSHeadRun.head_any (r := OpenLaw.row PySem.Challenge.rw_surenear_k37_whole_codes_stand_for_one_v) (q := view (OpenLaw.row PySem.Challenge.rw_surenear_k37_whole_codes_stand_for_one_v).prog [64]) (H := Snk.hk) (ob := Snk.ob) (M := 10000) (loose := Snk.na1 ++ (Snk.na2 ++ Snk.na3)) (d := HandSHeadRun.topDef (OpenLaw.row PySem.Challenge.rw_surenear_k37_whole_codes_stand_for_one_v).prog 64) (kwd := []) Snk.ob_eq
    (by kernel_rfl) (fun s => by kernel_rfl) Snk.run (by kernel_rfl) (by kernel_rfl) (by kernel_rfl) (by rfl) (by first | assumption | decide +kernel) (by decide +kernel) ⟨rfl, rfl, rfl, rfl, rfl, by decide +kernel⟩ ?hw ?hc
  case hw => w_witness2
  case hc =>
    refine L2.walk_ofE (l := PySem.Challenge.rw_surenear_k37_whole_codes_stand_for_one_v) (n := 63) (k := 14) (x := "_law_script") (CX := L2.CX0) rfl (by decide) (by kernel_rfl) ⟨rfl, by decide, by decide⟩ ?F (fun _ _ _ _ z => z)
    intro w mg fa h Y G hmg0
    obtain ⟨K, KX, c⟩ := Y
    have hmg : mg ("law" : PySem.Str) = some (.ref fa) := by
      have e : (HandSHeadRun.topDef (OpenLaw.row PySem.Challenge.rw_surenear_k37_whole_codes_stand_for_one_v).prog 64).name = ("law" : PySem.Str) := by kernel_rfl
      rw [← e]
      exact hmg0
    obtain ⟨fd, hb, hF⟩ := Snk.facts (P := (PySem.Challenge.rw_surenear_k37_whole_codes_stand_for_one_v).prog) (w := w) KX G hmg c
    exact ⟨K, fd, Snk.spLaw K, KX, hb, fun H a ns hl _ hS => ⟨a, ns, rfl, hS, hl, fun _ => rfl⟩, hF⟩
